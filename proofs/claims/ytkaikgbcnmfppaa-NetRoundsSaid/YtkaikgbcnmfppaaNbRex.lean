/- juntoref17.Exchange walked. Made by mk_rex.py. -/
import Derived.Test.YtkaikgbcnmfppaaNbRexA
import Derived.BigRegion
namespace Go.Proofs.Ytkaikgbcnmfppaa.Nb
open Go Go.RowKit Go.Proofs.YtkaikgbcnmfppaaW.PrintWords Go.Proofs.YtkaikgbcnmfppaaW.PrintLast Go.Proofs.YtkaikgbcnmfppaaW.PrintMore
attribute [local go_sem] max2_int min2_int max_two min_two max_three min_three max_four min_four
set_option linter.unusedVariables false
set_option linter.unusedSimpArgs false
noncomputable section
def rex.T2 : Bool × List (List Nat × List Nat) := (true, [([], []), ([0, 0], [0]), ([], []), ([2, 2], [2]), ([1, 0, 1], [1]), ([3, 4, 0, 1, 2, 3, 4], [3])])
def rex.B2 : List Nat := [0, 1, 0, 4, 3, 31]
theorem rex.tab2 : rtab .any (opsOf Try.f25 2) = rex.T2 := by kernel_rfl
theorem rex.bits2 : waitsOk rex.T2.2 rex.B2 = true := by kernel_rfl
def rex.T12 : Bool × List (List Nat × List Nat) := (true, [([], []), ([], []), ([1], [1]), ([], []), ([], []), ([], []), ([], []), ([6], [6]), ([5, 7], [5, 7]), ([8], [8]), ([3, 4, 9], [3, 4, 9]), ([0, 2, 0, 1, 2, 3, 4, 5, 6, 7, 8, 9, 10], [0, 2]), ([11, 10, 10, 0, 1, 2, 3, 4, 5, 6, 7, 8, 9, 10], [10, 11])])
def rex.B12 : List Nat := [0, 0, 2, 0, 0, 0, 0, 64, 224, 480, 1016, 2047, 4095]
theorem rex.tab12 : rtab .any (opsOf Try.f25 12) = rex.T12 := by kernel_rfl
theorem rex.bits12 : waitsOk rex.T12.2 rex.B12 = true := by kernel_rfl
def rex.T14 : Bool × List (List Nat × List Nat) := (true, [([], []), ([], []), ([1], [1]), ([2], [2]), ([], []), ([], []), ([], []), ([6], [6]), ([5, 7], [5, 7]), ([8], [8]), ([3, 4, 9], [3, 4, 9]), ([10], [10]), ([0, 11], [0, 11]), ([12, 12, 0, 1, 2, 3, 4, 5, 6, 7, 8, 9, 10, 11, 12], [0, 12])])
def rex.B14 : List Nat := [0, 0, 2, 6, 0, 0, 0, 64, 224, 480, 1022, 2046, 4095, 8191]
theorem rex.tab14 : rtab .any (opsOf Try.f25 14) = rex.T14 := by kernel_rfl
theorem rex.bits14 : waitsOk rex.T14.2 rex.B14 = true := by kernel_rfl
def rex.T19 : Bool × List (List Nat × List Nat) := (true, [([], []), ([], []), ([1], [1]), ([0, 2], [0, 2]), ([3], [3]), ([], []), ([5], [5]), ([], []), ([], []), ([8], [8]), ([7, 9], [7, 9]), ([10], [10]), ([], []), ([12], [12]), ([11, 13], [11, 13]), ([14], [14]), ([4, 6, 0, 1, 2, 3, 4, 5, 6, 7, 8, 9, 10, 11, 12, 13, 14, 15], [4, 6]), ([16, 15, 0, 1, 2, 3, 4, 5, 6, 7, 8, 9, 10, 11, 12, 13, 14, 15], [15, 16])])
def rex.B19 : List Nat := [0, 0, 2, 7, 15, 0, 32, 0, 0, 256, 896, 1920, 0, 4096, 16256, 32640, 65535, 131071]
theorem rex.tab19 : rtab .any (opsOf Try.f25 19) = rex.T19 := by kernel_rfl
theorem rex.bits19 : waitsOk rex.T19.2 rex.B19 = true := by kernel_rfl
def rex.T20 : Bool × List (List Nat × List Nat) := (true, [([], []), ([], []), ([1], [1]), ([0, 2], [0, 2]), ([3], [3]), ([], []), ([5], [5]), ([], []), ([], []), ([], []), ([], []), ([], []), ([11], [11]), ([10, 12], [10, 12]), ([13], [13]), ([], []), ([15], [15]), ([14, 16], [14, 16]), ([17], [17]), ([7, 8, 9, 18], [7, 8, 9, 18]), ([4, 6, 0, 1, 2, 3, 4, 5, 6, 7, 8, 9, 10, 11, 12, 13, 14, 15, 16, 17, 18, 19], [4, 6]), ([20, 19, 19, 0, 1, 2, 3, 4, 5, 6, 7, 8, 9, 10, 11, 12, 13, 14, 15, 16, 17, 18, 19], [19, 20])])
def rex.B20 : List Nat := [0, 0, 2, 7, 15, 0, 32, 0, 0, 0, 0, 0, 2048, 7168, 15360, 0, 32768, 130048, 261120, 524160, 1048575, 2097151]
theorem rex.tab20 : rtab .any (opsOf Try.f25 20) = rex.T20 := by kernel_rfl
theorem rex.bits20 : waitsOk rex.T20.2 rex.B20 = true := by kernel_rfl
def rex.T22 : Bool × List (List Nat × List Nat) := (true, [([], []), ([], []), ([1], [1]), ([2], [2]), ([], []), ([], []), ([], []), ([], []), ([7], [7]), ([6, 8], [6, 8]), ([9], [9]), ([], []), ([11], [11]), ([10, 12], [10, 12]), ([13], [13]), ([3, 4, 5, 14], [3, 4, 5, 14]), ([15], [15]), ([0, 16], [0, 16]), ([17, 17, 0, 1, 2, 3, 4, 5, 6, 7, 8, 9, 10, 11, 12, 13, 14, 15, 16, 17], [0, 17])])
def rex.B22 : List Nat := [0, 0, 2, 6, 0, 0, 0, 0, 128, 448, 960, 0, 2048, 8128, 16320, 32766, 65534, 131071, 262143]
theorem rex.tab22 : rtab .any (opsOf Try.f25 22) = rex.T22 := by kernel_rfl
theorem rex.bits22 : waitsOk rex.T22.2 rex.B22 = true := by kernel_rfl
def rex.T25 : Bool × List (List Nat × List Nat) := (true, [([], []), ([], []), ([], []), ([0, 0], [0]), ([1, 3, 0, 1, 3], [1]), ([2, 4, 0, 1, 2, 3, 4], [2])])
def rex.B25 : List Nat := [0, 0, 0, 1, 11, 31]
theorem rex.tab25 : rtab .any (opsOf Try.f25 25) = rex.T25 := by kernel_rfl
theorem rex.bits25 : waitsOk rex.T25.2 rex.B25 = true := by kernel_rfl
set_option maxHeartbeats 32000000 in
set_option maxRecDepth 100000 in
theorem rex_ok (n : Nat) (P T R : Int) (co : List Int) (ac : List S72) (ta : List (List Int)) (se : List S77) (A3 : Option Addr) (c3 : Nat) (A4 : Option Addr) (c4 : Nat) (A5 : Option Addr) (c5 : Nat) (A7 : Option Addr) (c7 : Nat) (A1 : Option Addr) (c1 : Nat) (l1 : List (List (List Int))) (A2 : Option Addr) (c2 : Nat) (l2 : List (List Int)) (w : World)
  (hx : k30.K w (⟨⟨P, (n : Int), T⟩, co, ac, ta, R, se⟩ : S30) (wv (⟨⟨P, (n : Int), T⟩, co, ac, ta, R, se⟩ : S30) A3 c3 A4 c4 A5 c5 A7 c7).toList) (h1 : (Kd.slice 51 kD).C w A1 l1.length l1) (h2 : kD.C w A2 l2.length l2) (hn1 : 1 ≤ n) (hn2 : n ≤ 1000) (hR : 0 ≤ R) (hR2 : R < 1048576) (hla : ac.length ≤ 65536) (hto : ∀ a ∈ ac, a.f2 ≠ a.f1) (hl1 : l1.length = n) (hl2 : l2.length = n) (hl3 : ∀ x ∈ l1, x.length = n) (hse : se.length * 48 ≤ 140737488351232) :
  Calls Try.prog 25 #[.agg (wv (⟨⟨P, (n : Int), T⟩, co, ac, ta, R, se⟩ : S30) A3 c3 A4 c4 A5 c5 A7 c7), .slice A1 l1.length c1, .slice A2 l2.length c2] w (RexPost w (iRun (now (R + 1) ac) (R + 1) n l1 l2 se n).1 (iRun (now (R + 1) ac) (R + 1) n l1 l2 se n).2.1 (⟨⟨P, (n : Int), T⟩, co, ac, ta, R + 1, (iRun (now (R + 1) ac) (R + 1) n l1 l2 se n).2.2⟩ : S30)) := by
 have hu30 := Try.underlying30
 have hu24 := Try.underlying24
 have HX := Qz.mk (XF.of hx)
 have HN1 := Qz.mk hn1
 have HN2 := Qz.mk hn2
 have HR0 := Qz.mk hR
 have HR2 := Qz.mk hR2
 have HLA := Qz.mk hla
 have HTO := Qz.mk hto
 have HL1 := Qz.mk hl1
 have HL2 := Qz.mk hl2
 have HL3 := Qz.mk hl3
 have HSE := Qz.mk hse
 have HP1 := Qz.mk (Kd.C_F (Kd.heap_slice 51 (Kd.heap_slice 22 (Kd.heap_int .u64))) h1)
 have HP2 := Qz.mk (Kd.C_F (Kd.heap_slice 22 (Kd.heap_int .u64)) h2)
 have b0 : decide ((0 : Int) ≤ (n : Int)) = true := decide_eq_true (by omega)
 have hwr : wrap64 (R + 1) = R + 1 := by unfold wrap64; omega
 clear hx h1 h2 hn1 hn2 hR hR2 hla hto hl1 hl2 hl3 hse
 go_enter Try.func25, Try.ntmps25
 go_upto_region 2 with (first
   | ((with_reducible refine gdt (N := 3) rfl ?_); refine bxe ?hg (N := 3) ?hd (cs := wv (⟨⟨P, (n : Int), T⟩, co, ac, ta, R, se⟩ : S30) A3 c3 A4 c4 A5 c5 A7 c7) (t := 30) ?hr ?_; (case hd => rfl); (case hg => rfl); (case hr => first | (go_simp; done) | (go_simp; rfl)); intro g3 hg3 w3 hbox hb3; have Q3 := Qz.mk (show w3.heap[g3]? = some (.cells #[.int .u64 P, .int .i64 (n : Int), .int .i64 T, .slice A3 co.length c3, .slice A4 ac.length c4, .slice A5 ta.length c5, .int .i64 R, .slice A7 se.length c7] 30 (0, 0)) from hbox); have HB := Qz.mk hb3; have GE3 := Qz.mk (show w.heap.size ≤ g3 from Nat.le_of_eq hg3.symm); clear hg3 hbox hb3)
   | ((with_reducible refine gdt (N := 8) rfl ?_); refine bxe ?hg (N := 8) ?hd (cs := #[.int .u64 0, .int .i64 0, .int .i64 0, .slice none 0 0, .slice none 0 0, .slice none 0 0, .int .i64 0, .slice none 0 0]) (t := 30) ?hr ?_; (case hd => rfl); (case hg => rfl); (case hr => first | (go_simp; done) | (go_simp; rfl)); intro g8 hg8 w8 hbox hb8; have Q8 := Qz.mk hbox; have GE8 := Qz.mk (show w.heap.size ≤ g8 from by rw [hg8]; exact HB.out.size); have N38 := Qz.mk (show g3 ≠ g8 from by rw [hg8]; exact Nat.ne_of_lt (blt Q3.out)); have Q3 := Qz.mk (bkb Q3.out hb8); have HB := Qz.mk (HB.out.trans (hb8.mono HB.out.size)); clear hg8 hbox hb8; have hx0 : w8.cell? ⟨g3, 0, none⟩ = some (.int .u64 P) := (bc_ Q3.out 0).trans rfl; have hx1 : w8.cell? ⟨g3, 1, none⟩ = some (.int .i64 (n : Int)) := (bc_ Q3.out 1).trans rfl; have hx2 : w8.cell? ⟨g3, 2, none⟩ = some (.int .i64 T) := (bc_ Q3.out 2).trans rfl; have hx3 : w8.cell? ⟨g3, 3, none⟩ = some (.slice A3 co.length c3) := (bc_ Q3.out 3).trans rfl; have hx4 : w8.cell? ⟨g3, 4, none⟩ = some (.slice A4 ac.length c4) := (bc_ Q3.out 4).trans rfl; have hx5 : w8.cell? ⟨g3, 5, none⟩ = some (.slice A5 ta.length c5) := (bc_ Q3.out 5).trans rfl; have hx6 : w8.cell? ⟨g3, 6, none⟩ = some (.int .i64 R) := (bc_ Q3.out 6).trans rfl; have hx7 : w8.cell? ⟨g3, 7, none⟩ = some (.slice A7 se.length c7) := (bc_ Q3.out 7).trans rfl))
 clear hx0 hx1 hx2 hx3 hx4 hx5 hx6 hx7
 have Q3 := Qz.mk (bkd Q3.out)
 have Q8 := Qz.mk (bkd Q8.out)
 have HB := Qz.mk (bd1 HB.out)
 refine start_ (n := 6) (S := fun w' => True) (ds := []) #[false, false, false, false, false, false] (by kernel_rfl) rfl rfl (trivial) (fun hHeld => ?_)
 generalize w8.drew = wa at Q3 Q8 HB ⊢
 clear hHeld
 refine with_tabW rex.tab2 rex.bits2 (fun HT_ HW_ => ?_)
 refine pure_ (i := 0) (N := some 19) (v := ?_) (a' := ?_) #[true, false, false, false, false, false] rfl rfl (any_of HT_.out (by kernel_rfl)) (fun _ _ _ h => h) (Or.inl ⟨by rfl, ?_⟩) ?_ ?_
 rotate_left
 ·intro w'
  go_simp
  with_reducible rfl
 rotate_left
 ·simp only [aw_]
  rfl
 refine pure_ (i := 2) (N := some 21) (v := ?_) (a' := ?_) #[true, false, true, false, false, false] rfl rfl (any_of HT_.out (by kernel_rfl)) (fun _ _ _ h => h) (Or.inl ⟨by rfl, ?_⟩) ?_ ?_
 rotate_left
 ·intro w'
  go_simp
  with_reducible rfl
 rotate_left
 ·simp only [aw_]
  rfl
 refine join_ (σ := (Nat × Nat) × (Nat × Nat)) 1 #[true, true, true, true, true, false] (fun s => [(20, .slice (some ⟨s.1.1, 0, none⟩) n s.1.2), (22, .slice (some ⟨s.2.1, 0, none⟩) n s.2.2), (10, .slice (some ⟨s.1.1, 0, none⟩) n s.1.2)]) (RexMid n w wa) ?_ ?_
 rotate_left
 ·intro hCont
  refine two_ (i := 1) (j := 3) (Ni := some 20) (Nj := some 22) #[true, true, true, false, false, false] #[true, false, true, true, false, false] rfl rfl rfl rfl (by kernel_rfl) (by decide) (by decide) (fun K hK => ?_) (fun K hK => ?_)
  ·skip
   refine Kd.R_make_step (kO n) wa.heap.size 27 (by rfl) (N := 20) rfl 40 _ _ rfl (n : Int) rfl rfl Try.underlying40 (.slice none 0 0) 24 info27o rfl Nat.one_pos (by omega) none (ok := fun k_ => k_ = wa.heap.size) (okp := fun _ => False) rfl (fun _ hk => hk.elim) rfl (by omega) (by have := HN2.out; omega) (Below.refl _ _) (Nat.le_refl _) ?_
   intro vo wo ho hbo hgo hato
   obtain ⟨g, c, rfl, hgg, _, _⟩ := Kd.N_form (Kd.R_N ho) (by have := HN1.out; simp; omega)
   simp only [List.length_replicate, Int.toNat_natCast] at ho ⊢
   have hq1 := ho.1 g rfl
   rw [← hq1] at ho
   clear hq1
   refine hK.out _ _ trivial (fun hHeld => ?_)
   clear hHeld hK K
   refine norm_ (a' := ?_) ?_ ?_
   rotate_left
   ·show Act.put _ (some 20) _ = _
    simp only [aw_]
    rfl
   refine pure_ (i := 4) (N := some 10) (v := ?_) (a' := ?_) #[true, true, true, false, true, false] rfl rfl (any_of HT_.out (by kernel_rfl)) (fun _ _ _ h => h) (Or.inl ⟨by rfl, ?_⟩) ?_ ?_
   rotate_left
   ·intro w'
    go_simp
    with_reducible rfl
   rotate_left
   ·simp only [aw_]
    rfl
   refine one_ (i := 3) (N := some 22) #[true, true, true, true, true, false] rfl rfl (one_of HT_.out (by kernel_rfl)) (by decide) (fun K hK => ?_)
   refine Kd.N_make_step kD wa.heap.size 51 (by rfl) (N' := 22) rfl 27 _ _ rfl (n : Int) rfl rfl Try.underlying27 (.slice none 0 0) 24 info51 rfl (by decide) (by omega) [] (ok := fun k_ => k_ = wo.heap.size) (okp := fun _ => False) (kD_nilF _ _) (fun _ hk => hk.elim) rfl (by omega) (by have := HN2.out; omega) hbo hbo.size ?_
   intro vh wh hh hbh hgh hath
   obtain ⟨h2, ch, rfl, hg2, _, _⟩ := Kd.N_form hh (by have := HN1.out; simp; omega)
   simp only [List.length_replicate, Int.toNat_natCast] at hh ⊢
   have hq2 := hh.1 h2 rfl
   rw [← hq2] at hh
   clear hq2
   refine hK.out _ _ trivial (fun hHeld => ?_)
   clear hHeld hK K
   refine norm_ (a' := ?_) ?_ ?_
   rotate_left
   ·show Act.put _ (some 22) _ = _
    simp only [aw_]
    rfl
   exact norm_ (by first | (simp only [putAll, Act.put, List.setIfInBounds_toArray, List.set_cons_zero, List.set_cons_succ]; done) | (simp only [putAll, Act.put, List.setIfInBounds_toArray, List.set_cons_zero, List.set_cons_succ]; rfl)) (hCont ((g, c), (h2, ch)) _ ⟨Kd.R_lower (Kd.R_step ho (fun k hk hlt => hgh.block k hlt (fun e => by cases e))) (Nat.le_trans HB.out.size hgg), Kd.N_lower hh HB.out.size, hbh, Nat.le_trans HB.out.size hgg, Nat.le_trans HB.out.size hg2⟩)
  ·skip
   refine Kd.N_make_step kD wa.heap.size 51 (by rfl) (N' := 22) rfl 27 _ _ rfl (n : Int) rfl rfl Try.underlying27 (.slice none 0 0) 24 info51 rfl (by decide) (by omega) [] (ok := fun k_ => k_ = wa.heap.size) (okp := fun _ => False) (kD_nilF _ _) (fun _ hk => hk.elim) rfl (by omega) (by have := HN2.out; omega) (Below.refl _ _) (Nat.le_refl _) ?_
   intro vh wh hh hbh hgh hath
   obtain ⟨h2, ch, rfl, hg2, _, _⟩ := Kd.N_form hh (by have := HN1.out; simp; omega)
   simp only [List.length_replicate, Int.toNat_natCast] at hh ⊢
   have hq2 := hh.1 h2 rfl
   rw [← hq2] at hh
   clear hq2
   refine hK.out _ _ trivial (fun hHeld => ?_)
   clear hHeld hK K
   refine norm_ (a' := ?_) ?_ ?_
   rotate_left
   ·show Act.put _ (some 22) _ = _
    simp only [aw_]
    rfl
   refine one_ (i := 1) (N := some 20) #[true, true, true, true, false, false] rfl rfl (one_of HT_.out (by kernel_rfl)) (by decide) (fun K hK => ?_)
   refine Kd.R_make_step (kO n) wa.heap.size 27 (by rfl) (N := 20) rfl 40 _ _ rfl (n : Int) rfl rfl Try.underlying40 (.slice none 0 0) 24 info27o rfl Nat.one_pos (by omega) none (ok := fun k_ => k_ = wh.heap.size) (okp := fun _ => False) rfl (fun _ hk => hk.elim) rfl (by omega) (by have := HN2.out; omega) hbh hbh.size ?_
   intro vo wo ho hbo hgo hato
   obtain ⟨g, c, rfl, hgg, _, _⟩ := Kd.N_form (Kd.R_N ho) (by have := HN1.out; simp; omega)
   simp only [List.length_replicate, Int.toNat_natCast] at ho ⊢
   have hq1 := ho.1 g rfl
   rw [← hq1] at ho
   clear hq1
   refine hK.out _ _ trivial (fun hHeld => ?_)
   clear hHeld hK K
   refine norm_ (a' := ?_) ?_ ?_
   rotate_left
   ·show Act.put _ (some 20) _ = _
    simp only [aw_]
    rfl
   refine pure_ (i := 4) (N := some 10) (v := ?_) (a' := ?_) #[true, true, true, true, true, false] rfl rfl (any_of HT_.out (by kernel_rfl)) (fun _ _ _ h => h) (Or.inl ⟨by rfl, ?_⟩) ?_ ?_
   rotate_left
   ·intro w'
    go_simp
    with_reducible rfl
   rotate_left
   ·simp only [aw_]
    rfl
   exact norm_ (by first | (simp only [putAll, Act.put, List.setIfInBounds_toArray, List.set_cons_zero, List.set_cons_succ]; done) | (simp only [putAll, Act.put, List.setIfInBounds_toArray, List.set_cons_zero, List.set_cons_succ]; rfl)) (hCont ((g, c), (h2, ch)) _ ⟨Kd.R_lower ho HB.out.size, Kd.N_lower (Kd.N_step hh (fun k hk hlt => hgo.block k hlt (fun e => by cases e))) (Nat.le_trans HB.out.size hg2), hbo, Nat.le_trans HB.out.size hgg, Nat.le_trans HB.out.size hg2⟩)
 intro s w6 hMid
 obtain ⟨⟨g, c⟩, ⟨h2, ch⟩⟩ := s
 have HO := Qz.mk (show (kO n).R 27 w6 w.heap.size (fun k => k = g) (.slice (some ⟨g, 0, none⟩) n c) (List.replicate n none) from hMid.ho)
 have HH := Qz.mk (show kD.N 51 w6 w.heap.size (fun k => k = h2) (.slice (some ⟨h2, 0, none⟩) n ch) (List.replicate n []) from hMid.hh)
 have Q3 := Qz.mk (bkb Q3.out hMid.hb)
 have Q8 := Qz.mk (bkb Q8.out hMid.hb)
 have QG := Qz.mk (show w.heap.size ≤ g from hMid.qg)
 have Q2 := Qz.mk (show w.heap.size ≤ h2 from hMid.q2)
 have HB := Qz.mk (HB.out.trans (hMid.hb.mono HB.out.size))
 clear hMid
 refine norm_ (a' := ?_) ?_ ?_
 rotate_left
 ·simp only [putAll, Act.put, List.setIfInBounds_toArray, List.set_cons_zero, List.set_cons_succ]
  rfl
 refine pure_ (i := 5) (N := some 11) (v := ?_) (a' := ?_) #[true, true, true, true, true, true] rfl rfl (any_of HT_.out (by kernel_rfl)) (fun _ _ _ h => h) (Or.inl ⟨by rfl, ?_⟩) ?_ ?_
 rotate_left
 ·intro w'
  go_simp
  with_reducible rfl
 rotate_left
 ·simp only [aw_]
  rfl
 refine done_ (done_of HT_.out (by kernel_rfl)) ?_
 go_wp2
 go_loopg [25] n (fun kq v25 w' => ∃ (rbs : List (Nat × Nat)), v25 = .int .i64 (rbs.length : Int) ∧ Qz (rbs.length + kq = n) ∧ Qz ((kO n).R 27 w' w.heap.size (fun k => k = g) (.slice (some ⟨g, 0, none⟩) n c) (rbs.map some ++ List.replicate kq none)) ∧ Qz (Rows w' w.heap.size n (fun k => k < w.heap.size) rbs (List.replicate rbs.length (List.replicate n []))) ∧ Qz (h2 ∉ rbs.map (·.1)) ∧ Qz (kD.N 51 w' w.heap.size (fun k => k = h2) (.slice (some ⟨h2, 0, none⟩) n ch) (List.replicate n [])) ∧ Qz (w'.heap[g3]? = some (.cells #[.int .u64 P, .int .i64 (n : Int), .int .i64 T, .slice A3 co.length c3, .slice A4 ac.length c4, .slice A5 ta.length c5, .int .i64 R, .slice A7 se.length c7] 30 (0, 0))) ∧ Qz (w'.heap[g8]? = some (.cells #[.int .u64 0, .int .i64 0, .int .i64 0, .slice none 0 0, .slice none 0 0, .slice none 0 0, .int .i64 0, .slice none 0 0] 30 (0, 0))) ∧ Qz (Below w.heap.size w w'))
 case atStart => exact ⟨[], rfl, ⟨by simp⟩, ⟨by simpa using HO.out⟩, ⟨Rows.nil _ _ _ _⟩, ⟨by simp⟩, HH, Q3, Q8, HB⟩
 case round =>
  clear HO HH Q3 Q8 HB
  obtain ⟨rbs, rfl, HK, HO, HR, HNR, HH, Q3, Q8, HB⟩ := hrel
  cases gk with
  | succ k1 =>
   have c1_ : decide ((rbs.length : Int) < (n : Int)) = true := decide_eq_true (by have := HK.out; omega)
   have c2_ : decide (rbs.length < n) = true := decide_eq_true (by have := HK.out; omega)
   have c3_ : decide ((0 : Int) ≤ (rbs.length : Int)) = true := decide_eq_true (by omega)
   have p1 : ((0 : Int) ≤ (rbs.length : Int)) = True := eq_true (by omega)
   have q1 : ((rbs.length : Int) < (n : Int)) = True := eq_true (by have := HK.out; omega)
   have q2 : (rbs.length < n) = True := eq_true (by have := HK.out; omega)
   have HXX := Qz.mk (show (rbs.map some ++ List.replicate (k1 + 1) (none : Option (Nat × Nat))).length = n from by have := HK.out; simp; omega)
   go_wp2_with ((with_reducible refine gdt (N := 31) rfl ?_); refine Kd.N_make kD w.heap.size 51 rfl (N' := 31) rfl 27 _ _ rfl (n : Int) rfl rfl Try.underlying27 (.slice none 0 0) 24 info51 rfl (by decide) (by omega) [] (ok := fun k_ => k_ = wr.heap.size) (okp := fun _ => False) (kD_nilF _ _) (fun _ hk => hk.elim) rfl (by omega) (by have := HN2.out; omega) HB.out HB.out.size ?_; intro v16 w16 ho hb hg hat; have HV := Qz.mk ho; have HB2 := Qz.mk hb; have HO2 := Qz.mk (Kd.R_grown HO.out hg (fun k _ h => by cases h)); have HR2_ := Qz.mk (HR.out.step (w1 := w16) (fun b _ hlt => hg.block b hlt (fun h => by cases h))); have HH2 := Qz.mk (Kd.N_step HH.out (fun k _ hlt => hg.block k hlt (fun h => by cases h))); have Q3b := Qz.mk (blk_grown Q3.out hg (fun h => by cases h)); have Q8b := Qz.mk (blk_grown Q8.out hg (fun h => by cases h)); have HNE := Qz.mk (show ∀ b ∈ rbs.map (·.1), b < wr.heap.size from fun b hm => HR.out.lt hm); have HN2h := Qz.mk (show h2 < wr.heap.size from Kd.N_lt HH.out h2 rfl); clear ho hb hg hat HB HO HR HH Q3 Q8; have hfm := Kd.N_form HV.out (by have := HN1.out; simp; omega); obtain ⟨gb, cb, rfl, hb16, _, _⟩ := hfm; simp only [List.length_replicate, Int.toNat_natCast] at HV ⊢; have HBB := Qz.mk hb16; clear hb16; have hcf := Kd.R_cell none (show (kO n).R 27 w16 w.heap.size (fun k => k = g) (.slice (some ⟨g, 0, none⟩) (rbs.map some ++ List.replicate (k1 + 1) (none : Option (Nat × Nat))).length c) (rbs.map some ++ List.replicate (k1 + 1) none) from by rw [HXX.out]; exact HO2.out) (rbs.length : Int) (by omega) (by rw [HXX.out]; have := HK.out; omega); simp only [Int.toNat_natCast] at hcf; obtain ⟨hcell, hfroz⟩ := hcf)
   go_roundg k1
   case measure => exact Nat.lt_succ_self _
   case rel =>
    have hq := HV.out.1 gb rfl
    have hp := Kd.R_putn HO2.out (rbs.length : Int) (some (gb, cb))
    simp only [Int.toNat_natCast] at hp
    rw [set_end] at hp
    obtain ⟨cs27, h27⟩ := Kd.R_typed HO2.out g rfl
    obtain ⟨cs51, h51⟩ := Kd.N_typed HH2.out h2 rfl
    have hng : h2 ≠ g := typed_ne h51 h27 (by decide)
    refine ⟨rbs ++ [(gb, cb)], by simp; unfold wrap64; have := HN2.out; have := HK.out; omega, ⟨by have := HK.out; simp; omega⟩, ⟨hp⟩, ⟨?_⟩, ⟨?_⟩, ⟨Kd.N_step HH2.out (fun k hk _ => Below.heap_setCell _ _ _ _ (fun e => hng (hk.symm.trans e)))⟩, ⟨bkf (p := ⟨g, rbs.length, none⟩) Q3b.out (typed_ne Q3b.out h27 (by decide)) _⟩, ⟨bkf (p := ⟨g, rbs.length, none⟩) Q8b.out (typed_ne Q8b.out h27 (by decide)) _⟩, ⟨HB2.out.setCell (p := ⟨g, rbs.length, none⟩) (Kd.R_base HO2.out g rfl) _⟩⟩
    ·have hR := Rows.add HR2_.out (b := gb) (c := cb) (L := List.replicate n []) HBB.out (by simp) (fun hm => by have := HNE.out gb hm; omega) (by have h := HV.out; rw [← hq] at h; exact Kd.N_mono (by simpa using h) (fun k hk => .inl hk))
     have hR2 := hR.step (w1 := w16.setCell ⟨g, rbs.length, none⟩ (encO n (some (gb, cb)))) (fun b hb _ => Below.heap_setCell _ _ _ _ (by
      intro e
      have e2 : b = g := e
      subst e2
      rcases hb with hb | hb
      ·exact hR.ne h27 (by decide) hb
      ·have h9 : b < w.heap.size := hb
       have := QG.out
       omega))
     simpa [List.replicate_succ', encO] using hR2
    ·rw [List.map_append, List.mem_append]
     intro hm
     rcases hm with hm | hm
     ·exact HNR.out hm
     ·simp only [List.map_cons, List.map_nil, List.mem_cons, List.not_mem_nil, or_false] at hm
      have := HN2h.out
      omega
  | zero =>
   have c1_ : decide ((rbs.length : Int) < (n : Int)) = false := decide_eq_false (by have := HK.out; omega)
   have c2_ : decide (rbs.length < n) = false := decide_eq_false (by have := HK.out; omega)
   have HLEN := Qz.mk (show rbs.length = n from by have := HK.out; omega)
   have HO := Qz.mk (show (kO n).R 27 wr w.heap.size (fun k => k = g) (.slice (some ⟨g, 0, none⟩) n c) (rbs.map some) from by simpa using HO.out)
   have HR := Qz.mk (show Rows wr w.heap.size n (fun k => k < w.heap.size) rbs (List.replicate n (List.replicate n [])) from by have h := HR.out; rw [HLEN.out] at h; exact h)
   have hx7 : wr.cell? ⟨g3, 7, none⟩ = some (.slice A7 se.length c7) := (bc_ Q3.out 7).trans rfl
   obtain ⟨nb, hnb⟩ : ∃ q, q = wr.heap.size := ⟨_, rfl⟩
   have HNB := Qz.mk hnb
   clear hnb
   go_upto_region 9 with (first
    | ((with_reducible refine gdt (N := 34) rfl ?_); refine Kd.R_lit (k77) wr.heap.size 77 ?hg (N := 34) ?hd (xs := ([] : List _)) (inner := []) (ok := (fun k => k < w.heap.size ∨ nb ≤ k)) (okp := fun _ => False) ?hr ?hp (fun _ hk => hk.elim) (.inr (by rw [HNB.out]; exact Nat.le_refl _)) (Below.refl _ _) (Nat.le_refl _) (by simp) ?_; (case hd => rfl); (case hg => rfl); (case hr => first | (go_simp; done) | (go_simp; rfl)); (case hp => exact (Reps.none _ _)); intro vl wl ho hb hg_ hnew_; have HS := Qz.mk (Kd.R_N ho); have HW := Qz.mk hb; clear ho hb hg_ hnew_ hx7; have hx7 : wl.cell? ⟨g3, 7, none⟩ = some (.slice A7 se.length c7) := (bc_ (bkb Q3.out HW.out) 7).trans rfl)
    | ((with_reducible refine gbi (b := .append) (xs := #[.tmp 34, .tmp 36]) rfl ?_); at_builtin; refine Kd.N_append_rows (k77) wr.heap.size rfl (.tmp 34) (.tmp 36) 28 77 (.agg #[(.int .i64 0), (.int .i64 0), (.int .i64 0), (.slice none 0 0)]) 48 rfl Try.underlying28 info77 rfl (by decide) (by omega) vl [] se _ _ _ (fun k => k < w.heap.size ∨ nb ≤ k) (fun k => k < w.heap.size) rfl rfl HS.out (Kd.F_below HX.out.r7 (HB.out.trans (HW.out.mono HB.out.size))) (fun k hk => ⟨.inl hk, fun e => by have := Kd.N_base HS.out k e.symm; have := HB.out.size; omega⟩) (fun k hk => .inr (by rw [HNB.out]; exact Nat.le_trans HW.out.size hk)) HW.out HW.out.size (by have := HSE.out; simp only [List.length_nil]; omega) ?_; intro v1 wm hn hb hg hat; rw [List.nil_append] at hn; have HS := Qz.mk (Kd.N_lower hn HB.out.size); have HW := Qz.mk hb; clear hn hb hg hat hx7))
   have SI := Qz.mk (show RInv w nb n g3 g8 g c h2 ch rbs #[.int .u64 P, .int .i64 (n : Int), .int .i64 T, .slice A3 co.length c3, .slice A4 ac.length c4, .slice A5 ta.length c5, .int .i64 R, .slice A7 se.length c7] #[.int .u64 0, .int .i64 0, .int .i64 0, .slice none 0 0, .slice none 0 0, .slice none 0 0, .int .i64 0, .slice none 0 0] wm v1 (iRun (now (R + 1) ac) (R + 1) n l1 l2 se 0).1 (iRun (now (R + 1) ac) (R + 1) n l1 l2 se 0).2.1 (iRun (now (R + 1) ac) (R + 1) n l1 l2 se 0).2.2 from ⟨bkb Q3.out HW.out, bkb Q8.out HW.out, Kd.R_step HO.out (fun k _ hlt => HW.out.block k hlt), HR.out.step (fun b _ hlt => HW.out.block b hlt), Kd.N_mono (Kd.N_step HH.out (fun k _ hlt => HW.out.block k hlt)) (fun k hk => .inl hk), HS.out, HB.out.trans (HW.out.mono HB.out.size), by rw [HNB.out]; exact HW.out.size, ⟨GE3.out, by rw [HNB.out]; exact blt Q3.out⟩, ⟨GE8.out, by rw [HNB.out]; exact blt Q8.out⟩, ⟨QG.out, by rw [HNB.out]; obtain ⟨cs, hc⟩ := Kd.R_typed HO.out g rfl; exact blt hc⟩, ⟨Q2.out, by rw [HNB.out]; exact Kd.N_lt HH.out h2 rfl⟩, HNR.out, fun b hb => ⟨(by obtain ⟨_, _, _, _, _, h3, _⟩ := HR.out.at_ hb; exact h3), by rw [HNB.out]; exact HR.out.lt hb⟩⟩)
   clear HS HW HO HR HH Q3 Q8 HB HNR HNB GE3 GE8 QG Q2 HK
   go_wp2
   go_loopg [13, 14] n (fun kq v13 v14 w' => ∃ (i : Nat), v14 = .int .i64 ((i : Int) + 1) ∧ Qz (i + kq = n) ∧ Qz (RInv w nb n g3 g8 g c h2 ch rbs #[.int .u64 P, .int .i64 (n : Int), .int .i64 T, .slice A3 co.length c3, .slice A4 ac.length c4, .slice A5 ta.length c5, .int .i64 R, .slice A7 se.length c7] #[.int .u64 0, .int .i64 0, .int .i64 0, .slice none 0 0, .slice none 0 0, .slice none 0 0, .int .i64 0, .slice none 0 0] w' v13 (iRun (now (R + 1) ac) (R + 1) n l1 l2 se i).1 (iRun (now (R + 1) ac) (R + 1) n l1 l2 se i).2.1 (iRun (now (R + 1) ac) (R + 1) n l1 l2 se i).2.2))
   case atStart => exact ⟨0, rfl, ⟨by simp⟩, SI⟩
   case round =>
    clear SI
    obtain ⟨i, rfl, HI, SI⟩ := hrel
    cases gk with
    | zero =>
     have d1 : decide ((i : Int) + 1 ≤ (n : Int)) = false := decide_eq_false (by have := HI.out; omega)
     have d2 : decide (i + 1 ≤ n) = false := decide_eq_false (by have := HI.out; omega)
     have d3 : decide (i < n) = false := decide_eq_false (by have := HI.out; omega)
     have hin : i = n := by have := HI.out; omega
     subst hin
     obtain ⟨B, b, rfl⟩ := Kd.N_slice SI.out.hs
     have hx0 : wr.cell? ⟨g3, 0, none⟩ = some (.int .u64 P) := (bc_ SI.out.bw 0).trans rfl
     have hx1 : wr.cell? ⟨g3, 1, none⟩ = some (.int .i64 (i : Int)) := (bc_ SI.out.bw 1).trans rfl
     have hx2 : wr.cell? ⟨g3, 2, none⟩ = some (.int .i64 T) := (bc_ SI.out.bw 2).trans rfl
     have hx3 : wr.cell? ⟨g3, 3, none⟩ = some (.slice A3 co.length c3) := (bc_ SI.out.bw 3).trans rfl
     have hx4 : wr.cell? ⟨g3, 4, none⟩ = some (.slice A4 ac.length c4) := (bc_ SI.out.bw 4).trans rfl
     have hx5 : wr.cell? ⟨g3, 5, none⟩ = some (.slice A5 ta.length c5) := (bc_ SI.out.bw 5).trans rfl
     have hx6 : wr.cell? ⟨g3, 6, none⟩ = some (.int .i64 R) := (bc_ SI.out.bw 6).trans rfl
     have hx7 : wr.cell? ⟨g3, 7, none⟩ = some (.slice A7 se.length c7) := (bc_ SI.out.bw 7).trans rfl
     have hf6 := bf_ SI.out.bw 6
     have hf7 := bf_ SI.out.bw 7
     go_upto_region 25 with fail
     clear hx0 hx1 hx2 hx3 hx4 hx5 hx6 hx7 hf6 hf7
     have HK := Qz.mk (show Kept wr ((wr.setCell ⟨g3, 6, none⟩ (.int .i64 (R + 1))).setCell ⟨g3, 7, none⟩ (.slice B (iRun (now (R + 1) ac) (R + 1) i l1 l2 se i).2.2.length b)) (fun k => k = g3) from Kept.setCell (S := fun k => k = g3) (p := ⟨g3, 7, none⟩) (Kept.setCell (S := fun k => k = g3) (p := ⟨g3, 6, none⟩) (Kept.refl _ _) (.inl rfl) _) (.inl rfl) _)
     have Q3 := Qz.mk (show ((wr.setCell ⟨g3, 6, none⟩ (.int .i64 (R + 1))).setCell ⟨g3, 7, none⟩ (.slice B (iRun (now (R + 1) ac) (R + 1) i l1 l2 se i).2.2.length b)).heap[g3]? = some (.cells #[.int .u64 P, .int .i64 (i : Int), .int .i64 T, .slice A3 co.length c3, .slice A4 ac.length c4, .slice A5 ta.length c5, .int .i64 (R + 1), .slice B (iRun (now (R + 1) ac) (R + 1) i l1 l2 se i).2.2.length b] 30 (0, 0)) from (bks (bks SI.out.bw 6 _) 7 _).trans rfl)
     have Q8 := Qz.mk (bkk SI.out.bz HK.out (Ne.symm N38.out))
     have HB := Qz.mk (show Below w.heap.size w ((wr.setCell ⟨g3, 6, none⟩ (.int .i64 (R + 1))).setCell ⟨g3, 7, none⟩ (.slice B (iRun (now (R + 1) ac) (R + 1) i l1 l2 se i).2.2.length b)) from bset (bset SI.out.hb SI.out.q3.1) SI.out.q3.1)
     obtain ⟨cs27, h27⟩ := Kd.R_typed SI.out.ho g rfl
     have HO := Qz.mk (Kd.R_kept SI.out.ho HK.out (fun k hk e => typed_ne h27 SI.out.bw (by decide) (hk.symm.trans e)))
     have HR := Qz.mk (SI.out.hr.step (fun b hb hlt => HK.out.2 b hlt (fun e => hb.elim (fun q => SI.out.hr.ne SI.out.bw (by decide) (by rw [← e]; exact q)) (fun q => by have h1 : b < w.heap.size := q; have h2 := SI.out.q3.1; omega))))
     obtain ⟨cs51, h51⟩ := Kd.N_typed SI.out.hh h2 rfl
     have HH := Qz.mk (Kd.N_kept SI.out.hh HK.out (fun k hk e => hk.elim (fun q => typed_ne h51 SI.out.bw (by decide) (q.symm.trans e)) (fun q => by have h2 := SI.out.q3.1; omega)))
     have HS := Qz.mk (Kd.N_mono (ok' := fun k => k ≠ g3 ∧ k ≠ g8) SI.out.hs (fun k hk => ⟨fun e => by have h2 := SI.out.q3; rcases hk with hk | hk <;> omega, fun e => by have h2 := SI.out.q8; rcases hk with hk | hk <;> omega⟩))
     have HS := Qz.mk (Kd.N_kept HS.out HK.out (fun k hk e => hk.1 e))
     have GE8 := Qz.mk SI.out.q8.1
     have QG8 := Qz.mk (show g ≠ g8 from typed_ne h27 SI.out.bz (by decide))
     have Q28 := Qz.mk (show h2 ≠ g8 from typed_ne h51 SI.out.bz (by decide))
     have QN8 := Qz.mk (show g8 ∉ rbs.map (·.1) from SI.out.hr.ne SI.out.bz (by decide))
     clear SI HK h27 h51
     generalize (wr.setCell ⟨g3, 6, none⟩ (.int .i64 (R + 1))).setCell ⟨g3, 7, none⟩ (.slice B (iRun (now (R + 1) ac) (R + 1) i l1 l2 se i).2.2.length b) = wn at Q3 Q8 HB HO HR HH HS ⊢
     have Q3 := Qz.mk (bkd Q3.out)
     have Q8 := Qz.mk (bkd Q8.out)
     have HB := Qz.mk (bd1 HB.out)
     have HO := Qz.mk (Kd.R_drew HO.out)
     have HR := Qz.mk (HR.out.step (w1 := wn.drew) (fun _ _ _ => rfl))
     have HH := Qz.mk (Kd.N_drew HH.out)
     have HS := Qz.mk (Kd.N_drew HS.out)
     refine start_ (n := 6) (S := fun w' => w'.cell? ⟨g3, 0, none⟩ = some (.int .u64 P) ∧ w'.cell? ⟨g3, 1, none⟩ = some (.int .i64 (i : Int)) ∧ w'.cell? ⟨g3, 2, none⟩ = some (.int .i64 T) ∧ w'.cell? ⟨g3, 3, none⟩ = some (.slice A3 co.length c3) ∧ w'.cell? ⟨g3, 4, none⟩ = some (.slice A4 ac.length c4) ∧ w'.cell? ⟨g3, 5, none⟩ = some (.slice A5 ta.length c5) ∧ w'.cell? ⟨g3, 6, none⟩ = some (.int .i64 (R + 1)) ∧ w'.cell? ⟨g3, 7, none⟩ = some (.slice B (iRun (now (R + 1) ac) (R + 1) i l1 l2 se i).2.2.length b)) (ds := [5]) #[false, false, false, false, false, false] (by kernel_rfl) rfl rfl ⟨(bc_ Q3.out 0).trans rfl, (bc_ Q3.out 1).trans rfl, (bc_ Q3.out 2).trans rfl, (bc_ Q3.out 3).trans rfl, (bc_ Q3.out 4).trans rfl, (bc_ Q3.out 5).trans rfl, (bc_ Q3.out 6).trans rfl, (bc_ Q3.out 7).trans rfl⟩ (fun hHeld => ?_)
     generalize wn.drew = wt at Q3 Q8 HB HO HR HH HS hHeld ⊢
     refine with_tabW rex.tab25 rex.bits25 (fun HT_ HW_ => ?_)
     refine pure_ (i := 0) (N := some 156) (v := ?_) (a' := ?_) #[true, false, false, false, false, false] rfl rfl (any_of HT_.out (by kernel_rfl)) (fun _ _ _ h => h) (Or.inl ⟨by rfl, ?_⟩) ?_ ?_
     rotate_left
     ·intro w'
      go_simp
      with_reducible rfl
     rotate_left
     ·simp only [aw_]
      rfl
     refine pure_ (i := 1) (N := some 157) (v := ?_) (a' := ?_) #[true, true, false, false, false, false] rfl rfl (any_of HT_.out (by kernel_rfl)) (fun _ _ _ h => h) (Or.inl ⟨by rfl, ?_⟩) ?_ ?_
     rotate_left
     ·intro w'
      go_simp
      with_reducible rfl
     rotate_left
     ·simp only [aw_]
      rfl
     refine take_ (i := 2) (N := some 158) (v := ?_) (a' := ?_) #[true, true, true, false, false, false] rfl rfl (take_ofW HT_.out HW_.out (by kernel_rfl)) (fun _ _ _ h => h) (Or.inl ⟨by rfl, ?_⟩) hHeld ?_ ?_
     rotate_left
     ·rintro w' ⟨s0, s1, s2, s3, s4, s5, s6, s7⟩
      go_simp
      with_reducible rfl
     rotate_left
     ·simp only [aw_]
      rfl
     refine pure_ (i := 3) (N := some 6) (v := ?_) (a' := ?_) #[true, true, true, true, false, false] rfl rfl (any_of HT_.out (by kernel_rfl)) (fun _ _ _ h => h) (Or.inl ⟨by rfl, ?_⟩) ?_ ?_
     rotate_left
     ·intro w'
      go_simp
      with_reducible rfl
     rotate_left
     ·simp only [aw_]
      rfl
     refine pure_ (i := 4) (N := some 7) (v := ?_) (a' := ?_) #[true, true, true, true, true, false] rfl rfl (any_of HT_.out (by kernel_rfl)) (fun _ _ _ h => h) (Or.inl ⟨by rfl, ?_⟩) ?_ ?_
     rotate_left
     ·intro w'
      go_simp
      with_reducible rfl
     rotate_left
     ·simp only [aw_]
      rfl
     refine last_ (i := 5) (N := none) #[true, true, true, true, true, true] rfl rfl (one_of HT_.out (by kernel_rfl)) (by decide) (fun K hK => ?_)
     have hv0 : wt.cell? ⟨g8, 0, none⟩ = some (.int .u64 0) := (bc_ Q8.out 0).trans rfl
     have hw0 := bf_ Q8.out 0
     have hv1 : wt.cell? ⟨g8, 1, none⟩ = some (.int .i64 0) := (bc_ Q8.out 1).trans rfl
     have hw1 := bf_ Q8.out 1
     have hv2 : wt.cell? ⟨g8, 2, none⟩ = some (.int .i64 0) := (bc_ Q8.out 2).trans rfl
     have hw2 := bf_ Q8.out 2
     have hv3 : wt.cell? ⟨g8, 3, none⟩ = some (.slice none 0 0) := (bc_ Q8.out 3).trans rfl
     have hw3 := bf_ Q8.out 3
     have hv4 : wt.cell? ⟨g8, 4, none⟩ = some (.slice none 0 0) := (bc_ Q8.out 4).trans rfl
     have hw4 := bf_ Q8.out 4
     have hv5 : wt.cell? ⟨g8, 5, none⟩ = some (.slice none 0 0) := (bc_ Q8.out 5).trans rfl
     have hw5 := bf_ Q8.out 5
     have hv6 : wt.cell? ⟨g8, 6, none⟩ = some (.int .i64 0) := (bc_ Q8.out 6).trans rfl
     have hw6 := bf_ Q8.out 6
     have hv7 : wt.cell? ⟨g8, 7, none⟩ = some (.slice none 0 0) := (bc_ Q8.out 7).trans rfl
     have hw7 := bf_ Q8.out 7
     refine skip_ (w1 := ?_) (by rfl) rfl ?_ ?_
     rotate_left
     ·go_simp
      rfl
     refine hK.out _ _ ?_
     clear hK K
     refine done_ (done_of HT_.out (by kernel_rfl)) ?_
     rw [show ((((((((wt.setCell ⟨g8, 0, none⟩ (.int .u64 P)).setCell ⟨g8, 1, none⟩ (.int .i64 (i : Int))).setCell ⟨g8, 2, none⟩ (.int .i64 T)).setCell ⟨g8, 3, none⟩ (.slice A3 co.length c3)).setCell ⟨g8, 4, none⟩ (.slice A4 ac.length c4)).setCell ⟨g8, 5, none⟩ (.slice A5 ta.length c5)).setCell ⟨g8, 6, none⟩ (.int .i64 (R + 1))).setCell ⟨g8, 7, none⟩ (.slice B (iRun (now (R + 1) ac) (R + 1) i l1 l2 se i).2.2.length b)) = put8 wt g8 (.int .u64 P) (.int .i64 (i : Int)) (.int .i64 T) (.slice A3 co.length c3) (.slice A4 ac.length c4) (.slice A5 ta.length c5) (.int .i64 (R + 1)) (.slice B (iRun (now (R + 1) ac) (R + 1) i l1 l2 se i).2.2.length b) from rfl]
     have hK8 := kept8 wt g8 (.int .u64 P) (.int .i64 (i : Int)) (.int .i64 T) (.slice A3 co.length c3) (.slice A4 ac.length c4) (.slice A5 ta.length c5) (.int .i64 (R + 1)) (.slice B (iRun (now (R + 1) ac) (R + 1) i l1 l2 se i).2.2.length b)
     have hB8 := below8 HB.out GE8.out (.int .u64 P) (.int .i64 (i : Int)) (.int .i64 T) (.slice A3 co.length c3) (.slice A4 ac.length c4) (.slice A5 ta.length c5) (.int .i64 (R + 1)) (.slice B (iRun (now (R + 1) ac) (R + 1) i l1 l2 se i).2.2.length b)
     have hb8 := blk8 Q8.out (.int .u64 P) (.int .i64 (i : Int)) (.int .i64 T) (.slice A3 co.length c3) (.slice A4 ac.length c4) (.slice A5 ta.length c5) (.int .i64 (R + 1)) (.slice B (iRun (now (R + 1) ac) (R + 1) i l1 l2 se i).2.2.length b)
     have hO8 := Kd.R_kept HO.out hK8 (fun k hk e => QG8.out (hk.symm.trans e))
     have hR8 := HR.out.step (fun b hb hlt => hK8.2 b hlt (fun e => hb.elim (fun q => QN8.out (by rw [← e]; exact q)) (fun q => by have h1 : b < w.heap.size := q; have h2 := GE8.out; omega)))
     have hH8 := Kd.N_reads' (Kd.N_kept HH.out hK8 (fun k hk e => hk.elim (fun q => Q28.out (q.symm.trans e)) (fun q => by have h2 := GE8.out; omega)))
     have hS8 := Kd.N_reads' (Kd.N_kept HS.out hK8 (fun k hk e => hk.2 e))
     generalize put8 wt g8 (.int .u64 P) (.int .i64 (i : Int)) (.int .i64 T) (.slice A3 co.length c3) (.slice A4 ac.length c4) (.slice A5 ta.length c5) (.int .i64 (R + 1)) (.slice B (iRun (now (R + 1) ac) (R + 1) i l1 l2 se i).2.2.length b) = wz at hB8 hb8 hO8 hR8 hH8 hS8 ⊢
     clear hHeld hK8 hv0 hw0 hv1 hw1 hv2 hw2 hv3 hw3 hv4 hw4 hv5 hw5 hv6 hw6 hv7 hw7
     have HO8 := Qz.mk hO8
     have HR8 := Qz.mk hR8
     have HH8 := Qz.mk hH8
     have HS8 := Qz.mk hS8
     clear hO8 hR8 hH8 hS8
     try go_wp2
     refine bodyPost_ret (results_list (rs := [.tmp 6, .tmp 7, .cell 8 30]) rfl (by simp) (.tmp (.tmp (.cell g8 30 #[.int .u64 P, .int .i64 (i : Int), .int .i64 T, .slice A3 co.length c3, .slice A4 ac.length c4, .slice A5 ta.length c5, .int .i64 (R + 1), .slice B (iRun (now (R + 1) ac) (R + 1) i l1 l2 se i).2.2.length b] (0, 0) _ rfl hb8 Try.underlying30 rfl (by kernel_rfl) .nil)))) (by rfl) ?_
     have hX := HX.out.below hB8
     have hl := iRun_le (now (R + 1) ac) (R + 1) i l1 l2 se i
     have hC := rows_C HR8.out (Kd.R_mono HO8.out (fun _ _ => trivial))
     have hH8 := HH8.out
     have hS8 := HS8.out
     refine ⟨some ⟨g, 0, none⟩, c, some ⟨h2, 0, none⟩, ch, A3, c3, A4, c4, A5, c5, B, b, ?_, hC.1, ?_, ?_, ?_, k30_mk wz (⟨⟨P, (i : Int), T⟩, co, ac, ta, R + 1, (iRun (now (R + 1) ac) (R + 1) i l1 l2 se i).2.2⟩ : S30) hX.l3 (Kd.F_now hX.r3) hX.l4 (Kd.F_now hX.r4) hX.l5 (Kd.F_now hX.r5) hS8.2.1 hS8.2.2, hB8⟩
     ·rw [hl.2.1, hl.2.2]
      rfl
     ·rw [hl.2.1]
      exact hC.2.2
     ·rw [hl.2.2]
      have h := hH8.2.2
      rw [hl.2.2] at h
      exact h
     ·rw [hl.2.2]
      exact hH8.2.1
     | succ k1 =>
      have hin : i < n := by have := HI.out; omega
      have HIN := Qz.mk hin
      have d1 : decide ((i : Int) + 1 ≤ (n : Int)) = true := decide_eq_true (by omega)
      have d2 : decide (i + 1 ≤ n) = true := decide_eq_true (by omega)
      have d3 : decide (i < n) = true := decide_eq_true hin
      have hw1 : wrap64 ((i : Int) + 1 - 1) = (i : Int) := by unfold wrap64; have := HN2.out; omega
      have hw2 : wrap64 (i : Int) = (i : Int) := by unfold wrap64; have := HN2.out; omega
      have p1 : ((0 : Int) ≤ (i : Int)) = True := eq_true (by omega)
      have q1 : ((i : Int) < (n : Int)) = True := eq_true (by omega)
      have q2 : ((i : Int) < (l2.length : Int)) = True := eq_true (by rw [HL2.out]; omega)
      have q3 : (i < n) = True := eq_true hin
      have q4 : (i < l2.length) = True := eq_true (by rw [HL2.out]; exact hin)
      have hsl : (iRun (now (R + 1) ac) (R + 1) n l1 l2 se i).2.2.length < 3000000000000 := by
       have h1 := (iRun_le (now (R + 1) ac) (R + 1) n l1 l2 se i).1
       have h2 := HSE.out
       have h3 : i * (n + 1) ≤ 1000 * 1001 := Nat.mul_le_mul (by have := HN2.out; omega) (by have := HN2.out; omega)
       omega
      have HSL := Qz.mk hsl
      obtain ⟨ad2, Ad, cd, e2, hx2, hdl, hF⟩ := F_row_at (Kd.F_below HP2.out SI.out.hb) (i := i) (by rw [HL2.out]; exact hin)
      subst e2
      obtain ⟨dd, hdd⟩ : ∃ d, d = l2.getD i [] := ⟨_, rfl⟩
      rw [← hdd] at hx2 hdl hF
      have HDD := Qz.mk hdd
      have HDL := Qz.mk hdl
      have HDF := Qz.mk hF
      clear hin hsl hdd hdl hF
      go_wp2
      have SI := Qz.mk SI.out.drew
      have HDF := Qz.mk (Kd.F_drew HDF.out)
      have T2 := Qz.mk (show wr.drew.cell? (ad2.add i) = some (.slice Ad dd.length cd) from hx2)
      clear hx2
      have HW := Qz.mk (Below.refl wr.drew.heap.size wr.drew)
      refine start_ (n := 13) (S := fun w' => w'.cell? ⟨g3, 0, none⟩ = some (.int .u64 P) ∧ w'.cell? ⟨g3, 1, none⟩ = some (.int .i64 (n : Int)) ∧ w'.cell? ⟨g3, 2, none⟩ = some (.int .i64 T) ∧ w'.cell? ⟨g3, 3, none⟩ = some (.slice A3 co.length c3) ∧ w'.cell? ⟨g3, 4, none⟩ = some (.slice A4 ac.length c4) ∧ w'.cell? ⟨g3, 5, none⟩ = some (.slice A5 ta.length c5) ∧ w'.cell? ⟨g3, 6, none⟩ = some (.int .i64 R) ∧ w'.cell? ⟨g3, 7, none⟩ = some (.slice A7 se.length c7) ∧ w'.cell? (ad2.add i) = some (.slice Ad dd.length cd)) (ds := [12]) (ba_ 13 0) (by kernel_rfl) rfl rfl ⟨bcel HW.out ((bc_ SI.out.bw 0).trans rfl), bcel HW.out ((bc_ SI.out.bw 1).trans rfl), bcel HW.out ((bc_ SI.out.bw 2).trans rfl), bcel HW.out ((bc_ SI.out.bw 3).trans rfl), bcel HW.out ((bc_ SI.out.bw 4).trans rfl), bcel HW.out ((bc_ SI.out.bw 5).trans rfl), bcel HW.out ((bc_ SI.out.bw 6).trans rfl), bcel HW.out ((bc_ SI.out.bw 7).trans rfl), bcel HW.out T2.out⟩ (fun hHeld => ?_)
      generalize wr.drew = wa at SI HDF T2 HW hHeld ⊢
      refine with_tabW rex.tab12 rex.bits12 (fun HT_ HW_ => ?_)
      refine pure_ (i := 0) (N := some 43) (v := ?_) (a' := ?_) (ba_ 13 1) rfl rfl (any_of HT_.out (by kernel_rfl)) (fun _ _ _ h => h) (Or.inl ⟨by rfl, ?_⟩) ?_ ?_
      rotate_left
      ·intro w'
       go_simp
       with_reducible rfl
      rotate_left
      ·simp only [aw_]
       rfl
      refine pure_ (i := 1) (N := some 44) (v := ?_) (a' := ?_) (ba_ 13 3) rfl rfl (any_of HT_.out (by kernel_rfl)) (fun _ _ _ h => h) (Or.inl ⟨by rfl, ?_⟩) ?_ ?_
      rotate_left
      ·intro w'
       go_simp
       with_reducible rfl
      rotate_left
      ·simp only [aw_]
       rfl
      refine pure_ (i := 4) (N := some 47) (v := ?_) (a' := ?_) (ba_ 13 19) rfl rfl (any_of HT_.out (by kernel_rfl)) (fun _ _ _ h => h) (Or.inl ⟨by rfl, ?_⟩) ?_ ?_
      rotate_left
      ·intro w'
       go_simp
       with_reducible rfl
      rotate_left
      ·simp only [aw_]
       rfl
      refine pure_ (i := 5) (N := some 48) (v := ?_) (a' := ?_) (ba_ 13 51) rfl rfl (any_of HT_.out (by kernel_rfl)) (fun _ _ _ h => h) (Or.inl ⟨by rfl, ?_⟩) ?_ ?_
      rotate_left
      ·intro w'
       go_simp
       with_reducible rfl
      rotate_left
      ·simp only [aw_]
       rfl
      refine pure_ (i := 6) (N := some 49) (v := ?_) (a' := ?_) (ba_ 13 115) rfl rfl (any_of HT_.out (by kernel_rfl)) (fun _ _ _ h => h) (Or.inl ⟨by rfl, ?_⟩) ?_ ?_
      rotate_left
      ·intro w'
       go_simp
       with_reducible rfl
      rotate_left
      ·simp only [aw_]
       rfl
      refine pure_ (i := 2) (N := some 45) (v := ?_) (a' := ?_) (ba_ 13 119) rfl rfl (any_of HT_.out (by kernel_rfl)) (fun _ _ _ h => h) (Or.inl ⟨by rfl, ?_⟩) ?_ ?_
      rotate_left
      ·intro w'
       go_simp
       with_reducible rfl
      rotate_left
      ·simp only [aw_]
       rfl
      refine pure_ (i := 7) (N := some 50) (v := ?_) (a' := ?_) (ba_ 13 247) rfl rfl (any_of HT_.out (by kernel_rfl)) (fun _ _ _ h => h) (Or.inl ⟨by rfl, ?_⟩) ?_ ?_
      rotate_left
      ·intro w'
       go_simp
       with_reducible rfl
      rotate_left
      ·simp only [aw_]
       rfl
      refine take_ (i := 3) (N := some 46) (v := ?_) (a' := ?_) (ba_ 13 255) rfl rfl (take_ofW HT_.out HW_.out (by kernel_rfl)) (fun _ _ _ h => h) (Or.inl ⟨by rfl, ?_⟩) hHeld ?_ ?_
      rotate_left
      ·rintro w' ⟨s0, s1, s2, s3, s4, s5, s6, s7, s8⟩
       go_simp
       with_reducible rfl
      rotate_left
      ·simp only [aw_]
       rfl
      refine pure_ (i := 8) (N := some 51) (v := ?_) (a' := ?_) (ba_ 13 511) rfl rfl (any_of HT_.out (by kernel_rfl)) (fun _ _ _ h => h) (Or.inl ⟨by rfl, ?_⟩) ?_ ?_
      rotate_left
      ·intro w'
       go_simp
       with_reducible rfl
      rotate_left
      ·simp only [aw_]
       rfl
      refine take_ (i := 9) (N := some 52) (v := ?_) (a' := ?_) (ba_ 13 1023) rfl rfl (take_ofW HT_.out HW_.out (by kernel_rfl)) (fun _ _ _ h => h) (Or.inl ⟨by rfl, ?_⟩) hHeld ?_ ?_
      rotate_left
      ·rintro w' ⟨s0, s1, s2, s3, s4, s5, s6, s7, s8⟩
       go_simp
       with_reducible rfl
      rotate_left
      ·simp only [aw_]
       rfl
      refine one_ (i := 10) (N := some 53) (ba_ 13 2047) rfl rfl (one_of HT_.out (by kernel_rfl)) (by decide) (fun K hK => ?_)
      refine goes_ Try.func30 (by kernel_rfl) rfl #[.agg #[.int .u64 P, .int .i64 (n : Int), .int .i64 T, .slice A3 co.length c3, .slice A4 ac.length c4, .slice A5 ta.length c5, .int .i64 R, .slice A7 se.length c7], .int .i64 ((i : Int) + 1), .int .i64 0, .slice Ad dd.length cd] (by rfl) rfl rfl (by (try simp only [List.map_toArray, List.map_cons, List.map_nil]); first | done | rfl | (simp only [List.length_drop, List.length_take]; rfl)) ?_
      refine (refAct.callsF (fun k => k < w.heap.size) P (n : Int) T R ((i : Int) + 1) 0 _ _ _ A4 c4 ac Ad cd dd wa HR0.out HR2.out HLA.out (Kd.F_below HX.out.r4 SI.out.hb) HDF.out HDL.out).mono ?_
      rintro e wd ⟨Av, cv, rfl, hFv, hlv, hbd⟩
      refine ⟨_, rfl, ?_⟩
      rw [eff_sent] at hFv hlv ⊢
      obtain ⟨ev, hev⟩ : ∃ d, d = eff (now (R + 1) ac) ((i : Int) + 1) 0 dd := ⟨_, rfl⟩
      rw [← hev] at hFv hlv ⊢
      have HEV := Qz.mk hev
      have HFV := Qz.mk (Kd.F_mono hFv (fun k hk => hk.1))
      have HLV := Qz.mk hlv
      have HW := Qz.mk hbd
      clear hev hFv hlv hbd
      refine hK.out _ _ ⟨bcel HW.out ((bc_ SI.out.bw 0).trans rfl), bcel HW.out ((bc_ SI.out.bw 1).trans rfl), bcel HW.out ((bc_ SI.out.bw 2).trans rfl), bcel HW.out ((bc_ SI.out.bw 3).trans rfl), bcel HW.out ((bc_ SI.out.bw 4).trans rfl), bcel HW.out ((bc_ SI.out.bw 5).trans rfl), bcel HW.out ((bc_ SI.out.bw 6).trans rfl), bcel HW.out ((bc_ SI.out.bw 7).trans rfl), bcel HW.out T2.out⟩ (fun hHeld => ?_)
      clear hK K
      refine norm_ (a' := ?_) ?_ ?_
      rotate_left
      ·show Act.put _ (some 53) _ = _
       simp only [aw_]
       rfl
      refine pure_ (i := 11) (N := some 54) (v := ?_) (a' := ?_) (ba_ 13 4095) rfl rfl (any_of HT_.out (by kernel_rfl)) (fun _ _ _ h => h) (Or.inl ⟨by rfl, ?_⟩) ?_ ?_
      rotate_left
      ·intro w'
       go_simp
       with_reducible rfl
      rotate_left
      ·simp only [aw_]
       rfl
      refine last_ (i := 12) (N := none) (ba_ 13 8191) rfl rfl (one_of HT_.out (by kernel_rfl)) (by decide) (fun K hK => ?_)
      have SI := Qz.mk (SI.out.below HW.out)
      have hrc := row_cell SI.out.hh (i := i) HIN.out
      obtain ⟨⟨u5, hu5⟩, hz5⟩ := hrc
      refine skip_ (w1 := ?_) (by rfl) rfl ?_ ?_
      rotate_left
      ·go_simp
       rfl
      refine hK.out _ _ ?_
      clear hK K
      refine done_ (done_of HT_.out (by kernel_rfl)) ?_
      clear hHeld hu5 hz5 HW T2 HDF HDL
      have SI := Qz.mk (SI.out.heard HIN.out HLV.out HFV.out)
      clear HFV HLV
      generalize wd.setCell ⟨h2, i, none⟩ (.slice Av ev.length cv) = w21 at SI ⊢
      obtain ⟨Ax, cx, hxc, hxl, hxF⟩ := row_at SI.out.hh HIN.out
      have hse2 : ((iRun (now (R + 1) ac) (R + 1) n l1 l2 se i).2.1.set i ev).getD i [] = ev := by
       rw [List.getD_eq_getElem?_getD, List.getElem?_set_self (by rw [(iRun_le (now (R + 1) ac) (R + 1) n l1 l2 se i).2.2]; exact HIN.out)]
       rfl
      rw [hse2] at hxc hxl hxF
      have HXC := Qz.mk hxc
      have HXL := Qz.mk hxl
      have HXF := Qz.mk (Kd.F_mono hxF (fun k hk => hk.1.elim (fun q => absurd q hk.2) id))
      clear hse2 hxl hxF
      obtain ⟨s1, hs1⟩ : ∃ s, s = stowed (R + 1) ((i : Int) + 1) 0 ev (iRun (now (R + 1) ac) (R + 1) n l1 l2 se i).2.2 := ⟨_, rfl⟩
      have HS1 := Qz.mk hs1
      clear hs1
      obtain ⟨G0, hG0⟩ : ∃ q, q = (iRun (now (R + 1) ac) (R + 1) n l1 l2 se i).1 := ⟨_, rfl⟩
      obtain ⟨H1, hH1⟩ : ∃ q, q = (iRun (now (R + 1) ac) (R + 1) n l1 l2 se i).2.1.set i ev := ⟨_, rfl⟩
      rw [← hG0, ← hH1] at SI
      have HG0 := Qz.mk hG0
      have HH1 := Qz.mk hH1
      clear hG0 hH1
      have hnx : ∀ (v13' : Value) (w9 : World), Qz (RInv w nb n g3 g8 g c h2 ch rbs #[.int .u64 P, .int .i64 (n : Int), .int .i64 T, .slice A3 co.length c3, .slice A4 ac.length c4, .slice A5 ta.length c5, .int .i64 R, .slice A7 se.length c7] #[.int .u64 0, .int .i64 0, .int .i64 0, .slice none 0 0, .slice none 0 0, .slice none 0 0, .int .i64 0, .slice none 0 0] w9 v13' (kRun (now (R + 1) ac) (R + 1) i (l1.getD i []) (G0, s1) n).1 H1 (kRun (now (R + 1) ac) (R + 1) i (l1.getD i []) (G0, s1) n).2) → Qz (RInv w nb n g3 g8 g c h2 ch rbs #[.int .u64 P, .int .i64 (n : Int), .int .i64 T, .slice A3 co.length c3, .slice A4 ac.length c4, .slice A5 ta.length c5, .int .i64 R, .slice A7 se.length c7] #[.int .u64 0, .int .i64 0, .int .i64 0, .slice none 0 0, .slice none 0 0, .slice none 0 0, .int .i64 0, .slice none 0 0] w9 v13' (iRun (now (R + 1) ac) (R + 1) n l1 l2 se (i + 1)).1 (iRun (now (R + 1) ac) (R + 1) n l1 l2 se (i + 1)).2.1 (iRun (now (R + 1) ac) (R + 1) n l1 l2 se (i + 1)).2.2) := fun v9 w9 h => by
       have e1 := HG0.out
       have e2 := HH1.out
       have e3 := HS1.out
       have e4 := HEV.out
       have e5 := HDD.out
       subst e5
       subst e4
       subst e3
       subst e1
       subst e2
       exact h
      have HNX := Qz.mk hnx
      clear hnx
      have HSS := Qz.mk (show s1.length < 3000000002000 from by rw [HS1.out]; have := stowed_le (R + 1) ((i : Int) + 1) 0 ev (iRun (now (R + 1) ac) (R + 1) n l1 l2 se i).2.2; have := HSL.out; omega)
      go_upto_if 61 with fail
      go_cut [13] (fun v13 wc => Qz (RInv w nb n g3 g8 g c h2 ch rbs #[.int .u64 P, .int .i64 (n : Int), .int .i64 T, .slice A3 co.length c3, .slice A4 ac.length c4, .slice A5 ta.length c5, .int .i64 R, .slice A7 se.length c7] #[.int .u64 0, .int .i64 0, .int .i64 0, .slice none 0 0, .slice none 0 0, .slice none 0 0, .int .i64 0, .slice none 0 0] wc v13 G0 H1 s1))
      case first =>
       by_cases hz : 0 < ev.length
       ·have b3 : decide (0 < (ev.length : Int)) = true := decide_eq_true (by omega)
        have b4 : decide (0 < ev.length) = true := decide_eq_true hz
        have HST := Qz.mk (show (iRun (now (R + 1) ac) (R + 1) n l1 l2 se i).2.2 ++ [(⟨R + 1, (i : Int) + 1, 0, ev⟩ : S77)] = s1 from by rw [HS1.out]; unfold stowed; rw [if_pos ⟨by omega, List.length_pos_iff.1 hz⟩])
        clear hxc
        go_wp2
        have SI := Qz.mk SI.out.drew
        have HXC := Qz.mk (show w21.drew.cell? ⟨h2, i, none⟩ = some (.slice Ax ev.length cx) from HXC.out)
        have HXF := Qz.mk (Kd.F_drew HXF.out)
        refine start_ (n := 14) (S := fun w' => w'.cell? ⟨g3, 6, none⟩ = some (.int .i64 R) ∧ w'.cell? ⟨h2, i, none⟩ = some (.slice Ax ev.length cx)) (ds := []) (ba_ 14 0) (by kernel_rfl) rfl rfl ⟨(bc_ SI.out.bw 6).trans rfl, HXC.out⟩ (fun hHeld => ?_)
        generalize w21.drew = wb at SI HXC HXF hHeld ⊢
        refine with_tabW rex.tab14 rex.bits14 (fun HT_ HW_ => ?_)
        refine pure_ (i := 0) (N := some 62) (v := ?_) (a' := ?_) (ba_ 14 1) rfl rfl (any_of HT_.out (by kernel_rfl)) (fun _ _ _ h => h) (Or.inl ⟨by rfl, ?_⟩) ?_ ?_
        rotate_left
        ·intro w'
         go_simp
         with_reducible rfl
        rotate_left
        ·simp only [aw_]
         rfl
        refine pure_ (i := 1) (N := some 63) (v := ?_) (a' := ?_) (ba_ 14 3) rfl rfl (any_of HT_.out (by kernel_rfl)) (fun _ _ _ h => h) (Or.inl ⟨by rfl, ?_⟩) ?_ ?_
        rotate_left
        ·intro w'
         go_simp
         with_reducible rfl
        rotate_left
        ·simp only [aw_]
         rfl
        refine pure_ (i := 4) (N := some 66) (v := ?_) (a' := ?_) (ba_ 14 19) rfl rfl (any_of HT_.out (by kernel_rfl)) (fun _ _ _ h => h) (Or.inl ⟨by rfl, ?_⟩) ?_ ?_
        rotate_left
        ·intro w'
         go_simp
         with_reducible rfl
        rotate_left
        ·simp only [aw_]
         rfl
        refine pure_ (i := 5) (N := some 67) (v := ?_) (a' := ?_) (ba_ 14 51) rfl rfl (any_of HT_.out (by kernel_rfl)) (fun _ _ _ h => h) (Or.inl ⟨by rfl, ?_⟩) ?_ ?_
        rotate_left
        ·intro w'
         go_simp
         with_reducible rfl
        rotate_left
        ·simp only [aw_]
         rfl
        refine pure_ (i := 6) (N := some 68) (v := ?_) (a' := ?_) (ba_ 14 115) rfl rfl (any_of HT_.out (by kernel_rfl)) (fun _ _ _ h => h) (Or.inl ⟨by rfl, ?_⟩) ?_ ?_
        rotate_left
        ·intro w'
         go_simp
         with_reducible rfl
        rotate_left
        ·simp only [aw_]
         rfl
        refine take_ (i := 2) (N := some 64) (v := ?_) (a' := ?_) (ba_ 14 119) rfl rfl (take_ofW HT_.out HW_.out (by kernel_rfl)) (fun _ _ _ h => h) (Or.inl ⟨by rfl, ?_⟩) hHeld ?_ ?_
        rotate_left
        ·rintro w' ⟨s0, s1⟩
         go_simp
         with_reducible rfl
        rotate_left
        ·simp only [aw_]
         rfl
        refine pure_ (i := 3) (N := some 65) (v := ?_) (a' := ?_) (ba_ 14 127) rfl rfl (any_of HT_.out (by kernel_rfl)) (fun _ _ _ h => h) (Or.inl ⟨by rfl, ?_⟩) ?_ ?_
        rotate_left
        ·intro w'
         go_simp
         with_reducible rfl
        rotate_left
        ·simp only [aw_]
         rfl
        refine pure_ (i := 7) (N := some 69) (v := ?_) (a' := ?_) (ba_ 14 255) rfl rfl (any_of HT_.out (by kernel_rfl)) (fun _ _ _ h => h) (Or.inl ⟨by rfl, ?_⟩) ?_ ?_
        rotate_left
        ·intro w'
         go_simp
         with_reducible rfl
        rotate_left
        ·simp only [aw_]
         rfl
        refine pure_ (i := 8) (N := some 70) (v := ?_) (a' := ?_) (ba_ 14 511) rfl rfl (any_of HT_.out (by kernel_rfl)) (fun _ _ _ h => h) (Or.inl ⟨by rfl, ?_⟩) ?_ ?_
        rotate_left
        ·intro w'
         go_simp
         with_reducible rfl
        rotate_left
        ·simp only [aw_]
         rfl
        refine take_ (i := 9) (N := some 71) (v := ?_) (a' := ?_) (ba_ 14 1023) rfl rfl (take_ofW HT_.out HW_.out (by kernel_rfl)) (fun _ _ _ h => h) (Or.inl ⟨by rfl, ?_⟩) hHeld ?_ ?_
        rotate_left
        ·rintro w' ⟨s0, s1⟩
         go_simp
         with_reducible rfl
        rotate_left
        ·simp only [aw_]
         rfl
        refine pure_ (i := 10) (N := some 72) (v := ?_) (a' := ?_) (ba_ 14 2047) rfl rfl (any_of HT_.out (by kernel_rfl)) (fun _ _ _ h => h) (Or.inl ⟨by rfl, ?_⟩) ?_ ?_
        rotate_left
        ·intro w'
         go_simp
         with_reducible rfl
        rotate_left
        ·simp only [aw_]
         rfl
        refine one_ (i := 11) (N := some 73) (ba_ 14 4095) rfl rfl (one_of HT_.out (by kernel_rfl)) (by decide) (fun K hK => ?_)
        refine value_ (w1 := ?_) (v := ?_) (by rfl) rfl ?_ ?_
        rotate_left
        rotate_left
        ·go_simp
         constructor
         ·rfl
         ·rfl
        refine hK.out _ _ ⟨(bc_ (bka SI.out.bw _) 6).trans rfl, bcel (ba1 (Below.refl _ _) _) HXC.out⟩ (fun hHeld => ?_)
        clear hK K
        refine norm_ (a' := ?_) ?_ ?_
        rotate_left
        ·show Act.put _ (some 73) _ = _
         simp only [aw_]
         rfl
        refine one_ (i := 12) (N := some 74) (ba_ 14 8191) rfl rfl (one_of HT_.out (by kernel_rfl)) (by decide) (fun K hK => ?_)
        refine N_append_step_wide k77 w.heap.size (by rfl) (.tmp 62) (.tmp 73) 28 77 (.agg #[(.int .i64 0), (.int .i64 0), (.int .i64 0), (.slice none 0 0)]) 48 rfl Try.underlying28 info77 rfl (by decide) (by omega) _ (iRun (now (R + 1) ac) (R + 1) n l1 l2 se i).2.2 (⟨R + 1, (i : Int) + 1, 0, ev⟩ : S77) [.int .i64 (R + 1), .int .i64 ((i : Int) + 1), .int .i64 0, .slice Ax ev.length cx] (fun k => k < w.heap.size ∨ nb ≤ k) (fun k => k < w.heap.size) rfl rfl (k77_mkF _ _ (⟨R + 1, (i : Int) + 1, 0, ev⟩ : S77) HXL.out HXF.out) (fun k hk => ⟨.inl hk, fun e => by have h1 := Kd.N_base SI.out.hs k e.symm; omega⟩) (fun k hk => .inr (Nat.le_trans SI.out.sz hk)) SI.out.hs SI.out.hb SI.out.hb.size (by have := HSL.out; unfold maxLen; omega) (by have := HSL.out; omega) ?_
        intro vq wc hn hb hg hat
        rw [HST.out] at hn
        have hwz : wb.heap.size ≤ wc.heap.size := hg.size
        have HXC := Qz.mk (show wc.cell? ⟨h2, i, none⟩ = some (.slice Ax ev.length cx) from (cell_move (a := ⟨h2, i, none⟩) (hg.block h2 (Kd.N_lt SI.out.hh h2 rfl) (fun e => by have h1 := SI.out.hs.1 h2 e.symm; have h2' := SI.out.q2; rcases h1 with h1 | h1 <;> omega))).trans HXC.out)
        have SI := Qz.mk (SI.out.sent hn hb hg hwz)
        clear hn hb hg hat hwz
        refine hK.out _ _ ⟨(bc_ SI.out.bw 6).trans rfl, HXC.out⟩ (fun hHeld => ?_)
        clear hK K
        refine norm_ (a' := ?_) ?_ ?_
        rotate_left
        ·show Act.put _ (some 74) _ = _
         simp only [aw_]
         rfl
        refine pure_ (i := 13) (N := some 13) (v := ?_) (a' := ?_) (ba_ 14 16383) rfl rfl (any_of HT_.out (by kernel_rfl)) (fun _ _ _ h => h) (Or.inl ⟨by rfl, ?_⟩) ?_ ?_
        rotate_left
        ·intro w'
         go_simp
         with_reducible rfl
        rotate_left
        ·simp only [aw_]
         rfl
        refine done_ (done_of HT_.out (by kernel_rfl)) ?_
        clear hHeld
        try go_wp2
        go_meet
        case rel => exact SI
       ·have b3 : decide (0 < (ev.length : Int)) = false := decide_eq_false (by omega)
        have b4 : decide (0 < ev.length) = false := decide_eq_false hz
        have hst : (iRun (now (R + 1) ac) (R + 1) n l1 l2 se i).2.2 = s1 := by rw [HS1.out]; unfold stowed; rw [if_neg (fun q => hz (List.length_pos_iff.2 q.2))]
        rw [hst] at SI
        clear hst hxc
        go_wp2
        go_meet
        case rel => exact SI
      case rest =>
       clear SI HXC HXL HXF hxc
       have SI := hcut
       clear hcut
       go_wp2
       go_loopg [13, 15] n (fun kq v13 v15 w' => ∃ (k : Nat), v15 = .int .i64 ((k : Int) + 1) ∧ Qz (k + kq = n) ∧ Qz (RInv w nb n g3 g8 g c h2 ch rbs #[.int .u64 P, .int .i64 (n : Int), .int .i64 T, .slice A3 co.length c3, .slice A4 ac.length c4, .slice A5 ta.length c5, .int .i64 R, .slice A7 se.length c7] #[.int .u64 0, .int .i64 0, .int .i64 0, .slice none 0 0, .slice none 0 0, .slice none 0 0, .int .i64 0, .slice none 0 0] w' v13 (kRun (now (R + 1) ac) (R + 1) i (l1.getD i []) (G0, s1) k).1 H1 (kRun (now (R + 1) ac) (R + 1) i (l1.getD i []) (G0, s1) k).2))
       case atStart => exact ⟨0, rfl, ⟨by simp⟩, SI⟩
       case round =>
        clear SI
        obtain ⟨k, rfl, HI2, SK⟩ := hrel
        cases gk with
        | zero =>
         have hkn : k = n := by have := HI2.out; omega
         have e1 : decide ((k : Int) + 1 ≤ (n : Int)) = false := decide_eq_false (by omega)
         have e2 : decide (k + 1 ≤ n) = false := decide_eq_false (by omega)
         have e3 : decide (k < n) = false := decide_eq_false (by omega)
         rw [hkn] at SK
         have SK2 := HNX.out _ _ SK
         clear hkn
         go_wp2
         go_roundg k1
         case measure => exact Nat.lt_succ_self _
         case rel => exact ⟨i + 1, by simp; unfold wrap64; have := HN2.out; have := HIN.out; omega, ⟨by have := HI.out; omega⟩, SK2⟩
        | succ k2 =>
         have hkn : k < n := by have := HI2.out; omega
         have HKN := Qz.mk hkn
         have e1 : decide ((k : Int) + 1 ≤ (n : Int)) = true := decide_eq_true (by omega)
         have e2 : decide (k + 1 ≤ n) = true := decide_eq_true (by omega)
         have e3 : decide (k < n) = true := decide_eq_true hkn
         have hk1 : wrap64 ((k : Int) + 1 - 1) = (k : Int) := by unfold wrap64; have := HN2.out; omega
         have hk2 : wrap64 (k : Int) = (k : Int) := by unfold wrap64; have := HN2.out; omega
         obtain ⟨ad1, Arow, crow, e1', hs1, hrl, hFr⟩ := F_row_at (Kd.F_below HP1.out SK.out.hb) (i := i) (by rw [HL1.out]; exact HIN.out)
         subst e1'
         obtain ⟨row, hrow⟩ : ∃ x, x = l1.getD i [] := ⟨_, rfl⟩
         rw [← hrow] at hs1 hrl hFr SK
         have hrn : row.length = n := by
          have h1 : i < l1.length := by rw [HL1.out]; exact HIN.out
          rw [hrow, List.getD_eq_getElem?_getD, List.getElem?_eq_getElem h1]
          exact HL3.out _ (List.getElem_mem h1)
         obtain ⟨adr, Ad2, cd2, e3', hs2, hdl2, hFd⟩ := F_row_at hFr (i := k) (by rw [hrn]; exact hkn)
         subst e3'
         obtain ⟨d2, hd2⟩ : ∃ x, x = row.getD k [] := ⟨_, rfl⟩
         rw [← hd2] at hs2 hdl2 hFd
         have hkr : k < rbs.length := by rw [HLEN.out]; exact hkn
         obtain ⟨bk, ck, hrk⟩ : ∃ bk ck, rbs[k]? = some (bk, ck) := ⟨(rbs[k]'hkr).1, (rbs[k]'hkr).2, by rw [List.getElem?_eq_getElem hkr]⟩
         clear hkr
         have hs0 := SK.out.cell0 hrk HLEN.out
         obtain ⟨Gk, hGk⟩ : ∃ q, q = (kRun (now (R + 1) ac) (R + 1) i row (G0, s1) k).1 := ⟨_, rfl⟩
         obtain ⟨sk, hsk⟩ : ∃ q, q = (kRun (now (R + 1) ac) (R + 1) i row (G0, s1) k).2 := ⟨_, rfl⟩
         have hkl := kRun_le (now (R + 1) ac) (R + 1) i row (G0, s1) k
         rw [← hGk, ← hsk] at hkl
         have HSK := Qz.mk (show sk.length < 3000000004000 from by have h1 := hkl.1; have h2 := HSS.out; have h3 := HN2.out; simp only at h1; omega)
         rw [← hGk, ← hsk] at SK
         have hGl : k < Gk.length := by rw [← SK.out.hr.len, HLEN.out]; exact hkn
         have hLk : Gk[k]? = some (Gk.getD k []) := by rw [List.getD_eq_getElem?_getD, List.getElem?_eq_getElem hGl]; rfl
         obtain ⟨_, hLn, _⟩ := SK.out.hr.row k bk ck _ hrk hLk
         have HNK := Qz.mk (show ∀ (d : List Int) (v9 : Value) (w9 : World), d = eff (now (R + 1) ac) ((i : Int) + 1) ((k : Int) + 1) d2 → Qz (RInv w nb n g3 g8 g c h2 ch rbs #[.int .u64 P, .int .i64 (n : Int), .int .i64 T, .slice A3 co.length c3, .slice A4 ac.length c4, .slice A5 ta.length c5, .int .i64 R, .slice A7 se.length c7] #[.int .u64 0, .int .i64 0, .int .i64 0, .slice none 0 0, .slice none 0 0, .slice none 0 0, .int .i64 0, .slice none 0 0] w9 v9 (Gk.set k ((Gk.getD k []).set i d)) H1 (stowed (R + 1) ((i : Int) + 1) ((k : Int) + 1) d sk)) → Qz (RInv w nb n g3 g8 g c h2 ch rbs #[.int .u64 P, .int .i64 (n : Int), .int .i64 T, .slice A3 co.length c3, .slice A4 ac.length c4, .slice A5 ta.length c5, .int .i64 R, .slice A7 se.length c7] #[.int .u64 0, .int .i64 0, .int .i64 0, .slice none 0 0, .slice none 0 0, .slice none 0 0, .int .i64 0, .slice none 0 0] w9 v9 (kRun (now (R + 1) ac) (R + 1) i (l1.getD i []) (G0, s1) (k + 1)).1 H1 (kRun (now (R + 1) ac) (R + 1) i (l1.getD i []) (G0, s1) (k + 1)).2) from fun d v9 w9 he h => by
          subst he
          subst hd2
          subst hGk
          subst hsk
          subst hrow
          exact h)
         have p3 : ((0 : Int) ≤ (k : Int)) = True := eq_true (by omega)
         have p4 : ((k : Int) < (n : Int)) = True := eq_true (by omega)
         have p5 : (k < n) = True := eq_true hkn
         have p6 : ((i : Int) < (l1.length : Int)) = True := eq_true (by rw [HL1.out]; have := HIN.out; omega)
         have p7 : (i < l1.length) = True := eq_true (by rw [HL1.out]; exact HIN.out)
         have p8 : ((k : Int) < (row.length : Int)) = True := eq_true (by rw [hrn]; omega)
         have p9 : (k < row.length) = True := eq_true (by rw [hrn]; exact hkn)
         have HRK := Qz.mk hrk
         have HLK := Qz.mk hLk
         have HLN := Qz.mk hLn
         have HDL2 := Qz.mk hdl2
         have HFD := Qz.mk hFd
         clear hrow hd2 hrn hrk hrl hdl2 hFd hFr hkn hGk hsk hkl hGl hLk hLn
         by_cases hik : i = k
         ·subst hik
          have y1 : ((i : Int) + 1 == (i : Int) + 1) = true := by simp
          go_wp2
          have SK := Qz.mk SK.out.drew
          have HFD := Qz.mk (Kd.F_drew HFD.out)
          have T0 := Qz.mk (show wr.drew.cell? ⟨g, i, none⟩ = some (.slice (some ⟨bk, 0, none⟩) n ck) from hs0)
          have T1 := Qz.mk (show wr.drew.cell? (ad1.add i) = some (.slice (some adr) row.length crow) from hs1)
          have T2 := Qz.mk (show wr.drew.cell? (adr.add i) = some (.slice Ad2 d2.length cd2) from hs2)
          clear hs0 hs1 hs2
          refine start_ (n := 18) (S := fun w' => w'.cell? ⟨g, i, none⟩ = some (.slice (some ⟨bk, 0, none⟩) n ck) ∧ w'.cell? (ad1.add i) = some (.slice (some adr) row.length crow) ∧ w'.cell? (adr.add i) = some (.slice Ad2 d2.length cd2)) (ds := [17]) (ba_ 18 0) (by kernel_rfl) rfl rfl ⟨T0.out, T1.out, T2.out⟩ (fun hHeld => ?_)
          generalize wr.drew = wa2 at SK HFD T0 T1 T2 hHeld ⊢
          refine with_tabW rex.tab19 rex.bits19 (fun HT_ HW_ => ?_)
          refine pure_ (i := 0) (N := some 83) (v := ?_) (a' := ?_) (ba_ 18 1) rfl rfl (any_of HT_.out (by kernel_rfl)) (fun _ _ _ h => h) (Or.inl ⟨by rfl, ?_⟩) ?_ ?_
          rotate_left
          ·intro w'
           go_simp
           with_reducible rfl
          rotate_left
          ·simp only [aw_]
           rfl
          refine pure_ (i := 1) (N := some 84) (v := ?_) (a' := ?_) (ba_ 18 3) rfl rfl (any_of HT_.out (by kernel_rfl)) (fun _ _ _ h => h) (Or.inl ⟨by rfl, ?_⟩) ?_ ?_
          rotate_left
          ·intro w'
           go_simp
           with_reducible rfl
          rotate_left
          ·simp only [aw_]
           rfl
          refine pure_ (i := 5) (N := some 88) (v := ?_) (a' := ?_) (ba_ 18 35) rfl rfl (any_of HT_.out (by kernel_rfl)) (fun _ _ _ h => h) (Or.inl ⟨by rfl, ?_⟩) ?_ ?_
          rotate_left
          ·intro w'
           go_simp
           with_reducible rfl
          rotate_left
          ·simp only [aw_]
           rfl
          refine pure_ (i := 7) (N := some 90) (v := ?_) (a' := ?_) (ba_ 18 163) rfl rfl (any_of HT_.out (by kernel_rfl)) (fun _ _ _ h => h) (Or.inl ⟨by rfl, ?_⟩) ?_ ?_
          rotate_left
          ·intro w'
           go_simp
           with_reducible rfl
          rotate_left
          ·simp only [aw_]
           rfl
          refine pure_ (i := 8) (N := some 91) (v := ?_) (a' := ?_) (ba_ 18 419) rfl rfl (any_of HT_.out (by kernel_rfl)) (fun _ _ _ h => h) (Or.inl ⟨by rfl, ?_⟩) ?_ ?_
          rotate_left
          ·intro w'
           go_simp
           with_reducible rfl
          rotate_left
          ·simp only [aw_]
           rfl
          refine pure_ (i := 12) (N := some 95) (v := ?_) (a' := ?_) (ba_ 18 4515) rfl rfl (any_of HT_.out (by kernel_rfl)) (fun _ _ _ h => h) (Or.inl ⟨by rfl, ?_⟩) ?_ ?_
          rotate_left
          ·intro w'
           go_simp
           with_reducible rfl
          rotate_left
          ·simp only [aw_]
           rfl
          refine pure_ (i := 2) (N := some 85) (v := ?_) (a' := ?_) (ba_ 18 4519) rfl rfl (any_of HT_.out (by kernel_rfl)) (fun _ _ _ h => h) (Or.inl ⟨by rfl, ?_⟩) ?_ ?_
          rotate_left
          ·intro w'
           go_simp
           with_reducible rfl
          rotate_left
          ·simp only [aw_]
           rfl
          refine pure_ (i := 6) (N := some 89) (v := ?_) (a' := ?_) (ba_ 18 4583) rfl rfl (any_of HT_.out (by kernel_rfl)) (fun _ _ _ h => h) (Or.inl ⟨by rfl, ?_⟩) ?_ ?_
          rotate_left
          ·intro w'
           go_simp
           with_reducible rfl
          rotate_left
          ·simp only [aw_]
           rfl
          refine pure_ (i := 9) (N := some 92) (v := ?_) (a' := ?_) (ba_ 18 5095) rfl rfl (any_of HT_.out (by kernel_rfl)) (fun _ _ _ h => h) (Or.inl ⟨by rfl, ?_⟩) ?_ ?_
          rotate_left
          ·intro w'
           go_simp
           with_reducible rfl
          rotate_left
          ·simp only [aw_]
           rfl
          refine pure_ (i := 13) (N := some 96) (v := ?_) (a' := ?_) (ba_ 18 13287) rfl rfl (any_of HT_.out (by kernel_rfl)) (fun _ _ _ h => h) (Or.inl ⟨by rfl, ?_⟩) ?_ ?_
          rotate_left
          ·intro w'
           go_simp
           with_reducible rfl
          rotate_left
          ·simp only [aw_]
           rfl
          refine pure_ (i := 3) (N := some 86) (v := ?_) (a' := ?_) (ba_ 18 13295) rfl rfl (any_of HT_.out (by kernel_rfl)) (fun _ _ _ h => h) (Or.inl ⟨by rfl, ?_⟩) ?_ ?_
          rotate_left
          ·intro w'
           go_simp
           with_reducible rfl
          rotate_left
          ·simp only [aw_]
           rfl
          refine pure_ (i := 10) (N := some 93) (v := ?_) (a' := ?_) (ba_ 18 14319) rfl rfl (any_of HT_.out (by kernel_rfl)) (fun _ _ _ h => h) (Or.inl ⟨by rfl, ?_⟩) ?_ ?_
          rotate_left
          ·intro w'
           go_simp
           with_reducible rfl
          rotate_left
          ·simp only [aw_]
           rfl
          refine take_ (i := 4) (N := some 87) (v := ?_) (a' := ?_) (ba_ 18 14335) rfl rfl (take_ofW HT_.out HW_.out (by kernel_rfl)) (fun _ _ _ h => h) (Or.inl ⟨by rfl, ?_⟩) hHeld ?_ ?_
          rotate_left
          ·rintro w' ⟨s0, s1, s2⟩
           go_simp
           with_reducible rfl
          rotate_left
          ·simp only [aw_]
           rfl
          refine take_ (i := 11) (N := some 94) (v := ?_) (a' := ?_) (ba_ 18 16383) rfl rfl (take_ofW HT_.out HW_.out (by kernel_rfl)) (fun _ _ _ h => h) (Or.inl ⟨by rfl, ?_⟩) hHeld ?_ ?_
          rotate_left
          ·rintro w' ⟨s0, s1, s2⟩
           go_simp
           with_reducible rfl
          rotate_left
          ·simp only [aw_]
           rfl
          refine pure_ (i := 14) (N := some 97) (v := ?_) (a' := ?_) (ba_ 18 32767) rfl rfl (any_of HT_.out (by kernel_rfl)) (fun _ _ _ h => h) (Or.inl ⟨by rfl, ?_⟩) ?_ ?_
          rotate_left
          ·intro w'
           go_simp
           with_reducible rfl
          rotate_left
          ·simp only [aw_]
           rfl
          refine take_ (i := 15) (N := some 98) (v := ?_) (a' := ?_) (ba_ 18 65535) rfl rfl (take_ofW HT_.out HW_.out (by kernel_rfl)) (fun _ _ _ h => h) (Or.inl ⟨by rfl, ?_⟩) hHeld ?_ ?_
          rotate_left
          ·rintro w' ⟨s0, s1, s2⟩
           go_simp
           with_reducible rfl
          rotate_left
          ·simp only [aw_]
           rfl
          refine pure_ (i := 16) (N := some 99) (v := ?_) (a' := ?_) (ba_ 18 131071) rfl rfl (any_of HT_.out (by kernel_rfl)) (fun _ _ _ h => h) (Or.inl ⟨by rfl, ?_⟩) ?_ ?_
          rotate_left
          ·intro w'
           go_simp
           with_reducible rfl
          rotate_left
          ·simp only [aw_]
           rfl
          refine last_ (i := 17) (N := none) (ba_ 18 262143) rfl rfl (one_of HT_.out (by kernel_rfl)) (by decide) (fun K hK => ?_)
          obtain ⟨_, _, h5⟩ := SK.out.hr.row i bk ck _ HRK.out HLK.out
          obtain ⟨⟨u5, hu5⟩, hz5⟩ := row_cell h5 (i := i) HIN.out
          refine skip_ (w1 := ?_) (by rfl) rfl ?_ ?_
          rotate_left
          ·go_simp
           rfl
          refine hK.out _ _ ?_
          clear hK K
          refine done_ (done_of HT_.out (by kernel_rfl)) ?_
          clear hHeld h5 hu5 hz5 T0 T1 T2
          have SK := Qz.mk (SK.out.came HRK.out HLK.out HIN.out HDL2.out HFD.out)
          have hef : d2 = eff (now (R + 1) ac) ((i : Int) + 1) ((i : Int) + 1) d2 := (eff_self HTO.out (R + 1) ((i : Int) + 1) d2).symm
          have hst : sk = stowed (R + 1) ((i : Int) + 1) ((i : Int) + 1) d2 sk := by unfold stowed; rw [if_neg (fun q => q.1 rfl)]
          rw [hst] at SK
          have SK := HNK.out _ _ _ hef SK
          clear hef hst HNK HFD HDL2
          generalize wa2.setCell ⟨bk, i, none⟩ (.slice Ad2 d2.length cd2) = w23 at SK ⊢
          go_wp2
          go_roundg k2
          case measure => exact Nat.lt_succ_self _
          case rel => exact ⟨i + 1, by simp; unfold wrap64; have := HN2.out; have := HIN.out; omega, ⟨by have := HI2.out; omega⟩, SK⟩
         ·have y1 : ((i : Int) + 1 == (k : Int) + 1) = false := by simp; omega
          have y2 : ((i : Int) == (k : Int)) = false := by simp; omega
          have y3 : (i == k) = false := by simp; omega
          have HIK := Qz.mk hik
          clear hik
          go_wp2
          have SK := Qz.mk SK.out.drew
          have HFD := Qz.mk (Kd.F_drew HFD.out)
          have T0 := Qz.mk (show wr.drew.cell? ⟨g, k, none⟩ = some (.slice (some ⟨bk, 0, none⟩) n ck) from hs0)
          have T1 := Qz.mk (show wr.drew.cell? (ad1.add i) = some (.slice (some adr) row.length crow) from hs1)
          have T2 := Qz.mk (show wr.drew.cell? (adr.add k) = some (.slice Ad2 d2.length cd2) from hs2)
          have HW := Qz.mk (Below.refl wr.drew.heap.size wr.drew)
          clear hs0 hs1 hs2
          refine start_ (n := 22) (S := fun w' => w'.cell? ⟨g3, 0, none⟩ = some (.int .u64 P) ∧ w'.cell? ⟨g3, 1, none⟩ = some (.int .i64 (n : Int)) ∧ w'.cell? ⟨g3, 2, none⟩ = some (.int .i64 T) ∧ w'.cell? ⟨g3, 3, none⟩ = some (.slice A3 co.length c3) ∧ w'.cell? ⟨g3, 4, none⟩ = some (.slice A4 ac.length c4) ∧ w'.cell? ⟨g3, 5, none⟩ = some (.slice A5 ta.length c5) ∧ w'.cell? ⟨g3, 6, none⟩ = some (.int .i64 R) ∧ w'.cell? ⟨g3, 7, none⟩ = some (.slice A7 se.length c7) ∧ w'.cell? ⟨g, k, none⟩ = some (.slice (some ⟨bk, 0, none⟩) n ck) ∧ w'.cell? (ad1.add i) = some (.slice (some adr) row.length crow) ∧ w'.cell? (adr.add k) = some (.slice Ad2 d2.length cd2)) (ds := [21]) (ba_ 22 0) (by kernel_rfl) rfl rfl ⟨bcel HW.out ((bc_ SK.out.bw 0).trans rfl), bcel HW.out ((bc_ SK.out.bw 1).trans rfl), bcel HW.out ((bc_ SK.out.bw 2).trans rfl), bcel HW.out ((bc_ SK.out.bw 3).trans rfl), bcel HW.out ((bc_ SK.out.bw 4).trans rfl), bcel HW.out ((bc_ SK.out.bw 5).trans rfl), bcel HW.out ((bc_ SK.out.bw 6).trans rfl), bcel HW.out ((bc_ SK.out.bw 7).trans rfl), bcel HW.out T0.out, bcel HW.out T1.out, bcel HW.out T2.out⟩ (fun hHeld => ?_)
          generalize wr.drew = wa2 at SK HFD T0 T1 T2 HW hHeld ⊢
          refine with_tabW rex.tab20 rex.bits20 (fun HT_ HW_ => ?_)
          refine pure_ (i := 0) (N := some 100) (v := ?_) (a' := ?_) (ba_ 22 1) rfl rfl (any_of HT_.out (by kernel_rfl)) (fun _ _ _ h => h) (Or.inl ⟨by rfl, ?_⟩) ?_ ?_
          rotate_left
          ·intro w'
           go_simp
           with_reducible rfl
          rotate_left
          ·simp only [aw_]
           rfl
          refine pure_ (i := 1) (N := some 101) (v := ?_) (a' := ?_) (ba_ 22 3) rfl rfl (any_of HT_.out (by kernel_rfl)) (fun _ _ _ h => h) (Or.inl ⟨by rfl, ?_⟩) ?_ ?_
          rotate_left
          ·intro w'
           go_simp
           with_reducible rfl
          rotate_left
          ·simp only [aw_]
           rfl
          refine pure_ (i := 5) (N := some 105) (v := ?_) (a' := ?_) (ba_ 22 35) rfl rfl (any_of HT_.out (by kernel_rfl)) (fun _ _ _ h => h) (Or.inl ⟨by rfl, ?_⟩) ?_ ?_
          rotate_left
          ·intro w'
           go_simp
           with_reducible rfl
          rotate_left
          ·simp only [aw_]
           rfl
          refine pure_ (i := 8) (N := some 108) (v := ?_) (a' := ?_) (ba_ 22 291) rfl rfl (any_of HT_.out (by kernel_rfl)) (fun _ _ _ h => h) (Or.inl ⟨by rfl, ?_⟩) ?_ ?_
          rotate_left
          ·intro w'
           go_simp
           with_reducible rfl
          rotate_left
          ·simp only [aw_]
           rfl
          refine pure_ (i := 9) (N := some 109) (v := ?_) (a' := ?_) (ba_ 22 803) rfl rfl (any_of HT_.out (by kernel_rfl)) (fun _ _ _ h => h) (Or.inl ⟨by rfl, ?_⟩) ?_ ?_
          rotate_left
          ·intro w'
           go_simp
           with_reducible rfl
          rotate_left
          ·simp only [aw_]
           rfl
          refine pure_ (i := 10) (N := some 110) (v := ?_) (a' := ?_) (ba_ 22 1827) rfl rfl (any_of HT_.out (by kernel_rfl)) (fun _ _ _ h => h) (Or.inl ⟨by rfl, ?_⟩) ?_ ?_
          rotate_left
          ·intro w'
           go_simp
           with_reducible rfl
          rotate_left
          ·simp only [aw_]
           rfl
          refine pure_ (i := 11) (N := some 111) (v := ?_) (a' := ?_) (ba_ 22 3875) rfl rfl (any_of HT_.out (by kernel_rfl)) (fun _ _ _ h => h) (Or.inl ⟨by rfl, ?_⟩) ?_ ?_
          rotate_left
          ·intro w'
           go_simp
           with_reducible rfl
          rotate_left
          ·simp only [aw_]
           rfl
          refine pure_ (i := 15) (N := some 115) (v := ?_) (a' := ?_) (ba_ 22 36643) rfl rfl (any_of HT_.out (by kernel_rfl)) (fun _ _ _ h => h) (Or.inl ⟨by rfl, ?_⟩) ?_ ?_
          rotate_left
          ·intro w'
           go_simp
           with_reducible rfl
          rotate_left
          ·simp only [aw_]
           rfl
          refine pure_ (i := 2) (N := some 102) (v := ?_) (a' := ?_) (ba_ 22 36647) rfl rfl (any_of HT_.out (by kernel_rfl)) (fun _ _ _ h => h) (Or.inl ⟨by rfl, ?_⟩) ?_ ?_
          rotate_left
          ·intro w'
           go_simp
           with_reducible rfl
          rotate_left
          ·simp only [aw_]
           rfl
          refine pure_ (i := 6) (N := some 106) (v := ?_) (a' := ?_) (ba_ 22 36711) rfl rfl (any_of HT_.out (by kernel_rfl)) (fun _ _ _ h => h) (Or.inl ⟨by rfl, ?_⟩) ?_ ?_
          rotate_left
          ·intro w'
           go_simp
           with_reducible rfl
          rotate_left
          ·simp only [aw_]
           rfl
          refine pure_ (i := 12) (N := some 112) (v := ?_) (a' := ?_) (ba_ 22 40807) rfl rfl (any_of HT_.out (by kernel_rfl)) (fun _ _ _ h => h) (Or.inl ⟨by rfl, ?_⟩) ?_ ?_
          rotate_left
          ·intro w'
           go_simp
           with_reducible rfl
          rotate_left
          ·simp only [aw_]
           rfl
          refine pure_ (i := 16) (N := some 116) (v := ?_) (a' := ?_) (ba_ 22 106343) rfl rfl (any_of HT_.out (by kernel_rfl)) (fun _ _ _ h => h) (Or.inl ⟨by rfl, ?_⟩) ?_ ?_
          rotate_left
          ·intro w'
           go_simp
           with_reducible rfl
          rotate_left
          ·simp only [aw_]
           rfl
          refine pure_ (i := 3) (N := some 103) (v := ?_) (a' := ?_) (ba_ 22 106351) rfl rfl (any_of HT_.out (by kernel_rfl)) (fun _ _ _ h => h) (Or.inl ⟨by rfl, ?_⟩) ?_ ?_
          rotate_left
          ·intro w'
           go_simp
           with_reducible rfl
          rotate_left
          ·simp only [aw_]
           rfl
          refine pure_ (i := 13) (N := some 113) (v := ?_) (a' := ?_) (ba_ 22 114543) rfl rfl (any_of HT_.out (by kernel_rfl)) (fun _ _ _ h => h) (Or.inl ⟨by rfl, ?_⟩) ?_ ?_
          rotate_left
          ·intro w'
           go_simp
           with_reducible rfl
          rotate_left
          ·simp only [aw_]
           rfl
          refine take_ (i := 4) (N := some 104) (v := ?_) (a' := ?_) (ba_ 22 114559) rfl rfl (take_ofW HT_.out HW_.out (by kernel_rfl)) (fun _ _ _ h => h) (Or.inl ⟨by rfl, ?_⟩) hHeld ?_ ?_
          rotate_left
          ·rintro w' ⟨s0, s1, s2, s3, s4, s5, s6, s7, s8, s9, s10⟩
           go_simp
           with_reducible rfl
          rotate_left
          ·simp only [aw_]
           rfl
          refine take_ (i := 7) (N := some 107) (v := ?_) (a' := ?_) (ba_ 22 114687) rfl rfl (take_ofW HT_.out HW_.out (by kernel_rfl)) (fun _ _ _ h => h) (Or.inl ⟨by rfl, ?_⟩) hHeld ?_ ?_
          rotate_left
          ·rintro w' ⟨s0, s1, s2, s3, s4, s5, s6, s7, s8, s9, s10⟩
           go_simp
           with_reducible rfl
          rotate_left
          ·simp only [aw_]
           rfl
          refine take_ (i := 14) (N := some 114) (v := ?_) (a' := ?_) (ba_ 22 131071) rfl rfl (take_ofW HT_.out HW_.out (by kernel_rfl)) (fun _ _ _ h => h) (Or.inl ⟨by rfl, ?_⟩) hHeld ?_ ?_
          rotate_left
          ·rintro w' ⟨s0, s1, s2, s3, s4, s5, s6, s7, s8, s9, s10⟩
           go_simp
           with_reducible rfl
          rotate_left
          ·simp only [aw_]
           rfl
          refine pure_ (i := 17) (N := some 117) (v := ?_) (a' := ?_) (ba_ 22 262143) rfl rfl (any_of HT_.out (by kernel_rfl)) (fun _ _ _ h => h) (Or.inl ⟨by rfl, ?_⟩) ?_ ?_
          rotate_left
          ·intro w'
           go_simp
           with_reducible rfl
          rotate_left
          ·simp only [aw_]
           rfl
          refine take_ (i := 18) (N := some 118) (v := ?_) (a' := ?_) (ba_ 22 524287) rfl rfl (take_ofW HT_.out HW_.out (by kernel_rfl)) (fun _ _ _ h => h) (Or.inl ⟨by rfl, ?_⟩) hHeld ?_ ?_
          rotate_left
          ·rintro w' ⟨s0, s1, s2, s3, s4, s5, s6, s7, s8, s9, s10⟩
           go_simp
           with_reducible rfl
          rotate_left
          ·simp only [aw_]
           rfl
          refine one_ (i := 19) (N := some 119) (ba_ 22 1048575) rfl rfl (one_of HT_.out (by kernel_rfl)) (by decide) (fun K hK => ?_)
          refine goes_ Try.func30 (by kernel_rfl) rfl #[.agg #[.int .u64 P, .int .i64 (n : Int), .int .i64 T, .slice A3 co.length c3, .slice A4 ac.length c4, .slice A5 ta.length c5, .int .i64 R, .slice A7 se.length c7], .int .i64 ((i : Int) + 1), .int .i64 ((k : Int) + 1), .slice Ad2 d2.length cd2] (by rfl) rfl rfl (by (try simp only [List.map_toArray, List.map_cons, List.map_nil]); first | done | rfl | (simp only [List.length_drop, List.length_take]; rfl)) ?_
          refine (refAct.callsF (fun k => k < w.heap.size) P (n : Int) T R ((i : Int) + 1) ((k : Int) + 1) _ _ _ A4 c4 ac Ad2 cd2 d2 wa2 HR0.out HR2.out HLA.out (Kd.F_below HX.out.r4 SK.out.hb) HFD.out HDL2.out).mono ?_
          rintro e wd2 ⟨Av, cv, rfl, hFv, hlv, hbd⟩
          refine ⟨_, rfl, ?_⟩
          rw [eff_sent] at hFv hlv ⊢
          obtain ⟨ek, hek⟩ : ∃ d, d = eff (now (R + 1) ac) ((i : Int) + 1) ((k : Int) + 1) d2 := ⟨_, rfl⟩
          rw [← hek] at hFv hlv ⊢
          have HEK := Qz.mk hek
          have HFV := Qz.mk (Kd.F_mono hFv (fun k hk => hk.1))
          have HLV := Qz.mk hlv
          have HW := Qz.mk hbd
          clear hek hFv hlv hbd
          refine hK.out _ _ ⟨bcel HW.out ((bc_ SK.out.bw 0).trans rfl), bcel HW.out ((bc_ SK.out.bw 1).trans rfl), bcel HW.out ((bc_ SK.out.bw 2).trans rfl), bcel HW.out ((bc_ SK.out.bw 3).trans rfl), bcel HW.out ((bc_ SK.out.bw 4).trans rfl), bcel HW.out ((bc_ SK.out.bw 5).trans rfl), bcel HW.out ((bc_ SK.out.bw 6).trans rfl), bcel HW.out ((bc_ SK.out.bw 7).trans rfl), bcel HW.out T0.out, bcel HW.out T1.out, bcel HW.out T2.out⟩ (fun hHeld => ?_)
          clear hK K
          refine norm_ (a' := ?_) ?_ ?_
          rotate_left
          ·show Act.put _ (some 119) _ = _
           simp only [aw_]
           rfl
          refine pure_ (i := 20) (N := some 120) (v := ?_) (a' := ?_) (ba_ 22 2097151) rfl rfl (any_of HT_.out (by kernel_rfl)) (fun _ _ _ h => h) (Or.inl ⟨by rfl, ?_⟩) ?_ ?_
          rotate_left
          ·intro w'
           go_simp
           with_reducible rfl
          rotate_left
          ·simp only [aw_]
           rfl
          refine last_ (i := 21) (N := none) (ba_ 22 4194303) rfl rfl (one_of HT_.out (by kernel_rfl)) (by decide) (fun K hK => ?_)
          have SK := Qz.mk (SK.out.below HW.out)
          obtain ⟨_, _, h5⟩ := SK.out.hr.row k bk ck _ HRK.out HLK.out
          obtain ⟨⟨u5, hu5⟩, hz5⟩ := row_cell h5 (i := i) HIN.out
          refine skip_ (w1 := ?_) (by rfl) rfl ?_ ?_
          rotate_left
          ·go_simp
           rfl
          refine hK.out _ _ ?_
          clear hK K
          refine done_ (done_of HT_.out (by kernel_rfl)) ?_
          clear hHeld h5 hu5 hz5 T0 T1 T2 HW HFD HDL2
          have SK := Qz.mk (SK.out.came HRK.out HLK.out HIN.out HLV.out HFV.out)
          clear HFV HLV
          generalize wd2.setCell ⟨bk, i, none⟩ (.slice Av ek.length cv) = w23 at SK ⊢
          have hLs : (Gk.set k ((Gk.getD k []).set i ek))[k]? = some ((Gk.getD k []).set i ek) := List.getElem?_set_self (List.getElem?_eq_some_iff.1 HLK.out).1
          obtain ⟨_, hL2, h5⟩ := SK.out.hr.row k bk ck _ HRK.out hLs
          obtain ⟨Ax2, cx2, hxc2, hxl2, hxF2⟩ := row_at h5 HIN.out
          have hse3 : ((Gk.getD k []).set i ek).getD i [] = ek := by
           rw [List.getD_eq_getElem?_getD, List.getElem?_set_self (by rw [HLN.out]; exact HIN.out)]
           rfl
          rw [hse3] at hxc2 hxl2 hxF2
          have HXC := Qz.mk hxc2
          have HXL := Qz.mk hxl2
          have HXF := Qz.mk (Kd.F_mono hxF2 (fun q hq => hq.1.elim (fun z => absurd z hq.2) id))
          have hs0 := SK.out.cell0 HRK.out HLEN.out
          have HBK := Qz.mk (show w.heap.size ≤ bk ∧ bk < nb from SK.out.qr bk (List.mem_map.2 ⟨(bk, ck), List.mem_of_getElem? HRK.out, rfl⟩))
          clear hLs hL2 h5 hse3 hxl2 hxF2
          go_upto_if 131 with fail
          by_cases hz : 0 < ek.length
          ·have b3 : decide (0 < (ek.length : Int)) = true := decide_eq_true (by omega)
           have b4 : decide (0 < ek.length) = true := decide_eq_true hz
           have HST := Qz.mk (show sk ++ [(⟨R + 1, (i : Int) + 1, (k : Int) + 1, ek⟩ : S77)] = stowed (R + 1) ((i : Int) + 1) ((k : Int) + 1) ek sk from by unfold stowed; rw [if_pos ⟨by have := HIK.out; omega, List.length_pos_iff.1 hz⟩])
           clear hxc2
           go_wp2
           have SK := Qz.mk SK.out.drew
           have HXC := Qz.mk (show w23.drew.cell? ⟨bk, i, none⟩ = some (.slice Ax2 ek.length cx2) from HXC.out)
           have HXF := Qz.mk (Kd.F_drew HXF.out)
           have T0 := Qz.mk (show w23.drew.cell? ⟨g, k, none⟩ = some (.slice (some ⟨bk, 0, none⟩) n ck) from hs0)
           clear hs0
           refine start_ (n := 19) (S := fun w' => w'.cell? ⟨g3, 6, none⟩ = some (.int .i64 R) ∧ w'.cell? ⟨g, k, none⟩ = some (.slice (some ⟨bk, 0, none⟩) n ck) ∧ w'.cell? ⟨bk, i, none⟩ = some (.slice Ax2 ek.length cx2)) (ds := []) (ba_ 19 0) (by kernel_rfl) rfl rfl ⟨(bc_ SK.out.bw 6).trans rfl, T0.out, HXC.out⟩ (fun hHeld => ?_)
           generalize w23.drew = wb at SK HXC HXF T0 hHeld ⊢
           refine with_tabW rex.tab22 rex.bits22 (fun HT_ HW_ => ?_)
           refine pure_ (i := 0) (N := some 132) (v := ?_) (a' := ?_) (ba_ 19 1) rfl rfl (any_of HT_.out (by kernel_rfl)) (fun _ _ _ h => h) (Or.inl ⟨by rfl, ?_⟩) ?_ ?_
           rotate_left
           ·intro w'
            go_simp
            with_reducible rfl
           rotate_left
           ·simp only [aw_]
            rfl
           refine pure_ (i := 1) (N := some 133) (v := ?_) (a' := ?_) (ba_ 19 3) rfl rfl (any_of HT_.out (by kernel_rfl)) (fun _ _ _ h => h) (Or.inl ⟨by rfl, ?_⟩) ?_ ?_
           rotate_left
           ·intro w'
            go_simp
            with_reducible rfl
           rotate_left
           ·simp only [aw_]
            rfl
           refine pure_ (i := 4) (N := some 136) (v := ?_) (a' := ?_) (ba_ 19 19) rfl rfl (any_of HT_.out (by kernel_rfl)) (fun _ _ _ h => h) (Or.inl ⟨by rfl, ?_⟩) ?_ ?_
           rotate_left
           ·intro w'
            go_simp
            with_reducible rfl
           rotate_left
           ·simp only [aw_]
            rfl
           refine pure_ (i := 5) (N := some 137) (v := ?_) (a' := ?_) (ba_ 19 51) rfl rfl (any_of HT_.out (by kernel_rfl)) (fun _ _ _ h => h) (Or.inl ⟨by rfl, ?_⟩) ?_ ?_
           rotate_left
           ·intro w'
            go_simp
            with_reducible rfl
           rotate_left
           ·simp only [aw_]
            rfl
           refine pure_ (i := 6) (N := some 138) (v := ?_) (a' := ?_) (ba_ 19 115) rfl rfl (any_of HT_.out (by kernel_rfl)) (fun _ _ _ h => h) (Or.inl ⟨by rfl, ?_⟩) ?_ ?_
           rotate_left
           ·intro w'
            go_simp
            with_reducible rfl
           rotate_left
           ·simp only [aw_]
            rfl
           refine pure_ (i := 7) (N := some 139) (v := ?_) (a' := ?_) (ba_ 19 243) rfl rfl (any_of HT_.out (by kernel_rfl)) (fun _ _ _ h => h) (Or.inl ⟨by rfl, ?_⟩) ?_ ?_
           rotate_left
           ·intro w'
            go_simp
            with_reducible rfl
           rotate_left
           ·simp only [aw_]
            rfl
           refine pure_ (i := 11) (N := some 143) (v := ?_) (a' := ?_) (ba_ 19 2291) rfl rfl (any_of HT_.out (by kernel_rfl)) (fun _ _ _ h => h) (Or.inl ⟨by rfl, ?_⟩) ?_ ?_
           rotate_left
           ·intro w'
            go_simp
            with_reducible rfl
           rotate_left
           ·simp only [aw_]
            rfl
           refine take_ (i := 2) (N := some 134) (v := ?_) (a' := ?_) (ba_ 19 2295) rfl rfl (take_ofW HT_.out HW_.out (by kernel_rfl)) (fun _ _ _ h => h) (Or.inl ⟨by rfl, ?_⟩) hHeld ?_ ?_
           rotate_left
           ·rintro w' ⟨s0, s1, s2⟩
            go_simp
            with_reducible rfl
           rotate_left
           ·simp only [aw_]
            rfl
           refine pure_ (i := 3) (N := some 135) (v := ?_) (a' := ?_) (ba_ 19 2303) rfl rfl (any_of HT_.out (by kernel_rfl)) (fun _ _ _ h => h) (Or.inl ⟨by rfl, ?_⟩) ?_ ?_
           rotate_left
           ·intro w'
            go_simp
            with_reducible rfl
           rotate_left
           ·simp only [aw_]
            rfl
           refine pure_ (i := 8) (N := some 140) (v := ?_) (a' := ?_) (ba_ 19 2559) rfl rfl (any_of HT_.out (by kernel_rfl)) (fun _ _ _ h => h) (Or.inl ⟨by rfl, ?_⟩) ?_ ?_
           rotate_left
           ·intro w'
            go_simp
            with_reducible rfl
           rotate_left
           ·simp only [aw_]
            rfl
           refine pure_ (i := 12) (N := some 144) (v := ?_) (a' := ?_) (ba_ 19 6655) rfl rfl (any_of HT_.out (by kernel_rfl)) (fun _ _ _ h => h) (Or.inl ⟨by rfl, ?_⟩) ?_ ?_
           rotate_left
           ·intro w'
            go_simp
            with_reducible rfl
           rotate_left
           ·simp only [aw_]
            rfl
           refine pure_ (i := 9) (N := some 141) (v := ?_) (a' := ?_) (ba_ 19 7167) rfl rfl (any_of HT_.out (by kernel_rfl)) (fun _ _ _ h => h) (Or.inl ⟨by rfl, ?_⟩) ?_ ?_
           rotate_left
           ·intro w'
            go_simp
            with_reducible rfl
           rotate_left
           ·simp only [aw_]
            rfl
           refine take_ (i := 10) (N := some 142) (v := ?_) (a' := ?_) (ba_ 19 8191) rfl rfl (take_ofW HT_.out HW_.out (by kernel_rfl)) (fun _ _ _ h => h) (Or.inl ⟨by rfl, ?_⟩) hHeld ?_ ?_
           rotate_left
           ·rintro w' ⟨s0, s1, s2⟩
            go_simp
            with_reducible rfl
           rotate_left
           ·simp only [aw_]
            rfl
           refine pure_ (i := 13) (N := some 145) (v := ?_) (a' := ?_) (ba_ 19 16383) rfl rfl (any_of HT_.out (by kernel_rfl)) (fun _ _ _ h => h) (Or.inl ⟨by rfl, ?_⟩) ?_ ?_
           rotate_left
           ·intro w'
            go_simp
            with_reducible rfl
           rotate_left
           ·simp only [aw_]
            rfl
           refine take_ (i := 14) (N := some 146) (v := ?_) (a' := ?_) (ba_ 19 32767) rfl rfl (take_ofW HT_.out HW_.out (by kernel_rfl)) (fun _ _ _ h => h) (Or.inl ⟨by rfl, ?_⟩) hHeld ?_ ?_
           rotate_left
           ·rintro w' ⟨s0, s1, s2⟩
            go_simp
            with_reducible rfl
           rotate_left
           ·simp only [aw_]
            rfl
           refine pure_ (i := 15) (N := some 147) (v := ?_) (a' := ?_) (ba_ 19 65535) rfl rfl (any_of HT_.out (by kernel_rfl)) (fun _ _ _ h => h) (Or.inl ⟨by rfl, ?_⟩) ?_ ?_
           rotate_left
           ·intro w'
            go_simp
            with_reducible rfl
           rotate_left
           ·simp only [aw_]
            rfl
           refine one_ (i := 16) (N := some 148) (ba_ 19 131071) rfl rfl (one_of HT_.out (by kernel_rfl)) (by decide) (fun K hK => ?_)
           refine value_ (w1 := ?_) (v := ?_) (by rfl) rfl ?_ ?_
           rotate_left
           rotate_left
           ·go_simp
            constructor
            ·rfl
            ·rfl
           refine hK.out _ _ ⟨(bc_ (bka SK.out.bw _) 6).trans rfl, bcel (ba1 (Below.refl _ _) _) T0.out, bcel (ba1 (Below.refl _ _) _) HXC.out⟩ (fun hHeld => ?_)
           clear hK K
           refine norm_ (a' := ?_) ?_ ?_
           rotate_left
           ·show Act.put _ (some 148) _ = _
            simp only [aw_]
            rfl
           refine one_ (i := 17) (N := some 149) (ba_ 19 262143) rfl rfl (one_of HT_.out (by kernel_rfl)) (by decide) (fun K hK => ?_)
           refine N_append_step_wide k77 w.heap.size (by rfl) (.tmp 132) (.tmp 148) 28 77 (.agg #[(.int .i64 0), (.int .i64 0), (.int .i64 0), (.slice none 0 0)]) 48 rfl Try.underlying28 info77 rfl (by decide) (by omega) _ sk (⟨R + 1, (i : Int) + 1, (k : Int) + 1, ek⟩ : S77) [.int .i64 (R + 1), .int .i64 ((i : Int) + 1), .int .i64 ((k : Int) + 1), .slice Ax2 ek.length cx2] (fun k => k < w.heap.size ∨ nb ≤ k) (fun k => k < w.heap.size) rfl rfl (k77_mkF _ _ (⟨R + 1, (i : Int) + 1, (k : Int) + 1, ek⟩ : S77) HXL.out HXF.out) (fun k hk => ⟨.inl hk, fun e => by have h1 := Kd.N_base SK.out.hs k e.symm; omega⟩) (fun k hk => .inr (Nat.le_trans SK.out.sz hk)) SK.out.hs SK.out.hb SK.out.hb.size (by have := HSK.out; unfold maxLen; omega) (by have := HSK.out; omega) ?_
           intro vq wc2 hn hb hg hat
           rw [HST.out] at hn
           have hwz : wb.heap.size ≤ wc2.heap.size := hg.size
           have HXC := Qz.mk (show wc2.cell? ⟨bk, i, none⟩ = some (.slice Ax2 ek.length cx2) from (cell_move (a := ⟨bk, i, none⟩) (hg.block bk (World.block_lt_of_cell? wb _ HXC.out) (fun e => by have h1 := SK.out.hs.1 bk e.symm; have h2' := HBK.out; rcases h1 with h1 | h1 <;> omega))).trans HXC.out)
           have SK := Qz.mk (SK.out.sent hn hb hg hwz)
           clear hn hb hg hat hwz
           have T0 := Qz.mk (SK.out.cell0 HRK.out HLEN.out)
           refine hK.out _ _ ⟨(bc_ SK.out.bw 6).trans rfl, T0.out, HXC.out⟩ (fun hHeld => ?_)
           clear hK K
           refine norm_ (a' := ?_) ?_ ?_
           rotate_left
           ·show Act.put _ (some 149) _ = _
            simp only [aw_]
            rfl
           refine pure_ (i := 18) (N := some 13) (v := ?_) (a' := ?_) (ba_ 19 524287) rfl rfl (any_of HT_.out (by kernel_rfl)) (fun _ _ _ h => h) (Or.inl ⟨by rfl, ?_⟩) ?_ ?_
           rotate_left
           ·intro w'
            go_simp
            with_reducible rfl
           rotate_left
           ·simp only [aw_]
            rfl
           refine done_ (done_of HT_.out (by kernel_rfl)) ?_
           clear hHeld
           have SK := HNK.out _ _ _ HEK.out SK
           clear HNK HXC HXL HXF T0 HST
           go_wp2
           go_roundg k2
           case measure => exact Nat.lt_succ_self _
           case rel => exact ⟨k + 1, by simp; unfold wrap64; have := HN2.out; have := HKN.out; omega, ⟨by have := HI2.out; omega⟩, SK⟩
          ·have b3 : decide (0 < (ek.length : Int)) = false := decide_eq_false (by omega)
           have b4 : decide (0 < ek.length) = false := decide_eq_false hz
           have hst : sk = stowed (R + 1) ((i : Int) + 1) ((k : Int) + 1) ek sk := by unfold stowed; rw [if_neg (fun q => hz (List.length_pos_iff.2 q.2))]
           rw [hst] at SK
           have SK := HNK.out _ _ _ HEK.out SK
           clear hst hxc2 HNK HXC HXL HXF
           go_wp2
           go_roundg k2
           case measure => exact Nat.lt_succ_self _
           case rel => exact ⟨k + 1, by simp; unfold wrap64; have := HN2.out; have := HKN.out; omega, ⟨by have := HI2.out; omega⟩, SK⟩
end
end Go.Proofs.Ytkaikgbcnmfppaa.Nb
