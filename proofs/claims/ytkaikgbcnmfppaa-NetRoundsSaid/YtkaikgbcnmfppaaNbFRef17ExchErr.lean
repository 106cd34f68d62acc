/- A function of the program, with its walk: jEE. (Made by this session's own program out of what the kit's print wrote; no text of the print.) -/
import Derived.Test.YtkaikgbcnmfppaaNb0
import Derived.Test.YtkaikgbcnmfppaaNbFRef17Check
import Derived.BigRegion
namespace Go.Proofs.Ytkaikgbcnmfppaa.Nb
open Go Go.RowKit Go.Proofs.YtkaikgbcnmfppaaW.PrintWords Go.Proofs.YtkaikgbcnmfppaaW.PrintLast Go.Proofs.YtkaikgbcnmfppaaW.PrintMore
attribute [local go_sem] max2_int min2_int max_two min_two max_three min_three max_four min_four
set_option linter.unusedVariables false
set_option linter.unusedSimpArgs false
noncomputable section
/-! ### jEE: function 21 -/
mutual
def jEE.j0 : Nat → List (List (List Int)) → Bool → Int → Int → Int → List Int → List (S72) → List (List Int) → Int → List (S77) → Option (Int)
 | 0, _, _, _, _, _, _, _, _, _, _ => none
 | k + 1, x1, x28, x166000, x166001, x166002, x166003, x166004, x166005, x166006, x166007 => if x28 = true then (some 2) else (jEE.l0 k x1 (x1.length : Int) 0 x166000 x166001 x166002 x166003 x166004 x166005 x166006 x166007)
def jEE.l0 : Nat → List (List (List Int)) → Int → Int → Int → Int → Int → List Int → List (S72) → List (List Int) → Int → List (S77) → Option (Int)
 | 0, _, _, _, _, _, _, _, _, _, _, _ => none
 | k + 1, x29, x30, x31, x166000, x166001, x166002, x166003, x166004, x166005, x166006, x166007 => if x31 < x30 then (if 0 ≤ x31 then (if x31 < (x29.length : Int) then (if ((rd_M5 x29 x31).length : Int) = x166001 then (jEE.l0 k x29 x30 (wrap64 (x31 + 1)) x166000 x166001 x166002 x166003 x166004 x166005 x166006 x166007) else (some 2)) else (none)) else (none)) else (if x166006 = 1048576 then (some 8) else (some 0))
end
def jEE.f (k : Nat) (a0_0 : Int) (a0_1 : Int) (a0_2 : Int) (l0_3 : List Int) (l0_4 : List (S72)) (l0_5 : List (List Int)) (a0_6 : Int) (l0_7 : List (S77)) (l1 : List (List (List Int))) (l2 : List (List Int)) : Option (Int) := (jCk.f k a0_0 a0_1 a0_2 l0_3 l0_4 l0_5 a0_6 l0_7).bind fun t166 => (if t166 = 0 then (if (l1.length : Int) = a0_1 then (jEE.j0 k l1 ((l2.length : Int) != a0_1) a0_0 a0_1 a0_2 l0_3 l0_4 l0_5 a0_6 l0_7) else (jEE.j0 k l1 true a0_0 a0_1 a0_2 l0_3 l0_4 l0_5 a0_6 l0_7)) else (some t166))
set_option maxHeartbeats 8000000 in
set_option maxRecDepth 100000 in
theorem jEE.calls (k : Nat) (a0_0 : Int) (a0_1 : Int) (a0_2 : Int) (A0_3 : Option Addr) (c0_3 : Nat) (l0_3 : List Int) (A0_4 : Option Addr) (c0_4 : Nat) (l0_4 : List (S72)) (A0_5 : Option Addr) (c0_5 : Nat) (l0_5 : List (List Int)) (a0_6 : Int) (A0_7 : Option Addr) (c0_7 : Nat) (l0_7 : List (S77)) (A1 : Option Addr) (c1 : Nat) (l1 : List (List (List Int))) (A2 : Option Addr) (c2 : Nat) (l2 : List (List Int)) (r : Int) (w : World) (hr0_3 : Kd.C (Kd.int .i64) w A0_3 l0_3.length l0_3) (hc0_3 : l0_3.length ≤ c0_3) (hr0_4 : Kd.C k72 w A0_4 l0_4.length l0_4) (hc0_4 : l0_4.length ≤ c0_4) (hr0_5 : Kd.C (Kd.slice 22 (Kd.int .u64)) w A0_5 l0_5.length l0_5) (hc0_5 : l0_5.length ≤ c0_5) (hr0_7 : Kd.C k77 w A0_7 l0_7.length l0_7) (hc0_7 : l0_7.length ≤ c0_7) (hr1 : Kd.C (Kd.slice 51 (Kd.slice 22 (Kd.int .u64))) w A1 l1.length l1) (hc1 : l1.length ≤ c1) (hr2 : Kd.C (Kd.slice 22 (Kd.int .u64)) w A2 l2.length l2) (hc2 : l2.length ≤ c2) (h : jEE.f k a0_0 a0_1 a0_2 l0_3 l0_4 l0_5 a0_6 l0_7 l1 l2 = some r) :
  Calls Try.prog 21 #[.agg #[.int .u64 a0_0, .int .i64 a0_1, .int .i64 a0_2, .slice A0_3 l0_3.length c0_3, .slice A0_4 l0_4.length c0_4, .slice A0_5 l0_5.length c0_5, .int .i64 a0_6, .slice A0_7 l0_7.length c0_7], .slice A1 l1.length c1, .slice A2 l2.length c2] w fun e w' => e = .returned (.int .i64 r) ∧ Below w.heap.size w w' := by
 have hu30 := Try.underlying30
 have HR0_3 := Qz.mk hr0_3
 have HC0_3 := Qz.mk hc0_3
 clear hr0_3 hc0_3
 have HR0_4 := Qz.mk hr0_4
 have HC0_4 := Qz.mk hc0_4
 clear hr0_4 hc0_4
 have HR0_5 := Qz.mk hr0_5
 have HC0_5 := Qz.mk hc0_5
 clear hr0_5 hc0_5
 have HR0_7 := Qz.mk hr0_7
 have HC0_7 := Qz.mk hc0_7
 clear hr0_7 hc0_7
 have HR1 := Qz.mk hr1
 have HC1 := Qz.mk hc1
 clear hr1 hc1
 have HR2 := Qz.mk hr2
 have HC2 := Qz.mk hc2
 clear hr2 hc2
 have HB := Qz.mk (Below.refl w.heap.size w)
 have H : ((jCk.f k a0_0 a0_1 a0_2 l0_3 l0_4 l0_5 a0_6 l0_7).bind fun t166 => (if t166 = 0 then (if (l1.length : Int) = a0_1 then (jEE.j0 k l1 ((l2.length : Int) != a0_1) a0_0 a0_1 a0_2 l0_3 l0_4 l0_5 a0_6 l0_7) else (jEE.j0 k l1 true a0_0 a0_1 a0_2 l0_3 l0_4 l0_5 a0_6 l0_7)) else (some t166))) = some r := h
 clear h
 replace H := Option.bind_eq_some_iff.mp H
 obtain ⟨t166, A40, H⟩ := H
 replace H : (if t166 = 0 then (if (l1.length : Int) = a0_1 then (jEE.j0 k l1 ((l2.length : Int) != a0_1) a0_0 a0_1 a0_2 l0_3 l0_4 l0_5 a0_6 l0_7) else (jEE.j0 k l1 true a0_0 a0_1 a0_2 l0_3 l0_4 l0_5 a0_6 l0_7)) else (some t166)) = some r := H
 have A4 := Qz.mk A40
 clear A40
 by_cases c5 : t166 = 0
 ·rw [if_pos c5] at H
  have c5b0 : (t166 == 0) = true := beq_iff_eq.mpr c5
  have c5b1 : (t166 != 0) = false := bne_eq_false_iff_eq.mpr c5
  clear c5
  have HC6 := Qz.mk H
  clear H
  go_enter Try.func21, Try.ntmps21
  go_upto_region 4 with (first | ((with_reducible refine gdt (N := 3) rfl ?_); (try (refine gate_guard (by rfl) ?_; dsimp only)); refine bxe ?hg (N := 3) ?hd (cs := #[.int .u64 a0_0, .int .i64 a0_1, .int .i64 a0_2, .slice A0_3 l0_3.length c0_3, .slice A0_4 l0_4.length c0_4, .slice A0_5 l0_5.length c0_5, .int .i64 a0_6, .slice A0_7 l0_7.length c0_7]) (t := 30) ?hr ?_; (case hd => rfl); (case hg => rfl); (case hr => first | (go_simp; done) | (go_simp; rfl)); intro gb165 hg w7 hbox hb; have n0_ := Qz.mk (bst (by repeat (first | (with_reducible first | exact HB.out | apply ba1 | apply bd_ | apply bd1) | exact HB.out)) hb); have n1_ := Qz.mk (hbox); have n2_ := Qz.mk ((by rw [hg]; exact (bsz (by repeat (first | (with_reducible first | exact HB.out | apply ba1 | apply bd_ | apply bd1) | exact HB.out))) : w.heap.size ≤ gb165)); have n3_ := Qz.mk ((by rw [hg]; exact (bsz (by repeat (first | (with_reducible first | exact HB.out | apply ba1 | apply bd_ | apply bd1) | exact HB.out))) : w.heap.size ≤ gb165)); clear HB; have HB := n0_; have BK165 := n1_; have GW165 := n2_; have GE165 := n3_; clear n0_ n1_ n2_ n3_; clear hb hbox hg; have hcz8_0 : w7.cell? ⟨gb165, 0, none⟩ = some (.int .u64 a0_0) := (bc_ BK165.out 0).trans rfl; have hcz8_1 : w7.cell? ⟨gb165, 1, none⟩ = some (.int .i64 a0_1) := (bc_ BK165.out 1).trans rfl; have hcz8_2 : w7.cell? ⟨gb165, 2, none⟩ = some (.int .i64 a0_2) := (bc_ BK165.out 2).trans rfl; have hcz8_3 : w7.cell? ⟨gb165, 3, none⟩ = some (.slice A0_3 l0_3.length c0_3) := (bc_ BK165.out 3).trans rfl; have hcz8_4 : w7.cell? ⟨gb165, 4, none⟩ = some (.slice A0_4 l0_4.length c0_4) := (bc_ BK165.out 4).trans rfl; have hcz8_5 : w7.cell? ⟨gb165, 5, none⟩ = some (.slice A0_5 l0_5.length c0_5) := (bc_ BK165.out 5).trans rfl; have hcz8_6 : w7.cell? ⟨gb165, 6, none⟩ = some (.int .i64 a0_6) := (bc_ BK165.out 6).trans rfl; have hcz8_7 : w7.cell? ⟨gb165, 7, none⟩ = some (.slice A0_7 l0_7.length c0_7) := (bc_ BK165.out 7).trans rfl; have hfz8_0 := bf_ BK165.out 0; have hfz8_1 := bf_ BK165.out 1; have hfz8_2 := bf_ BK165.out 2; have hfz8_3 := bf_ BK165.out 3; have hfz8_4 := bf_ BK165.out 4; have hfz8_5 := bf_ BK165.out 5; have hfz8_6 := bf_ BK165.out 6; have hfz8_7 := bf_ BK165.out 7) | ((with_reducible refine gcl (f := 12) rfl ?_); refine goesL_ (some 11) rfl rfl Try.func12 (by kernel_rfl) rfl #[.agg #[.int .u64 a0_0, .int .i64 a0_1, .int .i64 a0_2, .slice A0_3 l0_3.length c0_3, .slice A0_4 l0_4.length c0_4, .slice A0_5 l0_5.length c0_5, .int .i64 a0_6, .slice A0_7 l0_7.length c0_7]] rfl (by (try simp only [List.map_toArray, List.map_cons, List.map_nil]); first | done | rfl | (simp only [List.length_drop, List.length_take]; rfl)) ?_; (with_reducible refine (jCk.calls k a0_0 a0_1 a0_2 _ _ l0_3 _ _ l0_4 _ _ l0_5 a0_6 _ _ l0_7 t166 _ ?side1 ?side2 ?side3 ?side4 ?side5 ?side6 ?side7 ?side8 A4.out).mono ?_); (case side1 => repeat (first | exact (Kd.C_below HR0_3.out HB.out) | (with_reducible refine Kd.C_alloc ?_ _) | (with_reducible refine Kd.C_drewN ?_ _) | (with_reducible refine Kd.C_drew ?_))); (case side2 => exact HC0_3.out); (case side3 => repeat (first | exact (Kd.C_below HR0_4.out HB.out) | (with_reducible refine Kd.C_alloc ?_ _) | (with_reducible refine Kd.C_drewN ?_ _) | (with_reducible refine Kd.C_drew ?_))); (case side4 => exact HC0_4.out); (case side5 => repeat (first | exact (Kd.C_below HR0_5.out HB.out) | (with_reducible refine Kd.C_alloc ?_ _) | (with_reducible refine Kd.C_drewN ?_ _) | (with_reducible refine Kd.C_drew ?_))); (case side6 => exact HC0_5.out); (case side7 => repeat (first | exact (Kd.C_below HR0_7.out HB.out) | (with_reducible refine Kd.C_alloc ?_ _) | (with_reducible refine Kd.C_drewN ?_ _) | (with_reducible refine Kd.C_drew ?_))); (case side8 => exact HC0_7.out); rintro e w9 ⟨rfl, hb⟩; refine ⟨_, rfl, ?_⟩; have n0_ := Qz.mk (bkb (g := gb165) (o := .cells #[.int .u64 a0_0, .int .i64 a0_1, .int .i64 a0_2, .slice A0_3 l0_3.length c0_3, .slice A0_4 l0_4.length c0_4, .slice A0_5 l0_5.length c0_5, .int .i64 a0_6, .slice A0_7 l0_7.length c0_7] 30 (0, 0)) (by (with_reducible repeat (first | refine bkn ?_ _ | refine bkd ?_ | refine bka ?_ _)); exact BK165.out) hb); have n1_ := Qz.mk (bst (by repeat (first | (with_reducible first | exact HB.out | apply ba1 | apply bd_ | apply bd1 | refine bset ?_ GE165.out) | exact HB.out)) hb); clear BK165; clear HB; have BK165 := n0_; have HB := n1_; clear n0_ n1_; (try clear hb); (try clear hb2); (try clear hk); (try clear hi)))
  (try simp only [Act.put, List.setIfInBounds_toArray, List.set_cons_zero, List.set_cons_succ])
  go_cut [28] (fun v28 wc => ∃ (kq : Nat) (x28_5 : Bool), v28 = .bool x28_5 ∧ Qz (jEE.j0 kq l1 x28_5 a0_0 a0_1 a0_2 l0_3 l0_4 l0_5 a0_6 l0_7 = some r) ∧ Qz (kq ≤ k) ∧ Qz (wc.heap[gb165]? = some (.cells #[.int .u64 a0_0, .int .i64 a0_1, .int .i64 a0_2, (.slice A0_3 l0_3.length c0_3), (.slice A0_4 l0_4.length c0_4), (.slice A0_5 l0_5.length c0_5), .int .i64 a0_6, (.slice A0_7 l0_7.length c0_7)] 30 (0, 0))) ∧ Qz (Below w.heap.size w wc))
  case first =>
   have H := HC6.out
   clear HC6
   by_cases c10 : (l1.length : Int) = a0_1
   ·rw [if_pos c10] at H
    have c10b0 : ((l1.length : Int) == a0_1) = true := beq_iff_eq.mpr c10
    have c10b1 : ((l1.length : Int) != a0_1) = false := bne_eq_false_iff_eq.mpr c10
    clear c10
    (first | rw [c10b0] | (simp only [i64_w, i32_w]; rw [c10b0]) | skip)
    have H' := Qz.mk H
    clear H
    have hcz11_0 : w9.cell? ⟨gb165, 0, none⟩ = some (.int .u64 a0_0) := (bc_ BK165.out 0).trans rfl
    have hcz11_1 : w9.cell? ⟨gb165, 1, none⟩ = some (.int .i64 a0_1) := (bc_ BK165.out 1).trans rfl
    have hcz11_2 : w9.cell? ⟨gb165, 2, none⟩ = some (.int .i64 a0_2) := (bc_ BK165.out 2).trans rfl
    have hcz11_3 : w9.cell? ⟨gb165, 3, none⟩ = some (.slice A0_3 l0_3.length c0_3) := (bc_ BK165.out 3).trans rfl
    have hcz11_4 : w9.cell? ⟨gb165, 4, none⟩ = some (.slice A0_4 l0_4.length c0_4) := (bc_ BK165.out 4).trans rfl
    have hcz11_5 : w9.cell? ⟨gb165, 5, none⟩ = some (.slice A0_5 l0_5.length c0_5) := (bc_ BK165.out 5).trans rfl
    have hcz11_6 : w9.cell? ⟨gb165, 6, none⟩ = some (.int .i64 a0_6) := (bc_ BK165.out 6).trans rfl
    have hcz11_7 : w9.cell? ⟨gb165, 7, none⟩ = some (.slice A0_7 l0_7.length c0_7) := (bc_ BK165.out 7).trans rfl
    have hfz11_0 := bf_ BK165.out 0
    have hfz11_1 := bf_ BK165.out 1
    have hfz11_2 := bf_ BK165.out 2
    have hfz11_3 := bf_ BK165.out 3
    have hfz11_4 := bf_ BK165.out 4
    have hfz11_5 := bf_ BK165.out 5
    have hfz11_6 := bf_ BK165.out 6
    have hfz11_7 := bf_ BK165.out 7
    go_wp2
    go_meet
    case rel => exact ⟨_, (((l2.length : Int) != a0_1)), (by first | rfl | (simp; done) | (simp [*]; done)), H', ⟨by first | omega | exact Nat.le_refl _⟩, ⟨by (with_reducible repeat (first | refine bkn ?_ _ | refine bkd ?_ | refine bka ?_ _)); exact BK165.out⟩, ⟨by repeat (first | (with_reducible first | exact HB.out | apply ba1 | apply bd_ | apply bd1 | refine bset ?_ GE165.out) | exact HB.out)⟩⟩
   ·rw [if_neg c10] at H
    have c10b0 : ((l1.length : Int) == a0_1) = false := beq_eq_false_iff_ne.mpr c10
    have c10b1 : ((l1.length : Int) != a0_1) = true := bne_iff_ne.mpr c10
    (first | rw [c10b0] | (simp only [i64_w, i32_w]; rw [c10b0]) | skip)
    have H' := Qz.mk H
    clear H
    have hcz12_0 : w9.cell? ⟨gb165, 0, none⟩ = some (.int .u64 a0_0) := (bc_ BK165.out 0).trans rfl
    have hcz12_1 : w9.cell? ⟨gb165, 1, none⟩ = some (.int .i64 a0_1) := (bc_ BK165.out 1).trans rfl
    have hcz12_2 : w9.cell? ⟨gb165, 2, none⟩ = some (.int .i64 a0_2) := (bc_ BK165.out 2).trans rfl
    have hcz12_3 : w9.cell? ⟨gb165, 3, none⟩ = some (.slice A0_3 l0_3.length c0_3) := (bc_ BK165.out 3).trans rfl
    have hcz12_4 : w9.cell? ⟨gb165, 4, none⟩ = some (.slice A0_4 l0_4.length c0_4) := (bc_ BK165.out 4).trans rfl
    have hcz12_5 : w9.cell? ⟨gb165, 5, none⟩ = some (.slice A0_5 l0_5.length c0_5) := (bc_ BK165.out 5).trans rfl
    have hcz12_6 : w9.cell? ⟨gb165, 6, none⟩ = some (.int .i64 a0_6) := (bc_ BK165.out 6).trans rfl
    have hcz12_7 : w9.cell? ⟨gb165, 7, none⟩ = some (.slice A0_7 l0_7.length c0_7) := (bc_ BK165.out 7).trans rfl
    have hfz12_0 := bf_ BK165.out 0
    have hfz12_1 := bf_ BK165.out 1
    have hfz12_2 := bf_ BK165.out 2
    have hfz12_3 := bf_ BK165.out 3
    have hfz12_4 := bf_ BK165.out 4
    have hfz12_5 := bf_ BK165.out 5
    have hfz12_6 := bf_ BK165.out 6
    have hfz12_7 := bf_ BK165.out 7
    go_wp2
    go_meet
    case rel => exact ⟨_, (true), (by first | rfl | (simp; done) | (simp [*]; done)), H', ⟨by first | omega | exact Nat.le_refl _⟩, ⟨by (with_reducible repeat (first | refine bkn ?_ _ | refine bkd ?_ | refine bka ?_ _)); exact BK165.out⟩, ⟨by repeat (first | (with_reducible first | exact HB.out | apply ba1 | apply bd_ | apply bd1 | refine bset ?_ GE165.out) | exact HB.out)⟩⟩
  case rest =>
   clear HC6
   try clear c1
   try clear c2
   try clear p2
   try clear c5
   try clear c5b0
   try clear c5b1
   try clear c10
   try clear c10b0
   try clear c10b1
   try clear c12
   try clear hcz11_0
   try clear hcz11_1
   try clear hcz11_2
   try clear hcz11_3
   try clear hcz11_4
   try clear hcz11_5
   try clear hcz11_6
   try clear hcz11_7
   try clear hcz12_0
   try clear hcz12_1
   try clear hcz12_2
   try clear hcz12_3
   try clear hcz12_4
   try clear hcz12_5
   try clear hcz12_6
   try clear hcz12_7
   try clear hcz8_0
   try clear hcz8_1
   try clear hcz8_2
   try clear hcz8_3
   try clear hcz8_4
   try clear hcz8_5
   try clear hcz8_6
   try clear hcz8_7
   try clear hfz11_0
   try clear hfz11_1
   try clear hfz11_2
   try clear hfz11_3
   try clear hfz11_4
   try clear hfz11_5
   try clear hfz11_6
   try clear hfz11_7
   try clear hfz12_0
   try clear hfz12_1
   try clear hfz12_2
   try clear hfz12_3
   try clear hfz12_4
   try clear hfz12_5
   try clear hfz12_6
   try clear hfz12_7
   try clear hfz8_0
   try clear hfz8_1
   try clear hfz8_2
   try clear hfz8_3
   try clear hfz8_4
   try clear hfz8_5
   try clear hfz8_6
   try clear hfz8_7
   obtain ⟨kq, x28_5, rfl, HA, HJ5, BK165, HB⟩ := hcut
   cases kq with
   | zero => exact absurd HA.out (by simp [jEE.j0])
   | succ kj5 =>
    have H := HA.out
    clear HA
    simp only [jEE.j0] at H
    by_cases c13 : x28_5 = true
    ·subst c13
     have H1 : (some 2) = some r := by rw [if_pos rfl] at H; exact H
     clear H
     have H := H1
     clear H1
     obtain rfl := Option.some.inj H
     go_wp2
     go_ret
     exact ⟨by first | rfl | (simp [ewn, ews] <;> rfl) | (simp [*, ewn, ews] <;> rfl), by repeat (first | (with_reducible first | exact HB.out | apply ba1 | apply bd_ | apply bd1 | refine bset ?_ GE165.out) | exact HB.out)⟩
    ·replace c13 := Bool.eq_false_iff.mpr c13
     subst c13
     have H1 : (jEE.l0 kj5 l1 (l1.length : Int) 0 a0_0 a0_1 a0_2 l0_3 l0_4 l0_5 a0_6 l0_7) = some r := by rw [if_neg (show ¬ (false = true) by decide)] at H; exact H
     clear H
     have H := H1
     clear H1
     have H' := Qz.mk H
     clear H
     go_wp2
     go_loopg [31] kj5 (fun kq v31 w' => ∃ (x31_2 : Int), v31 = .int .i64 x31_2 ∧ Qz (jEE.l0 kq l1 (l1.length : Int) x31_2 a0_0 a0_1 a0_2 l0_3 l0_4 l0_5 a0_6 l0_7 = some r) ∧ Qz (kq ≤ kj5) ∧ Qz (w'.heap[gb165]? = some (.cells #[.int .u64 a0_0, .int .i64 a0_1, .int .i64 a0_2, (.slice A0_3 l0_3.length c0_3), (.slice A0_4 l0_4.length c0_4), (.slice A0_5 l0_5.length c0_5), .int .i64 a0_6, (.slice A0_7 l0_7.length c0_7)] 30 (0, 0))) ∧ Qz (Below w.heap.size w w'))
     case atStart => exact ⟨(0), (by first | rfl | (simp; done) | (simp [*]; done)), H', ⟨Nat.le_refl _⟩, ⟨by (with_reducible repeat (first | refine bkn ?_ _ | refine bkd ?_ | refine bka ?_ _)); exact BK165.out⟩, ⟨by repeat (first | (with_reducible first | exact HB.out | apply ba1 | apply bd_ | apply bd1 | refine bset ?_ GE165.out) | exact HB.out)⟩⟩
     case round =>
      clear H'
      try clear c1
      try clear c2
      try clear p2
      try clear c5
      try clear c5b0
      try clear c5b1
      try clear c10
      try clear c10b0
      try clear c10b1
      try clear c12
      try clear c13
      try clear hcz11_0
      try clear hcz11_1
      try clear hcz11_2
      try clear hcz11_3
      try clear hcz11_4
      try clear hcz11_5
      try clear hcz11_6
      try clear hcz11_7
      try clear hcz12_0
      try clear hcz12_1
      try clear hcz12_2
      try clear hcz12_3
      try clear hcz12_4
      try clear hcz12_5
      try clear hcz12_6
      try clear hcz12_7
      try clear hcz8_0
      try clear hcz8_1
      try clear hcz8_2
      try clear hcz8_3
      try clear hcz8_4
      try clear hcz8_5
      try clear hcz8_6
      try clear hcz8_7
      try clear hfz11_0
      try clear hfz11_1
      try clear hfz11_2
      try clear hfz11_3
      try clear hfz11_4
      try clear hfz11_5
      try clear hfz11_6
      try clear hfz11_7
      try clear hfz12_0
      try clear hfz12_1
      try clear hfz12_2
      try clear hfz12_3
      try clear hfz12_4
      try clear hfz12_5
      try clear hfz12_6
      try clear hfz12_7
      try clear hfz8_0
      try clear hfz8_1
      try clear hfz8_2
      try clear hfz8_3
      try clear hfz8_4
      try clear hfz8_5
      try clear hfz8_6
      try clear hfz8_7
      try clear p2
      obtain ⟨x31_2, rfl, HA, HK2, BK165, HB⟩ := hrel
      cases gk with
      | zero => exact absurd HA.out (by simp [jEE.l0])
      | succ k2 =>
       have H := HA.out
       clear HA
       simp only [jEE.l0] at H
       by_cases c14 : x31_2 < (l1.length : Int)
       ·rw [if_pos c14] at H
        have c14b0 : decide (x31_2 < (l1.length : Int)) = true := decide_eq_true c14
        clear c14
        by_cases c15 : 0 ≤ x31_2
        ·rw [if_pos c15] at H
         have c15b0 : decide (0 ≤ x31_2) = true := decide_eq_true c15
         clear c15
         by_cases c16 : x31_2 < (l1.length : Int)
         ·rw [if_pos c16] at H
          have c16b0 : decide (x31_2 < (l1.length : Int)) = true := decide_eq_true c16
          clear c16
          by_cases c17 : ((rd_M5 l1 x31_2).length : Int) = a0_1
          ·rw [if_pos c17] at H
           have c17b0 : (((rd_M5 l1 x31_2).length : Int) == a0_1) = true := beq_iff_eq.mpr c17
           have c17b1 : (((rd_M5 l1 x31_2).length : Int) != a0_1) = false := bne_eq_false_iff_eq.mpr c17
           clear c17
           have H' := Qz.mk H
           clear H
           have p167 : 0 ≤ (x31_2 : Int) := of_decide_eq_true (by first | (with_reducible assumption) | assumption)
           have q167 : x31_2 < (l1.length : Int) := of_decide_eq_true (by first | (with_reducible assumption) | assumption)
           obtain ⟨ad167, A167_0, c167_0, e167, hx167_0, hl167_0, hi167_0⟩ := at_M5 HR1.out x31_2 p167 q167
           cases e167
           replace hx167_0 := (HB.out.cell (World.block_lt_of_cell? w _ hx167_0)).trans hx167_0
           have HR167_0 := Qz.mk hi167_0
           have HC167_0 := Qz.mk hl167_0
           clear hi167_0 hl167_0
           replace p167 := eq_true p167
           replace q167 := eq_true q167
           have hcz18_0 : wr.cell? ⟨gb165, 0, none⟩ = some (.int .u64 a0_0) := (bc_ BK165.out 0).trans rfl
           have hcz18_1 : wr.cell? ⟨gb165, 1, none⟩ = some (.int .i64 a0_1) := (bc_ BK165.out 1).trans rfl
           have hcz18_2 : wr.cell? ⟨gb165, 2, none⟩ = some (.int .i64 a0_2) := (bc_ BK165.out 2).trans rfl
           have hcz18_3 : wr.cell? ⟨gb165, 3, none⟩ = some (.slice A0_3 l0_3.length c0_3) := (bc_ BK165.out 3).trans rfl
           have hcz18_4 : wr.cell? ⟨gb165, 4, none⟩ = some (.slice A0_4 l0_4.length c0_4) := (bc_ BK165.out 4).trans rfl
           have hcz18_5 : wr.cell? ⟨gb165, 5, none⟩ = some (.slice A0_5 l0_5.length c0_5) := (bc_ BK165.out 5).trans rfl
           have hcz18_6 : wr.cell? ⟨gb165, 6, none⟩ = some (.int .i64 a0_6) := (bc_ BK165.out 6).trans rfl
           have hcz18_7 : wr.cell? ⟨gb165, 7, none⟩ = some (.slice A0_7 l0_7.length c0_7) := (bc_ BK165.out 7).trans rfl
           have hfz18_0 := bf_ BK165.out 0
           have hfz18_1 := bf_ BK165.out 1
           have hfz18_2 := bf_ BK165.out 2
           have hfz18_3 := bf_ BK165.out 3
           have hfz18_4 := bf_ BK165.out 4
           have hfz18_5 := bf_ BK165.out 5
           have hfz18_6 := bf_ BK165.out 6
           have hfz18_7 := bf_ BK165.out 7
           go_wp2
           go_roundg k2
           case measure => have := HJ5.out; have := HK2.out; omega
           case rel => exact ⟨(wrap64 (x31_2 + 1)), (by first | rfl | (simp; done) | (simp [*]; done)), H', ⟨by have := HJ5.out; have := HK2.out; omega⟩, ⟨by (with_reducible repeat (first | refine bkn ?_ _ | refine bkd ?_ | refine bka ?_ _)); exact BK165.out⟩, ⟨by repeat (first | (with_reducible first | exact HB.out | apply ba1 | apply bd_ | apply bd1 | refine bset ?_ GE165.out) | exact HB.out)⟩⟩
          ·rw [if_neg c17] at H
           have c17b0 : (((rd_M5 l1 x31_2).length : Int) == a0_1) = false := beq_eq_false_iff_ne.mpr c17
           have c17b1 : (((rd_M5 l1 x31_2).length : Int) != a0_1) = true := bne_iff_ne.mpr c17
           obtain rfl := Option.some.inj H
           have p167 : 0 ≤ (x31_2 : Int) := of_decide_eq_true (by first | (with_reducible assumption) | assumption)
           have q167 : x31_2 < (l1.length : Int) := of_decide_eq_true (by first | (with_reducible assumption) | assumption)
           obtain ⟨ad167, A167_0, c167_0, e167, hx167_0, hl167_0, hi167_0⟩ := at_M5 HR1.out x31_2 p167 q167
           cases e167
           replace hx167_0 := (HB.out.cell (World.block_lt_of_cell? w _ hx167_0)).trans hx167_0
           have HR167_0 := Qz.mk hi167_0
           have HC167_0 := Qz.mk hl167_0
           clear hi167_0 hl167_0
           replace p167 := eq_true p167
           replace q167 := eq_true q167
           have hcz19_0 : wr.cell? ⟨gb165, 0, none⟩ = some (.int .u64 a0_0) := (bc_ BK165.out 0).trans rfl
           have hcz19_1 : wr.cell? ⟨gb165, 1, none⟩ = some (.int .i64 a0_1) := (bc_ BK165.out 1).trans rfl
           have hcz19_2 : wr.cell? ⟨gb165, 2, none⟩ = some (.int .i64 a0_2) := (bc_ BK165.out 2).trans rfl
           have hcz19_3 : wr.cell? ⟨gb165, 3, none⟩ = some (.slice A0_3 l0_3.length c0_3) := (bc_ BK165.out 3).trans rfl
           have hcz19_4 : wr.cell? ⟨gb165, 4, none⟩ = some (.slice A0_4 l0_4.length c0_4) := (bc_ BK165.out 4).trans rfl
           have hcz19_5 : wr.cell? ⟨gb165, 5, none⟩ = some (.slice A0_5 l0_5.length c0_5) := (bc_ BK165.out 5).trans rfl
           have hcz19_6 : wr.cell? ⟨gb165, 6, none⟩ = some (.int .i64 a0_6) := (bc_ BK165.out 6).trans rfl
           have hcz19_7 : wr.cell? ⟨gb165, 7, none⟩ = some (.slice A0_7 l0_7.length c0_7) := (bc_ BK165.out 7).trans rfl
           have hfz19_0 := bf_ BK165.out 0
           have hfz19_1 := bf_ BK165.out 1
           have hfz19_2 := bf_ BK165.out 2
           have hfz19_3 := bf_ BK165.out 3
           have hfz19_4 := bf_ BK165.out 4
           have hfz19_5 := bf_ BK165.out 5
           have hfz19_6 := bf_ BK165.out 6
           have hfz19_7 := bf_ BK165.out 7
           go_wp2
           go_ret
           exact ⟨by first | rfl | (simp [ewn, ews] <;> rfl) | (simp [*, ewn, ews] <;> rfl), by repeat (first | (with_reducible first | exact HB.out | apply ba1 | apply bd_ | apply bd1 | refine bset ?_ GE165.out) | exact HB.out)⟩
         ·rw [if_neg c16] at H
          exact absurd H (by simp)
        ·rw [if_neg c15] at H
         exact absurd H (by simp)
       ·rw [if_neg c14] at H
        have c14b0 : decide (x31_2 < (l1.length : Int)) = false := decide_eq_false c14
        clear c14
        by_cases c20 : a0_6 = 1048576
        ·rw [if_pos c20] at H
         have c20b0 : (a0_6 == 1048576) = true := beq_iff_eq.mpr c20
         have c20b1 : (a0_6 != 1048576) = false := bne_eq_false_iff_eq.mpr c20
         clear c20
         obtain rfl := Option.some.inj H
         have hcz21_0 : wr.cell? ⟨gb165, 0, none⟩ = some (.int .u64 a0_0) := (bc_ BK165.out 0).trans rfl
         have hcz21_1 : wr.cell? ⟨gb165, 1, none⟩ = some (.int .i64 a0_1) := (bc_ BK165.out 1).trans rfl
         have hcz21_2 : wr.cell? ⟨gb165, 2, none⟩ = some (.int .i64 a0_2) := (bc_ BK165.out 2).trans rfl
         have hcz21_3 : wr.cell? ⟨gb165, 3, none⟩ = some (.slice A0_3 l0_3.length c0_3) := (bc_ BK165.out 3).trans rfl
         have hcz21_4 : wr.cell? ⟨gb165, 4, none⟩ = some (.slice A0_4 l0_4.length c0_4) := (bc_ BK165.out 4).trans rfl
         have hcz21_5 : wr.cell? ⟨gb165, 5, none⟩ = some (.slice A0_5 l0_5.length c0_5) := (bc_ BK165.out 5).trans rfl
         have hcz21_6 : wr.cell? ⟨gb165, 6, none⟩ = some (.int .i64 a0_6) := (bc_ BK165.out 6).trans rfl
         have hcz21_7 : wr.cell? ⟨gb165, 7, none⟩ = some (.slice A0_7 l0_7.length c0_7) := (bc_ BK165.out 7).trans rfl
         have hfz21_0 := bf_ BK165.out 0
         have hfz21_1 := bf_ BK165.out 1
         have hfz21_2 := bf_ BK165.out 2
         have hfz21_3 := bf_ BK165.out 3
         have hfz21_4 := bf_ BK165.out 4
         have hfz21_5 := bf_ BK165.out 5
         have hfz21_6 := bf_ BK165.out 6
         have hfz21_7 := bf_ BK165.out 7
         go_wp2
         go_ret
         exact ⟨by first | rfl | (simp [ewn, ews] <;> rfl) | (simp [*, ewn, ews] <;> rfl), by repeat (first | (with_reducible first | exact HB.out | apply ba1 | apply bd_ | apply bd1 | refine bset ?_ GE165.out) | exact HB.out)⟩
        ·rw [if_neg c20] at H
         have c20b0 : (a0_6 == 1048576) = false := beq_eq_false_iff_ne.mpr c20
         have c20b1 : (a0_6 != 1048576) = true := bne_iff_ne.mpr c20
         obtain rfl := Option.some.inj H
         have hcz22_0 : wr.cell? ⟨gb165, 0, none⟩ = some (.int .u64 a0_0) := (bc_ BK165.out 0).trans rfl
         have hcz22_1 : wr.cell? ⟨gb165, 1, none⟩ = some (.int .i64 a0_1) := (bc_ BK165.out 1).trans rfl
         have hcz22_2 : wr.cell? ⟨gb165, 2, none⟩ = some (.int .i64 a0_2) := (bc_ BK165.out 2).trans rfl
         have hcz22_3 : wr.cell? ⟨gb165, 3, none⟩ = some (.slice A0_3 l0_3.length c0_3) := (bc_ BK165.out 3).trans rfl
         have hcz22_4 : wr.cell? ⟨gb165, 4, none⟩ = some (.slice A0_4 l0_4.length c0_4) := (bc_ BK165.out 4).trans rfl
         have hcz22_5 : wr.cell? ⟨gb165, 5, none⟩ = some (.slice A0_5 l0_5.length c0_5) := (bc_ BK165.out 5).trans rfl
         have hcz22_6 : wr.cell? ⟨gb165, 6, none⟩ = some (.int .i64 a0_6) := (bc_ BK165.out 6).trans rfl
         have hcz22_7 : wr.cell? ⟨gb165, 7, none⟩ = some (.slice A0_7 l0_7.length c0_7) := (bc_ BK165.out 7).trans rfl
         have hfz22_0 := bf_ BK165.out 0
         have hfz22_1 := bf_ BK165.out 1
         have hfz22_2 := bf_ BK165.out 2
         have hfz22_3 := bf_ BK165.out 3
         have hfz22_4 := bf_ BK165.out 4
         have hfz22_5 := bf_ BK165.out 5
         have hfz22_6 := bf_ BK165.out 6
         have hfz22_7 := bf_ BK165.out 7
         go_wp2
         go_ret
         exact ⟨by first | rfl | (simp [ewn, ews] <;> rfl) | (simp [*, ewn, ews] <;> rfl), by repeat (first | (with_reducible first | exact HB.out | apply ba1 | apply bd_ | apply bd1 | refine bset ?_ GE165.out) | exact HB.out)⟩
 ·rw [if_neg c5] at H
  have c5b0 : (t166 == 0) = false := beq_eq_false_iff_ne.mpr c5
  have c5b1 : (t166 != 0) = true := bne_iff_ne.mpr c5
  obtain rfl := Option.some.inj H
  go_enter Try.func21, Try.ntmps21
  go_wp2_with (first | ((with_reducible refine gdt (N := 3) rfl ?_); (try (refine gate_guard (by rfl) ?_; dsimp only)); refine bxe ?hg (N := 3) ?hd (cs := #[.int .u64 a0_0, .int .i64 a0_1, .int .i64 a0_2, .slice A0_3 l0_3.length c0_3, .slice A0_4 l0_4.length c0_4, .slice A0_5 l0_5.length c0_5, .int .i64 a0_6, .slice A0_7 l0_7.length c0_7]) (t := 30) ?hr ?_; (case hd => rfl); (case hg => rfl); (case hr => first | (go_simp; done) | (go_simp; rfl)); intro gb165 hg w23 hbox hb; have n0_ := Qz.mk (bst (by repeat (first | (with_reducible first | exact HB.out | apply ba1 | apply bd_ | apply bd1) | exact HB.out)) hb); have n1_ := Qz.mk (hbox); have n2_ := Qz.mk ((by rw [hg]; exact (bsz (by repeat (first | (with_reducible first | exact HB.out | apply ba1 | apply bd_ | apply bd1) | exact HB.out))) : w.heap.size ≤ gb165)); have n3_ := Qz.mk ((by rw [hg]; exact (bsz (by repeat (first | (with_reducible first | exact HB.out | apply ba1 | apply bd_ | apply bd1) | exact HB.out))) : w.heap.size ≤ gb165)); clear HB; have HB := n0_; have BK165 := n1_; have GW165 := n2_; have GE165 := n3_; clear n0_ n1_ n2_ n3_; clear hb hbox hg; have hcz24_0 : w23.cell? ⟨gb165, 0, none⟩ = some (.int .u64 a0_0) := (bc_ BK165.out 0).trans rfl; have hcz24_1 : w23.cell? ⟨gb165, 1, none⟩ = some (.int .i64 a0_1) := (bc_ BK165.out 1).trans rfl; have hcz24_2 : w23.cell? ⟨gb165, 2, none⟩ = some (.int .i64 a0_2) := (bc_ BK165.out 2).trans rfl; have hcz24_3 : w23.cell? ⟨gb165, 3, none⟩ = some (.slice A0_3 l0_3.length c0_3) := (bc_ BK165.out 3).trans rfl; have hcz24_4 : w23.cell? ⟨gb165, 4, none⟩ = some (.slice A0_4 l0_4.length c0_4) := (bc_ BK165.out 4).trans rfl; have hcz24_5 : w23.cell? ⟨gb165, 5, none⟩ = some (.slice A0_5 l0_5.length c0_5) := (bc_ BK165.out 5).trans rfl; have hcz24_6 : w23.cell? ⟨gb165, 6, none⟩ = some (.int .i64 a0_6) := (bc_ BK165.out 6).trans rfl; have hcz24_7 : w23.cell? ⟨gb165, 7, none⟩ = some (.slice A0_7 l0_7.length c0_7) := (bc_ BK165.out 7).trans rfl; have hfz24_0 := bf_ BK165.out 0; have hfz24_1 := bf_ BK165.out 1; have hfz24_2 := bf_ BK165.out 2; have hfz24_3 := bf_ BK165.out 3; have hfz24_4 := bf_ BK165.out 4; have hfz24_5 := bf_ BK165.out 5; have hfz24_6 := bf_ BK165.out 6; have hfz24_7 := bf_ BK165.out 7) | ((with_reducible refine gcl (f := 12) rfl ?_); refine goesL_ (some 11) rfl rfl Try.func12 (by kernel_rfl) rfl #[.agg #[.int .u64 a0_0, .int .i64 a0_1, .int .i64 a0_2, .slice A0_3 l0_3.length c0_3, .slice A0_4 l0_4.length c0_4, .slice A0_5 l0_5.length c0_5, .int .i64 a0_6, .slice A0_7 l0_7.length c0_7]] rfl (by (try simp only [List.map_toArray, List.map_cons, List.map_nil]); first | done | rfl | (simp only [List.length_drop, List.length_take]; rfl)) ?_; (with_reducible refine (jCk.calls k a0_0 a0_1 a0_2 _ _ l0_3 _ _ l0_4 _ _ l0_5 a0_6 _ _ l0_7 t166 _ ?side1 ?side2 ?side3 ?side4 ?side5 ?side6 ?side7 ?side8 A4.out).mono ?_); (case side1 => repeat (first | exact (Kd.C_below HR0_3.out HB.out) | (with_reducible refine Kd.C_alloc ?_ _) | (with_reducible refine Kd.C_drewN ?_ _) | (with_reducible refine Kd.C_drew ?_))); (case side2 => exact HC0_3.out); (case side3 => repeat (first | exact (Kd.C_below HR0_4.out HB.out) | (with_reducible refine Kd.C_alloc ?_ _) | (with_reducible refine Kd.C_drewN ?_ _) | (with_reducible refine Kd.C_drew ?_))); (case side4 => exact HC0_4.out); (case side5 => repeat (first | exact (Kd.C_below HR0_5.out HB.out) | (with_reducible refine Kd.C_alloc ?_ _) | (with_reducible refine Kd.C_drewN ?_ _) | (with_reducible refine Kd.C_drew ?_))); (case side6 => exact HC0_5.out); (case side7 => repeat (first | exact (Kd.C_below HR0_7.out HB.out) | (with_reducible refine Kd.C_alloc ?_ _) | (with_reducible refine Kd.C_drewN ?_ _) | (with_reducible refine Kd.C_drew ?_))); (case side8 => exact HC0_7.out); rintro e w25 ⟨rfl, hb⟩; refine ⟨_, rfl, ?_⟩; have n0_ := Qz.mk (bkb (g := gb165) (o := .cells #[.int .u64 a0_0, .int .i64 a0_1, .int .i64 a0_2, .slice A0_3 l0_3.length c0_3, .slice A0_4 l0_4.length c0_4, .slice A0_5 l0_5.length c0_5, .int .i64 a0_6, .slice A0_7 l0_7.length c0_7] 30 (0, 0)) (by (with_reducible repeat (first | refine bkn ?_ _ | refine bkd ?_ | refine bka ?_ _)); exact BK165.out) hb); have n1_ := Qz.mk (bst (by repeat (first | (with_reducible first | exact HB.out | apply ba1 | apply bd_ | apply bd1 | refine bset ?_ GE165.out) | exact HB.out)) hb); clear BK165; clear HB; have BK165 := n0_; have HB := n1_; clear n0_ n1_; (try clear hb); (try clear hb2); (try clear hk); (try clear hi)))
  go_ret
  exact ⟨by first | rfl | (simp [ewn, ews] <;> rfl) | (simp [*, ewn, ews] <;> rfl), by repeat (first | (with_reducible first | exact HB.out | apply ba1 | apply bd_ | apply bd1 | refine bset ?_ GE165.out) | exact HB.out)⟩
end
end Go.Proofs.Ytkaikgbcnmfppaa.Nb
