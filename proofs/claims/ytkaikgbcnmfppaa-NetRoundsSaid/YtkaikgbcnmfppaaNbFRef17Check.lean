/- A function of the program, with its walk: jCk. (Made by this session's own program out of what the kit's print wrote; no text of the print.) -/
import Derived.Test.YtkaikgbcnmfppaaNb0
import Derived.Test.YtkaikgbcnmfppaaNbFRef17Ahead
import Derived.Test.YtkaikgbcnmfppaaNbFRef4Rising
import Derived.Test.YtkaikgbcnmfppaaNbFRef4Corrupted
namespace Go.Proofs.Ytkaikgbcnmfppaa.Nb
open Go.RowKit Go.Proofs.YtkaikgbcnmfppaaW.PrintWords Go.Proofs.YtkaikgbcnmfppaaW.PrintLast Go.Proofs.YtkaikgbcnmfppaaW.PrintMore
attribute [local go_sem] max2_int min2_int max_two min_two max_three min_three max_four min_four   -- for this text's walks alone
set_option linter.unusedVariables false
set_option linter.unusedSimpArgs false

noncomputable section
/-! ### jCk: function 12 -/
mutual
def jCk.j0 : Nat → Bool → Int → Int → Int → List Int → List (S72) → List (List Int) → Int → List (S77) → Option (Int)
 | 0, _, _, _, _, _, _, _, _, _ => none
 | k + 1, x30, x132000, x132001, x132002, x132003, x132004, x132005, x132006, x132007 => if x30 = true then (some 2) else (if (x132004.length : Int) > 65536 then (some 3) else (jCk.l0 k x132004 (x132004.length : Int) 0 x132000 x132001 x132002 x132003 x132004 x132005 x132006 x132007))
def jCk.l0 : Nat → List (S72) → Int → Int → Int → Int → Int → List Int → List (S72) → List (List Int) → Int → List (S77) → Option (Int)
 | 0, _, _, _, _, _, _, _, _, _, _, _ => none
 | k + 1, x36, x37, x38, x132000, x132001, x132002, x132003, x132004, x132005, x132006, x132007 => if x38 < x37 then (if 0 ≤ x38 then (if x38 < (x36.length : Int) then ((jIs.f k x132003 ((r72 x36 x38).f1)).bind fun t135 => (if t135 = true then (if ((r72 x36 x38).f2) < 0 then (jCk.j2 k x38 x36 x37 x38 true x132000 x132001 x132002 x132003 x132004 x132005 x132006 x132007 ((r72 x36 x38).f0) ((r72 x36 x38).f1) ((r72 x36 x38).f2) ((r72 x36 x38).f3) ((r72 x36 x38).f4)) else (if ((r72 x36 x38).f2) > x132001 then (jCk.j2 k x38 x36 x37 x38 true x132000 x132001 x132002 x132003 x132004 x132005 x132006 x132007 ((r72 x36 x38).f0) ((r72 x36 x38).f1) ((r72 x36 x38).f2) ((r72 x36 x38).f3) ((r72 x36 x38).f4)) else (if ((r72 x36 x38).f2) = ((r72 x36 x38).f1) then (jCk.j2 k x38 x36 x37 x38 true x132000 x132001 x132002 x132003 x132004 x132005 x132006 x132007 ((r72 x36 x38).f0) ((r72 x36 x38).f1) ((r72 x36 x38).f2) ((r72 x36 x38).f3) ((r72 x36 x38).f4)) else (jCk.j2 k x38 x36 x37 x38 (decide (((r72 x36 x38).f0) < 1)) x132000 x132001 x132002 x132003 x132004 x132005 x132006 x132007 ((r72 x36 x38).f0) ((r72 x36 x38).f1) ((r72 x36 x38).f2) ((r72 x36 x38).f3) ((r72 x36 x38).f4))))) else (jCk.j2 k x38 x36 x37 x38 true x132000 x132001 x132002 x132003 x132004 x132005 x132006 x132007 ((r72 x36 x38).f0) ((r72 x36 x38).f1) ((r72 x36 x38).f2) ((r72 x36 x38).f3) ((r72 x36 x38).f4)))) else (none)) else (none)) else (some 0)
def jCk.j2 : Nat → Int → List (S72) → Int → Int → Bool → Int → Int → Int → List Int → List (S72) → List (List Int) → Int → List (S77) → Int → Int → Int → Bool → List Int → Option (Int)
 | 0, _, _, _, _, _, _, _, _, _, _, _, _, _, _, _, _, _, _ => none
 | k + 1, x4, x36, x37, x38, x73, x132000, x132001, x132002, x132003, x132004, x132005, x132006, x132007, x135000, x135001, x135002, x135003, x135004 => if x73 = true then (some 2) else (if (x135004.length : Int) > 65536 then (some 3) else (if 0 ≤ x4 then (if x4 ≤ (x132004.length : Int) then ((jAh.f k (x132004.take (x4 : Int).toNat) x135000 x135001 x135002 x135003 x135004).bind fun t140 => (if t140 = true then (some 6) else (jCk.l0 k x36 x37 (wrap64 (x38 + 1)) x132000 x132001 x132002 x132003 x132004 x132005 x132006 x132007))) else (none)) else (none)))
end
def jCk.f (k : Nat) (a0_0 : Int) (a0_1 : Int) (a0_2 : Int) (l0_3 : List Int) (l0_4 : List (S72)) (l0_5 : List (List Int)) (a0_6 : Int) (l0_7 : List (S77)) : Option (Int) := (j4C.f k a0_0 a0_1 a0_2 l0_3).bind fun t132 => (if t132 = 0 then (if (l0_5.length : Int) = a0_1 then (if a0_6 < 0 then (jCk.j0 k true a0_0 a0_1 a0_2 l0_3 l0_4 l0_5 a0_6 l0_7) else (jCk.j0 k (decide (a0_6 > 1048576)) a0_0 a0_1 a0_2 l0_3 l0_4 l0_5 a0_6 l0_7)) else (jCk.j0 k true a0_0 a0_1 a0_2 l0_3 l0_4 l0_5 a0_6 l0_7)) else (some t132))
set_option maxHeartbeats 8000000 in
set_option maxRecDepth 100000 in
theorem jCk.calls (k : Nat) (a0_0 : Int) (a0_1 : Int) (a0_2 : Int) (A0_3 : Option Addr) (c0_3 : Nat) (l0_3 : List Int) (A0_4 : Option Addr) (c0_4 : Nat) (l0_4 : List (S72)) (A0_5 : Option Addr) (c0_5 : Nat) (l0_5 : List (List Int)) (a0_6 : Int) (A0_7 : Option Addr) (c0_7 : Nat) (l0_7 : List (S77)) (r : Int) (w : World) (hr0_3 : Kd.C (Kd.int .i64) w A0_3 l0_3.length l0_3) (hc0_3 : l0_3.length ≤ c0_3) (hr0_4 : Kd.C k72 w A0_4 l0_4.length l0_4) (hc0_4 : l0_4.length ≤ c0_4) (hr0_5 : Kd.C (Kd.slice 22 (Kd.int .u64)) w A0_5 l0_5.length l0_5) (hc0_5 : l0_5.length ≤ c0_5) (hr0_7 : Kd.C k77 w A0_7 l0_7.length l0_7) (hc0_7 : l0_7.length ≤ c0_7) (h : jCk.f k a0_0 a0_1 a0_2 l0_3 l0_4 l0_5 a0_6 l0_7 = some r) :
  Calls Try.prog 12 #[.agg #[.int .u64 a0_0, .int .i64 a0_1, .int .i64 a0_2, .slice A0_3 l0_3.length c0_3, .slice A0_4 l0_4.length c0_4, .slice A0_5 l0_5.length c0_5, .int .i64 a0_6, .slice A0_7 l0_7.length c0_7]] w fun e w' => e = .returned (.int .i64 r) ∧ Below w.heap.size w w' := by
 have hu30 := Try.underlying30
 have hu24 := Try.underlying24
 have hu72 := Try.underlying72
 have HR0_3 := Qz.mk hr0_3
 have HC0_3 := Qz.mk hc0_3
 clear hr0_3 hc0_3
 have HR0_4 := Qz.mk hr0_4
 have HC0_4 := Qz.mk hc0_4
 clear hr0_4 hc0_4
 have HR0_5 := Qz.mk hr0_5
 have HC0_5 := Qz.mk hc0_5
 clear hr0_5 hc0_5
 have HR0_7 := Qz.mk hr0_7
 have HC0_7 := Qz.mk hc0_7
 clear hr0_7 hc0_7
 have HB := Qz.mk (Below.refl w.heap.size w)
 have H : ((j4C.f k a0_0 a0_1 a0_2 l0_3).bind fun t132 => (if t132 = 0 then (if (l0_5.length : Int) = a0_1 then (if a0_6 < 0 then (jCk.j0 k true a0_0 a0_1 a0_2 l0_3 l0_4 l0_5 a0_6 l0_7) else (jCk.j0 k (decide (a0_6 > 1048576)) a0_0 a0_1 a0_2 l0_3 l0_4 l0_5 a0_6 l0_7)) else (jCk.j0 k true a0_0 a0_1 a0_2 l0_3 l0_4 l0_5 a0_6 l0_7)) else (some t132))) = some r := h
 clear h
 replace H := Option.bind_eq_some_iff.mp H
 obtain ⟨t132, A20, H⟩ := H
 replace H : (if t132 = 0 then (if (l0_5.length : Int) = a0_1 then (if a0_6 < 0 then (jCk.j0 k true a0_0 a0_1 a0_2 l0_3 l0_4 l0_5 a0_6 l0_7) else (jCk.j0 k (decide (a0_6 > 1048576)) a0_0 a0_1 a0_2 l0_3 l0_4 l0_5 a0_6 l0_7)) else (jCk.j0 k true a0_0 a0_1 a0_2 l0_3 l0_4 l0_5 a0_6 l0_7)) else (some t132)) = some r := H
 have A2 := Qz.mk A20
 clear A20
 by_cases c3 : t132 = 0
 ·rw [if_pos c3] at H
  have c3b0 : (t132 == 0) = true := beq_iff_eq.mpr c3
  have c3b1 : (t132 != 0) = false := bne_eq_false_iff_eq.mpr c3
  clear c3
  have HC4 := Qz.mk H
  clear H
  go_enter Try.func12, Try.ntmps12
  go_upto_region 4 with (first | ((with_reducible refine gdt (N := 1) rfl ?_); refine bxe ?hg (N := 1) ?hd (cs := #[.int .u64 a0_0, .int .i64 a0_1, .int .i64 a0_2, .slice A0_3 l0_3.length c0_3, .slice A0_4 l0_4.length c0_4, .slice A0_5 l0_5.length c0_5, .int .i64 a0_6, .slice A0_7 l0_7.length c0_7]) (t := 30) ?hr ?_; (case hd => rfl); (case hg => rfl); (case hr => first | (go_simp; done) | (go_simp; rfl)); intro gb131 hg w5 hbox hb; have n0_ := Qz.mk (bst (by repeat (first | (with_reducible first | exact HB.out | apply ba1 | apply bd_ | apply bd1) | exact HB.out)) hb); have n1_ := Qz.mk (hbox); have n2_ := Qz.mk ((by rw [hg]; exact (bsz (by repeat (first | (with_reducible first | exact HB.out | apply ba1 | apply bd_ | apply bd1) | exact HB.out))) : w.heap.size ≤ gb131)); have n3_ := Qz.mk ((by rw [hg]; exact (bsz (by repeat (first | (with_reducible first | exact HB.out | apply ba1 | apply bd_ | apply bd1) | exact HB.out))) : w.heap.size ≤ gb131)); clear HB; have HB := n0_; have BK131 := n1_; have GW131 := n2_; have GE131 := n3_; clear n0_ n1_ n2_ n3_; clear hb hbox hg; have hcz6_0 : w5.cell? ⟨gb131, 0, none⟩ = some (.int .u64 a0_0) := (bc_ BK131.out 0).trans rfl; have hcz6_1 : w5.cell? ⟨gb131, 1, none⟩ = some (.int .i64 a0_1) := (bc_ BK131.out 1).trans rfl; have hcz6_2 : w5.cell? ⟨gb131, 2, none⟩ = some (.int .i64 a0_2) := (bc_ BK131.out 2).trans rfl; have hcz6_3 : w5.cell? ⟨gb131, 3, none⟩ = some (.slice A0_3 l0_3.length c0_3) := (bc_ BK131.out 3).trans rfl; have hcz6_4 : w5.cell? ⟨gb131, 4, none⟩ = some (.slice A0_4 l0_4.length c0_4) := (bc_ BK131.out 4).trans rfl; have hcz6_5 : w5.cell? ⟨gb131, 5, none⟩ = some (.slice A0_5 l0_5.length c0_5) := (bc_ BK131.out 5).trans rfl; have hcz6_6 : w5.cell? ⟨gb131, 6, none⟩ = some (.int .i64 a0_6) := (bc_ BK131.out 6).trans rfl; have hcz6_7 : w5.cell? ⟨gb131, 7, none⟩ = some (.slice A0_7 l0_7.length c0_7) := (bc_ BK131.out 7).trans rfl; have hfz6_0 := bf_ BK131.out 0; have hfz6_1 := bf_ BK131.out 1; have hfz6_2 := bf_ BK131.out 2; have hfz6_3 := bf_ BK131.out 3; have hfz6_4 := bf_ BK131.out 4; have hfz6_5 := bf_ BK131.out 5; have hfz6_6 := bf_ BK131.out 6; have hfz6_7 := bf_ BK131.out 7) | ((with_reducible refine gcl (f := 42) rfl ?_); refine goesL_ (some 10) rfl rfl Try.func42 (by kernel_rfl) rfl #[.agg #[.int .u64 a0_0, .int .i64 a0_1, .int .i64 a0_2], .slice A0_3 l0_3.length c0_3] rfl (by (try simp only [List.map_toArray, List.map_cons, List.map_nil]); first | done | rfl | (simp only [List.length_drop, List.length_take]; rfl)) ?_; (with_reducible refine (j4C.calls k a0_0 a0_1 a0_2 _ _ l0_3 t132 _ ?side1 ?side2 A2.out).mono ?_); (case side1 => repeat (first | exact (Kd.C_below HR0_3.out HB.out) | (with_reducible refine Kd.C_alloc ?_ _) | (with_reducible refine Kd.C_drewN ?_ _) | (with_reducible refine Kd.C_drew ?_))); (case side2 => exact HC0_3.out); rintro e w7 ⟨rfl, hb⟩; refine ⟨_, rfl, ?_⟩; have n0_ := Qz.mk (bkb (g := gb131) (o := .cells #[.int .u64 a0_0, .int .i64 a0_1, .int .i64 a0_2, .slice A0_3 l0_3.length c0_3, .slice A0_4 l0_4.length c0_4, .slice A0_5 l0_5.length c0_5, .int .i64 a0_6, .slice A0_7 l0_7.length c0_7] 30 (0, 0)) (by (with_reducible repeat (first | refine bkn ?_ _ | refine bkd ?_ | refine bka ?_ _)); exact BK131.out) hb); have n1_ := Qz.mk (bst (by repeat (first | (with_reducible first | exact HB.out | apply ba1 | apply bd_ | apply bd1 | refine bset ?_ GE131.out) | exact HB.out)) hb); clear BK131; clear HB; have BK131 := n0_; have HB := n1_; clear n0_ n1_; (try clear hb); (try clear hb2); (try clear hk); (try clear hi)))
  (try simp only [Act.put, List.setIfInBounds_toArray, List.set_cons_zero, List.set_cons_succ])
  go_cut [30] (fun v30 wc => ∃ (kq : Nat) (x30_3 : Bool), v30 = .bool x30_3 ∧ Qz (jCk.j0 kq x30_3 a0_0 a0_1 a0_2 l0_3 l0_4 l0_5 a0_6 l0_7 = some r) ∧ Qz (kq ≤ k) ∧ Qz (wc.heap[gb131]? = some (.cells #[.int .u64 a0_0, .int .i64 a0_1, .int .i64 a0_2, (.slice A0_3 l0_3.length c0_3), (.slice A0_4 l0_4.length c0_4), (.slice A0_5 l0_5.length c0_5), .int .i64 a0_6, (.slice A0_7 l0_7.length c0_7)] 30 (0, 0))) ∧ Qz (Below w.heap.size w wc))
  case first =>
   have H := HC4.out
   clear HC4
   by_cases c8 : (l0_5.length : Int) = a0_1
   ·rw [if_pos c8] at H
    have c8b0 : ((l0_5.length : Int) == a0_1) = true := beq_iff_eq.mpr c8
    have c8b1 : ((l0_5.length : Int) != a0_1) = false := bne_eq_false_iff_eq.mpr c8
    clear c8
    (first | rw [c8b0] | (simp only [i64_w, i32_w]; rw [c8b0]) | skip)
    by_cases c9 : a0_6 < 0
    ·rw [if_pos c9] at H
     have c9b0 : decide (a0_6 < 0) = true := decide_eq_true c9
     clear c9
     have H' := Qz.mk H
     clear H
     have hcz10_0 : w7.cell? ⟨gb131, 0, none⟩ = some (.int .u64 a0_0) := (bc_ BK131.out 0).trans rfl
     have hcz10_1 : w7.cell? ⟨gb131, 1, none⟩ = some (.int .i64 a0_1) := (bc_ BK131.out 1).trans rfl
     have hcz10_2 : w7.cell? ⟨gb131, 2, none⟩ = some (.int .i64 a0_2) := (bc_ BK131.out 2).trans rfl
     have hcz10_3 : w7.cell? ⟨gb131, 3, none⟩ = some (.slice A0_3 l0_3.length c0_3) := (bc_ BK131.out 3).trans rfl
     have hcz10_4 : w7.cell? ⟨gb131, 4, none⟩ = some (.slice A0_4 l0_4.length c0_4) := (bc_ BK131.out 4).trans rfl
     have hcz10_5 : w7.cell? ⟨gb131, 5, none⟩ = some (.slice A0_5 l0_5.length c0_5) := (bc_ BK131.out 5).trans rfl
     have hcz10_6 : w7.cell? ⟨gb131, 6, none⟩ = some (.int .i64 a0_6) := (bc_ BK131.out 6).trans rfl
     have hcz10_7 : w7.cell? ⟨gb131, 7, none⟩ = some (.slice A0_7 l0_7.length c0_7) := (bc_ BK131.out 7).trans rfl
     have hfz10_0 := bf_ BK131.out 0
     have hfz10_1 := bf_ BK131.out 1
     have hfz10_2 := bf_ BK131.out 2
     have hfz10_3 := bf_ BK131.out 3
     have hfz10_4 := bf_ BK131.out 4
     have hfz10_5 := bf_ BK131.out 5
     have hfz10_6 := bf_ BK131.out 6
     have hfz10_7 := bf_ BK131.out 7
     go_wp2
     go_meet
     case rel => exact ⟨_, (true), (by first | rfl | (simp; done) | (simp [*]; done)), H', ⟨by first | omega | exact Nat.le_refl _⟩, ⟨by (with_reducible repeat (first | refine bkn ?_ _ | refine bkd ?_ | refine bka ?_ _)); exact BK131.out⟩, ⟨by repeat (first | (with_reducible first | exact HB.out | apply ba1 | apply bd_ | apply bd1 | refine bset ?_ GE131.out) | exact HB.out)⟩⟩
    ·rw [if_neg c9] at H
     have c9b0 : decide (a0_6 < 0) = false := decide_eq_false c9
     clear c9
     have H' := Qz.mk H
     clear H
     have hcz11_0 : w7.cell? ⟨gb131, 0, none⟩ = some (.int .u64 a0_0) := (bc_ BK131.out 0).trans rfl
     have hcz11_1 : w7.cell? ⟨gb131, 1, none⟩ = some (.int .i64 a0_1) := (bc_ BK131.out 1).trans rfl
     have hcz11_2 : w7.cell? ⟨gb131, 2, none⟩ = some (.int .i64 a0_2) := (bc_ BK131.out 2).trans rfl
     have hcz11_3 : w7.cell? ⟨gb131, 3, none⟩ = some (.slice A0_3 l0_3.length c0_3) := (bc_ BK131.out 3).trans rfl
     have hcz11_4 : w7.cell? ⟨gb131, 4, none⟩ = some (.slice A0_4 l0_4.length c0_4) := (bc_ BK131.out 4).trans rfl
     have hcz11_5 : w7.cell? ⟨gb131, 5, none⟩ = some (.slice A0_5 l0_5.length c0_5) := (bc_ BK131.out 5).trans rfl
     have hcz11_6 : w7.cell? ⟨gb131, 6, none⟩ = some (.int .i64 a0_6) := (bc_ BK131.out 6).trans rfl
     have hcz11_7 : w7.cell? ⟨gb131, 7, none⟩ = some (.slice A0_7 l0_7.length c0_7) := (bc_ BK131.out 7).trans rfl
     have hfz11_0 := bf_ BK131.out 0
     have hfz11_1 := bf_ BK131.out 1
     have hfz11_2 := bf_ BK131.out 2
     have hfz11_3 := bf_ BK131.out 3
     have hfz11_4 := bf_ BK131.out 4
     have hfz11_5 := bf_ BK131.out 5
     have hfz11_6 := bf_ BK131.out 6
     have hfz11_7 := bf_ BK131.out 7
     go_wp2
     go_meet
     case rel => exact ⟨_, (decide (a0_6 > 1048576)), (by first | rfl | (simp; done) | (simp [*]; done)), H', ⟨by first | omega | exact Nat.le_refl _⟩, ⟨by (with_reducible repeat (first | refine bkn ?_ _ | refine bkd ?_ | refine bka ?_ _)); exact BK131.out⟩, ⟨by repeat (first | (with_reducible first | exact HB.out | apply ba1 | apply bd_ | apply bd1 | refine bset ?_ GE131.out) | exact HB.out)⟩⟩
   ·rw [if_neg c8] at H
    have c8b0 : ((l0_5.length : Int) == a0_1) = false := beq_eq_false_iff_ne.mpr c8
    have c8b1 : ((l0_5.length : Int) != a0_1) = true := bne_iff_ne.mpr c8
    (first | rw [c8b0] | (simp only [i64_w, i32_w]; rw [c8b0]) | skip)
    have H' := Qz.mk H
    clear H
    have hcz12_0 : w7.cell? ⟨gb131, 0, none⟩ = some (.int .u64 a0_0) := (bc_ BK131.out 0).trans rfl
    have hcz12_1 : w7.cell? ⟨gb131, 1, none⟩ = some (.int .i64 a0_1) := (bc_ BK131.out 1).trans rfl
    have hcz12_2 : w7.cell? ⟨gb131, 2, none⟩ = some (.int .i64 a0_2) := (bc_ BK131.out 2).trans rfl
    have hcz12_3 : w7.cell? ⟨gb131, 3, none⟩ = some (.slice A0_3 l0_3.length c0_3) := (bc_ BK131.out 3).trans rfl
    have hcz12_4 : w7.cell? ⟨gb131, 4, none⟩ = some (.slice A0_4 l0_4.length c0_4) := (bc_ BK131.out 4).trans rfl
    have hcz12_5 : w7.cell? ⟨gb131, 5, none⟩ = some (.slice A0_5 l0_5.length c0_5) := (bc_ BK131.out 5).trans rfl
    have hcz12_6 : w7.cell? ⟨gb131, 6, none⟩ = some (.int .i64 a0_6) := (bc_ BK131.out 6).trans rfl
    have hcz12_7 : w7.cell? ⟨gb131, 7, none⟩ = some (.slice A0_7 l0_7.length c0_7) := (bc_ BK131.out 7).trans rfl
    have hfz12_0 := bf_ BK131.out 0
    have hfz12_1 := bf_ BK131.out 1
    have hfz12_2 := bf_ BK131.out 2
    have hfz12_3 := bf_ BK131.out 3
    have hfz12_4 := bf_ BK131.out 4
    have hfz12_5 := bf_ BK131.out 5
    have hfz12_6 := bf_ BK131.out 6
    have hfz12_7 := bf_ BK131.out 7
    go_wp2
    go_meet
    case rel => exact ⟨_, (true), (by first | rfl | (simp; done) | (simp [*]; done)), H', ⟨by first | omega | exact Nat.le_refl _⟩, ⟨by (with_reducible repeat (first | refine bkn ?_ _ | refine bkd ?_ | refine bka ?_ _)); exact BK131.out⟩, ⟨by repeat (first | (with_reducible first | exact HB.out | apply ba1 | apply bd_ | apply bd1 | refine bset ?_ GE131.out) | exact HB.out)⟩⟩
  case rest =>
   clear HC4
   try clear c1
   try clear p2
   try clear c3
   try clear c3b0
   try clear c3b1
   try clear c4
   try clear c8
   try clear c8b0
   try clear c8b1
   try clear c9
   try clear c9b0
   try clear c12
   try clear hcz10_0
   try clear hcz10_1
   try clear hcz10_2
   try clear hcz10_3
   try clear hcz10_4
   try clear hcz10_5
   try clear hcz10_6
   try clear hcz10_7
   try clear hcz11_0
   try clear hcz11_1
   try clear hcz11_2
   try clear hcz11_3
   try clear hcz11_4
   try clear hcz11_5
   try clear hcz11_6
   try clear hcz11_7
   try clear hcz12_0
   try clear hcz12_1
   try clear hcz12_2
   try clear hcz12_3
   try clear hcz12_4
   try clear hcz12_5
   try clear hcz12_6
   try clear hcz12_7
   try clear hcz6_0
   try clear hcz6_1
   try clear hcz6_2
   try clear hcz6_3
   try clear hcz6_4
   try clear hcz6_5
   try clear hcz6_6
   try clear hcz6_7
   try clear hfz10_0
   try clear hfz10_1
   try clear hfz10_2
   try clear hfz10_3
   try clear hfz10_4
   try clear hfz10_5
   try clear hfz10_6
   try clear hfz10_7
   try clear hfz11_0
   try clear hfz11_1
   try clear hfz11_2
   try clear hfz11_3
   try clear hfz11_4
   try clear hfz11_5
   try clear hfz11_6
   try clear hfz11_7
   try clear hfz12_0
   try clear hfz12_1
   try clear hfz12_2
   try clear hfz12_3
   try clear hfz12_4
   try clear hfz12_5
   try clear hfz12_6
   try clear hfz12_7
   try clear hfz6_0
   try clear hfz6_1
   try clear hfz6_2
   try clear hfz6_3
   try clear hfz6_4
   try clear hfz6_5
   try clear hfz6_6
   try clear hfz6_7
   obtain ⟨kq, x30_3, rfl, HA, HJ3, BK131, HB⟩ := hcut
   cases kq with
   | zero => exact absurd HA.out (by simp [jCk.j0])
   | succ kj3 =>
    have H := HA.out
    clear HA
    simp only [jCk.j0] at H
    by_cases c13 : x30_3 = true
    ·subst c13
     have H1 : (some 2) = some r := by rw [if_pos rfl] at H; exact H
     clear H
     have H := H1
     clear H1
     obtain rfl := Option.some.inj H
     go_wp2
     go_ret
     exact ⟨by first | rfl | (simp [ewn, ews] <;> rfl) | (simp [*, ewn, ews] <;> rfl), by repeat (first | (with_reducible first | exact HB.out | apply ba1 | apply bd_ | apply bd1 | refine bset ?_ GE131.out) | exact HB.out)⟩
    ·replace c13 := Bool.eq_false_iff.mpr c13
     subst c13
     have H1 : (if (l0_4.length : Int) > 65536 then (some 3) else (jCk.l0 kj3 l0_4 (l0_4.length : Int) 0 a0_0 a0_1 a0_2 l0_3 l0_4 l0_5 a0_6 l0_7)) = some r := by rw [if_neg (show ¬ (false = true) by decide)] at H; exact H
     clear H
     have H := H1
     clear H1
     by_cases c14 : (l0_4.length : Int) > 65536
     ·rw [if_pos c14] at H
      have c14b0 : decide (65536 < (l0_4.length : Int)) = true := decide_eq_true c14
      have c14b1 : decide (65536 < l0_4.length) = true := decide_eq_true (by omega)
      clear c14
      obtain rfl := Option.some.inj H
      have hcz15_0 : wc.cell? ⟨gb131, 0, none⟩ = some (.int .u64 a0_0) := (bc_ BK131.out 0).trans rfl
      have hcz15_1 : wc.cell? ⟨gb131, 1, none⟩ = some (.int .i64 a0_1) := (bc_ BK131.out 1).trans rfl
      have hcz15_2 : wc.cell? ⟨gb131, 2, none⟩ = some (.int .i64 a0_2) := (bc_ BK131.out 2).trans rfl
      have hcz15_3 : wc.cell? ⟨gb131, 3, none⟩ = some (.slice A0_3 l0_3.length c0_3) := (bc_ BK131.out 3).trans rfl
      have hcz15_4 : wc.cell? ⟨gb131, 4, none⟩ = some (.slice A0_4 l0_4.length c0_4) := (bc_ BK131.out 4).trans rfl
      have hcz15_5 : wc.cell? ⟨gb131, 5, none⟩ = some (.slice A0_5 l0_5.length c0_5) := (bc_ BK131.out 5).trans rfl
      have hcz15_6 : wc.cell? ⟨gb131, 6, none⟩ = some (.int .i64 a0_6) := (bc_ BK131.out 6).trans rfl
      have hcz15_7 : wc.cell? ⟨gb131, 7, none⟩ = some (.slice A0_7 l0_7.length c0_7) := (bc_ BK131.out 7).trans rfl
      have hfz15_0 := bf_ BK131.out 0
      have hfz15_1 := bf_ BK131.out 1
      have hfz15_2 := bf_ BK131.out 2
      have hfz15_3 := bf_ BK131.out 3
      have hfz15_4 := bf_ BK131.out 4
      have hfz15_5 := bf_ BK131.out 5
      have hfz15_6 := bf_ BK131.out 6
      have hfz15_7 := bf_ BK131.out 7
      go_wp2
      go_ret
      exact ⟨by first | rfl | (simp [ewn, ews] <;> rfl) | (simp [*, ewn, ews] <;> rfl), by repeat (first | (with_reducible first | exact HB.out | apply ba1 | apply bd_ | apply bd1 | refine bset ?_ GE131.out) | exact HB.out)⟩
     ·rw [if_neg c14] at H
      have c14b0 : decide (65536 < (l0_4.length : Int)) = false := decide_eq_false c14
      have c14b1 : decide (65536 < l0_4.length) = false := decide_eq_false (by omega)
      clear c14
      have H' := Qz.mk H
      clear H
      have hcz16_0 : wc.cell? ⟨gb131, 0, none⟩ = some (.int .u64 a0_0) := (bc_ BK131.out 0).trans rfl
      have hcz16_1 : wc.cell? ⟨gb131, 1, none⟩ = some (.int .i64 a0_1) := (bc_ BK131.out 1).trans rfl
      have hcz16_2 : wc.cell? ⟨gb131, 2, none⟩ = some (.int .i64 a0_2) := (bc_ BK131.out 2).trans rfl
      have hcz16_3 : wc.cell? ⟨gb131, 3, none⟩ = some (.slice A0_3 l0_3.length c0_3) := (bc_ BK131.out 3).trans rfl
      have hcz16_4 : wc.cell? ⟨gb131, 4, none⟩ = some (.slice A0_4 l0_4.length c0_4) := (bc_ BK131.out 4).trans rfl
      have hcz16_5 : wc.cell? ⟨gb131, 5, none⟩ = some (.slice A0_5 l0_5.length c0_5) := (bc_ BK131.out 5).trans rfl
      have hcz16_6 : wc.cell? ⟨gb131, 6, none⟩ = some (.int .i64 a0_6) := (bc_ BK131.out 6).trans rfl
      have hcz16_7 : wc.cell? ⟨gb131, 7, none⟩ = some (.slice A0_7 l0_7.length c0_7) := (bc_ BK131.out 7).trans rfl
      have hfz16_0 := bf_ BK131.out 0
      have hfz16_1 := bf_ BK131.out 1
      have hfz16_2 := bf_ BK131.out 2
      have hfz16_3 := bf_ BK131.out 3
      have hfz16_4 := bf_ BK131.out 4
      have hfz16_5 := bf_ BK131.out 5
      have hfz16_6 := bf_ BK131.out 6
      have hfz16_7 := bf_ BK131.out 7
      go_wp2
      go_loopg [38] kj3 (fun kq v38 w' => ∃ (x38_2 : Int), v38 = .int .i64 x38_2 ∧ Qz (jCk.l0 kq l0_4 (l0_4.length : Int) x38_2 a0_0 a0_1 a0_2 l0_3 l0_4 l0_5 a0_6 l0_7 = some r) ∧ Qz (kq ≤ kj3) ∧ Qz (w'.heap[gb131]? = some (.cells #[.int .u64 a0_0, .int .i64 a0_1, .int .i64 a0_2, (.slice A0_3 l0_3.length c0_3), (.slice A0_4 l0_4.length c0_4), (.slice A0_5 l0_5.length c0_5), .int .i64 a0_6, (.slice A0_7 l0_7.length c0_7)] 30 (0, 0))) ∧ Qz (Below w.heap.size w w'))
      case atStart => exact ⟨(0), (by first | rfl | (simp; done) | (simp [*]; done)), H', ⟨Nat.le_refl _⟩, ⟨by (with_reducible repeat (first | refine bkn ?_ _ | refine bkd ?_ | refine bka ?_ _)); exact BK131.out⟩, ⟨by repeat (first | (with_reducible first | exact HB.out | apply ba1 | apply bd_ | apply bd1 | refine bset ?_ GE131.out) | exact HB.out)⟩⟩
      case round =>
       clear H'
       try clear c1
       try clear p2
       try clear c3
       try clear c3b0
       try clear c3b1
       try clear c4
       try clear c8
       try clear c8b0
       try clear c8b1
       try clear c9
       try clear c9b0
       try clear c12
       try clear c13
       try clear c14
       try clear c14b0
       try clear c14b1
       try clear hcz10_0
       try clear hcz10_1
       try clear hcz10_2
       try clear hcz10_3
       try clear hcz10_4
       try clear hcz10_5
       try clear hcz10_6
       try clear hcz10_7
       try clear hcz11_0
       try clear hcz11_1
       try clear hcz11_2
       try clear hcz11_3
       try clear hcz11_4
       try clear hcz11_5
       try clear hcz11_6
       try clear hcz11_7
       try clear hcz12_0
       try clear hcz12_1
       try clear hcz12_2
       try clear hcz12_3
       try clear hcz12_4
       try clear hcz12_5
       try clear hcz12_6
       try clear hcz12_7
       try clear hcz15_0
       try clear hcz15_1
       try clear hcz15_2
       try clear hcz15_3
       try clear hcz15_4
       try clear hcz15_5
       try clear hcz15_6
       try clear hcz15_7
       try clear hcz16_0
       try clear hcz16_1
       try clear hcz16_2
       try clear hcz16_3
       try clear hcz16_4
       try clear hcz16_5
       try clear hcz16_6
       try clear hcz16_7
       try clear hcz6_0
       try clear hcz6_1
       try clear hcz6_2
       try clear hcz6_3
       try clear hcz6_4
       try clear hcz6_5
       try clear hcz6_6
       try clear hcz6_7
       try clear hfz10_0
       try clear hfz10_1
       try clear hfz10_2
       try clear hfz10_3
       try clear hfz10_4
       try clear hfz10_5
       try clear hfz10_6
       try clear hfz10_7
       try clear hfz11_0
       try clear hfz11_1
       try clear hfz11_2
       try clear hfz11_3
       try clear hfz11_4
       try clear hfz11_5
       try clear hfz11_6
       try clear hfz11_7
       try clear hfz12_0
       try clear hfz12_1
       try clear hfz12_2
       try clear hfz12_3
       try clear hfz12_4
       try clear hfz12_5
       try clear hfz12_6
       try clear hfz12_7
       try clear hfz15_0
       try clear hfz15_1
       try clear hfz15_2
       try clear hfz15_3
       try clear hfz15_4
       try clear hfz15_5
       try clear hfz15_6
       try clear hfz15_7
       try clear hfz16_0
       try clear hfz16_1
       try clear hfz16_2
       try clear hfz16_3
       try clear hfz16_4
       try clear hfz16_5
       try clear hfz16_6
       try clear hfz16_7
       try clear hfz6_0
       try clear hfz6_1
       try clear hfz6_2
       try clear hfz6_3
       try clear hfz6_4
       try clear hfz6_5
       try clear hfz6_6
       try clear hfz6_7
       try clear p2
       obtain ⟨x38_2, rfl, HA, HK2, BK131, HB⟩ := hrel
       cases gk with
       | zero => exact absurd HA.out (by simp [jCk.l0])
       | succ k2 =>
        have H := HA.out
        clear HA
        simp only [jCk.l0] at H
        by_cases c17 : x38_2 < (l0_4.length : Int)
        ·rw [if_pos c17] at H
         have c17b0 : decide (x38_2 < (l0_4.length : Int)) = true := decide_eq_true c17
         clear c17
         by_cases c18 : 0 ≤ x38_2
         ·rw [if_pos c18] at H
          have c18b0 : decide (0 ≤ x38_2) = true := decide_eq_true c18
          clear c18
          by_cases c19 : x38_2 < (l0_4.length : Int)
          ·rw [if_pos c19] at H
           have c19b0 : decide (x38_2 < (l0_4.length : Int)) = true := decide_eq_true c19
           clear c19
           have HC20 := Qz.mk H
           clear H
           have p133 : 0 ≤ (x38_2 : Int) := of_decide_eq_true (by first | (with_reducible assumption) | assumption)
           have q133 : x38_2 < (l0_4.length : Int) := of_decide_eq_true (by first | (with_reducible assumption) | assumption)
           obtain ⟨ad133, A133_4, c133_4, e133, hx133_0, hx133_1, hx133_2, hx133_3, hx133_4, hl133_4, hi133_4⟩ := at_T72 HR0_4.out x38_2 p133 q133
           cases e133
           replace hx133_0 := (HB.out.cell (World.block_lt_of_cell? w _ hx133_0)).trans hx133_0
           replace hx133_1 := (HB.out.cell (World.block_lt_of_cell? w _ hx133_1)).trans hx133_1
           replace hx133_2 := (HB.out.cell (World.block_lt_of_cell? w _ hx133_2)).trans hx133_2
           replace hx133_3 := (HB.out.cell (World.block_lt_of_cell? w _ hx133_3)).trans hx133_3
           replace hx133_4 := (HB.out.cell (World.block_lt_of_cell? w _ hx133_4)).trans hx133_4
           have HR133_4 := Qz.mk hi133_4
           have HC133_4 := Qz.mk hl133_4
           clear hi133_4 hl133_4
           replace p133 := eq_true p133
           replace q133 := eq_true q133
           go_upto_region 11 with (first | ((with_reducible refine gdt (N := 5) rfl ?_); refine bxe ?hg (N := 5) ?hd (cs := #[.int .i64 0, .int .i64 0, .int .i64 0, .bool false, .slice none 0 0]) (t := 72) ?hr ?_; (case hd => rfl); (case hg => rfl); (case hr => first | (go_simp; done) | (go_simp; rfl)); intro gb134 hg w21 hbox hb; have n0_ := Qz.mk (bkb (g := gb131) (o := .cells #[.int .u64 a0_0, .int .i64 a0_1, .int .i64 a0_2, .slice A0_3 l0_3.length c0_3, .slice (some ad133) l0_4.length c0_4, .slice A0_5 l0_5.length c0_5, .int .i64 a0_6, .slice A0_7 l0_7.length c0_7] 30 (0, 0)) (by (with_reducible repeat (first | refine bkn ?_ _ | refine bkd ?_ | refine bka ?_ _)); exact BK131.out) hb); have n1_ := Qz.mk (bst (by repeat (first | (with_reducible first | exact HB.out | apply ba1 | apply bd_ | apply bd1 | refine bset ?_ GE131.out) | exact HB.out)) hb); have n2_ := Qz.mk (hbox); have n3_ := Qz.mk ((by rw [hg]; exact (bsz (by repeat (first | (with_reducible first | exact HB.out | apply ba1 | apply bd_ | apply bd1 | refine bset ?_ GE131.out) | exact HB.out))) : w.heap.size ≤ gb134)); have n4_ := Qz.mk ((by rw [hg]; exact (bsz (by repeat (first | (with_reducible first | exact HB.out | apply ba1 | apply bd_ | apply bd1 | refine bset ?_ GE131.out) | exact HB.out))) : w.heap.size ≤ gb134)); have n5_ := Qz.mk ((by rw [hg]; exact Nat.ne_of_lt (blt (g := gb131) (o := .cells #[.int .u64 a0_0, .int .i64 a0_1, .int .i64 a0_2, .slice A0_3 l0_3.length c0_3, .slice (some ad133) l0_4.length c0_4, .slice A0_5 l0_5.length c0_5, .int .i64 a0_6, .slice A0_7 l0_7.length c0_7] 30 (0, 0)) (by (with_reducible repeat (first | refine bkn ?_ _ | refine bkd ?_ | refine bka ?_ _)); exact BK131.out)) : gb131 ≠ gb134)); have n6_ := Qz.mk ((by rw [hg]; exact Nat.ne_of_gt (blt (g := gb131) (o := .cells #[.int .u64 a0_0, .int .i64 a0_1, .int .i64 a0_2, .slice A0_3 l0_3.length c0_3, .slice (some ad133) l0_4.length c0_4, .slice A0_5 l0_5.length c0_5, .int .i64 a0_6, .slice A0_7 l0_7.length c0_7] 30 (0, 0)) (by (with_reducible repeat (first | refine bkn ?_ _ | refine bkd ?_ | refine bka ?_ _)); exact BK131.out)) : gb134 ≠ gb131)); clear BK131; clear HB; have BK131 := n0_; have HB := n1_; have BK134 := n2_; have GW134 := n3_; have GE134 := n4_; have NB131_134 := n5_; have NB134_131 := n6_; clear n0_ n1_ n2_ n3_ n4_ n5_ n6_; clear hb hbox hg; have hnb22 := NB134_131.out; have hnc22 := NB131_134.out; have hcz23_0 : w21.cell? ⟨gb134, 0, none⟩ = some (.int .i64 0) := (bc_ BK134.out 0).trans rfl; have hcz23_1 : w21.cell? ⟨gb134, 1, none⟩ = some (.int .i64 0) := (bc_ BK134.out 1).trans rfl; have hcz23_2 : w21.cell? ⟨gb134, 2, none⟩ = some (.int .i64 0) := (bc_ BK134.out 2).trans rfl; have hcz23_3 : w21.cell? ⟨gb134, 3, none⟩ = some (.bool false) := (bc_ BK134.out 3).trans rfl; have hcz23_4 : w21.cell? ⟨gb134, 4, none⟩ = some (.slice none 0 0) := (bc_ BK134.out 4).trans rfl; have hfz23_0 := bf_ BK134.out 0; have hfz23_1 := bf_ BK134.out 1; have hfz23_2 := bf_ BK134.out 2; have hfz23_3 := bf_ BK134.out 3; have hfz23_4 := bf_ BK134.out 4))
           (try simp only [Act.put, List.setIfInBounds_toArray, List.set_cons_zero, List.set_cons_succ])
           go_cut [73] (fun v73 wc => ∃ (kq : Nat) (x73_19 : Bool), v73 = .bool x73_19 ∧ Qz (jCk.j2 kq x38_2 l0_4 (l0_4.length : Int) x38_2 x73_19 a0_0 a0_1 a0_2 l0_3 l0_4 l0_5 a0_6 l0_7 ((r72 l0_4 x38_2).f0) ((r72 l0_4 x38_2).f1) ((r72 l0_4 x38_2).f2) ((r72 l0_4 x38_2).f3) ((r72 l0_4 x38_2).f4) = some r) ∧ Qz (kq ≤ k2) ∧ Qz (wc.heap[gb131]? = some (.cells #[.int .u64 a0_0, .int .i64 a0_1, .int .i64 a0_2, (.slice A0_3 l0_3.length c0_3), (.slice (some ad133) l0_4.length c0_4), (.slice A0_5 l0_5.length c0_5), .int .i64 a0_6, (.slice A0_7 l0_7.length c0_7)] 30 (0, 0))) ∧ Qz (wc.heap[gb134]? = some (.cells #[.int .i64 ((r72 l0_4 x38_2).f0), .int .i64 ((r72 l0_4 x38_2).f1), .int .i64 ((r72 l0_4 x38_2).f2), .bool ((r72 l0_4 x38_2).f3), (.slice A133_4 ((r72 l0_4 x38_2).f4).length c133_4)] 72 (0, 0))) ∧ Qz (Below w.heap.size w wc))
           case first =>
            have H := HC20.out
            clear HC20
            replace H := Option.bind_eq_some_iff.mp H
            obtain ⟨t135, A240, H⟩ := H
            replace H : (if t135 = true then (if ((r72 l0_4 x38_2).f2) < 0 then (jCk.j2 k2 x38_2 l0_4 (l0_4.length : Int) x38_2 true a0_0 a0_1 a0_2 l0_3 l0_4 l0_5 a0_6 l0_7 ((r72 l0_4 x38_2).f0) ((r72 l0_4 x38_2).f1) ((r72 l0_4 x38_2).f2) ((r72 l0_4 x38_2).f3) ((r72 l0_4 x38_2).f4)) else (if ((r72 l0_4 x38_2).f2) > a0_1 then (jCk.j2 k2 x38_2 l0_4 (l0_4.length : Int) x38_2 true a0_0 a0_1 a0_2 l0_3 l0_4 l0_5 a0_6 l0_7 ((r72 l0_4 x38_2).f0) ((r72 l0_4 x38_2).f1) ((r72 l0_4 x38_2).f2) ((r72 l0_4 x38_2).f3) ((r72 l0_4 x38_2).f4)) else (if ((r72 l0_4 x38_2).f2) = ((r72 l0_4 x38_2).f1) then (jCk.j2 k2 x38_2 l0_4 (l0_4.length : Int) x38_2 true a0_0 a0_1 a0_2 l0_3 l0_4 l0_5 a0_6 l0_7 ((r72 l0_4 x38_2).f0) ((r72 l0_4 x38_2).f1) ((r72 l0_4 x38_2).f2) ((r72 l0_4 x38_2).f3) ((r72 l0_4 x38_2).f4)) else (jCk.j2 k2 x38_2 l0_4 (l0_4.length : Int) x38_2 (decide (((r72 l0_4 x38_2).f0) < 1)) a0_0 a0_1 a0_2 l0_3 l0_4 l0_5 a0_6 l0_7 ((r72 l0_4 x38_2).f0) ((r72 l0_4 x38_2).f1) ((r72 l0_4 x38_2).f2) ((r72 l0_4 x38_2).f3) ((r72 l0_4 x38_2).f4))))) else (jCk.j2 k2 x38_2 l0_4 (l0_4.length : Int) x38_2 true a0_0 a0_1 a0_2 l0_3 l0_4 l0_5 a0_6 l0_7 ((r72 l0_4 x38_2).f0) ((r72 l0_4 x38_2).f1) ((r72 l0_4 x38_2).f2) ((r72 l0_4 x38_2).f3) ((r72 l0_4 x38_2).f4))) = some r := H
            have A24 := Qz.mk A240
            clear A240
            by_cases c25 : t135 = true
            ·subst c25
             have H1 : (if ((r72 l0_4 x38_2).f2) < 0 then (jCk.j2 k2 x38_2 l0_4 (l0_4.length : Int) x38_2 true a0_0 a0_1 a0_2 l0_3 l0_4 l0_5 a0_6 l0_7 ((r72 l0_4 x38_2).f0) ((r72 l0_4 x38_2).f1) ((r72 l0_4 x38_2).f2) ((r72 l0_4 x38_2).f3) ((r72 l0_4 x38_2).f4)) else (if ((r72 l0_4 x38_2).f2) > a0_1 then (jCk.j2 k2 x38_2 l0_4 (l0_4.length : Int) x38_2 true a0_0 a0_1 a0_2 l0_3 l0_4 l0_5 a0_6 l0_7 ((r72 l0_4 x38_2).f0) ((r72 l0_4 x38_2).f1) ((r72 l0_4 x38_2).f2) ((r72 l0_4 x38_2).f3) ((r72 l0_4 x38_2).f4)) else (if ((r72 l0_4 x38_2).f2) = ((r72 l0_4 x38_2).f1) then (jCk.j2 k2 x38_2 l0_4 (l0_4.length : Int) x38_2 true a0_0 a0_1 a0_2 l0_3 l0_4 l0_5 a0_6 l0_7 ((r72 l0_4 x38_2).f0) ((r72 l0_4 x38_2).f1) ((r72 l0_4 x38_2).f2) ((r72 l0_4 x38_2).f3) ((r72 l0_4 x38_2).f4)) else (jCk.j2 k2 x38_2 l0_4 (l0_4.length : Int) x38_2 (decide (((r72 l0_4 x38_2).f0) < 1)) a0_0 a0_1 a0_2 l0_3 l0_4 l0_5 a0_6 l0_7 ((r72 l0_4 x38_2).f0) ((r72 l0_4 x38_2).f1) ((r72 l0_4 x38_2).f2) ((r72 l0_4 x38_2).f3) ((r72 l0_4 x38_2).f4))))) = some r := by rw [if_pos rfl] at H; exact H
             clear H
             have H := H1
             clear H1
             by_cases c26 : ((r72 l0_4 x38_2).f2) < 0
             ·rw [if_pos c26] at H
              have c26b0 : decide (((r72 l0_4 x38_2).f2) < 0) = true := decide_eq_true c26
              clear c26
              (first | rw [c26b0] | (simp only [i64_w, i32_w]; rw [c26b0]) | skip)
              have H' := Qz.mk H
              clear H
              have hnb27 := NB131_134.out
              have hnc27 := NB134_131.out
              have hcz28_0 : w21.cell? ⟨gb131, 0, none⟩ = some (.int .u64 a0_0) := (bc_ BK131.out 0).trans rfl
              have hcz28_1 : w21.cell? ⟨gb131, 1, none⟩ = some (.int .i64 a0_1) := (bc_ BK131.out 1).trans rfl
              have hcz28_2 : w21.cell? ⟨gb131, 2, none⟩ = some (.int .i64 a0_2) := (bc_ BK131.out 2).trans rfl
              have hcz28_3 : w21.cell? ⟨gb131, 3, none⟩ = some (.slice A0_3 l0_3.length c0_3) := (bc_ BK131.out 3).trans rfl
              have hcz28_4 : w21.cell? ⟨gb131, 4, none⟩ = some (.slice (some ad133) l0_4.length c0_4) := (bc_ BK131.out 4).trans rfl
              have hcz28_5 : w21.cell? ⟨gb131, 5, none⟩ = some (.slice A0_5 l0_5.length c0_5) := (bc_ BK131.out 5).trans rfl
              have hcz28_6 : w21.cell? ⟨gb131, 6, none⟩ = some (.int .i64 a0_6) := (bc_ BK131.out 6).trans rfl
              have hcz28_7 : w21.cell? ⟨gb131, 7, none⟩ = some (.slice A0_7 l0_7.length c0_7) := (bc_ BK131.out 7).trans rfl
              have hfz28_0 := bf_ BK131.out 0
              have hfz28_1 := bf_ BK131.out 1
              have hfz28_2 := bf_ BK131.out 2
              have hfz28_3 := bf_ BK131.out 3
              have hfz28_4 := bf_ BK131.out 4
              have hfz28_5 := bf_ BK131.out 5
              have hfz28_6 := bf_ BK131.out 6
              have hfz28_7 := bf_ BK131.out 7
              have hcz29_0 : w21.cell? ⟨gb134, 0, none⟩ = some (.int .i64 0) := (bc_ BK134.out 0).trans rfl
              have hcz29_1 : w21.cell? ⟨gb134, 1, none⟩ = some (.int .i64 0) := (bc_ BK134.out 1).trans rfl
              have hcz29_2 : w21.cell? ⟨gb134, 2, none⟩ = some (.int .i64 0) := (bc_ BK134.out 2).trans rfl
              have hcz29_3 : w21.cell? ⟨gb134, 3, none⟩ = some (.bool false) := (bc_ BK134.out 3).trans rfl
              have hcz29_4 : w21.cell? ⟨gb134, 4, none⟩ = some (.slice none 0 0) := (bc_ BK134.out 4).trans rfl
              have hfz29_0 := bf_ BK134.out 0
              have hfz29_1 := bf_ BK134.out 1
              have hfz29_2 := bf_ BK134.out 2
              have hfz29_3 := bf_ BK134.out 3
              have hfz29_4 := bf_ BK134.out 4
              go_wp2_with (first | ((with_reducible refine gcl (f := 31) rfl ?_); refine goesL_ (some 47) rfl rfl Try.func31 (by kernel_rfl) rfl #[.slice A0_3 l0_3.length c0_3, .int .i64 ((r72 l0_4 x38_2).f1)] rfl (by (try simp only [List.map_toArray, List.map_cons, List.map_nil]); first | done | rfl | (simp only [List.length_drop, List.length_take]; rfl)) ?_; (with_reducible refine (jIs.calls k2 _ _ l0_3 ((r72 l0_4 x38_2).f1) true _ ?side1 ?side2 A24.out).mono ?_); (case side1 => exact Kd.C_below HR0_3.out (by repeat (first | (with_reducible first | exact HB.out | apply ba1 | apply bd_ | apply bd1 | refine bset ?_ GE131.out | refine bset ?_ GE134.out) | exact HB.out))); (case side2 => exact HC0_3.out); rintro e w' ⟨rfl, ⟨nd, rfl⟩⟩; refine ⟨_, rfl, ?_⟩))
              go_meet
              case rel => exact ⟨_, (true), (by first | rfl | (simp; done) | (simp [*]; done)), H', ⟨by have := HJ3.out; have := HK2.out; first | omega | exact Nat.le_refl _⟩, ⟨by (with_reducible repeat (first | refine bkn ?_ _ | refine bkd ?_ | refine bka ?_ _)); refine bkf ?_ NB131_134.out _; (with_reducible repeat (first | refine bkn ?_ _ | refine bkd ?_ | refine bka ?_ _)); refine bkf ?_ NB131_134.out _; (with_reducible repeat (first | refine bkn ?_ _ | refine bkd ?_ | refine bka ?_ _)); refine bkf ?_ NB131_134.out _; (with_reducible repeat (first | refine bkn ?_ _ | refine bkd ?_ | refine bka ?_ _)); refine bkf ?_ NB131_134.out _; (with_reducible repeat (first | refine bkn ?_ _ | refine bkd ?_ | refine bka ?_ _)); refine bkf ?_ NB131_134.out _; (with_reducible repeat (first | refine bkn ?_ _ | refine bkd ?_ | refine bka ?_ _)); exact BK131.out⟩, ⟨by (with_reducible repeat (first | refine bkn ?_ _ | refine bkd ?_ | refine bka ?_ _)); refine bkp (cs := #[.int .i64 ((r72 l0_4 x38_2).f0), .int .i64 ((r72 l0_4 x38_2).f1), .int .i64 ((r72 l0_4 x38_2).f2), .bool ((r72 l0_4 x38_2).f3), .slice none 0 0]) ?_ 4 _ rfl; (with_reducible repeat (first | refine bkn ?_ _ | refine bkd ?_ | refine bka ?_ _)); refine bkp (cs := #[.int .i64 ((r72 l0_4 x38_2).f0), .int .i64 ((r72 l0_4 x38_2).f1), .int .i64 ((r72 l0_4 x38_2).f2), .bool false, .slice none 0 0]) ?_ 3 _ rfl; (with_reducible repeat (first | refine bkn ?_ _ | refine bkd ?_ | refine bka ?_ _)); refine bkp (cs := #[.int .i64 ((r72 l0_4 x38_2).f0), .int .i64 ((r72 l0_4 x38_2).f1), .int .i64 0, .bool false, .slice none 0 0]) ?_ 2 _ rfl; (with_reducible repeat (first | refine bkn ?_ _ | refine bkd ?_ | refine bka ?_ _)); refine bkp (cs := #[.int .i64 ((r72 l0_4 x38_2).f0), .int .i64 0, .int .i64 0, .bool false, .slice none 0 0]) ?_ 1 _ rfl; (with_reducible repeat (first | refine bkn ?_ _ | refine bkd ?_ | refine bka ?_ _)); refine bkp (cs := #[.int .i64 0, .int .i64 0, .int .i64 0, .bool false, .slice none 0 0]) ?_ 0 _ rfl; (with_reducible repeat (first | refine bkn ?_ _ | refine bkd ?_ | refine bka ?_ _)); exact BK134.out⟩, ⟨by repeat (first | (with_reducible first | exact HB.out | apply ba1 | apply bd_ | apply bd1 | refine bset ?_ GE131.out | refine bset ?_ GE134.out) | exact HB.out)⟩⟩
             ·rw [if_neg c26] at H
              have c26b0 : decide (((r72 l0_4 x38_2).f2) < 0) = false := decide_eq_false c26
              clear c26
              (first | rw [c26b0] | (simp only [i64_w, i32_w]; rw [c26b0]) | skip)
              by_cases c30 : ((r72 l0_4 x38_2).f2) > a0_1
              ·rw [if_pos c30] at H
               have c30b0 : decide (a0_1 < ((r72 l0_4 x38_2).f2)) = true := decide_eq_true c30
               clear c30
               have H' := Qz.mk H
               clear H
               have hnb31 := NB131_134.out
               have hnc31 := NB134_131.out
               have hcz32_0 : w21.cell? ⟨gb131, 0, none⟩ = some (.int .u64 a0_0) := (bc_ BK131.out 0).trans rfl
               have hcz32_1 : w21.cell? ⟨gb131, 1, none⟩ = some (.int .i64 a0_1) := (bc_ BK131.out 1).trans rfl
               have hcz32_2 : w21.cell? ⟨gb131, 2, none⟩ = some (.int .i64 a0_2) := (bc_ BK131.out 2).trans rfl
               have hcz32_3 : w21.cell? ⟨gb131, 3, none⟩ = some (.slice A0_3 l0_3.length c0_3) := (bc_ BK131.out 3).trans rfl
               have hcz32_4 : w21.cell? ⟨gb131, 4, none⟩ = some (.slice (some ad133) l0_4.length c0_4) := (bc_ BK131.out 4).trans rfl
               have hcz32_5 : w21.cell? ⟨gb131, 5, none⟩ = some (.slice A0_5 l0_5.length c0_5) := (bc_ BK131.out 5).trans rfl
               have hcz32_6 : w21.cell? ⟨gb131, 6, none⟩ = some (.int .i64 a0_6) := (bc_ BK131.out 6).trans rfl
               have hcz32_7 : w21.cell? ⟨gb131, 7, none⟩ = some (.slice A0_7 l0_7.length c0_7) := (bc_ BK131.out 7).trans rfl
               have hfz32_0 := bf_ BK131.out 0
               have hfz32_1 := bf_ BK131.out 1
               have hfz32_2 := bf_ BK131.out 2
               have hfz32_3 := bf_ BK131.out 3
               have hfz32_4 := bf_ BK131.out 4
               have hfz32_5 := bf_ BK131.out 5
               have hfz32_6 := bf_ BK131.out 6
               have hfz32_7 := bf_ BK131.out 7
               have hcz33_0 : w21.cell? ⟨gb134, 0, none⟩ = some (.int .i64 0) := (bc_ BK134.out 0).trans rfl
               have hcz33_1 : w21.cell? ⟨gb134, 1, none⟩ = some (.int .i64 0) := (bc_ BK134.out 1).trans rfl
               have hcz33_2 : w21.cell? ⟨gb134, 2, none⟩ = some (.int .i64 0) := (bc_ BK134.out 2).trans rfl
               have hcz33_3 : w21.cell? ⟨gb134, 3, none⟩ = some (.bool false) := (bc_ BK134.out 3).trans rfl
               have hcz33_4 : w21.cell? ⟨gb134, 4, none⟩ = some (.slice none 0 0) := (bc_ BK134.out 4).trans rfl
               have hfz33_0 := bf_ BK134.out 0
               have hfz33_1 := bf_ BK134.out 1
               have hfz33_2 := bf_ BK134.out 2
               have hfz33_3 := bf_ BK134.out 3
               have hfz33_4 := bf_ BK134.out 4
               go_wp2_with (first | ((with_reducible refine gcl (f := 31) rfl ?_); refine goesL_ (some 47) rfl rfl Try.func31 (by kernel_rfl) rfl #[.slice A0_3 l0_3.length c0_3, .int .i64 ((r72 l0_4 x38_2).f1)] rfl (by (try simp only [List.map_toArray, List.map_cons, List.map_nil]); first | done | rfl | (simp only [List.length_drop, List.length_take]; rfl)) ?_; (with_reducible refine (jIs.calls k2 _ _ l0_3 ((r72 l0_4 x38_2).f1) true _ ?side1 ?side2 A24.out).mono ?_); (case side1 => exact Kd.C_below HR0_3.out (by repeat (first | (with_reducible first | exact HB.out | apply ba1 | apply bd_ | apply bd1 | refine bset ?_ GE131.out | refine bset ?_ GE134.out) | exact HB.out))); (case side2 => exact HC0_3.out); rintro e w' ⟨rfl, ⟨nd, rfl⟩⟩; refine ⟨_, rfl, ?_⟩))
               go_meet
               case rel => exact ⟨_, (true), (by first | rfl | (simp; done) | (simp [*]; done)), H', ⟨by have := HJ3.out; have := HK2.out; first | omega | exact Nat.le_refl _⟩, ⟨by (with_reducible repeat (first | refine bkn ?_ _ | refine bkd ?_ | refine bka ?_ _)); refine bkf ?_ NB131_134.out _; (with_reducible repeat (first | refine bkn ?_ _ | refine bkd ?_ | refine bka ?_ _)); refine bkf ?_ NB131_134.out _; (with_reducible repeat (first | refine bkn ?_ _ | refine bkd ?_ | refine bka ?_ _)); refine bkf ?_ NB131_134.out _; (with_reducible repeat (first | refine bkn ?_ _ | refine bkd ?_ | refine bka ?_ _)); refine bkf ?_ NB131_134.out _; (with_reducible repeat (first | refine bkn ?_ _ | refine bkd ?_ | refine bka ?_ _)); refine bkf ?_ NB131_134.out _; (with_reducible repeat (first | refine bkn ?_ _ | refine bkd ?_ | refine bka ?_ _)); exact BK131.out⟩, ⟨by (with_reducible repeat (first | refine bkn ?_ _ | refine bkd ?_ | refine bka ?_ _)); refine bkp (cs := #[.int .i64 ((r72 l0_4 x38_2).f0), .int .i64 ((r72 l0_4 x38_2).f1), .int .i64 ((r72 l0_4 x38_2).f2), .bool ((r72 l0_4 x38_2).f3), .slice none 0 0]) ?_ 4 _ rfl; (with_reducible repeat (first | refine bkn ?_ _ | refine bkd ?_ | refine bka ?_ _)); refine bkp (cs := #[.int .i64 ((r72 l0_4 x38_2).f0), .int .i64 ((r72 l0_4 x38_2).f1), .int .i64 ((r72 l0_4 x38_2).f2), .bool false, .slice none 0 0]) ?_ 3 _ rfl; (with_reducible repeat (first | refine bkn ?_ _ | refine bkd ?_ | refine bka ?_ _)); refine bkp (cs := #[.int .i64 ((r72 l0_4 x38_2).f0), .int .i64 ((r72 l0_4 x38_2).f1), .int .i64 0, .bool false, .slice none 0 0]) ?_ 2 _ rfl; (with_reducible repeat (first | refine bkn ?_ _ | refine bkd ?_ | refine bka ?_ _)); refine bkp (cs := #[.int .i64 ((r72 l0_4 x38_2).f0), .int .i64 0, .int .i64 0, .bool false, .slice none 0 0]) ?_ 1 _ rfl; (with_reducible repeat (first | refine bkn ?_ _ | refine bkd ?_ | refine bka ?_ _)); refine bkp (cs := #[.int .i64 0, .int .i64 0, .int .i64 0, .bool false, .slice none 0 0]) ?_ 0 _ rfl; (with_reducible repeat (first | refine bkn ?_ _ | refine bkd ?_ | refine bka ?_ _)); exact BK134.out⟩, ⟨by repeat (first | (with_reducible first | exact HB.out | apply ba1 | apply bd_ | apply bd1 | refine bset ?_ GE131.out | refine bset ?_ GE134.out) | exact HB.out)⟩⟩
              ·rw [if_neg c30] at H
               have c30b0 : decide (a0_1 < ((r72 l0_4 x38_2).f2)) = false := decide_eq_false c30
               clear c30
               by_cases c34 : ((r72 l0_4 x38_2).f2) = ((r72 l0_4 x38_2).f1)
               ·rw [if_pos c34] at H
                have c34b0 : (((r72 l0_4 x38_2).f2) == ((r72 l0_4 x38_2).f1)) = true := beq_iff_eq.mpr c34
                have c34b1 : (((r72 l0_4 x38_2).f2) != ((r72 l0_4 x38_2).f1)) = false := bne_eq_false_iff_eq.mpr c34
                clear c34
                have H' := Qz.mk H
                clear H
                have hnb35 := NB131_134.out
                have hnc35 := NB134_131.out
                have hcz36_0 : w21.cell? ⟨gb131, 0, none⟩ = some (.int .u64 a0_0) := (bc_ BK131.out 0).trans rfl
                have hcz36_1 : w21.cell? ⟨gb131, 1, none⟩ = some (.int .i64 a0_1) := (bc_ BK131.out 1).trans rfl
                have hcz36_2 : w21.cell? ⟨gb131, 2, none⟩ = some (.int .i64 a0_2) := (bc_ BK131.out 2).trans rfl
                have hcz36_3 : w21.cell? ⟨gb131, 3, none⟩ = some (.slice A0_3 l0_3.length c0_3) := (bc_ BK131.out 3).trans rfl
                have hcz36_4 : w21.cell? ⟨gb131, 4, none⟩ = some (.slice (some ad133) l0_4.length c0_4) := (bc_ BK131.out 4).trans rfl
                have hcz36_5 : w21.cell? ⟨gb131, 5, none⟩ = some (.slice A0_5 l0_5.length c0_5) := (bc_ BK131.out 5).trans rfl
                have hcz36_6 : w21.cell? ⟨gb131, 6, none⟩ = some (.int .i64 a0_6) := (bc_ BK131.out 6).trans rfl
                have hcz36_7 : w21.cell? ⟨gb131, 7, none⟩ = some (.slice A0_7 l0_7.length c0_7) := (bc_ BK131.out 7).trans rfl
                have hfz36_0 := bf_ BK131.out 0
                have hfz36_1 := bf_ BK131.out 1
                have hfz36_2 := bf_ BK131.out 2
                have hfz36_3 := bf_ BK131.out 3
                have hfz36_4 := bf_ BK131.out 4
                have hfz36_5 := bf_ BK131.out 5
                have hfz36_6 := bf_ BK131.out 6
                have hfz36_7 := bf_ BK131.out 7
                have hcz37_0 : w21.cell? ⟨gb134, 0, none⟩ = some (.int .i64 0) := (bc_ BK134.out 0).trans rfl
                have hcz37_1 : w21.cell? ⟨gb134, 1, none⟩ = some (.int .i64 0) := (bc_ BK134.out 1).trans rfl
                have hcz37_2 : w21.cell? ⟨gb134, 2, none⟩ = some (.int .i64 0) := (bc_ BK134.out 2).trans rfl
                have hcz37_3 : w21.cell? ⟨gb134, 3, none⟩ = some (.bool false) := (bc_ BK134.out 3).trans rfl
                have hcz37_4 : w21.cell? ⟨gb134, 4, none⟩ = some (.slice none 0 0) := (bc_ BK134.out 4).trans rfl
                have hfz37_0 := bf_ BK134.out 0
                have hfz37_1 := bf_ BK134.out 1
                have hfz37_2 := bf_ BK134.out 2
                have hfz37_3 := bf_ BK134.out 3
                have hfz37_4 := bf_ BK134.out 4
                go_wp2_with (first | ((with_reducible refine gcl (f := 31) rfl ?_); refine goesL_ (some 47) rfl rfl Try.func31 (by kernel_rfl) rfl #[.slice A0_3 l0_3.length c0_3, .int .i64 ((r72 l0_4 x38_2).f1)] rfl (by (try simp only [List.map_toArray, List.map_cons, List.map_nil]); first | done | rfl | (simp only [List.length_drop, List.length_take]; rfl)) ?_; (with_reducible refine (jIs.calls k2 _ _ l0_3 ((r72 l0_4 x38_2).f1) true _ ?side1 ?side2 A24.out).mono ?_); (case side1 => exact Kd.C_below HR0_3.out (by repeat (first | (with_reducible first | exact HB.out | apply ba1 | apply bd_ | apply bd1 | refine bset ?_ GE131.out | refine bset ?_ GE134.out) | exact HB.out))); (case side2 => exact HC0_3.out); rintro e w' ⟨rfl, ⟨nd, rfl⟩⟩; refine ⟨_, rfl, ?_⟩))
                go_meet
                case rel => exact ⟨_, (true), (by first | rfl | (simp; done) | (simp [*]; done)), H', ⟨by have := HJ3.out; have := HK2.out; first | omega | exact Nat.le_refl _⟩, ⟨by (with_reducible repeat (first | refine bkn ?_ _ | refine bkd ?_ | refine bka ?_ _)); refine bkf ?_ NB131_134.out _; (with_reducible repeat (first | refine bkn ?_ _ | refine bkd ?_ | refine bka ?_ _)); refine bkf ?_ NB131_134.out _; (with_reducible repeat (first | refine bkn ?_ _ | refine bkd ?_ | refine bka ?_ _)); refine bkf ?_ NB131_134.out _; (with_reducible repeat (first | refine bkn ?_ _ | refine bkd ?_ | refine bka ?_ _)); refine bkf ?_ NB131_134.out _; (with_reducible repeat (first | refine bkn ?_ _ | refine bkd ?_ | refine bka ?_ _)); refine bkf ?_ NB131_134.out _; (with_reducible repeat (first | refine bkn ?_ _ | refine bkd ?_ | refine bka ?_ _)); exact BK131.out⟩, ⟨by (with_reducible repeat (first | refine bkn ?_ _ | refine bkd ?_ | refine bka ?_ _)); refine bkp (cs := #[.int .i64 ((r72 l0_4 x38_2).f0), .int .i64 ((r72 l0_4 x38_2).f1), .int .i64 ((r72 l0_4 x38_2).f2), .bool ((r72 l0_4 x38_2).f3), .slice none 0 0]) ?_ 4 _ rfl; (with_reducible repeat (first | refine bkn ?_ _ | refine bkd ?_ | refine bka ?_ _)); refine bkp (cs := #[.int .i64 ((r72 l0_4 x38_2).f0), .int .i64 ((r72 l0_4 x38_2).f1), .int .i64 ((r72 l0_4 x38_2).f2), .bool false, .slice none 0 0]) ?_ 3 _ rfl; (with_reducible repeat (first | refine bkn ?_ _ | refine bkd ?_ | refine bka ?_ _)); refine bkp (cs := #[.int .i64 ((r72 l0_4 x38_2).f0), .int .i64 ((r72 l0_4 x38_2).f1), .int .i64 0, .bool false, .slice none 0 0]) ?_ 2 _ rfl; (with_reducible repeat (first | refine bkn ?_ _ | refine bkd ?_ | refine bka ?_ _)); refine bkp (cs := #[.int .i64 ((r72 l0_4 x38_2).f0), .int .i64 0, .int .i64 0, .bool false, .slice none 0 0]) ?_ 1 _ rfl; (with_reducible repeat (first | refine bkn ?_ _ | refine bkd ?_ | refine bka ?_ _)); refine bkp (cs := #[.int .i64 0, .int .i64 0, .int .i64 0, .bool false, .slice none 0 0]) ?_ 0 _ rfl; (with_reducible repeat (first | refine bkn ?_ _ | refine bkd ?_ | refine bka ?_ _)); exact BK134.out⟩, ⟨by repeat (first | (with_reducible first | exact HB.out | apply ba1 | apply bd_ | apply bd1 | refine bset ?_ GE131.out | refine bset ?_ GE134.out) | exact HB.out)⟩⟩
               ·rw [if_neg c34] at H
                have c34b0 : (((r72 l0_4 x38_2).f2) == ((r72 l0_4 x38_2).f1)) = false := beq_eq_false_iff_ne.mpr c34
                have c34b1 : (((r72 l0_4 x38_2).f2) != ((r72 l0_4 x38_2).f1)) = true := bne_iff_ne.mpr c34
                have H' := Qz.mk H
                clear H
                have hnb38 := NB131_134.out
                have hnc38 := NB134_131.out
                have hcz39_0 : w21.cell? ⟨gb131, 0, none⟩ = some (.int .u64 a0_0) := (bc_ BK131.out 0).trans rfl
                have hcz39_1 : w21.cell? ⟨gb131, 1, none⟩ = some (.int .i64 a0_1) := (bc_ BK131.out 1).trans rfl
                have hcz39_2 : w21.cell? ⟨gb131, 2, none⟩ = some (.int .i64 a0_2) := (bc_ BK131.out 2).trans rfl
                have hcz39_3 : w21.cell? ⟨gb131, 3, none⟩ = some (.slice A0_3 l0_3.length c0_3) := (bc_ BK131.out 3).trans rfl
                have hcz39_4 : w21.cell? ⟨gb131, 4, none⟩ = some (.slice (some ad133) l0_4.length c0_4) := (bc_ BK131.out 4).trans rfl
                have hcz39_5 : w21.cell? ⟨gb131, 5, none⟩ = some (.slice A0_5 l0_5.length c0_5) := (bc_ BK131.out 5).trans rfl
                have hcz39_6 : w21.cell? ⟨gb131, 6, none⟩ = some (.int .i64 a0_6) := (bc_ BK131.out 6).trans rfl
                have hcz39_7 : w21.cell? ⟨gb131, 7, none⟩ = some (.slice A0_7 l0_7.length c0_7) := (bc_ BK131.out 7).trans rfl
                have hfz39_0 := bf_ BK131.out 0
                have hfz39_1 := bf_ BK131.out 1
                have hfz39_2 := bf_ BK131.out 2
                have hfz39_3 := bf_ BK131.out 3
                have hfz39_4 := bf_ BK131.out 4
                have hfz39_5 := bf_ BK131.out 5
                have hfz39_6 := bf_ BK131.out 6
                have hfz39_7 := bf_ BK131.out 7
                have hcz40_0 : w21.cell? ⟨gb134, 0, none⟩ = some (.int .i64 0) := (bc_ BK134.out 0).trans rfl
                have hcz40_1 : w21.cell? ⟨gb134, 1, none⟩ = some (.int .i64 0) := (bc_ BK134.out 1).trans rfl
                have hcz40_2 : w21.cell? ⟨gb134, 2, none⟩ = some (.int .i64 0) := (bc_ BK134.out 2).trans rfl
                have hcz40_3 : w21.cell? ⟨gb134, 3, none⟩ = some (.bool false) := (bc_ BK134.out 3).trans rfl
                have hcz40_4 : w21.cell? ⟨gb134, 4, none⟩ = some (.slice none 0 0) := (bc_ BK134.out 4).trans rfl
                have hfz40_0 := bf_ BK134.out 0
                have hfz40_1 := bf_ BK134.out 1
                have hfz40_2 := bf_ BK134.out 2
                have hfz40_3 := bf_ BK134.out 3
                have hfz40_4 := bf_ BK134.out 4
                go_wp2_with (first | ((with_reducible refine gcl (f := 31) rfl ?_); refine goesL_ (some 47) rfl rfl Try.func31 (by kernel_rfl) rfl #[.slice A0_3 l0_3.length c0_3, .int .i64 ((r72 l0_4 x38_2).f1)] rfl (by (try simp only [List.map_toArray, List.map_cons, List.map_nil]); first | done | rfl | (simp only [List.length_drop, List.length_take]; rfl)) ?_; (with_reducible refine (jIs.calls k2 _ _ l0_3 ((r72 l0_4 x38_2).f1) true _ ?side1 ?side2 A24.out).mono ?_); (case side1 => exact Kd.C_below HR0_3.out (by repeat (first | (with_reducible first | exact HB.out | apply ba1 | apply bd_ | apply bd1 | refine bset ?_ GE131.out | refine bset ?_ GE134.out) | exact HB.out))); (case side2 => exact HC0_3.out); rintro e w' ⟨rfl, ⟨nd, rfl⟩⟩; refine ⟨_, rfl, ?_⟩))
                go_meet
                case rel => exact ⟨_, (decide (((r72 l0_4 x38_2).f0) < 1)), (by first | rfl | (simp; done) | (simp [*]; done)), H', ⟨by have := HJ3.out; have := HK2.out; first | omega | exact Nat.le_refl _⟩, ⟨by (with_reducible repeat (first | refine bkn ?_ _ | refine bkd ?_ | refine bka ?_ _)); refine bkf ?_ NB131_134.out _; (with_reducible repeat (first | refine bkn ?_ _ | refine bkd ?_ | refine bka ?_ _)); refine bkf ?_ NB131_134.out _; (with_reducible repeat (first | refine bkn ?_ _ | refine bkd ?_ | refine bka ?_ _)); refine bkf ?_ NB131_134.out _; (with_reducible repeat (first | refine bkn ?_ _ | refine bkd ?_ | refine bka ?_ _)); refine bkf ?_ NB131_134.out _; (with_reducible repeat (first | refine bkn ?_ _ | refine bkd ?_ | refine bka ?_ _)); refine bkf ?_ NB131_134.out _; (with_reducible repeat (first | refine bkn ?_ _ | refine bkd ?_ | refine bka ?_ _)); exact BK131.out⟩, ⟨by (with_reducible repeat (first | refine bkn ?_ _ | refine bkd ?_ | refine bka ?_ _)); refine bkp (cs := #[.int .i64 ((r72 l0_4 x38_2).f0), .int .i64 ((r72 l0_4 x38_2).f1), .int .i64 ((r72 l0_4 x38_2).f2), .bool ((r72 l0_4 x38_2).f3), .slice none 0 0]) ?_ 4 _ rfl; (with_reducible repeat (first | refine bkn ?_ _ | refine bkd ?_ | refine bka ?_ _)); refine bkp (cs := #[.int .i64 ((r72 l0_4 x38_2).f0), .int .i64 ((r72 l0_4 x38_2).f1), .int .i64 ((r72 l0_4 x38_2).f2), .bool false, .slice none 0 0]) ?_ 3 _ rfl; (with_reducible repeat (first | refine bkn ?_ _ | refine bkd ?_ | refine bka ?_ _)); refine bkp (cs := #[.int .i64 ((r72 l0_4 x38_2).f0), .int .i64 ((r72 l0_4 x38_2).f1), .int .i64 0, .bool false, .slice none 0 0]) ?_ 2 _ rfl; (with_reducible repeat (first | refine bkn ?_ _ | refine bkd ?_ | refine bka ?_ _)); refine bkp (cs := #[.int .i64 ((r72 l0_4 x38_2).f0), .int .i64 0, .int .i64 0, .bool false, .slice none 0 0]) ?_ 1 _ rfl; (with_reducible repeat (first | refine bkn ?_ _ | refine bkd ?_ | refine bka ?_ _)); refine bkp (cs := #[.int .i64 0, .int .i64 0, .int .i64 0, .bool false, .slice none 0 0]) ?_ 0 _ rfl; (with_reducible repeat (first | refine bkn ?_ _ | refine bkd ?_ | refine bka ?_ _)); exact BK134.out⟩, ⟨by repeat (first | (with_reducible first | exact HB.out | apply ba1 | apply bd_ | apply bd1 | refine bset ?_ GE131.out | refine bset ?_ GE134.out) | exact HB.out)⟩⟩
            ·replace c25 := Bool.eq_false_iff.mpr c25
             subst c25
             have H1 : (jCk.j2 k2 x38_2 l0_4 (l0_4.length : Int) x38_2 true a0_0 a0_1 a0_2 l0_3 l0_4 l0_5 a0_6 l0_7 ((r72 l0_4 x38_2).f0) ((r72 l0_4 x38_2).f1) ((r72 l0_4 x38_2).f2) ((r72 l0_4 x38_2).f3) ((r72 l0_4 x38_2).f4)) = some r := by rw [if_neg (show ¬ (false = true) by decide)] at H; exact H
             clear H
             have H := H1
             clear H1
             have H' := Qz.mk H
             clear H
             have hnb41 := NB131_134.out
             have hnc41 := NB134_131.out
             have hcz42_0 : w21.cell? ⟨gb131, 0, none⟩ = some (.int .u64 a0_0) := (bc_ BK131.out 0).trans rfl
             have hcz42_1 : w21.cell? ⟨gb131, 1, none⟩ = some (.int .i64 a0_1) := (bc_ BK131.out 1).trans rfl
             have hcz42_2 : w21.cell? ⟨gb131, 2, none⟩ = some (.int .i64 a0_2) := (bc_ BK131.out 2).trans rfl
             have hcz42_3 : w21.cell? ⟨gb131, 3, none⟩ = some (.slice A0_3 l0_3.length c0_3) := (bc_ BK131.out 3).trans rfl
             have hcz42_4 : w21.cell? ⟨gb131, 4, none⟩ = some (.slice (some ad133) l0_4.length c0_4) := (bc_ BK131.out 4).trans rfl
             have hcz42_5 : w21.cell? ⟨gb131, 5, none⟩ = some (.slice A0_5 l0_5.length c0_5) := (bc_ BK131.out 5).trans rfl
             have hcz42_6 : w21.cell? ⟨gb131, 6, none⟩ = some (.int .i64 a0_6) := (bc_ BK131.out 6).trans rfl
             have hcz42_7 : w21.cell? ⟨gb131, 7, none⟩ = some (.slice A0_7 l0_7.length c0_7) := (bc_ BK131.out 7).trans rfl
             have hfz42_0 := bf_ BK131.out 0
             have hfz42_1 := bf_ BK131.out 1
             have hfz42_2 := bf_ BK131.out 2
             have hfz42_3 := bf_ BK131.out 3
             have hfz42_4 := bf_ BK131.out 4
             have hfz42_5 := bf_ BK131.out 5
             have hfz42_6 := bf_ BK131.out 6
             have hfz42_7 := bf_ BK131.out 7
             have hcz43_0 : w21.cell? ⟨gb134, 0, none⟩ = some (.int .i64 0) := (bc_ BK134.out 0).trans rfl
             have hcz43_1 : w21.cell? ⟨gb134, 1, none⟩ = some (.int .i64 0) := (bc_ BK134.out 1).trans rfl
             have hcz43_2 : w21.cell? ⟨gb134, 2, none⟩ = some (.int .i64 0) := (bc_ BK134.out 2).trans rfl
             have hcz43_3 : w21.cell? ⟨gb134, 3, none⟩ = some (.bool false) := (bc_ BK134.out 3).trans rfl
             have hcz43_4 : w21.cell? ⟨gb134, 4, none⟩ = some (.slice none 0 0) := (bc_ BK134.out 4).trans rfl
             have hfz43_0 := bf_ BK134.out 0
             have hfz43_1 := bf_ BK134.out 1
             have hfz43_2 := bf_ BK134.out 2
             have hfz43_3 := bf_ BK134.out 3
             have hfz43_4 := bf_ BK134.out 4
             go_wp2_with (first | ((with_reducible refine gcl (f := 31) rfl ?_); refine goesL_ (some 47) rfl rfl Try.func31 (by kernel_rfl) rfl #[.slice A0_3 l0_3.length c0_3, .int .i64 ((r72 l0_4 x38_2).f1)] rfl (by (try simp only [List.map_toArray, List.map_cons, List.map_nil]); first | done | rfl | (simp only [List.length_drop, List.length_take]; rfl)) ?_; (with_reducible refine (jIs.calls k2 _ _ l0_3 ((r72 l0_4 x38_2).f1) false _ ?side1 ?side2 A24.out).mono ?_); (case side1 => exact Kd.C_below HR0_3.out (by repeat (first | (with_reducible first | exact HB.out | apply ba1 | apply bd_ | apply bd1 | refine bset ?_ GE131.out | refine bset ?_ GE134.out) | exact HB.out))); (case side2 => exact HC0_3.out); rintro e w' ⟨rfl, ⟨nd, rfl⟩⟩; refine ⟨_, rfl, ?_⟩))
             go_meet
             case rel => exact ⟨_, (true), (by first | rfl | (simp; done) | (simp [*]; done)), H', ⟨by have := HJ3.out; have := HK2.out; first | omega | exact Nat.le_refl _⟩, ⟨by (with_reducible repeat (first | refine bkn ?_ _ | refine bkd ?_ | refine bka ?_ _)); refine bkf ?_ NB131_134.out _; (with_reducible repeat (first | refine bkn ?_ _ | refine bkd ?_ | refine bka ?_ _)); refine bkf ?_ NB131_134.out _; (with_reducible repeat (first | refine bkn ?_ _ | refine bkd ?_ | refine bka ?_ _)); refine bkf ?_ NB131_134.out _; (with_reducible repeat (first | refine bkn ?_ _ | refine bkd ?_ | refine bka ?_ _)); refine bkf ?_ NB131_134.out _; (with_reducible repeat (first | refine bkn ?_ _ | refine bkd ?_ | refine bka ?_ _)); refine bkf ?_ NB131_134.out _; (with_reducible repeat (first | refine bkn ?_ _ | refine bkd ?_ | refine bka ?_ _)); exact BK131.out⟩, ⟨by (with_reducible repeat (first | refine bkn ?_ _ | refine bkd ?_ | refine bka ?_ _)); refine bkp (cs := #[.int .i64 ((r72 l0_4 x38_2).f0), .int .i64 ((r72 l0_4 x38_2).f1), .int .i64 ((r72 l0_4 x38_2).f2), .bool ((r72 l0_4 x38_2).f3), .slice none 0 0]) ?_ 4 _ rfl; (with_reducible repeat (first | refine bkn ?_ _ | refine bkd ?_ | refine bka ?_ _)); refine bkp (cs := #[.int .i64 ((r72 l0_4 x38_2).f0), .int .i64 ((r72 l0_4 x38_2).f1), .int .i64 ((r72 l0_4 x38_2).f2), .bool false, .slice none 0 0]) ?_ 3 _ rfl; (with_reducible repeat (first | refine bkn ?_ _ | refine bkd ?_ | refine bka ?_ _)); refine bkp (cs := #[.int .i64 ((r72 l0_4 x38_2).f0), .int .i64 ((r72 l0_4 x38_2).f1), .int .i64 0, .bool false, .slice none 0 0]) ?_ 2 _ rfl; (with_reducible repeat (first | refine bkn ?_ _ | refine bkd ?_ | refine bka ?_ _)); refine bkp (cs := #[.int .i64 ((r72 l0_4 x38_2).f0), .int .i64 0, .int .i64 0, .bool false, .slice none 0 0]) ?_ 1 _ rfl; (with_reducible repeat (first | refine bkn ?_ _ | refine bkd ?_ | refine bka ?_ _)); refine bkp (cs := #[.int .i64 0, .int .i64 0, .int .i64 0, .bool false, .slice none 0 0]) ?_ 0 _ rfl; (with_reducible repeat (first | refine bkn ?_ _ | refine bkd ?_ | refine bka ?_ _)); exact BK134.out⟩, ⟨by repeat (first | (with_reducible first | exact HB.out | apply ba1 | apply bd_ | apply bd1 | refine bset ?_ GE131.out | refine bset ?_ GE134.out) | exact HB.out)⟩⟩
           case rest =>
            clear HC20
            try clear c1
            try clear p1
            try clear q1
            try clear hx1
            try clear c2
            try clear p2
            try clear c3
            try clear c3b0
            try clear c3b1
            try clear c4
            try clear c8
            try clear c8b0
            try clear c8b1
            try clear c9
            try clear c9b0
            try clear c12
            try clear c13
            try clear p13
            try clear q13
            try clear hx13
            try clear c14
            try clear c14b0
            try clear c14b1
            try clear c17
            try clear c17b0
            try clear c18
            try clear c18b0
            try clear c19
            try clear c19b0
            try clear c22
            try clear c25
            try clear c26
            try clear c26b0
            try clear c27
            try clear c30
            try clear c30b0
            try clear c31
            try clear c34
            try clear c34b0
            try clear c34b1
            try clear c35
            try clear c38
            try clear c41
            try clear hcz10_0
            try clear hcz10_1
            try clear hcz10_2
            try clear hcz10_3
            try clear hcz10_4
            try clear hcz10_5
            try clear hcz10_6
            try clear hcz10_7
            try clear hcz11_0
            try clear hcz11_1
            try clear hcz11_2
            try clear hcz11_3
            try clear hcz11_4
            try clear hcz11_5
            try clear hcz11_6
            try clear hcz11_7
            try clear hcz12_0
            try clear hcz12_1
            try clear hcz12_2
            try clear hcz12_3
            try clear hcz12_4
            try clear hcz12_5
            try clear hcz12_6
            try clear hcz12_7
            try clear hcz15_0
            try clear hcz15_1
            try clear hcz15_2
            try clear hcz15_3
            try clear hcz15_4
            try clear hcz15_5
            try clear hcz15_6
            try clear hcz15_7
            try clear hcz16_0
            try clear hcz16_1
            try clear hcz16_2
            try clear hcz16_3
            try clear hcz16_4
            try clear hcz16_5
            try clear hcz16_6
            try clear hcz16_7
            try clear hcz23_0
            try clear hcz23_1
            try clear hcz23_2
            try clear hcz23_3
            try clear hcz23_4
            try clear hcz28_0
            try clear hcz28_1
            try clear hcz28_2
            try clear hcz28_3
            try clear hcz28_4
            try clear hcz28_5
            try clear hcz28_6
            try clear hcz28_7
            try clear hcz29_0
            try clear hcz29_1
            try clear hcz29_2
            try clear hcz29_3
            try clear hcz29_4
            try clear hcz32_0
            try clear hcz32_1
            try clear hcz32_2
            try clear hcz32_3
            try clear hcz32_4
            try clear hcz32_5
            try clear hcz32_6
            try clear hcz32_7
            try clear hcz33_0
            try clear hcz33_1
            try clear hcz33_2
            try clear hcz33_3
            try clear hcz33_4
            try clear hcz36_0
            try clear hcz36_1
            try clear hcz36_2
            try clear hcz36_3
            try clear hcz36_4
            try clear hcz36_5
            try clear hcz36_6
            try clear hcz36_7
            try clear hcz37_0
            try clear hcz37_1
            try clear hcz37_2
            try clear hcz37_3
            try clear hcz37_4
            try clear hcz39_0
            try clear hcz39_1
            try clear hcz39_2
            try clear hcz39_3
            try clear hcz39_4
            try clear hcz39_5
            try clear hcz39_6
            try clear hcz39_7
            try clear hcz40_0
            try clear hcz40_1
            try clear hcz40_2
            try clear hcz40_3
            try clear hcz40_4
            try clear hcz42_0
            try clear hcz42_1
            try clear hcz42_2
            try clear hcz42_3
            try clear hcz42_4
            try clear hcz42_5
            try clear hcz42_6
            try clear hcz42_7
            try clear hcz43_0
            try clear hcz43_1
            try clear hcz43_2
            try clear hcz43_3
            try clear hcz43_4
            try clear hcz6_0
            try clear hcz6_1
            try clear hcz6_2
            try clear hcz6_3
            try clear hcz6_4
            try clear hcz6_5
            try clear hcz6_6
            try clear hcz6_7
            try clear hfz10_0
            try clear hfz10_1
            try clear hfz10_2
            try clear hfz10_3
            try clear hfz10_4
            try clear hfz10_5
            try clear hfz10_6
            try clear hfz10_7
            try clear hfz11_0
            try clear hfz11_1
            try clear hfz11_2
            try clear hfz11_3
            try clear hfz11_4
            try clear hfz11_5
            try clear hfz11_6
            try clear hfz11_7
            try clear hfz12_0
            try clear hfz12_1
            try clear hfz12_2
            try clear hfz12_3
            try clear hfz12_4
            try clear hfz12_5
            try clear hfz12_6
            try clear hfz12_7
            try clear hfz15_0
            try clear hfz15_1
            try clear hfz15_2
            try clear hfz15_3
            try clear hfz15_4
            try clear hfz15_5
            try clear hfz15_6
            try clear hfz15_7
            try clear hfz16_0
            try clear hfz16_1
            try clear hfz16_2
            try clear hfz16_3
            try clear hfz16_4
            try clear hfz16_5
            try clear hfz16_6
            try clear hfz16_7
            try clear hfz23_0
            try clear hfz23_1
            try clear hfz23_2
            try clear hfz23_3
            try clear hfz23_4
            try clear hfz28_0
            try clear hfz28_1
            try clear hfz28_2
            try clear hfz28_3
            try clear hfz28_4
            try clear hfz28_5
            try clear hfz28_6
            try clear hfz28_7
            try clear hfz29_0
            try clear hfz29_1
            try clear hfz29_2
            try clear hfz29_3
            try clear hfz29_4
            try clear hfz32_0
            try clear hfz32_1
            try clear hfz32_2
            try clear hfz32_3
            try clear hfz32_4
            try clear hfz32_5
            try clear hfz32_6
            try clear hfz32_7
            try clear hfz33_0
            try clear hfz33_1
            try clear hfz33_2
            try clear hfz33_3
            try clear hfz33_4
            try clear hfz36_0
            try clear hfz36_1
            try clear hfz36_2
            try clear hfz36_3
            try clear hfz36_4
            try clear hfz36_5
            try clear hfz36_6
            try clear hfz36_7
            try clear hfz37_0
            try clear hfz37_1
            try clear hfz37_2
            try clear hfz37_3
            try clear hfz37_4
            try clear hfz39_0
            try clear hfz39_1
            try clear hfz39_2
            try clear hfz39_3
            try clear hfz39_4
            try clear hfz39_5
            try clear hfz39_6
            try clear hfz39_7
            try clear hfz40_0
            try clear hfz40_1
            try clear hfz40_2
            try clear hfz40_3
            try clear hfz40_4
            try clear hfz42_0
            try clear hfz42_1
            try clear hfz42_2
            try clear hfz42_3
            try clear hfz42_4
            try clear hfz42_5
            try clear hfz42_6
            try clear hfz42_7
            try clear hfz43_0
            try clear hfz43_1
            try clear hfz43_2
            try clear hfz43_3
            try clear hfz43_4
            try clear hfz6_0
            try clear hfz6_1
            try clear hfz6_2
            try clear hfz6_3
            try clear hfz6_4
            try clear hfz6_5
            try clear hfz6_6
            try clear hfz6_7
            try clear hx133_0
            try clear hx133_1
            try clear hx133_2
            try clear hx133_3
            try clear hx133_4
            try clear p133
            try clear p2
            try clear q133
            obtain ⟨kq, x73_19, rfl, HA, HJ19, BK131, BK134, HB⟩ := hcut
            cases kq with
            | zero => exact absurd HA.out (by simp [jCk.j2])
            | succ kj19 =>
             have H := HA.out
             clear HA
             simp only [jCk.j2] at H
             by_cases c44 : x73_19 = true
             ·subst c44
              have H1 : (some 2) = some r := by rw [if_pos rfl] at H; exact H
              clear H
              have H := H1
              clear H1
              obtain rfl := Option.some.inj H
              go_wp2
              go_ret
              exact ⟨by first | rfl | (simp [ewn, ews] <;> rfl) | (simp [*, ewn, ews] <;> rfl), by repeat (first | (with_reducible first | exact HB.out | apply ba1 | apply bd_ | apply bd1 | refine bset ?_ GE131.out | refine bset ?_ GE134.out) | exact HB.out)⟩
             ·replace c44 := Bool.eq_false_iff.mpr c44
              subst c44
              have H1 : (if (((r72 l0_4 x38_2).f4).length : Int) > 65536 then (some 3) else (if 0 ≤ x38_2 then (if x38_2 ≤ (l0_4.length : Int) then ((jAh.f kj19 (l0_4.take (x38_2 : Int).toNat) ((r72 l0_4 x38_2).f0) ((r72 l0_4 x38_2).f1) ((r72 l0_4 x38_2).f2) ((r72 l0_4 x38_2).f3) ((r72 l0_4 x38_2).f4)).bind fun t140 => (if t140 = true then (some 6) else (jCk.l0 kj19 l0_4 (l0_4.length : Int) (wrap64 (x38_2 + 1)) a0_0 a0_1 a0_2 l0_3 l0_4 l0_5 a0_6 l0_7))) else (none)) else (none))) = some r := by rw [if_neg (show ¬ (false = true) by decide)] at H; exact H
              clear H
              have H := H1
              clear H1
              by_cases c45 : (((r72 l0_4 x38_2).f4).length : Int) > 65536
              ·rw [if_pos c45] at H
               have c45b0 : decide (65536 < (((r72 l0_4 x38_2).f4).length : Int)) = true := decide_eq_true c45
               have c45b1 : decide (65536 < ((r72 l0_4 x38_2).f4).length) = true := decide_eq_true (by omega)
               clear c45
               obtain rfl := Option.some.inj H
               have hnb46 := NB134_131.out
               have hnc46 := NB131_134.out
               have hcz47_0 : wc.cell? ⟨gb134, 0, none⟩ = some (.int .i64 ((r72 l0_4 x38_2).f0)) := (bc_ BK134.out 0).trans rfl
               have hcz47_1 : wc.cell? ⟨gb134, 1, none⟩ = some (.int .i64 ((r72 l0_4 x38_2).f1)) := (bc_ BK134.out 1).trans rfl
               have hcz47_2 : wc.cell? ⟨gb134, 2, none⟩ = some (.int .i64 ((r72 l0_4 x38_2).f2)) := (bc_ BK134.out 2).trans rfl
               have hcz47_3 : wc.cell? ⟨gb134, 3, none⟩ = some (.bool ((r72 l0_4 x38_2).f3)) := (bc_ BK134.out 3).trans rfl
               have hcz47_4 : wc.cell? ⟨gb134, 4, none⟩ = some (.slice A133_4 ((r72 l0_4 x38_2).f4).length c133_4) := (bc_ BK134.out 4).trans rfl
               have hfz47_0 := bf_ BK134.out 0
               have hfz47_1 := bf_ BK134.out 1
               have hfz47_2 := bf_ BK134.out 2
               have hfz47_3 := bf_ BK134.out 3
               have hfz47_4 := bf_ BK134.out 4
               go_wp2
               go_ret
               exact ⟨by first | rfl | (simp [ewn, ews] <;> rfl) | (simp [*, ewn, ews] <;> rfl), by repeat (first | (with_reducible first | exact HB.out | apply ba1 | apply bd_ | apply bd1 | refine bset ?_ GE131.out | refine bset ?_ GE134.out) | exact HB.out)⟩
              ·rw [if_neg c45] at H
               have c45b0 : decide (65536 < (((r72 l0_4 x38_2).f4).length : Int)) = false := decide_eq_false c45
               have c45b1 : decide (65536 < ((r72 l0_4 x38_2).f4).length) = false := decide_eq_false (by omega)
               clear c45
               by_cases c48 : 0 ≤ x38_2
               ·rw [if_pos c48] at H
                have c48b0 := eq_true c48
                have c48b1 : decide (0 ≤ x38_2) = true := decide_eq_true c48
                clear c48
                by_cases c49 : x38_2 ≤ (l0_4.length : Int)
                ·rw [if_pos c49] at H
                 have c49b0 := eq_true c49
                 have c49b1 : decide (x38_2 ≤ (l0_4.length : Int)) = true := decide_eq_true c49
                 clear c49
                 obtain ⟨y136, hy136⟩ : ∃ y_ : List (S72), y_ = (l0_4.take (x38_2 : Int).toNat) := ⟨_, rfl⟩
                 replace H : ((jAh.f kj19 y136 ((r72 l0_4 x38_2).f0) ((r72 l0_4 x38_2).f1) ((r72 l0_4 x38_2).f2) ((r72 l0_4 x38_2).f3) ((r72 l0_4 x38_2).f4)).bind fun t140 => (if t140 = true then (some 6) else (jCk.l0 kj19 l0_4 (l0_4.length : Int) (wrap64 (x38_2 + 1)) a0_0 a0_1 a0_2 l0_3 l0_4 l0_5 a0_6 l0_7))) = some r := by first | (rw [hy136]; with_reducible exact H) | (have H2_ := (Option.bind_some _ _).symm.trans H; rw [hy136]; with_reducible exact H2_) | (have H2_ := (Option.bind_some _ _).symm.trans H; with_reducible exact H2_) | with_reducible exact H | (rw [hy136]; exact H) | exact H
                 have Ny136 := Qz.mk hy136
                 clear hy136
                 replace H := Option.bind_eq_some_iff.mp H
                 obtain ⟨t140, A500, H⟩ := H
                 replace H : (if t140 = true then (some 6) else (jCk.l0 kj19 l0_4 (l0_4.length : Int) (wrap64 (x38_2 + 1)) a0_0 a0_1 a0_2 l0_3 l0_4 l0_5 a0_6 l0_7)) = some r := H
                 have A50 := Qz.mk A500
                 clear A500
                 by_cases c51 : t140 = true
                 ·subst c51
                  have H1 : (some 6) = some r := by rw [if_pos rfl] at H; exact H
                  clear H
                  have H := H1
                  clear H1
                  obtain rfl := Option.some.inj H
                  have hnb52 := NB134_131.out
                  have hnc52 := NB131_134.out
                  have hcz53_0 : wc.cell? ⟨gb134, 0, none⟩ = some (.int .i64 ((r72 l0_4 x38_2).f0)) := (bc_ BK134.out 0).trans rfl
                  have hcz53_1 : wc.cell? ⟨gb134, 1, none⟩ = some (.int .i64 ((r72 l0_4 x38_2).f1)) := (bc_ BK134.out 1).trans rfl
                  have hcz53_2 : wc.cell? ⟨gb134, 2, none⟩ = some (.int .i64 ((r72 l0_4 x38_2).f2)) := (bc_ BK134.out 2).trans rfl
                  have hcz53_3 : wc.cell? ⟨gb134, 3, none⟩ = some (.bool ((r72 l0_4 x38_2).f3)) := (bc_ BK134.out 3).trans rfl
                  have hcz53_4 : wc.cell? ⟨gb134, 4, none⟩ = some (.slice A133_4 ((r72 l0_4 x38_2).f4).length c133_4) := (bc_ BK134.out 4).trans rfl
                  have hfz53_0 := bf_ BK134.out 0
                  have hfz53_1 := bf_ BK134.out 1
                  have hfz53_2 := bf_ BK134.out 2
                  have hfz53_3 := bf_ BK134.out 3
                  have hfz53_4 := bf_ BK134.out 4
                  try go_wp2
                  have n0_ := Qz.mk (bkd BK131.out)
                  have n1_ := Qz.mk (bkd BK134.out)
                  have n2_ := Qz.mk (bd1 HB.out)
                  clear BK131
                  clear BK134
                  clear HB
                  have BK131 := n0_
                  have BK134 := n1_
                  have HB := n2_
                  clear n0_ n1_ n2_
                  have q55 : (x38_2 : Int) ≤ ((l0_4.length : Int) : Int) := of_decide_eq_true (by first | (with_reducible assumption) | assumption)
                  obtain ⟨i055, hi055, _, hsz55, _⟩ := info_parts info72
                  have hroom55 : l0_4.length ≤ c0_4 := HC0_4.out
                  have hC55 : Kd.C k72 _ (some ad133) l0_4.length l0_4 := HR0_4.out
                  have hcut55 := cut_to (P := Try.prog) 26 72 .i64 Try.underlying26 hi055 (some ad133) l0_4.length c0_4 x38_2 (of_decide_eq_true (by first | (with_reducible assumption) | assumption)) q55 hroom55
                  have hr55 := Kd.C_take (m := (x38_2 : Int).toNat) hC55 (by omega)
                  have hy55 : y136.length = (x38_2 : Int).toNat := (by rw [Ny136.out, List.length_take]; omega)
                  rw [← Ny136.out] at hr55
                  rw [← hy55] at hcut55
                  have HR139 := Qz.mk hr55
                  have HC139 := Qz.mk (show y136.length ≤ c0_4 from by omega)
                  clear hr55 hC55 hroom55 hi055 hsz55
                  have KY55 := Qz.mk hy55
                  clear hy55
                  replace q55 := eq_true q55
                  refine start_ (n := 6) (S := fun w' => w'.cell? ⟨gb131, 0, none⟩ = some (.int .u64 a0_0) ∧ w'.cell? ⟨gb131, 1, none⟩ = some (.int .i64 a0_1) ∧ w'.cell? ⟨gb131, 2, none⟩ = some (.int .i64 a0_2) ∧ w'.cell? ⟨gb131, 3, none⟩ = some (.slice A0_3 l0_3.length c0_3) ∧ w'.cell? ⟨gb131, 4, none⟩ = some (.slice (some ad133) l0_4.length c0_4) ∧ w'.cell? ⟨gb131, 5, none⟩ = some (.slice A0_5 l0_5.length c0_5) ∧ w'.cell? ⟨gb131, 6, none⟩ = some (.int .i64 a0_6) ∧ w'.cell? ⟨gb131, 7, none⟩ = some (.slice A0_7 l0_7.length c0_7) ∧ w'.cell? ⟨gb134, 0, none⟩ = some (.int .i64 ((r72 l0_4 x38_2).f0)) ∧ w'.cell? ⟨gb134, 1, none⟩ = some (.int .i64 ((r72 l0_4 x38_2).f1)) ∧ w'.cell? ⟨gb134, 2, none⟩ = some (.int .i64 ((r72 l0_4 x38_2).f2)) ∧ w'.cell? ⟨gb134, 3, none⟩ = some (.bool ((r72 l0_4 x38_2).f3)) ∧ w'.cell? ⟨gb134, 4, none⟩ = some (.slice A133_4 ((r72 l0_4 x38_2).f4).length c133_4)) (ds := []) #[false, false, false, false, false, false] (by kernel_rfl) rfl rfl ⟨(bc_ BK131.out 0).trans rfl, (bc_ BK131.out 1).trans rfl, (bc_ BK131.out 2).trans rfl, (bc_ BK131.out 3).trans rfl, (bc_ BK131.out 4).trans rfl, (bc_ BK131.out 5).trans rfl, (bc_ BK131.out 6).trans rfl, (bc_ BK131.out 7).trans rfl, (bc_ BK134.out 0).trans rfl, (bc_ BK134.out 1).trans rfl, (bc_ BK134.out 2).trans rfl, (bc_ BK134.out 3).trans rfl, (bc_ BK134.out 4).trans rfl⟩ (fun hHeld => ?_)
                  generalize wc.drew = w54 at BK131 BK134 HB HR139 hHeld ⊢
                  refine pure_ (i := 0) (N := some 78) (v := ?_) (a' := ?_) #[true, false, false, false, false, false] rfl rfl (by kernel_rfl) (fun _ _ _ h => h) (Or.inl ⟨by rfl, ?_⟩) ?_ ?_
                  rotate_left
                  ·intro w'
                   go_simp
                   with_reducible rfl
                  rotate_left
                  ·simp only [aw_]
                   rfl
                  refine pure_ (i := 2) (N := some 80) (v := ?_) (a' := ?_) #[true, false, true, false, false, false] rfl rfl (by kernel_rfl) (fun _ _ _ h => h) (Or.inl ⟨by rfl, ?_⟩) ?_ ?_
                  rotate_left
                  ·intro w'
                   go_simp
                   with_reducible rfl
                  rotate_left
                  ·simp only [aw_]
                   rfl
                  refine take_ (i := 1) (N := some 79) (v := ?_) (a' := ?_) #[true, true, true, false, false, false] rfl rfl (by kernel_rfl) (fun _ _ _ h => h) (Or.inl ⟨by rfl, ?_⟩) hHeld ?_ ?_
                  rotate_left
                  ·rintro w' ⟨s0, s1, s2, s3, s4, s5, s6, s7, s8, s9, s10, s11, s12⟩
                   go_simp
                   with_reducible rfl
                  rotate_left
                  ·simp only [aw_]
                   rfl
                  refine pure_ (i := 3) (N := some 81) (v := ?_) (a' := ?_) #[true, true, true, true, false, false] rfl rfl (by kernel_rfl) (fun _ _ _ h => h) (Or.inl ⟨by rfl, ?_⟩) ?_ ?_
                  rotate_left
                  ·intro w'
                   go_simp
                   with_reducible rfl
                  rotate_left
                  ·simp only [aw_]
                   rfl
                  refine take_ (i := 4) (N := some 82) (v := ?_) (a' := ?_) #[true, true, true, true, true, false] rfl rfl (by kernel_rfl) (fun _ _ _ h => h) (Or.inl ⟨by rfl, ?_⟩) hHeld ?_ ?_
                  rotate_left
                  ·rintro w' ⟨s0, s1, s2, s3, s4, s5, s6, s7, s8, s9, s10, s11, s12⟩
                   go_simp
                   with_reducible rfl
                  rotate_left
                  ·simp only [aw_]
                   rfl
                  refine one_ (i := 5) (N := some 83) #[true, true, true, true, true, true] rfl rfl (by kernel_rfl) (by decide) (fun K hK => ?_)
                  refine goes_ Try.func43 (by kernel_rfl) rfl #[.slice (some ad133) y136.length c0_4, .agg #[.int .i64 ((r72 l0_4 x38_2).f0), .int .i64 ((r72 l0_4 x38_2).f1), .int .i64 ((r72 l0_4 x38_2).f2), .bool ((r72 l0_4 x38_2).f3), .slice A133_4 ((r72 l0_4 x38_2).f4).length c133_4]] (by rfl) rfl rfl (by (try simp only [List.map_toArray, List.map_cons, List.map_nil]); first | done | rfl | (simp only [List.length_drop, List.length_take]; rfl)) ?_
                  with_reducible refine (jAh.calls kj19 _ _ y136 ((r72 l0_4 x38_2).f0) ((r72 l0_4 x38_2).f1) ((r72 l0_4 x38_2).f2) ((r72 l0_4 x38_2).f3) _ _ ((r72 l0_4 x38_2).f4) true _ ?side1 ?side2 ?side3 ?side4 A50.out).mono ?_
                  (case side1 => repeat (first | exact (Kd.C_below HR139.out HB.out) | (with_reducible refine Kd.C_alloc ?_ _) | (with_reducible refine Kd.C_drewN ?_ _) | (with_reducible refine Kd.C_drew ?_)))
                  (case side2 => exact HC139.out)
                  (case side3 => repeat (first | exact (Kd.C_below HR133_4.out HB.out) | (with_reducible refine Kd.C_alloc ?_ _) | (with_reducible refine Kd.C_drewN ?_ _) | (with_reducible refine Kd.C_drew ?_)))
                  (case side4 => exact HC133_4.out)
                  rintro e w56 ⟨rfl, hb⟩
                  refine ⟨_, rfl, ?_⟩
                  have n0_ := Qz.mk (bkb (g := gb131) (o := .cells #[.int .u64 a0_0, .int .i64 a0_1, .int .i64 a0_2, .slice A0_3 l0_3.length c0_3, .slice (some ad133) l0_4.length c0_4, .slice A0_5 l0_5.length c0_5, .int .i64 a0_6, .slice A0_7 l0_7.length c0_7] 30 (0, 0)) (by (with_reducible repeat (first | refine bkn ?_ _ | refine bkd ?_ | refine bka ?_ _)); exact BK131.out) hb)
                  have n1_ := Qz.mk (bkb (g := gb134) (o := .cells #[.int .i64 ((r72 l0_4 x38_2).f0), .int .i64 ((r72 l0_4 x38_2).f1), .int .i64 ((r72 l0_4 x38_2).f2), .bool ((r72 l0_4 x38_2).f3), .slice A133_4 ((r72 l0_4 x38_2).f4).length c133_4] 72 (0, 0)) (by (with_reducible repeat (first | refine bkn ?_ _ | refine bkd ?_ | refine bka ?_ _)); exact BK134.out) hb)
                  have n2_ := Qz.mk (bst (by repeat (first | (with_reducible first | exact HB.out | apply ba1 | apply bd_ | apply bd1 | refine bset ?_ GE131.out | refine bset ?_ GE134.out) | exact HB.out)) hb)
                  clear BK131
                  clear BK134
                  clear HB
                  have BK131 := n0_
                  have BK134 := n1_
                  have HB := n2_
                  clear n0_ n1_ n2_
                  (try clear hb)
                  (try clear hb2)
                  (try clear hk)
                  (try clear hi)
                  refine hK.out _ _ ⟨(bc_ BK131.out 0).trans rfl, (bc_ BK131.out 1).trans rfl, (bc_ BK131.out 2).trans rfl, (bc_ BK131.out 3).trans rfl, (bc_ BK131.out 4).trans rfl, (bc_ BK131.out 5).trans rfl, (bc_ BK131.out 6).trans rfl, (bc_ BK131.out 7).trans rfl, (bc_ BK134.out 0).trans rfl, (bc_ BK134.out 1).trans rfl, (bc_ BK134.out 2).trans rfl, (bc_ BK134.out 3).trans rfl, (bc_ BK134.out 4).trans rfl⟩ (fun hHeld => ?_)
                  clear hK K
                  refine norm_ (a' := ?_) ?_ ?_
                  rotate_left
                  ·show Act.put _ (some 83) _ = _
                   simp only [aw_]
                   rfl
                  refine done_ (by kernel_rfl) ?_
                  try go_wp2
                  go_ret
                  exact ⟨by first | rfl | (simp [ewn, ews] <;> rfl) | (simp [*, ewn, ews] <;> rfl), by repeat (first | (with_reducible first | exact HB.out | apply ba1 | apply bd_ | apply bd1 | refine bset ?_ GE131.out | refine bset ?_ GE134.out) | exact HB.out)⟩
                 ·replace c51 := Bool.eq_false_iff.mpr c51
                  subst c51
                  have H1 : (jCk.l0 kj19 l0_4 (l0_4.length : Int) (wrap64 (x38_2 + 1)) a0_0 a0_1 a0_2 l0_3 l0_4 l0_5 a0_6 l0_7) = some r := by rw [if_neg (show ¬ (false = true) by decide)] at H; exact H
                  clear H
                  have H := H1
                  clear H1
                  have H' := Qz.mk H
                  clear H
                  have hnb57 := NB134_131.out
                  have hnc57 := NB131_134.out
                  have hcz58_0 : wc.cell? ⟨gb134, 0, none⟩ = some (.int .i64 ((r72 l0_4 x38_2).f0)) := (bc_ BK134.out 0).trans rfl
                  have hcz58_1 : wc.cell? ⟨gb134, 1, none⟩ = some (.int .i64 ((r72 l0_4 x38_2).f1)) := (bc_ BK134.out 1).trans rfl
                  have hcz58_2 : wc.cell? ⟨gb134, 2, none⟩ = some (.int .i64 ((r72 l0_4 x38_2).f2)) := (bc_ BK134.out 2).trans rfl
                  have hcz58_3 : wc.cell? ⟨gb134, 3, none⟩ = some (.bool ((r72 l0_4 x38_2).f3)) := (bc_ BK134.out 3).trans rfl
                  have hcz58_4 : wc.cell? ⟨gb134, 4, none⟩ = some (.slice A133_4 ((r72 l0_4 x38_2).f4).length c133_4) := (bc_ BK134.out 4).trans rfl
                  have hfz58_0 := bf_ BK134.out 0
                  have hfz58_1 := bf_ BK134.out 1
                  have hfz58_2 := bf_ BK134.out 2
                  have hfz58_3 := bf_ BK134.out 3
                  have hfz58_4 := bf_ BK134.out 4
                  try go_wp2
                  have n0_ := Qz.mk (bkd BK131.out)
                  have n1_ := Qz.mk (bkd BK134.out)
                  have n2_ := Qz.mk (bd1 HB.out)
                  clear BK131
                  clear BK134
                  clear HB
                  have BK131 := n0_
                  have BK134 := n1_
                  have HB := n2_
                  clear n0_ n1_ n2_
                  have q60 : (x38_2 : Int) ≤ ((l0_4.length : Int) : Int) := of_decide_eq_true (by first | (with_reducible assumption) | assumption)
                  obtain ⟨i060, hi060, _, hsz60, _⟩ := info_parts info72
                  have hroom60 : l0_4.length ≤ c0_4 := HC0_4.out
                  have hC60 : Kd.C k72 _ (some ad133) l0_4.length l0_4 := HR0_4.out
                  have hcut60 := cut_to (P := Try.prog) 26 72 .i64 Try.underlying26 hi060 (some ad133) l0_4.length c0_4 x38_2 (of_decide_eq_true (by first | (with_reducible assumption) | assumption)) q60 hroom60
                  have hr60 := Kd.C_take (m := (x38_2 : Int).toNat) hC60 (by omega)
                  have hy60 : y136.length = (x38_2 : Int).toNat := (by rw [Ny136.out, List.length_take]; omega)
                  rw [← Ny136.out] at hr60
                  rw [← hy60] at hcut60
                  have HR139 := Qz.mk hr60
                  have HC139 := Qz.mk (show y136.length ≤ c0_4 from by omega)
                  clear hr60 hC60 hroom60 hi060 hsz60
                  have KY60 := Qz.mk hy60
                  clear hy60
                  replace q60 := eq_true q60
                  refine start_ (n := 6) (S := fun w' => w'.cell? ⟨gb131, 0, none⟩ = some (.int .u64 a0_0) ∧ w'.cell? ⟨gb131, 1, none⟩ = some (.int .i64 a0_1) ∧ w'.cell? ⟨gb131, 2, none⟩ = some (.int .i64 a0_2) ∧ w'.cell? ⟨gb131, 3, none⟩ = some (.slice A0_3 l0_3.length c0_3) ∧ w'.cell? ⟨gb131, 4, none⟩ = some (.slice (some ad133) l0_4.length c0_4) ∧ w'.cell? ⟨gb131, 5, none⟩ = some (.slice A0_5 l0_5.length c0_5) ∧ w'.cell? ⟨gb131, 6, none⟩ = some (.int .i64 a0_6) ∧ w'.cell? ⟨gb131, 7, none⟩ = some (.slice A0_7 l0_7.length c0_7) ∧ w'.cell? ⟨gb134, 0, none⟩ = some (.int .i64 ((r72 l0_4 x38_2).f0)) ∧ w'.cell? ⟨gb134, 1, none⟩ = some (.int .i64 ((r72 l0_4 x38_2).f1)) ∧ w'.cell? ⟨gb134, 2, none⟩ = some (.int .i64 ((r72 l0_4 x38_2).f2)) ∧ w'.cell? ⟨gb134, 3, none⟩ = some (.bool ((r72 l0_4 x38_2).f3)) ∧ w'.cell? ⟨gb134, 4, none⟩ = some (.slice A133_4 ((r72 l0_4 x38_2).f4).length c133_4)) (ds := []) #[false, false, false, false, false, false] (by kernel_rfl) rfl rfl ⟨(bc_ BK131.out 0).trans rfl, (bc_ BK131.out 1).trans rfl, (bc_ BK131.out 2).trans rfl, (bc_ BK131.out 3).trans rfl, (bc_ BK131.out 4).trans rfl, (bc_ BK131.out 5).trans rfl, (bc_ BK131.out 6).trans rfl, (bc_ BK131.out 7).trans rfl, (bc_ BK134.out 0).trans rfl, (bc_ BK134.out 1).trans rfl, (bc_ BK134.out 2).trans rfl, (bc_ BK134.out 3).trans rfl, (bc_ BK134.out 4).trans rfl⟩ (fun hHeld => ?_)
                  generalize wc.drew = w59 at BK131 BK134 HB HR139 hHeld ⊢
                  refine pure_ (i := 0) (N := some 78) (v := ?_) (a' := ?_) #[true, false, false, false, false, false] rfl rfl (by kernel_rfl) (fun _ _ _ h => h) (Or.inl ⟨by rfl, ?_⟩) ?_ ?_
                  rotate_left
                  ·intro w'
                   go_simp
                   with_reducible rfl
                  rotate_left
                  ·simp only [aw_]
                   rfl
                  refine pure_ (i := 2) (N := some 80) (v := ?_) (a' := ?_) #[true, false, true, false, false, false] rfl rfl (by kernel_rfl) (fun _ _ _ h => h) (Or.inl ⟨by rfl, ?_⟩) ?_ ?_
                  rotate_left
                  ·intro w'
                   go_simp
                   with_reducible rfl
                  rotate_left
                  ·simp only [aw_]
                   rfl
                  refine take_ (i := 1) (N := some 79) (v := ?_) (a' := ?_) #[true, true, true, false, false, false] rfl rfl (by kernel_rfl) (fun _ _ _ h => h) (Or.inl ⟨by rfl, ?_⟩) hHeld ?_ ?_
                  rotate_left
                  ·rintro w' ⟨s0, s1, s2, s3, s4, s5, s6, s7, s8, s9, s10, s11, s12⟩
                   go_simp
                   with_reducible rfl
                  rotate_left
                  ·simp only [aw_]
                   rfl
                  refine pure_ (i := 3) (N := some 81) (v := ?_) (a' := ?_) #[true, true, true, true, false, false] rfl rfl (by kernel_rfl) (fun _ _ _ h => h) (Or.inl ⟨by rfl, ?_⟩) ?_ ?_
                  rotate_left
                  ·intro w'
                   go_simp
                   with_reducible rfl
                  rotate_left
                  ·simp only [aw_]
                   rfl
                  refine take_ (i := 4) (N := some 82) (v := ?_) (a' := ?_) #[true, true, true, true, true, false] rfl rfl (by kernel_rfl) (fun _ _ _ h => h) (Or.inl ⟨by rfl, ?_⟩) hHeld ?_ ?_
                  rotate_left
                  ·rintro w' ⟨s0, s1, s2, s3, s4, s5, s6, s7, s8, s9, s10, s11, s12⟩
                   go_simp
                   with_reducible rfl
                  rotate_left
                  ·simp only [aw_]
                   rfl
                  refine one_ (i := 5) (N := some 83) #[true, true, true, true, true, true] rfl rfl (by kernel_rfl) (by decide) (fun K hK => ?_)
                  refine goes_ Try.func43 (by kernel_rfl) rfl #[.slice (some ad133) y136.length c0_4, .agg #[.int .i64 ((r72 l0_4 x38_2).f0), .int .i64 ((r72 l0_4 x38_2).f1), .int .i64 ((r72 l0_4 x38_2).f2), .bool ((r72 l0_4 x38_2).f3), .slice A133_4 ((r72 l0_4 x38_2).f4).length c133_4]] (by rfl) rfl rfl (by (try simp only [List.map_toArray, List.map_cons, List.map_nil]); first | done | rfl | (simp only [List.length_drop, List.length_take]; rfl)) ?_
                  with_reducible refine (jAh.calls kj19 _ _ y136 ((r72 l0_4 x38_2).f0) ((r72 l0_4 x38_2).f1) ((r72 l0_4 x38_2).f2) ((r72 l0_4 x38_2).f3) _ _ ((r72 l0_4 x38_2).f4) false _ ?side1 ?side2 ?side3 ?side4 A50.out).mono ?_
                  (case side1 => repeat (first | exact (Kd.C_below HR139.out HB.out) | (with_reducible refine Kd.C_alloc ?_ _) | (with_reducible refine Kd.C_drewN ?_ _) | (with_reducible refine Kd.C_drew ?_)))
                  (case side2 => exact HC139.out)
                  (case side3 => repeat (first | exact (Kd.C_below HR133_4.out HB.out) | (with_reducible refine Kd.C_alloc ?_ _) | (with_reducible refine Kd.C_drewN ?_ _) | (with_reducible refine Kd.C_drew ?_)))
                  (case side4 => exact HC133_4.out)
                  rintro e w61 ⟨rfl, hb⟩
                  refine ⟨_, rfl, ?_⟩
                  have n0_ := Qz.mk (bkb (g := gb131) (o := .cells #[.int .u64 a0_0, .int .i64 a0_1, .int .i64 a0_2, .slice A0_3 l0_3.length c0_3, .slice (some ad133) l0_4.length c0_4, .slice A0_5 l0_5.length c0_5, .int .i64 a0_6, .slice A0_7 l0_7.length c0_7] 30 (0, 0)) (by (with_reducible repeat (first | refine bkn ?_ _ | refine bkd ?_ | refine bka ?_ _)); exact BK131.out) hb)
                  have n1_ := Qz.mk (bkb (g := gb134) (o := .cells #[.int .i64 ((r72 l0_4 x38_2).f0), .int .i64 ((r72 l0_4 x38_2).f1), .int .i64 ((r72 l0_4 x38_2).f2), .bool ((r72 l0_4 x38_2).f3), .slice A133_4 ((r72 l0_4 x38_2).f4).length c133_4] 72 (0, 0)) (by (with_reducible repeat (first | refine bkn ?_ _ | refine bkd ?_ | refine bka ?_ _)); exact BK134.out) hb)
                  have n2_ := Qz.mk (bst (by repeat (first | (with_reducible first | exact HB.out | apply ba1 | apply bd_ | apply bd1 | refine bset ?_ GE131.out | refine bset ?_ GE134.out) | exact HB.out)) hb)
                  clear BK131
                  clear BK134
                  clear HB
                  have BK131 := n0_
                  have BK134 := n1_
                  have HB := n2_
                  clear n0_ n1_ n2_
                  (try clear hb)
                  (try clear hb2)
                  (try clear hk)
                  (try clear hi)
                  refine hK.out _ _ ⟨(bc_ BK131.out 0).trans rfl, (bc_ BK131.out 1).trans rfl, (bc_ BK131.out 2).trans rfl, (bc_ BK131.out 3).trans rfl, (bc_ BK131.out 4).trans rfl, (bc_ BK131.out 5).trans rfl, (bc_ BK131.out 6).trans rfl, (bc_ BK131.out 7).trans rfl, (bc_ BK134.out 0).trans rfl, (bc_ BK134.out 1).trans rfl, (bc_ BK134.out 2).trans rfl, (bc_ BK134.out 3).trans rfl, (bc_ BK134.out 4).trans rfl⟩ (fun hHeld => ?_)
                  clear hK K
                  refine norm_ (a' := ?_) ?_ ?_
                  rotate_left
                  ·show Act.put _ (some 83) _ = _
                   simp only [aw_]
                   rfl
                  refine done_ (by kernel_rfl) ?_
                  try go_wp2
                  go_roundg kj19
                  case measure => have := HJ3.out; have := HK2.out; have := HJ19.out; omega
                  case rel => exact ⟨(wrap64 (x38_2 + 1)), (by first | rfl | (simp; done) | (simp [*]; done)), H', ⟨by have := HJ3.out; have := HK2.out; have := HJ19.out; omega⟩, ⟨by (with_reducible repeat (first | refine bkn ?_ _ | refine bkd ?_ | refine bka ?_ _)); exact BK131.out⟩, ⟨by repeat (first | (with_reducible first | exact HB.out | apply ba1 | apply bd_ | apply bd1 | refine bset ?_ GE131.out | refine bset ?_ GE134.out) | exact HB.out)⟩⟩
                ·rw [if_neg c49] at H
                 exact absurd H (by simp)
               ·rw [if_neg c48] at H
                exact absurd H (by simp)
          ·rw [if_neg c19] at H
           exact absurd H (by simp)
         ·rw [if_neg c18] at H
          exact absurd H (by simp)
        ·rw [if_neg c17] at H
         have c17b0 : decide (x38_2 < (l0_4.length : Int)) = false := decide_eq_false c17
         clear c17
         obtain rfl := Option.some.inj H
         go_wp2
         go_ret
         exact ⟨by first | rfl | (simp [ewn, ews] <;> rfl) | (simp [*, ewn, ews] <;> rfl), by repeat (first | (with_reducible first | exact HB.out | apply ba1 | apply bd_ | apply bd1 | refine bset ?_ GE131.out) | exact HB.out)⟩
 ·rw [if_neg c3] at H
  have c3b0 : (t132 == 0) = false := beq_eq_false_iff_ne.mpr c3
  have c3b1 : (t132 != 0) = true := bne_iff_ne.mpr c3
  obtain rfl := Option.some.inj H
  go_enter Try.func12, Try.ntmps12
  go_wp2_with (first | ((with_reducible refine gdt (N := 1) rfl ?_); refine bxe ?hg (N := 1) ?hd (cs := #[.int .u64 a0_0, .int .i64 a0_1, .int .i64 a0_2, .slice A0_3 l0_3.length c0_3, .slice A0_4 l0_4.length c0_4, .slice A0_5 l0_5.length c0_5, .int .i64 a0_6, .slice A0_7 l0_7.length c0_7]) (t := 30) ?hr ?_; (case hd => rfl); (case hg => rfl); (case hr => first | (go_simp; done) | (go_simp; rfl)); intro gb131 hg w62 hbox hb; have n0_ := Qz.mk (bst (by repeat (first | (with_reducible first | exact HB.out | apply ba1 | apply bd_ | apply bd1) | exact HB.out)) hb); have n1_ := Qz.mk (hbox); have n2_ := Qz.mk ((by rw [hg]; exact (bsz (by repeat (first | (with_reducible first | exact HB.out | apply ba1 | apply bd_ | apply bd1) | exact HB.out))) : w.heap.size ≤ gb131)); have n3_ := Qz.mk ((by rw [hg]; exact (bsz (by repeat (first | (with_reducible first | exact HB.out | apply ba1 | apply bd_ | apply bd1) | exact HB.out))) : w.heap.size ≤ gb131)); clear HB; have HB := n0_; have BK131 := n1_; have GW131 := n2_; have GE131 := n3_; clear n0_ n1_ n2_ n3_; clear hb hbox hg; have hcz63_0 : w62.cell? ⟨gb131, 0, none⟩ = some (.int .u64 a0_0) := (bc_ BK131.out 0).trans rfl; have hcz63_1 : w62.cell? ⟨gb131, 1, none⟩ = some (.int .i64 a0_1) := (bc_ BK131.out 1).trans rfl; have hcz63_2 : w62.cell? ⟨gb131, 2, none⟩ = some (.int .i64 a0_2) := (bc_ BK131.out 2).trans rfl; have hcz63_3 : w62.cell? ⟨gb131, 3, none⟩ = some (.slice A0_3 l0_3.length c0_3) := (bc_ BK131.out 3).trans rfl; have hcz63_4 : w62.cell? ⟨gb131, 4, none⟩ = some (.slice A0_4 l0_4.length c0_4) := (bc_ BK131.out 4).trans rfl; have hcz63_5 : w62.cell? ⟨gb131, 5, none⟩ = some (.slice A0_5 l0_5.length c0_5) := (bc_ BK131.out 5).trans rfl; have hcz63_6 : w62.cell? ⟨gb131, 6, none⟩ = some (.int .i64 a0_6) := (bc_ BK131.out 6).trans rfl; have hcz63_7 : w62.cell? ⟨gb131, 7, none⟩ = some (.slice A0_7 l0_7.length c0_7) := (bc_ BK131.out 7).trans rfl; have hfz63_0 := bf_ BK131.out 0; have hfz63_1 := bf_ BK131.out 1; have hfz63_2 := bf_ BK131.out 2; have hfz63_3 := bf_ BK131.out 3; have hfz63_4 := bf_ BK131.out 4; have hfz63_5 := bf_ BK131.out 5; have hfz63_6 := bf_ BK131.out 6; have hfz63_7 := bf_ BK131.out 7) | ((with_reducible refine gcl (f := 42) rfl ?_); refine goesL_ (some 10) rfl rfl Try.func42 (by kernel_rfl) rfl #[.agg #[.int .u64 a0_0, .int .i64 a0_1, .int .i64 a0_2], .slice A0_3 l0_3.length c0_3] rfl (by (try simp only [List.map_toArray, List.map_cons, List.map_nil]); first | done | rfl | (simp only [List.length_drop, List.length_take]; rfl)) ?_; (with_reducible refine (j4C.calls k a0_0 a0_1 a0_2 _ _ l0_3 t132 _ ?side1 ?side2 A2.out).mono ?_); (case side1 => repeat (first | exact (Kd.C_below HR0_3.out HB.out) | (with_reducible refine Kd.C_alloc ?_ _) | (with_reducible refine Kd.C_drewN ?_ _) | (with_reducible refine Kd.C_drew ?_))); (case side2 => exact HC0_3.out); rintro e w64 ⟨rfl, hb⟩; refine ⟨_, rfl, ?_⟩; have n0_ := Qz.mk (bkb (g := gb131) (o := .cells #[.int .u64 a0_0, .int .i64 a0_1, .int .i64 a0_2, .slice A0_3 l0_3.length c0_3, .slice A0_4 l0_4.length c0_4, .slice A0_5 l0_5.length c0_5, .int .i64 a0_6, .slice A0_7 l0_7.length c0_7] 30 (0, 0)) (by (with_reducible repeat (first | refine bkn ?_ _ | refine bkd ?_ | refine bka ?_ _)); exact BK131.out) hb); have n1_ := Qz.mk (bst (by repeat (first | (with_reducible first | exact HB.out | apply ba1 | apply bd_ | apply bd1 | refine bset ?_ GE131.out) | exact HB.out)) hb); clear BK131; clear HB; have BK131 := n0_; have HB := n1_; clear n0_ n1_; (try clear hb); (try clear hb2); (try clear hk); (try clear hi)))
  go_ret
  exact ⟨by first | rfl | (simp [ewn, ews] <;> rfl) | (simp [*, ewn, ews] <;> rfl), by repeat (first | (with_reducible first | exact HB.out | apply ba1 | apply bd_ | apply bd1 | refine bset ?_ GE131.out) | exact HB.out)⟩

end
end Go.Proofs.Ytkaikgbcnmfppaa.Nb
