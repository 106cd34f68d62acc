/- A function of the program, with its walk: jSS. (Made by this session's own program out of what the kit's print wrote; no text of the print.) -/
import Derived.Test.YtkaikgbcnmfppaaNb0
import Derived.Test.YtkaikgbcnmfppaaNbNewA
import Derived.BigRegion
namespace Go.Proofs.Ytkaikgbcnmfppaa.Nb
open Go Go.RowKit Go.Proofs.YtkaikgbcnmfppaaW.PrintWords Go.Proofs.YtkaikgbcnmfppaaW.PrintLast Go.Proofs.YtkaikgbcnmfppaaW.PrintMore
attribute [local go_sem] max2_int min2_int max_two min_two max_three min_three max_four min_four
set_option linter.unusedVariables false
set_option linter.unusedSimpArgs false
noncomputable section
/-! ### jSS: function 34 -/
def jSS.l0 : Nat → List (S77) → List (S77) → Int → Int → Option (Bool)
 | 0, _, _, _, _ => none
 | k + 1, x0, x1, x12, x13 => if x13 < x12 then (if 0 ≤ x13 then (if x13 < (x0.length : Int) then (if x13 < (x1.length : Int) then (if ((r77 x0 x13).f0) = ((r77 x1 x13).f0) then (if ((r77 x0 x13).f1) = ((r77 x1 x13).f1) then (if ((r77 x0 x13).f2) = ((r77 x1 x13).f2) then ((j1S.f k ((r77 x0 x13).f3) ((r77 x1 x13).f3)).bind fun t126 => (if t126 = true then (jSS.l0 k x0 x1 x12 (wrap64 (x13 + 1))) else (none))) else (none)) else (none)) else (none)) else (none)) else (none)) else (none)) else (some true)
def jSS.f (k : Nat) (l0 : List (S77)) (l1 : List (S77)) : Option (Bool) := if (l0.length : Int) = (l1.length : Int) then (jSS.l0 k l0 l1 (l0.length : Int) 0) else (none)
def jSS.T6 : Bool × List (List Nat × List Nat) := (true, [([], []), ([], []), ([0, 1], [0, 1]), ([2], [2]), ([3], [3]), ([], []), ([], []), ([5, 6], [5, 6]), ([7], [7]), ([8], [8]), ([4, 9], [4, 9]), ([10], [10]), ([11], [11]), ([11], [11]), ([12, 13, 11], [11, 12, 13]), ([14, 11], [11, 14]), ([15, 11], [11, 15]), ([11], [11]), ([11], [11]), ([17, 18, 11], [11, 17, 18]), ([19, 11], [11, 19]), ([20, 11], [11, 20]), ([16, 21, 11], [11, 16, 21]), ([11, 22], [11, 22]), ([23, 11], [23]), ([24], [24]), ([24], [24]), ([25, 26, 24], [24, 25, 26]), ([27, 24], [24, 27]), ([28, 24], [24, 28]), ([24], [24]), ([24], [24]), ([30, 31, 24], [24, 30, 31]), ([32, 24], [24, 32]), ([33, 24], [24, 33]), ([29, 34, 24], [24, 29, 34]), ([24, 35], [24, 35]), ([36, 24], [36]), ([37], [37]), ([37], [37]), ([38, 39, 37], [37, 38, 39]), ([40, 37], [37, 40]), ([41, 37], [37, 41]), ([37], [37]), ([37], [37]), ([43, 44, 37], [37, 43, 44]), ([45, 37], [37, 45]), ([46, 37], [37, 46]), ([42, 47, 37, 37], [37, 42, 47]), ([48, 37], [37, 48]), ([37, 49], [37, 49])])
def jSS.B6 : List Nat := [0, 0, 3, 7, 15, 0, 0, 96, 224, 480, 1023, 2047, 4095, 4095, 16383, 32767, 65535, 4095, 4095, 397311, 921599, 1970175, 4194303, 8388607, 16777215, 33554431, 33554431, 134217727, 268435455, 536870911, 33554431, 33554431, 3254779903, 7549747199, 16139681791, 34359738367, 68719476735, 137438953471, 274877906943, 274877906943, 1099511627775, 2199023255551, 4398046511103, 274877906943, 274877906943, 26663156973567, 61847529062399, 132216273240063, 281474976710655, 562949953421311, 1125899906842623]
theorem jSS.tab6 : rtab .any (opsOf Try.f34 6) = jSS.T6 := by kernel_rfl
theorem jSS.bits6 : waitsOk jSS.T6.2 jSS.B6 = true := by kernel_rfl
set_option maxHeartbeats 8000000 in
set_option maxRecDepth 100000 in
theorem jSS.calls (k : Nat) (A0 : Option Addr) (c0 : Nat) (l0 : List (S77)) (A1 : Option Addr) (c1 : Nat) (l1 : List (S77)) (r : Bool) (w : World) (hr0 : Kd.C k77 w A0 l0.length l0) (hc0 : l0.length ≤ c0) (hr1 : Kd.C k77 w A1 l1.length l1) (hc1 : l1.length ≤ c1) (h : jSS.f k l0 l1 = some r) :
  Calls Try.prog 34 #[.slice A0 l0.length c0, .slice A1 l1.length c1] w fun e w' => e = .returned (.bool r) ∧ Below w.heap.size w w' := by
 have HR0 := Qz.mk hr0
 have HC0 := Qz.mk hc0
 clear hr0 hc0
 have HR1 := Qz.mk hr1
 have HC1 := Qz.mk hc1
 clear hr1 hc1
 have HB := Qz.mk (Below.refl w.heap.size w)
 have H : (if (l0.length : Int) = (l1.length : Int) then (jSS.l0 k l0 l1 (l0.length : Int) 0) else (none)) = some r := h
 clear h
 by_cases c3 : (l0.length : Int) = (l1.length : Int)
 ·rw [if_pos c3] at H
  have c3b0 : ((l0.length : Int) == (l1.length : Int)) = true := beq_iff_eq.mpr c3
  have c3b1 : ((l0.length : Int) != (l1.length : Int)) = false := bne_eq_false_iff_eq.mpr c3
  have c3b2 : (l0.length == l1.length) = true := by first | simpa using c3 | (simp at c3 ⊢; omega)
  clear c3
  have H' := Qz.mk H
  clear H
  go_enter Try.func34, Try.ntmps34
  go_wp2
  go_loopg [13] k (fun kq v13 w' => ∃ (x13_1 : Int), v13 = .int .i64 x13_1 ∧ Qz (jSS.l0 kq l0 l1 (l0.length : Int) x13_1 = some r) ∧ Qz (kq ≤ k) ∧ Qz (Below w.heap.size w w'))
  case atStart => exact ⟨(0), (by first | rfl | (simp; done) | (simp [*]; done)), H', ⟨Nat.le_refl _⟩, ⟨by repeat (first | (with_reducible first | exact HB.out | apply ba1 | apply bd_ | apply bd1) | exact HB.out)⟩⟩
  case round =>
   clear H'
   try clear c1
   try clear p2
   try clear c3
   try clear c3b0
   try clear c3b1
   try clear c3b2
   obtain ⟨x13_1, rfl, HA, HK1, HB⟩ := hrel
   cases gk with
   | zero => exact absurd HA.out (by simp [jSS.l0])
   | succ k1 =>
    have H := HA.out
    clear HA
    simp only [jSS.l0] at H
    by_cases c4 : x13_1 < (l0.length : Int)
    ·rw [if_pos c4] at H
     have c4b0 : decide (x13_1 < (l0.length : Int)) = true := decide_eq_true c4
     clear c4
     by_cases c5 : 0 ≤ x13_1
     ·rw [if_pos c5] at H
      have c5b0 : decide (0 ≤ x13_1) = true := decide_eq_true c5
      clear c5
      by_cases c6 : x13_1 < (l0.length : Int)
      ·rw [if_pos c6] at H
       have c6b0 : decide (x13_1 < (l0.length : Int)) = true := decide_eq_true c6
       clear c6
       by_cases c7 : x13_1 < (l1.length : Int)
       ·rw [if_pos c7] at H
        have c7b0 : decide (x13_1 < (l1.length : Int)) = true := decide_eq_true c7
        clear c7
        by_cases c8 : ((r77 l0 x13_1).f0) = ((r77 l1 x13_1).f0)
        ·rw [if_pos c8] at H
         have c8b0 : (((r77 l0 x13_1).f0) == ((r77 l1 x13_1).f0)) = true := beq_iff_eq.mpr c8
         have c8b1 : (((r77 l0 x13_1).f0) != ((r77 l1 x13_1).f0)) = false := bne_eq_false_iff_eq.mpr c8
         clear c8
         by_cases c9 : ((r77 l0 x13_1).f1) = ((r77 l1 x13_1).f1)
         ·rw [if_pos c9] at H
          have c9b0 : (((r77 l0 x13_1).f1) == ((r77 l1 x13_1).f1)) = true := beq_iff_eq.mpr c9
          have c9b1 : (((r77 l0 x13_1).f1) != ((r77 l1 x13_1).f1)) = false := bne_eq_false_iff_eq.mpr c9
          clear c9
          by_cases c10 : ((r77 l0 x13_1).f2) = ((r77 l1 x13_1).f2)
          ·rw [if_pos c10] at H
           have c10b0 : (((r77 l0 x13_1).f2) == ((r77 l1 x13_1).f2)) = true := beq_iff_eq.mpr c10
           have c10b1 : (((r77 l0 x13_1).f2) != ((r77 l1 x13_1).f2)) = false := bne_eq_false_iff_eq.mpr c10
           clear c10
           replace H := Option.bind_eq_some_iff.mp H
           obtain ⟨t126, A110, H⟩ := H
           replace H : (if t126 = true then (jSS.l0 k1 l0 l1 (l0.length : Int) (wrap64 (x13_1 + 1))) else (none)) = some r := H
           have A11 := Qz.mk A110
           clear A110
           by_cases c12 : t126 = true
           ·subst c12
            have H1 : (jSS.l0 k1 l0 l1 (l0.length : Int) (wrap64 (x13_1 + 1))) = some r := by rw [if_pos rfl] at H; exact H
            clear H
            have H := H1
            clear H1
            have H' := Qz.mk H
            clear H
            try go_wp2
            have n0_ := Qz.mk (bd1 HB.out)
            clear HB
            have HB := n0_
            clear n0_
            have p118 : 0 ≤ (x13_1 : Int) := of_decide_eq_true (by first | (with_reducible assumption) | assumption)
            have q118 : x13_1 < (l0.length : Int) := of_decide_eq_true (by first | (with_reducible assumption) | assumption)
            obtain ⟨ad118, A118_3, c118_3, e118, hx118_0, hx118_1, hx118_2, hx118_3, hl118_3, hi118_3⟩ := at_T77 HR0.out x13_1 p118 q118
            have hw118_3 := hx118_3
            have hw118_2 := hx118_2
            have hw118_1 := hx118_1
            have hw118_0 := hx118_0
            cases e118
            replace hx118_0 := (HB.out.cell (World.block_lt_of_cell? w _ hx118_0)).trans hx118_0
            replace hx118_1 := (HB.out.cell (World.block_lt_of_cell? w _ hx118_1)).trans hx118_1
            replace hx118_2 := (HB.out.cell (World.block_lt_of_cell? w _ hx118_2)).trans hx118_2
            replace hx118_3 := (HB.out.cell (World.block_lt_of_cell? w _ hx118_3)).trans hx118_3
            have HR118_3 := Qz.mk hi118_3
            have HC118_3 := Qz.mk hl118_3
            clear hi118_3 hl118_3
            replace p118 := eq_true p118
            replace q118 := eq_true q118
            have p119 : 0 ≤ (x13_1 : Int) := of_decide_eq_true (by first | (with_reducible assumption) | assumption)
            have q119 : x13_1 < (l1.length : Int) := of_decide_eq_true (by first | (with_reducible assumption) | assumption)
            obtain ⟨ad119, A119_3, c119_3, e119, hx119_0, hx119_1, hx119_2, hx119_3, hl119_3, hi119_3⟩ := at_T77 HR1.out x13_1 p119 q119
            have hw119_3 := hx119_3
            have hw119_2 := hx119_2
            have hw119_1 := hx119_1
            have hw119_0 := hx119_0
            cases e119
            replace hx119_0 := (HB.out.cell (World.block_lt_of_cell? w _ hx119_0)).trans hx119_0
            replace hx119_1 := (HB.out.cell (World.block_lt_of_cell? w _ hx119_1)).trans hx119_1
            replace hx119_2 := (HB.out.cell (World.block_lt_of_cell? w _ hx119_2)).trans hx119_2
            replace hx119_3 := (HB.out.cell (World.block_lt_of_cell? w _ hx119_3)).trans hx119_3
            have HR119_3 := Qz.mk hi119_3
            have HC119_3 := Qz.mk hl119_3
            clear hi119_3 hl119_3
            replace p119 := eq_true p119
            replace q119 := eq_true q119
            have p120 : 0 ≤ (x13_1 : Int) := of_decide_eq_true (by first | (with_reducible assumption) | assumption)
            have q120 : x13_1 < (l0.length : Int) := of_decide_eq_true (by first | (with_reducible assumption) | assumption)
            obtain ⟨ad120, A120_3, c120_3, e120, hx120_0, hx120_1, hx120_2, hx120_3, hl120_3, hi120_3⟩ := at_T77 HR0.out x13_1 p120 q120
            have hw120_3 := hx120_3
            have hw120_2 := hx120_2
            have hw120_1 := hx120_1
            have hw120_0 := hx120_0
            obtain rfl : ad118 = ad120 := (by injection e120)
            replace hx120_0 := (HB.out.cell (World.block_lt_of_cell? w _ hx120_0)).trans hx120_0
            replace hx120_1 := (HB.out.cell (World.block_lt_of_cell? w _ hx120_1)).trans hx120_1
            replace hx120_2 := (HB.out.cell (World.block_lt_of_cell? w _ hx120_2)).trans hx120_2
            replace hx120_3 := (HB.out.cell (World.block_lt_of_cell? w _ hx120_3)).trans hx120_3
            have HR120_3 := Qz.mk hi120_3
            have HC120_3 := Qz.mk hl120_3
            clear hi120_3 hl120_3
            replace p120 := eq_true p120
            replace q120 := eq_true q120
            have ea_ := Option.some.inj (hx118_3.symm.trans hx120_3)
            injection ea_ with ea_ en_ ec_
            subst ea_
            subst ec_
            clear en_
            have p121 : 0 ≤ (x13_1 : Int) := of_decide_eq_true (by first | (with_reducible assumption) | assumption)
            have q121 : x13_1 < (l1.length : Int) := of_decide_eq_true (by first | (with_reducible assumption) | assumption)
            obtain ⟨ad121, A121_3, c121_3, e121, hx121_0, hx121_1, hx121_2, hx121_3, hl121_3, hi121_3⟩ := at_T77 HR1.out x13_1 p121 q121
            have hw121_3 := hx121_3
            have hw121_2 := hx121_2
            have hw121_1 := hx121_1
            have hw121_0 := hx121_0
            obtain rfl : ad119 = ad121 := (by injection e121)
            replace hx121_0 := (HB.out.cell (World.block_lt_of_cell? w _ hx121_0)).trans hx121_0
            replace hx121_1 := (HB.out.cell (World.block_lt_of_cell? w _ hx121_1)).trans hx121_1
            replace hx121_2 := (HB.out.cell (World.block_lt_of_cell? w _ hx121_2)).trans hx121_2
            replace hx121_3 := (HB.out.cell (World.block_lt_of_cell? w _ hx121_3)).trans hx121_3
            have HR121_3 := Qz.mk hi121_3
            have HC121_3 := Qz.mk hl121_3
            clear hi121_3 hl121_3
            replace p121 := eq_true p121
            replace q121 := eq_true q121
            have ea_ := Option.some.inj (hx119_3.symm.trans hx121_3)
            injection ea_ with ea_ en_ ec_
            subst ea_
            subst ec_
            clear en_
            have p122 : 0 ≤ (x13_1 : Int) := of_decide_eq_true (by first | (with_reducible assumption) | assumption)
            have q122 : x13_1 < (l0.length : Int) := of_decide_eq_true (by first | (with_reducible assumption) | assumption)
            obtain ⟨ad122, A122_3, c122_3, e122, hx122_0, hx122_1, hx122_2, hx122_3, hl122_3, hi122_3⟩ := at_T77 HR0.out x13_1 p122 q122
            have hw122_3 := hx122_3
            have hw122_2 := hx122_2
            have hw122_1 := hx122_1
            have hw122_0 := hx122_0
            obtain rfl : ad118 = ad122 := (by injection e122)
            replace hx122_0 := (HB.out.cell (World.block_lt_of_cell? w _ hx122_0)).trans hx122_0
            replace hx122_1 := (HB.out.cell (World.block_lt_of_cell? w _ hx122_1)).trans hx122_1
            replace hx122_2 := (HB.out.cell (World.block_lt_of_cell? w _ hx122_2)).trans hx122_2
            replace hx122_3 := (HB.out.cell (World.block_lt_of_cell? w _ hx122_3)).trans hx122_3
            have HR122_3 := Qz.mk hi122_3
            have HC122_3 := Qz.mk hl122_3
            clear hi122_3 hl122_3
            replace p122 := eq_true p122
            replace q122 := eq_true q122
            have ea_ := Option.some.inj (hx118_3.symm.trans hx122_3)
            injection ea_ with ea_ en_ ec_
            subst ea_
            subst ec_
            clear en_
            have p123 : 0 ≤ (x13_1 : Int) := of_decide_eq_true (by first | (with_reducible assumption) | assumption)
            have q123 : x13_1 < (l1.length : Int) := of_decide_eq_true (by first | (with_reducible assumption) | assumption)
            obtain ⟨ad123, A123_3, c123_3, e123, hx123_0, hx123_1, hx123_2, hx123_3, hl123_3, hi123_3⟩ := at_T77 HR1.out x13_1 p123 q123
            have hw123_3 := hx123_3
            have hw123_2 := hx123_2
            have hw123_1 := hx123_1
            have hw123_0 := hx123_0
            obtain rfl : ad119 = ad123 := (by injection e123)
            replace hx123_0 := (HB.out.cell (World.block_lt_of_cell? w _ hx123_0)).trans hx123_0
            replace hx123_1 := (HB.out.cell (World.block_lt_of_cell? w _ hx123_1)).trans hx123_1
            replace hx123_2 := (HB.out.cell (World.block_lt_of_cell? w _ hx123_2)).trans hx123_2
            replace hx123_3 := (HB.out.cell (World.block_lt_of_cell? w _ hx123_3)).trans hx123_3
            have HR123_3 := Qz.mk hi123_3
            have HC123_3 := Qz.mk hl123_3
            clear hi123_3 hl123_3
            replace p123 := eq_true p123
            replace q123 := eq_true q123
            have ea_ := Option.some.inj (hx119_3.symm.trans hx123_3)
            injection ea_ with ea_ en_ ec_
            subst ea_
            subst ec_
            clear en_
            have p124 : 0 ≤ (x13_1 : Int) := of_decide_eq_true (by first | (with_reducible assumption) | assumption)
            have q124 : x13_1 < (l0.length : Int) := of_decide_eq_true (by first | (with_reducible assumption) | assumption)
            obtain ⟨ad124, A124_3, c124_3, e124, hx124_0, hx124_1, hx124_2, hx124_3, hl124_3, hi124_3⟩ := at_T77 HR0.out x13_1 p124 q124
            have hw124_3 := hx124_3
            have hw124_2 := hx124_2
            have hw124_1 := hx124_1
            have hw124_0 := hx124_0
            obtain rfl : ad118 = ad124 := (by injection e124)
            replace hx124_0 := (HB.out.cell (World.block_lt_of_cell? w _ hx124_0)).trans hx124_0
            replace hx124_1 := (HB.out.cell (World.block_lt_of_cell? w _ hx124_1)).trans hx124_1
            replace hx124_2 := (HB.out.cell (World.block_lt_of_cell? w _ hx124_2)).trans hx124_2
            replace hx124_3 := (HB.out.cell (World.block_lt_of_cell? w _ hx124_3)).trans hx124_3
            have HR124_3 := Qz.mk hi124_3
            have HC124_3 := Qz.mk hl124_3
            clear hi124_3 hl124_3
            replace p124 := eq_true p124
            replace q124 := eq_true q124
            have ea_ := Option.some.inj (hx118_3.symm.trans hx124_3)
            injection ea_ with ea_ en_ ec_
            subst ea_
            subst ec_
            clear en_
            have p125 : 0 ≤ (x13_1 : Int) := of_decide_eq_true (by first | (with_reducible assumption) | assumption)
            have q125 : x13_1 < (l1.length : Int) := of_decide_eq_true (by first | (with_reducible assumption) | assumption)
            obtain ⟨ad125, A125_3, c125_3, e125, hx125_0, hx125_1, hx125_2, hx125_3, hl125_3, hi125_3⟩ := at_T77 HR1.out x13_1 p125 q125
            have hw125_3 := hx125_3
            have hw125_2 := hx125_2
            have hw125_1 := hx125_1
            have hw125_0 := hx125_0
            obtain rfl : ad119 = ad125 := (by injection e125)
            replace hx125_0 := (HB.out.cell (World.block_lt_of_cell? w _ hx125_0)).trans hx125_0
            replace hx125_1 := (HB.out.cell (World.block_lt_of_cell? w _ hx125_1)).trans hx125_1
            replace hx125_2 := (HB.out.cell (World.block_lt_of_cell? w _ hx125_2)).trans hx125_2
            replace hx125_3 := (HB.out.cell (World.block_lt_of_cell? w _ hx125_3)).trans hx125_3
            have HR125_3 := Qz.mk hi125_3
            have HC125_3 := Qz.mk hl125_3
            clear hi125_3 hl125_3
            replace p125 := eq_true p125
            replace q125 := eq_true q125
            have ea_ := Option.some.inj (hx119_3.symm.trans hx125_3)
            injection ea_ with ea_ en_ ec_
            subst ea_
            subst ec_
            clear en_
            refine start_ (n := 51) (S := fun w' => w'.cell? (ad118.add ((x13_1).toNat * 4)) = some (.int .i64 ((r77 l0 x13_1).f0)) ∧ w'.cell? ⟨(ad118.add ((x13_1).toNat * 4)).block, (ad118.add ((x13_1).toNat * 4)).off + 1, none⟩ = some (.int .i64 ((r77 l0 x13_1).f1)) ∧ w'.cell? ⟨(ad118.add ((x13_1).toNat * 4)).block, (ad118.add ((x13_1).toNat * 4)).off + 2, none⟩ = some (.int .i64 ((r77 l0 x13_1).f2)) ∧ w'.cell? ⟨(ad118.add ((x13_1).toNat * 4)).block, (ad118.add ((x13_1).toNat * 4)).off + 3, none⟩ = some (.slice A118_3 ((r77 l0 x13_1).f3).length c118_3) ∧ w'.cell? (ad119.add ((x13_1).toNat * 4)) = some (.int .i64 ((r77 l1 x13_1).f0)) ∧ w'.cell? ⟨(ad119.add ((x13_1).toNat * 4)).block, (ad119.add ((x13_1).toNat * 4)).off + 1, none⟩ = some (.int .i64 ((r77 l1 x13_1).f1)) ∧ w'.cell? ⟨(ad119.add ((x13_1).toNat * 4)).block, (ad119.add ((x13_1).toNat * 4)).off + 2, none⟩ = some (.int .i64 ((r77 l1 x13_1).f2)) ∧ w'.cell? ⟨(ad119.add ((x13_1).toNat * 4)).block, (ad119.add ((x13_1).toNat * 4)).off + 3, none⟩ = some (.slice A119_3 ((r77 l1 x13_1).f3).length c119_3) ∧ w'.cell? (ad118.add ((x13_1).toNat * 4)) = some (.int .i64 ((r77 l0 x13_1).f0)) ∧ w'.cell? ⟨(ad118.add ((x13_1).toNat * 4)).block, (ad118.add ((x13_1).toNat * 4)).off + 1, none⟩ = some (.int .i64 ((r77 l0 x13_1).f1)) ∧ w'.cell? ⟨(ad118.add ((x13_1).toNat * 4)).block, (ad118.add ((x13_1).toNat * 4)).off + 2, none⟩ = some (.int .i64 ((r77 l0 x13_1).f2)) ∧ w'.cell? ⟨(ad118.add ((x13_1).toNat * 4)).block, (ad118.add ((x13_1).toNat * 4)).off + 3, none⟩ = some (.slice A118_3 ((r77 l0 x13_1).f3).length c118_3) ∧ w'.cell? (ad119.add ((x13_1).toNat * 4)) = some (.int .i64 ((r77 l1 x13_1).f0)) ∧ w'.cell? ⟨(ad119.add ((x13_1).toNat * 4)).block, (ad119.add ((x13_1).toNat * 4)).off + 1, none⟩ = some (.int .i64 ((r77 l1 x13_1).f1)) ∧ w'.cell? ⟨(ad119.add ((x13_1).toNat * 4)).block, (ad119.add ((x13_1).toNat * 4)).off + 2, none⟩ = some (.int .i64 ((r77 l1 x13_1).f2)) ∧ w'.cell? ⟨(ad119.add ((x13_1).toNat * 4)).block, (ad119.add ((x13_1).toNat * 4)).off + 3, none⟩ = some (.slice A119_3 ((r77 l1 x13_1).f3).length c119_3) ∧ w'.cell? (ad118.add ((x13_1).toNat * 4)) = some (.int .i64 ((r77 l0 x13_1).f0)) ∧ w'.cell? ⟨(ad118.add ((x13_1).toNat * 4)).block, (ad118.add ((x13_1).toNat * 4)).off + 1, none⟩ = some (.int .i64 ((r77 l0 x13_1).f1)) ∧ w'.cell? ⟨(ad118.add ((x13_1).toNat * 4)).block, (ad118.add ((x13_1).toNat * 4)).off + 2, none⟩ = some (.int .i64 ((r77 l0 x13_1).f2)) ∧ w'.cell? ⟨(ad118.add ((x13_1).toNat * 4)).block, (ad118.add ((x13_1).toNat * 4)).off + 3, none⟩ = some (.slice A118_3 ((r77 l0 x13_1).f3).length c118_3) ∧ w'.cell? (ad119.add ((x13_1).toNat * 4)) = some (.int .i64 ((r77 l1 x13_1).f0)) ∧ w'.cell? ⟨(ad119.add ((x13_1).toNat * 4)).block, (ad119.add ((x13_1).toNat * 4)).off + 1, none⟩ = some (.int .i64 ((r77 l1 x13_1).f1)) ∧ w'.cell? ⟨(ad119.add ((x13_1).toNat * 4)).block, (ad119.add ((x13_1).toNat * 4)).off + 2, none⟩ = some (.int .i64 ((r77 l1 x13_1).f2)) ∧ w'.cell? ⟨(ad119.add ((x13_1).toNat * 4)).block, (ad119.add ((x13_1).toNat * 4)).off + 3, none⟩ = some (.slice A119_3 ((r77 l1 x13_1).f3).length c119_3) ∧ w'.cell? (ad118.add ((x13_1).toNat * 4)) = some (.int .i64 ((r77 l0 x13_1).f0)) ∧ w'.cell? ⟨(ad118.add ((x13_1).toNat * 4)).block, (ad118.add ((x13_1).toNat * 4)).off + 1, none⟩ = some (.int .i64 ((r77 l0 x13_1).f1)) ∧ w'.cell? ⟨(ad118.add ((x13_1).toNat * 4)).block, (ad118.add ((x13_1).toNat * 4)).off + 2, none⟩ = some (.int .i64 ((r77 l0 x13_1).f2)) ∧ w'.cell? ⟨(ad118.add ((x13_1).toNat * 4)).block, (ad118.add ((x13_1).toNat * 4)).off + 3, none⟩ = some (.slice A118_3 ((r77 l0 x13_1).f3).length c118_3) ∧ w'.cell? (ad119.add ((x13_1).toNat * 4)) = some (.int .i64 ((r77 l1 x13_1).f0)) ∧ w'.cell? ⟨(ad119.add ((x13_1).toNat * 4)).block, (ad119.add ((x13_1).toNat * 4)).off + 1, none⟩ = some (.int .i64 ((r77 l1 x13_1).f1)) ∧ w'.cell? ⟨(ad119.add ((x13_1).toNat * 4)).block, (ad119.add ((x13_1).toNat * 4)).off + 2, none⟩ = some (.int .i64 ((r77 l1 x13_1).f2)) ∧ w'.cell? ⟨(ad119.add ((x13_1).toNat * 4)).block, (ad119.add ((x13_1).toNat * 4)).off + 3, none⟩ = some (.slice A119_3 ((r77 l1 x13_1).f3).length c119_3)) (ds := []) (ba_ 51 0) (by kernel_rfl) rfl rfl ⟨((HB.out.cell (World.block_lt_of_cell? w _ hw118_0)).trans hw118_0), ((HB.out.cell (World.block_lt_of_cell? w _ hw118_1)).trans hw118_1), ((HB.out.cell (World.block_lt_of_cell? w _ hw118_2)).trans hw118_2), ((HB.out.cell (World.block_lt_of_cell? w _ hw118_3)).trans hw118_3), ((HB.out.cell (World.block_lt_of_cell? w _ hw119_0)).trans hw119_0), ((HB.out.cell (World.block_lt_of_cell? w _ hw119_1)).trans hw119_1), ((HB.out.cell (World.block_lt_of_cell? w _ hw119_2)).trans hw119_2), ((HB.out.cell (World.block_lt_of_cell? w _ hw119_3)).trans hw119_3), ((HB.out.cell (World.block_lt_of_cell? w _ hw120_0)).trans hw120_0), ((HB.out.cell (World.block_lt_of_cell? w _ hw120_1)).trans hw120_1), ((HB.out.cell (World.block_lt_of_cell? w _ hw120_2)).trans hw120_2), ((HB.out.cell (World.block_lt_of_cell? w _ hw120_3)).trans hw120_3), ((HB.out.cell (World.block_lt_of_cell? w _ hw121_0)).trans hw121_0), ((HB.out.cell (World.block_lt_of_cell? w _ hw121_1)).trans hw121_1), ((HB.out.cell (World.block_lt_of_cell? w _ hw121_2)).trans hw121_2), ((HB.out.cell (World.block_lt_of_cell? w _ hw121_3)).trans hw121_3), ((HB.out.cell (World.block_lt_of_cell? w _ hw122_0)).trans hw122_0), ((HB.out.cell (World.block_lt_of_cell? w _ hw122_1)).trans hw122_1), ((HB.out.cell (World.block_lt_of_cell? w _ hw122_2)).trans hw122_2), ((HB.out.cell (World.block_lt_of_cell? w _ hw122_3)).trans hw122_3), ((HB.out.cell (World.block_lt_of_cell? w _ hw123_0)).trans hw123_0), ((HB.out.cell (World.block_lt_of_cell? w _ hw123_1)).trans hw123_1), ((HB.out.cell (World.block_lt_of_cell? w _ hw123_2)).trans hw123_2), ((HB.out.cell (World.block_lt_of_cell? w _ hw123_3)).trans hw123_3), ((HB.out.cell (World.block_lt_of_cell? w _ hw124_0)).trans hw124_0), ((HB.out.cell (World.block_lt_of_cell? w _ hw124_1)).trans hw124_1), ((HB.out.cell (World.block_lt_of_cell? w _ hw124_2)).trans hw124_2), ((HB.out.cell (World.block_lt_of_cell? w _ hw124_3)).trans hw124_3), ((HB.out.cell (World.block_lt_of_cell? w _ hw125_0)).trans hw125_0), ((HB.out.cell (World.block_lt_of_cell? w _ hw125_1)).trans hw125_1), ((HB.out.cell (World.block_lt_of_cell? w _ hw125_2)).trans hw125_2), ((HB.out.cell (World.block_lt_of_cell? w _ hw125_3)).trans hw125_3)⟩ (fun hHeld => ?_); refine with_tabW jSS.tab6 jSS.bits6 (fun HT_ HW_ => ?_)
            generalize wr.drew = w13 at HB HR118_3 HR119_3 HR120_3 HR121_3 HR122_3 HR123_3 HR124_3 HR125_3 hx118_0 hx118_1 hx118_2 hx118_3 hx119_0 hx119_1 hx119_2 hx119_3 hx120_0 hx120_1 hx120_2 hx120_3 hx121_0 hx121_1 hx121_2 hx121_3 hx122_0 hx122_1 hx122_2 hx122_3 hx123_0 hx123_1 hx123_2 hx123_3 hx124_0 hx124_1 hx124_2 hx124_3 hx125_0 hx125_1 hx125_2 hx125_3 hHeld ⊢
            refine pure_ (i := 0) (N := some 16) (v := ?_) (a' := ?_) (ba_ 51 1) rfl rfl (any_of HT_.out (by kernel_rfl)) (fun _ _ _ h => h) (Or.inl ⟨by rfl, ?_⟩) ?_ ?_
            rotate_left
            ·intro w'
             go_simp
             with_reducible rfl
            rotate_left
            ·simp only [aw_]
             rfl
            refine pure_ (i := 1) (N := some 17) (v := ?_) (a' := ?_) (ba_ 51 3) rfl rfl (any_of HT_.out (by kernel_rfl)) (fun _ _ _ h => h) (Or.inl ⟨by rfl, ?_⟩) ?_ ?_
            rotate_left
            ·intro w'
             go_simp
             with_reducible rfl
            rotate_left
            ·simp only [aw_]
             rfl
            refine pure_ (i := 2) (N := some 18) (v := ?_) (a' := ?_) (ba_ 51 7) rfl rfl (any_of HT_.out (by kernel_rfl)) (fun _ _ _ h => h) (Or.inl ⟨by rfl, ?_⟩) ?_ ?_
            rotate_left
            ·intro w'
             go_simp
             with_reducible rfl
            rotate_left
            ·simp only [aw_]
             rfl
            refine pure_ (i := 3) (N := some 19) (v := ?_) (a' := ?_) (ba_ 51 15) rfl rfl (any_of HT_.out (by kernel_rfl)) (fun _ _ _ h => h) (Or.inl ⟨by rfl, ?_⟩) ?_ ?_
            rotate_left
            ·intro w'
             go_simp
             with_reducible rfl
            rotate_left
            ·simp only [aw_]
             rfl
            refine pure_ (i := 5) (N := some 21) (v := ?_) (a' := ?_) (ba_ 51 47) rfl rfl (any_of HT_.out (by kernel_rfl)) (fun _ _ _ h => h) (Or.inl ⟨by rfl, ?_⟩) ?_ ?_
            rotate_left
            ·intro w'
             go_simp
             with_reducible rfl
            rotate_left
            ·simp only [aw_]
             rfl
            refine pure_ (i := 6) (N := some 22) (v := ?_) (a' := ?_) (ba_ 51 111) rfl rfl (any_of HT_.out (by kernel_rfl)) (fun _ _ _ h => h) (Or.inl ⟨by rfl, ?_⟩) ?_ ?_
            rotate_left
            ·intro w'
             go_simp
             with_reducible rfl
            rotate_left
            ·simp only [aw_]
             rfl
            refine pure_ (i := 7) (N := some 23) (v := ?_) (a' := ?_) (ba_ 51 239) rfl rfl (any_of HT_.out (by kernel_rfl)) (fun _ _ _ h => h) (Or.inl ⟨by rfl, ?_⟩) ?_ ?_
            rotate_left
            ·intro w'
             go_simp
             with_reducible rfl
            rotate_left
            ·simp only [aw_]
             rfl
            refine pure_ (i := 8) (N := some 24) (v := ?_) (a' := ?_) (ba_ 51 495) rfl rfl (any_of HT_.out (by kernel_rfl)) (fun _ _ _ h => h) (Or.inl ⟨by rfl, ?_⟩) ?_ ?_
            rotate_left
            ·intro w'
             go_simp
             with_reducible rfl
            rotate_left
            ·simp only [aw_]
             rfl
            refine take_ (i := 4) (N := some 20) (v := ?_) (a' := ?_) (ba_ 51 511) rfl rfl (take_ofW HT_.out HW_.out (by kernel_rfl)) (fun _ _ _ h => h) (Or.inl ⟨by rfl, ?_⟩) hHeld ?_ ?_
            rotate_left
            ·rintro w' ⟨s0, s1, s2, s3, s4, s5, s6, s7, s8, s9, s10, s11, s12, s13, s14, s15, s16, s17, s18, s19, s20, s21, s22, s23, s24, s25, s26, s27, s28, s29, s30, s31⟩
             go_simp
             with_reducible rfl
            rotate_left
            ·simp only [aw_]
             rfl
            refine take_ (i := 9) (N := some 25) (v := ?_) (a' := ?_) (ba_ 51 1023) rfl rfl (take_ofW HT_.out HW_.out (by kernel_rfl)) (fun _ _ _ h => h) (Or.inl ⟨by rfl, ?_⟩) hHeld ?_ ?_
            rotate_left
            ·rintro w' ⟨s0, s1, s2, s3, s4, s5, s6, s7, s8, s9, s10, s11, s12, s13, s14, s15, s16, s17, s18, s19, s20, s21, s22, s23, s24, s25, s26, s27, s28, s29, s30, s31⟩
             go_simp
             with_reducible rfl
            rotate_left
            ·simp only [aw_]
             rfl
            refine pure_ (i := 10) (N := some 26) (v := ?_) (a' := ?_) (ba_ 51 2047) rfl rfl (any_of HT_.out (by kernel_rfl)) (fun _ _ _ h => h) (Or.inl ⟨by rfl, ?_⟩) ?_ ?_
            rotate_left
            ·intro w'
             go_simp
             with_reducible rfl
            rotate_left
            ·simp only [aw_]
             rfl
            refine pure_ (i := 11) (N := some 27) (v := ?_) (a' := ?_) (ba_ 51 4095) rfl rfl (any_of HT_.out (by kernel_rfl)) (fun _ _ _ h => h) (Or.inl ⟨by rfl, ?_⟩) ?_ ?_
            rotate_left
            ·intro w'
             go_simp
             with_reducible rfl
            rotate_left
            ·simp only [aw_]
             rfl
            refine pure_ (i := 12) (N := some 28) (v := ?_) (a' := ?_) (ba_ 51 8191) rfl rfl (any_of HT_.out (by kernel_rfl)) (fun _ _ _ h => h) (Or.inl ⟨by rfl, ?_⟩) ?_ ?_
            rotate_left
            ·intro w'
             go_simp
             with_reducible rfl
            rotate_left
            ·simp only [aw_]
             rfl
            refine pure_ (i := 13) (N := some 29) (v := ?_) (a' := ?_) (ba_ 51 16383) rfl rfl (any_of HT_.out (by kernel_rfl)) (fun _ _ _ h => h) (Or.inl ⟨by rfl, ?_⟩) ?_ ?_
            rotate_left
            ·intro w'
             go_simp
             with_reducible rfl
            rotate_left
            ·simp only [aw_]
             rfl
            refine pure_ (i := 14) (N := some 30) (v := ?_) (a' := ?_) (ba_ 51 32767) rfl rfl (any_of HT_.out (by kernel_rfl)) (fun _ _ _ h => h) (Or.inl ⟨by rfl, ?_⟩) ?_ ?_
            rotate_left
            ·intro w'
             go_simp
             with_reducible rfl
            rotate_left
            ·simp only [aw_]
             rfl
            refine pure_ (i := 15) (N := some 31) (v := ?_) (a' := ?_) (ba_ 51 65535) rfl rfl (any_of HT_.out (by kernel_rfl)) (fun _ _ _ h => h) (Or.inl ⟨by rfl, ?_⟩) ?_ ?_
            rotate_left
            ·intro w'
             go_simp
             with_reducible rfl
            rotate_left
            ·simp only [aw_]
             rfl
            refine pure_ (i := 17) (N := some 33) (v := ?_) (a' := ?_) (ba_ 51 196607) rfl rfl (any_of HT_.out (by kernel_rfl)) (fun _ _ _ h => h) (Or.inl ⟨by rfl, ?_⟩) ?_ ?_
            rotate_left
            ·intro w'
             go_simp
             with_reducible rfl
            rotate_left
            ·simp only [aw_]
             rfl
            refine pure_ (i := 18) (N := some 34) (v := ?_) (a' := ?_) (ba_ 51 458751) rfl rfl (any_of HT_.out (by kernel_rfl)) (fun _ _ _ h => h) (Or.inl ⟨by rfl, ?_⟩) ?_ ?_
            rotate_left
            ·intro w'
             go_simp
             with_reducible rfl
            rotate_left
            ·simp only [aw_]
             rfl
            refine pure_ (i := 19) (N := some 35) (v := ?_) (a' := ?_) (ba_ 51 983039) rfl rfl (any_of HT_.out (by kernel_rfl)) (fun _ _ _ h => h) (Or.inl ⟨by rfl, ?_⟩) ?_ ?_
            rotate_left
            ·intro w'
             go_simp
             with_reducible rfl
            rotate_left
            ·simp only [aw_]
             rfl
            refine pure_ (i := 20) (N := some 36) (v := ?_) (a' := ?_) (ba_ 51 2031615) rfl rfl (any_of HT_.out (by kernel_rfl)) (fun _ _ _ h => h) (Or.inl ⟨by rfl, ?_⟩) ?_ ?_
            rotate_left
            ·intro w'
             go_simp
             with_reducible rfl
            rotate_left
            ·simp only [aw_]
             rfl
            refine take_ (i := 16) (N := some 32) (v := ?_) (a' := ?_) (ba_ 51 2097151) rfl rfl (take_ofW HT_.out HW_.out (by kernel_rfl)) (fun _ _ _ h => h) (Or.inl ⟨by rfl, ?_⟩) hHeld ?_ ?_
            rotate_left
            ·rintro w' ⟨s0, s1, s2, s3, s4, s5, s6, s7, s8, s9, s10, s11, s12, s13, s14, s15, s16, s17, s18, s19, s20, s21, s22, s23, s24, s25, s26, s27, s28, s29, s30, s31⟩
             go_simp
             with_reducible rfl
            rotate_left
            ·simp only [aw_]
             rfl
            refine take_ (i := 21) (N := some 37) (v := ?_) (a' := ?_) (ba_ 51 4194303) rfl rfl (take_ofW HT_.out HW_.out (by kernel_rfl)) (fun _ _ _ h => h) (Or.inl ⟨by rfl, ?_⟩) hHeld ?_ ?_
            rotate_left
            ·rintro w' ⟨s0, s1, s2, s3, s4, s5, s6, s7, s8, s9, s10, s11, s12, s13, s14, s15, s16, s17, s18, s19, s20, s21, s22, s23, s24, s25, s26, s27, s28, s29, s30, s31⟩
             go_simp
             with_reducible rfl
            rotate_left
            ·simp only [aw_]
             rfl
            refine pure_ (i := 22) (N := some 38) (v := ?_) (a' := ?_) (ba_ 51 8388607) rfl rfl (any_of HT_.out (by kernel_rfl)) (fun _ _ _ h => h) (Or.inl ⟨by rfl, ?_⟩) ?_ ?_
            rotate_left
            ·intro w'
             go_simp
             with_reducible rfl
            rotate_left
            ·simp only [aw_]
             rfl
            refine pure_ (i := 23) (N := some 39) (v := ?_) (a' := ?_) (ba_ 51 16777215) rfl rfl (any_of HT_.out (by kernel_rfl)) (fun _ _ _ h => h) (Or.inl ⟨by rfl, ?_⟩) ?_ ?_
            rotate_left
            ·intro w'
             go_simp
             with_reducible rfl
            rotate_left
            ·simp only [aw_]
             rfl
            refine pure_ (i := 24) (N := some 40) (v := ?_) (a' := ?_) (ba_ 51 33554431) rfl rfl (any_of HT_.out (by kernel_rfl)) (fun _ _ _ h => h) (Or.inl ⟨by rfl, ?_⟩) ?_ ?_
            rotate_left
            ·intro w'
             go_simp
             with_reducible rfl
            rotate_left
            ·simp only [aw_]
             rfl
            refine pure_ (i := 25) (N := some 41) (v := ?_) (a' := ?_) (ba_ 51 67108863) rfl rfl (any_of HT_.out (by kernel_rfl)) (fun _ _ _ h => h) (Or.inl ⟨by rfl, ?_⟩) ?_ ?_
            rotate_left
            ·intro w'
             go_simp
             with_reducible rfl
            rotate_left
            ·simp only [aw_]
             rfl
            refine pure_ (i := 26) (N := some 42) (v := ?_) (a' := ?_) (ba_ 51 134217727) rfl rfl (any_of HT_.out (by kernel_rfl)) (fun _ _ _ h => h) (Or.inl ⟨by rfl, ?_⟩) ?_ ?_
            rotate_left
            ·intro w'
             go_simp
             with_reducible rfl
            rotate_left
            ·simp only [aw_]
             rfl
            refine pure_ (i := 27) (N := some 43) (v := ?_) (a' := ?_) (ba_ 51 268435455) rfl rfl (any_of HT_.out (by kernel_rfl)) (fun _ _ _ h => h) (Or.inl ⟨by rfl, ?_⟩) ?_ ?_
            rotate_left
            ·intro w'
             go_simp
             with_reducible rfl
            rotate_left
            ·simp only [aw_]
             rfl
            refine pure_ (i := 28) (N := some 44) (v := ?_) (a' := ?_) (ba_ 51 536870911) rfl rfl (any_of HT_.out (by kernel_rfl)) (fun _ _ _ h => h) (Or.inl ⟨by rfl, ?_⟩) ?_ ?_
            rotate_left
            ·intro w'
             go_simp
             with_reducible rfl
            rotate_left
            ·simp only [aw_]
             rfl
            refine pure_ (i := 30) (N := some 46) (v := ?_) (a' := ?_) (ba_ 51 1610612735) rfl rfl (any_of HT_.out (by kernel_rfl)) (fun _ _ _ h => h) (Or.inl ⟨by rfl, ?_⟩) ?_ ?_
            rotate_left
            ·intro w'
             go_simp
             with_reducible rfl
            rotate_left
            ·simp only [aw_]
             rfl
            refine pure_ (i := 31) (N := some 47) (v := ?_) (a' := ?_) (ba_ 51 3758096383) rfl rfl (any_of HT_.out (by kernel_rfl)) (fun _ _ _ h => h) (Or.inl ⟨by rfl, ?_⟩) ?_ ?_
            rotate_left
            ·intro w'
             go_simp
             with_reducible rfl
            rotate_left
            ·simp only [aw_]
             rfl
            refine pure_ (i := 32) (N := some 48) (v := ?_) (a' := ?_) (ba_ 51 8053063679) rfl rfl (any_of HT_.out (by kernel_rfl)) (fun _ _ _ h => h) (Or.inl ⟨by rfl, ?_⟩) ?_ ?_
            rotate_left
            ·intro w'
             go_simp
             with_reducible rfl
            rotate_left
            ·simp only [aw_]
             rfl
            refine pure_ (i := 33) (N := some 49) (v := ?_) (a' := ?_) (ba_ 51 16642998271) rfl rfl (any_of HT_.out (by kernel_rfl)) (fun _ _ _ h => h) (Or.inl ⟨by rfl, ?_⟩) ?_ ?_
            rotate_left
            ·intro w'
             go_simp
             with_reducible rfl
            rotate_left
            ·simp only [aw_]
             rfl
            refine take_ (i := 29) (N := some 45) (v := ?_) (a' := ?_) (ba_ 51 17179869183) rfl rfl (take_ofW HT_.out HW_.out (by kernel_rfl)) (fun _ _ _ h => h) (Or.inl ⟨by rfl, ?_⟩) hHeld ?_ ?_
            rotate_left
            ·rintro w' ⟨s0, s1, s2, s3, s4, s5, s6, s7, s8, s9, s10, s11, s12, s13, s14, s15, s16, s17, s18, s19, s20, s21, s22, s23, s24, s25, s26, s27, s28, s29, s30, s31⟩
             go_simp
             with_reducible rfl
            rotate_left
            ·simp only [aw_]
             rfl
            refine take_ (i := 34) (N := some 50) (v := ?_) (a' := ?_) (ba_ 51 34359738367) rfl rfl (take_ofW HT_.out HW_.out (by kernel_rfl)) (fun _ _ _ h => h) (Or.inl ⟨by rfl, ?_⟩) hHeld ?_ ?_
            rotate_left
            ·rintro w' ⟨s0, s1, s2, s3, s4, s5, s6, s7, s8, s9, s10, s11, s12, s13, s14, s15, s16, s17, s18, s19, s20, s21, s22, s23, s24, s25, s26, s27, s28, s29, s30, s31⟩
             go_simp
             with_reducible rfl
            rotate_left
            ·simp only [aw_]
             rfl
            refine pure_ (i := 35) (N := some 51) (v := ?_) (a' := ?_) (ba_ 51 68719476735) rfl rfl (any_of HT_.out (by kernel_rfl)) (fun _ _ _ h => h) (Or.inl ⟨by rfl, ?_⟩) ?_ ?_
            rotate_left
            ·intro w'
             go_simp
             with_reducible rfl
            rotate_left
            ·simp only [aw_]
             rfl
            refine pure_ (i := 36) (N := some 52) (v := ?_) (a' := ?_) (ba_ 51 137438953471) rfl rfl (any_of HT_.out (by kernel_rfl)) (fun _ _ _ h => h) (Or.inl ⟨by rfl, ?_⟩) ?_ ?_
            rotate_left
            ·intro w'
             go_simp
             with_reducible rfl
            rotate_left
            ·simp only [aw_]
             rfl
            refine pure_ (i := 37) (N := some 53) (v := ?_) (a' := ?_) (ba_ 51 274877906943) rfl rfl (any_of HT_.out (by kernel_rfl)) (fun _ _ _ h => h) (Or.inl ⟨by rfl, ?_⟩) ?_ ?_
            rotate_left
            ·intro w'
             go_simp
             with_reducible rfl
            rotate_left
            ·simp only [aw_]
             rfl
            refine pure_ (i := 38) (N := some 54) (v := ?_) (a' := ?_) (ba_ 51 549755813887) rfl rfl (any_of HT_.out (by kernel_rfl)) (fun _ _ _ h => h) (Or.inl ⟨by rfl, ?_⟩) ?_ ?_
            rotate_left
            ·intro w'
             go_simp
             with_reducible rfl
            rotate_left
            ·simp only [aw_]
             rfl
            refine pure_ (i := 39) (N := some 55) (v := ?_) (a' := ?_) (ba_ 51 1099511627775) rfl rfl (any_of HT_.out (by kernel_rfl)) (fun _ _ _ h => h) (Or.inl ⟨by rfl, ?_⟩) ?_ ?_
            rotate_left
            ·intro w'
             go_simp
             with_reducible rfl
            rotate_left
            ·simp only [aw_]
             rfl
            refine pure_ (i := 40) (N := some 56) (v := ?_) (a' := ?_) (ba_ 51 2199023255551) rfl rfl (any_of HT_.out (by kernel_rfl)) (fun _ _ _ h => h) (Or.inl ⟨by rfl, ?_⟩) ?_ ?_
            rotate_left
            ·intro w'
             go_simp
             with_reducible rfl
            rotate_left
            ·simp only [aw_]
             rfl
            refine pure_ (i := 41) (N := some 57) (v := ?_) (a' := ?_) (ba_ 51 4398046511103) rfl rfl (any_of HT_.out (by kernel_rfl)) (fun _ _ _ h => h) (Or.inl ⟨by rfl, ?_⟩) ?_ ?_
            rotate_left
            ·intro w'
             go_simp
             with_reducible rfl
            rotate_left
            ·simp only [aw_]
             rfl
            refine pure_ (i := 43) (N := some 59) (v := ?_) (a' := ?_) (ba_ 51 13194139533311) rfl rfl (any_of HT_.out (by kernel_rfl)) (fun _ _ _ h => h) (Or.inl ⟨by rfl, ?_⟩) ?_ ?_
            rotate_left
            ·intro w'
             go_simp
             with_reducible rfl
            rotate_left
            ·simp only [aw_]
             rfl
            refine pure_ (i := 44) (N := some 60) (v := ?_) (a' := ?_) (ba_ 51 30786325577727) rfl rfl (any_of HT_.out (by kernel_rfl)) (fun _ _ _ h => h) (Or.inl ⟨by rfl, ?_⟩) ?_ ?_
            rotate_left
            ·intro w'
             go_simp
             with_reducible rfl
            rotate_left
            ·simp only [aw_]
             rfl
            refine pure_ (i := 45) (N := some 61) (v := ?_) (a' := ?_) (ba_ 51 65970697666559) rfl rfl (any_of HT_.out (by kernel_rfl)) (fun _ _ _ h => h) (Or.inl ⟨by rfl, ?_⟩) ?_ ?_
            rotate_left
            ·intro w'
             go_simp
             with_reducible rfl
            rotate_left
            ·simp only [aw_]
             rfl
            refine pure_ (i := 46) (N := some 62) (v := ?_) (a' := ?_) (ba_ 51 136339441844223) rfl rfl (any_of HT_.out (by kernel_rfl)) (fun _ _ _ h => h) (Or.inl ⟨by rfl, ?_⟩) ?_ ?_
            rotate_left
            ·intro w'
             go_simp
             with_reducible rfl
            rotate_left
            ·simp only [aw_]
             rfl
            refine take_ (i := 42) (N := some 58) (v := ?_) (a' := ?_) (ba_ 51 140737488355327) rfl rfl (take_ofW HT_.out HW_.out (by kernel_rfl)) (fun _ _ _ h => h) (Or.inl ⟨by rfl, ?_⟩) hHeld ?_ ?_
            rotate_left
            ·rintro w' ⟨s0, s1, s2, s3, s4, s5, s6, s7, s8, s9, s10, s11, s12, s13, s14, s15, s16, s17, s18, s19, s20, s21, s22, s23, s24, s25, s26, s27, s28, s29, s30, s31⟩
             go_simp
             with_reducible rfl
            rotate_left
            ·simp only [aw_]
             rfl
            refine take_ (i := 47) (N := some 63) (v := ?_) (a' := ?_) (ba_ 51 281474976710655) rfl rfl (take_ofW HT_.out HW_.out (by kernel_rfl)) (fun _ _ _ h => h) (Or.inl ⟨by rfl, ?_⟩) hHeld ?_ ?_
            rotate_left
            ·rintro w' ⟨s0, s1, s2, s3, s4, s5, s6, s7, s8, s9, s10, s11, s12, s13, s14, s15, s16, s17, s18, s19, s20, s21, s22, s23, s24, s25, s26, s27, s28, s29, s30, s31⟩
             go_simp
             with_reducible rfl
            rotate_left
            ·simp only [aw_]
             rfl
            refine one_ (i := 48) (N := some 64) (ba_ 51 562949953421311) rfl rfl (one_of HT_.out (by kernel_rfl)) (by decide) (fun K hK => ?_)
            refine goes_ Try.func28 (by kernel_rfl) rfl #[.slice A118_3 ((r77 l0 x13_1).f3).length c118_3, .slice A119_3 ((r77 l1 x13_1).f3).length c119_3] (by rfl) rfl rfl (by (try simp only [List.map_toArray, List.map_cons, List.map_nil]); first | done | rfl | (simp only [List.length_drop, List.length_take]; rfl)) ?_
            with_reducible refine (j1S.calls k1 _ _ ((r77 l0 x13_1).f3) _ _ ((r77 l1 x13_1).f3) true _ ?side1 ?side2 ?side3 ?side4 A11.out).mono ?_
            (case side1 => repeat (first | exact (Kd.C_below HR124_3.out HB.out) | (with_reducible refine Kd.C_alloc ?_ _) | (with_reducible refine Kd.C_drewN ?_ _) | (with_reducible refine Kd.C_drew ?_)))
            (case side2 => exact HC124_3.out)
            (case side3 => repeat (first | exact (Kd.C_below HR125_3.out HB.out) | (with_reducible refine Kd.C_alloc ?_ _) | (with_reducible refine Kd.C_drewN ?_ _) | (with_reducible refine Kd.C_drew ?_)))
            (case side4 => exact HC125_3.out)
            rintro e w' ⟨rfl, ⟨nd, rfl⟩⟩
            refine ⟨_, rfl, ?_⟩
            refine hK.out _ _ ⟨((HB.out.cell (World.block_lt_of_cell? w _ hw118_0)).trans hw118_0), ((HB.out.cell (World.block_lt_of_cell? w _ hw118_1)).trans hw118_1), ((HB.out.cell (World.block_lt_of_cell? w _ hw118_2)).trans hw118_2), ((HB.out.cell (World.block_lt_of_cell? w _ hw118_3)).trans hw118_3), ((HB.out.cell (World.block_lt_of_cell? w _ hw119_0)).trans hw119_0), ((HB.out.cell (World.block_lt_of_cell? w _ hw119_1)).trans hw119_1), ((HB.out.cell (World.block_lt_of_cell? w _ hw119_2)).trans hw119_2), ((HB.out.cell (World.block_lt_of_cell? w _ hw119_3)).trans hw119_3), ((HB.out.cell (World.block_lt_of_cell? w _ hw120_0)).trans hw120_0), ((HB.out.cell (World.block_lt_of_cell? w _ hw120_1)).trans hw120_1), ((HB.out.cell (World.block_lt_of_cell? w _ hw120_2)).trans hw120_2), ((HB.out.cell (World.block_lt_of_cell? w _ hw120_3)).trans hw120_3), ((HB.out.cell (World.block_lt_of_cell? w _ hw121_0)).trans hw121_0), ((HB.out.cell (World.block_lt_of_cell? w _ hw121_1)).trans hw121_1), ((HB.out.cell (World.block_lt_of_cell? w _ hw121_2)).trans hw121_2), ((HB.out.cell (World.block_lt_of_cell? w _ hw121_3)).trans hw121_3), ((HB.out.cell (World.block_lt_of_cell? w _ hw122_0)).trans hw122_0), ((HB.out.cell (World.block_lt_of_cell? w _ hw122_1)).trans hw122_1), ((HB.out.cell (World.block_lt_of_cell? w _ hw122_2)).trans hw122_2), ((HB.out.cell (World.block_lt_of_cell? w _ hw122_3)).trans hw122_3), ((HB.out.cell (World.block_lt_of_cell? w _ hw123_0)).trans hw123_0), ((HB.out.cell (World.block_lt_of_cell? w _ hw123_1)).trans hw123_1), ((HB.out.cell (World.block_lt_of_cell? w _ hw123_2)).trans hw123_2), ((HB.out.cell (World.block_lt_of_cell? w _ hw123_3)).trans hw123_3), ((HB.out.cell (World.block_lt_of_cell? w _ hw124_0)).trans hw124_0), ((HB.out.cell (World.block_lt_of_cell? w _ hw124_1)).trans hw124_1), ((HB.out.cell (World.block_lt_of_cell? w _ hw124_2)).trans hw124_2), ((HB.out.cell (World.block_lt_of_cell? w _ hw124_3)).trans hw124_3), ((HB.out.cell (World.block_lt_of_cell? w _ hw125_0)).trans hw125_0), ((HB.out.cell (World.block_lt_of_cell? w _ hw125_1)).trans hw125_1), ((HB.out.cell (World.block_lt_of_cell? w _ hw125_2)).trans hw125_2), ((HB.out.cell (World.block_lt_of_cell? w _ hw125_3)).trans hw125_3)⟩ (fun hHeld => ?_)
            clear hK K
            refine norm_ (a' := ?_) ?_ ?_
            rotate_left
            ·show Act.put _ (some 64) _ = _
             simp only [aw_]
             rfl
            refine pure_ (i := 49) (N := some 65) (v := ?_) (a' := ?_) (ba_ 51 1125899906842623) rfl rfl (any_of HT_.out (by kernel_rfl)) (fun _ _ _ h => h) (Or.inl ⟨by rfl, ?_⟩) ?_ ?_
            rotate_left
            ·intro w'
             go_simp
             with_reducible rfl
            rotate_left
            ·simp only [aw_]
             rfl
            refine pure_ (i := 50) (N := some 66) (v := ?_) (a' := ?_) (ba_ 51 2251799813685247) rfl rfl (any_of HT_.out (by kernel_rfl)) (fun _ _ _ h => h) (Or.inl ⟨by rfl, ?_⟩) ?_ ?_
            rotate_left
            ·intro w'
             go_simp
             with_reducible rfl
            rotate_left
            ·simp only [aw_]
             rfl
            refine done_ (done_of HT_.out (by kernel_rfl)) ?_
            try go_wp2
            go_roundg k1
            case measure => have := HK1.out; omega
            case rel => exact ⟨(wrap64 (x13_1 + 1)), (by first | rfl | (simp; done) | (simp [*]; done)), H', ⟨by have := HK1.out; omega⟩, ⟨by repeat (first | (with_reducible first | exact HB.out | apply ba1 | apply bd_ | apply bd1) | exact HB.out)⟩⟩
           ·replace c12 := Bool.eq_false_iff.mpr c12
            subst c12
            have H1 : (none) = some r := by rw [if_neg (show ¬ (false = true) by decide)] at H; exact H
            clear H
            have H := H1
            clear H1
            exact absurd H (by simp)
          ·rw [if_neg c10] at H
           exact absurd H (by simp)
         ·rw [if_neg c9] at H
          exact absurd H (by simp)
        ·rw [if_neg c8] at H
         exact absurd H (by simp)
       ·rw [if_neg c7] at H
        exact absurd H (by simp)
      ·rw [if_neg c6] at H
       exact absurd H (by simp)
     ·rw [if_neg c5] at H
      exact absurd H (by simp)
    ·rw [if_neg c4] at H
     have c4b0 : decide (x13_1 < (l0.length : Int)) = false := decide_eq_false c4
     clear c4
     obtain rfl := Option.some.inj H
     go_wp2
     go_ret
     exact ⟨by first | rfl | (simp [ewn, ews] <;> rfl) | (simp [*, ewn, ews] <;> rfl), by repeat (first | (with_reducible first | exact HB.out | apply ba1 | apply bd_ | apply bd1) | exact HB.out)⟩
 ·rw [if_neg c3] at H
  exact absurd H (by simp)

-- NOT PRINTED: function 8 (juntolaw17_NetApart)
end
end Go.Proofs.Ytkaikgbcnmfppaa.Nb
