/- A function of the program, with its walk: jAh. (Made by this session's own program out of what the kit's print wrote; no text of the print.) -/
import Derived.Test.YtkaikgbcnmfppaaNb0
namespace Go.Proofs.Ytkaikgbcnmfppaa.Nb
open Go.RowKit Go.Proofs.YtkaikgbcnmfppaaW.PrintWords Go.Proofs.YtkaikgbcnmfppaaW.PrintLast Go.Proofs.YtkaikgbcnmfppaaW.PrintMore
attribute [local go_sem] max2_int min2_int max_two min_two max_three min_three max_four min_four   -- for this text's walks alone
set_option linter.unusedVariables false
set_option linter.unusedSimpArgs false

noncomputable section
/-! ### jAh: function 43 -/
def jAh.l0 : Nat → List (S72) → Int → Int → Int → Int → Int → Bool → List Int → Option (Bool)
 | 0, _, _, _, _, _, _, _, _ => none
 | k + 1, x7, x8, x9, x129000, x129001, x129002, x129003, x129004 => if x9 < x8 then (if 0 ≤ x9 then (if x9 < (x7.length : Int) then (if x129000 = ((r72 x7 x9).f0) then (if x129001 = ((r72 x7 x9).f1) then (if x129002 = ((r72 x7 x9).f2) then (some true) else (jAh.l0 k x7 x8 (wrap64 (x9 + 1)) x129000 x129001 x129002 x129003 x129004)) else (jAh.l0 k x7 x8 (wrap64 (x9 + 1)) x129000 x129001 x129002 x129003 x129004)) else (jAh.l0 k x7 x8 (wrap64 (x9 + 1)) x129000 x129001 x129002 x129003 x129004)) else (none)) else (none)) else (some false)
def jAh.f (k : Nat) (l0 : List (S72)) (a1_0 : Int) (a1_1 : Int) (a1_2 : Int) (a1_3 : Bool) (l1_4 : List Int) : Option (Bool) := jAh.l0 k l0 (l0.length : Int) 0 a1_0 a1_1 a1_2 a1_3 l1_4
set_option maxHeartbeats 8000000 in
set_option maxRecDepth 100000 in
theorem jAh.calls (k : Nat) (A0 : Option Addr) (c0 : Nat) (l0 : List (S72)) (a1_0 : Int) (a1_1 : Int) (a1_2 : Int) (a1_3 : Bool) (A1_4 : Option Addr) (c1_4 : Nat) (l1_4 : List Int) (r : Bool) (w : World) (hr0 : Kd.C k72 w A0 l0.length l0) (hc0 : l0.length ≤ c0) (hr1_4 : Kd.C (Kd.int .u64) w A1_4 l1_4.length l1_4) (hc1_4 : l1_4.length ≤ c1_4) (h : jAh.f k l0 a1_0 a1_1 a1_2 a1_3 l1_4 = some r) :
  Calls Try.prog 43 #[.slice A0 l0.length c0, .agg #[.int .i64 a1_0, .int .i64 a1_1, .int .i64 a1_2, .bool a1_3, .slice A1_4 l1_4.length c1_4]] w fun e w' => e = .returned (.bool r) ∧ Below w.heap.size w w' := by
 have hu72 := Try.underlying72
 have HR0 := Qz.mk hr0
 have HC0 := Qz.mk hc0
 clear hr0 hc0
 have HR1_4 := Qz.mk hr1_4
 have HC1_4 := Qz.mk hc1_4
 clear hr1_4 hc1_4
 have HB := Qz.mk (Below.refl w.heap.size w)
 have H : (jAh.l0 k l0 (l0.length : Int) 0 a1_0 a1_1 a1_2 a1_3 l1_4) = some r := h
 clear h
 have H' := Qz.mk H
 clear H
 go_enter Try.func43, Try.ntmps43
 go_wp2_with (first | ((with_reducible refine gdt (N := 3) rfl ?_); refine bxe ?hg (N := 3) ?hd (cs := #[.int .i64 a1_0, .int .i64 a1_1, .int .i64 a1_2, .bool a1_3, .slice A1_4 l1_4.length c1_4]) (t := 72) ?hr ?_; (case hd => rfl); (case hg => rfl); (case hr => first | (go_simp; done) | (go_simp; rfl)); intro gb128 hg w3 hbox hb; have n0_ := Qz.mk (bst (by repeat (first | (with_reducible first | exact HB.out | apply ba1 | apply bd_ | apply bd1) | exact HB.out)) hb); have n1_ := Qz.mk (hbox); have n2_ := Qz.mk ((by rw [hg]; exact (bsz (by repeat (first | (with_reducible first | exact HB.out | apply ba1 | apply bd_ | apply bd1) | exact HB.out))) : w.heap.size ≤ gb128)); have n3_ := Qz.mk ((by rw [hg]; exact (bsz (by repeat (first | (with_reducible first | exact HB.out | apply ba1 | apply bd_ | apply bd1) | exact HB.out))) : w.heap.size ≤ gb128)); clear HB; have HB := n0_; have BK128 := n1_; have GW128 := n2_; have GE128 := n3_; clear n0_ n1_ n2_ n3_; clear hb hbox hg))
 go_loopg [9] k (fun kq v9 w' => ∃ (x9_1 : Int), v9 = .int .i64 x9_1 ∧ Qz (jAh.l0 kq l0 (l0.length : Int) x9_1 a1_0 a1_1 a1_2 a1_3 l1_4 = some r) ∧ Qz (kq ≤ k) ∧ Qz (w'.heap[gb128]? = some (.cells #[.int .i64 a1_0, .int .i64 a1_1, .int .i64 a1_2, .bool a1_3, (.slice A1_4 l1_4.length c1_4)] 72 (0, 0))) ∧ Qz (Below w.heap.size w w'))
 case atStart => exact ⟨(0), (by first | rfl | (simp; done) | (simp [*]; done)), H', ⟨Nat.le_refl _⟩, ⟨by (with_reducible repeat (first | refine bkn ?_ _ | refine bkd ?_ | refine bka ?_ _)); exact BK128.out⟩, ⟨by repeat (first | (with_reducible first | exact HB.out | apply ba1 | apply bd_ | apply bd1 | refine bset ?_ GE128.out) | exact HB.out)⟩⟩
 case round =>
  clear H'
  try clear c1
  try clear p2
  obtain ⟨x9_1, rfl, HA, HK1, BK128, HB⟩ := hrel
  cases gk with
  | zero => exact absurd HA.out (by simp [jAh.l0])
  | succ k1 =>
   have H := HA.out
   clear HA
   simp only [jAh.l0] at H
   by_cases c4 : x9_1 < (l0.length : Int)
   ·rw [if_pos c4] at H
    have c4b0 : decide (x9_1 < (l0.length : Int)) = true := decide_eq_true c4
    clear c4
    by_cases c5 : 0 ≤ x9_1
    ·rw [if_pos c5] at H
     have c5b0 : decide (0 ≤ x9_1) = true := decide_eq_true c5
     clear c5
     by_cases c6 : x9_1 < (l0.length : Int)
     ·rw [if_pos c6] at H
      have c6b0 : decide (x9_1 < (l0.length : Int)) = true := decide_eq_true c6
      clear c6
      by_cases c7 : a1_0 = ((r72 l0 x9_1).f0)
      ·rw [if_pos c7] at H
       have c7b0 : (a1_0 == ((r72 l0 x9_1).f0)) = true := beq_iff_eq.mpr c7
       have c7b1 : (a1_0 != ((r72 l0 x9_1).f0)) = false := bne_eq_false_iff_eq.mpr c7
       clear c7
       by_cases c8 : a1_1 = ((r72 l0 x9_1).f1)
       ·rw [if_pos c8] at H
        have c8b0 : (a1_1 == ((r72 l0 x9_1).f1)) = true := beq_iff_eq.mpr c8
        have c8b1 : (a1_1 != ((r72 l0 x9_1).f1)) = false := bne_eq_false_iff_eq.mpr c8
        clear c8
        by_cases c9 : a1_2 = ((r72 l0 x9_1).f2)
        ·rw [if_pos c9] at H
         have c9b0 : (a1_2 == ((r72 l0 x9_1).f2)) = true := beq_iff_eq.mpr c9
         have c9b1 : (a1_2 != ((r72 l0 x9_1).f2)) = false := bne_eq_false_iff_eq.mpr c9
         clear c9
         obtain rfl := Option.some.inj H
         have p129 : 0 ≤ (x9_1 : Int) := of_decide_eq_true (by first | (with_reducible assumption) | assumption)
         have q129 : x9_1 < (l0.length : Int) := of_decide_eq_true (by first | (with_reducible assumption) | assumption)
         obtain ⟨ad129, A129_4, c129_4, e129, hx129_0, hx129_1, hx129_2, hx129_3, hx129_4, hl129_4, hi129_4⟩ := at_T72 HR0.out x9_1 p129 q129
         cases e129
         replace hx129_0 := (HB.out.cell (World.block_lt_of_cell? w _ hx129_0)).trans hx129_0
         replace hx129_1 := (HB.out.cell (World.block_lt_of_cell? w _ hx129_1)).trans hx129_1
         replace hx129_2 := (HB.out.cell (World.block_lt_of_cell? w _ hx129_2)).trans hx129_2
         replace hx129_3 := (HB.out.cell (World.block_lt_of_cell? w _ hx129_3)).trans hx129_3
         replace hx129_4 := (HB.out.cell (World.block_lt_of_cell? w _ hx129_4)).trans hx129_4
         have HR129_4 := Qz.mk hi129_4
         have HC129_4 := Qz.mk hl129_4
         clear hi129_4 hl129_4
         replace p129 := eq_true p129
         replace q129 := eq_true q129
         go_wp2_with (first | ((with_reducible refine gdt (N := 6) rfl ?_); refine bxe ?hg (N := 6) ?hd (cs := #[.int .i64 0, .int .i64 0, .int .i64 0, .bool false, .slice none 0 0]) (t := 72) ?hr ?_; (case hd => rfl); (case hg => rfl); (case hr => first | (go_simp; done) | (go_simp; rfl)); intro gb130 hg w10 hbox hb; have n0_ := Qz.mk (bkb (g := gb128) (o := .cells #[.int .i64 a1_0, .int .i64 a1_1, .int .i64 a1_2, .bool a1_3, .slice A1_4 l1_4.length c1_4] 72 (0, 0)) (by (with_reducible repeat (first | refine bkn ?_ _ | refine bkd ?_ | refine bka ?_ _)); exact BK128.out) hb); have n1_ := Qz.mk (bst (by repeat (first | (with_reducible first | exact HB.out | apply ba1 | apply bd_ | apply bd1 | refine bset ?_ GE128.out) | exact HB.out)) hb); have n2_ := Qz.mk (hbox); have n3_ := Qz.mk ((by rw [hg]; exact (bsz (by repeat (first | (with_reducible first | exact HB.out | apply ba1 | apply bd_ | apply bd1 | refine bset ?_ GE128.out) | exact HB.out))) : w.heap.size ≤ gb130)); have n4_ := Qz.mk ((by rw [hg]; exact (bsz (by repeat (first | (with_reducible first | exact HB.out | apply ba1 | apply bd_ | apply bd1 | refine bset ?_ GE128.out) | exact HB.out))) : w.heap.size ≤ gb130)); have n5_ := Qz.mk ((by rw [hg]; exact Nat.ne_of_lt (blt (g := gb128) (o := .cells #[.int .i64 a1_0, .int .i64 a1_1, .int .i64 a1_2, .bool a1_3, .slice A1_4 l1_4.length c1_4] 72 (0, 0)) (by (with_reducible repeat (first | refine bkn ?_ _ | refine bkd ?_ | refine bka ?_ _)); exact BK128.out)) : gb128 ≠ gb130)); have n6_ := Qz.mk ((by rw [hg]; exact Nat.ne_of_gt (blt (g := gb128) (o := .cells #[.int .i64 a1_0, .int .i64 a1_1, .int .i64 a1_2, .bool a1_3, .slice A1_4 l1_4.length c1_4] 72 (0, 0)) (by (with_reducible repeat (first | refine bkn ?_ _ | refine bkd ?_ | refine bka ?_ _)); exact BK128.out)) : gb130 ≠ gb128)); clear BK128; clear HB; have BK128 := n0_; have HB := n1_; have BK130 := n2_; have GW130 := n3_; have GE130 := n4_; have NB128_130 := n5_; have NB130_128 := n6_; clear n0_ n1_ n2_ n3_ n4_ n5_ n6_; clear hb hbox hg; have hnb11 := NB130_128.out; have hnc11 := NB128_130.out; have hcz12_0 : w10.cell? ⟨gb130, 0, none⟩ = some (.int .i64 0) := (bc_ BK130.out 0).trans rfl; have hcz12_1 : w10.cell? ⟨gb130, 1, none⟩ = some (.int .i64 0) := (bc_ BK130.out 1).trans rfl; have hcz12_2 : w10.cell? ⟨gb130, 2, none⟩ = some (.int .i64 0) := (bc_ BK130.out 2).trans rfl; have hcz12_3 : w10.cell? ⟨gb130, 3, none⟩ = some (.bool false) := (bc_ BK130.out 3).trans rfl; have hcz12_4 : w10.cell? ⟨gb130, 4, none⟩ = some (.slice none 0 0) := (bc_ BK130.out 4).trans rfl; have hfz12_0 := bf_ BK130.out 0; have hfz12_1 := bf_ BK130.out 1; have hfz12_2 := bf_ BK130.out 2; have hfz12_3 := bf_ BK130.out 3; have hfz12_4 := bf_ BK130.out 4; have hcz13_0 : w10.cell? ⟨gb128, 0, none⟩ = some (.int .i64 a1_0) := (bc_ BK128.out 0).trans rfl; have hcz13_1 : w10.cell? ⟨gb128, 1, none⟩ = some (.int .i64 a1_1) := (bc_ BK128.out 1).trans rfl; have hcz13_2 : w10.cell? ⟨gb128, 2, none⟩ = some (.int .i64 a1_2) := (bc_ BK128.out 2).trans rfl; have hcz13_3 : w10.cell? ⟨gb128, 3, none⟩ = some (.bool a1_3) := (bc_ BK128.out 3).trans rfl; have hcz13_4 : w10.cell? ⟨gb128, 4, none⟩ = some (.slice A1_4 l1_4.length c1_4) := (bc_ BK128.out 4).trans rfl; have hfz13_0 := bf_ BK128.out 0; have hfz13_1 := bf_ BK128.out 1; have hfz13_2 := bf_ BK128.out 2; have hfz13_3 := bf_ BK128.out 3; have hfz13_4 := bf_ BK128.out 4))
         go_ret
         exact ⟨by first | rfl | (simp [ewn, ews] <;> rfl) | (simp [*, ewn, ews] <;> rfl), by repeat (first | (with_reducible first | exact HB.out | apply ba1 | apply bd_ | apply bd1 | refine bset ?_ GE128.out | refine bset ?_ GE130.out) | exact HB.out)⟩
        ·rw [if_neg c9] at H
         have c9b0 : (a1_2 == ((r72 l0 x9_1).f2)) = false := beq_eq_false_iff_ne.mpr c9
         have c9b1 : (a1_2 != ((r72 l0 x9_1).f2)) = true := bne_iff_ne.mpr c9
         have H' := Qz.mk H
         clear H
         have p129 : 0 ≤ (x9_1 : Int) := of_decide_eq_true (by first | (with_reducible assumption) | assumption)
         have q129 : x9_1 < (l0.length : Int) := of_decide_eq_true (by first | (with_reducible assumption) | assumption)
         obtain ⟨ad129, A129_4, c129_4, e129, hx129_0, hx129_1, hx129_2, hx129_3, hx129_4, hl129_4, hi129_4⟩ := at_T72 HR0.out x9_1 p129 q129
         cases e129
         replace hx129_0 := (HB.out.cell (World.block_lt_of_cell? w _ hx129_0)).trans hx129_0
         replace hx129_1 := (HB.out.cell (World.block_lt_of_cell? w _ hx129_1)).trans hx129_1
         replace hx129_2 := (HB.out.cell (World.block_lt_of_cell? w _ hx129_2)).trans hx129_2
         replace hx129_3 := (HB.out.cell (World.block_lt_of_cell? w _ hx129_3)).trans hx129_3
         replace hx129_4 := (HB.out.cell (World.block_lt_of_cell? w _ hx129_4)).trans hx129_4
         have HR129_4 := Qz.mk hi129_4
         have HC129_4 := Qz.mk hl129_4
         clear hi129_4 hl129_4
         replace p129 := eq_true p129
         replace q129 := eq_true q129
         go_wp2_with (first | ((with_reducible refine gdt (N := 6) rfl ?_); refine bxe ?hg (N := 6) ?hd (cs := #[.int .i64 0, .int .i64 0, .int .i64 0, .bool false, .slice none 0 0]) (t := 72) ?hr ?_; (case hd => rfl); (case hg => rfl); (case hr => first | (go_simp; done) | (go_simp; rfl)); intro gb130 hg w14 hbox hb; have n0_ := Qz.mk (bkb (g := gb128) (o := .cells #[.int .i64 a1_0, .int .i64 a1_1, .int .i64 a1_2, .bool a1_3, .slice A1_4 l1_4.length c1_4] 72 (0, 0)) (by (with_reducible repeat (first | refine bkn ?_ _ | refine bkd ?_ | refine bka ?_ _)); exact BK128.out) hb); have n1_ := Qz.mk (bst (by repeat (first | (with_reducible first | exact HB.out | apply ba1 | apply bd_ | apply bd1 | refine bset ?_ GE128.out) | exact HB.out)) hb); have n2_ := Qz.mk (hbox); have n3_ := Qz.mk ((by rw [hg]; exact (bsz (by repeat (first | (with_reducible first | exact HB.out | apply ba1 | apply bd_ | apply bd1 | refine bset ?_ GE128.out) | exact HB.out))) : w.heap.size ≤ gb130)); have n4_ := Qz.mk ((by rw [hg]; exact (bsz (by repeat (first | (with_reducible first | exact HB.out | apply ba1 | apply bd_ | apply bd1 | refine bset ?_ GE128.out) | exact HB.out))) : w.heap.size ≤ gb130)); have n5_ := Qz.mk ((by rw [hg]; exact Nat.ne_of_lt (blt (g := gb128) (o := .cells #[.int .i64 a1_0, .int .i64 a1_1, .int .i64 a1_2, .bool a1_3, .slice A1_4 l1_4.length c1_4] 72 (0, 0)) (by (with_reducible repeat (first | refine bkn ?_ _ | refine bkd ?_ | refine bka ?_ _)); exact BK128.out)) : gb128 ≠ gb130)); have n6_ := Qz.mk ((by rw [hg]; exact Nat.ne_of_gt (blt (g := gb128) (o := .cells #[.int .i64 a1_0, .int .i64 a1_1, .int .i64 a1_2, .bool a1_3, .slice A1_4 l1_4.length c1_4] 72 (0, 0)) (by (with_reducible repeat (first | refine bkn ?_ _ | refine bkd ?_ | refine bka ?_ _)); exact BK128.out)) : gb130 ≠ gb128)); clear BK128; clear HB; have BK128 := n0_; have HB := n1_; have BK130 := n2_; have GW130 := n3_; have GE130 := n4_; have NB128_130 := n5_; have NB130_128 := n6_; clear n0_ n1_ n2_ n3_ n4_ n5_ n6_; clear hb hbox hg; have hnb15 := NB130_128.out; have hnc15 := NB128_130.out; have hcz16_0 : w14.cell? ⟨gb130, 0, none⟩ = some (.int .i64 0) := (bc_ BK130.out 0).trans rfl; have hcz16_1 : w14.cell? ⟨gb130, 1, none⟩ = some (.int .i64 0) := (bc_ BK130.out 1).trans rfl; have hcz16_2 : w14.cell? ⟨gb130, 2, none⟩ = some (.int .i64 0) := (bc_ BK130.out 2).trans rfl; have hcz16_3 : w14.cell? ⟨gb130, 3, none⟩ = some (.bool false) := (bc_ BK130.out 3).trans rfl; have hcz16_4 : w14.cell? ⟨gb130, 4, none⟩ = some (.slice none 0 0) := (bc_ BK130.out 4).trans rfl; have hfz16_0 := bf_ BK130.out 0; have hfz16_1 := bf_ BK130.out 1; have hfz16_2 := bf_ BK130.out 2; have hfz16_3 := bf_ BK130.out 3; have hfz16_4 := bf_ BK130.out 4; have hcz17_0 : w14.cell? ⟨gb128, 0, none⟩ = some (.int .i64 a1_0) := (bc_ BK128.out 0).trans rfl; have hcz17_1 : w14.cell? ⟨gb128, 1, none⟩ = some (.int .i64 a1_1) := (bc_ BK128.out 1).trans rfl; have hcz17_2 : w14.cell? ⟨gb128, 2, none⟩ = some (.int .i64 a1_2) := (bc_ BK128.out 2).trans rfl; have hcz17_3 : w14.cell? ⟨gb128, 3, none⟩ = some (.bool a1_3) := (bc_ BK128.out 3).trans rfl; have hcz17_4 : w14.cell? ⟨gb128, 4, none⟩ = some (.slice A1_4 l1_4.length c1_4) := (bc_ BK128.out 4).trans rfl; have hfz17_0 := bf_ BK128.out 0; have hfz17_1 := bf_ BK128.out 1; have hfz17_2 := bf_ BK128.out 2; have hfz17_3 := bf_ BK128.out 3; have hfz17_4 := bf_ BK128.out 4))
         go_roundg k1
         case measure => have := HK1.out; omega
         case rel => exact ⟨(wrap64 (x9_1 + 1)), (by first | rfl | (simp; done) | (simp [*]; done)), H', ⟨by have := HK1.out; omega⟩, ⟨by (with_reducible repeat (first | refine bkn ?_ _ | refine bkd ?_ | refine bka ?_ _)); refine bkf ?_ NB128_130.out _; (with_reducible repeat (first | refine bkn ?_ _ | refine bkd ?_ | refine bka ?_ _)); refine bkf ?_ NB128_130.out _; (with_reducible repeat (first | refine bkn ?_ _ | refine bkd ?_ | refine bka ?_ _)); refine bkf ?_ NB128_130.out _; (with_reducible repeat (first | refine bkn ?_ _ | refine bkd ?_ | refine bka ?_ _)); refine bkf ?_ NB128_130.out _; (with_reducible repeat (first | refine bkn ?_ _ | refine bkd ?_ | refine bka ?_ _)); refine bkf ?_ NB128_130.out _; (with_reducible repeat (first | refine bkn ?_ _ | refine bkd ?_ | refine bka ?_ _)); exact BK128.out⟩, ⟨by repeat (first | (with_reducible first | exact HB.out | apply ba1 | apply bd_ | apply bd1 | refine bset ?_ GE128.out | refine bset ?_ GE130.out) | exact HB.out)⟩⟩
       ·rw [if_neg c8] at H
        have c8b0 : (a1_1 == ((r72 l0 x9_1).f1)) = false := beq_eq_false_iff_ne.mpr c8
        have c8b1 : (a1_1 != ((r72 l0 x9_1).f1)) = true := bne_iff_ne.mpr c8
        have H' := Qz.mk H
        clear H
        have p129 : 0 ≤ (x9_1 : Int) := of_decide_eq_true (by first | (with_reducible assumption) | assumption)
        have q129 : x9_1 < (l0.length : Int) := of_decide_eq_true (by first | (with_reducible assumption) | assumption)
        obtain ⟨ad129, A129_4, c129_4, e129, hx129_0, hx129_1, hx129_2, hx129_3, hx129_4, hl129_4, hi129_4⟩ := at_T72 HR0.out x9_1 p129 q129
        cases e129
        replace hx129_0 := (HB.out.cell (World.block_lt_of_cell? w _ hx129_0)).trans hx129_0
        replace hx129_1 := (HB.out.cell (World.block_lt_of_cell? w _ hx129_1)).trans hx129_1
        replace hx129_2 := (HB.out.cell (World.block_lt_of_cell? w _ hx129_2)).trans hx129_2
        replace hx129_3 := (HB.out.cell (World.block_lt_of_cell? w _ hx129_3)).trans hx129_3
        replace hx129_4 := (HB.out.cell (World.block_lt_of_cell? w _ hx129_4)).trans hx129_4
        have HR129_4 := Qz.mk hi129_4
        have HC129_4 := Qz.mk hl129_4
        clear hi129_4 hl129_4
        replace p129 := eq_true p129
        replace q129 := eq_true q129
        go_wp2_with (first | ((with_reducible refine gdt (N := 6) rfl ?_); refine bxe ?hg (N := 6) ?hd (cs := #[.int .i64 0, .int .i64 0, .int .i64 0, .bool false, .slice none 0 0]) (t := 72) ?hr ?_; (case hd => rfl); (case hg => rfl); (case hr => first | (go_simp; done) | (go_simp; rfl)); intro gb130 hg w18 hbox hb; have n0_ := Qz.mk (bkb (g := gb128) (o := .cells #[.int .i64 a1_0, .int .i64 a1_1, .int .i64 a1_2, .bool a1_3, .slice A1_4 l1_4.length c1_4] 72 (0, 0)) (by (with_reducible repeat (first | refine bkn ?_ _ | refine bkd ?_ | refine bka ?_ _)); exact BK128.out) hb); have n1_ := Qz.mk (bst (by repeat (first | (with_reducible first | exact HB.out | apply ba1 | apply bd_ | apply bd1 | refine bset ?_ GE128.out) | exact HB.out)) hb); have n2_ := Qz.mk (hbox); have n3_ := Qz.mk ((by rw [hg]; exact (bsz (by repeat (first | (with_reducible first | exact HB.out | apply ba1 | apply bd_ | apply bd1 | refine bset ?_ GE128.out) | exact HB.out))) : w.heap.size ≤ gb130)); have n4_ := Qz.mk ((by rw [hg]; exact (bsz (by repeat (first | (with_reducible first | exact HB.out | apply ba1 | apply bd_ | apply bd1 | refine bset ?_ GE128.out) | exact HB.out))) : w.heap.size ≤ gb130)); have n5_ := Qz.mk ((by rw [hg]; exact Nat.ne_of_lt (blt (g := gb128) (o := .cells #[.int .i64 a1_0, .int .i64 a1_1, .int .i64 a1_2, .bool a1_3, .slice A1_4 l1_4.length c1_4] 72 (0, 0)) (by (with_reducible repeat (first | refine bkn ?_ _ | refine bkd ?_ | refine bka ?_ _)); exact BK128.out)) : gb128 ≠ gb130)); have n6_ := Qz.mk ((by rw [hg]; exact Nat.ne_of_gt (blt (g := gb128) (o := .cells #[.int .i64 a1_0, .int .i64 a1_1, .int .i64 a1_2, .bool a1_3, .slice A1_4 l1_4.length c1_4] 72 (0, 0)) (by (with_reducible repeat (first | refine bkn ?_ _ | refine bkd ?_ | refine bka ?_ _)); exact BK128.out)) : gb130 ≠ gb128)); clear BK128; clear HB; have BK128 := n0_; have HB := n1_; have BK130 := n2_; have GW130 := n3_; have GE130 := n4_; have NB128_130 := n5_; have NB130_128 := n6_; clear n0_ n1_ n2_ n3_ n4_ n5_ n6_; clear hb hbox hg; have hnb19 := NB130_128.out; have hnc19 := NB128_130.out; have hcz20_0 : w18.cell? ⟨gb130, 0, none⟩ = some (.int .i64 0) := (bc_ BK130.out 0).trans rfl; have hcz20_1 : w18.cell? ⟨gb130, 1, none⟩ = some (.int .i64 0) := (bc_ BK130.out 1).trans rfl; have hcz20_2 : w18.cell? ⟨gb130, 2, none⟩ = some (.int .i64 0) := (bc_ BK130.out 2).trans rfl; have hcz20_3 : w18.cell? ⟨gb130, 3, none⟩ = some (.bool false) := (bc_ BK130.out 3).trans rfl; have hcz20_4 : w18.cell? ⟨gb130, 4, none⟩ = some (.slice none 0 0) := (bc_ BK130.out 4).trans rfl; have hfz20_0 := bf_ BK130.out 0; have hfz20_1 := bf_ BK130.out 1; have hfz20_2 := bf_ BK130.out 2; have hfz20_3 := bf_ BK130.out 3; have hfz20_4 := bf_ BK130.out 4; have hcz21_0 : w18.cell? ⟨gb128, 0, none⟩ = some (.int .i64 a1_0) := (bc_ BK128.out 0).trans rfl; have hcz21_1 : w18.cell? ⟨gb128, 1, none⟩ = some (.int .i64 a1_1) := (bc_ BK128.out 1).trans rfl; have hcz21_2 : w18.cell? ⟨gb128, 2, none⟩ = some (.int .i64 a1_2) := (bc_ BK128.out 2).trans rfl; have hcz21_3 : w18.cell? ⟨gb128, 3, none⟩ = some (.bool a1_3) := (bc_ BK128.out 3).trans rfl; have hcz21_4 : w18.cell? ⟨gb128, 4, none⟩ = some (.slice A1_4 l1_4.length c1_4) := (bc_ BK128.out 4).trans rfl; have hfz21_0 := bf_ BK128.out 0; have hfz21_1 := bf_ BK128.out 1; have hfz21_2 := bf_ BK128.out 2; have hfz21_3 := bf_ BK128.out 3; have hfz21_4 := bf_ BK128.out 4))
        go_roundg k1
        case measure => have := HK1.out; omega
        case rel => exact ⟨(wrap64 (x9_1 + 1)), (by first | rfl | (simp; done) | (simp [*]; done)), H', ⟨by have := HK1.out; omega⟩, ⟨by (with_reducible repeat (first | refine bkn ?_ _ | refine bkd ?_ | refine bka ?_ _)); refine bkf ?_ NB128_130.out _; (with_reducible repeat (first | refine bkn ?_ _ | refine bkd ?_ | refine bka ?_ _)); refine bkf ?_ NB128_130.out _; (with_reducible repeat (first | refine bkn ?_ _ | refine bkd ?_ | refine bka ?_ _)); refine bkf ?_ NB128_130.out _; (with_reducible repeat (first | refine bkn ?_ _ | refine bkd ?_ | refine bka ?_ _)); refine bkf ?_ NB128_130.out _; (with_reducible repeat (first | refine bkn ?_ _ | refine bkd ?_ | refine bka ?_ _)); refine bkf ?_ NB128_130.out _; (with_reducible repeat (first | refine bkn ?_ _ | refine bkd ?_ | refine bka ?_ _)); exact BK128.out⟩, ⟨by repeat (first | (with_reducible first | exact HB.out | apply ba1 | apply bd_ | apply bd1 | refine bset ?_ GE128.out | refine bset ?_ GE130.out) | exact HB.out)⟩⟩
      ·rw [if_neg c7] at H
       have c7b0 : (a1_0 == ((r72 l0 x9_1).f0)) = false := beq_eq_false_iff_ne.mpr c7
       have c7b1 : (a1_0 != ((r72 l0 x9_1).f0)) = true := bne_iff_ne.mpr c7
       have H' := Qz.mk H
       clear H
       have p129 : 0 ≤ (x9_1 : Int) := of_decide_eq_true (by first | (with_reducible assumption) | assumption)
       have q129 : x9_1 < (l0.length : Int) := of_decide_eq_true (by first | (with_reducible assumption) | assumption)
       obtain ⟨ad129, A129_4, c129_4, e129, hx129_0, hx129_1, hx129_2, hx129_3, hx129_4, hl129_4, hi129_4⟩ := at_T72 HR0.out x9_1 p129 q129
       cases e129
       replace hx129_0 := (HB.out.cell (World.block_lt_of_cell? w _ hx129_0)).trans hx129_0
       replace hx129_1 := (HB.out.cell (World.block_lt_of_cell? w _ hx129_1)).trans hx129_1
       replace hx129_2 := (HB.out.cell (World.block_lt_of_cell? w _ hx129_2)).trans hx129_2
       replace hx129_3 := (HB.out.cell (World.block_lt_of_cell? w _ hx129_3)).trans hx129_3
       replace hx129_4 := (HB.out.cell (World.block_lt_of_cell? w _ hx129_4)).trans hx129_4
       have HR129_4 := Qz.mk hi129_4
       have HC129_4 := Qz.mk hl129_4
       clear hi129_4 hl129_4
       replace p129 := eq_true p129
       replace q129 := eq_true q129
       go_wp2_with (first | ((with_reducible refine gdt (N := 6) rfl ?_); refine bxe ?hg (N := 6) ?hd (cs := #[.int .i64 0, .int .i64 0, .int .i64 0, .bool false, .slice none 0 0]) (t := 72) ?hr ?_; (case hd => rfl); (case hg => rfl); (case hr => first | (go_simp; done) | (go_simp; rfl)); intro gb130 hg w22 hbox hb; have n0_ := Qz.mk (bkb (g := gb128) (o := .cells #[.int .i64 a1_0, .int .i64 a1_1, .int .i64 a1_2, .bool a1_3, .slice A1_4 l1_4.length c1_4] 72 (0, 0)) (by (with_reducible repeat (first | refine bkn ?_ _ | refine bkd ?_ | refine bka ?_ _)); exact BK128.out) hb); have n1_ := Qz.mk (bst (by repeat (first | (with_reducible first | exact HB.out | apply ba1 | apply bd_ | apply bd1 | refine bset ?_ GE128.out) | exact HB.out)) hb); have n2_ := Qz.mk (hbox); have n3_ := Qz.mk ((by rw [hg]; exact (bsz (by repeat (first | (with_reducible first | exact HB.out | apply ba1 | apply bd_ | apply bd1 | refine bset ?_ GE128.out) | exact HB.out))) : w.heap.size ≤ gb130)); have n4_ := Qz.mk ((by rw [hg]; exact (bsz (by repeat (first | (with_reducible first | exact HB.out | apply ba1 | apply bd_ | apply bd1 | refine bset ?_ GE128.out) | exact HB.out))) : w.heap.size ≤ gb130)); have n5_ := Qz.mk ((by rw [hg]; exact Nat.ne_of_lt (blt (g := gb128) (o := .cells #[.int .i64 a1_0, .int .i64 a1_1, .int .i64 a1_2, .bool a1_3, .slice A1_4 l1_4.length c1_4] 72 (0, 0)) (by (with_reducible repeat (first | refine bkn ?_ _ | refine bkd ?_ | refine bka ?_ _)); exact BK128.out)) : gb128 ≠ gb130)); have n6_ := Qz.mk ((by rw [hg]; exact Nat.ne_of_gt (blt (g := gb128) (o := .cells #[.int .i64 a1_0, .int .i64 a1_1, .int .i64 a1_2, .bool a1_3, .slice A1_4 l1_4.length c1_4] 72 (0, 0)) (by (with_reducible repeat (first | refine bkn ?_ _ | refine bkd ?_ | refine bka ?_ _)); exact BK128.out)) : gb130 ≠ gb128)); clear BK128; clear HB; have BK128 := n0_; have HB := n1_; have BK130 := n2_; have GW130 := n3_; have GE130 := n4_; have NB128_130 := n5_; have NB130_128 := n6_; clear n0_ n1_ n2_ n3_ n4_ n5_ n6_; clear hb hbox hg; have hnb23 := NB130_128.out; have hnc23 := NB128_130.out; have hcz24_0 : w22.cell? ⟨gb130, 0, none⟩ = some (.int .i64 0) := (bc_ BK130.out 0).trans rfl; have hcz24_1 : w22.cell? ⟨gb130, 1, none⟩ = some (.int .i64 0) := (bc_ BK130.out 1).trans rfl; have hcz24_2 : w22.cell? ⟨gb130, 2, none⟩ = some (.int .i64 0) := (bc_ BK130.out 2).trans rfl; have hcz24_3 : w22.cell? ⟨gb130, 3, none⟩ = some (.bool false) := (bc_ BK130.out 3).trans rfl; have hcz24_4 : w22.cell? ⟨gb130, 4, none⟩ = some (.slice none 0 0) := (bc_ BK130.out 4).trans rfl; have hfz24_0 := bf_ BK130.out 0; have hfz24_1 := bf_ BK130.out 1; have hfz24_2 := bf_ BK130.out 2; have hfz24_3 := bf_ BK130.out 3; have hfz24_4 := bf_ BK130.out 4; have hcz25_0 : w22.cell? ⟨gb128, 0, none⟩ = some (.int .i64 a1_0) := (bc_ BK128.out 0).trans rfl; have hcz25_1 : w22.cell? ⟨gb128, 1, none⟩ = some (.int .i64 a1_1) := (bc_ BK128.out 1).trans rfl; have hcz25_2 : w22.cell? ⟨gb128, 2, none⟩ = some (.int .i64 a1_2) := (bc_ BK128.out 2).trans rfl; have hcz25_3 : w22.cell? ⟨gb128, 3, none⟩ = some (.bool a1_3) := (bc_ BK128.out 3).trans rfl; have hcz25_4 : w22.cell? ⟨gb128, 4, none⟩ = some (.slice A1_4 l1_4.length c1_4) := (bc_ BK128.out 4).trans rfl; have hfz25_0 := bf_ BK128.out 0; have hfz25_1 := bf_ BK128.out 1; have hfz25_2 := bf_ BK128.out 2; have hfz25_3 := bf_ BK128.out 3; have hfz25_4 := bf_ BK128.out 4))
       go_roundg k1
       case measure => have := HK1.out; omega
       case rel => exact ⟨(wrap64 (x9_1 + 1)), (by first | rfl | (simp; done) | (simp [*]; done)), H', ⟨by have := HK1.out; omega⟩, ⟨by (with_reducible repeat (first | refine bkn ?_ _ | refine bkd ?_ | refine bka ?_ _)); refine bkf ?_ NB128_130.out _; (with_reducible repeat (first | refine bkn ?_ _ | refine bkd ?_ | refine bka ?_ _)); refine bkf ?_ NB128_130.out _; (with_reducible repeat (first | refine bkn ?_ _ | refine bkd ?_ | refine bka ?_ _)); refine bkf ?_ NB128_130.out _; (with_reducible repeat (first | refine bkn ?_ _ | refine bkd ?_ | refine bka ?_ _)); refine bkf ?_ NB128_130.out _; (with_reducible repeat (first | refine bkn ?_ _ | refine bkd ?_ | refine bka ?_ _)); refine bkf ?_ NB128_130.out _; (with_reducible repeat (first | refine bkn ?_ _ | refine bkd ?_ | refine bka ?_ _)); exact BK128.out⟩, ⟨by repeat (first | (with_reducible first | exact HB.out | apply ba1 | apply bd_ | apply bd1 | refine bset ?_ GE128.out | refine bset ?_ GE130.out) | exact HB.out)⟩⟩
     ·rw [if_neg c6] at H
      exact absurd H (by simp)
    ·rw [if_neg c5] at H
     exact absurd H (by simp)
   ·rw [if_neg c4] at H
    have c4b0 : decide (x9_1 < (l0.length : Int)) = false := decide_eq_false c4
    clear c4
    obtain rfl := Option.some.inj H
    go_wp2
    go_ret
    exact ⟨by first | rfl | (simp [ewn, ews] <;> rfl) | (simp [*, ewn, ews] <;> rfl), by repeat (first | (with_reducible first | exact HB.out | apply ba1 | apply bd_ | apply bd1 | refine bset ?_ GE128.out) | exact HB.out)⟩

end
end Go.Proofs.Ytkaikgbcnmfppaa.Nb
