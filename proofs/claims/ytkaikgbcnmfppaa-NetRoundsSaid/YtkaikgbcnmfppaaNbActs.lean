/- net.acts: the walk over its map. (The print's walk of the function told with a slice, turned to the map by mk_acts.py.) -/
import Derived.Test.YtkaikgbcnmfppaaNbMap
import Derived.Test.YtkaikgbcnmfppaaNbFSlicesContainsIntInt
import Derived.Carry
namespace Go.Proofs.Ytkaikgbcnmfppaa.Nb
open Go Go.RowKit Go.Proofs.YtkaikgbcnmfppaaW.PrintWords Go.Proofs.YtkaikgbcnmfppaaW.PrintLast Go.Proofs.YtkaikgbcnmfppaaW.PrintMore
attribute [local go_sem] max2_int min2_int max_two min_two max_three min_three max_four min_four
set_option linter.unusedVariables false
set_option linter.unusedSimpArgs false
theorem mset_ne {w : World} {g b : Nat} {cs : Array Value} {t : TypeId} {f : Nat × Nat} {es : Array MapEntry} {c : Nat} (h : w.heap[g]? = some (.cells cs t f)) (h' : w.heap[b]? = some (.map es c)) : g ≠ b := by
 rintro rfl
 rw [h] at h'
 cases h'
/-! ### net_acts: function 41 -/
mutual
noncomputable def net_acts.l0 : Nat → List Int → List (S90) → List (S72) → Int → Int → Int → Int → Int → Option (Int)
 | 0, _, _, _, _, _, _, _, _ => none
 | k + 1, x1, x7, x15, x16, x17, x109000, x109001, x109002 => if x17 < x16 then (if 0 ≤ x17 then (if x17 < (x15.length : Int) then ((snii.f k x1 ((r72 x15 x17).f1)).bind fun t112 => (if t112 = true then (if ((r72 x15 x17).f2) < 0 then (net_acts.j1 k x1 x7 x15 x16 x17 true x109000 x109001 x109002 ((r72 x15 x17).f0) ((r72 x15 x17).f1) ((r72 x15 x17).f2) ((r72 x15 x17).f3) ((r72 x15 x17).f4) ((r72 x15 x17).f0) ((r72 x15 x17).f1) ((r72 x15 x17).f2)) else (if ((r72 x15 x17).f2) > x109001 then (net_acts.j1 k x1 x7 x15 x16 x17 true x109000 x109001 x109002 ((r72 x15 x17).f0) ((r72 x15 x17).f1) ((r72 x15 x17).f2) ((r72 x15 x17).f3) ((r72 x15 x17).f4) ((r72 x15 x17).f0) ((r72 x15 x17).f1) ((r72 x15 x17).f2)) else (if ((r72 x15 x17).f2) = ((r72 x15 x17).f1) then (net_acts.j1 k x1 x7 x15 x16 x17 true x109000 x109001 x109002 ((r72 x15 x17).f0) ((r72 x15 x17).f1) ((r72 x15 x17).f2) ((r72 x15 x17).f3) ((r72 x15 x17).f4) ((r72 x15 x17).f0) ((r72 x15 x17).f1) ((r72 x15 x17).f2)) else (net_acts.j1 k x1 x7 x15 x16 x17 (decide (((r72 x15 x17).f0) < 1)) x109000 x109001 x109002 ((r72 x15 x17).f0) ((r72 x15 x17).f1) ((r72 x15 x17).f2) ((r72 x15 x17).f3) ((r72 x15 x17).f4) ((r72 x15 x17).f0) ((r72 x15 x17).f1) ((r72 x15 x17).f2))))) else (net_acts.j1 k x1 x7 x15 x16 x17 true x109000 x109001 x109002 ((r72 x15 x17).f0) ((r72 x15 x17).f1) ((r72 x15 x17).f2) ((r72 x15 x17).f3) ((r72 x15 x17).f4) ((r72 x15 x17).f0) ((r72 x15 x17).f1) ((r72 x15 x17).f2)))) else (none)) else (none)) else (some 0)
noncomputable def net_acts.j1 : Nat → List Int → List (S90) → List (S72) → Int → Int → Bool → Int → Int → Int → Int → Int → Int → Bool → List Int → Int → Int → Int → Option (Int)
 | 0, _, _, _, _, _, _, _, _, _, _, _, _, _, _, _, _, _ => none
 | k + 1, x1, x7, x15, x16, x17, x28, x109000, x109001, x109002, x111000, x111001, x111002, x111003, x111004, x112000, x112001, x112002 => if x28 = true then (some 2) else (if (x111004.length : Int) > 65536 then (some 3) else ((net_has.f x7 x112000 x112001 x112002).bind fun t113 => (if t113 = true then (some 6) else (if x7.length < 5864062014805 then (net_acts.l0 k x1 (x7 ++ [(⟨x112000, x112001, x112002⟩ : S90)]) x15 x16 (wrap64 (x17 + 1)) x109000 x109001 x109002) else (none)))))
end
noncomputable def net_acts.f (k : Nat) (a0_0 : Int) (a0_1 : Int) (a0_2 : Int) (l1 : List Int) (l2 : List (S72)) : Option (Int) := if (l2.length : Int) > 65536 then (some 3) else (net_acts.l0 k l1 ([] : List (S90)) l2 (l2.length : Int) 0 a0_0 a0_1 a0_2)
set_option maxHeartbeats 8000000 in
set_option maxRecDepth 100000 in
theorem net_acts.calls (k : Nat) (a0_0 : Int) (a0_1 : Int) (a0_2 : Int) (A1 : Option Addr) (c1 : Nat) (l1 : List Int) (A2 : Option Addr) (c2 : Nat) (l2 : List (S72)) (r : Int) (w : World) (hr1 : Kd.C (Kd.int .i64) w A1 l1.length l1) (hc1 : l1.length ≤ c1) (hr2 : Kd.C k72 w A2 l2.length l2) (hc2 : l2.length ≤ c2) (h : net_acts.f k a0_0 a0_1 a0_2 l1 l2 = some r) :
  Calls Try.prog 41 #[.agg #[.int .u64 a0_0, .int .i64 a0_1, .int .i64 a0_2], .slice A1 l1.length c1, .slice A2 l2.length c2] w fun e w' => e = .returned (.int .i64 r) ∧ Below w.heap.size w w' := by
 have hu24 := Try.underlying24
 have hu72 := Try.underlying72
 have hu90 := Try.underlying90
 have HR1 := Qz.mk hr1
 have HC1 := Qz.mk hc1
 clear hr1 hc1
 have HR2 := Qz.mk hr2
 have HC2 := Qz.mk hc2
 clear hr2 hc2
 have HB := Qz.mk (Below.refl w.heap.size w)
 have H : (if (l2.length : Int) > 65536 then (some 3) else (net_acts.l0 k l1 ([] : List (S90)) l2 (l2.length : Int) 0 a0_0 a0_1 a0_2)) = some r := h
 clear h
 by_cases c4 : (l2.length : Int) > 65536
 ·rw [if_pos c4] at H
  have c4b0 : decide (65536 < (l2.length : Int)) = true := decide_eq_true c4
  have c4b1 : decide (65536 < l2.length) = true := decide_eq_true (by omega)
  clear c4
  obtain rfl := Option.some.inj H
  have hmm := @run_makeMap Try.prog
  go_enter Try.func41, Try.ntmps41
  go_wp2_with (first | ((with_reducible refine gdt (N := 3) rfl ?_); refine bxe ?hg (N := 3) ?hd (cs := #[.int .u64 a0_0, .int .i64 a0_1, .int .i64 a0_2]) (t := 24) ?hr ?_; (case hd => rfl); (case hg => rfl); (case hr => first | (go_simp; done) | (go_simp; rfl)); intro gb108 hg w5 hbox hb; have n0_ := Qz.mk (bst (by repeat (first | (with_reducible first | exact HB.out | apply ba1 | apply bd_ | apply bd1) | exact HB.out)) hb); have n1_ := Qz.mk (hbox); have n2_ := Qz.mk ((by rw [hg]; exact (bsz (by repeat (first | (with_reducible first | exact HB.out | apply ba1 | apply bd_ | apply bd1) | exact HB.out))) : w.heap.size ≤ gb108)); have n3_ := Qz.mk ((by rw [hg]; exact (bsz (by repeat (first | (with_reducible first | exact HB.out | apply ba1 | apply bd_ | apply bd1) | exact HB.out))) : w.heap.size ≤ gb108)); clear HB; have HB := n0_; have BK108 := n1_; have GW108 := n2_; have GE108 := n3_; clear n0_ n1_ n2_ n3_; clear hb hbox hg))
  go_ret
  exact ⟨by first | rfl | (simp [ewn, ews] <;> rfl) | (simp [*, ewn, ews] <;> rfl), by repeat (first | (with_reducible first | exact HB.out | apply ba1 | apply bd_ | apply bd1 | refine bset ?_ GE108.out) | exact HB.out)⟩
 ·rw [if_neg c4] at H
  have c4b0 : decide (65536 < (l2.length : Int)) = false := decide_eq_false c4
  have c4b1 : decide (65536 < l2.length) = false := decide_eq_false (by omega)
  clear c4
  have H' := Qz.mk H
  clear H
  have hmm := @run_makeMap Try.prog
  go_enter Try.func41, Try.ntmps41
  go_wp2_with (first | ((with_reducible refine gdt (N := 3) rfl ?_); refine bxe ?hg (N := 3) ?hd (cs := #[.int .u64 a0_0, .int .i64 a0_1, .int .i64 a0_2]) (t := 24) ?hr ?_; (case hd => rfl); (case hg => rfl); (case hr => first | (go_simp; done) | (go_simp; rfl)); intro gb108 hg w6 hbox hb; have n0_ := Qz.mk (bst (by repeat (first | (with_reducible first | exact HB.out | apply ba1 | apply bd_ | apply bd1) | exact HB.out)) hb); have n1_ := Qz.mk (hbox); have n2_ := Qz.mk ((by rw [hg]; exact (bsz (by repeat (first | (with_reducible first | exact HB.out | apply ba1 | apply bd_ | apply bd1) | exact HB.out))) : w.heap.size ≤ gb108)); have n3_ := Qz.mk ((by rw [hg]; exact (bsz (by repeat (first | (with_reducible first | exact HB.out | apply ba1 | apply bd_ | apply bd1) | exact HB.out))) : w.heap.size ≤ gb108)); clear HB; have HB := n0_; have BK108 := n1_; have GW108 := n2_; have GE108 := n3_; clear n0_ n1_ n2_ n3_; clear hb hbox hg))
  go_loopg [17] k (fun kq v17 w' => ∃ (x7_1 : List (S90)) (x17_1 : Int), v17 = .int .i64 x17_1 ∧ Qz (net_acts.l0 kq l1 x7_1 l2 (l2.length : Int) x17_1 a0_0 a0_1 a0_2 = some r) ∧ Qz (kq ≤ k) ∧ Qz (MSet w' w.heap.size (Value.map (some w6.heap.size)) x7_1) ∧ Qz (w'.heap[gb108]? = some (.cells #[.int .u64 a0_0, .int .i64 a0_1, .int .i64 a0_2] 24 (0, 0))) ∧ Qz (Below w.heap.size w w'))
  case atStart => exact ⟨(([] : List (S90))), (0), (by first | rfl | (simp; done) | (simp [*]; done)), H', ⟨Nat.le_refl _⟩, ⟨by first | exact MSet.made (bsz HB.out) | exact MSet.drewN (MSet.made (bsz HB.out)) | exact MSet.drew (MSet.made (bsz HB.out))⟩, ⟨by (with_reducible repeat (first | refine bkn ?_ _ | refine bkd ?_ | refine bka ?_ _)); exact BK108.out⟩, ⟨by repeat (first | (with_reducible first | exact HB.out | apply ba1 | apply bd_ | apply bd1 | refine bset ?_ GE108.out) | exact HB.out)⟩⟩
  case round =>
   clear H'
   try clear c1
   try clear c2
   try clear p2
   try clear c4
   try clear c4b0
   try clear c4b1
   obtain ⟨x7_1, x17_1, rfl, HA, HK1, HO_7, BK108, HB⟩ := hrel
   cases gk with
   | zero => exact absurd HA.out (by simp [net_acts.l0])
   | succ k1 =>
    have H := HA.out
    clear HA
    simp only [net_acts.l0] at H
    by_cases c7 : x17_1 < (l2.length : Int)
    ·rw [if_pos c7] at H
     have c7b0 : decide (x17_1 < (l2.length : Int)) = true := decide_eq_true c7
     clear c7
     by_cases c8 : 0 ≤ x17_1
     ·rw [if_pos c8] at H
      have c8b0 : decide (0 ≤ x17_1) = true := decide_eq_true c8
      clear c8
      by_cases c9 : x17_1 < (l2.length : Int)
      ·rw [if_pos c9] at H
       have c9b0 : decide (x17_1 < (l2.length : Int)) = true := decide_eq_true c9
       clear c9
       have HC10 := Qz.mk H
       clear H
       have p109 : 0 ≤ (x17_1 : Int) := of_decide_eq_true (by first | (with_reducible assumption) | assumption)
       have q109 : x17_1 < (l2.length : Int) := of_decide_eq_true (by first | (with_reducible assumption) | assumption)
       obtain ⟨ad109, A109_4, c109_4, e109, hx109_0, hx109_1, hx109_2, hx109_3, hx109_4, hl109_4, hi109_4⟩ := at_T72 HR2.out x17_1 p109 q109
       cases e109
       replace hx109_0 := (HB.out.cell (World.block_lt_of_cell? w _ hx109_0)).trans hx109_0
       replace hx109_1 := (HB.out.cell (World.block_lt_of_cell? w _ hx109_1)).trans hx109_1
       replace hx109_2 := (HB.out.cell (World.block_lt_of_cell? w _ hx109_2)).trans hx109_2
       replace hx109_3 := (HB.out.cell (World.block_lt_of_cell? w _ hx109_3)).trans hx109_3
       replace hx109_4 := (HB.out.cell (World.block_lt_of_cell? w _ hx109_4)).trans hx109_4
       have HR109_4 := Qz.mk hi109_4
       have HC109_4 := Qz.mk hl109_4
       clear hi109_4 hl109_4
       replace p109 := eq_true p109
       replace q109 := eq_true q109
       go_upto_region 8 with (first | ((with_reducible refine gdt (N := 9) rfl ?_); refine bxe ?hg (N := 9) ?hd (cs := #[.int .i64 0, .int .i64 0, .int .i64 0, .bool false, .slice none 0 0]) (t := 72) ?hr ?_; (case hd => rfl); (case hg => rfl); (case hr => first | (go_simp; done) | (go_simp; rfl)); intro gb110 hg w11 hbox hb; have n0_ := Qz.mk (MSet.below (by (repeat (first | exact HO_7.out | apply MSet.set | apply MSet.alloc | apply MSet.drewN | apply MSet.drew))) hb); have n1_ := Qz.mk (bkb (g := gb108) (o := .cells #[.int .u64 a0_0, .int .i64 a0_1, .int .i64 a0_2] 24 (0, 0)) (by (with_reducible repeat (first | refine bkn ?_ _ | refine bkd ?_ | refine bka ?_ _)); exact BK108.out) hb); have n2_ := Qz.mk (bst (by repeat (first | (with_reducible first | exact HB.out | apply ba1 | apply bd_ | apply bd1 | refine bset ?_ GE108.out) | exact HB.out)) hb); have n3_ := Qz.mk (hbox); have n4_ := Qz.mk ((by rw [hg]; exact (bsz (by repeat (first | (with_reducible first | exact HB.out | apply ba1 | apply bd_ | apply bd1 | refine bset ?_ GE108.out) | exact HB.out))) : w.heap.size ≤ gb110)); have n5_ := Qz.mk ((by rw [hg]; exact (bsz (by repeat (first | (with_reducible first | exact HB.out | apply ba1 | apply bd_ | apply bd1 | refine bset ?_ GE108.out) | exact HB.out))) : w.heap.size ≤ gb110)); have n6_ := Qz.mk ((by rw [hg]; exact Nat.ne_of_lt (blt (g := gb108) (o := .cells #[.int .u64 a0_0, .int .i64 a0_1, .int .i64 a0_2] 24 (0, 0)) (by (with_reducible repeat (first | refine bkn ?_ _ | refine bkd ?_ | refine bka ?_ _)); exact BK108.out)) : gb108 ≠ gb110)); have n7_ := Qz.mk ((by rw [hg]; exact Nat.ne_of_gt (blt (g := gb108) (o := .cells #[.int .u64 a0_0, .int .i64 a0_1, .int .i64 a0_2] 24 (0, 0)) (by (with_reducible repeat (first | refine bkn ?_ _ | refine bkd ?_ | refine bka ?_ _)); exact BK108.out)) : gb110 ≠ gb108)); clear HO_7; clear BK108; clear HB; have HO_7 := n0_; have BK108 := n1_; have HB := n2_; have BK110 := n3_; have GW110 := n4_; have GE110 := n5_; have NB108_110 := n6_; have NB110_108 := n7_; clear n0_ n1_ n2_ n3_ n4_ n5_ n6_ n7_; clear hb hbox hg; have hnb12 := NB110_108.out; have hnc12 := NB108_110.out; have hcz13_0 : w11.cell? ⟨gb110, 0, none⟩ = some (.int .i64 0) := (bc_ BK110.out 0).trans rfl; have hcz13_1 : w11.cell? ⟨gb110, 1, none⟩ = some (.int .i64 0) := (bc_ BK110.out 1).trans rfl; have hcz13_2 : w11.cell? ⟨gb110, 2, none⟩ = some (.int .i64 0) := (bc_ BK110.out 2).trans rfl; have hcz13_3 : w11.cell? ⟨gb110, 3, none⟩ = some (.bool false) := (bc_ BK110.out 3).trans rfl; have hcz13_4 : w11.cell? ⟨gb110, 4, none⟩ = some (.slice none 0 0) := (bc_ BK110.out 4).trans rfl; have hfz13_0 := bf_ BK110.out 0; have hfz13_1 := bf_ BK110.out 1; have hfz13_2 := bf_ BK110.out 2; have hfz13_3 := bf_ BK110.out 3; have hfz13_4 := bf_ BK110.out 4) | ((with_reducible refine gdt (N := 10) rfl ?_); refine bxe ?hg (N := 10) ?hd (cs := #[.int .i64 0, .int .i64 0, .int .i64 0]) (t := 90) ?hr ?_; (case hd => rfl); (case hg => rfl); (case hr => first | (go_simp; done) | (go_simp; rfl)); intro gb111 hg w14 hbox hb; have n0_ := Qz.mk (MSet.below (by (repeat (first | exact HO_7.out | apply MSet.set | apply MSet.alloc | apply MSet.drewN | apply MSet.drew))) hb); have n1_ := Qz.mk (bkb (g := gb108) (o := .cells #[.int .u64 a0_0, .int .i64 a0_1, .int .i64 a0_2] 24 (0, 0)) (by (with_reducible repeat (first | refine bkn ?_ _ | refine bkd ?_ | refine bka ?_ _)); refine bkf ?_ NB108_110.out _; (with_reducible repeat (first | refine bkn ?_ _ | refine bkd ?_ | refine bka ?_ _)); refine bkf ?_ NB108_110.out _; (with_reducible repeat (first | refine bkn ?_ _ | refine bkd ?_ | refine bka ?_ _)); refine bkf ?_ NB108_110.out _; (with_reducible repeat (first | refine bkn ?_ _ | refine bkd ?_ | refine bka ?_ _)); refine bkf ?_ NB108_110.out _; (with_reducible repeat (first | refine bkn ?_ _ | refine bkd ?_ | refine bka ?_ _)); refine bkf ?_ NB108_110.out _; (with_reducible repeat (first | refine bkn ?_ _ | refine bkd ?_ | refine bka ?_ _)); exact BK108.out) hb); have n2_ := Qz.mk (bkb (g := gb110) (o := .cells #[.int .i64 ((r72 l2 x17_1).f0), .int .i64 ((r72 l2 x17_1).f1), .int .i64 ((r72 l2 x17_1).f2), .bool ((r72 l2 x17_1).f3), .slice A109_4 ((r72 l2 x17_1).f4).length c109_4] 72 (0, 0)) (by (with_reducible repeat (first | refine bkn ?_ _ | refine bkd ?_ | refine bka ?_ _)); refine bkp (cs := #[.int .i64 ((r72 l2 x17_1).f0), .int .i64 ((r72 l2 x17_1).f1), .int .i64 ((r72 l2 x17_1).f2), .bool ((r72 l2 x17_1).f3), .slice none 0 0]) ?_ 4 _ rfl; (with_reducible repeat (first | refine bkn ?_ _ | refine bkd ?_ | refine bka ?_ _)); refine bkp (cs := #[.int .i64 ((r72 l2 x17_1).f0), .int .i64 ((r72 l2 x17_1).f1), .int .i64 ((r72 l2 x17_1).f2), .bool false, .slice none 0 0]) ?_ 3 _ rfl; (with_reducible repeat (first | refine bkn ?_ _ | refine bkd ?_ | refine bka ?_ _)); refine bkp (cs := #[.int .i64 ((r72 l2 x17_1).f0), .int .i64 ((r72 l2 x17_1).f1), .int .i64 0, .bool false, .slice none 0 0]) ?_ 2 _ rfl; (with_reducible repeat (first | refine bkn ?_ _ | refine bkd ?_ | refine bka ?_ _)); refine bkp (cs := #[.int .i64 ((r72 l2 x17_1).f0), .int .i64 0, .int .i64 0, .bool false, .slice none 0 0]) ?_ 1 _ rfl; (with_reducible repeat (first | refine bkn ?_ _ | refine bkd ?_ | refine bka ?_ _)); refine bkp (cs := #[.int .i64 0, .int .i64 0, .int .i64 0, .bool false, .slice none 0 0]) ?_ 0 _ rfl; (with_reducible repeat (first | refine bkn ?_ _ | refine bkd ?_ | refine bka ?_ _)); exact BK110.out) hb); have n3_ := Qz.mk (bst (by repeat (first | (with_reducible first | exact HB.out | apply ba1 | apply bd_ | apply bd1 | refine bset ?_ GE108.out | refine bset ?_ GE110.out) | exact HB.out)) hb); have n4_ := Qz.mk (hbox); have n5_ := Qz.mk ((by rw [hg]; exact (bsz (by repeat (first | (with_reducible first | exact HB.out | apply ba1 | apply bd_ | apply bd1 | refine bset ?_ GE108.out | refine bset ?_ GE110.out) | exact HB.out))) : w.heap.size ≤ gb111)); have n6_ := Qz.mk ((by rw [hg]; exact (bsz (by repeat (first | (with_reducible first | exact HB.out | apply ba1 | apply bd_ | apply bd1 | refine bset ?_ GE108.out | refine bset ?_ GE110.out) | exact HB.out))) : w.heap.size ≤ gb111)); have n7_ := Qz.mk ((by rw [hg]; exact Nat.ne_of_lt (blt (g := gb108) (o := .cells #[.int .u64 a0_0, .int .i64 a0_1, .int .i64 a0_2] 24 (0, 0)) (by (with_reducible repeat (first | refine bkn ?_ _ | refine bkd ?_ | refine bka ?_ _)); refine bkf ?_ NB108_110.out _; (with_reducible repeat (first | refine bkn ?_ _ | refine bkd ?_ | refine bka ?_ _)); refine bkf ?_ NB108_110.out _; (with_reducible repeat (first | refine bkn ?_ _ | refine bkd ?_ | refine bka ?_ _)); refine bkf ?_ NB108_110.out _; (with_reducible repeat (first | refine bkn ?_ _ | refine bkd ?_ | refine bka ?_ _)); refine bkf ?_ NB108_110.out _; (with_reducible repeat (first | refine bkn ?_ _ | refine bkd ?_ | refine bka ?_ _)); refine bkf ?_ NB108_110.out _; (with_reducible repeat (first | refine bkn ?_ _ | refine bkd ?_ | refine bka ?_ _)); exact BK108.out)) : gb108 ≠ gb111)); have n8_ := Qz.mk ((by rw [hg]; exact Nat.ne_of_gt (blt (g := gb108) (o := .cells #[.int .u64 a0_0, .int .i64 a0_1, .int .i64 a0_2] 24 (0, 0)) (by (with_reducible repeat (first | refine bkn ?_ _ | refine bkd ?_ | refine bka ?_ _)); refine bkf ?_ NB108_110.out _; (with_reducible repeat (first | refine bkn ?_ _ | refine bkd ?_ | refine bka ?_ _)); refine bkf ?_ NB108_110.out _; (with_reducible repeat (first | refine bkn ?_ _ | refine bkd ?_ | refine bka ?_ _)); refine bkf ?_ NB108_110.out _; (with_reducible repeat (first | refine bkn ?_ _ | refine bkd ?_ | refine bka ?_ _)); refine bkf ?_ NB108_110.out _; (with_reducible repeat (first | refine bkn ?_ _ | refine bkd ?_ | refine bka ?_ _)); refine bkf ?_ NB108_110.out _; (with_reducible repeat (first | refine bkn ?_ _ | refine bkd ?_ | refine bka ?_ _)); exact BK108.out)) : gb111 ≠ gb108)); have n9_ := Qz.mk ((by rw [hg]; exact Nat.ne_of_lt (blt (g := gb110) (o := .cells #[.int .i64 ((r72 l2 x17_1).f0), .int .i64 ((r72 l2 x17_1).f1), .int .i64 ((r72 l2 x17_1).f2), .bool ((r72 l2 x17_1).f3), .slice A109_4 ((r72 l2 x17_1).f4).length c109_4] 72 (0, 0)) (by (with_reducible repeat (first | refine bkn ?_ _ | refine bkd ?_ | refine bka ?_ _)); refine bkp (cs := #[.int .i64 ((r72 l2 x17_1).f0), .int .i64 ((r72 l2 x17_1).f1), .int .i64 ((r72 l2 x17_1).f2), .bool ((r72 l2 x17_1).f3), .slice none 0 0]) ?_ 4 _ rfl; (with_reducible repeat (first | refine bkn ?_ _ | refine bkd ?_ | refine bka ?_ _)); refine bkp (cs := #[.int .i64 ((r72 l2 x17_1).f0), .int .i64 ((r72 l2 x17_1).f1), .int .i64 ((r72 l2 x17_1).f2), .bool false, .slice none 0 0]) ?_ 3 _ rfl; (with_reducible repeat (first | refine bkn ?_ _ | refine bkd ?_ | refine bka ?_ _)); refine bkp (cs := #[.int .i64 ((r72 l2 x17_1).f0), .int .i64 ((r72 l2 x17_1).f1), .int .i64 0, .bool false, .slice none 0 0]) ?_ 2 _ rfl; (with_reducible repeat (first | refine bkn ?_ _ | refine bkd ?_ | refine bka ?_ _)); refine bkp (cs := #[.int .i64 ((r72 l2 x17_1).f0), .int .i64 0, .int .i64 0, .bool false, .slice none 0 0]) ?_ 1 _ rfl; (with_reducible repeat (first | refine bkn ?_ _ | refine bkd ?_ | refine bka ?_ _)); refine bkp (cs := #[.int .i64 0, .int .i64 0, .int .i64 0, .bool false, .slice none 0 0]) ?_ 0 _ rfl; (with_reducible repeat (first | refine bkn ?_ _ | refine bkd ?_ | refine bka ?_ _)); exact BK110.out)) : gb110 ≠ gb111)); have n10_ := Qz.mk ((by rw [hg]; exact Nat.ne_of_gt (blt (g := gb110) (o := .cells #[.int .i64 ((r72 l2 x17_1).f0), .int .i64 ((r72 l2 x17_1).f1), .int .i64 ((r72 l2 x17_1).f2), .bool ((r72 l2 x17_1).f3), .slice A109_4 ((r72 l2 x17_1).f4).length c109_4] 72 (0, 0)) (by (with_reducible repeat (first | refine bkn ?_ _ | refine bkd ?_ | refine bka ?_ _)); refine bkp (cs := #[.int .i64 ((r72 l2 x17_1).f0), .int .i64 ((r72 l2 x17_1).f1), .int .i64 ((r72 l2 x17_1).f2), .bool ((r72 l2 x17_1).f3), .slice none 0 0]) ?_ 4 _ rfl; (with_reducible repeat (first | refine bkn ?_ _ | refine bkd ?_ | refine bka ?_ _)); refine bkp (cs := #[.int .i64 ((r72 l2 x17_1).f0), .int .i64 ((r72 l2 x17_1).f1), .int .i64 ((r72 l2 x17_1).f2), .bool false, .slice none 0 0]) ?_ 3 _ rfl; (with_reducible repeat (first | refine bkn ?_ _ | refine bkd ?_ | refine bka ?_ _)); refine bkp (cs := #[.int .i64 ((r72 l2 x17_1).f0), .int .i64 ((r72 l2 x17_1).f1), .int .i64 0, .bool false, .slice none 0 0]) ?_ 2 _ rfl; (with_reducible repeat (first | refine bkn ?_ _ | refine bkd ?_ | refine bka ?_ _)); refine bkp (cs := #[.int .i64 ((r72 l2 x17_1).f0), .int .i64 0, .int .i64 0, .bool false, .slice none 0 0]) ?_ 1 _ rfl; (with_reducible repeat (first | refine bkn ?_ _ | refine bkd ?_ | refine bka ?_ _)); refine bkp (cs := #[.int .i64 0, .int .i64 0, .int .i64 0, .bool false, .slice none 0 0]) ?_ 0 _ rfl; (with_reducible repeat (first | refine bkn ?_ _ | refine bkd ?_ | refine bka ?_ _)); exact BK110.out)) : gb111 ≠ gb110)); clear HO_7; clear BK108; clear BK110; clear HB; have HO_7 := n0_; have BK108 := n1_; have BK110 := n2_; have HB := n3_; have BK111 := n4_; have GW111 := n5_; have GE111 := n6_; have NB108_111 := n7_; have NB111_108 := n8_; have NB110_111 := n9_; have NB111_110 := n10_; clear n0_ n1_ n2_ n3_ n4_ n5_ n6_ n7_ n8_ n9_ n10_; clear hb hbox hg; have hnb15 := NB111_108.out; have hnc15 := NB108_111.out; have hnb16 := NB111_110.out; have hnc16 := NB110_111.out; have hcz17_0 : w14.cell? ⟨gb111, 0, none⟩ = some (.int .i64 0) := (bc_ BK111.out 0).trans rfl; have hcz17_1 : w14.cell? ⟨gb111, 1, none⟩ = some (.int .i64 0) := (bc_ BK111.out 1).trans rfl; have hcz17_2 : w14.cell? ⟨gb111, 2, none⟩ = some (.int .i64 0) := (bc_ BK111.out 2).trans rfl; have hfz17_0 := bf_ BK111.out 0; have hfz17_1 := bf_ BK111.out 1; have hfz17_2 := bf_ BK111.out 2))
       (try simp only [Act.put, List.setIfInBounds_toArray, List.set_cons_zero, List.set_cons_succ])
       go_cut [28] (fun v28 wc => ∃ (kq : Nat) (x28_9 : Bool), v28 = .bool x28_9 ∧ Qz (net_acts.j1 kq l1 x7_1 l2 (l2.length : Int) x17_1 x28_9 a0_0 a0_1 a0_2 ((r72 l2 x17_1).f0) ((r72 l2 x17_1).f1) ((r72 l2 x17_1).f2) ((r72 l2 x17_1).f3) ((r72 l2 x17_1).f4) ((r72 l2 x17_1).f0) ((r72 l2 x17_1).f1) ((r72 l2 x17_1).f2) = some r) ∧ Qz (kq ≤ k1) ∧ Qz (MSet wc w.heap.size (Value.map (some w6.heap.size)) x7_1) ∧ Qz (wc.heap[gb108]? = some (.cells #[.int .u64 a0_0, .int .i64 a0_1, .int .i64 a0_2] 24 (0, 0))) ∧ Qz (wc.heap[gb110]? = some (.cells #[.int .i64 ((r72 l2 x17_1).f0), .int .i64 ((r72 l2 x17_1).f1), .int .i64 ((r72 l2 x17_1).f2), .bool ((r72 l2 x17_1).f3), (.slice A109_4 ((r72 l2 x17_1).f4).length c109_4)] 72 (0, 0))) ∧ Qz (wc.heap[gb111]? = some (.cells #[.int .i64 ((r72 l2 x17_1).f0), .int .i64 ((r72 l2 x17_1).f1), .int .i64 ((r72 l2 x17_1).f2)] 90 (0, 0))) ∧ Qz (Below w.heap.size w wc))
       case first =>
        have H := HC10.out
        clear HC10
        replace H := Option.bind_eq_some_iff.mp H
        obtain ⟨t112, A180, H⟩ := H
        replace H : (if t112 = true then (if ((r72 l2 x17_1).f2) < 0 then (net_acts.j1 k1 l1 x7_1 l2 (l2.length : Int) x17_1 true a0_0 a0_1 a0_2 ((r72 l2 x17_1).f0) ((r72 l2 x17_1).f1) ((r72 l2 x17_1).f2) ((r72 l2 x17_1).f3) ((r72 l2 x17_1).f4) ((r72 l2 x17_1).f0) ((r72 l2 x17_1).f1) ((r72 l2 x17_1).f2)) else (if ((r72 l2 x17_1).f2) > a0_1 then (net_acts.j1 k1 l1 x7_1 l2 (l2.length : Int) x17_1 true a0_0 a0_1 a0_2 ((r72 l2 x17_1).f0) ((r72 l2 x17_1).f1) ((r72 l2 x17_1).f2) ((r72 l2 x17_1).f3) ((r72 l2 x17_1).f4) ((r72 l2 x17_1).f0) ((r72 l2 x17_1).f1) ((r72 l2 x17_1).f2)) else (if ((r72 l2 x17_1).f2) = ((r72 l2 x17_1).f1) then (net_acts.j1 k1 l1 x7_1 l2 (l2.length : Int) x17_1 true a0_0 a0_1 a0_2 ((r72 l2 x17_1).f0) ((r72 l2 x17_1).f1) ((r72 l2 x17_1).f2) ((r72 l2 x17_1).f3) ((r72 l2 x17_1).f4) ((r72 l2 x17_1).f0) ((r72 l2 x17_1).f1) ((r72 l2 x17_1).f2)) else (net_acts.j1 k1 l1 x7_1 l2 (l2.length : Int) x17_1 (decide (((r72 l2 x17_1).f0) < 1)) a0_0 a0_1 a0_2 ((r72 l2 x17_1).f0) ((r72 l2 x17_1).f1) ((r72 l2 x17_1).f2) ((r72 l2 x17_1).f3) ((r72 l2 x17_1).f4) ((r72 l2 x17_1).f0) ((r72 l2 x17_1).f1) ((r72 l2 x17_1).f2))))) else (net_acts.j1 k1 l1 x7_1 l2 (l2.length : Int) x17_1 true a0_0 a0_1 a0_2 ((r72 l2 x17_1).f0) ((r72 l2 x17_1).f1) ((r72 l2 x17_1).f2) ((r72 l2 x17_1).f3) ((r72 l2 x17_1).f4) ((r72 l2 x17_1).f0) ((r72 l2 x17_1).f1) ((r72 l2 x17_1).f2))) = some r := H
        have A18 := Qz.mk A180
        clear A180
        by_cases c19 : t112 = true
        ·subst c19
         have H1 : (if ((r72 l2 x17_1).f2) < 0 then (net_acts.j1 k1 l1 x7_1 l2 (l2.length : Int) x17_1 true a0_0 a0_1 a0_2 ((r72 l2 x17_1).f0) ((r72 l2 x17_1).f1) ((r72 l2 x17_1).f2) ((r72 l2 x17_1).f3) ((r72 l2 x17_1).f4) ((r72 l2 x17_1).f0) ((r72 l2 x17_1).f1) ((r72 l2 x17_1).f2)) else (if ((r72 l2 x17_1).f2) > a0_1 then (net_acts.j1 k1 l1 x7_1 l2 (l2.length : Int) x17_1 true a0_0 a0_1 a0_2 ((r72 l2 x17_1).f0) ((r72 l2 x17_1).f1) ((r72 l2 x17_1).f2) ((r72 l2 x17_1).f3) ((r72 l2 x17_1).f4) ((r72 l2 x17_1).f0) ((r72 l2 x17_1).f1) ((r72 l2 x17_1).f2)) else (if ((r72 l2 x17_1).f2) = ((r72 l2 x17_1).f1) then (net_acts.j1 k1 l1 x7_1 l2 (l2.length : Int) x17_1 true a0_0 a0_1 a0_2 ((r72 l2 x17_1).f0) ((r72 l2 x17_1).f1) ((r72 l2 x17_1).f2) ((r72 l2 x17_1).f3) ((r72 l2 x17_1).f4) ((r72 l2 x17_1).f0) ((r72 l2 x17_1).f1) ((r72 l2 x17_1).f2)) else (net_acts.j1 k1 l1 x7_1 l2 (l2.length : Int) x17_1 (decide (((r72 l2 x17_1).f0) < 1)) a0_0 a0_1 a0_2 ((r72 l2 x17_1).f0) ((r72 l2 x17_1).f1) ((r72 l2 x17_1).f2) ((r72 l2 x17_1).f3) ((r72 l2 x17_1).f4) ((r72 l2 x17_1).f0) ((r72 l2 x17_1).f1) ((r72 l2 x17_1).f2))))) = some r := by rw [if_pos rfl] at H; exact H
         clear H
         have H := H1
         clear H1
         by_cases c20 : ((r72 l2 x17_1).f2) < 0
         ·rw [if_pos c20] at H
          have c20b0 : decide (((r72 l2 x17_1).f2) < 0) = true := decide_eq_true c20
          clear c20
          (first | rw [c20b0] | (simp only [i64_w, i32_w]; rw [c20b0]) | skip)
          have H' := Qz.mk H
          clear H
          have hnb21 := NB110_108.out
          have hnc21 := NB108_110.out
          have hnb22 := NB110_111.out
          have hnc22 := NB111_110.out
          have hcz23_0 : w14.cell? ⟨gb110, 0, none⟩ = some (.int .i64 ((r72 l2 x17_1).f0)) := (bc_ BK110.out 0).trans rfl
          have hcz23_1 : w14.cell? ⟨gb110, 1, none⟩ = some (.int .i64 ((r72 l2 x17_1).f1)) := (bc_ BK110.out 1).trans rfl
          have hcz23_2 : w14.cell? ⟨gb110, 2, none⟩ = some (.int .i64 ((r72 l2 x17_1).f2)) := (bc_ BK110.out 2).trans rfl
          have hcz23_3 : w14.cell? ⟨gb110, 3, none⟩ = some (.bool ((r72 l2 x17_1).f3)) := (bc_ BK110.out 3).trans rfl
          have hcz23_4 : w14.cell? ⟨gb110, 4, none⟩ = some (.slice A109_4 ((r72 l2 x17_1).f4).length c109_4) := (bc_ BK110.out 4).trans rfl
          have hfz23_0 := bf_ BK110.out 0
          have hfz23_1 := bf_ BK110.out 1
          have hfz23_2 := bf_ BK110.out 2
          have hfz23_3 := bf_ BK110.out 3
          have hfz23_4 := bf_ BK110.out 4
          go_wp2_with (first | ((with_reducible refine gcl (f := 58) rfl ?_); refine goesL_ (some 32) rfl rfl Try.func58 (by kernel_rfl) rfl #[.slice A1 l1.length c1, .int .i64 ((r72 l2 x17_1).f1)] rfl (by (try simp only [List.map_toArray, List.map_cons, List.map_nil]); first | done | rfl | (simp only [List.length_drop, List.length_take]; rfl)) ?_; (with_reducible refine (snii.calls k1 _ _ l1 ((r72 l2 x17_1).f1) true _ ?side1 ?side2 A18.out).mono ?_); (case side1 => exact Kd.C_below HR1.out (by repeat (first | (with_reducible first | exact HB.out | apply ba1 | apply bd_ | apply bd1 | refine bset ?_ GE108.out | refine bset ?_ GE110.out | refine bset ?_ GE111.out) | exact HB.out))); (case side2 => exact HC1.out); rintro e w' ⟨rfl, ⟨nd, rfl⟩⟩; refine ⟨_, rfl, ?_⟩))
          go_meet
          case rel => exact ⟨_, (true), (by first | rfl | (simp; done) | (simp [*]; done)), H', ⟨by have := HK1.out; first | omega | exact Nat.le_refl _⟩, ⟨by (repeat (first | exact HO_7.out | apply MSet.set | apply MSet.alloc | apply MSet.drewN | apply MSet.drew))⟩, ⟨by (with_reducible repeat (first | refine bkn ?_ _ | refine bkd ?_ | refine bka ?_ _)); refine bkf ?_ NB108_111.out _; (with_reducible repeat (first | refine bkn ?_ _ | refine bkd ?_ | refine bka ?_ _)); refine bkf ?_ NB108_111.out _; (with_reducible repeat (first | refine bkn ?_ _ | refine bkd ?_ | refine bka ?_ _)); refine bkf ?_ NB108_111.out _; (with_reducible repeat (first | refine bkn ?_ _ | refine bkd ?_ | refine bka ?_ _)); exact BK108.out⟩, ⟨by (with_reducible repeat (first | refine bkn ?_ _ | refine bkd ?_ | refine bka ?_ _)); refine bkf ?_ NB110_111.out _; (with_reducible repeat (first | refine bkn ?_ _ | refine bkd ?_ | refine bka ?_ _)); refine bkf ?_ NB110_111.out _; (with_reducible repeat (first | refine bkn ?_ _ | refine bkd ?_ | refine bka ?_ _)); refine bkf ?_ NB110_111.out _; (with_reducible repeat (first | refine bkn ?_ _ | refine bkd ?_ | refine bka ?_ _)); exact BK110.out⟩, ⟨by (with_reducible repeat (first | refine bkn ?_ _ | refine bkd ?_ | refine bka ?_ _)); refine bkp (cs := #[.int .i64 ((r72 l2 x17_1).f0), .int .i64 ((r72 l2 x17_1).f1), .int .i64 0]) ?_ 2 _ rfl; (with_reducible repeat (first | refine bkn ?_ _ | refine bkd ?_ | refine bka ?_ _)); refine bkp (cs := #[.int .i64 ((r72 l2 x17_1).f0), .int .i64 0, .int .i64 0]) ?_ 1 _ rfl; (with_reducible repeat (first | refine bkn ?_ _ | refine bkd ?_ | refine bka ?_ _)); refine bkp (cs := #[.int .i64 0, .int .i64 0, .int .i64 0]) ?_ 0 _ rfl; (with_reducible repeat (first | refine bkn ?_ _ | refine bkd ?_ | refine bka ?_ _)); exact BK111.out⟩, ⟨by repeat (first | (with_reducible first | exact HB.out | apply ba1 | apply bd_ | apply bd1 | refine bset ?_ GE108.out | refine bset ?_ GE110.out | refine bset ?_ GE111.out) | exact HB.out)⟩⟩
         ·rw [if_neg c20] at H
          have c20b0 : decide (((r72 l2 x17_1).f2) < 0) = false := decide_eq_false c20
          clear c20
          (first | rw [c20b0] | (simp only [i64_w, i32_w]; rw [c20b0]) | skip)
          by_cases c24 : ((r72 l2 x17_1).f2) > a0_1
          ·rw [if_pos c24] at H
           have c24b0 : decide (a0_1 < ((r72 l2 x17_1).f2)) = true := decide_eq_true c24
           clear c24
           have H' := Qz.mk H
           clear H
           have hnb25 := NB110_108.out
           have hnc25 := NB108_110.out
           have hnb26 := NB110_111.out
           have hnc26 := NB111_110.out
           have hcz27_0 : w14.cell? ⟨gb110, 0, none⟩ = some (.int .i64 ((r72 l2 x17_1).f0)) := (bc_ BK110.out 0).trans rfl
           have hcz27_1 : w14.cell? ⟨gb110, 1, none⟩ = some (.int .i64 ((r72 l2 x17_1).f1)) := (bc_ BK110.out 1).trans rfl
           have hcz27_2 : w14.cell? ⟨gb110, 2, none⟩ = some (.int .i64 ((r72 l2 x17_1).f2)) := (bc_ BK110.out 2).trans rfl
           have hcz27_3 : w14.cell? ⟨gb110, 3, none⟩ = some (.bool ((r72 l2 x17_1).f3)) := (bc_ BK110.out 3).trans rfl
           have hcz27_4 : w14.cell? ⟨gb110, 4, none⟩ = some (.slice A109_4 ((r72 l2 x17_1).f4).length c109_4) := (bc_ BK110.out 4).trans rfl
           have hfz27_0 := bf_ BK110.out 0
           have hfz27_1 := bf_ BK110.out 1
           have hfz27_2 := bf_ BK110.out 2
           have hfz27_3 := bf_ BK110.out 3
           have hfz27_4 := bf_ BK110.out 4
           go_wp2_with (first | ((with_reducible refine gcl (f := 58) rfl ?_); refine goesL_ (some 32) rfl rfl Try.func58 (by kernel_rfl) rfl #[.slice A1 l1.length c1, .int .i64 ((r72 l2 x17_1).f1)] rfl (by (try simp only [List.map_toArray, List.map_cons, List.map_nil]); first | done | rfl | (simp only [List.length_drop, List.length_take]; rfl)) ?_; (with_reducible refine (snii.calls k1 _ _ l1 ((r72 l2 x17_1).f1) true _ ?side1 ?side2 A18.out).mono ?_); (case side1 => exact Kd.C_below HR1.out (by repeat (first | (with_reducible first | exact HB.out | apply ba1 | apply bd_ | apply bd1 | refine bset ?_ GE108.out | refine bset ?_ GE110.out | refine bset ?_ GE111.out) | exact HB.out))); (case side2 => exact HC1.out); rintro e w' ⟨rfl, ⟨nd, rfl⟩⟩; refine ⟨_, rfl, ?_⟩; have hnb28 := NB108_111.out; have hnc28 := NB111_108.out; have hcz29_0 : w14.cell? ⟨gb108, 0, none⟩ = some (.int .u64 a0_0) := (bc_ BK108.out 0).trans rfl; have hcz29_1 : w14.cell? ⟨gb108, 1, none⟩ = some (.int .i64 a0_1) := (bc_ BK108.out 1).trans rfl; have hcz29_2 : w14.cell? ⟨gb108, 2, none⟩ = some (.int .i64 a0_2) := (bc_ BK108.out 2).trans rfl; have hfz29_0 := bf_ BK108.out 0; have hfz29_1 := bf_ BK108.out 1; have hfz29_2 := bf_ BK108.out 2))
           go_meet
           case rel => exact ⟨_, (true), (by first | rfl | (simp; done) | (simp [*]; done)), H', ⟨by have := HK1.out; first | omega | exact Nat.le_refl _⟩, ⟨by (repeat (first | exact HO_7.out | apply MSet.set | apply MSet.alloc | apply MSet.drewN | apply MSet.drew))⟩, ⟨by (with_reducible repeat (first | refine bkn ?_ _ | refine bkd ?_ | refine bka ?_ _)); refine bkf ?_ NB108_111.out _; (with_reducible repeat (first | refine bkn ?_ _ | refine bkd ?_ | refine bka ?_ _)); refine bkf ?_ NB108_111.out _; (with_reducible repeat (first | refine bkn ?_ _ | refine bkd ?_ | refine bka ?_ _)); refine bkf ?_ NB108_111.out _; (with_reducible repeat (first | refine bkn ?_ _ | refine bkd ?_ | refine bka ?_ _)); exact BK108.out⟩, ⟨by (with_reducible repeat (first | refine bkn ?_ _ | refine bkd ?_ | refine bka ?_ _)); refine bkf ?_ NB110_111.out _; (with_reducible repeat (first | refine bkn ?_ _ | refine bkd ?_ | refine bka ?_ _)); refine bkf ?_ NB110_111.out _; (with_reducible repeat (first | refine bkn ?_ _ | refine bkd ?_ | refine bka ?_ _)); refine bkf ?_ NB110_111.out _; (with_reducible repeat (first | refine bkn ?_ _ | refine bkd ?_ | refine bka ?_ _)); exact BK110.out⟩, ⟨by (with_reducible repeat (first | refine bkn ?_ _ | refine bkd ?_ | refine bka ?_ _)); refine bkp (cs := #[.int .i64 ((r72 l2 x17_1).f0), .int .i64 ((r72 l2 x17_1).f1), .int .i64 0]) ?_ 2 _ rfl; (with_reducible repeat (first | refine bkn ?_ _ | refine bkd ?_ | refine bka ?_ _)); refine bkp (cs := #[.int .i64 ((r72 l2 x17_1).f0), .int .i64 0, .int .i64 0]) ?_ 1 _ rfl; (with_reducible repeat (first | refine bkn ?_ _ | refine bkd ?_ | refine bka ?_ _)); refine bkp (cs := #[.int .i64 0, .int .i64 0, .int .i64 0]) ?_ 0 _ rfl; (with_reducible repeat (first | refine bkn ?_ _ | refine bkd ?_ | refine bka ?_ _)); exact BK111.out⟩, ⟨by repeat (first | (with_reducible first | exact HB.out | apply ba1 | apply bd_ | apply bd1 | refine bset ?_ GE108.out | refine bset ?_ GE110.out | refine bset ?_ GE111.out) | exact HB.out)⟩⟩
          ·rw [if_neg c24] at H
           have c24b0 : decide (a0_1 < ((r72 l2 x17_1).f2)) = false := decide_eq_false c24
           clear c24
           by_cases c30 : ((r72 l2 x17_1).f2) = ((r72 l2 x17_1).f1)
           ·rw [if_pos c30] at H
            have c30b0 : (((r72 l2 x17_1).f2) == ((r72 l2 x17_1).f1)) = true := beq_iff_eq.mpr c30
            have c30b1 : (((r72 l2 x17_1).f2) != ((r72 l2 x17_1).f1)) = false := bne_eq_false_iff_eq.mpr c30
            clear c30
            have H' := Qz.mk H
            clear H
            have hnb31 := NB110_108.out
            have hnc31 := NB108_110.out
            have hnb32 := NB110_111.out
            have hnc32 := NB111_110.out
            have hcz33_0 : w14.cell? ⟨gb110, 0, none⟩ = some (.int .i64 ((r72 l2 x17_1).f0)) := (bc_ BK110.out 0).trans rfl
            have hcz33_1 : w14.cell? ⟨gb110, 1, none⟩ = some (.int .i64 ((r72 l2 x17_1).f1)) := (bc_ BK110.out 1).trans rfl
            have hcz33_2 : w14.cell? ⟨gb110, 2, none⟩ = some (.int .i64 ((r72 l2 x17_1).f2)) := (bc_ BK110.out 2).trans rfl
            have hcz33_3 : w14.cell? ⟨gb110, 3, none⟩ = some (.bool ((r72 l2 x17_1).f3)) := (bc_ BK110.out 3).trans rfl
            have hcz33_4 : w14.cell? ⟨gb110, 4, none⟩ = some (.slice A109_4 ((r72 l2 x17_1).f4).length c109_4) := (bc_ BK110.out 4).trans rfl
            have hfz33_0 := bf_ BK110.out 0
            have hfz33_1 := bf_ BK110.out 1
            have hfz33_2 := bf_ BK110.out 2
            have hfz33_3 := bf_ BK110.out 3
            have hfz33_4 := bf_ BK110.out 4
            go_wp2_with (first | ((with_reducible refine gcl (f := 58) rfl ?_); refine goesL_ (some 32) rfl rfl Try.func58 (by kernel_rfl) rfl #[.slice A1 l1.length c1, .int .i64 ((r72 l2 x17_1).f1)] rfl (by (try simp only [List.map_toArray, List.map_cons, List.map_nil]); first | done | rfl | (simp only [List.length_drop, List.length_take]; rfl)) ?_; (with_reducible refine (snii.calls k1 _ _ l1 ((r72 l2 x17_1).f1) true _ ?side1 ?side2 A18.out).mono ?_); (case side1 => exact Kd.C_below HR1.out (by repeat (first | (with_reducible first | exact HB.out | apply ba1 | apply bd_ | apply bd1 | refine bset ?_ GE108.out | refine bset ?_ GE110.out | refine bset ?_ GE111.out) | exact HB.out))); (case side2 => exact HC1.out); rintro e w' ⟨rfl, ⟨nd, rfl⟩⟩; refine ⟨_, rfl, ?_⟩; have hnb34 := NB108_111.out; have hnc34 := NB111_108.out; have hcz35_0 : w14.cell? ⟨gb108, 0, none⟩ = some (.int .u64 a0_0) := (bc_ BK108.out 0).trans rfl; have hcz35_1 : w14.cell? ⟨gb108, 1, none⟩ = some (.int .i64 a0_1) := (bc_ BK108.out 1).trans rfl; have hcz35_2 : w14.cell? ⟨gb108, 2, none⟩ = some (.int .i64 a0_2) := (bc_ BK108.out 2).trans rfl; have hfz35_0 := bf_ BK108.out 0; have hfz35_1 := bf_ BK108.out 1; have hfz35_2 := bf_ BK108.out 2))
            go_meet
            case rel => exact ⟨_, (true), (by first | rfl | (simp; done) | (simp [*]; done)), H', ⟨by have := HK1.out; first | omega | exact Nat.le_refl _⟩, ⟨by (repeat (first | exact HO_7.out | apply MSet.set | apply MSet.alloc | apply MSet.drewN | apply MSet.drew))⟩, ⟨by (with_reducible repeat (first | refine bkn ?_ _ | refine bkd ?_ | refine bka ?_ _)); refine bkf ?_ NB108_111.out _; (with_reducible repeat (first | refine bkn ?_ _ | refine bkd ?_ | refine bka ?_ _)); refine bkf ?_ NB108_111.out _; (with_reducible repeat (first | refine bkn ?_ _ | refine bkd ?_ | refine bka ?_ _)); refine bkf ?_ NB108_111.out _; (with_reducible repeat (first | refine bkn ?_ _ | refine bkd ?_ | refine bka ?_ _)); exact BK108.out⟩, ⟨by (with_reducible repeat (first | refine bkn ?_ _ | refine bkd ?_ | refine bka ?_ _)); refine bkf ?_ NB110_111.out _; (with_reducible repeat (first | refine bkn ?_ _ | refine bkd ?_ | refine bka ?_ _)); refine bkf ?_ NB110_111.out _; (with_reducible repeat (first | refine bkn ?_ _ | refine bkd ?_ | refine bka ?_ _)); refine bkf ?_ NB110_111.out _; (with_reducible repeat (first | refine bkn ?_ _ | refine bkd ?_ | refine bka ?_ _)); exact BK110.out⟩, ⟨by (with_reducible repeat (first | refine bkn ?_ _ | refine bkd ?_ | refine bka ?_ _)); refine bkp (cs := #[.int .i64 ((r72 l2 x17_1).f0), .int .i64 ((r72 l2 x17_1).f1), .int .i64 0]) ?_ 2 _ rfl; (with_reducible repeat (first | refine bkn ?_ _ | refine bkd ?_ | refine bka ?_ _)); refine bkp (cs := #[.int .i64 ((r72 l2 x17_1).f0), .int .i64 0, .int .i64 0]) ?_ 1 _ rfl; (with_reducible repeat (first | refine bkn ?_ _ | refine bkd ?_ | refine bka ?_ _)); refine bkp (cs := #[.int .i64 0, .int .i64 0, .int .i64 0]) ?_ 0 _ rfl; (with_reducible repeat (first | refine bkn ?_ _ | refine bkd ?_ | refine bka ?_ _)); exact BK111.out⟩, ⟨by repeat (first | (with_reducible first | exact HB.out | apply ba1 | apply bd_ | apply bd1 | refine bset ?_ GE108.out | refine bset ?_ GE110.out | refine bset ?_ GE111.out) | exact HB.out)⟩⟩
           ·rw [if_neg c30] at H
            have c30b0 : (((r72 l2 x17_1).f2) == ((r72 l2 x17_1).f1)) = false := beq_eq_false_iff_ne.mpr c30
            have c30b1 : (((r72 l2 x17_1).f2) != ((r72 l2 x17_1).f1)) = true := bne_iff_ne.mpr c30
            have H' := Qz.mk H
            clear H
            have hnb36 := NB110_108.out
            have hnc36 := NB108_110.out
            have hnb37 := NB110_111.out
            have hnc37 := NB111_110.out
            have hcz38_0 : w14.cell? ⟨gb110, 0, none⟩ = some (.int .i64 ((r72 l2 x17_1).f0)) := (bc_ BK110.out 0).trans rfl
            have hcz38_1 : w14.cell? ⟨gb110, 1, none⟩ = some (.int .i64 ((r72 l2 x17_1).f1)) := (bc_ BK110.out 1).trans rfl
            have hcz38_2 : w14.cell? ⟨gb110, 2, none⟩ = some (.int .i64 ((r72 l2 x17_1).f2)) := (bc_ BK110.out 2).trans rfl
            have hcz38_3 : w14.cell? ⟨gb110, 3, none⟩ = some (.bool ((r72 l2 x17_1).f3)) := (bc_ BK110.out 3).trans rfl
            have hcz38_4 : w14.cell? ⟨gb110, 4, none⟩ = some (.slice A109_4 ((r72 l2 x17_1).f4).length c109_4) := (bc_ BK110.out 4).trans rfl
            have hfz38_0 := bf_ BK110.out 0
            have hfz38_1 := bf_ BK110.out 1
            have hfz38_2 := bf_ BK110.out 2
            have hfz38_3 := bf_ BK110.out 3
            have hfz38_4 := bf_ BK110.out 4
            go_wp2_with (first | ((with_reducible refine gcl (f := 58) rfl ?_); refine goesL_ (some 32) rfl rfl Try.func58 (by kernel_rfl) rfl #[.slice A1 l1.length c1, .int .i64 ((r72 l2 x17_1).f1)] rfl (by (try simp only [List.map_toArray, List.map_cons, List.map_nil]); first | done | rfl | (simp only [List.length_drop, List.length_take]; rfl)) ?_; (with_reducible refine (snii.calls k1 _ _ l1 ((r72 l2 x17_1).f1) true _ ?side1 ?side2 A18.out).mono ?_); (case side1 => exact Kd.C_below HR1.out (by repeat (first | (with_reducible first | exact HB.out | apply ba1 | apply bd_ | apply bd1 | refine bset ?_ GE108.out | refine bset ?_ GE110.out | refine bset ?_ GE111.out) | exact HB.out))); (case side2 => exact HC1.out); rintro e w' ⟨rfl, ⟨nd, rfl⟩⟩; refine ⟨_, rfl, ?_⟩; have hnb39 := NB108_111.out; have hnc39 := NB111_108.out; have hcz40_0 : w14.cell? ⟨gb108, 0, none⟩ = some (.int .u64 a0_0) := (bc_ BK108.out 0).trans rfl; have hcz40_1 : w14.cell? ⟨gb108, 1, none⟩ = some (.int .i64 a0_1) := (bc_ BK108.out 1).trans rfl; have hcz40_2 : w14.cell? ⟨gb108, 2, none⟩ = some (.int .i64 a0_2) := (bc_ BK108.out 2).trans rfl; have hfz40_0 := bf_ BK108.out 0; have hfz40_1 := bf_ BK108.out 1; have hfz40_2 := bf_ BK108.out 2))
            go_meet
            case rel => exact ⟨_, (decide (((r72 l2 x17_1).f0) < 1)), (by first | rfl | (simp; done) | (simp [*]; done)), H', ⟨by have := HK1.out; first | omega | exact Nat.le_refl _⟩, ⟨by (repeat (first | exact HO_7.out | apply MSet.set | apply MSet.alloc | apply MSet.drewN | apply MSet.drew))⟩, ⟨by (with_reducible repeat (first | refine bkn ?_ _ | refine bkd ?_ | refine bka ?_ _)); refine bkf ?_ NB108_111.out _; (with_reducible repeat (first | refine bkn ?_ _ | refine bkd ?_ | refine bka ?_ _)); refine bkf ?_ NB108_111.out _; (with_reducible repeat (first | refine bkn ?_ _ | refine bkd ?_ | refine bka ?_ _)); refine bkf ?_ NB108_111.out _; (with_reducible repeat (first | refine bkn ?_ _ | refine bkd ?_ | refine bka ?_ _)); exact BK108.out⟩, ⟨by (with_reducible repeat (first | refine bkn ?_ _ | refine bkd ?_ | refine bka ?_ _)); refine bkf ?_ NB110_111.out _; (with_reducible repeat (first | refine bkn ?_ _ | refine bkd ?_ | refine bka ?_ _)); refine bkf ?_ NB110_111.out _; (with_reducible repeat (first | refine bkn ?_ _ | refine bkd ?_ | refine bka ?_ _)); refine bkf ?_ NB110_111.out _; (with_reducible repeat (first | refine bkn ?_ _ | refine bkd ?_ | refine bka ?_ _)); exact BK110.out⟩, ⟨by (with_reducible repeat (first | refine bkn ?_ _ | refine bkd ?_ | refine bka ?_ _)); refine bkp (cs := #[.int .i64 ((r72 l2 x17_1).f0), .int .i64 ((r72 l2 x17_1).f1), .int .i64 0]) ?_ 2 _ rfl; (with_reducible repeat (first | refine bkn ?_ _ | refine bkd ?_ | refine bka ?_ _)); refine bkp (cs := #[.int .i64 ((r72 l2 x17_1).f0), .int .i64 0, .int .i64 0]) ?_ 1 _ rfl; (with_reducible repeat (first | refine bkn ?_ _ | refine bkd ?_ | refine bka ?_ _)); refine bkp (cs := #[.int .i64 0, .int .i64 0, .int .i64 0]) ?_ 0 _ rfl; (with_reducible repeat (first | refine bkn ?_ _ | refine bkd ?_ | refine bka ?_ _)); exact BK111.out⟩, ⟨by repeat (first | (with_reducible first | exact HB.out | apply ba1 | apply bd_ | apply bd1 | refine bset ?_ GE108.out | refine bset ?_ GE110.out | refine bset ?_ GE111.out) | exact HB.out)⟩⟩
        ·replace c19 := Bool.eq_false_iff.mpr c19
         subst c19
         have H1 : (net_acts.j1 k1 l1 x7_1 l2 (l2.length : Int) x17_1 true a0_0 a0_1 a0_2 ((r72 l2 x17_1).f0) ((r72 l2 x17_1).f1) ((r72 l2 x17_1).f2) ((r72 l2 x17_1).f3) ((r72 l2 x17_1).f4) ((r72 l2 x17_1).f0) ((r72 l2 x17_1).f1) ((r72 l2 x17_1).f2)) = some r := by rw [if_neg (show ¬ (false = true) by decide)] at H; exact H
         clear H
         have H := H1
         clear H1
         have H' := Qz.mk H
         clear H
         have hnb41 := NB110_108.out
         have hnc41 := NB108_110.out
         have hnb42 := NB110_111.out
         have hnc42 := NB111_110.out
         have hcz43_0 : w14.cell? ⟨gb110, 0, none⟩ = some (.int .i64 ((r72 l2 x17_1).f0)) := (bc_ BK110.out 0).trans rfl
         have hcz43_1 : w14.cell? ⟨gb110, 1, none⟩ = some (.int .i64 ((r72 l2 x17_1).f1)) := (bc_ BK110.out 1).trans rfl
         have hcz43_2 : w14.cell? ⟨gb110, 2, none⟩ = some (.int .i64 ((r72 l2 x17_1).f2)) := (bc_ BK110.out 2).trans rfl
         have hcz43_3 : w14.cell? ⟨gb110, 3, none⟩ = some (.bool ((r72 l2 x17_1).f3)) := (bc_ BK110.out 3).trans rfl
         have hcz43_4 : w14.cell? ⟨gb110, 4, none⟩ = some (.slice A109_4 ((r72 l2 x17_1).f4).length c109_4) := (bc_ BK110.out 4).trans rfl
         have hfz43_0 := bf_ BK110.out 0
         have hfz43_1 := bf_ BK110.out 1
         have hfz43_2 := bf_ BK110.out 2
         have hfz43_3 := bf_ BK110.out 3
         have hfz43_4 := bf_ BK110.out 4
         go_wp2_with (first | ((with_reducible refine gcl (f := 58) rfl ?_); refine goesL_ (some 32) rfl rfl Try.func58 (by kernel_rfl) rfl #[.slice A1 l1.length c1, .int .i64 ((r72 l2 x17_1).f1)] rfl (by (try simp only [List.map_toArray, List.map_cons, List.map_nil]); first | done | rfl | (simp only [List.length_drop, List.length_take]; rfl)) ?_; (with_reducible refine (snii.calls k1 _ _ l1 ((r72 l2 x17_1).f1) false _ ?side1 ?side2 A18.out).mono ?_); (case side1 => exact Kd.C_below HR1.out (by repeat (first | (with_reducible first | exact HB.out | apply ba1 | apply bd_ | apply bd1 | refine bset ?_ GE108.out | refine bset ?_ GE110.out | refine bset ?_ GE111.out) | exact HB.out))); (case side2 => exact HC1.out); rintro e w' ⟨rfl, ⟨nd, rfl⟩⟩; refine ⟨_, rfl, ?_⟩))
         go_meet
         case rel => exact ⟨_, (true), (by first | rfl | (simp; done) | (simp [*]; done)), H', ⟨by have := HK1.out; first | omega | exact Nat.le_refl _⟩, ⟨by (repeat (first | exact HO_7.out | apply MSet.set | apply MSet.alloc | apply MSet.drewN | apply MSet.drew))⟩, ⟨by (with_reducible repeat (first | refine bkn ?_ _ | refine bkd ?_ | refine bka ?_ _)); refine bkf ?_ NB108_111.out _; (with_reducible repeat (first | refine bkn ?_ _ | refine bkd ?_ | refine bka ?_ _)); refine bkf ?_ NB108_111.out _; (with_reducible repeat (first | refine bkn ?_ _ | refine bkd ?_ | refine bka ?_ _)); refine bkf ?_ NB108_111.out _; (with_reducible repeat (first | refine bkn ?_ _ | refine bkd ?_ | refine bka ?_ _)); exact BK108.out⟩, ⟨by (with_reducible repeat (first | refine bkn ?_ _ | refine bkd ?_ | refine bka ?_ _)); refine bkf ?_ NB110_111.out _; (with_reducible repeat (first | refine bkn ?_ _ | refine bkd ?_ | refine bka ?_ _)); refine bkf ?_ NB110_111.out _; (with_reducible repeat (first | refine bkn ?_ _ | refine bkd ?_ | refine bka ?_ _)); refine bkf ?_ NB110_111.out _; (with_reducible repeat (first | refine bkn ?_ _ | refine bkd ?_ | refine bka ?_ _)); exact BK110.out⟩, ⟨by (with_reducible repeat (first | refine bkn ?_ _ | refine bkd ?_ | refine bka ?_ _)); refine bkp (cs := #[.int .i64 ((r72 l2 x17_1).f0), .int .i64 ((r72 l2 x17_1).f1), .int .i64 0]) ?_ 2 _ rfl; (with_reducible repeat (first | refine bkn ?_ _ | refine bkd ?_ | refine bka ?_ _)); refine bkp (cs := #[.int .i64 ((r72 l2 x17_1).f0), .int .i64 0, .int .i64 0]) ?_ 1 _ rfl; (with_reducible repeat (first | refine bkn ?_ _ | refine bkd ?_ | refine bka ?_ _)); refine bkp (cs := #[.int .i64 0, .int .i64 0, .int .i64 0]) ?_ 0 _ rfl; (with_reducible repeat (first | refine bkn ?_ _ | refine bkd ?_ | refine bka ?_ _)); exact BK111.out⟩, ⟨by repeat (first | (with_reducible first | exact HB.out | apply ba1 | apply bd_ | apply bd1 | refine bset ?_ GE108.out | refine bset ?_ GE110.out | refine bset ?_ GE111.out) | exact HB.out)⟩⟩
       case rest =>
        clear HC10
        try clear c1
        try clear p1
        try clear q1
        try clear hx1
        try clear c2
        try clear p2
        try clear c3
        try clear c4
        try clear c4b0
        try clear c4b1
        try clear c5
        try clear c7
        try clear c7b0
        try clear c8
        try clear c8b0
        try clear c9
        try clear c9b0
        try clear c10
        try clear p10
        try clear q10
        try clear hx10
        try clear c12
        try clear c15
        try clear c16
        try clear c19
        try clear c20
        try clear c20b0
        try clear c21
        try clear c22
        try clear c24
        try clear c24b0
        try clear c25
        try clear c26
        try clear c28
        try clear c30
        try clear c30b0
        try clear c30b1
        try clear c31
        try clear c32
        try clear c34
        try clear c36
        try clear c37
        try clear c39
        try clear c41
        try clear c42
        try clear hcz13_0
        try clear hcz13_1
        try clear hcz13_2
        try clear hcz13_3
        try clear hcz13_4
        try clear hcz17_0
        try clear hcz17_1
        try clear hcz17_2
        try clear hcz23_0
        try clear hcz23_1
        try clear hcz23_2
        try clear hcz23_3
        try clear hcz23_4
        try clear hcz27_0
        try clear hcz27_1
        try clear hcz27_2
        try clear hcz27_3
        try clear hcz27_4
        try clear hcz29_0
        try clear hcz29_1
        try clear hcz29_2
        try clear hcz33_0
        try clear hcz33_1
        try clear hcz33_2
        try clear hcz33_3
        try clear hcz33_4
        try clear hcz35_0
        try clear hcz35_1
        try clear hcz35_2
        try clear hcz38_0
        try clear hcz38_1
        try clear hcz38_2
        try clear hcz38_3
        try clear hcz38_4
        try clear hcz40_0
        try clear hcz40_1
        try clear hcz40_2
        try clear hcz43_0
        try clear hcz43_1
        try clear hcz43_2
        try clear hcz43_3
        try clear hcz43_4
        try clear hfz13_0
        try clear hfz13_1
        try clear hfz13_2
        try clear hfz13_3
        try clear hfz13_4
        try clear hfz17_0
        try clear hfz17_1
        try clear hfz17_2
        try clear hfz23_0
        try clear hfz23_1
        try clear hfz23_2
        try clear hfz23_3
        try clear hfz23_4
        try clear hfz27_0
        try clear hfz27_1
        try clear hfz27_2
        try clear hfz27_3
        try clear hfz27_4
        try clear hfz29_0
        try clear hfz29_1
        try clear hfz29_2
        try clear hfz33_0
        try clear hfz33_1
        try clear hfz33_2
        try clear hfz33_3
        try clear hfz33_4
        try clear hfz35_0
        try clear hfz35_1
        try clear hfz35_2
        try clear hfz38_0
        try clear hfz38_1
        try clear hfz38_2
        try clear hfz38_3
        try clear hfz38_4
        try clear hfz40_0
        try clear hfz40_1
        try clear hfz40_2
        try clear hfz43_0
        try clear hfz43_1
        try clear hfz43_2
        try clear hfz43_3
        try clear hfz43_4
        try clear hx109_0
        try clear hx109_1
        try clear hx109_2
        try clear hx109_3
        try clear hx109_4
        try clear p109
        try clear p2
        try clear q109
        obtain ⟨kq, x28_9, rfl, HA, HJ9, HO_7, BK108, BK110, BK111, HB⟩ := hcut
        cases kq with
        | zero => exact absurd HA.out (by simp [net_acts.j1])
        | succ kj9 =>
         have H := HA.out
         clear HA
         simp only [net_acts.j1] at H
         by_cases c44 : x28_9 = true
         ·subst c44
          have H1 : (some 2) = some r := by rw [if_pos rfl] at H; exact H
          clear H
          have H := H1
          clear H1
          obtain rfl := Option.some.inj H
          go_wp2
          go_ret
          exact ⟨by first | rfl | (simp [ewn, ews] <;> rfl) | (simp [*, ewn, ews] <;> rfl), by repeat (first | (with_reducible first | exact HB.out | apply ba1 | apply bd_ | apply bd1 | refine bset ?_ GE108.out | refine bset ?_ GE110.out | refine bset ?_ GE111.out) | exact HB.out)⟩
         ·replace c44 := Bool.eq_false_iff.mpr c44
          subst c44
          have H1 : (if (((r72 l2 x17_1).f4).length : Int) > 65536 then (some 3) else ((net_has.f x7_1 ((r72 l2 x17_1).f0) ((r72 l2 x17_1).f1) ((r72 l2 x17_1).f2)).bind fun t113 => (if t113 = true then (some 6) else (if x7_1.length < 5864062014805 then (net_acts.l0 kj9 l1 (x7_1 ++ [(⟨((r72 l2 x17_1).f0), ((r72 l2 x17_1).f1), ((r72 l2 x17_1).f2)⟩ : S90)]) l2 (l2.length : Int) (wrap64 (x17_1 + 1)) a0_0 a0_1 a0_2) else (none))))) = some r := by rw [if_neg (show ¬ (false = true) by decide)] at H; exact H
          clear H
          have H := H1
          clear H1
          by_cases c45 : (((r72 l2 x17_1).f4).length : Int) > 65536
          ·rw [if_pos c45] at H
           have c45b0 : decide (65536 < (((r72 l2 x17_1).f4).length : Int)) = true := decide_eq_true c45
           have c45b1 : decide (65536 < ((r72 l2 x17_1).f4).length) = true := decide_eq_true (by omega)
           clear c45
           obtain rfl := Option.some.inj H
           have hnb46 := NB110_108.out
           have hnc46 := NB108_110.out
           have hnb47 := NB110_111.out
           have hnc47 := NB111_110.out
           have hcz48_0 : wc.cell? ⟨gb110, 0, none⟩ = some (.int .i64 ((r72 l2 x17_1).f0)) := (bc_ BK110.out 0).trans rfl
           have hcz48_1 : wc.cell? ⟨gb110, 1, none⟩ = some (.int .i64 ((r72 l2 x17_1).f1)) := (bc_ BK110.out 1).trans rfl
           have hcz48_2 : wc.cell? ⟨gb110, 2, none⟩ = some (.int .i64 ((r72 l2 x17_1).f2)) := (bc_ BK110.out 2).trans rfl
           have hcz48_3 : wc.cell? ⟨gb110, 3, none⟩ = some (.bool ((r72 l2 x17_1).f3)) := (bc_ BK110.out 3).trans rfl
           have hcz48_4 : wc.cell? ⟨gb110, 4, none⟩ = some (.slice A109_4 ((r72 l2 x17_1).f4).length c109_4) := (bc_ BK110.out 4).trans rfl
           have hfz48_0 := bf_ BK110.out 0
           have hfz48_1 := bf_ BK110.out 1
           have hfz48_2 := bf_ BK110.out 2
           have hfz48_3 := bf_ BK110.out 3
           have hfz48_4 := bf_ BK110.out 4
           go_wp2
           go_ret
           exact ⟨by first | rfl | (simp [ewn, ews] <;> rfl) | (simp [*, ewn, ews] <;> rfl), by repeat (first | (with_reducible first | exact HB.out | apply ba1 | apply bd_ | apply bd1 | refine bset ?_ GE108.out | refine bset ?_ GE110.out | refine bset ?_ GE111.out) | exact HB.out)⟩
          ·rw [if_neg c45] at H
           have c45b0 : decide (65536 < (((r72 l2 x17_1).f4).length : Int)) = false := decide_eq_false c45
           have c45b1 : decide (65536 < ((r72 l2 x17_1).f4).length) = false := decide_eq_false (by omega)
           clear c45
           replace H := Option.bind_eq_some_iff.mp H
           obtain ⟨t113, A490, H⟩ := H
           replace H : (if t113 = true then (some 6) else (if x7_1.length < 5864062014805 then (net_acts.l0 kj9 l1 (x7_1 ++ [(⟨((r72 l2 x17_1).f0), ((r72 l2 x17_1).f1), ((r72 l2 x17_1).f2)⟩ : S90)]) l2 (l2.length : Int) (wrap64 (x17_1 + 1)) a0_0 a0_1 a0_2) else (none))) = some r := H
           have A49 := Qz.mk A490
           clear A490
           by_cases c50 : t113 = true
           ·subst c50
            have H1 : (some 6) = some r := by rw [if_pos rfl] at H; exact H
            clear H
            have H := H1
            clear H1
            obtain rfl := Option.some.inj H
            have hnb51 := NB110_108.out
            have hnc51 := NB108_110.out
            have hnb52 := NB110_111.out
            have hnc52 := NB111_110.out
            have hcz53_0 : wc.cell? ⟨gb110, 0, none⟩ = some (.int .i64 ((r72 l2 x17_1).f0)) := (bc_ BK110.out 0).trans rfl
            have hcz53_1 : wc.cell? ⟨gb110, 1, none⟩ = some (.int .i64 ((r72 l2 x17_1).f1)) := (bc_ BK110.out 1).trans rfl
            have hcz53_2 : wc.cell? ⟨gb110, 2, none⟩ = some (.int .i64 ((r72 l2 x17_1).f2)) := (bc_ BK110.out 2).trans rfl
            have hcz53_3 : wc.cell? ⟨gb110, 3, none⟩ = some (.bool ((r72 l2 x17_1).f3)) := (bc_ BK110.out 3).trans rfl
            have hcz53_4 : wc.cell? ⟨gb110, 4, none⟩ = some (.slice A109_4 ((r72 l2 x17_1).f4).length c109_4) := (bc_ BK110.out 4).trans rfl
            have hfz53_0 := bf_ BK110.out 0
            have hfz53_1 := bf_ BK110.out 1
            have hfz53_2 := bf_ BK110.out 2
            have hfz53_3 := bf_ BK110.out 3
            have hfz53_4 := bf_ BK110.out 4
            have hnb54 := NB111_108.out
            have hnc54 := NB108_111.out
            have hcz55_0 : wc.cell? ⟨gb111, 0, none⟩ = some (.int .i64 ((r72 l2 x17_1).f0)) := (bc_ BK111.out 0).trans rfl
            have hcz55_1 : wc.cell? ⟨gb111, 1, none⟩ = some (.int .i64 ((r72 l2 x17_1).f1)) := (bc_ BK111.out 1).trans rfl
            have hcz55_2 : wc.cell? ⟨gb111, 2, none⟩ = some (.int .i64 ((r72 l2 x17_1).f2)) := (bc_ BK111.out 2).trans rfl
            have hfz55_0 := bf_ BK111.out 0
            have hfz55_1 := bf_ BK111.out 1
            have hfz55_2 := bf_ BK111.out 2
            have hl := MSet.look HO_7.out A49.out
            go_wp2
            clear hl
            go_ret
            exact ⟨by first | rfl | (simp [ewn, ews] <;> rfl) | (simp [*, ewn, ews] <;> rfl), by repeat (first | (with_reducible first | exact HB.out | apply ba1 | apply bd_ | apply bd1 | refine bset ?_ GE108.out | refine bset ?_ GE110.out | refine bset ?_ GE111.out) | exact HB.out)⟩
           ·replace c50 := Bool.eq_false_iff.mpr c50
            subst c50
            have H1 : (if x7_1.length < 5864062014805 then (net_acts.l0 kj9 l1 (x7_1 ++ [(⟨((r72 l2 x17_1).f0), ((r72 l2 x17_1).f1), ((r72 l2 x17_1).f2)⟩ : S90)]) l2 (l2.length : Int) (wrap64 (x17_1 + 1)) a0_0 a0_1 a0_2) else (none)) = some r := by rw [if_neg (show ¬ (false = true) by decide)] at H; exact H
            clear H
            have H := H1
            clear H1
            by_cases c58 : x7_1.length < 5864062014805
            ·rw [if_pos c58] at H
             have LMc58 := Qz.mk c58
             clear c58
             obtain ⟨y114, hy114⟩ : ∃ y_ : List (S90), y_ = (x7_1 ++ [(⟨((r72 l2 x17_1).f0), ((r72 l2 x17_1).f1), ((r72 l2 x17_1).f2)⟩ : S90)]) := ⟨_, rfl⟩
             replace H : (net_acts.l0 kj9 l1 y114 l2 (l2.length : Int) (wrap64 (x17_1 + 1)) a0_0 a0_1 a0_2) = some r := by first | (rw [hy114]; with_reducible exact H) | (have H2_ := (Option.bind_some _ _).symm.trans H; rw [hy114]; with_reducible exact H2_) | (have H2_ := (Option.bind_some _ _).symm.trans H; with_reducible exact H2_) | with_reducible exact H | (rw [hy114]; exact H) | exact H
             have Ny114 := Qz.mk hy114
             clear hy114
             have H' := Qz.mk H
             clear H
             have hnb59 := NB110_108.out
             have hnc59 := NB108_110.out
             have hnb60 := NB110_111.out
             have hnc60 := NB111_110.out
             have hcz61_0 : wc.cell? ⟨gb110, 0, none⟩ = some (.int .i64 ((r72 l2 x17_1).f0)) := (bc_ BK110.out 0).trans rfl
             have hcz61_1 : wc.cell? ⟨gb110, 1, none⟩ = some (.int .i64 ((r72 l2 x17_1).f1)) := (bc_ BK110.out 1).trans rfl
             have hcz61_2 : wc.cell? ⟨gb110, 2, none⟩ = some (.int .i64 ((r72 l2 x17_1).f2)) := (bc_ BK110.out 2).trans rfl
             have hcz61_3 : wc.cell? ⟨gb110, 3, none⟩ = some (.bool ((r72 l2 x17_1).f3)) := (bc_ BK110.out 3).trans rfl
             have hcz61_4 : wc.cell? ⟨gb110, 4, none⟩ = some (.slice A109_4 ((r72 l2 x17_1).f4).length c109_4) := (bc_ BK110.out 4).trans rfl
             have hfz61_0 := bf_ BK110.out 0
             have hfz61_1 := bf_ BK110.out 1
             have hfz61_2 := bf_ BK110.out 2
             have hfz61_3 := bf_ BK110.out 3
             have hfz61_4 := bf_ BK110.out 4
             have hnb62 := NB111_108.out
             have hnc62 := NB108_111.out
             have hcz63_0 : wc.cell? ⟨gb111, 0, none⟩ = some (.int .i64 ((r72 l2 x17_1).f0)) := (bc_ BK111.out 0).trans rfl
             have hcz63_1 : wc.cell? ⟨gb111, 1, none⟩ = some (.int .i64 ((r72 l2 x17_1).f1)) := (bc_ BK111.out 1).trans rfl
             have hcz63_2 : wc.cell? ⟨gb111, 2, none⟩ = some (.int .i64 ((r72 l2 x17_1).f2)) := (bc_ BK111.out 2).trans rfl
             have hfz63_0 := bf_ BK111.out 0
             have hfz63_1 := bf_ BK111.out 1
             have hfz63_2 := bf_ BK111.out 2
             have hl := MSet.look HO_7.out A49.out
             obtain ⟨w65, hp, ho, hsz, hne, hbb, ⟨es_, cl_, hmap_⟩, hbel⟩ := MSet.put HO_7.out A49.out
             rw [← Ny114.out] at ho
             go_wp2
             have n108_ := Qz.mk ((hne gb108 (mset_ne BK108.out hmap_)).trans BK108.out)
             have n110_ := Qz.mk ((hne gb110 (mset_ne BK110.out hmap_)).trans BK110.out)
             have n111_ := Qz.mk ((hne gb111 (mset_ne BK111.out hmap_)).trans BK111.out)
             have nB_ := Qz.mk (HB.out.trans (hbel _ hbb))
             have HO116 := Qz.mk ho
             clear hl hp ho hsz hne hbb hmap_ hbel BK108 BK110 BK111 HB HO_7
             have BK108 := n108_
             have BK110 := n110_
             have BK111 := n111_
             have HB := nB_
             clear n108_ n110_ n111_ nB_
             go_roundg kj9
             case measure => have := HK1.out; have := HJ9.out; omega
             case rel => exact ⟨(y114), (wrap64 (x17_1 + 1)), (by first | rfl | (simp; done) | (simp [*]; done)), H', ⟨by have := HK1.out; have := HJ9.out; omega⟩, ⟨by (repeat (first | exact HO116.out | apply MSet.set | apply MSet.alloc | apply MSet.drewN | apply MSet.drew))⟩, ⟨by (with_reducible repeat (first | refine bkn ?_ _ | refine bkd ?_ | refine bka ?_ _)); exact BK108.out⟩, ⟨by repeat (first | (with_reducible first | exact HB.out | apply ba1 | apply bd_ | apply bd1 | refine bset ?_ GE108.out | refine bset ?_ GE110.out | refine bset ?_ GE111.out) | exact HB.out)⟩⟩
            ·rw [if_neg c58] at H
             exact absurd H (by simp)
      ·rw [if_neg c9] at H
       exact absurd H (by simp)
     ·rw [if_neg c8] at H
      exact absurd H (by simp)
    ·rw [if_neg c7] at H
     have c7b0 : decide (x17_1 < (l2.length : Int)) = false := decide_eq_false c7
     clear c7
     obtain rfl := Option.some.inj H
     go_wp2
     go_ret
     exact ⟨by first | rfl | (simp [ewn, ews] <;> rfl) | (simp [*, ewn, ews] <;> rfl), by repeat (first | (with_reducible first | exact HB.out | apply ba1 | apply bd_ | apply bd1 | refine bset ?_ GE108.out) | exact HB.out)⟩


end Go.Proofs.Ytkaikgbcnmfppaa.Nb
