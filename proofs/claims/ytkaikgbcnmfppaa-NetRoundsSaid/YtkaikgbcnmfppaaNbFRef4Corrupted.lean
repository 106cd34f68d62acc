/- A function of the program, with its walk: j4C. (Made by this session's own program out of what the kit's print wrote; no text of the print.) -/
import Derived.Test.YtkaikgbcnmfppaaNb0
import Derived.Test.YtkaikgbcnmfppaaNbFRef4Rising
import Derived.Test.YtkaikgbcnmfppaaNbFRef4Setup
namespace Go.Proofs.Ytkaikgbcnmfppaa.Nb
open Go.RowKit Go.Proofs.YtkaikgbcnmfppaaW.PrintWords Go.Proofs.YtkaikgbcnmfppaaW.PrintLast Go.Proofs.YtkaikgbcnmfppaaW.PrintMore
attribute [local go_sem] max2_int min2_int max_two min_two max_three min_three max_four min_four   -- for this text's walks alone
set_option linter.unusedVariables false
set_option linter.unusedSimpArgs false

noncomputable section
/-! ### j4C: function 42 -/
def j4C.f (k : Nat) (a0_0 : Int) (a0_1 : Int) (a0_2 : Int) (l1 : List Int) : Option (Int) := (j4S.f k a0_0 a0_1 a0_2).bind fun t126 => (if t126 = 0 then (if (l1.length : Int) > a0_2 then (some 2) else ((j4R.f k a0_1 l1).bind fun t127 => (if t127 = true then (some 0) else (some 2)))) else (some t126))
set_option maxHeartbeats 8000000 in
set_option maxRecDepth 100000 in
theorem j4C.calls (k : Nat) (a0_0 : Int) (a0_1 : Int) (a0_2 : Int) (A1 : Option Addr) (c1 : Nat) (l1 : List Int) (r : Int) (w : World) (hr1 : Kd.C (Kd.int .i64) w A1 l1.length l1) (hc1 : l1.length ≤ c1) (h : j4C.f k a0_0 a0_1 a0_2 l1 = some r) :
  Calls Try.prog 42 #[.agg #[.int .u64 a0_0, .int .i64 a0_1, .int .i64 a0_2], .slice A1 l1.length c1] w fun e w' => e = .returned (.int .i64 r) ∧ Below w.heap.size w w' := by
 have hu24 := Try.underlying24
 have HR1 := Qz.mk hr1
 have HC1 := Qz.mk hc1
 clear hr1 hc1
 have HB := Qz.mk (Below.refl w.heap.size w)
 have H : ((j4S.f k a0_0 a0_1 a0_2).bind fun t126 => (if t126 = 0 then (if (l1.length : Int) > a0_2 then (some 2) else ((j4R.f k a0_1 l1).bind fun t127 => (if t127 = true then (some 0) else (some 2)))) else (some t126))) = some r := h
 clear h
 replace H := Option.bind_eq_some_iff.mp H
 obtain ⟨t126, A30, H⟩ := H
 replace H : (if t126 = 0 then (if (l1.length : Int) > a0_2 then (some 2) else ((j4R.f k a0_1 l1).bind fun t127 => (if t127 = true then (some 0) else (some 2)))) else (some t126)) = some r := H
 have A3 := Qz.mk A30
 clear A30
 by_cases c4 : t126 = 0
 ·rw [if_pos c4] at H
  have c4b0 : (t126 == 0) = true := beq_iff_eq.mpr c4
  have c4b1 : (t126 != 0) = false := bne_eq_false_iff_eq.mpr c4
  clear c4
  by_cases c5 : (l1.length : Int) > a0_2
  ·rw [if_pos c5] at H
   have c5b0 : decide (a0_2 < (l1.length : Int)) = true := decide_eq_true c5
   clear c5
   obtain rfl := Option.some.inj H
   go_enter Try.func42, Try.ntmps42
   go_wp2_with (first | ((with_reducible refine gdt (N := 2) rfl ?_); refine bxe ?hg (N := 2) ?hd (cs := #[.int .u64 a0_0, .int .i64 a0_1, .int .i64 a0_2]) (t := 24) ?hr ?_; (case hd => rfl); (case hg => rfl); (case hr => first | (go_simp; done) | (go_simp; rfl)); intro gb125 hg w6 hbox hb; have n0_ := Qz.mk (bst (by repeat (first | (with_reducible first | exact HB.out | apply ba1 | apply bd_ | apply bd1) | exact HB.out)) hb); have n1_ := Qz.mk (hbox); have n2_ := Qz.mk ((by rw [hg]; exact (bsz (by repeat (first | (with_reducible first | exact HB.out | apply ba1 | apply bd_ | apply bd1) | exact HB.out))) : w.heap.size ≤ gb125)); have n3_ := Qz.mk ((by rw [hg]; exact (bsz (by repeat (first | (with_reducible first | exact HB.out | apply ba1 | apply bd_ | apply bd1) | exact HB.out))) : w.heap.size ≤ gb125)); clear HB; have HB := n0_; have BK125 := n1_; have GW125 := n2_; have GE125 := n3_; clear n0_ n1_ n2_ n3_; clear hb hbox hg; have hcz7_0 : w6.cell? ⟨gb125, 0, none⟩ = some (.int .u64 a0_0) := (bc_ BK125.out 0).trans rfl; have hcz7_1 : w6.cell? ⟨gb125, 1, none⟩ = some (.int .i64 a0_1) := (bc_ BK125.out 1).trans rfl; have hcz7_2 : w6.cell? ⟨gb125, 2, none⟩ = some (.int .i64 a0_2) := (bc_ BK125.out 2).trans rfl; have hfz7_0 := bf_ BK125.out 0; have hfz7_1 := bf_ BK125.out 1; have hfz7_2 := bf_ BK125.out 2) | ((with_reducible refine gcl (f := 47) rfl ?_); refine goesL_ (some 7) rfl rfl Try.func47 (by kernel_rfl) rfl #[.agg #[.int .u64 a0_0, .int .i64 a0_1, .int .i64 a0_2]] rfl (by (try simp only [List.map_toArray, List.map_cons, List.map_nil]); first | done | rfl | (simp only [List.length_drop, List.length_take]; rfl)) ?_; (with_reducible refine (j4S.calls k a0_0 a0_1 a0_2 t126 _ A3.out).mono ?_); rintro e w8 ⟨rfl, hb⟩; refine ⟨_, rfl, ?_⟩; have n0_ := Qz.mk (bkb (g := gb125) (o := .cells #[.int .u64 a0_0, .int .i64 a0_1, .int .i64 a0_2] 24 (0, 0)) (by (with_reducible repeat (first | refine bkn ?_ _ | refine bkd ?_ | refine bka ?_ _)); exact BK125.out) hb); have n1_ := Qz.mk (bst (by repeat (first | (with_reducible first | exact HB.out | apply ba1 | apply bd_ | apply bd1 | refine bset ?_ GE125.out) | exact HB.out)) hb); clear BK125; clear HB; have BK125 := n0_; have HB := n1_; clear n0_ n1_; (try clear hb); (try clear hb2); (try clear hk); (try clear hi); have hcz9_0 : w8.cell? ⟨gb125, 0, none⟩ = some (.int .u64 a0_0) := (bc_ BK125.out 0).trans rfl; have hcz9_1 : w8.cell? ⟨gb125, 1, none⟩ = some (.int .i64 a0_1) := (bc_ BK125.out 1).trans rfl; have hcz9_2 : w8.cell? ⟨gb125, 2, none⟩ = some (.int .i64 a0_2) := (bc_ BK125.out 2).trans rfl; have hfz9_0 := bf_ BK125.out 0; have hfz9_1 := bf_ BK125.out 1; have hfz9_2 := bf_ BK125.out 2))
   go_ret
   exact ⟨by first | rfl | (simp [ewn, ews] <;> rfl) | (simp [*, ewn, ews] <;> rfl), by repeat (first | (with_reducible first | exact HB.out | apply ba1 | apply bd_ | apply bd1 | refine bset ?_ GE125.out) | exact HB.out)⟩
  ·rw [if_neg c5] at H
   have c5b0 : decide (a0_2 < (l1.length : Int)) = false := decide_eq_false c5
   clear c5
   replace H := Option.bind_eq_some_iff.mp H
   obtain ⟨t127, A100, H⟩ := H
   replace H : (if t127 = true then (some 0) else (some 2)) = some r := H
   have A10 := Qz.mk A100
   clear A100
   by_cases c11 : t127 = true
   ·subst c11
    have H1 : (some 0) = some r := by rw [if_pos rfl] at H; exact H
    clear H
    have H := H1
    clear H1
    obtain rfl := Option.some.inj H
    go_enter Try.func42, Try.ntmps42
    go_wp2_with (first | ((with_reducible refine gdt (N := 2) rfl ?_); refine bxe ?hg (N := 2) ?hd (cs := #[.int .u64 a0_0, .int .i64 a0_1, .int .i64 a0_2]) (t := 24) ?hr ?_; (case hd => rfl); (case hg => rfl); (case hr => first | (go_simp; done) | (go_simp; rfl)); intro gb125 hg w12 hbox hb; have n0_ := Qz.mk (bst (by repeat (first | (with_reducible first | exact HB.out | apply ba1 | apply bd_ | apply bd1) | exact HB.out)) hb); have n1_ := Qz.mk (hbox); have n2_ := Qz.mk ((by rw [hg]; exact (bsz (by repeat (first | (with_reducible first | exact HB.out | apply ba1 | apply bd_ | apply bd1) | exact HB.out))) : w.heap.size ≤ gb125)); have n3_ := Qz.mk ((by rw [hg]; exact (bsz (by repeat (first | (with_reducible first | exact HB.out | apply ba1 | apply bd_ | apply bd1) | exact HB.out))) : w.heap.size ≤ gb125)); clear HB; have HB := n0_; have BK125 := n1_; have GW125 := n2_; have GE125 := n3_; clear n0_ n1_ n2_ n3_; clear hb hbox hg; have hcz13_0 : w12.cell? ⟨gb125, 0, none⟩ = some (.int .u64 a0_0) := (bc_ BK125.out 0).trans rfl; have hcz13_1 : w12.cell? ⟨gb125, 1, none⟩ = some (.int .i64 a0_1) := (bc_ BK125.out 1).trans rfl; have hcz13_2 : w12.cell? ⟨gb125, 2, none⟩ = some (.int .i64 a0_2) := (bc_ BK125.out 2).trans rfl; have hfz13_0 := bf_ BK125.out 0; have hfz13_1 := bf_ BK125.out 1; have hfz13_2 := bf_ BK125.out 2) | ((with_reducible refine gcl (f := 47) rfl ?_); refine goesL_ (some 7) rfl rfl Try.func47 (by kernel_rfl) rfl #[.agg #[.int .u64 a0_0, .int .i64 a0_1, .int .i64 a0_2]] rfl (by (try simp only [List.map_toArray, List.map_cons, List.map_nil]); first | done | rfl | (simp only [List.length_drop, List.length_take]; rfl)) ?_; (with_reducible refine (j4S.calls k a0_0 a0_1 a0_2 t126 _ A3.out).mono ?_); rintro e w14 ⟨rfl, hb⟩; refine ⟨_, rfl, ?_⟩; have n0_ := Qz.mk (bkb (g := gb125) (o := .cells #[.int .u64 a0_0, .int .i64 a0_1, .int .i64 a0_2] 24 (0, 0)) (by (with_reducible repeat (first | refine bkn ?_ _ | refine bkd ?_ | refine bka ?_ _)); exact BK125.out) hb); have n1_ := Qz.mk (bst (by repeat (first | (with_reducible first | exact HB.out | apply ba1 | apply bd_ | apply bd1 | refine bset ?_ GE125.out) | exact HB.out)) hb); clear BK125; clear HB; have BK125 := n0_; have HB := n1_; clear n0_ n1_; (try clear hb); (try clear hb2); (try clear hk); (try clear hi); have hcz15_0 : w14.cell? ⟨gb125, 0, none⟩ = some (.int .u64 a0_0) := (bc_ BK125.out 0).trans rfl; have hcz15_1 : w14.cell? ⟨gb125, 1, none⟩ = some (.int .i64 a0_1) := (bc_ BK125.out 1).trans rfl; have hcz15_2 : w14.cell? ⟨gb125, 2, none⟩ = some (.int .i64 a0_2) := (bc_ BK125.out 2).trans rfl; have hfz15_0 := bf_ BK125.out 0; have hfz15_1 := bf_ BK125.out 1; have hfz15_2 := bf_ BK125.out 2) | (go_at_call 55; (with_reducible refine (j4R.calls k a0_1 _ _ l1 true _ ?side1 ?side2 A10.out).mono ?_); (case side1 => repeat (first | exact (Kd.C_below HR1.out HB.out) | (with_reducible refine Kd.C_alloc ?_ _) | (with_reducible refine Kd.C_drewN ?_ _) | (with_reducible refine Kd.C_drew ?_))); (case side2 => exact HC1.out); rintro e w' ⟨rfl, ⟨nd, rfl⟩⟩))
    go_ret
    exact ⟨by first | rfl | (simp [ewn, ews] <;> rfl) | (simp [*, ewn, ews] <;> rfl), by repeat (first | (with_reducible first | exact HB.out | apply ba1 | apply bd_ | apply bd1 | refine bset ?_ GE125.out) | exact HB.out)⟩
   ·replace c11 := Bool.eq_false_iff.mpr c11
    subst c11
    have H1 : (some 2) = some r := by rw [if_neg (show ¬ (false = true) by decide)] at H; exact H
    clear H
    have H := H1
    clear H1
    obtain rfl := Option.some.inj H
    go_enter Try.func42, Try.ntmps42
    go_wp2_with (first | ((with_reducible refine gdt (N := 2) rfl ?_); refine bxe ?hg (N := 2) ?hd (cs := #[.int .u64 a0_0, .int .i64 a0_1, .int .i64 a0_2]) (t := 24) ?hr ?_; (case hd => rfl); (case hg => rfl); (case hr => first | (go_simp; done) | (go_simp; rfl)); intro gb125 hg w16 hbox hb; have n0_ := Qz.mk (bst (by repeat (first | (with_reducible first | exact HB.out | apply ba1 | apply bd_ | apply bd1) | exact HB.out)) hb); have n1_ := Qz.mk (hbox); have n2_ := Qz.mk ((by rw [hg]; exact (bsz (by repeat (first | (with_reducible first | exact HB.out | apply ba1 | apply bd_ | apply bd1) | exact HB.out))) : w.heap.size ≤ gb125)); have n3_ := Qz.mk ((by rw [hg]; exact (bsz (by repeat (first | (with_reducible first | exact HB.out | apply ba1 | apply bd_ | apply bd1) | exact HB.out))) : w.heap.size ≤ gb125)); clear HB; have HB := n0_; have BK125 := n1_; have GW125 := n2_; have GE125 := n3_; clear n0_ n1_ n2_ n3_; clear hb hbox hg; have hcz17_0 : w16.cell? ⟨gb125, 0, none⟩ = some (.int .u64 a0_0) := (bc_ BK125.out 0).trans rfl; have hcz17_1 : w16.cell? ⟨gb125, 1, none⟩ = some (.int .i64 a0_1) := (bc_ BK125.out 1).trans rfl; have hcz17_2 : w16.cell? ⟨gb125, 2, none⟩ = some (.int .i64 a0_2) := (bc_ BK125.out 2).trans rfl; have hfz17_0 := bf_ BK125.out 0; have hfz17_1 := bf_ BK125.out 1; have hfz17_2 := bf_ BK125.out 2) | ((with_reducible refine gcl (f := 47) rfl ?_); refine goesL_ (some 7) rfl rfl Try.func47 (by kernel_rfl) rfl #[.agg #[.int .u64 a0_0, .int .i64 a0_1, .int .i64 a0_2]] rfl (by (try simp only [List.map_toArray, List.map_cons, List.map_nil]); first | done | rfl | (simp only [List.length_drop, List.length_take]; rfl)) ?_; (with_reducible refine (j4S.calls k a0_0 a0_1 a0_2 t126 _ A3.out).mono ?_); rintro e w18 ⟨rfl, hb⟩; refine ⟨_, rfl, ?_⟩; have n0_ := Qz.mk (bkb (g := gb125) (o := .cells #[.int .u64 a0_0, .int .i64 a0_1, .int .i64 a0_2] 24 (0, 0)) (by (with_reducible repeat (first | refine bkn ?_ _ | refine bkd ?_ | refine bka ?_ _)); exact BK125.out) hb); have n1_ := Qz.mk (bst (by repeat (first | (with_reducible first | exact HB.out | apply ba1 | apply bd_ | apply bd1 | refine bset ?_ GE125.out) | exact HB.out)) hb); clear BK125; clear HB; have BK125 := n0_; have HB := n1_; clear n0_ n1_; (try clear hb); (try clear hb2); (try clear hk); (try clear hi); have hcz19_0 : w18.cell? ⟨gb125, 0, none⟩ = some (.int .u64 a0_0) := (bc_ BK125.out 0).trans rfl; have hcz19_1 : w18.cell? ⟨gb125, 1, none⟩ = some (.int .i64 a0_1) := (bc_ BK125.out 1).trans rfl; have hcz19_2 : w18.cell? ⟨gb125, 2, none⟩ = some (.int .i64 a0_2) := (bc_ BK125.out 2).trans rfl; have hfz19_0 := bf_ BK125.out 0; have hfz19_1 := bf_ BK125.out 1; have hfz19_2 := bf_ BK125.out 2) | (go_at_call 55; (with_reducible refine (j4R.calls k a0_1 _ _ l1 false _ ?side1 ?side2 A10.out).mono ?_); (case side1 => repeat (first | exact (Kd.C_below HR1.out HB.out) | (with_reducible refine Kd.C_alloc ?_ _) | (with_reducible refine Kd.C_drewN ?_ _) | (with_reducible refine Kd.C_drew ?_))); (case side2 => exact HC1.out); rintro e w' ⟨rfl, ⟨nd, rfl⟩⟩))
    go_ret
    exact ⟨by first | rfl | (simp [ewn, ews] <;> rfl) | (simp [*, ewn, ews] <;> rfl), by repeat (first | (with_reducible first | exact HB.out | apply ba1 | apply bd_ | apply bd1 | refine bset ?_ GE125.out) | exact HB.out)⟩
 ·rw [if_neg c4] at H
  have c4b0 : (t126 == 0) = false := beq_eq_false_iff_ne.mpr c4
  have c4b1 : (t126 != 0) = true := bne_iff_ne.mpr c4
  obtain rfl := Option.some.inj H
  go_enter Try.func42, Try.ntmps42
  go_wp2_with (first | ((with_reducible refine gdt (N := 2) rfl ?_); refine bxe ?hg (N := 2) ?hd (cs := #[.int .u64 a0_0, .int .i64 a0_1, .int .i64 a0_2]) (t := 24) ?hr ?_; (case hd => rfl); (case hg => rfl); (case hr => first | (go_simp; done) | (go_simp; rfl)); intro gb125 hg w20 hbox hb; have n0_ := Qz.mk (bst (by repeat (first | (with_reducible first | exact HB.out | apply ba1 | apply bd_ | apply bd1) | exact HB.out)) hb); have n1_ := Qz.mk (hbox); have n2_ := Qz.mk ((by rw [hg]; exact (bsz (by repeat (first | (with_reducible first | exact HB.out | apply ba1 | apply bd_ | apply bd1) | exact HB.out))) : w.heap.size ≤ gb125)); have n3_ := Qz.mk ((by rw [hg]; exact (bsz (by repeat (first | (with_reducible first | exact HB.out | apply ba1 | apply bd_ | apply bd1) | exact HB.out))) : w.heap.size ≤ gb125)); clear HB; have HB := n0_; have BK125 := n1_; have GW125 := n2_; have GE125 := n3_; clear n0_ n1_ n2_ n3_; clear hb hbox hg; have hcz21_0 : w20.cell? ⟨gb125, 0, none⟩ = some (.int .u64 a0_0) := (bc_ BK125.out 0).trans rfl; have hcz21_1 : w20.cell? ⟨gb125, 1, none⟩ = some (.int .i64 a0_1) := (bc_ BK125.out 1).trans rfl; have hcz21_2 : w20.cell? ⟨gb125, 2, none⟩ = some (.int .i64 a0_2) := (bc_ BK125.out 2).trans rfl; have hfz21_0 := bf_ BK125.out 0; have hfz21_1 := bf_ BK125.out 1; have hfz21_2 := bf_ BK125.out 2) | ((with_reducible refine gcl (f := 47) rfl ?_); refine goesL_ (some 7) rfl rfl Try.func47 (by kernel_rfl) rfl #[.agg #[.int .u64 a0_0, .int .i64 a0_1, .int .i64 a0_2]] rfl (by (try simp only [List.map_toArray, List.map_cons, List.map_nil]); first | done | rfl | (simp only [List.length_drop, List.length_take]; rfl)) ?_; (with_reducible refine (j4S.calls k a0_0 a0_1 a0_2 t126 _ A3.out).mono ?_); rintro e w22 ⟨rfl, hb⟩; refine ⟨_, rfl, ?_⟩; have n0_ := Qz.mk (bkb (g := gb125) (o := .cells #[.int .u64 a0_0, .int .i64 a0_1, .int .i64 a0_2] 24 (0, 0)) (by (with_reducible repeat (first | refine bkn ?_ _ | refine bkd ?_ | refine bka ?_ _)); exact BK125.out) hb); have n1_ := Qz.mk (bst (by repeat (first | (with_reducible first | exact HB.out | apply ba1 | apply bd_ | apply bd1 | refine bset ?_ GE125.out) | exact HB.out)) hb); clear BK125; clear HB; have BK125 := n0_; have HB := n1_; clear n0_ n1_; (try clear hb); (try clear hb2); (try clear hk); (try clear hi)))
  go_ret
  exact ⟨by first | rfl | (simp [ewn, ews] <;> rfl) | (simp [*, ewn, ews] <;> rfl), by repeat (first | (with_reducible first | exact HB.out | apply ba1 | apply bd_ | apply bd1 | refine bset ?_ GE125.out) | exact HB.out)⟩

end
end Go.Proofs.Ytkaikgbcnmfppaa.Nb
