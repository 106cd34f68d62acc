/- The law juntolaw03_MatrixRanks as a Lean function, and its walk. (Made by this session's own program out of what the kit's print wrote; no text of the print.) -/
import Derived.Test.YtfdkhkajehopkaaMb0
import Derived.Test.YtfdkhkajehopkaaMbFLawAlive
import Derived.Test.YtfdkhkajehopkaaMbFMatrixNull
import Derived.Test.YtfdkhkajehopkaaMbFMatrixRank
import Derived.Test.YtfdkhkajehopkaaMbG3
import Derived.Test.YtfdkhkajehopkaaMbMul
import Derived.Test.YtfdkhkajehopkaaMbR1
import Derived.Test.YtfdkhkajehopkaaMbRefCheck
namespace Go.Proofs.Ytfdkhkajehopkaa.Mb
open Go.RowKit Go.Proofs.YtfdkhkajehopkaaW.PrintWords Go.Proofs.YtfdkhkajehopkaaW.PrintLast Go.Proofs.YtfdkhkajehopkaaW.PrintMore
attribute [local go_sem] max2_int min2_int max_two min_two max_three min_three max_four min_four   -- for this text's walks alone
set_option linter.unusedVariables false
set_option linter.unusedSimpArgs false

/-! ### juntolaw03_MatrixRanks: function 13 -/
mutual
def juntolaw03_MatrixRanks.j0 : Nat → Int → List (List Int) → List (List Int) → Int → Bool → Option (Bool)
 | 0, _, _, _, _, _ => none
 | k + 1, x0, x1, x2, x7, x50 => if x50 = true then (none) else (if 0 < (x1.length : Int) then (if (x1.length : Int) = ((rd_L1 x1 0).length : Int) then (if 0 < (x2.length : Int) then (if (x2.length : Int) = ((rd_L1 x2 0).length : Int) then (juntolaw03_MatrixRanks.j1 k x0 x1 x2 x7 ((x1.length : Int) != (x2.length : Int))) else (juntolaw03_MatrixRanks.j1 k x0 x1 x2 x7 true)) else (none)) else (juntolaw03_MatrixRanks.j1 k x0 x1 x2 x7 true)) else (none))
def juntolaw03_MatrixRanks.j1 : Nat → Int → List (List Int) → List (List Int) → Int → Bool → Option (Bool)
 | 0, _, _, _, _, _ => none
 | k + 1, x0, x1, x2, x7, x73 => if x73 = true then ((juntolaw03_alive.f k).bind fun t203 => (some t203)) else ((matrix_Det.f k x0 x1).bind fun bt204 => ((matrix_Det.f k x0 x2).bind fun bt206 => ((matrix_Mul.f k x0 x1 x2).bind fun bt208 => ((matrix_Det.f k x0 bt208.1).bind fun bt212 => (if bt212.2 = 0 then ((juntoref01_Mul.f x0 bt204.1 bt206.1).bind fun t214 => (if bt212.1 = t214 then (if ((bt204.1 == 0) == (decide (x7 < (x1.length : Int)))) = true then ((juntolaw03_alive.f k).bind fun t215 => (some t215)) else (none)) else (none))) else (none))))))
end
def juntolaw03_MatrixRanks.f (k : Nat) (a0 : Int) (l1 : List (List Int)) (l2 : List (List Int)) : Option (Bool) := (ref_Check2.f k a0 l1 l2).bind fun t192 => (if t192 = 0 then ((matrix_Rank.f k a0 l1).bind fun bt194 => ((matrix_Null.f k a0 l1).bind fun bt196 => (if bt196.2 = 0 then (if 0 < (l1.length : Int) then (juntolaw03_MatrixRanks.j0 k a0 l1 l2 bt194.1 ((wrap64 (bt194.1 + (bt196.1.length : Int))) != ((rd_L1 l1 0).length : Int))) else (none)) else (juntolaw03_MatrixRanks.j0 k a0 l1 l2 bt194.1 true)))) else ((juntolaw03_alive.f k).bind fun t193 => (some t193)))
set_option maxHeartbeats 8000000 in
set_option maxRecDepth 100000 in
theorem juntolaw03_MatrixRanks.calls (k : Nat) (a0 : Int) (A1 : Option Addr) (c1 : Nat) (l1 : List (List Int)) (A2 : Option Addr) (c2 : Nat) (l2 : List (List Int)) (r : Bool) (w : World) (hr1 : Kd.C (Kd.slice 22 (Kd.int .u64)) w A1 l1.length l1) (hc1 : l1.length ≤ c1) (hr2 : Kd.C (Kd.slice 22 (Kd.int .u64)) w A2 l2.length l2) (hc2 : l2.length ≤ c2) (h : juntolaw03_MatrixRanks.f k a0 l1 l2 = some r) :
  Calls Try.prog 13 #[.int .u64 a0, .slice A1 l1.length c1, .slice A2 l2.length c2] w fun e w' => e = .returned (.bool r) ∧ Below w.heap.size w w' := by
 have HR1 := Aside0.mk hr1
 have HC1 := Aside0.mk hc1
 clear hr1 hc1
 have HR2 := Aside0.mk hr2
 have HC2 := Aside0.mk hc2
 clear hr2 hc2
 have HB := Aside0.mk (Below.refl w.heap.size w)
 have H : ((ref_Check2.f k a0 l1 l2).bind fun t192 => (if t192 = 0 then ((matrix_Rank.f k a0 l1).bind fun bt194 => ((matrix_Null.f k a0 l1).bind fun bt196 => (if bt196.2 = 0 then (if 0 < (l1.length : Int) then (juntolaw03_MatrixRanks.j0 k a0 l1 l2 bt194.1 ((wrap64 (bt194.1 + (bt196.1.length : Int))) != ((rd_L1 l1 0).length : Int))) else (none)) else (juntolaw03_MatrixRanks.j0 k a0 l1 l2 bt194.1 true)))) else ((juntolaw03_alive.f k).bind fun t193 => (some t193)))) = some r := h
 clear h
 replace H := Option.bind_eq_some_iff.mp H
 obtain ⟨t192, A40, H⟩ := H
 replace H : (if t192 = 0 then ((matrix_Rank.f k a0 l1).bind fun bt194 => ((matrix_Null.f k a0 l1).bind fun bt196 => (if bt196.2 = 0 then (if 0 < (l1.length : Int) then (juntolaw03_MatrixRanks.j0 k a0 l1 l2 bt194.1 ((wrap64 (bt194.1 + (bt196.1.length : Int))) != ((rd_L1 l1 0).length : Int))) else (none)) else (juntolaw03_MatrixRanks.j0 k a0 l1 l2 bt194.1 true)))) else ((juntolaw03_alive.f k).bind fun t193 => (some t193))) = some r := H
 have A4 := Aside0.mk A40
 clear A40
 by_cases c5 : t192 = 0
 ·rw [if_pos c5] at H
  have c5b0 : (t192 == 0) = true := beq_iff_eq.mpr c5
  have c5b1 : (t192 != 0) = false := bne_eq_false_iff_eq.mpr c5
  clear c5
  replace H := Option.bind_eq_some_iff.mp H
  obtain ⟨⟨t194, t195⟩, A60, H⟩ := H
  replace H : ((matrix_Null.f k a0 l1).bind fun bt196 => (if bt196.2 = 0 then (if 0 < (l1.length : Int) then (juntolaw03_MatrixRanks.j0 k a0 l1 l2 t194 ((wrap64 (t194 + (bt196.1.length : Int))) != ((rd_L1 l1 0).length : Int))) else (none)) else (juntolaw03_MatrixRanks.j0 k a0 l1 l2 t194 true))) = some r := H
  have A6 := Aside0.mk A60
  clear A60
  replace H := Option.bind_eq_some_iff.mp H
  obtain ⟨⟨t196, t197⟩, A70, H⟩ := H
  replace H : (if t197 = 0 then (if 0 < (l1.length : Int) then (juntolaw03_MatrixRanks.j0 k a0 l1 l2 t194 ((wrap64 (t194 + (t196.length : Int))) != ((rd_L1 l1 0).length : Int))) else (none)) else (juntolaw03_MatrixRanks.j0 k a0 l1 l2 t194 true)) = some r := H
  have A7 := Aside0.mk A70
  clear A70
  have HC8 := Aside0.mk H
  clear H
  go_enter Try.func13, Try.ntmps13
  go_upto_region 5 with (first | (go_at_call 15; (with_reducible refine (ref_Check2.calls k a0 _ _ l1 _ _ l2 t192 _ ?side1 ?side2 ?side3 ?side4 A4.out).mono ?_); (case side1 => repeat (first | exact HR1.out | (with_reducible refine Kd.C_alloc ?_ _) | (with_reducible refine Kd.C_drewN ?_ _) | (with_reducible refine Kd.C_drew ?_))); (case side2 => exact HC1.out); (case side3 => repeat (first | exact HR2.out | (with_reducible refine Kd.C_alloc ?_ _) | (with_reducible refine Kd.C_drewN ?_ _) | (with_reducible refine Kd.C_drew ?_))); (case side4 => exact HC2.out); rintro e w9 ⟨rfl, hb⟩; have n0_ := Aside0.mk (below_step (by repeat (first | (with_reducible first | exact HB.out | apply below_alloc | apply pw_below_drewN | apply below_drew1) | exact HB.out)) hb); clear HB; have HB := n0_; clear n0_; (try clear hb); (try clear hb2); (try clear hk); (try clear hi)) | ((with_reducible refine gate_callee (f := 30) rfl ?_); refine goesL_ (some 29) rfl rfl Try.func30 (by kernel_rfl) rfl #[.int .u64 a0, .slice A1 l1.length c1] rfl (by (try simp only [List.map_toArray, List.map_cons, List.map_nil]); first | done | rfl | (simp only [List.length_drop, List.length_take]; rfl)) ?_; (with_reducible refine (matrix_Rank.calls k a0 _ _ l1 t194 t195 _ ?side1 ?side2 A6.out).mono ?_); (case side1 => repeat (first | exact (Kd.C_below HR1.out HB.out) | (with_reducible refine Kd.C_alloc ?_ _) | (with_reducible refine Kd.C_drewN ?_ _) | (with_reducible refine Kd.C_drew ?_))); (case side2 => exact HC1.out); rintro e w10 ⟨rfl, hb⟩; refine ⟨_, rfl, ?_⟩; have n0_ := Aside0.mk (below_step (by repeat (first | (with_reducible first | exact HB.out | apply below_alloc | apply pw_below_drewN | apply below_drew1) | exact HB.out)) hb); clear HB; have HB := n0_; clear n0_; (try clear hb); (try clear hb2); (try clear hk); (try clear hi)) | ((with_reducible refine gate_callee (f := 40) rfl ?_); refine goesL_ (some 35) rfl rfl Try.func40 (by kernel_rfl) rfl #[.int .u64 a0, .slice A1 l1.length c1] rfl (by (try simp only [List.map_toArray, List.map_cons, List.map_nil]); first | done | rfl | (simp only [List.length_drop, List.length_take]; rfl)) ?_; (with_reducible refine (matrix_Null.calls k a0 _ _ l1 t196 t197 _ ?side1 ?side2 A7.out).mono ?_); (case side1 => repeat (first | exact (Kd.C_below HR1.out HB.out) | (with_reducible refine Kd.C_alloc ?_ _) | (with_reducible refine Kd.C_drewN ?_ _) | (with_reducible refine Kd.C_drew ?_))); (case side2 => exact HC1.out); rintro e w11 ⟨v198, rfl, ho0, hb⟩; refine ⟨_, rfl, ?_⟩; have n0_ := Aside0.mk (Kd.S_lower ho0 (below_size (by repeat (first | (with_reducible first | exact HB.out | apply below_alloc | apply pw_below_drewN | apply below_drew1) | exact HB.out)))); have n1_ := Aside0.mk (below_step (by repeat (first | (with_reducible first | exact HB.out | apply below_alloc | apply pw_below_drewN | apply below_drew1) | exact HB.out)) hb); clear HB; have HO199 := n0_; have HB := n1_; clear n0_ n1_; (try clear hb); (try clear hb2); (try clear hk); (try clear hi); (try clear ho0)))
  (try simp only [Act.put, List.setIfInBounds_toArray, List.set_cons_zero, List.set_cons_succ])
  go_cut [50] (fun v50 wc => ∃ (kq : Nat) (x50_7 : Bool), v50 = .bool x50_7 ∧ Aside0 (juntolaw03_MatrixRanks.j0 kq a0 l1 l2 t194 x50_7 = some r) ∧ Aside0 (kq ≤ k) ∧ Aside0 (Below w.heap.size w wc))
  case first =>
   have H := HC8.out
   clear HC8
   by_cases c12 : t197 = 0
   ·rw [if_pos c12] at H
    have c12b0 : (t197 == 0) = true := beq_iff_eq.mpr c12
    have c12b1 : (t197 != 0) = false := bne_eq_false_iff_eq.mpr c12
    clear c12
    (first | rw [c12b0] | (simp only [i64_w, i32_w]; rw [c12b0]) | skip)
    by_cases c13 : 0 < (l1.length : Int)
    ·rw [if_pos c13] at H
     have c13b0 : decide (0 < (l1.length : Int)) = true := decide_eq_true c13
     have c13b1 : decide (0 < l1.length) = true := decide_eq_true (by omega)
     clear c13
     have H' := Aside0.mk H
     clear H
     obtain ⟨Ao14, co14, eo14⟩ := Kd.S_slice HO199.out
     subst eo14
     have p200 : 0 ≤ (0 : Int) := (by omega)
     have q200 : 0 < (l1.length : Int) := of_decide_eq_true (by first | (with_reducible assumption) | assumption)
     obtain ⟨ad200, A200_0, c200_0, e200, hx200_0, hl200_0, hi200_0⟩ := at_L1 HR1.out 0 p200 q200
     cases e200
     have qi200 : (0 < l1.length) = True := eq_true (by omega)
     (try rw [show ((0 : Int)).toNat = 0 from rfl] at hx200_0)
     (try rw [Addr.add_zero'] at hx200_0)
     replace hx200_0 := (HB.out.cell (World.block_lt_of_cell? w _ hx200_0)).trans hx200_0
     have HR200_0 := Aside0.mk hi200_0
     have HC200_0 := Aside0.mk hl200_0
     clear hi200_0 hl200_0
     replace p200 := eq_true p200
     replace q200 := eq_true q200
     go_wp2
     go_meet
     case rel => exact ⟨_, (((wrap64 (t194 + (t196.length : Int))) != ((rd_L1 l1 0).length : Int))), (by first | rfl | (simp; done) | (simp [*]; done)), H', ⟨by first | omega | exact Nat.le_refl _⟩, ⟨by repeat (first | (with_reducible first | exact HB.out | apply below_alloc | apply pw_below_drewN | apply below_drew1) | exact HB.out)⟩⟩
    ·rw [if_neg c13] at H
     exact absurd H (by simp)
   ·rw [if_neg c12] at H
    have c12b0 : (t197 == 0) = false := beq_eq_false_iff_ne.mpr c12
    have c12b1 : (t197 != 0) = true := bne_iff_ne.mpr c12
    (first | rw [c12b0] | (simp only [i64_w, i32_w]; rw [c12b0]) | skip)
    have H' := Aside0.mk H
    clear H
    go_wp2
    go_meet
    case rel => exact ⟨_, (true), (by first | rfl | (simp; done) | (simp [*]; done)), H', ⟨by first | omega | exact Nat.le_refl _⟩, ⟨by repeat (first | (with_reducible first | exact HB.out | apply below_alloc | apply pw_below_drewN | apply below_drew1) | exact HB.out)⟩⟩
  case rest =>
   clear HC8
   try clear c1
   try clear c2
   try clear p2
   try clear q2
   try clear hx2
   try clear qi2
   try clear c3
   try clear c4
   try clear c5
   try clear c5b0
   try clear c5b1
   try clear p6
   try clear c9
   try clear c12
   try clear c12b0
   try clear c12b1
   try clear c13
   try clear c13b0
   try clear c13b1
   try clear hx200_0
   try clear p200
   try clear q200
   obtain ⟨kq, x50_7, rfl, HA, HJ7, HB⟩ := hcut
   cases kq with
   | zero => exact absurd HA.out (by simp [juntolaw03_MatrixRanks.j0])
   | succ kj7 =>
    have H := HA.out
    clear HA
    simp only [juntolaw03_MatrixRanks.j0] at H
    by_cases c15 : x50_7 = true
    ·subst c15
     have H1 : (none) = some r := by rw [if_pos rfl] at H; exact H
     clear H
     have H := H1
     clear H1
     exact absurd H (by simp)
    ·replace c15 := Bool.eq_false_iff.mpr c15
     subst c15
     have H1 : (if 0 < (l1.length : Int) then (if (l1.length : Int) = ((rd_L1 l1 0).length : Int) then (if 0 < (l2.length : Int) then (if (l2.length : Int) = ((rd_L1 l2 0).length : Int) then (juntolaw03_MatrixRanks.j1 kj7 a0 l1 l2 t194 ((l1.length : Int) != (l2.length : Int))) else (juntolaw03_MatrixRanks.j1 kj7 a0 l1 l2 t194 true)) else (none)) else (juntolaw03_MatrixRanks.j1 kj7 a0 l1 l2 t194 true)) else (none)) = some r := by rw [if_neg (show ¬ (false = true) by decide)] at H; exact H
     clear H
     have H := H1
     clear H1
     have HC16 := Aside0.mk H
     clear H
     go_upto_region 7 with (fail)
     go_cut [73] (fun v73 wc => ∃ (kq : Nat) (x73_15 : Bool), v73 = .bool x73_15 ∧ Aside0 (juntolaw03_MatrixRanks.j1 kq a0 l1 l2 t194 x73_15 = some r) ∧ Aside0 (kq ≤ kj7) ∧ Aside0 (Below w.heap.size w wc))
     case first =>
      have H := HC16.out
      clear HC16
      by_cases c17 : 0 < (l1.length : Int)
      ·rw [if_pos c17] at H
       have c17b0 : decide (0 < (l1.length : Int)) = true := decide_eq_true c17
       have c17b1 : decide (0 < l1.length) = true := decide_eq_true (by omega)
       clear c17
       (first | rw [c17b0] | (simp only [i64_w, i32_w]; rw [c17b0]) | skip)
       by_cases c18 : (l1.length : Int) = ((rd_L1 l1 0).length : Int)
       ·rw [if_pos c18] at H
        have c18b0 : ((l1.length : Int) == ((rd_L1 l1 0).length : Int)) = true := beq_iff_eq.mpr c18
        have c18b1 : ((l1.length : Int) != ((rd_L1 l1 0).length : Int)) = false := bne_eq_false_iff_eq.mpr c18
        have c18b2 : (l1.length == (rd_L1 l1 0).length) = true := by first | simpa using c18 | (simp at c18 ⊢; omega)
        clear c18
        by_cases c19 : 0 < (l2.length : Int)
        ·rw [if_pos c19] at H
         have c19b0 : decide (0 < (l2.length : Int)) = true := decide_eq_true c19
         have c19b1 : decide (0 < l2.length) = true := decide_eq_true (by omega)
         clear c19
         by_cases c20 : (l2.length : Int) = ((rd_L1 l2 0).length : Int)
         ·rw [if_pos c20] at H
          have c20b0 : ((l2.length : Int) == ((rd_L1 l2 0).length : Int)) = true := beq_iff_eq.mpr c20
          have c20b1 : ((l2.length : Int) != ((rd_L1 l2 0).length : Int)) = false := bne_eq_false_iff_eq.mpr c20
          have c20b2 : (l2.length == (rd_L1 l2 0).length) = true := by first | simpa using c20 | (simp at c20 ⊢; omega)
          clear c20
          have H' := Aside0.mk H
          clear H
          have p201 : 0 ≤ (0 : Int) := (by omega)
          have q201 : 0 < (l1.length : Int) := of_decide_eq_true (by first | (with_reducible assumption) | assumption)
          obtain ⟨ad201, A201_0, c201_0, e201, hx201_0, hl201_0, hi201_0⟩ := at_L1 HR1.out 0 p201 q201
          cases e201
          have qi201 : (0 < l1.length) = True := eq_true (by omega)
          (try rw [show ((0 : Int)).toNat = 0 from rfl] at hx201_0)
          (try rw [Addr.add_zero'] at hx201_0)
          replace hx201_0 := (HB.out.cell (World.block_lt_of_cell? w _ hx201_0)).trans hx201_0
          have HR201_0 := Aside0.mk hi201_0
          have HC201_0 := Aside0.mk hl201_0
          clear hi201_0 hl201_0
          replace p201 := eq_true p201
          replace q201 := eq_true q201
          have p202 : 0 ≤ (0 : Int) := (by omega)
          have q202 : 0 < (l2.length : Int) := of_decide_eq_true (by first | (with_reducible assumption) | assumption)
          obtain ⟨ad202, A202_0, c202_0, e202, hx202_0, hl202_0, hi202_0⟩ := at_L1 HR2.out 0 p202 q202
          cases e202
          have qi202 : (0 < l2.length) = True := eq_true (by omega)
          (try rw [show ((0 : Int)).toNat = 0 from rfl] at hx202_0)
          (try rw [Addr.add_zero'] at hx202_0)
          replace hx202_0 := (HB.out.cell (World.block_lt_of_cell? w _ hx202_0)).trans hx202_0
          have HR202_0 := Aside0.mk hi202_0
          have HC202_0 := Aside0.mk hl202_0
          clear hi202_0 hl202_0
          replace p202 := eq_true p202
          replace q202 := eq_true q202
          go_wp2
          go_meet
          case rel => exact ⟨_, (((l1.length : Int) != (l2.length : Int))), (by first | rfl | (simp; done) | (simp [*]; done)), H', ⟨by have := HJ7.out; first | omega | exact Nat.le_refl _⟩, ⟨by repeat (first | (with_reducible first | exact HB.out | apply below_alloc | apply pw_below_drewN | apply below_drew1) | exact HB.out)⟩⟩
         ·rw [if_neg c20] at H
          have c20b0 : ((l2.length : Int) == ((rd_L1 l2 0).length : Int)) = false := beq_eq_false_iff_ne.mpr c20
          have c20b1 : ((l2.length : Int) != ((rd_L1 l2 0).length : Int)) = true := bne_iff_ne.mpr c20
          have c20b2 : (l2.length == (rd_L1 l2 0).length) = false := by first | simpa using c20 | (simp at c20 ⊢; omega)
          have H' := Aside0.mk H
          clear H
          have p201 : 0 ≤ (0 : Int) := (by omega)
          have q201 : 0 < (l1.length : Int) := of_decide_eq_true (by first | (with_reducible assumption) | assumption)
          obtain ⟨ad201, A201_0, c201_0, e201, hx201_0, hl201_0, hi201_0⟩ := at_L1 HR1.out 0 p201 q201
          cases e201
          have qi201 : (0 < l1.length) = True := eq_true (by omega)
          (try rw [show ((0 : Int)).toNat = 0 from rfl] at hx201_0)
          (try rw [Addr.add_zero'] at hx201_0)
          replace hx201_0 := (HB.out.cell (World.block_lt_of_cell? w _ hx201_0)).trans hx201_0
          have HR201_0 := Aside0.mk hi201_0
          have HC201_0 := Aside0.mk hl201_0
          clear hi201_0 hl201_0
          replace p201 := eq_true p201
          replace q201 := eq_true q201
          have p202 : 0 ≤ (0 : Int) := (by omega)
          have q202 : 0 < (l2.length : Int) := of_decide_eq_true (by first | (with_reducible assumption) | assumption)
          obtain ⟨ad202, A202_0, c202_0, e202, hx202_0, hl202_0, hi202_0⟩ := at_L1 HR2.out 0 p202 q202
          cases e202
          have qi202 : (0 < l2.length) = True := eq_true (by omega)
          (try rw [show ((0 : Int)).toNat = 0 from rfl] at hx202_0)
          (try rw [Addr.add_zero'] at hx202_0)
          replace hx202_0 := (HB.out.cell (World.block_lt_of_cell? w _ hx202_0)).trans hx202_0
          have HR202_0 := Aside0.mk hi202_0
          have HC202_0 := Aside0.mk hl202_0
          clear hi202_0 hl202_0
          replace p202 := eq_true p202
          replace q202 := eq_true q202
          go_wp2
          go_meet
          case rel => exact ⟨_, (true), (by first | rfl | (simp; done) | (simp [*]; done)), H', ⟨by have := HJ7.out; first | omega | exact Nat.le_refl _⟩, ⟨by repeat (first | (with_reducible first | exact HB.out | apply below_alloc | apply pw_below_drewN | apply below_drew1) | exact HB.out)⟩⟩
        ·rw [if_neg c19] at H
         exact absurd H (by simp)
       ·rw [if_neg c18] at H
        have c18b0 : ((l1.length : Int) == ((rd_L1 l1 0).length : Int)) = false := beq_eq_false_iff_ne.mpr c18
        have c18b1 : ((l1.length : Int) != ((rd_L1 l1 0).length : Int)) = true := bne_iff_ne.mpr c18
        have c18b2 : (l1.length == (rd_L1 l1 0).length) = false := by first | simpa using c18 | (simp at c18 ⊢; omega)
        have H' := Aside0.mk H
        clear H
        have p201 : 0 ≤ (0 : Int) := (by omega)
        have q201 : 0 < (l1.length : Int) := of_decide_eq_true (by first | (with_reducible assumption) | assumption)
        obtain ⟨ad201, A201_0, c201_0, e201, hx201_0, hl201_0, hi201_0⟩ := at_L1 HR1.out 0 p201 q201
        cases e201
        have qi201 : (0 < l1.length) = True := eq_true (by omega)
        (try rw [show ((0 : Int)).toNat = 0 from rfl] at hx201_0)
        (try rw [Addr.add_zero'] at hx201_0)
        replace hx201_0 := (HB.out.cell (World.block_lt_of_cell? w _ hx201_0)).trans hx201_0
        have HR201_0 := Aside0.mk hi201_0
        have HC201_0 := Aside0.mk hl201_0
        clear hi201_0 hl201_0
        replace p201 := eq_true p201
        replace q201 := eq_true q201
        go_wp2
        go_meet
        case rel => exact ⟨_, (true), (by first | rfl | (simp; done) | (simp [*]; done)), H', ⟨by have := HJ7.out; first | omega | exact Nat.le_refl _⟩, ⟨by repeat (first | (with_reducible first | exact HB.out | apply below_alloc | apply pw_below_drewN | apply below_drew1) | exact HB.out)⟩⟩
      ·rw [if_neg c17] at H
       exact absurd H (by simp)
     case rest =>
      clear HC16
      try clear c1
      try clear c2
      try clear p2
      try clear q2
      try clear hx2
      try clear qi2
      try clear c3
      try clear c4
      try clear c5
      try clear c5b0
      try clear c5b1
      try clear p6
      try clear c9
      try clear c12
      try clear c12b0
      try clear c12b1
      try clear c13
      try clear c13b0
      try clear c13b1
      try clear c15
      try clear c17
      try clear c17b0
      try clear c17b1
      try clear c18
      try clear c18b0
      try clear c18b1
      try clear c18b2
      try clear c19
      try clear c19b0
      try clear c19b1
      try clear c20
      try clear c20b0
      try clear c20b1
      try clear c20b2
      try clear p20
      try clear q20
      try clear hx20
      try clear qi20
      try clear hx200_0
      try clear hx201_0
      try clear hx202_0
      try clear p2
      try clear p200
      try clear p201
      try clear p202
      try clear p6
      try clear q2
      try clear q200
      try clear q201
      try clear q202
      obtain ⟨kq, x73_15, rfl, HA, HJ15, HB⟩ := hcut
      cases kq with
      | zero => exact absurd HA.out (by simp [juntolaw03_MatrixRanks.j1])
      | succ kj15 =>
       have H := HA.out
       clear HA
       simp only [juntolaw03_MatrixRanks.j1] at H
       by_cases c21 : x73_15 = true
       ·subst c21
        have H1 : ((juntolaw03_alive.f kj15).bind fun t203 => (some t203)) = some r := by rw [if_pos rfl] at H; exact H
        clear H
        have H := H1
        clear H1
        replace H := Option.bind_eq_some_iff.mp H
        obtain ⟨t203, A220, H⟩ := H
        replace H : (some t203) = some r := H
        have A22 := Aside0.mk A220
        clear A220
        obtain rfl := Option.some.inj H
        go_wp2_with (first | ((with_reducible refine gate_callee (f := 16) rfl ?_); refine goesL_ (some 74) rfl rfl Try.func16 (by kernel_rfl) rfl #[] rfl (by (try simp only [List.map_toArray, List.map_cons, List.map_nil]); first | done | rfl | (simp only [List.length_drop, List.length_take]; rfl)) ?_; (with_reducible refine (juntolaw03_alive.calls kj15  t203 _ A22.out).mono ?_); rintro e w23 ⟨rfl, hb⟩; refine ⟨_, rfl, ?_⟩; have n0_ := Aside0.mk (below_step (by repeat (first | (with_reducible first | exact HB.out | apply below_alloc | apply pw_below_drewN | apply below_drew1) | exact HB.out)) hb); clear HB; have HB := n0_; clear n0_; (try clear hb); (try clear hb2); (try clear hk); (try clear hi)))
        go_ret
        exact ⟨by first | rfl | (simp [errW_none, errW_some] <;> rfl) | (simp [*, errW_none, errW_some] <;> rfl), by repeat (first | (with_reducible first | exact HB.out | apply below_alloc | apply pw_below_drewN | apply below_drew1) | exact HB.out)⟩
       ·replace c21 := Bool.eq_false_iff.mpr c21
        subst c21
        have H1 : ((matrix_Det.f kj15 a0 l1).bind fun bt204 => ((matrix_Det.f kj15 a0 l2).bind fun bt206 => ((matrix_Mul.f kj15 a0 l1 l2).bind fun bt208 => ((matrix_Det.f kj15 a0 bt208.1).bind fun bt212 => (if bt212.2 = 0 then ((juntoref01_Mul.f a0 bt204.1 bt206.1).bind fun t214 => (if bt212.1 = t214 then (if ((bt204.1 == 0) == (decide (t194 < (l1.length : Int)))) = true then ((juntolaw03_alive.f kj15).bind fun t215 => (some t215)) else (none)) else (none))) else (none)))))) = some r := by rw [if_neg (show ¬ (false = true) by decide)] at H; exact H
        clear H
        have H := H1
        clear H1
        replace H := Option.bind_eq_some_iff.mp H
        obtain ⟨⟨t204, t205⟩, A240, H⟩ := H
        replace H : ((matrix_Det.f kj15 a0 l2).bind fun bt206 => ((matrix_Mul.f kj15 a0 l1 l2).bind fun bt208 => ((matrix_Det.f kj15 a0 bt208.1).bind fun bt212 => (if bt212.2 = 0 then ((juntoref01_Mul.f a0 t204 bt206.1).bind fun t214 => (if bt212.1 = t214 then (if ((t204 == 0) == (decide (t194 < (l1.length : Int)))) = true then ((juntolaw03_alive.f kj15).bind fun t215 => (some t215)) else (none)) else (none))) else (none))))) = some r := H
        have A24 := Aside0.mk A240
        clear A240
        replace H := Option.bind_eq_some_iff.mp H
        obtain ⟨⟨t206, t207⟩, A250, H⟩ := H
        replace H : ((matrix_Mul.f kj15 a0 l1 l2).bind fun bt208 => ((matrix_Det.f kj15 a0 bt208.1).bind fun bt212 => (if bt212.2 = 0 then ((juntoref01_Mul.f a0 t204 t206).bind fun t214 => (if bt212.1 = t214 then (if ((t204 == 0) == (decide (t194 < (l1.length : Int)))) = true then ((juntolaw03_alive.f kj15).bind fun t215 => (some t215)) else (none)) else (none))) else (none)))) = some r := H
        have A25 := Aside0.mk A250
        clear A250
        replace H := Option.bind_eq_some_iff.mp H
        obtain ⟨⟨t208, t209⟩, A260, H⟩ := H
        replace H : ((matrix_Det.f kj15 a0 t208).bind fun bt212 => (if bt212.2 = 0 then ((juntoref01_Mul.f a0 t204 t206).bind fun t214 => (if bt212.1 = t214 then (if ((t204 == 0) == (decide (t194 < (l1.length : Int)))) = true then ((juntolaw03_alive.f kj15).bind fun t215 => (some t215)) else (none)) else (none))) else (none))) = some r := H
        have A26 := Aside0.mk A260
        clear A260
        replace H := Option.bind_eq_some_iff.mp H
        obtain ⟨⟨t212, t213⟩, A270, H⟩ := H
        replace H : (if t213 = 0 then ((juntoref01_Mul.f a0 t204 t206).bind fun t214 => (if t212 = t214 then (if ((t204 == 0) == (decide (t194 < (l1.length : Int)))) = true then ((juntolaw03_alive.f kj15).bind fun t215 => (some t215)) else (none)) else (none))) else (none)) = some r := H
        have A27 := Aside0.mk A270
        clear A270
        by_cases c28 : t213 = 0
        ·rw [if_pos c28] at H
         have c28b0 : (t213 == 0) = true := beq_iff_eq.mpr c28
         have c28b1 : (t213 != 0) = false := bne_eq_false_iff_eq.mpr c28
         clear c28
         replace H := Option.bind_eq_some_iff.mp H
         obtain ⟨t214, A290, H⟩ := H
         replace H : (if t212 = t214 then (if ((t204 == 0) == (decide (t194 < (l1.length : Int)))) = true then ((juntolaw03_alive.f kj15).bind fun t215 => (some t215)) else (none)) else (none)) = some r := H
         have A29 := Aside0.mk A290
         clear A290
         by_cases c30 : t212 = t214
         ·rw [if_pos c30] at H
          have c30b0 : (t212 == t214) = true := beq_iff_eq.mpr c30
          have c30b1 : (t212 != t214) = false := bne_eq_false_iff_eq.mpr c30
          clear c30
          by_cases c31 : ((t204 == 0) == (decide (t194 < (l1.length : Int)))) = true
          ·rw [if_pos c31] at H
           have c31b0 : ((t204 == 0) == (decide (t194 < (l1.length : Int)))) = true := c31
           (try (have c31b1 : decide ((t204 == 0) = (decide (t194 < (l1.length : Int)))) = true := by simpa using c31))
           (try (have c31b2 : ((t204 == 0) == (decide (t194 < (l1.length : Int)))) = true := by simpa using c31))
           clear c31
           replace H := Option.bind_eq_some_iff.mp H
           obtain ⟨t215, A320, H⟩ := H
           replace H : (some t215) = some r := H
           have A32 := Aside0.mk A320
           clear A320
           obtain rfl := Option.some.inj H
           go_wp2_with (first | ((with_reducible refine gate_callee (f := 17) rfl ?_); refine goesL_ (some 78) rfl rfl Try.func17 (by kernel_rfl) rfl #[.int .u64 a0, .slice A1 l1.length c1] rfl (by (try simp only [List.map_toArray, List.map_cons, List.map_nil]); first | done | rfl | (simp only [List.length_drop, List.length_take]; rfl)) ?_; (with_reducible refine (matrix_Det.calls kj15 a0 _ _ l1 t204 t205 _ ?side1 ?side2 A24.out).mono ?_); (case side1 => repeat (first | exact (Kd.C_below HR1.out HB.out) | (with_reducible refine Kd.C_alloc ?_ _) | (with_reducible refine Kd.C_drewN ?_ _) | (with_reducible refine Kd.C_drew ?_))); (case side2 => exact HC1.out); rintro e w33 ⟨rfl, hb⟩; refine ⟨_, rfl, ?_⟩; have n0_ := Aside0.mk (below_step (by repeat (first | (with_reducible first | exact HB.out | apply below_alloc | apply pw_below_drewN | apply below_drew1) | exact HB.out)) hb); clear HB; have HB := n0_; clear n0_; (try clear hb); (try clear hb2); (try clear hk); (try clear hi)) | ((with_reducible refine gate_callee (f := 17) rfl ?_); refine goesL_ (some 84) rfl rfl Try.func17 (by kernel_rfl) rfl #[.int .u64 a0, .slice A2 l2.length c2] rfl (by (try simp only [List.map_toArray, List.map_cons, List.map_nil]); first | done | rfl | (simp only [List.length_drop, List.length_take]; rfl)) ?_; (with_reducible refine (matrix_Det.calls kj15 a0 _ _ l2 t206 t207 _ ?side1 ?side2 A25.out).mono ?_); (case side1 => repeat (first | exact (Kd.C_below HR2.out HB.out) | (with_reducible refine Kd.C_alloc ?_ _) | (with_reducible refine Kd.C_drewN ?_ _) | (with_reducible refine Kd.C_drew ?_))); (case side2 => exact HC2.out); rintro e w34 ⟨rfl, hb⟩; refine ⟨_, rfl, ?_⟩; have n0_ := Aside0.mk (below_step (by repeat (first | (with_reducible first | exact HB.out | apply below_alloc | apply pw_below_drewN | apply below_drew1) | exact HB.out)) hb); clear HB; have HB := n0_; clear n0_; (try clear hb); (try clear hb2); (try clear hk); (try clear hi)) | ((with_reducible refine gate_callee (f := 37) rfl ?_); refine goesL_ (some 91) rfl rfl Try.func37 (by kernel_rfl) rfl #[.int .u64 a0, .slice A1 l1.length c1, .slice A2 l2.length c2] rfl (by (try simp only [List.map_toArray, List.map_cons, List.map_nil]); first | done | rfl | (simp only [List.length_drop, List.length_take]; rfl)) ?_; (with_reducible refine (matrix_Mul.calls kj15 a0 _ _ l1 _ _ l2 t208 t209 _ ?side1 ?side2 ?side3 ?side4 A26.out).mono ?_); (case side1 => repeat (first | exact (Kd.C_below HR1.out HB.out) | (with_reducible refine Kd.C_alloc ?_ _) | (with_reducible refine Kd.C_drewN ?_ _) | (with_reducible refine Kd.C_drew ?_))); (case side2 => exact HC1.out); (case side3 => repeat (first | exact (Kd.C_below HR2.out HB.out) | (with_reducible refine Kd.C_alloc ?_ _) | (with_reducible refine Kd.C_drewN ?_ _) | (with_reducible refine Kd.C_drew ?_))); (case side4 => exact HC2.out); rintro e w35 ⟨v210, rfl, ho0, hb⟩; refine ⟨_, rfl, ?_⟩; have n0_ := Aside0.mk (Kd.S_lower ho0 (below_size (by repeat (first | (with_reducible first | exact HB.out | apply below_alloc | apply pw_below_drewN | apply below_drew1) | exact HB.out)))); have n1_ := Aside0.mk (below_step (by repeat (first | (with_reducible first | exact HB.out | apply below_alloc | apply pw_below_drewN | apply below_drew1) | exact HB.out)) hb); clear HB; have HO211 := n0_; have HB := n1_; clear n0_ n1_; (try clear hb); (try clear hb2); (try clear hk); (try clear hi); (try clear ho0); obtain ⟨Ao36, co36, eo36⟩ := Kd.S_slice HO211.out; subst eo36) | ((with_reducible refine gate_callee (f := 17) rfl ?_); refine goesL_ (some 97) rfl rfl Try.func17 (by kernel_rfl) rfl #[.int .u64 a0, .slice Ao36 t208.length co36] rfl (by (try simp only [List.map_toArray, List.map_cons, List.map_nil]); first | done | rfl | (simp only [List.length_drop, List.length_take]; rfl)) ?_; (with_reducible refine (matrix_Det.calls kj15 a0 _ _ t208 t212 t213 _ ?side1 ?side2 A27.out).mono ?_); (case side1 => repeat (first | exact (Kd.S_reads' HO211.out).2.2 | (with_reducible refine Kd.C_alloc ?_ _) | (with_reducible refine Kd.C_drewN ?_ _) | (with_reducible refine Kd.C_drew ?_))); (case side2 => exact (Kd.S_reads' HO211.out).2.1); rintro e w37 ⟨rfl, hb⟩; refine ⟨_, rfl, ?_⟩; have n0_ := Aside0.mk (Kd.S_below (by (with_reducible repeat (first | apply Kd.S_alloc | apply Kd.S_drewN | apply Kd.S_drew)); exact HO211.out) hb); have n1_ := Aside0.mk (below_step (by repeat (first | (with_reducible first | exact HB.out | apply below_alloc | apply pw_below_drewN | apply below_drew1) | exact HB.out)) hb); clear HO211; clear HB; have HO211 := n0_; have HB := n1_; clear n0_ n1_; (try clear hb); (try clear hb2); (try clear hk); (try clear hi)) | (go_at_call 45; (with_reducible refine (juntoref01_Mul.calls a0 t204 t206 t214 _ A29.out).mono ?_); rintro e w' ⟨rfl, ⟨nd, rfl⟩⟩) | (go_at_call 16; (with_reducible refine (juntolaw03_alive.calls kj15  t215 _ A32.out).mono ?_); rintro e w38 ⟨rfl, hb⟩; have n0_ := Aside0.mk (Kd.S_below (by (with_reducible repeat (first | apply Kd.S_alloc | apply Kd.S_drewN | apply Kd.S_drew)); exact HO211.out) hb); have n1_ := Aside0.mk (below_step (by repeat (first | (with_reducible first | exact HB.out | apply below_alloc | apply pw_below_drewN | apply below_drew1) | exact HB.out)) hb); clear HO211; clear HB; have HO211 := n0_; have HB := n1_; clear n0_ n1_; (try clear hb); (try clear hb2); (try clear hk); (try clear hi)))
           go_ret
           exact ⟨by first | rfl | (simp [errW_none, errW_some] <;> rfl) | (simp [*, errW_none, errW_some] <;> rfl), by repeat (first | (with_reducible first | exact HB.out | apply below_alloc | apply pw_below_drewN | apply below_drew1) | exact HB.out)⟩
          ·rw [if_neg c31] at H
           exact absurd H (by simp)
         ·rw [if_neg c30] at H
          exact absurd H (by simp)
        ·rw [if_neg c28] at H
         exact absurd H (by simp)
 ·rw [if_neg c5] at H
  have c5b0 : (t192 == 0) = false := beq_eq_false_iff_ne.mpr c5
  have c5b1 : (t192 != 0) = true := bne_iff_ne.mpr c5
  replace H := Option.bind_eq_some_iff.mp H
  obtain ⟨t193, A390, H⟩ := H
  replace H : (some t193) = some r := H
  have A39 := Aside0.mk A390
  clear A390
  obtain rfl := Option.some.inj H
  go_enter Try.func13, Try.ntmps13
  go_wp2_with (first | (go_at_call 15; (with_reducible refine (ref_Check2.calls k a0 _ _ l1 _ _ l2 t192 _ ?side1 ?side2 ?side3 ?side4 A4.out).mono ?_); (case side1 => repeat (first | exact HR1.out | (with_reducible refine Kd.C_alloc ?_ _) | (with_reducible refine Kd.C_drewN ?_ _) | (with_reducible refine Kd.C_drew ?_))); (case side2 => exact HC1.out); (case side3 => repeat (first | exact HR2.out | (with_reducible refine Kd.C_alloc ?_ _) | (with_reducible refine Kd.C_drewN ?_ _) | (with_reducible refine Kd.C_drew ?_))); (case side4 => exact HC2.out); rintro e w40 ⟨rfl, hb⟩; have n0_ := Aside0.mk (below_step (by repeat (first | (with_reducible first | exact HB.out | apply below_alloc | apply pw_below_drewN | apply below_drew1) | exact HB.out)) hb); clear HB; have HB := n0_; clear n0_; (try clear hb); (try clear hb2); (try clear hk); (try clear hi)) | ((with_reducible refine gate_callee (f := 16) rfl ?_); refine goesL_ (some 25) rfl rfl Try.func16 (by kernel_rfl) rfl #[] rfl (by (try simp only [List.map_toArray, List.map_cons, List.map_nil]); first | done | rfl | (simp only [List.length_drop, List.length_take]; rfl)) ?_; (with_reducible refine (juntolaw03_alive.calls k  t193 _ A39.out).mono ?_); rintro e w41 ⟨rfl, hb⟩; refine ⟨_, rfl, ?_⟩; have n0_ := Aside0.mk (below_step (by repeat (first | (with_reducible first | exact HB.out | apply below_alloc | apply pw_below_drewN | apply below_drew1) | exact HB.out)) hb); clear HB; have HB := n0_; clear n0_; (try clear hb); (try clear hb2); (try clear hk); (try clear hi)))
  go_ret
  exact ⟨by first | rfl | (simp [errW_none, errW_some] <;> rfl) | (simp [*, errW_none, errW_some] <;> rfl), by repeat (first | (with_reducible first | exact HB.out | apply below_alloc | apply pw_below_drewN | apply below_drew1) | exact HB.out)⟩

end Go.Proofs.Ytfdkhkajehopkaa.Mb
