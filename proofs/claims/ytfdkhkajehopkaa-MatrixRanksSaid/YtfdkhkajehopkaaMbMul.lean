/- matrix.Mul: the product, with its walk. (The part behind the checks made by this session's own program out of what the kit's print wrote; no text of the print.) -/
import Derived.Test.YtfdkhkajehopkaaMb0
import Derived.Test.YtfdkhkajehopkaaMb2
import Derived.Test.YtfdkhkajehopkaaMb3
import Derived.Test.YtfdkhkajehopkaaMbG2
namespace Go.Proofs.Ytfdkhkajehopkaa.Mb
open Go.RowKit Go.Proofs.YtfdkhkajehopkaaW.PrintWords Go.Proofs.YtfdkhkajehopkaaW.PrintLast Go.Proofs.YtfdkhkajehopkaaW.PrintMore
attribute [local go_sem] max2_int min2_int max_two min_two max_three min_three max_four min_four   -- for this text's walks alone
set_option linter.unusedVariables false
set_option linter.unusedSimpArgs false
/-! ### matrix_Mul: function 37 -/
mutual
def matrix_Mul.l0 : Nat → Int → List (List Int) → List (List Int) → List (List Int) → Int → Int → Option ((List (List Int)) × Int)
 | 0, _, _, _, _, _, _ => none
 | k + 1, x0, x2, x11, x40, x41, x42 => if x42 < x41 then (if 0 ≤ x42 then (if x42 < (x40.length : Int) then (if 0 < (x2.length : Int) then (if 0 ≤ ((rd_L1 x2 0).length : Int) then (if (((rd_L1 x2 0).length : Int) : Int).toNat ≤ 35184372088832 then (if x42 < (x11.length : Int) then ((some (x11.set (x42 : Int).toNat (List.replicate (((rd_L1 x2 0).length : Int) : Int).toNat 0) : List (List Int))).bind fun y192 => (matrix_Mul.l1 k x0 x2 y192 x42 (rd_L1 x40 x42) x40 x41 x42 ((rd_L1 y192 x42).length : Int) 0)) else (none)) else (none)) else (none)) else (none)) else (none)) else (none)) else (some (x11, 0))
def matrix_Mul.l1 : Nat → Int → List (List Int) → List (List Int) → Int → List Int → List (List Int) → Int → Int → Int → Int → Option ((List (List Int)) × Int)
 | 0, _, _, _, _, _, _, _, _, _, _ => none
 | k + 1, x0, x2, x11, x12, x13, x40, x41, x42, x59, x60 => if x60 < x59 then (matrix_Mul.l2 k x0 x2 x11 x12 x13 x60 x40 x41 x42 x59 x60 x13 (x13.length : Int) 0) else (matrix_Mul.l0 k x0 x2 x11 x40 x41 (wrap64 (x42 + 1)))
def matrix_Mul.l2 : Nat → Int → List (List Int) → List (List Int) → Int → List Int → Int → List (List Int) → Int → Int → Int → Int → List Int → Int → Int → Option ((List (List Int)) × Int)
 | 0, _, _, _, _, _, _, _, _, _, _, _, _, _, _ => none
 | k + 1, x0, x2, x11, x12, x13, x14, x40, x41, x42, x59, x60, x63, x64, x65 => if x65 < x64 then (if 0 ≤ x65 then (if x65 < (x63.length : Int) then (if 0 ≤ x12 then (if x12 < (x11.length : Int) then (if 0 ≤ x14 then (if x14 < ((rd_L1 x11 x12).length : Int) then (if x65 < (x2.length : Int) then (if x14 < ((rd_L1 x2 x65).length : Int) then ((field_Times.f x0 (rd x63 x65) (rd (rd_L1 x2 x65) x14)).bind fun t200 => ((field_Plus.f x0 (rd (rd_L1 x11 x12) x14) t200).bind fun t201 => (matrix_Mul.l2 k x0 x2 (x11.set (x12 : Int).toNat ((rd_L1 x11 x12).set (x14 : Int).toNat t201)) x12 x13 x14 x40 x41 x42 x59 x60 x63 x64 (wrap64 (x65 + 1))))) else (none)) else (none)) else (none)) else (none)) else (none)) else (none)) else (none)) else (none)) else (matrix_Mul.l1 k x0 x2 x11 x12 x13 x40 x41 x42 x59 (wrap64 (x60 + 1)))
end
def matrix_MulR.f (k : Nat) (a0 : Int) (l1 : List (List Int)) (l2 : List (List Int)) : Option ((List (List Int)) × Int) := if 0 < (l1.length : Int) then (if ((rd_L1 l1 0).length : Int) = (l2.length : Int) then (if 0 ≤ (l1.length : Int) then (if ((l1.length : Int) : Int).toNat ≤ 11728124029610 then (matrix_Mul.l0 k a0 l2 (List.replicate ((l1.length : Int) : Int).toNat []) l1 (l1.length : Int) 0) else (none)) else (none)) else (some (([] : List (List Int)), 2))) else (none)
def matrix_Mul.T21 : Bool × List (List Nat × List Nat) := (true, [([], []), ([], []), ([0, 1], [0, 1]), ([2], [2]), ([], []), ([], []), ([], []), ([], []), ([6, 7], [6, 7]), ([8], [8]), ([], []), ([9, 10], [9, 10]), ([11], [11]), ([], []), ([], []), ([], []), ([], []), ([15, 16], [15, 16]), ([17], [17]), ([], []), ([18, 19], [18, 19]), ([20], [20]), ([13, 14, 21], [13, 14, 21]), ([5, 12, 22, 22], [5, 12, 22]), ([3, 4, 0, 1, 2, 3, 4, 5, 6, 7, 8, 9, 10, 11, 12, 13, 14, 15, 16, 17, 18, 19, 20, 21, 22, 23], [3, 4]), ([24, 23, 23, 0, 1, 2, 3, 4, 5, 6, 7, 8, 9, 10, 11, 12, 13, 14, 15, 16, 17, 18, 19, 20, 21, 22, 23], [23, 24])])
def matrix_Mul.B21 : List Nat := [0, 0, 3, 7, 0, 0, 0, 0, 192, 448, 0, 1984, 4032, 0, 0, 0, 0, 98304, 229376, 0, 1015808, 2064384, 4186112, 8388576, 16777215, 33554431]
theorem matrix_Mul.tab21 : rtab .any (opsOf Try.f37 21) = matrix_Mul.T21 := by kernel_rfl
theorem matrix_Mul.bits21 : waitsOk matrix_Mul.T21.2 matrix_Mul.B21 = true := by kernel_rfl
theorem und86 : Try.prog.underlying 86 = some (.array 2 23) := by kernel_rfl
theorem idx86 (a0 b0 : Option Addr) (l1 c1 l2 c2 : Nat) (w : World) : (Instr.index 86 (.agg #[.slice a0 l1 c1, .slice b0 l2 c2]) (.int .i64 0)).run Try.prog w = .ok (.slice a0 l1 c1) w := by
 simp [Instr.index, run_underlying und86, run_underlying Try.underlying23, asIntOf, part, isAgg, go_sem]
theorem idx86b (a0 b0 : Option Addr) (l1 c1 l2 c2 : Nat) (w : World) : (Instr.index 86 (.agg #[.slice a0 l1 c1, .slice b0 l2 c2]) (.int .i64 1)).run Try.prog w = .ok (.slice b0 l2 c2) w := by
 simp [Instr.index, run_underlying und86, run_underlying Try.underlying23, asIntOf, part, isAgg, go_sem]
attribute [local go_sem] idx86 idx86b
/-- Mul: the checks, and what follows them. -/
def matrix_Mul.f (k : Nat) (a0 : Int) (l1 : List (List Int)) (l2 : List (List Int)) : Option (List (List Int) × Int) :=
 (matrix_Check.f k a0 l1).bind fun t => if t = 0 then ((matrix_Check.f k a0 l2).bind fun t => if t = 0 then matrix_MulR.f k a0 l1 l2 else some (([] : List (List Int)), t)) else some (([] : List (List Int)), t)
def matrix_Mul.st (k : Nat) (a0 : Int) (l1 l2 : List (List Int)) : Nat → Option (List (List Int) × Int)
 | 0 => matrix_Mul.f k a0 l1 l2
 | 1 => (matrix_Check.f k a0 l2).bind fun t => if t = 0 then matrix_MulR.f k a0 l1 l2 else some (([] : List (List Int)), t)
 | _ => matrix_MulR.f k a0 l1 l2
set_option maxHeartbeats 8000000 in
set_option maxRecDepth 100000 in
theorem matrix_Mul.calls (k : Nat) (a0 : Int) (A1 : Option Addr) (c1 : Nat) (l1 : List (List Int)) (A2 : Option Addr) (c2 : Nat) (l2 : List (List Int)) (r1 : List (List Int)) (r2 : Int) (w : World) (hr1 : Kd.C (Kd.slice 22 (Kd.int .u64)) w A1 l1.length l1) (hc1 : l1.length ≤ c1) (hr2 : Kd.C (Kd.slice 22 (Kd.int .u64)) w A2 l2.length l2) (hc2 : l2.length ≤ c2) (h : matrix_Mul.f k a0 l1 l2 = some (r1, r2)) :
  Calls Try.prog 37 #[.int .u64 a0, .slice A1 l1.length c1, .slice A2 l2.length c2] w fun e w' => ∃ v0_ : Value, e = .returned (.tuple #[v0_, .int .i64 r2]) ∧ Kd.S (Kd.slice 22 (Kd.int .u64)) 33 w' w.heap.size (fun _ => True) v0_ r1 ∧ Below w.heap.size w w' := by
 have HR1 := Aside0.mk hr1
 have HC1 := Aside0.mk hc1
 clear hr1 hc1
 have HR2 := Aside0.mk hr2
 have HC2 := Aside0.mk hc2
 clear hr2 hc2
 have HB := Aside0.mk (Below.refl w.heap.size w)
 have H' : Aside0 (matrix_Mul.st k a0 l1 l2 0 = some (r1, r2)) := ⟨h⟩
 clear h
 go_enter Try.func37, Try.ntmps37
 go_wp2
 go_loopg [20] 2 (fun kq v20 w' => ∃ j : Nat, v20 = .int .i64 (j : Int) ∧ Aside0 (j ≤ 2 ∧ kq = 2 - j) ∧ Aside0 (matrix_Mul.st k a0 l1 l2 j = some (r1, r2)) ∧ Aside0 (Below w.heap.size w w'))
 case atStart => exact ⟨0, rfl, ⟨by omega⟩, H', HB⟩
 case round =>
  clear H' HB
  obtain ⟨j, rfl, HJ, HS, HB⟩ := hrel
  have e012 : j = 0 ∨ j = 1 ∨ j = 2 := by have := HJ.out; omega
  rcases e012 with e0 | e1 | e2
  ·subst e0
   have H : ((matrix_Check.f k a0 l1).bind fun t => if t = 0 then matrix_Mul.st k a0 l1 l2 1 else some (([] : List (List Int)), t)) = some (r1, r2) := HS.out
   clear HS
   replace H := Option.bind_eq_some_iff.mp H
   obtain ⟨t165, A40, H⟩ := H
   have A4 := Aside0.mk A40
   clear A40
   by_cases c5 : t165 = 0
   ·rw [if_pos c5] at H
    have c5b0 : (t165 == 0) = true := beq_iff_eq.mpr c5
    have c5b1 : (t165 != 0) = false := bne_eq_false_iff_eq.mpr c5
    clear c5
    have H' := Aside0.mk H
    clear H
    go_wp2_with (first | (go_at_call 14; refine (matrix_Check.calls k a0 _ _ l1 t165 _ (Kd.C_below HR1.out HB.out) HC1.out A4.out).mono ?_; rintro e w11 ⟨rfl, hb⟩; have n0_ := Aside0.mk (below_step HB.out hb); clear HB; have HB := n0_; clear n0_; (try clear hb)))
    go_roundg 1
    case measure => have := HJ.out; omega
    case rel => exact ⟨1, rfl, ⟨by omega⟩, H', HB⟩
   ·rw [if_neg c5] at H
    have c5b0 : (t165 == 0) = false := beq_eq_false_iff_ne.mpr c5
    have c5b1 : (t165 != 0) = true := bne_iff_ne.mpr c5
    simp only [Option.some.injEq, Prod.mk.injEq] at H
    obtain ⟨rfl, rfl⟩ := H
    go_wp2_with (first | (go_at_call 14; refine (matrix_Check.calls k a0 _ _ l1 t165 _ (Kd.C_below HR1.out HB.out) HC1.out A4.out).mono ?_; rintro e w11 ⟨rfl, hb⟩; have n0_ := Aside0.mk (below_step HB.out hb); clear HB; have HB := n0_; clear n0_; (try clear hb)))
    go_ret2
    exact ⟨_, by first | rfl | (simp [errW_none, errW_some] <;> rfl) | (simp [*, errW_none, errW_some] <;> rfl), Kd.S_nil _ _ _ _ _, HB.out⟩
  ·subst e1
   have H : ((matrix_Check.f k a0 l2).bind fun t => if t = 0 then matrix_Mul.st k a0 l1 l2 2 else some (([] : List (List Int)), t)) = some (r1, r2) := HS.out
   clear HS
   replace H := Option.bind_eq_some_iff.mp H
   obtain ⟨t165, A40, H⟩ := H
   have A4 := Aside0.mk A40
   clear A40
   by_cases c5 : t165 = 0
   ·rw [if_pos c5] at H
    have c5b0 : (t165 == 0) = true := beq_iff_eq.mpr c5
    have c5b1 : (t165 != 0) = false := bne_eq_false_iff_eq.mpr c5
    clear c5
    have H' := Aside0.mk H
    clear H
    go_wp2_with (first | (go_at_call 14; refine (matrix_Check.calls k a0 _ _ l2 t165 _ (Kd.C_below HR2.out HB.out) HC2.out A4.out).mono ?_; rintro e w11 ⟨rfl, hb⟩; have n0_ := Aside0.mk (below_step HB.out hb); clear HB; have HB := n0_; clear n0_; (try clear hb)))
    go_roundg 0
    case measure => have := HJ.out; omega
    case rel => exact ⟨2, rfl, ⟨by omega⟩, H', HB⟩
   ·rw [if_neg c5] at H
    have c5b0 : (t165 == 0) = false := beq_eq_false_iff_ne.mpr c5
    have c5b1 : (t165 != 0) = true := bne_iff_ne.mpr c5
    simp only [Option.some.injEq, Prod.mk.injEq] at H
    obtain ⟨rfl, rfl⟩ := H
    go_wp2_with (first | (go_at_call 14; refine (matrix_Check.calls k a0 _ _ l2 t165 _ (Kd.C_below HR2.out HB.out) HC2.out A4.out).mono ?_; rintro e w11 ⟨rfl, hb⟩; have n0_ := Aside0.mk (below_step HB.out hb); clear HB; have HB := n0_; clear n0_; (try clear hb)))
    go_ret2
    exact ⟨_, by first | rfl | (simp [errW_none, errW_some] <;> rfl) | (simp [*, errW_none, errW_some] <;> rfl), Kd.S_nil _ _ _ _ _, HB.out⟩
  ·subst e2
   have H : (if 0 < (l1.length : Int) then (if ((rd_L1 l1 0).length : Int) = (l2.length : Int) then (if 0 ≤ (l1.length : Int) then (if ((l1.length : Int) : Int).toNat ≤ 11728124029610 then (matrix_Mul.l0 k a0 l2 (List.replicate ((l1.length : Int) : Int).toNat []) l1 (l1.length : Int) 0) else (none)) else (none)) else (some (([] : List (List Int)), 2))) else (none)) = some (r1, r2) := HS.out
   clear HS
   by_cases c4 : 0 < (l1.length : Int)
   ·rw [if_pos c4] at H
    have c4b0 : decide (0 < (l1.length : Int)) = true := decide_eq_true c4
    have c4b1 : decide (0 < l1.length) = true := decide_eq_true (by omega)
    clear c4
    by_cases c5 : ((rd_L1 l1 0).length : Int) = (l2.length : Int)
    ·rw [if_pos c5] at H
     have c5b0 : (((rd_L1 l1 0).length : Int) == (l2.length : Int)) = true := beq_iff_eq.mpr c5
     have c5b1 : (((rd_L1 l1 0).length : Int) != (l2.length : Int)) = false := bne_eq_false_iff_eq.mpr c5
     have c5b2 : ((rd_L1 l1 0).length == l2.length) = true := by first | simpa using c5 | (simp at c5 ⊢; omega)
     clear c5
     by_cases c6 : 0 ≤ (l1.length : Int)
     ·rw [if_pos c6] at H
      have c6b0 := eq_true c6
      have c6b1 : decide (0 ≤ (l1.length : Int)) = true := decide_eq_true c6
      clear c6
      by_cases c7 : ((l1.length : Int) : Int).toNat ≤ 11728124029610
      ·rw [if_pos c7] at H
       have c7b0 := eq_true c7
       have c7b1 : decide (((l1.length : Int) : Int).toNat ≤ 11728124029610) = true := decide_eq_true c7
       clear c7
       obtain ⟨y184, hy184⟩ : ∃ y_ : List (List Int), y_ = (List.replicate ((l1.length : Int) : Int).toNat []) := ⟨_, rfl⟩
       replace H : (matrix_Mul.l0 k a0 l2 y184 l1 (l1.length : Int) 0) = some (r1, r2) := by first | (rw [hy184]; with_reducible exact H) | (have H2_ := (Option.bind_some _ _).symm.trans H; rw [hy184]; with_reducible exact H2_) | (have H2_ := (Option.bind_some _ _).symm.trans H; with_reducible exact H2_) | with_reducible exact H | (rw [hy184]; exact H) | exact H
       have Ny184 := Aside0.mk hy184
       clear hy184
       have H' := Aside0.mk H
       clear H
       have p183 : 0 ≤ (0 : Int) := (by omega)
       have q183 : 0 < (l1.length : Int) := of_decide_eq_true (by first | (with_reducible assumption) | assumption)
       obtain ⟨ad183, A183_0, c183_0, e183, hx183_0, hl183_0, hi183_0⟩ := at_L1 HR1.out 0 p183 q183
       cases e183
       have qi183 : (0 < l1.length) = True := eq_true (by omega)
       (try rw [show ((0 : Int)).toNat = 0 from rfl] at hx183_0)
       (try rw [Addr.add_zero'] at hx183_0)
       replace hx183_0 := (HB.out.cell (World.block_lt_of_cell? w _ hx183_0)).trans hx183_0
       have HR183_0 := Aside0.mk hi183_0
       have HC183_0 := Aside0.mk hl183_0
       clear hi183_0 hl183_0
       replace p183 := eq_true p183
       replace q183 := eq_true q183
       go_wp2_with (first | ((with_reducible refine gate_dst (N := 39) rfl ?_); refine Kd.S_make (Kd.slice 22 (Kd.int .u64)) _ 33 rfl (N := 39) rfl 23 _ _ rfl (l1.length : Int) rfl rfl Try.underlying23 (.slice none 0 0) 24 info33 rfl (by decide) (by omega) [] (ok := fun _ => True) (okp := fun _ => True) ⟨_, rfl, Kd.R_nil _ _ _ _ _⟩ (fun _ hk => hk) trivial (of_decide_eq_true (by first | (with_reducible assumption) | assumption)) (Nat.le_trans (Nat.mul_le_mul_right _ (of_decide_eq_true (by first | (with_reducible assumption) | assumption) : (l1.length : Int).toNat ≤ 11728124029610)) (by omega)) (Below.refl _ _) (Nat.le_refl _) ?_; intro v185 w8 ho9 hb hg_ hnew_; clear hg_ hnew_; (first | rw [← Ny184.out] at ho9 | (simp only [Int.reduceToNat] at ho9; rw [← Ny184.out] at ho9)); have n0_ := Aside0.mk (Kd.S_lower ho9 (below_size (by repeat (first | (with_reducible first | exact HB.out | apply below_alloc | apply pw_below_drewN | apply below_drew1) | exact HB.out)))); have n1_ := Aside0.mk (below_step (by repeat (first | (with_reducible first | exact HB.out | apply below_alloc | apply pw_below_drewN | apply below_drew1) | exact HB.out)) hb); clear HB; have HO186 := n0_; have HB := n1_; clear n0_ n1_; clear hb ho9))
       go_loopg [42] k (fun kq v42 w' => ∃ (x11_1 : List (List Int)) (x42_1 : Int), v42 = .int .i64 x42_1 ∧ Aside0 (matrix_Mul.l0 kq a0 l2 x11_1 l1 (l1.length : Int) x42_1 = some (r1, r2)) ∧ Aside0 (kq ≤ k) ∧ Aside0 (Kd.S (Kd.slice 22 (Kd.int .u64)) 33 w' w.heap.size (fun _ => True) v185 x11_1) ∧ Aside0 (Below w.heap.size w w'))
       case atStart => exact ⟨(y184), (0), (by first | rfl | (simp; done) | (simp [*]; done)), H', ⟨Nat.le_refl _⟩, ⟨by (with_reducible repeat (first | apply Kd.S_alloc | apply Kd.S_drewN | apply Kd.S_drew)); exact HO186.out⟩, ⟨by repeat (first | (with_reducible first | exact HB.out | apply below_alloc | apply pw_below_drewN | apply below_drew1) | exact HB.out)⟩⟩
       case round =>
        clear H'
        try clear c1
        try clear p1
        try clear q1
        try clear hx1
        try clear qi1
        try clear c2
        try clear p2
        try clear c3
        try clear c4
        try clear c4b0
        try clear c4b1
        try clear c5
        try clear c5b0
        try clear c5b1
        try clear c5b2
        try clear c6
        try clear c6b0
        try clear c6b1
        try clear c7
        try clear c7b0
        try clear c7b1
        try clear hx183_0
        try clear p183
        try clear q183
        obtain ⟨x11_1, x42_1, rfl, HA, HK1, HO_11, HB⟩ := hrel
        cases gk with
        | zero => exact absurd HA.out (by simp [matrix_Mul.l0])
        | succ k1 =>
         have H := HA.out
         clear HA
         simp only [matrix_Mul.l0] at H
         by_cases c10 : x42_1 < (l1.length : Int)
         ·rw [if_pos c10] at H
          have c10b0 : decide (x42_1 < (l1.length : Int)) = true := decide_eq_true c10
          clear c10
          by_cases c11 : 0 ≤ x42_1
          ·rw [if_pos c11] at H
           have c11b0 : decide (0 ≤ x42_1) = true := decide_eq_true c11
           clear c11
           by_cases c12 : x42_1 < (l1.length : Int)
           ·rw [if_pos c12] at H
            have c12b0 : decide (x42_1 < (l1.length : Int)) = true := decide_eq_true c12
            clear c12
            by_cases c13 : 0 < (l2.length : Int)
            ·rw [if_pos c13] at H
             have c13b0 : decide (0 < (l2.length : Int)) = true := decide_eq_true c13
             have c13b1 : decide (0 < l2.length) = true := decide_eq_true (by omega)
             clear c13
             by_cases c14 : 0 ≤ ((rd_L1 l2 0).length : Int)
             ·rw [if_pos c14] at H
              have c14b0 := eq_true c14
              have c14b1 : decide (0 ≤ ((rd_L1 l2 0).length : Int)) = true := decide_eq_true c14
              clear c14
              by_cases c15 : (((rd_L1 l2 0).length : Int) : Int).toNat ≤ 35184372088832
              ·rw [if_pos c15] at H
               have c15b0 := eq_true c15
               have c15b1 : decide ((((rd_L1 l2 0).length : Int) : Int).toNat ≤ 35184372088832) = true := decide_eq_true c15
               clear c15
               obtain ⟨y189, hy189⟩ : ∃ y_ : List Int, y_ = (List.replicate (((rd_L1 l2 0).length : Int) : Int).toNat 0) := ⟨_, rfl⟩
               replace H : (if x42_1 < (x11_1.length : Int) then ((some (x11_1.set (x42_1 : Int).toNat y189 : List (List Int))).bind fun y192 => (matrix_Mul.l1 k1 a0 l2 y192 x42_1 (rd_L1 l1 x42_1) l1 (l1.length : Int) x42_1 ((rd_L1 y192 x42_1).length : Int) 0)) else (none)) = some (r1, r2) := by first | (rw [hy189]; with_reducible exact H) | (have H2_ := (Option.bind_some _ _).symm.trans H; rw [hy189]; with_reducible exact H2_) | (have H2_ := (Option.bind_some _ _).symm.trans H; with_reducible exact H2_) | with_reducible exact H | (rw [hy189]; exact H) | exact H
               have Ny189 := Aside0.mk hy189
               clear hy189
               by_cases c16 : x42_1 < (x11_1.length : Int)
               ·rw [if_pos c16] at H
                have c16b0 : decide (x42_1 < (x11_1.length : Int)) = true := decide_eq_true c16
                clear c16
                obtain ⟨y192, hy192⟩ : ∃ y_ : List (List Int), y_ = (x11_1.set (x42_1 : Int).toNat y189) := ⟨_, rfl⟩
                replace H : (matrix_Mul.l1 k1 a0 l2 y192 x42_1 (rd_L1 l1 x42_1) l1 (l1.length : Int) x42_1 ((rd_L1 y192 x42_1).length : Int) 0) = some (r1, r2) := by first | (rw [hy192]; with_reducible exact H) | (have H2_ := (Option.bind_some _ _).symm.trans H; rw [hy192]; with_reducible exact H2_) | (have H2_ := (Option.bind_some _ _).symm.trans H; with_reducible exact H2_) | with_reducible exact H | (rw [hy192]; exact H) | exact H
                have Ny192 := Aside0.mk hy192
                clear hy192
                have H' := Aside0.mk H
                clear H
                have p187 : 0 ≤ (x42_1 : Int) := of_decide_eq_true (by first | (with_reducible assumption) | assumption)
                have q187 : x42_1 < (l1.length : Int) := of_decide_eq_true (by first | (with_reducible assumption) | assumption)
                obtain ⟨ad187, A187_0, c187_0, e187, hx187_0, hl187_0, hi187_0⟩ := at_L1 HR1.out x42_1 p187 q187
                obtain rfl : ad183 = ad187 := (by injection e187)
                replace hx187_0 := (HB.out.cell (World.block_lt_of_cell? w _ hx187_0)).trans hx187_0
                have HR187_0 := Aside0.mk hi187_0
                have HC187_0 := Aside0.mk hl187_0
                clear hi187_0 hl187_0
                replace p187 := eq_true p187
                replace q187 := eq_true q187
                have p188 : 0 ≤ (0 : Int) := (by omega)
                have q188 : 0 < (l2.length : Int) := of_decide_eq_true (by first | (with_reducible assumption) | assumption)
                obtain ⟨ad188, A188_0, c188_0, e188, hx188_0, hl188_0, hi188_0⟩ := at_L1 HR2.out 0 p188 q188
                cases e188
                have qi188 : (0 < l2.length) = True := eq_true (by omega)
                (try rw [show ((0 : Int)).toNat = 0 from rfl] at hx188_0)
                (try rw [Addr.add_zero'] at hx188_0)
                replace hx188_0 := (HB.out.cell (World.block_lt_of_cell? w _ hx188_0)).trans hx188_0
                have HR188_0 := Aside0.mk hi188_0
                have HC188_0 := Aside0.mk hl188_0
                clear hi188_0 hl188_0
                replace p188 := eq_true p188
                replace q188 := eq_true q188
                go_wp2_with (first | ((with_reducible refine gate_dst (N := 53) rfl ?_); refine Kd.R_make (Kd.int .u64) _ 22 rfl (N := 53) rfl 33 _ _ rfl ((rd_L1 l2 0).length : Int) rfl rfl Try.underlying33 (.int .u64 0) 8 info22 rfl (by decide) (by omega) 0 (ok := fun _ => True) (okp := fun _ => True) rfl (fun _ hk => hk) trivial (of_decide_eq_true (by first | (with_reducible assumption) | assumption)) (Nat.le_trans (Nat.mul_le_mul_right _ (of_decide_eq_true (by first | (with_reducible assumption) | assumption) : ((rd_L1 l2 0).length : Int).toNat ≤ 35184372088832)) (by omega)) (Below.refl _ _) (Nat.le_refl _) ?_; intro v190 w18 ho19 hb hg_ hnew_; clear hg_ hnew_; (first | rw [← Ny189.out] at ho19 | (simp only [Int.reduceToNat] at ho19; rw [← Ny189.out] at ho19)); have n0_ := Aside0.mk (Kd.S_elder' (by (with_reducible repeat (first | apply Kd.S_alloc | apply Kd.S_drewN | apply Kd.S_drew)); exact HO_11.out) (Kd.R_base ho19) hb); have n1_ := Aside0.mk (Kd.R_lower ho19 (below_size (by repeat (first | (with_reducible first | exact HB.out | apply below_alloc | apply pw_below_drewN | apply below_drew1) | exact HB.out)))); have n2_ := Aside0.mk (below_step (by repeat (first | (with_reducible first | exact HB.out | apply below_alloc | apply pw_below_drewN | apply below_drew1) | exact HB.out)) hb); clear HO_11; clear HB; have HO_11 := n0_; have HO191 := n1_; have HB := n2_; clear n0_ n1_ n2_; clear hb ho19; obtain ⟨Ao190, co190, eo190⟩ := Kd.R_slice HO191.out; subst eo190; have p17 : 0 ≤ (x42_1 : Int) := of_decide_eq_true (by first | (with_reducible assumption) | assumption); have q17 : (x42_1 : Int) < ((x11_1.length : Int) : Int) := of_decide_eq_true (by first | (with_reducible assumption) | assumption); obtain ⟨go17, co17, eo17, gb17, gl17, cl17, HG17⟩ := Kd.S_form HO_11.out (by omega); (first | cases eo17 | (injection eo17 with ea_ en_ ec_; (first | subst ea_ | (injection ea_ with ea_; subst ea_)); subst ec_; clear en_)); have GB17 := Aside0.mk gb17; have GG17 := Aside0.mk HG17; clear gb17 gl17 HG17; obtain ⟨_, ce17, hcl17, hM17, hcc17, hfr17, _, _⟩ := Kd.S_elem HO_11.out [] (x42_1 : Int) p17 q17; obtain ⟨ve17_0, rfl, ge17_0⟩ := hM17; have hx17_0 := hcc17 0 _ rfl; have hf17_0 := hfr17 0; (try simp only [show ((Kd.slice 22 (Kd.int .u64))).sz = 1 from rfl, Nat.mul_one, Nat.add_zero] at hx17_0); (try simp only [show ((Kd.slice 22 (Kd.int .u64))).sz = 1 from rfl, Nat.mul_one, Nat.add_zero] at hf17_0); (try clear hM17); clear hcl17 hcc17 hfr17; replace p17 := eq_true p17; replace q17 := eq_true q17; have n_ := Aside0.mk (Kd.S_mono (ok' := (fun k_ => some k_ ≠ ((Value.slice Ao190 y189.length co190) : Value).ownBlock)) HO_11.out (fun k_ hk => hk.2)); clear HO_11; have HO_11 := n_; clear n_; have HX20 := Aside0.mk (show Kd.S (Kd.slice 22 (Kd.int .u64)) 33 w18 w.heap.size (fun k_ => ((fun _ => True)) k_ ∧ ¬ ((fun k_ => some k_ = ((Value.slice Ao190 y189.length co190) : Value).ownBlock)) k_) (.slice (some ⟨go17, 0, none⟩) x11_1.length co17) x11_1 from (by (with_reducible repeat (first | apply Kd.S_alloc | apply Kd.S_drewN | apply Kd.S_drew)); exact Kd.S_mono HO_11.out (fun k_ hk => ⟨trivial, fun e_ => hk e_⟩))); obtain ⟨oki20, ce20, hcl20, hM20, hcc20, hfr20, hoki20, hH20⟩ := Kd.S_elem HX20.out [] (x42_1 : Int) (of_decide_eq_true (by first | (with_reducible assumption) | assumption)) (by have h_ : (x42_1 : Int) < ((x11_1.length : Int) : Int) := of_decide_eq_true (by first | (with_reducible assumption) | assumption); first | exact h_ | (have e_ := (Kd.S_reads' HO_11.out).1; omega) | simpa using h_); obtain ⟨ve20_0, rfl, ge20_0⟩ := hM20; have HP20 := Kd.S_seg hH20 (of_decide_eq_true (by first | (with_reducible assumption) | assumption)) (by have h_ : (x42_1 : Int) < ((x11_1.length : Int) : Int) := of_decide_eq_true (by first | (with_reducible assumption) | assumption); first | exact h_ | (have e_ := (Kd.S_reads' HO_11.out).1; omega) | simpa using h_) (seg := [(Value.slice Ao190 y189.length co190)]) (j := 0) (show 1 ≤ 1 from by decide) (x' := y189) (Kd.M_row (Kd.R_mono (Kd.R_tight rfl (Kd.R_mono (ok' := fun k_ => ((fun _ => True)) k_ ∧ k_ ≠ go17) (Kd.R_apart' (HO191.out) (Kd.S_typed HO_11.out) (by decide)) (fun k_ hk => ⟨trivial, fun e_ => (hk.2) (by rw [e_]; rfl)⟩))) (fun _ h_ => Or.inr (h_)))) (fun _ hk => hk) (fun k_ hk_ => ((Kd.R_mono (ok' := fun k_ => ((fun _ => True)) k_ ∧ k_ ≠ go17) (Kd.R_apart' (HO191.out) (Kd.S_typed HO_11.out) (by decide)) (fun k_ hk => ⟨trivial, fun e_ => (hk.2) (by rw [e_]; rfl)⟩))).1 k_ hk_.symm); have hx20_0 := hcc20 0 _ rfl; (try simp only [show ((Kd.slice 22 (Kd.int .u64))).sz = 1 from rfl, Nat.mul_one, Nat.add_zero] at hx20_0); have hf20_0 := hfr20 0; (try simp only [show ((Kd.slice 22 (Kd.int .u64))).sz = 1 from rfl, Nat.mul_one, Nat.add_zero] at hf20_0); (try clear hM20); clear hcl20 hcc20 hfr20 hoki20 hH20; (try simp only [show ((Kd.slice 22 (Kd.int .u64))).sz = 1 from rfl, Nat.mul_one, Nat.add_zero] at HP20)) | ((with_reducible refine gate_store (t := 33) (p := 54) rfl ?_); refine store_event (t := 33) (p := 54) (v := ?vo_w21) (w1 := (w18.setCell ⟨go17, (x42_1 : Int).toNat, none⟩ ((Value.slice Ao190 y189.length co190)))) ?hg ?ho ?hn ?hr ?_; (case ho => rfl); (case hg => rfl); (case hn => rfl); (case hr => first | (go_simp; done) | (go_simp; rfl)); intro w21 hw; have hg : w18.grownBy w21 (some go17) := (by rw [hw]; exact HP20.2); have hp_ : Kd.S (Kd.slice 22 (Kd.int .u64)) 33 w21 w.heap.size (fun _ => True) (.slice (some ⟨go17, 0, none⟩) x11_1.length co17) y192 := (by rw [hw, Ny192.out]; exact HP20.1); clear HP20; have n0_ := Aside0.mk (hp_); have n1_ := Aside0.mk ((by rw [hw]; exact below_set (HB.out) GB17.out : Below w.heap.size w w21)); clear HO_11; clear HB; clear HO191; have HO_11 := n0_; have HB := n1_; clear n0_ n1_; clear hg hw hp_; have p193 : 0 ≤ (x42_1 : Int) := of_decide_eq_true (by first | (with_reducible assumption) | assumption); have q193 : x42_1 < (y192.length : Int) := (by have h_ : (x42_1 : Int) < ((x11_1.length : Int) : Int) := of_decide_eq_true (by first | (with_reducible assumption) | assumption); first | (have e_ := (Kd.S_reads' HO_11.out).1; omega) | simpa only [Ny192.out, List.length_set] using h_); have ql193 : ((x42_1 : Int) < ((x11_1.length : Int) : Int)) = True := eq_true (of_decide_eq_true (by first | (with_reducible assumption) | assumption)); obtain ⟨ad193, A193_0, c193_0, e193, hx193_0, hl193_0, hi193_0⟩ := at_L1 (Kd.S_reads' HO_11.out).2.2 x42_1 p193 q193; obtain rfl : (⟨go17, 0, none⟩ : Addr) = ad193 := (by injection e193); obtain ⟨ce193, hce193, hMe193, hcc193⟩ := Kd.S_get HO_11.out [] x42_1 p193 (by first | exact q193 | exact of_decide_eq_true (by first | (with_reducible assumption) | assumption) | (have e_ := (Kd.S_reads' HO_11.out).1; omega)); obtain ⟨ve193_0, rfl, ge193_0⟩ := hMe193; have hv193_0 := hcc193 0 _ rfl; rw [Nat.add_zero, show ((Kd.slice 22 (Kd.int .u64))).sz = 1 from rfl, Nat.mul_one] at hv193_0; replace hv193_0 := Option.some.inj (hv193_0.symm.trans hx193_0); rw [hv193_0] at ge193_0; have HL193_0 := Aside0.mk (show Kd.R (Kd.int .u64) 22 _ _ _ _ (rd_L1 y192 x42_1) from ge193_0); clear hv193_0 ge193_0; have HX193_0 := Aside0.mk hx193_0; clear hcc193 hce193; (first | simp only [add_plain] at hx193_0 | simp only [add_at] at hx193_0 | simp only [Addr.add, Nat.zero_add] at hx193_0 | skip); have HR193_0 := Aside0.mk hi193_0; have HC193_0 := Aside0.mk hl193_0; clear hi193_0 hl193_0; replace p193 := eq_true p193; replace q193 := eq_true q193))
                go_loopg [60] k1 (fun kq v60 w' => ∃ (x11_2 : List (List Int)) (x60_2 : Int), v60 = .int .i64 x60_2 ∧ Aside0 (matrix_Mul.l1 kq a0 l2 x11_2 x42_1 (rd_L1 l1 x42_1) l1 (l1.length : Int) x42_1 ((rd_L1 y192 x42_1).length : Int) x60_2 = some (r1, r2)) ∧ Aside0 (kq ≤ k1) ∧ Aside0 (Kd.S (Kd.slice 22 (Kd.int .u64)) 33 w' w.heap.size (fun _ => True) (.slice (some ⟨go17, 0, none⟩) x11_1.length co17) x11_2) ∧ Aside0 (Below w.heap.size w w'))
                case atStart => exact ⟨(y192), (0), (by first | rfl | (simp; done) | (simp [*]; done)), H', ⟨Nat.le_refl _⟩, ⟨by (with_reducible repeat (first | apply Kd.S_alloc | apply Kd.S_drewN | apply Kd.S_drew)); exact HO_11.out⟩, ⟨by repeat (first | (with_reducible first | exact HB.out | apply below_alloc | apply pw_below_drewN | apply below_drew1) | exact HB.out)⟩⟩
                case round =>
                 clear H'
                 try clear c1
                 try clear p1
                 try clear q1
                 try clear hx1
                 try clear qi1
                 try clear c2
                 try clear p2
                 try clear hx2
                 try clear c3
                 try clear c4
                 try clear c4b0
                 try clear c4b1
                 try clear c5
                 try clear c5b0
                 try clear c5b1
                 try clear c5b2
                 try clear c6
                 try clear c6b0
                 try clear c6b1
                 try clear c7
                 try clear c7b0
                 try clear c7b1
                 try clear c10
                 try clear c10b0
                 try clear c11
                 try clear c11b0
                 try clear c12
                 try clear c12b0
                 try clear c13
                 try clear c13b0
                 try clear c13b1
                 try clear c14
                 try clear c14b0
                 try clear c14b1
                 try clear c15
                 try clear c15b0
                 try clear c15b1
                 try clear c16
                 try clear c16b0
                 try clear c17
                 try clear p17
                 try clear q17
                 try clear hx17
                 try clear hf17
                 try clear c18
                 try clear p18
                 try clear q18
                 try clear hx18
                 try clear qi18
                 try clear c19
                 try clear p19
                 try clear q19
                 try clear hx19
                 try clear c20
                 try clear hx20
                 try clear hf20
                 try clear hx17_0
                 try clear hx183_0
                 try clear hx187_0
                 try clear hx188_0
                 try clear hx193_0
                 try clear hx20_0
                 try clear p1
                 try clear p17
                 try clear p183
                 try clear p187
                 try clear p188
                 try clear p193
                 try clear p2
                 try clear q1
                 try clear q17
                 try clear q183
                 try clear q187
                 try clear q188
                 try clear q193
                 obtain ⟨x11_2, x60_2, rfl, HA, HK2, HO_11, HB⟩ := hrel
                 have hl11_2 := (Kd.S_reads' HO_11.out).1
                 rw [hl11_2] at HO_11
                 (try simp only [hl11_2])
                 cases gk with
                 | zero => exact absurd HA.out (by simp [matrix_Mul.l1])
                 | succ k2 =>
                  have H := HA.out
                  clear HA
                  simp only [matrix_Mul.l1] at H
                  by_cases c22 : x60_2 < ((rd_L1 y192 x42_1).length : Int)
                  ·rw [if_pos c22] at H
                   have c22b0 : decide (x60_2 < ((rd_L1 y192 x42_1).length : Int)) = true := decide_eq_true c22
                   clear c22
                   have H' := Aside0.mk H
                   clear H
                   go_wp2
                   go_loopg [65] k2 (fun kq v65 w' => ∃ (x11_3 : List (List Int)) (x65_3 : Int), v65 = .int .i64 x65_3 ∧ Aside0 (matrix_Mul.l2 kq a0 l2 x11_3 x42_1 (rd_L1 l1 x42_1) x60_2 l1 (l1.length : Int) x42_1 ((rd_L1 y192 x42_1).length : Int) x60_2 (rd_L1 l1 x42_1) ((rd_L1 l1 x42_1).length : Int) x65_3 = some (r1, r2)) ∧ Aside0 (kq ≤ k2) ∧ Aside0 (Kd.S (Kd.slice 22 (Kd.int .u64)) 33 w' w.heap.size (fun _ => True) (.slice (some ⟨go17, 0, none⟩) x11_2.length co17) x11_3) ∧ Aside0 (Below w.heap.size w w'))
                   case atStart => exact ⟨(x11_2), (0), (by first | rfl | (simp; done) | (simp [*]; done)), H', ⟨Nat.le_refl _⟩, ⟨by (try simp only [hl11_2]); (with_reducible repeat (first | apply Kd.S_alloc | apply Kd.S_drewN | apply Kd.S_drew)); exact HO_11.out⟩, ⟨by repeat (first | (with_reducible first | exact HB.out | apply below_alloc | apply pw_below_drewN | apply below_drew1) | exact HB.out)⟩⟩
                   case round =>
                    clear H'
                    try clear c1
                    try clear p1
                    try clear q1
                    try clear hx1
                    try clear qi1
                    try clear c2
                    try clear p2
                    try clear hx2
                    try clear c3
                    try clear c4
                    try clear c4b0
                    try clear c4b1
                    try clear c5
                    try clear c5b0
                    try clear c5b1
                    try clear c5b2
                    try clear c6
                    try clear c6b0
                    try clear c6b1
                    try clear c7
                    try clear c7b0
                    try clear c7b1
                    try clear c10
                    try clear c10b0
                    try clear c11
                    try clear c11b0
                    try clear c12
                    try clear c12b0
                    try clear c13
                    try clear c13b0
                    try clear c13b1
                    try clear c14
                    try clear c14b0
                    try clear c14b1
                    try clear c15
                    try clear c15b0
                    try clear c15b1
                    try clear c16
                    try clear c16b0
                    try clear c17
                    try clear p17
                    try clear q17
                    try clear hx17
                    try clear hf17
                    try clear c18
                    try clear p18
                    try clear q18
                    try clear hx18
                    try clear qi18
                    try clear c19
                    try clear p19
                    try clear q19
                    try clear hx19
                    try clear c20
                    try clear hx20
                    try clear hf20
                    try clear c22
                    try clear c22b0
                    try clear hx17_0
                    try clear hx183_0
                    try clear hx187_0
                    try clear hx188_0
                    try clear hx193_0
                    try clear hx20_0
                    try clear p1
                    try clear p17
                    try clear p18
                    try clear p183
                    try clear p187
                    try clear p188
                    try clear p19
                    try clear p193
                    try clear p2
                    try clear q1
                    try clear q17
                    try clear q18
                    try clear q183
                    try clear q187
                    try clear q188
                    try clear q19
                    try clear q193
                    obtain ⟨x11_3, x65_3, rfl, HA, HK3, HO_11, HB⟩ := hrel
                    have hl11_3 := (Kd.S_reads' HO_11.out).1
                    rw [hl11_3] at HO_11
                    (try simp only [hl11_3])
                    cases gk with
                    | zero => exact absurd HA.out (by simp [matrix_Mul.l2])
                    | succ k3 =>
                     have H := HA.out
                     clear HA
                     simp only [matrix_Mul.l2] at H
                     by_cases c23 : x65_3 < ((rd_L1 l1 x42_1).length : Int)
                     ·rw [if_pos c23] at H
                      have c23b0 : decide (x65_3 < ((rd_L1 l1 x42_1).length : Int)) = true := decide_eq_true c23
                      clear c23
                      by_cases c24 : 0 ≤ x65_3
                      ·rw [if_pos c24] at H
                       have c24b0 : decide (0 ≤ x65_3) = true := decide_eq_true c24
                       clear c24
                       by_cases c25 : x65_3 < ((rd_L1 l1 x42_1).length : Int)
                       ·rw [if_pos c25] at H
                        have c25b0 : decide (x65_3 < ((rd_L1 l1 x42_1).length : Int)) = true := decide_eq_true c25
                        clear c25
                        by_cases c26 : 0 ≤ x42_1
                        ·rw [if_pos c26] at H
                         have c26b0 : decide (0 ≤ x42_1) = true := decide_eq_true c26
                         clear c26
                         by_cases c27 : x42_1 < (x11_3.length : Int)
                         ·rw [if_pos c27] at H
                          have c27b0 : decide (x42_1 < (x11_3.length : Int)) = true := decide_eq_true c27
                          clear c27
                          by_cases c28 : 0 ≤ x60_2
                          ·rw [if_pos c28] at H
                           have c28b0 : decide (0 ≤ x60_2) = true := decide_eq_true c28
                           clear c28
                           by_cases c29 : x60_2 < ((rd_L1 x11_3 x42_1).length : Int)
                           ·rw [if_pos c29] at H
                            have c29b0 : decide (x60_2 < ((rd_L1 x11_3 x42_1).length : Int)) = true := decide_eq_true c29
                            clear c29
                            by_cases c30 : x65_3 < (l2.length : Int)
                            ·rw [if_pos c30] at H
                             have c30b0 : decide (x65_3 < (l2.length : Int)) = true := decide_eq_true c30
                             clear c30
                             by_cases c31 : x60_2 < ((rd_L1 l2 x65_3).length : Int)
                             ·rw [if_pos c31] at H
                              have c31b0 : decide (x60_2 < ((rd_L1 l2 x65_3).length : Int)) = true := decide_eq_true c31
                              clear c31
                              replace H := Option.bind_eq_some_iff.mp H
                              obtain ⟨t200, A320, H⟩ := H
                              replace H : ((field_Plus.f a0 (rd (rd_L1 x11_3 x42_1) x60_2) t200).bind fun t201 => (matrix_Mul.l2 k3 a0 l2 (x11_3.set (x42_1 : Int).toNat ((rd_L1 x11_3 x42_1).set (x60_2 : Int).toNat t201)) x42_1 (rd_L1 l1 x42_1) x60_2 l1 (l1.length : Int) x42_1 ((rd_L1 y192 x42_1).length : Int) x60_2 (rd_L1 l1 x42_1) ((rd_L1 l1 x42_1).length : Int) (wrap64 (x65_3 + 1)))) = some (r1, r2) := H
                              have A32 := Aside0.mk A320
                              clear A320
                              replace H := Option.bind_eq_some_iff.mp H
                              obtain ⟨t201, A330, H⟩ := H
                              replace H : (matrix_Mul.l2 k3 a0 l2 (x11_3.set (x42_1 : Int).toNat ((rd_L1 x11_3 x42_1).set (x60_2 : Int).toNat t201)) x42_1 (rd_L1 l1 x42_1) x60_2 l1 (l1.length : Int) x42_1 ((rd_L1 y192 x42_1).length : Int) x60_2 (rd_L1 l1 x42_1) ((rd_L1 l1 x42_1).length : Int) (wrap64 (x65_3 + 1))) = some (r1, r2) := H
                              have A33 := Aside0.mk A330
                              clear A330
                              obtain ⟨y202, hy202⟩ : ∃ y_ : List Int, y_ = ((rd_L1 x11_3 x42_1).set (x60_2 : Int).toNat t201) := ⟨_, rfl⟩
                              replace H : (matrix_Mul.l2 k3 a0 l2 (x11_3.set (x42_1 : Int).toNat y202) x42_1 (rd_L1 l1 x42_1) x60_2 l1 (l1.length : Int) x42_1 ((rd_L1 y192 x42_1).length : Int) x60_2 (rd_L1 l1 x42_1) ((rd_L1 l1 x42_1).length : Int) (wrap64 (x65_3 + 1))) = some (r1, r2) := by first | (rw [hy202]; with_reducible exact H) | (have H2_ := (Option.bind_some _ _).symm.trans H; rw [hy202]; with_reducible exact H2_) | (have H2_ := (Option.bind_some _ _).symm.trans H; with_reducible exact H2_) | with_reducible exact H | (rw [hy202]; exact H) | exact H
                              have Ny202 := Aside0.mk hy202
                              clear hy202
                              obtain ⟨y204, hy204⟩ : ∃ y_ : List (List Int), y_ = (x11_3.set (x42_1 : Int).toNat y202) := ⟨_, rfl⟩
                              replace H : (matrix_Mul.l2 k3 a0 l2 y204 x42_1 (rd_L1 l1 x42_1) x60_2 l1 (l1.length : Int) x42_1 ((rd_L1 y192 x42_1).length : Int) x60_2 (rd_L1 l1 x42_1) ((rd_L1 l1 x42_1).length : Int) (wrap64 (x65_3 + 1))) = some (r1, r2) := by first | (rw [hy204]; with_reducible exact H) | (have H2_ := (Option.bind_some _ _).symm.trans H; rw [hy204]; with_reducible exact H2_) | (have H2_ := (Option.bind_some _ _).symm.trans H; with_reducible exact H2_) | with_reducible exact H | (rw [hy204]; exact H) | exact H
                              have Ny204 := Aside0.mk hy204
                              clear hy204
                              have H' := Aside0.mk H
                              clear H
                              have p194 : 0 ≤ (x65_3 : Int) := of_decide_eq_true (by first | (with_reducible assumption) | assumption)
                              have q194 : x65_3 < ((rd_L1 l1 x42_1).length : Int) := of_decide_eq_true (by first | (with_reducible assumption) | assumption)
                              obtain ⟨ad194, e194, hx194_0⟩ := Kd.at_int HR187_0.out x65_3 p194 q194
                              cases e194
                              replace hx194_0 := (HB.out.cell (World.block_lt_of_cell? w _ hx194_0)).trans hx194_0
                              replace p194 := eq_true p194
                              replace q194 := eq_true q194
                              try go_wp2
                              have n0_ := Aside0.mk (Kd.S_drew HO_11.out)
                              have n1_ := Aside0.mk (below_drew1 HB.out)
                              clear HO_11
                              clear HB
                              have HO_11 := n0_
                              have HB := n1_
                              clear n0_ n1_
                              have p195 : 0 ≤ (x42_1 : Int) := of_decide_eq_true (by first | (with_reducible assumption) | assumption)
                              have q195 : x42_1 < (x11_3.length : Int) := of_decide_eq_true (by first | (with_reducible assumption) | assumption)
                              obtain ⟨ad195, A195_0, c195_0, e195, hx195_0, hl195_0, hi195_0⟩ := at_L1 (Kd.S_reads' HO_11.out).2.2 x42_1 p195 q195
                              obtain rfl : (⟨go17, 0, none⟩ : Addr) = ad195 := (by injection e195)
                              obtain ⟨ce195, hce195, hMe195, hcc195⟩ := Kd.S_get HO_11.out [] x42_1 p195 (by first | exact q195 | exact of_decide_eq_true (by first | (with_reducible assumption) | assumption) | (have e_ := (Kd.S_reads' HO_11.out).1; omega))
                              obtain ⟨ve195_0, rfl, ge195_0⟩ := hMe195
                              have hv195_0 := hcc195 0 _ rfl
                              rw [Nat.add_zero, show ((Kd.slice 22 (Kd.int .u64))).sz = 1 from rfl, Nat.mul_one] at hv195_0
                              replace hv195_0 := Option.some.inj (hv195_0.symm.trans hx195_0)
                              rw [hv195_0] at ge195_0
                              have HL195_0 := Aside0.mk (show Kd.R (Kd.int .u64) 22 _ _ _ _ (rd_L1 x11_3 x42_1) from ge195_0)
                              clear hv195_0 ge195_0
                              have HX195_0 := Aside0.mk hx195_0
                              clear hcc195 hce195
                              (first | simp only [add_plain] at hx195_0 | simp only [add_at] at hx195_0 | simp only [Addr.add, Nat.zero_add] at hx195_0 | skip)
                              have HR195_0 := Aside0.mk hi195_0
                              have HC195_0 := Aside0.mk hl195_0
                              clear hi195_0 hl195_0
                              replace p195 := eq_true p195
                              replace q195 := eq_true q195
                              have p196 : 0 ≤ (x42_1 : Int) := of_decide_eq_true (by first | (with_reducible assumption) | assumption)
                              have q196 : x42_1 < (x11_3.length : Int) := of_decide_eq_true (by first | (with_reducible assumption) | assumption)
                              obtain ⟨ad196, A196_0, c196_0, e196, hx196_0, hl196_0, hi196_0⟩ := at_L1 (Kd.S_reads' HO_11.out).2.2 x42_1 p196 q196
                              obtain rfl : (⟨go17, 0, none⟩ : Addr) = ad196 := (by injection e196)
                              obtain ⟨ce196, hce196, hMe196, hcc196⟩ := Kd.S_get HO_11.out [] x42_1 p196 (by first | exact q196 | exact of_decide_eq_true (by first | (with_reducible assumption) | assumption) | (have e_ := (Kd.S_reads' HO_11.out).1; omega))
                              obtain ⟨ve196_0, rfl, ge196_0⟩ := hMe196
                              have hv196_0 := hcc196 0 _ rfl
                              rw [Nat.add_zero, show ((Kd.slice 22 (Kd.int .u64))).sz = 1 from rfl, Nat.mul_one] at hv196_0
                              replace hv196_0 := Option.some.inj (hv196_0.symm.trans hx196_0)
                              rw [hv196_0] at ge196_0
                              have HL196_0 := Aside0.mk (show Kd.R (Kd.int .u64) 22 _ _ _ _ (rd_L1 x11_3 x42_1) from ge196_0)
                              clear hv196_0 ge196_0
                              have HX196_0 := Aside0.mk hx196_0
                              clear hcc196 hce196
                              (first | simp only [add_plain] at hx196_0 | simp only [add_at] at hx196_0 | simp only [Addr.add, Nat.zero_add] at hx196_0 | skip)
                              have HR196_0 := Aside0.mk hi196_0
                              have HC196_0 := Aside0.mk hl196_0
                              clear hi196_0 hl196_0
                              replace p196 := eq_true p196
                              replace q196 := eq_true q196
                              have ea_ := Option.some.inj (hx195_0.symm.trans hx196_0)
                              injection ea_ with ea_ en_ ec_
                              subst ea_
                              subst ec_
                              clear en_
                              have p197 : 0 ≤ (x60_2 : Int) := of_decide_eq_true (by first | (with_reducible assumption) | assumption)
                              have q197 : x60_2 < ((rd_L1 x11_3 x42_1).length : Int) := of_decide_eq_true (by first | (with_reducible assumption) | assumption)
                              obtain ⟨ad197, e197, hx197_0⟩ := Kd.at_int (by repeat (first | (with_reducible exact HR196_0.out) | (with_reducible refine Kd.C_alloc ?_ _) | (with_reducible refine Kd.C_drewN ?_ _) | (with_reducible refine Kd.C_drew ?_) | exact HR196_0.out)) x60_2 p197 q197
                              cases e197
                              replace p197 := eq_true p197
                              replace q197 := eq_true q197
                              have p198 : 0 ≤ (x65_3 : Int) := of_decide_eq_true (by first | (with_reducible assumption) | assumption)
                              have q198 : x65_3 < (l2.length : Int) := of_decide_eq_true (by first | (with_reducible assumption) | assumption)
                              obtain ⟨ad198, A198_0, c198_0, e198, hx198_0, hl198_0, hi198_0⟩ := at_L1 HR2.out x65_3 p198 q198
                              have hw198_0 := hx198_0
                              obtain rfl : ad188 = ad198 := (by injection e198)
                              replace hx198_0 := (HB.out.cell (World.block_lt_of_cell? w _ hx198_0)).trans hx198_0
                              have HR198_0 := Aside0.mk hi198_0
                              have HC198_0 := Aside0.mk hl198_0
                              clear hi198_0 hl198_0
                              replace p198 := eq_true p198
                              replace q198 := eq_true q198
                              have p199 : 0 ≤ (x60_2 : Int) := of_decide_eq_true (by first | (with_reducible assumption) | assumption)
                              have q199 : x60_2 < ((rd_L1 l2 x65_3).length : Int) := of_decide_eq_true (by first | (with_reducible assumption) | assumption)
                              obtain ⟨ad199, e199, hx199_0⟩ := Kd.at_int HR198_0.out x60_2 p199 q199
                              have hw199_0 := hx199_0
                              cases e199
                              replace hx199_0 := (HB.out.cell (World.block_lt_of_cell? w _ hx199_0)).trans hx199_0
                              replace p199 := eq_true p199
                              replace q199 := eq_true q199
                              refine start_ (n := 26) (S := fun w' => w'.cell? ⟨go17, (x42_1).toNat, none⟩ = some (.slice (some ad197) (rd_L1 x11_3 x42_1).length c195_0) ∧ w'.cell? ⟨go17, (x42_1).toNat, none⟩ = some (.slice (some ad197) (rd_L1 x11_3 x42_1).length c195_0) ∧ w'.cell? (ad197.add (x60_2).toNat) = some (.int .u64 (rd (rd_L1 x11_3 x42_1) x60_2)) ∧ w'.cell? (ad188.add (x65_3).toNat) = some (.slice (some ad199) (rd_L1 l2 x65_3).length c198_0) ∧ w'.cell? (ad199.add (x60_2).toNat) = some (.int .u64 (rd (rd_L1 l2 x65_3) x60_2))) (ds := [25]) #[false, false, false, false, false, false, false, false, false, false, false, false, false, false, false, false, false, false, false, false, false, false, false, false, false, false] (by kernel_rfl) rfl rfl ⟨hx195_0, hx196_0, hx197_0, ((HB.out.cell (World.block_lt_of_cell? w _ hw198_0)).trans hw198_0), ((HB.out.cell (World.block_lt_of_cell? w _ hw199_0)).trans hw199_0)⟩ (fun hHeld => ?_); refine with_tabW matrix_Mul.tab21 matrix_Mul.bits21 (fun HT_ HW_ => ?_)
                              generalize wr.drew = w35 at HO_11 HB HL195_0 HL196_0 HR195_0 HR196_0 HR198_0 HX195_0 HX196_0 hx195_0 hx196_0 hx197_0 hx198_0 hx199_0 hHeld ⊢
                              refine pure_ (i := 0) (N := some 70) (v := ?_) (a' := ?_) #[true, false, false, false, false, false, false, false, false, false, false, false, false, false, false, false, false, false, false, false, false, false, false, false, false, false] rfl rfl (any_of HT_.out (by kernel_rfl)) (fun _ _ _ h => h) (Or.inl ⟨by rfl, ?_⟩) ?_ ?_
                              rotate_left
                              ·intro w'
                               go_simp
                               with_reducible rfl
                              rotate_left
                              ·simp only [Act.put, List.setIfInBounds_toArray, List.set_cons_zero, List.set_cons_succ, i64_w, i32_w]
                               rfl
                              refine pure_ (i := 1) (N := some 71) (v := ?_) (a' := ?_) #[true, true, false, false, false, false, false, false, false, false, false, false, false, false, false, false, false, false, false, false, false, false, false, false, false, false] rfl rfl (any_of HT_.out (by kernel_rfl)) (fun _ _ _ h => h) (Or.inl ⟨by rfl, ?_⟩) ?_ ?_
                              rotate_left
                              ·intro w'
                               go_simp
                               with_reducible rfl
                              rotate_left
                              ·simp only [Act.put, List.setIfInBounds_toArray, List.set_cons_zero, List.set_cons_succ, i64_w, i32_w]
                               rfl
                              refine pure_ (i := 2) (N := some 72) (v := ?_) (a' := ?_) #[true, true, true, false, false, false, false, false, false, false, false, false, false, false, false, false, false, false, false, false, false, false, false, false, false, false] rfl rfl (any_of HT_.out (by kernel_rfl)) (fun _ _ _ h => h) (Or.inl ⟨by rfl, ?_⟩) ?_ ?_
                              rotate_left
                              ·intro w'
                               go_simp
                               with_reducible rfl
                              rotate_left
                              ·simp only [Act.put, List.setIfInBounds_toArray, List.set_cons_zero, List.set_cons_succ, i64_w, i32_w]
                               rfl
                              refine pure_ (i := 4) (N := some 74) (v := ?_) (a' := ?_) #[true, true, true, false, true, false, false, false, false, false, false, false, false, false, false, false, false, false, false, false, false, false, false, false, false, false] rfl rfl (any_of HT_.out (by kernel_rfl)) (fun _ _ _ h => h) (Or.inl ⟨by rfl, ?_⟩) ?_ ?_
                              rotate_left
                              ·intro w'
                               go_simp
                               with_reducible rfl
                              rotate_left
                              ·simp only [Act.put, List.setIfInBounds_toArray, List.set_cons_zero, List.set_cons_succ, i64_w, i32_w]
                               rfl
                              refine pure_ (i := 5) (N := some 75) (v := ?_) (a' := ?_) #[true, true, true, false, true, true, false, false, false, false, false, false, false, false, false, false, false, false, false, false, false, false, false, false, false, false] rfl rfl (any_of HT_.out (by kernel_rfl)) (fun _ _ _ h => h) (Or.inl ⟨by rfl, ?_⟩) ?_ ?_
                              rotate_left
                              ·intro w'
                               go_simp
                               with_reducible rfl
                              rotate_left
                              ·simp only [Act.put, List.setIfInBounds_toArray, List.set_cons_zero, List.set_cons_succ, i64_w, i32_w]
                               rfl
                              refine pure_ (i := 6) (N := some 76) (v := ?_) (a' := ?_) #[true, true, true, false, true, true, true, false, false, false, false, false, false, false, false, false, false, false, false, false, false, false, false, false, false, false] rfl rfl (any_of HT_.out (by kernel_rfl)) (fun _ _ _ h => h) (Or.inl ⟨by rfl, ?_⟩) ?_ ?_
                              rotate_left
                              ·intro w'
                               go_simp
                               with_reducible rfl
                              rotate_left
                              ·simp only [Act.put, List.setIfInBounds_toArray, List.set_cons_zero, List.set_cons_succ, i64_w, i32_w]
                               rfl
                              refine pure_ (i := 7) (N := some 77) (v := ?_) (a' := ?_) #[true, true, true, false, true, true, true, true, false, false, false, false, false, false, false, false, false, false, false, false, false, false, false, false, false, false] rfl rfl (any_of HT_.out (by kernel_rfl)) (fun _ _ _ h => h) (Or.inl ⟨by rfl, ?_⟩) ?_ ?_
                              rotate_left
                              ·intro w'
                               go_simp
                               with_reducible rfl
                              rotate_left
                              ·simp only [Act.put, List.setIfInBounds_toArray, List.set_cons_zero, List.set_cons_succ, i64_w, i32_w]
                               rfl
                              refine pure_ (i := 8) (N := some 78) (v := ?_) (a' := ?_) #[true, true, true, false, true, true, true, true, true, false, false, false, false, false, false, false, false, false, false, false, false, false, false, false, false, false] rfl rfl (any_of HT_.out (by kernel_rfl)) (fun _ _ _ h => h) (Or.inl ⟨by rfl, ?_⟩) ?_ ?_
                              rotate_left
                              ·intro w'
                               go_simp
                               with_reducible rfl
                              rotate_left
                              ·simp only [Act.put, List.setIfInBounds_toArray, List.set_cons_zero, List.set_cons_succ, i64_w, i32_w]
                               rfl
                              refine pure_ (i := 10) (N := some 80) (v := ?_) (a' := ?_) #[true, true, true, false, true, true, true, true, true, false, true, false, false, false, false, false, false, false, false, false, false, false, false, false, false, false] rfl rfl (any_of HT_.out (by kernel_rfl)) (fun _ _ _ h => h) (Or.inl ⟨by rfl, ?_⟩) ?_ ?_
                              rotate_left
                              ·intro w'
                               go_simp
                               with_reducible rfl
                              rotate_left
                              ·simp only [Act.put, List.setIfInBounds_toArray, List.set_cons_zero, List.set_cons_succ, i64_w, i32_w]
                               rfl
                              refine pure_ (i := 13) (N := some 83) (v := ?_) (a' := ?_) #[true, true, true, false, true, true, true, true, true, false, true, false, false, true, false, false, false, false, false, false, false, false, false, false, false, false] rfl rfl (any_of HT_.out (by kernel_rfl)) (fun _ _ _ h => h) (Or.inl ⟨by rfl, ?_⟩) ?_ ?_
                              rotate_left
                              ·intro w'
                               go_simp
                               with_reducible rfl
                              rotate_left
                              ·simp only [Act.put, List.setIfInBounds_toArray, List.set_cons_zero, List.set_cons_succ, i64_w, i32_w]
                               rfl
                              refine pure_ (i := 14) (N := some 84) (v := ?_) (a' := ?_) #[true, true, true, false, true, true, true, true, true, false, true, false, false, true, true, false, false, false, false, false, false, false, false, false, false, false] rfl rfl (any_of HT_.out (by kernel_rfl)) (fun _ _ _ h => h) (Or.inl ⟨by rfl, ?_⟩) ?_ ?_
                              rotate_left
                              ·intro w'
                               go_simp
                               with_reducible rfl
                              rotate_left
                              ·simp only [Act.put, List.setIfInBounds_toArray, List.set_cons_zero, List.set_cons_succ, i64_w, i32_w]
                               rfl
                              refine pure_ (i := 15) (N := some 85) (v := ?_) (a' := ?_) #[true, true, true, false, true, true, true, true, true, false, true, false, false, true, true, true, false, false, false, false, false, false, false, false, false, false] rfl rfl (any_of HT_.out (by kernel_rfl)) (fun _ _ _ h => h) (Or.inl ⟨by rfl, ?_⟩) ?_ ?_
                              rotate_left
                              ·intro w'
                               go_simp
                               with_reducible rfl
                              rotate_left
                              ·simp only [Act.put, List.setIfInBounds_toArray, List.set_cons_zero, List.set_cons_succ, i64_w, i32_w]
                               rfl
                              refine pure_ (i := 16) (N := some 86) (v := ?_) (a' := ?_) #[true, true, true, false, true, true, true, true, true, false, true, false, false, true, true, true, true, false, false, false, false, false, false, false, false, false] rfl rfl (any_of HT_.out (by kernel_rfl)) (fun _ _ _ h => h) (Or.inl ⟨by rfl, ?_⟩) ?_ ?_
                              rotate_left
                              ·intro w'
                               go_simp
                               with_reducible rfl
                              rotate_left
                              ·simp only [Act.put, List.setIfInBounds_toArray, List.set_cons_zero, List.set_cons_succ, i64_w, i32_w]
                               rfl
                              refine pure_ (i := 17) (N := some 87) (v := ?_) (a' := ?_) #[true, true, true, false, true, true, true, true, true, false, true, false, false, true, true, true, true, true, false, false, false, false, false, false, false, false] rfl rfl (any_of HT_.out (by kernel_rfl)) (fun _ _ _ h => h) (Or.inl ⟨by rfl, ?_⟩) ?_ ?_
                              rotate_left
                              ·intro w'
                               go_simp
                               with_reducible rfl
                              rotate_left
                              ·simp only [Act.put, List.setIfInBounds_toArray, List.set_cons_zero, List.set_cons_succ, i64_w, i32_w]
                               rfl
                              refine pure_ (i := 19) (N := some 89) (v := ?_) (a' := ?_) #[true, true, true, false, true, true, true, true, true, false, true, false, false, true, true, true, true, true, false, true, false, false, false, false, false, false] rfl rfl (any_of HT_.out (by kernel_rfl)) (fun _ _ _ h => h) (Or.inl ⟨by rfl, ?_⟩) ?_ ?_
                              rotate_left
                              ·intro w'
                               go_simp
                               with_reducible rfl
                              rotate_left
                              ·simp only [Act.put, List.setIfInBounds_toArray, List.set_cons_zero, List.set_cons_succ, i64_w, i32_w]
                               rfl
                              refine take_ (i := 3) (N := some 73) (v := ?_) (a' := ?_) #[true, true, true, true, true, true, true, true, true, false, true, false, false, true, true, true, true, true, false, true, false, false, false, false, false, false] rfl rfl (take_ofW HT_.out HW_.out (by kernel_rfl)) (fun _ _ _ h => h) (Or.inl ⟨by rfl, ?_⟩) hHeld ?_ ?_
                              rotate_left
                              ·rintro w' ⟨s0, s1, s2, s3, s4⟩
                               go_simp
                               with_reducible rfl
                              rotate_left
                              ·simp only [Act.put, List.setIfInBounds_toArray, List.set_cons_zero, List.set_cons_succ, i64_w, i32_w]
                               rfl
                              refine take_ (i := 9) (N := some 79) (v := ?_) (a' := ?_) #[true, true, true, true, true, true, true, true, true, true, true, false, false, true, true, true, true, true, false, true, false, false, false, false, false, false] rfl rfl (take_ofW HT_.out HW_.out (by kernel_rfl)) (fun _ _ _ h => h) (Or.inl ⟨by rfl, ?_⟩) hHeld ?_ ?_
                              rotate_left
                              ·rintro w' ⟨s0, s1, s2, s3, s4⟩
                               go_simp
                               with_reducible rfl
                              rotate_left
                              ·simp only [Act.put, List.setIfInBounds_toArray, List.set_cons_zero, List.set_cons_succ, i64_w, i32_w]
                               rfl
                              refine pure_ (i := 11) (N := some 81) (v := ?_) (a' := ?_) #[true, true, true, true, true, true, true, true, true, true, true, true, false, true, true, true, true, true, false, true, false, false, false, false, false, false] rfl rfl (any_of HT_.out (by kernel_rfl)) (fun _ _ _ h => h) (Or.inl ⟨by rfl, ?_⟩) ?_ ?_
                              rotate_left
                              ·intro w'
                               go_simp
                               with_reducible rfl
                              rotate_left
                              ·simp only [Act.put, List.setIfInBounds_toArray, List.set_cons_zero, List.set_cons_succ, i64_w, i32_w]
                               rfl
                              refine take_ (i := 12) (N := some 82) (v := ?_) (a' := ?_) #[true, true, true, true, true, true, true, true, true, true, true, true, true, true, true, true, true, true, false, true, false, false, false, false, false, false] rfl rfl (take_ofW HT_.out HW_.out (by kernel_rfl)) (fun _ _ _ h => h) (Or.inl ⟨by rfl, ?_⟩) hHeld ?_ ?_
                              rotate_left
                              ·rintro w' ⟨s0, s1, s2, s3, s4⟩
                               go_simp
                               with_reducible rfl
                              rotate_left
                              ·simp only [Act.put, List.setIfInBounds_toArray, List.set_cons_zero, List.set_cons_succ, i64_w, i32_w]
                               rfl
                              refine take_ (i := 18) (N := some 88) (v := ?_) (a' := ?_) #[true, true, true, true, true, true, true, true, true, true, true, true, true, true, true, true, true, true, true, true, false, false, false, false, false, false] rfl rfl (take_ofW HT_.out HW_.out (by kernel_rfl)) (fun _ _ _ h => h) (Or.inl ⟨by rfl, ?_⟩) hHeld ?_ ?_
                              rotate_left
                              ·rintro w' ⟨s0, s1, s2, s3, s4⟩
                               go_simp
                               with_reducible rfl
                              rotate_left
                              ·simp only [Act.put, List.setIfInBounds_toArray, List.set_cons_zero, List.set_cons_succ, i64_w, i32_w]
                               rfl
                              refine pure_ (i := 20) (N := some 90) (v := ?_) (a' := ?_) #[true, true, true, true, true, true, true, true, true, true, true, true, true, true, true, true, true, true, true, true, true, false, false, false, false, false] rfl rfl (any_of HT_.out (by kernel_rfl)) (fun _ _ _ h => h) (Or.inl ⟨by rfl, ?_⟩) ?_ ?_
                              rotate_left
                              ·intro w'
                               go_simp
                               with_reducible rfl
                              rotate_left
                              ·simp only [Act.put, List.setIfInBounds_toArray, List.set_cons_zero, List.set_cons_succ, i64_w, i32_w]
                               rfl
                              refine take_ (i := 21) (N := some 91) (v := ?_) (a' := ?_) #[true, true, true, true, true, true, true, true, true, true, true, true, true, true, true, true, true, true, true, true, true, true, false, false, false, false] rfl rfl (take_ofW HT_.out HW_.out (by kernel_rfl)) (fun _ _ _ h => h) (Or.inl ⟨by rfl, ?_⟩) hHeld ?_ ?_
                              rotate_left
                              ·rintro w' ⟨s0, s1, s2, s3, s4⟩
                               go_simp
                               with_reducible rfl
                              rotate_left
                              ·simp only [Act.put, List.setIfInBounds_toArray, List.set_cons_zero, List.set_cons_succ, i64_w, i32_w]
                               rfl
                              refine one_ (i := 22) (N := some 92) #[true, true, true, true, true, true, true, true, true, true, true, true, true, true, true, true, true, true, true, true, true, true, true, false, false, false] rfl rfl (one_of HT_.out (by kernel_rfl)) (by decide) (fun K hK => ?_)
                              refine goes_ Try.func67 (by kernel_rfl) rfl #[.int .u64 a0, .int .u64 (rd (rd_L1 l1 x42_1) x65_3), .int .u64 (rd (rd_L1 l2 x65_3) x60_2)] (by rfl) rfl rfl (by (try simp only [List.map_toArray, List.map_cons, List.map_nil]); first | done | rfl | (simp only [List.length_drop, List.length_take]; rfl)) ?_
                              with_reducible refine (field_Times.calls a0 (rd (rd_L1 l1 x42_1) x65_3) (rd (rd_L1 l2 x65_3) x60_2) t200 _ A32.out).mono ?_
                              rintro e w' ⟨rfl, ⟨nd, rfl⟩⟩
                              refine ⟨_, rfl, ?_⟩
                              refine hK.out _ _ ⟨hHeld.1, hHeld.2.1, hHeld.2.2.1, ((HB.out.cell (World.block_lt_of_cell? w _ hw198_0)).trans hw198_0), ((HB.out.cell (World.block_lt_of_cell? w _ hw199_0)).trans hw199_0)⟩ (fun hHeld => ?_)
                              clear hK K
                              refine norm_ (a' := ?_) ?_ ?_
                              rotate_left
                              ·show Act.put _ (some 92) _ = _
                               simp only [Act.put, List.setIfInBounds_toArray, List.set_cons_zero, List.set_cons_succ, i64_w, i32_w]
                               rfl
                              refine one_ (i := 23) (N := some 93) #[true, true, true, true, true, true, true, true, true, true, true, true, true, true, true, true, true, true, true, true, true, true, true, true, false, false] rfl rfl (one_of HT_.out (by kernel_rfl)) (by decide) (fun K hK => ?_)
                              refine goes_ Try.func69 (by kernel_rfl) rfl #[.int .u64 a0, .int .u64 (rd (rd_L1 x11_3 x42_1) x60_2), .int .u64 t200] (by rfl) rfl rfl (by (try simp only [List.map_toArray, List.map_cons, List.map_nil]); first | done | rfl | (simp only [List.length_drop, List.length_take]; rfl)) ?_
                              with_reducible refine (field_Plus.calls a0 (rd (rd_L1 x11_3 x42_1) x60_2) t200 t201 _ A33.out).mono ?_
                              rintro e w' ⟨rfl, ⟨nd, rfl⟩⟩
                              refine ⟨_, rfl, ?_⟩
                              have p34 : 0 ≤ (x60_2 : Int) := of_decide_eq_true (by first | (with_reducible assumption) | assumption)
                              have q34 : (x60_2 : Int) < (((rd_L1 x11_3 x42_1).length : Int) : Int) := of_decide_eq_true (by first | (with_reducible assumption) | assumption)
                              obtain ⟨go34, co34, eo34, gb34, gl34, cl34, HG34⟩ := Kd.R_form HL195_0.out (by omega)
                              (first | cases eo34 | (injection eo34 with ea_ en_ ec_; (first | subst ea_ | (injection ea_ with ea_; subst ea_)); subst ec_; clear en_))
                              have GB34 := Aside0.mk gb34
                              have GG34 := Aside0.mk HG34
                              clear gb34 gl34 HG34
                              (first | simp only [add_plain] at hx197_0 | skip)
                              obtain ⟨hx34_0, hf34_0⟩ := Kd.R_celln 0 HL195_0.out (x60_2 : Int) p34 q34
                              replace p34 := eq_true p34
                              replace q34 := eq_true q34
                              have hq36 : (x42_1 : Int) < (x11_3.length : Int) := (by have h_ : (x42_1 : Int) < ((x11_3.length : Int) : Int) := of_decide_eq_true (by first | (with_reducible assumption) | assumption); first | exact h_ | (have e_ := (Kd.S_reads' HO_11.out).1; omega) | simpa only [List.length_set, List.length_set] using h_)
                              obtain ⟨oki36, ce36, hcl36, hM36, hcc36, hok36, hbk36⟩ := Kd.S_borrow HO_11.out [] (x42_1 : Int) (of_decide_eq_true (by first | (with_reducible assumption) | assumption)) hq36
                              obtain ⟨ve36_0, rfl, ge36_0⟩ := hM36
                              have hv36 := hcc36 0 _ rfl
                              rw [Nat.add_zero, show ((Kd.slice 22 (Kd.int .u64))).sz = 1 from rfl, Nat.mul_one] at hv36
                              replace hv36 := Option.some.inj (hv36.symm.trans HX195_0.out)
                              subst hv36
                              clear hcc36 hcl36
                              replace ge36_0 := (show Kd.R (Kd.int .u64) 22 _ _ _ _ (rd_L1 x11_3 x42_1) from ge36_0)
                              have HP36 := Kd.R_putg ge36_0 (x60_2 : Int) t201
                              rw [← Ny202.out] at HP36
                              have HS36 := hbk36 HP36.2 (fun k_ e_ => by injection e_ with e_; subst e_; exact ge36_0.1 _ rfl) (x' := y202) (Kd.M_row HP36.1)
                              rw [← Ny204.out] at HS36
                              have HQ36 := Aside0.mk HS36
                              clear HP36 HS36 hbk36 hok36
                              refine hK.out _ _ ⟨hHeld.1, hHeld.2.1, hHeld.2.2.1, ((HB.out.cell (World.block_lt_of_cell? w _ hw198_0)).trans hw198_0), ((HB.out.cell (World.block_lt_of_cell? w _ hw199_0)).trans hw199_0)⟩ (fun hHeld => ?_)
                              clear hK K
                              refine norm_ (a' := ?_) ?_ ?_
                              rotate_left
                              ·show Act.put _ (some 93) _ = _
                               simp only [Act.put, List.setIfInBounds_toArray, List.set_cons_zero, List.set_cons_succ, i64_w, i32_w]
                               rfl
                              refine pure_ (i := 24) (N := some 94) (v := ?_) (a' := ?_) #[true, true, true, true, true, true, true, true, true, true, true, true, true, true, true, true, true, true, true, true, true, true, true, true, true, false] rfl rfl (any_of HT_.out (by kernel_rfl)) (fun _ _ _ h => h) (Or.inl ⟨by rfl, ?_⟩) ?_ ?_
                              rotate_left
                              ·intro w'
                               go_simp
                               with_reducible rfl
                              rotate_left
                              ·simp only [Act.put, List.setIfInBounds_toArray, List.set_cons_zero, List.set_cons_succ, i64_w, i32_w]
                               rfl
                              refine last_ (i := 25) (N := none) #[true, true, true, true, true, true, true, true, true, true, true, true, true, true, true, true, true, true, true, true, true, true, true, true, true, true] rfl rfl (one_of HT_.out (by kernel_rfl)) (by decide) (fun K hK => ?_)
                              refine skip_ (w1 := ?_) (by rfl) rfl ?_ ?_
                              rotate_left
                              ·go_simp
                               rfl
                              refine hK.out _ _ ?_
                              clear hK K
                              refine done_ (done_of HT_.out (by kernel_rfl)) ?_
                              try go_wp2
                              (try simp only [← hl11_3])
                              go_roundg k3
                              case measure => have := HK1.out; have := HK2.out; have := HK3.out; omega
                              case rel => exact ⟨(y204), (wrap64 (x65_3 + 1)), (by first | rfl | (simp; done) | (simp [*]; done)), H', ⟨by have := HK1.out; have := HK2.out; have := HK3.out; omega⟩, ⟨by (try simp only [hl11_2]); (try simp only [hl11_3]); (with_reducible repeat (first | apply Kd.S_alloc | apply Kd.S_drewN | apply Kd.S_drew)); exact HQ36.out⟩, ⟨by repeat (first | (with_reducible first | exact HB.out | apply below_alloc | apply pw_below_drewN | apply below_drew1 | refine below_set ?_ GB34.out) | exact HB.out)⟩⟩
                             ·rw [if_neg c31] at H
                              exact absurd H (by simp)
                            ·rw [if_neg c30] at H
                             exact absurd H (by simp)
                           ·rw [if_neg c29] at H
                            exact absurd H (by simp)
                          ·rw [if_neg c28] at H
                           exact absurd H (by simp)
                         ·rw [if_neg c27] at H
                          exact absurd H (by simp)
                        ·rw [if_neg c26] at H
                         exact absurd H (by simp)
                       ·rw [if_neg c25] at H
                        exact absurd H (by simp)
                      ·rw [if_neg c24] at H
                       exact absurd H (by simp)
                     ·rw [if_neg c23] at H
                      have c23b0 : decide (x65_3 < ((rd_L1 l1 x42_1).length : Int)) = false := decide_eq_false c23
                      clear c23
                      have H' := Aside0.mk H
                      clear H
                      go_wp2
                      (try simp only [← hl11_2, ← hl11_3])
                      go_roundg k3
                      case measure => have := HK1.out; have := HK2.out; have := HK3.out; omega
                      case rel => exact ⟨(x11_3), (wrap64 (x60_2 + 1)), (by first | rfl | (simp; done) | (simp [*]; done)), H', ⟨by have := HK1.out; have := HK2.out; have := HK3.out; omega⟩, ⟨by (try simp only [hl11_2]); (try simp only [hl11_3]); (with_reducible repeat (first | apply Kd.S_alloc | apply Kd.S_drewN | apply Kd.S_drew)); exact HO_11.out⟩, ⟨by repeat (first | (with_reducible first | exact HB.out | apply below_alloc | apply pw_below_drewN | apply below_drew1) | exact HB.out)⟩⟩
                  ·rw [if_neg c22] at H
                   have c22b0 : decide (x60_2 < ((rd_L1 y192 x42_1).length : Int)) = false := decide_eq_false c22
                   clear c22
                   have H' := Aside0.mk H
                   clear H
                   go_wp2
                   (try simp only [← hl11_2])
                   go_roundg k2
                   case measure => have := HK1.out; have := HK2.out; omega
                   case rel => exact ⟨(x11_2), (wrap64 (x42_1 + 1)), (by first | rfl | (simp; done) | (simp [*]; done)), H', ⟨by have := HK1.out; have := HK2.out; omega⟩, ⟨by (try simp only [hl11_2]); (with_reducible repeat (first | apply Kd.S_alloc | apply Kd.S_drewN | apply Kd.S_drew)); exact HO_11.out⟩, ⟨by repeat (first | (with_reducible first | exact HB.out | apply below_alloc | apply pw_below_drewN | apply below_drew1) | exact HB.out)⟩⟩
               ·rw [if_neg c16] at H
                exact absurd H (by simp)
              ·rw [if_neg c15] at H
               exact absurd H (by simp)
             ·rw [if_neg c14] at H
              exact absurd H (by simp)
            ·rw [if_neg c13] at H
             exact absurd H (by simp)
           ·rw [if_neg c12] at H
            exact absurd H (by simp)
          ·rw [if_neg c11] at H
           exact absurd H (by simp)
         ·rw [if_neg c10] at H
          have c10b0 : decide (x42_1 < (l1.length : Int)) = false := decide_eq_false c10
          clear c10
          simp only [Option.some.injEq, Prod.mk.injEq] at H
          obtain ⟨rfl, rfl⟩ := H
          go_wp2
          go_ret2
          exact ⟨_, by first | rfl | (simp [errW_none, errW_some] <;> rfl) | (simp [*, errW_none, errW_some] <;> rfl), by (with_reducible repeat (first | apply Kd.S_alloc | apply Kd.S_drewN | apply Kd.S_drew)); exact HO_11.out, by repeat (first | (with_reducible first | exact HB.out | apply below_alloc | apply pw_below_drewN | apply below_drew1) | exact HB.out)⟩
      ·rw [if_neg c7] at H
       exact absurd H (by simp)
     ·rw [if_neg c6] at H
      exact absurd H (by simp)
    ·rw [if_neg c5] at H
     have c5b0 : (((rd_L1 l1 0).length : Int) == (l2.length : Int)) = false := beq_eq_false_iff_ne.mpr c5
     have c5b1 : (((rd_L1 l1 0).length : Int) != (l2.length : Int)) = true := bne_iff_ne.mpr c5
     have c5b2 : ((rd_L1 l1 0).length == l2.length) = false := by first | simpa using c5 | (simp at c5 ⊢; omega)
     simp only [Option.some.injEq, Prod.mk.injEq] at H
     obtain ⟨rfl, rfl⟩ := H
     have p183 : 0 ≤ (0 : Int) := (by omega)
     have q183 : 0 < (l1.length : Int) := of_decide_eq_true (by first | (with_reducible assumption) | assumption)
     obtain ⟨ad183, A183_0, c183_0, e183, hx183_0, hl183_0, hi183_0⟩ := at_L1 HR1.out 0 p183 q183
     cases e183
     have qi183 : (0 < l1.length) = True := eq_true (by omega)
     (try rw [show ((0 : Int)).toNat = 0 from rfl] at hx183_0)
     (try rw [Addr.add_zero'] at hx183_0)
     replace hx183_0 := (HB.out.cell (World.block_lt_of_cell? w _ hx183_0)).trans hx183_0
     have HR183_0 := Aside0.mk hi183_0
     have HC183_0 := Aside0.mk hl183_0
     clear hi183_0 hl183_0
     replace p183 := eq_true p183
     replace q183 := eq_true q183
     go_wp2
     go_ret2
     exact ⟨_, by first | rfl | (simp [errW_none, errW_some] <;> rfl) | (simp [*, errW_none, errW_some] <;> rfl), by first | exact Kd.S_nil _ _ _ _ _ | exact Kd.N_nil _ _ _ _ _ | exact Kd.V_nil _ _ _ _ _ | exact Kd.Q_nil _ _ _ _ _ | exact Kd.R_nil _ _ _ _ _, by repeat (first | (with_reducible first | exact HB.out | apply below_alloc | apply pw_below_drewN | apply below_drew1) | exact HB.out)⟩
   ·rw [if_neg c4] at H
    exact absurd H (by simp)
end Go.Proofs.Ytfdkhkajehopkaa.Mb
