/- The law juntolaw03_MatrixSolutions as a Lean function, and its walk. (Made by this session's own program out of what the kit's print wrote; no text of the print.) -/
import Derived.Test.YtfdkhkajehopkaaMb0
import Derived.Test.YtfdkhkajehopkaaMb1
import Derived.Test.YtfdkhkajehopkaaMb3
import Derived.Test.YtfdkhkajehopkaaMbFLawAlive
import Derived.Test.YtfdkhkajehopkaaMbFMatrixApply
import Derived.Test.YtfdkhkajehopkaaMbFMatrixNull
import Derived.Test.YtfdkhkajehopkaaMbFMatrixSolve
import Derived.Test.YtfdkhkajehopkaaMbFRef3Apply
import Derived.Test.YtfdkhkajehopkaaMbFRef3Free
import Derived.Test.YtfdkhkajehopkaaMbR1
import Derived.Test.YtfdkhkajehopkaaMbRefCheck
namespace Go.Proofs.Ytfdkhkajehopkaa.Mb
open Go.RowKit Go.Proofs.YtfdkhkajehopkaaW.PrintWords Go.Proofs.YtfdkhkajehopkaaW.PrintLast Go.Proofs.YtfdkhkajehopkaaW.PrintMore
attribute [local go_sem] max2_int min2_int max_two min_two max_three min_three max_four min_four   -- for this text's walks alone
set_option linter.unusedVariables false
set_option linter.unusedSimpArgs false

/-! ### juntolaw03_MatrixSolutions: function 12 -/
mutual
def juntolaw03_MatrixSolutions.j0 : Nat → Int → List (List Int) → List Int → Bool → Option (Bool)
 | 0, _, _, _, _ => none
 | k + 1, x0, x1, x2, x36 => if x36 = true then ((juntolaw03_alive.f k).bind fun t225 => (some t225)) else ((matrix_Apply.f k x0 x1 x2).bind fun bt226 => ((matrix_Solve.f k x0 x1 bt226.1).bind fun bt230 => ((matrix_Null.f k x0 x1).bind fun bt234 => ((juntoref03_Free.f k x0 x1).bind fun t238 => (if bt230.2 = 0 then (if (bt230.1.length : Int) = (x2.length : Int) then (if (bt234.1.length : Int) = (t238.length : Int) then ((juntoref03_Apply.f k x0 x1 bt230.1).bind fun t241 => ((juntoref01_Same.f k t241 bt226.1).bind fun t244 => (juntolaw03_MatrixSolutions.j1 k x0 x2 bt230.1 bt234.1 t238 (!t244)))) else (juntolaw03_MatrixSolutions.j1 k x0 x2 bt230.1 bt234.1 t238 true)) else (juntolaw03_MatrixSolutions.j1 k x0 x2 bt230.1 bt234.1 t238 true)) else (juntolaw03_MatrixSolutions.j1 k x0 x2 bt230.1 bt234.1 t238 true))))))
def juntolaw03_MatrixSolutions.j1 : Nat → Int → List Int → List Int → List (List Int) → List Int → Bool → Option (Bool)
 | 0, _, _, _, _, _, _ => none
 | k + 1, x0, x2, x9, x11, x13, x85 => if x85 = true then (none) else (juntolaw03_MatrixSolutions.l0 k x0 x2 x9 x11 x13 (x13.length : Int) 0)
def juntolaw03_MatrixSolutions.l0 : Nat → Int → List Int → List Int → List (List Int) → List Int → Int → Int → Option (Bool)
 | 0, _, _, _, _, _, _, _ => none
 | k + 1, x0, x2, x9, x11, x86, x87, x88 => if x88 < x87 then (if 0 ≤ x88 then (if x88 < (x86.length : Int) then (if x88 < (x11.length : Int) then (if ((rd_L1 x11 x88).length : Int) = (x2.length : Int) then (if 0 ≤ (rd x86 x88) then (if (rd x86 x88) < (x9.length : Int) then (juntolaw03_MatrixSolutions.j3 k x0 x2 x9 x11 x88 (rd x86 x88) x86 x87 x88 ((rd x9 (rd x86 x88)) != 0)) else (none)) else (none)) else (juntolaw03_MatrixSolutions.j3 k x0 x2 x9 x11 x88 (rd x86 x88) x86 x87 x88 true)) else (none)) else (none)) else (none)) else ((juntoref01_Same.f k x2 x9).bind fun t245 => (if t245 = true then ((juntolaw03_alive.f k).bind fun t246 => (some t246)) else (none)))
def juntolaw03_MatrixSolutions.j3 : Nat → Int → List Int → List Int → List (List Int) → Int → Int → List Int → Int → Int → Bool → Option (Bool)
 | 0, _, _, _, _, _, _, _, _, _, _ => none
 | k + 1, x0, x2, x9, x11, x14, x15, x86, x87, x88, x107 => if x107 = true then (none) else (juntolaw03_MatrixSolutions.l1 k x0 x2 x9 x11 x14 x15 x86 x87 x88 (x9.length : Int) 0)
def juntolaw03_MatrixSolutions.l1 : Nat → Int → List Int → List Int → List (List Int) → Int → Int → List Int → Int → Int → Int → Int → Option (Bool)
 | 0, _, _, _, _, _, _, _, _, _, _, _ => none
 | k + 1, x0, x2, x9, x11, x14, x15, x86, x87, x88, x109, x110 => if x110 < x109 then (if 0 ≤ x110 then (if x110 < (x9.length : Int) then (if 0 ≤ x15 then (if x15 < (x2.length : Int) then (if 0 ≤ x14 then (if x14 < (x11.length : Int) then (if x110 < ((rd_L1 x11 x14).length : Int) then ((juntoref01_Mul.f x0 (rd x2 x15) (rd (rd_L1 x11 x14) x110)).bind fun t254 => ((juntoref01_Add.f x0 (rd x9 x110) t254).bind fun t255 => (juntolaw03_MatrixSolutions.l1 k x0 x2 (x9.set (x110 : Int).toNat t255) x11 x14 x15 x86 x87 x88 x109 (wrap64 (x110 + 1))))) else (none)) else (none)) else (none)) else (none)) else (none)) else (none)) else (none)) else (juntolaw03_MatrixSolutions.l0 k x0 x2 x9 x11 x86 x87 (wrap64 (x88 + 1)))
end
def juntolaw03_MatrixSolutions.f (k : Nat) (a0 : Int) (l1 : List (List Int)) (l2 : List Int) : Option (Bool) := (ref_Check1.f k a0 l1).bind fun t222 => (if t222 = 0 then (if 0 < (l1.length : Int) then (if (l2.length : Int) = ((rd_L1 l1 0).length : Int) then ((juntoref01_Within.f k a0 l2).bind fun t224 => (juntolaw03_MatrixSolutions.j0 k a0 l1 l2 (t224 != 0))) else (juntolaw03_MatrixSolutions.j0 k a0 l1 l2 true)) else (none)) else (juntolaw03_MatrixSolutions.j0 k a0 l1 l2 true))
def juntolaw03_MatrixSolutions.T17 : Bool × List (List Nat × List Nat) := (true, [([], []), ([], []), ([], []), ([], []), ([], []), ([3, 4], [3, 4]), ([5], [5]), ([], []), ([], []), ([], []), ([8, 9], [8, 9]), ([10], [10]), ([], []), ([], []), ([12, 13], [12, 13]), ([14], [14]), ([], []), ([15, 16], [15, 16]), ([17], [17]), ([7, 11, 18], [7, 11, 18]), ([2, 6, 19, 19], [2, 6, 19]), ([0, 1, 0, 1, 2, 3, 4, 5, 6, 7, 8, 9, 10, 11, 12, 13, 14, 15, 16, 17, 18, 19, 20], [0, 1]), ([21, 20, 20, 0, 1, 2, 3, 4, 5, 6, 7, 8, 9, 10, 11, 12, 13, 14, 15, 16, 17, 18, 19, 20], [20, 21])])
def juntolaw03_MatrixSolutions.B17 : List Nat := [0, 0, 0, 0, 0, 24, 56, 0, 0, 0, 768, 1792, 0, 0, 12288, 28672, 0, 126976, 258048, 524160, 1048572, 2097151, 4194303]
theorem juntolaw03_MatrixSolutions.tab17 : rtab .any (opsOf Try.f12 17) = juntolaw03_MatrixSolutions.T17 := by kernel_rfl
theorem juntolaw03_MatrixSolutions.bits17 : waitsOk juntolaw03_MatrixSolutions.T17.2 juntolaw03_MatrixSolutions.B17 = true := by kernel_rfl
set_option maxHeartbeats 8000000 in
set_option maxRecDepth 100000 in
theorem juntolaw03_MatrixSolutions.calls (k : Nat) (a0 : Int) (A1 : Option Addr) (c1 : Nat) (l1 : List (List Int)) (A2 : Option Addr) (c2 : Nat) (l2 : List Int) (r : Bool) (w : World) (hr1 : Kd.C (Kd.slice 22 (Kd.int .u64)) w A1 l1.length l1) (hc1 : l1.length ≤ c1) (hr2 : Kd.C (Kd.int .u64) w A2 l2.length l2) (hc2 : l2.length ≤ c2) (h : juntolaw03_MatrixSolutions.f k a0 l1 l2 = some r) :
  Calls Try.prog 12 #[.int .u64 a0, .slice A1 l1.length c1, .slice A2 l2.length c2] w fun e w' => e = .returned (.bool r) ∧ Below w.heap.size w w' := by
 have HR1 := Aside0.mk hr1
 have HC1 := Aside0.mk hc1
 clear hr1 hc1
 have HR2 := Aside0.mk hr2
 have HC2 := Aside0.mk hc2
 clear hr2 hc2
 have HB := Aside0.mk (Below.refl w.heap.size w)
 have H : ((ref_Check1.f k a0 l1).bind fun t222 => (if t222 = 0 then (if 0 < (l1.length : Int) then (if (l2.length : Int) = ((rd_L1 l1 0).length : Int) then ((juntoref01_Within.f k a0 l2).bind fun t224 => (juntolaw03_MatrixSolutions.j0 k a0 l1 l2 (t224 != 0))) else (juntolaw03_MatrixSolutions.j0 k a0 l1 l2 true)) else (none)) else (juntolaw03_MatrixSolutions.j0 k a0 l1 l2 true))) = some r := h
 clear h
 have HC4 := Aside0.mk H
 clear H
 go_enter Try.func12, Try.ntmps12
 go_upto_region 1 with (fail)
 go_cut [36] (fun v36 wc => ∃ (kq : Nat) (x36_3 : Bool), v36 = .bool x36_3 ∧ Aside0 (juntolaw03_MatrixSolutions.j0 kq a0 l1 l2 x36_3 = some r) ∧ Aside0 (kq ≤ k) ∧ Aside0 (Below w.heap.size w wc))
 case first =>
  have H := HC4.out
  clear HC4
  replace H := Option.bind_eq_some_iff.mp H
  obtain ⟨t222, A50, H⟩ := H
  replace H : (if t222 = 0 then (if 0 < (l1.length : Int) then (if (l2.length : Int) = ((rd_L1 l1 0).length : Int) then ((juntoref01_Within.f k a0 l2).bind fun t224 => (juntolaw03_MatrixSolutions.j0 k a0 l1 l2 (t224 != 0))) else (juntolaw03_MatrixSolutions.j0 k a0 l1 l2 true)) else (none)) else (juntolaw03_MatrixSolutions.j0 k a0 l1 l2 true)) = some r := H
  have A5 := Aside0.mk A50
  clear A50
  by_cases c6 : t222 = 0
  ·rw [if_pos c6] at H
   have c6b0 : (t222 == 0) = true := beq_iff_eq.mpr c6
   have c6b1 : (t222 != 0) = false := bne_eq_false_iff_eq.mpr c6
   clear c6
   (first | rw [c6b0] | (simp only [i64_w, i32_w]; rw [c6b0]) | skip)
   by_cases c7 : 0 < (l1.length : Int)
   ·rw [if_pos c7] at H
    have c7b0 : decide (0 < (l1.length : Int)) = true := decide_eq_true c7
    have c7b1 : decide (0 < l1.length) = true := decide_eq_true (by omega)
    clear c7
    by_cases c8 : (l2.length : Int) = ((rd_L1 l1 0).length : Int)
    ·rw [if_pos c8] at H
     have c8b0 : ((l2.length : Int) == ((rd_L1 l1 0).length : Int)) = true := beq_iff_eq.mpr c8
     have c8b1 : ((l2.length : Int) != ((rd_L1 l1 0).length : Int)) = false := bne_eq_false_iff_eq.mpr c8
     have c8b2 : (l2.length == (rd_L1 l1 0).length) = true := by first | simpa using c8 | (simp at c8 ⊢; omega)
     clear c8
     replace H := Option.bind_eq_some_iff.mp H
     obtain ⟨t224, A90, H⟩ := H
     replace H : (juntolaw03_MatrixSolutions.j0 k a0 l1 l2 (t224 != 0)) = some r := H
     have A9 := Aside0.mk A90
     clear A90
     have H' := Aside0.mk H
     clear H
     go_wp2_with (first | (go_at_call 15; (with_reducible refine (ref_Check1.calls k a0 _ _ l1 t222 _ ?side1 ?side2 A5.out).mono ?_); (case side1 => repeat (first | exact (Kd.C_below HR1.out HB.out) | (with_reducible refine Kd.C_alloc ?_ _) | (with_reducible refine Kd.C_drewN ?_ _) | (with_reducible refine Kd.C_drew ?_))); (case side2 => exact HC1.out); rintro e w10 ⟨rfl, hb⟩; have n0_ := Aside0.mk (below_step (by repeat (first | (with_reducible first | exact HB.out | apply below_alloc | apply pw_below_drewN | apply below_drew1) | exact HB.out)) hb); clear HB; have HB := n0_; clear n0_; (try clear hb); (try clear hb2); (try clear hk); (try clear hi); have p223 : 0 ≤ (0 : Int) := (by omega); have q223 : 0 < (l1.length : Int) := of_decide_eq_true (by first | (with_reducible assumption) | assumption); obtain ⟨ad223, A223_0, c223_0, e223, hx223_0, hl223_0, hi223_0⟩ := at_L1 HR1.out 0 p223 q223; cases e223; have qi223 : (0 < l1.length) = True := eq_true (by omega); (try rw [show ((0 : Int)).toNat = 0 from rfl] at hx223_0); (try rw [Addr.add_zero'] at hx223_0); replace hx223_0 := (HB.out.cell (World.block_lt_of_cell? w _ hx223_0)).trans hx223_0; have HR223_0 := Aside0.mk hi223_0; have HC223_0 := Aside0.mk hl223_0; clear hi223_0 hl223_0; replace p223 := eq_true p223; replace q223 := eq_true q223) | (go_at_call 26; (with_reducible refine (juntoref01_Within.calls k a0 _ _ l2 t224 _ ?side1 ?side2 A9.out).mono ?_); (case side1 => repeat (first | exact (Kd.C_below HR2.out HB.out) | (with_reducible refine Kd.C_alloc ?_ _) | (with_reducible refine Kd.C_drewN ?_ _) | (with_reducible refine Kd.C_drew ?_))); (case side2 => exact HC2.out); rintro e w' ⟨rfl, ⟨nd, rfl⟩⟩))
     go_meet
     case rel => exact ⟨_, ((t224 != 0)), (by first | rfl | (simp; done) | (simp [*]; done)), H', ⟨by first | omega | exact Nat.le_refl _⟩, ⟨by repeat (first | (with_reducible first | exact HB.out | apply below_alloc | apply pw_below_drewN | apply below_drew1) | exact HB.out)⟩⟩
    ·rw [if_neg c8] at H
     have c8b0 : ((l2.length : Int) == ((rd_L1 l1 0).length : Int)) = false := beq_eq_false_iff_ne.mpr c8
     have c8b1 : ((l2.length : Int) != ((rd_L1 l1 0).length : Int)) = true := bne_iff_ne.mpr c8
     have c8b2 : (l2.length == (rd_L1 l1 0).length) = false := by first | simpa using c8 | (simp at c8 ⊢; omega)
     have H' := Aside0.mk H
     clear H
     go_wp2_with (first | (go_at_call 15; (with_reducible refine (ref_Check1.calls k a0 _ _ l1 t222 _ ?side1 ?side2 A5.out).mono ?_); (case side1 => repeat (first | exact (Kd.C_below HR1.out HB.out) | (with_reducible refine Kd.C_alloc ?_ _) | (with_reducible refine Kd.C_drewN ?_ _) | (with_reducible refine Kd.C_drew ?_))); (case side2 => exact HC1.out); rintro e w11 ⟨rfl, hb⟩; have n0_ := Aside0.mk (below_step (by repeat (first | (with_reducible first | exact HB.out | apply below_alloc | apply pw_below_drewN | apply below_drew1) | exact HB.out)) hb); clear HB; have HB := n0_; clear n0_; (try clear hb); (try clear hb2); (try clear hk); (try clear hi); have p223 : 0 ≤ (0 : Int) := (by omega); have q223 : 0 < (l1.length : Int) := of_decide_eq_true (by first | (with_reducible assumption) | assumption); obtain ⟨ad223, A223_0, c223_0, e223, hx223_0, hl223_0, hi223_0⟩ := at_L1 HR1.out 0 p223 q223; cases e223; have qi223 : (0 < l1.length) = True := eq_true (by omega); (try rw [show ((0 : Int)).toNat = 0 from rfl] at hx223_0); (try rw [Addr.add_zero'] at hx223_0); replace hx223_0 := (HB.out.cell (World.block_lt_of_cell? w _ hx223_0)).trans hx223_0; have HR223_0 := Aside0.mk hi223_0; have HC223_0 := Aside0.mk hl223_0; clear hi223_0 hl223_0; replace p223 := eq_true p223; replace q223 := eq_true q223))
     go_meet
     case rel => exact ⟨_, (true), (by first | rfl | (simp; done) | (simp [*]; done)), H', ⟨by first | omega | exact Nat.le_refl _⟩, ⟨by repeat (first | (with_reducible first | exact HB.out | apply below_alloc | apply pw_below_drewN | apply below_drew1) | exact HB.out)⟩⟩
   ·rw [if_neg c7] at H
    exact absurd H (by simp)
  ·rw [if_neg c6] at H
   have c6b0 : (t222 == 0) = false := beq_eq_false_iff_ne.mpr c6
   have c6b1 : (t222 != 0) = true := bne_iff_ne.mpr c6
   (first | rw [c6b0] | (simp only [i64_w, i32_w]; rw [c6b0]) | skip)
   have H' := Aside0.mk H
   clear H
   go_wp2_with (first | (go_at_call 15; (with_reducible refine (ref_Check1.calls k a0 _ _ l1 t222 _ ?side1 ?side2 A5.out).mono ?_); (case side1 => repeat (first | exact (Kd.C_below HR1.out HB.out) | (with_reducible refine Kd.C_alloc ?_ _) | (with_reducible refine Kd.C_drewN ?_ _) | (with_reducible refine Kd.C_drew ?_))); (case side2 => exact HC1.out); rintro e w12 ⟨rfl, hb⟩; have n0_ := Aside0.mk (below_step (by repeat (first | (with_reducible first | exact HB.out | apply below_alloc | apply pw_below_drewN | apply below_drew1) | exact HB.out)) hb); clear HB; have HB := n0_; clear n0_; (try clear hb); (try clear hb2); (try clear hk); (try clear hi)))
   go_meet
   case rel => exact ⟨_, (true), (by first | rfl | (simp; done) | (simp [*]; done)), H', ⟨by first | omega | exact Nat.le_refl _⟩, ⟨by repeat (first | (with_reducible first | exact HB.out | apply below_alloc | apply pw_below_drewN | apply below_drew1) | exact HB.out)⟩⟩
 case rest =>
  clear HC4
  try clear c1
  try clear c2
  try clear p2
  try clear q2
  try clear hx2
  try clear qi2
  try clear c6
  try clear c6b0
  try clear c6b1
  try clear c7
  try clear c7b0
  try clear c7b1
  try clear c8
  try clear c8b0
  try clear c8b1
  try clear c8b2
  try clear c9
  try clear c12
  try clear hx223_0
  try clear p223
  try clear q223
  obtain ⟨kq, x36_3, rfl, HA, HJ3, HB⟩ := hcut
  cases kq with
  | zero => exact absurd HA.out (by simp [juntolaw03_MatrixSolutions.j0])
  | succ kj3 =>
   have H := HA.out
   clear HA
   simp only [juntolaw03_MatrixSolutions.j0] at H
   by_cases c13 : x36_3 = true
   ·subst c13
    have H1 : ((juntolaw03_alive.f kj3).bind fun t225 => (some t225)) = some r := by rw [if_pos rfl] at H; exact H
    clear H
    have H := H1
    clear H1
    replace H := Option.bind_eq_some_iff.mp H
    obtain ⟨t225, A140, H⟩ := H
    replace H : (some t225) = some r := H
    have A14 := Aside0.mk A140
    clear A140
    obtain rfl := Option.some.inj H
    go_wp2_with (first | ((with_reducible refine gate_callee (f := 16) rfl ?_); refine goesL_ (some 37) rfl rfl Try.func16 (by kernel_rfl) rfl #[] rfl (by (try simp only [List.map_toArray, List.map_cons, List.map_nil]); first | done | rfl | (simp only [List.length_drop, List.length_take]; rfl)) ?_; (with_reducible refine (juntolaw03_alive.calls kj3  t225 _ A14.out).mono ?_); rintro e w15 ⟨rfl, hb⟩; refine ⟨_, rfl, ?_⟩; have n0_ := Aside0.mk (below_step (by repeat (first | (with_reducible first | exact HB.out | apply below_alloc | apply pw_below_drewN | apply below_drew1) | exact HB.out)) hb); clear HB; have HB := n0_; clear n0_; (try clear hb); (try clear hb2); (try clear hk); (try clear hi)))
    go_ret
    exact ⟨by first | rfl | (simp [errW_none, errW_some] <;> rfl) | (simp [*, errW_none, errW_some] <;> rfl), by repeat (first | (with_reducible first | exact HB.out | apply below_alloc | apply pw_below_drewN | apply below_drew1) | exact HB.out)⟩
   ·replace c13 := Bool.eq_false_iff.mpr c13
    subst c13
    have H1 : ((matrix_Apply.f kj3 a0 l1 l2).bind fun bt226 => ((matrix_Solve.f kj3 a0 l1 bt226.1).bind fun bt230 => ((matrix_Null.f kj3 a0 l1).bind fun bt234 => ((juntoref03_Free.f kj3 a0 l1).bind fun t238 => (if bt230.2 = 0 then (if (bt230.1.length : Int) = (l2.length : Int) then (if (bt234.1.length : Int) = (t238.length : Int) then ((juntoref03_Apply.f kj3 a0 l1 bt230.1).bind fun t241 => ((juntoref01_Same.f kj3 t241 bt226.1).bind fun t244 => (juntolaw03_MatrixSolutions.j1 kj3 a0 l2 bt230.1 bt234.1 t238 (!t244)))) else (juntolaw03_MatrixSolutions.j1 kj3 a0 l2 bt230.1 bt234.1 t238 true)) else (juntolaw03_MatrixSolutions.j1 kj3 a0 l2 bt230.1 bt234.1 t238 true)) else (juntolaw03_MatrixSolutions.j1 kj3 a0 l2 bt230.1 bt234.1 t238 true)))))) = some r := by rw [if_neg (show ¬ (false = true) by decide)] at H; exact H
    clear H
    have H := H1
    clear H1
    replace H := Option.bind_eq_some_iff.mp H
    obtain ⟨⟨t226, t227⟩, A160, H⟩ := H
    replace H : ((matrix_Solve.f kj3 a0 l1 t226).bind fun bt230 => ((matrix_Null.f kj3 a0 l1).bind fun bt234 => ((juntoref03_Free.f kj3 a0 l1).bind fun t238 => (if bt230.2 = 0 then (if (bt230.1.length : Int) = (l2.length : Int) then (if (bt234.1.length : Int) = (t238.length : Int) then ((juntoref03_Apply.f kj3 a0 l1 bt230.1).bind fun t241 => ((juntoref01_Same.f kj3 t241 t226).bind fun t244 => (juntolaw03_MatrixSolutions.j1 kj3 a0 l2 bt230.1 bt234.1 t238 (!t244)))) else (juntolaw03_MatrixSolutions.j1 kj3 a0 l2 bt230.1 bt234.1 t238 true)) else (juntolaw03_MatrixSolutions.j1 kj3 a0 l2 bt230.1 bt234.1 t238 true)) else (juntolaw03_MatrixSolutions.j1 kj3 a0 l2 bt230.1 bt234.1 t238 true))))) = some r := H
    have A16 := Aside0.mk A160
    clear A160
    replace H := Option.bind_eq_some_iff.mp H
    obtain ⟨⟨t230, t231⟩, A170, H⟩ := H
    replace H : ((matrix_Null.f kj3 a0 l1).bind fun bt234 => ((juntoref03_Free.f kj3 a0 l1).bind fun t238 => (if t231 = 0 then (if (t230.length : Int) = (l2.length : Int) then (if (bt234.1.length : Int) = (t238.length : Int) then ((juntoref03_Apply.f kj3 a0 l1 t230).bind fun t241 => ((juntoref01_Same.f kj3 t241 t226).bind fun t244 => (juntolaw03_MatrixSolutions.j1 kj3 a0 l2 t230 bt234.1 t238 (!t244)))) else (juntolaw03_MatrixSolutions.j1 kj3 a0 l2 t230 bt234.1 t238 true)) else (juntolaw03_MatrixSolutions.j1 kj3 a0 l2 t230 bt234.1 t238 true)) else (juntolaw03_MatrixSolutions.j1 kj3 a0 l2 t230 bt234.1 t238 true)))) = some r := H
    have A17 := Aside0.mk A170
    clear A170
    replace H := Option.bind_eq_some_iff.mp H
    obtain ⟨⟨t234, t235⟩, A180, H⟩ := H
    replace H : ((juntoref03_Free.f kj3 a0 l1).bind fun t238 => (if t231 = 0 then (if (t230.length : Int) = (l2.length : Int) then (if (t234.length : Int) = (t238.length : Int) then ((juntoref03_Apply.f kj3 a0 l1 t230).bind fun t241 => ((juntoref01_Same.f kj3 t241 t226).bind fun t244 => (juntolaw03_MatrixSolutions.j1 kj3 a0 l2 t230 t234 t238 (!t244)))) else (juntolaw03_MatrixSolutions.j1 kj3 a0 l2 t230 t234 t238 true)) else (juntolaw03_MatrixSolutions.j1 kj3 a0 l2 t230 t234 t238 true)) else (juntolaw03_MatrixSolutions.j1 kj3 a0 l2 t230 t234 t238 true))) = some r := H
    have A18 := Aside0.mk A180
    clear A180
    replace H := Option.bind_eq_some_iff.mp H
    obtain ⟨t238, A190, H⟩ := H
    replace H : (if t231 = 0 then (if (t230.length : Int) = (l2.length : Int) then (if (t234.length : Int) = (t238.length : Int) then ((juntoref03_Apply.f kj3 a0 l1 t230).bind fun t241 => ((juntoref01_Same.f kj3 t241 t226).bind fun t244 => (juntolaw03_MatrixSolutions.j1 kj3 a0 l2 t230 t234 t238 (!t244)))) else (juntolaw03_MatrixSolutions.j1 kj3 a0 l2 t230 t234 t238 true)) else (juntolaw03_MatrixSolutions.j1 kj3 a0 l2 t230 t234 t238 true)) else (juntolaw03_MatrixSolutions.j1 kj3 a0 l2 t230 t234 t238 true)) = some r := H
    have A19 := Aside0.mk A190
    clear A190
    have HC20 := Aside0.mk H
    clear H
    go_upto_region 7 with (first | ((with_reducible refine gate_callee (f := 38) rfl ?_); refine goesL_ (some 42) rfl rfl Try.func38 (by kernel_rfl) rfl #[.int .u64 a0, .slice A1 l1.length c1, .slice A2 l2.length c2] rfl (by (try simp only [List.map_toArray, List.map_cons, List.map_nil]); first | done | rfl | (simp only [List.length_drop, List.length_take]; rfl)) ?_; (with_reducible refine (matrix_Apply.calls kj3 a0 _ _ l1 _ _ l2 t226 t227 _ ?side1 ?side2 ?side3 ?side4 A16.out).mono ?_); (case side1 => repeat (first | exact (Kd.C_below HR1.out HB.out) | (with_reducible refine Kd.C_alloc ?_ _) | (with_reducible refine Kd.C_drewN ?_ _) | (with_reducible refine Kd.C_drew ?_))); (case side2 => exact HC1.out); (case side3 => repeat (first | exact (Kd.C_below HR2.out HB.out) | (with_reducible refine Kd.C_alloc ?_ _) | (with_reducible refine Kd.C_drewN ?_ _) | (with_reducible refine Kd.C_drew ?_))); (case side4 => exact HC2.out); rintro e w21 ⟨v228, rfl, ho0, hb⟩; refine ⟨_, rfl, ?_⟩; have n0_ := Aside0.mk (Kd.R_lower ho0 (below_size (by repeat (first | (with_reducible first | exact HB.out | apply below_alloc | apply pw_below_drewN | apply below_drew1) | exact HB.out)))); have n1_ := Aside0.mk (below_step (by repeat (first | (with_reducible first | exact HB.out | apply below_alloc | apply pw_below_drewN | apply below_drew1) | exact HB.out)) hb); clear HB; have HO229 := n0_; have HB := n1_; clear n0_ n1_; (try clear hb); (try clear hb2); (try clear hk); (try clear hi); (try clear ho0); obtain ⟨Ao22, co22, eo22⟩ := Kd.R_slice HO229.out; subst eo22) | ((with_reducible refine gate_callee (f := 25) rfl ?_); refine goesL_ (some 49) rfl rfl Try.func25 (by kernel_rfl) rfl #[.int .u64 a0, .slice A1 l1.length c1, .slice Ao22 t226.length co22] rfl (by (try simp only [List.map_toArray, List.map_cons, List.map_nil]); first | done | rfl | (simp only [List.length_drop, List.length_take]; rfl)) ?_; (with_reducible refine (matrix_Solve.calls kj3 a0 _ _ l1 _ _ t226 t230 t231 _ ?side1 ?side2 ?side3 ?side4 A17.out).mono ?_); (case side1 => repeat (first | exact (Kd.C_below HR1.out HB.out) | (with_reducible refine Kd.C_alloc ?_ _) | (with_reducible refine Kd.C_drewN ?_ _) | (with_reducible refine Kd.C_drew ?_))); (case side2 => exact HC1.out); (case side3 => repeat (first | exact (Kd.R_reads' HO229.out).2.2 | (with_reducible refine Kd.C_alloc ?_ _) | (with_reducible refine Kd.C_drewN ?_ _) | (with_reducible refine Kd.C_drew ?_))); (case side4 => exact (Kd.R_reads' HO229.out).2.1); rintro e w23 ⟨v232, rfl, ho0, hb⟩; refine ⟨_, rfl, ?_⟩; have n0_ := Aside0.mk (Kd.R_elder' (by (with_reducible repeat (first | apply Kd.R_alloc | apply Kd.R_drewN | apply Kd.R_drew)); exact HO229.out) (Kd.R_base ho0) hb); have n1_ := Aside0.mk (Kd.R_lower (Kd.R_new' ho0 (Kd.R_lt (by (with_reducible repeat (first | apply Kd.R_alloc | apply Kd.R_drewN | apply Kd.R_drew)); exact HO229.out))) (below_size (by repeat (first | (with_reducible first | exact HB.out | apply below_alloc | apply pw_below_drewN | apply below_drew1) | exact HB.out)))); have n2_ := Aside0.mk (below_step (by repeat (first | (with_reducible first | exact HB.out | apply below_alloc | apply pw_below_drewN | apply below_drew1) | exact HB.out)) hb); clear HO229; clear HB; have HO229 := n0_; have HO233 := n1_; have HB := n2_; clear n0_ n1_ n2_; (try clear hb); (try clear hb2); (try clear hk); (try clear hi); (try clear ho0)) | ((with_reducible refine gate_callee (f := 40) rfl ?_); refine goesL_ (some 55) rfl rfl Try.func40 (by kernel_rfl) rfl #[.int .u64 a0, .slice A1 l1.length c1] rfl (by (try simp only [List.map_toArray, List.map_cons, List.map_nil]); first | done | rfl | (simp only [List.length_drop, List.length_take]; rfl)) ?_; (with_reducible refine (matrix_Null.calls kj3 a0 _ _ l1 t234 t235 _ ?side1 ?side2 A18.out).mono ?_); (case side1 => repeat (first | exact (Kd.C_below HR1.out HB.out) | (with_reducible refine Kd.C_alloc ?_ _) | (with_reducible refine Kd.C_drewN ?_ _) | (with_reducible refine Kd.C_drew ?_))); (case side2 => exact HC1.out); rintro e w24 ⟨v236, rfl, ho0, hb⟩; refine ⟨_, rfl, ?_⟩; have n0_ := Aside0.mk (Kd.R_below (by (with_reducible repeat (first | apply Kd.R_alloc | apply Kd.R_drewN | apply Kd.R_drew)); exact HO229.out) hb); have n1_ := Aside0.mk (Kd.R_below (by (with_reducible repeat (first | apply Kd.R_alloc | apply Kd.R_drewN | apply Kd.R_drew)); exact HO233.out) hb); have n2_ := Aside0.mk (Kd.S_lower (Kd.S_new' (Kd.S_new' ho0 (Kd.R_lt (by (with_reducible repeat (first | apply Kd.R_alloc | apply Kd.R_drewN | apply Kd.R_drew)); exact HO229.out))) (Kd.R_lt (by (with_reducible repeat (first | apply Kd.R_alloc | apply Kd.R_drewN | apply Kd.R_drew)); exact HO233.out))) (below_size (by repeat (first | (with_reducible first | exact HB.out | apply below_alloc | apply pw_below_drewN | apply below_drew1) | exact HB.out)))); have n3_ := Aside0.mk (below_step (by repeat (first | (with_reducible first | exact HB.out | apply below_alloc | apply pw_below_drewN | apply below_drew1) | exact HB.out)) hb); clear HO229; clear HO233; clear HB; have HO229 := n0_; have HO233 := n1_; have HO237 := n2_; have HB := n3_; clear n0_ n1_ n2_ n3_; (try clear hb); (try clear hb2); (try clear hk); (try clear hi); (try clear ho0)) | ((with_reducible refine gate_callee (f := 42) rfl ?_); refine goesL_ (some 60) rfl rfl Try.func42 (by kernel_rfl) rfl #[.int .u64 a0, .slice A1 l1.length c1] rfl (by (try simp only [List.map_toArray, List.map_cons, List.map_nil]); first | done | rfl | (simp only [List.length_drop, List.length_take]; rfl)) ?_; (with_reducible refine (juntoref03_Free.calls kj3 a0 _ _ l1 t238 _ ?side1 ?side2 A19.out).mono ?_); (case side1 => repeat (first | exact (Kd.C_below HR1.out HB.out) | (with_reducible refine Kd.C_alloc ?_ _) | (with_reducible refine Kd.C_drewN ?_ _) | (with_reducible refine Kd.C_drew ?_))); (case side2 => exact HC1.out); rintro e w25 ⟨v239, rfl, ho0, hb⟩; refine ⟨_, rfl, ?_⟩; have n0_ := Aside0.mk (Kd.R_below (by (with_reducible repeat (first | apply Kd.R_alloc | apply Kd.R_drewN | apply Kd.R_drew)); exact HO229.out) hb); have n1_ := Aside0.mk (Kd.R_below (by (with_reducible repeat (first | apply Kd.R_alloc | apply Kd.R_drewN | apply Kd.R_drew)); exact HO233.out) hb); have n2_ := Aside0.mk (Kd.S_below (by (with_reducible repeat (first | apply Kd.S_alloc | apply Kd.S_drewN | apply Kd.S_drew)); exact HO237.out) hb); have n3_ := Aside0.mk (Kd.R_lower ho0 (below_size (by repeat (first | (with_reducible first | exact HB.out | apply below_alloc | apply pw_below_drewN | apply below_drew1) | exact HB.out)))); have n4_ := Aside0.mk (below_step (by repeat (first | (with_reducible first | exact HB.out | apply below_alloc | apply pw_below_drewN | apply below_drew1) | exact HB.out)) hb); clear HO229; clear HO233; clear HO237; clear HB; have HO229 := n0_; have HO233 := n1_; have HO237 := n2_; have HO240 := n3_; have HB := n4_; clear n0_ n1_ n2_ n3_ n4_; (try clear hb); (try clear hb2); (try clear hk); (try clear hi); (try clear ho0)))
    (try simp only [Act.put, List.setIfInBounds_toArray, List.set_cons_zero, List.set_cons_succ])
    go_cut [85] (fun v85 wc => ∃ (kq : Nat) (x85_19 : Bool), v85 = .bool x85_19 ∧ Aside0 (juntolaw03_MatrixSolutions.j1 kq a0 l2 t230 t234 t238 x85_19 = some r) ∧ Aside0 (kq ≤ kj3) ∧ Aside0 (Kd.R (Kd.int .u64) 22 wc w.heap.size (fun _ => True) v232 t230) ∧ Aside0 (Kd.S (Kd.slice 22 (Kd.int .u64)) 33 wc w.heap.size (fun k_ => some k_ ≠ (v232 : Value).ownBlock) v236 t234) ∧ Aside0 (Kd.R (Kd.int .i64) 3 wc w.heap.size (fun _ => True) v239 t238) ∧ Aside0 (Below w.heap.size w wc))
    case first =>
     have H := HC20.out
     clear HC20
     by_cases c26 : t231 = 0
     ·rw [if_pos c26] at H
      have c26b0 : (t231 == 0) = true := beq_iff_eq.mpr c26
      have c26b1 : (t231 != 0) = false := bne_eq_false_iff_eq.mpr c26
      clear c26
      (first | rw [c26b0] | (simp only [i64_w, i32_w]; rw [c26b0]) | skip)
      by_cases c27 : (t230.length : Int) = (l2.length : Int)
      ·rw [if_pos c27] at H
       have c27b0 : ((t230.length : Int) == (l2.length : Int)) = true := beq_iff_eq.mpr c27
       have c27b1 : ((t230.length : Int) != (l2.length : Int)) = false := bne_eq_false_iff_eq.mpr c27
       have c27b2 : (t230.length == l2.length) = true := by first | simpa using c27 | (simp at c27 ⊢; omega)
       clear c27
       by_cases c28 : (t234.length : Int) = (t238.length : Int)
       ·rw [if_pos c28] at H
        have c28b0 : ((t234.length : Int) == (t238.length : Int)) = true := beq_iff_eq.mpr c28
        have c28b1 : ((t234.length : Int) != (t238.length : Int)) = false := bne_eq_false_iff_eq.mpr c28
        have c28b2 : (t234.length == t238.length) = true := by first | simpa using c28 | (simp at c28 ⊢; omega)
        clear c28
        replace H := Option.bind_eq_some_iff.mp H
        obtain ⟨t241, A290, H⟩ := H
        replace H : ((juntoref01_Same.f kj3 t241 t226).bind fun t244 => (juntolaw03_MatrixSolutions.j1 kj3 a0 l2 t230 t234 t238 (!t244))) = some r := H
        have A29 := Aside0.mk A290
        clear A290
        replace H := Option.bind_eq_some_iff.mp H
        obtain ⟨t244, A300, H⟩ := H
        replace H : (juntolaw03_MatrixSolutions.j1 kj3 a0 l2 t230 t234 t238 (!t244)) = some r := H
        have A30 := Aside0.mk A300
        clear A300
        have H' := Aside0.mk H
        clear H
        obtain ⟨Ao31, co31, eo31⟩ := Kd.R_slice HO233.out
        subst eo31
        obtain ⟨Ao32, co32, eo32⟩ := Kd.S_slice HO237.out
        subst eo32
        obtain ⟨Ao33, co33, eo33⟩ := Kd.R_slice HO240.out
        subst eo33
        go_wp2_with (first | (go_at_call 39; (with_reducible refine (juntoref03_Apply.calls kj3 a0 _ _ l1 _ _ t230 t241 _ ?side1 ?side2 ?side3 ?side4 A29.out).mono ?_); (case side1 => repeat (first | exact (Kd.C_below HR1.out HB.out) | (with_reducible refine Kd.C_alloc ?_ _) | (with_reducible refine Kd.C_drewN ?_ _) | (with_reducible refine Kd.C_drew ?_))); (case side2 => exact HC1.out); (case side3 => repeat (first | exact (Kd.R_reads' HO233.out).2.2 | (with_reducible refine Kd.C_alloc ?_ _) | (with_reducible refine Kd.C_drewN ?_ _) | (with_reducible refine Kd.C_drew ?_))); (case side4 => exact (Kd.R_reads' HO233.out).2.1); rintro e w34 ⟨v242, rfl, ho0, hb⟩; have n0_ := Aside0.mk (Kd.R_elder' (by (with_reducible repeat (first | apply Kd.R_alloc | apply Kd.R_drewN | apply Kd.R_drew)); exact HO229.out) (Kd.R_base ho0) hb); have n1_ := Aside0.mk (Kd.R_elder' (by (with_reducible repeat (first | apply Kd.R_alloc | apply Kd.R_drewN | apply Kd.R_drew)); exact HO233.out) (Kd.R_base ho0) hb); have n2_ := Aside0.mk (Kd.S_elder' (by (with_reducible repeat (first | apply Kd.S_alloc | apply Kd.S_drewN | apply Kd.S_drew)); exact HO237.out) (Kd.R_base ho0) hb); have n3_ := Aside0.mk (Kd.R_below (by (with_reducible repeat (first | apply Kd.R_alloc | apply Kd.R_drewN | apply Kd.R_drew)); exact HO240.out) hb); have n4_ := Aside0.mk (Kd.R_lower (Kd.R_new' (Kd.R_new' ho0 (Kd.R_lt (by (with_reducible repeat (first | apply Kd.R_alloc | apply Kd.R_drewN | apply Kd.R_drew)); exact HO229.out))) (Kd.R_lt (by (with_reducible repeat (first | apply Kd.R_alloc | apply Kd.R_drewN | apply Kd.R_drew)); exact HO233.out))) (below_size (by repeat (first | (with_reducible first | exact HB.out | apply below_alloc | apply pw_below_drewN | apply below_drew1) | exact HB.out)))); have n5_ := Aside0.mk (below_step (by repeat (first | (with_reducible first | exact HB.out | apply below_alloc | apply pw_below_drewN | apply below_drew1) | exact HB.out)) hb); clear HO229; clear HO233; clear HO237; clear HO240; clear HB; have HO229 := n0_; have HO233 := n1_; have HO237 := n2_; have HO240 := n3_; have HO243 := n4_; have HB := n5_; clear n0_ n1_ n2_ n3_ n4_ n5_; (try clear hb); (try clear hb2); (try clear hk); (try clear hi); (try clear ho0); obtain ⟨Ao35, co35, eo35⟩ := Kd.R_slice HO243.out; subst eo35) | (go_at_call 43; (with_reducible refine (juntoref01_Same.calls kj3 _ _ t241 _ _ t226 t244 _ ?side1 ?side2 ?side3 ?side4 A30.out).mono ?_); (case side1 => repeat (first | exact (Kd.R_reads' HO243.out).2.2 | (with_reducible refine Kd.C_alloc ?_ _) | (with_reducible refine Kd.C_drewN ?_ _) | (with_reducible refine Kd.C_drew ?_))); (case side2 => exact (Kd.R_reads' HO243.out).2.1); (case side3 => repeat (first | exact (Kd.R_reads' HO229.out).2.2 | (with_reducible refine Kd.C_alloc ?_ _) | (with_reducible refine Kd.C_drewN ?_ _) | (with_reducible refine Kd.C_drew ?_))); (case side4 => exact (Kd.R_reads' HO229.out).2.1); rintro e w' ⟨rfl, ⟨nd, rfl⟩⟩))
        go_meet
        case rel => exact ⟨_, (!t244), (by first | rfl | (simp; done) | (simp [*]; done)), H', ⟨by have := HJ3.out; first | omega | exact Nat.le_refl _⟩, ⟨by (with_reducible repeat (first | apply Kd.R_alloc | apply Kd.R_drewN | apply Kd.R_drew)); exact Kd.R_mono HO233.out (fun _ hk => trivial)⟩, ⟨by (with_reducible repeat (first | apply Kd.S_alloc | apply Kd.S_drewN | apply Kd.S_drew)); exact Kd.S_mono HO237.out (fun _ hk => hk.1.2)⟩, ⟨by (with_reducible repeat (first | apply Kd.R_alloc | apply Kd.R_drewN | apply Kd.R_drew)); exact HO240.out⟩, ⟨by repeat (first | (with_reducible first | exact HB.out | apply below_alloc | apply pw_below_drewN | apply below_drew1) | exact HB.out)⟩⟩
       ·rw [if_neg c28] at H
        have c28b0 : ((t234.length : Int) == (t238.length : Int)) = false := beq_eq_false_iff_ne.mpr c28
        have c28b1 : ((t234.length : Int) != (t238.length : Int)) = true := bne_iff_ne.mpr c28
        have c28b2 : (t234.length == t238.length) = false := by first | simpa using c28 | (simp at c28 ⊢; omega)
        have H' := Aside0.mk H
        clear H
        obtain ⟨Ao36, co36, eo36⟩ := Kd.R_slice HO233.out
        subst eo36
        obtain ⟨Ao37, co37, eo37⟩ := Kd.S_slice HO237.out
        subst eo37
        obtain ⟨Ao38, co38, eo38⟩ := Kd.R_slice HO240.out
        subst eo38
        go_wp2
        go_meet
        case rel => exact ⟨_, (true), (by first | rfl | (simp; done) | (simp [*]; done)), H', ⟨by have := HJ3.out; first | omega | exact Nat.le_refl _⟩, ⟨by (with_reducible repeat (first | apply Kd.R_alloc | apply Kd.R_drewN | apply Kd.R_drew)); exact Kd.R_mono HO233.out (fun _ hk => trivial)⟩, ⟨by (with_reducible repeat (first | apply Kd.S_alloc | apply Kd.S_drewN | apply Kd.S_drew)); exact Kd.S_mono HO237.out (fun _ hk => hk.2)⟩, ⟨by (with_reducible repeat (first | apply Kd.R_alloc | apply Kd.R_drewN | apply Kd.R_drew)); exact HO240.out⟩, ⟨by repeat (first | (with_reducible first | exact HB.out | apply below_alloc | apply pw_below_drewN | apply below_drew1) | exact HB.out)⟩⟩
      ·rw [if_neg c27] at H
       have c27b0 : ((t230.length : Int) == (l2.length : Int)) = false := beq_eq_false_iff_ne.mpr c27
       have c27b1 : ((t230.length : Int) != (l2.length : Int)) = true := bne_iff_ne.mpr c27
       have c27b2 : (t230.length == l2.length) = false := by first | simpa using c27 | (simp at c27 ⊢; omega)
       have H' := Aside0.mk H
       clear H
       obtain ⟨Ao39, co39, eo39⟩ := Kd.R_slice HO233.out
       subst eo39
       go_wp2
       go_meet
       case rel => exact ⟨_, (true), (by first | rfl | (simp; done) | (simp [*]; done)), H', ⟨by have := HJ3.out; first | omega | exact Nat.le_refl _⟩, ⟨by (with_reducible repeat (first | apply Kd.R_alloc | apply Kd.R_drewN | apply Kd.R_drew)); exact Kd.R_mono HO233.out (fun _ hk => trivial)⟩, ⟨by (with_reducible repeat (first | apply Kd.S_alloc | apply Kd.S_drewN | apply Kd.S_drew)); exact Kd.S_mono HO237.out (fun _ hk => hk.2)⟩, ⟨by (with_reducible repeat (first | apply Kd.R_alloc | apply Kd.R_drewN | apply Kd.R_drew)); exact HO240.out⟩, ⟨by repeat (first | (with_reducible first | exact HB.out | apply below_alloc | apply pw_below_drewN | apply below_drew1) | exact HB.out)⟩⟩
     ·rw [if_neg c26] at H
      have c26b0 : (t231 == 0) = false := beq_eq_false_iff_ne.mpr c26
      have c26b1 : (t231 != 0) = true := bne_iff_ne.mpr c26
      (first | rw [c26b0] | (simp only [i64_w, i32_w]; rw [c26b0]) | skip)
      have H' := Aside0.mk H
      clear H
      go_wp2
      go_meet
      case rel => exact ⟨_, (true), (by first | rfl | (simp; done) | (simp [*]; done)), H', ⟨by have := HJ3.out; first | omega | exact Nat.le_refl _⟩, ⟨by (with_reducible repeat (first | apply Kd.R_alloc | apply Kd.R_drewN | apply Kd.R_drew)); exact Kd.R_mono HO233.out (fun _ hk => trivial)⟩, ⟨by (with_reducible repeat (first | apply Kd.S_alloc | apply Kd.S_drewN | apply Kd.S_drew)); exact Kd.S_mono HO237.out (fun _ hk => hk.2)⟩, ⟨by (with_reducible repeat (first | apply Kd.R_alloc | apply Kd.R_drewN | apply Kd.R_drew)); exact HO240.out⟩, ⟨by repeat (first | (with_reducible first | exact HB.out | apply below_alloc | apply pw_below_drewN | apply below_drew1) | exact HB.out)⟩⟩
    case rest =>
     clear HC20
     try clear c1
     try clear c2
     try clear p2
     try clear q2
     try clear hx2
     try clear qi2
     try clear c3
     try clear c4
     try clear c6
     try clear c6b0
     try clear c6b1
     try clear c7
     try clear c7b0
     try clear c7b1
     try clear c8
     try clear c8b0
     try clear c8b1
     try clear c8b2
     try clear c9
     try clear c12
     try clear c13
     try clear c16
     try clear c22
     try clear p22
     try clear q22
     try clear hx22
     try clear qi22
     try clear c25
     try clear c26
     try clear c26b0
     try clear c26b1
     try clear c27
     try clear c27b0
     try clear c27b1
     try clear c27b2
     try clear c28
     try clear c28b0
     try clear c28b1
     try clear c28b2
     try clear c38
     try clear hx223_0
     try clear p2
     try clear p223
     try clear q2
     try clear q223
     obtain ⟨kq, x85_19, rfl, HA, HJ19, HO_9, HO_11, HO_13, HB⟩ := hcut
     cases kq with
     | zero => exact absurd HA.out (by simp [juntolaw03_MatrixSolutions.j1])
     | succ kj19 =>
      have H := HA.out
      clear HA
      simp only [juntolaw03_MatrixSolutions.j1] at H
      by_cases c40 : x85_19 = true
      ·subst c40
       have H1 : (none) = some r := by rw [if_pos rfl] at H; exact H
       clear H
       have H := H1
       clear H1
       exact absurd H (by simp)
      ·replace c40 := Bool.eq_false_iff.mpr c40
       subst c40
       have H1 : (juntolaw03_MatrixSolutions.l0 kj19 a0 l2 t230 t234 t238 (t238.length : Int) 0) = some r := by rw [if_neg (show ¬ (false = true) by decide)] at H; exact H
       clear H
       have H := H1
       clear H1
       have H' := Aside0.mk H
       clear H
       obtain ⟨Ao41, co41, eo41⟩ := Kd.R_slice HO_13.out
       subst eo41
       go_wp2
       go_loopg [88] kj19 (fun kq v88 w' => ∃ (x9_3 : List Int) (x88_3 : Int), v88 = .int .i64 x88_3 ∧ Aside0 (juntolaw03_MatrixSolutions.l0 kq a0 l2 x9_3 t234 t238 (t238.length : Int) x88_3 = some r) ∧ Aside0 (kq ≤ kj19) ∧ Aside0 (Kd.R (Kd.int .u64) 22 w' w.heap.size (fun _ => True) v232 x9_3) ∧ Aside0 (Kd.S (Kd.slice 22 (Kd.int .u64)) 33 w' w.heap.size (fun k_ => some k_ ≠ (v232 : Value).ownBlock) v236 t234) ∧ Aside0 (Kd.R (Kd.int .i64) 3 w' w.heap.size (fun _ => True) (.slice Ao41 t238.length co41) t238) ∧ Aside0 (Below w.heap.size w w'))
       case atStart => exact ⟨(t230), (0), (by first | rfl | (simp; done) | (simp [*]; done)), H', ⟨Nat.le_refl _⟩, ⟨by (with_reducible repeat (first | apply Kd.R_alloc | apply Kd.R_drewN | apply Kd.R_drew)); exact HO_9.out⟩, ⟨by (with_reducible repeat (first | apply Kd.S_alloc | apply Kd.S_drewN | apply Kd.S_drew)); exact HO_11.out⟩, ⟨by (with_reducible repeat (first | apply Kd.R_alloc | apply Kd.R_drewN | apply Kd.R_drew)); exact HO_13.out⟩, ⟨by repeat (first | (with_reducible first | exact HB.out | apply below_alloc | apply pw_below_drewN | apply below_drew1) | exact HB.out)⟩⟩
       case round =>
        clear H'
        try clear c1
        try clear c2
        try clear p2
        try clear q2
        try clear hx2
        try clear qi2
        try clear c3
        try clear c4
        try clear c6
        try clear c6b0
        try clear c6b1
        try clear c7
        try clear c7b0
        try clear c7b1
        try clear c8
        try clear c8b0
        try clear c8b1
        try clear c8b2
        try clear c9
        try clear c12
        try clear c13
        try clear c16
        try clear c22
        try clear p22
        try clear q22
        try clear hx22
        try clear qi22
        try clear c25
        try clear c26
        try clear c26b0
        try clear c26b1
        try clear c27
        try clear c27b0
        try clear c27b1
        try clear c27b2
        try clear c28
        try clear c28b0
        try clear c28b1
        try clear c28b2
        try clear c38
        try clear c40
        try clear hx223_0
        try clear p2
        try clear p22
        try clear p223
        try clear q2
        try clear q22
        try clear q223
        obtain ⟨x9_3, x88_3, rfl, HA, HK3, HO_9, HO_11, HO_86, HB⟩ := hrel
        cases gk with
        | zero => exact absurd HA.out (by simp [juntolaw03_MatrixSolutions.l0])
        | succ k3 =>
         have H := HA.out
         clear HA
         simp only [juntolaw03_MatrixSolutions.l0] at H
         by_cases c42 : x88_3 < (t238.length : Int)
         ·rw [if_pos c42] at H
          have c42b0 : decide (x88_3 < (t238.length : Int)) = true := decide_eq_true c42
          clear c42
          by_cases c43 : 0 ≤ x88_3
          ·rw [if_pos c43] at H
           have c43b0 : decide (0 ≤ x88_3) = true := decide_eq_true c43
           clear c43
           by_cases c44 : x88_3 < (t238.length : Int)
           ·rw [if_pos c44] at H
            have c44b0 : decide (x88_3 < (t238.length : Int)) = true := decide_eq_true c44
            clear c44
            have HC45 := Aside0.mk H
            clear H
            have p247 : 0 ≤ (x88_3 : Int) := of_decide_eq_true (by first | (with_reducible assumption) | assumption)
            have q247 : x88_3 < (t238.length : Int) := of_decide_eq_true (by first | (with_reducible assumption) | assumption)
            obtain ⟨ad247, e247, hx247_0⟩ := Kd.at_int (Kd.R_reads' HO_86.out).2.2 x88_3 p247 q247
            cases e247
            replace p247 := eq_true p247
            replace q247 := eq_true q247
            go_upto_region 12 with (fail)
            go_cut [107] (fun v107 wc => ∃ (kq : Nat) (x107_44 : Bool), v107 = .bool x107_44 ∧ Aside0 (juntolaw03_MatrixSolutions.j3 kq a0 l2 x9_3 t234 x88_3 (rd t238 x88_3) t238 (t238.length : Int) x88_3 x107_44 = some r) ∧ Aside0 (kq ≤ k3) ∧ Aside0 (Kd.R (Kd.int .u64) 22 wc w.heap.size (fun _ => True) v232 x9_3) ∧ Aside0 (Kd.S (Kd.slice 22 (Kd.int .u64)) 33 wc w.heap.size (fun k_ => some k_ ≠ (v232 : Value).ownBlock) v236 t234) ∧ Aside0 (Kd.R (Kd.int .i64) 3 wc w.heap.size (fun _ => True) (.slice (some ad247) t238.length co41) t238) ∧ Aside0 (Below w.heap.size w wc))
            case first =>
             have H := HC45.out
             clear HC45
             by_cases c46 : x88_3 < (t234.length : Int)
             ·rw [if_pos c46] at H
              have c46b0 : decide (x88_3 < (t234.length : Int)) = true := decide_eq_true c46
              clear c46
              (first | rw [c46b0] | (simp only [i64_w, i32_w]; rw [c46b0]) | skip)
              by_cases c47 : ((rd_L1 t234 x88_3).length : Int) = (l2.length : Int)
              ·rw [if_pos c47] at H
               have c47b0 : (((rd_L1 t234 x88_3).length : Int) == (l2.length : Int)) = true := beq_iff_eq.mpr c47
               have c47b1 : (((rd_L1 t234 x88_3).length : Int) != (l2.length : Int)) = false := bne_eq_false_iff_eq.mpr c47
               have c47b2 : ((rd_L1 t234 x88_3).length == l2.length) = true := by first | simpa using c47 | (simp at c47 ⊢; omega)
               clear c47
               by_cases c48 : 0 ≤ (rd t238 x88_3)
               ·rw [if_pos c48] at H
                have c48b0 : decide (0 ≤ (rd t238 x88_3)) = true := decide_eq_true c48
                clear c48
                by_cases c49 : (rd t238 x88_3) < (x9_3.length : Int)
                ·rw [if_pos c49] at H
                 have c49b0 : decide ((rd t238 x88_3) < (x9_3.length : Int)) = true := decide_eq_true c49
                 clear c49
                 have H' := Aside0.mk H
                 clear H
                 obtain ⟨Ao50, co50, eo50⟩ := Kd.S_slice HO_11.out
                 subst eo50
                 have p248 : 0 ≤ (x88_3 : Int) := of_decide_eq_true (by first | (with_reducible assumption) | assumption)
                 have q248 : x88_3 < (t234.length : Int) := of_decide_eq_true (by first | (with_reducible assumption) | assumption)
                 obtain ⟨ad248, A248_0, c248_0, e248, hx248_0, hl248_0, hi248_0⟩ := at_L1 (Kd.S_reads' HO_11.out).2.2 x88_3 p248 q248
                 cases e248
                 obtain ⟨ce248, hce248, hMe248, hcc248⟩ := Kd.S_get HO_11.out [] x88_3 p248 (by first | exact q248 | exact of_decide_eq_true (by first | (with_reducible assumption) | assumption) | (have e_ := (Kd.S_reads' HO_11.out).1; omega))
                 obtain ⟨ve248_0, rfl, ge248_0⟩ := hMe248
                 have hv248_0 := hcc248 0 _ rfl
                 rw [Nat.add_zero, show ((Kd.slice 22 (Kd.int .u64))).sz = 1 from rfl, Nat.mul_one] at hv248_0
                 replace hv248_0 := Option.some.inj (hv248_0.symm.trans hx248_0)
                 rw [hv248_0] at ge248_0
                 have HL248_0 := Aside0.mk (show Kd.R (Kd.int .u64) 22 _ _ _ _ (rd_L1 t234 x88_3) from ge248_0)
                 clear hv248_0 ge248_0
                 clear hcc248 hce248
                 have HR248_0 := Aside0.mk hi248_0
                 have HC248_0 := Aside0.mk hl248_0
                 clear hi248_0 hl248_0
                 replace p248 := eq_true p248
                 replace q248 := eq_true q248
                 obtain ⟨Ao51, co51, eo51⟩ := Kd.R_slice HO_9.out
                 subst eo51
                 have p249 : 0 ≤ ((rd t238 x88_3) : Int) := of_decide_eq_true (by first | (with_reducible assumption) | assumption)
                 have q249 : (rd t238 x88_3) < (x9_3.length : Int) := of_decide_eq_true (by first | (with_reducible assumption) | assumption)
                 obtain ⟨ad249, e249, hx249_0⟩ := Kd.at_int (Kd.R_reads' HO_9.out).2.2 (rd t238 x88_3) p249 q249
                 cases e249
                 replace p249 := eq_true p249
                 replace q249 := eq_true q249
                 go_wp2
                 go_meet
                 case rel => exact ⟨_, (((rd x9_3 (rd t238 x88_3)) != 0)), (by first | rfl | (simp; done) | (simp [*]; done)), H', ⟨by have := HJ3.out; have := HJ19.out; have := HK3.out; first | omega | exact Nat.le_refl _⟩, ⟨by (with_reducible repeat (first | apply Kd.R_alloc | apply Kd.R_drewN | apply Kd.R_drew)); exact HO_9.out⟩, ⟨by (with_reducible repeat (first | apply Kd.S_alloc | apply Kd.S_drewN | apply Kd.S_drew)); exact HO_11.out⟩, ⟨by (with_reducible repeat (first | apply Kd.R_alloc | apply Kd.R_drewN | apply Kd.R_drew)); exact HO_86.out⟩, ⟨by repeat (first | (with_reducible first | exact HB.out | apply below_alloc | apply pw_below_drewN | apply below_drew1) | exact HB.out)⟩⟩
                ·rw [if_neg c49] at H
                 exact absurd H (by simp)
               ·rw [if_neg c48] at H
                exact absurd H (by simp)
              ·rw [if_neg c47] at H
               have c47b0 : (((rd_L1 t234 x88_3).length : Int) == (l2.length : Int)) = false := beq_eq_false_iff_ne.mpr c47
               have c47b1 : (((rd_L1 t234 x88_3).length : Int) != (l2.length : Int)) = true := bne_iff_ne.mpr c47
               have c47b2 : ((rd_L1 t234 x88_3).length == l2.length) = false := by first | simpa using c47 | (simp at c47 ⊢; omega)
               have H' := Aside0.mk H
               clear H
               obtain ⟨Ao52, co52, eo52⟩ := Kd.S_slice HO_11.out
               subst eo52
               have p248 : 0 ≤ (x88_3 : Int) := of_decide_eq_true (by first | (with_reducible assumption) | assumption)
               have q248 : x88_3 < (t234.length : Int) := of_decide_eq_true (by first | (with_reducible assumption) | assumption)
               obtain ⟨ad248, A248_0, c248_0, e248, hx248_0, hl248_0, hi248_0⟩ := at_L1 (Kd.S_reads' HO_11.out).2.2 x88_3 p248 q248
               cases e248
               obtain ⟨ce248, hce248, hMe248, hcc248⟩ := Kd.S_get HO_11.out [] x88_3 p248 (by first | exact q248 | exact of_decide_eq_true (by first | (with_reducible assumption) | assumption) | (have e_ := (Kd.S_reads' HO_11.out).1; omega))
               obtain ⟨ve248_0, rfl, ge248_0⟩ := hMe248
               have hv248_0 := hcc248 0 _ rfl
               rw [Nat.add_zero, show ((Kd.slice 22 (Kd.int .u64))).sz = 1 from rfl, Nat.mul_one] at hv248_0
               replace hv248_0 := Option.some.inj (hv248_0.symm.trans hx248_0)
               rw [hv248_0] at ge248_0
               have HL248_0 := Aside0.mk (show Kd.R (Kd.int .u64) 22 _ _ _ _ (rd_L1 t234 x88_3) from ge248_0)
               clear hv248_0 ge248_0
               clear hcc248 hce248
               have HR248_0 := Aside0.mk hi248_0
               have HC248_0 := Aside0.mk hl248_0
               clear hi248_0 hl248_0
               replace p248 := eq_true p248
               replace q248 := eq_true q248
               go_wp2
               go_meet
               case rel => exact ⟨_, (true), (by first | rfl | (simp; done) | (simp [*]; done)), H', ⟨by have := HJ3.out; have := HJ19.out; have := HK3.out; first | omega | exact Nat.le_refl _⟩, ⟨by (with_reducible repeat (first | apply Kd.R_alloc | apply Kd.R_drewN | apply Kd.R_drew)); exact HO_9.out⟩, ⟨by (with_reducible repeat (first | apply Kd.S_alloc | apply Kd.S_drewN | apply Kd.S_drew)); exact HO_11.out⟩, ⟨by (with_reducible repeat (first | apply Kd.R_alloc | apply Kd.R_drewN | apply Kd.R_drew)); exact HO_86.out⟩, ⟨by repeat (first | (with_reducible first | exact HB.out | apply below_alloc | apply pw_below_drewN | apply below_drew1) | exact HB.out)⟩⟩
             ·rw [if_neg c46] at H
              exact absurd H (by simp)
            case rest =>
             clear HC45
             try clear c1
             try clear c2
             try clear p2
             try clear q2
             try clear hx2
             try clear qi2
             try clear c3
             try clear c4
             try clear c6
             try clear c6b0
             try clear c6b1
             try clear c7
             try clear c7b0
             try clear c7b1
             try clear c8
             try clear c8b0
             try clear c8b1
             try clear c8b2
             try clear c9
             try clear c12
             try clear c13
             try clear c16
             try clear c22
             try clear p22
             try clear q22
             try clear hx22
             try clear qi22
             try clear c24
             try clear p24
             try clear q24
             try clear hx24
             try clear c25
             try clear c26
             try clear c26b0
             try clear c26b1
             try clear c27
             try clear c27b0
             try clear c27b1
             try clear c27b2
             try clear c28
             try clear c28b0
             try clear c28b1
             try clear c28b2
             try clear c38
             try clear c40
             try clear c42
             try clear c42b0
             try clear c43
             try clear c43b0
             try clear c44
             try clear c44b0
             try clear c46
             try clear c46b0
             try clear c47
             try clear c47b0
             try clear c47b1
             try clear c47b2
             try clear c48
             try clear c48b0
             try clear c49
             try clear c49b0
             try clear hx223_0
             try clear hx247_0
             try clear hx248_0
             try clear hx249_0
             try clear p2
             try clear p22
             try clear p223
             try clear p247
             try clear p248
             try clear p249
             try clear q2
             try clear q22
             try clear q223
             try clear q247
             try clear q248
             try clear q249
             obtain ⟨kq, x107_44, rfl, HA, HJ44, HO_9, HO_11, HO_86, HB⟩ := hcut
             cases kq with
             | zero => exact absurd HA.out (by simp [juntolaw03_MatrixSolutions.j3])
             | succ kj44 =>
              have H := HA.out
              clear HA
              simp only [juntolaw03_MatrixSolutions.j3] at H
              by_cases c53 : x107_44 = true
              ·subst c53
               have H1 : (none) = some r := by rw [if_pos rfl] at H; exact H
               clear H
               have H := H1
               clear H1
               exact absurd H (by simp)
              ·replace c53 := Bool.eq_false_iff.mpr c53
               subst c53
               have H1 : (juntolaw03_MatrixSolutions.l1 kj44 a0 l2 x9_3 t234 x88_3 (rd t238 x88_3) t238 (t238.length : Int) x88_3 (x9_3.length : Int) 0) = some r := by rw [if_neg (show ¬ (false = true) by decide)] at H; exact H
               clear H
               have H := H1
               clear H1
               have H' := Aside0.mk H
               clear H
               obtain ⟨Ao54, co54, eo54⟩ := Kd.R_slice HO_9.out
               subst eo54
               go_wp2
               go_loopg [110] kj44 (fun kq v110 w' => ∃ (x9_5 : List Int) (x110_5 : Int), v110 = .int .i64 x110_5 ∧ Aside0 (juntolaw03_MatrixSolutions.l1 kq a0 l2 x9_5 t234 x88_3 (rd t238 x88_3) t238 (t238.length : Int) x88_3 (x9_3.length : Int) x110_5 = some r) ∧ Aside0 (kq ≤ kj44) ∧ Aside0 (Kd.R (Kd.int .u64) 22 w' w.heap.size (fun _ => True) (.slice Ao54 x9_3.length co54) x9_5) ∧ Aside0 (Kd.S (Kd.slice 22 (Kd.int .u64)) 33 w' w.heap.size (fun k_ => some k_ ≠ ((.slice Ao54 x9_3.length co54) : Value).ownBlock) v236 t234) ∧ Aside0 (Kd.R (Kd.int .i64) 3 w' w.heap.size (fun _ => True) (.slice (some ad247) t238.length co41) t238) ∧ Aside0 (Below w.heap.size w w'))
               case atStart => exact ⟨(x9_3), (0), (by first | rfl | (simp; done) | (simp [*]; done)), H', ⟨Nat.le_refl _⟩, ⟨by (with_reducible repeat (first | apply Kd.R_alloc | apply Kd.R_drewN | apply Kd.R_drew)); exact HO_9.out⟩, ⟨by (with_reducible repeat (first | apply Kd.S_alloc | apply Kd.S_drewN | apply Kd.S_drew)); exact HO_11.out⟩, ⟨by (with_reducible repeat (first | apply Kd.R_alloc | apply Kd.R_drewN | apply Kd.R_drew)); exact HO_86.out⟩, ⟨by repeat (first | (with_reducible first | exact HB.out | apply below_alloc | apply pw_below_drewN | apply below_drew1) | exact HB.out)⟩⟩
               case round =>
                clear H'
                try clear c1
                try clear c2
                try clear p2
                try clear q2
                try clear hx2
                try clear qi2
                try clear c3
                try clear c4
                try clear c5
                try clear c6
                try clear c6b0
                try clear c6b1
                try clear c7
                try clear c7b0
                try clear c7b1
                try clear c8
                try clear c8b0
                try clear c8b1
                try clear c8b2
                try clear c9
                try clear c12
                try clear c13
                try clear c16
                try clear c22
                try clear p22
                try clear q22
                try clear hx22
                try clear qi22
                try clear c24
                try clear p24
                try clear q24
                try clear hx24
                try clear c25
                try clear c26
                try clear c26b0
                try clear c26b1
                try clear c27
                try clear c27b0
                try clear c27b1
                try clear c27b2
                try clear c28
                try clear c28b0
                try clear c28b1
                try clear c28b2
                try clear c38
                try clear c40
                try clear c42
                try clear c42b0
                try clear c43
                try clear c43b0
                try clear c44
                try clear c44b0
                try clear c46
                try clear c46b0
                try clear c47
                try clear c47b0
                try clear c47b1
                try clear c47b2
                try clear c48
                try clear c48b0
                try clear c49
                try clear c49b0
                try clear c53
                try clear hx223_0
                try clear hx247_0
                try clear hx248_0
                try clear hx249_0
                try clear p2
                try clear p22
                try clear p223
                try clear p24
                try clear p247
                try clear p248
                try clear p249
                try clear q2
                try clear q22
                try clear q223
                try clear q24
                try clear q247
                try clear q248
                try clear q249
                obtain ⟨x9_5, x110_5, rfl, HA, HK5, HO_9, HO_11, HO_86, HB⟩ := hrel
                have hl9_5 := (Kd.R_reads' HO_9.out).1
                rw [hl9_5] at HO_9
                (try simp only [hl9_5])
                (try simp only [hl9_5] at HO_11)
                (try simp only [hl9_5] at HO_86)
                cases gk with
                | zero => exact absurd HA.out (by simp [juntolaw03_MatrixSolutions.l1])
                | succ k5 =>
                 have H := HA.out
                 clear HA
                 simp only [juntolaw03_MatrixSolutions.l1] at H
                 by_cases c55 : x110_5 < (x9_3.length : Int)
                 ·rw [if_pos c55] at H
                  have c55b0 : decide (x110_5 < (x9_3.length : Int)) = true := decide_eq_true c55
                  clear c55
                  by_cases c56 : 0 ≤ x110_5
                  ·rw [if_pos c56] at H
                   have c56b0 : decide (0 ≤ x110_5) = true := decide_eq_true c56
                   clear c56
                   by_cases c57 : x110_5 < (x9_5.length : Int)
                   ·rw [if_pos c57] at H
                    have c57b0 : decide (x110_5 < (x9_5.length : Int)) = true := decide_eq_true c57
                    clear c57
                    by_cases c58 : 0 ≤ (rd t238 x88_3)
                    ·rw [if_pos c58] at H
                     have c58b0 : decide (0 ≤ (rd t238 x88_3)) = true := decide_eq_true c58
                     clear c58
                     by_cases c59 : (rd t238 x88_3) < (l2.length : Int)
                     ·rw [if_pos c59] at H
                      have c59b0 : decide ((rd t238 x88_3) < (l2.length : Int)) = true := decide_eq_true c59
                      clear c59
                      by_cases c60 : 0 ≤ x88_3
                      ·rw [if_pos c60] at H
                       have c60b0 : decide (0 ≤ x88_3) = true := decide_eq_true c60
                       clear c60
                       by_cases c61 : x88_3 < (t234.length : Int)
                       ·rw [if_pos c61] at H
                        have c61b0 : decide (x88_3 < (t234.length : Int)) = true := decide_eq_true c61
                        clear c61
                        by_cases c62 : x110_5 < ((rd_L1 t234 x88_3).length : Int)
                        ·rw [if_pos c62] at H
                         have c62b0 : decide (x110_5 < ((rd_L1 t234 x88_3).length : Int)) = true := decide_eq_true c62
                         clear c62
                         replace H := Option.bind_eq_some_iff.mp H
                         obtain ⟨t254, A630, H⟩ := H
                         replace H : ((juntoref01_Add.f a0 (rd x9_5 x110_5) t254).bind fun t255 => (juntolaw03_MatrixSolutions.l1 k5 a0 l2 (x9_5.set (x110_5 : Int).toNat t255) t234 x88_3 (rd t238 x88_3) t238 (t238.length : Int) x88_3 (x9_3.length : Int) (wrap64 (x110_5 + 1)))) = some r := H
                         have A63 := Aside0.mk A630
                         clear A630
                         replace H := Option.bind_eq_some_iff.mp H
                         obtain ⟨t255, A640, H⟩ := H
                         replace H : (juntolaw03_MatrixSolutions.l1 k5 a0 l2 (x9_5.set (x110_5 : Int).toNat t255) t234 x88_3 (rd t238 x88_3) t238 (t238.length : Int) x88_3 (x9_3.length : Int) (wrap64 (x110_5 + 1))) = some r := H
                         have A64 := Aside0.mk A640
                         clear A640
                         obtain ⟨y256, hy256⟩ : ∃ y_ : List Int, y_ = (x9_5.set (x110_5 : Int).toNat t255) := ⟨_, rfl⟩
                         replace H : (juntolaw03_MatrixSolutions.l1 k5 a0 l2 y256 t234 x88_3 (rd t238 x88_3) t238 (t238.length : Int) x88_3 (x9_3.length : Int) (wrap64 (x110_5 + 1))) = some r := by first | (rw [hy256]; with_reducible exact H) | (have H2_ := (Option.bind_some _ _).symm.trans H; rw [hy256]; with_reducible exact H2_) | (have H2_ := (Option.bind_some _ _).symm.trans H; with_reducible exact H2_) | with_reducible exact H | (rw [hy256]; exact H) | exact H
                         have Ny256 := Aside0.mk hy256
                         clear hy256
                         have H' := Aside0.mk H
                         clear H
                         try go_wp2
                         have n0_ := Aside0.mk (Kd.R_drew HO_9.out)
                         have n1_ := Aside0.mk (Kd.S_drew HO_11.out)
                         have n2_ := Aside0.mk (Kd.R_drew HO_86.out)
                         have n3_ := Aside0.mk (below_drew1 HB.out)
                         clear HO_9
                         clear HO_11
                         clear HO_86
                         clear HB
                         have HO_9 := n0_
                         have HO_11 := n1_
                         have HO_86 := n2_
                         have HB := n3_
                         clear n0_ n1_ n2_ n3_
                         have p250 : 0 ≤ (x110_5 : Int) := of_decide_eq_true (by first | (with_reducible assumption) | assumption)
                         have q250 : x110_5 < (x9_5.length : Int) := of_decide_eq_true (by first | (with_reducible assumption) | assumption)
                         obtain ⟨ad250, e250, hx250_0⟩ := Kd.at_int (Kd.R_reads' HO_9.out).2.2 x110_5 p250 q250
                         cases e250
                         replace p250 := eq_true p250
                         replace q250 := eq_true q250
                         have p251 : 0 ≤ ((rd t238 x88_3) : Int) := of_decide_eq_true (by first | (with_reducible assumption) | assumption)
                         have q251 : (rd t238 x88_3) < (l2.length : Int) := of_decide_eq_true (by first | (with_reducible assumption) | assumption)
                         obtain ⟨ad251, e251, hx251_0⟩ := Kd.at_int HR2.out (rd t238 x88_3) p251 q251
                         have hw251_0 := hx251_0
                         cases e251
                         replace hx251_0 := (HB.out.cell (World.block_lt_of_cell? w _ hx251_0)).trans hx251_0
                         replace p251 := eq_true p251
                         replace q251 := eq_true q251
                         obtain ⟨Ao67, co67, eo67⟩ := Kd.S_slice HO_11.out
                         (first | subst eo67 | (injection eo67 with f1_ f2_ f3_; have f4_ := f1_.symm; have f5_ := f3_.symm; clear f1_ f2_ f3_; subst f4_; subst f5_))
                         have p252 : 0 ≤ (x88_3 : Int) := of_decide_eq_true (by first | (with_reducible assumption) | assumption)
                         have q252 : x88_3 < (t234.length : Int) := of_decide_eq_true (by first | (with_reducible assumption) | assumption)
                         obtain ⟨ad252, A252_0, c252_0, e252, hx252_0, hl252_0, hi252_0⟩ := at_L1 (Kd.S_reads' HO_11.out).2.2 x88_3 p252 q252
                         cases e252
                         obtain ⟨ce252, hce252, hMe252, hcc252⟩ := Kd.S_get HO_11.out [] x88_3 p252 (by first | exact q252 | exact of_decide_eq_true (by first | (with_reducible assumption) | assumption) | (have e_ := (Kd.S_reads' HO_11.out).1; omega))
                         obtain ⟨ve252_0, rfl, ge252_0⟩ := hMe252
                         have hv252_0 := hcc252 0 _ rfl
                         rw [Nat.add_zero, show ((Kd.slice 22 (Kd.int .u64))).sz = 1 from rfl, Nat.mul_one] at hv252_0
                         replace hv252_0 := Option.some.inj (hv252_0.symm.trans hx252_0)
                         rw [hv252_0] at ge252_0
                         have HL252_0 := Aside0.mk (show Kd.R (Kd.int .u64) 22 _ _ _ _ (rd_L1 t234 x88_3) from ge252_0)
                         clear hv252_0 ge252_0
                         clear hcc252 hce252
                         have HR252_0 := Aside0.mk hi252_0
                         have HC252_0 := Aside0.mk hl252_0
                         clear hi252_0 hl252_0
                         replace p252 := eq_true p252
                         replace q252 := eq_true q252
                         have p253 : 0 ≤ (x110_5 : Int) := of_decide_eq_true (by first | (with_reducible assumption) | assumption)
                         have q253 : x110_5 < ((rd_L1 t234 x88_3).length : Int) := of_decide_eq_true (by first | (with_reducible assumption) | assumption)
                         obtain ⟨ad253, e253, hx253_0⟩ := Kd.at_int (by repeat (first | (with_reducible exact HR252_0.out) | (with_reducible refine Kd.C_alloc ?_ _) | (with_reducible refine Kd.C_drewN ?_ _) | (with_reducible refine Kd.C_drew ?_) | exact HR252_0.out)) x110_5 p253 q253
                         cases e253
                         replace p253 := eq_true p253
                         replace q253 := eq_true q253
                         refine start_ (n := 23) (S := fun w' => w'.cell? (ad250.add (x110_5).toNat) = some (.int .u64 (rd x9_5 x110_5)) ∧ w'.cell? (ad251.add ((rd t238 x88_3)).toNat) = some (.int .u64 (rd l2 (rd t238 x88_3))) ∧ w'.cell? (ad252.add (x88_3).toNat) = some (.slice (some ad253) (rd_L1 t234 x88_3).length c252_0) ∧ w'.cell? (ad253.add (x110_5).toNat) = some (.int .u64 (rd (rd_L1 t234 x88_3) x110_5))) (ds := [22]) #[false, false, false, false, false, false, false, false, false, false, false, false, false, false, false, false, false, false, false, false, false, false, false] (by kernel_rfl) rfl rfl ⟨hx250_0, ((HB.out.cell (World.block_lt_of_cell? w _ hw251_0)).trans hw251_0), hx252_0, hx253_0⟩ (fun hHeld => ?_); refine with_tabW juntolaw03_MatrixSolutions.tab17 juntolaw03_MatrixSolutions.bits17 (fun HT_ HW_ => ?_)
                         generalize wr.drew = w66 at HO_9 HO_11 HO_86 HB HL252_0 HR252_0 hx250_0 hx251_0 hx252_0 hx253_0 hHeld ⊢
                         refine pure_ (i := 0) (N := some 113) (v := ?_) (a' := ?_) #[true, false, false, false, false, false, false, false, false, false, false, false, false, false, false, false, false, false, false, false, false, false, false] rfl rfl (any_of HT_.out (by kernel_rfl)) (fun _ _ _ h => h) (Or.inl ⟨by rfl, ?_⟩) ?_ ?_
                         rotate_left
                         ·intro w'
                          go_simp
                          with_reducible rfl
                         rotate_left
                         ·simp only [Act.put, List.setIfInBounds_toArray, List.set_cons_zero, List.set_cons_succ, i64_w, i32_w]
                          rfl
                         refine pure_ (i := 1) (N := some 114) (v := ?_) (a' := ?_) #[true, true, false, false, false, false, false, false, false, false, false, false, false, false, false, false, false, false, false, false, false, false, false] rfl rfl (any_of HT_.out (by kernel_rfl)) (fun _ _ _ h => h) (Or.inl ⟨by rfl, ?_⟩) ?_ ?_
                         rotate_left
                         ·intro w'
                          go_simp
                          with_reducible rfl
                         rotate_left
                         ·simp only [Act.put, List.setIfInBounds_toArray, List.set_cons_zero, List.set_cons_succ, i64_w, i32_w]
                          rfl
                         refine pure_ (i := 2) (N := some 115) (v := ?_) (a' := ?_) #[true, true, true, false, false, false, false, false, false, false, false, false, false, false, false, false, false, false, false, false, false, false, false] rfl rfl (any_of HT_.out (by kernel_rfl)) (fun _ _ _ h => h) (Or.inl ⟨by rfl, ?_⟩) ?_ ?_
                         rotate_left
                         ·intro w'
                          go_simp
                          with_reducible rfl
                         rotate_left
                         ·simp only [Act.put, List.setIfInBounds_toArray, List.set_cons_zero, List.set_cons_succ, i64_w, i32_w]
                          rfl
                         refine pure_ (i := 3) (N := some 116) (v := ?_) (a' := ?_) #[true, true, true, true, false, false, false, false, false, false, false, false, false, false, false, false, false, false, false, false, false, false, false] rfl rfl (any_of HT_.out (by kernel_rfl)) (fun _ _ _ h => h) (Or.inl ⟨by rfl, ?_⟩) ?_ ?_
                         rotate_left
                         ·intro w'
                          go_simp
                          with_reducible rfl
                         rotate_left
                         ·simp only [Act.put, List.setIfInBounds_toArray, List.set_cons_zero, List.set_cons_succ, i64_w, i32_w]
                          rfl
                         refine pure_ (i := 4) (N := some 117) (v := ?_) (a' := ?_) #[true, true, true, true, true, false, false, false, false, false, false, false, false, false, false, false, false, false, false, false, false, false, false] rfl rfl (any_of HT_.out (by kernel_rfl)) (fun _ _ _ h => h) (Or.inl ⟨by rfl, ?_⟩) ?_ ?_
                         rotate_left
                         ·intro w'
                          go_simp
                          with_reducible rfl
                         rotate_left
                         ·simp only [Act.put, List.setIfInBounds_toArray, List.set_cons_zero, List.set_cons_succ, i64_w, i32_w]
                          rfl
                         refine pure_ (i := 5) (N := some 118) (v := ?_) (a' := ?_) #[true, true, true, true, true, true, false, false, false, false, false, false, false, false, false, false, false, false, false, false, false, false, false] rfl rfl (any_of HT_.out (by kernel_rfl)) (fun _ _ _ h => h) (Or.inl ⟨by rfl, ?_⟩) ?_ ?_
                         rotate_left
                         ·intro w'
                          go_simp
                          with_reducible rfl
                         rotate_left
                         ·simp only [Act.put, List.setIfInBounds_toArray, List.set_cons_zero, List.set_cons_succ, i64_w, i32_w]
                          rfl
                         refine pure_ (i := 7) (N := some 120) (v := ?_) (a' := ?_) #[true, true, true, true, true, true, false, true, false, false, false, false, false, false, false, false, false, false, false, false, false, false, false] rfl rfl (any_of HT_.out (by kernel_rfl)) (fun _ _ _ h => h) (Or.inl ⟨by rfl, ?_⟩) ?_ ?_
                         rotate_left
                         ·intro w'
                          go_simp
                          with_reducible rfl
                         rotate_left
                         ·simp only [Act.put, List.setIfInBounds_toArray, List.set_cons_zero, List.set_cons_succ, i64_w, i32_w]
                          rfl
                         refine pure_ (i := 8) (N := some 121) (v := ?_) (a' := ?_) #[true, true, true, true, true, true, false, true, true, false, false, false, false, false, false, false, false, false, false, false, false, false, false] rfl rfl (any_of HT_.out (by kernel_rfl)) (fun _ _ _ h => h) (Or.inl ⟨by rfl, ?_⟩) ?_ ?_
                         rotate_left
                         ·intro w'
                          go_simp
                          with_reducible rfl
                         rotate_left
                         ·simp only [Act.put, List.setIfInBounds_toArray, List.set_cons_zero, List.set_cons_succ, i64_w, i32_w]
                          rfl
                         refine pure_ (i := 9) (N := some 122) (v := ?_) (a' := ?_) #[true, true, true, true, true, true, false, true, true, true, false, false, false, false, false, false, false, false, false, false, false, false, false] rfl rfl (any_of HT_.out (by kernel_rfl)) (fun _ _ _ h => h) (Or.inl ⟨by rfl, ?_⟩) ?_ ?_
                         rotate_left
                         ·intro w'
                          go_simp
                          with_reducible rfl
                         rotate_left
                         ·simp only [Act.put, List.setIfInBounds_toArray, List.set_cons_zero, List.set_cons_succ, i64_w, i32_w]
                          rfl
                         refine pure_ (i := 10) (N := some 123) (v := ?_) (a' := ?_) #[true, true, true, true, true, true, false, true, true, true, true, false, false, false, false, false, false, false, false, false, false, false, false] rfl rfl (any_of HT_.out (by kernel_rfl)) (fun _ _ _ h => h) (Or.inl ⟨by rfl, ?_⟩) ?_ ?_
                         rotate_left
                         ·intro w'
                          go_simp
                          with_reducible rfl
                         rotate_left
                         ·simp only [Act.put, List.setIfInBounds_toArray, List.set_cons_zero, List.set_cons_succ, i64_w, i32_w]
                          rfl
                         refine pure_ (i := 12) (N := some 125) (v := ?_) (a' := ?_) #[true, true, true, true, true, true, false, true, true, true, true, false, true, false, false, false, false, false, false, false, false, false, false] rfl rfl (any_of HT_.out (by kernel_rfl)) (fun _ _ _ h => h) (Or.inl ⟨by rfl, ?_⟩) ?_ ?_
                         rotate_left
                         ·intro w'
                          go_simp
                          with_reducible rfl
                         rotate_left
                         ·simp only [Act.put, List.setIfInBounds_toArray, List.set_cons_zero, List.set_cons_succ, i64_w, i32_w]
                          rfl
                         refine pure_ (i := 13) (N := some 126) (v := ?_) (a' := ?_) #[true, true, true, true, true, true, false, true, true, true, true, false, true, true, false, false, false, false, false, false, false, false, false] rfl rfl (any_of HT_.out (by kernel_rfl)) (fun _ _ _ h => h) (Or.inl ⟨by rfl, ?_⟩) ?_ ?_
                         rotate_left
                         ·intro w'
                          go_simp
                          with_reducible rfl
                         rotate_left
                         ·simp only [Act.put, List.setIfInBounds_toArray, List.set_cons_zero, List.set_cons_succ, i64_w, i32_w]
                          rfl
                         refine pure_ (i := 14) (N := some 127) (v := ?_) (a' := ?_) #[true, true, true, true, true, true, false, true, true, true, true, false, true, true, true, false, false, false, false, false, false, false, false] rfl rfl (any_of HT_.out (by kernel_rfl)) (fun _ _ _ h => h) (Or.inl ⟨by rfl, ?_⟩) ?_ ?_
                         rotate_left
                         ·intro w'
                          go_simp
                          with_reducible rfl
                         rotate_left
                         ·simp only [Act.put, List.setIfInBounds_toArray, List.set_cons_zero, List.set_cons_succ, i64_w, i32_w]
                          rfl
                         refine pure_ (i := 16) (N := some 129) (v := ?_) (a' := ?_) #[true, true, true, true, true, true, false, true, true, true, true, false, true, true, true, false, true, false, false, false, false, false, false] rfl rfl (any_of HT_.out (by kernel_rfl)) (fun _ _ _ h => h) (Or.inl ⟨by rfl, ?_⟩) ?_ ?_
                         rotate_left
                         ·intro w'
                          go_simp
                          with_reducible rfl
                         rotate_left
                         ·simp only [Act.put, List.setIfInBounds_toArray, List.set_cons_zero, List.set_cons_succ, i64_w, i32_w]
                          rfl
                         refine take_ (i := 6) (N := some 119) (v := ?_) (a' := ?_) #[true, true, true, true, true, true, true, true, true, true, true, false, true, true, true, false, true, false, false, false, false, false, false] rfl rfl (take_ofW HT_.out HW_.out (by kernel_rfl)) (fun _ _ _ h => h) (Or.inl ⟨by rfl, ?_⟩) hHeld ?_ ?_
                         rotate_left
                         ·rintro w' ⟨s0, s1, s2, s3⟩
                          go_simp
                          with_reducible rfl
                         rotate_left
                         ·simp only [Act.put, List.setIfInBounds_toArray, List.set_cons_zero, List.set_cons_succ, i64_w, i32_w]
                          rfl
                         refine take_ (i := 11) (N := some 124) (v := ?_) (a' := ?_) #[true, true, true, true, true, true, true, true, true, true, true, true, true, true, true, false, true, false, false, false, false, false, false] rfl rfl (take_ofW HT_.out HW_.out (by kernel_rfl)) (fun _ _ _ h => h) (Or.inl ⟨by rfl, ?_⟩) hHeld ?_ ?_
                         rotate_left
                         ·rintro w' ⟨s0, s1, s2, s3⟩
                          go_simp
                          with_reducible rfl
                         rotate_left
                         ·simp only [Act.put, List.setIfInBounds_toArray, List.set_cons_zero, List.set_cons_succ, i64_w, i32_w]
                          rfl
                         refine take_ (i := 15) (N := some 128) (v := ?_) (a' := ?_) #[true, true, true, true, true, true, true, true, true, true, true, true, true, true, true, true, true, false, false, false, false, false, false] rfl rfl (take_ofW HT_.out HW_.out (by kernel_rfl)) (fun _ _ _ h => h) (Or.inl ⟨by rfl, ?_⟩) hHeld ?_ ?_
                         rotate_left
                         ·rintro w' ⟨s0, s1, s2, s3⟩
                          go_simp
                          with_reducible rfl
                         rotate_left
                         ·simp only [Act.put, List.setIfInBounds_toArray, List.set_cons_zero, List.set_cons_succ, i64_w, i32_w]
                          rfl
                         refine pure_ (i := 17) (N := some 130) (v := ?_) (a' := ?_) #[true, true, true, true, true, true, true, true, true, true, true, true, true, true, true, true, true, true, false, false, false, false, false] rfl rfl (any_of HT_.out (by kernel_rfl)) (fun _ _ _ h => h) (Or.inl ⟨by rfl, ?_⟩) ?_ ?_
                         rotate_left
                         ·intro w'
                          go_simp
                          with_reducible rfl
                         rotate_left
                         ·simp only [Act.put, List.setIfInBounds_toArray, List.set_cons_zero, List.set_cons_succ, i64_w, i32_w]
                          rfl
                         refine take_ (i := 18) (N := some 131) (v := ?_) (a' := ?_) #[true, true, true, true, true, true, true, true, true, true, true, true, true, true, true, true, true, true, true, false, false, false, false] rfl rfl (take_ofW HT_.out HW_.out (by kernel_rfl)) (fun _ _ _ h => h) (Or.inl ⟨by rfl, ?_⟩) hHeld ?_ ?_
                         rotate_left
                         ·rintro w' ⟨s0, s1, s2, s3⟩
                          go_simp
                          with_reducible rfl
                         rotate_left
                         ·simp only [Act.put, List.setIfInBounds_toArray, List.set_cons_zero, List.set_cons_succ, i64_w, i32_w]
                          rfl
                         refine one_ (i := 19) (N := some 132) #[true, true, true, true, true, true, true, true, true, true, true, true, true, true, true, true, true, true, true, true, false, false, false] rfl rfl (one_of HT_.out (by kernel_rfl)) (by decide) (fun K hK => ?_)
                         refine goes_ Try.func45 (by kernel_rfl) rfl #[.int .u64 a0, .int .u64 (rd l2 (rd t238 x88_3)), .int .u64 (rd (rd_L1 t234 x88_3) x110_5)] (by rfl) rfl rfl (by (try simp only [List.map_toArray, List.map_cons, List.map_nil]); first | done | rfl | (simp only [List.length_drop, List.length_take]; rfl)) ?_
                         with_reducible refine (juntoref01_Mul.calls a0 (rd l2 (rd t238 x88_3)) (rd (rd_L1 t234 x88_3) x110_5) t254 _ A63.out).mono ?_
                         rintro e w' ⟨rfl, ⟨nd, rfl⟩⟩
                         refine ⟨_, rfl, ?_⟩
                         refine hK.out _ _ ⟨hHeld.1, ((HB.out.cell (World.block_lt_of_cell? w _ hw251_0)).trans hw251_0), hHeld.2.2.1, hHeld.2.2.2⟩ (fun hHeld => ?_)
                         clear hK K
                         refine norm_ (a' := ?_) ?_ ?_
                         rotate_left
                         ·show Act.put _ (some 132) _ = _
                          simp only [Act.put, List.setIfInBounds_toArray, List.set_cons_zero, List.set_cons_succ, i64_w, i32_w]
                          rfl
                         refine one_ (i := 20) (N := some 133) #[true, true, true, true, true, true, true, true, true, true, true, true, true, true, true, true, true, true, true, true, true, false, false] rfl rfl (one_of HT_.out (by kernel_rfl)) (by decide) (fun K hK => ?_)
                         refine goes_ Try.func44 (by kernel_rfl) rfl #[.int .u64 a0, .int .u64 (rd x9_5 x110_5), .int .u64 t254] (by rfl) rfl rfl (by (try simp only [List.map_toArray, List.map_cons, List.map_nil]); first | done | rfl | (simp only [List.length_drop, List.length_take]; rfl)) ?_
                         with_reducible refine (juntoref01_Add.calls a0 (rd x9_5 x110_5) t254 t255 _ A64.out).mono ?_
                         rintro e w' ⟨rfl, ⟨nd, rfl⟩⟩
                         refine ⟨_, rfl, ?_⟩
                         have p65 : 0 ≤ (x110_5 : Int) := of_decide_eq_true (by first | (with_reducible assumption) | assumption)
                         have q65 : (x110_5 : Int) < ((x9_5.length : Int) : Int) := of_decide_eq_true (by first | (with_reducible assumption) | assumption)
                         obtain ⟨go65, co65, eo65, gb65, gl65, cl65, HG65⟩ := Kd.R_form HO_9.out (by omega)
                         (first | cases eo65 | (injection eo65 with ea_ en_ ec_; (first | subst ea_ | (injection ea_ with ea_; subst ea_)); subst ec_; clear en_))
                         have GB65 := Aside0.mk gb65
                         have GG65 := Aside0.mk HG65
                         clear gb65 gl65 HG65
                         (first | simp only [add_plain] at hx250_0 | skip)
                         obtain ⟨hx65_0, hf65_0⟩ := Kd.R_celln 0 HO_9.out (x110_5 : Int) p65 q65
                         replace p65 := eq_true p65
                         replace q65 := eq_true q65
                         have HP68 := Kd.R_putn HO_9.out (x110_5 : Int) t255
                         rw [← Ny256.out] at HP68
                         have HQ68 := Aside0.mk HP68
                         clear HP68
                         refine hK.out _ _ ⟨hHeld.1, ((HB.out.cell (World.block_lt_of_cell? w _ hw251_0)).trans hw251_0), hHeld.2.2.1, hHeld.2.2.2⟩ (fun hHeld => ?_)
                         clear hK K
                         refine norm_ (a' := ?_) ?_ ?_
                         rotate_left
                         ·show Act.put _ (some 133) _ = _
                          simp only [Act.put, List.setIfInBounds_toArray, List.set_cons_zero, List.set_cons_succ, i64_w, i32_w]
                          rfl
                         refine pure_ (i := 21) (N := some 134) (v := ?_) (a' := ?_) #[true, true, true, true, true, true, true, true, true, true, true, true, true, true, true, true, true, true, true, true, true, true, false] rfl rfl (any_of HT_.out (by kernel_rfl)) (fun _ _ _ h => h) (Or.inl ⟨by rfl, ?_⟩) ?_ ?_
                         rotate_left
                         ·intro w'
                          go_simp
                          with_reducible rfl
                         rotate_left
                         ·simp only [Act.put, List.setIfInBounds_toArray, List.set_cons_zero, List.set_cons_succ, i64_w, i32_w]
                          rfl
                         refine last_ (i := 22) (N := none) #[true, true, true, true, true, true, true, true, true, true, true, true, true, true, true, true, true, true, true, true, true, true, true] rfl rfl (one_of HT_.out (by kernel_rfl)) (by decide) (fun K hK => ?_)
                         refine skip_ (w1 := ?_) (by rfl) rfl ?_ ?_
                         rotate_left
                         ·go_simp
                          rfl
                         refine hK.out _ _ ?_
                         clear hK K
                         refine done_ (done_of HT_.out (by kernel_rfl)) ?_
                         try go_wp2
                         (try simp only [← hl9_5])
                         go_roundg k5
                         case measure => have := HJ3.out; have := HJ19.out; have := HK3.out; have := HJ44.out; have := HK5.out; omega
                         case rel => exact ⟨(y256), (wrap64 (x110_5 + 1)), (by first | rfl | (simp; done) | (simp [*]; done)), H', ⟨by have := HJ3.out; have := HJ19.out; have := HK3.out; have := HJ44.out; have := HK5.out; omega⟩, ⟨by (try simp only [hl9_5]); (with_reducible repeat (first | apply Kd.R_alloc | apply Kd.R_drewN | apply Kd.R_drew)); exact HQ68.out⟩, ⟨by (try simp only [hl9_5]); (with_reducible repeat (first | apply Kd.S_alloc | apply Kd.S_drewN | apply Kd.S_drew)); exact Kd.S_mono (Kd.S_far (p := ⟨go65, (x110_5 : Int).toNat, none⟩) (Kd.S_mono HO_11.out (fun k_ hk => (⟨hk, fun e_ => hk (by rw [e_]; rfl)⟩ : _ ∧ k_ ≠ go65))) (fun _ hk => hk.2) (.int .u64 t255)) (fun _ hk => hk.1)⟩, ⟨by (try simp only [hl9_5]); (with_reducible repeat (first | apply Kd.R_alloc | apply Kd.R_drewN | apply Kd.R_drew)); exact Kd.R_mono (Kd.R_far (p := ⟨go65, (x110_5 : Int).toNat, none⟩) (Kd.R_types HO_86.out GG65.out (by decide)) (fun _ hk => hk.2) (.int .u64 t255)) (fun _ hk => trivial)⟩, ⟨by repeat (first | (with_reducible first | exact HB.out | apply below_alloc | apply pw_below_drewN | apply below_drew1 | refine below_set ?_ GB65.out) | exact HB.out)⟩⟩
                        ·rw [if_neg c62] at H
                         exact absurd H (by simp)
                       ·rw [if_neg c61] at H
                        exact absurd H (by simp)
                      ·rw [if_neg c60] at H
                       exact absurd H (by simp)
                     ·rw [if_neg c59] at H
                      exact absurd H (by simp)
                    ·rw [if_neg c58] at H
                     exact absurd H (by simp)
                   ·rw [if_neg c57] at H
                    exact absurd H (by simp)
                  ·rw [if_neg c56] at H
                   exact absurd H (by simp)
                 ·rw [if_neg c55] at H
                  have c55b0 : decide (x110_5 < (x9_3.length : Int)) = false := decide_eq_false c55
                  have c55x : decide (x110_5 < (x9_5.length : Int)) = false := decide_eq_false (by have := hl9_5; omega)
                  clear c55
                  have H' := Aside0.mk H
                  clear H
                  go_wp2
                  (try simp only [← hl9_5])
                  go_roundg k5
                  case measure => have := HJ3.out; have := HJ19.out; have := HK3.out; have := HJ44.out; have := HK5.out; omega
                  case rel => exact ⟨(x9_5), (wrap64 (x88_3 + 1)), (by first | rfl | (simp; done) | (simp [*]; done)), H', ⟨by have := HJ3.out; have := HJ19.out; have := HK3.out; have := HJ44.out; have := HK5.out; omega⟩, ⟨by (try simp only [hl9_5]); (with_reducible repeat (first | apply Kd.R_alloc | apply Kd.R_drewN | apply Kd.R_drew)); exact HO_9.out⟩, ⟨by (try simp only [hl9_5]); (with_reducible repeat (first | apply Kd.S_alloc | apply Kd.S_drewN | apply Kd.S_drew)); exact HO_11.out⟩, ⟨by (try simp only [hl9_5]); (with_reducible repeat (first | apply Kd.R_alloc | apply Kd.R_drewN | apply Kd.R_drew)); exact HO_86.out⟩, ⟨by repeat (first | (with_reducible first | exact HB.out | apply below_alloc | apply pw_below_drewN | apply below_drew1) | exact HB.out)⟩⟩
           ·rw [if_neg c44] at H
            exact absurd H (by simp)
          ·rw [if_neg c43] at H
           exact absurd H (by simp)
         ·rw [if_neg c42] at H
          have c42b0 : decide (x88_3 < (t238.length : Int)) = false := decide_eq_false c42
          clear c42
          replace H := Option.bind_eq_some_iff.mp H
          obtain ⟨t245, A690, H⟩ := H
          replace H : (if t245 = true then ((juntolaw03_alive.f k3).bind fun t246 => (some t246)) else (none)) = some r := H
          have A69 := Aside0.mk A690
          clear A690
          by_cases c70 : t245 = true
          ·subst c70
           have H1 : ((juntolaw03_alive.f k3).bind fun t246 => (some t246)) = some r := by rw [if_pos rfl] at H; exact H
           clear H
           have H := H1
           clear H1
           replace H := Option.bind_eq_some_iff.mp H
           obtain ⟨t246, A710, H⟩ := H
           replace H : (some t246) = some r := H
           have A71 := Aside0.mk A710
           clear A710
           obtain rfl := Option.some.inj H
           obtain ⟨Ao72, co72, eo72⟩ := Kd.R_slice HO_9.out
           subst eo72
           go_wp2_with (first | ((with_reducible refine gate_callee (f := 43) rfl ?_); refine goesL_ (some 139) rfl rfl Try.func43 (by kernel_rfl) rfl #[.slice A2 l2.length c2, .slice Ao72 x9_3.length co72] rfl (by (try simp only [List.map_toArray, List.map_cons, List.map_nil]); first | done | rfl | (simp only [List.length_drop, List.length_take]; rfl)) ?_; (with_reducible refine (juntoref01_Same.calls k3 _ _ l2 _ _ x9_3 true _ ?side1 ?side2 ?side3 ?side4 A69.out).mono ?_); (case side1 => repeat (first | exact (Kd.C_below HR2.out HB.out) | (with_reducible refine Kd.C_alloc ?_ _) | (with_reducible refine Kd.C_drewN ?_ _) | (with_reducible refine Kd.C_drew ?_))); (case side2 => exact HC2.out); (case side3 => repeat (first | exact (Kd.R_reads' HO_9.out).2.2 | (with_reducible refine Kd.C_alloc ?_ _) | (with_reducible refine Kd.C_drewN ?_ _) | (with_reducible refine Kd.C_drew ?_))); (case side4 => exact (Kd.R_reads' HO_9.out).2.1); rintro e w' ⟨rfl, ⟨nd, rfl⟩⟩; refine ⟨_, rfl, ?_⟩) | (go_at_call 16; (with_reducible refine (juntolaw03_alive.calls k3  t246 _ A71.out).mono ?_); rintro e w73 ⟨rfl, hb⟩; have n0_ := Aside0.mk (Kd.R_below (by (with_reducible repeat (first | apply Kd.R_alloc | apply Kd.R_drewN | apply Kd.R_drew)); exact HO_9.out) hb); have n1_ := Aside0.mk (Kd.S_below (by (with_reducible repeat (first | apply Kd.S_alloc | apply Kd.S_drewN | apply Kd.S_drew)); exact HO_11.out) hb); have n2_ := Aside0.mk (Kd.R_below (by (with_reducible repeat (first | apply Kd.R_alloc | apply Kd.R_drewN | apply Kd.R_drew)); exact HO_86.out) hb); have n3_ := Aside0.mk (below_step (by repeat (first | (with_reducible first | exact HB.out | apply below_alloc | apply pw_below_drewN | apply below_drew1) | exact HB.out)) hb); clear HO_9; clear HO_11; clear HO_86; clear HB; have HO_9 := n0_; have HO_11 := n1_; have HO_86 := n2_; have HB := n3_; clear n0_ n1_ n2_ n3_; (try clear hb); (try clear hb2); (try clear hk); (try clear hi)))
           go_ret
           exact ⟨by first | rfl | (simp [errW_none, errW_some] <;> rfl) | (simp [*, errW_none, errW_some] <;> rfl), by repeat (first | (with_reducible first | exact HB.out | apply below_alloc | apply pw_below_drewN | apply below_drew1) | exact HB.out)⟩
          ·replace c70 := Bool.eq_false_iff.mpr c70
           subst c70
           have H1 : (none) = some r := by rw [if_neg (show ¬ (false = true) by decide)] at H; exact H
           clear H
           have H := H1
           clear H1
           exact absurd H (by simp)

end Go.Proofs.Ytfdkhkajehopkaa.Mb
