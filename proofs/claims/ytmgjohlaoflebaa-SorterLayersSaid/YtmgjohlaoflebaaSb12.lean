/- Functions of the program, each with its walk: sorter_Rounds. (Made by this session's own program out of what the kit's print wrote; no text of the print.) -/
import Derived.Test.YtmgjohlaoflebaaSb0
import Derived.Test.YtmgjohlaoflebaaSb2
import Derived.Test.YtmgjohlaoflebaaSbTwo
namespace Go.Proofs.Ytmgjohlaoflebaa.Sb
open Go.RowKit Go.Proofs.YtmgjohlaoflebaaW.PrintWords Go.Proofs.YtmgjohlaoflebaaW.PrintLast Go.Proofs.YtmgjohlaoflebaaW.PrintMore
attribute [local go_sem] max2_int min2_int max_two min_two max_three min_three max_four min_four   -- for this text's walks alone
set_option linter.unusedVariables false
set_option linter.unusedSimpArgs false

/-! ### sorter_Rounds: function 25 -/
def sorter_Rounds.l0 : Nat → List (List (S53)) → List Int → List (S53) → Int → Int → Option ((List (List (S53))) × Int)
  | 0, _, _, _, _, _ => none
  | k + 1, x7, x8, x20, x21, x22 => if x22 < x21 then (if 0 ≤ x22 then (if x22 < (x20.length : Int) then (if 0 ≤ ((rd_T53 x20 x22).f0) then (if ((rd_T53 x20 x22).f0) < (x8.length : Int) then (if 0 ≤ ((rd_T53 x20 x22).f1) then (if ((rd_T53 x20 x22).f1) < (x8.length : Int) then (if (mx (rd x8 ((rd_T53 x20 x22).f0)) (rd x8 ((rd_T53 x20 x22).f1))) = (x7.length : Int) then (if x7.length < 5864062014805 then ((some (x7 ++ [[]] : List (List (S53)))).bind fun y174 => (if 0 ≤ (mx (rd x8 ((rd_T53 x20 x22).f0)) (rd x8 ((rd_T53 x20 x22).f1))) then (if (mx (rd x8 ((rd_T53 x20 x22).f0)) (rd x8 ((rd_T53 x20 x22).f1))) < (y174.length : Int) then (if (rd_L2 y174 (mx (rd x8 ((rd_T53 x20 x22).f0)) (rd x8 ((rd_T53 x20 x22).f1)))).length < 8796093022208 then (sorter_Rounds.l0 k (y174.set ((mx (rd x8 ((rd_T53 x20 x22).f0)) (rd x8 ((rd_T53 x20 x22).f1))) : Int).toNat ((rd_L2 y174 (mx (rd x8 ((rd_T53 x20 x22).f0)) (rd x8 ((rd_T53 x20 x22).f1)))) ++ [(⟨(rd_T53 x20 x22).f0, (rd_T53 x20 x22).f1⟩ : S53)])) ((x8.set (((rd_T53 x20 x22).f0) : Int).toNat (wrap64 ((mx (rd x8 ((rd_T53 x20 x22).f0)) (rd x8 ((rd_T53 x20 x22).f1))) + 1))).set (((rd_T53 x20 x22).f1) : Int).toNat (wrap64 ((mx (rd x8 ((rd_T53 x20 x22).f0)) (rd x8 ((rd_T53 x20 x22).f1))) + 1))) x20 x21 (wrap64 (x22 + 1))) else (none)) else (none)) else (none))) else (none)) else (if 0 ≤ (mx (rd x8 ((rd_T53 x20 x22).f0)) (rd x8 ((rd_T53 x20 x22).f1))) then (if (mx (rd x8 ((rd_T53 x20 x22).f0)) (rd x8 ((rd_T53 x20 x22).f1))) < (x7.length : Int) then (if (rd_L2 x7 (mx (rd x8 ((rd_T53 x20 x22).f0)) (rd x8 ((rd_T53 x20 x22).f1)))).length < 8796093022208 then (sorter_Rounds.l0 k (x7.set ((mx (rd x8 ((rd_T53 x20 x22).f0)) (rd x8 ((rd_T53 x20 x22).f1))) : Int).toNat ((rd_L2 x7 (mx (rd x8 ((rd_T53 x20 x22).f0)) (rd x8 ((rd_T53 x20 x22).f1)))) ++ [(⟨(rd_T53 x20 x22).f0, (rd_T53 x20 x22).f1⟩ : S53)])) ((x8.set (((rd_T53 x20 x22).f0) : Int).toNat (wrap64 ((mx (rd x8 ((rd_T53 x20 x22).f0)) (rd x8 ((rd_T53 x20 x22).f1))) + 1))).set (((rd_T53 x20 x22).f1) : Int).toNat (wrap64 ((mx (rd x8 ((rd_T53 x20 x22).f0)) (rd x8 ((rd_T53 x20 x22).f1))) + 1))) x20 x21 (wrap64 (x22 + 1))) else (none)) else (none)) else (none))) else (none)) else (none)) else (none)) else (none)) else (none)) else (none)) else (some (x7, 0))
def sorter_Rounds.f (k : Nat) (a0 : Int) (l1 : List (S53)) : Option ((List (List (S53))) × Int) := (sorter_Check.f a0 l1).bind fun t166 => (if t166 = 0 then (if 0 ≤ a0 then (if (a0 : Int).toNat ≤ 35184372088832 then (sorter_Rounds.l0 k ([] : List (List (S53))) (List.replicate (a0 : Int).toNat 0) l1 (l1.length : Int) 0) else (none)) else (none)) else (some (([] : List (List (S53))), t166)))
theorem sorter_Rounds.mono_l : ∀ k, (∀ y0 y1 y2 y3 y4, LeO (sorter_Rounds.l0 k y0 y1 y2 y3 y4) (sorter_Rounds.l0 (k + 1) y0 y1 y2 y3 y4))
  | 0 => fun _ _ _ _ _ r h => by simp [sorter_Rounds.l0] at h
  | k + 1 => by
    have ih0 := sorter_Rounds.mono_l k
    · intro y0 y1 y2 y3 y4
      unfold sorter_Rounds.l0
      repeat' first
      | (with_reducible exact ih0 _ _ _ _ _)
      | (with_reducible exact LeO.refl _)
      | (with_reducible exact LeO.none _)
      | (with_reducible refine LeO.ite ?_ ?_)
      | (with_reducible refine LeO.bind ?_ (fun _ => ?_))
      | exact ih0 _ _ _ _ _
      | exact LeO.none _
      | refine LeO.ite ?_ ?_
      | refine LeO.bind ?_ (fun _ => ?_)
theorem sorter_Rounds.mono : ∀ a0 a1 k, LeO (sorter_Rounds.f k a0 a1) (sorter_Rounds.f (k + 1) a0 a1) := by
  intro a0 a1 k
  have ih0 := sorter_Rounds.mono_l k
  unfold sorter_Rounds.f
  repeat' first
      | (with_reducible exact ih0 _ _ _ _ _)
      | (with_reducible exact LeO.refl _)
      | (with_reducible exact LeO.none _)
      | (with_reducible refine LeO.ite ?_ ?_)
      | (with_reducible refine LeO.bind ?_ (fun _ => ?_))
      | exact ih0 _ _ _ _ _
      | exact LeO.none _
      | refine LeO.ite ?_ ?_
      | refine LeO.bind ?_ (fun _ => ?_)
def sorter_Rounds.T9 : Bool × List (List Nat × List Nat) := (true, [([], []), ([], []), ([1], [1]), ([0, 2], [0, 2]), ([3], [3]), ([], []), ([], []), ([6], [6]), ([5, 7], [5, 7]), ([8], [8]), ([4, 9], [4, 9]), ([10, 0, 1, 2, 3, 4, 5, 6, 7, 8, 9, 10], [10])])
def sorter_Rounds.B9 : List Nat := [0, 0, 2, 7, 15, 0, 0, 64, 224, 480, 1023, 2047]
theorem sorter_Rounds.tab9 : rtab .any (opsOf Try.f25 9) = sorter_Rounds.T9 := by kernel_rfl
theorem sorter_Rounds.bits9 : waitsOk sorter_Rounds.T9.2 sorter_Rounds.B9 = true := by kernel_rfl
def sorter_Rounds.T12 : Bool × List (List Nat × List Nat) := (true, [([], []), ([], []), ([], []), ([], []), ([2, 3], [2, 3]), ([4], [4]), ([], []), ([6], [6]), ([5, 7], [5, 7]), ([0, 1, 0, 1, 2, 3, 4, 5, 6, 7, 8], [0, 1]), ([9, 8, 8, 0, 1, 2, 3, 4, 5, 6, 7, 8], [8, 9])])
def sorter_Rounds.B12 : List Nat := [0, 0, 0, 0, 12, 28, 0, 64, 252, 511, 1023]
theorem sorter_Rounds.tab12 : rtab .any (opsOf Try.f25 12) = sorter_Rounds.T12 := by kernel_rfl
theorem sorter_Rounds.bits12 : waitsOk sorter_Rounds.T12.2 sorter_Rounds.B12 = true := by kernel_rfl
set_option maxHeartbeats 8000000 in
set_option maxRecDepth 100000 in
theorem sorter_Rounds.calls (k : Nat) (a0 : Int) (A1 : Option Addr) (c1 : Nat) (l1 : List (S53)) (r1 : List (List (S53))) (r2 : Int) (w : World) (hr1 : Kd.C k53 w A1 l1.length l1) (hc1 : l1.length ≤ c1) (h : sorter_Rounds.f k a0 l1 = some (r1, r2)) :
    Calls Try.prog 25 #[.int .i64 a0, .slice A1 l1.length c1] w fun e w' => ∃ v0_ : Value, e = .returned (.tuple #[v0_, .int .i64 r2]) ∧ Kd.S (Kd.slice 53 k53) 22 w' w.heap.size (fun _ => True) v0_ r1 ∧ Below w.heap.size w w' := by
  have hu53 := Try.underlying53
  have HR1 := Aside0.mk hr1
  have HC1 := Aside0.mk hc1
  clear hr1 hc1
  have HB := Aside0.mk (Below.refl w.heap.size w)
  have H : ((sorter_Check.f a0 l1).bind fun t166 => (if t166 = 0 then (if 0 ≤ a0 then (if (a0 : Int).toNat ≤ 35184372088832 then (sorter_Rounds.l0 k ([] : List (List (S53))) (List.replicate (a0 : Int).toNat 0) l1 (l1.length : Int) 0) else (none)) else (none)) else (some (([] : List (List (S53))), t166)))) = some (r1, r2) := h
  clear h
  replace H := Option.bind_eq_some_iff.mp H
  obtain ⟨t166, A30, H⟩ := H
  replace H : (if t166 = 0 then (if 0 ≤ a0 then (if (a0 : Int).toNat ≤ 35184372088832 then (sorter_Rounds.l0 k ([] : List (List (S53))) (List.replicate (a0 : Int).toNat 0) l1 (l1.length : Int) 0) else (none)) else (none)) else (some (([] : List (List (S53))), t166))) = some (r1, r2) := H
  have A3 := Aside0.mk A30
  clear A30
  by_cases c4 : t166 = 0
  · rw [if_pos c4] at H
    have c4b0 : (t166 == 0) = true := beq_iff_eq.mpr c4
    have c4b1 : (t166 != 0) = false := bne_eq_false_iff_eq.mpr c4
    clear c4
    by_cases c5 : 0 ≤ a0
    · rw [if_pos c5] at H
      have c5b0 := eq_true c5
      have c5b1 : decide (0 ≤ a0) = true := decide_eq_true c5
      clear c5
      by_cases c6 : (a0 : Int).toNat ≤ 35184372088832
      · rw [if_pos c6] at H
        have c6b0 := eq_true c6
        have c6b1 : decide ((a0 : Int).toNat ≤ 35184372088832) = true := decide_eq_true c6
        clear c6
        obtain ⟨y167, hy167⟩ : ∃ y_ : List Int, y_ = (List.replicate (a0 : Int).toNat 0) := ⟨_, rfl⟩
        replace H : (sorter_Rounds.l0 k ([] : List (List (S53))) y167 l1 (l1.length : Int) 0) = some (r1, r2) := by first | (rw [hy167]; with_reducible exact H) | (have H2_ := (Option.bind_some _ _).symm.trans H; rw [hy167]; with_reducible exact H2_) | (have H2_ := (Option.bind_some _ _).symm.trans H; with_reducible exact H2_) | with_reducible exact H | (rw [hy167]; exact H) | exact H
        have Ny167 := Aside0.mk hy167
        clear hy167
        have H' := Aside0.mk H
        clear H
        go_enter Try.func25, Try.ntmps25
        go_wp2_with (first | ((with_reducible refine gate_callee (f := 15) rfl ?_); refine goesL_ (some 14) rfl rfl Try.func15 (by kernel_rfl) rfl #[.int .i64 a0, .slice A1 l1.length c1] rfl (by (try simp only [List.map_toArray, List.map_cons, List.map_nil]); first | done | rfl | (simp only [List.length_drop, List.length_take]; rfl)) ?_; (with_reducible refine (sorter_Check.calls a0 _ _ l1 t166 _ ?side1 ?side2 A3.out).mono ?_); (case side1 => repeat (first | exact HR1.out | (with_reducible refine Kd.C_alloc ?_ _) | (with_reducible refine Kd.C_drewN ?_ _) | (with_reducible refine Kd.C_drew ?_))); (case side2 => exact HC1.out); rintro e w7 ⟨rfl, hb⟩; refine ⟨_, rfl, ?_⟩; have n0_ := Aside0.mk (below_step (by repeat (first | (with_reducible first | exact HB.out | apply below_alloc | apply pw_below_drewN | apply below_drew1) | exact HB.out)) hb); clear HB; have HB := n0_; clear n0_; (try clear hb); (try clear hb2); (try clear hk); (try clear hi)) | ((with_reducible refine gate_dst (N := 19) rfl ?_); refine Kd.R_make (Kd.int .i64) _ 3 rfl (N := 19) rfl 40 _ _ rfl a0 rfl rfl Try.underlying40 (.int .i64 0) 8 info3 rfl (by decide) (by omega) 0 (ok := fun _ => True) (okp := fun _ => True) rfl (fun _ hk => hk) trivial (of_decide_eq_true (by first | (with_reducible assumption) | assumption)) (Nat.le_trans (Nat.mul_le_mul_right _ (of_decide_eq_true (by first | (with_reducible assumption) | assumption) : a0.toNat ≤ 35184372088832)) (by omega)) (Below.refl _ _) (Nat.le_refl _) ?_; intro v168 w8 ho9 hb hg_ hnew_; clear hg_ hnew_; (first | rw [← Ny167.out] at ho9 | (simp only [Int.reduceToNat] at ho9; rw [← Ny167.out] at ho9)); have n0_ := Aside0.mk (Kd.R_lower ho9 (below_size (by repeat (first | (with_reducible first | exact HB.out | apply below_alloc | apply pw_below_drewN | apply below_drew1) | exact HB.out)))); have n1_ := Aside0.mk (below_step (by repeat (first | (with_reducible first | exact HB.out | apply below_alloc | apply pw_below_drewN | apply below_drew1) | exact HB.out)) hb); clear HB; have HO169 := n0_; have HB := n1_; clear n0_ n1_; clear hb ho9))
        go_loopg [7, 22] k (fun kq v7 v22 w' => ∃ (x7_1 : List (List (S53))) (x8_1 : List Int) (x22_1 : Int), v22 = .int .i64 x22_1 ∧ Aside0 (sorter_Rounds.l0 kq x7_1 x8_1 l1 (l1.length : Int) x22_1 = some (r1, r2)) ∧ Aside0 (kq ≤ k) ∧ Aside0 (Kd.S (Kd.slice 53 k53) 22 w' w.heap.size (fun _ => True) v7 x7_1) ∧ Aside0 (Kd.R (Kd.int .i64) 3 w' w.heap.size (fun _ => True) v168 x8_1) ∧ Aside0 (Below w.heap.size w w'))
        case atStart => exact ⟨(([] : List (List (S53)))), (y167), (0), (by first | rfl | (simp; done) | (simp [*]; done)), H', ⟨Nat.le_refl _⟩, ⟨by first | exact Kd.S_nil _ _ _ _ _ | exact Kd.N_nil _ _ _ _ _ | exact Kd.V_nil _ _ _ _ _ | exact Kd.Q_nil _ _ _ _ _ | exact Kd.R_nil _ _ _ _ _⟩, ⟨by (with_reducible repeat (first | apply Kd.R_alloc | apply Kd.R_drewN | apply Kd.R_drew)); exact HO169.out⟩, ⟨by repeat (first | (with_reducible first | exact HB.out | apply below_alloc | apply pw_below_drewN | apply below_drew1) | exact HB.out)⟩⟩
        case round =>
          clear H'
          try clear c1
          try clear c2
          try clear p2
          try clear c4
          try clear c4b0
          try clear c4b1
          try clear c5
          try clear c5b0
          try clear c5b1
          try clear c6
          try clear c6b0
          try clear c6b1
          obtain ⟨x7_1, x8_1, x22_1, rfl, HA, HK1, HO_7, HO_8, HB⟩ := hrel
          cases gk with
          | zero => exact absurd HA.out (by simp [sorter_Rounds.l0])
          | succ k1 =>
            have H := HA.out
            clear HA
            simp only [sorter_Rounds.l0] at H
            by_cases c10 : x22_1 < (l1.length : Int)
            · rw [if_pos c10] at H
              have c10b0 : decide (x22_1 < (l1.length : Int)) = true := decide_eq_true c10
              clear c10
              by_cases c11 : 0 ≤ x22_1
              · rw [if_pos c11] at H
                have c11b0 : decide (0 ≤ x22_1) = true := decide_eq_true c11
                clear c11
                by_cases c12 : x22_1 < (l1.length : Int)
                · rw [if_pos c12] at H
                  have c12b0 : decide (x22_1 < (l1.length : Int)) = true := decide_eq_true c12
                  clear c12
                  by_cases c13 : 0 ≤ ((rd_T53 l1 x22_1).f0)
                  · rw [if_pos c13] at H
                    have c13b0 : decide (0 ≤ ((rd_T53 l1 x22_1).f0)) = true := decide_eq_true c13
                    clear c13
                    by_cases c14 : ((rd_T53 l1 x22_1).f0) < (x8_1.length : Int)
                    · rw [if_pos c14] at H
                      have c14b0 : decide (((rd_T53 l1 x22_1).f0) < (x8_1.length : Int)) = true := decide_eq_true c14
                      clear c14
                      by_cases c15 : 0 ≤ ((rd_T53 l1 x22_1).f1)
                      · rw [if_pos c15] at H
                        have c15b0 : decide (0 ≤ ((rd_T53 l1 x22_1).f1)) = true := decide_eq_true c15
                        clear c15
                        by_cases c16 : ((rd_T53 l1 x22_1).f1) < (x8_1.length : Int)
                        · rw [if_pos c16] at H
                          have c16b0 : decide (((rd_T53 l1 x22_1).f1) < (x8_1.length : Int)) = true := decide_eq_true c16
                          clear c16
                          obtain ⟨ji17, hji17⟩ : ∃ j_ : Int, (mx (rd x8_1 ((rd_T53 l1 x22_1).f0)) (rd x8_1 ((rd_T53 l1 x22_1).f1))) = j_ := ⟨_, rfl⟩
                          replace H : (if (ji17) = (x7_1.length : Int) then (if x7_1.length < 5864062014805 then ((some (x7_1 ++ [[]] : List (List (S53)))).bind fun y174 => (if 0 ≤ (ji17) then (if (ji17) < (y174.length : Int) then (if (rd_L2 y174 (ji17)).length < 8796093022208 then (sorter_Rounds.l0 k1 (y174.set ((ji17) : Int).toNat ((rd_L2 y174 (ji17)) ++ [(⟨(rd_T53 l1 x22_1).f0, (rd_T53 l1 x22_1).f1⟩ : S53)])) ((x8_1.set (((rd_T53 l1 x22_1).f0) : Int).toNat (wrap64 ((ji17) + 1))).set (((rd_T53 l1 x22_1).f1) : Int).toNat (wrap64 ((ji17) + 1))) l1 (l1.length : Int) (wrap64 (x22_1 + 1))) else (none)) else (none)) else (none))) else (none)) else (if 0 ≤ (ji17) then (if (ji17) < (x7_1.length : Int) then (if (rd_L2 x7_1 (ji17)).length < 8796093022208 then (sorter_Rounds.l0 k1 (x7_1.set ((ji17) : Int).toNat ((rd_L2 x7_1 (ji17)) ++ [(⟨(rd_T53 l1 x22_1).f0, (rd_T53 l1 x22_1).f1⟩ : S53)])) ((x8_1.set (((rd_T53 l1 x22_1).f0) : Int).toNat (wrap64 ((ji17) + 1))).set (((rd_T53 l1 x22_1).f1) : Int).toNat (wrap64 ((ji17) + 1))) l1 (l1.length : Int) (wrap64 (x22_1 + 1))) else (none)) else (none)) else (none))) = some (r1, r2) := by first | (rw [hji17] at H; exact H) | (simp only [hji17] at H ⊢; exact H)
                          have hji17_ : (if (rd x8_1 ((rd_T53 l1 x22_1).f0)) < (rd x8_1 ((rd_T53 l1 x22_1).f1)) then (rd x8_1 ((rd_T53 l1 x22_1).f1)) else (rd x8_1 ((rd_T53 l1 x22_1).f0))) = ji17 := hji17
                          by_cases c18 : (ji17) = (x7_1.length : Int)
                          · rw [if_pos c18] at H
                            have c18b0 : ((ji17) == (x7_1.length : Int)) = true := beq_iff_eq.mpr c18
                            have c18b1 : ((ji17) != (x7_1.length : Int)) = false := bne_eq_false_iff_eq.mpr c18
                            clear c18
                            by_cases c19 : x7_1.length < 5864062014805
                            · rw [if_pos c19] at H
                              have LMc19 := Aside0.mk c19
                              clear c19
                              obtain ⟨y174, hy174⟩ : ∃ y_ : List (List (S53)), y_ = (x7_1 ++ [[]]) := ⟨_, rfl⟩
                              replace H : (if 0 ≤ (ji17) then (if (ji17) < (y174.length : Int) then (if (rd_L2 y174 (ji17)).length < 8796093022208 then (sorter_Rounds.l0 k1 (y174.set ((ji17) : Int).toNat ((rd_L2 y174 (ji17)) ++ [(⟨(rd_T53 l1 x22_1).f0, (rd_T53 l1 x22_1).f1⟩ : S53)])) ((x8_1.set (((rd_T53 l1 x22_1).f0) : Int).toNat (wrap64 ((ji17) + 1))).set (((rd_T53 l1 x22_1).f1) : Int).toNat (wrap64 ((ji17) + 1))) l1 (l1.length : Int) (wrap64 (x22_1 + 1))) else (none)) else (none)) else (none)) = some (r1, r2) := by first | (rw [hy174]; with_reducible exact H) | (have H2_ := (Option.bind_some _ _).symm.trans H; rw [hy174]; with_reducible exact H2_) | (have H2_ := (Option.bind_some _ _).symm.trans H; with_reducible exact H2_) | with_reducible exact H | (rw [hy174]; exact H) | exact H
                              have Ny174 := Aside0.mk hy174
                              clear hy174
                              by_cases c20 : 0 ≤ (ji17)
                              · rw [if_pos c20] at H
                                have c20b0 : decide (0 ≤ (ji17)) = true := decide_eq_true c20
                                clear c20
                                by_cases c21 : (ji17) < (y174.length : Int)
                                · rw [if_pos c21] at H
                                  have c21b0 : decide ((ji17) < (y174.length : Int)) = true := decide_eq_true c21
                                  clear c21
                                  by_cases c22 : (rd_L2 y174 (ji17)).length < 8796093022208
                                  · rw [if_pos c22] at H
                                    have LMc22 := Aside0.mk c22
                                    clear c22
                                    obtain ⟨y178, hy178⟩ : ∃ y_ : List (S53), y_ = ((rd_L2 y174 (ji17)) ++ [(⟨(rd_T53 l1 x22_1).f0, (rd_T53 l1 x22_1).f1⟩ : S53)]) := ⟨_, rfl⟩
                                    replace H : (sorter_Rounds.l0 k1 (y174.set ((ji17) : Int).toNat y178) ((x8_1.set (((rd_T53 l1 x22_1).f0) : Int).toNat (wrap64 ((ji17) + 1))).set (((rd_T53 l1 x22_1).f1) : Int).toNat (wrap64 ((ji17) + 1))) l1 (l1.length : Int) (wrap64 (x22_1 + 1))) = some (r1, r2) := by first | (rw [hy178]; with_reducible exact H) | (have H2_ := (Option.bind_some _ _).symm.trans H; rw [hy178]; with_reducible exact H2_) | (have H2_ := (Option.bind_some _ _).symm.trans H; with_reducible exact H2_) | with_reducible exact H | (rw [hy178]; exact H) | exact H
                                    have Ny178 := Aside0.mk hy178
                                    clear hy178
                                    obtain ⟨y181, hy181⟩ : ∃ y_ : List (List (S53)), y_ = (y174.set ((ji17) : Int).toNat y178) := ⟨_, rfl⟩
                                    replace H : (sorter_Rounds.l0 k1 y181 ((x8_1.set (((rd_T53 l1 x22_1).f0) : Int).toNat (wrap64 ((ji17) + 1))).set (((rd_T53 l1 x22_1).f1) : Int).toNat (wrap64 ((ji17) + 1))) l1 (l1.length : Int) (wrap64 (x22_1 + 1))) = some (r1, r2) := by first | (rw [hy181]; with_reducible exact H) | (have H2_ := (Option.bind_some _ _).symm.trans H; rw [hy181]; with_reducible exact H2_) | (have H2_ := (Option.bind_some _ _).symm.trans H; with_reducible exact H2_) | with_reducible exact H | (rw [hy181]; exact H) | exact H
                                    have Ny181 := Aside0.mk hy181
                                    clear hy181
                                    obtain ⟨y182, hy182⟩ : ∃ y_ : List Int, y_ = (x8_1.set (((rd_T53 l1 x22_1).f0) : Int).toNat (wrap64 ((ji17) + 1))) := ⟨_, rfl⟩
                                    replace H : (sorter_Rounds.l0 k1 y181 (y182.set (((rd_T53 l1 x22_1).f1) : Int).toNat (wrap64 ((ji17) + 1))) l1 (l1.length : Int) (wrap64 (x22_1 + 1))) = some (r1, r2) := by first | (rw [hy182]; with_reducible exact H) | (have H2_ := (Option.bind_some _ _).symm.trans H; rw [hy182]; with_reducible exact H2_) | (have H2_ := (Option.bind_some _ _).symm.trans H; with_reducible exact H2_) | with_reducible exact H | (rw [hy182]; exact H) | exact H
                                    have Ny182 := Aside0.mk hy182
                                    clear hy182
                                    obtain ⟨y183, hy183⟩ : ∃ y_ : List Int, y_ = (y182.set (((rd_T53 l1 x22_1).f1) : Int).toNat (wrap64 ((ji17) + 1))) := ⟨_, rfl⟩
                                    replace H : (sorter_Rounds.l0 k1 y181 y183 l1 (l1.length : Int) (wrap64 (x22_1 + 1))) = some (r1, r2) := by first | (rw [hy183]; with_reducible exact H) | (have H2_ := (Option.bind_some _ _).symm.trans H; rw [hy183]; with_reducible exact H2_) | (have H2_ := (Option.bind_some _ _).symm.trans H; with_reducible exact H2_) | with_reducible exact H | (rw [hy183]; exact H) | exact H
                                    have Ny183 := Aside0.mk hy183
                                    clear hy183
                                    have H' := Aside0.mk H
                                    clear H
                                    have p170 : 0 ≤ (x22_1 : Int) := of_decide_eq_true (by first | (with_reducible assumption) | assumption)
                                    have q170 : x22_1 < (l1.length : Int) := of_decide_eq_true (by first | (with_reducible assumption) | assumption)
                                    obtain ⟨ad170, e170, hx170_0, hx170_1⟩ := at_T53 HR1.out x22_1 p170 q170
                                    cases e170
                                    replace hx170_0 := (HB.out.cell (World.block_lt_of_cell? w _ hx170_0)).trans hx170_0
                                    replace hx170_1 := (HB.out.cell (World.block_lt_of_cell? w _ hx170_1)).trans hx170_1
                                    replace p170 := eq_true p170
                                    replace q170 := eq_true q170
                                    try go_wp2_with (first | ((with_reducible refine gate_dst (N := 10) rfl ?_); refine box_event ?hg (N := 10) ?hd (cs := #[.int .i64 0, .int .i64 0]) (t := 53) ?hr ?_; (case hd => rfl); (case hg => rfl); (case hr => first | (go_simp; done) | (go_simp; rfl)); intro gb171 hg w26 hbox hb; have n0_ := Aside0.mk (Kd.S_below (Kd.S_elderB (by (with_reducible repeat (first | apply Kd.S_alloc | apply Kd.S_drewN | apply Kd.S_drew)); exact HO_7.out) gb171 (Nat.le_of_eq hg.symm)) hb); have n1_ := Aside0.mk (Kd.R_below (by (with_reducible repeat (first | apply Kd.R_alloc | apply Kd.R_drewN | apply Kd.R_drew)); exact HO_8.out) hb); have n2_ := Aside0.mk (below_step (by repeat (first | (with_reducible first | exact HB.out | apply below_alloc | apply pw_below_drewN | apply below_drew1) | exact HB.out)) hb); have n3_ := Aside0.mk (hbox); have n4_ := Aside0.mk ((by rw [hg]; exact (below_size (by repeat (first | (with_reducible first | exact HB.out | apply below_alloc | apply pw_below_drewN | apply below_drew1) | exact HB.out))) : w.heap.size ≤ gb171)); have n5_ := Aside0.mk ((by rw [hg]; exact (below_size (by repeat (first | (with_reducible first | exact HB.out | apply below_alloc | apply pw_below_drewN | apply below_drew1) | exact HB.out))) : w.heap.size ≤ gb171)); clear HO_7; clear HO_8; clear HB; have HO_7 := n0_; have HO_8 := n1_; have HB := n2_; have BK171 := n3_; have GW171 := n4_; have GE171 := n5_; clear n0_ n1_ n2_ n3_ n4_ n5_; clear hb hbox hg; have hcz27_0 : w26.cell? ⟨gb171, 0, none⟩ = some (.int .i64 0) := (blk_cell BK171.out 0).trans rfl; have hcz27_1 : w26.cell? ⟨gb171, 1, none⟩ = some (.int .i64 0) := (blk_cell BK171.out 1).trans rfl; have hfz27_0 := blk_frozen BK171.out 0; have hfz27_1 := blk_frozen BK171.out 1))
                                    have n0_ : Aside0 (Kd.S (Kd.slice 53 k53) 22 ((w26.setCell ⟨gb171, 0, none⟩ (.int .i64 ((rd_T53 l1 x22_1).f0))).setCell ⟨gb171, 1, none⟩ (.int .i64 ((rd_T53 l1 x22_1).f1))) w.heap.size (fun k_ => k_ ≠ gb171) u7 x7_1) := ⟨by (with_reducible repeat (first | apply Kd.S_alloc | apply Kd.S_drewN | apply Kd.S_drew)); exact Kd.S_mono (Kd.S_far (p := ⟨gb171, 1, none⟩) (Kd.S_far (p := ⟨gb171, 0, none⟩) (Kd.S_mono HO_7.out (fun k_ hk => (⟨hk, hk.2⟩ : _ ∧ k_ ≠ gb171))) (fun _ hk => hk.2) (.int .i64 ((rd_T53 l1 x22_1).f0))) (fun _ hk => hk.2) (.int .i64 ((rd_T53 l1 x22_1).f1))) (fun _ hk => hk.1.2)⟩
                                    have n1_ : Aside0 (Kd.R (Kd.int .i64) 3 ((w26.setCell ⟨gb171, 0, none⟩ (.int .i64 ((rd_T53 l1 x22_1).f0))).setCell ⟨gb171, 1, none⟩ (.int .i64 ((rd_T53 l1 x22_1).f1))) w.heap.size (fun _ => True) v168 x8_1) := ⟨by (with_reducible repeat (first | apply Kd.R_alloc | apply Kd.R_drewN | apply Kd.R_drew)); exact Kd.R_mono (Kd.R_far (p := ⟨gb171, 1, none⟩) (Kd.R_far (p := ⟨gb171, 0, none⟩) (Kd.R_types HO_8.out BK171.out (by decide)) (fun _ hk => hk.2) (.int .i64 ((rd_T53 l1 x22_1).f0))) (fun _ hk => hk.2) (.int .i64 ((rd_T53 l1 x22_1).f1))) (fun _ hk => trivial)⟩
                                    have n2_ : Aside0 (((w26.setCell ⟨gb171, 0, none⟩ (.int .i64 ((rd_T53 l1 x22_1).f0))).setCell ⟨gb171, 1, none⟩ (.int .i64 ((rd_T53 l1 x22_1).f1))).heap[gb171]? = some (.cells #[.int .i64 ((rd_T53 l1 x22_1).f0), .int .i64 ((rd_T53 l1 x22_1).f1)] 53 (0, 0))) := ⟨by (with_reducible repeat (first | refine blk_drewN ?_ _ | refine blk_drew ?_ | refine blk_alloc ?_ _)); refine blk_put (cs := #[.int .i64 ((rd_T53 l1 x22_1).f0), .int .i64 0]) ?_ 1 _ rfl; (with_reducible repeat (first | refine blk_drewN ?_ _ | refine blk_drew ?_ | refine blk_alloc ?_ _)); refine blk_put (cs := #[.int .i64 0, .int .i64 0]) ?_ 0 _ rfl; (with_reducible repeat (first | refine blk_drewN ?_ _ | refine blk_drew ?_ | refine blk_alloc ?_ _)); exact BK171.out⟩
                                    have n3_ : Aside0 (Below w.heap.size w ((w26.setCell ⟨gb171, 0, none⟩ (.int .i64 ((rd_T53 l1 x22_1).f0))).setCell ⟨gb171, 1, none⟩ (.int .i64 ((rd_T53 l1 x22_1).f1)))) := ⟨by repeat (first | (with_reducible first | exact HB.out | apply below_alloc | apply pw_below_drewN | apply below_drew1 | refine below_set ?_ GE171.out) | exact HB.out)⟩
                                    (try clear HO_7)
                                    (try clear HO_8)
                                    (try clear BK171)
                                    (try clear HB)
                                    generalize ((w26.setCell ⟨gb171, 0, none⟩ (.int .i64 ((rd_T53 l1 x22_1).f0))).setCell ⟨gb171, 1, none⟩ (.int .i64 ((rd_T53 l1 x22_1).f1))) = w28 at n0_ n1_ n2_ n3_ ⊢
                                    have HO_7 := n0_
                                    have HO_8 := n1_
                                    have BK171 := n2_
                                    have HB := n3_
                                    clear n0_ n1_ n2_ n3_
                                    have n0_ := Aside0.mk (Kd.S_drew HO_7.out)
                                    have n1_ := Aside0.mk (Kd.R_drew HO_8.out)
                                    have n2_ := Aside0.mk (blk_drew BK171.out)
                                    have n3_ := Aside0.mk (below_drew1 HB.out)
                                    clear HO_7
                                    clear HO_8
                                    clear BK171
                                    clear HB
                                    have HO_7 := n0_
                                    have HO_8 := n1_
                                    have BK171 := n2_
                                    have HB := n3_
                                    clear n0_ n1_ n2_ n3_
                                    obtain ⟨Ao30, co30, eo30⟩ := Kd.R_slice HO_8.out
                                    (first | subst eo30 | (injection eo30 with f1_ f2_ f3_; have f4_ := f1_.symm; have f5_ := f3_.symm; clear f1_ f2_ f3_; subst f4_; subst f5_))
                                    have p172 : 0 ≤ (((rd_T53 l1 x22_1).f0) : Int) := of_decide_eq_true (by first | (with_reducible assumption) | assumption)
                                    have q172 : ((rd_T53 l1 x22_1).f0) < (x8_1.length : Int) := of_decide_eq_true (by first | (with_reducible assumption) | assumption)
                                    obtain ⟨ad172, e172, hx172_0⟩ := Kd.at_int (Kd.R_reads' HO_8.out).2.2 ((rd_T53 l1 x22_1).f0) p172 q172
                                    cases e172
                                    replace p172 := eq_true p172
                                    replace q172 := eq_true q172
                                    have p173 : 0 ≤ (((rd_T53 l1 x22_1).f1) : Int) := of_decide_eq_true (by first | (with_reducible assumption) | assumption)
                                    have q173 : ((rd_T53 l1 x22_1).f1) < (x8_1.length : Int) := of_decide_eq_true (by first | (with_reducible assumption) | assumption)
                                    obtain ⟨ad173, e173, hx173_0⟩ := Kd.at_int (Kd.R_reads' HO_8.out).2.2 ((rd_T53 l1 x22_1).f1) p173 q173
                                    obtain rfl : ad172 = ad173 := (by injection e173)
                                    replace p173 := eq_true p173
                                    replace q173 := eq_true q173
                                    refine start_ (n := 12) (S := fun w' => w'.cell? ⟨gb171, 0, none⟩ = some (.int .i64 ((rd_T53 l1 x22_1).f0)) ∧ w'.cell? ⟨gb171, 1, none⟩ = some (.int .i64 ((rd_T53 l1 x22_1).f1)) ∧ w'.cell? (ad172.add (((rd_T53 l1 x22_1).f0)).toNat) = some (.int .i64 (rd x8_1 ((rd_T53 l1 x22_1).f0))) ∧ w'.cell? (ad172.add (((rd_T53 l1 x22_1).f1)).toNat) = some (.int .i64 (rd x8_1 ((rd_T53 l1 x22_1).f1)))) (ds := []) #[false, false, false, false, false, false, false, false, false, false, false, false] (by kernel_rfl) rfl rfl ⟨(blk_cell BK171.out 0).trans rfl, (blk_cell BK171.out 1).trans rfl, hx172_0, hx173_0⟩ (fun hHeld => ?_); refine with_tabW sorter_Rounds.tab9 sorter_Rounds.bits9 (fun HT_ HW_ => ?_)
                                    generalize w28.drew = w29 at HO_7 HO_8 BK171 HB hx172_0 hx173_0 hHeld ⊢
                                    refine pure_ (i := 0) (N := some 26) (v := ?_) (a' := ?_) #[true, false, false, false, false, false, false, false, false, false, false, false] rfl rfl (any_of HT_.out (by kernel_rfl)) (fun _ _ _ h => h) (Or.inl ⟨by rfl, ?_⟩) ?_ ?_
                                    rotate_left
                                    · intro w'
                                      go_simp
                                      with_reducible rfl
                                    rotate_left
                                    · simp only [Act.put, List.setIfInBounds_toArray, List.set_cons_zero, List.set_cons_succ, i64_w, i32_w]
                                      rfl
                                    refine pure_ (i := 1) (N := some 27) (v := ?_) (a' := ?_) #[true, true, false, false, false, false, false, false, false, false, false, false] rfl rfl (any_of HT_.out (by kernel_rfl)) (fun _ _ _ h => h) (Or.inl ⟨by rfl, ?_⟩) ?_ ?_
                                    rotate_left
                                    · intro w'
                                      go_simp
                                      with_reducible rfl
                                    rotate_left
                                    · simp only [Act.put, List.setIfInBounds_toArray, List.set_cons_zero, List.set_cons_succ, i64_w, i32_w]
                                      rfl
                                    refine pure_ (i := 5) (N := some 31) (v := ?_) (a' := ?_) #[true, true, false, false, false, true, false, false, false, false, false, false] rfl rfl (any_of HT_.out (by kernel_rfl)) (fun _ _ _ h => h) (Or.inl ⟨by rfl, ?_⟩) ?_ ?_
                                    rotate_left
                                    · intro w'
                                      go_simp
                                      with_reducible rfl
                                    rotate_left
                                    · simp only [Act.put, List.setIfInBounds_toArray, List.set_cons_zero, List.set_cons_succ, i64_w, i32_w]
                                      rfl
                                    refine pure_ (i := 6) (N := some 32) (v := ?_) (a' := ?_) #[true, true, false, false, false, true, true, false, false, false, false, false] rfl rfl (any_of HT_.out (by kernel_rfl)) (fun _ _ _ h => h) (Or.inl ⟨by rfl, ?_⟩) ?_ ?_
                                    rotate_left
                                    · intro w'
                                      go_simp
                                      with_reducible rfl
                                    rotate_left
                                    · simp only [Act.put, List.setIfInBounds_toArray, List.set_cons_zero, List.set_cons_succ, i64_w, i32_w]
                                      rfl
                                    refine take_ (i := 2) (N := some 28) (v := ?_) (a' := ?_) #[true, true, true, false, false, true, true, false, false, false, false, false] rfl rfl (take_ofW HT_.out HW_.out (by kernel_rfl)) (fun _ _ _ h => h) (Or.inl ⟨by rfl, ?_⟩) hHeld ?_ ?_
                                    rotate_left
                                    · rintro w' ⟨s0, s1, s2, s3⟩
                                      go_simp
                                      with_reducible rfl
                                    rotate_left
                                    · simp only [Act.put, List.setIfInBounds_toArray, List.set_cons_zero, List.set_cons_succ, i64_w, i32_w]
                                      rfl
                                    refine pure_ (i := 3) (N := some 29) (v := ?_) (a' := ?_) #[true, true, true, true, false, true, true, false, false, false, false, false] rfl rfl (any_of HT_.out (by kernel_rfl)) (fun _ _ _ h => h) (Or.inl ⟨by rfl, ?_⟩) ?_ ?_
                                    rotate_left
                                    · intro w'
                                      go_simp
                                      with_reducible rfl
                                    rotate_left
                                    · simp only [Act.put, List.setIfInBounds_toArray, List.set_cons_zero, List.set_cons_succ, i64_w, i32_w]
                                      rfl
                                    refine take_ (i := 4) (N := some 30) (v := ?_) (a' := ?_) #[true, true, true, true, true, true, true, false, false, false, false, false] rfl rfl (take_ofW HT_.out HW_.out (by kernel_rfl)) (fun _ _ _ h => h) (Or.inl ⟨by rfl, ?_⟩) hHeld ?_ ?_
                                    rotate_left
                                    · rintro w' ⟨s0, s1, s2, s3⟩
                                      go_simp
                                      with_reducible rfl
                                    rotate_left
                                    · simp only [Act.put, List.setIfInBounds_toArray, List.set_cons_zero, List.set_cons_succ, i64_w, i32_w]
                                      rfl
                                    refine take_ (i := 7) (N := some 33) (v := ?_) (a' := ?_) #[true, true, true, true, true, true, true, true, false, false, false, false] rfl rfl (take_ofW HT_.out HW_.out (by kernel_rfl)) (fun _ _ _ h => h) (Or.inl ⟨by rfl, ?_⟩) hHeld ?_ ?_
                                    rotate_left
                                    · rintro w' ⟨s0, s1, s2, s3⟩
                                      go_simp
                                      with_reducible rfl
                                    rotate_left
                                    · simp only [Act.put, List.setIfInBounds_toArray, List.set_cons_zero, List.set_cons_succ, i64_w, i32_w]
                                      rfl
                                    refine pure_ (i := 8) (N := some 34) (v := ?_) (a' := ?_) #[true, true, true, true, true, true, true, true, true, false, false, false] rfl rfl (any_of HT_.out (by kernel_rfl)) (fun _ _ _ h => h) (Or.inl ⟨by rfl, ?_⟩) ?_ ?_
                                    rotate_left
                                    · intro w'
                                      go_simp
                                      with_reducible rfl
                                    rotate_left
                                    · simp only [Act.put, List.setIfInBounds_toArray, List.set_cons_zero, List.set_cons_succ, i64_w, i32_w]
                                      rfl
                                    refine take_ (i := 9) (N := some 35) (v := ?_) (a' := ?_) #[true, true, true, true, true, true, true, true, true, true, false, false] rfl rfl (take_ofW HT_.out HW_.out (by kernel_rfl)) (fun _ _ _ h => h) (Or.inl ⟨by rfl, ?_⟩) hHeld ?_ ?_
                                    rotate_left
                                    · rintro w' ⟨s0, s1, s2, s3⟩
                                      go_simp
                                      with_reducible rfl
                                    rotate_left
                                    · simp only [Act.put, List.setIfInBounds_toArray, List.set_cons_zero, List.set_cons_succ, i64_w, i32_w]
                                      rfl
                                    refine pure_ (i := 10) (N := some 36) (v := ?_) (a' := ?_) #[true, true, true, true, true, true, true, true, true, true, true, false] rfl rfl (any_of HT_.out (by kernel_rfl)) (fun _ _ _ h => h) (Or.inl ⟨by rfl, ?_⟩) ?_ ?_
                                    rotate_left
                                    · intro w'
                                      go_simp
                                      with_reducible rfl
                                    rotate_left
                                    · simp only [Act.put, List.setIfInBounds_toArray, List.set_cons_zero, List.set_cons_succ, i64_w, i32_w]
                                      rfl
                                    refine pure_ (i := 11) (N := some 11) (v := ?_) (a' := ?_) #[true, true, true, true, true, true, true, true, true, true, true, true] rfl rfl (any_of HT_.out (by kernel_rfl)) (fun _ _ _ h => h) (Or.inl ⟨by rfl, ?_⟩) ?_ ?_
                                    rotate_left
                                    · intro w'
                                      go_simp
                                      with_reducible rfl
                                    rotate_left
                                    · simp only [Act.put, List.setIfInBounds_toArray, List.set_cons_zero, List.set_cons_succ, i64_w, i32_w]
                                      rfl
                                    refine done_ (done_of HT_.out (by kernel_rfl)) ?_
                                    obtain ⟨Ao31, co31, eo31⟩ := Kd.S_slice HO_7.out
                                    subst eo31
                                    try go_wp2_with (first | ((with_reducible refine gate_builtin (b := .append) (xs := #[.tmp 41, .tmp 42]) rfl ?_); at_builtin; refine Kd.S_append (Kd.slice 53 k53) (w0 := w) w.heap.size rfl (.tmp 41) (.tmp 42) 49 22 (.slice none 0 0) 24 rfl Try.underlying49 info22 rfl (by decide) (by omega) (.slice Ao31 x7_1.length co31) x7_1 [] [.slice none 0 0] (fun k_ => k_ ≠ gb171) (fun _ => False) rfl rfl ?aP (fun _ hk => hk.elim) ?aF ?aO ?aB ?aS ?aL ?_; (case aP => exact ⟨_, rfl, Kd.R_nil k53 53 _ _ _⟩); (case aB => exact (by repeat (first | (with_reducible first | exact HB.out | apply below_alloc | apply pw_below_drewN | apply below_drew1 | refine below_set ?_ GE171.out) | exact HB.out))); (case aF => exact (fun k_ hk => Kd.freshB (g := gb171) (o := .cells #[.int .i64 ((rd_T53 l1 x22_1).f0), .int .i64 ((rd_T53 l1 x22_1).f1)] 53 (0, 0)) (by (with_reducible repeat (first | refine blk_drewN ?_ _ | refine blk_drew ?_ | refine blk_alloc ?_ _)); exact BK171.out) k_ hk)); (case aO => exact (by (with_reducible repeat (first | apply Kd.S_alloc | apply Kd.S_drewN | apply Kd.S_drew)); exact Kd.S_mono HO_7.out (fun k_ hk => ⟨hk, fun e_ => e_⟩))); (case aS => exact (below_size (by repeat (first | (with_reducible first | exact HB.out | apply below_alloc | apply pw_below_drewN | apply below_drew1 | refine below_set ?_ GE171.out) | exact HB.out)))); (case aL => have := LMc19.out; omega); intro v175 w32 ho hb hg hat; rw [← Ny174.out] at ho; have n0_ := Aside0.mk (Kd.R_over' (by (with_reducible repeat (first | apply Kd.R_alloc | apply Kd.R_drewN | apply Kd.R_drew)); exact HO_8.out) (Kd.S_typed (by (with_reducible repeat (first | apply Kd.S_alloc | apply Kd.S_drewN | apply Kd.S_drew)); exact HO_7.out)) (by decide) hg); have n1_ := Aside0.mk (blk_grown (g := gb171) (o := .cells #[.int .i64 ((rd_T53 l1 x22_1).f0), .int .i64 ((rd_T53 l1 x22_1).f1)] 53 (0, 0)) (by (with_reducible repeat (first | refine blk_drewN ?_ _ | refine blk_drew ?_ | refine blk_alloc ?_ _)); exact BK171.out) hg (Kd.S_ne HO_7.out BK171.out (by decide))); have n2_ := Aside0.mk (hb); have n3_ := Aside0.mk (ho); clear HO_8; clear BK171; clear HB; clear HO_7; have HO_8 := n0_; have BK171 := n1_; have HB := n2_; have HO176 := n3_; clear n0_ n1_ n2_ n3_; clear ho hb hg hat))
                                    have n0_ := Aside0.mk (Kd.R_drew HO_8.out)
                                    have n1_ := Aside0.mk (Kd.S_drew HO176.out)
                                    have n2_ := Aside0.mk (blk_drew BK171.out)
                                    have n3_ := Aside0.mk (below_drew1 HB.out)
                                    clear HO_8
                                    clear HO176
                                    clear BK171
                                    clear HB
                                    have HO_8 := n0_
                                    have HO176 := n1_
                                    have BK171 := n2_
                                    have HB := n3_
                                    clear n0_ n1_ n2_ n3_
                                    obtain ⟨Ao34, co34, eo34⟩ := Kd.S_slice HO176.out
                                    (first | subst eo34 | (injection eo34 with f1_ f2_ f3_; have f4_ := f1_.symm; have f5_ := f3_.symm; clear f1_ f2_ f3_; subst f4_; subst f5_))
                                    have p177 : 0 ≤ ((ji17) : Int) := of_decide_eq_true (by first | (with_reducible assumption) | assumption)
                                    have q177 : (ji17) < (y174.length : Int) := of_decide_eq_true (by first | (with_reducible assumption) | assumption)
                                    obtain ⟨ad177, A177_0, c177_0, e177, hx177_0, hl177_0, hi177_0⟩ := at_L2 (Kd.S_reads' HO176.out).2.2 (ji17) p177 q177
                                    cases e177
                                    obtain ⟨ce177, hce177, hMe177, hcc177⟩ := Kd.S_get HO176.out [] (ji17) p177 (by first | exact q177 | exact of_decide_eq_true (by first | (with_reducible assumption) | assumption) | (have e_ := (Kd.S_reads' HO176.out).1; omega))
                                    obtain ⟨ve177_0, rfl, ge177_0⟩ := hMe177
                                    have hv177_0 := hcc177 0 _ rfl
                                    rw [Nat.add_zero, show ((Kd.slice 53 k53)).sz = 1 from rfl, Nat.mul_one] at hv177_0
                                    replace hv177_0 := Option.some.inj (hv177_0.symm.trans hx177_0)
                                    rw [hv177_0] at ge177_0
                                    have HL177_0 := Aside0.mk (show Kd.R k53 53 _ _ _ _ (rd_L2 y174 (ji17)) from ge177_0)
                                    clear hv177_0 ge177_0
                                    have HX177_0 := Aside0.mk hx177_0
                                    clear hcc177 hce177
                                    have HR177_0 := Aside0.mk hi177_0
                                    have HC177_0 := Aside0.mk hl177_0
                                    clear hi177_0 hl177_0
                                    replace p177 := eq_true p177
                                    replace q177 := eq_true q177
                                    obtain ⟨go35, co35, eo35, gb35, gl35, cl35, HG35⟩ := Kd.S_form HO176.out (by have h_ : ((ji17) : Int) < ((y174.length : Int) : Int) := of_decide_eq_true (by first | (with_reducible assumption) | assumption); have h2_ : 0 ≤ ((ji17) : Int) := (of_decide_eq_true (by first | (with_reducible assumption) | assumption)); omega)
                                    (first | cases eo35 | (injection eo35 with ea_ en_ ec_; (first | subst ea_ | (injection ea_ with ea_; subst ea_)); subst ec_; clear en_))
                                    have GB35 := Aside0.mk gb35
                                    have GG35 := Aside0.mk HG35
                                    clear gb35 gl35 HG35
                                    (first | simp only [add_plain] at hx177_0 | skip)
                                    obtain ⟨oki35, ce35, hcl35, hM35, hcc35, _, _, hH35⟩ := Kd.S_elem HO176.out [] ((ji17) : Int) (of_decide_eq_true (by first | (with_reducible assumption) | assumption)) (by have h_ : ((ji17) : Int) < ((y174.length : Int) : Int) := of_decide_eq_true (by first | (with_reducible assumption) | assumption); first | exact h_ | (have e_ := (Kd.S_reads' HO176.out).1; omega) | simpa using h_)
                                    obtain ⟨ve35_0, rfl, ge35_0⟩ := hM35
                                    have hv35 := hcc35 0 _ rfl
                                    have hX35 := HX177_0.out
                                    (try simp only [add_plain] at hX35)
                                    (try simp only [Nat.add_zero] at hv35)
                                    (try rw [show ((Kd.slice 53 k53)).sz = 1 from rfl, Nat.mul_one] at hv35)
                                    replace hv35 := Option.some.inj (hv35.symm.trans hX35)
                                    subst hv35
                                    clear hX35 hcc35 hcl35
                                    have UU35 := Aside0.mk (show Kd.R k53 53 _ w.heap.size oki35 (.slice A177_0 (rd_L2 y174 (ji17)).length c177_0) (rd_L2 y174 (ji17)) from ge35_0)
                                    have HH35 := Aside0.mk hH35
                                    have HN35 := Aside0.mk (Kd.S_reads' HO176.out).1
                                    clear hH35 ge35_0
                                    refine start_ (n := 11) (S := fun w' => w'.cell? ⟨gb171, 0, none⟩ = some (.int .i64 ((rd_T53 l1 x22_1).f0)) ∧ w'.cell? ⟨gb171, 1, none⟩ = some (.int .i64 ((rd_T53 l1 x22_1).f1)) ∧ w'.cell? ⟨go35, ((ji17)).toNat, none⟩ = some (.slice A177_0 (rd_L2 y174 (ji17)).length c177_0)) (ds := [10]) #[false, false, false, false, false, false, false, false, false, false, false] (by kernel_rfl) rfl rfl ⟨(blk_cell BK171.out 0).trans rfl, (blk_cell BK171.out 1).trans rfl, hx177_0⟩ (fun hHeld => ?_); refine with_tabW sorter_Rounds.tab12 sorter_Rounds.bits12 (fun HT_ HW_ => ?_)
                                    generalize w32.drew = w33 at HO_8 HO176 BK171 HB GG35 HH35 HL177_0 HR177_0 HX177_0 UU35 hx177_0 hHeld ⊢
                                    refine pure_ (i := 0) (N := some 44) (v := ?_) (a' := ?_) #[true, false, false, false, false, false, false, false, false, false, false] rfl rfl (any_of HT_.out (by kernel_rfl)) (fun _ _ _ h => h) (Or.inl ⟨by rfl, ?_⟩) ?_ ?_
                                    rotate_left
                                    · intro w'
                                      go_simp
                                      with_reducible rfl
                                    rotate_left
                                    · simp only [Act.put, List.setIfInBounds_toArray, List.set_cons_zero, List.set_cons_succ, i64_w, i32_w]
                                      rfl
                                    refine pure_ (i := 1) (N := some 45) (v := ?_) (a' := ?_) #[true, true, false, false, false, false, false, false, false, false, false] rfl rfl (any_of HT_.out (by kernel_rfl)) (fun _ _ _ h => h) (Or.inl ⟨by rfl, ?_⟩) ?_ ?_
                                    rotate_left
                                    · intro w'
                                      go_simp
                                      with_reducible rfl
                                    rotate_left
                                    · simp only [Act.put, List.setIfInBounds_toArray, List.set_cons_zero, List.set_cons_succ, i64_w, i32_w]
                                      rfl
                                    refine pure_ (i := 2) (N := some 46) (v := ?_) (a' := ?_) #[true, true, true, false, false, false, false, false, false, false, false] rfl rfl (any_of HT_.out (by kernel_rfl)) (fun _ _ _ h => h) (Or.inl ⟨by rfl, ?_⟩) ?_ ?_
                                    rotate_left
                                    · intro w'
                                      go_simp
                                      with_reducible rfl
                                    rotate_left
                                    · simp only [Act.put, List.setIfInBounds_toArray, List.set_cons_zero, List.set_cons_succ, i64_w, i32_w]
                                      rfl
                                    refine pure_ (i := 3) (N := some 47) (v := ?_) (a' := ?_) #[true, true, true, true, false, false, false, false, false, false, false] rfl rfl (any_of HT_.out (by kernel_rfl)) (fun _ _ _ h => h) (Or.inl ⟨by rfl, ?_⟩) ?_ ?_
                                    rotate_left
                                    · intro w'
                                      go_simp
                                      with_reducible rfl
                                    rotate_left
                                    · simp only [Act.put, List.setIfInBounds_toArray, List.set_cons_zero, List.set_cons_succ, i64_w, i32_w]
                                      rfl
                                    refine pure_ (i := 4) (N := some 48) (v := ?_) (a' := ?_) #[true, true, true, true, true, false, false, false, false, false, false] rfl rfl (any_of HT_.out (by kernel_rfl)) (fun _ _ _ h => h) (Or.inl ⟨by rfl, ?_⟩) ?_ ?_
                                    rotate_left
                                    · intro w'
                                      go_simp
                                      with_reducible rfl
                                    rotate_left
                                    · simp only [Act.put, List.setIfInBounds_toArray, List.set_cons_zero, List.set_cons_succ, i64_w, i32_w]
                                      rfl
                                    refine take_ (i := 5) (N := some 49) (v := ?_) (a' := ?_) #[true, true, true, true, true, true, false, false, false, false, false] rfl rfl (take_ofW HT_.out HW_.out (by kernel_rfl)) (fun _ _ _ h => h) (Or.inl ⟨by rfl, ?_⟩) hHeld ?_ ?_
                                    rotate_left
                                    · rintro w' ⟨s0, s1, s2⟩
                                      go_simp
                                      with_reducible rfl
                                    rotate_left
                                    · simp only [Act.put, List.setIfInBounds_toArray, List.set_cons_zero, List.set_cons_succ, i64_w, i32_w]
                                      rfl
                                    refine take_ (i := 6) (N := some 50) (v := ?_) (a' := ?_) #[true, true, true, true, true, true, true, false, false, false, false] rfl rfl (take_ofW HT_.out HW_.out (by kernel_rfl)) (fun _ _ _ h => h) (Or.inl ⟨by rfl, ?_⟩) hHeld ?_ ?_
                                    rotate_left
                                    · rintro w' ⟨s0, s1, s2⟩
                                      go_simp
                                      with_reducible rfl
                                    rotate_left
                                    · simp only [Act.put, List.setIfInBounds_toArray, List.set_cons_zero, List.set_cons_succ, i64_w, i32_w]
                                      rfl
                                    refine one_ (i := 7) (N := some 51) #[true, true, true, true, true, true, true, true, false, false, false] rfl rfl (one_of HT_.out (by kernel_rfl)) (by decide) (fun K hK => ?_)
                                    refine value_ (w1 := ?_) (v := ?_) (by rfl) rfl ?_ ?_
                                    rotate_left 2
                                    · go_simp
                                      constructor
                                      · rfl
                                      · rfl
                                    refine hK.out _ _ ⟨(blk_cell (blk_alloc BK171.out _) 0).trans rfl, (blk_cell (blk_alloc BK171.out _) 1).trans rfl, (World.cell?_alloc_lt _ _ _ (World.block_lt_of_cell? _ _ (hHeld.2.2))).trans (hHeld.2.2)⟩ (fun hHeld => ?_)
                                    clear hK K
                                    refine norm_ (a' := ?_) ?_ ?_
                                    rotate_left
                                    · show Act.put _ (some 51) _ = _
                                      simp only [Act.put, List.setIfInBounds_toArray, List.set_cons_zero, List.set_cons_succ, i64_w, i32_w]
                                      rfl
                                    refine one_ (i := 8) (N := some 52) #[true, true, true, true, true, true, true, true, true, false, false] rfl rfl (one_of HT_.out (by kernel_rfl)) (by decide) (fun K hK => ?_)
                                    refine Kd.R_append_step k53 (w0 := w) w.heap.size (by rfl) (.tmp 49) (.tmp 51) 22 53 (.agg #[(.int .i64 0), (.int .i64 0)]) 16 rfl Try.underlying22 info53 rfl (by decide) (by omega) (.slice A177_0 (rd_L2 y174 (ji17)).length c177_0) (rd_L2 y174 (ji17)) (⟨(rd_T53 l1 x22_1).f0, (rd_T53 l1 x22_1).f1⟩ : S53) [.int .i64 ((rd_T53 l1 x22_1).f0), .int .i64 ((rd_T53 l1 x22_1).f1)] (fun k_ => oki35 k_ ∨ ((fun k_ => k_ ≠ gb171)) k_ ∧ w33.heap.size ≤ k_) (fun _ => False) rfl rfl ?aP (fun _ hk => hk.elim) ?aF ?aO ?aB ?aS ?aL ?_
                                    (case aP => exact k53_mkM _ _ _ (⟨(rd_T53 l1 x22_1).f0, (rd_T53 l1 x22_1).f1⟩ : S53))
                                    (case aB => exact (by repeat (first | (with_reducible first | exact HB.out | apply below_alloc | apply pw_below_drewN | apply below_drew1 | refine below_set ?_ GE171.out) | exact HB.out)))
                                    (case aF => exact (fun k_ hk => .inr ⟨Kd.freshB (g := gb171) (o := .cells #[.int .i64 ((rd_T53 l1 x22_1).f0), .int .i64 ((rd_T53 l1 x22_1).f1)] 53 (0, 0)) (by (with_reducible repeat (first | refine blk_drewN ?_ _ | refine blk_drew ?_ | refine blk_alloc ?_ _)); exact BK171.out) k_ hk, hk⟩))
                                    (case aO => exact (by (with_reducible repeat (first | apply Kd.R_alloc | apply Kd.R_drewN | apply Kd.R_drew)); exact Kd.R_mono UU35.out (fun _ hk => .inl hk)))
                                    (case aS => exact (below_size (by repeat (first | (with_reducible first | exact HB.out | apply below_alloc | apply pw_below_drewN | apply below_drew1 | refine below_set ?_ GE171.out) | exact HB.out))))
                                    (case aL => have := LMc22.out; omega)
                                    intro v179 w36 ho hb hg hat
                                    (first | have HS2_ := cell_grown hg (hHeld.2.2) (by first | (rw [add_block]; exact (fun e_ => ((HL177_0.out.1 _ e_.symm).2) rfl)) | (show some (Addr.add _ _).block ≠ _; rw [add_block]; exact (fun e_ => ((HL177_0.out.1 _ e_.symm).2) rfl)) | exact (fun e_ => ((HL177_0.out.1 _ e_.symm).2) rfl)) | have HS2_ := cell_grown hg (cell_unalloc (hHeld.2.2) (by first | (rw [add_block]; exact Kd.S_lt HO176.out _ rfl) | (show (Addr.add _ _).block < _; rw [add_block]; exact Kd.S_lt HO176.out _ rfl) | exact Kd.S_lt HO176.out _ rfl)) (by first | (rw [add_block]; exact (fun e_ => ((HL177_0.out.1 _ e_.symm).2) rfl)) | (show some (Addr.add _ _).block ≠ _; rw [add_block]; exact (fun e_ => ((HL177_0.out.1 _ e_.symm).2) rfl)) | exact (fun e_ => ((HL177_0.out.1 _ e_.symm).2) rfl)))
                                    rw [← Ny178.out] at ho
                                    have n0_ := Aside0.mk (Kd.R_over' (v := (.slice A177_0 (rd_L2 y174 (ji17)).length c177_0)) (by (with_reducible repeat (first | apply Kd.R_alloc | apply Kd.R_drewN | apply Kd.R_drew)); exact HO_8.out) (Kd.R_typed HL177_0.out) (by decide) hg)
                                    have n1_ := Aside0.mk (blk_grown (g := gb171) (o := .cells #[.int .i64 ((rd_T53 l1 x22_1).f0), .int .i64 ((rd_T53 l1 x22_1).f1)] 53 (0, 0)) (by (with_reducible repeat (first | refine blk_drewN ?_ _ | refine blk_drew ?_ | refine blk_alloc ?_ _)); exact BK171.out) hg (Kd.R_away HL177_0.out (fun _ hk => hk.1)))
                                    have n2_ := Aside0.mk (hb)
                                    have n3_ := Aside0.mk (Kd.H_grown (Kd.H_widen (by repeat (first | exact HH35.out | refine Kd.H_alloc ?_ _ | refine Kd.H_drewN ?_ _ | refine Kd.H_drew ?_))) hg (fun k_ e_ => .inl (UU35.out.1 k_ e_)))
                                    have n4_ := Aside0.mk (ho)
                                    clear HO_8
                                    clear BK171
                                    clear HB
                                    clear HH35
                                    clear HO176
                                    clear UU35
                                    clear HL177_0
                                    have HO_8 := n0_
                                    have BK171 := n1_
                                    have HB := n2_
                                    have HH35 := n3_
                                    have HO180 := n4_
                                    clear n0_ n1_ n2_ n3_ n4_
                                    clear ho hb hg hat
                                    have p23 : 0 ≤ ((ji17) : Int) := of_decide_eq_true (by first | (with_reducible assumption) | assumption)
                                    have q23 : ((ji17) : Int) < ((y174.length : Int) : Int) := of_decide_eq_true (by first | (with_reducible assumption) | assumption)
                                    replace p23 := eq_true p23
                                    replace q23 := eq_true q23
                                    obtain ⟨Ao39, co39, eo39⟩ := Kd.R_slice HO180.out
                                    (first | subst eo39 | (injection eo39 with f1_ f2_ f3_; have f4_ := f1_.symm; have f5_ := f3_.symm; clear f1_ f2_ f3_; subst f4_; subst f5_))
                                    obtain ⟨_, _, hraw37, _, _, hcc37, _⟩ := Kd.H_raw HH35.out (of_decide_eq_true (by first | (with_reducible assumption) | assumption)) (by have h_ : ((ji17) : Int) < ((y174.length : Int) : Int) := of_decide_eq_true (by first | (with_reducible assumption) | assumption); first | exact h_ | (have e_ := (HN35.out); omega) | simpa using h_)
                                    obtain ⟨_, hfr37⟩ := Kd.H_at HH35.out (of_decide_eq_true (by first | (with_reducible assumption) | assumption)) (by have h_ : ((ji17) : Int) < ((y174.length : Int) : Int) := of_decide_eq_true (by first | (with_reducible assumption) | assumption); first | exact h_ | (have e_ := (HN35.out); omega) | simpa using h_)
                                    have hx37_0 := hcc37 0 _ rfl
                                    have hf37_0 := hfr37 0
                                    (try simp only [Nat.add_zero] at hx37_0 hf37_0)
                                    (try rw [show ((Kd.slice 53 k53)).sz = 1 from rfl, Nat.mul_one] at hx37_0)
                                    (try rw [show ((Kd.slice 53 k53)).sz = 1 from rfl, Nat.mul_one] at hf37_0)
                                    have HP37 := Kd.S_seg0 HH35.out (of_decide_eq_true (by first | (with_reducible assumption) | assumption)) (by have h_ : ((ji17) : Int) < ((y174.length : Int) : Int) := of_decide_eq_true (by first | (with_reducible assumption) | assumption); first | exact h_ | (have e_ := (HN35.out); omega) | simpa using h_) (seg := [.slice Ao39 y178.length co39]) (j := 0) (show 1 ≤ 1 from by decide) (x' := y178) (Kd.M_row HO180.out) (fun _ hk => hk)
                                    (try simp only [show ((Kd.slice 53 k53)).sz = 1 from rfl, Nat.mul_one, Nat.add_zero] at HP37)
                                    clear hcc37 hfr37
                                    have HNB171_go35 := Aside0.mk (show gb171 ≠ go35 from by have h_ := Kd.R_ne hraw37 BK171.out (by decide); intro e_; exact h_ (by rw [e_]; rfl))
                                    have HS37 := HP37.1
                                    rw [← Ny181.out] at HS37
                                    have HQ37 := Aside0.mk HS37
                                    obtain ⟨_, hgg37⟩ := Kd.R_typed hraw37 go35 rfl
                                    have GG37_ := Aside0.mk hgg37
                                    clear HP37 HS37 hgg37
                                    refine hK.out _ _ ⟨(blk_cell BK171.out 0).trans rfl, (blk_cell BK171.out 1).trans rfl, HS2_⟩ (fun hHeld => ?_)
                                    clear hK K
                                    refine norm_ (a' := ?_) ?_ ?_
                                    rotate_left
                                    · show Act.put _ (some 52) _ = _
                                      simp only [Act.put, List.setIfInBounds_toArray, List.set_cons_zero, List.set_cons_succ, i64_w, i32_w]
                                      rfl
                                    refine pure_ (i := 9) (N := some 53) (v := ?_) (a' := ?_) #[true, true, true, true, true, true, true, true, true, true, false] rfl rfl (any_of HT_.out (by kernel_rfl)) (fun _ _ _ h => h) (Or.inl ⟨by rfl, ?_⟩) ?_ ?_
                                    rotate_left
                                    · intro w'
                                      go_simp
                                      with_reducible rfl
                                    rotate_left
                                    · simp only [Act.put, List.setIfInBounds_toArray, List.set_cons_zero, List.set_cons_succ, i64_w, i32_w]
                                      rfl
                                    refine last_ (i := 10) (N := none) #[true, true, true, true, true, true, true, true, true, true, true] rfl rfl (one_of HT_.out (by kernel_rfl)) (by decide) (fun K hK => ?_)
                                    refine skip_ (w1 := ?_) (by rfl) rfl ?_ ?_
                                    rotate_left
                                    · go_simp
                                      rfl
                                    refine hK.out _ _ ?_
                                    clear hK K
                                    refine done_ (done_of HT_.out (by kernel_rfl)) ?_
                                    have n0_ : Aside0 (Kd.R (Kd.int .i64) 3 (w36.setCell ⟨go35, ((ji17) : Int).toNat, none⟩ (.slice Ao39 y178.length co39)) w.heap.size (fun _ => True) (.slice (some ad172) x8_1.length co30) x8_1) := ⟨by (with_reducible repeat (first | apply Kd.R_alloc | apply Kd.R_drewN | apply Kd.R_drew)); exact Kd.R_mono (Kd.R_far (p := ⟨go35, ((ji17) : Int).toNat, none⟩) (Kd.R_types HO_8.out GG37_.out (by decide)) (fun _ hk => hk.2) (.slice Ao39 y178.length co39)) (fun _ hk => trivial)⟩
                                    have n1_ : Aside0 (Kd.S (Kd.slice 53 k53) 22 (w36.setCell ⟨go35, ((ji17) : Int).toNat, none⟩ (.slice Ao39 y178.length co39)) w.heap.size (fun k_ => k_ ≠ gb171) (.slice (some ⟨go35, 0, none⟩) y174.length co34) y181) := ⟨by (with_reducible repeat (first | apply Kd.S_alloc | apply Kd.S_drewN | apply Kd.S_drew)); exact HQ37.out⟩
                                    have n2_ : Aside0 ((w36.setCell ⟨go35, ((ji17) : Int).toNat, none⟩ (.slice Ao39 y178.length co39)).heap[gb171]? = some (.cells #[.int .i64 ((rd_T53 l1 x22_1).f0), .int .i64 ((rd_T53 l1 x22_1).f1)] 53 (0, 0))) := ⟨by (with_reducible repeat (first | refine blk_drewN ?_ _ | refine blk_drew ?_ | refine blk_alloc ?_ _)); refine blk_far ?_ HNB171_go35.out _; (with_reducible repeat (first | refine blk_drewN ?_ _ | refine blk_drew ?_ | refine blk_alloc ?_ _)); exact BK171.out⟩
                                    have n3_ : Aside0 (Below w.heap.size w (w36.setCell ⟨go35, ((ji17) : Int).toNat, none⟩ (.slice Ao39 y178.length co39))) := ⟨by repeat (first | (with_reducible first | exact HB.out | apply below_alloc | apply pw_below_drewN | apply below_drew1 | refine below_set ?_ GB35.out | refine below_set ?_ GE171.out) | exact HB.out)⟩
                                    (try clear HO_8)
                                    (try clear HO176)
                                    (try clear BK171)
                                    (try clear HB)
                                    generalize (w36.setCell ⟨go35, ((ji17) : Int).toNat, none⟩ (.slice Ao39 y178.length co39)) = w40 at n0_ n1_ n2_ n3_ ⊢
                                    have HO_8 := n0_
                                    have HO176 := n1_
                                    have BK171 := n2_
                                    have HB := n3_
                                    clear n0_ n1_ n2_ n3_
                                    go_wp2
                                    have P0 : 0 ≤ ((rd_T53 l1 x22_1).f0) := of_decide_eq_true c13b0
                                    have Q0 : ((rd_T53 l1 x22_1).f0) < (x8_1.length : Int) := of_decide_eq_true c14b0
                                    have P1 : 0 ≤ ((rd_T53 l1 x22_1).f1) := of_decide_eq_true c15b0
                                    have Q1 : ((rd_T53 l1 x22_1).f1) < (x8_1.length : Int) := of_decide_eq_true c16b0
                                    obtain ⟨go24, co24, e24, hg24, _, cells24, hb24⟩ := Kd.R_form HO_8.out (by omega)
                                    (first | cases e24 | (injection e24 with ea_ en_ ec_; (first | subst ea_ | (injection ea_ with ea_; subst ea_)); subst ec_; clear en_))
                                    have n8 := HO_8.out
                                    have n7 := HO176.out
                                    have nB := BK171.out
                                    have nb := HB.out
                                    clear HO_8 HO176 BK171 HB
                                    generalize hF0 : (rd_T53 l1 x22_1).f0 = F0 at *
                                    generalize hF1 : (rd_T53 l1 x22_1).f1 = F1 at *
                                    have hne : go24 ≠ gb171 := blk_ne_row n8 nB (by decide)
                                    obtain ⟨hu0, hf0, hu1, hf1, hu1'⟩ := put2_facts n8 F0 F1 (wrap64 (ji17 + 1)) P0 Q0 P1 Q1
                                    have hx0 : w40.cell? ⟨gb171, 0, none⟩ = some (.int .i64 F0) := (blk_cell nB 0).trans rfl
                                    have hx1 : w40.cell? ⟨gb171, 1, none⟩ = some (.int .i64 F1) := (blk_cell nB 1).trans rfl
                                    have hx1' : (w40.setCell ⟨go24, F0.toNat, none⟩ (.int .i64 (wrap64 (ji17 + 1)))).drew.cell? ⟨gb171, 1, none⟩ = some (.int .i64 F1) := (World.cell?_setCell_far _ _ _ _ hne).trans hx1
                                    have PP := Aside0.mk (put2_row n8 hg24 F0 F1 (wrap64 (ji17 + 1)) (wrap64 (ji17 + 1)))
                                    have SS := Aside0.mk (put2_S n8 n7 (by decide) F0 F1 (wrap64 (ji17 + 1)) (wrap64 (ji17 + 1)))
                                    have NB := Aside0.mk nB
                                    have Nb := Aside0.mk nb
                                    have hne' : ¬ gb171 = go24 := fun e => hne e.symm
                                    clear n8 n7 nB nb hb24 hg24
                                    replace P0 := eq_true P0
                                    replace P1 := eq_true P1
                                    replace Q0 := eq_true Q0
                                    replace Q1 := eq_true Q1
                                    as_aux_lemma =>
                                      go_region
                                      go_wp2
                                      have n8 := PP.out.row
                                      have nb := PP.out.below Nb.out
                                      have n7 := SS.out
                                      rw [← Ny182.out, ← Ny183.out] at n8
                                      unfold put2 at n8 nb n7
                                      clear PP SS NB Nb hu0 hf0 hu1 hf1 hu1' hx0 hx1 hx1' hne hne'
                                      generalize hq_ : ((w40.setCell ⟨go24, F0.toNat, none⟩ (.int .i64 (wrap64 (ji17 + 1)))).setCell ⟨go24, F1.toNat, none⟩ (.int .i64 (wrap64 (ji17 + 1)))).drew = W3 at n8 n7 nb ⊢
                                      clear hq_
                                      go_roundg k1
                                      case measure => have := HK1.out; omega
                                      case rel => exact ⟨y181, y183, wrap64 (x22_1 + 1), rfl, H', ⟨by have := HK1.out; omega⟩, ⟨Kd.S_mono n7 (fun _ hk => trivial)⟩, ⟨n8⟩, ⟨nb⟩⟩
                                  · rw [if_neg c22] at H
                                    exact absurd H (by simp)
                                · rw [if_neg c21] at H
                                  exact absurd H (by simp)
                              · rw [if_neg c20] at H
                                exact absurd H (by simp)
                            · rw [if_neg c19] at H
                              exact absurd H (by simp)
                          · rw [if_neg c18] at H
                            have c18b0 : ((ji17) == (x7_1.length : Int)) = false := beq_eq_false_iff_ne.mpr c18
                            have c18b1 : ((ji17) != (x7_1.length : Int)) = true := bne_iff_ne.mpr c18
                            by_cases c46 : 0 ≤ (ji17)
                            · rw [if_pos c46] at H
                              have c46b0 : decide (0 ≤ (ji17)) = true := decide_eq_true c46
                              clear c46
                              by_cases c47 : (ji17) < (x7_1.length : Int)
                              · rw [if_pos c47] at H
                                have c47b0 : decide ((ji17) < (x7_1.length : Int)) = true := decide_eq_true c47
                                clear c47
                                by_cases c48 : (rd_L2 x7_1 (ji17)).length < 8796093022208
                                · rw [if_pos c48] at H
                                  have LMc48 := Aside0.mk c48
                                  clear c48
                                  obtain ⟨y185, hy185⟩ : ∃ y_ : List (S53), y_ = ((rd_L2 x7_1 (ji17)) ++ [(⟨(rd_T53 l1 x22_1).f0, (rd_T53 l1 x22_1).f1⟩ : S53)]) := ⟨_, rfl⟩
                                  replace H : (sorter_Rounds.l0 k1 (x7_1.set ((ji17) : Int).toNat y185) ((x8_1.set (((rd_T53 l1 x22_1).f0) : Int).toNat (wrap64 ((ji17) + 1))).set (((rd_T53 l1 x22_1).f1) : Int).toNat (wrap64 ((ji17) + 1))) l1 (l1.length : Int) (wrap64 (x22_1 + 1))) = some (r1, r2) := by first | (rw [hy185]; with_reducible exact H) | (have H2_ := (Option.bind_some _ _).symm.trans H; rw [hy185]; with_reducible exact H2_) | (have H2_ := (Option.bind_some _ _).symm.trans H; with_reducible exact H2_) | with_reducible exact H | (rw [hy185]; exact H) | exact H
                                  have Ny185 := Aside0.mk hy185
                                  clear hy185
                                  obtain ⟨y188, hy188⟩ : ∃ y_ : List (List (S53)), y_ = (x7_1.set ((ji17) : Int).toNat y185) := ⟨_, rfl⟩
                                  replace H : (sorter_Rounds.l0 k1 y188 ((x8_1.set (((rd_T53 l1 x22_1).f0) : Int).toNat (wrap64 ((ji17) + 1))).set (((rd_T53 l1 x22_1).f1) : Int).toNat (wrap64 ((ji17) + 1))) l1 (l1.length : Int) (wrap64 (x22_1 + 1))) = some (r1, r2) := by first | (rw [hy188]; with_reducible exact H) | (have H2_ := (Option.bind_some _ _).symm.trans H; rw [hy188]; with_reducible exact H2_) | (have H2_ := (Option.bind_some _ _).symm.trans H; with_reducible exact H2_) | with_reducible exact H | (rw [hy188]; exact H) | exact H
                                  have Ny188 := Aside0.mk hy188
                                  clear hy188
                                  obtain ⟨y189, hy189⟩ : ∃ y_ : List Int, y_ = (x8_1.set (((rd_T53 l1 x22_1).f0) : Int).toNat (wrap64 ((ji17) + 1))) := ⟨_, rfl⟩
                                  replace H : (sorter_Rounds.l0 k1 y188 (y189.set (((rd_T53 l1 x22_1).f1) : Int).toNat (wrap64 ((ji17) + 1))) l1 (l1.length : Int) (wrap64 (x22_1 + 1))) = some (r1, r2) := by first | (rw [hy189]; with_reducible exact H) | (have H2_ := (Option.bind_some _ _).symm.trans H; rw [hy189]; with_reducible exact H2_) | (have H2_ := (Option.bind_some _ _).symm.trans H; with_reducible exact H2_) | with_reducible exact H | (rw [hy189]; exact H) | exact H
                                  have Ny189 := Aside0.mk hy189
                                  clear hy189
                                  obtain ⟨y190, hy190⟩ : ∃ y_ : List Int, y_ = (y189.set (((rd_T53 l1 x22_1).f1) : Int).toNat (wrap64 ((ji17) + 1))) := ⟨_, rfl⟩
                                  replace H : (sorter_Rounds.l0 k1 y188 y190 l1 (l1.length : Int) (wrap64 (x22_1 + 1))) = some (r1, r2) := by first | (rw [hy190]; with_reducible exact H) | (have H2_ := (Option.bind_some _ _).symm.trans H; rw [hy190]; with_reducible exact H2_) | (have H2_ := (Option.bind_some _ _).symm.trans H; with_reducible exact H2_) | with_reducible exact H | (rw [hy190]; exact H) | exact H
                                  have Ny190 := Aside0.mk hy190
                                  clear hy190
                                  have H' := Aside0.mk H
                                  clear H
                                  have p170 : 0 ≤ (x22_1 : Int) := of_decide_eq_true (by first | (with_reducible assumption) | assumption)
                                  have q170 : x22_1 < (l1.length : Int) := of_decide_eq_true (by first | (with_reducible assumption) | assumption)
                                  obtain ⟨ad170, e170, hx170_0, hx170_1⟩ := at_T53 HR1.out x22_1 p170 q170
                                  cases e170
                                  replace hx170_0 := (HB.out.cell (World.block_lt_of_cell? w _ hx170_0)).trans hx170_0
                                  replace hx170_1 := (HB.out.cell (World.block_lt_of_cell? w _ hx170_1)).trans hx170_1
                                  replace p170 := eq_true p170
                                  replace q170 := eq_true q170
                                  try go_wp2_with (first | ((with_reducible refine gate_dst (N := 10) rfl ?_); refine box_event ?hg (N := 10) ?hd (cs := #[.int .i64 0, .int .i64 0]) (t := 53) ?hr ?_; (case hd => rfl); (case hg => rfl); (case hr => first | (go_simp; done) | (go_simp; rfl)); intro gb171 hg w52 hbox hb; have n0_ := Aside0.mk (Kd.S_below (Kd.S_elderB (by (with_reducible repeat (first | apply Kd.S_alloc | apply Kd.S_drewN | apply Kd.S_drew)); exact HO_7.out) gb171 (Nat.le_of_eq hg.symm)) hb); have n1_ := Aside0.mk (Kd.R_below (by (with_reducible repeat (first | apply Kd.R_alloc | apply Kd.R_drewN | apply Kd.R_drew)); exact HO_8.out) hb); have n2_ := Aside0.mk (below_step (by repeat (first | (with_reducible first | exact HB.out | apply below_alloc | apply pw_below_drewN | apply below_drew1) | exact HB.out)) hb); have n3_ := Aside0.mk (hbox); have n4_ := Aside0.mk ((by rw [hg]; exact (below_size (by repeat (first | (with_reducible first | exact HB.out | apply below_alloc | apply pw_below_drewN | apply below_drew1) | exact HB.out))) : w.heap.size ≤ gb171)); have n5_ := Aside0.mk ((by rw [hg]; exact (below_size (by repeat (first | (with_reducible first | exact HB.out | apply below_alloc | apply pw_below_drewN | apply below_drew1) | exact HB.out))) : w.heap.size ≤ gb171)); clear HO_7; clear HO_8; clear HB; have HO_7 := n0_; have HO_8 := n1_; have HB := n2_; have BK171 := n3_; have GW171 := n4_; have GE171 := n5_; clear n0_ n1_ n2_ n3_ n4_ n5_; clear hb hbox hg; have hcz53_0 : w52.cell? ⟨gb171, 0, none⟩ = some (.int .i64 0) := (blk_cell BK171.out 0).trans rfl; have hcz53_1 : w52.cell? ⟨gb171, 1, none⟩ = some (.int .i64 0) := (blk_cell BK171.out 1).trans rfl; have hfz53_0 := blk_frozen BK171.out 0; have hfz53_1 := blk_frozen BK171.out 1))
                                  have n0_ : Aside0 (Kd.S (Kd.slice 53 k53) 22 ((w52.setCell ⟨gb171, 0, none⟩ (.int .i64 ((rd_T53 l1 x22_1).f0))).setCell ⟨gb171, 1, none⟩ (.int .i64 ((rd_T53 l1 x22_1).f1))) w.heap.size (fun k_ => k_ ≠ gb171) u7 x7_1) := ⟨by (with_reducible repeat (first | apply Kd.S_alloc | apply Kd.S_drewN | apply Kd.S_drew)); exact Kd.S_mono (Kd.S_far (p := ⟨gb171, 1, none⟩) (Kd.S_far (p := ⟨gb171, 0, none⟩) (Kd.S_mono HO_7.out (fun k_ hk => (⟨hk, hk.2⟩ : _ ∧ k_ ≠ gb171))) (fun _ hk => hk.2) (.int .i64 ((rd_T53 l1 x22_1).f0))) (fun _ hk => hk.2) (.int .i64 ((rd_T53 l1 x22_1).f1))) (fun _ hk => hk.1.2)⟩
                                  have n1_ : Aside0 (Kd.R (Kd.int .i64) 3 ((w52.setCell ⟨gb171, 0, none⟩ (.int .i64 ((rd_T53 l1 x22_1).f0))).setCell ⟨gb171, 1, none⟩ (.int .i64 ((rd_T53 l1 x22_1).f1))) w.heap.size (fun _ => True) v168 x8_1) := ⟨by (with_reducible repeat (first | apply Kd.R_alloc | apply Kd.R_drewN | apply Kd.R_drew)); exact Kd.R_mono (Kd.R_far (p := ⟨gb171, 1, none⟩) (Kd.R_far (p := ⟨gb171, 0, none⟩) (Kd.R_types HO_8.out BK171.out (by decide)) (fun _ hk => hk.2) (.int .i64 ((rd_T53 l1 x22_1).f0))) (fun _ hk => hk.2) (.int .i64 ((rd_T53 l1 x22_1).f1))) (fun _ hk => trivial)⟩
                                  have n2_ : Aside0 (((w52.setCell ⟨gb171, 0, none⟩ (.int .i64 ((rd_T53 l1 x22_1).f0))).setCell ⟨gb171, 1, none⟩ (.int .i64 ((rd_T53 l1 x22_1).f1))).heap[gb171]? = some (.cells #[.int .i64 ((rd_T53 l1 x22_1).f0), .int .i64 ((rd_T53 l1 x22_1).f1)] 53 (0, 0))) := ⟨by (with_reducible repeat (first | refine blk_drewN ?_ _ | refine blk_drew ?_ | refine blk_alloc ?_ _)); refine blk_put (cs := #[.int .i64 ((rd_T53 l1 x22_1).f0), .int .i64 0]) ?_ 1 _ rfl; (with_reducible repeat (first | refine blk_drewN ?_ _ | refine blk_drew ?_ | refine blk_alloc ?_ _)); refine blk_put (cs := #[.int .i64 0, .int .i64 0]) ?_ 0 _ rfl; (with_reducible repeat (first | refine blk_drewN ?_ _ | refine blk_drew ?_ | refine blk_alloc ?_ _)); exact BK171.out⟩
                                  have n3_ : Aside0 (Below w.heap.size w ((w52.setCell ⟨gb171, 0, none⟩ (.int .i64 ((rd_T53 l1 x22_1).f0))).setCell ⟨gb171, 1, none⟩ (.int .i64 ((rd_T53 l1 x22_1).f1)))) := ⟨by repeat (first | (with_reducible first | exact HB.out | apply below_alloc | apply pw_below_drewN | apply below_drew1 | refine below_set ?_ GE171.out) | exact HB.out)⟩
                                  (try clear HO_7)
                                  (try clear HO_8)
                                  (try clear BK171)
                                  (try clear HB)
                                  generalize ((w52.setCell ⟨gb171, 0, none⟩ (.int .i64 ((rd_T53 l1 x22_1).f0))).setCell ⟨gb171, 1, none⟩ (.int .i64 ((rd_T53 l1 x22_1).f1))) = w54 at n0_ n1_ n2_ n3_ ⊢
                                  have HO_7 := n0_
                                  have HO_8 := n1_
                                  have BK171 := n2_
                                  have HB := n3_
                                  clear n0_ n1_ n2_ n3_
                                  have n0_ := Aside0.mk (Kd.S_drew HO_7.out)
                                  have n1_ := Aside0.mk (Kd.R_drew HO_8.out)
                                  have n2_ := Aside0.mk (blk_drew BK171.out)
                                  have n3_ := Aside0.mk (below_drew1 HB.out)
                                  clear HO_7
                                  clear HO_8
                                  clear BK171
                                  clear HB
                                  have HO_7 := n0_
                                  have HO_8 := n1_
                                  have BK171 := n2_
                                  have HB := n3_
                                  clear n0_ n1_ n2_ n3_
                                  obtain ⟨Ao56, co56, eo56⟩ := Kd.R_slice HO_8.out
                                  (first | subst eo56 | (injection eo56 with f1_ f2_ f3_; have f4_ := f1_.symm; have f5_ := f3_.symm; clear f1_ f2_ f3_; subst f4_; subst f5_))
                                  have p172 : 0 ≤ (((rd_T53 l1 x22_1).f0) : Int) := of_decide_eq_true (by first | (with_reducible assumption) | assumption)
                                  have q172 : ((rd_T53 l1 x22_1).f0) < (x8_1.length : Int) := of_decide_eq_true (by first | (with_reducible assumption) | assumption)
                                  obtain ⟨ad172, e172, hx172_0⟩ := Kd.at_int (Kd.R_reads' HO_8.out).2.2 ((rd_T53 l1 x22_1).f0) p172 q172
                                  cases e172
                                  replace p172 := eq_true p172
                                  replace q172 := eq_true q172
                                  have p173 : 0 ≤ (((rd_T53 l1 x22_1).f1) : Int) := of_decide_eq_true (by first | (with_reducible assumption) | assumption)
                                  have q173 : ((rd_T53 l1 x22_1).f1) < (x8_1.length : Int) := of_decide_eq_true (by first | (with_reducible assumption) | assumption)
                                  obtain ⟨ad173, e173, hx173_0⟩ := Kd.at_int (Kd.R_reads' HO_8.out).2.2 ((rd_T53 l1 x22_1).f1) p173 q173
                                  obtain rfl : ad172 = ad173 := (by injection e173)
                                  replace p173 := eq_true p173
                                  replace q173 := eq_true q173
                                  refine start_ (n := 12) (S := fun w' => w'.cell? ⟨gb171, 0, none⟩ = some (.int .i64 ((rd_T53 l1 x22_1).f0)) ∧ w'.cell? ⟨gb171, 1, none⟩ = some (.int .i64 ((rd_T53 l1 x22_1).f1)) ∧ w'.cell? (ad172.add (((rd_T53 l1 x22_1).f0)).toNat) = some (.int .i64 (rd x8_1 ((rd_T53 l1 x22_1).f0))) ∧ w'.cell? (ad172.add (((rd_T53 l1 x22_1).f1)).toNat) = some (.int .i64 (rd x8_1 ((rd_T53 l1 x22_1).f1)))) (ds := []) #[false, false, false, false, false, false, false, false, false, false, false, false] (by kernel_rfl) rfl rfl ⟨(blk_cell BK171.out 0).trans rfl, (blk_cell BK171.out 1).trans rfl, hx172_0, hx173_0⟩ (fun hHeld => ?_); refine with_tabW sorter_Rounds.tab9 sorter_Rounds.bits9 (fun HT_ HW_ => ?_)
                                  generalize w54.drew = w55 at HO_7 HO_8 BK171 HB hx172_0 hx173_0 hHeld ⊢
                                  refine pure_ (i := 0) (N := some 26) (v := ?_) (a' := ?_) #[true, false, false, false, false, false, false, false, false, false, false, false] rfl rfl (any_of HT_.out (by kernel_rfl)) (fun _ _ _ h => h) (Or.inl ⟨by rfl, ?_⟩) ?_ ?_
                                  rotate_left
                                  · intro w'
                                    go_simp
                                    with_reducible rfl
                                  rotate_left
                                  · simp only [Act.put, List.setIfInBounds_toArray, List.set_cons_zero, List.set_cons_succ, i64_w, i32_w]
                                    rfl
                                  refine pure_ (i := 1) (N := some 27) (v := ?_) (a' := ?_) #[true, true, false, false, false, false, false, false, false, false, false, false] rfl rfl (any_of HT_.out (by kernel_rfl)) (fun _ _ _ h => h) (Or.inl ⟨by rfl, ?_⟩) ?_ ?_
                                  rotate_left
                                  · intro w'
                                    go_simp
                                    with_reducible rfl
                                  rotate_left
                                  · simp only [Act.put, List.setIfInBounds_toArray, List.set_cons_zero, List.set_cons_succ, i64_w, i32_w]
                                    rfl
                                  refine pure_ (i := 5) (N := some 31) (v := ?_) (a' := ?_) #[true, true, false, false, false, true, false, false, false, false, false, false] rfl rfl (any_of HT_.out (by kernel_rfl)) (fun _ _ _ h => h) (Or.inl ⟨by rfl, ?_⟩) ?_ ?_
                                  rotate_left
                                  · intro w'
                                    go_simp
                                    with_reducible rfl
                                  rotate_left
                                  · simp only [Act.put, List.setIfInBounds_toArray, List.set_cons_zero, List.set_cons_succ, i64_w, i32_w]
                                    rfl
                                  refine pure_ (i := 6) (N := some 32) (v := ?_) (a' := ?_) #[true, true, false, false, false, true, true, false, false, false, false, false] rfl rfl (any_of HT_.out (by kernel_rfl)) (fun _ _ _ h => h) (Or.inl ⟨by rfl, ?_⟩) ?_ ?_
                                  rotate_left
                                  · intro w'
                                    go_simp
                                    with_reducible rfl
                                  rotate_left
                                  · simp only [Act.put, List.setIfInBounds_toArray, List.set_cons_zero, List.set_cons_succ, i64_w, i32_w]
                                    rfl
                                  refine take_ (i := 2) (N := some 28) (v := ?_) (a' := ?_) #[true, true, true, false, false, true, true, false, false, false, false, false] rfl rfl (take_ofW HT_.out HW_.out (by kernel_rfl)) (fun _ _ _ h => h) (Or.inl ⟨by rfl, ?_⟩) hHeld ?_ ?_
                                  rotate_left
                                  · rintro w' ⟨s0, s1, s2, s3⟩
                                    go_simp
                                    with_reducible rfl
                                  rotate_left
                                  · simp only [Act.put, List.setIfInBounds_toArray, List.set_cons_zero, List.set_cons_succ, i64_w, i32_w]
                                    rfl
                                  refine pure_ (i := 3) (N := some 29) (v := ?_) (a' := ?_) #[true, true, true, true, false, true, true, false, false, false, false, false] rfl rfl (any_of HT_.out (by kernel_rfl)) (fun _ _ _ h => h) (Or.inl ⟨by rfl, ?_⟩) ?_ ?_
                                  rotate_left
                                  · intro w'
                                    go_simp
                                    with_reducible rfl
                                  rotate_left
                                  · simp only [Act.put, List.setIfInBounds_toArray, List.set_cons_zero, List.set_cons_succ, i64_w, i32_w]
                                    rfl
                                  refine take_ (i := 4) (N := some 30) (v := ?_) (a' := ?_) #[true, true, true, true, true, true, true, false, false, false, false, false] rfl rfl (take_ofW HT_.out HW_.out (by kernel_rfl)) (fun _ _ _ h => h) (Or.inl ⟨by rfl, ?_⟩) hHeld ?_ ?_
                                  rotate_left
                                  · rintro w' ⟨s0, s1, s2, s3⟩
                                    go_simp
                                    with_reducible rfl
                                  rotate_left
                                  · simp only [Act.put, List.setIfInBounds_toArray, List.set_cons_zero, List.set_cons_succ, i64_w, i32_w]
                                    rfl
                                  refine take_ (i := 7) (N := some 33) (v := ?_) (a' := ?_) #[true, true, true, true, true, true, true, true, false, false, false, false] rfl rfl (take_ofW HT_.out HW_.out (by kernel_rfl)) (fun _ _ _ h => h) (Or.inl ⟨by rfl, ?_⟩) hHeld ?_ ?_
                                  rotate_left
                                  · rintro w' ⟨s0, s1, s2, s3⟩
                                    go_simp
                                    with_reducible rfl
                                  rotate_left
                                  · simp only [Act.put, List.setIfInBounds_toArray, List.set_cons_zero, List.set_cons_succ, i64_w, i32_w]
                                    rfl
                                  refine pure_ (i := 8) (N := some 34) (v := ?_) (a' := ?_) #[true, true, true, true, true, true, true, true, true, false, false, false] rfl rfl (any_of HT_.out (by kernel_rfl)) (fun _ _ _ h => h) (Or.inl ⟨by rfl, ?_⟩) ?_ ?_
                                  rotate_left
                                  · intro w'
                                    go_simp
                                    with_reducible rfl
                                  rotate_left
                                  · simp only [Act.put, List.setIfInBounds_toArray, List.set_cons_zero, List.set_cons_succ, i64_w, i32_w]
                                    rfl
                                  refine take_ (i := 9) (N := some 35) (v := ?_) (a' := ?_) #[true, true, true, true, true, true, true, true, true, true, false, false] rfl rfl (take_ofW HT_.out HW_.out (by kernel_rfl)) (fun _ _ _ h => h) (Or.inl ⟨by rfl, ?_⟩) hHeld ?_ ?_
                                  rotate_left
                                  · rintro w' ⟨s0, s1, s2, s3⟩
                                    go_simp
                                    with_reducible rfl
                                  rotate_left
                                  · simp only [Act.put, List.setIfInBounds_toArray, List.set_cons_zero, List.set_cons_succ, i64_w, i32_w]
                                    rfl
                                  refine pure_ (i := 10) (N := some 36) (v := ?_) (a' := ?_) #[true, true, true, true, true, true, true, true, true, true, true, false] rfl rfl (any_of HT_.out (by kernel_rfl)) (fun _ _ _ h => h) (Or.inl ⟨by rfl, ?_⟩) ?_ ?_
                                  rotate_left
                                  · intro w'
                                    go_simp
                                    with_reducible rfl
                                  rotate_left
                                  · simp only [Act.put, List.setIfInBounds_toArray, List.set_cons_zero, List.set_cons_succ, i64_w, i32_w]
                                    rfl
                                  refine pure_ (i := 11) (N := some 11) (v := ?_) (a' := ?_) #[true, true, true, true, true, true, true, true, true, true, true, true] rfl rfl (any_of HT_.out (by kernel_rfl)) (fun _ _ _ h => h) (Or.inl ⟨by rfl, ?_⟩) ?_ ?_
                                  rotate_left
                                  · intro w'
                                    go_simp
                                    with_reducible rfl
                                  rotate_left
                                  · simp only [Act.put, List.setIfInBounds_toArray, List.set_cons_zero, List.set_cons_succ, i64_w, i32_w]
                                    rfl
                                  refine done_ (done_of HT_.out (by kernel_rfl)) ?_
                                  obtain ⟨Ao57, co57, eo57⟩ := Kd.S_slice HO_7.out
                                  subst eo57
                                  try go_wp2
                                  have n0_ := Aside0.mk (Kd.S_drew HO_7.out)
                                  have n1_ := Aside0.mk (Kd.R_drew HO_8.out)
                                  have n2_ := Aside0.mk (blk_drew BK171.out)
                                  have n3_ := Aside0.mk (below_drew1 HB.out)
                                  clear HO_7
                                  clear HO_8
                                  clear BK171
                                  clear HB
                                  have HO_7 := n0_
                                  have HO_8 := n1_
                                  have BK171 := n2_
                                  have HB := n3_
                                  clear n0_ n1_ n2_ n3_
                                  have p184 : 0 ≤ ((ji17) : Int) := of_decide_eq_true (by first | (with_reducible assumption) | assumption)
                                  have q184 : (ji17) < (x7_1.length : Int) := of_decide_eq_true (by first | (with_reducible assumption) | assumption)
                                  obtain ⟨ad184, A184_0, c184_0, e184, hx184_0, hl184_0, hi184_0⟩ := at_L2 (Kd.S_reads' HO_7.out).2.2 (ji17) p184 q184
                                  cases e184
                                  obtain ⟨ce184, hce184, hMe184, hcc184⟩ := Kd.S_get HO_7.out [] (ji17) p184 (by first | exact q184 | exact of_decide_eq_true (by first | (with_reducible assumption) | assumption) | (have e_ := (Kd.S_reads' HO_7.out).1; omega))
                                  obtain ⟨ve184_0, rfl, ge184_0⟩ := hMe184
                                  have hv184_0 := hcc184 0 _ rfl
                                  rw [Nat.add_zero, show ((Kd.slice 53 k53)).sz = 1 from rfl, Nat.mul_one] at hv184_0
                                  replace hv184_0 := Option.some.inj (hv184_0.symm.trans hx184_0)
                                  rw [hv184_0] at ge184_0
                                  have HL184_0 := Aside0.mk (show Kd.R k53 53 _ _ _ _ (rd_L2 x7_1 (ji17)) from ge184_0)
                                  clear hv184_0 ge184_0
                                  have HX184_0 := Aside0.mk hx184_0
                                  clear hcc184 hce184
                                  have HR184_0 := Aside0.mk hi184_0
                                  have HC184_0 := Aside0.mk hl184_0
                                  clear hi184_0 hl184_0
                                  replace p184 := eq_true p184
                                  replace q184 := eq_true q184
                                  obtain ⟨go59, co59, eo59, gb59, gl59, cl59, HG59⟩ := Kd.S_form HO_7.out (by have h_ : ((ji17) : Int) < ((x7_1.length : Int) : Int) := of_decide_eq_true (by first | (with_reducible assumption) | assumption); have h2_ : 0 ≤ ((ji17) : Int) := (of_decide_eq_true (by first | (with_reducible assumption) | assumption)); omega)
                                  (first | cases eo59 | (injection eo59 with ea_ en_ ec_; (first | subst ea_ | (injection ea_ with ea_; subst ea_)); subst ec_; clear en_))
                                  have GB59 := Aside0.mk gb59
                                  have GG59 := Aside0.mk HG59
                                  clear gb59 gl59 HG59
                                  (first | simp only [add_plain] at hx184_0 | skip)
                                  obtain ⟨oki59, ce59, hcl59, hM59, hcc59, _, _, hH59⟩ := Kd.S_elem HO_7.out [] ((ji17) : Int) (of_decide_eq_true (by first | (with_reducible assumption) | assumption)) (by have h_ : ((ji17) : Int) < ((x7_1.length : Int) : Int) := of_decide_eq_true (by first | (with_reducible assumption) | assumption); first | exact h_ | (have e_ := (Kd.S_reads' HO_7.out).1; omega) | simpa using h_)
                                  obtain ⟨ve59_0, rfl, ge59_0⟩ := hM59
                                  have hv59 := hcc59 0 _ rfl
                                  have hX59 := HX184_0.out
                                  (try simp only [add_plain] at hX59)
                                  (try simp only [Nat.add_zero] at hv59)
                                  (try rw [show ((Kd.slice 53 k53)).sz = 1 from rfl, Nat.mul_one] at hv59)
                                  replace hv59 := Option.some.inj (hv59.symm.trans hX59)
                                  subst hv59
                                  clear hX59 hcc59 hcl59
                                  have UU59 := Aside0.mk (show Kd.R k53 53 _ w.heap.size oki59 (.slice A184_0 (rd_L2 x7_1 (ji17)).length c184_0) (rd_L2 x7_1 (ji17)) from ge59_0)
                                  have HH59 := Aside0.mk hH59
                                  have HN59 := Aside0.mk (Kd.S_reads' HO_7.out).1
                                  clear hH59 ge59_0
                                  refine start_ (n := 11) (S := fun w' => w'.cell? ⟨gb171, 0, none⟩ = some (.int .i64 ((rd_T53 l1 x22_1).f0)) ∧ w'.cell? ⟨gb171, 1, none⟩ = some (.int .i64 ((rd_T53 l1 x22_1).f1)) ∧ w'.cell? ⟨go59, ((ji17)).toNat, none⟩ = some (.slice A184_0 (rd_L2 x7_1 (ji17)).length c184_0)) (ds := [10]) #[false, false, false, false, false, false, false, false, false, false, false] (by kernel_rfl) rfl rfl ⟨(blk_cell BK171.out 0).trans rfl, (blk_cell BK171.out 1).trans rfl, hx184_0⟩ (fun hHeld => ?_); refine with_tabW sorter_Rounds.tab12 sorter_Rounds.bits12 (fun HT_ HW_ => ?_)
                                  generalize w55.drew = w58 at HO_7 HO_8 BK171 HB GG59 HH59 HL184_0 HR184_0 HX184_0 UU59 hx184_0 hHeld ⊢
                                  refine pure_ (i := 0) (N := some 44) (v := ?_) (a' := ?_) #[true, false, false, false, false, false, false, false, false, false, false] rfl rfl (any_of HT_.out (by kernel_rfl)) (fun _ _ _ h => h) (Or.inl ⟨by rfl, ?_⟩) ?_ ?_
                                  rotate_left
                                  · intro w'
                                    go_simp
                                    with_reducible rfl
                                  rotate_left
                                  · simp only [Act.put, List.setIfInBounds_toArray, List.set_cons_zero, List.set_cons_succ, i64_w, i32_w]
                                    rfl
                                  refine pure_ (i := 1) (N := some 45) (v := ?_) (a' := ?_) #[true, true, false, false, false, false, false, false, false, false, false] rfl rfl (any_of HT_.out (by kernel_rfl)) (fun _ _ _ h => h) (Or.inl ⟨by rfl, ?_⟩) ?_ ?_
                                  rotate_left
                                  · intro w'
                                    go_simp
                                    with_reducible rfl
                                  rotate_left
                                  · simp only [Act.put, List.setIfInBounds_toArray, List.set_cons_zero, List.set_cons_succ, i64_w, i32_w]
                                    rfl
                                  refine pure_ (i := 2) (N := some 46) (v := ?_) (a' := ?_) #[true, true, true, false, false, false, false, false, false, false, false] rfl rfl (any_of HT_.out (by kernel_rfl)) (fun _ _ _ h => h) (Or.inl ⟨by rfl, ?_⟩) ?_ ?_
                                  rotate_left
                                  · intro w'
                                    go_simp
                                    with_reducible rfl
                                  rotate_left
                                  · simp only [Act.put, List.setIfInBounds_toArray, List.set_cons_zero, List.set_cons_succ, i64_w, i32_w]
                                    rfl
                                  refine pure_ (i := 3) (N := some 47) (v := ?_) (a' := ?_) #[true, true, true, true, false, false, false, false, false, false, false] rfl rfl (any_of HT_.out (by kernel_rfl)) (fun _ _ _ h => h) (Or.inl ⟨by rfl, ?_⟩) ?_ ?_
                                  rotate_left
                                  · intro w'
                                    go_simp
                                    with_reducible rfl
                                  rotate_left
                                  · simp only [Act.put, List.setIfInBounds_toArray, List.set_cons_zero, List.set_cons_succ, i64_w, i32_w]
                                    rfl
                                  refine pure_ (i := 4) (N := some 48) (v := ?_) (a' := ?_) #[true, true, true, true, true, false, false, false, false, false, false] rfl rfl (any_of HT_.out (by kernel_rfl)) (fun _ _ _ h => h) (Or.inl ⟨by rfl, ?_⟩) ?_ ?_
                                  rotate_left
                                  · intro w'
                                    go_simp
                                    with_reducible rfl
                                  rotate_left
                                  · simp only [Act.put, List.setIfInBounds_toArray, List.set_cons_zero, List.set_cons_succ, i64_w, i32_w]
                                    rfl
                                  refine take_ (i := 5) (N := some 49) (v := ?_) (a' := ?_) #[true, true, true, true, true, true, false, false, false, false, false] rfl rfl (take_ofW HT_.out HW_.out (by kernel_rfl)) (fun _ _ _ h => h) (Or.inl ⟨by rfl, ?_⟩) hHeld ?_ ?_
                                  rotate_left
                                  · rintro w' ⟨s0, s1, s2⟩
                                    go_simp
                                    with_reducible rfl
                                  rotate_left
                                  · simp only [Act.put, List.setIfInBounds_toArray, List.set_cons_zero, List.set_cons_succ, i64_w, i32_w]
                                    rfl
                                  refine take_ (i := 6) (N := some 50) (v := ?_) (a' := ?_) #[true, true, true, true, true, true, true, false, false, false, false] rfl rfl (take_ofW HT_.out HW_.out (by kernel_rfl)) (fun _ _ _ h => h) (Or.inl ⟨by rfl, ?_⟩) hHeld ?_ ?_
                                  rotate_left
                                  · rintro w' ⟨s0, s1, s2⟩
                                    go_simp
                                    with_reducible rfl
                                  rotate_left
                                  · simp only [Act.put, List.setIfInBounds_toArray, List.set_cons_zero, List.set_cons_succ, i64_w, i32_w]
                                    rfl
                                  refine one_ (i := 7) (N := some 51) #[true, true, true, true, true, true, true, true, false, false, false] rfl rfl (one_of HT_.out (by kernel_rfl)) (by decide) (fun K hK => ?_)
                                  refine value_ (w1 := ?_) (v := ?_) (by rfl) rfl ?_ ?_
                                  rotate_left 2
                                  · go_simp
                                    constructor
                                    · rfl
                                    · rfl
                                  refine hK.out _ _ ⟨(blk_cell (blk_alloc BK171.out _) 0).trans rfl, (blk_cell (blk_alloc BK171.out _) 1).trans rfl, (World.cell?_alloc_lt _ _ _ (World.block_lt_of_cell? _ _ (hHeld.2.2))).trans (hHeld.2.2)⟩ (fun hHeld => ?_)
                                  clear hK K
                                  refine norm_ (a' := ?_) ?_ ?_
                                  rotate_left
                                  · show Act.put _ (some 51) _ = _
                                    simp only [Act.put, List.setIfInBounds_toArray, List.set_cons_zero, List.set_cons_succ, i64_w, i32_w]
                                    rfl
                                  refine one_ (i := 8) (N := some 52) #[true, true, true, true, true, true, true, true, true, false, false] rfl rfl (one_of HT_.out (by kernel_rfl)) (by decide) (fun K hK => ?_)
                                  refine Kd.R_append_step k53 (w0 := w) w.heap.size (by rfl) (.tmp 49) (.tmp 51) 22 53 (.agg #[(.int .i64 0), (.int .i64 0)]) 16 rfl Try.underlying22 info53 rfl (by decide) (by omega) (.slice A184_0 (rd_L2 x7_1 (ji17)).length c184_0) (rd_L2 x7_1 (ji17)) (⟨(rd_T53 l1 x22_1).f0, (rd_T53 l1 x22_1).f1⟩ : S53) [.int .i64 ((rd_T53 l1 x22_1).f0), .int .i64 ((rd_T53 l1 x22_1).f1)] (fun k_ => oki59 k_ ∨ ((fun k_ => k_ ≠ gb171)) k_ ∧ w58.heap.size ≤ k_) (fun _ => False) rfl rfl ?aP (fun _ hk => hk.elim) ?aF ?aO ?aB ?aS ?aL ?_
                                  (case aP => exact k53_mkM _ _ _ (⟨(rd_T53 l1 x22_1).f0, (rd_T53 l1 x22_1).f1⟩ : S53))
                                  (case aB => exact (by repeat (first | (with_reducible first | exact HB.out | apply below_alloc | apply pw_below_drewN | apply below_drew1 | refine below_set ?_ GE171.out) | exact HB.out)))
                                  (case aF => exact (fun k_ hk => .inr ⟨Kd.freshB (g := gb171) (o := .cells #[.int .i64 ((rd_T53 l1 x22_1).f0), .int .i64 ((rd_T53 l1 x22_1).f1)] 53 (0, 0)) (by (with_reducible repeat (first | refine blk_drewN ?_ _ | refine blk_drew ?_ | refine blk_alloc ?_ _)); exact BK171.out) k_ hk, hk⟩))
                                  (case aO => exact (by (with_reducible repeat (first | apply Kd.R_alloc | apply Kd.R_drewN | apply Kd.R_drew)); exact Kd.R_mono UU59.out (fun _ hk => .inl hk)))
                                  (case aS => exact (below_size (by repeat (first | (with_reducible first | exact HB.out | apply below_alloc | apply pw_below_drewN | apply below_drew1 | refine below_set ?_ GE171.out) | exact HB.out))))
                                  (case aL => have := LMc48.out; omega)
                                  intro v186 w60 ho hb hg hat
                                  (first | have HS2_ := cell_grown hg (hHeld.2.2) (by first | (rw [add_block]; exact (fun e_ => ((HL184_0.out.1 _ e_.symm).2) rfl)) | (show some (Addr.add _ _).block ≠ _; rw [add_block]; exact (fun e_ => ((HL184_0.out.1 _ e_.symm).2) rfl)) | exact (fun e_ => ((HL184_0.out.1 _ e_.symm).2) rfl)) | have HS2_ := cell_grown hg (cell_unalloc (hHeld.2.2) (by first | (rw [add_block]; exact Kd.S_lt HO_7.out _ rfl) | (show (Addr.add _ _).block < _; rw [add_block]; exact Kd.S_lt HO_7.out _ rfl) | exact Kd.S_lt HO_7.out _ rfl)) (by first | (rw [add_block]; exact (fun e_ => ((HL184_0.out.1 _ e_.symm).2) rfl)) | (show some (Addr.add _ _).block ≠ _; rw [add_block]; exact (fun e_ => ((HL184_0.out.1 _ e_.symm).2) rfl)) | exact (fun e_ => ((HL184_0.out.1 _ e_.symm).2) rfl)))
                                  rw [← Ny185.out] at ho
                                  have n0_ := Aside0.mk (Kd.R_over' (v := (.slice A184_0 (rd_L2 x7_1 (ji17)).length c184_0)) (by (with_reducible repeat (first | apply Kd.R_alloc | apply Kd.R_drewN | apply Kd.R_drew)); exact HO_8.out) (Kd.R_typed HL184_0.out) (by decide) hg)
                                  have n1_ := Aside0.mk (blk_grown (g := gb171) (o := .cells #[.int .i64 ((rd_T53 l1 x22_1).f0), .int .i64 ((rd_T53 l1 x22_1).f1)] 53 (0, 0)) (by (with_reducible repeat (first | refine blk_drewN ?_ _ | refine blk_drew ?_ | refine blk_alloc ?_ _)); exact BK171.out) hg (Kd.R_away HL184_0.out (fun _ hk => hk.1)))
                                  have n2_ := Aside0.mk (hb)
                                  have n3_ := Aside0.mk (Kd.H_grown (Kd.H_widen (by repeat (first | exact HH59.out | refine Kd.H_alloc ?_ _ | refine Kd.H_drewN ?_ _ | refine Kd.H_drew ?_))) hg (fun k_ e_ => .inl (UU59.out.1 k_ e_)))
                                  have n4_ := Aside0.mk (ho)
                                  clear HO_8
                                  clear BK171
                                  clear HB
                                  clear HH59
                                  clear HO_7
                                  clear UU59
                                  clear HL184_0
                                  have HO_8 := n0_
                                  have BK171 := n1_
                                  have HB := n2_
                                  have HH59 := n3_
                                  have HO187 := n4_
                                  clear n0_ n1_ n2_ n3_ n4_
                                  clear ho hb hg hat
                                  have p49 : 0 ≤ ((ji17) : Int) := of_decide_eq_true (by first | (with_reducible assumption) | assumption)
                                  have q49 : ((ji17) : Int) < ((x7_1.length : Int) : Int) := of_decide_eq_true (by first | (with_reducible assumption) | assumption)
                                  replace p49 := eq_true p49
                                  replace q49 := eq_true q49
                                  obtain ⟨Ao63, co63, eo63⟩ := Kd.R_slice HO187.out
                                  (first | subst eo63 | (injection eo63 with f1_ f2_ f3_; have f4_ := f1_.symm; have f5_ := f3_.symm; clear f1_ f2_ f3_; subst f4_; subst f5_))
                                  obtain ⟨_, _, hraw61, _, _, hcc61, _⟩ := Kd.H_raw HH59.out (of_decide_eq_true (by first | (with_reducible assumption) | assumption)) (by have h_ : ((ji17) : Int) < ((x7_1.length : Int) : Int) := of_decide_eq_true (by first | (with_reducible assumption) | assumption); first | exact h_ | (have e_ := (HN59.out); omega) | simpa using h_)
                                  obtain ⟨_, hfr61⟩ := Kd.H_at HH59.out (of_decide_eq_true (by first | (with_reducible assumption) | assumption)) (by have h_ : ((ji17) : Int) < ((x7_1.length : Int) : Int) := of_decide_eq_true (by first | (with_reducible assumption) | assumption); first | exact h_ | (have e_ := (HN59.out); omega) | simpa using h_)
                                  have hx61_0 := hcc61 0 _ rfl
                                  have hf61_0 := hfr61 0
                                  (try simp only [Nat.add_zero] at hx61_0 hf61_0)
                                  (try rw [show ((Kd.slice 53 k53)).sz = 1 from rfl, Nat.mul_one] at hx61_0)
                                  (try rw [show ((Kd.slice 53 k53)).sz = 1 from rfl, Nat.mul_one] at hf61_0)
                                  have HP61 := Kd.S_seg0 HH59.out (of_decide_eq_true (by first | (with_reducible assumption) | assumption)) (by have h_ : ((ji17) : Int) < ((x7_1.length : Int) : Int) := of_decide_eq_true (by first | (with_reducible assumption) | assumption); first | exact h_ | (have e_ := (HN59.out); omega) | simpa using h_) (seg := [.slice Ao63 y185.length co63]) (j := 0) (show 1 ≤ 1 from by decide) (x' := y185) (Kd.M_row HO187.out) (fun _ hk => hk)
                                  (try simp only [show ((Kd.slice 53 k53)).sz = 1 from rfl, Nat.mul_one, Nat.add_zero] at HP61)
                                  clear hcc61 hfr61
                                  have HNB171_go59 := Aside0.mk (show gb171 ≠ go59 from by have h_ := Kd.R_ne hraw61 BK171.out (by decide); intro e_; exact h_ (by rw [e_]; rfl))
                                  have HS61 := HP61.1
                                  rw [← Ny188.out] at HS61
                                  have HQ61 := Aside0.mk HS61
                                  obtain ⟨_, hgg61⟩ := Kd.R_typed hraw61 go59 rfl
                                  have GG61_ := Aside0.mk hgg61
                                  clear HP61 HS61 hgg61
                                  refine hK.out _ _ ⟨(blk_cell BK171.out 0).trans rfl, (blk_cell BK171.out 1).trans rfl, HS2_⟩ (fun hHeld => ?_)
                                  clear hK K
                                  refine norm_ (a' := ?_) ?_ ?_
                                  rotate_left
                                  · show Act.put _ (some 52) _ = _
                                    simp only [Act.put, List.setIfInBounds_toArray, List.set_cons_zero, List.set_cons_succ, i64_w, i32_w]
                                    rfl
                                  refine pure_ (i := 9) (N := some 53) (v := ?_) (a' := ?_) #[true, true, true, true, true, true, true, true, true, true, false] rfl rfl (any_of HT_.out (by kernel_rfl)) (fun _ _ _ h => h) (Or.inl ⟨by rfl, ?_⟩) ?_ ?_
                                  rotate_left
                                  · intro w'
                                    go_simp
                                    with_reducible rfl
                                  rotate_left
                                  · simp only [Act.put, List.setIfInBounds_toArray, List.set_cons_zero, List.set_cons_succ, i64_w, i32_w]
                                    rfl
                                  refine last_ (i := 10) (N := none) #[true, true, true, true, true, true, true, true, true, true, true] rfl rfl (one_of HT_.out (by kernel_rfl)) (by decide) (fun K hK => ?_)
                                  refine skip_ (w1 := ?_) (by rfl) rfl ?_ ?_
                                  rotate_left
                                  · go_simp
                                    rfl
                                  refine hK.out _ _ ?_
                                  clear hK K
                                  refine done_ (done_of HT_.out (by kernel_rfl)) ?_
                                  have n0_ : Aside0 (Kd.R (Kd.int .i64) 3 (w60.setCell ⟨go59, ((ji17) : Int).toNat, none⟩ (.slice Ao63 y185.length co63)) w.heap.size (fun _ => True) (.slice (some ad172) x8_1.length co56) x8_1) := ⟨by (with_reducible repeat (first | apply Kd.R_alloc | apply Kd.R_drewN | apply Kd.R_drew)); exact Kd.R_mono (Kd.R_far (p := ⟨go59, ((ji17) : Int).toNat, none⟩) (Kd.R_types HO_8.out GG61_.out (by decide)) (fun _ hk => hk.2) (.slice Ao63 y185.length co63)) (fun _ hk => trivial)⟩
                                  have n1_ : Aside0 (Kd.S (Kd.slice 53 k53) 22 (w60.setCell ⟨go59, ((ji17) : Int).toNat, none⟩ (.slice Ao63 y185.length co63)) w.heap.size (fun k_ => k_ ≠ gb171) (.slice (some ⟨go59, 0, none⟩) x7_1.length co57) y188) := ⟨by (with_reducible repeat (first | apply Kd.S_alloc | apply Kd.S_drewN | apply Kd.S_drew)); exact HQ61.out⟩
                                  have n2_ : Aside0 ((w60.setCell ⟨go59, ((ji17) : Int).toNat, none⟩ (.slice Ao63 y185.length co63)).heap[gb171]? = some (.cells #[.int .i64 ((rd_T53 l1 x22_1).f0), .int .i64 ((rd_T53 l1 x22_1).f1)] 53 (0, 0))) := ⟨by (with_reducible repeat (first | refine blk_drewN ?_ _ | refine blk_drew ?_ | refine blk_alloc ?_ _)); refine blk_far ?_ HNB171_go59.out _; (with_reducible repeat (first | refine blk_drewN ?_ _ | refine blk_drew ?_ | refine blk_alloc ?_ _)); exact BK171.out⟩
                                  have n3_ : Aside0 (Below w.heap.size w (w60.setCell ⟨go59, ((ji17) : Int).toNat, none⟩ (.slice Ao63 y185.length co63))) := ⟨by repeat (first | (with_reducible first | exact HB.out | apply below_alloc | apply pw_below_drewN | apply below_drew1 | refine below_set ?_ GB59.out | refine below_set ?_ GE171.out) | exact HB.out)⟩
                                  (try clear HO_8)
                                  (try clear HO_7)
                                  (try clear BK171)
                                  (try clear HB)
                                  generalize (w60.setCell ⟨go59, ((ji17) : Int).toNat, none⟩ (.slice Ao63 y185.length co63)) = w64 at n0_ n1_ n2_ n3_ ⊢
                                  have HO_8 := n0_
                                  have HO_7 := n1_
                                  have BK171 := n2_
                                  have HB := n3_
                                  clear n0_ n1_ n2_ n3_
                                  go_wp2
                                  have P0 : 0 ≤ ((rd_T53 l1 x22_1).f0) := of_decide_eq_true c13b0
                                  have Q0 : ((rd_T53 l1 x22_1).f0) < (x8_1.length : Int) := of_decide_eq_true c14b0
                                  have P1 : 0 ≤ ((rd_T53 l1 x22_1).f1) := of_decide_eq_true c15b0
                                  have Q1 : ((rd_T53 l1 x22_1).f1) < (x8_1.length : Int) := of_decide_eq_true c16b0
                                  obtain ⟨go24, co24, e24, hg24, _, cells24, hb24⟩ := Kd.R_form HO_8.out (by omega)
                                  (first | cases e24 | (injection e24 with ea_ en_ ec_; (first | subst ea_ | (injection ea_ with ea_; subst ea_)); subst ec_; clear en_))
                                  have n8 := HO_8.out
                                  have n7 := HO_7.out
                                  have nB := BK171.out
                                  have nb := HB.out
                                  clear HO_8 HO_7 BK171 HB
                                  generalize hF0 : (rd_T53 l1 x22_1).f0 = F0 at *
                                  generalize hF1 : (rd_T53 l1 x22_1).f1 = F1 at *
                                  have hne : go24 ≠ gb171 := blk_ne_row n8 nB (by decide)
                                  obtain ⟨hu0, hf0, hu1, hf1, hu1'⟩ := put2_facts n8 F0 F1 (wrap64 (ji17 + 1)) P0 Q0 P1 Q1
                                  have hx0 : w64.cell? ⟨gb171, 0, none⟩ = some (.int .i64 F0) := (blk_cell nB 0).trans rfl
                                  have hx1 : w64.cell? ⟨gb171, 1, none⟩ = some (.int .i64 F1) := (blk_cell nB 1).trans rfl
                                  have hx1' : (w64.setCell ⟨go24, F0.toNat, none⟩ (.int .i64 (wrap64 (ji17 + 1)))).drew.cell? ⟨gb171, 1, none⟩ = some (.int .i64 F1) := (World.cell?_setCell_far _ _ _ _ hne).trans hx1
                                  have PP := Aside0.mk (put2_row n8 hg24 F0 F1 (wrap64 (ji17 + 1)) (wrap64 (ji17 + 1)))
                                  have SS := Aside0.mk (put2_S n8 n7 (by decide) F0 F1 (wrap64 (ji17 + 1)) (wrap64 (ji17 + 1)))
                                  have NB := Aside0.mk nB
                                  have Nb := Aside0.mk nb
                                  have hne' : ¬ gb171 = go24 := fun e => hne e.symm
                                  clear n8 n7 nB nb hb24 hg24
                                  replace P0 := eq_true P0
                                  replace P1 := eq_true P1
                                  replace Q0 := eq_true Q0
                                  replace Q1 := eq_true Q1
                                  as_aux_lemma =>
                                    go_region
                                    go_wp2
                                    have n8 := PP.out.row
                                    have nb := PP.out.below Nb.out
                                    have n7 := SS.out
                                    rw [← Ny189.out, ← Ny190.out] at n8
                                    unfold put2 at n8 nb n7
                                    clear PP SS NB Nb hu0 hf0 hu1 hf1 hu1' hx0 hx1 hx1' hne hne'
                                    generalize hq_ : ((w64.setCell ⟨go24, F0.toNat, none⟩ (.int .i64 (wrap64 (ji17 + 1)))).setCell ⟨go24, F1.toNat, none⟩ (.int .i64 (wrap64 (ji17 + 1)))).drew = W3 at n8 n7 nb ⊢
                                    clear hq_
                                    go_roundg k1
                                    case measure => have := HK1.out; omega
                                    case rel => exact ⟨y188, y190, wrap64 (x22_1 + 1), rfl, H', ⟨by have := HK1.out; omega⟩, ⟨Kd.S_mono n7 (fun _ hk => trivial)⟩, ⟨n8⟩, ⟨nb⟩⟩
                                · rw [if_neg c48] at H
                                  exact absurd H (by simp)
                              · rw [if_neg c47] at H
                                exact absurd H (by simp)
                            · rw [if_neg c46] at H
                              exact absurd H (by simp)
                        · rw [if_neg c16] at H
                          exact absurd H (by simp)
                      · rw [if_neg c15] at H
                        exact absurd H (by simp)
                    · rw [if_neg c14] at H
                      exact absurd H (by simp)
                  · rw [if_neg c13] at H
                    exact absurd H (by simp)
                · rw [if_neg c12] at H
                  exact absurd H (by simp)
              · rw [if_neg c11] at H
                exact absurd H (by simp)
            · rw [if_neg c10] at H
              have c10b0 : decide (x22_1 < (l1.length : Int)) = false := decide_eq_false c10
              clear c10
              simp only [Option.some.injEq, Prod.mk.injEq] at H
              obtain ⟨rfl, rfl⟩ := H
              go_wp2
              go_ret2
              exact ⟨_, by first | rfl | (simp [errW_none, errW_some] <;> rfl) | (simp [*, errW_none, errW_some] <;> rfl), by (with_reducible repeat (first | apply Kd.S_alloc | apply Kd.S_drewN | apply Kd.S_drew)); exact HO_7.out, by repeat (first | (with_reducible first | exact HB.out | apply below_alloc | apply pw_below_drewN | apply below_drew1) | exact HB.out)⟩
      · rw [if_neg c6] at H
        exact absurd H (by simp)
    · rw [if_neg c5] at H
      exact absurd H (by simp)
  · rw [if_neg c4] at H
    have c4b0 : (t166 == 0) = false := beq_eq_false_iff_ne.mpr c4
    have c4b1 : (t166 != 0) = true := bne_iff_ne.mpr c4
    simp only [Option.some.injEq, Prod.mk.injEq] at H
    obtain ⟨rfl, rfl⟩ := H
    go_enter Try.func25, Try.ntmps25
    go_wp2_with (first | ((with_reducible refine gate_callee (f := 15) rfl ?_); refine goesL_ (some 14) rfl rfl Try.func15 (by kernel_rfl) rfl #[.int .i64 a0, .slice A1 l1.length c1] rfl (by (try simp only [List.map_toArray, List.map_cons, List.map_nil]); first | done | rfl | (simp only [List.length_drop, List.length_take]; rfl)) ?_; (with_reducible refine (sorter_Check.calls a0 _ _ l1 t166 _ ?side1 ?side2 A3.out).mono ?_); (case side1 => repeat (first | exact HR1.out | (with_reducible refine Kd.C_alloc ?_ _) | (with_reducible refine Kd.C_drewN ?_ _) | (with_reducible refine Kd.C_drew ?_))); (case side2 => exact HC1.out); rintro e w70 ⟨rfl, hb⟩; refine ⟨_, rfl, ?_⟩; have n0_ := Aside0.mk (below_step (by repeat (first | (with_reducible first | exact HB.out | apply below_alloc | apply pw_below_drewN | apply below_drew1) | exact HB.out)) hb); clear HB; have HB := n0_; clear n0_; (try clear hb); (try clear hb2); (try clear hk); (try clear hi)))
    go_ret2
    exact ⟨_, by first | rfl | (simp [errW_none, errW_some] <;> rfl) | (simp [*, errW_none, errW_some] <;> rfl), by first | exact Kd.S_nil _ _ _ _ _ | exact Kd.N_nil _ _ _ _ _ | exact Kd.V_nil _ _ _ _ _ | exact Kd.Q_nil _ _ _ _ _ | exact Kd.R_nil _ _ _ _ _, by repeat (first | (with_reducible first | exact HB.out | apply below_alloc | apply pw_below_drewN | apply below_drew1) | exact HB.out)⟩

end Go.Proofs.Ytmgjohlaoflebaa.Sb
