/- Functions of the program, each with its walk: juntoref14_Rounds. (Made by this session's own program out of what the kit's print wrote; no text of the print.) -/
import Derived.Test.YtmgjohlaoflebaaSb0
import Derived.Test.YtmgjohlaoflebaaSbTwo
namespace Go.Proofs.Ytmgjohlaoflebaa.Sb
open Go.RowKit Go.Proofs.YtmgjohlaoflebaaW.PrintWords Go.Proofs.YtmgjohlaoflebaaW.PrintLast Go.Proofs.YtmgjohlaoflebaaW.PrintMore
attribute [local go_sem] max2_int min2_int max_two min_two max_three min_three max_four min_four   -- for this text's walks alone
set_option linter.unusedVariables false
set_option linter.unusedSimpArgs false

/-! ### juntoref14_Rounds: function 26 -/
def juntoref14_Rounds.l0 : Nat → List (List (S53)) → List Int → List (S53) → Int → Int → Option ((List (List (S53))))
  | 0, _, _, _, _, _ => none
  | k + 1, x5, x6, x12, x13, x14 => if x14 < x13 then (if 0 ≤ x14 then (if x14 < (x12.length : Int) then (if 0 ≤ ((rd_T53 x12 x14).f0) then (if ((rd_T53 x12 x14).f0) < (x6.length : Int) then (if 0 ≤ ((rd_T53 x12 x14).f1) then (if ((rd_T53 x12 x14).f1) < (x6.length : Int) then (if (mx (rd x6 ((rd_T53 x12 x14).f0)) (rd x6 ((rd_T53 x12 x14).f1))) = (x5.length : Int) then (if x5.length < 5864062014805 then ((some (x5 ++ [[]] : List (List (S53)))).bind fun y198 => (if 0 ≤ (mx (rd x6 ((rd_T53 x12 x14).f0)) (rd x6 ((rd_T53 x12 x14).f1))) then (if (mx (rd x6 ((rd_T53 x12 x14).f0)) (rd x6 ((rd_T53 x12 x14).f1))) < (y198.length : Int) then (if (rd_L2 y198 (mx (rd x6 ((rd_T53 x12 x14).f0)) (rd x6 ((rd_T53 x12 x14).f1)))).length < 8796093022208 then (juntoref14_Rounds.l0 k (y198.set ((mx (rd x6 ((rd_T53 x12 x14).f0)) (rd x6 ((rd_T53 x12 x14).f1))) : Int).toNat ((rd_L2 y198 (mx (rd x6 ((rd_T53 x12 x14).f0)) (rd x6 ((rd_T53 x12 x14).f1)))) ++ [(⟨(rd_T53 x12 x14).f0, (rd_T53 x12 x14).f1⟩ : S53)])) ((x6.set (((rd_T53 x12 x14).f0) : Int).toNat (wrap64 ((mx (rd x6 ((rd_T53 x12 x14).f0)) (rd x6 ((rd_T53 x12 x14).f1))) + 1))).set (((rd_T53 x12 x14).f1) : Int).toNat (wrap64 ((mx (rd x6 ((rd_T53 x12 x14).f0)) (rd x6 ((rd_T53 x12 x14).f1))) + 1))) x12 x13 (wrap64 (x14 + 1))) else (none)) else (none)) else (none))) else (none)) else (if 0 ≤ (mx (rd x6 ((rd_T53 x12 x14).f0)) (rd x6 ((rd_T53 x12 x14).f1))) then (if (mx (rd x6 ((rd_T53 x12 x14).f0)) (rd x6 ((rd_T53 x12 x14).f1))) < (x5.length : Int) then (if (rd_L2 x5 (mx (rd x6 ((rd_T53 x12 x14).f0)) (rd x6 ((rd_T53 x12 x14).f1)))).length < 8796093022208 then (juntoref14_Rounds.l0 k (x5.set ((mx (rd x6 ((rd_T53 x12 x14).f0)) (rd x6 ((rd_T53 x12 x14).f1))) : Int).toNat ((rd_L2 x5 (mx (rd x6 ((rd_T53 x12 x14).f0)) (rd x6 ((rd_T53 x12 x14).f1)))) ++ [(⟨(rd_T53 x12 x14).f0, (rd_T53 x12 x14).f1⟩ : S53)])) ((x6.set (((rd_T53 x12 x14).f0) : Int).toNat (wrap64 ((mx (rd x6 ((rd_T53 x12 x14).f0)) (rd x6 ((rd_T53 x12 x14).f1))) + 1))).set (((rd_T53 x12 x14).f1) : Int).toNat (wrap64 ((mx (rd x6 ((rd_T53 x12 x14).f0)) (rd x6 ((rd_T53 x12 x14).f1))) + 1))) x12 x13 (wrap64 (x14 + 1))) else (none)) else (none)) else (none))) else (none)) else (none)) else (none)) else (none)) else (none)) else (none)) else (some x5)
def juntoref14_Rounds.f (k : Nat) (a0 : Int) (l1 : List (S53)) : Option ((List (List (S53)))) := if 0 ≤ a0 then (if (a0 : Int).toNat ≤ 35184372088832 then (juntoref14_Rounds.l0 k ([] : List (List (S53))) (List.replicate (a0 : Int).toNat 0) l1 (l1.length : Int) 0) else (none)) else (none)
theorem juntoref14_Rounds.mono_l : ∀ k, (∀ y0 y1 y2 y3 y4, LeO (juntoref14_Rounds.l0 k y0 y1 y2 y3 y4) (juntoref14_Rounds.l0 (k + 1) y0 y1 y2 y3 y4))
  | 0 => fun _ _ _ _ _ r h => by simp [juntoref14_Rounds.l0] at h
  | k + 1 => by
    have ih0 := juntoref14_Rounds.mono_l k
    · intro y0 y1 y2 y3 y4
      unfold juntoref14_Rounds.l0
      repeat' first
      | (with_reducible exact ih0 _ _ _ _ _)
      | (with_reducible exact LeO.refl _)
      | (with_reducible exact LeO.none _)
      | (with_reducible refine LeO.ite ?_ ?_)
      | (with_reducible refine LeO.bind ?_ (fun _ => ?_))
      | exact ih0 _ _ _ _ _
      | exact LeO.none _
      | refine LeO.ite ?_ ?_
      | refine LeO.bind ?_ (fun _ => ?_)
theorem juntoref14_Rounds.mono : ∀ a0 a1 k, LeO (juntoref14_Rounds.f k a0 a1) (juntoref14_Rounds.f (k + 1) a0 a1) := by
  intro a0 a1 k
  have ih0 := juntoref14_Rounds.mono_l k
  unfold juntoref14_Rounds.f
  repeat' first
      | (with_reducible exact ih0 _ _ _ _ _)
      | (with_reducible exact LeO.refl _)
      | (with_reducible exact LeO.none _)
      | (with_reducible refine LeO.ite ?_ ?_)
      | (with_reducible refine LeO.bind ?_ (fun _ => ?_))
      | exact ih0 _ _ _ _ _
      | exact LeO.none _
      | refine LeO.ite ?_ ?_
      | refine LeO.bind ?_ (fun _ => ?_)
def juntoref14_Rounds.T6 : Bool × List (List Nat × List Nat) := (true, [([], []), ([], []), ([1], [1]), ([0, 2], [0, 2]), ([3], [3]), ([], []), ([], []), ([6], [6]), ([5, 7], [5, 7]), ([8], [8]), ([4, 9], [4, 9]), ([10, 0, 1, 2, 3, 4, 5, 6, 7, 8, 9, 10], [10])])
def juntoref14_Rounds.B6 : List Nat := [0, 0, 2, 7, 15, 0, 0, 64, 224, 480, 1023, 2047]
theorem juntoref14_Rounds.tab6 : rtab .any (opsOf Try.f26 6) = juntoref14_Rounds.T6 := by kernel_rfl
theorem juntoref14_Rounds.bits6 : waitsOk juntoref14_Rounds.T6.2 juntoref14_Rounds.B6 = true := by kernel_rfl
def juntoref14_Rounds.T9 : Bool × List (List Nat × List Nat) := (true, [([], []), ([], []), ([], []), ([], []), ([2, 3], [2, 3]), ([4], [4]), ([], []), ([6], [6]), ([5, 7], [5, 7]), ([0, 1, 0, 1, 2, 3, 4, 5, 6, 7, 8], [0, 1]), ([9, 8, 8, 0, 1, 2, 3, 4, 5, 6, 7, 8], [8, 9])])
def juntoref14_Rounds.B9 : List Nat := [0, 0, 0, 0, 12, 28, 0, 64, 252, 511, 1023]
theorem juntoref14_Rounds.tab9 : rtab .any (opsOf Try.f26 9) = juntoref14_Rounds.T9 := by kernel_rfl
theorem juntoref14_Rounds.bits9 : waitsOk juntoref14_Rounds.T9.2 juntoref14_Rounds.B9 = true := by kernel_rfl
set_option maxHeartbeats 8000000 in
set_option maxRecDepth 100000 in
theorem juntoref14_Rounds.calls (k : Nat) (a0 : Int) (A1 : Option Addr) (c1 : Nat) (l1 : List (S53)) (r : List (List (S53))) (w : World) (hr1 : Kd.C k53 w A1 l1.length l1) (hc1 : l1.length ≤ c1) (h : juntoref14_Rounds.f k a0 l1 = some r) :
    Calls Try.prog 26 #[.int .i64 a0, .slice A1 l1.length c1] w fun e w' => ∃ v0_ : Value, e = .returned (v0_) ∧ Kd.S (Kd.slice 53 k53) 22 w' w.heap.size (fun _ => True) v0_ r ∧ Below w.heap.size w w' := by
  have hu53 := Try.underlying53
  have HR1 := Aside0.mk hr1
  have HC1 := Aside0.mk hc1
  clear hr1 hc1
  have HB := Aside0.mk (Below.refl w.heap.size w)
  have H : (if 0 ≤ a0 then (if (a0 : Int).toNat ≤ 35184372088832 then (juntoref14_Rounds.l0 k ([] : List (List (S53))) (List.replicate (a0 : Int).toNat 0) l1 (l1.length : Int) 0) else (none)) else (none)) = some r := h
  clear h
  by_cases c3 : 0 ≤ a0
  · rw [if_pos c3] at H
    have c3b0 := eq_true c3
    have c3b1 : decide (0 ≤ a0) = true := decide_eq_true c3
    clear c3
    by_cases c4 : (a0 : Int).toNat ≤ 35184372088832
    · rw [if_pos c4] at H
      have c4b0 := eq_true c4
      have c4b1 : decide ((a0 : Int).toNat ≤ 35184372088832) = true := decide_eq_true c4
      clear c4
      obtain ⟨y191, hy191⟩ : ∃ y_ : List Int, y_ = (List.replicate (a0 : Int).toNat 0) := ⟨_, rfl⟩
      replace H : (juntoref14_Rounds.l0 k ([] : List (List (S53))) y191 l1 (l1.length : Int) 0) = some r := by first | (rw [hy191]; with_reducible exact H) | (have H2_ := (Option.bind_some _ _).symm.trans H; rw [hy191]; with_reducible exact H2_) | (have H2_ := (Option.bind_some _ _).symm.trans H; with_reducible exact H2_) | with_reducible exact H | (rw [hy191]; exact H) | exact H
      have Ny191 := Aside0.mk hy191
      clear hy191
      have H' := Aside0.mk H
      clear H
      go_enter Try.func26, Try.ntmps26
      go_wp2_with (first | ((with_reducible refine gate_dst (N := 11) rfl ?_); refine Kd.R_make (Kd.int .i64) _ 3 rfl (N := 11) rfl 40 _ _ rfl a0 rfl rfl Try.underlying40 (.int .i64 0) 8 info3 rfl (by decide) (by omega) 0 (ok := fun _ => True) (okp := fun _ => True) rfl (fun _ hk => hk) trivial (of_decide_eq_true (by first | (with_reducible assumption) | assumption)) (Nat.le_trans (Nat.mul_le_mul_right _ (of_decide_eq_true (by first | (with_reducible assumption) | assumption) : a0.toNat ≤ 35184372088832)) (by omega)) (Below.refl _ _) (Nat.le_refl _) ?_; intro v192 w5 ho6 hb hg_ hnew_; clear hg_ hnew_; (first | rw [← Ny191.out] at ho6 | (simp only [Int.reduceToNat] at ho6; rw [← Ny191.out] at ho6)); have n0_ := Aside0.mk (Kd.R_lower ho6 (below_size (by repeat (first | (with_reducible first | exact HB.out | apply below_alloc | apply pw_below_drewN | apply below_drew1) | exact HB.out)))); have n1_ := Aside0.mk (below_step (by repeat (first | (with_reducible first | exact HB.out | apply below_alloc | apply pw_below_drewN | apply below_drew1) | exact HB.out)) hb); clear HB; have HO193 := n0_; have HB := n1_; clear n0_ n1_; clear hb ho6))
      go_loopg [5, 14] k (fun kq v5 v14 w' => ∃ (x5_1 : List (List (S53))) (x6_1 : List Int) (x14_1 : Int), v14 = .int .i64 x14_1 ∧ Aside0 (juntoref14_Rounds.l0 kq x5_1 x6_1 l1 (l1.length : Int) x14_1 = some r) ∧ Aside0 (kq ≤ k) ∧ Aside0 (Kd.S (Kd.slice 53 k53) 22 w' w.heap.size (fun _ => True) v5 x5_1) ∧ Aside0 (Kd.R (Kd.int .i64) 3 w' w.heap.size (fun _ => True) v192 x6_1) ∧ Aside0 (Below w.heap.size w w'))
      case atStart => exact ⟨(([] : List (List (S53)))), (y191), (0), (by first | rfl | (simp; done) | (simp [*]; done)), H', ⟨Nat.le_refl _⟩, ⟨by first | exact Kd.S_nil _ _ _ _ _ | exact Kd.N_nil _ _ _ _ _ | exact Kd.V_nil _ _ _ _ _ | exact Kd.Q_nil _ _ _ _ _ | exact Kd.R_nil _ _ _ _ _⟩, ⟨by (with_reducible repeat (first | apply Kd.R_alloc | apply Kd.R_drewN | apply Kd.R_drew)); exact HO193.out⟩, ⟨by repeat (first | (with_reducible first | exact HB.out | apply below_alloc | apply pw_below_drewN | apply below_drew1) | exact HB.out)⟩⟩
      case round =>
        clear H'
        try clear c1
        try clear c2
        try clear p2
        try clear c3
        try clear c3b0
        try clear c3b1
        try clear c4
        try clear c4b0
        try clear c4b1
        obtain ⟨x5_1, x6_1, x14_1, rfl, HA, HK1, HO_5, HO_6, HB⟩ := hrel
        cases gk with
        | zero => exact absurd HA.out (by simp [juntoref14_Rounds.l0])
        | succ k1 =>
          have H := HA.out
          clear HA
          simp only [juntoref14_Rounds.l0] at H
          by_cases c7 : x14_1 < (l1.length : Int)
          · rw [if_pos c7] at H
            have c7b0 : decide (x14_1 < (l1.length : Int)) = true := decide_eq_true c7
            clear c7
            by_cases c8 : 0 ≤ x14_1
            · rw [if_pos c8] at H
              have c8b0 : decide (0 ≤ x14_1) = true := decide_eq_true c8
              clear c8
              by_cases c9 : x14_1 < (l1.length : Int)
              · rw [if_pos c9] at H
                have c9b0 : decide (x14_1 < (l1.length : Int)) = true := decide_eq_true c9
                clear c9
                by_cases c10 : 0 ≤ ((rd_T53 l1 x14_1).f0)
                · rw [if_pos c10] at H
                  have c10b0 : decide (0 ≤ ((rd_T53 l1 x14_1).f0)) = true := decide_eq_true c10
                  clear c10
                  by_cases c11 : ((rd_T53 l1 x14_1).f0) < (x6_1.length : Int)
                  · rw [if_pos c11] at H
                    have c11b0 : decide (((rd_T53 l1 x14_1).f0) < (x6_1.length : Int)) = true := decide_eq_true c11
                    clear c11
                    by_cases c12 : 0 ≤ ((rd_T53 l1 x14_1).f1)
                    · rw [if_pos c12] at H
                      have c12b0 : decide (0 ≤ ((rd_T53 l1 x14_1).f1)) = true := decide_eq_true c12
                      clear c12
                      by_cases c13 : ((rd_T53 l1 x14_1).f1) < (x6_1.length : Int)
                      · rw [if_pos c13] at H
                        have c13b0 : decide (((rd_T53 l1 x14_1).f1) < (x6_1.length : Int)) = true := decide_eq_true c13
                        clear c13
                        obtain ⟨ji14, hji14⟩ : ∃ j_ : Int, (mx (rd x6_1 ((rd_T53 l1 x14_1).f0)) (rd x6_1 ((rd_T53 l1 x14_1).f1))) = j_ := ⟨_, rfl⟩
                        replace H : (if (ji14) = (x5_1.length : Int) then (if x5_1.length < 5864062014805 then ((some (x5_1 ++ [[]] : List (List (S53)))).bind fun y198 => (if 0 ≤ (ji14) then (if (ji14) < (y198.length : Int) then (if (rd_L2 y198 (ji14)).length < 8796093022208 then (juntoref14_Rounds.l0 k1 (y198.set ((ji14) : Int).toNat ((rd_L2 y198 (ji14)) ++ [(⟨(rd_T53 l1 x14_1).f0, (rd_T53 l1 x14_1).f1⟩ : S53)])) ((x6_1.set (((rd_T53 l1 x14_1).f0) : Int).toNat (wrap64 ((ji14) + 1))).set (((rd_T53 l1 x14_1).f1) : Int).toNat (wrap64 ((ji14) + 1))) l1 (l1.length : Int) (wrap64 (x14_1 + 1))) else (none)) else (none)) else (none))) else (none)) else (if 0 ≤ (ji14) then (if (ji14) < (x5_1.length : Int) then (if (rd_L2 x5_1 (ji14)).length < 8796093022208 then (juntoref14_Rounds.l0 k1 (x5_1.set ((ji14) : Int).toNat ((rd_L2 x5_1 (ji14)) ++ [(⟨(rd_T53 l1 x14_1).f0, (rd_T53 l1 x14_1).f1⟩ : S53)])) ((x6_1.set (((rd_T53 l1 x14_1).f0) : Int).toNat (wrap64 ((ji14) + 1))).set (((rd_T53 l1 x14_1).f1) : Int).toNat (wrap64 ((ji14) + 1))) l1 (l1.length : Int) (wrap64 (x14_1 + 1))) else (none)) else (none)) else (none))) = some r := by first | (rw [hji14] at H; exact H) | (simp only [hji14] at H ⊢; exact H)
                        have hji14_ : (if (rd x6_1 ((rd_T53 l1 x14_1).f0)) < (rd x6_1 ((rd_T53 l1 x14_1).f1)) then (rd x6_1 ((rd_T53 l1 x14_1).f1)) else (rd x6_1 ((rd_T53 l1 x14_1).f0))) = ji14 := hji14
                        by_cases c15 : (ji14) = (x5_1.length : Int)
                        · rw [if_pos c15] at H
                          have c15b0 : ((ji14) == (x5_1.length : Int)) = true := beq_iff_eq.mpr c15
                          have c15b1 : ((ji14) != (x5_1.length : Int)) = false := bne_eq_false_iff_eq.mpr c15
                          clear c15
                          by_cases c16 : x5_1.length < 5864062014805
                          · rw [if_pos c16] at H
                            have LMc16 := Aside0.mk c16
                            clear c16
                            obtain ⟨y198, hy198⟩ : ∃ y_ : List (List (S53)), y_ = (x5_1 ++ [[]]) := ⟨_, rfl⟩
                            replace H : (if 0 ≤ (ji14) then (if (ji14) < (y198.length : Int) then (if (rd_L2 y198 (ji14)).length < 8796093022208 then (juntoref14_Rounds.l0 k1 (y198.set ((ji14) : Int).toNat ((rd_L2 y198 (ji14)) ++ [(⟨(rd_T53 l1 x14_1).f0, (rd_T53 l1 x14_1).f1⟩ : S53)])) ((x6_1.set (((rd_T53 l1 x14_1).f0) : Int).toNat (wrap64 ((ji14) + 1))).set (((rd_T53 l1 x14_1).f1) : Int).toNat (wrap64 ((ji14) + 1))) l1 (l1.length : Int) (wrap64 (x14_1 + 1))) else (none)) else (none)) else (none)) = some r := by first | (rw [hy198]; with_reducible exact H) | (have H2_ := (Option.bind_some _ _).symm.trans H; rw [hy198]; with_reducible exact H2_) | (have H2_ := (Option.bind_some _ _).symm.trans H; with_reducible exact H2_) | with_reducible exact H | (rw [hy198]; exact H) | exact H
                            have Ny198 := Aside0.mk hy198
                            clear hy198
                            by_cases c17 : 0 ≤ (ji14)
                            · rw [if_pos c17] at H
                              have c17b0 : decide (0 ≤ (ji14)) = true := decide_eq_true c17
                              clear c17
                              by_cases c18 : (ji14) < (y198.length : Int)
                              · rw [if_pos c18] at H
                                have c18b0 : decide ((ji14) < (y198.length : Int)) = true := decide_eq_true c18
                                clear c18
                                by_cases c19 : (rd_L2 y198 (ji14)).length < 8796093022208
                                · rw [if_pos c19] at H
                                  have LMc19 := Aside0.mk c19
                                  clear c19
                                  obtain ⟨y202, hy202⟩ : ∃ y_ : List (S53), y_ = ((rd_L2 y198 (ji14)) ++ [(⟨(rd_T53 l1 x14_1).f0, (rd_T53 l1 x14_1).f1⟩ : S53)]) := ⟨_, rfl⟩
                                  replace H : (juntoref14_Rounds.l0 k1 (y198.set ((ji14) : Int).toNat y202) ((x6_1.set (((rd_T53 l1 x14_1).f0) : Int).toNat (wrap64 ((ji14) + 1))).set (((rd_T53 l1 x14_1).f1) : Int).toNat (wrap64 ((ji14) + 1))) l1 (l1.length : Int) (wrap64 (x14_1 + 1))) = some r := by first | (rw [hy202]; with_reducible exact H) | (have H2_ := (Option.bind_some _ _).symm.trans H; rw [hy202]; with_reducible exact H2_) | (have H2_ := (Option.bind_some _ _).symm.trans H; with_reducible exact H2_) | with_reducible exact H | (rw [hy202]; exact H) | exact H
                                  have Ny202 := Aside0.mk hy202
                                  clear hy202
                                  obtain ⟨y205, hy205⟩ : ∃ y_ : List (List (S53)), y_ = (y198.set ((ji14) : Int).toNat y202) := ⟨_, rfl⟩
                                  replace H : (juntoref14_Rounds.l0 k1 y205 ((x6_1.set (((rd_T53 l1 x14_1).f0) : Int).toNat (wrap64 ((ji14) + 1))).set (((rd_T53 l1 x14_1).f1) : Int).toNat (wrap64 ((ji14) + 1))) l1 (l1.length : Int) (wrap64 (x14_1 + 1))) = some r := by first | (rw [hy205]; with_reducible exact H) | (have H2_ := (Option.bind_some _ _).symm.trans H; rw [hy205]; with_reducible exact H2_) | (have H2_ := (Option.bind_some _ _).symm.trans H; with_reducible exact H2_) | with_reducible exact H | (rw [hy205]; exact H) | exact H
                                  have Ny205 := Aside0.mk hy205
                                  clear hy205
                                  obtain ⟨y206, hy206⟩ : ∃ y_ : List Int, y_ = (x6_1.set (((rd_T53 l1 x14_1).f0) : Int).toNat (wrap64 ((ji14) + 1))) := ⟨_, rfl⟩
                                  replace H : (juntoref14_Rounds.l0 k1 y205 (y206.set (((rd_T53 l1 x14_1).f1) : Int).toNat (wrap64 ((ji14) + 1))) l1 (l1.length : Int) (wrap64 (x14_1 + 1))) = some r := by first | (rw [hy206]; with_reducible exact H) | (have H2_ := (Option.bind_some _ _).symm.trans H; rw [hy206]; with_reducible exact H2_) | (have H2_ := (Option.bind_some _ _).symm.trans H; with_reducible exact H2_) | with_reducible exact H | (rw [hy206]; exact H) | exact H
                                  have Ny206 := Aside0.mk hy206
                                  clear hy206
                                  obtain ⟨y207, hy207⟩ : ∃ y_ : List Int, y_ = (y206.set (((rd_T53 l1 x14_1).f1) : Int).toNat (wrap64 ((ji14) + 1))) := ⟨_, rfl⟩
                                  replace H : (juntoref14_Rounds.l0 k1 y205 y207 l1 (l1.length : Int) (wrap64 (x14_1 + 1))) = some r := by first | (rw [hy207]; with_reducible exact H) | (have H2_ := (Option.bind_some _ _).symm.trans H; rw [hy207]; with_reducible exact H2_) | (have H2_ := (Option.bind_some _ _).symm.trans H; with_reducible exact H2_) | with_reducible exact H | (rw [hy207]; exact H) | exact H
                                  have Ny207 := Aside0.mk hy207
                                  clear hy207
                                  have H' := Aside0.mk H
                                  clear H
                                  have p194 : 0 ≤ (x14_1 : Int) := of_decide_eq_true (by first | (with_reducible assumption) | assumption)
                                  have q194 : x14_1 < (l1.length : Int) := of_decide_eq_true (by first | (with_reducible assumption) | assumption)
                                  obtain ⟨ad194, e194, hx194_0, hx194_1⟩ := at_T53 HR1.out x14_1 p194 q194
                                  cases e194
                                  replace hx194_0 := (HB.out.cell (World.block_lt_of_cell? w _ hx194_0)).trans hx194_0
                                  replace hx194_1 := (HB.out.cell (World.block_lt_of_cell? w _ hx194_1)).trans hx194_1
                                  replace p194 := eq_true p194
                                  replace q194 := eq_true q194
                                  try go_wp2_with (first | ((with_reducible refine gate_dst (N := 8) rfl ?_); refine box_event ?hg (N := 8) ?hd (cs := #[.int .i64 0, .int .i64 0]) (t := 53) ?hr ?_; (case hd => rfl); (case hg => rfl); (case hr => first | (go_simp; done) | (go_simp; rfl)); intro gb195 hg w23 hbox hb; have n0_ := Aside0.mk (Kd.S_below (Kd.S_elderB (by (with_reducible repeat (first | apply Kd.S_alloc | apply Kd.S_drewN | apply Kd.S_drew)); exact HO_5.out) gb195 (Nat.le_of_eq hg.symm)) hb); have n1_ := Aside0.mk (Kd.R_below (by (with_reducible repeat (first | apply Kd.R_alloc | apply Kd.R_drewN | apply Kd.R_drew)); exact HO_6.out) hb); have n2_ := Aside0.mk (below_step (by repeat (first | (with_reducible first | exact HB.out | apply below_alloc | apply pw_below_drewN | apply below_drew1) | exact HB.out)) hb); have n3_ := Aside0.mk (hbox); have n4_ := Aside0.mk ((by rw [hg]; exact (below_size (by repeat (first | (with_reducible first | exact HB.out | apply below_alloc | apply pw_below_drewN | apply below_drew1) | exact HB.out))) : w.heap.size ≤ gb195)); have n5_ := Aside0.mk ((by rw [hg]; exact (below_size (by repeat (first | (with_reducible first | exact HB.out | apply below_alloc | apply pw_below_drewN | apply below_drew1) | exact HB.out))) : w.heap.size ≤ gb195)); clear HO_5; clear HO_6; clear HB; have HO_5 := n0_; have HO_6 := n1_; have HB := n2_; have BK195 := n3_; have GW195 := n4_; have GE195 := n5_; clear n0_ n1_ n2_ n3_ n4_ n5_; clear hb hbox hg; have hcz24_0 : w23.cell? ⟨gb195, 0, none⟩ = some (.int .i64 0) := (blk_cell BK195.out 0).trans rfl; have hcz24_1 : w23.cell? ⟨gb195, 1, none⟩ = some (.int .i64 0) := (blk_cell BK195.out 1).trans rfl; have hfz24_0 := blk_frozen BK195.out 0; have hfz24_1 := blk_frozen BK195.out 1))
                                  have n0_ : Aside0 (Kd.S (Kd.slice 53 k53) 22 ((w23.setCell ⟨gb195, 0, none⟩ (.int .i64 ((rd_T53 l1 x14_1).f0))).setCell ⟨gb195, 1, none⟩ (.int .i64 ((rd_T53 l1 x14_1).f1))) w.heap.size (fun k_ => k_ ≠ gb195) u5 x5_1) := ⟨by (with_reducible repeat (first | apply Kd.S_alloc | apply Kd.S_drewN | apply Kd.S_drew)); exact Kd.S_mono (Kd.S_far (p := ⟨gb195, 1, none⟩) (Kd.S_far (p := ⟨gb195, 0, none⟩) (Kd.S_mono HO_5.out (fun k_ hk => (⟨hk, hk.2⟩ : _ ∧ k_ ≠ gb195))) (fun _ hk => hk.2) (.int .i64 ((rd_T53 l1 x14_1).f0))) (fun _ hk => hk.2) (.int .i64 ((rd_T53 l1 x14_1).f1))) (fun _ hk => hk.1.2)⟩
                                  have n1_ : Aside0 (Kd.R (Kd.int .i64) 3 ((w23.setCell ⟨gb195, 0, none⟩ (.int .i64 ((rd_T53 l1 x14_1).f0))).setCell ⟨gb195, 1, none⟩ (.int .i64 ((rd_T53 l1 x14_1).f1))) w.heap.size (fun _ => True) v192 x6_1) := ⟨by (with_reducible repeat (first | apply Kd.R_alloc | apply Kd.R_drewN | apply Kd.R_drew)); exact Kd.R_mono (Kd.R_far (p := ⟨gb195, 1, none⟩) (Kd.R_far (p := ⟨gb195, 0, none⟩) (Kd.R_types HO_6.out BK195.out (by decide)) (fun _ hk => hk.2) (.int .i64 ((rd_T53 l1 x14_1).f0))) (fun _ hk => hk.2) (.int .i64 ((rd_T53 l1 x14_1).f1))) (fun _ hk => trivial)⟩
                                  have n2_ : Aside0 (((w23.setCell ⟨gb195, 0, none⟩ (.int .i64 ((rd_T53 l1 x14_1).f0))).setCell ⟨gb195, 1, none⟩ (.int .i64 ((rd_T53 l1 x14_1).f1))).heap[gb195]? = some (.cells #[.int .i64 ((rd_T53 l1 x14_1).f0), .int .i64 ((rd_T53 l1 x14_1).f1)] 53 (0, 0))) := ⟨by (with_reducible repeat (first | refine blk_drewN ?_ _ | refine blk_drew ?_ | refine blk_alloc ?_ _)); refine blk_put (cs := #[.int .i64 ((rd_T53 l1 x14_1).f0), .int .i64 0]) ?_ 1 _ rfl; (with_reducible repeat (first | refine blk_drewN ?_ _ | refine blk_drew ?_ | refine blk_alloc ?_ _)); refine blk_put (cs := #[.int .i64 0, .int .i64 0]) ?_ 0 _ rfl; (with_reducible repeat (first | refine blk_drewN ?_ _ | refine blk_drew ?_ | refine blk_alloc ?_ _)); exact BK195.out⟩
                                  have n3_ : Aside0 (Below w.heap.size w ((w23.setCell ⟨gb195, 0, none⟩ (.int .i64 ((rd_T53 l1 x14_1).f0))).setCell ⟨gb195, 1, none⟩ (.int .i64 ((rd_T53 l1 x14_1).f1)))) := ⟨by repeat (first | (with_reducible first | exact HB.out | apply below_alloc | apply pw_below_drewN | apply below_drew1 | refine below_set ?_ GE195.out) | exact HB.out)⟩
                                  (try clear HO_5)
                                  (try clear HO_6)
                                  (try clear BK195)
                                  (try clear HB)
                                  generalize ((w23.setCell ⟨gb195, 0, none⟩ (.int .i64 ((rd_T53 l1 x14_1).f0))).setCell ⟨gb195, 1, none⟩ (.int .i64 ((rd_T53 l1 x14_1).f1))) = w25 at n0_ n1_ n2_ n3_ ⊢
                                  have HO_5 := n0_
                                  have HO_6 := n1_
                                  have BK195 := n2_
                                  have HB := n3_
                                  clear n0_ n1_ n2_ n3_
                                  have n0_ := Aside0.mk (Kd.S_drew HO_5.out)
                                  have n1_ := Aside0.mk (Kd.R_drew HO_6.out)
                                  have n2_ := Aside0.mk (blk_drew BK195.out)
                                  have n3_ := Aside0.mk (below_drew1 HB.out)
                                  clear HO_5
                                  clear HO_6
                                  clear BK195
                                  clear HB
                                  have HO_5 := n0_
                                  have HO_6 := n1_
                                  have BK195 := n2_
                                  have HB := n3_
                                  clear n0_ n1_ n2_ n3_
                                  obtain ⟨Ao27, co27, eo27⟩ := Kd.R_slice HO_6.out
                                  (first | subst eo27 | (injection eo27 with f1_ f2_ f3_; have f4_ := f1_.symm; have f5_ := f3_.symm; clear f1_ f2_ f3_; subst f4_; subst f5_))
                                  have p196 : 0 ≤ (((rd_T53 l1 x14_1).f0) : Int) := of_decide_eq_true (by first | (with_reducible assumption) | assumption)
                                  have q196 : ((rd_T53 l1 x14_1).f0) < (x6_1.length : Int) := of_decide_eq_true (by first | (with_reducible assumption) | assumption)
                                  obtain ⟨ad196, e196, hx196_0⟩ := Kd.at_int (Kd.R_reads' HO_6.out).2.2 ((rd_T53 l1 x14_1).f0) p196 q196
                                  cases e196
                                  replace p196 := eq_true p196
                                  replace q196 := eq_true q196
                                  have p197 : 0 ≤ (((rd_T53 l1 x14_1).f1) : Int) := of_decide_eq_true (by first | (with_reducible assumption) | assumption)
                                  have q197 : ((rd_T53 l1 x14_1).f1) < (x6_1.length : Int) := of_decide_eq_true (by first | (with_reducible assumption) | assumption)
                                  obtain ⟨ad197, e197, hx197_0⟩ := Kd.at_int (Kd.R_reads' HO_6.out).2.2 ((rd_T53 l1 x14_1).f1) p197 q197
                                  obtain rfl : ad196 = ad197 := (by injection e197)
                                  replace p197 := eq_true p197
                                  replace q197 := eq_true q197
                                  refine start_ (n := 12) (S := fun w' => w'.cell? ⟨gb195, 0, none⟩ = some (.int .i64 ((rd_T53 l1 x14_1).f0)) ∧ w'.cell? ⟨gb195, 1, none⟩ = some (.int .i64 ((rd_T53 l1 x14_1).f1)) ∧ w'.cell? (ad196.add (((rd_T53 l1 x14_1).f0)).toNat) = some (.int .i64 (rd x6_1 ((rd_T53 l1 x14_1).f0))) ∧ w'.cell? (ad196.add (((rd_T53 l1 x14_1).f1)).toNat) = some (.int .i64 (rd x6_1 ((rd_T53 l1 x14_1).f1)))) (ds := []) #[false, false, false, false, false, false, false, false, false, false, false, false] (by kernel_rfl) rfl rfl ⟨(blk_cell BK195.out 0).trans rfl, (blk_cell BK195.out 1).trans rfl, hx196_0, hx197_0⟩ (fun hHeld => ?_); refine with_tabW juntoref14_Rounds.tab6 juntoref14_Rounds.bits6 (fun HT_ HW_ => ?_)
                                  generalize w25.drew = w26 at HO_5 HO_6 BK195 HB hx196_0 hx197_0 hHeld ⊢
                                  refine pure_ (i := 0) (N := some 18) (v := ?_) (a' := ?_) #[true, false, false, false, false, false, false, false, false, false, false, false] rfl rfl (any_of HT_.out (by kernel_rfl)) (fun _ _ _ h => h) (Or.inl ⟨by rfl, ?_⟩) ?_ ?_
                                  rotate_left
                                  · intro w'
                                    go_simp
                                    with_reducible rfl
                                  rotate_left
                                  · simp only [Act.put, List.setIfInBounds_toArray, List.set_cons_zero, List.set_cons_succ, i64_w, i32_w]
                                    rfl
                                  refine pure_ (i := 1) (N := some 19) (v := ?_) (a' := ?_) #[true, true, false, false, false, false, false, false, false, false, false, false] rfl rfl (any_of HT_.out (by kernel_rfl)) (fun _ _ _ h => h) (Or.inl ⟨by rfl, ?_⟩) ?_ ?_
                                  rotate_left
                                  · intro w'
                                    go_simp
                                    with_reducible rfl
                                  rotate_left
                                  · simp only [Act.put, List.setIfInBounds_toArray, List.set_cons_zero, List.set_cons_succ, i64_w, i32_w]
                                    rfl
                                  refine pure_ (i := 5) (N := some 23) (v := ?_) (a' := ?_) #[true, true, false, false, false, true, false, false, false, false, false, false] rfl rfl (any_of HT_.out (by kernel_rfl)) (fun _ _ _ h => h) (Or.inl ⟨by rfl, ?_⟩) ?_ ?_
                                  rotate_left
                                  · intro w'
                                    go_simp
                                    with_reducible rfl
                                  rotate_left
                                  · simp only [Act.put, List.setIfInBounds_toArray, List.set_cons_zero, List.set_cons_succ, i64_w, i32_w]
                                    rfl
                                  refine pure_ (i := 6) (N := some 24) (v := ?_) (a' := ?_) #[true, true, false, false, false, true, true, false, false, false, false, false] rfl rfl (any_of HT_.out (by kernel_rfl)) (fun _ _ _ h => h) (Or.inl ⟨by rfl, ?_⟩) ?_ ?_
                                  rotate_left
                                  · intro w'
                                    go_simp
                                    with_reducible rfl
                                  rotate_left
                                  · simp only [Act.put, List.setIfInBounds_toArray, List.set_cons_zero, List.set_cons_succ, i64_w, i32_w]
                                    rfl
                                  refine take_ (i := 2) (N := some 20) (v := ?_) (a' := ?_) #[true, true, true, false, false, true, true, false, false, false, false, false] rfl rfl (take_ofW HT_.out HW_.out (by kernel_rfl)) (fun _ _ _ h => h) (Or.inl ⟨by rfl, ?_⟩) hHeld ?_ ?_
                                  rotate_left
                                  · rintro w' ⟨s0, s1, s2, s3⟩
                                    go_simp
                                    with_reducible rfl
                                  rotate_left
                                  · simp only [Act.put, List.setIfInBounds_toArray, List.set_cons_zero, List.set_cons_succ, i64_w, i32_w]
                                    rfl
                                  refine pure_ (i := 3) (N := some 21) (v := ?_) (a' := ?_) #[true, true, true, true, false, true, true, false, false, false, false, false] rfl rfl (any_of HT_.out (by kernel_rfl)) (fun _ _ _ h => h) (Or.inl ⟨by rfl, ?_⟩) ?_ ?_
                                  rotate_left
                                  · intro w'
                                    go_simp
                                    with_reducible rfl
                                  rotate_left
                                  · simp only [Act.put, List.setIfInBounds_toArray, List.set_cons_zero, List.set_cons_succ, i64_w, i32_w]
                                    rfl
                                  refine take_ (i := 4) (N := some 22) (v := ?_) (a' := ?_) #[true, true, true, true, true, true, true, false, false, false, false, false] rfl rfl (take_ofW HT_.out HW_.out (by kernel_rfl)) (fun _ _ _ h => h) (Or.inl ⟨by rfl, ?_⟩) hHeld ?_ ?_
                                  rotate_left
                                  · rintro w' ⟨s0, s1, s2, s3⟩
                                    go_simp
                                    with_reducible rfl
                                  rotate_left
                                  · simp only [Act.put, List.setIfInBounds_toArray, List.set_cons_zero, List.set_cons_succ, i64_w, i32_w]
                                    rfl
                                  refine take_ (i := 7) (N := some 25) (v := ?_) (a' := ?_) #[true, true, true, true, true, true, true, true, false, false, false, false] rfl rfl (take_ofW HT_.out HW_.out (by kernel_rfl)) (fun _ _ _ h => h) (Or.inl ⟨by rfl, ?_⟩) hHeld ?_ ?_
                                  rotate_left
                                  · rintro w' ⟨s0, s1, s2, s3⟩
                                    go_simp
                                    with_reducible rfl
                                  rotate_left
                                  · simp only [Act.put, List.setIfInBounds_toArray, List.set_cons_zero, List.set_cons_succ, i64_w, i32_w]
                                    rfl
                                  refine pure_ (i := 8) (N := some 26) (v := ?_) (a' := ?_) #[true, true, true, true, true, true, true, true, true, false, false, false] rfl rfl (any_of HT_.out (by kernel_rfl)) (fun _ _ _ h => h) (Or.inl ⟨by rfl, ?_⟩) ?_ ?_
                                  rotate_left
                                  · intro w'
                                    go_simp
                                    with_reducible rfl
                                  rotate_left
                                  · simp only [Act.put, List.setIfInBounds_toArray, List.set_cons_zero, List.set_cons_succ, i64_w, i32_w]
                                    rfl
                                  refine take_ (i := 9) (N := some 27) (v := ?_) (a' := ?_) #[true, true, true, true, true, true, true, true, true, true, false, false] rfl rfl (take_ofW HT_.out HW_.out (by kernel_rfl)) (fun _ _ _ h => h) (Or.inl ⟨by rfl, ?_⟩) hHeld ?_ ?_
                                  rotate_left
                                  · rintro w' ⟨s0, s1, s2, s3⟩
                                    go_simp
                                    with_reducible rfl
                                  rotate_left
                                  · simp only [Act.put, List.setIfInBounds_toArray, List.set_cons_zero, List.set_cons_succ, i64_w, i32_w]
                                    rfl
                                  refine pure_ (i := 10) (N := some 28) (v := ?_) (a' := ?_) #[true, true, true, true, true, true, true, true, true, true, true, false] rfl rfl (any_of HT_.out (by kernel_rfl)) (fun _ _ _ h => h) (Or.inl ⟨by rfl, ?_⟩) ?_ ?_
                                  rotate_left
                                  · intro w'
                                    go_simp
                                    with_reducible rfl
                                  rotate_left
                                  · simp only [Act.put, List.setIfInBounds_toArray, List.set_cons_zero, List.set_cons_succ, i64_w, i32_w]
                                    rfl
                                  refine pure_ (i := 11) (N := some 9) (v := ?_) (a' := ?_) #[true, true, true, true, true, true, true, true, true, true, true, true] rfl rfl (any_of HT_.out (by kernel_rfl)) (fun _ _ _ h => h) (Or.inl ⟨by rfl, ?_⟩) ?_ ?_
                                  rotate_left
                                  · intro w'
                                    go_simp
                                    with_reducible rfl
                                  rotate_left
                                  · simp only [Act.put, List.setIfInBounds_toArray, List.set_cons_zero, List.set_cons_succ, i64_w, i32_w]
                                    rfl
                                  refine done_ (done_of HT_.out (by kernel_rfl)) ?_
                                  obtain ⟨Ao28, co28, eo28⟩ := Kd.S_slice HO_5.out
                                  subst eo28
                                  try go_wp2_with (first | ((with_reducible refine gate_builtin (b := .append) (xs := #[.tmp 33, .tmp 34]) rfl ?_); at_builtin; refine Kd.S_append (Kd.slice 53 k53) (w0 := w) w.heap.size rfl (.tmp 33) (.tmp 34) 49 22 (.slice none 0 0) 24 rfl Try.underlying49 info22 rfl (by decide) (by omega) (.slice Ao28 x5_1.length co28) x5_1 [] [.slice none 0 0] (fun k_ => k_ ≠ gb195) (fun _ => False) rfl rfl ?aP (fun _ hk => hk.elim) ?aF ?aO ?aB ?aS ?aL ?_; (case aP => exact ⟨_, rfl, Kd.R_nil k53 53 _ _ _⟩); (case aB => exact (by repeat (first | (with_reducible first | exact HB.out | apply below_alloc | apply pw_below_drewN | apply below_drew1 | refine below_set ?_ GE195.out) | exact HB.out))); (case aF => exact (fun k_ hk => Kd.freshB (g := gb195) (o := .cells #[.int .i64 ((rd_T53 l1 x14_1).f0), .int .i64 ((rd_T53 l1 x14_1).f1)] 53 (0, 0)) (by (with_reducible repeat (first | refine blk_drewN ?_ _ | refine blk_drew ?_ | refine blk_alloc ?_ _)); exact BK195.out) k_ hk)); (case aO => exact (by (with_reducible repeat (first | apply Kd.S_alloc | apply Kd.S_drewN | apply Kd.S_drew)); exact Kd.S_mono HO_5.out (fun k_ hk => ⟨hk, fun e_ => e_⟩))); (case aS => exact (below_size (by repeat (first | (with_reducible first | exact HB.out | apply below_alloc | apply pw_below_drewN | apply below_drew1 | refine below_set ?_ GE195.out) | exact HB.out)))); (case aL => have := LMc16.out; omega); intro v199 w29 ho hb hg hat; rw [← Ny198.out] at ho; have n0_ := Aside0.mk (Kd.R_over' (by (with_reducible repeat (first | apply Kd.R_alloc | apply Kd.R_drewN | apply Kd.R_drew)); exact HO_6.out) (Kd.S_typed (by (with_reducible repeat (first | apply Kd.S_alloc | apply Kd.S_drewN | apply Kd.S_drew)); exact HO_5.out)) (by decide) hg); have n1_ := Aside0.mk (blk_grown (g := gb195) (o := .cells #[.int .i64 ((rd_T53 l1 x14_1).f0), .int .i64 ((rd_T53 l1 x14_1).f1)] 53 (0, 0)) (by (with_reducible repeat (first | refine blk_drewN ?_ _ | refine blk_drew ?_ | refine blk_alloc ?_ _)); exact BK195.out) hg (Kd.S_ne HO_5.out BK195.out (by decide))); have n2_ := Aside0.mk (hb); have n3_ := Aside0.mk (ho); clear HO_6; clear BK195; clear HB; clear HO_5; have HO_6 := n0_; have BK195 := n1_; have HB := n2_; have HO200 := n3_; clear n0_ n1_ n2_ n3_; clear ho hb hg hat))
                                  have n0_ := Aside0.mk (Kd.R_drew HO_6.out)
                                  have n1_ := Aside0.mk (Kd.S_drew HO200.out)
                                  have n2_ := Aside0.mk (blk_drew BK195.out)
                                  have n3_ := Aside0.mk (below_drew1 HB.out)
                                  clear HO_6
                                  clear HO200
                                  clear BK195
                                  clear HB
                                  have HO_6 := n0_
                                  have HO200 := n1_
                                  have BK195 := n2_
                                  have HB := n3_
                                  clear n0_ n1_ n2_ n3_
                                  obtain ⟨Ao31, co31, eo31⟩ := Kd.S_slice HO200.out
                                  (first | subst eo31 | (injection eo31 with f1_ f2_ f3_; have f4_ := f1_.symm; have f5_ := f3_.symm; clear f1_ f2_ f3_; subst f4_; subst f5_))
                                  have p201 : 0 ≤ ((ji14) : Int) := of_decide_eq_true (by first | (with_reducible assumption) | assumption)
                                  have q201 : (ji14) < (y198.length : Int) := of_decide_eq_true (by first | (with_reducible assumption) | assumption)
                                  obtain ⟨ad201, A201_0, c201_0, e201, hx201_0, hl201_0, hi201_0⟩ := at_L2 (Kd.S_reads' HO200.out).2.2 (ji14) p201 q201
                                  cases e201
                                  obtain ⟨ce201, hce201, hMe201, hcc201⟩ := Kd.S_get HO200.out [] (ji14) p201 (by first | exact q201 | exact of_decide_eq_true (by first | (with_reducible assumption) | assumption) | (have e_ := (Kd.S_reads' HO200.out).1; omega))
                                  obtain ⟨ve201_0, rfl, ge201_0⟩ := hMe201
                                  have hv201_0 := hcc201 0 _ rfl
                                  rw [Nat.add_zero, show ((Kd.slice 53 k53)).sz = 1 from rfl, Nat.mul_one] at hv201_0
                                  replace hv201_0 := Option.some.inj (hv201_0.symm.trans hx201_0)
                                  rw [hv201_0] at ge201_0
                                  have HL201_0 := Aside0.mk (show Kd.R k53 53 _ _ _ _ (rd_L2 y198 (ji14)) from ge201_0)
                                  clear hv201_0 ge201_0
                                  have HX201_0 := Aside0.mk hx201_0
                                  clear hcc201 hce201
                                  have HR201_0 := Aside0.mk hi201_0
                                  have HC201_0 := Aside0.mk hl201_0
                                  clear hi201_0 hl201_0
                                  replace p201 := eq_true p201
                                  replace q201 := eq_true q201
                                  obtain ⟨go32, co32, eo32, gb32, gl32, cl32, HG32⟩ := Kd.S_form HO200.out (by have h_ : ((ji14) : Int) < ((y198.length : Int) : Int) := of_decide_eq_true (by first | (with_reducible assumption) | assumption); have h2_ : 0 ≤ ((ji14) : Int) := (of_decide_eq_true (by first | (with_reducible assumption) | assumption)); omega)
                                  (first | cases eo32 | (injection eo32 with ea_ en_ ec_; (first | subst ea_ | (injection ea_ with ea_; subst ea_)); subst ec_; clear en_))
                                  have GB32 := Aside0.mk gb32
                                  have GG32 := Aside0.mk HG32
                                  clear gb32 gl32 HG32
                                  (first | simp only [add_plain] at hx201_0 | skip)
                                  obtain ⟨oki32, ce32, hcl32, hM32, hcc32, _, _, hH32⟩ := Kd.S_elem HO200.out [] ((ji14) : Int) (of_decide_eq_true (by first | (with_reducible assumption) | assumption)) (by have h_ : ((ji14) : Int) < ((y198.length : Int) : Int) := of_decide_eq_true (by first | (with_reducible assumption) | assumption); first | exact h_ | (have e_ := (Kd.S_reads' HO200.out).1; omega) | simpa using h_)
                                  obtain ⟨ve32_0, rfl, ge32_0⟩ := hM32
                                  have hv32 := hcc32 0 _ rfl
                                  have hX32 := HX201_0.out
                                  (try simp only [add_plain] at hX32)
                                  (try simp only [Nat.add_zero] at hv32)
                                  (try rw [show ((Kd.slice 53 k53)).sz = 1 from rfl, Nat.mul_one] at hv32)
                                  replace hv32 := Option.some.inj (hv32.symm.trans hX32)
                                  subst hv32
                                  clear hX32 hcc32 hcl32
                                  have UU32 := Aside0.mk (show Kd.R k53 53 _ w.heap.size oki32 (.slice A201_0 (rd_L2 y198 (ji14)).length c201_0) (rd_L2 y198 (ji14)) from ge32_0)
                                  have HH32 := Aside0.mk hH32
                                  have HN32 := Aside0.mk (Kd.S_reads' HO200.out).1
                                  clear hH32 ge32_0
                                  refine start_ (n := 11) (S := fun w' => w'.cell? ⟨gb195, 0, none⟩ = some (.int .i64 ((rd_T53 l1 x14_1).f0)) ∧ w'.cell? ⟨gb195, 1, none⟩ = some (.int .i64 ((rd_T53 l1 x14_1).f1)) ∧ w'.cell? ⟨go32, ((ji14)).toNat, none⟩ = some (.slice A201_0 (rd_L2 y198 (ji14)).length c201_0)) (ds := [10]) #[false, false, false, false, false, false, false, false, false, false, false] (by kernel_rfl) rfl rfl ⟨(blk_cell BK195.out 0).trans rfl, (blk_cell BK195.out 1).trans rfl, hx201_0⟩ (fun hHeld => ?_); refine with_tabW juntoref14_Rounds.tab9 juntoref14_Rounds.bits9 (fun HT_ HW_ => ?_)
                                  generalize w29.drew = w30 at HO_6 HO200 BK195 HB GG32 HH32 HL201_0 HR201_0 HX201_0 UU32 hx201_0 hHeld ⊢
                                  refine pure_ (i := 0) (N := some 36) (v := ?_) (a' := ?_) #[true, false, false, false, false, false, false, false, false, false, false] rfl rfl (any_of HT_.out (by kernel_rfl)) (fun _ _ _ h => h) (Or.inl ⟨by rfl, ?_⟩) ?_ ?_
                                  rotate_left
                                  · intro w'
                                    go_simp
                                    with_reducible rfl
                                  rotate_left
                                  · simp only [Act.put, List.setIfInBounds_toArray, List.set_cons_zero, List.set_cons_succ, i64_w, i32_w]
                                    rfl
                                  refine pure_ (i := 1) (N := some 37) (v := ?_) (a' := ?_) #[true, true, false, false, false, false, false, false, false, false, false] rfl rfl (any_of HT_.out (by kernel_rfl)) (fun _ _ _ h => h) (Or.inl ⟨by rfl, ?_⟩) ?_ ?_
                                  rotate_left
                                  · intro w'
                                    go_simp
                                    with_reducible rfl
                                  rotate_left
                                  · simp only [Act.put, List.setIfInBounds_toArray, List.set_cons_zero, List.set_cons_succ, i64_w, i32_w]
                                    rfl
                                  refine pure_ (i := 2) (N := some 38) (v := ?_) (a' := ?_) #[true, true, true, false, false, false, false, false, false, false, false] rfl rfl (any_of HT_.out (by kernel_rfl)) (fun _ _ _ h => h) (Or.inl ⟨by rfl, ?_⟩) ?_ ?_
                                  rotate_left
                                  · intro w'
                                    go_simp
                                    with_reducible rfl
                                  rotate_left
                                  · simp only [Act.put, List.setIfInBounds_toArray, List.set_cons_zero, List.set_cons_succ, i64_w, i32_w]
                                    rfl
                                  refine pure_ (i := 3) (N := some 39) (v := ?_) (a' := ?_) #[true, true, true, true, false, false, false, false, false, false, false] rfl rfl (any_of HT_.out (by kernel_rfl)) (fun _ _ _ h => h) (Or.inl ⟨by rfl, ?_⟩) ?_ ?_
                                  rotate_left
                                  · intro w'
                                    go_simp
                                    with_reducible rfl
                                  rotate_left
                                  · simp only [Act.put, List.setIfInBounds_toArray, List.set_cons_zero, List.set_cons_succ, i64_w, i32_w]
                                    rfl
                                  refine pure_ (i := 4) (N := some 40) (v := ?_) (a' := ?_) #[true, true, true, true, true, false, false, false, false, false, false] rfl rfl (any_of HT_.out (by kernel_rfl)) (fun _ _ _ h => h) (Or.inl ⟨by rfl, ?_⟩) ?_ ?_
                                  rotate_left
                                  · intro w'
                                    go_simp
                                    with_reducible rfl
                                  rotate_left
                                  · simp only [Act.put, List.setIfInBounds_toArray, List.set_cons_zero, List.set_cons_succ, i64_w, i32_w]
                                    rfl
                                  refine take_ (i := 5) (N := some 41) (v := ?_) (a' := ?_) #[true, true, true, true, true, true, false, false, false, false, false] rfl rfl (take_ofW HT_.out HW_.out (by kernel_rfl)) (fun _ _ _ h => h) (Or.inl ⟨by rfl, ?_⟩) hHeld ?_ ?_
                                  rotate_left
                                  · rintro w' ⟨s0, s1, s2⟩
                                    go_simp
                                    with_reducible rfl
                                  rotate_left
                                  · simp only [Act.put, List.setIfInBounds_toArray, List.set_cons_zero, List.set_cons_succ, i64_w, i32_w]
                                    rfl
                                  refine take_ (i := 6) (N := some 42) (v := ?_) (a' := ?_) #[true, true, true, true, true, true, true, false, false, false, false] rfl rfl (take_ofW HT_.out HW_.out (by kernel_rfl)) (fun _ _ _ h => h) (Or.inl ⟨by rfl, ?_⟩) hHeld ?_ ?_
                                  rotate_left
                                  · rintro w' ⟨s0, s1, s2⟩
                                    go_simp
                                    with_reducible rfl
                                  rotate_left
                                  · simp only [Act.put, List.setIfInBounds_toArray, List.set_cons_zero, List.set_cons_succ, i64_w, i32_w]
                                    rfl
                                  refine one_ (i := 7) (N := some 43) #[true, true, true, true, true, true, true, true, false, false, false] rfl rfl (one_of HT_.out (by kernel_rfl)) (by decide) (fun K hK => ?_)
                                  refine value_ (w1 := ?_) (v := ?_) (by rfl) rfl ?_ ?_
                                  rotate_left 2
                                  · go_simp
                                    constructor
                                    · rfl
                                    · rfl
                                  refine hK.out _ _ ⟨(blk_cell (blk_alloc BK195.out _) 0).trans rfl, (blk_cell (blk_alloc BK195.out _) 1).trans rfl, (World.cell?_alloc_lt _ _ _ (World.block_lt_of_cell? _ _ (hHeld.2.2))).trans (hHeld.2.2)⟩ (fun hHeld => ?_)
                                  clear hK K
                                  refine norm_ (a' := ?_) ?_ ?_
                                  rotate_left
                                  · show Act.put _ (some 43) _ = _
                                    simp only [Act.put, List.setIfInBounds_toArray, List.set_cons_zero, List.set_cons_succ, i64_w, i32_w]
                                    rfl
                                  refine one_ (i := 8) (N := some 44) #[true, true, true, true, true, true, true, true, true, false, false] rfl rfl (one_of HT_.out (by kernel_rfl)) (by decide) (fun K hK => ?_)
                                  refine Kd.R_append_step k53 (w0 := w) w.heap.size (by rfl) (.tmp 41) (.tmp 43) 22 53 (.agg #[(.int .i64 0), (.int .i64 0)]) 16 rfl Try.underlying22 info53 rfl (by decide) (by omega) (.slice A201_0 (rd_L2 y198 (ji14)).length c201_0) (rd_L2 y198 (ji14)) (⟨(rd_T53 l1 x14_1).f0, (rd_T53 l1 x14_1).f1⟩ : S53) [.int .i64 ((rd_T53 l1 x14_1).f0), .int .i64 ((rd_T53 l1 x14_1).f1)] (fun k_ => oki32 k_ ∨ ((fun k_ => k_ ≠ gb195)) k_ ∧ w30.heap.size ≤ k_) (fun _ => False) rfl rfl ?aP (fun _ hk => hk.elim) ?aF ?aO ?aB ?aS ?aL ?_
                                  (case aP => exact k53_mkM _ _ _ (⟨(rd_T53 l1 x14_1).f0, (rd_T53 l1 x14_1).f1⟩ : S53))
                                  (case aB => exact (by repeat (first | (with_reducible first | exact HB.out | apply below_alloc | apply pw_below_drewN | apply below_drew1 | refine below_set ?_ GE195.out) | exact HB.out)))
                                  (case aF => exact (fun k_ hk => .inr ⟨Kd.freshB (g := gb195) (o := .cells #[.int .i64 ((rd_T53 l1 x14_1).f0), .int .i64 ((rd_T53 l1 x14_1).f1)] 53 (0, 0)) (by (with_reducible repeat (first | refine blk_drewN ?_ _ | refine blk_drew ?_ | refine blk_alloc ?_ _)); exact BK195.out) k_ hk, hk⟩))
                                  (case aO => exact (by (with_reducible repeat (first | apply Kd.R_alloc | apply Kd.R_drewN | apply Kd.R_drew)); exact Kd.R_mono UU32.out (fun _ hk => .inl hk)))
                                  (case aS => exact (below_size (by repeat (first | (with_reducible first | exact HB.out | apply below_alloc | apply pw_below_drewN | apply below_drew1 | refine below_set ?_ GE195.out) | exact HB.out))))
                                  (case aL => have := LMc19.out; omega)
                                  intro v203 w33 ho hb hg hat
                                  (first | have HS2_ := cell_grown hg (hHeld.2.2) (by first | (rw [add_block]; exact (fun e_ => ((HL201_0.out.1 _ e_.symm).2) rfl)) | (show some (Addr.add _ _).block ≠ _; rw [add_block]; exact (fun e_ => ((HL201_0.out.1 _ e_.symm).2) rfl)) | exact (fun e_ => ((HL201_0.out.1 _ e_.symm).2) rfl)) | have HS2_ := cell_grown hg (cell_unalloc (hHeld.2.2) (by first | (rw [add_block]; exact Kd.S_lt HO200.out _ rfl) | (show (Addr.add _ _).block < _; rw [add_block]; exact Kd.S_lt HO200.out _ rfl) | exact Kd.S_lt HO200.out _ rfl)) (by first | (rw [add_block]; exact (fun e_ => ((HL201_0.out.1 _ e_.symm).2) rfl)) | (show some (Addr.add _ _).block ≠ _; rw [add_block]; exact (fun e_ => ((HL201_0.out.1 _ e_.symm).2) rfl)) | exact (fun e_ => ((HL201_0.out.1 _ e_.symm).2) rfl)))
                                  rw [← Ny202.out] at ho
                                  have n0_ := Aside0.mk (Kd.R_over' (v := (.slice A201_0 (rd_L2 y198 (ji14)).length c201_0)) (by (with_reducible repeat (first | apply Kd.R_alloc | apply Kd.R_drewN | apply Kd.R_drew)); exact HO_6.out) (Kd.R_typed HL201_0.out) (by decide) hg)
                                  have n1_ := Aside0.mk (blk_grown (g := gb195) (o := .cells #[.int .i64 ((rd_T53 l1 x14_1).f0), .int .i64 ((rd_T53 l1 x14_1).f1)] 53 (0, 0)) (by (with_reducible repeat (first | refine blk_drewN ?_ _ | refine blk_drew ?_ | refine blk_alloc ?_ _)); exact BK195.out) hg (Kd.R_away HL201_0.out (fun _ hk => hk.1)))
                                  have n2_ := Aside0.mk (hb)
                                  have n3_ := Aside0.mk (Kd.H_grown (Kd.H_widen (by repeat (first | exact HH32.out | refine Kd.H_alloc ?_ _ | refine Kd.H_drewN ?_ _ | refine Kd.H_drew ?_))) hg (fun k_ e_ => .inl (UU32.out.1 k_ e_)))
                                  have n4_ := Aside0.mk (ho)
                                  clear HO_6
                                  clear BK195
                                  clear HB
                                  clear HH32
                                  clear HO200
                                  clear UU32
                                  clear HL201_0
                                  have HO_6 := n0_
                                  have BK195 := n1_
                                  have HB := n2_
                                  have HH32 := n3_
                                  have HO204 := n4_
                                  clear n0_ n1_ n2_ n3_ n4_
                                  clear ho hb hg hat
                                  have p20 : 0 ≤ ((ji14) : Int) := of_decide_eq_true (by first | (with_reducible assumption) | assumption)
                                  have q20 : ((ji14) : Int) < ((y198.length : Int) : Int) := of_decide_eq_true (by first | (with_reducible assumption) | assumption)
                                  replace p20 := eq_true p20
                                  replace q20 := eq_true q20
                                  obtain ⟨Ao36, co36, eo36⟩ := Kd.R_slice HO204.out
                                  (first | subst eo36 | (injection eo36 with f1_ f2_ f3_; have f4_ := f1_.symm; have f5_ := f3_.symm; clear f1_ f2_ f3_; subst f4_; subst f5_))
                                  obtain ⟨_, _, hraw34, _, _, hcc34, _⟩ := Kd.H_raw HH32.out (of_decide_eq_true (by first | (with_reducible assumption) | assumption)) (by have h_ : ((ji14) : Int) < ((y198.length : Int) : Int) := of_decide_eq_true (by first | (with_reducible assumption) | assumption); first | exact h_ | (have e_ := (HN32.out); omega) | simpa using h_)
                                  obtain ⟨_, hfr34⟩ := Kd.H_at HH32.out (of_decide_eq_true (by first | (with_reducible assumption) | assumption)) (by have h_ : ((ji14) : Int) < ((y198.length : Int) : Int) := of_decide_eq_true (by first | (with_reducible assumption) | assumption); first | exact h_ | (have e_ := (HN32.out); omega) | simpa using h_)
                                  have hx34_0 := hcc34 0 _ rfl
                                  have hf34_0 := hfr34 0
                                  (try simp only [Nat.add_zero] at hx34_0 hf34_0)
                                  (try rw [show ((Kd.slice 53 k53)).sz = 1 from rfl, Nat.mul_one] at hx34_0)
                                  (try rw [show ((Kd.slice 53 k53)).sz = 1 from rfl, Nat.mul_one] at hf34_0)
                                  have HP34 := Kd.S_seg0 HH32.out (of_decide_eq_true (by first | (with_reducible assumption) | assumption)) (by have h_ : ((ji14) : Int) < ((y198.length : Int) : Int) := of_decide_eq_true (by first | (with_reducible assumption) | assumption); first | exact h_ | (have e_ := (HN32.out); omega) | simpa using h_) (seg := [.slice Ao36 y202.length co36]) (j := 0) (show 1 ≤ 1 from by decide) (x' := y202) (Kd.M_row HO204.out) (fun _ hk => hk)
                                  (try simp only [show ((Kd.slice 53 k53)).sz = 1 from rfl, Nat.mul_one, Nat.add_zero] at HP34)
                                  clear hcc34 hfr34
                                  have HNB195_go32 := Aside0.mk (show gb195 ≠ go32 from by have h_ := Kd.R_ne hraw34 BK195.out (by decide); intro e_; exact h_ (by rw [e_]; rfl))
                                  have HS34 := HP34.1
                                  rw [← Ny205.out] at HS34
                                  have HQ34 := Aside0.mk HS34
                                  obtain ⟨_, hgg34⟩ := Kd.R_typed hraw34 go32 rfl
                                  have GG34_ := Aside0.mk hgg34
                                  clear HP34 HS34 hgg34
                                  refine hK.out _ _ ⟨(blk_cell BK195.out 0).trans rfl, (blk_cell BK195.out 1).trans rfl, HS2_⟩ (fun hHeld => ?_)
                                  clear hK K
                                  refine norm_ (a' := ?_) ?_ ?_
                                  rotate_left
                                  · show Act.put _ (some 44) _ = _
                                    simp only [Act.put, List.setIfInBounds_toArray, List.set_cons_zero, List.set_cons_succ, i64_w, i32_w]
                                    rfl
                                  refine pure_ (i := 9) (N := some 45) (v := ?_) (a' := ?_) #[true, true, true, true, true, true, true, true, true, true, false] rfl rfl (any_of HT_.out (by kernel_rfl)) (fun _ _ _ h => h) (Or.inl ⟨by rfl, ?_⟩) ?_ ?_
                                  rotate_left
                                  · intro w'
                                    go_simp
                                    with_reducible rfl
                                  rotate_left
                                  · simp only [Act.put, List.setIfInBounds_toArray, List.set_cons_zero, List.set_cons_succ, i64_w, i32_w]
                                    rfl
                                  refine last_ (i := 10) (N := none) #[true, true, true, true, true, true, true, true, true, true, true] rfl rfl (one_of HT_.out (by kernel_rfl)) (by decide) (fun K hK => ?_)
                                  refine skip_ (w1 := ?_) (by rfl) rfl ?_ ?_
                                  rotate_left
                                  · go_simp
                                    rfl
                                  refine hK.out _ _ ?_
                                  clear hK K
                                  refine done_ (done_of HT_.out (by kernel_rfl)) ?_
                                  have n0_ : Aside0 (Kd.R (Kd.int .i64) 3 (w33.setCell ⟨go32, ((ji14) : Int).toNat, none⟩ (.slice Ao36 y202.length co36)) w.heap.size (fun _ => True) (.slice (some ad196) x6_1.length co27) x6_1) := ⟨by (with_reducible repeat (first | apply Kd.R_alloc | apply Kd.R_drewN | apply Kd.R_drew)); exact Kd.R_mono (Kd.R_far (p := ⟨go32, ((ji14) : Int).toNat, none⟩) (Kd.R_types HO_6.out GG34_.out (by decide)) (fun _ hk => hk.2) (.slice Ao36 y202.length co36)) (fun _ hk => trivial)⟩
                                  have n1_ : Aside0 (Kd.S (Kd.slice 53 k53) 22 (w33.setCell ⟨go32, ((ji14) : Int).toNat, none⟩ (.slice Ao36 y202.length co36)) w.heap.size (fun k_ => k_ ≠ gb195) (.slice (some ⟨go32, 0, none⟩) y198.length co31) y205) := ⟨by (with_reducible repeat (first | apply Kd.S_alloc | apply Kd.S_drewN | apply Kd.S_drew)); exact HQ34.out⟩
                                  have n2_ : Aside0 ((w33.setCell ⟨go32, ((ji14) : Int).toNat, none⟩ (.slice Ao36 y202.length co36)).heap[gb195]? = some (.cells #[.int .i64 ((rd_T53 l1 x14_1).f0), .int .i64 ((rd_T53 l1 x14_1).f1)] 53 (0, 0))) := ⟨by (with_reducible repeat (first | refine blk_drewN ?_ _ | refine blk_drew ?_ | refine blk_alloc ?_ _)); refine blk_far ?_ HNB195_go32.out _; (with_reducible repeat (first | refine blk_drewN ?_ _ | refine blk_drew ?_ | refine blk_alloc ?_ _)); exact BK195.out⟩
                                  have n3_ : Aside0 (Below w.heap.size w (w33.setCell ⟨go32, ((ji14) : Int).toNat, none⟩ (.slice Ao36 y202.length co36))) := ⟨by repeat (first | (with_reducible first | exact HB.out | apply below_alloc | apply pw_below_drewN | apply below_drew1 | refine below_set ?_ GB32.out | refine below_set ?_ GE195.out) | exact HB.out)⟩
                                  (try clear HO_6)
                                  (try clear HO200)
                                  (try clear BK195)
                                  (try clear HB)
                                  generalize (w33.setCell ⟨go32, ((ji14) : Int).toNat, none⟩ (.slice Ao36 y202.length co36)) = w37 at n0_ n1_ n2_ n3_ ⊢
                                  have HO_6 := n0_
                                  have HO200 := n1_
                                  have BK195 := n2_
                                  have HB := n3_
                                  clear n0_ n1_ n2_ n3_
                                  go_wp2
                                  have P0 : 0 ≤ ((rd_T53 l1 x14_1).f0) := of_decide_eq_true c10b0
                                  have Q0 : ((rd_T53 l1 x14_1).f0) < (x6_1.length : Int) := of_decide_eq_true c11b0
                                  have P1 : 0 ≤ ((rd_T53 l1 x14_1).f1) := of_decide_eq_true c12b0
                                  have Q1 : ((rd_T53 l1 x14_1).f1) < (x6_1.length : Int) := of_decide_eq_true c13b0
                                  obtain ⟨go24, co24, e24, hg24, _, cells24, hb24⟩ := Kd.R_form HO_6.out (by omega)
                                  (first | cases e24 | (injection e24 with ea_ en_ ec_; (first | subst ea_ | (injection ea_ with ea_; subst ea_)); subst ec_; clear en_))
                                  have n8 := HO_6.out
                                  have n7 := HO200.out
                                  have nB := BK195.out
                                  have nb := HB.out
                                  clear HO_6 HO200 BK195 HB
                                  generalize hF0 : (rd_T53 l1 x14_1).f0 = F0 at *
                                  generalize hF1 : (rd_T53 l1 x14_1).f1 = F1 at *
                                  have hne : go24 ≠ gb195 := blk_ne_row n8 nB (by decide)
                                  obtain ⟨hu0, hf0, hu1, hf1, hu1'⟩ := put2_facts n8 F0 F1 (wrap64 (ji14 + 1)) P0 Q0 P1 Q1
                                  have hx0 : w37.cell? ⟨gb195, 0, none⟩ = some (.int .i64 F0) := (blk_cell nB 0).trans rfl
                                  have hx1 : w37.cell? ⟨gb195, 1, none⟩ = some (.int .i64 F1) := (blk_cell nB 1).trans rfl
                                  have hx1' : (w37.setCell ⟨go24, F0.toNat, none⟩ (.int .i64 (wrap64 (ji14 + 1)))).drew.cell? ⟨gb195, 1, none⟩ = some (.int .i64 F1) := (World.cell?_setCell_far _ _ _ _ hne).trans hx1
                                  have PP := Aside0.mk (put2_row n8 hg24 F0 F1 (wrap64 (ji14 + 1)) (wrap64 (ji14 + 1)))
                                  have SS := Aside0.mk (put2_S n8 n7 (by decide) F0 F1 (wrap64 (ji14 + 1)) (wrap64 (ji14 + 1)))
                                  have NB := Aside0.mk nB
                                  have Nb := Aside0.mk nb
                                  have hne' : ¬ gb195 = go24 := fun e => hne e.symm
                                  clear n8 n7 nB nb hb24 hg24
                                  replace P0 := eq_true P0
                                  replace P1 := eq_true P1
                                  replace Q0 := eq_true Q0
                                  replace Q1 := eq_true Q1
                                  as_aux_lemma =>
                                    go_region
                                    go_wp2
                                    have n8 := PP.out.row
                                    have nb := PP.out.below Nb.out
                                    have n7 := SS.out
                                    rw [← Ny206.out, ← Ny207.out] at n8
                                    unfold put2 at n8 nb n7
                                    clear PP SS NB Nb hu0 hf0 hu1 hf1 hu1' hx0 hx1 hx1' hne hne'
                                    generalize hq_ : ((w37.setCell ⟨go24, F0.toNat, none⟩ (.int .i64 (wrap64 (ji14 + 1)))).setCell ⟨go24, F1.toNat, none⟩ (.int .i64 (wrap64 (ji14 + 1)))).drew = W3 at n8 n7 nb ⊢
                                    clear hq_
                                    go_roundg k1
                                    case measure => have := HK1.out; omega
                                    case rel => exact ⟨y205, y207, wrap64 (x14_1 + 1), rfl, H', ⟨by have := HK1.out; omega⟩, ⟨Kd.S_mono n7 (fun _ hk => trivial)⟩, ⟨n8⟩, ⟨nb⟩⟩
                                · rw [if_neg c19] at H
                                  exact absurd H (by simp)
                              · rw [if_neg c18] at H
                                exact absurd H (by simp)
                            · rw [if_neg c17] at H
                              exact absurd H (by simp)
                          · rw [if_neg c16] at H
                            exact absurd H (by simp)
                        · rw [if_neg c15] at H
                          have c15b0 : ((ji14) == (x5_1.length : Int)) = false := beq_eq_false_iff_ne.mpr c15
                          have c15b1 : ((ji14) != (x5_1.length : Int)) = true := bne_iff_ne.mpr c15
                          by_cases c43 : 0 ≤ (ji14)
                          · rw [if_pos c43] at H
                            have c43b0 : decide (0 ≤ (ji14)) = true := decide_eq_true c43
                            clear c43
                            by_cases c44 : (ji14) < (x5_1.length : Int)
                            · rw [if_pos c44] at H
                              have c44b0 : decide ((ji14) < (x5_1.length : Int)) = true := decide_eq_true c44
                              clear c44
                              by_cases c45 : (rd_L2 x5_1 (ji14)).length < 8796093022208
                              · rw [if_pos c45] at H
                                have LMc45 := Aside0.mk c45
                                clear c45
                                obtain ⟨y209, hy209⟩ : ∃ y_ : List (S53), y_ = ((rd_L2 x5_1 (ji14)) ++ [(⟨(rd_T53 l1 x14_1).f0, (rd_T53 l1 x14_1).f1⟩ : S53)]) := ⟨_, rfl⟩
                                replace H : (juntoref14_Rounds.l0 k1 (x5_1.set ((ji14) : Int).toNat y209) ((x6_1.set (((rd_T53 l1 x14_1).f0) : Int).toNat (wrap64 ((ji14) + 1))).set (((rd_T53 l1 x14_1).f1) : Int).toNat (wrap64 ((ji14) + 1))) l1 (l1.length : Int) (wrap64 (x14_1 + 1))) = some r := by first | (rw [hy209]; with_reducible exact H) | (have H2_ := (Option.bind_some _ _).symm.trans H; rw [hy209]; with_reducible exact H2_) | (have H2_ := (Option.bind_some _ _).symm.trans H; with_reducible exact H2_) | with_reducible exact H | (rw [hy209]; exact H) | exact H
                                have Ny209 := Aside0.mk hy209
                                clear hy209
                                obtain ⟨y212, hy212⟩ : ∃ y_ : List (List (S53)), y_ = (x5_1.set ((ji14) : Int).toNat y209) := ⟨_, rfl⟩
                                replace H : (juntoref14_Rounds.l0 k1 y212 ((x6_1.set (((rd_T53 l1 x14_1).f0) : Int).toNat (wrap64 ((ji14) + 1))).set (((rd_T53 l1 x14_1).f1) : Int).toNat (wrap64 ((ji14) + 1))) l1 (l1.length : Int) (wrap64 (x14_1 + 1))) = some r := by first | (rw [hy212]; with_reducible exact H) | (have H2_ := (Option.bind_some _ _).symm.trans H; rw [hy212]; with_reducible exact H2_) | (have H2_ := (Option.bind_some _ _).symm.trans H; with_reducible exact H2_) | with_reducible exact H | (rw [hy212]; exact H) | exact H
                                have Ny212 := Aside0.mk hy212
                                clear hy212
                                obtain ⟨y213, hy213⟩ : ∃ y_ : List Int, y_ = (x6_1.set (((rd_T53 l1 x14_1).f0) : Int).toNat (wrap64 ((ji14) + 1))) := ⟨_, rfl⟩
                                replace H : (juntoref14_Rounds.l0 k1 y212 (y213.set (((rd_T53 l1 x14_1).f1) : Int).toNat (wrap64 ((ji14) + 1))) l1 (l1.length : Int) (wrap64 (x14_1 + 1))) = some r := by first | (rw [hy213]; with_reducible exact H) | (have H2_ := (Option.bind_some _ _).symm.trans H; rw [hy213]; with_reducible exact H2_) | (have H2_ := (Option.bind_some _ _).symm.trans H; with_reducible exact H2_) | with_reducible exact H | (rw [hy213]; exact H) | exact H
                                have Ny213 := Aside0.mk hy213
                                clear hy213
                                obtain ⟨y214, hy214⟩ : ∃ y_ : List Int, y_ = (y213.set (((rd_T53 l1 x14_1).f1) : Int).toNat (wrap64 ((ji14) + 1))) := ⟨_, rfl⟩
                                replace H : (juntoref14_Rounds.l0 k1 y212 y214 l1 (l1.length : Int) (wrap64 (x14_1 + 1))) = some r := by first | (rw [hy214]; with_reducible exact H) | (have H2_ := (Option.bind_some _ _).symm.trans H; rw [hy214]; with_reducible exact H2_) | (have H2_ := (Option.bind_some _ _).symm.trans H; with_reducible exact H2_) | with_reducible exact H | (rw [hy214]; exact H) | exact H
                                have Ny214 := Aside0.mk hy214
                                clear hy214
                                have H' := Aside0.mk H
                                clear H
                                have p194 : 0 ≤ (x14_1 : Int) := of_decide_eq_true (by first | (with_reducible assumption) | assumption)
                                have q194 : x14_1 < (l1.length : Int) := of_decide_eq_true (by first | (with_reducible assumption) | assumption)
                                obtain ⟨ad194, e194, hx194_0, hx194_1⟩ := at_T53 HR1.out x14_1 p194 q194
                                cases e194
                                replace hx194_0 := (HB.out.cell (World.block_lt_of_cell? w _ hx194_0)).trans hx194_0
                                replace hx194_1 := (HB.out.cell (World.block_lt_of_cell? w _ hx194_1)).trans hx194_1
                                replace p194 := eq_true p194
                                replace q194 := eq_true q194
                                try go_wp2_with (first | ((with_reducible refine gate_dst (N := 8) rfl ?_); refine box_event ?hg (N := 8) ?hd (cs := #[.int .i64 0, .int .i64 0]) (t := 53) ?hr ?_; (case hd => rfl); (case hg => rfl); (case hr => first | (go_simp; done) | (go_simp; rfl)); intro gb195 hg w49 hbox hb; have n0_ := Aside0.mk (Kd.S_below (Kd.S_elderB (by (with_reducible repeat (first | apply Kd.S_alloc | apply Kd.S_drewN | apply Kd.S_drew)); exact HO_5.out) gb195 (Nat.le_of_eq hg.symm)) hb); have n1_ := Aside0.mk (Kd.R_below (by (with_reducible repeat (first | apply Kd.R_alloc | apply Kd.R_drewN | apply Kd.R_drew)); exact HO_6.out) hb); have n2_ := Aside0.mk (below_step (by repeat (first | (with_reducible first | exact HB.out | apply below_alloc | apply pw_below_drewN | apply below_drew1) | exact HB.out)) hb); have n3_ := Aside0.mk (hbox); have n4_ := Aside0.mk ((by rw [hg]; exact (below_size (by repeat (first | (with_reducible first | exact HB.out | apply below_alloc | apply pw_below_drewN | apply below_drew1) | exact HB.out))) : w.heap.size ≤ gb195)); have n5_ := Aside0.mk ((by rw [hg]; exact (below_size (by repeat (first | (with_reducible first | exact HB.out | apply below_alloc | apply pw_below_drewN | apply below_drew1) | exact HB.out))) : w.heap.size ≤ gb195)); clear HO_5; clear HO_6; clear HB; have HO_5 := n0_; have HO_6 := n1_; have HB := n2_; have BK195 := n3_; have GW195 := n4_; have GE195 := n5_; clear n0_ n1_ n2_ n3_ n4_ n5_; clear hb hbox hg; have hcz50_0 : w49.cell? ⟨gb195, 0, none⟩ = some (.int .i64 0) := (blk_cell BK195.out 0).trans rfl; have hcz50_1 : w49.cell? ⟨gb195, 1, none⟩ = some (.int .i64 0) := (blk_cell BK195.out 1).trans rfl; have hfz50_0 := blk_frozen BK195.out 0; have hfz50_1 := blk_frozen BK195.out 1))
                                have n0_ : Aside0 (Kd.S (Kd.slice 53 k53) 22 ((w49.setCell ⟨gb195, 0, none⟩ (.int .i64 ((rd_T53 l1 x14_1).f0))).setCell ⟨gb195, 1, none⟩ (.int .i64 ((rd_T53 l1 x14_1).f1))) w.heap.size (fun k_ => k_ ≠ gb195) u5 x5_1) := ⟨by (with_reducible repeat (first | apply Kd.S_alloc | apply Kd.S_drewN | apply Kd.S_drew)); exact Kd.S_mono (Kd.S_far (p := ⟨gb195, 1, none⟩) (Kd.S_far (p := ⟨gb195, 0, none⟩) (Kd.S_mono HO_5.out (fun k_ hk => (⟨hk, hk.2⟩ : _ ∧ k_ ≠ gb195))) (fun _ hk => hk.2) (.int .i64 ((rd_T53 l1 x14_1).f0))) (fun _ hk => hk.2) (.int .i64 ((rd_T53 l1 x14_1).f1))) (fun _ hk => hk.1.2)⟩
                                have n1_ : Aside0 (Kd.R (Kd.int .i64) 3 ((w49.setCell ⟨gb195, 0, none⟩ (.int .i64 ((rd_T53 l1 x14_1).f0))).setCell ⟨gb195, 1, none⟩ (.int .i64 ((rd_T53 l1 x14_1).f1))) w.heap.size (fun _ => True) v192 x6_1) := ⟨by (with_reducible repeat (first | apply Kd.R_alloc | apply Kd.R_drewN | apply Kd.R_drew)); exact Kd.R_mono (Kd.R_far (p := ⟨gb195, 1, none⟩) (Kd.R_far (p := ⟨gb195, 0, none⟩) (Kd.R_types HO_6.out BK195.out (by decide)) (fun _ hk => hk.2) (.int .i64 ((rd_T53 l1 x14_1).f0))) (fun _ hk => hk.2) (.int .i64 ((rd_T53 l1 x14_1).f1))) (fun _ hk => trivial)⟩
                                have n2_ : Aside0 (((w49.setCell ⟨gb195, 0, none⟩ (.int .i64 ((rd_T53 l1 x14_1).f0))).setCell ⟨gb195, 1, none⟩ (.int .i64 ((rd_T53 l1 x14_1).f1))).heap[gb195]? = some (.cells #[.int .i64 ((rd_T53 l1 x14_1).f0), .int .i64 ((rd_T53 l1 x14_1).f1)] 53 (0, 0))) := ⟨by (with_reducible repeat (first | refine blk_drewN ?_ _ | refine blk_drew ?_ | refine blk_alloc ?_ _)); refine blk_put (cs := #[.int .i64 ((rd_T53 l1 x14_1).f0), .int .i64 0]) ?_ 1 _ rfl; (with_reducible repeat (first | refine blk_drewN ?_ _ | refine blk_drew ?_ | refine blk_alloc ?_ _)); refine blk_put (cs := #[.int .i64 0, .int .i64 0]) ?_ 0 _ rfl; (with_reducible repeat (first | refine blk_drewN ?_ _ | refine blk_drew ?_ | refine blk_alloc ?_ _)); exact BK195.out⟩
                                have n3_ : Aside0 (Below w.heap.size w ((w49.setCell ⟨gb195, 0, none⟩ (.int .i64 ((rd_T53 l1 x14_1).f0))).setCell ⟨gb195, 1, none⟩ (.int .i64 ((rd_T53 l1 x14_1).f1)))) := ⟨by repeat (first | (with_reducible first | exact HB.out | apply below_alloc | apply pw_below_drewN | apply below_drew1 | refine below_set ?_ GE195.out) | exact HB.out)⟩
                                (try clear HO_5)
                                (try clear HO_6)
                                (try clear BK195)
                                (try clear HB)
                                generalize ((w49.setCell ⟨gb195, 0, none⟩ (.int .i64 ((rd_T53 l1 x14_1).f0))).setCell ⟨gb195, 1, none⟩ (.int .i64 ((rd_T53 l1 x14_1).f1))) = w51 at n0_ n1_ n2_ n3_ ⊢
                                have HO_5 := n0_
                                have HO_6 := n1_
                                have BK195 := n2_
                                have HB := n3_
                                clear n0_ n1_ n2_ n3_
                                have n0_ := Aside0.mk (Kd.S_drew HO_5.out)
                                have n1_ := Aside0.mk (Kd.R_drew HO_6.out)
                                have n2_ := Aside0.mk (blk_drew BK195.out)
                                have n3_ := Aside0.mk (below_drew1 HB.out)
                                clear HO_5
                                clear HO_6
                                clear BK195
                                clear HB
                                have HO_5 := n0_
                                have HO_6 := n1_
                                have BK195 := n2_
                                have HB := n3_
                                clear n0_ n1_ n2_ n3_
                                obtain ⟨Ao53, co53, eo53⟩ := Kd.R_slice HO_6.out
                                (first | subst eo53 | (injection eo53 with f1_ f2_ f3_; have f4_ := f1_.symm; have f5_ := f3_.symm; clear f1_ f2_ f3_; subst f4_; subst f5_))
                                have p196 : 0 ≤ (((rd_T53 l1 x14_1).f0) : Int) := of_decide_eq_true (by first | (with_reducible assumption) | assumption)
                                have q196 : ((rd_T53 l1 x14_1).f0) < (x6_1.length : Int) := of_decide_eq_true (by first | (with_reducible assumption) | assumption)
                                obtain ⟨ad196, e196, hx196_0⟩ := Kd.at_int (Kd.R_reads' HO_6.out).2.2 ((rd_T53 l1 x14_1).f0) p196 q196
                                cases e196
                                replace p196 := eq_true p196
                                replace q196 := eq_true q196
                                have p197 : 0 ≤ (((rd_T53 l1 x14_1).f1) : Int) := of_decide_eq_true (by first | (with_reducible assumption) | assumption)
                                have q197 : ((rd_T53 l1 x14_1).f1) < (x6_1.length : Int) := of_decide_eq_true (by first | (with_reducible assumption) | assumption)
                                obtain ⟨ad197, e197, hx197_0⟩ := Kd.at_int (Kd.R_reads' HO_6.out).2.2 ((rd_T53 l1 x14_1).f1) p197 q197
                                obtain rfl : ad196 = ad197 := (by injection e197)
                                replace p197 := eq_true p197
                                replace q197 := eq_true q197
                                refine start_ (n := 12) (S := fun w' => w'.cell? ⟨gb195, 0, none⟩ = some (.int .i64 ((rd_T53 l1 x14_1).f0)) ∧ w'.cell? ⟨gb195, 1, none⟩ = some (.int .i64 ((rd_T53 l1 x14_1).f1)) ∧ w'.cell? (ad196.add (((rd_T53 l1 x14_1).f0)).toNat) = some (.int .i64 (rd x6_1 ((rd_T53 l1 x14_1).f0))) ∧ w'.cell? (ad196.add (((rd_T53 l1 x14_1).f1)).toNat) = some (.int .i64 (rd x6_1 ((rd_T53 l1 x14_1).f1)))) (ds := []) #[false, false, false, false, false, false, false, false, false, false, false, false] (by kernel_rfl) rfl rfl ⟨(blk_cell BK195.out 0).trans rfl, (blk_cell BK195.out 1).trans rfl, hx196_0, hx197_0⟩ (fun hHeld => ?_); refine with_tabW juntoref14_Rounds.tab6 juntoref14_Rounds.bits6 (fun HT_ HW_ => ?_)
                                generalize w51.drew = w52 at HO_5 HO_6 BK195 HB hx196_0 hx197_0 hHeld ⊢
                                refine pure_ (i := 0) (N := some 18) (v := ?_) (a' := ?_) #[true, false, false, false, false, false, false, false, false, false, false, false] rfl rfl (any_of HT_.out (by kernel_rfl)) (fun _ _ _ h => h) (Or.inl ⟨by rfl, ?_⟩) ?_ ?_
                                rotate_left
                                · intro w'
                                  go_simp
                                  with_reducible rfl
                                rotate_left
                                · simp only [Act.put, List.setIfInBounds_toArray, List.set_cons_zero, List.set_cons_succ, i64_w, i32_w]
                                  rfl
                                refine pure_ (i := 1) (N := some 19) (v := ?_) (a' := ?_) #[true, true, false, false, false, false, false, false, false, false, false, false] rfl rfl (any_of HT_.out (by kernel_rfl)) (fun _ _ _ h => h) (Or.inl ⟨by rfl, ?_⟩) ?_ ?_
                                rotate_left
                                · intro w'
                                  go_simp
                                  with_reducible rfl
                                rotate_left
                                · simp only [Act.put, List.setIfInBounds_toArray, List.set_cons_zero, List.set_cons_succ, i64_w, i32_w]
                                  rfl
                                refine pure_ (i := 5) (N := some 23) (v := ?_) (a' := ?_) #[true, true, false, false, false, true, false, false, false, false, false, false] rfl rfl (any_of HT_.out (by kernel_rfl)) (fun _ _ _ h => h) (Or.inl ⟨by rfl, ?_⟩) ?_ ?_
                                rotate_left
                                · intro w'
                                  go_simp
                                  with_reducible rfl
                                rotate_left
                                · simp only [Act.put, List.setIfInBounds_toArray, List.set_cons_zero, List.set_cons_succ, i64_w, i32_w]
                                  rfl
                                refine pure_ (i := 6) (N := some 24) (v := ?_) (a' := ?_) #[true, true, false, false, false, true, true, false, false, false, false, false] rfl rfl (any_of HT_.out (by kernel_rfl)) (fun _ _ _ h => h) (Or.inl ⟨by rfl, ?_⟩) ?_ ?_
                                rotate_left
                                · intro w'
                                  go_simp
                                  with_reducible rfl
                                rotate_left
                                · simp only [Act.put, List.setIfInBounds_toArray, List.set_cons_zero, List.set_cons_succ, i64_w, i32_w]
                                  rfl
                                refine take_ (i := 2) (N := some 20) (v := ?_) (a' := ?_) #[true, true, true, false, false, true, true, false, false, false, false, false] rfl rfl (take_ofW HT_.out HW_.out (by kernel_rfl)) (fun _ _ _ h => h) (Or.inl ⟨by rfl, ?_⟩) hHeld ?_ ?_
                                rotate_left
                                · rintro w' ⟨s0, s1, s2, s3⟩
                                  go_simp
                                  with_reducible rfl
                                rotate_left
                                · simp only [Act.put, List.setIfInBounds_toArray, List.set_cons_zero, List.set_cons_succ, i64_w, i32_w]
                                  rfl
                                refine pure_ (i := 3) (N := some 21) (v := ?_) (a' := ?_) #[true, true, true, true, false, true, true, false, false, false, false, false] rfl rfl (any_of HT_.out (by kernel_rfl)) (fun _ _ _ h => h) (Or.inl ⟨by rfl, ?_⟩) ?_ ?_
                                rotate_left
                                · intro w'
                                  go_simp
                                  with_reducible rfl
                                rotate_left
                                · simp only [Act.put, List.setIfInBounds_toArray, List.set_cons_zero, List.set_cons_succ, i64_w, i32_w]
                                  rfl
                                refine take_ (i := 4) (N := some 22) (v := ?_) (a' := ?_) #[true, true, true, true, true, true, true, false, false, false, false, false] rfl rfl (take_ofW HT_.out HW_.out (by kernel_rfl)) (fun _ _ _ h => h) (Or.inl ⟨by rfl, ?_⟩) hHeld ?_ ?_
                                rotate_left
                                · rintro w' ⟨s0, s1, s2, s3⟩
                                  go_simp
                                  with_reducible rfl
                                rotate_left
                                · simp only [Act.put, List.setIfInBounds_toArray, List.set_cons_zero, List.set_cons_succ, i64_w, i32_w]
                                  rfl
                                refine take_ (i := 7) (N := some 25) (v := ?_) (a' := ?_) #[true, true, true, true, true, true, true, true, false, false, false, false] rfl rfl (take_ofW HT_.out HW_.out (by kernel_rfl)) (fun _ _ _ h => h) (Or.inl ⟨by rfl, ?_⟩) hHeld ?_ ?_
                                rotate_left
                                · rintro w' ⟨s0, s1, s2, s3⟩
                                  go_simp
                                  with_reducible rfl
                                rotate_left
                                · simp only [Act.put, List.setIfInBounds_toArray, List.set_cons_zero, List.set_cons_succ, i64_w, i32_w]
                                  rfl
                                refine pure_ (i := 8) (N := some 26) (v := ?_) (a' := ?_) #[true, true, true, true, true, true, true, true, true, false, false, false] rfl rfl (any_of HT_.out (by kernel_rfl)) (fun _ _ _ h => h) (Or.inl ⟨by rfl, ?_⟩) ?_ ?_
                                rotate_left
                                · intro w'
                                  go_simp
                                  with_reducible rfl
                                rotate_left
                                · simp only [Act.put, List.setIfInBounds_toArray, List.set_cons_zero, List.set_cons_succ, i64_w, i32_w]
                                  rfl
                                refine take_ (i := 9) (N := some 27) (v := ?_) (a' := ?_) #[true, true, true, true, true, true, true, true, true, true, false, false] rfl rfl (take_ofW HT_.out HW_.out (by kernel_rfl)) (fun _ _ _ h => h) (Or.inl ⟨by rfl, ?_⟩) hHeld ?_ ?_
                                rotate_left
                                · rintro w' ⟨s0, s1, s2, s3⟩
                                  go_simp
                                  with_reducible rfl
                                rotate_left
                                · simp only [Act.put, List.setIfInBounds_toArray, List.set_cons_zero, List.set_cons_succ, i64_w, i32_w]
                                  rfl
                                refine pure_ (i := 10) (N := some 28) (v := ?_) (a' := ?_) #[true, true, true, true, true, true, true, true, true, true, true, false] rfl rfl (any_of HT_.out (by kernel_rfl)) (fun _ _ _ h => h) (Or.inl ⟨by rfl, ?_⟩) ?_ ?_
                                rotate_left
                                · intro w'
                                  go_simp
                                  with_reducible rfl
                                rotate_left
                                · simp only [Act.put, List.setIfInBounds_toArray, List.set_cons_zero, List.set_cons_succ, i64_w, i32_w]
                                  rfl
                                refine pure_ (i := 11) (N := some 9) (v := ?_) (a' := ?_) #[true, true, true, true, true, true, true, true, true, true, true, true] rfl rfl (any_of HT_.out (by kernel_rfl)) (fun _ _ _ h => h) (Or.inl ⟨by rfl, ?_⟩) ?_ ?_
                                rotate_left
                                · intro w'
                                  go_simp
                                  with_reducible rfl
                                rotate_left
                                · simp only [Act.put, List.setIfInBounds_toArray, List.set_cons_zero, List.set_cons_succ, i64_w, i32_w]
                                  rfl
                                refine done_ (done_of HT_.out (by kernel_rfl)) ?_
                                obtain ⟨Ao54, co54, eo54⟩ := Kd.S_slice HO_5.out
                                subst eo54
                                try go_wp2
                                have n0_ := Aside0.mk (Kd.S_drew HO_5.out)
                                have n1_ := Aside0.mk (Kd.R_drew HO_6.out)
                                have n2_ := Aside0.mk (blk_drew BK195.out)
                                have n3_ := Aside0.mk (below_drew1 HB.out)
                                clear HO_5
                                clear HO_6
                                clear BK195
                                clear HB
                                have HO_5 := n0_
                                have HO_6 := n1_
                                have BK195 := n2_
                                have HB := n3_
                                clear n0_ n1_ n2_ n3_
                                have p208 : 0 ≤ ((ji14) : Int) := of_decide_eq_true (by first | (with_reducible assumption) | assumption)
                                have q208 : (ji14) < (x5_1.length : Int) := of_decide_eq_true (by first | (with_reducible assumption) | assumption)
                                obtain ⟨ad208, A208_0, c208_0, e208, hx208_0, hl208_0, hi208_0⟩ := at_L2 (Kd.S_reads' HO_5.out).2.2 (ji14) p208 q208
                                cases e208
                                obtain ⟨ce208, hce208, hMe208, hcc208⟩ := Kd.S_get HO_5.out [] (ji14) p208 (by first | exact q208 | exact of_decide_eq_true (by first | (with_reducible assumption) | assumption) | (have e_ := (Kd.S_reads' HO_5.out).1; omega))
                                obtain ⟨ve208_0, rfl, ge208_0⟩ := hMe208
                                have hv208_0 := hcc208 0 _ rfl
                                rw [Nat.add_zero, show ((Kd.slice 53 k53)).sz = 1 from rfl, Nat.mul_one] at hv208_0
                                replace hv208_0 := Option.some.inj (hv208_0.symm.trans hx208_0)
                                rw [hv208_0] at ge208_0
                                have HL208_0 := Aside0.mk (show Kd.R k53 53 _ _ _ _ (rd_L2 x5_1 (ji14)) from ge208_0)
                                clear hv208_0 ge208_0
                                have HX208_0 := Aside0.mk hx208_0
                                clear hcc208 hce208
                                have HR208_0 := Aside0.mk hi208_0
                                have HC208_0 := Aside0.mk hl208_0
                                clear hi208_0 hl208_0
                                replace p208 := eq_true p208
                                replace q208 := eq_true q208
                                obtain ⟨go56, co56, eo56, gb56, gl56, cl56, HG56⟩ := Kd.S_form HO_5.out (by have h_ : ((ji14) : Int) < ((x5_1.length : Int) : Int) := of_decide_eq_true (by first | (with_reducible assumption) | assumption); have h2_ : 0 ≤ ((ji14) : Int) := (of_decide_eq_true (by first | (with_reducible assumption) | assumption)); omega)
                                (first | cases eo56 | (injection eo56 with ea_ en_ ec_; (first | subst ea_ | (injection ea_ with ea_; subst ea_)); subst ec_; clear en_))
                                have GB56 := Aside0.mk gb56
                                have GG56 := Aside0.mk HG56
                                clear gb56 gl56 HG56
                                (first | simp only [add_plain] at hx208_0 | skip)
                                obtain ⟨oki56, ce56, hcl56, hM56, hcc56, _, _, hH56⟩ := Kd.S_elem HO_5.out [] ((ji14) : Int) (of_decide_eq_true (by first | (with_reducible assumption) | assumption)) (by have h_ : ((ji14) : Int) < ((x5_1.length : Int) : Int) := of_decide_eq_true (by first | (with_reducible assumption) | assumption); first | exact h_ | (have e_ := (Kd.S_reads' HO_5.out).1; omega) | simpa using h_)
                                obtain ⟨ve56_0, rfl, ge56_0⟩ := hM56
                                have hv56 := hcc56 0 _ rfl
                                have hX56 := HX208_0.out
                                (try simp only [add_plain] at hX56)
                                (try simp only [Nat.add_zero] at hv56)
                                (try rw [show ((Kd.slice 53 k53)).sz = 1 from rfl, Nat.mul_one] at hv56)
                                replace hv56 := Option.some.inj (hv56.symm.trans hX56)
                                subst hv56
                                clear hX56 hcc56 hcl56
                                have UU56 := Aside0.mk (show Kd.R k53 53 _ w.heap.size oki56 (.slice A208_0 (rd_L2 x5_1 (ji14)).length c208_0) (rd_L2 x5_1 (ji14)) from ge56_0)
                                have HH56 := Aside0.mk hH56
                                have HN56 := Aside0.mk (Kd.S_reads' HO_5.out).1
                                clear hH56 ge56_0
                                refine start_ (n := 11) (S := fun w' => w'.cell? ⟨gb195, 0, none⟩ = some (.int .i64 ((rd_T53 l1 x14_1).f0)) ∧ w'.cell? ⟨gb195, 1, none⟩ = some (.int .i64 ((rd_T53 l1 x14_1).f1)) ∧ w'.cell? ⟨go56, ((ji14)).toNat, none⟩ = some (.slice A208_0 (rd_L2 x5_1 (ji14)).length c208_0)) (ds := [10]) #[false, false, false, false, false, false, false, false, false, false, false] (by kernel_rfl) rfl rfl ⟨(blk_cell BK195.out 0).trans rfl, (blk_cell BK195.out 1).trans rfl, hx208_0⟩ (fun hHeld => ?_); refine with_tabW juntoref14_Rounds.tab9 juntoref14_Rounds.bits9 (fun HT_ HW_ => ?_)
                                generalize w52.drew = w55 at HO_5 HO_6 BK195 HB GG56 HH56 HL208_0 HR208_0 HX208_0 UU56 hx208_0 hHeld ⊢
                                refine pure_ (i := 0) (N := some 36) (v := ?_) (a' := ?_) #[true, false, false, false, false, false, false, false, false, false, false] rfl rfl (any_of HT_.out (by kernel_rfl)) (fun _ _ _ h => h) (Or.inl ⟨by rfl, ?_⟩) ?_ ?_
                                rotate_left
                                · intro w'
                                  go_simp
                                  with_reducible rfl
                                rotate_left
                                · simp only [Act.put, List.setIfInBounds_toArray, List.set_cons_zero, List.set_cons_succ, i64_w, i32_w]
                                  rfl
                                refine pure_ (i := 1) (N := some 37) (v := ?_) (a' := ?_) #[true, true, false, false, false, false, false, false, false, false, false] rfl rfl (any_of HT_.out (by kernel_rfl)) (fun _ _ _ h => h) (Or.inl ⟨by rfl, ?_⟩) ?_ ?_
                                rotate_left
                                · intro w'
                                  go_simp
                                  with_reducible rfl
                                rotate_left
                                · simp only [Act.put, List.setIfInBounds_toArray, List.set_cons_zero, List.set_cons_succ, i64_w, i32_w]
                                  rfl
                                refine pure_ (i := 2) (N := some 38) (v := ?_) (a' := ?_) #[true, true, true, false, false, false, false, false, false, false, false] rfl rfl (any_of HT_.out (by kernel_rfl)) (fun _ _ _ h => h) (Or.inl ⟨by rfl, ?_⟩) ?_ ?_
                                rotate_left
                                · intro w'
                                  go_simp
                                  with_reducible rfl
                                rotate_left
                                · simp only [Act.put, List.setIfInBounds_toArray, List.set_cons_zero, List.set_cons_succ, i64_w, i32_w]
                                  rfl
                                refine pure_ (i := 3) (N := some 39) (v := ?_) (a' := ?_) #[true, true, true, true, false, false, false, false, false, false, false] rfl rfl (any_of HT_.out (by kernel_rfl)) (fun _ _ _ h => h) (Or.inl ⟨by rfl, ?_⟩) ?_ ?_
                                rotate_left
                                · intro w'
                                  go_simp
                                  with_reducible rfl
                                rotate_left
                                · simp only [Act.put, List.setIfInBounds_toArray, List.set_cons_zero, List.set_cons_succ, i64_w, i32_w]
                                  rfl
                                refine pure_ (i := 4) (N := some 40) (v := ?_) (a' := ?_) #[true, true, true, true, true, false, false, false, false, false, false] rfl rfl (any_of HT_.out (by kernel_rfl)) (fun _ _ _ h => h) (Or.inl ⟨by rfl, ?_⟩) ?_ ?_
                                rotate_left
                                · intro w'
                                  go_simp
                                  with_reducible rfl
                                rotate_left
                                · simp only [Act.put, List.setIfInBounds_toArray, List.set_cons_zero, List.set_cons_succ, i64_w, i32_w]
                                  rfl
                                refine take_ (i := 5) (N := some 41) (v := ?_) (a' := ?_) #[true, true, true, true, true, true, false, false, false, false, false] rfl rfl (take_ofW HT_.out HW_.out (by kernel_rfl)) (fun _ _ _ h => h) (Or.inl ⟨by rfl, ?_⟩) hHeld ?_ ?_
                                rotate_left
                                · rintro w' ⟨s0, s1, s2⟩
                                  go_simp
                                  with_reducible rfl
                                rotate_left
                                · simp only [Act.put, List.setIfInBounds_toArray, List.set_cons_zero, List.set_cons_succ, i64_w, i32_w]
                                  rfl
                                refine take_ (i := 6) (N := some 42) (v := ?_) (a' := ?_) #[true, true, true, true, true, true, true, false, false, false, false] rfl rfl (take_ofW HT_.out HW_.out (by kernel_rfl)) (fun _ _ _ h => h) (Or.inl ⟨by rfl, ?_⟩) hHeld ?_ ?_
                                rotate_left
                                · rintro w' ⟨s0, s1, s2⟩
                                  go_simp
                                  with_reducible rfl
                                rotate_left
                                · simp only [Act.put, List.setIfInBounds_toArray, List.set_cons_zero, List.set_cons_succ, i64_w, i32_w]
                                  rfl
                                refine one_ (i := 7) (N := some 43) #[true, true, true, true, true, true, true, true, false, false, false] rfl rfl (one_of HT_.out (by kernel_rfl)) (by decide) (fun K hK => ?_)
                                refine value_ (w1 := ?_) (v := ?_) (by rfl) rfl ?_ ?_
                                rotate_left 2
                                · go_simp
                                  constructor
                                  · rfl
                                  · rfl
                                refine hK.out _ _ ⟨(blk_cell (blk_alloc BK195.out _) 0).trans rfl, (blk_cell (blk_alloc BK195.out _) 1).trans rfl, (World.cell?_alloc_lt _ _ _ (World.block_lt_of_cell? _ _ (hHeld.2.2))).trans (hHeld.2.2)⟩ (fun hHeld => ?_)
                                clear hK K
                                refine norm_ (a' := ?_) ?_ ?_
                                rotate_left
                                · show Act.put _ (some 43) _ = _
                                  simp only [Act.put, List.setIfInBounds_toArray, List.set_cons_zero, List.set_cons_succ, i64_w, i32_w]
                                  rfl
                                refine one_ (i := 8) (N := some 44) #[true, true, true, true, true, true, true, true, true, false, false] rfl rfl (one_of HT_.out (by kernel_rfl)) (by decide) (fun K hK => ?_)
                                refine Kd.R_append_step k53 (w0 := w) w.heap.size (by rfl) (.tmp 41) (.tmp 43) 22 53 (.agg #[(.int .i64 0), (.int .i64 0)]) 16 rfl Try.underlying22 info53 rfl (by decide) (by omega) (.slice A208_0 (rd_L2 x5_1 (ji14)).length c208_0) (rd_L2 x5_1 (ji14)) (⟨(rd_T53 l1 x14_1).f0, (rd_T53 l1 x14_1).f1⟩ : S53) [.int .i64 ((rd_T53 l1 x14_1).f0), .int .i64 ((rd_T53 l1 x14_1).f1)] (fun k_ => oki56 k_ ∨ ((fun k_ => k_ ≠ gb195)) k_ ∧ w55.heap.size ≤ k_) (fun _ => False) rfl rfl ?aP (fun _ hk => hk.elim) ?aF ?aO ?aB ?aS ?aL ?_
                                (case aP => exact k53_mkM _ _ _ (⟨(rd_T53 l1 x14_1).f0, (rd_T53 l1 x14_1).f1⟩ : S53))
                                (case aB => exact (by repeat (first | (with_reducible first | exact HB.out | apply below_alloc | apply pw_below_drewN | apply below_drew1 | refine below_set ?_ GE195.out) | exact HB.out)))
                                (case aF => exact (fun k_ hk => .inr ⟨Kd.freshB (g := gb195) (o := .cells #[.int .i64 ((rd_T53 l1 x14_1).f0), .int .i64 ((rd_T53 l1 x14_1).f1)] 53 (0, 0)) (by (with_reducible repeat (first | refine blk_drewN ?_ _ | refine blk_drew ?_ | refine blk_alloc ?_ _)); exact BK195.out) k_ hk, hk⟩))
                                (case aO => exact (by (with_reducible repeat (first | apply Kd.R_alloc | apply Kd.R_drewN | apply Kd.R_drew)); exact Kd.R_mono UU56.out (fun _ hk => .inl hk)))
                                (case aS => exact (below_size (by repeat (first | (with_reducible first | exact HB.out | apply below_alloc | apply pw_below_drewN | apply below_drew1 | refine below_set ?_ GE195.out) | exact HB.out))))
                                (case aL => have := LMc45.out; omega)
                                intro v210 w57 ho hb hg hat
                                (first | have HS2_ := cell_grown hg (hHeld.2.2) (by first | (rw [add_block]; exact (fun e_ => ((HL208_0.out.1 _ e_.symm).2) rfl)) | (show some (Addr.add _ _).block ≠ _; rw [add_block]; exact (fun e_ => ((HL208_0.out.1 _ e_.symm).2) rfl)) | exact (fun e_ => ((HL208_0.out.1 _ e_.symm).2) rfl)) | have HS2_ := cell_grown hg (cell_unalloc (hHeld.2.2) (by first | (rw [add_block]; exact Kd.S_lt HO_5.out _ rfl) | (show (Addr.add _ _).block < _; rw [add_block]; exact Kd.S_lt HO_5.out _ rfl) | exact Kd.S_lt HO_5.out _ rfl)) (by first | (rw [add_block]; exact (fun e_ => ((HL208_0.out.1 _ e_.symm).2) rfl)) | (show some (Addr.add _ _).block ≠ _; rw [add_block]; exact (fun e_ => ((HL208_0.out.1 _ e_.symm).2) rfl)) | exact (fun e_ => ((HL208_0.out.1 _ e_.symm).2) rfl)))
                                rw [← Ny209.out] at ho
                                have n0_ := Aside0.mk (Kd.R_over' (v := (.slice A208_0 (rd_L2 x5_1 (ji14)).length c208_0)) (by (with_reducible repeat (first | apply Kd.R_alloc | apply Kd.R_drewN | apply Kd.R_drew)); exact HO_6.out) (Kd.R_typed HL208_0.out) (by decide) hg)
                                have n1_ := Aside0.mk (blk_grown (g := gb195) (o := .cells #[.int .i64 ((rd_T53 l1 x14_1).f0), .int .i64 ((rd_T53 l1 x14_1).f1)] 53 (0, 0)) (by (with_reducible repeat (first | refine blk_drewN ?_ _ | refine blk_drew ?_ | refine blk_alloc ?_ _)); exact BK195.out) hg (Kd.R_away HL208_0.out (fun _ hk => hk.1)))
                                have n2_ := Aside0.mk (hb)
                                have n3_ := Aside0.mk (Kd.H_grown (Kd.H_widen (by repeat (first | exact HH56.out | refine Kd.H_alloc ?_ _ | refine Kd.H_drewN ?_ _ | refine Kd.H_drew ?_))) hg (fun k_ e_ => .inl (UU56.out.1 k_ e_)))
                                have n4_ := Aside0.mk (ho)
                                clear HO_6
                                clear BK195
                                clear HB
                                clear HH56
                                clear HO_5
                                clear UU56
                                clear HL208_0
                                have HO_6 := n0_
                                have BK195 := n1_
                                have HB := n2_
                                have HH56 := n3_
                                have HO211 := n4_
                                clear n0_ n1_ n2_ n3_ n4_
                                clear ho hb hg hat
                                have p46 : 0 ≤ ((ji14) : Int) := of_decide_eq_true (by first | (with_reducible assumption) | assumption)
                                have q46 : ((ji14) : Int) < ((x5_1.length : Int) : Int) := of_decide_eq_true (by first | (with_reducible assumption) | assumption)
                                replace p46 := eq_true p46
                                replace q46 := eq_true q46
                                obtain ⟨Ao60, co60, eo60⟩ := Kd.R_slice HO211.out
                                (first | subst eo60 | (injection eo60 with f1_ f2_ f3_; have f4_ := f1_.symm; have f5_ := f3_.symm; clear f1_ f2_ f3_; subst f4_; subst f5_))
                                obtain ⟨_, _, hraw58, _, _, hcc58, _⟩ := Kd.H_raw HH56.out (of_decide_eq_true (by first | (with_reducible assumption) | assumption)) (by have h_ : ((ji14) : Int) < ((x5_1.length : Int) : Int) := of_decide_eq_true (by first | (with_reducible assumption) | assumption); first | exact h_ | (have e_ := (HN56.out); omega) | simpa using h_)
                                obtain ⟨_, hfr58⟩ := Kd.H_at HH56.out (of_decide_eq_true (by first | (with_reducible assumption) | assumption)) (by have h_ : ((ji14) : Int) < ((x5_1.length : Int) : Int) := of_decide_eq_true (by first | (with_reducible assumption) | assumption); first | exact h_ | (have e_ := (HN56.out); omega) | simpa using h_)
                                have hx58_0 := hcc58 0 _ rfl
                                have hf58_0 := hfr58 0
                                (try simp only [Nat.add_zero] at hx58_0 hf58_0)
                                (try rw [show ((Kd.slice 53 k53)).sz = 1 from rfl, Nat.mul_one] at hx58_0)
                                (try rw [show ((Kd.slice 53 k53)).sz = 1 from rfl, Nat.mul_one] at hf58_0)
                                have HP58 := Kd.S_seg0 HH56.out (of_decide_eq_true (by first | (with_reducible assumption) | assumption)) (by have h_ : ((ji14) : Int) < ((x5_1.length : Int) : Int) := of_decide_eq_true (by first | (with_reducible assumption) | assumption); first | exact h_ | (have e_ := (HN56.out); omega) | simpa using h_) (seg := [.slice Ao60 y209.length co60]) (j := 0) (show 1 ≤ 1 from by decide) (x' := y209) (Kd.M_row HO211.out) (fun _ hk => hk)
                                (try simp only [show ((Kd.slice 53 k53)).sz = 1 from rfl, Nat.mul_one, Nat.add_zero] at HP58)
                                clear hcc58 hfr58
                                have HNB195_go56 := Aside0.mk (show gb195 ≠ go56 from by have h_ := Kd.R_ne hraw58 BK195.out (by decide); intro e_; exact h_ (by rw [e_]; rfl))
                                have HS58 := HP58.1
                                rw [← Ny212.out] at HS58
                                have HQ58 := Aside0.mk HS58
                                obtain ⟨_, hgg58⟩ := Kd.R_typed hraw58 go56 rfl
                                have GG58_ := Aside0.mk hgg58
                                clear HP58 HS58 hgg58
                                refine hK.out _ _ ⟨(blk_cell BK195.out 0).trans rfl, (blk_cell BK195.out 1).trans rfl, HS2_⟩ (fun hHeld => ?_)
                                clear hK K
                                refine norm_ (a' := ?_) ?_ ?_
                                rotate_left
                                · show Act.put _ (some 44) _ = _
                                  simp only [Act.put, List.setIfInBounds_toArray, List.set_cons_zero, List.set_cons_succ, i64_w, i32_w]
                                  rfl
                                refine pure_ (i := 9) (N := some 45) (v := ?_) (a' := ?_) #[true, true, true, true, true, true, true, true, true, true, false] rfl rfl (any_of HT_.out (by kernel_rfl)) (fun _ _ _ h => h) (Or.inl ⟨by rfl, ?_⟩) ?_ ?_
                                rotate_left
                                · intro w'
                                  go_simp
                                  with_reducible rfl
                                rotate_left
                                · simp only [Act.put, List.setIfInBounds_toArray, List.set_cons_zero, List.set_cons_succ, i64_w, i32_w]
                                  rfl
                                refine last_ (i := 10) (N := none) #[true, true, true, true, true, true, true, true, true, true, true] rfl rfl (one_of HT_.out (by kernel_rfl)) (by decide) (fun K hK => ?_)
                                refine skip_ (w1 := ?_) (by rfl) rfl ?_ ?_
                                rotate_left
                                · go_simp
                                  rfl
                                refine hK.out _ _ ?_
                                clear hK K
                                refine done_ (done_of HT_.out (by kernel_rfl)) ?_
                                have n0_ : Aside0 (Kd.R (Kd.int .i64) 3 (w57.setCell ⟨go56, ((ji14) : Int).toNat, none⟩ (.slice Ao60 y209.length co60)) w.heap.size (fun _ => True) (.slice (some ad196) x6_1.length co53) x6_1) := ⟨by (with_reducible repeat (first | apply Kd.R_alloc | apply Kd.R_drewN | apply Kd.R_drew)); exact Kd.R_mono (Kd.R_far (p := ⟨go56, ((ji14) : Int).toNat, none⟩) (Kd.R_types HO_6.out GG58_.out (by decide)) (fun _ hk => hk.2) (.slice Ao60 y209.length co60)) (fun _ hk => trivial)⟩
                                have n1_ : Aside0 (Kd.S (Kd.slice 53 k53) 22 (w57.setCell ⟨go56, ((ji14) : Int).toNat, none⟩ (.slice Ao60 y209.length co60)) w.heap.size (fun k_ => k_ ≠ gb195) (.slice (some ⟨go56, 0, none⟩) x5_1.length co54) y212) := ⟨by (with_reducible repeat (first | apply Kd.S_alloc | apply Kd.S_drewN | apply Kd.S_drew)); exact HQ58.out⟩
                                have n2_ : Aside0 ((w57.setCell ⟨go56, ((ji14) : Int).toNat, none⟩ (.slice Ao60 y209.length co60)).heap[gb195]? = some (.cells #[.int .i64 ((rd_T53 l1 x14_1).f0), .int .i64 ((rd_T53 l1 x14_1).f1)] 53 (0, 0))) := ⟨by (with_reducible repeat (first | refine blk_drewN ?_ _ | refine blk_drew ?_ | refine blk_alloc ?_ _)); refine blk_far ?_ HNB195_go56.out _; (with_reducible repeat (first | refine blk_drewN ?_ _ | refine blk_drew ?_ | refine blk_alloc ?_ _)); exact BK195.out⟩
                                have n3_ : Aside0 (Below w.heap.size w (w57.setCell ⟨go56, ((ji14) : Int).toNat, none⟩ (.slice Ao60 y209.length co60))) := ⟨by repeat (first | (with_reducible first | exact HB.out | apply below_alloc | apply pw_below_drewN | apply below_drew1 | refine below_set ?_ GB56.out | refine below_set ?_ GE195.out) | exact HB.out)⟩
                                (try clear HO_6)
                                (try clear HO_5)
                                (try clear BK195)
                                (try clear HB)
                                generalize (w57.setCell ⟨go56, ((ji14) : Int).toNat, none⟩ (.slice Ao60 y209.length co60)) = w61 at n0_ n1_ n2_ n3_ ⊢
                                have HO_6 := n0_
                                have HO_5 := n1_
                                have BK195 := n2_
                                have HB := n3_
                                clear n0_ n1_ n2_ n3_
                                go_wp2
                                have P0 : 0 ≤ ((rd_T53 l1 x14_1).f0) := of_decide_eq_true c10b0
                                have Q0 : ((rd_T53 l1 x14_1).f0) < (x6_1.length : Int) := of_decide_eq_true c11b0
                                have P1 : 0 ≤ ((rd_T53 l1 x14_1).f1) := of_decide_eq_true c12b0
                                have Q1 : ((rd_T53 l1 x14_1).f1) < (x6_1.length : Int) := of_decide_eq_true c13b0
                                obtain ⟨go24, co24, e24, hg24, _, cells24, hb24⟩ := Kd.R_form HO_6.out (by omega)
                                (first | cases e24 | (injection e24 with ea_ en_ ec_; (first | subst ea_ | (injection ea_ with ea_; subst ea_)); subst ec_; clear en_))
                                have n8 := HO_6.out
                                have n7 := HO_5.out
                                have nB := BK195.out
                                have nb := HB.out
                                clear HO_6 HO_5 BK195 HB
                                generalize hF0 : (rd_T53 l1 x14_1).f0 = F0 at *
                                generalize hF1 : (rd_T53 l1 x14_1).f1 = F1 at *
                                have hne : go24 ≠ gb195 := blk_ne_row n8 nB (by decide)
                                obtain ⟨hu0, hf0, hu1, hf1, hu1'⟩ := put2_facts n8 F0 F1 (wrap64 (ji14 + 1)) P0 Q0 P1 Q1
                                have hx0 : w61.cell? ⟨gb195, 0, none⟩ = some (.int .i64 F0) := (blk_cell nB 0).trans rfl
                                have hx1 : w61.cell? ⟨gb195, 1, none⟩ = some (.int .i64 F1) := (blk_cell nB 1).trans rfl
                                have hx1' : (w61.setCell ⟨go24, F0.toNat, none⟩ (.int .i64 (wrap64 (ji14 + 1)))).drew.cell? ⟨gb195, 1, none⟩ = some (.int .i64 F1) := (World.cell?_setCell_far _ _ _ _ hne).trans hx1
                                have PP := Aside0.mk (put2_row n8 hg24 F0 F1 (wrap64 (ji14 + 1)) (wrap64 (ji14 + 1)))
                                have SS := Aside0.mk (put2_S n8 n7 (by decide) F0 F1 (wrap64 (ji14 + 1)) (wrap64 (ji14 + 1)))
                                have NB := Aside0.mk nB
                                have Nb := Aside0.mk nb
                                have hne' : ¬ gb195 = go24 := fun e => hne e.symm
                                clear n8 n7 nB nb hb24 hg24
                                replace P0 := eq_true P0
                                replace P1 := eq_true P1
                                replace Q0 := eq_true Q0
                                replace Q1 := eq_true Q1
                                as_aux_lemma =>
                                  go_region
                                  go_wp2
                                  have n8 := PP.out.row
                                  have nb := PP.out.below Nb.out
                                  have n7 := SS.out
                                  rw [← Ny213.out, ← Ny214.out] at n8
                                  unfold put2 at n8 nb n7
                                  clear PP SS NB Nb hu0 hf0 hu1 hf1 hu1' hx0 hx1 hx1' hne hne'
                                  generalize hq_ : ((w61.setCell ⟨go24, F0.toNat, none⟩ (.int .i64 (wrap64 (ji14 + 1)))).setCell ⟨go24, F1.toNat, none⟩ (.int .i64 (wrap64 (ji14 + 1)))).drew = W3 at n8 n7 nb ⊢
                                  clear hq_
                                  go_roundg k1
                                  case measure => have := HK1.out; omega
                                  case rel => exact ⟨y212, y214, wrap64 (x14_1 + 1), rfl, H', ⟨by have := HK1.out; omega⟩, ⟨Kd.S_mono n7 (fun _ hk => trivial)⟩, ⟨n8⟩, ⟨nb⟩⟩
                              · rw [if_neg c45] at H
                                exact absurd H (by simp)
                            · rw [if_neg c44] at H
                              exact absurd H (by simp)
                          · rw [if_neg c43] at H
                            exact absurd H (by simp)
                      · rw [if_neg c13] at H
                        exact absurd H (by simp)
                    · rw [if_neg c12] at H
                      exact absurd H (by simp)
                  · rw [if_neg c11] at H
                    exact absurd H (by simp)
                · rw [if_neg c10] at H
                  exact absurd H (by simp)
              · rw [if_neg c9] at H
                exact absurd H (by simp)
            · rw [if_neg c8] at H
              exact absurd H (by simp)
          · rw [if_neg c7] at H
            have c7b0 : decide (x14_1 < (l1.length : Int)) = false := decide_eq_false c7
            clear c7
            obtain rfl := Option.some.inj H
            go_wp2
            go_ret
            exact ⟨_, by first | rfl | (simp [errW_none, errW_some] <;> rfl) | (simp [*, errW_none, errW_some] <;> rfl), by (with_reducible repeat (first | apply Kd.S_alloc | apply Kd.S_drewN | apply Kd.S_drew)); exact HO_5.out, by repeat (first | (with_reducible first | exact HB.out | apply below_alloc | apply pw_below_drewN | apply below_drew1) | exact HB.out)⟩
    · rw [if_neg c4] at H
      exact absurd H (by simp)
  · rw [if_neg c3] at H
    exact absurd H (by simp)

end Go.Proofs.Ytmgjohlaoflebaa.Sb
