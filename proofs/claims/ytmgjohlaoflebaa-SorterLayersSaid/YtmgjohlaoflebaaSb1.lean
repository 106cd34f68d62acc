/- Functions of the program, each with its walk: ring_Pairs, sorter_Network. (Made by this session's own program out of what the kit's print wrote; no text of the print.) -/
import Derived.Test.YtmgjohlaoflebaaSb0
namespace Go.Proofs.Ytmgjohlaoflebaa.Sb
open Go.RowKit Go.Proofs.YtmgjohlaoflebaaW.PrintWords Go.Proofs.YtmgjohlaoflebaaW.PrintLast Go.Proofs.YtmgjohlaoflebaaW.PrintMore
attribute [local go_sem] max2_int min2_int max_two min_two max_three min_three max_four min_four   -- for this text's walks alone
set_option linter.unusedVariables false
set_option linter.unusedSimpArgs false

/-! ### ring_Pairs: function 27 -/
mutual
def ring_Pairs.l0 : Nat → Int → List (S53) → Int → Option ((List (S53)))
  | 0, _, _, _ => none
  | k + 1, x0, x3, x4 => if x4 < x0 then (ring_Pairs.l1 k x0 x3 x4 x4) else (some x3)
def ring_Pairs.l1 : Nat → Int → List (S53) → Int → Int → Option ((List (S53)))
  | 0, _, _, _, _ => none
  | k + 1, x0, x3, x4, x5 => if x5 ≥ 1 then (if x4 = 0 then (none) else (ring_Pairs.l2 k x0 x3 x4 x5 (Int.tmod x5 x4))) else (ring_Pairs.l0 k x0 x3 (wrap64 (x4 * 2)))
def ring_Pairs.l2 : Nat → Int → List (S53) → Int → Int → Int → Option ((List (S53)))
  | 0, _, _, _, _, _ => none
  | k + 1, x0, x3, x4, x5, x6 => if (wrap64 (x6 + x5)) < x0 then (ring_Pairs.l3 k x0 x3 x4 x5 x6 0) else (ring_Pairs.l1 k x0 x3 x4 (wrap64 (Int.tdiv x5 2)))
def ring_Pairs.l3 : Nat → Int → List (S53) → Int → Int → Int → Int → Option ((List (S53)))
  | 0, _, _, _, _, _, _ => none
  | k + 1, x0, x3, x4, x5, x6, x7 => if x7 < x5 then (ring_Pairs.j4 k x0 x3 x4 x5 x6 x7 (decide ((wrap64 ((wrap64 (x7 + x6)) + x5)) < x0))) else (ring_Pairs.j4 k x0 x3 x4 x5 x6 x7 false)
def ring_Pairs.j4 : Nat → Int → List (S53) → Int → Int → Int → Int → Bool → Option ((List (S53)))
  | 0, _, _, _, _, _, _, _ => none
  | k + 1, x0, x3, x4, x5, x6, x7, x41 => if x41 = true then (if (wrap64 (2 * x4)) = 0 then (none) else (if (wrap64 (Int.tdiv (wrap64 (x7 + x6)) (wrap64 (2 * x4)))) = (wrap64 (Int.tdiv (wrap64 ((wrap64 (x7 + x6)) + x5)) (wrap64 (2 * x4)))) then (if x3.length < 8796093022208 then (ring_Pairs.l3 k x0 (x3 ++ [(⟨wrap64 (x7 + x6), wrap64 ((wrap64 (x7 + x6)) + x5)⟩ : S53)]) x4 x5 x6 (wrap64 (x7 + 1))) else (none)) else (ring_Pairs.l3 k x0 x3 x4 x5 x6 (wrap64 (x7 + 1))))) else (ring_Pairs.l2 k x0 x3 x4 x5 (wrap64 (x6 + (wrap64 (2 * x5)))))
end
def ring_Pairs.f (k : Nat) (a0 : Int) : Option ((List (S53))) := ring_Pairs.l0 k a0 ([] : List (S53)) 1
theorem ring_Pairs.mono_l : ∀ k, (∀ y0 y1 y2, LeO (ring_Pairs.l0 k y0 y1 y2) (ring_Pairs.l0 (k + 1) y0 y1 y2)) ∧ (∀ y0 y1 y2 y3, LeO (ring_Pairs.l1 k y0 y1 y2 y3) (ring_Pairs.l1 (k + 1) y0 y1 y2 y3)) ∧ (∀ y0 y1 y2 y3 y4, LeO (ring_Pairs.l2 k y0 y1 y2 y3 y4) (ring_Pairs.l2 (k + 1) y0 y1 y2 y3 y4)) ∧ (∀ y0 y1 y2 y3 y4 y5, LeO (ring_Pairs.l3 k y0 y1 y2 y3 y4 y5) (ring_Pairs.l3 (k + 1) y0 y1 y2 y3 y4 y5)) ∧ (∀ y0 y1 y2 y3 y4 y5 y6, LeO (ring_Pairs.j4 k y0 y1 y2 y3 y4 y5 y6) (ring_Pairs.j4 (k + 1) y0 y1 y2 y3 y4 y5 y6))
  | 0 => ⟨fun _ _ _ r h => by simp [ring_Pairs.l0] at h, fun _ _ _ _ r h => by simp [ring_Pairs.l1] at h, fun _ _ _ _ _ r h => by simp [ring_Pairs.l2] at h, fun _ _ _ _ _ _ r h => by simp [ring_Pairs.l3] at h, fun _ _ _ _ _ _ _ r h => by simp [ring_Pairs.j4] at h⟩
  | k + 1 => by
    obtain ⟨ih0, ih1, ih2, ih3, ih4⟩ := ring_Pairs.mono_l k
    refine ⟨?_, ?_, ?_, ?_, ?_⟩
    · intro y0 y1 y2
      unfold ring_Pairs.l0
      repeat' first
      | (with_reducible exact ih0 _ _ _)
      | (with_reducible exact ih1 _ _ _ _)
      | (with_reducible exact ih2 _ _ _ _ _)
      | (with_reducible exact ih3 _ _ _ _ _ _)
      | (with_reducible exact ih4 _ _ _ _ _ _ _)
      | (with_reducible exact LeO.refl _)
      | (with_reducible exact LeO.none _)
      | (with_reducible refine LeO.ite ?_ ?_)
      | (with_reducible refine LeO.bind ?_ (fun _ => ?_))
      | exact ih0 _ _ _
      | exact ih1 _ _ _ _
      | exact ih2 _ _ _ _ _
      | exact ih3 _ _ _ _ _ _
      | exact ih4 _ _ _ _ _ _ _
      | exact LeO.none _
      | refine LeO.ite ?_ ?_
      | refine LeO.bind ?_ (fun _ => ?_)
    · intro y0 y1 y2 y3
      unfold ring_Pairs.l1
      repeat' first
      | (with_reducible exact ih0 _ _ _)
      | (with_reducible exact ih1 _ _ _ _)
      | (with_reducible exact ih2 _ _ _ _ _)
      | (with_reducible exact ih3 _ _ _ _ _ _)
      | (with_reducible exact ih4 _ _ _ _ _ _ _)
      | (with_reducible exact LeO.refl _)
      | (with_reducible exact LeO.none _)
      | (with_reducible refine LeO.ite ?_ ?_)
      | (with_reducible refine LeO.bind ?_ (fun _ => ?_))
      | exact ih0 _ _ _
      | exact ih1 _ _ _ _
      | exact ih2 _ _ _ _ _
      | exact ih3 _ _ _ _ _ _
      | exact ih4 _ _ _ _ _ _ _
      | exact LeO.none _
      | refine LeO.ite ?_ ?_
      | refine LeO.bind ?_ (fun _ => ?_)
    · intro y0 y1 y2 y3 y4
      unfold ring_Pairs.l2
      repeat' first
      | (with_reducible exact ih0 _ _ _)
      | (with_reducible exact ih1 _ _ _ _)
      | (with_reducible exact ih2 _ _ _ _ _)
      | (with_reducible exact ih3 _ _ _ _ _ _)
      | (with_reducible exact ih4 _ _ _ _ _ _ _)
      | (with_reducible exact LeO.refl _)
      | (with_reducible exact LeO.none _)
      | (with_reducible refine LeO.ite ?_ ?_)
      | (with_reducible refine LeO.bind ?_ (fun _ => ?_))
      | exact ih0 _ _ _
      | exact ih1 _ _ _ _
      | exact ih2 _ _ _ _ _
      | exact ih3 _ _ _ _ _ _
      | exact ih4 _ _ _ _ _ _ _
      | exact LeO.none _
      | refine LeO.ite ?_ ?_
      | refine LeO.bind ?_ (fun _ => ?_)
    · intro y0 y1 y2 y3 y4 y5
      unfold ring_Pairs.l3
      repeat' first
      | (with_reducible exact ih0 _ _ _)
      | (with_reducible exact ih1 _ _ _ _)
      | (with_reducible exact ih2 _ _ _ _ _)
      | (with_reducible exact ih3 _ _ _ _ _ _)
      | (with_reducible exact ih4 _ _ _ _ _ _ _)
      | (with_reducible exact LeO.refl _)
      | (with_reducible exact LeO.none _)
      | (with_reducible refine LeO.ite ?_ ?_)
      | (with_reducible refine LeO.bind ?_ (fun _ => ?_))
      | exact ih0 _ _ _
      | exact ih1 _ _ _ _
      | exact ih2 _ _ _ _ _
      | exact ih3 _ _ _ _ _ _
      | exact ih4 _ _ _ _ _ _ _
      | exact LeO.none _
      | refine LeO.ite ?_ ?_
      | refine LeO.bind ?_ (fun _ => ?_)
    · intro y0 y1 y2 y3 y4 y5 y6
      unfold ring_Pairs.j4
      repeat' first
      | (with_reducible exact ih0 _ _ _)
      | (with_reducible exact ih1 _ _ _ _)
      | (with_reducible exact ih2 _ _ _ _ _)
      | (with_reducible exact ih3 _ _ _ _ _ _)
      | (with_reducible exact ih4 _ _ _ _ _ _ _)
      | (with_reducible exact LeO.refl _)
      | (with_reducible exact LeO.none _)
      | (with_reducible refine LeO.ite ?_ ?_)
      | (with_reducible refine LeO.bind ?_ (fun _ => ?_))
      | exact ih0 _ _ _
      | exact ih1 _ _ _ _
      | exact ih2 _ _ _ _ _
      | exact ih3 _ _ _ _ _ _
      | exact ih4 _ _ _ _ _ _ _
      | exact LeO.none _
      | refine LeO.ite ?_ ?_
      | refine LeO.bind ?_ (fun _ => ?_)
theorem ring_Pairs.mono : ∀ a0 k, LeO (ring_Pairs.f k a0) (ring_Pairs.f (k + 1) a0) := by
  intro a0 k
  obtain ⟨ih0, ih1, ih2, ih3, ih4⟩ := ring_Pairs.mono_l k
  unfold ring_Pairs.f
  repeat' first
      | (with_reducible exact ih0 _ _ _)
      | (with_reducible exact ih1 _ _ _ _)
      | (with_reducible exact ih2 _ _ _ _ _)
      | (with_reducible exact ih3 _ _ _ _ _ _)
      | (with_reducible exact ih4 _ _ _ _ _ _ _)
      | (with_reducible exact LeO.refl _)
      | (with_reducible exact LeO.none _)
      | (with_reducible refine LeO.ite ?_ ?_)
      | (with_reducible refine LeO.bind ?_ (fun _ => ?_))
      | exact ih0 _ _ _
      | exact ih1 _ _ _ _
      | exact ih2 _ _ _ _ _
      | exact ih3 _ _ _ _ _ _
      | exact ih4 _ _ _ _ _ _ _
      | exact LeO.none _
      | refine LeO.ite ?_ ?_
      | refine LeO.bind ?_ (fun _ => ?_)
set_option maxHeartbeats 8000000 in
set_option maxRecDepth 100000 in
theorem ring_Pairs.calls (k : Nat) (a0 : Int) (r : List (S53)) (w : World) (h : ring_Pairs.f k a0 = some r) :
    Calls Try.prog 27 #[.int .i64 a0] w fun e w' => ∃ v0_ : Value, e = .returned (v0_) ∧ Kd.R k53 53 w' w.heap.size (fun _ => True) v0_ r ∧ Below w.heap.size w w' := by
  have hu53 := Try.underlying53
  have HB := Aside0.mk (Below.refl w.heap.size w)
  have H : (ring_Pairs.l0 k a0 ([] : List (S53)) 1) = some r := h
  clear h
  have H' := Aside0.mk H
  clear H
  go_enter Try.func27, Try.ntmps27
  go_wp2
  repeat (go_quiet (fail); try go_wp2)
  go_loopg [3, 4] k (fun kq v3 v4 w' => ∃ (x3_1 : List (S53)) (x4_1 : Int), v4 = .int .i64 x4_1 ∧ Aside0 (ring_Pairs.l0 kq a0 x3_1 x4_1 = some r) ∧ Aside0 (kq ≤ k) ∧ Aside0 (Kd.R k53 53 w' w.heap.size (fun _ => True) v3 x3_1) ∧ Aside0 (Below w.heap.size w w'))
  case atStart => exact ⟨(([] : List (S53))), (1), (by first | rfl | (simp; done) | (simp [*]; done)), H', ⟨Nat.le_refl _⟩, ⟨by first | exact Kd.R_nil _ _ _ _ _ | exact Kd.N_nil _ _ _ _ _ | exact Kd.V_nil _ _ _ _ _ | exact Kd.Q_nil _ _ _ _ _ | exact Kd.S_nil _ _ _ _ _⟩, ⟨by repeat (first | (with_reducible first | exact HB.out | apply below_alloc | apply pw_below_drewN | apply below_drew1) | exact HB.out)⟩⟩
  case round =>
    clear H'
    obtain ⟨x3_1, x4_1, rfl, HA, HK1, HO_3, HB⟩ := hrel
    cases gk with
    | zero => exact absurd HA.out (by simp [ring_Pairs.l0])
    | succ k1 =>
      have H := HA.out
      clear HA
      simp only [ring_Pairs.l0] at H
      by_cases c2 : x4_1 < a0
      · rw [if_pos c2] at H
        have c2b0 : decide (x4_1 < a0) = true := decide_eq_true c2
        clear c2
        have H' := Aside0.mk H
        clear H
        go_wp2
        repeat (go_quiet (fail); try go_wp2)
        go_loopg [3, 5] k1 (fun kq v3 v5 w' => ∃ (x3_2 : List (S53)) (x5_2 : Int), v5 = .int .i64 x5_2 ∧ Aside0 (ring_Pairs.l1 kq a0 x3_2 x4_1 x5_2 = some r) ∧ Aside0 (kq ≤ k1) ∧ Aside0 (Kd.R k53 53 w' w.heap.size (fun _ => True) v3 x3_2) ∧ Aside0 (Below w.heap.size w w'))
        case atStart => exact ⟨(x3_1), (x4_1), (by first | rfl | (simp; done) | (simp [*]; done)), H', ⟨Nat.le_refl _⟩, ⟨by (with_reducible repeat (first | apply Kd.R_alloc | apply Kd.R_drewN | apply Kd.R_drew)); exact HO_3.out⟩, ⟨by repeat (first | (with_reducible first | exact HB.out | apply below_alloc | apply pw_below_drewN | apply below_drew1) | exact HB.out)⟩⟩
        case round =>
          clear H'
          try clear c2
          try clear c2b0
          try clear p2
          obtain ⟨x3_2, x5_2, rfl, HA, HK2, HO_3, HB⟩ := hrel
          cases gk with
          | zero => exact absurd HA.out (by simp [ring_Pairs.l1])
          | succ k2 =>
            have H := HA.out
            clear HA
            simp only [ring_Pairs.l1] at H
            by_cases c3 : x5_2 ≥ 1
            · rw [if_pos c3] at H
              have c3b0 : decide (1 ≤ x5_2) = true := decide_eq_true c3
              clear c3
              by_cases c4 : x4_1 = 0
              · rw [if_pos c4] at H
                exact absurd H (by simp)
              · rw [if_neg c4] at H
                have c4b0 : (x4_1 == 0) = false := beq_eq_false_iff_ne.mpr c4
                have c4b1 : (x4_1 != 0) = true := bne_iff_ne.mpr c4
                have H' := Aside0.mk H
                clear H
                go_wp2
                repeat (go_quiet (fail); try go_wp2)
                go_loopg [3, 6] k2 (fun kq v3 v6 w' => ∃ (x3_3 : List (S53)) (x6_3 : Int), v6 = .int .i64 x6_3 ∧ Aside0 (ring_Pairs.l2 kq a0 x3_3 x4_1 x5_2 x6_3 = some r) ∧ Aside0 (kq ≤ k2) ∧ Aside0 (Kd.R k53 53 w' w.heap.size (fun _ => True) v3 x3_3) ∧ Aside0 (Below w.heap.size w w'))
                case atStart => exact ⟨(x3_2), (Int.tmod x5_2 x4_1), (by first | rfl | (simp; done) | (simp [*]; done)), H', ⟨Nat.le_refl _⟩, ⟨by (with_reducible repeat (first | apply Kd.R_alloc | apply Kd.R_drewN | apply Kd.R_drew)); exact HO_3.out⟩, ⟨by repeat (first | (with_reducible first | exact HB.out | apply below_alloc | apply pw_below_drewN | apply below_drew1) | exact HB.out)⟩⟩
                case round =>
                  clear H'
                  try clear c2
                  try clear c2b0
                  try clear p2
                  try clear c3
                  try clear c3b0
                  try clear c4
                  try clear c4b0
                  try clear c4b1
                  try clear p2
                  obtain ⟨x3_3, x6_3, rfl, HA, HK3, HO_3, HB⟩ := hrel
                  cases gk with
                  | zero => exact absurd HA.out (by simp [ring_Pairs.l2])
                  | succ k3 =>
                    have H := HA.out
                    clear HA
                    simp only [ring_Pairs.l2] at H
                    by_cases c5 : (wrap64 (x6_3 + x5_2)) < a0
                    · rw [if_pos c5] at H
                      have c5b0 : decide ((wrap64 (x6_3 + x5_2)) < a0) = true := decide_eq_true c5
                      clear c5
                      have H' := Aside0.mk H
                      clear H
                      go_wp2
                      repeat (go_quiet (fail); try go_wp2)
                      go_loopg [3, 7] k3 (fun kq v3 v7 w' => ∃ (x3_4 : List (S53)) (x7_4 : Int), v7 = .int .i64 x7_4 ∧ Aside0 (ring_Pairs.l3 kq a0 x3_4 x4_1 x5_2 x6_3 x7_4 = some r) ∧ Aside0 (kq ≤ k3) ∧ Aside0 (Kd.R k53 53 w' w.heap.size (fun _ => True) v3 x3_4) ∧ Aside0 (Below w.heap.size w w'))
                      case atStart => exact ⟨(x3_3), (0), (by first | rfl | (simp; done) | (simp [*]; done)), H', ⟨Nat.le_refl _⟩, ⟨by (with_reducible repeat (first | apply Kd.R_alloc | apply Kd.R_drewN | apply Kd.R_drew)); exact HO_3.out⟩, ⟨by repeat (first | (with_reducible first | exact HB.out | apply below_alloc | apply pw_below_drewN | apply below_drew1) | exact HB.out)⟩⟩
                      case round =>
                        clear H'
                        try clear c2
                        try clear c2b0
                        try clear p2
                        try clear c3
                        try clear c3b0
                        try clear c4
                        try clear c4b0
                        try clear c4b1
                        try clear c5
                        try clear c5b0
                        try clear p2
                        obtain ⟨x3_4, x7_4, rfl, HA, HK4, HO_3, HB⟩ := hrel
                        cases gk with
                        | zero => exact absurd HA.out (by simp [ring_Pairs.l3])
                        | succ k4 =>
                          have H := HA.out
                          clear HA
                          simp only [ring_Pairs.l3] at H
                          have HC6 := Aside0.mk H
                          clear H
                          go_upto_region 12 with (fail)
                          repeat (go_quiet (fail); go_upto_region 12 with (fail))
                          go_cut [41] (fun v41 wc => ∃ (kq : Nat) (x41_5 : Bool), v41 = .bool x41_5 ∧ Aside0 (ring_Pairs.j4 kq a0 x3_4 x4_1 x5_2 x6_3 x7_4 x41_5 = some r) ∧ Aside0 (kq ≤ k4) ∧ Aside0 (Kd.R k53 53 wc w.heap.size (fun _ => True) u3 x3_4) ∧ Aside0 (Below w.heap.size w wc))
                          case first =>
                            have H := HC6.out
                            clear HC6
                            by_cases c7 : x7_4 < x5_2
                            · rw [if_pos c7] at H
                              have c7b0 : decide (x7_4 < x5_2) = true := decide_eq_true c7
                              clear c7
                              (first | rw [c7b0] | (simp only [i64_w, i32_w]; rw [c7b0]) | skip)
                              have H' := Aside0.mk H
                              clear H
                              go_wp2
                              repeat (go_quiet (fail); try go_wp2)
                              go_meet
                              case rel => exact ⟨_, (decide ((wrap64 ((wrap64 (x7_4 + x6_3)) + x5_2)) < a0)), (by first | rfl | (simp; done) | (simp [*]; done)), H', ⟨by have := HK1.out; have := HK2.out; have := HK3.out; have := HK4.out; first | omega | exact Nat.le_refl _⟩, ⟨by (with_reducible repeat (first | apply Kd.R_alloc | apply Kd.R_drewN | apply Kd.R_drew)); exact HO_3.out⟩, ⟨by repeat (first | (with_reducible first | exact HB.out | apply below_alloc | apply pw_below_drewN | apply below_drew1) | exact HB.out)⟩⟩
                            · rw [if_neg c7] at H
                              have c7b0 : decide (x7_4 < x5_2) = false := decide_eq_false c7
                              clear c7
                              (first | rw [c7b0] | (simp only [i64_w, i32_w]; rw [c7b0]) | skip)
                              have H' := Aside0.mk H
                              clear H
                              go_wp2
                              repeat (go_quiet (fail); try go_wp2)
                              go_meet
                              case rel => exact ⟨_, (false), (by first | rfl | (simp; done) | (simp [*]; done)), H', ⟨by have := HK1.out; have := HK2.out; have := HK3.out; have := HK4.out; first | omega | exact Nat.le_refl _⟩, ⟨by (with_reducible repeat (first | apply Kd.R_alloc | apply Kd.R_drewN | apply Kd.R_drew)); exact HO_3.out⟩, ⟨by repeat (first | (with_reducible first | exact HB.out | apply below_alloc | apply pw_below_drewN | apply below_drew1) | exact HB.out)⟩⟩
                          case rest =>
                            clear HC6
                            try clear c2
                            try clear c2b0
                            try clear p2
                            try clear c3
                            try clear c3b0
                            try clear c4
                            try clear c4b0
                            try clear c4b1
                            try clear c5
                            try clear c5b0
                            try clear p6
                            try clear c7
                            try clear c7b0
                            try clear p2
                            obtain ⟨kq, x41_5, rfl, HA, HJ5, HO_3, HB⟩ := hcut
                            cases kq with
                            | zero => exact absurd HA.out (by simp [ring_Pairs.j4])
                            | succ kj5 =>
                              have H := HA.out
                              clear HA
                              simp only [ring_Pairs.j4] at H
                              by_cases c8 : x41_5 = true
                              · subst c8
                                have H1 : (if (wrap64 (2 * x4_1)) = 0 then (none) else (if (wrap64 (Int.tdiv (wrap64 (x7_4 + x6_3)) (wrap64 (2 * x4_1)))) = (wrap64 (Int.tdiv (wrap64 ((wrap64 (x7_4 + x6_3)) + x5_2)) (wrap64 (2 * x4_1)))) then (if x3_4.length < 8796093022208 then (ring_Pairs.l3 kj5 a0 (x3_4 ++ [(⟨wrap64 (x7_4 + x6_3), wrap64 ((wrap64 (x7_4 + x6_3)) + x5_2)⟩ : S53)]) x4_1 x5_2 x6_3 (wrap64 (x7_4 + 1))) else (none)) else (ring_Pairs.l3 kj5 a0 x3_4 x4_1 x5_2 x6_3 (wrap64 (x7_4 + 1))))) = some r := by rw [if_pos rfl] at H; exact H
                                clear H
                                have H := H1
                                clear H1
                                by_cases c9 : (wrap64 (2 * x4_1)) = 0
                                · rw [if_pos c9] at H
                                  exact absurd H (by simp)
                                · rw [if_neg c9] at H
                                  have c9b0 : ((wrap64 (2 * x4_1)) == 0) = false := beq_eq_false_iff_ne.mpr c9
                                  have c9b1 : ((wrap64 (2 * x4_1)) != 0) = true := bne_iff_ne.mpr c9
                                  by_cases c10 : (wrap64 (Int.tdiv (wrap64 (x7_4 + x6_3)) (wrap64 (2 * x4_1)))) = (wrap64 (Int.tdiv (wrap64 ((wrap64 (x7_4 + x6_3)) + x5_2)) (wrap64 (2 * x4_1))))
                                  · rw [if_pos c10] at H
                                    have c10b0 : ((wrap64 (Int.tdiv (wrap64 (x7_4 + x6_3)) (wrap64 (2 * x4_1)))) == (wrap64 (Int.tdiv (wrap64 ((wrap64 (x7_4 + x6_3)) + x5_2)) (wrap64 (2 * x4_1))))) = true := beq_iff_eq.mpr c10
                                    have c10b1 : ((wrap64 (Int.tdiv (wrap64 (x7_4 + x6_3)) (wrap64 (2 * x4_1)))) != (wrap64 (Int.tdiv (wrap64 ((wrap64 (x7_4 + x6_3)) + x5_2)) (wrap64 (2 * x4_1))))) = false := bne_eq_false_iff_eq.mpr c10
                                    clear c10
                                    by_cases c11 : x3_4.length < 8796093022208
                                    · rw [if_pos c11] at H
                                      have LMc11 := Aside0.mk c11
                                      clear c11
                                      obtain ⟨y101, hy101⟩ : ∃ y_ : List (S53), y_ = (x3_4 ++ [(⟨wrap64 (x7_4 + x6_3), wrap64 ((wrap64 (x7_4 + x6_3)) + x5_2)⟩ : S53)]) := ⟨_, rfl⟩
                                      replace H : (ring_Pairs.l3 kj5 a0 y101 x4_1 x5_2 x6_3 (wrap64 (x7_4 + 1))) = some r := by first | (rw [hy101]; with_reducible exact H) | (have H2_ := (Option.bind_some _ _).symm.trans H; rw [hy101]; with_reducible exact H2_) | (have H2_ := (Option.bind_some _ _).symm.trans H; with_reducible exact H2_) | with_reducible exact H | (rw [hy101]; exact H) | exact H
                                      have Ny101 := Aside0.mk hy101
                                      clear hy101
                                      have H' := Aside0.mk H
                                      clear H
                                      go_wp2_with (first | ((with_reducible refine gate_builtin (b := .append) (xs := #[.tmp 59, .tmp 69]) rfl ?_); at_builtin; refine Kd.R_append k53 (w0 := w) w.heap.size rfl (.tmp 59) (.tmp 69) 22 53 (.agg #[(.int .i64 0), (.int .i64 0)]) 16 rfl Try.underlying22 info53 rfl (by decide) (by omega) u3 x3_4 (⟨wrap64 (x7_4 + x6_3), wrap64 ((wrap64 (x7_4 + x6_3)) + x5_2)⟩ : S53) [.int .i64 (wrap64 (x7_4 + x6_3)), .int .i64 (wrap64 ((wrap64 (x7_4 + x6_3)) + x5_2))] (fun _ => True) (fun _ => False) rfl rfl ?aP (fun _ hk => hk.elim) ?aF ?aO ?aB ?aS ?aL ?_; (case aP => exact k53_mkM _ _ _ (⟨wrap64 (x7_4 + x6_3), wrap64 ((wrap64 (x7_4 + x6_3)) + x5_2)⟩ : S53)); (case aB => exact (by repeat (first | (with_reducible first | exact HB.out | apply below_alloc | apply pw_below_drewN | apply below_drew1) | exact HB.out))); (case aF => exact (fun _ _ => trivial)); (case aO => exact (by (with_reducible repeat (first | apply Kd.R_alloc | apply Kd.R_drewN | apply Kd.R_drew)); exact HO_3.out)); (case aS => exact (below_size (by repeat (first | (with_reducible first | exact HB.out | apply below_alloc | apply pw_below_drewN | apply below_drew1) | exact HB.out)))); (case aL => have := LMc11.out; omega); intro v102 w12 ho hb hg hat; rw [← Ny101.out] at ho; have n0_ := Aside0.mk (hb); have n1_ := Aside0.mk (ho); clear HB; clear HO_3; have HB := n0_; have HO103 := n1_; clear n0_ n1_; clear ho hb hg hat))
                                      repeat (go_quiet (first | ((with_reducible refine gate_builtin (b := .append) (xs := #[.tmp 59, .tmp 69]) rfl ?_); at_builtin; refine Kd.R_append k53 (w0 := w) w.heap.size rfl (.tmp 59) (.tmp 69) 22 53 (.agg #[(.int .i64 0), (.int .i64 0)]) 16 rfl Try.underlying22 info53 rfl (by decide) (by omega) u3 x3_4 (⟨wrap64 (x7_4 + x6_3), wrap64 ((wrap64 (x7_4 + x6_3)) + x5_2)⟩ : S53) [.int .i64 (wrap64 (x7_4 + x6_3)), .int .i64 (wrap64 ((wrap64 (x7_4 + x6_3)) + x5_2))] (fun _ => True) (fun _ => False) rfl rfl ?aP (fun _ hk => hk.elim) ?aF ?aO ?aB ?aS ?aL ?_; (case aP => exact k53_mkM _ _ _ (⟨wrap64 (x7_4 + x6_3), wrap64 ((wrap64 (x7_4 + x6_3)) + x5_2)⟩ : S53)); (case aB => exact (by repeat (first | (with_reducible first | exact HB.out | apply below_alloc | apply pw_below_drewN | apply below_drew1) | exact HB.out))); (case aF => exact (fun _ _ => trivial)); (case aO => exact (by (with_reducible repeat (first | apply Kd.R_alloc | apply Kd.R_drewN | apply Kd.R_drew)); exact HO_3.out)); (case aS => exact (below_size (by repeat (first | (with_reducible first | exact HB.out | apply below_alloc | apply pw_below_drewN | apply below_drew1) | exact HB.out)))); (case aL => have := LMc11.out; omega); intro v102 w12 ho hb hg hat; rw [← Ny101.out] at ho; have n0_ := Aside0.mk (hb); have n1_ := Aside0.mk (ho); clear HB; clear HO_3; have HB := n0_; have HO103 := n1_; clear n0_ n1_; clear ho hb hg hat)); try go_wp2_with (first | ((with_reducible refine gate_builtin (b := .append) (xs := #[.tmp 59, .tmp 69]) rfl ?_); at_builtin; refine Kd.R_append k53 (w0 := w) w.heap.size rfl (.tmp 59) (.tmp 69) 22 53 (.agg #[(.int .i64 0), (.int .i64 0)]) 16 rfl Try.underlying22 info53 rfl (by decide) (by omega) u3 x3_4 (⟨wrap64 (x7_4 + x6_3), wrap64 ((wrap64 (x7_4 + x6_3)) + x5_2)⟩ : S53) [.int .i64 (wrap64 (x7_4 + x6_3)), .int .i64 (wrap64 ((wrap64 (x7_4 + x6_3)) + x5_2))] (fun _ => True) (fun _ => False) rfl rfl ?aP (fun _ hk => hk.elim) ?aF ?aO ?aB ?aS ?aL ?_; (case aP => exact k53_mkM _ _ _ (⟨wrap64 (x7_4 + x6_3), wrap64 ((wrap64 (x7_4 + x6_3)) + x5_2)⟩ : S53)); (case aB => exact (by repeat (first | (with_reducible first | exact HB.out | apply below_alloc | apply pw_below_drewN | apply below_drew1) | exact HB.out))); (case aF => exact (fun _ _ => trivial)); (case aO => exact (by (with_reducible repeat (first | apply Kd.R_alloc | apply Kd.R_drewN | apply Kd.R_drew)); exact HO_3.out)); (case aS => exact (below_size (by repeat (first | (with_reducible first | exact HB.out | apply below_alloc | apply pw_below_drewN | apply below_drew1) | exact HB.out)))); (case aL => have := LMc11.out; omega); intro v102 w12 ho hb hg hat; rw [← Ny101.out] at ho; have n0_ := Aside0.mk (hb); have n1_ := Aside0.mk (ho); clear HB; clear HO_3; have HB := n0_; have HO103 := n1_; clear n0_ n1_; clear ho hb hg hat)))
                                      go_roundg kj5
                                      case measure => have := HK1.out; have := HK2.out; have := HK3.out; have := HK4.out; have := HJ5.out; omega
                                      case rel => exact ⟨(y101), (wrap64 (x7_4 + 1)), (by first | rfl | (simp; done) | (simp [*]; done)), H', ⟨by have := HK1.out; have := HK2.out; have := HK3.out; have := HK4.out; have := HJ5.out; omega⟩, ⟨by (with_reducible repeat (first | apply Kd.R_alloc | apply Kd.R_drewN | apply Kd.R_drew)); exact HO103.out⟩, ⟨by repeat (first | (with_reducible first | exact HB.out | apply below_alloc | apply pw_below_drewN | apply below_drew1) | exact HB.out)⟩⟩
                                    · rw [if_neg c11] at H
                                      exact absurd H (by simp)
                                  · rw [if_neg c10] at H
                                    have c10b0 : ((wrap64 (Int.tdiv (wrap64 (x7_4 + x6_3)) (wrap64 (2 * x4_1)))) == (wrap64 (Int.tdiv (wrap64 ((wrap64 (x7_4 + x6_3)) + x5_2)) (wrap64 (2 * x4_1))))) = false := beq_eq_false_iff_ne.mpr c10
                                    have c10b1 : ((wrap64 (Int.tdiv (wrap64 (x7_4 + x6_3)) (wrap64 (2 * x4_1)))) != (wrap64 (Int.tdiv (wrap64 ((wrap64 (x7_4 + x6_3)) + x5_2)) (wrap64 (2 * x4_1))))) = true := bne_iff_ne.mpr c10
                                    have H' := Aside0.mk H
                                    clear H
                                    go_wp2
                                    repeat (go_quiet (fail); try go_wp2)
                                    go_roundg kj5
                                    case measure => have := HK1.out; have := HK2.out; have := HK3.out; have := HK4.out; have := HJ5.out; omega
                                    case rel => exact ⟨(x3_4), (wrap64 (x7_4 + 1)), (by first | rfl | (simp; done) | (simp [*]; done)), H', ⟨by have := HK1.out; have := HK2.out; have := HK3.out; have := HK4.out; have := HJ5.out; omega⟩, ⟨by (with_reducible repeat (first | apply Kd.R_alloc | apply Kd.R_drewN | apply Kd.R_drew)); exact HO_3.out⟩, ⟨by repeat (first | (with_reducible first | exact HB.out | apply below_alloc | apply pw_below_drewN | apply below_drew1) | exact HB.out)⟩⟩
                              · replace c8 := Bool.eq_false_iff.mpr c8
                                subst c8
                                have H1 : (ring_Pairs.l2 kj5 a0 x3_4 x4_1 x5_2 (wrap64 (x6_3 + (wrap64 (2 * x5_2))))) = some r := by rw [if_neg (show ¬ (false = true) by decide)] at H; exact H
                                clear H
                                have H := H1
                                clear H1
                                have H' := Aside0.mk H
                                clear H
                                go_wp2
                                repeat (go_quiet (fail); try go_wp2)
                                go_roundg kj5
                                case measure => have := HK1.out; have := HK2.out; have := HK3.out; have := HK4.out; have := HJ5.out; omega
                                case rel => exact ⟨(x3_4), (wrap64 (x6_3 + (wrap64 (2 * x5_2)))), (by first | rfl | (simp; done) | (simp [*]; done)), H', ⟨by have := HK1.out; have := HK2.out; have := HK3.out; have := HK4.out; have := HJ5.out; omega⟩, ⟨by (with_reducible repeat (first | apply Kd.R_alloc | apply Kd.R_drewN | apply Kd.R_drew)); exact HO_3.out⟩, ⟨by repeat (first | (with_reducible first | exact HB.out | apply below_alloc | apply pw_below_drewN | apply below_drew1) | exact HB.out)⟩⟩
                    · rw [if_neg c5] at H
                      have c5b0 : decide ((wrap64 (x6_3 + x5_2)) < a0) = false := decide_eq_false c5
                      clear c5
                      have H' := Aside0.mk H
                      clear H
                      go_wp2
                      repeat (go_quiet (fail); try go_wp2)
                      go_roundg k3
                      case measure => have := HK1.out; have := HK2.out; have := HK3.out; omega
                      case rel => exact ⟨(x3_3), (wrap64 (Int.tdiv x5_2 2)), (by first | rfl | (simp; done) | (simp [*]; done)), H', ⟨by have := HK1.out; have := HK2.out; have := HK3.out; omega⟩, ⟨by (with_reducible repeat (first | apply Kd.R_alloc | apply Kd.R_drewN | apply Kd.R_drew)); exact HO_3.out⟩, ⟨by repeat (first | (with_reducible first | exact HB.out | apply below_alloc | apply pw_below_drewN | apply below_drew1) | exact HB.out)⟩⟩
            · rw [if_neg c3] at H
              have c3b0 : decide (1 ≤ x5_2) = false := decide_eq_false c3
              clear c3
              have H' := Aside0.mk H
              clear H
              go_wp2
              repeat (go_quiet (fail); try go_wp2)
              go_roundg k2
              case measure => have := HK1.out; have := HK2.out; omega
              case rel => exact ⟨(x3_2), (wrap64 (x4_1 * 2)), (by first | rfl | (simp; done) | (simp [*]; done)), H', ⟨by have := HK1.out; have := HK2.out; omega⟩, ⟨by (with_reducible repeat (first | apply Kd.R_alloc | apply Kd.R_drewN | apply Kd.R_drew)); exact HO_3.out⟩, ⟨by repeat (first | (with_reducible first | exact HB.out | apply below_alloc | apply pw_below_drewN | apply below_drew1) | exact HB.out)⟩⟩
      · rw [if_neg c2] at H
        have c2b0 : decide (x4_1 < a0) = false := decide_eq_false c2
        clear c2
        obtain rfl := Option.some.inj H
        go_wp2
        repeat (go_quiet (fail); try go_wp2)
        go_ret
        exact ⟨_, by first | rfl | (simp [errW_none, errW_some] <;> rfl) | (simp [*, errW_none, errW_some] <;> rfl), by (with_reducible repeat (first | apply Kd.R_alloc | apply Kd.R_drewN | apply Kd.R_drew)); exact HO_3.out, by repeat (first | (with_reducible first | exact HB.out | apply below_alloc | apply pw_below_drewN | apply below_drew1) | exact HB.out)⟩

/-! ### sorter_Network: function 11 -/
def sorter_Network.f (k : Nat) (a0 : Int) : Option ((List (S53)) × Int) := if a0 < 0 then (some (([] : List (S53)), 2)) else (if a0 > 32 then (some (([] : List (S53)), 2)) else ((ring_Pairs.f k a0).bind fun t104 => (some (t104, 0))))
theorem sorter_Network.mono : ∀ a0 k, LeO (sorter_Network.f k a0) (sorter_Network.f (k + 1) a0) := by
  intro a0 k
  unfold sorter_Network.f
  repeat' first
      | (with_reducible exact ring_Pairs.mono _ _)
      | (with_reducible exact LeO.refl _)
      | (with_reducible exact LeO.none _)
      | (with_reducible refine LeO.ite ?_ ?_)
      | (with_reducible refine LeO.bind ?_ (fun _ => ?_))
      | exact ring_Pairs.mono _ _
      | exact LeO.none _
      | refine LeO.ite ?_ ?_
      | refine LeO.bind ?_ (fun _ => ?_)
set_option maxHeartbeats 8000000 in
set_option maxRecDepth 100000 in
theorem sorter_Network.calls (k : Nat) (a0 : Int) (r1 : List (S53)) (r2 : Int) (w : World) (h : sorter_Network.f k a0 = some (r1, r2)) :
    Calls Try.prog 11 #[.int .i64 a0] w fun e w' => ∃ v0_ : Value, e = .returned (.tuple #[v0_, .int .i64 r2]) ∧ Kd.R k53 53 w' w.heap.size (fun _ => True) v0_ r1 ∧ Below w.heap.size w w' := by
  have HB := Aside0.mk (Below.refl w.heap.size w)
  have H : (if a0 < 0 then (some (([] : List (S53)), 2)) else (if a0 > 32 then (some (([] : List (S53)), 2)) else ((ring_Pairs.f k a0).bind fun t104 => (some (t104, 0))))) = some (r1, r2) := h
  clear h
  by_cases c2 : a0 < 0
  · rw [if_pos c2] at H
    have c2b0 : decide (a0 < 0) = true := decide_eq_true c2
    clear c2
    simp only [Option.some.injEq, Prod.mk.injEq] at H
    obtain ⟨rfl, rfl⟩ := H
    go_enter Try.func11, Try.ntmps11
    go_wp2
    go_ret2
    exact ⟨_, by first | rfl | (simp [errW_none, errW_some] <;> rfl) | (simp [*, errW_none, errW_some] <;> rfl), by first | exact Kd.R_nil _ _ _ _ _ | exact Kd.N_nil _ _ _ _ _ | exact Kd.V_nil _ _ _ _ _ | exact Kd.Q_nil _ _ _ _ _ | exact Kd.S_nil _ _ _ _ _, by repeat (first | (with_reducible first | exact HB.out | apply below_alloc | apply pw_below_drewN | apply below_drew1) | exact HB.out)⟩
  · rw [if_neg c2] at H
    have c2b0 : decide (a0 < 0) = false := decide_eq_false c2
    clear c2
    by_cases c3 : a0 > 32
    · rw [if_pos c3] at H
      have c3b0 : decide (32 < a0) = true := decide_eq_true c3
      clear c3
      simp only [Option.some.injEq, Prod.mk.injEq] at H
      obtain ⟨rfl, rfl⟩ := H
      go_enter Try.func11, Try.ntmps11
      go_wp2
      go_ret2
      exact ⟨_, by first | rfl | (simp [errW_none, errW_some] <;> rfl) | (simp [*, errW_none, errW_some] <;> rfl), by first | exact Kd.R_nil _ _ _ _ _ | exact Kd.N_nil _ _ _ _ _ | exact Kd.V_nil _ _ _ _ _ | exact Kd.Q_nil _ _ _ _ _ | exact Kd.S_nil _ _ _ _ _, by repeat (first | (with_reducible first | exact HB.out | apply below_alloc | apply pw_below_drewN | apply below_drew1) | exact HB.out)⟩
    · rw [if_neg c3] at H
      have c3b0 : decide (32 < a0) = false := decide_eq_false c3
      clear c3
      replace H := Option.bind_eq_some_iff.mp H
      obtain ⟨t104, A40, H⟩ := H
      replace H : (some (t104, 0)) = some (r1, r2) := H
      have A4 := Aside0.mk A40
      clear A40
      simp only [Option.some.injEq, Prod.mk.injEq] at H
      obtain ⟨rfl, rfl⟩ := H
      go_enter Try.func11, Try.ntmps11
      go_wp2_with (first | ((with_reducible refine gate_callee (f := 27) rfl ?_); refine goesL_ (some 11) rfl rfl Try.func27 (by kernel_rfl) rfl #[.int .i64 a0] rfl (by (try simp only [List.map_toArray, List.map_cons, List.map_nil]); first | done | rfl | (simp only [List.length_drop, List.length_take]; rfl)) ?_; (with_reducible refine (ring_Pairs.calls k a0 t104 _ A4.out).mono ?_); rintro e w5 ⟨v105, rfl, ho0, hb⟩; refine ⟨_, rfl, ?_⟩; have n0_ := Aside0.mk (Kd.R_lower ho0 (below_size (by repeat (first | (with_reducible first | exact HB.out | apply below_alloc | apply pw_below_drewN | apply below_drew1) | exact HB.out)))); have n1_ := Aside0.mk (below_step (by repeat (first | (with_reducible first | exact HB.out | apply below_alloc | apply pw_below_drewN | apply below_drew1) | exact HB.out)) hb); clear HB; have HO106 := n0_; have HB := n1_; clear n0_ n1_; (try clear hb); (try clear hb2); (try clear hk); (try clear hi); (try clear ho0)))
      go_ret2
      exact ⟨_, by first | rfl | (simp [errW_none, errW_some] <;> rfl) | (simp [*, errW_none, errW_some] <;> rfl), by (with_reducible repeat (first | apply Kd.R_alloc | apply Kd.R_drewN | apply Kd.R_drew)); exact HO106.out, by repeat (first | (with_reducible first | exact HB.out | apply below_alloc | apply pw_below_drewN | apply below_drew1) | exact HB.out)⟩

end Go.Proofs.Ytmgjohlaoflebaa.Sb
