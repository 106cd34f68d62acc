/- Functions of the program, each with its walk: juntoref03_Solve. (Made by this session's own program out of what the kit's print wrote; no text of the print.) -/
import Derived.Test.YtfdkhkajehopkaaMb0
import Derived.Test.YtfdkhkajehopkaaMbFRef3Beside
import Derived.Test.YtfdkhkajehopkaaMbG2
import Derived.Test.YtfdkhkajehopkaaMbRefReduce
namespace Go.Proofs.Ytfdkhkajehopkaa.Mb
open Go.RowKit Go.Proofs.YtfdkhkajehopkaaW.PrintWords Go.Proofs.YtfdkhkajehopkaaW.PrintLast Go.Proofs.YtfdkhkajehopkaaW.PrintMore
attribute [local go_sem] max2_int min2_int max_two min_two max_three min_three max_four min_four   -- for this text's walks alone
set_option linter.unusedVariables false
set_option linter.unusedSimpArgs false

/-! ### juntoref03_Solve: function 28 -/
mutual
def juntoref03_Solve.l0 : Nat → Int → List (List Int) → List (List Int) → List Int → Int → Int → Option (List Int × Bool)
  | 0, _, _, _, _, _, _ => none
  | k + 1, x0, x1, x8, x17, x18, x19 => if x19 < x18 then (if 0 ≤ x19 then (if x19 < (x17.length : Int) then (if x8.length < 5864062014805 then (juntoref03_Solve.l0 k x0 x1 (x8 ++ [(([rd x17 x19] : List Int))]) x17 x18 (wrap64 (x19 + 1))) else (none)) else (none)) else (none)) else (if 0 < (x1.length : Int) then ((juntoref03_beside.f k x1 x8).bind fun t183 => ((juntoref03_Reduce.f k x0 t183 ((rd_L1 x1 0).length : Int)).bind fun bt186 => (if 0 ≤ ((rd_L1 x1 0).length : Int) then (if (((rd_L1 x1 0).length : Int) : Int).toNat ≤ 35184372088832 then (juntoref03_Solve.l1 k ((rd_L1 x1 0).length : Int) bt186.2 (List.replicate (((rd_L1 x1 0).length : Int) : Int).toNat 0) bt186.1 (bt186.1.length : Int) 0) else (none)) else (none)))) else (none))
def juntoref03_Solve.l1 : Nat → Int → List Int → List Int → List (List Int) → Int → Int → Option (List Int × Bool)
  | 0, _, _, _, _, _, _ => none
  | k + 1, x11, x13, x14, x44, x45, x46 => if x46 < x45 then (if 0 ≤ x46 then (if x46 < (x44.length : Int) then (if x46 < (x13.length : Int) then (if 0 ≤ x11 then (if x11 < ((rd_L1 x44 x46).length : Int) then (if 0 ≤ (rd x13 x46) then (if (rd x13 x46) < (x14.length : Int) then (juntoref03_Solve.l1 k x11 x13 (x14.set ((rd x13 x46) : Int).toNat (rd (rd_L1 x44 x46) x11)) x44 x45 (wrap64 (x46 + 1))) else (none)) else (none)) else (none)) else (none)) else (if 0 ≤ x11 then (if x11 < ((rd_L1 x44 x46).length : Int) then (if (rd (rd_L1 x44 x46) x11) = 0 then (juntoref03_Solve.l1 k x11 x13 x14 x44 x45 (wrap64 (x46 + 1))) else (some (([] : List Int), false))) else (none)) else (none))) else (none)) else (none)) else (some (x14, true))
end
def juntoref03_Solve.f (k : Nat) (a0 : Int) (l1 : List (List Int)) (l2 : List Int) : Option (List Int × Bool) := juntoref03_Solve.l0 k a0 l1 ([] : List (List Int)) l2 (l2.length : Int) 0
theorem juntoref03_Solve.mono_l : ∀ k, (∀ y0 y1 y2 y3 y4 y5, LeO (juntoref03_Solve.l0 k y0 y1 y2 y3 y4 y5) (juntoref03_Solve.l0 (k + 1) y0 y1 y2 y3 y4 y5)) ∧ (∀ y0 y1 y2 y3 y4 y5, LeO (juntoref03_Solve.l1 k y0 y1 y2 y3 y4 y5) (juntoref03_Solve.l1 (k + 1) y0 y1 y2 y3 y4 y5))
  | 0 => ⟨fun _ _ _ _ _ _ r h => by simp [juntoref03_Solve.l0] at h, fun _ _ _ _ _ _ r h => by simp [juntoref03_Solve.l1] at h⟩
  | k + 1 => by
    obtain ⟨ih0, ih1⟩ := juntoref03_Solve.mono_l k
    refine ⟨?_, ?_⟩
    · intro y0 y1 y2 y3 y4 y5
      unfold juntoref03_Solve.l0
      repeat' first
      | (with_reducible exact ih0 _ _ _ _ _ _)
      | (with_reducible exact ih1 _ _ _ _ _ _)
      | (with_reducible exact juntoref03_Reduce.mono _ _ _ _)
      | (with_reducible exact juntoref03_beside.mono _ _ _)
      | (with_reducible exact LeO.refl _)
      | (with_reducible exact LeO.none _)
      | (with_reducible refine LeO.ite ?_ ?_)
      | (with_reducible refine LeO.bind ?_ (fun _ => ?_))
      | exact ih0 _ _ _ _ _ _
      | exact ih1 _ _ _ _ _ _
      | exact juntoref03_Reduce.mono _ _ _ _
      | exact juntoref03_beside.mono _ _ _
      | exact LeO.none _
      | refine LeO.ite ?_ ?_
      | refine LeO.bind ?_ (fun _ => ?_)
    · intro y0 y1 y2 y3 y4 y5
      unfold juntoref03_Solve.l1
      repeat' first
      | (with_reducible exact ih0 _ _ _ _ _ _)
      | (with_reducible exact ih1 _ _ _ _ _ _)
      | (with_reducible exact juntoref03_Reduce.mono _ _ _ _)
      | (with_reducible exact juntoref03_beside.mono _ _ _)
      | (with_reducible exact LeO.refl _)
      | (with_reducible exact LeO.none _)
      | (with_reducible refine LeO.ite ?_ ?_)
      | (with_reducible refine LeO.bind ?_ (fun _ => ?_))
      | exact ih0 _ _ _ _ _ _
      | exact ih1 _ _ _ _ _ _
      | exact juntoref03_Reduce.mono _ _ _ _
      | exact juntoref03_beside.mono _ _ _
      | exact LeO.none _
      | refine LeO.ite ?_ ?_
      | refine LeO.bind ?_ (fun _ => ?_)
theorem juntoref03_Solve.mono : ∀ a0 a1 a2 k, LeO (juntoref03_Solve.f k a0 a1 a2) (juntoref03_Solve.f (k + 1) a0 a1 a2) := by
  intro a0 a1 a2 k
  obtain ⟨ih0, ih1⟩ := juntoref03_Solve.mono_l k
  unfold juntoref03_Solve.f
  repeat' first
      | (with_reducible exact ih0 _ _ _ _ _ _)
      | (with_reducible exact ih1 _ _ _ _ _ _)
      | (with_reducible exact juntoref03_Reduce.mono _ _ _ _)
      | (with_reducible exact juntoref03_beside.mono _ _ _)
      | (with_reducible exact LeO.refl _)
      | (with_reducible exact LeO.none _)
      | (with_reducible refine LeO.ite ?_ ?_)
      | (with_reducible refine LeO.bind ?_ (fun _ => ?_))
      | exact ih0 _ _ _ _ _ _
      | exact ih1 _ _ _ _ _ _
      | exact juntoref03_Reduce.mono _ _ _ _
      | exact juntoref03_beside.mono _ _ _
      | exact LeO.none _
      | refine LeO.ite ?_ ?_
      | refine LeO.bind ?_ (fun _ => ?_)
def juntoref03_Solve.T14 : Bool × List (List Nat × List Nat) := (true, [([], []), ([], []), ([], []), ([1, 2], [1, 2]), ([3], [3]), ([], []), ([], []), ([5, 6], [5, 6]), ([7], [7]), ([0, 4, 0, 1, 2, 3, 4, 5, 6, 7, 8], [0, 4]), ([9, 8, 0, 1, 2, 3, 4, 5, 6, 7, 8], [8, 9])])
def juntoref03_Solve.B14 : List Nat := [0, 0, 0, 6, 14, 0, 0, 96, 224, 511, 1023]
theorem juntoref03_Solve.tab14 : rtab .any (opsOf Try.f28 14) = juntoref03_Solve.T14 := by kernel_rfl
theorem juntoref03_Solve.bits14 : waitsOk juntoref03_Solve.T14.2 juntoref03_Solve.B14 = true := by kernel_rfl
set_option maxHeartbeats 8000000 in
set_option maxRecDepth 100000 in
theorem juntoref03_Solve.calls (k : Nat) (a0 : Int) (A1 : Option Addr) (c1 : Nat) (l1 : List (List Int)) (A2 : Option Addr) (c2 : Nat) (l2 : List Int) (r1 : List Int) (r2 : Bool) (w : World) (hr1 : Kd.C (Kd.slice 22 (Kd.int .u64)) w A1 l1.length l1) (hc1 : l1.length ≤ c1) (hr2 : Kd.C (Kd.int .u64) w A2 l2.length l2) (hc2 : l2.length ≤ c2) (h : juntoref03_Solve.f k a0 l1 l2 = some (r1, r2)) :
    Calls Try.prog 28 #[.int .u64 a0, .slice A1 l1.length c1, .slice A2 l2.length c2] w fun e w' => ∃ v0_ : Value, e = .returned (.tuple #[v0_, .bool r2]) ∧ Kd.R (Kd.int .u64) 22 w' w.heap.size (fun _ => True) v0_ r1 ∧ Below w.heap.size w w' := by
  have HR1 := Aside0.mk hr1
  have HC1 := Aside0.mk hc1
  clear hr1 hc1
  have HR2 := Aside0.mk hr2
  have HC2 := Aside0.mk hc2
  clear hr2 hc2
  have HB := Aside0.mk (Below.refl w.heap.size w)
  have H : (juntoref03_Solve.l0 k a0 l1 ([] : List (List Int)) l2 (l2.length : Int) 0) = some (r1, r2) := h
  clear h
  have H' := Aside0.mk H
  clear H
  go_enter Try.func28, Try.ntmps28
  go_wp2
  go_loopg [8, 19] k (fun kq v8 v19 w' => ∃ (x8_1 : List (List Int)) (x19_1 : Int), v19 = .int .i64 x19_1 ∧ Aside0 (juntoref03_Solve.l0 kq a0 l1 x8_1 l2 (l2.length : Int) x19_1 = some (r1, r2)) ∧ Aside0 (kq ≤ k) ∧ Aside0 (Kd.S (Kd.slice 22 (Kd.int .u64)) 33 w' w.heap.size (fun _ => True) v8 x8_1) ∧ Aside0 (Below w.heap.size w w'))
  case atStart => exact ⟨(([] : List (List Int))), (0), (by first | rfl | (simp; done) | (simp [*]; done)), H', ⟨Nat.le_refl _⟩, ⟨by first | exact Kd.S_nil _ _ _ _ _ | exact Kd.N_nil _ _ _ _ _ | exact Kd.V_nil _ _ _ _ _ | exact Kd.Q_nil _ _ _ _ _ | exact Kd.R_nil _ _ _ _ _⟩, ⟨by repeat (first | (with_reducible first | exact HB.out | apply below_alloc | apply pw_below_drewN | apply below_drew1) | exact HB.out)⟩⟩
  case round =>
    clear H'
    try clear c1
    try clear c2
    try clear p2
    obtain ⟨x8_1, x19_1, rfl, HA, HK1, HO_8, HB⟩ := hrel
    cases gk with
    | zero => exact absurd HA.out (by simp [juntoref03_Solve.l0])
    | succ k1 =>
      have H := HA.out
      clear HA
      simp only [juntoref03_Solve.l0] at H
      by_cases c4 : x19_1 < (l2.length : Int)
      · rw [if_pos c4] at H
        have c4b0 : decide (x19_1 < (l2.length : Int)) = true := decide_eq_true c4
        clear c4
        by_cases c5 : 0 ≤ x19_1
        · rw [if_pos c5] at H
          have c5b0 : decide (0 ≤ x19_1) = true := decide_eq_true c5
          clear c5
          by_cases c6 : x19_1 < (l2.length : Int)
          · rw [if_pos c6] at H
            have c6b0 : decide (x19_1 < (l2.length : Int)) = true := decide_eq_true c6
            clear c6
            obtain ⟨y176, hy176⟩ : ∃ y_ : List Int, y_ = (([rd l2 x19_1] : List Int)) := ⟨_, rfl⟩
            replace H : (if x8_1.length < 5864062014805 then (juntoref03_Solve.l0 k1 a0 l1 (x8_1 ++ [y176]) l2 (l2.length : Int) (wrap64 (x19_1 + 1))) else (none)) = some (r1, r2) := by first | (rw [hy176]; with_reducible exact H) | (have H2_ := (Option.bind_some _ _).symm.trans H; rw [hy176]; with_reducible exact H2_) | (have H2_ := (Option.bind_some _ _).symm.trans H; with_reducible exact H2_) | with_reducible exact H | (rw [hy176]; exact H) | exact H
            have Ny176 := Aside0.mk hy176
            clear hy176
            by_cases c7 : x8_1.length < 5864062014805
            · rw [if_pos c7] at H
              have LMc7 := Aside0.mk c7
              clear c7
              obtain ⟨y179, hy179⟩ : ∃ y_ : List (List Int), y_ = (x8_1 ++ [y176]) := ⟨_, rfl⟩
              replace H : (juntoref03_Solve.l0 k1 a0 l1 y179 l2 (l2.length : Int) (wrap64 (x19_1 + 1))) = some (r1, r2) := by first | (rw [hy179]; with_reducible exact H) | (have H2_ := (Option.bind_some _ _).symm.trans H; rw [hy179]; with_reducible exact H2_) | (have H2_ := (Option.bind_some _ _).symm.trans H; with_reducible exact H2_) | with_reducible exact H | (rw [hy179]; exact H) | exact H
              have Ny179 := Aside0.mk hy179
              clear hy179
              have H' := Aside0.mk H
              clear H
              have p175 : 0 ≤ (x19_1 : Int) := of_decide_eq_true (by first | (with_reducible assumption) | assumption)
              have q175 : x19_1 < (l2.length : Int) := of_decide_eq_true (by first | (with_reducible assumption) | assumption)
              obtain ⟨ad175, e175, hx175_0⟩ := Kd.at_int HR2.out x19_1 p175 q175
              cases e175
              replace hx175_0 := (HB.out.cell (World.block_lt_of_cell? w _ hx175_0)).trans hx175_0
              replace p175 := eq_true p175
              replace q175 := eq_true q175
              go_wp2_with (first | ((with_reducible refine gate_dst (N := 25) rfl ?_); refine Kd.R_lit (Kd.int .u64) _ 22 ?hg (N := 25) ?hd (xs := ([rd l2 x19_1] : List Int)) (inner := [.int .u64 (rd l2 x19_1)]) (ok := fun _ => True) (okp := fun _ => True) ?hr ?hp (fun _ hk => hk) trivial (Below.refl _ _) (Nat.le_refl _) (by simp) ?_; (case hd => rfl); (case hg => rfl); (case hr => first | (go_simp; done) | (go_simp; rfl)); (case hp => exact (Reps.one (show Kd.M (Kd.int .u64) _ _ _ (rd l2 x19_1) [.int .u64 (rd l2 x19_1)] from rfl) (Reps.none _ _))); intro v177 w8 ho9 hb hg_ hnew_; clear hg_ hnew_; (first | rw [← Ny176.out] at ho9 | (simp only [Int.reduceToNat] at ho9; rw [← Ny176.out] at ho9)); have n0_ := Aside0.mk (Kd.S_elder' (by (with_reducible repeat (first | apply Kd.S_alloc | apply Kd.S_drewN | apply Kd.S_drew)); (first | exact HO_8.out | exact Kd.S_mono HO_8.out (fun _ hk => by repeat' (first | exact hk | exact hk.1 | exact hk.2 | exact hk.1.1 | exact hk.1.2 | exact hk.2.1 | exact hk.2.2 | exact trivial | refine ⟨?_, ?_⟩)))) (Kd.R_base ho9) hb); have n1_ := Aside0.mk (Kd.R_lower ho9 (below_size (by repeat (first | (with_reducible first | exact HB.out | apply below_alloc | apply pw_below_drewN | apply below_drew1) | exact HB.out)))); have n2_ := Aside0.mk (below_step (by repeat (first | (with_reducible first | exact HB.out | apply below_alloc | apply pw_below_drewN | apply below_drew1) | exact HB.out)) hb); clear HO_8; clear HB; have HO_8 := n0_; have HO178 := n1_; have HB := n2_; clear n0_ n1_ n2_; clear hb ho9; obtain ⟨Ao11, co11, eo11⟩ := Kd.R_slice HO178.out; subst eo11) | ((with_reducible refine gate_builtin (b := .append) (xs := #[.tmp 23, .tmp 26]) rfl ?_); at_builtin; refine Kd.S_append (Kd.slice 22 (Kd.int .u64)) (w0 := w) w.heap.size rfl (.tmp 23) (.tmp 26) 23 33 (.slice none 0 0) 24 rfl Try.underlying23 info33 rfl (by decide) (by omega) u8 x8_1 y176 [.slice Ao11 y176.length co11] (fun _ => True) (fun k_ => some k_ = (.slice Ao11 y176.length co11 : Value).ownBlock) rfl rfl ?aP (fun k_ hk_ => ((Kd.R_mono (ok' := fun k_ => ((fun _ => True)) k_ ∧ some k_ ≠ (u8 : Value).ownBlock) (Kd.R_apart' (HO178.out) (Kd.S_typed HO_8.out) (by decide)) (fun k_ hk => ⟨trivial, hk.2⟩))).1 k_ hk_.symm) ?aF ?aO ?aB ?aS ?aL ?_; (case aP => exact Kd.M_row (Kd.R_mono (Kd.R_tight rfl (Kd.R_mono (ok' := fun k_ => ((fun _ => True)) k_ ∧ some k_ ≠ (u8 : Value).ownBlock) (Kd.R_apart' (HO178.out) (Kd.S_typed HO_8.out) (by decide)) (fun k_ hk => ⟨trivial, hk.2⟩))) (fun _ h_ => h_))); (case aB => exact (by repeat (first | (with_reducible first | exact HB.out | apply below_alloc | apply pw_below_drewN | apply below_drew1) | exact HB.out))); (case aF => exact (fun _ _ => trivial)); (case aO => exact (by (with_reducible repeat (first | apply Kd.S_alloc | apply Kd.S_drewN | apply Kd.S_drew)); exact Kd.S_mono HO_8.out (fun k_ hk => ⟨trivial, fun e_ => hk.2 e_⟩))); (case aS => exact (below_size (by repeat (first | (with_reducible first | exact HB.out | apply below_alloc | apply pw_below_drewN | apply below_drew1) | exact HB.out)))); (case aL => have := LMc7.out; omega); intro v180 w10 ho hb hg hat; rw [← Ny179.out] at ho; have n0_ := Aside0.mk (hb); have n1_ := Aside0.mk (ho); clear HB; clear HO_8; clear HO178; have HB := n0_; have HO181 := n1_; clear n0_ n1_; clear ho hb hg hat))
              go_roundg k1
              case measure => have := HK1.out; omega
              case rel => exact ⟨(y179), (wrap64 (x19_1 + 1)), (by first | rfl | (simp; done) | (simp [*]; done)), H', ⟨by have := HK1.out; omega⟩, ⟨by (with_reducible repeat (first | apply Kd.S_alloc | apply Kd.S_drewN | apply Kd.S_drew)); exact HO181.out⟩, ⟨by repeat (first | (with_reducible first | exact HB.out | apply below_alloc | apply pw_below_drewN | apply below_drew1) | exact HB.out)⟩⟩
            · rw [if_neg c7] at H
              exact absurd H (by simp)
          · rw [if_neg c6] at H
            exact absurd H (by simp)
        · rw [if_neg c5] at H
          exact absurd H (by simp)
      · rw [if_neg c4] at H
        have c4b0 : decide (x19_1 < (l2.length : Int)) = false := decide_eq_false c4
        clear c4
        by_cases c12 : 0 < (l1.length : Int)
        · rw [if_pos c12] at H
          have c12b0 : decide (0 < (l1.length : Int)) = true := decide_eq_true c12
          have c12b1 : decide (0 < l1.length) = true := decide_eq_true (by omega)
          clear c12
          replace H := Option.bind_eq_some_iff.mp H
          obtain ⟨t183, A130, H⟩ := H
          replace H : ((juntoref03_Reduce.f k1 a0 t183 ((rd_L1 l1 0).length : Int)).bind fun bt186 => (if 0 ≤ ((rd_L1 l1 0).length : Int) then (if (((rd_L1 l1 0).length : Int) : Int).toNat ≤ 35184372088832 then (juntoref03_Solve.l1 k1 ((rd_L1 l1 0).length : Int) bt186.2 (List.replicate (((rd_L1 l1 0).length : Int) : Int).toNat 0) bt186.1 (bt186.1.length : Int) 0) else (none)) else (none))) = some (r1, r2) := H
          have A13 := Aside0.mk A130
          clear A130
          replace H := Option.bind_eq_some_iff.mp H
          obtain ⟨⟨t186, t187⟩, A140, H⟩ := H
          replace H : (if 0 ≤ ((rd_L1 l1 0).length : Int) then (if (((rd_L1 l1 0).length : Int) : Int).toNat ≤ 35184372088832 then (juntoref03_Solve.l1 k1 ((rd_L1 l1 0).length : Int) t187 (List.replicate (((rd_L1 l1 0).length : Int) : Int).toNat 0) t186 (t186.length : Int) 0) else (none)) else (none)) = some (r1, r2) := H
          have A14 := Aside0.mk A140
          clear A140
          by_cases c15 : 0 ≤ ((rd_L1 l1 0).length : Int)
          · rw [if_pos c15] at H
            have c15b0 := eq_true c15
            have c15b1 : decide (0 ≤ ((rd_L1 l1 0).length : Int)) = true := decide_eq_true c15
            clear c15
            by_cases c16 : (((rd_L1 l1 0).length : Int) : Int).toNat ≤ 35184372088832
            · rw [if_pos c16] at H
              have c16b0 := eq_true c16
              have c16b1 : decide ((((rd_L1 l1 0).length : Int) : Int).toNat ≤ 35184372088832) = true := decide_eq_true c16
              clear c16
              obtain ⟨y192, hy192⟩ : ∃ y_ : List Int, y_ = (List.replicate (((rd_L1 l1 0).length : Int) : Int).toNat 0) := ⟨_, rfl⟩
              replace H : (juntoref03_Solve.l1 k1 ((rd_L1 l1 0).length : Int) t187 y192 t186 (t186.length : Int) 0) = some (r1, r2) := by first | (rw [hy192]; with_reducible exact H) | (have H2_ := (Option.bind_some _ _).symm.trans H; rw [hy192]; with_reducible exact H2_) | (have H2_ := (Option.bind_some _ _).symm.trans H; with_reducible exact H2_) | with_reducible exact H | (rw [hy192]; exact H) | exact H
              have Ny192 := Aside0.mk hy192
              clear hy192
              have H' := Aside0.mk H
              clear H
              have p182 : 0 ≤ (0 : Int) := (by omega)
              have q182 : 0 < (l1.length : Int) := of_decide_eq_true (by first | (with_reducible assumption) | assumption)
              obtain ⟨ad182, A182_0, c182_0, e182, hx182_0, hl182_0, hi182_0⟩ := at_L1 HR1.out 0 p182 q182
              cases e182
              have qi182 : (0 < l1.length) = True := eq_true (by omega)
              (try rw [show ((0 : Int)).toNat = 0 from rfl] at hx182_0)
              (try rw [Addr.add_zero'] at hx182_0)
              replace hx182_0 := (HB.out.cell (World.block_lt_of_cell? w _ hx182_0)).trans hx182_0
              have HR182_0 := Aside0.mk hi182_0
              have HC182_0 := Aside0.mk hl182_0
              clear hi182_0 hl182_0
              replace p182 := eq_true p182
              replace q182 := eq_true q182
              obtain ⟨Ao17, co17, eo17⟩ := Kd.S_slice HO_8.out
              subst eo17
              go_wp2_with (first | ((with_reducible refine gate_callee (f := 60) rfl ?_); refine goesL_ (some 37) rfl rfl Try.func60 (by kernel_rfl) rfl #[.slice (some ad182) l1.length c1, .slice Ao17 x8_1.length co17] rfl (by (try simp only [List.map_toArray, List.map_cons, List.map_nil]); first | done | rfl | (simp only [List.length_drop, List.length_take]; rfl)) ?_; (with_reducible refine (juntoref03_beside.calls k1 _ _ l1 _ _ x8_1 t183 _ ?side1 ?side2 ?side3 ?side4 A13.out).mono ?_); (case side1 => repeat (first | exact (Kd.C_below HR1.out HB.out) | (with_reducible refine Kd.C_alloc ?_ _) | (with_reducible refine Kd.C_drewN ?_ _) | (with_reducible refine Kd.C_drew ?_))); (case side2 => exact HC1.out); (case side3 => repeat (first | exact (Kd.S_reads' HO_8.out).2.2 | (with_reducible refine Kd.C_alloc ?_ _) | (with_reducible refine Kd.C_drewN ?_ _) | (with_reducible refine Kd.C_drew ?_))); (case side4 => exact (Kd.S_reads' HO_8.out).2.1); rintro e w18 ⟨v184, rfl, ho0, hb⟩; refine ⟨_, rfl, ?_⟩; have n0_ := Aside0.mk (Kd.S_elder' (by (with_reducible repeat (first | apply Kd.S_alloc | apply Kd.S_drewN | apply Kd.S_drew)); (first | exact HO_8.out | exact Kd.S_mono HO_8.out (fun _ hk => by repeat' (first | exact hk | exact hk.1 | exact hk.2 | exact hk.1.1 | exact hk.1.2 | exact hk.2.1 | exact hk.2.2 | exact trivial | refine ⟨?_, ?_⟩)))) (Kd.S_base ho0) hb); have n1_ := Aside0.mk (Kd.S_lower (Kd.S_new' ho0 (Kd.S_lt (by (with_reducible repeat (first | apply Kd.S_alloc | apply Kd.S_drewN | apply Kd.S_drew)); (first | exact HO_8.out | exact Kd.S_mono HO_8.out (fun _ hk => by repeat' (first | exact hk | exact hk.1 | exact hk.2 | exact hk.1.1 | exact hk.1.2 | exact hk.2.1 | exact hk.2.2 | exact trivial | refine ⟨?_, ?_⟩)))))) (below_size (by repeat (first | (with_reducible first | exact HB.out | apply below_alloc | apply pw_below_drewN | apply below_drew1) | exact HB.out)))); have n2_ := Aside0.mk (below_step (by repeat (first | (with_reducible first | exact HB.out | apply below_alloc | apply pw_below_drewN | apply below_drew1) | exact HB.out)) hb); clear HO_8; clear HB; have HO_8 := n0_; have HO185 := n1_; have HB := n2_; clear n0_ n1_ n2_; (try clear hb); (try clear hb2); (try clear hk); (try clear hi); (try clear ho0); obtain ⟨Ao19, co19, eo19⟩ := Kd.S_slice HO185.out; subst eo19) | ((with_reducible refine gate_callee (f := 31) rfl ?_); refine goesL_ (some 39) rfl rfl Try.func31 (by kernel_rfl) rfl #[.int .u64 a0, .slice Ao19 t183.length co19, .int .i64 ((rd_L1 l1 0).length : Int)] rfl (by (try simp only [List.map_toArray, List.map_cons, List.map_nil]); first | done | rfl | (simp only [List.length_drop, List.length_take]; rfl)) ?_; (with_reducible refine (juntoref03_Reduce.calls k1 a0 _ _ t183 ((rd_L1 l1 0).length : Int) t186 t187 _ ?side1 ?side2 A14.out).mono ?_); (case side1 => repeat (first | exact (Kd.S_reads' HO185.out).2.2 | (with_reducible refine Kd.C_alloc ?_ _) | (with_reducible refine Kd.C_drewN ?_ _) | (with_reducible refine Kd.C_drew ?_))); (case side2 => exact (Kd.S_reads' HO185.out).2.1); rintro e w20 ⟨v188, v190, rfl, ho0, ho1, hb⟩; refine ⟨_, rfl, ?_⟩; have n0_ := Aside0.mk (Kd.S_elder' (by (with_reducible repeat (first | apply Kd.S_alloc | apply Kd.S_drewN | apply Kd.S_drew)); (first | exact HO_8.out | exact Kd.S_mono HO_8.out (fun _ hk => by repeat' (first | exact hk | exact hk.1 | exact hk.2 | exact hk.1.1 | exact hk.1.2 | exact hk.2.1 | exact hk.2.2 | exact trivial | refine ⟨?_, ?_⟩)))) (Kd.S_base ho0) hb); have n1_ := Aside0.mk (Kd.S_elder' (by (with_reducible repeat (first | apply Kd.S_alloc | apply Kd.S_drewN | apply Kd.S_drew)); (first | exact HO185.out | exact Kd.S_mono HO185.out (fun _ hk => by repeat' (first | exact hk | exact hk.1 | exact hk.2 | exact hk.1.1 | exact hk.1.2 | exact hk.2.1 | exact hk.2.2 | exact trivial | refine ⟨?_, ?_⟩)))) (Kd.S_base ho0) hb); have n2_ := Aside0.mk (Kd.S_lower (Kd.S_new' (Kd.S_new' ho0 (Kd.S_lt (by (with_reducible repeat (first | apply Kd.S_alloc | apply Kd.S_drewN | apply Kd.S_drew)); (first | exact HO_8.out | exact Kd.S_mono HO_8.out (fun _ hk => by repeat' (first | exact hk | exact hk.1 | exact hk.2 | exact hk.1.1 | exact hk.1.2 | exact hk.2.1 | exact hk.2.2 | exact trivial | refine ⟨?_, ?_⟩)))))) (Kd.S_lt (by (with_reducible repeat (first | apply Kd.S_alloc | apply Kd.S_drewN | apply Kd.S_drew)); (first | exact HO185.out | exact Kd.S_mono HO185.out (fun _ hk => by repeat' (first | exact hk | exact hk.1 | exact hk.2 | exact hk.1.1 | exact hk.1.2 | exact hk.2.1 | exact hk.2.2 | exact trivial | refine ⟨?_, ?_⟩)))))) (below_size (by repeat (first | (with_reducible first | exact HB.out | apply below_alloc | apply pw_below_drewN | apply below_drew1) | exact HB.out)))); have n3_ := Aside0.mk (Kd.R_lower ho1 (below_size (by repeat (first | (with_reducible first | exact HB.out | apply below_alloc | apply pw_below_drewN | apply below_drew1) | exact HB.out)))); have n4_ := Aside0.mk (below_step (by repeat (first | (with_reducible first | exact HB.out | apply below_alloc | apply pw_below_drewN | apply below_drew1) | exact HB.out)) hb); clear HO_8; clear HO185; clear HB; have HO_8 := n0_; have HO185 := n1_; have HO189 := n2_; have HO191 := n3_; have HB := n4_; clear n0_ n1_ n2_ n3_ n4_; (try clear hb); (try clear hb2); (try clear hk); (try clear hi); (try clear ho0); (try clear ho1)) | ((with_reducible refine gate_dst (N := 43) rfl ?_); refine Kd.R_make (Kd.int .u64) _ 22 rfl (N := 43) rfl 33 _ _ rfl ((rd_L1 l1 0).length : Int) rfl rfl Try.underlying33 (.int .u64 0) 8 info22 rfl (by decide) (by omega) 0 (ok := fun _ => True) (okp := fun _ => True) rfl (fun _ hk => hk) trivial (of_decide_eq_true (by first | (with_reducible assumption) | assumption)) (Nat.le_trans (Nat.mul_le_mul_right _ (of_decide_eq_true (by first | (with_reducible assumption) | assumption) : ((rd_L1 l1 0).length : Int).toNat ≤ 35184372088832)) (by omega)) (Below.refl _ _) (Nat.le_refl _) ?_; intro v193 w21 ho22 hb hg_ hnew_; clear hg_ hnew_; (first | rw [← Ny192.out] at ho22 | (simp only [Int.reduceToNat] at ho22; rw [← Ny192.out] at ho22)); have n0_ := Aside0.mk (Kd.S_elder' (by (with_reducible repeat (first | apply Kd.S_alloc | apply Kd.S_drewN | apply Kd.S_drew)); (first | exact HO_8.out | exact Kd.S_mono HO_8.out (fun _ hk => by repeat' (first | exact hk | exact hk.1 | exact hk.2 | exact hk.1.1 | exact hk.1.2 | exact hk.2.1 | exact hk.2.2 | exact trivial | refine ⟨?_, ?_⟩)))) (Kd.R_base ho22) hb); have n1_ := Aside0.mk (Kd.S_elder' (by (with_reducible repeat (first | apply Kd.S_alloc | apply Kd.S_drewN | apply Kd.S_drew)); (first | exact HO185.out | exact Kd.S_mono HO185.out (fun _ hk => by repeat' (first | exact hk | exact hk.1 | exact hk.2 | exact hk.1.1 | exact hk.1.2 | exact hk.2.1 | exact hk.2.2 | exact trivial | refine ⟨?_, ?_⟩)))) (Kd.R_base ho22) hb); have n2_ := Aside0.mk (Kd.S_elder' (by (with_reducible repeat (first | apply Kd.S_alloc | apply Kd.S_drewN | apply Kd.S_drew)); (first | exact HO189.out | exact Kd.S_mono HO189.out (fun _ hk => by repeat' (first | exact hk | exact hk.1 | exact hk.2 | exact hk.1.1 | exact hk.1.2 | exact hk.2.1 | exact hk.2.2 | exact trivial | refine ⟨?_, ?_⟩)))) (Kd.R_base ho22) hb); have n3_ := Aside0.mk (Kd.R_below (by (with_reducible repeat (first | apply Kd.R_alloc | apply Kd.R_drewN | apply Kd.R_drew)); (first | exact HO191.out | exact Kd.R_mono HO191.out (fun _ hk => by repeat' (first | exact hk | exact hk.1 | exact hk.2 | exact hk.1.1 | exact hk.1.2 | exact hk.2.1 | exact hk.2.2 | exact trivial | refine ⟨?_, ?_⟩)))) hb); have n4_ := Aside0.mk (Kd.R_lower ho22 (below_size (by repeat (first | (with_reducible first | exact HB.out | apply below_alloc | apply pw_below_drewN | apply below_drew1) | exact HB.out)))); have n5_ := Aside0.mk (below_step (by repeat (first | (with_reducible first | exact HB.out | apply below_alloc | apply pw_below_drewN | apply below_drew1) | exact HB.out)) hb); clear HO_8; clear HO185; clear HO189; clear HO191; clear HB; have HO_8 := n0_; have HO185 := n1_; have HO189 := n2_; have HO191 := n3_; have HO194 := n4_; have HB := n5_; clear n0_ n1_ n2_ n3_ n4_ n5_; clear hb ho22; obtain ⟨Ao23, co23, eo23⟩ := Kd.S_slice HO189.out; subst eo23))
              go_loopg [46] k1 (fun kq v46 w' => ∃ (x14_2 : List Int) (x46_2 : Int), v46 = .int .i64 x46_2 ∧ Aside0 (juntoref03_Solve.l1 kq ((rd_L1 l1 0).length : Int) t187 x14_2 t186 (t186.length : Int) x46_2 = some (r1, r2)) ∧ Aside0 (kq ≤ k1) ∧ Aside0 (Kd.R (Kd.int .i64) 3 w' w.heap.size (fun _ => True) v190 t187) ∧ Aside0 (Kd.R (Kd.int .u64) 22 w' w.heap.size (fun _ => True) v193 x14_2) ∧ Aside0 (Kd.S (Kd.slice 22 (Kd.int .u64)) 33 w' w.heap.size (fun k_ => some k_ ≠ (v193 : Value).ownBlock) (.slice Ao23 t186.length co23) t186) ∧ Aside0 (Below w.heap.size w w'))
              case atStart => exact ⟨(y192), (0), (by first | rfl | (simp; done) | (simp [*]; done)), H', ⟨Nat.le_refl _⟩, ⟨by (with_reducible repeat (first | apply Kd.R_alloc | apply Kd.R_drewN | apply Kd.R_drew)); (first | exact HO191.out | exact Kd.R_mono HO191.out (fun _ hk => by repeat' (first | exact hk | exact hk.1 | exact hk.2 | exact hk.1.1 | exact hk.1.2 | exact hk.2.1 | exact hk.2.2 | exact trivial | refine ⟨?_, ?_⟩)))⟩, ⟨by (with_reducible repeat (first | apply Kd.R_alloc | apply Kd.R_drewN | apply Kd.R_drew)); (first | exact HO194.out | exact Kd.R_mono HO194.out (fun _ hk => by repeat' (first | exact hk | exact hk.1 | exact hk.2 | exact hk.1.1 | exact hk.1.2 | exact hk.2.1 | exact hk.2.2 | exact trivial | refine ⟨?_, ?_⟩)))⟩, ⟨by (with_reducible repeat (first | apply Kd.S_alloc | apply Kd.S_drewN | apply Kd.S_drew)); exact Kd.S_mono HO189.out (fun _ hk => hk.2)⟩, ⟨by repeat (first | (with_reducible first | exact HB.out | apply below_alloc | apply pw_below_drewN | apply below_drew1) | exact HB.out)⟩⟩
              case round =>
                clear H'
                try clear c1
                try clear p1
                try clear q1
                try clear hx1
                try clear qi1
                try clear c2
                try clear p2
                try clear c3
                try clear c4
                try clear c4b0
                try clear c5
                try clear c5b0
                try clear c6
                try clear c6b0
                try clear p6
                try clear c7
                try clear c12
                try clear c12b0
                try clear c12b1
                try clear c15
                try clear c15b0
                try clear c15b1
                try clear c16
                try clear c16b0
                try clear c16b1
                try clear p17
                try clear q17
                try clear hx17
                try clear c18
                try clear p18
                try clear q18
                try clear hx18
                try clear qi18
                try clear hx175_0
                try clear hx182_0
                try clear p175
                try clear p182
                try clear p2
                try clear q175
                try clear q182
                obtain ⟨x14_2, x46_2, rfl, HA, HK2, HO_13, HO_14, HO_44, HB⟩ := hrel
                cases gk with
                | zero => exact absurd HA.out (by simp [juntoref03_Solve.l1])
                | succ k2 =>
                  have H := HA.out
                  clear HA
                  simp only [juntoref03_Solve.l1] at H
                  by_cases c24 : x46_2 < (t186.length : Int)
                  · rw [if_pos c24] at H
                    have c24b0 : decide (x46_2 < (t186.length : Int)) = true := decide_eq_true c24
                    clear c24
                    by_cases c25 : 0 ≤ x46_2
                    · rw [if_pos c25] at H
                      have c25b0 : decide (0 ≤ x46_2) = true := decide_eq_true c25
                      clear c25
                      by_cases c26 : x46_2 < (t186.length : Int)
                      · rw [if_pos c26] at H
                        have c26b0 : decide (x46_2 < (t186.length : Int)) = true := decide_eq_true c26
                        clear c26
                        by_cases c27 : x46_2 < (t187.length : Int)
                        · rw [if_pos c27] at H
                          have c27b0 : decide (x46_2 < (t187.length : Int)) = true := decide_eq_true c27
                          clear c27
                          by_cases c28 : 0 ≤ ((rd_L1 l1 0).length : Int)
                          · rw [if_pos c28] at H
                            have c28b0 : decide (0 ≤ ((rd_L1 l1 0).length : Int)) = true := decide_eq_true c28
                            have c28b1 : decide (0 ≤ (rd_L1 l1 0).length) = true := decide_eq_true (by omega)
                            clear c28
                            by_cases c29 : ((rd_L1 l1 0).length : Int) < ((rd_L1 t186 x46_2).length : Int)
                            · rw [if_pos c29] at H
                              have c29b0 : decide (((rd_L1 l1 0).length : Int) < ((rd_L1 t186 x46_2).length : Int)) = true := decide_eq_true c29
                              have c29b1 : decide ((rd_L1 l1 0).length < (rd_L1 t186 x46_2).length) = true := decide_eq_true (Int.ofNat_lt.mp c29)
                              clear c29
                              by_cases c30 : 0 ≤ (rd t187 x46_2)
                              · rw [if_pos c30] at H
                                have c30b0 : decide (0 ≤ (rd t187 x46_2)) = true := decide_eq_true c30
                                clear c30
                                by_cases c31 : (rd t187 x46_2) < (x14_2.length : Int)
                                · rw [if_pos c31] at H
                                  have c31b0 : decide ((rd t187 x46_2) < (x14_2.length : Int)) = true := decide_eq_true c31
                                  clear c31
                                  obtain ⟨y198, hy198⟩ : ∃ y_ : List Int, y_ = (x14_2.set ((rd t187 x46_2) : Int).toNat (rd (rd_L1 t186 x46_2) ((rd_L1 l1 0).length : Int))) := ⟨_, rfl⟩
                                  replace H : (juntoref03_Solve.l1 k2 ((rd_L1 l1 0).length : Int) t187 y198 t186 (t186.length : Int) (wrap64 (x46_2 + 1))) = some (r1, r2) := by first | (rw [hy198]; with_reducible exact H) | (have H2_ := (Option.bind_some _ _).symm.trans H; rw [hy198]; with_reducible exact H2_) | (have H2_ := (Option.bind_some _ _).symm.trans H; with_reducible exact H2_) | with_reducible exact H | (rw [hy198]; exact H) | exact H
                                  have Ny198 := Aside0.mk hy198
                                  clear hy198
                                  have H' := Aside0.mk H
                                  clear H
                                  have p195 : 0 ≤ (x46_2 : Int) := of_decide_eq_true (by first | (with_reducible assumption) | assumption)
                                  have q195 : x46_2 < (t186.length : Int) := of_decide_eq_true (by first | (with_reducible assumption) | assumption)
                                  obtain ⟨ad195, A195_0, c195_0, e195, hx195_0, hl195_0, hi195_0⟩ := at_L1 (Kd.S_reads' HO_44.out).2.2 x46_2 p195 q195
                                  cases e195
                                  obtain ⟨ce195, hce195, hMe195, hcc195⟩ := Kd.S_get HO_44.out [] x46_2 p195 (by first | exact q195 | exact of_decide_eq_true (by first | (with_reducible assumption) | assumption) | (have e_ := (Kd.S_reads' HO_44.out).1; omega))
                                  obtain ⟨ve195_0, rfl, ge195_0⟩ := hMe195
                                  have hv195_0 := hcc195 0 _ rfl
                                  rw [Nat.add_zero, show ((Kd.slice 22 (Kd.int .u64))).sz = 1 from rfl, Nat.mul_one] at hv195_0
                                  replace hv195_0 := Option.some.inj (hv195_0.symm.trans hx195_0)
                                  rw [hv195_0] at ge195_0
                                  have HL195_0 := Aside0.mk (show Kd.R (Kd.int .u64) 22 _ _ _ _ (rd_L1 t186 x46_2) from ge195_0)
                                  clear hv195_0 ge195_0
                                  clear hcc195 hce195
                                  have HR195_0 := Aside0.mk hi195_0
                                  have HC195_0 := Aside0.mk hl195_0
                                  clear hi195_0 hl195_0
                                  replace p195 := eq_true p195
                                  replace q195 := eq_true q195
                                  obtain ⟨Ao33, co33, eo33⟩ := Kd.R_slice HO_13.out
                                  subst eo33
                                  try go_wp2
                                  have n0_ := Aside0.mk (Kd.R_drew HO_13.out)
                                  have n1_ := Aside0.mk (Kd.R_drew HO_14.out)
                                  have n2_ := Aside0.mk (Kd.S_drew HO_44.out)
                                  have n3_ := Aside0.mk (Kd.R_drew HL195_0.out)
                                  have n4_ := Aside0.mk (Kd.C_drew HR195_0.out)
                                  have n5_ := Aside0.mk (below_drew1 HB.out)
                                  clear HO_13
                                  clear HO_14
                                  clear HO_44
                                  clear HL195_0
                                  clear HR195_0
                                  clear HB
                                  have HO_13 := n0_
                                  have HO_14 := n1_
                                  have HO_44 := n2_
                                  have HL195_0 := n3_
                                  have HR195_0 := n4_
                                  have HB := n5_
                                  clear n0_ n1_ n2_ n3_ n4_ n5_
                                  have p196 : 0 ≤ (x46_2 : Int) := of_decide_eq_true (by first | (with_reducible assumption) | assumption)
                                  have q196 : x46_2 < (t187.length : Int) := of_decide_eq_true (by first | (with_reducible assumption) | assumption)
                                  obtain ⟨ad196, e196, hx196_0⟩ := Kd.at_int (Kd.R_reads' HO_13.out).2.2 x46_2 p196 q196
                                  cases e196
                                  replace p196 := eq_true p196
                                  replace q196 := eq_true q196
                                  have p197 : 0 ≤ (((rd_L1 l1 0).length : Int) : Int) := of_decide_eq_true (by first | (with_reducible assumption) | assumption)
                                  have q197 : ((rd_L1 l1 0).length : Int) < ((rd_L1 t186 x46_2).length : Int) := of_decide_eq_true (by first | (with_reducible assumption) | assumption)
                                  obtain ⟨ad197, e197, hx197_0⟩ := Kd.at_int (by repeat (first | (with_reducible exact HR195_0.out) | (with_reducible refine Kd.C_alloc ?_ _) | (with_reducible refine Kd.C_drewN ?_ _) | (with_reducible refine Kd.C_drew ?_) | exact HR195_0.out)) ((rd_L1 l1 0).length : Int) p197 q197
                                  cases e197
                                  (try simp only [Go.IntWalk.toNatUp] at hx197_0)
                                  replace p197 := eq_true p197
                                  replace q197 := eq_true q197
                                  have p32 : 0 ≤ ((rd t187 x46_2) : Int) := of_decide_eq_true (by first | (with_reducible assumption) | assumption)
                                  have q32 : ((rd t187 x46_2) : Int) < ((x14_2.length : Int) : Int) := of_decide_eq_true (by first | (with_reducible assumption) | assumption)
                                  obtain ⟨go32, co32, eo32, gb32, gl32, cl32, HG32⟩ := Kd.R_form HO_14.out (by omega)
                                  (first | cases eo32 | (injection eo32 with ea_ en_ ec_; (first | subst ea_ | (injection ea_ with ea_; subst ea_)); subst ec_; clear en_))
                                  have GB32 := Aside0.mk gb32
                                  have GG32 := Aside0.mk HG32
                                  clear gb32 gl32 HG32
                                  obtain ⟨hx32_0, hf32_0⟩ := Kd.R_celln 0 HO_14.out ((rd t187 x46_2) : Int) p32 q32
                                  replace p32 := eq_true p32
                                  replace q32 := eq_true q32
                                  have HP35 := Kd.R_putn HO_14.out ((rd t187 x46_2) : Int) (rd (rd_L1 t186 x46_2) ((rd_L1 l1 0).length : Int))
                                  rw [← Ny198.out] at HP35
                                  have HQ35 := Aside0.mk HP35
                                  clear HP35
                                  refine start_ (n := 11) (S := fun w' => w'.cell? (ad196.add (x46_2).toNat) = some (.int .i64 (rd t187 x46_2)) ∧ w'.cell? (ad197.add (rd_L1 l1 0).length) = some (.int .u64 (rd (rd_L1 t186 x46_2) ((rd_L1 l1 0).length : Int)))) (ds := [10]) #[false, false, false, false, false, false, false, false, false, false, false] (by kernel_rfl) rfl rfl ⟨hx196_0, hx197_0⟩ (fun hHeld => ?_); refine with_tabW juntoref03_Solve.tab14 juntoref03_Solve.bits14 (fun HT_ HW_ => ?_)
                                  generalize wr.drew = w34 at HO_13 HO_14 HO_44 HL195_0 HR195_0 HB GG32 HQ35 hf32_0 hx196_0 hx197_0 hx32_0 hHeld ⊢
                                  refine pure_ (i := 0) (N := some 55) (v := ?_) (a' := ?_) #[true, false, false, false, false, false, false, false, false, false, false] rfl rfl (any_of HT_.out (by kernel_rfl)) (fun _ _ _ h => h) (Or.inl ⟨by rfl, ?_⟩) ?_ ?_
                                  rotate_left
                                  · intro w'
                                    go_simp
                                    with_reducible rfl
                                  rotate_left
                                  · simp only [Act.put, List.setIfInBounds_toArray, List.set_cons_zero, List.set_cons_succ, i64_w, i32_w]
                                    rfl
                                  refine pure_ (i := 1) (N := some 56) (v := ?_) (a' := ?_) #[true, true, false, false, false, false, false, false, false, false, false] rfl rfl (any_of HT_.out (by kernel_rfl)) (fun _ _ _ h => h) (Or.inl ⟨by rfl, ?_⟩) ?_ ?_
                                  rotate_left
                                  · intro w'
                                    go_simp
                                    with_reducible rfl
                                  rotate_left
                                  · simp only [Act.put, List.setIfInBounds_toArray, List.set_cons_zero, List.set_cons_succ, i64_w, i32_w]
                                    rfl
                                  refine pure_ (i := 2) (N := some 57) (v := ?_) (a' := ?_) #[true, true, true, false, false, false, false, false, false, false, false] rfl rfl (any_of HT_.out (by kernel_rfl)) (fun _ _ _ h => h) (Or.inl ⟨by rfl, ?_⟩) ?_ ?_
                                  rotate_left
                                  · intro w'
                                    go_simp
                                    with_reducible rfl
                                  rotate_left
                                  · simp only [Act.put, List.setIfInBounds_toArray, List.set_cons_zero, List.set_cons_succ, i64_w, i32_w]
                                    rfl
                                  refine pure_ (i := 3) (N := some 58) (v := ?_) (a' := ?_) #[true, true, true, true, false, false, false, false, false, false, false] rfl rfl (any_of HT_.out (by kernel_rfl)) (fun _ _ _ h => h) (Or.inl ⟨by rfl, ?_⟩) ?_ ?_
                                  rotate_left
                                  · intro w'
                                    go_simp
                                    with_reducible rfl
                                  rotate_left
                                  · simp only [Act.put, List.setIfInBounds_toArray, List.set_cons_zero, List.set_cons_succ, i64_w, i32_w]
                                    rfl
                                  refine pure_ (i := 5) (N := some 60) (v := ?_) (a' := ?_) #[true, true, true, true, false, true, false, false, false, false, false] rfl rfl (any_of HT_.out (by kernel_rfl)) (fun _ _ _ h => h) (Or.inl ⟨by rfl, ?_⟩) ?_ ?_
                                  rotate_left
                                  · intro w'
                                    go_simp
                                    with_reducible rfl
                                  rotate_left
                                  · simp only [Act.put, List.setIfInBounds_toArray, List.set_cons_zero, List.set_cons_succ, i64_w, i32_w]
                                    rfl
                                  refine pure_ (i := 6) (N := some 61) (v := ?_) (a' := ?_) #[true, true, true, true, false, true, true, false, false, false, false] rfl rfl (any_of HT_.out (by kernel_rfl)) (fun _ _ _ h => h) (Or.inl ⟨by rfl, ?_⟩) ?_ ?_
                                  rotate_left
                                  · intro w'
                                    go_simp
                                    with_reducible rfl
                                  rotate_left
                                  · simp only [Act.put, List.setIfInBounds_toArray, List.set_cons_zero, List.set_cons_succ, i64_w, i32_w]
                                    rfl
                                  refine pure_ (i := 7) (N := some 62) (v := ?_) (a' := ?_) #[true, true, true, true, false, true, true, true, false, false, false] rfl rfl (any_of HT_.out (by kernel_rfl)) (fun _ _ _ h => h) (Or.inl ⟨by rfl, ?_⟩) ?_ ?_
                                  rotate_left
                                  · intro w'
                                    go_simp
                                    with_reducible rfl
                                  rotate_left
                                  · simp only [Act.put, List.setIfInBounds_toArray, List.set_cons_zero, List.set_cons_succ, i64_w, i32_w]
                                    rfl
                                  refine take_ (i := 4) (N := some 59) (v := ?_) (a' := ?_) #[true, true, true, true, true, true, true, true, false, false, false] rfl rfl (take_ofW HT_.out HW_.out (by kernel_rfl)) (fun _ _ _ h => h) (Or.inl ⟨by rfl, ?_⟩) hHeld ?_ ?_
                                  rotate_left
                                  · rintro w' ⟨s0, s1⟩
                                    go_simp
                                    with_reducible rfl
                                  rotate_left
                                  · simp only [Act.put, List.setIfInBounds_toArray, List.set_cons_zero, List.set_cons_succ, i64_w, i32_w]
                                    rfl
                                  refine take_ (i := 8) (N := some 63) (v := ?_) (a' := ?_) #[true, true, true, true, true, true, true, true, true, false, false] rfl rfl (take_ofW HT_.out HW_.out (by kernel_rfl)) (fun _ _ _ h => h) (Or.inl ⟨by rfl, ?_⟩) hHeld ?_ ?_
                                  rotate_left
                                  · rintro w' ⟨s0, s1⟩
                                    go_simp
                                    with_reducible rfl
                                  rotate_left
                                  · simp only [Act.put, List.setIfInBounds_toArray, List.set_cons_zero, List.set_cons_succ, i64_w, i32_w]
                                    rfl
                                  refine pure_ (i := 9) (N := some 64) (v := ?_) (a' := ?_) #[true, true, true, true, true, true, true, true, true, true, false] rfl rfl (any_of HT_.out (by kernel_rfl)) (fun _ _ _ h => h) (Or.inl ⟨by rfl, ?_⟩) ?_ ?_
                                  rotate_left
                                  · intro w'
                                    go_simp
                                    with_reducible rfl
                                  rotate_left
                                  · simp only [Act.put, List.setIfInBounds_toArray, List.set_cons_zero, List.set_cons_succ, i64_w, i32_w]
                                    rfl
                                  refine last_ (i := 10) (N := none) #[true, true, true, true, true, true, true, true, true, true, true] rfl rfl (one_of HT_.out (by kernel_rfl)) (by decide) (fun K hK => ?_)
                                  refine skip_ (w1 := ?_) (by rfl) rfl ?_ ?_
                                  rotate_left
                                  · go_simp
                                    rfl
                                  refine hK.out _ _ ?_
                                  clear hK K
                                  refine done_ (done_of HT_.out (by kernel_rfl)) ?_
                                  try go_wp2
                                  go_roundg k2
                                  case measure => have := HK1.out; have := HK2.out; omega
                                  case rel => exact ⟨(y198), (wrap64 (x46_2 + 1)), (by first | rfl | (simp; done) | (simp [*]; done)), H', ⟨by have := HK1.out; have := HK2.out; omega⟩, ⟨by (with_reducible repeat (first | apply Kd.R_alloc | apply Kd.R_drewN | apply Kd.R_drew)); exact Kd.R_mono (Kd.R_far (p := ⟨go32, ((rd t187 x46_2) : Int).toNat, none⟩) (Kd.R_types HO_13.out GG32.out (by decide)) (fun _ hk => hk.2) (.int .u64 (rd (rd_L1 t186 x46_2) ((rd_L1 l1 0).length : Int)))) (fun _ hk => trivial)⟩, ⟨by (with_reducible repeat (first | apply Kd.R_alloc | apply Kd.R_drewN | apply Kd.R_drew)); exact HQ35.out⟩, ⟨by (with_reducible repeat (first | apply Kd.S_alloc | apply Kd.S_drewN | apply Kd.S_drew)); exact Kd.S_mono (Kd.S_far (p := ⟨go32, ((rd t187 x46_2) : Int).toNat, none⟩) (Kd.S_mono HO_44.out (fun k_ hk => (⟨hk, fun e_ => hk (by rw [e_]; rfl)⟩ : _ ∧ k_ ≠ go32))) (fun _ hk => hk.2) (.int .u64 (rd (rd_L1 t186 x46_2) ((rd_L1 l1 0).length : Int)))) (fun _ hk => hk.1)⟩, ⟨by repeat (first | (with_reducible first | exact HB.out | apply below_alloc | apply pw_below_drewN | apply below_drew1 | refine below_set ?_ GB32.out) | exact HB.out)⟩⟩
                                · rw [if_neg c31] at H
                                  exact absurd H (by simp)
                              · rw [if_neg c30] at H
                                exact absurd H (by simp)
                            · rw [if_neg c29] at H
                              exact absurd H (by simp)
                          · rw [if_neg c28] at H
                            exact absurd H (by simp)
                        · rw [if_neg c27] at H
                          have c27b0 : decide (x46_2 < (t187.length : Int)) = false := decide_eq_false c27
                          clear c27
                          by_cases c36 : 0 ≤ ((rd_L1 l1 0).length : Int)
                          · rw [if_pos c36] at H
                            have c36b0 : decide (0 ≤ ((rd_L1 l1 0).length : Int)) = true := decide_eq_true c36
                            have c36b1 : decide (0 ≤ (rd_L1 l1 0).length) = true := decide_eq_true (by omega)
                            clear c36
                            by_cases c37 : ((rd_L1 l1 0).length : Int) < ((rd_L1 t186 x46_2).length : Int)
                            · rw [if_pos c37] at H
                              have c37b0 : decide (((rd_L1 l1 0).length : Int) < ((rd_L1 t186 x46_2).length : Int)) = true := decide_eq_true c37
                              have c37b1 : decide ((rd_L1 l1 0).length < (rd_L1 t186 x46_2).length) = true := decide_eq_true (Int.ofNat_lt.mp c37)
                              clear c37
                              by_cases c38 : (rd (rd_L1 t186 x46_2) ((rd_L1 l1 0).length : Int)) = 0
                              · rw [if_pos c38] at H
                                have c38b0 : ((rd (rd_L1 t186 x46_2) ((rd_L1 l1 0).length : Int)) == 0) = true := beq_iff_eq.mpr c38
                                have c38b1 : ((rd (rd_L1 t186 x46_2) ((rd_L1 l1 0).length : Int)) != 0) = false := bne_eq_false_iff_eq.mpr c38
                                clear c38
                                have H' := Aside0.mk H
                                clear H
                                have p195 : 0 ≤ (x46_2 : Int) := of_decide_eq_true (by first | (with_reducible assumption) | assumption)
                                have q195 : x46_2 < (t186.length : Int) := of_decide_eq_true (by first | (with_reducible assumption) | assumption)
                                obtain ⟨ad195, A195_0, c195_0, e195, hx195_0, hl195_0, hi195_0⟩ := at_L1 (Kd.S_reads' HO_44.out).2.2 x46_2 p195 q195
                                cases e195
                                obtain ⟨ce195, hce195, hMe195, hcc195⟩ := Kd.S_get HO_44.out [] x46_2 p195 (by first | exact q195 | exact of_decide_eq_true (by first | (with_reducible assumption) | assumption) | (have e_ := (Kd.S_reads' HO_44.out).1; omega))
                                obtain ⟨ve195_0, rfl, ge195_0⟩ := hMe195
                                have hv195_0 := hcc195 0 _ rfl
                                rw [Nat.add_zero, show ((Kd.slice 22 (Kd.int .u64))).sz = 1 from rfl, Nat.mul_one] at hv195_0
                                replace hv195_0 := Option.some.inj (hv195_0.symm.trans hx195_0)
                                rw [hv195_0] at ge195_0
                                have HL195_0 := Aside0.mk (show Kd.R (Kd.int .u64) 22 _ _ _ _ (rd_L1 t186 x46_2) from ge195_0)
                                clear hv195_0 ge195_0
                                clear hcc195 hce195
                                have HR195_0 := Aside0.mk hi195_0
                                have HC195_0 := Aside0.mk hl195_0
                                clear hi195_0 hl195_0
                                replace p195 := eq_true p195
                                replace q195 := eq_true q195
                                obtain ⟨Ao39, co39, eo39⟩ := Kd.R_slice HO_13.out
                                subst eo39
                                have p199 : 0 ≤ (((rd_L1 l1 0).length : Int) : Int) := of_decide_eq_true (by first | (with_reducible assumption) | assumption)
                                have q199 : ((rd_L1 l1 0).length : Int) < ((rd_L1 t186 x46_2).length : Int) := of_decide_eq_true (by first | (with_reducible assumption) | assumption)
                                obtain ⟨ad199, e199, hx199_0⟩ := Kd.at_int (by repeat (first | (with_reducible exact HR195_0.out) | (with_reducible refine Kd.C_alloc ?_ _) | (with_reducible refine Kd.C_drewN ?_ _) | (with_reducible refine Kd.C_drew ?_) | exact HR195_0.out)) ((rd_L1 l1 0).length : Int) p199 q199
                                cases e199
                                (try simp only [Go.IntWalk.toNatUp] at hx199_0)
                                replace p199 := eq_true p199
                                replace q199 := eq_true q199
                                go_wp2
                                go_roundg k2
                                case measure => have := HK1.out; have := HK2.out; omega
                                case rel => exact ⟨(x14_2), (wrap64 (x46_2 + 1)), (by first | rfl | (simp; done) | (simp [*]; done)), H', ⟨by have := HK1.out; have := HK2.out; omega⟩, ⟨by (with_reducible repeat (first | apply Kd.R_alloc | apply Kd.R_drewN | apply Kd.R_drew)); (first | exact HO_13.out | exact Kd.R_mono HO_13.out (fun _ hk => by repeat' (first | exact hk | exact hk.1 | exact hk.2 | exact hk.1.1 | exact hk.1.2 | exact hk.2.1 | exact hk.2.2 | exact trivial | refine ⟨?_, ?_⟩)))⟩, ⟨by (with_reducible repeat (first | apply Kd.R_alloc | apply Kd.R_drewN | apply Kd.R_drew)); (first | exact HO_14.out | exact Kd.R_mono HO_14.out (fun _ hk => by repeat' (first | exact hk | exact hk.1 | exact hk.2 | exact hk.1.1 | exact hk.1.2 | exact hk.2.1 | exact hk.2.2 | exact trivial | refine ⟨?_, ?_⟩)))⟩, ⟨by (with_reducible repeat (first | apply Kd.S_alloc | apply Kd.S_drewN | apply Kd.S_drew)); exact HO_44.out⟩, ⟨by repeat (first | (with_reducible first | exact HB.out | apply below_alloc | apply pw_below_drewN | apply below_drew1) | exact HB.out)⟩⟩
                              · rw [if_neg c38] at H
                                have c38b0 : ((rd (rd_L1 t186 x46_2) ((rd_L1 l1 0).length : Int)) == 0) = false := beq_eq_false_iff_ne.mpr c38
                                have c38b1 : ((rd (rd_L1 t186 x46_2) ((rd_L1 l1 0).length : Int)) != 0) = true := bne_iff_ne.mpr c38
                                simp only [Option.some.injEq, Prod.mk.injEq] at H
                                obtain ⟨rfl, rfl⟩ := H
                                have p195 : 0 ≤ (x46_2 : Int) := of_decide_eq_true (by first | (with_reducible assumption) | assumption)
                                have q195 : x46_2 < (t186.length : Int) := of_decide_eq_true (by first | (with_reducible assumption) | assumption)
                                obtain ⟨ad195, A195_0, c195_0, e195, hx195_0, hl195_0, hi195_0⟩ := at_L1 (Kd.S_reads' HO_44.out).2.2 x46_2 p195 q195
                                cases e195
                                obtain ⟨ce195, hce195, hMe195, hcc195⟩ := Kd.S_get HO_44.out [] x46_2 p195 (by first | exact q195 | exact of_decide_eq_true (by first | (with_reducible assumption) | assumption) | (have e_ := (Kd.S_reads' HO_44.out).1; omega))
                                obtain ⟨ve195_0, rfl, ge195_0⟩ := hMe195
                                have hv195_0 := hcc195 0 _ rfl
                                rw [Nat.add_zero, show ((Kd.slice 22 (Kd.int .u64))).sz = 1 from rfl, Nat.mul_one] at hv195_0
                                replace hv195_0 := Option.some.inj (hv195_0.symm.trans hx195_0)
                                rw [hv195_0] at ge195_0
                                have HL195_0 := Aside0.mk (show Kd.R (Kd.int .u64) 22 _ _ _ _ (rd_L1 t186 x46_2) from ge195_0)
                                clear hv195_0 ge195_0
                                clear hcc195 hce195
                                have HR195_0 := Aside0.mk hi195_0
                                have HC195_0 := Aside0.mk hl195_0
                                clear hi195_0 hl195_0
                                replace p195 := eq_true p195
                                replace q195 := eq_true q195
                                obtain ⟨Ao40, co40, eo40⟩ := Kd.R_slice HO_13.out
                                subst eo40
                                have p199 : 0 ≤ (((rd_L1 l1 0).length : Int) : Int) := of_decide_eq_true (by first | (with_reducible assumption) | assumption)
                                have q199 : ((rd_L1 l1 0).length : Int) < ((rd_L1 t186 x46_2).length : Int) := of_decide_eq_true (by first | (with_reducible assumption) | assumption)
                                obtain ⟨ad199, e199, hx199_0⟩ := Kd.at_int (by repeat (first | (with_reducible exact HR195_0.out) | (with_reducible refine Kd.C_alloc ?_ _) | (with_reducible refine Kd.C_drewN ?_ _) | (with_reducible refine Kd.C_drew ?_) | exact HR195_0.out)) ((rd_L1 l1 0).length : Int) p199 q199
                                cases e199
                                (try simp only [Go.IntWalk.toNatUp] at hx199_0)
                                replace p199 := eq_true p199
                                replace q199 := eq_true q199
                                go_wp2
                                go_ret2
                                exact ⟨_, by first | rfl | (simp [errW_none, errW_some] <;> rfl) | (simp [*, errW_none, errW_some] <;> rfl), by first | exact Kd.R_nil _ _ _ _ _ | exact Kd.N_nil _ _ _ _ _ | exact Kd.V_nil _ _ _ _ _ | exact Kd.Q_nil _ _ _ _ _ | exact Kd.S_nil _ _ _ _ _, by repeat (first | (with_reducible first | exact HB.out | apply below_alloc | apply pw_below_drewN | apply below_drew1) | exact HB.out)⟩
                            · rw [if_neg c37] at H
                              exact absurd H (by simp)
                          · rw [if_neg c36] at H
                            exact absurd H (by simp)
                      · rw [if_neg c26] at H
                        exact absurd H (by simp)
                    · rw [if_neg c25] at H
                      exact absurd H (by simp)
                  · rw [if_neg c24] at H
                    have c24b0 : decide (x46_2 < (t186.length : Int)) = false := decide_eq_false c24
                    clear c24
                    simp only [Option.some.injEq, Prod.mk.injEq] at H
                    obtain ⟨rfl, rfl⟩ := H
                    go_wp2
                    go_ret2
                    exact ⟨_, by first | rfl | (simp [errW_none, errW_some] <;> rfl) | (simp [*, errW_none, errW_some] <;> rfl), by (with_reducible repeat (first | apply Kd.R_alloc | apply Kd.R_drewN | apply Kd.R_drew)); exact HO_14.out, by repeat (first | (with_reducible first | exact HB.out | apply below_alloc | apply pw_below_drewN | apply below_drew1) | exact HB.out)⟩
            · rw [if_neg c16] at H
              exact absurd H (by simp)
          · rw [if_neg c15] at H
            exact absurd H (by simp)
        · rw [if_neg c12] at H
          exact absurd H (by simp)

end Go.Proofs.Ytfdkhkajehopkaa.Mb
