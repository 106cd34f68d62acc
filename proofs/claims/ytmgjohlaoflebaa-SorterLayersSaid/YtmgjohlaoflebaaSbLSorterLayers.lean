/- The law SorterLayers as a Lean function, and its walk. (Made by this session's own program out of what the kit's print wrote; no text of the print.) -/
import Derived.Test.YtmgjohlaoflebaaSb0
import Derived.Test.YtmgjohlaoflebaaSb5
import Derived.Test.YtmgjohlaoflebaaSb6
import Derived.Test.YtmgjohlaoflebaaSb12
import Derived.Test.YtmgjohlaoflebaaSbTwo
import Derived.Test.YtmgjohlaoflebaaSbTwoB
import Derived.BigRegion
import Derived.RegionTactic
import Derived.Deep.RegionLaw
namespace Go.Proofs.Ytmgjohlaoflebaa.Sb
open Go.RowKit Go.Proofs.YtmgjohlaoflebaaW.PrintWords Go.Proofs.YtmgjohlaoflebaaW.PrintLast Go.Proofs.YtmgjohlaoflebaaW.PrintMore
attribute [local go_sem] max2_int min2_int max_two min_two max_three min_three max_four min_four   -- for this text's walks alone
set_option linter.unusedVariables false
set_option linter.unusedSimpArgs false

/-! ### juntolaw14_SorterLayers: function 10 -/
mutual
def juntolaw14_SorterLayers.l0 : Nat → List (S53) → List Int → List (S53) → List (S53) → List (List (S53)) → Int → Int → Option (Bool)
  | 0, _, _, _, _, _, _, _ => none
  | k + 1, x0, x1, x7, x8, x35, x36, x37 => if x37 < x36 then (if 0 ≤ x37 then (if x37 < (x35.length : Int) then (if 0 ≤ (x1.length : Int) then (if ((x1.length : Int) : Int).toNat ≤ 281474976710656 then (juntolaw14_SorterLayers.l1 k x0 x1 x7 x8 (rd_L2 x35 x37) (List.replicate ((x1.length : Int) : Int).toNat false) x35 x36 x37 (rd_L2 x35 x37) ((rd_L2 x35 x37).length : Int) 0) else (none)) else (none)) else (none)) else (none)) else ((sorter_Run.f k x0 x1).bind fun bt212 => ((sorter_Run.f k x7 x1).bind fun bt216 => ((sorter_Run.f k x8 x1).bind fun bt220 => (if bt212.2 = 0 then (if bt216.2 = 0 then (if bt220.2 = 0 then (if (x7.length : Int) = (x0.length : Int) then ((juntoref01_Same.f k bt216.1 bt212.1).bind fun t224 => (if t224 = true then ((juntoref01_Same.f k bt220.1 bt212.1).bind fun t225 => (if t225 = true then ((juntolaw14_alive.f k).bind fun t226 => (some t226)) else (none))) else (none))) else (none)) else (none)) else (none)) else (none)))))
def juntolaw14_SorterLayers.l1 : Nat → List (S53) → List Int → List (S53) → List (S53) → List (S53) → List Bool → List (List (S53)) → Int → Int → List (S53) → Int → Int → Option (Bool)
  | 0, _, _, _, _, _, _, _, _, _, _, _, _ => none
  | k + 1, x0, x1, x7, x8, x10, x11, x35, x36, x37, x44, x45, x46 => if x46 < x45 then (if 0 ≤ x46 then (if x46 < (x44.length : Int) then (if ((rd_T53 x44 x46).f0) < 0 then (none) else (if ((rd_T53 x44 x46).f1) ≥ (x1.length : Int) then (none) else (if ((rd_T53 x44 x46).f0) ≥ ((rd_T53 x44 x46).f1) then (none) else (if 0 ≤ ((rd_T53 x44 x46).f0) then (if ((rd_T53 x44 x46).f0) < (x11.length : Int) then (if rdOf false x11 ((rd_T53 x44 x46).f0) = true then (none) else (if 0 ≤ ((rd_T53 x44 x46).f1) then (if ((rd_T53 x44 x46).f1) < (x11.length : Int) then (if rdOf false x11 ((rd_T53 x44 x46).f1) = true then (none) else (if x11.length < 140737488355328 then (if x7.length < 8796093022208 then (if 0 ≤ (wrap64 ((wrap64 ((x10.length : Int) - 1)) - x46)) then (if (wrap64 ((wrap64 ((x10.length : Int) - 1)) - x46)) < (x10.length : Int) then (if x8.length < 8796093022208 then (juntolaw14_SorterLayers.l1 k x0 x1 (x7 ++ [(⟨(rd_T53 x44 x46).f0, (rd_T53 x44 x46).f1⟩ : S53)]) (x8 ++ [(⟨(rd_T53 x10 (wrap64 ((wrap64 ((x10.length : Int) - 1)) - x46))).f0, (rd_T53 x10 (wrap64 ((wrap64 ((x10.length : Int) - 1)) - x46))).f1⟩ : S53)]) x10 ((x11.set ((rd_T53 x44 x46).f0).toNat true).set ((rd_T53 x44 x46).f1).toNat true) x35 x36 x37 x44 x45 (wrap64 (x46 + 1))) else (none)) else (none)) else (none)) else (none)) else (none))) else (none)) else (none))) else (none)) else (none))))) else (none)) else (none)) else (juntolaw14_SorterLayers.l0 k x0 x1 x7 x8 x35 x36 (wrap64 (x37 + 1)))
end
def juntolaw14_SorterLayers.f (k : Nat) (l0 : List (S53)) (l1 : List Int) : Option (Bool) := (sorter_Rounds.f k (l1.length : Int) l0).bind fun bt189 => (if bt189.2 = 0 then (juntolaw14_SorterLayers.l0 k l0 l1 ([] : List (S53)) ([] : List (S53)) bt189.1 (bt189.1.length : Int) 0) else (if (bt189.1.length : Int) = 0 then ((juntolaw14_alive.f k).bind fun t193 => (some t193)) else (none)))
theorem juntolaw14_SorterLayers.mono_l : ∀ k, (∀ y0 y1 y2 y3 y4 y5 y6, LeO (juntolaw14_SorterLayers.l0 k y0 y1 y2 y3 y4 y5 y6) (juntolaw14_SorterLayers.l0 (k + 1) y0 y1 y2 y3 y4 y5 y6)) ∧ (∀ y0 y1 y2 y3 y4 y5 y6 y7 y8 y9 y10 y11, LeO (juntolaw14_SorterLayers.l1 k y0 y1 y2 y3 y4 y5 y6 y7 y8 y9 y10 y11) (juntolaw14_SorterLayers.l1 (k + 1) y0 y1 y2 y3 y4 y5 y6 y7 y8 y9 y10 y11))
  | 0 => ⟨fun _ _ _ _ _ _ _ r h => by simp [juntolaw14_SorterLayers.l0] at h, fun _ _ _ _ _ _ _ _ _ _ _ _ r h => by simp [juntolaw14_SorterLayers.l1] at h⟩
  | k + 1 => by
    obtain ⟨ih0, ih1⟩ := juntolaw14_SorterLayers.mono_l k
    refine ⟨?_, ?_⟩
    · intro y0 y1 y2 y3 y4 y5 y6
      unfold juntolaw14_SorterLayers.l0
      repeat' first
      | (with_reducible exact ih0 _ _ _ _ _ _ _)
      | (with_reducible exact ih1 _ _ _ _ _ _ _ _ _ _ _ _)
      | (with_reducible exact juntolaw14_alive.mono _)
      | (with_reducible exact juntoref01_Same.mono _ _ _)
      | (with_reducible exact sorter_Rounds.mono _ _ _)
      | (with_reducible exact sorter_Run.mono _ _ _)
      | (with_reducible exact LeO.refl _)
      | (with_reducible exact LeO.none _)
      | (with_reducible refine LeO.ite ?_ ?_)
      | (with_reducible refine LeO.bind ?_ (fun _ => ?_))
      | exact ih0 _ _ _ _ _ _ _
      | exact ih1 _ _ _ _ _ _ _ _ _ _ _ _
      | exact juntolaw14_alive.mono _
      | exact juntoref01_Same.mono _ _ _
      | exact sorter_Rounds.mono _ _ _
      | exact sorter_Run.mono _ _ _
      | exact LeO.none _
      | refine LeO.ite ?_ ?_
      | refine LeO.bind ?_ (fun _ => ?_)
    · intro y0 y1 y2 y3 y4 y5 y6 y7 y8 y9 y10 y11
      unfold juntolaw14_SorterLayers.l1
      repeat' first
      | (with_reducible exact ih0 _ _ _ _ _ _ _)
      | (with_reducible exact ih1 _ _ _ _ _ _ _ _ _ _ _ _)
      | (with_reducible exact juntolaw14_alive.mono _)
      | (with_reducible exact juntoref01_Same.mono _ _ _)
      | (with_reducible exact sorter_Rounds.mono _ _ _)
      | (with_reducible exact sorter_Run.mono _ _ _)
      | (with_reducible exact LeO.refl _)
      | (with_reducible exact LeO.none _)
      | (with_reducible refine LeO.ite ?_ ?_)
      | (with_reducible refine LeO.bind ?_ (fun _ => ?_))
      | exact ih0 _ _ _ _ _ _ _
      | exact ih1 _ _ _ _ _ _ _ _ _ _ _ _
      | exact juntolaw14_alive.mono _
      | exact juntoref01_Same.mono _ _ _
      | exact sorter_Rounds.mono _ _ _
      | exact sorter_Run.mono _ _ _
      | exact LeO.none _
      | refine LeO.ite ?_ ?_
      | refine LeO.bind ?_ (fun _ => ?_)
theorem juntolaw14_SorterLayers.mono : ∀ a0 a1 k, LeO (juntolaw14_SorterLayers.f k a0 a1) (juntolaw14_SorterLayers.f (k + 1) a0 a1) := by
  intro a0 a1 k
  obtain ⟨ih0, ih1⟩ := juntolaw14_SorterLayers.mono_l k
  unfold juntolaw14_SorterLayers.f
  repeat' first
      | (with_reducible exact ih0 _ _ _ _ _ _ _)
      | (with_reducible exact ih1 _ _ _ _ _ _ _ _ _ _ _ _)
      | (with_reducible exact juntolaw14_alive.mono _)
      | (with_reducible exact juntoref01_Same.mono _ _ _)
      | (with_reducible exact sorter_Rounds.mono _ _ _)
      | (with_reducible exact sorter_Run.mono _ _ _)
      | (with_reducible exact LeO.refl _)
      | (with_reducible exact LeO.none _)
      | (with_reducible refine LeO.ite ?_ ?_)
      | (with_reducible refine LeO.bind ?_ (fun _ => ?_))
      | exact ih0 _ _ _ _ _ _ _
      | exact ih1 _ _ _ _ _ _ _ _ _ _ _ _
      | exact juntolaw14_alive.mono _
      | exact juntoref01_Same.mono _ _ _
      | exact sorter_Rounds.mono _ _ _
      | exact sorter_Run.mono _ _ _
      | exact LeO.none _
      | refine LeO.ite ?_ ?_
      | refine LeO.bind ?_ (fun _ => ?_)
set_option maxHeartbeats 8000000 in
set_option maxRecDepth 100000 in
theorem juntolaw14_SorterLayers.calls (k : Nat) (A0 : Option Addr) (c0 : Nat) (l0 : List (S53)) (A1 : Option Addr) (c1 : Nat) (l1 : List Int) (r : Bool) (w : World) (hr0 : Kd.C k53 w A0 l0.length l0) (hc0 : l0.length ≤ c0) (hr1 : Kd.C (Kd.int .u64) w A1 l1.length l1) (hc1 : l1.length ≤ c1) (h : juntolaw14_SorterLayers.f k l0 l1 = some r) :
    Calls Try.prog 10 #[.slice A0 l0.length c0, .slice A1 l1.length c1] w fun e w' => e = .returned (.bool r) ∧ Below w.heap.size w w' := by
  have hu53 := Try.underlying53
  have HR0 := Aside0.mk hr0
  have HC0 := Aside0.mk hc0
  clear hr0 hc0
  have HR1 := Aside0.mk hr1
  have HC1 := Aside0.mk hc1
  clear hr1 hc1
  have HB := Aside0.mk (Below.refl w.heap.size w)
  have H : ((sorter_Rounds.f k (l1.length : Int) l0).bind fun bt189 => (if bt189.2 = 0 then (juntolaw14_SorterLayers.l0 k l0 l1 ([] : List (S53)) ([] : List (S53)) bt189.1 (bt189.1.length : Int) 0) else (if (bt189.1.length : Int) = 0 then ((juntolaw14_alive.f k).bind fun t193 => (some t193)) else (none)))) = some r := h
  clear h
  replace H := Option.bind_eq_some_iff.mp H
  obtain ⟨⟨t189, t190⟩, A30, H⟩ := H
  replace H : (if t190 = 0 then (juntolaw14_SorterLayers.l0 k l0 l1 ([] : List (S53)) ([] : List (S53)) t189 (t189.length : Int) 0) else (if (t189.length : Int) = 0 then ((juntolaw14_alive.f k).bind fun t193 => (some t193)) else (none))) = some r := H
  have A3 := Aside0.mk A30
  clear A30
  by_cases c4 : t190 = 0
  · rw [if_pos c4] at H
    have c4b0 : (t190 == 0) = true := beq_iff_eq.mpr c4
    have c4b1 : (t190 != 0) = false := bne_eq_false_iff_eq.mpr c4
    clear c4
    have H' := Aside0.mk H
    clear H
    go_enter Try.func10, Try.ntmps10
    go_wp2_with (first | ((with_reducible refine gate_callee (f := 25) rfl ?_); refine goesL_ (some 24) rfl rfl Try.func25 (by kernel_rfl) rfl #[.int .i64 (l1.length : Int), .slice A0 l0.length c0] rfl (by (try simp only [List.map_toArray, List.map_cons, List.map_nil]); first | done | rfl | (simp only [List.length_drop, List.length_take]; rfl)) ?_; (with_reducible refine (sorter_Rounds.calls k (l1.length : Int) _ _ l0 t189 t190 _ ?side1 ?side2 A3.out).mono ?_); (case side1 => repeat (first | exact HR0.out | (with_reducible refine Kd.C_alloc ?_ _) | (with_reducible refine Kd.C_drewN ?_ _) | (with_reducible refine Kd.C_drew ?_))); (case side2 => exact HC0.out); rintro e w5 ⟨v191, rfl, ho0, hb⟩; refine ⟨_, rfl, ?_⟩; have n0_ := Aside0.mk (Kd.S_lower ho0 (below_size (by repeat (first | (with_reducible first | exact HB.out | apply below_alloc | apply pw_below_drewN | apply below_drew1) | exact HB.out)))); have n1_ := Aside0.mk (below_step (by repeat (first | (with_reducible first | exact HB.out | apply below_alloc | apply pw_below_drewN | apply below_drew1) | exact HB.out)) hb); clear HB; have HO192 := n0_; have HB := n1_; clear n0_ n1_; (try clear hb); (try clear hb2); (try clear hk); (try clear hi); (try clear ho0); obtain ⟨Ao6, co6, eo6⟩ := Kd.S_slice HO192.out; subst eo6))
    go_loopg [7, 8, 37] k (fun kq v7 v8 v37 w' => ∃ (x7_1 : List (S53)) (x8_1 : List (S53)) (x37_1 : Int), v37 = .int .i64 x37_1 ∧ Aside0 (juntolaw14_SorterLayers.l0 kq l0 l1 x7_1 x8_1 t189 (t189.length : Int) x37_1 = some r) ∧ Aside0 (kq ≤ k) ∧ Aside0 (Kd.R k53 53 w' w.heap.size (fun k_ => some k_ ≠ (v8 : Value).ownBlock) v7 x7_1) ∧ Aside0 (Kd.R k53 53 w' w.heap.size (fun k_ => some k_ ≠ (v7 : Value).ownBlock) v8 x8_1) ∧ Aside0 (Kd.S (Kd.slice 53 k53) 22 w' w.heap.size (fun k_ => some k_ ≠ (v7 : Value).ownBlock ∧ some k_ ≠ (v8 : Value).ownBlock) (.slice Ao6 t189.length co6) t189) ∧ Aside0 (Below w.heap.size w w'))
    case atStart => exact ⟨(([] : List (S53))), (([] : List (S53))), (0), (by first | rfl | (simp; done) | (simp [*]; done)), H', ⟨Nat.le_refl _⟩, ⟨by first | exact Kd.R_nil _ _ _ _ _ | exact Kd.N_nil _ _ _ _ _ | exact Kd.V_nil _ _ _ _ _ | exact Kd.Q_nil _ _ _ _ _ | exact Kd.S_nil _ _ _ _ _⟩, ⟨by first | exact Kd.R_nil _ _ _ _ _ | exact Kd.N_nil _ _ _ _ _ | exact Kd.V_nil _ _ _ _ _ | exact Kd.Q_nil _ _ _ _ _ | exact Kd.S_nil _ _ _ _ _⟩, ⟨by (with_reducible repeat (first | apply Kd.S_alloc | apply Kd.S_drewN | apply Kd.S_drew)); exact Kd.S_mono HO192.out (fun _ hk => ⟨(by simp [Value.ownBlock]), (by simp [Value.ownBlock])⟩)⟩, ⟨by repeat (first | (with_reducible first | exact HB.out | apply below_alloc | apply pw_below_drewN | apply below_drew1) | exact HB.out)⟩⟩
    case round =>
      clear H'
      try clear c1
      try clear c2
      try clear p2
      try clear c4
      try clear c4b0
      try clear c4b1
      obtain ⟨x7_1, x8_1, x37_1, rfl, HA, HK1, HO_7, HO_8, HO_35, HB⟩ := hrel
      cases gk with
      | zero => exact absurd HA.out (by simp [juntolaw14_SorterLayers.l0])
      | succ k1 =>
        have H := HA.out
        clear HA
        simp only [juntolaw14_SorterLayers.l0] at H
        by_cases c7 : x37_1 < (t189.length : Int)
        · rw [if_pos c7] at H
          have c7b0 : decide (x37_1 < (t189.length : Int)) = true := decide_eq_true c7
          clear c7
          by_cases c8 : 0 ≤ x37_1
          · rw [if_pos c8] at H
            have c8b0 : decide (0 ≤ x37_1) = true := decide_eq_true c8
            clear c8
            by_cases c9 : x37_1 < (t189.length : Int)
            · rw [if_pos c9] at H
              have c9b0 : decide (x37_1 < (t189.length : Int)) = true := decide_eq_true c9
              clear c9
              by_cases c10 : 0 ≤ (l1.length : Int)
              · rw [if_pos c10] at H
                have c10b0 := eq_true c10
                have c10b1 : decide (0 ≤ (l1.length : Int)) = true := decide_eq_true c10
                clear c10
                by_cases c11 : ((l1.length : Int) : Int).toNat ≤ 281474976710656
                · rw [if_pos c11] at H
                  have c11b0 := eq_true c11
                  have c11b1 : decide (((l1.length : Int) : Int).toNat ≤ 281474976710656) = true := decide_eq_true c11
                  clear c11
                  obtain ⟨y195, hy195⟩ : ∃ y_ : List Bool, y_ = (List.replicate ((l1.length : Int) : Int).toNat false) := ⟨_, rfl⟩
                  replace H : (juntolaw14_SorterLayers.l1 k1 l0 l1 x7_1 x8_1 (rd_L2 t189 x37_1) y195 t189 (t189.length : Int) x37_1 (rd_L2 t189 x37_1) ((rd_L2 t189 x37_1).length : Int) 0) = some r := by first | (rw [hy195]; with_reducible exact H) | (have H2_ := (Option.bind_some _ _).symm.trans H; rw [hy195]; with_reducible exact H2_) | (have H2_ := (Option.bind_some _ _).symm.trans H; with_reducible exact H2_) | with_reducible exact H | (rw [hy195]; exact H) | exact H
                  have Ny195 := Aside0.mk hy195
                  clear hy195
                  have H' := Aside0.mk H
                  clear H
                  have p194 : 0 ≤ (x37_1 : Int) := of_decide_eq_true (by first | (with_reducible assumption) | assumption)
                  have q194 : x37_1 < (t189.length : Int) := of_decide_eq_true (by first | (with_reducible assumption) | assumption)
                  obtain ⟨ad194, A194_0, c194_0, e194, hx194_0, hl194_0, hi194_0⟩ := at_L2 (Kd.S_reads' HO_35.out).2.2 x37_1 p194 q194
                  cases e194
                  obtain ⟨ce194, hce194, hMe194, hcc194⟩ := Kd.S_get HO_35.out [] x37_1 p194 (by first | exact q194 | exact of_decide_eq_true (by first | (with_reducible assumption) | assumption) | (have e_ := (Kd.S_reads' HO_35.out).1; omega))
                  obtain ⟨ve194_0, rfl, ge194_0⟩ := hMe194
                  have hv194_0 := hcc194 0 _ rfl
                  rw [Nat.add_zero, show ((Kd.slice 53 k53)).sz = 1 from rfl, Nat.mul_one] at hv194_0
                  replace hv194_0 := Option.some.inj (hv194_0.symm.trans hx194_0)
                  rw [hv194_0] at ge194_0
                  have HL194_0 := Aside0.mk (show Kd.R k53 53 _ _ _ _ (rd_L2 t189 x37_1) from ge194_0)
                  clear hv194_0 ge194_0
                  clear hcc194 hce194
                  have HR194_0 := Aside0.mk hi194_0
                  have HC194_0 := Aside0.mk hl194_0
                  clear hi194_0 hl194_0
                  replace p194 := eq_true p194
                  replace q194 := eq_true q194
                  go_wp2_with (first | ((with_reducible refine gate_dst (N := 43) rfl ?_); (try (refine gate_guard (by rfl) ?_; dsimp only)); refine Kd.R_make Kd.bool _ 4 rfl (N := 43) rfl 46 _ _ rfl (l1.length : Int) rfl rfl Try.underlying46 (.bool false) 1 info4 rfl (by decide) (by omega) false (ok := fun _ => True) (okp := fun _ => True) rfl (fun _ hk => hk) trivial (of_decide_eq_true (by first | (with_reducible assumption) | assumption)) (Nat.le_trans (Nat.mul_le_mul_right _ (of_decide_eq_true (by first | (with_reducible assumption) | assumption) : (l1.length : Int).toNat ≤ 281474976710656)) (by omega)) (Below.refl _ _) (Nat.le_refl _) ?_; intro v196 w12 ho13 hb hg_ hnew_; clear hg_ hnew_; (first | rw [← Ny195.out] at ho13 | (simp only [Int.reduceToNat] at ho13; rw [← Ny195.out] at ho13)); have n0_ := Aside0.mk (Kd.R_below (by (with_reducible repeat (first | apply Kd.R_alloc | apply Kd.R_drewN | apply Kd.R_drew)); exact HO_7.out) hb); have n1_ := Aside0.mk (Kd.R_below (by (with_reducible repeat (first | apply Kd.R_alloc | apply Kd.R_drewN | apply Kd.R_drew)); exact HO_8.out) hb); have n2_ := Aside0.mk (Kd.S_below (by (with_reducible repeat (first | apply Kd.S_alloc | apply Kd.S_drewN | apply Kd.S_drew)); exact HO_35.out) hb); have n3_ := Aside0.mk (Kd.R_below (by (with_reducible repeat (first | apply Kd.R_alloc | apply Kd.R_drewN | apply Kd.R_drew)); exact HL194_0.out) hb); have n4_ := Aside0.mk (Kd.R_lower ho13 (below_size (by repeat (first | (with_reducible first | exact HB.out | apply below_alloc | apply pw_below_drewN | apply below_drew1) | exact HB.out)))); have n5_ := Aside0.mk (Kd.C_below (by repeat (first | (with_reducible exact HR194_0.out) | (with_reducible refine Kd.C_alloc ?_ _) | (with_reducible refine Kd.C_drewN ?_ _) | (with_reducible refine Kd.C_drew ?_) | exact HR194_0.out)) hb); have n6_ := Aside0.mk (below_step (by repeat (first | (with_reducible first | exact HB.out | apply below_alloc | apply pw_below_drewN | apply below_drew1) | exact HB.out)) hb); clear HO_7; clear HO_8; clear HO_35; clear HL194_0; clear HR194_0; clear HB; have HO_7 := n0_; have HO_8 := n1_; have HO_35 := n2_; have HL194_0 := n3_; have HO197 := n4_; have HR194_0 := n5_; have HB := n6_; clear n0_ n1_ n2_ n3_ n4_ n5_ n6_; clear hb ho13))
                  obtain ⟨Av11, cv11, ev11⟩ := Kd.R_slice HO197.out
                  subst ev11
                  obtain ⟨n11, hn11⟩ : ∃ n_ : Nat, n_ = y195.length := ⟨_, rfl⟩
                  rw [← hn11] at HO197
                  rw [← hn11]
                  clear hn11
                  go_loopg [7, 8, 46] k1 (fun kq v7 v8 v46 w' => ∃ (x7_2 : List (S53)) (x8_2 : List (S53)) (x11_2 : List Bool) (x46_2 : Int), v46 = .int .i64 x46_2 ∧ Aside0 (juntolaw14_SorterLayers.l1 kq l0 l1 x7_2 x8_2 (rd_L2 t189 x37_1) x11_2 t189 (t189.length : Int) x37_1 (rd_L2 t189 x37_1) ((rd_L2 t189 x37_1).length : Int) x46_2 = some r) ∧ Aside0 (kq ≤ k1) ∧ Aside0 (Kd.R k53 53 w' w.heap.size (fun k_ => some k_ ≠ (v8 : Value).ownBlock) v7 x7_2) ∧ Aside0 (Kd.R k53 53 w' w.heap.size (fun k_ => some k_ ≠ (v7 : Value).ownBlock) v8 x8_2) ∧ Aside0 (Kd.R Kd.bool 4 w' w.heap.size (fun _ => True) (.slice Av11 n11 cv11) x11_2) ∧ Aside0 (Kd.R k53 53 w' w.heap.size (fun k_ => some k_ ≠ (v7 : Value).ownBlock ∧ some k_ ≠ (v8 : Value).ownBlock) (.slice A194_0 (rd_L2 t189 x37_1).length c194_0) (rd_L2 t189 x37_1)) ∧ Aside0 (Kd.S (Kd.slice 53 k53) 22 w' w.heap.size (fun k_ => some k_ ≠ (v7 : Value).ownBlock ∧ some k_ ≠ (v8 : Value).ownBlock) (.slice (some ad194) t189.length co6) t189) ∧ Aside0 (Below w.heap.size w w'))
                  case atStart => exact ⟨(x7_1), (x8_1), (y195), (0), (by first | rfl | (simp; done) | (simp [*]; done)), H', ⟨Nat.le_refl _⟩, ⟨by (with_reducible repeat (first | apply Kd.R_alloc | apply Kd.R_drewN | apply Kd.R_drew)); exact HO_7.out⟩, ⟨by (with_reducible repeat (first | apply Kd.R_alloc | apply Kd.R_drewN | apply Kd.R_drew)); exact HO_8.out⟩, ⟨by (with_reducible repeat (first | apply Kd.R_alloc | apply Kd.R_drewN | apply Kd.R_drew)); exact HO197.out⟩, ⟨by (with_reducible repeat (first | apply Kd.R_alloc | apply Kd.R_drewN | apply Kd.R_drew)); exact Kd.R_mono HL194_0.out (fun _ hk => hk.1)⟩, ⟨by (with_reducible repeat (first | apply Kd.S_alloc | apply Kd.S_drewN | apply Kd.S_drew)); exact HO_35.out⟩, ⟨by repeat (first | (with_reducible first | exact HB.out | apply below_alloc | apply pw_below_drewN | apply below_drew1) | exact HB.out)⟩⟩
                  case round =>
                    clear H'
                    try clear c1
                    try clear p1
                    try clear q1
                    try clear hx1
                    try clear c2
                    try clear p2
                    try clear c4
                    try clear c4b0
                    try clear c4b1
                    try clear c7
                    try clear c7b0
                    try clear c8
                    try clear c8b0
                    try clear c9
                    try clear c9b0
                    try clear c10
                    try clear c10b0
                    try clear c10b1
                    try clear c11
                    try clear c11b0
                    try clear c11b1
                    try clear hx194_0
                    try clear p194
                    try clear p2
                    try clear q194
                    obtain ⟨x7_2, x8_2, x11_2, x46_2, rfl, HA, HK2, HO_7, HO_8, HO_11, HL_35, HO_35, HB⟩ := hrel
                    have hn_ := (Kd.R_reads' HO_11.out).1
                    first | subst hn_ | (replace hn_ := hn_.symm; subst hn_)
                    cases gk with
                    | zero => exact absurd HA.out (by simp [juntolaw14_SorterLayers.l1])
                    | succ k2 =>
                      have H := HA.out
                      clear HA
                      simp only [juntolaw14_SorterLayers.l1] at H
                      by_cases c14 : x46_2 < ((rd_L2 t189 x37_1).length : Int)
                      · rw [if_pos c14] at H
                        have c14b0 : decide (x46_2 < ((rd_L2 t189 x37_1).length : Int)) = true := decide_eq_true c14
                        clear c14
                        by_cases c15 : 0 ≤ x46_2
                        · rw [if_pos c15] at H
                          have c15b0 : decide (0 ≤ x46_2) = true := decide_eq_true c15
                          clear c15
                          by_cases c16 : x46_2 < ((rd_L2 t189 x37_1).length : Int)
                          · rw [if_pos c16] at H
                            have c16b0 : decide (x46_2 < ((rd_L2 t189 x37_1).length : Int)) = true := decide_eq_true c16
                            clear c16
                            by_cases c17 : ((rd_T53 (rd_L2 t189 x37_1) x46_2).f0) < 0
                            · rw [if_pos c17] at H
                              exact absurd H (by simp)
                            · rw [if_neg c17] at H
                              have c17b0 : decide (((rd_T53 (rd_L2 t189 x37_1) x46_2).f0) < 0) = false := decide_eq_false c17
                              clear c17
                              by_cases c18 : ((rd_T53 (rd_L2 t189 x37_1) x46_2).f1) ≥ (l1.length : Int)
                              · rw [if_pos c18] at H
                                exact absurd H (by simp)
                              · rw [if_neg c18] at H
                                have c18b0 : decide ((l1.length : Int) ≤ ((rd_T53 (rd_L2 t189 x37_1) x46_2).f1)) = false := decide_eq_false c18
                                clear c18
                                by_cases c19 : ((rd_T53 (rd_L2 t189 x37_1) x46_2).f0) ≥ ((rd_T53 (rd_L2 t189 x37_1) x46_2).f1)
                                · rw [if_pos c19] at H
                                  exact absurd H (by simp)
                                · rw [if_neg c19] at H
                                  have c19b0 : decide (((rd_T53 (rd_L2 t189 x37_1) x46_2).f1) ≤ ((rd_T53 (rd_L2 t189 x37_1) x46_2).f0)) = false := decide_eq_false c19
                                  clear c19
                                  by_cases c20 : 0 ≤ ((rd_T53 (rd_L2 t189 x37_1) x46_2).f0)
                                  · rw [if_pos c20] at H
                                    have c20b0 : decide (0 ≤ ((rd_T53 (rd_L2 t189 x37_1) x46_2).f0)) = true := decide_eq_true c20
                                    clear c20
                                    by_cases c21 : ((rd_T53 (rd_L2 t189 x37_1) x46_2).f0) < (x11_2.length : Int)
                                    · rw [if_pos c21] at H
                                      have c21b0 : decide (((rd_T53 (rd_L2 t189 x37_1) x46_2).f0) < (x11_2.length : Int)) = true := decide_eq_true c21
                                      clear c21
                                      obtain ⟨bq22, hbq22⟩ : ∃ b_ : Bool, b_ = (rdOf false x11_2 ((rd_T53 (rd_L2 t189 x37_1) x46_2).f0)) := ⟨_, rfl⟩
                                      replace H : (if bq22 = true then (none) else (if 0 ≤ ((rd_T53 (rd_L2 t189 x37_1) x46_2).f1) then (if ((rd_T53 (rd_L2 t189 x37_1) x46_2).f1) < (x11_2.length : Int) then (if rdOf false x11_2 ((rd_T53 (rd_L2 t189 x37_1) x46_2).f1) = true then (none) else (if x11_2.length < 140737488355328 then (if x7_2.length < 8796093022208 then (if 0 ≤ (wrap64 ((wrap64 (((rd_L2 t189 x37_1).length : Int) - 1)) - x46_2)) then (if (wrap64 ((wrap64 (((rd_L2 t189 x37_1).length : Int) - 1)) - x46_2)) < ((rd_L2 t189 x37_1).length : Int) then (if x8_2.length < 8796093022208 then (juntolaw14_SorterLayers.l1 k2 l0 l1 (x7_2 ++ [(⟨(rd_T53 (rd_L2 t189 x37_1) x46_2).f0, (rd_T53 (rd_L2 t189 x37_1) x46_2).f1⟩ : S53)]) (x8_2 ++ [(⟨(rd_T53 (rd_L2 t189 x37_1) (wrap64 ((wrap64 (((rd_L2 t189 x37_1).length : Int) - 1)) - x46_2))).f0, (rd_T53 (rd_L2 t189 x37_1) (wrap64 ((wrap64 (((rd_L2 t189 x37_1).length : Int) - 1)) - x46_2))).f1⟩ : S53)]) (rd_L2 t189 x37_1) ((x11_2.set ((rd_T53 (rd_L2 t189 x37_1) x46_2).f0).toNat true).set ((rd_T53 (rd_L2 t189 x37_1) x46_2).f1).toNat true) t189 (t189.length : Int) x37_1 (rd_L2 t189 x37_1) ((rd_L2 t189 x37_1).length : Int) (wrap64 (x46_2 + 1))) else (none)) else (none)) else (none)) else (none)) else (none))) else (none)) else (none))) = some r := by rw [← hbq22] at H; exact H
                                      have Nbq22 := Aside0.mk hbq22
                                      clear hbq22
                                      by_cases c23 : bq22 = true
                                      · subst c23
                                        have H1 : (none) = some r := by rw [if_pos rfl] at H; exact H
                                        clear H
                                        have H := H1
                                        clear H1
                                        exact absurd H (by simp)
                                      · replace c23 := Bool.eq_false_iff.mpr c23
                                        subst c23
                                        have H1 : (if 0 ≤ ((rd_T53 (rd_L2 t189 x37_1) x46_2).f1) then (if ((rd_T53 (rd_L2 t189 x37_1) x46_2).f1) < (x11_2.length : Int) then (if rdOf false x11_2 ((rd_T53 (rd_L2 t189 x37_1) x46_2).f1) = true then (none) else (if x11_2.length < 140737488355328 then (if x7_2.length < 8796093022208 then (if 0 ≤ (wrap64 ((wrap64 (((rd_L2 t189 x37_1).length : Int) - 1)) - x46_2)) then (if (wrap64 ((wrap64 (((rd_L2 t189 x37_1).length : Int) - 1)) - x46_2)) < ((rd_L2 t189 x37_1).length : Int) then (if x8_2.length < 8796093022208 then (juntolaw14_SorterLayers.l1 k2 l0 l1 (x7_2 ++ [(⟨(rd_T53 (rd_L2 t189 x37_1) x46_2).f0, (rd_T53 (rd_L2 t189 x37_1) x46_2).f1⟩ : S53)]) (x8_2 ++ [(⟨(rd_T53 (rd_L2 t189 x37_1) (wrap64 ((wrap64 (((rd_L2 t189 x37_1).length : Int) - 1)) - x46_2))).f0, (rd_T53 (rd_L2 t189 x37_1) (wrap64 ((wrap64 (((rd_L2 t189 x37_1).length : Int) - 1)) - x46_2))).f1⟩ : S53)]) (rd_L2 t189 x37_1) ((x11_2.set ((rd_T53 (rd_L2 t189 x37_1) x46_2).f0).toNat true).set ((rd_T53 (rd_L2 t189 x37_1) x46_2).f1).toNat true) t189 (t189.length : Int) x37_1 (rd_L2 t189 x37_1) ((rd_L2 t189 x37_1).length : Int) (wrap64 (x46_2 + 1))) else (none)) else (none)) else (none)) else (none)) else (none))) else (none)) else (none)) = some r := by rw [if_neg (show ¬ (false = true) by decide)] at H; exact H
                                        clear H
                                        have H := H1
                                        clear H1
                                        by_cases c24 : 0 ≤ ((rd_T53 (rd_L2 t189 x37_1) x46_2).f1)
                                        · rw [if_pos c24] at H
                                          have c24b0 : decide (0 ≤ ((rd_T53 (rd_L2 t189 x37_1) x46_2).f1)) = true := decide_eq_true c24
                                          clear c24
                                          by_cases c25 : ((rd_T53 (rd_L2 t189 x37_1) x46_2).f1) < (x11_2.length : Int)
                                          · rw [if_pos c25] at H
                                            have c25b0 : decide (((rd_T53 (rd_L2 t189 x37_1) x46_2).f1) < (x11_2.length : Int)) = true := decide_eq_true c25
                                            clear c25
                                            obtain ⟨bq26, hbq26⟩ : ∃ b_ : Bool, b_ = (rdOf false x11_2 ((rd_T53 (rd_L2 t189 x37_1) x46_2).f1)) := ⟨_, rfl⟩
                                            replace H : (if bq26 = true then (none) else (if x11_2.length < 140737488355328 then (if x7_2.length < 8796093022208 then (if 0 ≤ (wrap64 ((wrap64 (((rd_L2 t189 x37_1).length : Int) - 1)) - x46_2)) then (if (wrap64 ((wrap64 (((rd_L2 t189 x37_1).length : Int) - 1)) - x46_2)) < ((rd_L2 t189 x37_1).length : Int) then (if x8_2.length < 8796093022208 then (juntolaw14_SorterLayers.l1 k2 l0 l1 (x7_2 ++ [(⟨(rd_T53 (rd_L2 t189 x37_1) x46_2).f0, (rd_T53 (rd_L2 t189 x37_1) x46_2).f1⟩ : S53)]) (x8_2 ++ [(⟨(rd_T53 (rd_L2 t189 x37_1) (wrap64 ((wrap64 (((rd_L2 t189 x37_1).length : Int) - 1)) - x46_2))).f0, (rd_T53 (rd_L2 t189 x37_1) (wrap64 ((wrap64 (((rd_L2 t189 x37_1).length : Int) - 1)) - x46_2))).f1⟩ : S53)]) (rd_L2 t189 x37_1) ((x11_2.set ((rd_T53 (rd_L2 t189 x37_1) x46_2).f0).toNat true).set ((rd_T53 (rd_L2 t189 x37_1) x46_2).f1).toNat true) t189 (t189.length : Int) x37_1 (rd_L2 t189 x37_1) ((rd_L2 t189 x37_1).length : Int) (wrap64 (x46_2 + 1))) else (none)) else (none)) else (none)) else (none)) else (none))) = some r := by rw [← hbq26] at H; exact H
                                            have Nbq26 := Aside0.mk hbq26
                                            clear hbq26
                                            by_cases c27 : bq26 = true
                                            · subst c27
                                              have H1 : (none) = some r := by rw [if_pos rfl] at H; exact H
                                              clear H
                                              have H := H1
                                              clear H1
                                              exact absurd H (by simp)
                                            · replace c27 := Bool.eq_false_iff.mpr c27
                                              subst c27
                                              have H1 : (if x11_2.length < 140737488355328 then (if x7_2.length < 8796093022208 then (if 0 ≤ (wrap64 ((wrap64 (((rd_L2 t189 x37_1).length : Int) - 1)) - x46_2)) then (if (wrap64 ((wrap64 (((rd_L2 t189 x37_1).length : Int) - 1)) - x46_2)) < ((rd_L2 t189 x37_1).length : Int) then (if x8_2.length < 8796093022208 then (juntolaw14_SorterLayers.l1 k2 l0 l1 (x7_2 ++ [(⟨(rd_T53 (rd_L2 t189 x37_1) x46_2).f0, (rd_T53 (rd_L2 t189 x37_1) x46_2).f1⟩ : S53)]) (x8_2 ++ [(⟨(rd_T53 (rd_L2 t189 x37_1) (wrap64 ((wrap64 (((rd_L2 t189 x37_1).length : Int) - 1)) - x46_2))).f0, (rd_T53 (rd_L2 t189 x37_1) (wrap64 ((wrap64 (((rd_L2 t189 x37_1).length : Int) - 1)) - x46_2))).f1⟩ : S53)]) (rd_L2 t189 x37_1) ((x11_2.set ((rd_T53 (rd_L2 t189 x37_1) x46_2).f0).toNat true).set ((rd_T53 (rd_L2 t189 x37_1) x46_2).f1).toNat true) t189 (t189.length : Int) x37_1 (rd_L2 t189 x37_1) ((rd_L2 t189 x37_1).length : Int) (wrap64 (x46_2 + 1))) else (none)) else (none)) else (none)) else (none)) else (none)) = some r := by rw [if_neg (show ¬ (false = true) by decide)] at H; exact H
                                              clear H
                                              have H := H1
                                              clear H1
                                              by_cases c28 : x11_2.length < 140737488355328
                                              · rw [if_pos c28] at H
                                                have LMc28 := Aside0.mk c28
                                                clear c28
                                                obtain ⟨y202, hy202⟩ : ∃ y_ : List Bool, y_ = ((x11_2.set ((rd_T53 (rd_L2 t189 x37_1) x46_2).f0).toNat true).set ((rd_T53 (rd_L2 t189 x37_1) x46_2).f1).toNat true) := ⟨_, rfl⟩
                                                replace H : (if x7_2.length < 8796093022208 then (if 0 ≤ (wrap64 ((wrap64 (((rd_L2 t189 x37_1).length : Int) - 1)) - x46_2)) then (if (wrap64 ((wrap64 (((rd_L2 t189 x37_1).length : Int) - 1)) - x46_2)) < ((rd_L2 t189 x37_1).length : Int) then (if x8_2.length < 8796093022208 then (juntolaw14_SorterLayers.l1 k2 l0 l1 (x7_2 ++ [(⟨(rd_T53 (rd_L2 t189 x37_1) x46_2).f0, (rd_T53 (rd_L2 t189 x37_1) x46_2).f1⟩ : S53)]) (x8_2 ++ [(⟨(rd_T53 (rd_L2 t189 x37_1) (wrap64 ((wrap64 (((rd_L2 t189 x37_1).length : Int) - 1)) - x46_2))).f0, (rd_T53 (rd_L2 t189 x37_1) (wrap64 ((wrap64 (((rd_L2 t189 x37_1).length : Int) - 1)) - x46_2))).f1⟩ : S53)]) (rd_L2 t189 x37_1) y202 t189 (t189.length : Int) x37_1 (rd_L2 t189 x37_1) ((rd_L2 t189 x37_1).length : Int) (wrap64 (x46_2 + 1))) else (none)) else (none)) else (none)) else (none)) = some r := by first | (rw [hy202]; with_reducible exact H) | (have H2_ := (Option.bind_some _ _).symm.trans H; rw [hy202]; with_reducible exact H2_) | (have H2_ := (Option.bind_some _ _).symm.trans H; with_reducible exact H2_) | with_reducible exact H | (rw [hy202]; exact H) | exact H
                                                have Ny202 := Aside0.mk hy202
                                                clear hy202
                                                by_cases c29 : x7_2.length < 8796093022208
                                                · rw [if_pos c29] at H
                                                  have LMc29 := Aside0.mk c29
                                                  clear c29
                                                  obtain ⟨y205, hy205⟩ : ∃ y_ : List (S53), y_ = (x7_2 ++ [(⟨(rd_T53 (rd_L2 t189 x37_1) x46_2).f0, (rd_T53 (rd_L2 t189 x37_1) x46_2).f1⟩ : S53)]) := ⟨_, rfl⟩
                                                  replace H : (if 0 ≤ (wrap64 ((wrap64 (((rd_L2 t189 x37_1).length : Int) - 1)) - x46_2)) then (if (wrap64 ((wrap64 (((rd_L2 t189 x37_1).length : Int) - 1)) - x46_2)) < ((rd_L2 t189 x37_1).length : Int) then (if x8_2.length < 8796093022208 then (juntolaw14_SorterLayers.l1 k2 l0 l1 y205 (x8_2 ++ [(⟨(rd_T53 (rd_L2 t189 x37_1) (wrap64 ((wrap64 (((rd_L2 t189 x37_1).length : Int) - 1)) - x46_2))).f0, (rd_T53 (rd_L2 t189 x37_1) (wrap64 ((wrap64 (((rd_L2 t189 x37_1).length : Int) - 1)) - x46_2))).f1⟩ : S53)]) (rd_L2 t189 x37_1) y202 t189 (t189.length : Int) x37_1 (rd_L2 t189 x37_1) ((rd_L2 t189 x37_1).length : Int) (wrap64 (x46_2 + 1))) else (none)) else (none)) else (none)) = some r := by first | (rw [hy205]; with_reducible exact H) | (have H2_ := (Option.bind_some _ _).symm.trans H; rw [hy205]; with_reducible exact H2_) | (have H2_ := (Option.bind_some _ _).symm.trans H; with_reducible exact H2_) | with_reducible exact H | (rw [hy205]; exact H) | exact H
                                                  have Ny205 := Aside0.mk hy205
                                                  clear hy205
                                                  obtain ⟨ji30, hji30⟩ : ∃ j_ : Int, (wrap64 ((wrap64 (((rd_L2 t189 x37_1).length : Int) - 1)) - x46_2)) = j_ := ⟨_, rfl⟩
                                                  replace H : (if 0 ≤ (ji30) then (if (ji30) < ((rd_L2 t189 x37_1).length : Int) then (if x8_2.length < 8796093022208 then (juntolaw14_SorterLayers.l1 k2 l0 l1 y205 (x8_2 ++ [(⟨(rd_T53 (rd_L2 t189 x37_1) (ji30)).f0, (rd_T53 (rd_L2 t189 x37_1) (ji30)).f1⟩ : S53)]) (rd_L2 t189 x37_1) y202 t189 (t189.length : Int) x37_1 (rd_L2 t189 x37_1) ((rd_L2 t189 x37_1).length : Int) (wrap64 (x46_2 + 1))) else (none)) else (none)) else (none)) = some r := by first | (rw [hji30] at H; exact H) | (simp only [hji30] at H ⊢; exact H)
                                                  have hji30w : (IntKind.i64.wrap ((wrap64 (((rd_L2 t189 x37_1).length : Int) - 1)) - x46_2)) = ji30 := (i64_w _).trans hji30
                                                  by_cases c31 : 0 ≤ (ji30)
                                                  · rw [if_pos c31] at H
                                                    have c31b0 : decide (0 ≤ (ji30)) = true := decide_eq_true c31
                                                    clear c31
                                                    by_cases c32 : (ji30) < ((rd_L2 t189 x37_1).length : Int)
                                                    · rw [if_pos c32] at H
                                                      have c32b0 : decide ((ji30) < ((rd_L2 t189 x37_1).length : Int)) = true := decide_eq_true c32
                                                      clear c32
                                                      by_cases c33 : x8_2.length < 8796093022208
                                                      · rw [if_pos c33] at H
                                                        have LMc33 := Aside0.mk c33
                                                        clear c33
                                                        obtain ⟨y209, hy209⟩ : ∃ y_ : List (S53), y_ = (x8_2 ++ [(⟨(rd_T53 (rd_L2 t189 x37_1) (ji30)).f0, (rd_T53 (rd_L2 t189 x37_1) (ji30)).f1⟩ : S53)]) := ⟨_, rfl⟩
                                                        replace H : (juntolaw14_SorterLayers.l1 k2 l0 l1 y205 y209 (rd_L2 t189 x37_1) y202 t189 (t189.length : Int) x37_1 (rd_L2 t189 x37_1) ((rd_L2 t189 x37_1).length : Int) (wrap64 (x46_2 + 1))) = some r := by first | (rw [hy209]; with_reducible exact H) | (have H2_ := (Option.bind_some _ _).symm.trans H; rw [hy209]; with_reducible exact H2_) | (have H2_ := (Option.bind_some _ _).symm.trans H; with_reducible exact H2_) | with_reducible exact H | (rw [hy209]; exact H) | exact H
                                                        have Ny209 := Aside0.mk hy209
                                                        clear hy209
                                                        have H' := Aside0.mk H
                                                        clear H
                                                        have p198 : 0 ≤ (x46_2 : Int) := of_decide_eq_true (by first | (with_reducible assumption) | assumption)
                                                        have q198 : x46_2 < ((rd_L2 t189 x37_1).length : Int) := of_decide_eq_true (by first | (with_reducible assumption) | assumption)
                                                        obtain ⟨ad198, e198, hx198_0, hx198_1⟩ := at_T53 (Kd.R_reads' HL_35.out).2.2 x46_2 p198 q198
                                                        cases e198
                                                        replace p198 := eq_true p198
                                                        replace q198 := eq_true q198
                                                        go_wp2_with (first | ((with_reducible refine gate_dst (N := 13) rfl ?_); (try (refine gate_guard (by rfl) ?_; dsimp only)); refine box_event ?hg (N := 13) ?hd (cs := #[.int .i64 0, .int .i64 0]) (t := 53) ?hr ?_; (case hd => rfl); (case hg => rfl); (case hr => first | (go_simp; done) | (go_simp; rfl)); intro gb199 hg w34 hbox hb; have n0_ := Aside0.mk (Kd.R_below (Kd.R_elderB (by (with_reducible repeat (first | apply Kd.R_alloc | apply Kd.R_drewN | apply Kd.R_drew)); exact HO_7.out) gb199 (Nat.le_of_eq hg.symm)) hb); have n1_ := Aside0.mk (Kd.R_below (Kd.R_elderB (by (with_reducible repeat (first | apply Kd.R_alloc | apply Kd.R_drewN | apply Kd.R_drew)); exact HO_8.out) gb199 (Nat.le_of_eq hg.symm)) hb); have n2_ := Aside0.mk (Kd.R_below (by (with_reducible repeat (first | apply Kd.R_alloc | apply Kd.R_drewN | apply Kd.R_drew)); exact HO_11.out) hb); have n3_ := Aside0.mk (Kd.S_below (Kd.S_elderB (by (with_reducible repeat (first | apply Kd.S_alloc | apply Kd.S_drewN | apply Kd.S_drew)); exact HO_35.out) gb199 (Nat.le_of_eq hg.symm)) hb); have nL_ := Aside0.mk (Kd.R_below (Kd.R_elderB (by (with_reducible repeat (first | apply Kd.R_alloc | apply Kd.R_drewN | apply Kd.R_drew)); exact HL_35.out) gb199 (Nat.le_of_eq hg.symm)) hb); have n4_ := Aside0.mk (below_step (by repeat (first | (with_reducible first | exact HB.out | apply below_alloc | apply pw_below_drewN | apply below_drew1) | exact HB.out)) hb); have n5_ := Aside0.mk (hbox); have n6_ := Aside0.mk ((by rw [hg]; exact (below_size (by repeat (first | (with_reducible first | exact HB.out | apply below_alloc | apply pw_below_drewN | apply below_drew1) | exact HB.out))) : w.heap.size ≤ gb199)); have n7_ := Aside0.mk ((by rw [hg]; exact (below_size (by repeat (first | (with_reducible first | exact HB.out | apply below_alloc | apply pw_below_drewN | apply below_drew1) | exact HB.out))) : w.heap.size ≤ gb199)); clear HO_7; clear HO_8; clear HO_11; clear HO_35; clear HL_35; clear HB; have HO_7 := n0_; have HO_8 := n1_; have HO_11 := n2_; have HO_35 := n3_; have HL_35 := nL_; clear nL_; have HB := n4_; have BK199 := n5_; have GW199 := n6_; have GE199 := n7_; clear n0_ n1_ n2_ n3_ n4_ n5_ n6_ n7_; clear hb hbox hg; have hcz35_0 : w34.cell? ⟨gb199, 0, none⟩ = some (.int .i64 0) := (blk_cell BK199.out 0).trans rfl; have hcz35_1 : w34.cell? ⟨gb199, 1, none⟩ = some (.int .i64 0) := (blk_cell BK199.out 1).trans rfl; have hfz35_0 := blk_frozen BK199.out 0; have hfz35_1 := blk_frozen BK199.out 1; obtain ⟨Ao36, co36, eo36⟩ := Kd.R_slice HO_11.out; (first | subst eo36 | cases eo36); have p200 : 0 ≤ (((rd_T53 (rd_L2 t189 x37_1) x46_2).f0) : Int) := of_decide_eq_true (by first | (with_reducible assumption) | assumption); have q200 : ((rd_T53 (rd_L2 t189 x37_1) x46_2).f0) < (x11_2.length : Int) := of_decide_eq_true (by first | (with_reducible assumption) | assumption); obtain ⟨ad200, e200, hx200_0⟩ := Kd.at_bool (Kd.R_reads' HO_11.out).2.2 ((rd_T53 (rd_L2 t189 x37_1) x46_2).f0) p200 q200; (try rw [← Nbq22.out] at hx200_0); (try rw [← Nbq26.out] at hx200_0); cases e200; have hn200_0 : ad200.block ≠ gb199 := Kd.own_blk (Kd.R_ne HO_11.out BK199.out (by decide)); have hn200_1 : ad200.block ≠ gb199 := Kd.own_blk (Kd.R_ne HO_11.out BK199.out (by decide)); replace hx200_0 := (cell_far (p := ⟨gb199, 0, none⟩) (by first | (rw [add_block]; exact hn200_0) | (show (Addr.add _ _).block ≠ _; rw [add_block]; exact hn200_0) | exact hn200_0) (.int .i64 ((rd_T53 (rd_L2 t189 x37_1) x46_2).f0))).trans hx200_0; replace hx200_0 := (cell_far (p := ⟨gb199, 1, none⟩) (by first | (rw [add_block]; exact hn200_1) | (show (Addr.add _ _).block ≠ _; rw [add_block]; exact hn200_1) | exact hn200_1) (.int .i64 ((rd_T53 (rd_L2 t189 x37_1) x46_2).f1))).trans hx200_0; clear hn200_0; clear hn200_1; replace p200 := eq_true p200; replace q200 := eq_true q200; have p201 : 0 ≤ (((rd_T53 (rd_L2 t189 x37_1) x46_2).f1) : Int) := of_decide_eq_true (by first | (with_reducible assumption) | assumption); have q201 : ((rd_T53 (rd_L2 t189 x37_1) x46_2).f1) < (x11_2.length : Int) := of_decide_eq_true (by first | (with_reducible assumption) | assumption); obtain ⟨ad201, e201, hx201_0⟩ := Kd.at_bool (Kd.R_reads' HO_11.out).2.2 ((rd_T53 (rd_L2 t189 x37_1) x46_2).f1) p201 q201; (try rw [← Nbq22.out] at hx201_0); (try rw [← Nbq26.out] at hx201_0); obtain rfl : ad200 = ad201 := (by injection e201); have hn201_0 : ad200.block ≠ gb199 := Kd.own_blk (Kd.R_ne HO_11.out BK199.out (by decide)); have hn201_1 : ad200.block ≠ gb199 := Kd.own_blk (Kd.R_ne HO_11.out BK199.out (by decide)); replace hx201_0 := (cell_far (p := ⟨gb199, 0, none⟩) (by first | (rw [add_block]; exact hn201_0) | (show (Addr.add _ _).block ≠ _; rw [add_block]; exact hn201_0) | exact hn201_0) (.int .i64 ((rd_T53 (rd_L2 t189 x37_1) x46_2).f0))).trans hx201_0; replace hx201_0 := (cell_far (p := ⟨gb199, 1, none⟩) (by first | (rw [add_block]; exact hn201_1) | (show (Addr.add _ _).block ≠ _; rw [add_block]; exact hn201_1) | exact hn201_1) (.int .i64 ((rd_T53 (rd_L2 t189 x37_1) x46_2).f1))).trans hx201_0; clear hn201_0; clear hn201_1; replace p201 := eq_true p201; replace q201 := eq_true q201))
                                                        have P0 := of_eq_true p200
                                                        have Q0 := of_eq_true q200
                                                        have P1 := of_eq_true p201
                                                        have Q1 := of_eq_true q201
                                                        obtain ⟨go, cogo, ego, hgo, _, cells14, hcells14⟩ := Kd.R_form HO_11.out (by omega)
                                                        clear hcells14
                                                        cases ego
                                                        have o11 : Kd.R Kd.bool 4 ((w34.setCell ⟨gb199, 0, none⟩ (.int .i64 ((rd_T53 (rd_L2 t189 x37_1) x46_2).f0))).setCell ⟨gb199, 1, none⟩ (.int .i64 ((rd_T53 (rd_L2 t189 x37_1) x46_2).f1))) w.heap.size (fun _ => True) (.slice (some ⟨go, 0, none⟩) x11_2.length cv11) x11_2 := Kd.R_mono (Kd.R_far (p := ⟨gb199, 1, none⟩) (Kd.R_far (p := ⟨gb199, 0, none⟩) (Kd.R_types HO_11.out BK199.out (by decide)) (fun _ hk => hk.2) (.int .i64 ((rd_T53 (rd_L2 t189 x37_1) x46_2).f0))) (fun _ hk => hk.2) (.int .i64 ((rd_T53 (rd_L2 t189 x37_1) x46_2).f1))) (fun _ hk => trivial)
                                                        have o7 : Kd.R k53 53 ((w34.setCell ⟨gb199, 0, none⟩ (.int .i64 ((rd_T53 (rd_L2 t189 x37_1) x46_2).f0))).setCell ⟨gb199, 1, none⟩ (.int .i64 ((rd_T53 (rd_L2 t189 x37_1) x46_2).f1))) w.heap.size (fun k_ => some k_ ≠ (u8 : Value).ownBlock ∧ k_ ≠ gb199) u7 x7_2 := Kd.R_mono (Kd.R_far (p := ⟨gb199, 1, none⟩) (Kd.R_far (p := ⟨gb199, 0, none⟩) (Kd.R_mono HO_7.out (fun k_ hk => (⟨hk, hk.2⟩ : _ ∧ k_ ≠ gb199))) (fun _ hk => hk.2) (.int .i64 ((rd_T53 (rd_L2 t189 x37_1) x46_2).f0))) (fun _ hk => hk.2) (.int .i64 ((rd_T53 (rd_L2 t189 x37_1) x46_2).f1))) (fun _ h_ => h_.1)
                                                        have o8 : Kd.R k53 53 ((w34.setCell ⟨gb199, 0, none⟩ (.int .i64 ((rd_T53 (rd_L2 t189 x37_1) x46_2).f0))).setCell ⟨gb199, 1, none⟩ (.int .i64 ((rd_T53 (rd_L2 t189 x37_1) x46_2).f1))) w.heap.size (fun k_ => some k_ ≠ (u7 : Value).ownBlock ∧ k_ ≠ gb199) u8 x8_2 := Kd.R_mono (Kd.R_far (p := ⟨gb199, 1, none⟩) (Kd.R_far (p := ⟨gb199, 0, none⟩) (Kd.R_mono HO_8.out (fun k_ hk => (⟨hk, hk.2⟩ : _ ∧ k_ ≠ gb199))) (fun _ hk => hk.2) (.int .i64 ((rd_T53 (rd_L2 t189 x37_1) x46_2).f0))) (fun _ hk => hk.2) (.int .i64 ((rd_T53 (rd_L2 t189 x37_1) x46_2).f1))) (fun _ h_ => h_.1)
                                                        have l35 : Kd.R k53 53 ((w34.setCell ⟨gb199, 0, none⟩ (.int .i64 ((rd_T53 (rd_L2 t189 x37_1) x46_2).f0))).setCell ⟨gb199, 1, none⟩ (.int .i64 ((rd_T53 (rd_L2 t189 x37_1) x46_2).f1))) w.heap.size (fun k_ => (some k_ ≠ (u7 : Value).ownBlock ∧ some k_ ≠ (u8 : Value).ownBlock) ∧ k_ ≠ gb199) (.slice (some ad198) (rd_L2 t189 x37_1).length c194_0) (rd_L2 t189 x37_1) := Kd.R_mono (Kd.R_far (p := ⟨gb199, 1, none⟩) (Kd.R_far (p := ⟨gb199, 0, none⟩) (Kd.R_mono HL_35.out (fun k_ hk => (⟨hk, hk.2⟩ : _ ∧ k_ ≠ gb199))) (fun _ hk => hk.2) (.int .i64 ((rd_T53 (rd_L2 t189 x37_1) x46_2).f0))) (fun _ hk => hk.2) (.int .i64 ((rd_T53 (rd_L2 t189 x37_1) x46_2).f1))) (fun _ h_ => h_.1)
                                                        have s35 : Kd.S (Kd.slice 53 k53) 22 ((w34.setCell ⟨gb199, 0, none⟩ (.int .i64 ((rd_T53 (rd_L2 t189 x37_1) x46_2).f0))).setCell ⟨gb199, 1, none⟩ (.int .i64 ((rd_T53 (rd_L2 t189 x37_1) x46_2).f1))) w.heap.size (fun k_ => (some k_ ≠ (u7 : Value).ownBlock ∧ some k_ ≠ (u8 : Value).ownBlock) ∧ k_ ≠ gb199) (.slice (some ad194) t189.length co6) t189 := Kd.S_mono (Kd.S_far (p := ⟨gb199, 1, none⟩) (Kd.S_far (p := ⟨gb199, 0, none⟩) (Kd.S_mono HO_35.out (fun k_ hk => (⟨hk, hk.2⟩ : _ ∧ k_ ≠ gb199))) (fun _ hk => hk.2) (.int .i64 ((rd_T53 (rd_L2 t189 x37_1) x46_2).f0))) (fun _ hk => hk.2) (.int .i64 ((rd_T53 (rd_L2 t189 x37_1) x46_2).f1))) (fun _ h_ => h_.1)
                                                        have bk : ((w34.setCell ⟨gb199, 0, none⟩ (.int .i64 ((rd_T53 (rd_L2 t189 x37_1) x46_2).f0))).setCell ⟨gb199, 1, none⟩ (.int .i64 ((rd_T53 (rd_L2 t189 x37_1) x46_2).f1))).heap[gb199]? = some (.cells #[.int .i64 ((rd_T53 (rd_L2 t189 x37_1) x46_2).f0), .int .i64 ((rd_T53 (rd_L2 t189 x37_1) x46_2).f1)] 53 (0, 0)) := blk_put (cs := #[.int .i64 ((rd_T53 (rd_L2 t189 x37_1) x46_2).f0), .int .i64 0]) (blk_put (cs := #[.int .i64 0, .int .i64 0]) BK199.out 0 _ rfl) 1 _ rfl
                                                        have nb : Below w.heap.size w ((w34.setCell ⟨gb199, 0, none⟩ (.int .i64 ((rd_T53 (rd_L2 t189 x37_1) x46_2).f0))).setCell ⟨gb199, 1, none⟩ (.int .i64 ((rd_T53 (rd_L2 t189 x37_1) x46_2).f1))) := below_set (below_set HB.out GE199.out) GE199.out
                                                        clear HO_7 HO_8 HO_11 HL_35 HO_35 BK199 HB hcz35_0 hcz35_1 hfz35_0 hfz35_1 hx200_0 hx201_0 hx198_0 hx198_1 p200 q200 p201 q201
                                                        generalize hW_ : ((w34.setCell ⟨gb199, 0, none⟩ (.int .i64 ((rd_T53 (rd_L2 t189 x37_1) x46_2).f0))).setCell ⟨gb199, 1, none⟩ (.int .i64 ((rd_T53 (rd_L2 t189 x37_1) x46_2).f1))) = W1 at o11 o7 o8 l35 s35 bk nb ⊢
                                                        clear hW_
                                                        have hne : go ≠ gb199 := boolrow_ne o11 bk (by decide)
                                                        obtain ⟨hu0, hf0, hu1, hf1, hu1'⟩ := two_bools_facts o11 ((rd_T53 (rd_L2 t189 x37_1) x46_2).f0) ((rd_T53 (rd_L2 t189 x37_1) x46_2).f1) true P0 Q0 P1 Q1
                                                        have hx0 : W1.cell? ⟨gb199, 0, none⟩ = some (.int .i64 ((rd_T53 (rd_L2 t189 x37_1) x46_2).f0)) := (blk_cell bk 0).trans rfl
                                                        have hx1 : W1.cell? ⟨gb199, 1, none⟩ = some (.int .i64 ((rd_T53 (rd_L2 t189 x37_1) x46_2).f1)) := (blk_cell bk 1).trans rfl
                                                        have hx1' : (W1.setCell ⟨go, ((rd_T53 (rd_L2 t189 x37_1) x46_2).f0).toNat, none⟩ (.bool true)).drew.cell? ⟨gb199, 1, none⟩ = some (.int .i64 ((rd_T53 (rd_L2 t189 x37_1) x46_2).f1)) := (World.cell?_setCell_far _ _ _ _ hne).trans hx1
                                                        have PP := Aside0.mk (two_bools o11 ((rd_T53 (rd_L2 t189 x37_1) x46_2).f0) ((rd_T53 (rd_L2 t189 x37_1) x46_2).f1) true true)
                                                        have O11 := Aside0.mk o11
                                                        have O7 := Aside0.mk o7
                                                        have O8 := Aside0.mk o8
                                                        have L35 := Aside0.mk l35
                                                        have S35 := Aside0.mk s35
                                                        have BK := Aside0.mk bk
                                                        have Nb := Aside0.mk nb
                                                        have GO := Aside0.mk hgo
                                                        have hne' : ¬ gb199 = go := fun e => hne e.symm
                                                        clear o11 o7 o8 l35 s35 bk nb hgo
                                                        replace P0 := eq_true P0
                                                        replace P1 := eq_true P1
                                                        replace Q0 := eq_true Q0
                                                        replace Q1 := eq_true Q1
                                                        go_region
                                                        have ho := PP.out.1
                                                        have hg := PP.out.2
                                                        rw [← Ny202.out] at ho
                                                        have hb : Below w.heap.size w ((W1.setCell ⟨go, ((rd_T53 (rd_L2 t189 x37_1) x46_2).f0).toNat, none⟩ (.bool true)).setCell ⟨go, ((rd_T53 (rd_L2 t189 x37_1) x46_2).f1).toNat, none⟩ (.bool true)) := below_set (below_set Nb.out GO.out) GO.out
                                                        clear hu0 hf0 hu1 hf1 hu1' hx0 hx1 hx1' hne hne' PP P0 P1 Q0 Q1 Nb
                                                        generalize hq_ : (W1.setCell ⟨go, ((rd_T53 (rd_L2 t189 x37_1) x46_2).f0).toNat, none⟩ (.bool true)).setCell ⟨go, ((rd_T53 (rd_L2 t189 x37_1) x46_2).f1).toNat, none⟩ (.bool true) = w36 at ho hg hb ⊢
                                                        clear hq_
                                                        have n7_ := Kd.R_drew (Kd.R_over' (v := .slice (some ⟨go, 0, none⟩) x11_2.length cv11) O7.out (Kd.R_typed O11.out) (by decide) hg)
                                                        have n8_ := Kd.R_drew (Kd.R_over' (v := .slice (some ⟨go, 0, none⟩) x11_2.length cv11) O8.out (Kd.R_typed O11.out) (by decide) hg)
                                                        have nl_ := Kd.R_drew (Kd.R_over' (v := .slice (some ⟨go, 0, none⟩) x11_2.length cv11) L35.out (Kd.R_typed O11.out) (by decide) hg)
                                                        have ns_ := Kd.S_drew (Kd.S_over' (v := .slice (some ⟨go, 0, none⟩) x11_2.length cv11) S35.out (Kd.R_typed O11.out) (by decide) hg)
                                                        have nbk_ := blk_drew (blk_grown (g := gb199) (o := .cells #[.int .i64 ((rd_T53 (rd_L2 t189 x37_1) x46_2).f0), .int .i64 ((rd_T53 (rd_L2 t189 x37_1) x46_2).f1)] 53 (0, 0)) BK.out hg (Kd.R_ne O11.out BK.out (by decide)))
                                                        have nb_ := below_drew1 hb
                                                        have no_ := Kd.R_drew ho
                                                        clear ho hg hb O7 O8 L35 S35 BK O11 GO
                                                        generalize hq_ : w36.drew = w37 at n7_ n8_ nl_ ns_ nbk_ nb_ no_ ⊢
                                                        clear hq_
                                                        have HO_7 := Aside0.mk n7_
                                                        have HO_8 := Aside0.mk n8_
                                                        have HL_35 := Aside0.mk nl_
                                                        have HO_35 := Aside0.mk ns_
                                                        have BK199 := Aside0.mk nbk_
                                                        have HB := Aside0.mk nb_
                                                        have HO204 := Aside0.mk no_
                                                        clear n7_ n8_ nl_ ns_ nbk_ nb_ no_
                                                        have hcz38_0 : w37.cell? ⟨gb199, 0, none⟩ = some (.int .i64 ((rd_T53 (rd_L2 t189 x37_1) x46_2).f0)) := (blk_cell BK199.out 0).trans rfl
                                                        have hcz38_1 : w37.cell? ⟨gb199, 1, none⟩ = some (.int .i64 ((rd_T53 (rd_L2 t189 x37_1) x46_2).f1)) := (blk_cell BK199.out 1).trans rfl
                                                        have hfz38_0 := blk_frozen BK199.out 0
                                                        have hfz38_1 := blk_frozen BK199.out 1
                                                        go_wp2_with (first | ((with_reducible refine gate_builtin (b := .append) (xs := #[.tmp 90, .tmp 92]) rfl ?_); (try (refine gate_guard (by rfl) ?_; dsimp only)); at_builtin; refine Kd.R_append k53 (w0 := w) w.heap.size rfl (.tmp 90) (.tmp 92) 22 53 (.agg #[(.int .i64 0), (.int .i64 0)]) 16 rfl Try.underlying22 info53 rfl (by decide) (by omega) u7 x7_2 (⟨(rd_T53 (rd_L2 t189 x37_1) x46_2).f0, (rd_T53 (rd_L2 t189 x37_1) x46_2).f1⟩ : S53) [.int .i64 ((rd_T53 (rd_L2 t189 x37_1) x46_2).f0), .int .i64 ((rd_T53 (rd_L2 t189 x37_1) x46_2).f1)] (fun k_ => some k_ ≠ (u8 : Value).ownBlock ∧ k_ ≠ gb199) (fun _ => False) rfl rfl ?aP (fun _ hk => hk.elim) ?aF ?aO ?aB ?aS ?aL ?_; (case aP => exact k53_mkM _ _ _ (⟨(rd_T53 (rd_L2 t189 x37_1) x46_2).f0, (rd_T53 (rd_L2 t189 x37_1) x46_2).f1⟩ : S53)); (case aB => exact (by repeat (first | (with_reducible first | exact HB.out | apply below_alloc | apply pw_below_drewN | apply below_drew1 | refine below_set ?_ GE199.out) | exact HB.out))); (case aF => exact (fun k_ hk => ⟨Kd.fresh' (Kd.R_lt (by (with_reducible repeat (first | apply Kd.R_alloc | apply Kd.R_drewN | apply Kd.R_drew)); exact HO_8.out)) k_ hk, Kd.freshB (g := gb199) (o := .cells #[.int .i64 ((rd_T53 (rd_L2 t189 x37_1) x46_2).f0), .int .i64 ((rd_T53 (rd_L2 t189 x37_1) x46_2).f1)] 53 (0, 0)) (by (with_reducible repeat (first | refine blk_drewN ?_ _ | refine blk_drew ?_ | refine blk_alloc ?_ _)); exact BK199.out) k_ hk⟩)); (case aO => exact (by (with_reducible repeat (first | apply Kd.R_alloc | apply Kd.R_drewN | apply Kd.R_drew)); exact HO_7.out)); (case aS => exact (below_size (by repeat (first | (with_reducible first | exact HB.out | apply below_alloc | apply pw_below_drewN | apply below_drew1 | refine below_set ?_ GE199.out) | exact HB.out)))); (case aL => have := LMc29.out; omega); intro v206 w39 ho hb hg hat; rw [← Ny205.out] at ho; have n0_ := Aside0.mk (Kd.R_after (ok := (fun k_ => k_ ≠ gb199)) (by (with_reducible repeat (first | apply Kd.R_alloc | apply Kd.R_drewN | apply Kd.R_drew)); exact Kd.R_mono HO_8.out (fun _ hk => ⟨hk.2, hk.1⟩)) hg hat); have n1_ := Aside0.mk (Kd.S_after (ok := (fun k_ => some k_ ≠ (u8 : Value).ownBlock ∧ k_ ≠ gb199)) (by (with_reducible repeat (first | apply Kd.S_alloc | apply Kd.S_drewN | apply Kd.S_drew)); exact Kd.S_mono HO_35.out (fun _ hk => ⟨⟨hk.1.2, hk.2⟩, hk.1.1⟩)) hg hat); have nL_ := Aside0.mk (Kd.R_after (ok := (fun k_ => some k_ ≠ (u8 : Value).ownBlock ∧ k_ ≠ gb199)) (by (with_reducible repeat (first | apply Kd.R_alloc | apply Kd.R_drewN | apply Kd.R_drew)); exact Kd.R_mono HL_35.out (fun _ hk => ⟨⟨hk.1.2, hk.2⟩, hk.1.1⟩)) hg hat); have n2_ := Aside0.mk (blk_grown (g := gb199) (o := .cells #[.int .i64 ((rd_T53 (rd_L2 t189 x37_1) x46_2).f0), .int .i64 ((rd_T53 (rd_L2 t189 x37_1) x46_2).f1)] 53 (0, 0)) (by (with_reducible repeat (first | refine blk_drewN ?_ _ | refine blk_drew ?_ | refine blk_alloc ?_ _)); exact BK199.out) hg (Kd.R_away HO_7.out (fun _ hk => hk.2))); have n3_ := Aside0.mk (Kd.R_over' (by (with_reducible repeat (first | apply Kd.R_alloc | apply Kd.R_drewN | apply Kd.R_drew)); exact HO204.out) (Kd.R_typed (by (with_reducible repeat (first | apply Kd.R_alloc | apply Kd.R_drewN | apply Kd.R_drew)); exact HO_7.out)) (by decide) hg); have n4_ := Aside0.mk (hb); have n5_ := Aside0.mk (ho); clear HO_8; clear HO_35; clear HL_35; clear BK199; clear HO204; clear HB; clear HO_7; have HO_8 := n0_; have HO_35 := n1_; have HL_35 := nL_; clear nL_; have BK199 := n2_; have HO204 := n3_; have HB := n4_; have HO207 := n5_; clear n0_ n1_ n2_ n3_ n4_ n5_; clear ho hb hg hat; have p208 : 0 ≤ ((ji30) : Int) := of_decide_eq_true (by first | (with_reducible assumption) | assumption); have q208 : (ji30) < ((rd_L2 t189 x37_1).length : Int) := of_decide_eq_true (by first | (with_reducible assumption) | assumption); obtain ⟨ad208, e208, hx208_0, hx208_1⟩ := at_T53 (Kd.R_reads' HL_35.out).2.2 (ji30) p208 q208; obtain rfl : ad198 = ad208 := (by injection e208); replace p208 := eq_true p208; replace q208 := eq_true q208) | ((with_reducible refine gate_builtin (b := .append) (xs := #[.tmp 94, .tmp 103]) rfl ?_); (try (refine gate_guard (by rfl) ?_; dsimp only)); at_builtin; refine Kd.R_append k53 (w0 := w) w.heap.size rfl (.tmp 94) (.tmp 103) 22 53 (.agg #[(.int .i64 0), (.int .i64 0)]) 16 rfl Try.underlying22 info53 rfl (by decide) (by omega) u8 x8_2 (⟨(rd_T53 (rd_L2 t189 x37_1) (ji30)).f0, (rd_T53 (rd_L2 t189 x37_1) (ji30)).f1⟩ : S53) [.int .i64 ((rd_T53 (rd_L2 t189 x37_1) (ji30)).f0), .int .i64 ((rd_T53 (rd_L2 t189 x37_1) (ji30)).f1)] (fun k_ => some k_ ≠ (v206 : Value).ownBlock ∧ k_ ≠ gb199) (fun _ => False) rfl rfl ?aP (fun _ hk => hk.elim) ?aF ?aO ?aB ?aS ?aL ?_; (case aP => exact k53_mkM _ _ _ (⟨(rd_T53 (rd_L2 t189 x37_1) (ji30)).f0, (rd_T53 (rd_L2 t189 x37_1) (ji30)).f1⟩ : S53)); (case aB => exact (by repeat (first | (with_reducible first | exact HB.out | apply below_alloc | apply pw_below_drewN | apply below_drew1 | refine below_set ?_ GE199.out) | exact HB.out))); (case aF => exact (fun k_ hk => ⟨Kd.fresh' (Kd.R_lt (by (with_reducible repeat (first | apply Kd.R_alloc | apply Kd.R_drewN | apply Kd.R_drew)); exact HO207.out)) k_ hk, Kd.freshB (g := gb199) (o := .cells #[.int .i64 ((rd_T53 (rd_L2 t189 x37_1) x46_2).f0), .int .i64 ((rd_T53 (rd_L2 t189 x37_1) x46_2).f1)] 53 (0, 0)) (by (with_reducible repeat (first | refine blk_drewN ?_ _ | refine blk_drew ?_ | refine blk_alloc ?_ _)); exact BK199.out) k_ hk⟩)); (case aO => exact (by (with_reducible repeat (first | apply Kd.R_alloc | apply Kd.R_drewN | apply Kd.R_drew)); exact Kd.R_mono HO_8.out (fun _ hk => ⟨hk.2, hk.1⟩))); (case aS => exact (below_size (by repeat (first | (with_reducible first | exact HB.out | apply below_alloc | apply pw_below_drewN | apply below_drew1 | refine below_set ?_ GE199.out) | exact HB.out)))); (case aL => have := LMc33.out; omega); intro v210 w40 ho hb hg hat; rw [← Ny209.out] at ho; have n0_ := Aside0.mk (Kd.S_after (ok := (fun k_ => some k_ ≠ (v206 : Value).ownBlock ∧ k_ ≠ gb199)) (by (with_reducible repeat (first | apply Kd.S_alloc | apply Kd.S_drewN | apply Kd.S_drew)); exact Kd.S_mono HO_35.out (fun _ hk => ⟨⟨hk.2, hk.1.2⟩, hk.1.1⟩)) hg hat); have nL_ := Aside0.mk (Kd.R_after (ok := (fun k_ => some k_ ≠ (v206 : Value).ownBlock ∧ k_ ≠ gb199)) (by (with_reducible repeat (first | apply Kd.R_alloc | apply Kd.R_drewN | apply Kd.R_drew)); exact Kd.R_mono HL_35.out (fun _ hk => ⟨⟨hk.2, hk.1.2⟩, hk.1.1⟩)) hg hat); have n1_ := Aside0.mk (blk_grown (g := gb199) (o := .cells #[.int .i64 ((rd_T53 (rd_L2 t189 x37_1) x46_2).f0), .int .i64 ((rd_T53 (rd_L2 t189 x37_1) x46_2).f1)] 53 (0, 0)) (by (with_reducible repeat (first | refine blk_drewN ?_ _ | refine blk_drew ?_ | refine blk_alloc ?_ _)); exact BK199.out) hg (Kd.R_away HO_8.out (fun _ hk => hk.1))); have n2_ := Aside0.mk (Kd.R_over' (by (with_reducible repeat (first | apply Kd.R_alloc | apply Kd.R_drewN | apply Kd.R_drew)); exact HO204.out) (Kd.R_typed (by (with_reducible repeat (first | apply Kd.R_alloc | apply Kd.R_drewN | apply Kd.R_drew)); exact HO_8.out)) (by decide) hg); have n3_ := Aside0.mk (Kd.R_after (ok := (fun k_ => k_ ≠ gb199)) (by (with_reducible repeat (first | apply Kd.R_alloc | apply Kd.R_drewN | apply Kd.R_drew)); exact Kd.R_mono HO207.out (fun _ hk => ⟨hk.2, hk.1⟩)) hg hat); have n4_ := Aside0.mk (hb); have n5_ := Aside0.mk (ho); clear HO_35; clear HL_35; clear BK199; clear HO204; clear HO207; clear HB; clear HO_8; have HO_35 := n0_; have HL_35 := nL_; clear nL_; have BK199 := n1_; have HO204 := n2_; have HO207 := n3_; have HB := n4_; have HO211 := n5_; clear n0_ n1_ n2_ n3_ n4_ n5_; clear ho hb hg hat))
                                                        go_roundg k2
                                                        case measure => have := HK1.out; have := HK2.out; omega
                                                        case rel => exact ⟨(y205), (y209), (y202), (wrap64 (x46_2 + 1)), (by first | rfl | (simp; done) | (simp [*]; done)), H', ⟨by have := HK1.out; have := HK2.out; omega⟩, ⟨by (with_reducible repeat (first | apply Kd.R_alloc | apply Kd.R_drewN | apply Kd.R_drew)); exact Kd.R_mono HO207.out (fun _ hk => hk.2)⟩, ⟨by (with_reducible repeat (first | apply Kd.R_alloc | apply Kd.R_drewN | apply Kd.R_drew)); exact Kd.R_mono HO211.out (fun _ hk => hk.1)⟩, ⟨by (with_reducible repeat (first | apply Kd.R_alloc | apply Kd.R_drewN | apply Kd.R_drew)); exact HO204.out⟩, ⟨by (with_reducible repeat (first | apply Kd.R_alloc | apply Kd.R_drewN | apply Kd.R_drew)); exact Kd.R_mono HL_35.out (fun _ hk => ⟨hk.1.1, hk.2⟩)⟩, ⟨by (with_reducible repeat (first | apply Kd.S_alloc | apply Kd.S_drewN | apply Kd.S_drew)); exact Kd.S_mono HO_35.out (fun _ hk => ⟨hk.1.1, hk.2⟩)⟩, ⟨by repeat (first | (with_reducible first | exact HB.out | apply below_alloc | apply pw_below_drewN | apply below_drew1 | refine below_set ?_ GE199.out) | exact HB.out)⟩⟩
                                                      · rw [if_neg c33] at H
                                                        exact absurd H (by simp)
                                                    · rw [if_neg c32] at H
                                                      exact absurd H (by simp)
                                                  · rw [if_neg c31] at H
                                                    exact absurd H (by simp)
                                                · rw [if_neg c29] at H
                                                  exact absurd H (by simp)
                                              · rw [if_neg c28] at H
                                                exact absurd H (by simp)
                                          · rw [if_neg c25] at H
                                            exact absurd H (by simp)
                                        · rw [if_neg c24] at H
                                          exact absurd H (by simp)
                                    · rw [if_neg c21] at H
                                      exact absurd H (by simp)
                                  · rw [if_neg c20] at H
                                    exact absurd H (by simp)
                          · rw [if_neg c16] at H
                            exact absurd H (by simp)
                        · rw [if_neg c15] at H
                          exact absurd H (by simp)
                      · rw [if_neg c14] at H
                        have c14b0 : decide (x46_2 < ((rd_L2 t189 x37_1).length : Int)) = false := decide_eq_false c14
                        clear c14
                        have H' := Aside0.mk H
                        clear H
                        go_wp2
                        go_roundg k2
                        case measure => have := HK1.out; have := HK2.out; omega
                        case rel => exact ⟨(x7_2), (x8_2), (wrap64 (x37_1 + 1)), (by first | rfl | (simp; done) | (simp [*]; done)), H', ⟨by have := HK1.out; have := HK2.out; omega⟩, ⟨by (with_reducible repeat (first | apply Kd.R_alloc | apply Kd.R_drewN | apply Kd.R_drew)); exact HO_7.out⟩, ⟨by (with_reducible repeat (first | apply Kd.R_alloc | apply Kd.R_drewN | apply Kd.R_drew)); exact HO_8.out⟩, ⟨by (with_reducible repeat (first | apply Kd.S_alloc | apply Kd.S_drewN | apply Kd.S_drew)); exact HO_35.out⟩, ⟨by repeat (first | (with_reducible first | exact HB.out | apply below_alloc | apply pw_below_drewN | apply below_drew1) | exact HB.out)⟩⟩
                · rw [if_neg c11] at H
                  exact absurd H (by simp)
              · rw [if_neg c10] at H
                exact absurd H (by simp)
            · rw [if_neg c9] at H
              exact absurd H (by simp)
          · rw [if_neg c8] at H
            exact absurd H (by simp)
        · rw [if_neg c7] at H
          have c7b0 : decide (x37_1 < (t189.length : Int)) = false := decide_eq_false c7
          clear c7
          replace H := Option.bind_eq_some_iff.mp H
          obtain ⟨⟨t212, t213⟩, A410, H⟩ := H
          replace H : ((sorter_Run.f k1 x7_1 l1).bind fun bt216 => ((sorter_Run.f k1 x8_1 l1).bind fun bt220 => (if t213 = 0 then (if bt216.2 = 0 then (if bt220.2 = 0 then (if (x7_1.length : Int) = (l0.length : Int) then ((juntoref01_Same.f k1 bt216.1 t212).bind fun t224 => (if t224 = true then ((juntoref01_Same.f k1 bt220.1 t212).bind fun t225 => (if t225 = true then ((juntolaw14_alive.f k1).bind fun t226 => (some t226)) else (none))) else (none))) else (none)) else (none)) else (none)) else (none)))) = some r := H
          have A41 := Aside0.mk A410
          clear A410
          replace H := Option.bind_eq_some_iff.mp H
          obtain ⟨⟨t216, t217⟩, A420, H⟩ := H
          replace H : ((sorter_Run.f k1 x8_1 l1).bind fun bt220 => (if t213 = 0 then (if t217 = 0 then (if bt220.2 = 0 then (if (x7_1.length : Int) = (l0.length : Int) then ((juntoref01_Same.f k1 t216 t212).bind fun t224 => (if t224 = true then ((juntoref01_Same.f k1 bt220.1 t212).bind fun t225 => (if t225 = true then ((juntolaw14_alive.f k1).bind fun t226 => (some t226)) else (none))) else (none))) else (none)) else (none)) else (none)) else (none))) = some r := H
          have A42 := Aside0.mk A420
          clear A420
          replace H := Option.bind_eq_some_iff.mp H
          obtain ⟨⟨t220, t221⟩, A430, H⟩ := H
          replace H : (if t213 = 0 then (if t217 = 0 then (if t221 = 0 then (if (x7_1.length : Int) = (l0.length : Int) then ((juntoref01_Same.f k1 t216 t212).bind fun t224 => (if t224 = true then ((juntoref01_Same.f k1 t220 t212).bind fun t225 => (if t225 = true then ((juntolaw14_alive.f k1).bind fun t226 => (some t226)) else (none))) else (none))) else (none)) else (none)) else (none)) else (none)) = some r := H
          have A43 := Aside0.mk A430
          clear A430
          by_cases c44 : t213 = 0
          · rw [if_pos c44] at H
            have c44b0 : (t213 == 0) = true := beq_iff_eq.mpr c44
            have c44b1 : (t213 != 0) = false := bne_eq_false_iff_eq.mpr c44
            clear c44
            by_cases c45 : t217 = 0
            · rw [if_pos c45] at H
              have c45b0 : (t217 == 0) = true := beq_iff_eq.mpr c45
              have c45b1 : (t217 != 0) = false := bne_eq_false_iff_eq.mpr c45
              clear c45
              by_cases c46 : t221 = 0
              · rw [if_pos c46] at H
                have c46b0 : (t221 == 0) = true := beq_iff_eq.mpr c46
                have c46b1 : (t221 != 0) = false := bne_eq_false_iff_eq.mpr c46
                clear c46
                by_cases c47 : (x7_1.length : Int) = (l0.length : Int)
                · rw [if_pos c47] at H
                  have c47b0 : ((x7_1.length : Int) == (l0.length : Int)) = true := beq_iff_eq.mpr c47
                  have c47b1 : ((x7_1.length : Int) != (l0.length : Int)) = false := bne_eq_false_iff_eq.mpr c47
                  have c47b2 : (x7_1.length == l0.length) = true := by first | simpa using c47 | (simp at c47 ⊢; omega)
                  clear c47
                  replace H := Option.bind_eq_some_iff.mp H
                  obtain ⟨t224, A480, H⟩ := H
                  replace H : (if t224 = true then ((juntoref01_Same.f k1 t220 t212).bind fun t225 => (if t225 = true then ((juntolaw14_alive.f k1).bind fun t226 => (some t226)) else (none))) else (none)) = some r := H
                  have A48 := Aside0.mk A480
                  clear A480
                  by_cases c49 : t224 = true
                  · subst c49
                    have H1 : ((juntoref01_Same.f k1 t220 t212).bind fun t225 => (if t225 = true then ((juntolaw14_alive.f k1).bind fun t226 => (some t226)) else (none))) = some r := by rw [if_pos rfl] at H; exact H
                    clear H
                    have H := H1
                    clear H1
                    replace H := Option.bind_eq_some_iff.mp H
                    obtain ⟨t225, A500, H⟩ := H
                    replace H : (if t225 = true then ((juntolaw14_alive.f k1).bind fun t226 => (some t226)) else (none)) = some r := H
                    have A50 := Aside0.mk A500
                    clear A500
                    by_cases c51 : t225 = true
                    · subst c51
                      have H1 : ((juntolaw14_alive.f k1).bind fun t226 => (some t226)) = some r := by rw [if_pos rfl] at H; exact H
                      clear H
                      have H := H1
                      clear H1
                      replace H := Option.bind_eq_some_iff.mp H
                      obtain ⟨t226, A520, H⟩ := H
                      replace H : (some t226) = some r := H
                      have A52 := Aside0.mk A520
                      clear A520
                      obtain rfl := Option.some.inj H
                      go_wp2_with (first | ((with_reducible refine gate_callee (f := 19) rfl ?_); refine goesL_ (some 110) rfl rfl Try.func19 (by kernel_rfl) rfl #[.slice A0 l0.length c0, .slice A1 l1.length c1] rfl (by (try simp only [List.map_toArray, List.map_cons, List.map_nil]); first | done | rfl | (simp only [List.length_drop, List.length_take]; rfl)) ?_; (with_reducible refine (sorter_Run.calls k1 _ _ l0 _ _ l1 t212 t213 _ ?side1 ?side2 ?side3 ?side4 A41.out).mono ?_); (case side1 => repeat (first | exact (Kd.C_below HR0.out HB.out) | (with_reducible refine Kd.C_alloc ?_ _) | (with_reducible refine Kd.C_drewN ?_ _) | (with_reducible refine Kd.C_drew ?_))); (case side2 => exact HC0.out); (case side3 => repeat (first | exact (Kd.C_below HR1.out HB.out) | (with_reducible refine Kd.C_alloc ?_ _) | (with_reducible refine Kd.C_drewN ?_ _) | (with_reducible refine Kd.C_drew ?_))); (case side4 => exact HC1.out); rintro e w53 ⟨v214, rfl, ho0, hb⟩; refine ⟨_, rfl, ?_⟩; have n0_ := Aside0.mk (Kd.R_below (by (with_reducible repeat (first | apply Kd.R_alloc | apply Kd.R_drewN | apply Kd.R_drew)); exact HO_7.out) hb); have n1_ := Aside0.mk (Kd.R_below (by (with_reducible repeat (first | apply Kd.R_alloc | apply Kd.R_drewN | apply Kd.R_drew)); exact HO_8.out) hb); have n2_ := Aside0.mk (Kd.S_below (by (with_reducible repeat (first | apply Kd.S_alloc | apply Kd.S_drewN | apply Kd.S_drew)); exact HO_35.out) hb); have n3_ := Aside0.mk (Kd.R_lower ho0 (below_size (by repeat (first | (with_reducible first | exact HB.out | apply below_alloc | apply pw_below_drewN | apply below_drew1) | exact HB.out)))); have n4_ := Aside0.mk (below_step (by repeat (first | (with_reducible first | exact HB.out | apply below_alloc | apply pw_below_drewN | apply below_drew1) | exact HB.out)) hb); clear HO_7; clear HO_8; clear HO_35; clear HB; have HO_7 := n0_; have HO_8 := n1_; have HO_35 := n2_; have HO215 := n3_; have HB := n4_; clear n0_ n1_ n2_ n3_ n4_; (try clear hb); (try clear hb2); (try clear hk); (try clear hi); (try clear ho0); obtain ⟨Ao54, co54, eo54⟩ := Kd.R_slice HO_7.out; subst eo54) | ((with_reducible refine gate_callee (f := 19) rfl ?_); refine goesL_ (some 116) rfl rfl Try.func19 (by kernel_rfl) rfl #[.slice Ao54 x7_1.length co54, .slice A1 l1.length c1] rfl (by (try simp only [List.map_toArray, List.map_cons, List.map_nil]); first | done | rfl | (simp only [List.length_drop, List.length_take]; rfl)) ?_; (with_reducible refine (sorter_Run.calls k1 _ _ x7_1 _ _ l1 t216 t217 _ ?side1 ?side2 ?side3 ?side4 A42.out).mono ?_); (case side1 => repeat (first | exact (Kd.R_reads' HO_7.out).2.2 | (with_reducible refine Kd.C_alloc ?_ _) | (with_reducible refine Kd.C_drewN ?_ _) | (with_reducible refine Kd.C_drew ?_))); (case side2 => exact (Kd.R_reads' HO_7.out).2.1); (case side3 => repeat (first | exact (Kd.C_below HR1.out HB.out) | (with_reducible refine Kd.C_alloc ?_ _) | (with_reducible refine Kd.C_drewN ?_ _) | (with_reducible refine Kd.C_drew ?_))); (case side4 => exact HC1.out); rintro e w55 ⟨v218, rfl, ho0, hb⟩; refine ⟨_, rfl, ?_⟩; have n0_ := Aside0.mk (Kd.R_below (by (with_reducible repeat (first | apply Kd.R_alloc | apply Kd.R_drewN | apply Kd.R_drew)); exact HO_7.out) hb); have n1_ := Aside0.mk (Kd.R_below (by (with_reducible repeat (first | apply Kd.R_alloc | apply Kd.R_drewN | apply Kd.R_drew)); exact HO_8.out) hb); have n2_ := Aside0.mk (Kd.S_below (by (with_reducible repeat (first | apply Kd.S_alloc | apply Kd.S_drewN | apply Kd.S_drew)); exact HO_35.out) hb); have n3_ := Aside0.mk (Kd.R_elder' (by (with_reducible repeat (first | apply Kd.R_alloc | apply Kd.R_drewN | apply Kd.R_drew)); exact HO215.out) (Kd.R_base ho0) hb); have n4_ := Aside0.mk (Kd.R_lower (Kd.R_new' ho0 (Kd.R_lt (by (with_reducible repeat (first | apply Kd.R_alloc | apply Kd.R_drewN | apply Kd.R_drew)); exact HO215.out))) (below_size (by repeat (first | (with_reducible first | exact HB.out | apply below_alloc | apply pw_below_drewN | apply below_drew1) | exact HB.out)))); have n5_ := Aside0.mk (below_step (by repeat (first | (with_reducible first | exact HB.out | apply below_alloc | apply pw_below_drewN | apply below_drew1) | exact HB.out)) hb); clear HO_7; clear HO_8; clear HO_35; clear HO215; clear HB; have HO_7 := n0_; have HO_8 := n1_; have HO_35 := n2_; have HO215 := n3_; have HO219 := n4_; have HB := n5_; clear n0_ n1_ n2_ n3_ n4_ n5_; (try clear hb); (try clear hb2); (try clear hk); (try clear hi); (try clear ho0); obtain ⟨Ao56, co56, eo56⟩ := Kd.R_slice HO_8.out; subst eo56) | ((with_reducible refine gate_callee (f := 19) rfl ?_); refine goesL_ (some 122) rfl rfl Try.func19 (by kernel_rfl) rfl #[.slice Ao56 x8_1.length co56, .slice A1 l1.length c1] rfl (by (try simp only [List.map_toArray, List.map_cons, List.map_nil]); first | done | rfl | (simp only [List.length_drop, List.length_take]; rfl)) ?_; (with_reducible refine (sorter_Run.calls k1 _ _ x8_1 _ _ l1 t220 t221 _ ?side1 ?side2 ?side3 ?side4 A43.out).mono ?_); (case side1 => repeat (first | exact (Kd.R_reads' HO_8.out).2.2 | (with_reducible refine Kd.C_alloc ?_ _) | (with_reducible refine Kd.C_drewN ?_ _) | (with_reducible refine Kd.C_drew ?_))); (case side2 => exact (Kd.R_reads' HO_8.out).2.1); (case side3 => repeat (first | exact (Kd.C_below HR1.out HB.out) | (with_reducible refine Kd.C_alloc ?_ _) | (with_reducible refine Kd.C_drewN ?_ _) | (with_reducible refine Kd.C_drew ?_))); (case side4 => exact HC1.out); rintro e w57 ⟨v222, rfl, ho0, hb⟩; refine ⟨_, rfl, ?_⟩; have n0_ := Aside0.mk (Kd.R_below (by (with_reducible repeat (first | apply Kd.R_alloc | apply Kd.R_drewN | apply Kd.R_drew)); exact HO_7.out) hb); have n1_ := Aside0.mk (Kd.R_below (by (with_reducible repeat (first | apply Kd.R_alloc | apply Kd.R_drewN | apply Kd.R_drew)); exact HO_8.out) hb); have n2_ := Aside0.mk (Kd.S_below (by (with_reducible repeat (first | apply Kd.S_alloc | apply Kd.S_drewN | apply Kd.S_drew)); exact HO_35.out) hb); have n3_ := Aside0.mk (Kd.R_elder' (by (with_reducible repeat (first | apply Kd.R_alloc | apply Kd.R_drewN | apply Kd.R_drew)); exact HO215.out) (Kd.R_base ho0) hb); have n4_ := Aside0.mk (Kd.R_elder' (by (with_reducible repeat (first | apply Kd.R_alloc | apply Kd.R_drewN | apply Kd.R_drew)); exact HO219.out) (Kd.R_base ho0) hb); have n5_ := Aside0.mk (Kd.R_lower (Kd.R_new' (Kd.R_new' ho0 (Kd.R_lt (by (with_reducible repeat (first | apply Kd.R_alloc | apply Kd.R_drewN | apply Kd.R_drew)); exact HO215.out))) (Kd.R_lt (by (with_reducible repeat (first | apply Kd.R_alloc | apply Kd.R_drewN | apply Kd.R_drew)); exact HO219.out))) (below_size (by repeat (first | (with_reducible first | exact HB.out | apply below_alloc | apply pw_below_drewN | apply below_drew1) | exact HB.out)))); have n6_ := Aside0.mk (below_step (by repeat (first | (with_reducible first | exact HB.out | apply below_alloc | apply pw_below_drewN | apply below_drew1) | exact HB.out)) hb); clear HO_7; clear HO_8; clear HO_35; clear HO215; clear HO219; clear HB; have HO_7 := n0_; have HO_8 := n1_; have HO_35 := n2_; have HO215 := n3_; have HO219 := n4_; have HO223 := n5_; have HB := n6_; clear n0_ n1_ n2_ n3_ n4_ n5_ n6_; (try clear hb); (try clear hb2); (try clear hk); (try clear hi); (try clear ho0); obtain ⟨Ao58, co58, eo58⟩ := Kd.R_slice HO219.out; subst eo58; obtain ⟨Ao59, co59, eo59⟩ := Kd.R_slice HO215.out; subst eo59) | (go_at_call 20; (with_reducible refine (juntoref01_Same.calls k1 _ _ t216 _ _ t212 true _ ?side1 ?side2 ?side3 ?side4 A48.out).mono ?_); (case side1 => repeat (first | exact (Kd.R_reads' HO219.out).2.2 | (with_reducible refine Kd.C_alloc ?_ _) | (with_reducible refine Kd.C_drewN ?_ _) | (with_reducible refine Kd.C_drew ?_))); (case side2 => exact (Kd.R_reads' HO219.out).2.1); (case side3 => repeat (first | exact (Kd.R_reads' HO215.out).2.2 | (with_reducible refine Kd.C_alloc ?_ _) | (with_reducible refine Kd.C_drewN ?_ _) | (with_reducible refine Kd.C_drew ?_))); (case side4 => exact (Kd.R_reads' HO215.out).2.1); rintro e w' ⟨rfl, ⟨nd, rfl⟩⟩; obtain ⟨Ao60, co60, eo60⟩ := Kd.R_slice HO223.out; subst eo60) | (go_at_call 20; (with_reducible refine (juntoref01_Same.calls k1 _ _ t220 _ _ t212 true _ ?side1 ?side2 ?side3 ?side4 A50.out).mono ?_); (case side1 => repeat (first | exact (Kd.R_reads' HO223.out).2.2 | (with_reducible refine Kd.C_alloc ?_ _) | (with_reducible refine Kd.C_drewN ?_ _) | (with_reducible refine Kd.C_drew ?_))); (case side2 => exact (Kd.R_reads' HO223.out).2.1); (case side3 => repeat (first | exact (Kd.R_reads' HO215.out).2.2 | (with_reducible refine Kd.C_alloc ?_ _) | (with_reducible refine Kd.C_drewN ?_ _) | (with_reducible refine Kd.C_drew ?_))); (case side4 => exact (Kd.R_reads' HO215.out).2.1); rintro e w' ⟨rfl, ⟨nd, rfl⟩⟩) | (go_at_call 12; (with_reducible refine (juntolaw14_alive.calls k1  t226 _ A52.out).mono ?_); rintro e w61 ⟨rfl, hb⟩; have n0_ := Aside0.mk (Kd.R_below (by (with_reducible repeat (first | apply Kd.R_alloc | apply Kd.R_drewN | apply Kd.R_drew)); exact HO_7.out) hb); have n1_ := Aside0.mk (Kd.R_below (by (with_reducible repeat (first | apply Kd.R_alloc | apply Kd.R_drewN | apply Kd.R_drew)); exact HO_8.out) hb); have n2_ := Aside0.mk (Kd.S_below (by (with_reducible repeat (first | apply Kd.S_alloc | apply Kd.S_drewN | apply Kd.S_drew)); exact HO_35.out) hb); have n3_ := Aside0.mk (Kd.R_below (by (with_reducible repeat (first | apply Kd.R_alloc | apply Kd.R_drewN | apply Kd.R_drew)); exact HO215.out) hb); have n4_ := Aside0.mk (Kd.R_below (by (with_reducible repeat (first | apply Kd.R_alloc | apply Kd.R_drewN | apply Kd.R_drew)); exact HO219.out) hb); have n5_ := Aside0.mk (Kd.R_below (by (with_reducible repeat (first | apply Kd.R_alloc | apply Kd.R_drewN | apply Kd.R_drew)); exact HO223.out) hb); have n6_ := Aside0.mk (below_step (by repeat (first | (with_reducible first | exact HB.out | apply below_alloc | apply pw_below_drewN | apply below_drew1) | exact HB.out)) hb); clear HO_7; clear HO_8; clear HO_35; clear HO215; clear HO219; clear HO223; clear HB; have HO_7 := n0_; have HO_8 := n1_; have HO_35 := n2_; have HO215 := n3_; have HO219 := n4_; have HO223 := n5_; have HB := n6_; clear n0_ n1_ n2_ n3_ n4_ n5_ n6_; (try clear hb); (try clear hb2); (try clear hk); (try clear hi)))
                      go_ret
                      exact ⟨by first | rfl | (simp [errW_none, errW_some] <;> rfl) | (simp [*, errW_none, errW_some] <;> rfl), by repeat (first | (with_reducible first | exact HB.out | apply below_alloc | apply pw_below_drewN | apply below_drew1) | exact HB.out)⟩
                    · replace c51 := Bool.eq_false_iff.mpr c51
                      subst c51
                      have H1 : (none) = some r := by rw [if_neg (show ¬ (false = true) by decide)] at H; exact H
                      clear H
                      have H := H1
                      clear H1
                      exact absurd H (by simp)
                  · replace c49 := Bool.eq_false_iff.mpr c49
                    subst c49
                    have H1 : (none) = some r := by rw [if_neg (show ¬ (false = true) by decide)] at H; exact H
                    clear H
                    have H := H1
                    clear H1
                    exact absurd H (by simp)
                · rw [if_neg c47] at H
                  exact absurd H (by simp)
              · rw [if_neg c46] at H
                exact absurd H (by simp)
            · rw [if_neg c45] at H
              exact absurd H (by simp)
          · rw [if_neg c44] at H
            exact absurd H (by simp)
  · rw [if_neg c4] at H
    have c4b0 : (t190 == 0) = false := beq_eq_false_iff_ne.mpr c4
    have c4b1 : (t190 != 0) = true := bne_iff_ne.mpr c4
    by_cases c62 : (t189.length : Int) = 0
    · rw [if_pos c62] at H
      have c62b0 : ((t189.length : Int) == 0) = true := beq_iff_eq.mpr c62
      have c62b1 : ((t189.length : Int) != 0) = false := bne_eq_false_iff_eq.mpr c62
      clear c62
      replace H := Option.bind_eq_some_iff.mp H
      obtain ⟨t193, A630, H⟩ := H
      replace H : (some t193) = some r := H
      have A63 := Aside0.mk A630
      clear A630
      obtain rfl := Option.some.inj H
      go_enter Try.func10, Try.ntmps10
      go_wp2_with (first | ((with_reducible refine gate_callee (f := 25) rfl ?_); refine goesL_ (some 24) rfl rfl Try.func25 (by kernel_rfl) rfl #[.int .i64 (l1.length : Int), .slice A0 l0.length c0] rfl (by (try simp only [List.map_toArray, List.map_cons, List.map_nil]); first | done | rfl | (simp only [List.length_drop, List.length_take]; rfl)) ?_; (with_reducible refine (sorter_Rounds.calls k (l1.length : Int) _ _ l0 t189 t190 _ ?side1 ?side2 A3.out).mono ?_); (case side1 => repeat (first | exact HR0.out | (with_reducible refine Kd.C_alloc ?_ _) | (with_reducible refine Kd.C_drewN ?_ _) | (with_reducible refine Kd.C_drew ?_))); (case side2 => exact HC0.out); rintro e w64 ⟨v191, rfl, ho0, hb⟩; refine ⟨_, rfl, ?_⟩; have n0_ := Aside0.mk (Kd.S_lower ho0 (below_size (by repeat (first | (with_reducible first | exact HB.out | apply below_alloc | apply pw_below_drewN | apply below_drew1) | exact HB.out)))); have n1_ := Aside0.mk (below_step (by repeat (first | (with_reducible first | exact HB.out | apply below_alloc | apply pw_below_drewN | apply below_drew1) | exact HB.out)) hb); clear HB; have HO192 := n0_; have HB := n1_; clear n0_ n1_; (try clear hb); (try clear hb2); (try clear hk); (try clear hi); (try clear ho0); obtain ⟨Ao65, co65, eo65⟩ := Kd.S_slice HO192.out; subst eo65) | (go_at_call 12; (with_reducible refine (juntolaw14_alive.calls k  t193 _ A63.out).mono ?_); rintro e w66 ⟨rfl, hb⟩; have n0_ := Aside0.mk (Kd.S_below (by (with_reducible repeat (first | apply Kd.S_alloc | apply Kd.S_drewN | apply Kd.S_drew)); exact HO192.out) hb); have n1_ := Aside0.mk (below_step (by repeat (first | (with_reducible first | exact HB.out | apply below_alloc | apply pw_below_drewN | apply below_drew1) | exact HB.out)) hb); clear HO192; clear HB; have HO192 := n0_; have HB := n1_; clear n0_ n1_; (try clear hb); (try clear hb2); (try clear hk); (try clear hi)))
      go_ret
      exact ⟨by first | rfl | (simp [errW_none, errW_some] <;> rfl) | (simp [*, errW_none, errW_some] <;> rfl), by repeat (first | (with_reducible first | exact HB.out | apply below_alloc | apply pw_below_drewN | apply below_drew1) | exact HB.out)⟩
    · rw [if_neg c62] at H
      exact absurd H (by simp)

end Go.Proofs.Ytmgjohlaoflebaa.Sb
