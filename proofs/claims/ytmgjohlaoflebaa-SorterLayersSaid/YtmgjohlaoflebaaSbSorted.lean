/- Functions of the program, each with its walk: juntoref14_Sorted. (Made by this session's own program out of what the kit's print wrote; no text of the print.) -/
import Derived.Test.YtmgjohlaoflebaaSb0
import Derived.Test.YtmgjohlaoflebaaSbCopy
import Derived.BigRegion
import Derived.RegionTactic
import Derived.Deep.RegionLaw
namespace Go.Proofs.Ytmgjohlaoflebaa.Sb
open Go.RowKit Go.Proofs.YtmgjohlaoflebaaW.PrintWords Go.Proofs.YtmgjohlaoflebaaW.PrintLast Go.Proofs.YtmgjohlaoflebaaW.PrintMore
attribute [local go_sem] max2_int min2_int max_two min_two max_three min_three max_four min_four   -- for this text's walks alone
set_option linter.unusedVariables false
set_option linter.unusedSimpArgs false

/-! ### juntoref14_Sorted: function 21 -/
mutual
def juntoref14_Sorted.l0 : Nat → List Int → List Int → Int → Int → Option (List Int)
  | 0, _, _, _, _ => none
  | k + 1, x3, x7, x8, x9 => if x9 < x8 then (if 0 ≤ x9 then (if x9 < (x7.length : Int) then (juntoref14_Sorted.l1 k x3 (rd x7 x9) (x3.length : Int) x7 x8 x9) else (none)) else (none)) else (some x3)
def juntoref14_Sorted.l1 : Nat → List Int → Int → Int → List Int → Int → Int → Option (List Int)
  | 0, _, _, _, _, _, _ => none
  | k + 1, x3, x5, x6, x7, x8, x9 => if x6 > 0 then (if 0 ≤ (wrap64 (x6 - 1)) then (if (wrap64 (x6 - 1)) < (x3.length : Int) then (if (rd x3 (wrap64 (x6 - 1))) > x5 then (juntoref14_Sorted.l1 k x3 x5 (wrap64 (x6 - 1)) x7 x8 x9) else (if x3.length < 17592186044416 then ((some (x3 ++ [0] : List Int)).bind fun y166 => (if 0 ≤ x6 then (if x6 < (y166.length : Int) then (juntoref14_Sorted.l0 k ((shiftR y166 (x6 : Int).toNat).set (x6 : Int).toNat x5) x7 x8 (wrap64 (x9 + 1))) else (none)) else (none))) else (none))) else (none)) else (none)) else (if x3.length < 17592186044416 then ((some (x3 ++ [0] : List Int)).bind fun y170 => (if 0 ≤ x6 then (if x6 < (y170.length : Int) then (juntoref14_Sorted.l0 k ((shiftR y170 (x6 : Int).toNat).set (x6 : Int).toNat x5) x7 x8 (wrap64 (x9 + 1))) else (none)) else (none))) else (none))
end
def juntoref14_Sorted.f (k : Nat) (l0 : List Int) : Option (List Int) := juntoref14_Sorted.l0 k ([] : List Int) l0 (l0.length : Int) 0
theorem juntoref14_Sorted.mono_l : ∀ k, (∀ y0 y1 y2 y3, LeO (juntoref14_Sorted.l0 k y0 y1 y2 y3) (juntoref14_Sorted.l0 (k + 1) y0 y1 y2 y3)) ∧ (∀ y0 y1 y2 y3 y4 y5, LeO (juntoref14_Sorted.l1 k y0 y1 y2 y3 y4 y5) (juntoref14_Sorted.l1 (k + 1) y0 y1 y2 y3 y4 y5))
  | 0 => ⟨fun _ _ _ _ r h => by simp [juntoref14_Sorted.l0] at h, fun _ _ _ _ _ _ r h => by simp [juntoref14_Sorted.l1] at h⟩
  | k + 1 => by
    obtain ⟨ih0, ih1⟩ := juntoref14_Sorted.mono_l k
    refine ⟨?_, ?_⟩
    · intro y0 y1 y2 y3
      unfold juntoref14_Sorted.l0
      repeat' first
      | (with_reducible exact ih0 _ _ _ _)
      | (with_reducible exact ih1 _ _ _ _ _ _)
      | (with_reducible exact LeO.refl _)
      | (with_reducible exact LeO.none _)
      | (with_reducible refine LeO.ite ?_ ?_)
      | (with_reducible refine LeO.bind ?_ (fun _ => ?_))
      | exact ih0 _ _ _ _
      | exact ih1 _ _ _ _ _ _
      | exact LeO.none _
      | refine LeO.ite ?_ ?_
      | refine LeO.bind ?_ (fun _ => ?_)
    · intro y0 y1 y2 y3 y4 y5
      unfold juntoref14_Sorted.l1
      repeat' first
      | (with_reducible exact ih0 _ _ _ _)
      | (with_reducible exact ih1 _ _ _ _ _ _)
      | (with_reducible exact LeO.refl _)
      | (with_reducible exact LeO.none _)
      | (with_reducible refine LeO.ite ?_ ?_)
      | (with_reducible refine LeO.bind ?_ (fun _ => ?_))
      | exact ih0 _ _ _ _
      | exact ih1 _ _ _ _ _ _
      | exact LeO.none _
      | refine LeO.ite ?_ ?_
      | refine LeO.bind ?_ (fun _ => ?_)
theorem juntoref14_Sorted.mono : ∀ a0 k, LeO (juntoref14_Sorted.f k a0) (juntoref14_Sorted.f (k + 1) a0) := by
  intro a0 k
  obtain ⟨ih0, ih1⟩ := juntoref14_Sorted.mono_l k
  unfold juntoref14_Sorted.f
  repeat' first
      | (with_reducible exact ih0 _ _ _ _)
      | (with_reducible exact ih1 _ _ _ _ _ _)
      | (with_reducible exact LeO.refl _)
      | (with_reducible exact LeO.none _)
      | (with_reducible refine LeO.ite ?_ ?_)
      | (with_reducible refine LeO.bind ?_ (fun _ => ?_))
      | exact ih0 _ _ _ _
      | exact ih1 _ _ _ _ _ _
      | exact LeO.none _
      | refine LeO.ite ?_ ?_
      | refine LeO.bind ?_ (fun _ => ?_)
set_option maxHeartbeats 8000000 in
set_option maxRecDepth 100000 in
theorem juntoref14_Sorted.calls (k : Nat) (A0 : Option Addr) (c0 : Nat) (l0 : List Int) (r : List Int) (w : World) (hr0 : Kd.C (Kd.int .u64) w A0 l0.length l0) (hc0 : l0.length ≤ c0) (h : juntoref14_Sorted.f k l0 = some r) :
    Calls Try.prog 21 #[.slice A0 l0.length c0] w fun e w' => ∃ v0_ : Value, e = .returned (v0_) ∧ Kd.R (Kd.int .u64) 47 w' w.heap.size (fun _ => True) v0_ r ∧ Below w.heap.size w w' := by
  have HR0 := Aside0.mk hr0
  have HC0 := Aside0.mk hc0
  clear hr0 hc0
  have HB := Aside0.mk (Below.refl w.heap.size w)
  have H : (juntoref14_Sorted.l0 k ([] : List Int) l0 (l0.length : Int) 0) = some r := h
  clear h
  have H' := Aside0.mk H
  clear H
  go_enter Try.func21, Try.ntmps21
  go_wp2
  go_loopg [3, 9] k (fun kq v3 v9 w' => ∃ (x3_1 : List Int) (x9_1 : Int), v9 = .int .i64 x9_1 ∧ Aside0 (juntoref14_Sorted.l0 kq x3_1 l0 (l0.length : Int) x9_1 = some r) ∧ Aside0 (kq ≤ k) ∧ Aside0 (Kd.R (Kd.int .u64) 47 w' w.heap.size (fun _ => True) v3 x3_1) ∧ Aside0 (Below w.heap.size w w'))
  case atStart => exact ⟨(([] : List Int)), (0), (by first | rfl | (simp; done) | (simp [*]; done)), H', ⟨Nat.le_refl _⟩, ⟨by first | exact Kd.R_nil _ _ _ _ _ | exact Kd.N_nil _ _ _ _ _ | exact Kd.V_nil _ _ _ _ _ | exact Kd.Q_nil _ _ _ _ _ | exact Kd.S_nil _ _ _ _ _⟩, ⟨by repeat (first | (with_reducible first | exact HB.out | apply below_alloc | apply pw_below_drewN | apply below_drew1) | exact HB.out)⟩⟩
  case round =>
    clear H'
    obtain ⟨x3_1, x9_1, rfl, HA, HK1, HO_3, HB⟩ := hrel
    cases gk with
    | zero => exact absurd HA.out (by simp [juntoref14_Sorted.l0])
    | succ k1 =>
      have H := HA.out
      clear HA
      simp only [juntoref14_Sorted.l0] at H
      by_cases c2 : x9_1 < (l0.length : Int)
      · rw [if_pos c2] at H
        have c2b0 : decide (x9_1 < (l0.length : Int)) = true := decide_eq_true c2
        clear c2
        by_cases c3 : 0 ≤ x9_1
        · rw [if_pos c3] at H
          have c3b0 : decide (0 ≤ x9_1) = true := decide_eq_true c3
          clear c3
          by_cases c4 : x9_1 < (l0.length : Int)
          · rw [if_pos c4] at H
            have c4b0 : decide (x9_1 < (l0.length : Int)) = true := decide_eq_true c4
            clear c4
            have H' := Aside0.mk H
            clear H
            have p164 : 0 ≤ (x9_1 : Int) := of_decide_eq_true (by first | (with_reducible assumption) | assumption)
            have q164 : x9_1 < (l0.length : Int) := of_decide_eq_true (by first | (with_reducible assumption) | assumption)
            obtain ⟨ad164, e164, hx164_0⟩ := Kd.at_int HR0.out x9_1 p164 q164
            cases e164
            replace hx164_0 := (HB.out.cell (World.block_lt_of_cell? w _ hx164_0)).trans hx164_0
            replace p164 := eq_true p164
            replace q164 := eq_true q164
            obtain ⟨Ao5, co5, eo5⟩ := Kd.R_slice HO_3.out
            subst eo5
            go_wp2
            go_loopg [6] k1 (fun kq v6 w' => ∃ (x6_2 : Int), v6 = .int .i64 x6_2 ∧ Aside0 (juntoref14_Sorted.l1 kq x3_1 (rd l0 x9_1) x6_2 l0 (l0.length : Int) x9_1 = some r) ∧ Aside0 (kq ≤ k1) ∧ Aside0 (Kd.R (Kd.int .u64) 47 w' w.heap.size (fun _ => True) (.slice Ao5 x3_1.length co5) x3_1) ∧ Aside0 (Below w.heap.size w w'))
            case atStart => exact ⟨((x3_1.length : Int)), (by first | rfl | (simp; done) | (simp [*]; done)), H', ⟨Nat.le_refl _⟩, ⟨by (with_reducible repeat (first | apply Kd.R_alloc | apply Kd.R_drewN | apply Kd.R_drew)); exact HO_3.out⟩, ⟨by repeat (first | (with_reducible first | exact HB.out | apply below_alloc | apply pw_below_drewN | apply below_drew1) | exact HB.out)⟩⟩
            case round =>
              clear H'
              try clear p1
              try clear q1
              try clear hx1
              try clear c2
              try clear c2b0
              try clear p2
              try clear c3
              try clear c3b0
              try clear c4
              try clear c4b0
              try clear hx164_0
              try clear p164
              try clear q164
              obtain ⟨x6_2, rfl, HA, HK2, HO_3, HB⟩ := hrel
              cases gk with
              | zero => exact absurd HA.out (by simp [juntoref14_Sorted.l1])
              | succ k2 =>
                have H := HA.out
                clear HA
                simp only [juntoref14_Sorted.l1] at H
                by_cases c6 : x6_2 > 0
                · rw [if_pos c6] at H
                  have c6b0 : decide (0 < x6_2) = true := decide_eq_true c6
                  clear c6
                  obtain ⟨ji7, hji7⟩ : ∃ j_ : Int, (wrap64 (x6_2 - 1)) = j_ := ⟨_, rfl⟩
                  replace H : (if 0 ≤ (ji7) then (if (ji7) < (x3_1.length : Int) then (if (rd x3_1 (ji7)) > (rd l0 x9_1) then (juntoref14_Sorted.l1 k2 x3_1 (rd l0 x9_1) ji7 l0 (l0.length : Int) x9_1) else (if x3_1.length < 17592186044416 then ((some (x3_1 ++ [0] : List Int)).bind fun y166 => (if 0 ≤ x6_2 then (if x6_2 < (y166.length : Int) then (juntoref14_Sorted.l0 k2 ((shiftR y166 (x6_2 : Int).toNat).set (x6_2 : Int).toNat (rd l0 x9_1)) l0 (l0.length : Int) (wrap64 (x9_1 + 1))) else (none)) else (none))) else (none))) else (none)) else (none)) = some r := by first | (rw [hji7] at H; exact H) | (simp only [hji7] at H ⊢; exact H)
                  have hji7w : (IntKind.i64.wrap (x6_2 - 1)) = ji7 := (i64_w _).trans hji7
                  by_cases c8 : 0 ≤ (ji7)
                  · rw [if_pos c8] at H
                    have c8b0 : decide (0 ≤ (ji7)) = true := decide_eq_true c8
                    clear c8
                    by_cases c9 : (ji7) < (x3_1.length : Int)
                    · rw [if_pos c9] at H
                      have c9b0 : decide ((ji7) < (x3_1.length : Int)) = true := decide_eq_true c9
                      clear c9
                      by_cases c10 : (rd x3_1 (ji7)) > (rd l0 x9_1)
                      · rw [if_pos c10] at H
                        have c10b0 : decide ((rd l0 x9_1) < (rd x3_1 (ji7))) = true := decide_eq_true c10
                        clear c10
                        have H' := Aside0.mk H
                        clear H
                        have p165 : 0 ≤ ((ji7) : Int) := of_decide_eq_true (by first | (with_reducible assumption) | assumption)
                        have q165 : (ji7) < (x3_1.length : Int) := of_decide_eq_true (by first | (with_reducible assumption) | assumption)
                        obtain ⟨ad165, e165, hx165_0⟩ := Kd.at_int (Kd.R_reads' HO_3.out).2.2 (ji7) p165 q165
                        cases e165
                        replace p165 := eq_true p165
                        replace q165 := eq_true q165
                        go_wp2
                        go_roundg k2
                        case measure => have := HK1.out; have := HK2.out; omega
                        case rel => exact ⟨(ji7), (by first | rfl | (simp; done) | (simp only [← hji7] <;> (first | rfl | simp)) | (simp [*]; done)), H', ⟨by have := HK1.out; have := HK2.out; omega⟩, ⟨by (with_reducible repeat (first | apply Kd.R_alloc | apply Kd.R_drewN | apply Kd.R_drew)); exact HO_3.out⟩, ⟨by repeat (first | (with_reducible first | exact HB.out | apply below_alloc | apply pw_below_drewN | apply below_drew1) | exact HB.out)⟩⟩
                      · rw [if_neg c10] at H
                        have c10b0 : decide ((rd l0 x9_1) < (rd x3_1 (ji7))) = false := decide_eq_false c10
                        clear c10
                        by_cases c11 : x3_1.length < 17592186044416
                        · rw [if_pos c11] at H
                          have LMc11 := Aside0.mk c11
                          clear c11
                          obtain ⟨y166, hy166⟩ : ∃ y_ : List Int, y_ = (x3_1 ++ [0]) := ⟨_, rfl⟩
                          replace H : (if 0 ≤ x6_2 then (if x6_2 < (y166.length : Int) then (juntoref14_Sorted.l0 k2 ((shiftR y166 (x6_2 : Int).toNat).set (x6_2 : Int).toNat (rd l0 x9_1)) l0 (l0.length : Int) (wrap64 (x9_1 + 1))) else (none)) else (none)) = some r := by first | (rw [hy166]; with_reducible exact H) | (have H2_ := (Option.bind_some _ _).symm.trans H; rw [hy166]; with_reducible exact H2_) | (have H2_ := (Option.bind_some _ _).symm.trans H; with_reducible exact H2_) | with_reducible exact H | (rw [hy166]; exact H) | exact H
                          have Ny166 := Aside0.mk hy166
                          clear hy166
                          by_cases c12 : 0 ≤ x6_2
                          · rw [if_pos c12] at H
                            have c12b0 : decide (0 ≤ x6_2) = true := decide_eq_true c12
                            clear c12
                            by_cases c13 : x6_2 < (y166.length : Int)
                            · rw [if_pos c13] at H
                              have c13b0 : decide (x6_2 < (y166.length : Int)) = true := decide_eq_true c13
                              clear c13
                              obtain ⟨y169, hy169⟩ : ∃ y_ : List Int, y_ = ((shiftR y166 (x6_2 : Int).toNat).set (x6_2 : Int).toNat (rd l0 x9_1)) := ⟨_, rfl⟩
                              replace H : (juntoref14_Sorted.l0 k2 y169 l0 (l0.length : Int) (wrap64 (x9_1 + 1))) = some r := by first | (rw [hy169]; with_reducible exact H) | (have H2_ := (Option.bind_some _ _).symm.trans H; rw [hy169]; with_reducible exact H2_) | (have H2_ := (Option.bind_some _ _).symm.trans H; with_reducible exact H2_) | with_reducible exact H | (rw [hy169]; exact H) | exact H
                              have Ny169 := Aside0.mk hy169
                              clear hy169
                              have H' := Aside0.mk H
                              clear H
                              have p165 : 0 ≤ ((ji7) : Int) := of_decide_eq_true (by first | (with_reducible assumption) | assumption)
                              have q165 : (ji7) < (x3_1.length : Int) := of_decide_eq_true (by first | (with_reducible assumption) | assumption)
                              obtain ⟨ad165, e165, hx165_0⟩ := Kd.at_int (Kd.R_reads' HO_3.out).2.2 (ji7) p165 q165
                              cases e165
                              replace p165 := eq_true p165
                              replace q165 := eq_true q165
                              go_wp2_with (first | ((with_reducible refine gate_builtin (b := .append) (xs := #[.tmp 28, .tmp 29]) rfl ?_); at_builtin; refine Kd.R_append (Kd.int .u64) (w0 := w) w.heap.size rfl (.tmp 28) (.tmp 29) 34 47 (.int .u64 0) 8 rfl Try.underlying34 info47 rfl (by decide) (by omega) (.slice (some ad165) x3_1.length co5) x3_1 0 [.int .u64 0] (fun _ => True) (fun _ => False) rfl rfl ?aP (fun _ hk => hk.elim) ?aF ?aO ?aB ?aS ?aL ?_; (case aP => exact rfl); (case aB => exact (by repeat (first | (with_reducible first | exact HB.out | apply below_alloc | apply pw_below_drewN | apply below_drew1) | exact HB.out))); (case aF => exact (fun _ _ => trivial)); (case aO => exact (by (with_reducible repeat (first | apply Kd.R_alloc | apply Kd.R_drewN | apply Kd.R_drew)); exact HO_3.out)); (case aS => exact (below_size (by repeat (first | (with_reducible first | exact HB.out | apply below_alloc | apply pw_below_drewN | apply below_drew1) | exact HB.out)))); (case aL => have := LMc11.out; omega); intro v167 w15 ho hb hg hat; rw [← Ny166.out] at ho; have n0_ := Aside0.mk (hb); have n1_ := Aside0.mk (ho); clear HB; clear HO_3; have HB := n0_; have HO168 := n1_; clear n0_ n1_; clear ho hb hg hat))
                              obtain ⟨a, rfl⟩ : ∃ a : Nat, x6_2 = (a : Int) := Int.eq_ofNat_of_zero_le (of_decide_eq_true c12b0)
                              have hlt : a < y166.length := Int.ofNat_lt.1 (of_decide_eq_true c13b0)
                              obtain ⟨g, cap, rfl, hg, hgl, cells, hcells⟩ := Kd.R_form HO168.out (by omega)
                              have hcap : y166.length ≤ cap ∧ cap ≤ 9223372036854775807 := by
                                rcases (Kd.own_of_R HO168.out).2 with ⟨h, _⟩ | ⟨g', cap', cur, he, _, _, h1, h2, _⟩
                                · cases h
                                · cases he; exact ⟨h1, h2⟩
                              have hw1 : IntKind.i64.wrap ((a : Int) + 1) = (a : Int) + 1 := by rw [i64_w]; exact w64_small (by omega) (by omega)
                              obtain ⟨dp, hdp⟩ : ∃ dp, (if cap = a + 1 then some (⟨g, 0, none⟩ : Addr) else some ⟨g, a + 1, none⟩) = dp := ⟨_, rfl⟩
                              have hdpA := Aside0.mk hdp
                              have f1 : 0 ≤ (a : Int) + 1 := by omega
                              have f2 : (a : Int) + 1 ≤ (y166.length : Int) := by omega
                              have f3 : a ≤ y166.length := by omega
                              have f5 : a < y166.length := hlt
                              have f4 : ¬ cap = a := by omega
                              have hltA := Aside0.mk hlt
                              have hgA := Aside0.mk hg
                              clear hcap hlt hg hgl hcells
                              replace f1 := eq_true f1
                              replace f2 := eq_true f2
                              replace f3 := eq_true f3
                              replace f5 := eq_true f5
                              go_region_law (refine step_shift rfl (.tmp 34) (.tmp 37) 34 34 rfl 47 Try.underlying34 size47 .u64 w.heap.size g cap a (fun _ => True) y166 dp (cap - (a + 1)) (cap - a) (by simp [Act.eval, Act.put]) (by simp [Act.eval, Act.put]) hdpA.out w (Kd.R_drew HO168.out) hltA.out (below_drew1 HB.out) ?_; intro w23 v23 HR23 HB23)
                              clear HB HO168 hdp hdpA
                              obtain ⟨hx23, hf23⟩ := Kd.R_celln 0 HR23.out (a : Int) (Int.natCast_nonneg a) (Int.ofNat_lt.2 hltA.out)
                              rw [Int.toNat_natCast] at hx23 hf23
                              have HP23 := Aside0.mk (Kd.R_putg HR23.out (a : Int) (rd l0 x9_1)).1
                              have HB24 := Aside0.mk (below_set (j := a) (v := .int .u64 (rd l0 x9_1)) HB23.out hgA.out)
                              go_wp2
                              go_roundg k2
                              case measure => have := HK1.out; have := HK2.out; omega
                              case rel => exact ⟨y169, wrap64 (x9_1 + 1), rfl, H', ⟨by have := HK1.out; have := HK2.out; omega⟩, ⟨by rw [Ny169.out]; exact HP23.out⟩, ⟨HB24.out⟩⟩
                            · rw [if_neg c13] at H
                              exact absurd H (by simp)
                          · rw [if_neg c12] at H
                            exact absurd H (by simp)
                        · rw [if_neg c11] at H
                          exact absurd H (by simp)
                    · rw [if_neg c9] at H
                      exact absurd H (by simp)
                  · rw [if_neg c8] at H
                    exact absurd H (by simp)
                · rw [if_neg c6] at H
                  have c6b0 : decide (0 < x6_2) = false := decide_eq_false c6
                  clear c6
                  by_cases c18 : x3_1.length < 17592186044416
                  · rw [if_pos c18] at H
                    have LMc18 := Aside0.mk c18
                    clear c18
                    obtain ⟨y170, hy170⟩ : ∃ y_ : List Int, y_ = (x3_1 ++ [0]) := ⟨_, rfl⟩
                    replace H : (if 0 ≤ x6_2 then (if x6_2 < (y170.length : Int) then (juntoref14_Sorted.l0 k2 ((shiftR y170 (x6_2 : Int).toNat).set (x6_2 : Int).toNat (rd l0 x9_1)) l0 (l0.length : Int) (wrap64 (x9_1 + 1))) else (none)) else (none)) = some r := by first | (rw [hy170]; with_reducible exact H) | (have H2_ := (Option.bind_some _ _).symm.trans H; rw [hy170]; with_reducible exact H2_) | (have H2_ := (Option.bind_some _ _).symm.trans H; with_reducible exact H2_) | with_reducible exact H | (rw [hy170]; exact H) | exact H
                    have Ny170 := Aside0.mk hy170
                    clear hy170
                    by_cases c19 : 0 ≤ x6_2
                    · rw [if_pos c19] at H
                      have c19b0 : decide (0 ≤ x6_2) = true := decide_eq_true c19
                      clear c19
                      by_cases c20 : x6_2 < (y170.length : Int)
                      · rw [if_pos c20] at H
                        have c20b0 : decide (x6_2 < (y170.length : Int)) = true := decide_eq_true c20
                        clear c20
                        obtain ⟨y173, hy173⟩ : ∃ y_ : List Int, y_ = ((shiftR y170 (x6_2 : Int).toNat).set (x6_2 : Int).toNat (rd l0 x9_1)) := ⟨_, rfl⟩
                        replace H : (juntoref14_Sorted.l0 k2 y173 l0 (l0.length : Int) (wrap64 (x9_1 + 1))) = some r := by first | (rw [hy173]; with_reducible exact H) | (have H2_ := (Option.bind_some _ _).symm.trans H; rw [hy173]; with_reducible exact H2_) | (have H2_ := (Option.bind_some _ _).symm.trans H; with_reducible exact H2_) | with_reducible exact H | (rw [hy173]; exact H) | exact H
                        have Ny173 := Aside0.mk hy173
                        clear hy173
                        have H' := Aside0.mk H
                        clear H
                        go_wp2_with (first | ((with_reducible refine gate_builtin (b := .append) (xs := #[.tmp 28, .tmp 29]) rfl ?_); at_builtin; refine Kd.R_append (Kd.int .u64) (w0 := w) w.heap.size rfl (.tmp 28) (.tmp 29) 34 47 (.int .u64 0) 8 rfl Try.underlying34 info47 rfl (by decide) (by omega) (.slice Ao5 x3_1.length co5) x3_1 0 [.int .u64 0] (fun _ => True) (fun _ => False) rfl rfl ?aP (fun _ hk => hk.elim) ?aF ?aO ?aB ?aS ?aL ?_; (case aP => exact rfl); (case aB => exact (by repeat (first | (with_reducible first | exact HB.out | apply below_alloc | apply pw_below_drewN | apply below_drew1) | exact HB.out))); (case aF => exact (fun _ _ => trivial)); (case aO => exact (by (with_reducible repeat (first | apply Kd.R_alloc | apply Kd.R_drewN | apply Kd.R_drew)); exact HO_3.out)); (case aS => exact (below_size (by repeat (first | (with_reducible first | exact HB.out | apply below_alloc | apply pw_below_drewN | apply below_drew1) | exact HB.out)))); (case aL => have := LMc18.out; omega); intro v171 w22 ho hb hg hat; rw [← Ny170.out] at ho; have n0_ := Aside0.mk (hb); have n1_ := Aside0.mk (ho); clear HB; clear HO_3; have HB := n0_; have HO172 := n1_; clear n0_ n1_; clear ho hb hg hat))
                        obtain ⟨a, rfl⟩ : ∃ a : Nat, x6_2 = (a : Int) := Int.eq_ofNat_of_zero_le (of_decide_eq_true c19b0)
                        have hlt : a < y170.length := Int.ofNat_lt.1 (of_decide_eq_true c20b0)
                        obtain ⟨g, cap, rfl, hg, hgl, cells, hcells⟩ := Kd.R_form HO172.out (by omega)
                        have hcap : y170.length ≤ cap ∧ cap ≤ 9223372036854775807 := by
                          rcases (Kd.own_of_R HO172.out).2 with ⟨h, _⟩ | ⟨g', cap', cur, he, _, _, h1, h2, _⟩
                          · cases h
                          · cases he; exact ⟨h1, h2⟩
                        have hw1 : IntKind.i64.wrap ((a : Int) + 1) = (a : Int) + 1 := by rw [i64_w]; exact w64_small (by omega) (by omega)
                        obtain ⟨dp, hdp⟩ : ∃ dp, (if cap = a + 1 then some (⟨g, 0, none⟩ : Addr) else some ⟨g, a + 1, none⟩) = dp := ⟨_, rfl⟩
                        have hdpA := Aside0.mk hdp
                        have f1 : 0 ≤ (a : Int) + 1 := by omega
                        have f2 : (a : Int) + 1 ≤ (y170.length : Int) := by omega
                        have f3 : a ≤ y170.length := by omega
                        have f5 : a < y170.length := hlt
                        have f4 : ¬ cap = a := by omega
                        have hltA := Aside0.mk hlt
                        have hgA := Aside0.mk hg
                        clear hcap hlt hg hgl hcells
                        replace f1 := eq_true f1
                        replace f2 := eq_true f2
                        replace f3 := eq_true f3
                        replace f5 := eq_true f5
                        go_region_law (refine step_shift rfl (.tmp 34) (.tmp 37) 34 34 rfl 47 Try.underlying34 size47 .u64 w.heap.size g cap a (fun _ => True) y170 dp (cap - (a + 1)) (cap - a) (by simp [Act.eval, Act.put]) (by simp [Act.eval, Act.put]) hdpA.out w (Kd.R_drew HO172.out) hltA.out (below_drew1 HB.out) ?_; intro w23 v23 HR23 HB23)
                        clear HB HO172 hdp hdpA
                        obtain ⟨hx23, hf23⟩ := Kd.R_celln 0 HR23.out (a : Int) (Int.natCast_nonneg a) (Int.ofNat_lt.2 hltA.out)
                        rw [Int.toNat_natCast] at hx23 hf23
                        have HP23 := Aside0.mk (Kd.R_putg HR23.out (a : Int) (rd l0 x9_1)).1
                        have HB24 := Aside0.mk (below_set (j := a) (v := .int .u64 (rd l0 x9_1)) HB23.out hgA.out)
                        go_wp2
                        go_roundg k2
                        case measure => have := HK1.out; have := HK2.out; omega
                        case rel => exact ⟨y173, wrap64 (x9_1 + 1), rfl, H', ⟨by have := HK1.out; have := HK2.out; omega⟩, ⟨by rw [Ny173.out]; exact HP23.out⟩, ⟨HB24.out⟩⟩
                      · rw [if_neg c20] at H
                        exact absurd H (by simp)
                    · rw [if_neg c19] at H
                      exact absurd H (by simp)
                  · rw [if_neg c18] at H
                    exact absurd H (by simp)
          · rw [if_neg c4] at H
            exact absurd H (by simp)
        · rw [if_neg c3] at H
          exact absurd H (by simp)
      · rw [if_neg c2] at H
        have c2b0 : decide (x9_1 < (l0.length : Int)) = false := decide_eq_false c2
        clear c2
        obtain rfl := Option.some.inj H
        go_wp2
        go_ret
        exact ⟨_, by first | rfl | (simp [errW_none, errW_some] <;> rfl) | (simp [*, errW_none, errW_some] <;> rfl), by (with_reducible repeat (first | apply Kd.R_alloc | apply Kd.R_drewN | apply Kd.R_drew)); exact HO_3.out, by repeat (first | (with_reducible first | exact HB.out | apply below_alloc | apply pw_below_drewN | apply below_drew1) | exact HB.out)⟩
end Go.Proofs.Ytmgjohlaoflebaa.Sb
