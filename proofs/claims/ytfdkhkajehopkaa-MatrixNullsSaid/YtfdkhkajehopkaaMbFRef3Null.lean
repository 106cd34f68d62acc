/- Functions of the program, each with its walk: juntoref03_Null. (Made by this session's own program out of what the kit's print wrote; no text of the print.) -/
import Derived.Test.YtfdkhkajehopkaaMb0
import Derived.Test.YtfdkhkajehopkaaMbFRef3Free
import Derived.Test.YtfdkhkajehopkaaMbG2
import Derived.Test.YtfdkhkajehopkaaMbR1
import Derived.Test.YtfdkhkajehopkaaMbRefReduce
namespace Go.Proofs.Ytfdkhkajehopkaa.Mb
open Go.RowKit Go.Proofs.YtfdkhkajehopkaaW.PrintWords Go.Proofs.YtfdkhkajehopkaaW.PrintLast Go.Proofs.YtfdkhkajehopkaaW.PrintMore
attribute [local go_sem] max2_int min2_int max_two min_two max_three min_three max_four min_four   -- for this text's walks alone
set_option linter.unusedVariables false
set_option linter.unusedSimpArgs false

/-! ### juntoref03_Null: function 41 -/
mutual
def juntoref03_Null.l0 : Nat → Int → List (List Int) → List (List Int) → List Int → List (List Int) → List Int → Int → Int → Option ((List (List Int)))
 | 0, _, _, _, _, _, _, _, _ => none
 | k + 1, x0, x1, x5, x6, x7, x25, x26, x27 => if x27 < x26 then (if 0 ≤ x27 then (if x27 < (x25.length : Int) then (if 0 < (x1.length : Int) then (if 0 ≤ ((rd_L1 x1 0).length : Int) then (if (((rd_L1 x1 0).length : Int) : Int).toNat ≤ 35184372088832 then ((some (List.replicate (((rd_L1 x1 0).length : Int) : Int).toNat 0 : List Int)).bind fun y213 => (if 0 ≤ (rd x25 x27) then (if (rd x25 x27) < (y213.length : Int) then (juntoref03_Null.l1 k x0 x1 x5 x6 x7 (rd x25 x27) (y213.set ((rd x25 x27) : Int).toNat 1) x25 x26 x27 x6 (x6.length : Int) 0) else (none)) else (none))) else (none)) else (none)) else (none)) else (none)) else (none)) else (some x7)
def juntoref03_Null.l1 : Nat → Int → List (List Int) → List (List Int) → List Int → List (List Int) → Int → List Int → List Int → Int → Int → List Int → Int → Int → Option ((List (List Int)))
 | 0, _, _, _, _, _, _, _, _, _, _, _, _, _ => none
 | k + 1, x0, x1, x5, x6, x7, x9, x10, x25, x26, x27, x39, x40, x41 => if x41 < x40 then (if 0 ≤ x41 then (if x41 < (x39.length : Int) then (if x41 < (x5.length : Int) then (if 0 ≤ x9 then (if x9 < ((rd_L1 x5 x41).length : Int) then ((juntoref01_Sub.f x0 0 (rd (rd_L1 x5 x41) x9)).bind fun t220 => (if 0 ≤ (rd x39 x41) then (if (rd x39 x41) < (x10.length : Int) then (juntoref03_Null.l1 k x0 x1 x5 x6 x7 x9 (x10.set ((rd x39 x41) : Int).toNat t220) x25 x26 x27 x39 x40 (wrap64 (x41 + 1))) else (none)) else (none))) else (none)) else (none)) else (none)) else (none)) else (none)) else (if x7.length < 5864062014805 then (juntoref03_Null.l0 k x0 x1 x5 x6 (x7 ++ [x10]) x25 x26 (wrap64 (x27 + 1))) else (none))
end
def juntoref03_Null.f (k : Nat) (a0 : Int) (l1 : List (List Int)) : Option ((List (List Int))) := if 0 < (l1.length : Int) then ((juntoref03_Reduce.f k a0 l1 ((rd_L1 l1 0).length : Int)).bind fun bt202 => ((juntoref03_Free.f k a0 l1).bind fun t208 => (juntoref03_Null.l0 k a0 l1 bt202.1 bt202.2 ([] : List (List Int)) t208 (t208.length : Int) 0))) else (none)
set_option maxHeartbeats 8000000 in
set_option maxRecDepth 100000 in
theorem juntoref03_Null.calls (k : Nat) (a0 : Int) (A1 : Option Addr) (c1 : Nat) (l1 : List (List Int)) (r : List (List Int)) (w : World) (hr1 : Kd.C (Kd.slice 22 (Kd.int .u64)) w A1 l1.length l1) (hc1 : l1.length ≤ c1) (h : juntoref03_Null.f k a0 l1 = some r) :
  Calls Try.prog 41 #[.int .u64 a0, .slice A1 l1.length c1] w fun e w' => ∃ v0_ : Value, e = .returned (v0_) ∧ Kd.S (Kd.slice 22 (Kd.int .u64)) 33 w' w.heap.size (fun _ => True) v0_ r ∧ Below w.heap.size w w' := by
 have HR1 := Aside0.mk hr1
 have HC1 := Aside0.mk hc1
 clear hr1 hc1
 have HB := Aside0.mk (Below.refl w.heap.size w)
 have H : (if 0 < (l1.length : Int) then ((juntoref03_Reduce.f k a0 l1 ((rd_L1 l1 0).length : Int)).bind fun bt202 => ((juntoref03_Free.f k a0 l1).bind fun t208 => (juntoref03_Null.l0 k a0 l1 bt202.1 bt202.2 ([] : List (List Int)) t208 (t208.length : Int) 0))) else (none)) = some r := h
 clear h
 by_cases c3 : 0 < (l1.length : Int)
 ·rw [if_pos c3] at H
  have c3b0 : decide (0 < (l1.length : Int)) = true := decide_eq_true c3
  have c3b1 : decide (0 < l1.length) = true := decide_eq_true (by omega)
  clear c3
  replace H := Option.bind_eq_some_iff.mp H
  obtain ⟨⟨t202, t203⟩, A40, H⟩ := H
  replace H : ((juntoref03_Free.f k a0 l1).bind fun t208 => (juntoref03_Null.l0 k a0 l1 t202 t203 ([] : List (List Int)) t208 (t208.length : Int) 0)) = some r := H
  have A4 := Aside0.mk A40
  clear A40
  replace H := Option.bind_eq_some_iff.mp H
  obtain ⟨t208, A50, H⟩ := H
  replace H : (juntoref03_Null.l0 k a0 l1 t202 t203 ([] : List (List Int)) t208 (t208.length : Int) 0) = some r := H
  have A5 := Aside0.mk A50
  clear A50
  have H' := Aside0.mk H
  clear H
  have p201 : 0 ≤ (0 : Int) := (by omega)
  have q201 : 0 < (l1.length : Int) := of_decide_eq_true (by first | (with_reducible assumption) | assumption)
  obtain ⟨ad201, A201_0, c201_0, e201, hx201_0, hl201_0, hi201_0⟩ := at_L1 HR1.out 0 p201 q201
  cases e201
  have qi201 : (0 < l1.length) = True := eq_true (by omega)
  (try rw [show ((0 : Int)).toNat = 0 from rfl] at hx201_0)
  (try rw [Addr.add_zero'] at hx201_0)
  have HR201_0 := Aside0.mk hi201_0
  have HC201_0 := Aside0.mk hl201_0
  clear hi201_0 hl201_0
  replace p201 := eq_true p201
  replace q201 := eq_true q201
  go_enter Try.func41, Try.ntmps41
  go_wp2_with (first | ((with_reducible refine gate_callee (f := 31) rfl ?_); refine goesL_ (some 20) rfl rfl Try.func31 (by kernel_rfl) rfl #[.int .u64 a0, .slice (some ad201) l1.length c1, .int .i64 ((rd_L1 l1 0).length : Int)] rfl (by (try simp only [List.map_toArray, List.map_cons, List.map_nil]); first | done | rfl | (simp only [List.length_drop, List.length_take]; rfl)) ?_; (with_reducible refine (juntoref03_Reduce.calls k a0 _ _ l1 ((rd_L1 l1 0).length : Int) t202 t203 _ ?side1 ?side2 A4.out).mono ?_); (case side1 => repeat (first | exact HR1.out | (with_reducible refine Kd.C_alloc ?_ _) | (with_reducible refine Kd.C_drewN ?_ _) | (with_reducible refine Kd.C_drew ?_))); (case side2 => exact HC1.out); rintro e w6 ⟨v204, v206, rfl, ho0, ho1, hb⟩; refine ⟨_, rfl, ?_⟩; have n0_ := Aside0.mk (Kd.S_lower ho0 (below_size (by repeat (first | (with_reducible first | exact HB.out | apply below_alloc | apply pw_below_drewN | apply below_drew1) | exact HB.out)))); have n1_ := Aside0.mk (Kd.R_lower ho1 (below_size (by repeat (first | (with_reducible first | exact HB.out | apply below_alloc | apply pw_below_drewN | apply below_drew1) | exact HB.out)))); have n2_ := Aside0.mk (below_step (by repeat (first | (with_reducible first | exact HB.out | apply below_alloc | apply pw_below_drewN | apply below_drew1) | exact HB.out)) hb); clear HB; have HO205 := n0_; have HO207 := n1_; have HB := n2_; clear n0_ n1_ n2_; (try clear hb); (try clear hb2); (try clear hk); (try clear hi); (try clear ho0); (try clear ho1)) | ((with_reducible refine gate_callee (f := 42) rfl ?_); refine goesL_ (some 25) rfl rfl Try.func42 (by kernel_rfl) rfl #[.int .u64 a0, .slice (some ad201) l1.length c1] rfl (by (try simp only [List.map_toArray, List.map_cons, List.map_nil]); first | done | rfl | (simp only [List.length_drop, List.length_take]; rfl)) ?_; (with_reducible refine (juntoref03_Free.calls k a0 _ _ l1 t208 _ ?side1 ?side2 A5.out).mono ?_); (case side1 => repeat (first | exact (Kd.C_below HR1.out HB.out) | (with_reducible refine Kd.C_alloc ?_ _) | (with_reducible refine Kd.C_drewN ?_ _) | (with_reducible refine Kd.C_drew ?_))); (case side2 => exact HC1.out); rintro e w7 ⟨v209, rfl, ho0, hb⟩; refine ⟨_, rfl, ?_⟩; have n0_ := Aside0.mk (Kd.S_below (by (with_reducible repeat (first | apply Kd.S_alloc | apply Kd.S_drewN | apply Kd.S_drew)); (first | exact HO205.out | exact Kd.S_mono HO205.out (fun _ hk => by repeat' (first | exact hk | exact hk.1 | exact hk.2 | exact hk.1.1 | exact hk.1.2 | exact hk.2.1 | exact hk.2.2 | exact trivial | refine ⟨?_, ?_⟩)))) hb); have n1_ := Aside0.mk (Kd.R_elder' (by (with_reducible repeat (first | apply Kd.R_alloc | apply Kd.R_drewN | apply Kd.R_drew)); (first | exact HO207.out | exact Kd.R_mono HO207.out (fun _ hk => by repeat' (first | exact hk | exact hk.1 | exact hk.2 | exact hk.1.1 | exact hk.1.2 | exact hk.2.1 | exact hk.2.2 | exact trivial | refine ⟨?_, ?_⟩)))) (Kd.R_base ho0) hb); have n2_ := Aside0.mk (Kd.R_lower (Kd.R_new' ho0 (Kd.R_lt (by (with_reducible repeat (first | apply Kd.R_alloc | apply Kd.R_drewN | apply Kd.R_drew)); (first | exact HO207.out | exact Kd.R_mono HO207.out (fun _ hk => by repeat' (first | exact hk | exact hk.1 | exact hk.2 | exact hk.1.1 | exact hk.1.2 | exact hk.2.1 | exact hk.2.2 | exact trivial | refine ⟨?_, ?_⟩)))))) (below_size (by repeat (first | (with_reducible first | exact HB.out | apply below_alloc | apply pw_below_drewN | apply below_drew1) | exact HB.out)))); have n3_ := Aside0.mk (below_step (by repeat (first | (with_reducible first | exact HB.out | apply below_alloc | apply pw_below_drewN | apply below_drew1) | exact HB.out)) hb); clear HO205; clear HO207; clear HB; have HO205 := n0_; have HO207 := n1_; have HO210 := n2_; have HB := n3_; clear n0_ n1_ n2_ n3_; (try clear hb); (try clear hb2); (try clear hk); (try clear hi); (try clear ho0); obtain ⟨Ao8, co8, eo8⟩ := Kd.R_slice HO210.out; subst eo8))
  go_loopg [7, 27] k (fun kq v7 v27 w' => ∃ (x7_1 : List (List Int)) (x27_1 : Int), v27 = .int .i64 x27_1 ∧ Aside0 (juntoref03_Null.l0 kq a0 l1 t202 t203 x7_1 t208 (t208.length : Int) x27_1 = some r) ∧ Aside0 (kq ≤ k) ∧ Aside0 (Kd.S (Kd.slice 22 (Kd.int .u64)) 33 w' w.heap.size (fun k_ => some k_ ≠ (v7 : Value).ownBlock) v204 t202) ∧ Aside0 (Kd.R (Kd.int .i64) 3 w' w.heap.size (fun k_ => some k_ ≠ ((.slice Ao8 t208.length co8) : Value).ownBlock) v206 t203) ∧ Aside0 (Kd.S (Kd.slice 22 (Kd.int .u64)) 33 w' w.heap.size (fun k_ => some k_ ≠ (v204 : Value).ownBlock) v7 x7_1) ∧ Aside0 (Kd.R (Kd.int .i64) 3 w' w.heap.size (fun k_ => some k_ ≠ (v206 : Value).ownBlock) (.slice Ao8 t208.length co8) t208) ∧ Aside0 (Below w.heap.size w w'))
  case atStart => exact ⟨(([] : List (List Int))), (0), (by first | rfl | (simp; done) | (simp [*]; done)), H', ⟨Nat.le_refl _⟩, ⟨by (with_reducible repeat (first | apply Kd.S_alloc | apply Kd.S_drewN | apply Kd.S_drew)); exact Kd.S_mono HO205.out (fun _ hk => (by simp [Value.ownBlock]))⟩, ⟨by (with_reducible repeat (first | apply Kd.R_alloc | apply Kd.R_drewN | apply Kd.R_drew)); exact Kd.R_mono HO207.out (fun _ hk => hk.2)⟩, ⟨by first | exact Kd.S_nil _ _ _ _ _ | exact Kd.N_nil _ _ _ _ _ | exact Kd.V_nil _ _ _ _ _ | exact Kd.Q_nil _ _ _ _ _ | exact Kd.R_nil _ _ _ _ _⟩, ⟨by (with_reducible repeat (first | apply Kd.R_alloc | apply Kd.R_drewN | apply Kd.R_drew)); exact Kd.R_mono HO210.out (fun _ hk => hk.2)⟩, ⟨by repeat (first | (with_reducible first | exact HB.out | apply below_alloc | apply pw_below_drewN | apply below_drew1) | exact HB.out)⟩⟩
  case round =>
   clear H'
   try clear c1
   try clear c2
   try clear p2
   try clear q2
   try clear hx2
   try clear qi2
   try clear c3
   try clear c3b0
   try clear c3b1
   try clear c4
   try clear hx201_0
   try clear p201
   try clear q201
   obtain ⟨x7_1, x27_1, rfl, HA, HK1, HO_5, HO_6, HO_7, HO_25, HB⟩ := hrel
   cases gk with
   | zero => exact absurd HA.out (by simp [juntoref03_Null.l0])
   | succ k1 =>
    have H := HA.out
    clear HA
    simp only [juntoref03_Null.l0] at H
    by_cases c9 : x27_1 < (t208.length : Int)
    ·rw [if_pos c9] at H
     have c9b0 : decide (x27_1 < (t208.length : Int)) = true := decide_eq_true c9
     clear c9
     by_cases c10 : 0 ≤ x27_1
     ·rw [if_pos c10] at H
      have c10b0 : decide (0 ≤ x27_1) = true := decide_eq_true c10
      clear c10
      by_cases c11 : x27_1 < (t208.length : Int)
      ·rw [if_pos c11] at H
       have c11b0 : decide (x27_1 < (t208.length : Int)) = true := decide_eq_true c11
       clear c11
       by_cases c12 : 0 < (l1.length : Int)
       ·rw [if_pos c12] at H
        have c12b0 : decide (0 < (l1.length : Int)) = true := decide_eq_true c12
        have c12b1 : decide (0 < l1.length) = true := decide_eq_true (by omega)
        clear c12
        by_cases c13 : 0 ≤ ((rd_L1 l1 0).length : Int)
        ·rw [if_pos c13] at H
         have c13b0 := eq_true c13
         have c13b1 : decide (0 ≤ ((rd_L1 l1 0).length : Int)) = true := decide_eq_true c13
         clear c13
         by_cases c14 : (((rd_L1 l1 0).length : Int) : Int).toNat ≤ 35184372088832
         ·rw [if_pos c14] at H
          have c14b0 := eq_true c14
          have c14b1 : decide ((((rd_L1 l1 0).length : Int) : Int).toNat ≤ 35184372088832) = true := decide_eq_true c14
          clear c14
          obtain ⟨y213, hy213⟩ : ∃ y_ : List Int, y_ = (List.replicate (((rd_L1 l1 0).length : Int) : Int).toNat 0) := ⟨_, rfl⟩
          replace H : (if 0 ≤ (rd t208 x27_1) then (if (rd t208 x27_1) < (y213.length : Int) then (juntoref03_Null.l1 k1 a0 l1 t202 t203 x7_1 (rd t208 x27_1) (y213.set ((rd t208 x27_1) : Int).toNat 1) t208 (t208.length : Int) x27_1 t203 (t203.length : Int) 0) else (none)) else (none)) = some r := by first | (rw [hy213]; with_reducible exact H) | (have H2_ := (Option.bind_some _ _).symm.trans H; rw [hy213]; with_reducible exact H2_) | (have H2_ := (Option.bind_some _ _).symm.trans H; with_reducible exact H2_) | with_reducible exact H | (rw [hy213]; exact H) | exact H
          have Ny213 := Aside0.mk hy213
          clear hy213
          by_cases c15 : 0 ≤ (rd t208 x27_1)
          ·rw [if_pos c15] at H
           have c15b0 : decide (0 ≤ (rd t208 x27_1)) = true := decide_eq_true c15
           clear c15
           by_cases c16 : (rd t208 x27_1) < (y213.length : Int)
           ·rw [if_pos c16] at H
            have c16b0 : decide ((rd t208 x27_1) < (y213.length : Int)) = true := decide_eq_true c16
            clear c16
            obtain ⟨y216, hy216⟩ : ∃ y_ : List Int, y_ = (y213.set ((rd t208 x27_1) : Int).toNat 1) := ⟨_, rfl⟩
            replace H : (juntoref03_Null.l1 k1 a0 l1 t202 t203 x7_1 (rd t208 x27_1) y216 t208 (t208.length : Int) x27_1 t203 (t203.length : Int) 0) = some r := by first | (rw [hy216]; with_reducible exact H) | (have H2_ := (Option.bind_some _ _).symm.trans H; rw [hy216]; with_reducible exact H2_) | (have H2_ := (Option.bind_some _ _).symm.trans H; with_reducible exact H2_) | with_reducible exact H | (rw [hy216]; exact H) | exact H
            have Ny216 := Aside0.mk hy216
            clear hy216
            have H' := Aside0.mk H
            clear H
            have p211 : 0 ≤ (x27_1 : Int) := of_decide_eq_true (by first | (with_reducible assumption) | assumption)
            have q211 : x27_1 < (t208.length : Int) := of_decide_eq_true (by first | (with_reducible assumption) | assumption)
            obtain ⟨ad211, e211, hx211_0⟩ := Kd.at_int (Kd.R_reads' HO_25.out).2.2 x27_1 p211 q211
            cases e211
            replace p211 := eq_true p211
            replace q211 := eq_true q211
            have p212 : 0 ≤ (0 : Int) := (by omega)
            have q212 : 0 < (l1.length : Int) := of_decide_eq_true (by first | (with_reducible assumption) | assumption)
            obtain ⟨ad212, A212_0, c212_0, e212, hx212_0, hl212_0, hi212_0⟩ := at_L1 HR1.out 0 p212 q212
            obtain rfl : ad201 = ad212 := (by injection e212)
            have qi212 : (0 < l1.length) = True := eq_true (by omega)
            (try rw [show ((0 : Int)).toNat = 0 from rfl] at hx212_0)
            (try rw [Addr.add_zero'] at hx212_0)
            replace hx212_0 := (HB.out.cell (World.block_lt_of_cell? w _ hx212_0)).trans hx212_0
            have HR212_0 := Aside0.mk hi212_0
            have HC212_0 := Aside0.mk hl212_0
            clear hi212_0 hl212_0
            replace p212 := eq_true p212
            replace q212 := eq_true q212
            go_wp2_with (first | ((with_reducible refine gate_dst (N := 35) rfl ?_); refine Kd.R_make (Kd.int .u64) _ 22 rfl (N := 35) rfl 33 _ _ rfl ((rd_L1 l1 0).length : Int) rfl rfl Try.underlying33 (.int .u64 0) 8 info22 rfl (by decide) (by omega) 0 (ok := fun _ => True) (okp := fun _ => True) rfl (fun _ hk => hk) trivial (of_decide_eq_true (by first | (with_reducible assumption) | assumption)) (Nat.le_trans (Nat.mul_le_mul_right _ (of_decide_eq_true (by first | (with_reducible assumption) | assumption) : ((rd_L1 l1 0).length : Int).toNat ≤ 35184372088832)) (by omega)) (Below.refl _ _) (Nat.le_refl _) ?_; intro v214 w18 ho19 hb hg_ hnew_; clear hg_ hnew_; (first | rw [← Ny213.out] at ho19 | (simp only [Int.reduceToNat] at ho19; rw [← Ny213.out] at ho19)); have n0_ := Aside0.mk (Kd.S_elder' (by (with_reducible repeat (first | apply Kd.S_alloc | apply Kd.S_drewN | apply Kd.S_drew)); (first | exact HO_5.out | exact Kd.S_mono HO_5.out (fun _ hk => by repeat' (first | exact hk | exact hk.1 | exact hk.2 | exact hk.1.1 | exact hk.1.2 | exact hk.2.1 | exact hk.2.2 | exact trivial | refine ⟨?_, ?_⟩)))) (Kd.R_base ho19) hb); have n1_ := Aside0.mk (Kd.R_below (by (with_reducible repeat (first | apply Kd.R_alloc | apply Kd.R_drewN | apply Kd.R_drew)); (first | exact HO_6.out | exact Kd.R_mono HO_6.out (fun _ hk => by repeat' (first | exact hk | exact hk.1 | exact hk.2 | exact hk.1.1 | exact hk.1.2 | exact hk.2.1 | exact hk.2.2 | exact trivial | refine ⟨?_, ?_⟩)))) hb); have n2_ := Aside0.mk (Kd.S_elder' (by (with_reducible repeat (first | apply Kd.S_alloc | apply Kd.S_drewN | apply Kd.S_drew)); (first | exact HO_7.out | exact Kd.S_mono HO_7.out (fun _ hk => by repeat' (first | exact hk | exact hk.1 | exact hk.2 | exact hk.1.1 | exact hk.1.2 | exact hk.2.1 | exact hk.2.2 | exact trivial | refine ⟨?_, ?_⟩)))) (Kd.R_base ho19) hb); have n3_ := Aside0.mk (Kd.R_below (by (with_reducible repeat (first | apply Kd.R_alloc | apply Kd.R_drewN | apply Kd.R_drew)); (first | exact HO_25.out | exact Kd.R_mono HO_25.out (fun _ hk => by repeat' (first | exact hk | exact hk.1 | exact hk.2 | exact hk.1.1 | exact hk.1.2 | exact hk.2.1 | exact hk.2.2 | exact trivial | refine ⟨?_, ?_⟩)))) hb); have n4_ := Aside0.mk (Kd.R_lower ho19 (below_size (by repeat (first | (with_reducible first | exact HB.out | apply below_alloc | apply pw_below_drewN | apply below_drew1) | exact HB.out)))); have n5_ := Aside0.mk (below_step (by repeat (first | (with_reducible first | exact HB.out | apply below_alloc | apply pw_below_drewN | apply below_drew1) | exact HB.out)) hb); clear HO_5; clear HO_6; clear HO_7; clear HO_25; clear HB; have HO_5 := n0_; have HO_6 := n1_; have HO_7 := n2_; have HO_25 := n3_; have HO215 := n4_; have HB := n5_; clear n0_ n1_ n2_ n3_ n4_ n5_; clear hb ho19; have p17 : 0 ≤ ((rd t208 x27_1) : Int) := of_decide_eq_true (by first | (with_reducible assumption) | assumption); have q17 : ((rd t208 x27_1) : Int) < ((y213.length : Int) : Int) := of_decide_eq_true (by first | (with_reducible assumption) | assumption); obtain ⟨go17, co17, eo17, gb17, gl17, cl17, HG17⟩ := Kd.R_form HO215.out (by omega); (first | cases eo17 | (injection eo17 with ea_ en_ ec_; (first | subst ea_ | (injection ea_ with ea_; subst ea_)); subst ec_; clear en_)); have GB17 := Aside0.mk gb17; have GG17 := Aside0.mk HG17; clear gb17 gl17 HG17; obtain ⟨hx17_0, hf17_0⟩ := Kd.R_celln 0 HO215.out ((rd t208 x27_1) : Int) p17 q17; replace p17 := eq_true p17; replace q17 := eq_true q17; obtain ⟨hy20_, hz20_⟩ := Kd.R_celln 0 HO215.out ((rd t208 x27_1) : Int) (of_decide_eq_true (by first | (with_reducible assumption) | assumption)) (of_decide_eq_true (by first | (with_reducible assumption) | assumption)); have HP20 := Kd.R_putg HO215.out ((rd t208 x27_1) : Int) 1) | ((with_reducible refine gate_store (t := 22) (p := 38) rfl ?_); refine store_event (t := 22) (p := 38) (v := ?vo_w21) (w1 := (w18.setCell ⟨go17, ((rd t208 x27_1) : Int).toNat, none⟩ (.int .u64 1))) ?hg ?ho ?hn ?hr ?_; (case ho => rfl); (case hg => rfl); (case hn => rfl); (case hr => first | (go_simp; done) | (go_simp; rfl)); intro w21 hw; have hg : w18.grownBy w21 (some go17) := (by rw [hw]; exact HP20.2); have hp_ : Kd.R (Kd.int .u64) 22 w21 w.heap.size (fun _ => True) (.slice (some ⟨go17, 0, none⟩) y213.length co17) y216 := (by rw [hw, Ny216.out]; exact HP20.1); clear HP20; have n0_ := Aside0.mk (Kd.S_after (v := (.slice (some ⟨go17, 0, none⟩) y213.length co17)) (v1 := (.slice (some ⟨go17, 0, none⟩) y213.length co17)) (ok := (fun k_ => some k_ ≠ (u7 : Value).ownBlock)) (by (with_reducible repeat (first | apply Kd.S_alloc | apply Kd.S_drewN | apply Kd.S_drew)); (first | exact HO_5.out | exact Kd.S_mono HO_5.out (fun _ hk => by repeat' (first | exact hk | exact hk.1 | exact hk.2 | exact hk.1.1 | exact hk.1.2 | exact hk.2.1 | exact hk.2.2 | exact trivial | refine ⟨?_, ?_⟩)))) hg (.inl rfl)); have n1_ := Aside0.mk (Kd.R_over' (v := (.slice (some ⟨go17, 0, none⟩) y213.length co17)) (by (with_reducible repeat (first | apply Kd.R_alloc | apply Kd.R_drewN | apply Kd.R_drew)); (first | exact HO_6.out | exact Kd.R_mono HO_6.out (fun _ hk => by repeat' (first | exact hk | exact hk.1 | exact hk.2 | exact hk.1.1 | exact hk.1.2 | exact hk.2.1 | exact hk.2.2 | exact trivial | refine ⟨?_, ?_⟩)))) (Kd.R_typed HO215.out) (by decide) hg); have n2_ := Aside0.mk (Kd.S_after (v := (.slice (some ⟨go17, 0, none⟩) y213.length co17)) (v1 := (.slice (some ⟨go17, 0, none⟩) y213.length co17)) (ok := (fun k_ => some k_ ≠ (v204 : Value).ownBlock)) (by (with_reducible repeat (first | apply Kd.S_alloc | apply Kd.S_drewN | apply Kd.S_drew)); (first | exact HO_7.out | exact Kd.S_mono HO_7.out (fun _ hk => by repeat' (first | exact hk | exact hk.1 | exact hk.2 | exact hk.1.1 | exact hk.1.2 | exact hk.2.1 | exact hk.2.2 | exact trivial | refine ⟨?_, ?_⟩)))) hg (.inl rfl)); have n3_ := Aside0.mk (Kd.R_over' (v := (.slice (some ⟨go17, 0, none⟩) y213.length co17)) (by (with_reducible repeat (first | apply Kd.R_alloc | apply Kd.R_drewN | apply Kd.R_drew)); (first | exact HO_25.out | exact Kd.R_mono HO_25.out (fun _ hk => by repeat' (first | exact hk | exact hk.1 | exact hk.2 | exact hk.1.1 | exact hk.1.2 | exact hk.2.1 | exact hk.2.2 | exact trivial | refine ⟨?_, ?_⟩)))) (Kd.R_typed HO215.out) (by decide) hg); have n4_ := Aside0.mk (hp_); have n5_ := Aside0.mk ((by rw [hw]; exact below_set (HB.out) GB17.out : Below w.heap.size w w21)); clear HO_5; clear HO_6; clear HO_7; clear HO_25; clear HO215; clear HB; have HO_5 := n0_; have HO_6 := n1_; have HO_7 := n2_; have HO_25 := n3_; have HO215 := n4_; have HB := n5_; clear n0_ n1_ n2_ n3_ n4_ n5_; clear hg hw hp_; obtain ⟨Ao22, co22, eo22⟩ := Kd.R_slice HO_6.out; subst eo22))
            go_loopg [41] k1 (fun kq v41 w' => ∃ (x10_2 : List Int) (x41_2 : Int), v41 = .int .i64 x41_2 ∧ Aside0 (juntoref03_Null.l1 kq a0 l1 t202 t203 x7_1 (rd t208 x27_1) x10_2 t208 (t208.length : Int) x27_1 t203 (t203.length : Int) x41_2 = some r) ∧ Aside0 (kq ≤ k1) ∧ Aside0 (Kd.S (Kd.slice 22 (Kd.int .u64)) 33 w' w.heap.size (fun k_ => some k_ ≠ (u7 : Value).ownBlock ∧ some k_ ≠ ((.slice (some ⟨go17, 0, none⟩) y213.length co17) : Value).ownBlock) v204 t202) ∧ Aside0 (Kd.R (Kd.int .i64) 3 w' w.heap.size (fun k_ => some k_ ≠ ((.slice (some ad211) t208.length co8) : Value).ownBlock) (.slice Ao22 t203.length co22) t203) ∧ Aside0 (Kd.S (Kd.slice 22 (Kd.int .u64)) 33 w' w.heap.size (fun k_ => some k_ ≠ (v204 : Value).ownBlock ∧ some k_ ≠ ((.slice (some ⟨go17, 0, none⟩) y213.length co17) : Value).ownBlock) u7 x7_1) ∧ Aside0 (Kd.R (Kd.int .u64) 22 w' w.heap.size (fun _ => True) (.slice (some ⟨go17, 0, none⟩) y213.length co17) x10_2) ∧ Aside0 (Kd.R (Kd.int .i64) 3 w' w.heap.size (fun k_ => some k_ ≠ ((.slice Ao22 t203.length co22) : Value).ownBlock ∧ some k_ ≠ ((.slice Ao22 t203.length co22) : Value).ownBlock) (.slice (some ad211) t208.length co8) t208) ∧ Aside0 (Kd.R (Kd.int .i64) 3 w' w.heap.size (fun k_ => some k_ ≠ ((.slice (some ad211) t208.length co8) : Value).ownBlock) (.slice Ao22 t203.length co22) t203) ∧ Aside0 (Below w.heap.size w w'))
            case atStart => exact ⟨(y216), (0), (by first | rfl | (simp; done) | (simp [*]; done)), H', ⟨Nat.le_refl _⟩, ⟨by (with_reducible repeat (first | apply Kd.S_alloc | apply Kd.S_drewN | apply Kd.S_drew)); exact HO_5.out⟩, ⟨by (with_reducible repeat (first | apply Kd.R_alloc | apply Kd.R_drewN | apply Kd.R_drew)); (first | exact HO_6.out | exact Kd.R_mono HO_6.out (fun _ hk => by repeat' (first | exact hk | exact hk.1 | exact hk.2 | exact hk.1.1 | exact hk.1.2 | exact hk.2.1 | exact hk.2.2 | exact trivial | refine ⟨?_, ?_⟩)))⟩, ⟨by (with_reducible repeat (first | apply Kd.S_alloc | apply Kd.S_drewN | apply Kd.S_drew)); exact HO_7.out⟩, ⟨by (with_reducible repeat (first | apply Kd.R_alloc | apply Kd.R_drewN | apply Kd.R_drew)); (first | exact HO215.out | exact Kd.R_mono HO215.out (fun _ hk => by repeat' (first | exact hk | exact hk.1 | exact hk.2 | exact hk.1.1 | exact hk.1.2 | exact hk.2.1 | exact hk.2.2 | exact trivial | refine ⟨?_, ?_⟩)))⟩, ⟨by (with_reducible repeat (first | apply Kd.R_alloc | apply Kd.R_drewN | apply Kd.R_drew)); exact Kd.R_mono HO_25.out (fun _ hk => by repeat' (first | exact hk | exact hk.1 | exact hk.2 | exact hk.1.1 | exact hk.1.2 | exact hk.2.1 | exact hk.2.2 | exact trivial | refine ⟨?_, ?_⟩))⟩, ⟨by (with_reducible repeat (first | apply Kd.R_alloc | apply Kd.R_drewN | apply Kd.R_drew)); (first | exact HO_6.out | exact Kd.R_mono HO_6.out (fun _ hk => by repeat' (first | exact hk | exact hk.1 | exact hk.2 | exact hk.1.1 | exact hk.1.2 | exact hk.2.1 | exact hk.2.2 | exact trivial | refine ⟨?_, ?_⟩)))⟩, ⟨by repeat (first | (with_reducible first | exact HB.out | apply below_alloc | apply pw_below_drewN | apply below_drew1) | exact HB.out)⟩⟩
            case round =>
             clear H'
             try clear c1
             try clear p1
             try clear q1
             try clear hx1
             try clear c2
             try clear p2
             try clear q2
             try clear hx2
             try clear qi2
             try clear c3
             try clear c3b0
             try clear c3b1
             try clear c4
             try clear c9
             try clear c9b0
             try clear c10
             try clear c10b0
             try clear c11
             try clear c11b0
             try clear c12
             try clear c12b0
             try clear c12b1
             try clear c13
             try clear c13b0
             try clear c13b1
             try clear c14
             try clear c14b0
             try clear c14b1
             try clear c15
             try clear c15b0
             try clear c16
             try clear c16b0
             try clear p17
             try clear q17
             try clear hx17
             try clear hf17
             try clear c20
             try clear p20
             try clear q20
             try clear hx20
             try clear qi20
             try clear c21
             try clear p21
             try clear q21
             try clear hx21
             try clear qi21
             try clear hx17_0
             try clear hx201_0
             try clear hx211_0
             try clear hx212_0
             try clear p17
             try clear p2
             try clear p201
             try clear p211
             try clear p212
             try clear q17
             try clear q2
             try clear q201
             try clear q211
             try clear q212
             obtain ⟨x10_2, x41_2, rfl, HA, HK2, HO_5, HO_6, HO_7, HO_10, HO_25, HO_39, HB⟩ := hrel
             have hl10_2 := (Kd.R_reads' HO_10.out).1
             rw [hl10_2] at HO_10
             (try simp only [hl10_2])
             (try simp only [hl10_2] at HO_5)
             (try simp only [hl10_2] at HO_6)
             (try simp only [hl10_2] at HO_7)
             (try simp only [hl10_2] at HO_25)
             (try simp only [hl10_2] at HO_39)
             cases gk with
             | zero => exact absurd HA.out (by simp [juntoref03_Null.l1])
             | succ k2 =>
              have H := HA.out
              clear HA
              simp only [juntoref03_Null.l1] at H
              by_cases c23 : x41_2 < (t203.length : Int)
              ·rw [if_pos c23] at H
               have c23b0 : decide (x41_2 < (t203.length : Int)) = true := decide_eq_true c23
               clear c23
               by_cases c24 : 0 ≤ x41_2
               ·rw [if_pos c24] at H
                have c24b0 : decide (0 ≤ x41_2) = true := decide_eq_true c24
                clear c24
                by_cases c25 : x41_2 < (t203.length : Int)
                ·rw [if_pos c25] at H
                 have c25b0 : decide (x41_2 < (t203.length : Int)) = true := decide_eq_true c25
                 clear c25
                 by_cases c26 : x41_2 < (t202.length : Int)
                 ·rw [if_pos c26] at H
                  have c26b0 : decide (x41_2 < (t202.length : Int)) = true := decide_eq_true c26
                  clear c26
                  by_cases c27 : 0 ≤ (rd t208 x27_1)
                  ·rw [if_pos c27] at H
                   have c27b0 : decide (0 ≤ (rd t208 x27_1)) = true := decide_eq_true c27
                   clear c27
                   by_cases c28 : (rd t208 x27_1) < ((rd_L1 t202 x41_2).length : Int)
                   ·rw [if_pos c28] at H
                    have c28b0 : decide ((rd t208 x27_1) < ((rd_L1 t202 x41_2).length : Int)) = true := decide_eq_true c28
                    clear c28
                    replace H := Option.bind_eq_some_iff.mp H
                    obtain ⟨t220, A290, H⟩ := H
                    replace H : (if 0 ≤ (rd t203 x41_2) then (if (rd t203 x41_2) < (x10_2.length : Int) then (juntoref03_Null.l1 k2 a0 l1 t202 t203 x7_1 (rd t208 x27_1) (x10_2.set ((rd t203 x41_2) : Int).toNat t220) t208 (t208.length : Int) x27_1 t203 (t203.length : Int) (wrap64 (x41_2 + 1))) else (none)) else (none)) = some r := H
                    have A29 := Aside0.mk A290
                    clear A290
                    by_cases c30 : 0 ≤ (rd t203 x41_2)
                    ·rw [if_pos c30] at H
                     have c30b0 : decide (0 ≤ (rd t203 x41_2)) = true := decide_eq_true c30
                     clear c30
                     by_cases c31 : (rd t203 x41_2) < (x10_2.length : Int)
                     ·rw [if_pos c31] at H
                      have c31b0 : decide ((rd t203 x41_2) < (x10_2.length : Int)) = true := decide_eq_true c31
                      clear c31
                      obtain ⟨y221, hy221⟩ : ∃ y_ : List Int, y_ = (x10_2.set ((rd t203 x41_2) : Int).toNat t220) := ⟨_, rfl⟩
                      replace H : (juntoref03_Null.l1 k2 a0 l1 t202 t203 x7_1 (rd t208 x27_1) y221 t208 (t208.length : Int) x27_1 t203 (t203.length : Int) (wrap64 (x41_2 + 1))) = some r := by first | (rw [hy221]; with_reducible exact H) | (have H2_ := (Option.bind_some _ _).symm.trans H; rw [hy221]; with_reducible exact H2_) | (have H2_ := (Option.bind_some _ _).symm.trans H; with_reducible exact H2_) | with_reducible exact H | (rw [hy221]; exact H) | exact H
                      have Ny221 := Aside0.mk hy221
                      clear hy221
                      have H' := Aside0.mk H
                      clear H
                      have p217 : 0 ≤ (x41_2 : Int) := of_decide_eq_true (by first | (with_reducible assumption) | assumption)
                      have q217 : x41_2 < (t203.length : Int) := of_decide_eq_true (by first | (with_reducible assumption) | assumption)
                      obtain ⟨ad217, e217, hx217_0⟩ := Kd.at_int (Kd.R_reads' HO_39.out).2.2 x41_2 p217 q217
                      cases e217
                      replace p217 := eq_true p217
                      replace q217 := eq_true q217
                      obtain ⟨Ao33, co33, eo33⟩ := Kd.S_slice HO_5.out
                      subst eo33
                      have p218 : 0 ≤ (x41_2 : Int) := of_decide_eq_true (by first | (with_reducible assumption) | assumption)
                      have q218 : x41_2 < (t202.length : Int) := of_decide_eq_true (by first | (with_reducible assumption) | assumption)
                      obtain ⟨ad218, A218_0, c218_0, e218, hx218_0, hl218_0, hi218_0⟩ := at_L1 (Kd.S_reads' HO_5.out).2.2 x41_2 p218 q218
                      cases e218
                      obtain ⟨ce218, hce218, hMe218, hcc218⟩ := Kd.S_get HO_5.out [] x41_2 p218 (by first | exact q218 | exact of_decide_eq_true (by first | (with_reducible assumption) | assumption) | (have e_ := (Kd.S_reads' HO_5.out).1; omega))
                      obtain ⟨ve218_0, rfl, ge218_0⟩ := hMe218
                      have hv218_0 := hcc218 0 _ rfl
                      rw [Nat.add_zero, show ((Kd.slice 22 (Kd.int .u64))).sz = 1 from rfl, Nat.mul_one] at hv218_0
                      replace hv218_0 := Option.some.inj (hv218_0.symm.trans hx218_0)
                      rw [hv218_0] at ge218_0
                      have HL218_0 := Aside0.mk (show Kd.R (Kd.int .u64) 22 _ _ _ _ (rd_L1 t202 x41_2) from ge218_0)
                      clear hv218_0 ge218_0
                      clear hcc218 hce218
                      have HR218_0 := Aside0.mk hi218_0
                      have HC218_0 := Aside0.mk hl218_0
                      clear hi218_0 hl218_0
                      replace p218 := eq_true p218
                      replace q218 := eq_true q218
                      have p219 : 0 ≤ ((rd t208 x27_1) : Int) := of_decide_eq_true (by first | (with_reducible assumption) | assumption)
                      have q219 : (rd t208 x27_1) < ((rd_L1 t202 x41_2).length : Int) := of_decide_eq_true (by first | (with_reducible assumption) | assumption)
                      obtain ⟨ad219, e219, hx219_0⟩ := Kd.at_int (by repeat (first | (with_reducible exact HR218_0.out) | (with_reducible refine Kd.C_alloc ?_ _) | (with_reducible refine Kd.C_drewN ?_ _) | (with_reducible refine Kd.C_drew ?_) | exact HR218_0.out)) (rd t208 x27_1) p219 q219
                      cases e219
                      replace p219 := eq_true p219
                      replace q219 := eq_true q219
                      go_wp2_with (first | ((with_reducible refine gate_callee (f := 57) rfl ?_); refine goesL_ (some 56) rfl rfl Try.func57 (by kernel_rfl) rfl #[.int .u64 a0, .int .u64 0, .int .u64 (rd (rd_L1 t202 x41_2) (rd t208 x27_1))] rfl (by (try simp only [List.map_toArray, List.map_cons, List.map_nil]); first | done | rfl | (simp only [List.length_drop, List.length_take]; rfl)) ?_; (with_reducible refine (juntoref01_Sub.calls a0 0 (rd (rd_L1 t202 x41_2) (rd t208 x27_1)) t220 _ A29.out).mono ?_); rintro e w' ⟨rfl, ⟨nd, rfl⟩⟩; refine ⟨_, rfl, ?_⟩; (try (rw [drewN_self wr]; generalize hq_ : World.drewN wr _ = wr; have n0_ : Aside0 (Kd.R (Kd.int .u64) 22 wr w.heap.size (fun k_ => some k_ ≠ (.slice (some ⟨go17, 0, none⟩) x10_2.length co17 : Value).ownBlock ∧ some k_ ≠ (.slice (some ad218) t202.length co33 : Value).ownBlock ∧ some k_ ≠ (u7 : Value).ownBlock) (.slice (some ad219) (rd_L1 t202 x41_2).length c218_0) (rd_L1 t202 x41_2)) := ⟨by rw [← hq_]; exact (by (with_reducible repeat (first | apply Kd.R_alloc | apply Kd.R_drewN | apply Kd.R_drew)); exact Kd.R_mono HL218_0.out (fun _ hk => by repeat' (first | exact hk | exact hk.1 | exact hk.2 | exact hk.1.1 | exact hk.1.2 | exact hk.2.1 | exact hk.2.2 | exact trivial | refine ⟨?_, ?_⟩)))⟩; have n1_ : Aside0 (Kd.R (Kd.int .u64) 22 wr w.heap.size (fun _ => True) (.slice (some ⟨go17, 0, none⟩) x10_2.length co17) x10_2) := ⟨by rw [← hq_]; exact (by (with_reducible repeat (first | apply Kd.R_alloc | apply Kd.R_drewN | apply Kd.R_drew)); (first | exact HO_10.out | exact Kd.R_mono HO_10.out (fun _ hk => by repeat' (first | exact hk | exact hk.1 | exact hk.2 | exact hk.1.1 | exact hk.1.2 | exact hk.2.1 | exact hk.2.2 | exact trivial | refine ⟨?_, ?_⟩))))⟩; have n2_ : Aside0 (Kd.R (Kd.int .i64) 3 wr w.heap.size (fun k_ => some k_ ≠ (.slice (some ad217) t203.length co22 : Value).ownBlock ∧ some k_ ≠ (.slice (some ad217) t203.length co22 : Value).ownBlock) (.slice (some ad211) t208.length co8) t208) := ⟨by rw [← hq_]; exact (by (with_reducible repeat (first | apply Kd.R_alloc | apply Kd.R_drewN | apply Kd.R_drew)); exact Kd.R_mono HO_25.out (fun _ hk => by repeat' (first | exact hk | exact hk.1 | exact hk.2 | exact hk.1.1 | exact hk.1.2 | exact hk.2.1 | exact hk.2.2 | exact trivial | refine ⟨?_, ?_⟩)))⟩; have n3_ : Aside0 (Kd.R (Kd.int .i64) 3 wr w.heap.size (fun k_ => some k_ ≠ (.slice (some ad211) t208.length co8 : Value).ownBlock) (.slice (some ad217) t203.length co22) t203) := ⟨by rw [← hq_]; exact (by (with_reducible repeat (first | apply Kd.R_alloc | apply Kd.R_drewN | apply Kd.R_drew)); (first | exact HO_39.out | exact Kd.R_mono HO_39.out (fun _ hk => by repeat' (first | exact hk | exact hk.1 | exact hk.2 | exact hk.1.1 | exact hk.1.2 | exact hk.2.1 | exact hk.2.2 | exact trivial | refine ⟨?_, ?_⟩))))⟩; have n4_ : Aside0 (Kd.S (Kd.slice 22 (Kd.int .u64)) 33 wr w.heap.size (fun k_ => some k_ ≠ (.slice (some ⟨go17, 0, none⟩) x10_2.length co17 : Value).ownBlock ∧ some k_ ≠ (u7 : Value).ownBlock) (.slice (some ad218) t202.length co33) t202) := ⟨by rw [← hq_]; exact (by (with_reducible repeat (first | apply Kd.S_alloc | apply Kd.S_drewN | apply Kd.S_drew)); exact Kd.S_mono HO_5.out (fun _ hk => by repeat' (first | exact hk | exact hk.1 | exact hk.2 | exact hk.1.1 | exact hk.1.2 | exact hk.2.1 | exact hk.2.2 | exact trivial | refine ⟨?_, ?_⟩)))⟩; have n5_ : Aside0 (Kd.R (Kd.int .i64) 3 wr w.heap.size (fun k_ => some k_ ≠ (.slice (some ad211) t208.length co8 : Value).ownBlock) (.slice (some ad217) t203.length co22) t203) := ⟨by rw [← hq_]; exact (by (with_reducible repeat (first | apply Kd.R_alloc | apply Kd.R_drewN | apply Kd.R_drew)); (first | exact HO_6.out | exact Kd.R_mono HO_6.out (fun _ hk => by repeat' (first | exact hk | exact hk.1 | exact hk.2 | exact hk.1.1 | exact hk.1.2 | exact hk.2.1 | exact hk.2.2 | exact trivial | refine ⟨?_, ?_⟩))))⟩; have n6_ : Aside0 (Kd.S (Kd.slice 22 (Kd.int .u64)) 33 wr w.heap.size (fun k_ => some k_ ≠ (.slice (some ⟨go17, 0, none⟩) x10_2.length co17 : Value).ownBlock ∧ some k_ ≠ (.slice (some ad218) t202.length co33 : Value).ownBlock) u7 x7_1) := ⟨by rw [← hq_]; exact (by (with_reducible repeat (first | apply Kd.S_alloc | apply Kd.S_drewN | apply Kd.S_drew)); exact Kd.S_mono HO_7.out (fun _ hk => by repeat' (first | exact hk | exact hk.1 | exact hk.2 | exact hk.1.1 | exact hk.1.2 | exact hk.2.1 | exact hk.2.2 | exact trivial | refine ⟨?_, ?_⟩)))⟩; have n7_ : Aside0 (Below w.heap.size w wr) := ⟨by rw [← hq_]; exact (by repeat (first | (with_reducible first | exact HB.out | apply below_alloc | apply pw_below_drewN | apply below_drew1) | exact HB.out))⟩; have n8_ : Aside0 (Kd.C (Kd.int .u64) wr (some ad219) (rd_L1 t202 x41_2).length (rd_L1 t202 x41_2)) := ⟨by rw [← hq_]; exact (by repeat (first | (with_reducible exact HR218_0.out) | (with_reducible refine Kd.C_alloc ?_ _) | (with_reducible refine Kd.C_drewN ?_ _) | (with_reducible refine Kd.C_drew ?_) | exact HR218_0.out))⟩; clear HL218_0 HO_10 HO_25 HO_39 HO_5 HO_6 HO_7 HB HR218_0 hq_; have HL218_0 := n0_; have HO_10 := n1_; have HO_25 := n2_; have HO_39 := n3_; have HO_5 := n4_; have HO_6 := n5_; have HO_7 := n6_; have HB := n7_; have HR218_0 := n8_; clear n0_ n1_ n2_ n3_ n4_ n5_ n6_ n7_ n8_)); have p32 : 0 ≤ ((rd t203 x41_2) : Int) := of_decide_eq_true (by first | (with_reducible assumption) | assumption); have q32 : ((rd t203 x41_2) : Int) < ((x10_2.length : Int) : Int) := of_decide_eq_true (by first | (with_reducible assumption) | assumption); obtain ⟨hx32_0, hf32_0⟩ := Kd.R_celln 0 HO_10.out ((rd t203 x41_2) : Int) p32 q32; replace p32 := eq_true p32; replace q32 := eq_true q32; obtain ⟨hy34_, hz34_⟩ := Kd.R_celln 0 HO_10.out ((rd t203 x41_2) : Int) (of_decide_eq_true (by first | (with_reducible assumption) | assumption)) (of_decide_eq_true (by first | (with_reducible assumption) | assumption)); have HP34 := Kd.R_putg HO_10.out ((rd t203 x41_2) : Int) t220) | ((with_reducible refine gate_store (t := 22) (p := 57) rfl ?_); refine store_event (t := 22) (p := 57) (v := ?vo_w35) (w1 := (wr.setCell ⟨go17, ((rd t203 x41_2) : Int).toNat, none⟩ (.int .u64 t220))) ?hg ?ho ?hn ?hr ?_; (case ho => rfl); (case hg => rfl); (case hn => rfl); (case hr => first | (go_simp; done) | (go_simp; rfl)); intro w35 hw; have hg : wr.grownBy w35 (some go17) := (by rw [hw]; exact HP34.2); have hp_ : Kd.R (Kd.int .u64) 22 w35 w.heap.size (fun _ => True) (.slice (some ⟨go17, 0, none⟩) x10_2.length co17) y221 := (by rw [hw, Ny221.out]; exact HP34.1); clear HP34; have n0_ := Aside0.mk (Kd.S_after (v := (.slice (some ⟨go17, 0, none⟩) x10_2.length co17)) (v1 := (.slice (some ⟨go17, 0, none⟩) x10_2.length co17)) (ok := (fun k_ => some k_ ≠ (u7 : Value).ownBlock)) (by (with_reducible repeat (first | apply Kd.S_alloc | apply Kd.S_drewN | apply Kd.S_drew)); (first | exact HO_5.out | exact Kd.S_mono HO_5.out (fun _ hk => by repeat' (first | exact hk | exact hk.1 | exact hk.2 | exact hk.1.1 | exact hk.1.2 | exact hk.2.1 | exact hk.2.2 | exact trivial | refine ⟨?_, ?_⟩)))) hg (.inl rfl)); have n1_ := Aside0.mk (Kd.R_over' (v := (.slice (some ⟨go17, 0, none⟩) x10_2.length co17)) (by (with_reducible repeat (first | apply Kd.R_alloc | apply Kd.R_drewN | apply Kd.R_drew)); (first | exact HO_6.out | exact Kd.R_mono HO_6.out (fun _ hk => by repeat' (first | exact hk | exact hk.1 | exact hk.2 | exact hk.1.1 | exact hk.1.2 | exact hk.2.1 | exact hk.2.2 | exact trivial | refine ⟨?_, ?_⟩)))) (Kd.R_typed HO_10.out) (by decide) hg); have n2_ := Aside0.mk (Kd.S_after (v := (.slice (some ⟨go17, 0, none⟩) x10_2.length co17)) (v1 := (.slice (some ⟨go17, 0, none⟩) x10_2.length co17)) (ok := (fun k_ => some k_ ≠ (.slice (some ad218) t202.length co33 : Value).ownBlock)) (by (with_reducible repeat (first | apply Kd.S_alloc | apply Kd.S_drewN | apply Kd.S_drew)); (first | exact HO_7.out | exact Kd.S_mono HO_7.out (fun _ hk => by repeat' (first | exact hk | exact hk.1 | exact hk.2 | exact hk.1.1 | exact hk.1.2 | exact hk.2.1 | exact hk.2.2 | exact trivial | refine ⟨?_, ?_⟩)))) hg (.inl rfl)); have n3_ := Aside0.mk (hp_); have n4_ := Aside0.mk (Kd.R_over' (v := (.slice (some ⟨go17, 0, none⟩) x10_2.length co17)) (by (with_reducible repeat (first | apply Kd.R_alloc | apply Kd.R_drewN | apply Kd.R_drew)); (first | exact HO_25.out | exact Kd.R_mono HO_25.out (fun _ hk => by repeat' (first | exact hk | exact hk.1 | exact hk.2 | exact hk.1.1 | exact hk.1.2 | exact hk.2.1 | exact hk.2.2 | exact trivial | refine ⟨?_, ?_⟩)))) (Kd.R_typed HO_10.out) (by decide) hg); have n5_ := Aside0.mk (Kd.R_over' (v := (.slice (some ⟨go17, 0, none⟩) x10_2.length co17)) (by (with_reducible repeat (first | apply Kd.R_alloc | apply Kd.R_drewN | apply Kd.R_drew)); (first | exact HO_39.out | exact Kd.R_mono HO_39.out (fun _ hk => by repeat' (first | exact hk | exact hk.1 | exact hk.2 | exact hk.1.1 | exact hk.1.2 | exact hk.2.1 | exact hk.2.2 | exact trivial | refine ⟨?_, ?_⟩)))) (Kd.R_typed HO_10.out) (by decide) hg); have n6_ := Aside0.mk (Kd.R_after (v := (.slice (some ⟨go17, 0, none⟩) x10_2.length co17)) (v1 := (.slice (some ⟨go17, 0, none⟩) x10_2.length co17)) (ok := (fun k_ => some k_ ≠ (.slice (some ad218) t202.length co33 : Value).ownBlock ∧ some k_ ≠ (u7 : Value).ownBlock)) (by (with_reducible repeat (first | apply Kd.R_alloc | apply Kd.R_drewN | apply Kd.R_drew)); exact Kd.R_mono HL218_0.out (fun _ hk => by repeat' (first | exact hk | exact hk.1 | exact hk.2 | exact hk.1.1 | exact hk.1.2 | exact hk.2.1 | exact hk.2.2 | exact trivial | refine ⟨?_, ?_⟩))) hg (.inl rfl)); have n7_ := Aside0.mk ((by rw [hw]; exact below_set (HB.out) GB17.out : Below w.heap.size w w35)); clear HO_5; clear HO_6; clear HO_7; clear HO_10; clear HO_25; clear HO_39; clear HL218_0; clear HB; have HO_5 := n0_; have HO_6 := n1_; have HO_7 := n2_; have HO_10 := n3_; have HO_25 := n4_; have HO_39 := n5_; have HL218_0 := n6_; have HB := n7_; clear n0_ n1_ n2_ n3_ n4_ n5_ n6_ n7_; clear hg hw hp_))
                      (try simp only [← hl10_2])
                      go_roundg k2
                      case measure => have := HK1.out; have := HK2.out; omega
                      case rel => exact ⟨(y221), (wrap64 (x41_2 + 1)), (by first | rfl | (simp; done) | (simp [*]; done)), H', ⟨by have := HK1.out; have := HK2.out; omega⟩, ⟨by (try simp only [hl10_2]); (with_reducible repeat (first | apply Kd.S_alloc | apply Kd.S_drewN | apply Kd.S_drew)); exact HO_5.out⟩, ⟨by (try simp only [hl10_2]); (with_reducible repeat (first | apply Kd.R_alloc | apply Kd.R_drewN | apply Kd.R_drew)); (first | exact HO_6.out | exact Kd.R_mono HO_6.out (fun _ hk => by repeat' (first | exact hk | exact hk.1 | exact hk.2 | exact hk.1.1 | exact hk.1.2 | exact hk.2.1 | exact hk.2.2 | exact trivial | refine ⟨?_, ?_⟩)))⟩, ⟨by (try simp only [hl10_2]); (with_reducible repeat (first | apply Kd.S_alloc | apply Kd.S_drewN | apply Kd.S_drew)); exact HO_7.out⟩, ⟨by (try simp only [hl10_2]); (with_reducible repeat (first | apply Kd.R_alloc | apply Kd.R_drewN | apply Kd.R_drew)); (first | exact HO_10.out | exact Kd.R_mono HO_10.out (fun _ hk => by repeat' (first | exact hk | exact hk.1 | exact hk.2 | exact hk.1.1 | exact hk.1.2 | exact hk.2.1 | exact hk.2.2 | exact trivial | refine ⟨?_, ?_⟩)))⟩, ⟨by (try simp only [hl10_2]); (with_reducible repeat (first | apply Kd.R_alloc | apply Kd.R_drewN | apply Kd.R_drew)); (first | exact HO_25.out | exact Kd.R_mono HO_25.out (fun _ hk => by repeat' (first | exact hk | exact hk.1 | exact hk.2 | exact hk.1.1 | exact hk.1.2 | exact hk.2.1 | exact hk.2.2 | exact trivial | refine ⟨?_, ?_⟩)))⟩, ⟨by (try simp only [hl10_2]); (with_reducible repeat (first | apply Kd.R_alloc | apply Kd.R_drewN | apply Kd.R_drew)); (first | exact HO_39.out | exact Kd.R_mono HO_39.out (fun _ hk => by repeat' (first | exact hk | exact hk.1 | exact hk.2 | exact hk.1.1 | exact hk.1.2 | exact hk.2.1 | exact hk.2.2 | exact trivial | refine ⟨?_, ?_⟩)))⟩, ⟨by repeat (first | (with_reducible first | exact HB.out | apply below_alloc | apply pw_below_drewN | apply below_drew1) | exact HB.out)⟩⟩
                     ·rw [if_neg c31] at H
                      exact absurd H (by simp)
                    ·rw [if_neg c30] at H
                     exact absurd H (by simp)
                   ·rw [if_neg c28] at H
                    exact absurd H (by simp)
                  ·rw [if_neg c27] at H
                   exact absurd H (by simp)
                 ·rw [if_neg c26] at H
                  exact absurd H (by simp)
                ·rw [if_neg c25] at H
                 exact absurd H (by simp)
               ·rw [if_neg c24] at H
                exact absurd H (by simp)
              ·rw [if_neg c23] at H
               have c23b0 : decide (x41_2 < (t203.length : Int)) = false := decide_eq_false c23
               clear c23
               by_cases c36 : x7_1.length < 5864062014805
               ·rw [if_pos c36] at H
                have LMc36 := Aside0.mk c36
                clear c36
                obtain ⟨y222, hy222⟩ : ∃ y_ : List (List Int), y_ = (x7_1 ++ [x10_2]) := ⟨_, rfl⟩
                replace H : (juntoref03_Null.l0 k2 a0 l1 t202 t203 y222 t208 (t208.length : Int) (wrap64 (x27_1 + 1))) = some r := by first | (rw [hy222]; with_reducible exact H) | (have H2_ := (Option.bind_some _ _).symm.trans H; rw [hy222]; with_reducible exact H2_) | (have H2_ := (Option.bind_some _ _).symm.trans H; with_reducible exact H2_) | with_reducible exact H | (rw [hy222]; exact H) | exact H
                have Ny222 := Aside0.mk hy222
                clear hy222
                have H' := Aside0.mk H
                clear H
                go_wp2_with (first | ((with_reducible refine gate_builtin (b := .append) (xs := #[.tmp 59, .tmp 61]) rfl ?_); at_builtin; refine Kd.S_append (Kd.slice 22 (Kd.int .u64)) (w0 := w) w.heap.size rfl (.tmp 59) (.tmp 61) 23 33 (.slice none 0 0) 24 rfl Try.underlying23 info33 rfl (by decide) (by omega) u7 x7_1 x10_2 [.slice (some ⟨go17, 0, none⟩) x10_2.length co17] (fun k_ => some k_ ≠ (v204 : Value).ownBlock) (fun k_ => some k_ = (.slice (some ⟨go17, 0, none⟩) x10_2.length co17 : Value).ownBlock) rfl rfl ?aP (fun k_ hk_ => ((Kd.R_mono (ok' := fun k_ => ((fun k_ => some k_ ≠ (v204 : Value).ownBlock)) k_ ∧ some k_ ≠ (u7 : Value).ownBlock) (Kd.R_apart' (Kd.R_apart' (HO_10.out) (Kd.S_typed HO_5.out) (by decide)) (Kd.S_typed HO_7.out) (by decide)) (fun k_ hk => ⟨hk.1.2, hk.2⟩))).1 k_ hk_.symm) ?aF ?aO ?aB ?aS ?aL ?_; (case aP => exact Kd.M_row (Kd.R_mono (Kd.R_tight rfl (Kd.R_mono (ok' := fun k_ => ((fun k_ => some k_ ≠ (v204 : Value).ownBlock)) k_ ∧ some k_ ≠ (u7 : Value).ownBlock) (Kd.R_apart' (Kd.R_apart' (HO_10.out) (Kd.S_typed HO_5.out) (by decide)) (Kd.S_typed HO_7.out) (by decide)) (fun k_ hk => ⟨hk.1.2, hk.2⟩))) (fun _ h_ => h_))); (case aB => exact (by repeat (first | (with_reducible first | exact HB.out | apply below_alloc | apply pw_below_drewN | apply below_drew1) | exact HB.out))); (case aF => exact (fun k_ hk => Kd.fresh' (Kd.S_lt (by (with_reducible repeat (first | apply Kd.S_alloc | apply Kd.S_drewN | apply Kd.S_drew)); (first | exact HO_5.out | exact Kd.S_mono HO_5.out (fun _ hk => by repeat' (first | exact hk | exact hk.1 | exact hk.2 | exact hk.1.1 | exact hk.1.2 | exact hk.2.1 | exact hk.2.2 | exact trivial | refine ⟨?_, ?_⟩))))) k_ hk)); (case aO => exact (by (with_reducible repeat (first | apply Kd.S_alloc | apply Kd.S_drewN | apply Kd.S_drew)); exact Kd.S_mono HO_7.out (fun k_ hk => ⟨hk.1, fun e_ => hk.2 e_⟩))); (case aS => exact (below_size (by repeat (first | (with_reducible first | exact HB.out | apply below_alloc | apply pw_below_drewN | apply below_drew1) | exact HB.out)))); (case aL => have := LMc36.out; omega); intro v223 w37 ho hb hg hat; rw [← Ny222.out] at ho; have n0_ := Aside0.mk (Kd.S_after (ok := (fun k_ => some k_ ≠ (.slice (some ⟨go17, 0, none⟩) x10_2.length co17 : Value).ownBlock)) (by (with_reducible repeat (first | apply Kd.S_alloc | apply Kd.S_drewN | apply Kd.S_drew)); exact Kd.S_mono HO_5.out (fun _ hk => by repeat' (first | exact hk | exact hk.1 | exact hk.2 | exact hk.1.1 | exact hk.1.2 | exact hk.2.1 | exact hk.2.2 | exact trivial | refine ⟨?_, ?_⟩))) hg hat); have n1_ := Aside0.mk (Kd.R_over' (by (with_reducible repeat (first | apply Kd.R_alloc | apply Kd.R_drewN | apply Kd.R_drew)); (first | exact HO_6.out | exact Kd.R_mono HO_6.out (fun _ hk => by repeat' (first | exact hk | exact hk.1 | exact hk.2 | exact hk.1.1 | exact hk.1.2 | exact hk.2.1 | exact hk.2.2 | exact trivial | refine ⟨?_, ?_⟩)))) (Kd.S_typed (by (with_reducible repeat (first | apply Kd.S_alloc | apply Kd.S_drewN | apply Kd.S_drew)); (first | exact HO_7.out | exact Kd.S_mono HO_7.out (fun _ hk => by repeat' (first | exact hk | exact hk.1 | exact hk.2 | exact hk.1.1 | exact hk.1.2 | exact hk.2.1 | exact hk.2.2 | exact trivial | refine ⟨?_, ?_⟩))))) (by decide) hg); have n2_ := Aside0.mk (Kd.R_over' (by (with_reducible repeat (first | apply Kd.R_alloc | apply Kd.R_drewN | apply Kd.R_drew)); (first | exact HO_25.out | exact Kd.R_mono HO_25.out (fun _ hk => by repeat' (first | exact hk | exact hk.1 | exact hk.2 | exact hk.1.1 | exact hk.1.2 | exact hk.2.1 | exact hk.2.2 | exact trivial | refine ⟨?_, ?_⟩)))) (Kd.S_typed (by (with_reducible repeat (first | apply Kd.S_alloc | apply Kd.S_drewN | apply Kd.S_drew)); (first | exact HO_7.out | exact Kd.S_mono HO_7.out (fun _ hk => by repeat' (first | exact hk | exact hk.1 | exact hk.2 | exact hk.1.1 | exact hk.1.2 | exact hk.2.1 | exact hk.2.2 | exact trivial | refine ⟨?_, ?_⟩))))) (by decide) hg); have n3_ := Aside0.mk (Kd.R_over' (by (with_reducible repeat (first | apply Kd.R_alloc | apply Kd.R_drewN | apply Kd.R_drew)); (first | exact HO_39.out | exact Kd.R_mono HO_39.out (fun _ hk => by repeat' (first | exact hk | exact hk.1 | exact hk.2 | exact hk.1.1 | exact hk.1.2 | exact hk.2.1 | exact hk.2.2 | exact trivial | refine ⟨?_, ?_⟩)))) (Kd.S_typed (by (with_reducible repeat (first | apply Kd.S_alloc | apply Kd.S_drewN | apply Kd.S_drew)); (first | exact HO_7.out | exact Kd.S_mono HO_7.out (fun _ hk => by repeat' (first | exact hk | exact hk.1 | exact hk.2 | exact hk.1.1 | exact hk.1.2 | exact hk.2.1 | exact hk.2.2 | exact trivial | refine ⟨?_, ?_⟩))))) (by decide) hg); have n4_ := Aside0.mk (hb); have n5_ := Aside0.mk (ho); clear HO_5; clear HO_6; clear HO_25; clear HO_39; clear HB; clear HO_7; clear HO_10; have HO_5 := n0_; have HO_6 := n1_; have HO_25 := n2_; have HO_39 := n3_; have HB := n4_; have HO224 := n5_; clear n0_ n1_ n2_ n3_ n4_ n5_; clear ho hb hg hat))
                (try simp only [← hl10_2])
                go_roundg k2
                case measure => have := HK1.out; have := HK2.out; omega
                case rel => exact ⟨(y222), (wrap64 (x27_1 + 1)), (by first | rfl | (simp; done) | (simp [*]; done)), H', ⟨by have := HK1.out; have := HK2.out; omega⟩, ⟨by (try simp only [hl10_2]); (with_reducible repeat (first | apply Kd.S_alloc | apply Kd.S_drewN | apply Kd.S_drew)); exact Kd.S_mono HO_5.out (fun _ hk => hk.2)⟩, ⟨by (try simp only [hl10_2]); (with_reducible repeat (first | apply Kd.R_alloc | apply Kd.R_drewN | apply Kd.R_drew)); (first | exact HO_6.out | exact Kd.R_mono HO_6.out (fun _ hk => by repeat' (first | exact hk | exact hk.1 | exact hk.2 | exact hk.1.1 | exact hk.1.2 | exact hk.2.1 | exact hk.2.2 | exact trivial | refine ⟨?_, ?_⟩)))⟩, ⟨by (try simp only [hl10_2]); (with_reducible repeat (first | apply Kd.S_alloc | apply Kd.S_drewN | apply Kd.S_drew)); exact HO224.out⟩, ⟨by (try simp only [hl10_2]); (with_reducible repeat (first | apply Kd.R_alloc | apply Kd.R_drewN | apply Kd.R_drew)); exact Kd.R_mono HO_25.out (fun _ hk => hk.1)⟩, ⟨by repeat (first | (with_reducible first | exact HB.out | apply below_alloc | apply pw_below_drewN | apply below_drew1) | exact HB.out)⟩⟩
               ·rw [if_neg c36] at H
                exact absurd H (by simp)
           ·rw [if_neg c16] at H
            exact absurd H (by simp)
          ·rw [if_neg c15] at H
           exact absurd H (by simp)
         ·rw [if_neg c14] at H
          exact absurd H (by simp)
        ·rw [if_neg c13] at H
         exact absurd H (by simp)
       ·rw [if_neg c12] at H
        exact absurd H (by simp)
      ·rw [if_neg c11] at H
       exact absurd H (by simp)
     ·rw [if_neg c10] at H
      exact absurd H (by simp)
    ·rw [if_neg c9] at H
     have c9b0 : decide (x27_1 < (t208.length : Int)) = false := decide_eq_false c9
     clear c9
     obtain rfl := Option.some.inj H
     go_wp2
     go_ret
     exact ⟨_, by first | rfl | (simp [errW_none, errW_some] <;> rfl) | (simp [*, errW_none, errW_some] <;> rfl), by (with_reducible repeat (first | apply Kd.S_alloc | apply Kd.S_drewN | apply Kd.S_drew)); exact Kd.S_mono HO_7.out (fun _ hk => trivial), by repeat (first | (with_reducible first | exact HB.out | apply below_alloc | apply pw_below_drewN | apply below_drew1) | exact HB.out)⟩
 ·rw [if_neg c3] at H
  exact absurd H (by simp)

end Go.Proofs.Ytfdkhkajehopkaa.Mb
