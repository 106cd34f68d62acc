/- Functions of the program, each with its walk: juntolaw14_pairs, sorter_Check. (Made by this session's own program out of what the kit's print wrote; no text of the print.) -/
import Derived.Test.YtmgjohlaoflebaaSb0
namespace Go.Proofs.Ytmgjohlaoflebaa.Sb
open Go.RowKit Go.Proofs.YtmgjohlaoflebaaW.PrintWords Go.Proofs.YtmgjohlaoflebaaW.PrintLast Go.Proofs.YtmgjohlaoflebaaW.PrintMore
attribute [local go_sem] max2_int min2_int max_two min_two max_three min_three max_four min_four   -- for this text's walks alone
set_option linter.unusedVariables false
set_option linter.unusedSimpArgs false

/-! ### sorter_eqArr: '==' of two pairs, function 0 -/
theorem eqA53 (d : Nat) (w : World) (x0 y0 : Int) (x1 y1 : Int) :
    (Op.equalIn (d + 2) 53 (.agg #[.int .i64 x0, .int .i64 x1]) (.agg #[.int .i64 y0, .int .i64 y1])).run Try.prog w = .ok (x0 == y0 && (x1 == y1)) w := by
  obtain ⟨i0, hi, hz0, hz1, hz2⟩ := info_parts (show (Try.prog.info? 3).map (fun i => (i.zero, i.size, i.bytes)) = some (some (.int .i64 0), 1, 8) by kernel_rfl)
  have hc : Try.prog.cellsOf 3 = 1 := by simp [Program.cellsOf, hi, hz1]
  rw [run_equalIn_array (P := Try.prog) (w := w) (d + 1) #[.int .i64 x0, .int .i64 x1] #[.int .i64 y0, .int .i64 y1] Try.underlying53 hi, hc]
  have hp0 : ∀ (a b : Int) (w : World), (part 3 #[.int .i64 a, .int .i64 b] 0).run Try.prog w = .ok (.int .i64 a) w := fun a b w => by go_simp
  have hp1 : ∀ (a b : Int) (w : World), (part 3 #[.int .i64 a, .int .i64 b] 1).run Try.prog w = .ok (.int .i64 b) w := fun a b w => by go_simp
  have he : ∀ (a b : Int) (w : World), (Op.equalIn (d + 1) 3 (.int .i64 a) (.int .i64 b)).run Try.prog w = .ok (a == b) w := fun a b w => by go_simp
  simp only [show List.range 2 = [0, 1] from rfl, Op.eqItems, Sem.run_bind, Nat.zero_mul, Nat.one_mul, hp0, hp1, he, Result.andThen_ok]
  by_cases h0 : x0 = y0
  · by_cases h1 : x1 = y1 <;> simp [h0, h1, hp1, he]
  · simp [h0]

attribute [local go_sem high] eqA53
/-! ### juntolaw14_pairs: function 13 -/
def juntolaw14_pairs.l0 : Nat → List (S53) → List (S53) → Int → Int → Option (Bool)
  | 0, _, _, _, _ => none
  | k + 1, x0, x1, x12, x13 => if x13 < x12 then (if 0 ≤ x13 then (if x13 < (x0.length : Int) then (if x13 < (x1.length : Int) then (if (!(((rd_T53 x0 x13).f0) == ((rd_T53 x1 x13).f0)) || (!(((rd_T53 x0 x13).f1) == ((rd_T53 x1 x13).f1)))) = true then (some false) else (juntolaw14_pairs.l0 k x0 x1 x12 (wrap64 (x13 + 1)))) else (none)) else (none)) else (none)) else (some true)
def juntolaw14_pairs.f (k : Nat) (l0 : List (S53)) (l1 : List (S53)) : Option (Bool) := if (l0.length : Int) = (l1.length : Int) then (juntolaw14_pairs.l0 k l0 l1 (l0.length : Int) 0) else (some false)
theorem juntolaw14_pairs.mono_l : ∀ k, (∀ y0 y1 y2 y3, LeO (juntolaw14_pairs.l0 k y0 y1 y2 y3) (juntolaw14_pairs.l0 (k + 1) y0 y1 y2 y3))
  | 0 => fun _ _ _ _ r h => by simp [juntolaw14_pairs.l0] at h
  | k + 1 => by
    have ih0 := juntolaw14_pairs.mono_l k
    · intro y0 y1 y2 y3
      unfold juntolaw14_pairs.l0
      repeat' first
      | (with_reducible exact ih0 _ _ _ _)
      | (with_reducible exact LeO.refl _)
      | (with_reducible exact LeO.none _)
      | (with_reducible refine LeO.ite ?_ ?_)
      | (with_reducible refine LeO.bind ?_ (fun _ => ?_))
      | exact ih0 _ _ _ _
      | exact LeO.none _
      | refine LeO.ite ?_ ?_
      | refine LeO.bind ?_ (fun _ => ?_)
theorem juntolaw14_pairs.mono : ∀ a0 a1 k, LeO (juntolaw14_pairs.f k a0 a1) (juntolaw14_pairs.f (k + 1) a0 a1) := by
  intro a0 a1 k
  have ih0 := juntolaw14_pairs.mono_l k
  unfold juntolaw14_pairs.f
  repeat' first
      | (with_reducible exact ih0 _ _ _ _)
      | (with_reducible exact LeO.refl _)
      | (with_reducible exact LeO.none _)
      | (with_reducible refine LeO.ite ?_ ?_)
      | (with_reducible refine LeO.bind ?_ (fun _ => ?_))
      | exact ih0 _ _ _ _
      | exact LeO.none _
      | refine LeO.ite ?_ ?_
      | refine LeO.bind ?_ (fun _ => ?_)
set_option maxHeartbeats 8000000 in
set_option maxRecDepth 100000 in
theorem juntolaw14_pairs.calls (k : Nat) (A0 : Option Addr) (c0 : Nat) (l0 : List (S53)) (A1 : Option Addr) (c1 : Nat) (l1 : List (S53)) (r : Bool) (w : World) (hr0 : Kd.C k53 w A0 l0.length l0) (hc0 : l0.length ≤ c0) (hr1 : Kd.C k53 w A1 l1.length l1) (hc1 : l1.length ≤ c1) (h : juntolaw14_pairs.f k l0 l1 = some r) :
    Calls Try.prog 13 #[.slice A0 l0.length c0, .slice A1 l1.length c1] w fun e w' => e = .returned (.bool r) ∧ Drawn0 w w' := by
  have hu53 := Try.underlying53
  have HR0 := Aside0.mk hr0
  have HC0 := Aside0.mk hc0
  clear hr0 hc0
  have HR1 := Aside0.mk hr1
  have HC1 := Aside0.mk hc1
  clear hr1 hc1
  have H : (if (l0.length : Int) = (l1.length : Int) then (juntolaw14_pairs.l0 k l0 l1 (l0.length : Int) 0) else (some false)) = some r := h
  clear h
  by_cases c3 : (l0.length : Int) = (l1.length : Int)
  · rw [if_pos c3] at H
    have c3b0 : ((l0.length : Int) == (l1.length : Int)) = true := beq_iff_eq.mpr c3
    have c3b1 : ((l0.length : Int) != (l1.length : Int)) = false := bne_eq_false_iff_eq.mpr c3
    have c3b2 : (l0.length == l1.length) = true := by first | simpa using c3 | (simp at c3 ⊢; omega)
    clear c3
    have H' := Aside0.mk H
    clear H
    go_enter Try.func13, Try.ntmps13
    go_wp2
    repeat (go_quiet (fail); try go_wp2)
    go_loopg [13] k (fun kq v13 w' => ∃ (x13_1 : Int), v13 = .int .i64 x13_1 ∧ Aside0 (juntolaw14_pairs.l0 kq l0 l1 (l0.length : Int) x13_1 = some r) ∧ Aside0 (kq ≤ k) ∧ Drawn0 w w')
    case atStart => exact ⟨(0), (by first | rfl | (simp; done) | (simp [*]; done)), H', ⟨Nat.le_refl _⟩, by repeat (first | exact Drawn0.refl _ | apply Drawn0.step)⟩
    case round =>
      clear H'
      try clear c1
      try clear p2
      try clear c3
      try clear c3b0
      try clear c3b1
      try clear c3b2
      obtain ⟨x13_1, rfl, HA, HK1, ⟨m1, rfl⟩⟩ := hrel
      cases gk with
      | zero => exact absurd HA.out (by simp [juntolaw14_pairs.l0])
      | succ k1 =>
        have H := HA.out
        clear HA
        simp only [juntolaw14_pairs.l0] at H
        by_cases c4 : x13_1 < (l0.length : Int)
        · rw [if_pos c4] at H
          have c4b0 : decide (x13_1 < (l0.length : Int)) = true := decide_eq_true c4
          clear c4
          by_cases c5 : 0 ≤ x13_1
          · rw [if_pos c5] at H
            have c5b0 : decide (0 ≤ x13_1) = true := decide_eq_true c5
            clear c5
            by_cases c6 : x13_1 < (l0.length : Int)
            · rw [if_pos c6] at H
              have c6b0 : decide (x13_1 < (l0.length : Int)) = true := decide_eq_true c6
              clear c6
              by_cases c7 : x13_1 < (l1.length : Int)
              · rw [if_pos c7] at H
                have c7b0 : decide (x13_1 < (l1.length : Int)) = true := decide_eq_true c7
                clear c7
                by_cases c8 : (!(((rd_T53 l0 x13_1).f0) == ((rd_T53 l1 x13_1).f0)) || (!(((rd_T53 l0 x13_1).f1) == ((rd_T53 l1 x13_1).f1)))) = true
                · rw [if_pos c8] at H
                  have c8b0 : (!(((rd_T53 l0 x13_1).f0) == ((rd_T53 l1 x13_1).f0)) || (!(((rd_T53 l0 x13_1).f1) == ((rd_T53 l1 x13_1).f1)))) = true := c8
                  clear c8
                  obtain rfl := Option.some.inj H
                  have p107 : 0 ≤ (x13_1 : Int) := of_decide_eq_true (by first | (with_reducible assumption) | assumption)
                  have q107 : x13_1 < (l0.length : Int) := of_decide_eq_true (by first | (with_reducible assumption) | assumption)
                  obtain ⟨ad107, e107, hx107_0, hx107_1⟩ := at_T53 HR0.out x13_1 p107 q107
                  cases e107
                  replace p107 := eq_true p107
                  replace q107 := eq_true q107
                  have p108 : 0 ≤ (x13_1 : Int) := of_decide_eq_true (by first | (with_reducible assumption) | assumption)
                  have q108 : x13_1 < (l1.length : Int) := of_decide_eq_true (by first | (with_reducible assumption) | assumption)
                  obtain ⟨ad108, e108, hx108_0, hx108_1⟩ := at_T53 HR1.out x13_1 p108 q108
                  cases e108
                  replace p108 := eq_true p108
                  replace q108 := eq_true q108
                  go_wp2
                  repeat (go_quiet (fail); try go_wp2)
                  go_ret
                  exact ⟨by first | rfl | (simp; done) | (simp [*]; done), by repeat (first | exact Drawn0.refl _ | apply Drawn0.step)⟩
                · rw [if_neg c8] at H
                  have c8b0 : (!(((rd_T53 l0 x13_1).f0) == ((rd_T53 l1 x13_1).f0)) || (!(((rd_T53 l0 x13_1).f1) == ((rd_T53 l1 x13_1).f1)))) = false := by simpa using c8
                  clear c8
                  have H' := Aside0.mk H
                  clear H
                  have p107 : 0 ≤ (x13_1 : Int) := of_decide_eq_true (by first | (with_reducible assumption) | assumption)
                  have q107 : x13_1 < (l0.length : Int) := of_decide_eq_true (by first | (with_reducible assumption) | assumption)
                  obtain ⟨ad107, e107, hx107_0, hx107_1⟩ := at_T53 HR0.out x13_1 p107 q107
                  cases e107
                  replace p107 := eq_true p107
                  replace q107 := eq_true q107
                  have p108 : 0 ≤ (x13_1 : Int) := of_decide_eq_true (by first | (with_reducible assumption) | assumption)
                  have q108 : x13_1 < (l1.length : Int) := of_decide_eq_true (by first | (with_reducible assumption) | assumption)
                  obtain ⟨ad108, e108, hx108_0, hx108_1⟩ := at_T53 HR1.out x13_1 p108 q108
                  cases e108
                  replace p108 := eq_true p108
                  replace q108 := eq_true q108
                  go_wp2
                  repeat (go_quiet (fail); try go_wp2)
                  go_roundg k1
                  case measure => have := HK1.out; omega
                  case rel => exact ⟨(wrap64 (x13_1 + 1)), (by first | rfl | (simp; done) | (simp [*]; done)), H', ⟨by have := HK1.out; omega⟩, by repeat (first | exact Drawn0.refl _ | apply Drawn0.step)⟩
              · rw [if_neg c7] at H
                exact absurd H (by simp)
            · rw [if_neg c6] at H
              exact absurd H (by simp)
          · rw [if_neg c5] at H
            exact absurd H (by simp)
        · rw [if_neg c4] at H
          have c4b0 : decide (x13_1 < (l0.length : Int)) = false := decide_eq_false c4
          clear c4
          obtain rfl := Option.some.inj H
          go_wp2
          repeat (go_quiet (fail); try go_wp2)
          go_ret
          exact ⟨by first | rfl | (simp; done) | (simp [*]; done), by repeat (first | exact Drawn0.refl _ | apply Drawn0.step)⟩
  · rw [if_neg c3] at H
    have c3b0 : ((l0.length : Int) == (l1.length : Int)) = false := beq_eq_false_iff_ne.mpr c3
    have c3b1 : ((l0.length : Int) != (l1.length : Int)) = true := bne_iff_ne.mpr c3
    have c3b2 : (l0.length == l1.length) = false := by first | simpa using c3 | (simp at c3 ⊢; omega)
    obtain rfl := Option.some.inj H
    go_enter Try.func13, Try.ntmps13
    go_wp2
    repeat (go_quiet (fail); try go_wp2)
    go_ret
    exact ⟨by first | rfl | (simp; done) | (simp [*]; done), by repeat (first | exact Drawn0.refl _ | apply Drawn0.step)⟩

/-! ### sorter_Check: function 15, with slices.ContainsFunc, slices.IndexFunc and its closure -/
/-- What the closure asks. -/
def badPair (n : Int) (q : S53) : Bool := decide (q.f0 < 0) || decide (n ≤ q.f1) || decide (q.f1 ≤ q.f0)
def sorter_Check.f (a0 : Int) (l1 : List (S53)) : Option (Int) := if a0 < 0 then some 2 else if a0 > 32 then some 2 else if (l1.length : Int) > 4096 then some 3 else if l1.any (badPair a0) = true then some 13 else some 0

set_option maxHeartbeats 8000000 in
set_option maxRecDepth 100000 in
theorem sorter_Check_1.calls (q0 q1 n : Int) (g : Nat) (w : World) (hg : w.cell? ⟨g, 0, none⟩ = some (.int .i64 n)) :
    Calls Try.prog 29 #[.agg #[.int .i64 q0, .int .i64 q1], .pointer (some ⟨g, 0, none⟩)] w fun e w' => e = .returned (.bool (badPair n ⟨q0, q1⟩)) ∧ Below w.heap.size w w' := by
  have hu53 := Try.underlying53
  have hlt : g < w.heap.size := World.block_lt_of_cell? w ⟨g, 0, none⟩ hg
  by_cases c1 : q0 < 0
  · have hfin : badPair n ⟨q0, q1⟩ = true := by simp [badPair, c1]
    have HF := Aside0.mk hfin
    clear hfin
    have b1 : decide (q0 < 0) = true := decide_eq_true c1
    clear c1
    go_enter Try.func29, Try.ntmps29
    go_wp2
    go_ret
    exact ⟨by rw [HF.out]; rfl, (Below.refl _ _).alloc (Nat.le_refl _) _⟩
  · have b1 : decide (q0 < 0) = false := decide_eq_false c1
    by_cases c2 : n ≤ q1
    · have hfin : badPair n ⟨q0, q1⟩ = true := by simp [badPair, c2]
      have HF := Aside0.mk hfin
      clear hfin
      have b2 : decide (n ≤ q1) = true := decide_eq_true c2
      clear c1 c2
      go_enter Try.func29, Try.ntmps29
      go_wp2
      go_ret
      exact ⟨by rw [HF.out]; rfl, (Below.refl _ _).alloc (Nat.le_refl _) _⟩
    · have b2 : decide (n ≤ q1) = false := decide_eq_false c2
      have hfin : badPair n ⟨q0, q1⟩ = decide (q1 ≤ q0) := by simp [badPair, c1, c2]
      have HF := Aside0.mk hfin
      clear hfin
      clear c1 c2
      go_enter Try.func29, Try.ntmps29
      go_wp2
      go_ret
      exact ⟨by rw [HF.out]; rfl, (Below.refl _ _).alloc (Nat.le_refl _) _⟩

set_option maxHeartbeats 8000000 in
set_option maxRecDepth 100000 in
theorem slices_IndexFunc_Check.calls (n : Int) (g : Nat) (A1 : Option Addr) (c1 : Nat) (l1 : List (S53)) (w : World) (hr1 : Kd.C k53 w A1 l1.length l1) (hm : l1.length < 9223372036854775807) (hg : w.cell? ⟨g, 0, none⟩ = some (.int .i64 n)) :
    Calls Try.prog 36 #[.slice A1 l1.length c1, .func (.func 29) #[] #[.pointer (some ⟨g, 0, none⟩)]] w fun e w' => (∃ z : Int, e = .returned (.int .i64 z) ∧ decide (0 ≤ z) = l1.any (badPair n)) ∧ Below w.heap.size w w' := by
  have hu53 := Try.underlying53
  have HR1 := Aside0.mk hr1
  have HG := Aside0.mk hg
  have HM := Aside0.mk hm
  have HB := Aside0.mk (Below.refl w.heap.size w)
  clear hr1 hg
  go_enter Try.func36, Try.ntmps36
  go_wp2
  go_loopg [8] (l1.length + 1) (fun kq v8 w' => ∃ i : Nat, v8 = .int .i64 (i : Int) ∧ Aside0 (i ≤ l1.length ∧ kq = l1.length + 1 - i) ∧ Aside0 ((l1.take i).any (badPair n) = false) ∧ Aside0 (Below w.heap.size w w'))
  case atStart => exact ⟨0, rfl, ⟨by omega, by omega⟩, ⟨by simp⟩, HB⟩
  case round =>
    clear HB
    obtain ⟨i, rfl, HI, HN, HB⟩ := hrel
    cases gk with
    | zero => exact absurd HI.out.2 (by have := HI.out.1; omega)
    | succ k1 =>
      by_cases hlt : i < l1.length
      · have b1 : decide ((i : Int) < (l1.length : Int)) = true := decide_eq_true (by omega)
        have b1' : decide (i < l1.length) = true := decide_eq_true hlt
        obtain ⟨ad, e1, hx0, hx1⟩ := at_T53 HR1.out (i : Int) (by omega) (by omega)
        cases e1
        rw [Int.toNat_natCast] at hx0 hx1
        replace hx0 := (HB.out.cell (World.block_lt_of_cell? w _ hx0)).trans hx0
        replace hx1 := (HB.out.cell (World.block_lt_of_cell? w _ hx1)).trans hx1
        have hgw := (HB.out.cell (World.block_lt_of_cell? w _ HG.out)).trans HG.out
        have p1 : (0 ≤ (i : Int)) = True := eq_true (by omega)
        have p2 : ((i : Int) < (l1.length : Int)) = True := eq_true (by omega)
        have hi63 : (i : Int) ≤ 9223372036854775806 := by have := HM.out; omega
        have hq : rd_T53 l1 (i : Int) = l1[i] := by simp [rd_T53, List.getD_eq_getElem?_getD, hlt]
        have HQ := Aside0.mk hq
        have ht : l1.take (i + 1) = l1.take i ++ [l1[i]] := by rw [List.take_succ_eq_append_getElem hlt]
        have HT := Aside0.mk ht
        clear ht hq
        by_cases cb : badPair n (rd_T53 l1 (i : Int)) = true
        · have CB := Aside0.mk cb
          clear cb
          have hfin : l1.any (badPair n) = true := by
            rw [List.any_eq_true]
            exact ⟨l1[i], List.getElem_mem hlt, by rw [← HQ.out]; exact CB.out⟩
          have HF := Aside0.mk hfin
          clear hfin
          go_wp2_with (go_at_call 29; refine (sorter_Check_1.calls (rd_T53 l1 (i : Int)).f0 (rd_T53 l1 (i : Int)).f1 n g _ hgw).mono ?_; rintro e w1 ⟨rfl, hb⟩; have n0_ := Aside0.mk (below_step HB.out hb); rw [CB.out])
          go_ret
          exact ⟨⟨_, rfl, by rw [HF.out]; exact decide_eq_true (by omega)⟩, n0_.out⟩
        · have cb := Bool.eq_false_iff.2 cb
          have CB := Aside0.mk cb
          clear cb
          go_wp2_with (go_at_call 29; refine (sorter_Check_1.calls (rd_T53 l1 (i : Int)).f0 (rd_T53 l1 (i : Int)).f1 n g _ hgw).mono ?_; rintro e w1 ⟨rfl, hb⟩; have n0_ := Aside0.mk (below_step HB.out hb); rw [CB.out])
          have HN2 : Aside0 ((l1.take (i + 1)).any (badPair n) = false) := ⟨by rw [HT.out, List.any_append, HN.out, ← HQ.out]; simp [CB.out]⟩
          go_roundg k1
          case measure => omega
          case rel => exact ⟨i + 1, by go_num, ⟨by omega, by have := HI.out; omega⟩, HN2, n0_⟩
      · have b1 : decide ((i : Int) < (l1.length : Int)) = false := decide_eq_false (by omega)
        have b1' : decide (i < l1.length) = false := decide_eq_false hlt
        have hfin : l1.any (badPair n) = false := by
          have := HN.out
          rwa [List.take_of_length_le (by omega)] at this
        have HF := Aside0.mk hfin
        clear hfin
        go_wp2
        go_ret
        exact ⟨⟨-1, rfl, by rw [HF.out]; rfl⟩, HB.out⟩

set_option maxHeartbeats 8000000 in
set_option maxRecDepth 100000 in
theorem slices_ContainsFunc_Check.calls (n : Int) (g : Nat) (A1 : Option Addr) (c1 : Nat) (l1 : List (S53)) (w : World) (hr1 : Kd.C k53 w A1 l1.length l1) (hm : l1.length < 9223372036854775807) (hg : w.cell? ⟨g, 0, none⟩ = some (.int .i64 n)) :
    Calls Try.prog 28 #[.slice A1 l1.length c1, .func (.func 29) #[] #[.pointer (some ⟨g, 0, none⟩)]] w fun e w' => e = .returned (.bool (l1.any (badPair n))) ∧ Below w.heap.size w w' := by
  have HC := Aside0.mk (slices_IndexFunc_Check.calls n g A1 c1 l1 w hr1 hm hg)
  clear hr1 hg hm
  go_enter Try.func28, Try.ntmps28
  go_wp2_with (go_at_call 36; refine HC.out.mono ?_; rintro e w1 ⟨⟨z, rfl, hz⟩, hb⟩; have HZ := Aside0.mk hz; have HB := Aside0.mk hb; clear hz hb)
  go_ret
  exact ⟨by rw [← HZ.out]; rfl, HB.out⟩

set_option maxHeartbeats 8000000 in
set_option maxRecDepth 100000 in
theorem sorter_Check.calls (a0 : Int) (A1 : Option Addr) (c1 : Nat) (l1 : List (S53)) (r : Int) (w : World) (hr1 : Kd.C k53 w A1 l1.length l1) (hc1 : l1.length ≤ c1) (h : sorter_Check.f a0 l1 = some r) :
    Calls Try.prog 15 #[.int .i64 a0, .slice A1 l1.length c1] w fun e w' => e = .returned (.int .i64 r) ∧ Below w.heap.size w w' := by
  have hmf : ∀ (fn : Fn) (first cap : Array Value) (w : World), (Instr.makeFunc fn first cap).run Try.prog w = .ok (.func fn first cap) w := fun _ _ _ _ => rfl
  have HR1 := Aside0.mk hr1
  clear hr1 hc1
  have H : (if a0 < 0 then some 2 else if a0 > 32 then some 2 else if (l1.length : Int) > 4096 then some 3 else if l1.any (badPair a0) = true then some 13 else some 0) = some r := h
  clear h
  by_cases c4 : a0 < 0
  · rw [if_pos c4] at H
    have b1 : decide (a0 < 0) = true := decide_eq_true c4
    clear c4
    obtain rfl := Option.some.inj H
    go_enter Try.func15, Try.ntmps15
    go_wp2
    go_ret
    exact ⟨rfl, (Below.refl _ _).alloc (Nat.le_refl _) _⟩
  · rw [if_neg c4] at H
    have b1 : decide (a0 < 0) = false := decide_eq_false c4
    clear c4
    by_cases c5 : a0 > 32
    · rw [if_pos c5] at H
      have b2 : decide (32 < a0) = true := decide_eq_true c5
      clear c5
      obtain rfl := Option.some.inj H
      go_enter Try.func15, Try.ntmps15
      go_wp2
      go_ret
      exact ⟨rfl, (Below.refl _ _).alloc (Nat.le_refl _) _⟩
    · rw [if_neg c5] at H
      have b2 : decide (32 < a0) = false := decide_eq_false c5
      clear c5
      by_cases c6 : (l1.length : Int) > 4096
      · rw [if_pos c6] at H
        have b3 : decide (4096 < (l1.length : Int)) = true := decide_eq_true c6
        have b3' : decide (4096 < l1.length) = true := decide_eq_true (by omega)
        clear c6
        obtain rfl := Option.some.inj H
        go_enter Try.func15, Try.ntmps15
        go_wp2
        go_ret
        exact ⟨rfl, (Below.refl _ _).alloc (Nat.le_refl _) _⟩
      · rw [if_neg c6] at H
        have HM : Aside0 (l1.length < 9223372036854775807) := ⟨by omega⟩
        have b3 : decide (4096 < (l1.length : Int)) = false := decide_eq_false c6
        have b3' : decide (4096 < l1.length) = false := decide_eq_false (by omega)
        clear c6
        by_cases c7 : l1.any (badPair a0) = true
        · rw [if_pos c7] at H
          have C7 := Aside0.mk c7
          clear c7
          obtain rfl := Option.some.inj H
          go_enter Try.func15, Try.ntmps15
          go_wp2_with (go_at_call 28; refine (slices_ContainsFunc_Check.calls a0 w.heap.size A1 _ l1 _ (Kd.C_alloc HR1.out _) HM.out (by simp)).mono ?_; rintro e w1 ⟨rfl, hb⟩; have HB := Aside0.mk hb; clear hb; rw [C7.out])
          go_ret
          exact ⟨rfl, below_step ((Below.refl _ _).alloc (Nat.le_refl _) _) HB.out⟩
        · rw [if_neg c7] at H
          have C7 := Aside0.mk (Bool.eq_false_iff.2 c7)
          clear c7
          obtain rfl := Option.some.inj H
          go_enter Try.func15, Try.ntmps15
          go_wp2_with (go_at_call 28; refine (slices_ContainsFunc_Check.calls a0 w.heap.size A1 _ l1 _ (Kd.C_alloc HR1.out _) HM.out (by simp)).mono ?_; rintro e w1 ⟨rfl, hb⟩; have HB := Aside0.mk hb; clear hb; rw [C7.out])
          go_ret
          exact ⟨rfl, below_step ((Below.refl _ _).alloc (Nat.le_refl _) _) HB.out⟩

end Go.Proofs.Ytmgjohlaoflebaa.Sb
