/- A function of the program, with its walk: juntoref01_Same. (Made by this session's own program out of what the kit's print wrote; no text of the print.) What Take, Read and Same come to, in plain lists. -/
import Derived.Test.YtkaikgbcnmfppaaNb0
import Derived.Test.YtkaikgbcnmfppaaNbTie
import Derived.Test.YtkaikgbcnmfppaaNbFNetRead
namespace Go.Proofs.Ytkaikgbcnmfppaa.Nb
open Go.RowKit Go.Proofs.YtkaikgbcnmfppaaW.PrintWords Go.Proofs.YtkaikgbcnmfppaaW.PrintLast Go.Proofs.YtkaikgbcnmfppaaW.PrintMore
attribute [local go_sem] max2_int min2_int max_two min_two max_three min_three max_four min_four   -- for this text's walks alone
set_option linter.unusedVariables false
set_option linter.unusedSimpArgs false

noncomputable section
/-! ### juntoref01_Same: function 28 -/
def juntoref01_Same.l0 : Nat → List Int → List Int → Int → Int → Option (Bool)
 | 0, _, _, _, _ => none
 | k + 1, x0, x1, x12, x13 => if x13 < x12 then (if 0 ≤ x13 then (if x13 < (x0.length : Int) then (if x13 < (x1.length : Int) then (if (rd x0 x13) = (rd x1 x13) then (juntoref01_Same.l0 k x0 x1 x12 (wrap64 (x13 + 1))) else (some false)) else (none)) else (none)) else (none)) else (some true)
def juntoref01_Same.f (k : Nat) (l0 : List Int) (l1 : List Int) : Option (Bool) := if (l0.length : Int) = (l1.length : Int) then (juntoref01_Same.l0 k l0 l1 (l0.length : Int) 0) else (some false)
set_option maxHeartbeats 8000000 in
set_option maxRecDepth 100000 in
theorem juntoref01_Same.calls (k : Nat) (A0 : Option Addr) (c0 : Nat) (l0 : List Int) (A1 : Option Addr) (c1 : Nat) (l1 : List Int) (r : Bool) (w : World) (hr0 : Kd.C (Kd.int .u64) w A0 l0.length l0) (hc0 : l0.length ≤ c0) (hr1 : Kd.C (Kd.int .u64) w A1 l1.length l1) (hc1 : l1.length ≤ c1) (h : juntoref01_Same.f k l0 l1 = some r) :
  Calls Try.prog 28 #[.slice A0 l0.length c0, .slice A1 l1.length c1] w fun e w' => e = .returned (.bool r) ∧ Drawn0 w w' := by
 have HR0 := Aside0.mk hr0
 have HC0 := Aside0.mk hc0
 clear hr0 hc0
 have HR1 := Aside0.mk hr1
 have HC1 := Aside0.mk hc1
 clear hr1 hc1
 have H : (if (l0.length : Int) = (l1.length : Int) then (juntoref01_Same.l0 k l0 l1 (l0.length : Int) 0) else (some false)) = some r := h
 clear h
 by_cases c3 : (l0.length : Int) = (l1.length : Int)
 ·rw [if_pos c3] at H
  have c3b0 : ((l0.length : Int) == (l1.length : Int)) = true := beq_iff_eq.mpr c3
  have c3b1 : ((l0.length : Int) != (l1.length : Int)) = false := bne_eq_false_iff_eq.mpr c3
  have c3b2 : (l0.length == l1.length) = true := by first | simpa using c3 | (simp at c3 ⊢; omega)
  clear c3
  have H' := Aside0.mk H
  clear H
  go_enter Try.func28, Try.ntmps28
  go_wp2
  repeat (go_quiet (fail); try go_wp2)
  go_loopg [13] k (fun kq v13 w' => ∃ (x13_1 : Int), v13 = .int .i64 x13_1 ∧ Aside0 (juntoref01_Same.l0 kq l0 l1 (l0.length : Int) x13_1 = some r) ∧ Aside0 (kq ≤ k) ∧ Drawn0 w w')
  case atStart => exact ⟨(0), (by first | rfl | (simp; done) | (simp [*]; done)), H', ⟨Nat.le_refl _⟩, by repeat (first | exact Drawn0.refl _ | apply Drawn0.step)⟩
  case round =>
   clear H'
   try clear c1
   try clear c2
   try clear p2
   try clear c3
   try clear c3b0
   try clear c3b1
   try clear c3b2
   obtain ⟨x13_1, rfl, HA, HK1, ⟨m1, rfl⟩⟩ := hrel
   cases gk with
   | zero => exact absurd HA.out (by simp [juntoref01_Same.l0])
   | succ k1 =>
    have H := HA.out
    clear HA
    simp only [juntoref01_Same.l0] at H
    by_cases c4 : x13_1 < (l0.length : Int)
    ·rw [if_pos c4] at H
     have c4b0 : decide (x13_1 < (l0.length : Int)) = true := decide_eq_true c4
     clear c4
     by_cases c5 : 0 ≤ x13_1
     ·rw [if_pos c5] at H
      have c5b0 : decide (0 ≤ x13_1) = true := decide_eq_true c5
      clear c5
      by_cases c6 : x13_1 < (l0.length : Int)
      ·rw [if_pos c6] at H
       have c6b0 : decide (x13_1 < (l0.length : Int)) = true := decide_eq_true c6
       clear c6
       by_cases c7 : x13_1 < (l1.length : Int)
       ·rw [if_pos c7] at H
        have c7b0 : decide (x13_1 < (l1.length : Int)) = true := decide_eq_true c7
        clear c7
        by_cases c8 : (rd l0 x13_1) = (rd l1 x13_1)
        ·rw [if_pos c8] at H
         have c8b0 : ((rd l0 x13_1) == (rd l1 x13_1)) = true := beq_iff_eq.mpr c8
         have c8b1 : ((rd l0 x13_1) != (rd l1 x13_1)) = false := bne_eq_false_iff_eq.mpr c8
         clear c8
         have H' := Aside0.mk H
         clear H
         have p124 : 0 ≤ (x13_1 : Int) := of_decide_eq_true (by first | (with_reducible assumption) | assumption)
         have q124 : x13_1 < (l0.length : Int) := of_decide_eq_true (by first | (with_reducible assumption) | assumption)
         obtain ⟨ad124, e124, hx124_0⟩ := Kd.at_int HR0.out x13_1 p124 q124
         cases e124
         replace p124 := eq_true p124
         replace q124 := eq_true q124
         have p125 : 0 ≤ (x13_1 : Int) := of_decide_eq_true (by first | (with_reducible assumption) | assumption)
         have q125 : x13_1 < (l1.length : Int) := of_decide_eq_true (by first | (with_reducible assumption) | assumption)
         obtain ⟨ad125, e125, hx125_0⟩ := Kd.at_int HR1.out x13_1 p125 q125
         cases e125
         replace p125 := eq_true p125
         replace q125 := eq_true q125
         go_wp2
         repeat (go_quiet (fail); try go_wp2)
         go_roundg k1
         case measure => have := HK1.out; omega
         case rel => exact ⟨(wrap64 (x13_1 + 1)), (by first | rfl | (simp; done) | (simp [*]; done)), H', ⟨by have := HK1.out; omega⟩, by repeat (first | exact Drawn0.refl _ | apply Drawn0.step)⟩
        ·rw [if_neg c8] at H
         have c8b0 : ((rd l0 x13_1) == (rd l1 x13_1)) = false := beq_eq_false_iff_ne.mpr c8
         have c8b1 : ((rd l0 x13_1) != (rd l1 x13_1)) = true := bne_iff_ne.mpr c8
         obtain rfl := Option.some.inj H
         have p124 : 0 ≤ (x13_1 : Int) := of_decide_eq_true (by first | (with_reducible assumption) | assumption)
         have q124 : x13_1 < (l0.length : Int) := of_decide_eq_true (by first | (with_reducible assumption) | assumption)
         obtain ⟨ad124, e124, hx124_0⟩ := Kd.at_int HR0.out x13_1 p124 q124
         cases e124
         replace p124 := eq_true p124
         replace q124 := eq_true q124
         have p125 : 0 ≤ (x13_1 : Int) := of_decide_eq_true (by first | (with_reducible assumption) | assumption)
         have q125 : x13_1 < (l1.length : Int) := of_decide_eq_true (by first | (with_reducible assumption) | assumption)
         obtain ⟨ad125, e125, hx125_0⟩ := Kd.at_int HR1.out x13_1 p125 q125
         cases e125
         replace p125 := eq_true p125
         replace q125 := eq_true q125
         go_wp2
         repeat (go_quiet (fail); try go_wp2)
         go_ret
         exact ⟨by first | rfl | (simp; done) | (simp [*]; done), by repeat (first | exact Drawn0.refl _ | apply Drawn0.step)⟩
       ·rw [if_neg c7] at H
        exact absurd H (by simp)
      ·rw [if_neg c6] at H
       exact absurd H (by simp)
     ·rw [if_neg c5] at H
      exact absurd H (by simp)
    ·rw [if_neg c4] at H
     have c4b0 : decide (x13_1 < (l0.length : Int)) = false := decide_eq_false c4
     clear c4
     obtain rfl := Option.some.inj H
     go_wp2
     repeat (go_quiet (fail); try go_wp2)
     go_ret
     exact ⟨by first | rfl | (simp; done) | (simp [*]; done), by repeat (first | exact Drawn0.refl _ | apply Drawn0.step)⟩
 ·rw [if_neg c3] at H
  have c3b0 : ((l0.length : Int) == (l1.length : Int)) = false := beq_eq_false_iff_ne.mpr c3
  have c3b1 : ((l0.length : Int) != (l1.length : Int)) = true := bne_iff_ne.mpr c3
  have c3b2 : (l0.length == l1.length) = false := by first | simpa using c3 | (simp at c3 ⊢; omega)
  obtain rfl := Option.some.inj H
  go_enter Try.func28, Try.ntmps28
  go_wp2
  repeat (go_quiet (fail); try go_wp2)
  go_ret
  exact ⟨by first | rfl | (simp; done) | (simp [*]; done), by repeat (first | exact Drawn0.refl _ | apply Drawn0.step)⟩

end
end Go.Proofs.Ytkaikgbcnmfppaa.Nb
namespace Go.Proofs.Ytkaikgbcnmfppaa.Nb
open Go Go.RowKit Go.Proofs.YtkaikgbcnmfppaaW.PrintWords Go.Proofs.YtkaikgbcnmfppaaW.PrintLast Go.Proofs.YtkaikgbcnmfppaaW.PrintMore
open Go.Proofs.Ytkaikgbcnmfppaa.Num Go.Proofs.Ytkaikgbcnmfppaa.Arith
set_option linter.unusedVariables false
set_option linter.unusedSimpArgs false
def val (p : Nat) (xs : List Nat) (j : Nat) : Int := ((xs.getD j 0 % p : Nat) : Int)
/-- n places, of which the first i are filled. -/
def fill (p : Nat) (xs : List Nat) (i n : Nat) : List Int := (List.range n).map fun j => if j < i then val p xs j else 0
theorem fill_length (p : Nat) (xs : List Nat) (i n : Nat) : (fill p xs i n).length = n := by simp [fill]
theorem fill_zero (p : Nat) (xs : List Nat) (n : Nat) : fill p xs 0 n = List.replicate n 0 := by
 refine List.ext_getElem (by simp [fill]) fun j h1 h2 => ?_
 simp [fill]
theorem fill_set (p : Nat) (xs : List Nat) (i n : Nat) (h : i < n) : (fill p xs i n).set i (val p xs i) = fill p xs (i + 1) n := by
 refine List.ext_getElem (by simp [fill]) fun j h1 h2 => ?_
 rw [List.getElem_set]
 simp only [fill, List.getElem_map, List.getElem_range]
 by_cases hj : i = j
 ·subst hj; simp
 ·rw [if_neg hj]
  by_cases hji : j < i
  ·rw [if_pos hji, if_pos (by omega)]
  ·rw [if_neg hji, if_neg (by omega)]
theorem val_big (p : Nat) (xs : List Nat) (i : Nat) (h : xs.length ≤ i) : val p xs i = 0 := by
 simp [val, List.getD_eq_getElem?_getD, List.getElem?_eq_none h]
theorem fill_big (p : Nat) (xs : List Nat) (i m n : Nat) (h : xs.length ≤ i ∨ n ≤ i) (hm : i ≤ m) : fill p xs i n = fill p xs m n := by
 refine List.ext_getElem (by simp [fill]) fun j h1 h2 => ?_
 simp only [fill, List.getElem_map, List.getElem_range]
 simp only [fill, List.length_map, List.length_range] at h1
 by_cases hji : j < i
 ·rw [if_pos hji, if_pos (by omega)]
 ·rw [if_neg hji]
  by_cases hjm : j < m
  ·rw [if_pos hjm, val_big p xs j (by omega)]
  ·rw [if_neg hjm]
theorem val_at (p : Nat) (xs : List Nat) (i : Nat) (h : i < xs.length) : Int.tmod (rd (cast xs) (i : Int)) (p : Int) = val p xs i := by
 rw [cast_rd xs i h, tmod_nat]
 simp [val, List.getD_eq_getElem?_getD, List.getElem?_eq_getElem h]
theorem mn_nat (a b : Nat) : mn (a : Int) (b : Int) = ((min a b : Nat) : Int) := by unfold mn; omega
theorem cast_drop (xs : List Nat) (i : Nat) : (Arith.cast xs).drop i = Arith.cast (xs.drop i) := by simp [Arith.cast, List.map_drop]

theorem rest_tie (xs : List Nat) (n : Nat) (out : List Int) (hl : xs.length < 17592186044416) :
  ((some (([] : List Int) : List Int)).bind fun y => (if 0 ≤ (mn (n : Int) ((cast xs).length : Int)) then (if (mn (n : Int) ((cast xs).length : Int)) ≤ ((cast xs).length : Int) then (if y.length + ((cast xs).drop ((mn (n : Int) ((cast xs).length : Int)) : Int).toNat).length < 17592186044416 then (some (out, (y ++ ((cast xs).drop ((mn (n : Int) ((cast xs).length : Int)) : Int).toNat)))) else (none)) else (none)) else (none)))
   = some (out, cast (xs.drop (min n xs.length))) := by
 have e : (cast xs).length = xs.length := by simp
 simp only [Option.bind_some, e, mn_nat]
 rw [if_pos (by omega), if_pos (by omega), if_pos (by simp; omega), Int.toNat_natCast, List.nil_append, cast_drop]

theorem take_l0 (p : Nat) (h0 : 0 < p) (xs : List Nat) (hl : xs.length < 17592186044416) (n : Nat) (hn : n ≤ 1048576) : ∀ (d i k : Nat), n - i = d → i ≤ n → d < k →
  field_Take.l0 k (p : Int) (cast xs) (n : Int) (fill p xs i n) (n : Int) (i : Int) = some (fill p xs n n, cast (xs.drop (min n xs.length))) := by
 intro d
 induction d with
 | zero =>
  intro i k hd hi hk
  obtain ⟨k, rfl⟩ : ∃ m, k = m + 1 := ⟨k - 1, by omega⟩
  obtain rfl : i = n := by omega
  simp only [field_Take.l0]
  rw [if_neg (by omega)]
  exact rest_tie xs i _ hl
 | succ d ih =>
  intro i k hd hi hk
  obtain ⟨k, rfl⟩ : ∃ m, k = m + 1 := ⟨k - 1, by omega⟩
  have hin : i < n := by omega
  have e : (cast xs).length = xs.length := by simp
  simp only [field_Take.l0]
  rw [if_pos (by omega), w64_in (by omega) (by omega)]
  by_cases hx : i < xs.length
  ·rw [if_pos (by omega), if_pos (by omega), if_neg (by omega), if_pos (by rw [fill_length]; omega), val_at p xs i hx, Int.toNat_natCast, fill_set p xs i n hin]
   exact ih (i + 1) k (by omega) (by omega) (by omega)
  ·rw [if_neg (by omega), fill_big p xs i (i + 1) n (by omega) (by omega)]
   exact ih (i + 1) k (by omega) (by omega) (by omega)
theorem take_ev (p : Nat) (h0 : 0 < p) (xs : List Nat) (hl : xs.length < 17592186044416) (n : Nat) (hn : n ≤ 1048576) :
  Ev (fun k => field_Take.f k (p : Int) (cast xs) (n : Int)) (fill p xs n n, cast (xs.drop (min n xs.length))) := by
 refine Ev.of (field_Take.mono _ _ _) (k := n + 1) ?_
 unfold field_Take.f
 rw [if_pos (by omega), if_pos (by omega), Int.toNat_natCast]
 simp only [Option.bind_some]
 rw [← fill_zero p xs n, fill_length]
 exact take_l0 p h0 xs hl n hn n 0 (n + 1) (by omega) (by omega) (by omega)
/-! ### Same -/
theorem same_l0 (xs ys : List Int) (he : xs.length = ys.length) (hl : xs.length < 9223372036854775807) : ∀ (d i k : Nat), xs.length - i = d → d < k →
  juntoref01_Same.l0 k xs ys (xs.length : Int) (i : Int) = some (decide (xs.drop i = ys.drop i)) := by
 intro d
 induction d with
 | zero =>
  intro i k hd hk
  obtain ⟨k, rfl⟩ : ∃ m, k = m + 1 := ⟨k - 1, by omega⟩
  simp only [juntoref01_Same.l0]
  rw [if_neg (by omega), List.drop_eq_nil_of_le (by omega), List.drop_eq_nil_of_le (by omega)]
  simp
 | succ d ih =>
  intro i k hd hk
  obtain ⟨k, rfl⟩ : ∃ m, k = m + 1 := ⟨k - 1, by omega⟩
  have hi : i < xs.length := by omega
  have hi' : i < ys.length := by omega
  simp only [juntoref01_Same.l0]
  rw [if_pos (by omega), if_pos (by omega), if_pos (by omega), if_pos (by omega), rd_nat xs i hi, rd_nat ys i hi', w64_in (by omega) (by omega)]
  rw [List.drop_eq_getElem_cons hi, List.drop_eq_getElem_cons hi']
  by_cases hx : xs[i] = ys[i]
  ·rw [if_pos hx]
   simp only [List.cons.injEq, hx, true_and]
   exact ih (i + 1) k (by omega) (by omega)
  ·rw [if_neg hx]
   simp only [List.cons.injEq, hx, false_and, decide_false]
end Go.Proofs.Ytkaikgbcnmfppaa.Nb
