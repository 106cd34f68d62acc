/- What Take, Read and Same come to, in plain lists. -/
import Derived.Test.YtkaikgbcnmfppaaNbTie
import Derived.Test.YtkaikgbcnmfppaaNbFNetRead
import Derived.Test.YtkaikgbcnmfppaaNbFRef17Read
import Derived.Test.YtkaikgbcnmfppaaNbFRef1Same
namespace Go.Proofs.Ytkaikgbcnmfppaa.Nb
open Go Go.RowKit Go.Proofs.YtkaikgbcnmfppaaW.PrintWords Go.Proofs.YtkaikgbcnmfppaaW.PrintLast Go.Proofs.YtkaikgbcnmfppaaW.PrintMore
open Go.Proofs.Ytkaikgbcnmfppaa.Num Go.Proofs.Ytkaikgbcnmfppaa.Arith
set_option linter.unusedVariables false
set_option linter.unusedSimpArgs false
def val (p : Nat) (xs : List Nat) (j : Nat) : Int := ((xs.getD j 0 % p : Nat) : Int)
/-- n places, of which the first i are filled. -/
def fill (p : Nat) (xs : List Nat) (i n : Nat) : List Int := (List.range n).map fun j => if j < i then val p xs j else 0
theorem fill_length (p : Nat) (xs : List Nat) (i n : Nat) : (fill p xs i n).length = n := by simp [fill]
theorem fill_zero (p : Nat) (xs : List Nat) (n : Nat) : fill p xs 0 n = List.replicate n 0 := by
 refine List.ext_getElem (by simp [fill]) fun j h1 h2 => ?_
 simp [fill]
theorem fill_set (p : Nat) (xs : List Nat) (i n : Nat) (h : i < n) : (fill p xs i n).set i (val p xs i) = fill p xs (i + 1) n := by
 refine List.ext_getElem (by simp [fill]) fun j h1 h2 => ?_
 rw [List.getElem_set]
 simp only [fill, List.getElem_map, List.getElem_range]
 by_cases hj : i = j
 ·subst hj; simp
 ·rw [if_neg hj]
  by_cases hji : j < i
  ·rw [if_pos hji, if_pos (by omega)]
  ·rw [if_neg hji, if_neg (by omega)]
theorem val_big (p : Nat) (xs : List Nat) (i : Nat) (h : xs.length ≤ i) : val p xs i = 0 := by
 simp [val, List.getD_eq_getElem?_getD, List.getElem?_eq_none h]
theorem fill_big (p : Nat) (xs : List Nat) (i m n : Nat) (h : xs.length ≤ i ∨ n ≤ i) (hm : i ≤ m) : fill p xs i n = fill p xs m n := by
 refine List.ext_getElem (by simp [fill]) fun j h1 h2 => ?_
 simp only [fill, List.getElem_map, List.getElem_range]
 simp only [fill, List.length_map, List.length_range] at h1
 by_cases hji : j < i
 ·rw [if_pos hji, if_pos (by omega)]
 ·rw [if_neg hji]
  by_cases hjm : j < m
  ·rw [if_pos hjm, val_big p xs j (by omega)]
  ·rw [if_neg hjm]
theorem val_at (p : Nat) (xs : List Nat) (i : Nat) (h : i < xs.length) : Int.tmod (rd (cast xs) (i : Int)) (p : Int) = val p xs i := by
 rw [cast_rd xs i h, tmod_nat]
 simp [val, List.getD_eq_getElem?_getD, List.getElem?_eq_getElem h]
theorem mn_nat (a b : Nat) : mn (a : Int) (b : Int) = ((min a b : Nat) : Int) := by unfold mn; omega
theorem cast_drop (xs : List Nat) (i : Nat) : (Arith.cast xs).drop i = Arith.cast (xs.drop i) := by simp [Arith.cast, List.map_drop]

theorem rest_tie (xs : List Nat) (n : Nat) (out : List Int) (hl : xs.length < 17592186044416) :
  ((some (([] : List Int) : List Int)).bind fun y => (if 0 ≤ (mn (n : Int) ((cast xs).length : Int)) then (if (mn (n : Int) ((cast xs).length : Int)) ≤ ((cast xs).length : Int) then (if y.length + ((cast xs).drop ((mn (n : Int) ((cast xs).length : Int)) : Int).toNat).length < 17592186044416 then (some (out, (y ++ ((cast xs).drop ((mn (n : Int) ((cast xs).length : Int)) : Int).toNat)))) else (none)) else (none)) else (none)))
   = some (out, cast (xs.drop (min n xs.length))) := by
 have e : (cast xs).length = xs.length := by simp
 simp only [Option.bind_some, e, mn_nat]
 rw [if_pos (by omega), if_pos (by omega), if_pos (by simp; omega), Int.toNat_natCast, List.nil_append, cast_drop]

theorem take_l0 (p : Nat) (h0 : 0 < p) (xs : List Nat) (hl : xs.length < 17592186044416) (n : Nat) (hn : n ≤ 1048576) : ∀ (d i k : Nat), n - i = d → i ≤ n → d < k →
  field_Take.l0 k (p : Int) (cast xs) (n : Int) (fill p xs i n) (n : Int) (i : Int) = some (fill p xs n n, cast (xs.drop (min n xs.length))) := by
 intro d
 induction d with
 | zero =>
  intro i k hd hi hk
  obtain ⟨k, rfl⟩ : ∃ m, k = m + 1 := ⟨k - 1, by omega⟩
  obtain rfl : i = n := by omega
  simp only [field_Take.l0]
  rw [if_neg (by omega)]
  exact rest_tie xs i _ hl
 | succ d ih =>
  intro i k hd hi hk
  obtain ⟨k, rfl⟩ : ∃ m, k = m + 1 := ⟨k - 1, by omega⟩
  have hin : i < n := by omega
  have e : (cast xs).length = xs.length := by simp
  simp only [field_Take.l0]
  rw [if_pos (by omega), w64_in (by omega) (by omega)]
  by_cases hx : i < xs.length
  ·rw [if_pos (by omega), if_pos (by omega), if_neg (by omega), if_pos (by rw [fill_length]; omega), val_at p xs i hx, Int.toNat_natCast, fill_set p xs i n hin]
   exact ih (i + 1) k (by omega) (by omega) (by omega)
  ·rw [if_neg (by omega), fill_big p xs i (i + 1) n (by omega) (by omega)]
   exact ih (i + 1) k (by omega) (by omega) (by omega)
theorem take_ev (p : Nat) (h0 : 0 < p) (xs : List Nat) (hl : xs.length < 17592186044416) (n : Nat) (hn : n ≤ 1048576) :
  Ev (fun k => field_Take.f k (p : Int) (cast xs) (n : Int)) (fill p xs n n, cast (xs.drop (min n xs.length))) := by
 refine Ev.of (field_Take.mono _ _ _) (k := n + 1) ?_
 unfold field_Take.f
 rw [if_pos (by omega), if_pos (by omega), Int.toNat_natCast]
 simp only [Option.bind_some]
 rw [← fill_zero p xs n, fill_length]
 exact take_l0 p h0 xs hl n hn n 0 (n + 1) (by omega) (by omega) (by omega)
theorem fill_take (p : Nat) (xs : List Nat) (n : Nat) : fill p (xs.take (min n xs.length)) n n = fill p xs n n := by
 refine List.ext_getElem (by simp [fill]) fun j h1 h2 => ?_
 simp only [fill, List.getElem_map, List.getElem_range]
 have hj : j < n := by simpa [fill] using h1
 rw [if_pos hj, if_pos hj]
 unfold val
 congr 2
 rw [List.getD_eq_getElem?_getD, List.getD_eq_getElem?_getD]
 by_cases hx : j < xs.length
 ·rw [List.getElem?_take_of_lt (by omega)]
 ·rw [List.getElem?_eq_none (by simp; omega), List.getElem?_eq_none (by omega)]
theorem cast_take (xs : List Nat) (i : Nat) : (Arith.cast xs).take i = Arith.cast (xs.take i) := by simp [Arith.cast, List.map_take]
theorem net_Of_ev (p : Nat) (h0 : 0 < p) (xs : List Nat) (hl : xs.length < 17592186044416) (n : Nat) (hn : n ≤ 1048576) : Ev (fun k => net_Of.f k (p : Int) (cast xs) (n : Int)) (fill p xs n n) := by
 unfold net_Of.f
 have e : (cast xs).length = xs.length := by simp
 rw [e, mn_nat]
 refine Ev.pos (by omega) (Ev.pos (by omega) ?_)
 rw [Int.toNat_natCast, cast_take]
 exact (take_ev p h0 (xs.take (min n xs.length)) (by simp; omega) n hn).bind (Ev_some (fill_take p xs n))
def readV (p : Nat) (xs : List Nat) (n : Int) (b : Bool) : List Int × Int := if b = true ∧ 0 ≤ n ∧ n ≤ 1048576 then (fill p xs n.toNat n.toNat, 0) else ([], 2)
theorem net_Read_ev (p : Nat) (xs : List Nat) (hl : xs.length < 17592186044416) (n : Int) : Ev (fun k => net_Read.f k (p : Int) (cast xs) n) (readV p xs n (isP p)) := by
 unfold net_Read.f
 refine (field_Is_ev p).bind ?_
 by_cases h : isP p = true
 ·have h3 := (isP_iff.1 h).1
  refine Ev.pos h ?_
  by_cases hn : n < 0
  ·exact Ev.pos hn (Ev_some (by unfold readV; rw [if_neg (by omega)]))
  ·refine Ev.neg hn ?_
   by_cases hb : n > 1048576
   ·exact Ev.pos hb (Ev_some (by unfold readV; rw [if_neg (by omega)]))
   ·obtain ⟨m, rfl⟩ : ∃ m : Nat, n = m := ⟨n.toNat, by omega⟩
    refine Ev.neg hb ((net_Of_ev p (by omega) xs hl m (by omega)).bind (Ev_some ?_))
    unfold readV
    rw [if_pos ⟨h, by omega, by omega⟩, Int.toNat_natCast]
 ·exact Ev.neg h (Ev_some (by unfold readV; rw [if_neg (fun q => h q.1)]))
theorem refRead_l0 (p : Nat) (h0 : 0 < p) (xs : List Nat) (n : Nat) (hn : n ≤ 1048576) : ∀ (d i k : Nat), n - i = d → i ≤ n → d < k →
  juntoref17_Read.l0 k (p : Int) (cast xs) (fill p xs i n) (n : Int) (i : Int) = some (fill p xs n n) := by
 intro d
 induction d with
 | zero =>
  intro i k hd hi hk
  obtain ⟨k, rfl⟩ : ∃ m, k = m + 1 := ⟨k - 1, by omega⟩
  obtain rfl : i = n := by omega
  simp only [juntoref17_Read.l0]
  rw [if_neg (by omega)]
 | succ d ih =>
  intro i k hd hi hk
  obtain ⟨k, rfl⟩ : ∃ m, k = m + 1 := ⟨k - 1, by omega⟩
  have hin : i < n := by omega
  have e : (cast xs).length = xs.length := by simp
  simp only [juntoref17_Read.l0]
  rw [if_pos (by omega), w64_in (by omega) (by omega)]
  by_cases hx : i < xs.length
  ·rw [if_pos (by omega), if_pos (by omega), if_neg (by omega), if_pos (by rw [fill_length]; omega), val_at p xs i hx, Int.toNat_natCast, fill_set p xs i n hin]
   exact ih (i + 1) k (by omega) (by omega) (by omega)
  ·rw [if_neg (by omega), fill_big p xs i (i + 1) n (by omega) (by omega)]
   exact ih (i + 1) k (by omega) (by omega) (by omega)
theorem refRead_ev (p : Nat) (h0 : 0 < p) (xs : List Nat) (n : Nat) (hn : n ≤ 1048576) : Ev (fun k => juntoref17_Read.f k (p : Int) (cast xs) (n : Int)) (fill p xs n n) := by
 refine Ev.of (juntoref17_Read.mono _ _ _) (k := n + 1) ?_
 unfold juntoref17_Read.f
 rw [if_pos (by omega), if_pos (by omega), Int.toNat_natCast]
 simp only [Option.bind_some]
 rw [← fill_zero p xs n, fill_length]
 exact refRead_l0 p h0 xs n hn n 0 (n + 1) (by omega) (by omega) (by omega)
/-! ### Same -/
theorem same_l0 (xs ys : List Int) (he : xs.length = ys.length) (hl : xs.length < 9223372036854775807) : ∀ (d i k : Nat), xs.length - i = d → d < k →
  juntoref01_Same.l0 k xs ys (xs.length : Int) (i : Int) = some (decide (xs.drop i = ys.drop i)) := by
 intro d
 induction d with
 | zero =>
  intro i k hd hk
  obtain ⟨k, rfl⟩ : ∃ m, k = m + 1 := ⟨k - 1, by omega⟩
  simp only [juntoref01_Same.l0]
  rw [if_neg (by omega), List.drop_eq_nil_of_le (by omega), List.drop_eq_nil_of_le (by omega)]
  simp
 | succ d ih =>
  intro i k hd hk
  obtain ⟨k, rfl⟩ : ∃ m, k = m + 1 := ⟨k - 1, by omega⟩
  have hi : i < xs.length := by omega
  have hi' : i < ys.length := by omega
  simp only [juntoref01_Same.l0]
  rw [if_pos (by omega), if_pos (by omega), if_pos (by omega), if_pos (by omega), rd_nat xs i hi, rd_nat ys i hi', w64_in (by omega) (by omega)]
  rw [List.drop_eq_getElem_cons hi, List.drop_eq_getElem_cons hi']
  by_cases hx : xs[i] = ys[i]
  ·rw [if_pos hx]
   simp only [List.cons.injEq, hx, true_and]
   exact ih (i + 1) k (by omega) (by omega)
  ·rw [if_neg hx]
   simp only [List.cons.injEq, hx, false_and, decide_false]
theorem same_ev (xs ys : List Int) (hl : xs.length < 9223372036854775807) : Ev (fun k => juntoref01_Same.f k xs ys) (decide (xs = ys)) := by
 by_cases he : xs.length = ys.length
 ·refine Ev.of (juntoref01_Same.mono _ _) (k := xs.length + 1) ?_
  unfold juntoref01_Same.f
  rw [if_pos (by omega)]
  simpa using same_l0 xs ys he hl xs.length 0 (xs.length + 1) (by omega) (by omega)
 ·unfold juntoref01_Same.f
  refine Ev.neg (by omega) (Ev_some ?_)
  symm
  simp only [decide_eq_false_iff_not]
  exact fun h => he (by rw [h])
end Go.Proofs.Ytkaikgbcnmfppaa.Nb
