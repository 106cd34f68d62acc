/- What Take, Read and Same come to, in plain lists. -/
import Derived.Test.YtkaikgbcnmfppaaNbTie
import Derived.Test.YtkaikgbcnmfppaaNbFNetRead
import Derived.Test.YtkaikgbcnmfppaaNb0
import Derived.Test.YtkaikgbcnmfppaaNbFRef1Same
namespace Go.Proofs.Ytkaikgbcnmfppaa.Nb
open Go Go.RowKit Go.Proofs.YtkaikgbcnmfppaaW.PrintWords Go.Proofs.YtkaikgbcnmfppaaW.PrintLast Go.Proofs.YtkaikgbcnmfppaaW.PrintMore
open Go.Proofs.Ytkaikgbcnmfppaa.Num Go.Proofs.Ytkaikgbcnmfppaa.Arith
set_option linter.unusedVariables false
set_option linter.unusedSimpArgs false
def val (p : Nat) (xs : List Nat) (j : Nat) : Int := ((xs.getD j 0 % p : Nat) : Int)
/-! ### Same -/
theorem same_l0 (xs ys : List Int) (he : xs.length = ys.length) (hl : xs.length < 9223372036854775807) : ∀ (d i k : Nat), xs.length - i = d → d < k →
  juntoref01_Same.l0 k xs ys (xs.length : Int) (i : Int) = some (decide (xs.drop i = ys.drop i)) := by
 intro d
 induction d with
 | zero =>
  intro i k hd hk
  obtain ⟨k, rfl⟩ : ∃ m, k = m + 1 := ⟨k - 1, by omega⟩
  simp only [juntoref01_Same.l0]
  rw [if_neg (by omega), List.drop_eq_nil_of_le (by omega), List.drop_eq_nil_of_le (by omega)]
  simp
 | succ d ih =>
  intro i k hd hk
  obtain ⟨k, rfl⟩ : ∃ m, k = m + 1 := ⟨k - 1, by omega⟩
  have hi : i < xs.length := by omega
  have hi' : i < ys.length := by omega
  simp only [juntoref01_Same.l0]
  rw [if_pos (by omega), if_pos (by omega), if_pos (by omega), if_pos (by omega), rd_nat xs i hi, rd_nat ys i hi', w64_in (by omega) (by omega)]
  rw [List.drop_eq_getElem_cons hi, List.drop_eq_getElem_cons hi']
  by_cases hx : xs[i] = ys[i]
  ·rw [if_pos hx]
   simp only [List.cons.injEq, hx, true_and]
   exact ih (i + 1) k (by omega) (by omega)
  ·rw [if_neg hx]
   simp only [List.cons.injEq, hx, false_and, decide_false]
end Go.Proofs.Ytkaikgbcnmfppaa.Nb
