/- What the reference's arithmetic comes to, in plain numbers. -/
import Derived.Test.YtfdkhkajehopkaaMbTie
import Derived.Test.YtfdkhkajehopkaaMbR1
namespace Go.Proofs.Ytfdkhkajehopkaa.Mb
open Go.RowKit Go.Proofs.YtfdkhkajehopkaaW.PrintWords Go.Proofs.YtfdkhkajehopkaaW.PrintLast Go.Proofs.YtfdkhkajehopkaaW.PrintMore
open Go.Proofs.Ytfdkhkajehopkaa.Num Go.Proofs.Ytfdkhkajehopkaa.Arith
set_option linter.unusedVariables false

theorem refMul_tie {p a b : Nat} (h0 : 0 < p) (hp : p ≤ 65537) (ha : a < p) (hb : b < p) : juntoref01_Mul.f (p : Int) (a : Int) (b : Int) = some ((a * b % p : Nat) : Int) := by
 have := mul_small hp ha hb
 unfold juntoref01_Mul.f
 rw [if_neg (by omega), ← Int.natCast_mul, u64_in (by omega) (by omega), tmod_nat]
end Go.Proofs.Ytfdkhkajehopkaa.Mb
