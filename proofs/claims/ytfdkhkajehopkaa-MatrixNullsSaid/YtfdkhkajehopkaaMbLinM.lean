/- Determinants of products, inverses, powers of distinct numbers. -/
import Derived.Test.YtfdkhkajehopkaaMbLinR
import Derived.Test.YtfdkhkajehopkaaMbTieB
import Derived.Test.YtfdkhkajehopkaaMb0
import Derived.Test.YtfdkhkajehopkaaMbG2
import Derived.Test.YtfdkhkajehopkaaMbTieA
namespace Go.Proofs.Ytfdkhkajehopkaa.Mb
open Go.Proofs.Ytfdkhkajehopkaa.Num
set_option linter.unusedVariables false
set_option linter.unusedSimpArgs false

/-! ### the determinant answers to row operations -/
/-! ### products -/
def colAt (b : List (List Nat)) (k : Nat) : List Nat := b.map fun r => r.getD k 0
/-! ### the first columns alone -/
/-! ### the inverse -/
/-! ### powers of distinct numbers -/
end Go.Proofs.Ytfdkhkajehopkaa.Mb
