/- The null space's basis, of the program and of the reference, in plain lists. -/
import Derived.Test.YtfdkhkajehopkaaMbTieP
import Derived.Test.YtfdkhkajehopkaaMb0
import Derived.Test.YtfdkhkajehopkaaMb2
import Derived.Test.YtfdkhkajehopkaaMbG2
import Derived.Test.YtfdkhkajehopkaaMbG3
import Derived.Test.YtfdkhkajehopkaaMbRefReduce
import Derived.Test.YtfdkhkajehopkaaMbR1
namespace Go.Proofs.Ytfdkhkajehopkaa.Mb
open Go.RowKit Go.Proofs.YtfdkhkajehopkaaW.PrintWords Go.Proofs.YtfdkhkajehopkaaW.PrintLast Go.Proofs.YtfdkhkajehopkaaW.PrintMore
open Go.Proofs.Ytfdkhkajehopkaa.Num Go.Proofs.Ytfdkhkajehopkaa.Arith
set_option linter.unusedVariables false
section
variable {p n : Nat} {R : List (List Nat)} {lead : List Nat}
/-- How far the pivots are below a column. -/
structure Ptr (lead : List Nat) (k at_ : Nat) : Prop where
 le : at_ ≤ lead.length
 low : ∀ i, i < at_ → lead.getD i 0 < k
 high : ∀ i, at_ ≤ i → i < lead.length → k ≤ lead.getD i 0
theorem Ptr.start (lead : List Nat) : Ptr lead 0 0 := ⟨Nat.zero_le _, (fun _ h => by omega), (fun _ _ _ => Nat.zero_le _)⟩
end
end Go.Proofs.Ytfdkhkajehopkaa.Mb
