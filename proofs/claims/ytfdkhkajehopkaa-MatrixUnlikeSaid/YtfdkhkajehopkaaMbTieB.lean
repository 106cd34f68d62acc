/- Reduce and Rank and the reference's Reduce, in plain lists. -/
import Derived.Test.YtfdkhkajehopkaaMbRedN
import Derived.Test.YtfdkhkajehopkaaMb0
namespace Go.Proofs.Ytfdkhkajehopkaa.Mb
open Go.RowKit Go.Proofs.YtfdkhkajehopkaaW.PrintWords Go.Proofs.YtfdkhkajehopkaaW.PrintLast Go.Proofs.YtfdkhkajehopkaaW.PrintMore
open Go.Proofs.Ytfdkhkajehopkaa.Num Go.Proofs.Ytfdkhkajehopkaa.Arith
set_option linter.unusedVariables false
theorem gdN {m : List (List Nat)} {i : Nat} (hi : i < m.length) : m.getD i [] = m[i] := by rw [List.getD_eq_getElem?_getD, List.getElem?_eq_getElem hi]; rfl
theorem Good.mat {p n : Nat} {m : List (List Nat)} (G : Good p m n) : MatP p n m := ⟨G.wide, G.small⟩
theorem Good.p0 {p n : Nat} {m : List (List Nat)} (G : Good p m n) : 0 < p := by have := G.prime.1; omega
end Go.Proofs.Ytfdkhkajehopkaa.Mb
