/- What products come to, in plain lists. -/
import Derived.Test.YtfdkhkajehopkaaMbTieM
import Derived.Test.YtfdkhkajehopkaaMbTieR
import Derived.Test.YtfdkhkajehopkaaMb0
import Derived.Test.YtfdkhkajehopkaaMb3
import Derived.Test.YtfdkhkajehopkaaMb2
import Derived.Test.YtfdkhkajehopkaaMbG2
import Derived.Test.YtfdkhkajehopkaaMbR1
namespace Go.Proofs.Ytfdkhkajehopkaa.Mb
open Go.RowKit Go.Proofs.YtfdkhkajehopkaaW.PrintWords Go.Proofs.YtfdkhkajehopkaaW.PrintLast Go.Proofs.YtfdkhkajehopkaaW.PrintMore
open Go.Proofs.Ytfdkhkajehopkaa.Num Go.Proofs.Ytfdkhkajehopkaa.Arith
set_option linter.unusedVariables false

def dotS : List Nat → List Nat → Nat
 | x :: xs, y :: ys => x * y + dotS xs ys
 | _, _ => 0
theorem dotS_nil (ys : List Nat) : dotS [] ys = 0 := by cases ys <;> rfl
def dot (p : Nat) (xs ys : List Nat) : Nat := dotS xs ys % p
theorem dot_lt {p : Nat} (h0 : 0 < p) (xs ys : List Nat) : dot p xs ys < p := Nat.mod_lt _ h0
theorem acc_step (p acc a s : Nat) : ((acc + a % p) % p + s) % p = (acc + (a + s)) % p := by
 rw [Nat.mod_add_mod, Nat.add_assoc, Nat.add_comm (a % p) s, ← Nat.add_assoc, Nat.add_mod_mod, Nat.add_assoc, Nat.add_comm s a]
theorem gd {m : List (List Nat)} {i : Nat} (hi : i < m.length) : m.getD i [] = m[i] := by rw [List.getD_eq_getElem?_getD, List.getElem?_eq_getElem hi]; rfl
end Go.Proofs.Ytfdkhkajehopkaa.Mb
