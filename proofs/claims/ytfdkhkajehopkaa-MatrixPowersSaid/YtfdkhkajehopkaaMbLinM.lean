/- Determinants of products, inverses, powers of distinct numbers. -/
import Derived.Test.YtfdkhkajehopkaaMbLinR
import Derived.Test.YtfdkhkajehopkaaMbTieB
import Derived.Test.YtfdkhkajehopkaaMb0
import Derived.Test.YtfdkhkajehopkaaMbG2
import Derived.Test.YtfdkhkajehopkaaMbTieA
namespace Go.Proofs.Ytfdkhkajehopkaa.Mb
open Go.Proofs.Ytfdkhkajehopkaa.Num
set_option linter.unusedVariables false
set_option linter.unusedSimpArgs false

/-! ### the determinant answers to row operations -/
/-! ### products -/
def colAt (b : List (List Nat)) (k : Nat) : List Nat := b.map fun r => r.getD k 0
/-! ### the first columns alone -/
/-! ### the inverse -/
/-! ### powers of distinct numbers -/
def powN (p n x : Nat) : List Nat := (List.range n).map fun i => x ^ i % p
def vandN (p n : Nat) (xs : List Nat) : List (List Nat) := xs.map (powN p n)
theorem powN_len (p n x : Nat) : (powN p n x).length = n := by simp [powN]
theorem vandN_mat {p n : Nat} (h0 : 0 < p) (xs : List Nat) : MatP p n (vandN p n xs) := by
 constructor
 ·intro r hr
  obtain ⟨x, _, rfl⟩ := List.mem_map.1 hr
  exact powN_len p n x
 ·intro r hr y hy
  obtain ⟨x, _, rfl⟩ := List.mem_map.1 hr
  obtain ⟨j, _, rfl⟩ := List.mem_map.1 hy
  exact Nat.mod_lt _ h0
theorem vandN_len (p n : Nat) (xs : List Nat) : (vandN p n xs).length = xs.length := by simp [vandN]
end Go.Proofs.Ytfdkhkajehopkaa.Mb
