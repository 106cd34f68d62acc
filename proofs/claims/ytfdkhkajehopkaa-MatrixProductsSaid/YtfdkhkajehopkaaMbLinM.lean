/- Determinants of products, inverses, powers of distinct numbers. -/
import Derived.Test.YtfdkhkajehopkaaMbLinR
import Derived.Test.YtfdkhkajehopkaaMbTieB
import Derived.Test.YtfdkhkajehopkaaMb0
import Derived.Test.YtfdkhkajehopkaaMbG2
import Derived.Test.YtfdkhkajehopkaaMbTieA
namespace Go.Proofs.Ytfdkhkajehopkaa.Mb
open Go.Proofs.Ytfdkhkajehopkaa.Num
set_option linter.unusedVariables false
set_option linter.unusedSimpArgs false

/-! ### the determinant answers to row operations -/
/-! ### products -/
def colAt (b : List (List Nat)) (k : Nat) : List Nat := b.map fun r => r.getD k 0
def rmul (p w : Nat) (b : List (List Nat)) (r : List Nat) : List Nat := (List.range w).map fun k => dot p r (colAt b k)
def mulN (p w : Nat) (a b : List (List Nat)) : List (List Nat) := a.map (rmul p w b)
theorem rmul_len (p w : Nat) (b : List (List Nat)) (r : List Nat) : (rmul p w b r).length = w := by simp [rmul]
theorem rmul_small {p w : Nat} (h0 : 0 < p) (b : List (List Nat)) (r : List Nat) : ∀ x ∈ rmul p w b r, x < p := by
 intro x hx
 obtain ⟨k, _, rfl⟩ := List.mem_map.1 hx
 exact dot_lt h0 _ _
theorem mulN_mat {p w : Nat} (h0 : 0 < p) (a b : List (List Nat)) : MatP p w (mulN p w a b) := by
 constructor
 ·intro r hr
  obtain ⟨x, _, rfl⟩ := List.mem_map.1 hr
  exact rmul_len _ _ _ _
 ·intro r hr
  obtain ⟨x, _, rfl⟩ := List.mem_map.1 hr
  exact rmul_small h0 _ _
theorem mulN_len (p w : Nat) (a b : List (List Nat)) : (mulN p w a b).length = a.length := by simp [mulN]
theorem colAt_len (b : List (List Nat)) (k : Nat) : (colAt b k).length = b.length := by simp [colAt]
/-! ### the first columns alone -/
/-! ### the inverse -/
/-! ### powers of distinct numbers -/
end Go.Proofs.Ytfdkhkajehopkaa.Mb
