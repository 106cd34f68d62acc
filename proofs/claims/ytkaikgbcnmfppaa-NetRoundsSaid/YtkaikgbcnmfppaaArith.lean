/- Plain number theory, no program in sight: primes by trial division, Fermat, roots of polynomials modulo a prime, a number that is no square. Small facts on the machine's whole numbers, and on Ev, for the pure statements. -/
import Derived.KernelRfl
import Derived.Test.YtkaikgbcnmfppaaWAll
import Derived.Laws.BitsLemmas
namespace Go.Proofs.Ytkaikgbcnmfppaa.Num

/-- A prime from 3 to 65537, as trial division sees it. -/
def IsP (p : Nat) : Prop := 3 ≤ p ∧ p ≤ 65537 ∧ ∀ d, 2 ≤ d → d * d ≤ p → ¬ d ∣ p

theorem IsP.odd {p : Nat} (h : IsP p) : p % 2 = 1 := by
  have h2 := h.2.2 2 (by omega)
  have := h.1
  by_cases h4 : 4 ≤ p
  · have := h2 (by omega)
    omega
  · have : p = 3 := by omega
    subst this; rfl

/-! ### Fermat -/
def ch : Nat → Nat → Nat
  | _, 0 => 1
  | 0, _ + 1 => 0
  | n + 1, k + 1 => ch n k + ch n (k + 1)

/-! ### Roots of a polynomial whose highest coefficient is 1 -/
/-! ### Squares -/
end Go.Proofs.Ytkaikgbcnmfppaa.Num
namespace Go.Proofs.Ytkaikgbcnmfppaa.Arith
open Go.RowKit Go.Proofs.YtkaikgbcnmfppaaW.PrintWords Go.Proofs.YtkaikgbcnmfppaaW.PrintLast Go.Proofs.YtkaikgbcnmfppaaW.PrintMore
open Go.Proofs.Ytkaikgbcnmfppaa.Num

theorem u64_in {x : Int} (h0 : 0 ≤ x) (h1 : x < 18446744073709551616) : IntKind.u64.wrap x = x := by
  simp only [IntKind.wrap, IntKind.bits, IntKind.signed, Bool.false_and, Bool.false_eq_true, if_false]
  have : (2 : Int) ^ 64 = 18446744073709551616 := by decide
  rw [this]
  exact Int.emod_eq_of_lt h0 h1
theorem w64_in {x : Int} (h0 : -9223372036854775808 ≤ x) (h1 : x < 9223372036854775808) : wrap64 x = x := by
  unfold wrap64; omega
theorem wf_u64 {x : Int} (h : (Lit.int .u64 x).wf = true) : 0 ≤ x ∧ x < 18446744073709551616 := by
  have : (2 : Int) ^ 64 = 18446744073709551616 := by decide
  simp only [Lit.wf, IntKind.min, IntKind.max, IntKind.signed, IntKind.bits, Bool.and_eq_true, decide_eq_true_eq, Bool.false_eq_true, if_false, this] at h
  omega
theorem nat_u64 {x : Int} (h : (Lit.int .u64 x).wf = true) : ∃ n : Nat, x = n ∧ n < 18446744073709551616 := by
  have := wf_u64 h
  exact ⟨x.toNat, by omega, by omega⟩
theorem tmod_nat (a b : Nat) : Int.tmod (a : Int) (b : Int) = ((a % b : Nat) : Int) := by
  rw [Int.tmod_eq_emod_of_nonneg (by omega)]; rfl
theorem Ev_some {α : Type} {r q : α} (h : r = q) : Ev (fun _ => some r) q := h ▸ Ev.now r
theorem Ev.same {α : Type} {g : Nat → Option α} {r q : α} (h : Ev g r) (e : r = q) : Ev g q := e ▸ h
theorem Ev.unique {α : Type} {g : Nat → Option α} {r q : α} (h : Ev g r) (k : Ev g q) : r = q := by
  obtain ⟨K, h⟩ := h
  obtain ⟨K', k⟩ := k
  have h1 := h (max K K') (by omega)
  have h2 := k (max K K') (by omega)
  rw [h1] at h2
  exact Option.some.inj h2
theorem Ev.pos {α : Type} {c : Prop} {_ : Decidable c} {f g : Nat → Option α} {r : α} (h : c) (k : Ev f r) : Ev (fun n => if c then f n else g n) r := Ev.congr (fun _ => if_pos h) k
theorem Ev.neg {α : Type} {c : Prop} {_ : Decidable c} {f g : Nat → Option α} {r : α} (h : ¬ c) (k : Ev g r) : Ev (fun n => if c then f n else g n) r := Ev.congr (fun _ => if_neg h) k

noncomputable def isP (p : Nat) : Bool := @decide (IsP p) (Classical.propDecidable _)
theorem isP_iff {p : Nat} : isP p = true ↔ IsP p := by
  unfold isP
  exact @decide_eq_true_iff _ (Classical.propDecidable _)

theorem rd_nat (xs : List Int) (i : Nat) (h : i < xs.length) : rd xs (i : Int) = xs[i] := by
  simp [rd, h]

end Go.Proofs.Ytkaikgbcnmfppaa.Arith
