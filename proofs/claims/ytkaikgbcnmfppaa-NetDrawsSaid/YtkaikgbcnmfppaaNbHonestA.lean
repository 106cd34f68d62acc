/- What NetHonest asks of a round, in plain lists. -/
import Derived.Test.YtkaikgbcnmfppaaNbExchV
import Derived.Test.YtkaikgbcnmfppaaNbSwapA
import Derived.Test.YtkaikgbcnmfppaaNbTie3
import Derived.Test.YtkaikgbcnmfppaaNbFRef4Rising
import Derived.Test.YtkaikgbcnmfppaaNbAlive
namespace Go.Proofs.Ytkaikgbcnmfppaa.Nb
open Go Go.RowKit Go.Proofs.YtkaikgbcnmfppaaW.PrintWords Go.Proofs.YtkaikgbcnmfppaaW.PrintLast Go.Proofs.YtkaikgbcnmfppaaW.PrintMore
open Go.Proofs.Ytkaikgbcnmfppaa.Num Go.Proofs.Ytkaikgbcnmfppaa.Arith
set_option linter.unusedVariables false
set_option linter.unusedSimpArgs false
noncomputable section
theorem eff_send (l : List S72) (R f t : Int) (d : List Int) : eff (now R l) f t d = sendV l R f t d := by
 unfold eff sendV now
 rw [List.find?_filter]
 have h : (fun a : S72 => decide ((a.f0 == R) = true ∧ (f == a.f1 && t == a.f2) = true)) = fun a => a.f0 == R && a.f1 == f && a.f2 == t := by
  funext a
  rw [Bool.eq_iff_iff]
  simp only [decide_eq_true_eq, Bool.and_eq_true, beq_iff_eq]
  exact ⟨fun ⟨h1, h2, h3⟩ => ⟨⟨h1, h2.symm⟩, h3.symm⟩, fun ⟨⟨h1, h2⟩, h3⟩ => ⟨h1, h2.symm, h3.symm⟩⟩
 rw [h]
 cases List.find? (fun a => a.f0 == R && a.f1 == f && a.f2 == t) l <;> rfl
/-- What a round without an error tells. -/
structure HF (x : S30) (l1 : List (List (List Int))) (l2 : List (List Int)) (came : List (List (List Int))) (heard : List (List Int)) (n : Nat) : Prop where
 one : 1 ≤ n
 top : n ≤ 1000
 N : x.f0.f1 = (n : Int)
 r0 : 0 ≤ x.f4
 r1 : x.f4 < 1048576
 few : x.f2.length ≤ 65536
 dat : ∀ a ∈ x.f2, a.f4.length ≤ 65536
 len1 : l1.length = n
 len2 : l2.length = n
 rows : ∀ r ∈ l1, r.length = n
 cl : came.length = n
 hl : heard.length = n
 cr : ∀ a, a < n → (came.getD a []).length = n
 he : ∀ b, b < n → heard.getD b [] = sendV x.f2 (x.f4 + 1) ((b : Int) + 1) 0 (l2.getD b [])
 hh : ∀ b, b < n → (b : Int) + 1 ∉ x.f1 → heard.getD b [] = l2.getD b []
 hc : ∀ a b, a < n → b < n → (b : Int) + 1 ∉ x.f1 → (came.getD a []).getD b [] = (l1.getD b []).getD a []
theorem HF.small {x : S30} {l1 : List (List (List Int))} {l2 : List (List Int)} {came : List (List (List Int))} {heard : List (List Int)} {n : Nat} (h : HF x l1 l2 came heard n) (hd : ∀ d ∈ l2, d.length < 17592186044416) {b : Nat} (hb : b < n) : (heard.getD b []).length < 9223372036854775807 := by
 have h2 : (l2.getD b []).length < 17592186044416 := hd _ (by rw [List.getD_eq_getElem?_getD, List.getElem?_eq_getElem (by rw [h.len2]; exact hb)]; exact List.getElem_mem _)
 rw [h.he b hb, ← eff_send]
 have h3 := eff_small (B := 17592186044416) (l := now (x.f4 + 1) x.f2) (f := (b : Int) + 1) (t := 0) (d := l2.getD b []) (fun a ha => by have := h.dat a (List.mem_filter.1 ha).1; omega) h2
 omega
end
end Go.Proofs.Ytkaikgbcnmfppaa.Nb
