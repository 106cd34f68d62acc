/- What NetHonest asks of a round, in plain lists. -/
import Derived.Test.YtkaikgbcnmfppaaNbRun
import Derived.Test.YtkaikgbcnmfppaaNbRefAct
import Derived.Test.YtkaikgbcnmfppaaNbNewA
import Derived.Test.YtkaikgbcnmfppaaNbFRef4Rising
import Derived.Test.YtkaikgbcnmfppaaNbAlive
namespace Go.Proofs.Ytkaikgbcnmfppaa.Nb
open Go Go.RowKit Go.Proofs.YtkaikgbcnmfppaaW.PrintWords Go.Proofs.YtkaikgbcnmfppaaW.PrintLast Go.Proofs.YtkaikgbcnmfppaaW.PrintMore
open Go.Proofs.Ytkaikgbcnmfppaa.Num Go.Proofs.Ytkaikgbcnmfppaa.Arith
set_option linter.unusedVariables false
set_option linter.unusedSimpArgs false
noncomputable section
theorem eff_send (l : List S72) (R f t : Int) (d : List Int) : eff (now R l) f t d = sendV l R f t d := by
 unfold eff sendV now
 rw [List.find?_filter]
 have h : (fun a : S72 => decide ((a.f0 == R) = true ∧ (f == a.f1 && t == a.f2) = true)) = fun a => a.f0 == R && a.f1 == f && a.f2 == t := by
  funext a
  rw [Bool.eq_iff_iff]
  simp only [decide_eq_true_eq, Bool.and_eq_true, beq_iff_eq]
  exact ⟨fun ⟨h1, h2, h3⟩ => ⟨⟨h1, h2.symm⟩, h3.symm⟩, fun ⟨⟨h1, h2⟩, h3⟩ => ⟨h1, h2.symm, h3.symm⟩⟩
 rw [h]
 cases List.find? (fun a => a.f0 == R && a.f1 == f && a.f2 == t) l <;> rfl
theorem eff_honest {N : Int} {co : List Int} {la : List S72} (R : Int) {f t : Int} {d : List Int} (h : actsV N co [] la = 0) (hf : f ∉ co) : eff (now R la) f t d = d := by
 unfold eff
 have h1 : (now R la).find? (fun a => f == a.f1 && t == a.f2) = none := by
  rw [List.find?_eq_none]
  intro a ha hq
  simp only [Bool.and_eq_true, beq_iff_eq] at hq
  have := ((actsV_zero la [] h).2.2 a (List.mem_filter.1 ha).1).1
  exact hf (hq.1 ▸ this)
 rw [h1]
/-- What a round without an error tells. -/
structure HF (x : S30) (l1 : List (List (List Int))) (l2 : List (List Int)) (came : List (List (List Int))) (heard : List (List Int)) (n : Nat) : Prop where
 one : 1 ≤ n
 top : n ≤ 1000
 N : x.f0.f1 = (n : Int)
 r0 : 0 ≤ x.f4
 r1 : x.f4 < 1048576
 few : x.f2.length ≤ 65536
 dat : ∀ a ∈ x.f2, a.f4.length ≤ 65536
 len1 : l1.length = n
 len2 : l2.length = n
 rows : ∀ r ∈ l1, r.length = n
 cl : came.length = n
 hl : heard.length = n
 cr : ∀ a, a < n → (came.getD a []).length = n
 he : ∀ b, b < n → heard.getD b [] = sendV x.f2 (x.f4 + 1) ((b : Int) + 1) 0 (l2.getD b [])
 hh : ∀ b, b < n → (b : Int) + 1 ∉ x.f1 → heard.getD b [] = l2.getD b []
 hc : ∀ a b, a < n → b < n → (b : Int) + 1 ∉ x.f1 → (came.getD a []).getD b [] = (l1.getD b []).getD a []
theorem exchV_zero {x : S30} {l1 : List (List (List Int))} {l2 : List (List Int)} {came : List (List (List Int))} {heard : List (List Int)} {x1 : S30} (h : exchV x l1 l2 = (came, heard, x1, 0)) : ∃ n, HF x l1 l2 came heard n := by
 unfold exchV at h
 by_cases hz : chk x ≠ 0
 ·rw [if_pos hz] at h
  simp only [Prod.mk.injEq] at h
  exact absurd h.2.2.2 hz
 rw [if_neg hz] at h
 have hz0 : chk x = 0 := Classical.byContradiction hz
 by_cases hl : (l1.length : Int) ≠ x.f0.f1 ∨ (l2.length : Int) ≠ x.f0.f1 ∨ l1.any (badRow x.f0.f1) = true
 ·rw [if_pos hl] at h
  simp only [Prod.mk.injEq] at h
  exact absurd h.2.2.2 (by decide)
 rw [if_neg hl] at h
 have e1 : (l1.length : Int) = x.f0.f1 := Classical.byContradiction fun q => hl (.inl q)
 have e2 : (l2.length : Int) = x.f0.f1 := Classical.byContradiction fun q => hl (.inr (.inl q))
 have e3 : l1.any (badRow x.f0.f1) = false := by simpa using fun q => hl (.inr (.inr q))
 by_cases hR : x.f4 = 1048576
 ·rw [if_pos hR] at h
  simp only [Prod.mk.injEq] at h
  exact absurd h.2.2.2 (by decide)
 rw [if_neg hR] at h
 simp only [Prod.mk.injEq] at h
 obtain ⟨hca, hhe, _, _⟩ := h
 obtain ⟨z1, z2, z3, z4, z5, z6⟩ := checkV_zero hz0
 have zs := setupV_zero (corrV_zero z1).1
 obtain ⟨n, hn⟩ : ∃ n : Nat, x.f0.f1 = n := ⟨x.f0.f1.toNat, by have := zs.2.1; omega⟩
 rw [hn, Int.toNat_natCast] at hca hhe
 have g := iRun_at (now (x.f4 + 1) x.f2) (x.f4 + 1) n l1 l2 x.f5 n (Nat.le_refl _)
 have g2 := iRun_le (now (x.f4 + 1) x.f2) (x.f4 + 1) n l1 l2 x.f5 n
 rw [hca, hhe] at g
 rw [hca, hhe] at g2
 refine ⟨n, by have := zs.2.1; omega, by have := zs.2.2; omega, hn, z3, by omega, z5, fun a ha => ((actsV_zero x.f2 [] z6).2.2 a ha).2.2.2.2.2, by omega, by omega, fun r hr => ?_, g2.2.1, g2.2.2, g.1, fun b hb => ?_, fun b hb hq => ?_, fun a b ha hb hq => ?_⟩
 ·have h := List.any_eq_false.1 e3 r hr
  simp only [badRow, bne_iff_ne, ne_eq, Decidable.not_not] at h
  omega
 ·rw [g.2.2 b hb, if_pos hb, eff_send]
 ·rw [g.2.2 b hb, if_pos hb, eff_honest _ z6 hq]
 ·have h := g.2.1 a b ha hb
  rw [if_pos hb, eff_honest _ z6 hq] at h
  exact h
theorem HF.small {x : S30} {l1 : List (List (List Int))} {l2 : List (List Int)} {came : List (List (List Int))} {heard : List (List Int)} {n : Nat} (h : HF x l1 l2 came heard n) (hd : ∀ d ∈ l2, d.length < 17592186044416) {b : Nat} (hb : b < n) : (heard.getD b []).length < 9223372036854775807 := by
 have h2 : (l2.getD b []).length < 17592186044416 := hd _ (by rw [List.getD_eq_getElem?_getD, List.getElem?_eq_getElem (by rw [h.len2]; exact hb)]; exact List.getElem_mem _)
 rw [h.he b hb, ← eff_send]
 have h3 := eff_small (B := 17592186044416) (l := now (x.f4 + 1) x.f2) (f := (b : Int) + 1) (t := 0) (d := l2.getD b []) (fun a ha => by have := h.dat a (List.mem_filter.1 ha).1; omega) h2
 omega
end
end Go.Proofs.Ytkaikgbcnmfppaa.Nb
