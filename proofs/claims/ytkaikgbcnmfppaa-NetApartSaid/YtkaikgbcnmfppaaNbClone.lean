/- net.Clone hands back what it was given. -/
import Derived.Test.YtkaikgbcnmfppaaNbFNetClone
import Derived.Test.YtkaikgbcnmfppaaNbComes
import Derived.Test.YtkaikgbcnmfppaaArith
namespace Go.Proofs.Ytkaikgbcnmfppaa.Nb
open Go Go.RowKit Go.Proofs.YtkaikgbcnmfppaaW.PrintWords Go.Proofs.YtkaikgbcnmfppaaW.PrintLast Go.Proofs.YtkaikgbcnmfppaaW.PrintMore
open Go.Proofs.Ytkaikgbcnmfppaa.Num Go.Proofs.Ytkaikgbcnmfppaa.Arith
set_option linter.unusedVariables false
set_option linter.unusedSimpArgs false
theorem clone2 (P N T : Int) (co : List Int) (ac : List S72) (ta : List (List Int)) (R : Int) (se : List S77) (hs : ∀ x ∈ se, x.f3.length < 17592186044416) (hl : se.length < 4611686018427387904) : ∀ (d i : Nat), i + d = se.length → ∀ k, d < k → net_Clone.l2 k (se.length : Int) (i : Int) P N T co ac ta R se = some (P, N, T, co, ac, ta, R, se)
 | 0, i, hi, k, hk => by
  obtain ⟨k, rfl⟩ : ∃ m, k = m + 1 := ⟨k - 1, by omega⟩
  unfold net_Clone.l2
  rw [if_neg (by omega)]
 | d + 1, i, hi, k, hk => by
  obtain ⟨k, rfl⟩ : ∃ m, k = m + 1 := ⟨k - 1, by omega⟩
  have hil : i < se.length := by omega
  have ih := clone2 P N T co ac ta R se hs hl d (i + 1) (by omega) k (by omega)
  have hr : rd_T77 se (i : Int) = se[i] := by simp [rd_T77, List.getD_eq_getElem?_getD, hil]
  unfold net_Clone.l2
  rw [if_pos (by omega), if_pos (by omega), if_pos (by omega), hr, cl61 (hs _ (List.getElem_mem hil))]
  simp only [Option.bind_some, Int.toNat_natCast]
  rw [w64_in (by omega) (by omega), show (⟨se[i].f0, se[i].f1, se[i].f2, se[i].f3⟩ : S77) = se[i] from rfl, List.set_getElem_self]
  exact ih
theorem clone1 (P N T : Int) (co : List Int) (ac : List S72) (ta : List (List Int)) (R : Int) (se : List S77) (hs : ∀ x ∈ se, x.f3.length < 17592186044416) (hl : se.length < 2932031007402) (ht : ∀ x ∈ ta, x.length < 17592186044416) (hlt : ta.length < 4611686018427387904) : ∀ (d i : Nat), i + d = ta.length → ∀ k, d + se.length + 1 < k → net_Clone.l1 k (ta.length : Int) (i : Int) P N T co ac ta R se = some (P, N, T, co, ac, ta, R, se)
 | 0, i, hi, k, hk => by
  obtain ⟨k, rfl⟩ : ∃ m, k = m + 1 := ⟨k - 1, by omega⟩
  unfold net_Clone.l1
  rw [if_neg (by omega)]
  unfold api_Sent.f
  simp only [Option.bind_some, List.length_nil, Nat.zero_add, if_pos hl, List.nil_append]
  exact clone2 P N T co ac ta R se hs (by omega) se.length 0 (by omega) k (by omega)
 | d + 1, i, hi, k, hk => by
  obtain ⟨k, rfl⟩ : ∃ m, k = m + 1 := ⟨k - 1, by omega⟩
  have hil : i < ta.length := by omega
  have ih := clone1 P N T co ac ta R se hs hl ht hlt d (i + 1) (by omega) k (by omega)
  have hr : rd_M2 ta (i : Int) = ta[i] := by simp [rd_M2, List.getD_eq_getElem?_getD, hil]
  unfold net_Clone.l1
  rw [if_pos (by omega), if_pos (by omega), if_pos (by omega), hr, cl61 (ht _ (List.getElem_mem hil))]
  simp only [Option.bind_some, Int.toNat_natCast]
  rw [w64_in (by omega) (by omega), List.set_getElem_self]
  exact ih
theorem clone0 (P N T : Int) (co : List Int) (ac : List S72) (ta : List (List Int)) (R : Int) (se : List S77) (hs : ∀ x ∈ se, x.f3.length < 17592186044416) (hl : se.length < 2932031007402) (ht : ∀ x ∈ ta, x.length < 17592186044416) (hlt : ta.length < 5864062014805) (ha : ∀ x ∈ ac, x.f4.length < 17592186044416) (hla : ac.length < 4611686018427387904) : ∀ (d i : Nat), i + d = ac.length → ∀ k, d + ta.length + se.length + 2 < k → net_Clone.l0 k (ac.length : Int) (i : Int) P N T co ac ta R se = some (P, N, T, co, ac, ta, R, se)
 | 0, i, hi, k, hk => by
  obtain ⟨k, rfl⟩ : ∃ m, k = m + 1 := ⟨k - 1, by omega⟩
  unfold net_Clone.l0
  rw [if_neg (by omega)]
  unfold slices_Clone_uint64_uint64_62.f
  simp only [Option.bind_some, List.length_nil, Nat.zero_add, if_pos hlt, List.nil_append]
  exact clone1 P N T co ac ta R se hs hl ht (by omega) ta.length 0 (by omega) k (by omega)
 | d + 1, i, hi, k, hk => by
  obtain ⟨k, rfl⟩ : ∃ m, k = m + 1 := ⟨k - 1, by omega⟩
  have hil : i < ac.length := by omega
  have ih := clone0 P N T co ac ta R se hs hl ht hlt ha hla d (i + 1) (by omega) k (by omega)
  have hr : rd_T72 ac (i : Int) = ac[i] := by simp [rd_T72, List.getD_eq_getElem?_getD, hil]
  unfold net_Clone.l0
  rw [if_pos (by omega), if_pos (by omega), if_pos (by omega), hr, cl61 (ha _ (List.getElem_mem hil))]
  simp only [Option.bind_some, Int.toNat_natCast]
  rw [w64_in (by omega) (by omega), show (⟨ac[i].f0, ac[i].f1, ac[i].f2, ac[i].f3, ac[i].f4⟩ : S72) = ac[i] from rfl, List.set_getElem_self]
  exact ih
/-- What Clone asks of a world: sizes that no memory holds are out. -/
structure Small (co : List Int) (ac : List S72) (ta : List (List Int)) (se : List S77) : Prop where
 hco : co.length < 17592186044416
 hac : ac.length < 2513169434916
 had : ∀ x ∈ ac, x.f4.length < 17592186044416
 hta : ta.length < 5864062014805
 htd : ∀ x ∈ ta, x.length < 17592186044416
 hse : se.length < 2932031007402
 hsd : ∀ x ∈ se, x.f3.length < 17592186044416
theorem net_Clone_ev (P N T : Int) (co : List Int) (ac : List S72) (ta : List (List Int)) (R : Int) (se : List S77) (h : Small co ac ta se) : Ev (fun k => net_Clone.f k P N T co ac ta R se) (P, N, T, co, ac, ta, R, se) := by
 refine ⟨ac.length + ta.length + se.length + 3, fun k hk => ?_⟩
 show net_Clone.f k P N T co ac ta R se = _
 unfold net_Clone.f slices_Clone_int_int.f api_Act.f
 simp only [Option.bind_some, List.length_nil, Nat.zero_add, if_pos h.hco, if_pos h.hac, List.nil_append]
 exact clone0 P N T co ac ta R se h.hsd h.hse h.htd h.hta h.had (by have := h.hac; omega) ac.length 0 (by omega) k (by omega)
end Go.Proofs.Ytkaikgbcnmfppaa.Nb
