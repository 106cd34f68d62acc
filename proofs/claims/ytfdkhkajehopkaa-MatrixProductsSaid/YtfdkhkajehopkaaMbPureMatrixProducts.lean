/- MatrixProducts, in plain lists. -/
import Derived.Test.YtfdkhkajehopkaaMbTieQ
import Derived.Test.YtfdkhkajehopkaaMbTieL
import Derived.Test.YtfdkhkajehopkaaMbLMatrixProducts
namespace Go.Proofs.Ytfdkhkajehopkaa.Mb
open Go.RowKit Go.Proofs.YtfdkhkajehopkaaW.PrintWords Go.Proofs.Ytfdkhkajehopkaa.Num Go.Proofs.Ytfdkhkajehopkaa.Arith
theorem products_j1_bad (p : Nat) (a b : List (List Nat)) (e bad : Int) (h : bad ≠ 0) (he : e = bad) : Ev (fun k => juntolaw03_MatrixProducts.j1 k (p : Int) (cM a) (cM b) [] e bad) true :=
  Ev.step (fun k => juntolaw03_MatrixProducts.j1.eq_2 _ _ _ _ _ _ k) (Ev.neg h ((is_bad [] e bad h he).bind (Ev.pos rfl (alive_ev.bind (Ev.now _)))))
theorem mat_rows {p w : Nat} {R : List (List Nat)} (h : MatP p w R) (hw : w ≤ 4096) : ∀ r ∈ cM R, r.length < 9223372036854775807 := by
  intro r hr
  obtain ⟨r', hr', rfl⟩ := List.mem_map.1 hr
  rw [cast_len, h.wide r' hr']
  omega
theorem Pure_MatrixProducts : ∀ (a0 : Int) (l1 l2 : List (List Int)), (Lit.int .u64 a0).wf = true → WfRows l1 → WfRows l2 → ∃ k, juntolaw03_MatrixProducts.f k a0 l1 l2 = some true := by
  intro a0 l1 l2 w0 w1 w2
  obtain ⟨p, rfl, hp⟩ := nat_u64 w0
  obtain ⟨a, rfl⟩ := mats l1 w1
  obtain ⟨b, rfl⟩ := mats l2 w2
  refine Ev.rounds (g := fun k => juntolaw03_MatrixProducts.f k (p : Int) (cM a) (cM b)) ?_
  unfold juntolaw03_MatrixProducts.f
  by_cases hc : chkM p a = 0
  · have Ga := chkM_zero hc
    by_cases hc2 : chkM p b = 0
    · have Gb := chkM_zero hc2
      have eC : (if chkM p a = 0 then chkM p b else chkM p a) = 0 := by rw [if_pos hc, hc2]
      by_cases h1 : (row0 a).length = b.length
      · have eR : mulR p a b = (cM (mulN p (row0 b).length a b), 0) := by unfold mulR; rw [if_pos hc, if_pos hc2, if_pos h1]
        refine (Ev.same (matrix_Mul_ev p a b) eR).bind ((Ev.same (ref_Check2_ev p a b) eC).bind (Ev.pos rfl (Ev.pos (by rw [cM_len]; have := Ga.one; omega) ?_)))
        rw [cM_row0, cast_len, cM_len, show (((row0 a).length : Int) != (b.length : Int)) = false from bne_eq_false_iff_eq.mpr (by omega)]
        refine Ev.step (fun k => juntolaw03_MatrixProducts.j0.eq_2 _ _ _ _ _ _ _ k) (Ev.neg (by decide) ?_)
        refine Ev.step (fun k => juntolaw03_MatrixProducts.j1.eq_2 _ _ _ _ _ _ k) (Ev.pos rfl ?_)
        refine (refMul_ev Ga.p0 Ga.prime.2.1 Ga.mat Gb.mat h1.symm Ga.pos (by have := Ga.cols; omega) (by have := Gb.cols; omega) (by have := Ga.rows; omega)).bind ?_
        refine (is_ok _ _ rfl ?_ (mat_rows (mulN_mat Ga.p0 a b) (by have := Gb.cols; omega))).bind (Ev.now _)
        rw [cM_len, mulN_len]
        have := Ga.rows
        omega
      · have eR : mulR p a b = ([], 2) := by unfold mulR; rw [if_pos hc, if_pos hc2, if_neg h1]
        refine (Ev.same (matrix_Mul_ev p a b) eR).bind ((Ev.same (ref_Check2_ev p a b) eC).bind (Ev.pos rfl (Ev.pos (by rw [cM_len]; have := Ga.one; omega) ?_)))
        rw [cM_row0, cast_len, cM_len, show (((row0 a).length : Int) != (b.length : Int)) = true from bne_iff_ne.mpr (by omega)]
        refine Ev.step (fun k => juntolaw03_MatrixProducts.j0.eq_2 _ _ _ _ _ _ _ k) (Ev.pos rfl ?_)
        exact products_j1_bad p a b 2 2 (by decide) rfl
    · have eC : (if chkM p a = 0 then chkM p b else chkM p a) = chkM p b := if_pos hc
      have eR : mulR p a b = ([], chkM p b) := by unfold mulR; rw [if_pos hc, if_neg hc2]
      refine (Ev.same (matrix_Mul_ev p a b) eR).bind ((Ev.same (ref_Check2_ev p a b) eC).bind (Ev.neg hc2 ?_))
      refine Ev.step (fun k => juntolaw03_MatrixProducts.j0.eq_2 _ _ _ _ _ _ _ k) (Ev.neg (by decide) ?_)
      exact products_j1_bad p a b _ _ hc2 rfl
  · have eC : (if chkM p a = 0 then chkM p b else chkM p a) = chkM p a := if_neg hc
    have eR : mulR p a b = ([], chkM p a) := by unfold mulR; rw [if_neg hc]
    refine (Ev.same (matrix_Mul_ev p a b) eR).bind ((Ev.same (ref_Check2_ev p a b) eC).bind (Ev.neg hc ?_))
    refine Ev.step (fun k => juntolaw03_MatrixProducts.j0.eq_2 _ _ _ _ _ _ _ k) (Ev.neg (by decide) ?_)
    exact products_j1_bad p a b _ _ hc rfl
end Go.Proofs.Ytfdkhkajehopkaa.Mb
