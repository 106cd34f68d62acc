/- MatrixApplies, in plain lists. -/
import Derived.Test.YtfdkhkajehopkaaMbTieA
import Derived.Test.YtfdkhkajehopkaaMbTieL
import Derived.Test.YtfdkhkajehopkaaMbLMatrixApplies
namespace Go.Proofs.Ytfdkhkajehopkaa.Mb
open Go.RowKit Go.Proofs.YtfdkhkajehopkaaW.PrintWords Go.Proofs.Ytfdkhkajehopkaa.Num Go.Proofs.Ytfdkhkajehopkaa.Arith
theorem applies_j1_bad (p : Nat) (m : List (List Nat)) (v : List Nat) (e bad : Int) (h : bad ≠ 0) (he : e = bad) : Ev (fun k => juntolaw03_MatrixApplies.j1 k (p : Int) (cM m) (Arith.cast v) [] e bad) true :=
  Ev.step (fun k => juntolaw03_MatrixApplies.j1.eq_2 _ _ _ _ _ _ k) (Ev.neg h ((list_bad [] e bad h he).bind (Ev.pos rfl (alive_ev.bind (Ev.now _)))))
theorem Pure_MatrixApplies : ∀ (a0 : Int) (l1 : List (List Int)) (l2 : List Int), (Lit.int .u64 a0).wf = true → WfRows l1 → l2.length * 8 ≤ 140737488351232 → (∀ x ∈ l2, (Lit.int .u64 x).wf = true) → ∃ k, juntolaw03_MatrixApplies.f k a0 l1 l2 = some true := by
  intro a0 l1 l2 w0 w1 h2 w2
  obtain ⟨p, rfl, hp⟩ := nat_u64 w0
  obtain ⟨m, rfl⟩ := mats l1 w1
  obtain ⟨v, rfl, hv⟩ := nats l2 w2
  have hvl : v.length < 9223372036854775807 := by simp at h2; omega
  refine Ev.rounds (g := fun k => juntolaw03_MatrixApplies.f k (p : Int) (cM m) (Arith.cast v)) ?_
  unfold juntolaw03_MatrixApplies.f
  refine (matrix_Apply_ev p m v hvl).bind ((ref_Check1_ev p m).bind ?_)
  unfold applyR
  by_cases hc : chkM p m = 0
  · have G := chkM_zero hc
    rw [if_pos hc]
    refine Ev.pos hc (Ev.pos (by rw [cM_len]; have := G.one; omega) ?_)
    rw [cM_row0, cast_len, cast_len, hc]
    by_cases h1 : v.length = (row0 m).length
    · rw [if_pos h1]
      refine Ev.pos (by omega) ((within_ev p v hvl).bind ?_)
      by_cases h3 : below p v = 0
      · rw [if_pos h3, h3]
        refine Ev.step (fun k => juntolaw03_MatrixApplies.j0.eq_2 _ _ _ _ _ _ _ k) (Ev.neg (by decide) ?_)
        refine Ev.step (fun k => juntolaw03_MatrixApplies.j1.eq_2 _ _ _ _ _ _ k) (Ev.pos rfl ?_)
        refine (refApply_ev G v h1 (below_zero.1 h3)).bind ((list_ok _ _ rfl ?_).bind (Ev.now _))
        rw [cast_len, applyN_len]
        have := G.rows
        omega
      · rw [if_neg h3]
        refine Ev.step (fun k => juntolaw03_MatrixApplies.j0.eq_2 _ _ _ _ _ _ _ k) (Ev.pos (by simpa using h3) ?_)
        exact applies_j1_bad p m v 2 2 (by decide) rfl
    · rw [if_neg h1]
      refine Ev.neg (by omega) ?_
      refine Ev.step (fun k => juntolaw03_MatrixApplies.j0.eq_2 _ _ _ _ _ _ _ k) (Ev.pos rfl ?_)
      exact applies_j1_bad p m v 2 2 (by decide) rfl
  · rw [if_neg hc]
    refine Ev.neg hc (Ev.step (fun k => juntolaw03_MatrixApplies.j0.eq_2 _ _ _ _ _ _ _ k) (Ev.neg (by decide) ?_))
    exact applies_j1_bad p m v _ _ hc rfl
end Go.Proofs.Ytfdkhkajehopkaa.Mb
