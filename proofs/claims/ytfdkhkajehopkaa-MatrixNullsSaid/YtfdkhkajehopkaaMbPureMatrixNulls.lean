/- MatrixNulls, in plain lists. -/
import Derived.Test.YtfdkhkajehopkaaMbTieN
import Derived.Test.YtfdkhkajehopkaaMbTieL
import Derived.Test.YtfdkhkajehopkaaMbLMatrixNulls
namespace Go.Proofs.Ytfdkhkajehopkaa.Mb
open Go.RowKit Go.Proofs.YtfdkhkajehopkaaW.PrintWords Go.Proofs.Ytfdkhkajehopkaa.Num Go.Proofs.Ytfdkhkajehopkaa.Arith
theorem nullM_wide (p n : Nat) (R : List (List Nat)) (lead : List Nat) : ∀ r ∈ nullM p n R lead, r.length = n := by
  intro r hr
  obtain ⟨c, _, rfl⟩ := List.mem_map.1 hr
  exact nullVec_len p n R lead c
theorem Pure_MatrixNulls : ∀ (a0 : Int) (l1 : List (List Int)), (Lit.int .u64 a0).wf = true → WfRows l1 → ∃ k, juntolaw03_MatrixNulls.f k a0 l1 = some true := by
  intro a0 l1 w0 w1
  obtain ⟨p, rfl, hp⟩ := nat_u64 w0
  obtain ⟨m, rfl⟩ := mats l1 w1
  refine Ev.rounds (g := fun k => juntolaw03_MatrixNulls.f k (p : Int) (cM m)) ?_
  unfold juntolaw03_MatrixNulls.f
  refine (matrix_Null_ev p m).bind ((ref_Check1_ev p m).bind ?_)
  by_cases hc : chkM p m = 0
  · have G := chkM_zero hc
    rw [if_pos hc]
    refine Ev.pos hc ((refNull_ev G).bind ?_)
    have hfl := freeN_len (row0 m).length (leadN p (row0 m).length m)
    have := G.cols
    refine (is_ok _ _ rfl (by rw [cM_len, nullM, List.length_map]; omega) (fun r hr => ?_)).bind (Ev.pos rfl (alive_ev.bind (Ev.now _)))
    obtain ⟨r', hr', rfl⟩ := List.mem_map.1 hr
    rw [cast_len, nullM_wide p _ _ _ r' hr']
    omega
  · rw [if_neg hc]
    exact Ev.neg hc ((is_bad _ _ _ hc rfl).bind (Ev.pos rfl (alive_ev.bind (Ev.now _))))
end Go.Proofs.Ytfdkhkajehopkaa.Mb
