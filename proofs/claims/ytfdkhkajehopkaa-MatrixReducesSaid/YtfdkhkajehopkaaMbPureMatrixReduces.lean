/- MatrixReduces, in plain lists. -/
import Derived.Test.YtfdkhkajehopkaaMbTieB
import Derived.Test.YtfdkhkajehopkaaMbTieL
import Derived.Test.YtfdkhkajehopkaaMbLMatrixReduces
namespace Go.Proofs.Ytfdkhkajehopkaa.Mb
open Go.RowKit Go.Proofs.YtfdkhkajehopkaaW.PrintWords Go.Proofs.Ytfdkhkajehopkaa.Num Go.Proofs.Ytfdkhkajehopkaa.Arith
theorem Pure_MatrixReduces : ∀ (a0 : Int) (l1 : List (List Int)), (Lit.int .u64 a0).wf = true → WfRows l1 → ∃ k, juntolaw03_MatrixReduces.f k a0 l1 = some true := by
  intro a0 l1 w0 w1
  obtain ⟨p, rfl, hp⟩ := nat_u64 w0
  obtain ⟨m, rfl⟩ := mats l1 w1
  refine Ev.rounds (g := fun k => juntolaw03_MatrixReduces.f k (p : Int) (cM m)) ?_
  unfold juntolaw03_MatrixReduces.f matrix_Rank.f
  refine (matrix_Reduce_ev p m).bind (Ev.bind ((matrix_Reduce_ev p m).bind (Ev.now _)) ((ref_Check1_ev p m).bind ?_))
  unfold reduceR
  by_cases hc : chkM p m = 0
  · have G := chkM_zero hc
    rw [if_pos hc]
    refine Ev.pos hc (Ev.pos (by rw [cM_len]; have := G.one; omega) ?_)
    rw [cM_row0, cast_len]
    refine (refReduce_ev G.prime G.mat G.one (by have := G.rows; omega) (by have := G.cols; omega) (row0 m).length (Nat.le_refl _)).bind ?_
    have hR := redN_ok G.p0 (row0 m).length 0 m 1 [] (start_ok G.mat (by have := G.prime.1; omega))
    have := G.rows
    have := G.cols
    refine (is_ok _ _ rfl (by rw [cM_len, hR.len]; omega) (fun r hr => ?_)).bind (Ev.pos rfl ((ints_ev _ (by rw [cast_len]; have := hR.few; omega)).bind (Ev.pos rfl (Ev.pos rfl (Ev.now _)))))
    obtain ⟨r', hr', rfl⟩ := List.mem_map.1 hr
    rw [cast_len, hR.mat.wide r' hr']
    omega
  · rw [if_neg hc]
    exact Ev.neg hc ((is_bad _ _ _ hc rfl).bind (Ev.pos rfl (Ev.pos rfl (Ev.pos rfl (Ev.pos rfl (alive_ev.bind (Ev.now _)))))))
end Go.Proofs.Ytfdkhkajehopkaa.Mb
