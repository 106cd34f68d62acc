/- MatrixChecks, in plain lists: both checks tell the same. -/
import Derived.Test.YtfdkhkajehopkaaMbTieM
import Derived.Test.YtfdkhkajehopkaaMbLMatrixChecks
namespace Go.Proofs.Ytfdkhkajehopkaa.Mb
open Go.RowKit Go.Proofs.YtfdkhkajehopkaaW.PrintWords Go.Proofs.Ytfdkhkajehopkaa.Num Go.Proofs.Ytfdkhkajehopkaa.Arith
theorem Pure_MatrixChecks : ∀ (a0 : Int) (l1 : List (List Int)), (Lit.int .u64 a0).wf = true → WfRows l1 → ∃ k, juntolaw03_MatrixChecks.f k a0 l1 = some true := by
  intro a0 l1 w0 w1
  obtain ⟨p, rfl, hp⟩ := nat_u64 w0
  obtain ⟨m, rfl⟩ := mats l1 w1
  refine Ev.rounds (g := fun k => juntolaw03_MatrixChecks.f k (p : Int) (cM m)) ?_
  unfold juntolaw03_MatrixChecks.f
  exact (matrix_Check_ev p m).bind ((ref_Check1_ev p m).bind (Ev.pos rfl (alive_ev.bind (Ev.now _))))
end Go.Proofs.Ytfdkhkajehopkaa.Mb
