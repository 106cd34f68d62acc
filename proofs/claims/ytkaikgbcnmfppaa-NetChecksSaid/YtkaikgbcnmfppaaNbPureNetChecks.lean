/- NetChecks, in plain lists: both checks tell the same. -/
import Derived.Test.YtkaikgbcnmfppaaNbPureNetReads
import Derived.Test.YtkaikgbcnmfppaaNbOpen
import Derived.Test.YtkaikgbcnmfppaaNbLNetChecks
namespace Go.Proofs.Ytkaikgbcnmfppaa.Nb
open Go Go.RowKit Go.Proofs.YtkaikgbcnmfppaaW.PrintWords Go.Proofs.YtkaikgbcnmfppaaW.PrintLast Go.Proofs.YtkaikgbcnmfppaaW.PrintMore
open Go.Proofs.Ytkaikgbcnmfppaa.Num Go.Proofs.Ytkaikgbcnmfppaa.Arith
set_option linter.unusedVariables false
theorem Pure_NetChecks (x : S30) (wf : Wf30 x) : ∃ k, juntolaw17_NetChecks.f k x.f0.f0 x.f0.f1 x.f0.f2 x.f1 x.f2 x.f3 x.f4 x.f5 = some true := by
  obtain ⟨p, hp, _⟩ := nat_u64 wf.s.1
  rw [hp]
  refine Ev.rounds (g := fun k => juntolaw17_NetChecks.f k (p : Int) x.f0.f1 x.f0.f2 x.f1 x.f2 x.f3 x.f4 x.f5) ?_
  unfold juntolaw17_NetChecks.f
  exact (net_Check_ev p _ _ _ _ _ _ _).bind ((ref_Check_ev p _ _ _ _ _ _ _).bind (Ev.pos rfl (alive_ev.bind (Ev.now _))))
end Go.Proofs.Ytkaikgbcnmfppaa.Nb
