/- SorterChecks: the plain law. -/
import Derived.Test.YtmgjohlaoflebaaSbTie
import Derived.Test.YtmgjohlaoflebaaSbLSorterChecks
namespace Go.Proofs.Ytmgjohlaoflebaa.Sb
open Go.RowKit Go.Proofs.YtmgjohlaoflebaaW.PrintWords Go.Proofs.YtmgjohlaoflebaaW.PrintMore Go.Proofs.Ytmgjohlaoflebaa.Arith
theorem Pure_SorterChecks (n : Int) (l : List S53) (_ : (Lit.int .i64 n).wf = true) (hm : l.length ≤ maxLen) (_ : ∀ p ∈ l, (Lit.int .i64 p.f0).wf = true ∧ (Lit.int .i64 p.f1).wf = true) :
    ∃ k, juntolaw14_SorterChecks.f k n l = some true := by
  refine Ev.rounds (g := fun k => juntolaw14_SorterChecks.f k n l) ?_
  unfold juntolaw14_SorterChecks.f
  exact Ev.bind0 (sorterCheck_eq n l) ((refCheck_ev n l hm).bind (Ev.pos rfl (alive_ev.bind (Ev.now _))))
end Go.Proofs.Ytmgjohlaoflebaa.Sb
