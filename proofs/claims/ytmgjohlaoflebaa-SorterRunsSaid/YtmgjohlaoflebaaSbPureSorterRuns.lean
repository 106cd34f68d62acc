/- SorterRuns: the plain law. -/
import Derived.Test.YtmgjohlaoflebaaSbTie2
import Derived.Test.YtmgjohlaoflebaaSbLSorterRuns
namespace Go.Proofs.Ytmgjohlaoflebaa.Sb
open Go.RowKit Go.Proofs.YtmgjohlaoflebaaW.PrintWords Go.Proofs.YtmgjohlaoflebaaW.PrintMore Go.Proofs.Ytmgjohlaoflebaa.Arith
theorem Pure_SorterRuns (net : List S53) (l : List Int) (hm : net.length ≤ maxLen) (_ : ∀ p ∈ net, (Lit.int .i64 p.f0).wf = true ∧ (Lit.int .i64 p.f1).wf = true) (y : l.length * 8 ≤ 140737488351232) (_ : ∀ n ∈ l, (Lit.int .u64 n).wf = true) :
    ∃ k, juntolaw14_SorterRuns.f k net l = some true := by
  refine Ev.rounds (g := fun k => juntolaw14_SorterRuns.f k net l) ?_
  unfold juntolaw14_SorterRuns.f
  by_cases h : checkW (l.length : Int) net = 0
  · have hn := (check_zero h).2.1
    have h1 : (net.foldl stepR (l, iota l.length)) = ((net.foldl stepI (items l)).map (·.f0), (net.foldl stepI (items l)).map (·.f1)) := by
      rw [← fold_same, items0, items1]
    have hlen : (net.foldl stepI (items l)).length ≤ 32 := by rw [foldI_length]; simp [items]; omega
    refine (Run_ok h).bind ((Moves_ok h).bind ((refCheck_ev _ _ hm).bind (Ev.pos h ((refRun_ok h).bind (Ev.pos rfl ?_)))))
    rw [h1]
    exact (Same_ev _ (by simp; omega)).bind (Ev.pos rfl (Ev.pos rfl ((ints_ev _ (by simp; omega)).bind (Ev.pos rfl (alive_ev.bind (Ev.now _))))))
  · refine (Run_bad h).bind ((Moves_bad h).bind ((refCheck_ev _ _ hm).bind (Ev.neg h ?_)))
    exact Ev.pos (by simp) (Ev.pos rfl (Ev.pos (by simp) (Ev.pos rfl (alive_ev.bind (Ev.now _)))))
end Go.Proofs.Ytmgjohlaoflebaa.Sb
