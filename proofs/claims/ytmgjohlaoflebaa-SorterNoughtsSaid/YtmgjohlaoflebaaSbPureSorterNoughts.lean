/- SorterNoughts: the plain law. -/
import Derived.Test.YtmgjohlaoflebaaSbTie5
import Derived.Test.YtmgjohlaoflebaaSbLSorterNoughts
namespace Go.Proofs.Ytmgjohlaoflebaa.Sb
open Go.RowKit Go.Proofs.YtmgjohlaoflebaaW.PrintWords Go.Proofs.YtmgjohlaoflebaaW.PrintMore Go.Proofs.Ytmgjohlaoflebaa.Arith
set_option linter.unusedVariables false
theorem Pure_SorterNoughts (net : List S53) (l : List Int) (hm : net.length ≤ maxLen) (_ : ∀ p ∈ net, (Lit.int .i64 p.f0).wf = true ∧ (Lit.int .i64 p.f1).wf = true) (y : l.length * 8 ≤ 140737488351232) (_ : ∀ n ∈ l, (Lit.int .u64 n).wf = true) :
    ∃ k, juntolaw14_SorterNoughts.f k net l = some true := by
  refine Ev.rounds (g := fun k => juntolaw14_SorterNoughts.f k net l) ?_
  unfold juntolaw14_SorterNoughts.f
  by_cases h : checkW (l.length : Int) net = 0
  · by_cases h16 : (l.length : Int) > 16
    · exact (Sorts_big h h16).bind (Ev.neg (by decide) (Ev.neg (by decide) (alive_ev.bind (Ev.now _))))
    · obtain ⟨_, _, _, hq⟩ := check_zero h
      have h16' : l.length ≤ 16 := by clear h hq; omega
      refine (Sorts_ok h h16').bind (Ev.pos rfl ((Run_okV h).bind (Ev.pos rfl ?_)))
      by_cases hg : allGood l.length net = true
      · have hs := Sorted_ev l (net.foldl stepV l) (by clear h hq; omega) (zero_one hq (all_good hg) rfl) (foldV_perm net l hq)
        exact Ev.pos hg (hs.bind ((Same_ev _ (by rw [foldV_length]; clear h hq; omega)).bind (Ev.pos rfl (alive_ev.bind (Ev.now _)))))
      · exact Ev.neg hg (alive_ev.bind (Ev.now _))
  · exact (Sorts_bad h).bind (Ev.neg h (Ev.neg (by simp) (alive_ev.bind (Ev.now _))))
end Go.Proofs.Ytmgjohlaoflebaa.Sb
