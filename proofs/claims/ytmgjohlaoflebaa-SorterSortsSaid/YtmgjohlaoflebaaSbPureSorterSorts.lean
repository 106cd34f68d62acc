/- SorterSorts: the plain law. -/
import Derived.Test.YtmgjohlaoflebaaSbTie3
import Derived.Test.YtmgjohlaoflebaaSbLSorterSorts
namespace Go.Proofs.Ytmgjohlaoflebaa.Sb
open Go.RowKit Go.Proofs.YtmgjohlaoflebaaW.PrintWords Go.Proofs.YtmgjohlaoflebaaW.PrintMore Go.Proofs.Ytmgjohlaoflebaa.Arith
theorem Pure_SorterSorts (n : Int) (net : List S53) (_ : (Lit.int .i64 n).wf = true) (hm : net.length ≤ maxLen) (_ : ∀ p ∈ net, (Lit.int .i64 p.f0).wf = true ∧ (Lit.int .i64 p.f1).wf = true) :
    ∃ k, juntolaw14_SorterSorts.f k n net = some true := by
  refine Ev.rounds (g := fun k => juntolaw14_SorterSorts.f k n net) ?_
  unfold juntolaw14_SorterSorts.f
  have fin : ∀ {e t : Int}, e = t → t ≠ 0 → Ev (fun k => juntolaw14_SorterSorts.j1 k n net false e t) true := by
    intro e t he ht
    refine Ev.step (fun k => by simp only [juntolaw14_SorterSorts.j1]; rfl) ?_
    exact Ev.neg ht (Ev.neg (by simp) (Ev.pos he (alive_ev.bind (Ev.now _))))
  by_cases h : checkW n net = 0
  · by_cases h16 : n > 16
    · refine (Sorts_big h h16).bind ((refCheck_ev _ _ hm).bind (Ev.pos h ?_))
      refine Ev.step (fun k => by simp only [juntolaw14_SorterSorts.j0]; rfl) ?_
      exact Ev.pos (decide_eq_true h16) (fin rfl (by decide))
    · have hn := (check_zero h).1
      obtain ⟨m, rfl⟩ := Int.eq_ofNat_of_zero_le hn
      refine (Sorts_ok h (by omega)).bind ((refCheck_ev _ _ hm).bind (Ev.pos h ?_))
      refine Ev.step (fun k => by simp only [juntolaw14_SorterSorts.j0]; rfl) ?_
      refine Ev.neg (by simpa using h16) ?_
      refine Ev.step (fun k => by simp only [juntolaw14_SorterSorts.j1]; rfl) ?_
      exact Ev.pos h (Ev.pos (by first | trivial | rfl) ((refSorts_ok h (by omega)).bind (Ev.pos (by simp) (alive_ev.bind (Ev.now _)))))
  · refine (Sorts_bad h).bind ((refCheck_ev _ _ hm).bind (Ev.neg h ?_))
    refine Ev.step (fun k => by simp only [juntolaw14_SorterSorts.j0]; rfl) ?_
    exact Ev.neg (by simp) (fin rfl h)
end Go.Proofs.Ytmgjohlaoflebaa.Sb
