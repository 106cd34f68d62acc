/- SorterRounds: the plain law. -/
import Derived.Test.YtmgjohlaoflebaaSbTie4
import Derived.Test.YtmgjohlaoflebaaSbLSorterRounds
namespace Go.Proofs.Ytmgjohlaoflebaa.Sb
open Go.RowKit Go.Proofs.YtmgjohlaoflebaaW.PrintWords Go.Proofs.YtmgjohlaoflebaaW.PrintMore Go.Proofs.Ytmgjohlaoflebaa.Arith
theorem lawRounds_l0 (l : List (List S53)) (hm : l.length ≤ 4096) (hr : ∀ r ∈ l, r.length ≤ 4096) : ∀ (d i : Nat), l.length - i = d → i ≤ l.length → Ev (fun k => juntolaw14_SorterRounds.l0 k l l (l.length : Int) (i : Int)) true := by
  intro d
  induction d with
  | zero =>
    intro i hd hi
    obtain rfl : i = l.length := by omega
    refine Ev.step (fun k => by simp only [juntolaw14_SorterRounds.l0]; rfl) ?_
    exact Ev.neg (by omega) (alive_ev.bind (Ev.now _))
  | succ d ih =>
    intro i hd hi
    have hlt : i < l.length := by omega
    have key := ih (i + 1) (by omega) (by omega)
    have w : wrap64 ((i : Int) + 1) = ((i + 1 : Nat) : Int) := by rw [w64_in (by omega) (by omega)]; rfl
    refine Ev.step (fun k => by simp only [juntolaw14_SorterRounds.l0]; rfl) ?_
    rw [w, rd_L2_eq hlt]
    have hp := pairs_ev l[i] (Nat.le_trans (hr _ (List.getElem_mem hlt)) (by decide))
    exact Ev.pos (Int.ofNat_lt.2 hlt) (Ev.pos (Int.natCast_nonneg i) (Ev.pos (Int.ofNat_lt.2 hlt) (Ev.pos (Int.ofNat_lt.2 hlt) (hp.bind (Ev.pos rfl key)))))
theorem Pure_SorterRounds (n : Int) (net : List S53) (_ : (Lit.int .i64 n).wf = true) (hm : net.length ≤ maxLen) (_ : ∀ p ∈ net, (Lit.int .i64 p.f0).wf = true ∧ (Lit.int .i64 p.f1).wf = true) :
    ∃ k, juntolaw14_SorterRounds.f k n net = some true := by
  refine Ev.rounds (g := fun k => juntolaw14_SorterRounds.f k n net) ?_
  unfold juntolaw14_SorterRounds.f
  by_cases h : checkW n net = 0
  · have hn := (check_zero h).1
    obtain ⟨m, rfl⟩ := Int.eq_ofNat_of_zero_le hn
    have hb := inv_rounds (check_zero h).2.2.2
    have hl := (check_zero h).2.2.1
    refine (Rounds_ok h).bind ((refCheck_ev _ _ hm).bind (Ev.pos h ((refRounds_ok h).bind (Ev.pos rfl ?_))))
    refine Ev.step (fun k => by simp only [juntolaw14_SorterRounds.j0]; rfl) ?_
    exact Ev.neg (by simp) (lawRounds_l0 _ (Nat.le_trans hb.1 hl) (fun r hr => Nat.le_trans (hb.2 r hr) hl) _ 0 rfl (Nat.zero_le _))
  · exact (Rounds_bad h).bind ((refCheck_ev _ _ hm).bind (Ev.neg h (Ev.pos rfl (Ev.pos rfl (alive_ev.bind (Ev.now _))))))
end Go.Proofs.Ytmgjohlaoflebaa.Sb
