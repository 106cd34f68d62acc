/- NetGroups, in plain lists: both tell the same. -/
import Derived.Test.YtkaikgbcnmfppaaNbPureNetReads
import Derived.Test.YtkaikgbcnmfppaaNbOpen
import Derived.Test.YtkaikgbcnmfppaaNbLNetGroups
namespace Go.Proofs.Ytkaikgbcnmfppaa.Nb
open Go Go.RowKit Go.Proofs.YtkaikgbcnmfppaaW.PrintWords Go.Proofs.YtkaikgbcnmfppaaW.PrintLast Go.Proofs.YtkaikgbcnmfppaaW.PrintMore
open Go.Proofs.Ytkaikgbcnmfppaa.Num Go.Proofs.Ytkaikgbcnmfppaa.Arith
set_option linter.unusedVariables false
theorem parties_l0 (P N T : Int) (l : List Int) (hl : l.length < 4611686018427387904) : ∀ (d i : Nat) (x : Int), i + d = l.length → ∀ k, d < k → net_Parties.l0 k x l (l.length : Int) (i : Int) P N T = some (risesB N x (l.drop i))
  | 0, i, x, hi, k, hk => by
    obtain ⟨k, rfl⟩ : ∃ m, k = m + 1 := ⟨k - 1, by omega⟩
    unfold net_Parties.l0
    rw [if_neg (by omega), List.drop_eq_nil_of_le (by omega)]
    rfl
  | d + 1, i, x, hi, k, hk => by
    obtain ⟨k, rfl⟩ : ∃ m, k = m + 1 := ⟨k - 1, by omega⟩
    have hil : i < l.length := by omega
    have ih := fun y => parties_l0 P N T l hl d (i + 1) y (by omega) k (by omega)
    unfold net_Parties.l0
    rw [if_pos (by omega), if_pos (by omega), if_pos (by omega), rd_nat _ _ hil, List.drop_eq_getElem_cons hil, rises_cons]
    by_cases h1 : l[i] ≤ x
    · rw [if_pos h1, decide_eq_false (p := x < l[i]) (by omega)]
      rfl
    by_cases h2 : l[i] > N
    · rw [if_neg h1, if_pos h2, decide_eq_false (p := l[i] ≤ N) (by omega), Bool.and_false]
      rfl
    · rw [if_neg h1, if_neg h2, w64_in (by omega) (by omega)]
      have h3 := ih l[i]
      rw [show ((i : Int) + 1) = ((i + 1 : Nat) : Int) from by omega, h3, decide_eq_true (p := x < l[i]) (by omega), decide_eq_true (p := l[i] ≤ N) (by omega)]
      rfl
theorem parties_ev (P N T : Int) (l : List Int) (hl : l.length < 4611686018427387904) : Ev (fun k => net_Parties.f k P N T l) (risesB N 0 l) := by
  unfold net_Parties.f
  exact ⟨l.length + 1, fun k hk => by have h := parties_l0 P N T l hl l.length 0 0 (by omega) k (by omega); rw [List.drop_zero] at h; exact h⟩
noncomputable def groupV (p : Nat) (N T : Int) (l : List Int) : Int := if setupV p N T = 0 then (if risesB N 0 l = true then (if (l.length : Int) < wrap64 (wrap64 (4 * T) + 1) then 2 else 0) else 2) else setupV p N T
theorem net_Group_ev (p : Nat) (N T : Int) (l : List Int) (hl : l.length < 4611686018427387904) : Ev (fun k => net_Group.f k (p : Int) N T l) (groupV p N T l) := by
  unfold net_Group.f groupV
  refine Ev.bind (share_Setup_ev p N T) ?_
  by_cases h : setupV p N T = 0
  · refine Ev.pos h (Ev.bind (parties_ev _ N T l hl) ?_)
    rw [if_pos h]
    by_cases h2 : risesB N 0 l = true
    · refine Ev.pos h2 ?_
      rw [if_pos h2]
      by_cases h3 : (l.length : Int) < wrap64 (wrap64 (4 * T) + 1)
      · exact Ev.pos h3 (Ev_some (by rw [if_pos h3]))
      · exact Ev.neg h3 (Ev_some (by rw [if_neg h3]))
    · exact Ev.neg h2 (Ev_some (by rw [if_neg h2]))
  · exact Ev.neg h (Ev_some (by rw [if_neg h]))
theorem ref_Group_ev (p : Nat) (N T : Int) (l : List Int) (hl : l.length < 4611686018427387904) : Ev (fun k => juntoref17_Group.f k (p : Int) N T l) (groupV p N T l) := by
  unfold juntoref17_Group.f groupV
  refine Ev.bind (ref_Setup_ev p N T) ?_
  by_cases h : setupV p N T = 0
  · refine Ev.pos h (Ev.bind (rising_ev N l hl) ?_)
    rw [if_pos h]
    by_cases h2 : risesB N 0 l = true
    · refine Ev.pos h2 ?_
      rw [if_pos h2]
      by_cases h3 : (l.length : Int) < wrap64 (wrap64 (4 * T) + 1)
      · exact Ev.pos h3 (Ev_some (by rw [if_pos h3]))
      · exact Ev.neg h3 (Ev_some (by rw [if_neg h3]))
    · exact Ev.neg h2 (Ev_some (by rw [if_neg h2]))
  · exact Ev.neg h (Ev_some (by rw [if_neg h]))
theorem Pure_NetGroups (x : S24) (l : List Int) (wf : Wf24 x) (wl : WfI l) : ∃ k, juntolaw17_NetGroups.f k x.f0 x.f1 x.f2 l = some true := by
  obtain ⟨p, hp, _⟩ := nat_u64 wf.1
  rw [hp]
  have hl : l.length < 4611686018427387904 := by have := wl.2.1; omega
  refine Ev.rounds (g := fun k => juntolaw17_NetGroups.f k (p : Int) x.f1 x.f2 l) ?_
  unfold juntolaw17_NetGroups.f
  exact (net_Group_ev p _ _ _ hl).bind ((ref_Group_ev p _ _ _ hl).bind (Ev.pos rfl (alive_ev.bind (Ev.now _))))
end Go.Proofs.Ytkaikgbcnmfppaa.Nb
