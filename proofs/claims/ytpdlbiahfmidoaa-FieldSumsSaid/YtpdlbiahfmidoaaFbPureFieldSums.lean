/- FieldSums, in plain numbers: sum, difference and product are the references'. -/
import Derived.Test.YtpdlbiahfmidoaaFbTie6
import Derived.Test.YtpdlbiahfmidoaaFbLFieldSums
namespace Go.Proofs.Ytpdlbiahfmidoaa.Fb
open Go.RowKit Go.Proofs.YtpdlbiahfmidoaaW.PrintWords Go.Proofs.Ytpdlbiahfmidoaa.Num Go.Proofs.Ytpdlbiahfmidoaa.Arith

theorem Pure_FieldSums : juntolaw01_FieldSums.Pure := by
  intro a0 a1 a2 w0 w1 w2
  obtain ⟨p, rfl, hp⟩ := nat_u64 w0
  obtain ⟨a, rfl, ha⟩ := nat_u64 w1
  obtain ⟨b, rfl, hb⟩ := nat_u64 w2
  refine Ev.rounds (g := fun k => juntolaw01_FieldSums.f k (p : Int) (a : Int) (b : Int)) ?_
  unfold juntolaw01_FieldSums.f
  refine (right_ev p [a, b] (by simp)).bind ((add_ev p a b).bind ((sub_ev p a b).bind ((mul_ev p a b).bind ?_)))
  by_cases h : right p [a, b] = 0
  · have hg := right_zero.1 h
    have h3 := hg.1.1
    have hap := hg.2 a (by simp)
    have hbp := hg.2 b (by simp)
    have hp' := hg.1.2.1
    simp only [h, if_true]
    refine Ev.bind0 (refAdd_tie' (by omega) hp' hap hbp) (Ev.bind0 (is_tie _ _ _ _) (Ev.pos (by simp) (Ev.bind0 (refSub_tie (by omega) hp' hap hbp) (Ev.bind0 (is_tie _ _ _ _) (Ev.pos (by simp) (Ev.bind0 (refMul_tie (by omega) hp' hap hbp) (Ev.bind0 (is_tie _ _ _ _) (Ev_some ?_))))))))
    simp
  · have h2 := (right_two p [a, b]).resolve_left h
    simp only [h2]
    exact Ev.neg (by decide) (Ev.bind0 (is_tie _ _ _ _) (Ev.pos (by simp) (Ev.bind0 (is_tie _ _ _ _) (Ev.pos (by simp) (Ev.bind0 (is_tie _ _ _ _) (Ev.pos (by simp) (alive_ev.bind (Ev.now _))))))))
end Go.Proofs.Ytpdlbiahfmidoaa.Fb
