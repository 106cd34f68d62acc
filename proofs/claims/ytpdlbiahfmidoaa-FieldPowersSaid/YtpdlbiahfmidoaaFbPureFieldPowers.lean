/- FieldPowers, in plain numbers: the program's power is the reference's. -/
import Derived.Test.YtpdlbiahfmidoaaFbTie2
import Derived.Test.YtpdlbiahfmidoaaFbLFieldPowers
namespace Go.Proofs.Ytpdlbiahfmidoaa.Fb
open Go.RowKit Go.Proofs.YtpdlbiahfmidoaaW.PrintWords Go.Proofs.Ytpdlbiahfmidoaa.Num Go.Proofs.Ytpdlbiahfmidoaa.Arith

theorem Pure_FieldPowers : juntolaw01_FieldPowers.Pure := by
  intro a0 a1 a2 w0 w1 w2
  obtain ⟨p, rfl, hp⟩ := nat_u64 w0
  obtain ⟨a, rfl, ha⟩ := nat_u64 w1
  obtain ⟨e, rfl, he⟩ := nat_u64 w2
  refine Ev.rounds (g := fun k => juntolaw01_FieldPowers.f k (p : Int) (a : Int) (e : Int)) ?_
  unfold juntolaw01_FieldPowers.f
  have hR := right_ev p [a] (by simp)
  have hC := check_ev p [a] (by simp)
  by_cases h : right p [a] = 0
  · have hg := right_zero.1 h
    rw [h] at hR hC
    obtain ⟨h3, hp', _⟩ := hg.1
    have hap : a < p := hg.2 a (by simp)
    refine Ev.bind (a := (((a ^ e % p : Nat) : Int), 0)) ?_ (hR.bind (Ev.pos rfl ((refPow_ev (by omega) hp' hap he).bind (Ev.bind0 (is_tie _ _ _ _) (Ev_some ?_)))))
    · unfold field_Pow.f
      exact hC.bind (Ev.pos rfl ((pow_ev (by omega) hp' hap he).bind (Ev.now _)))
    · simp
  · have h2 : right p [a] = 2 := (right_two p [a]).resolve_left h
    rw [h2] at hR hC
    refine Ev.bind (a := (0, 2)) ?_ (hR.bind (Ev.neg (by decide) (Ev.bind0 (is_tie _ _ _ _) (Ev.pos (by simp) (alive_ev.bind (Ev.now _))))))
    unfold field_Pow.f
    exact hC.bind (Ev.neg (by decide) (Ev.now _))
end Go.Proofs.Ytpdlbiahfmidoaa.Fb
