/- FieldIs, in plain numbers: both trial divisions tell the same. -/
import Derived.Test.YtpdlbiahfmidoaaFbTie
import Derived.Test.YtpdlbiahfmidoaaFbLFieldIs
namespace Go.Proofs.Ytpdlbiahfmidoaa.Fb
open Go.RowKit Go.Proofs.YtpdlbiahfmidoaaW.PrintWords Go.Proofs.Ytpdlbiahfmidoaa.Num Go.Proofs.Ytpdlbiahfmidoaa.Arith

theorem Pure_FieldIs : juntolaw01_FieldIs.Pure := by
  intro a0 w0
  obtain ⟨p, rfl, hp⟩ := nat_u64 w0
  refine Ev.rounds (g := fun k => juntolaw01_FieldIs.f k (p : Int)) ?_
  unfold juntolaw01_FieldIs.f
  exact (field_Is_ev p).bind ((ref_Is_ev p).bind (Ev.pos (by simp) (alive_ev.bind (Ev.now _))))
end Go.Proofs.Ytpdlbiahfmidoaa.Fb
