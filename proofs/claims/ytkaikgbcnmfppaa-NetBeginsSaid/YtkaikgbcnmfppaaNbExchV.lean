/- net.Exchange for every argument, and what a round comes to. -/
import Derived.Test.YtkaikgbcnmfppaaNbExch
import Derived.Test.YtkaikgbcnmfppaaNbClone
import Derived.Test.YtkaikgbcnmfppaaNbTie
import Derived.Test.YtkaikgbcnmfppaaNbOpen
namespace Go.Proofs.Ytkaikgbcnmfppaa.Nb
open Go Go.RowKit Go.Proofs.YtkaikgbcnmfppaaW.PrintWords Go.Proofs.YtkaikgbcnmfppaaW.PrintLast Go.Proofs.YtkaikgbcnmfppaaW.PrintMore
open Go.Proofs.Ytkaikgbcnmfppaa.Num Go.Proofs.Ytkaikgbcnmfppaa.Arith
set_option linter.unusedVariables false
set_option linter.unusedSimpArgs false
noncomputable section
/-- The error of a world. -/
def chk (x : S30) : Int := checkV x.f0.f0.toNat x.f0.f1 x.f0.f2 x.f1 x.f2 x.f3.length x.f4
theorem wcheck_ev {x : S30} (wf : Wf30 x) : Ev (fun k => wcheck k x) (chk x) := by
 obtain ⟨p, hp, _⟩ := nat_u64 wf.s.1
 have h := net_Check_ev p x.f0.f1 x.f0.f2 x.f1 x.f2 x.f3 x.f4 x.f5
 unfold wcheck chk
 rw [hp]
 exact h
theorem WfD.lt {l : List Int} (h : WfD l) : l.length < 17592186044416 := by have := h.2.1; omega
theorem Wf30.small {x : S30} (h : Wf30 x) : Small x.f1 x.f2 x.f3 x.f5 :=
 ⟨by have := h.co.2.1; omega, by have := h.ac.2.1; omega, fun a ha => WfD.lt (h.ac.2.2 a ha).2.2.2, by have := h.ta.2.1; omega, fun d hd => WfD.lt (h.ta.2.2 d hd), by have := h.se.2.1; omega, fun a ha => WfD.lt (h.se.2.2 a ha).2.2.2⟩
theorem eff_small {B : Nat} {l : List S72} {f t : Int} {d : List Int} (hl : ∀ a ∈ l, a.f4.length < B) (hd : d.length < B) : (eff l f t d).length < B := by
 unfold eff
 split
 ·rename_i a ha
  have := hl a (List.mem_of_find?_eq_some ha)
  split
  ·simp; omega
  ·exact this
 ·exact hd
end
end Go.Proofs.Ytkaikgbcnmfppaa.Nb
