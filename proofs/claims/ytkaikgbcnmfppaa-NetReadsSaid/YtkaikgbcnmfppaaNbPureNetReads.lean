/- NetReads, in plain lists: both tell the first n numbers, or the error. -/
import Derived.Test.YtkaikgbcnmfppaaNbTie3
import Derived.Test.YtkaikgbcnmfppaaNbLNetReads
namespace Go.Proofs.Ytkaikgbcnmfppaa.Nb
open Go Go.RowKit Go.Proofs.YtkaikgbcnmfppaaW.PrintWords Go.Proofs.YtkaikgbcnmfppaaW.PrintLast Go.Proofs.YtkaikgbcnmfppaaW.PrintMore
open Go.Proofs.Ytkaikgbcnmfppaa.Num Go.Proofs.Ytkaikgbcnmfppaa.Arith
set_option linter.unusedVariables false
theorem alive_ev : Ev (fun k => juntolaw17_alive.f k) true := ⟨0, fun _ _ => rfl⟩
theorem Pure_NetReads (a0 : Int) (l1 : List Int) (a2 : Int) (w0 : (Lit.int .u64 a0).wf = true) (y1 : l1.length * 8 ≤ 140737488351232) (w1 : ∀ x ∈ l1, (Lit.int .u64 x).wf = true) (w2 : (Lit.int .i64 a2).wf = true) : ∃ k, juntolaw17_NetReads.f k a0 l1 a2 = some true := by
  obtain ⟨p, rfl, hp⟩ := nat_u64 w0
  obtain ⟨xs, rfl, hx⟩ := nats l1 w1
  have hl : xs.length < 17592186044416 := by simp at y1; omega
  have bad : ∀ v : List Int × Int, v = ([], 2) → Ev (fun k => juntolaw17_NetReads.j0 k (p : Int) (cast xs) a2 v.1 v.2 true) true := by
    rintro v rfl
    refine Ev.step (f := fun k => (juntolaw17_alive.f k).bind fun t136 => some t136) (fun k => ?_) (alive_ev.bind (Ev.now _))
    simp [juntolaw17_NetReads.j0]
  refine Ev.rounds (g := fun k => juntolaw17_NetReads.f k (p : Int) (cast xs) a2) ?_
  unfold juntolaw17_NetReads.f
  refine (net_Read_ev p xs hl a2).bind ((ref_Is_ev p).bind ?_)
  by_cases h : isP p = true
  · have h3 := (isP_iff.1 h).1
    refine Ev.pos h ?_
    by_cases hn : a2 < 0
    · exact Ev.pos hn (bad _ (by unfold readV; rw [if_neg (by omega)]))
    · refine Ev.neg hn ?_
      by_cases hb : a2 > 1048576
      · rw [decide_eq_true hb]
        exact bad _ (by unfold readV; rw [if_neg (by omega)])
      · rw [decide_eq_false hb]
        obtain ⟨m, rfl⟩ : ∃ m : Nat, a2 = m := ⟨a2.toNat, by omega⟩
        have hv : readV p xs (m : Int) (isP p) = (fill p xs m m, 0) := by
          unfold readV
          rw [if_pos ⟨h, by omega, by omega⟩, Int.toNat_natCast]
        rw [hv]
        refine Ev.step (f := fun k => (juntoref17_Read.f k (p : Int) (cast xs) (m : Int)).bind fun t137 => (juntoref01_Same.f k (fill p xs m m) t137).bind fun t140 => some t140) (fun k => ?_) ((refRead_ev p (by omega) xs m (by omega)).bind ((same_ev _ _ (by rw [fill_length]; omega)).bind (Ev_some (by simp))))
        simp [juntolaw17_NetReads.j0]
  · refine Ev.neg h (bad _ (by unfold readV; rw [if_neg (fun q => h q.1)]))
end Go.Proofs.Ytkaikgbcnmfppaa.Nb
