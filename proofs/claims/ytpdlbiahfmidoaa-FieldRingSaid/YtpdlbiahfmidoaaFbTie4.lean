/- What Over, Inv and Div come to. -/
import Derived.Test.YtpdlbiahfmidoaaFbTie2
namespace Go.Proofs.Ytpdlbiahfmidoaa.Fb
open Go.RowKit Go.Proofs.YtpdlbiahfmidoaaW.PrintWords Go.Proofs.Ytpdlbiahfmidoaa.Num Go.Proofs.Ytpdlbiahfmidoaa.Arith

theorem over_ev {p a : Nat} (h3 : 3 ≤ p) (hp : p ≤ 65537) (ha : a < p) : Ev (fun k => field_Over.f k (p : Int) (a : Int)) ((a ^ (p - 2) % p : Nat) : Int) := by
  unfold field_Over.f
  have e : IntKind.u64.wrap ((p : Int) - 2) = ((p - 2 : Nat) : Int) := by rw [u64_in (by omega) (by omega)]; omega
  rw [e]
  exact (pow_ev (by omega) hp ha (by omega)).bind (Ev.now _)
theorem refInv_ev {p a : Nat} (h3 : 3 ≤ p) (hp : p ≤ 65537) (ha : a < p) : Ev (fun k => juntoref01_Inv.f k (p : Int) (a : Int)) ((a ^ (p - 2) % p : Nat) : Int) := by
  unfold juntoref01_Inv.f
  have e : IntKind.u64.wrap ((p : Int) - 2) = ((p - 2 : Nat) : Int) := by rw [u64_in (by omega) (by omega)]; omega
  rw [e]
  exact (refPow_ev (by omega) hp ha (by omega)).bind (Ev.now _)

theorem inv_ev (p b : Nat) : Ev (fun k => field_Inv.f k (p : Int) (b : Int)) (if right p [b] = 0 then (if b = 0 then ((0 : Int), (7 : Int)) else (((b ^ (p - 2) % p : Nat) : Int), 0)) else (0, 2)) := by
  unfold field_Inv.f
  have hC := check_ev p [b] (by simp)
  refine hC.bind ?_
  by_cases h : right p [b] = 0
  · have hg := right_zero.1 h
    refine Ev.same (Ev.pos h ?_) (if_pos h).symm
    by_cases hb : b = 0
    · exact Ev.same (Ev.pos (by omega) (Ev.now _)) (if_pos hb).symm
    · exact Ev.same (Ev.neg (by omega) ((over_ev hg.1.1 hg.1.2.1 (hg.2 b (by simp))).bind (Ev.now _))) (if_neg hb).symm
  · have h2 := (right_two p [b]).resolve_left h
    exact Ev.same (Ev.neg h (Ev.now _)) (by rw [if_neg h, h2])
theorem div_ev (p a b : Nat) : Ev (fun k => field_Div.f k (p : Int) (a : Int) (b : Int)) (if right p [a, b] = 0 then (if b = 0 then ((0 : Int), (7 : Int)) else (((a * (b ^ (p - 2) % p) % p : Nat) : Int), 0)) else (0, 2)) := by
  unfold field_Div.f
  have hC := check_ev p [a, b] (by simp)
  refine hC.bind ?_
  by_cases h : right p [a, b] = 0
  · have hg := right_zero.1 h
    have h3 := hg.1.1
    refine Ev.same (Ev.pos h ?_) (if_pos h).symm
    by_cases hb : b = 0
    · exact Ev.same (Ev.pos (by omega) (Ev.now _)) (if_pos hb).symm
    · refine Ev.same (Ev.neg (by omega) ((over_ev hg.1.1 hg.1.2.1 (hg.2 b (by simp))).bind ?_)) (if_neg hb).symm
      exact Ev.bind0 (mul_tie (by omega) hg.1.2.1 (hg.2 a (by simp)) (Nat.mod_lt _ (by omega))) (Ev.now _)
  · have h2 := (right_two p [a, b]).resolve_left h
    exact Ev.same (Ev.neg h (Ev.now _)) (by rw [if_neg h, h2])

end Go.Proofs.Ytpdlbiahfmidoaa.Fb
