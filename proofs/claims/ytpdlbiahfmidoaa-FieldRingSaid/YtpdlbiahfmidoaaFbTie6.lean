/- What Add, Sub and Mul come to. -/
import Derived.Test.YtpdlbiahfmidoaaFbTie2
import Derived.Test.YtpdlbiahfmidoaaFb10
import Derived.Test.YtpdlbiahfmidoaaFb11
namespace Go.Proofs.Ytpdlbiahfmidoaa.Fb
open Go.RowKit Go.Proofs.YtpdlbiahfmidoaaW.PrintWords Go.Proofs.Ytpdlbiahfmidoaa.Num Go.Proofs.Ytpdlbiahfmidoaa.Arith

theorem add_ev (p a b : Nat) : Ev (fun k => field_Add.f k (p : Int) (a : Int) (b : Int)) (if right p [a, b] = 0 then (((a + b) % p : Nat) : Int) else 0, right p [a, b]) := by
  have hC := check_ev p [a, b] (by simp)
  unfold field_Add.f
  refine Ev.bind (a := (if right p [a, b] = 0 then (((a + b) % p : Nat) : Int) else 0, right p [a, b])) ?_ (Ev.now _)
  unfold field_two_Plus.f
  refine hC.bind ?_
  by_cases h : right p [a, b] = 0
  · have hg := right_zero.1 h
    have h3 := hg.1.1
    refine Ev.pos h (Ev.bind0 (plus_tie (by omega) hg.1.2.1 (hg.2 a (by simp)) (hg.2 b (by simp))) (Ev_some ?_))
    rw [if_pos h, h]
  · refine Ev.neg h (Ev_some ?_)
    rw [if_neg h]
theorem sub_ev (p a b : Nat) : Ev (fun k => field_Sub.f k (p : Int) (a : Int) (b : Int)) (if right p [a, b] = 0 then (((a + (p - b)) % p : Nat) : Int) else 0, right p [a, b]) := by
  have hC := check_ev p [a, b] (by simp)
  unfold field_Sub.f
  refine Ev.bind (a := (if right p [a, b] = 0 then (((a + (p - b)) % p : Nat) : Int) else 0, right p [a, b])) ?_ (Ev.now _)
  unfold field_two_Minus.f
  refine hC.bind ?_
  by_cases h : right p [a, b] = 0
  · have hg := right_zero.1 h
    have h3 := hg.1.1
    refine Ev.pos h (Ev.bind0 (minus_tie (by omega) hg.1.2.1 (hg.2 a (by simp)) (hg.2 b (by simp))) (Ev_some ?_))
    rw [if_pos h, h]
  · refine Ev.neg h (Ev_some ?_)
    rw [if_neg h]
theorem mul_ev (p a b : Nat) : Ev (fun k => field_Mul.f k (p : Int) (a : Int) (b : Int)) (if right p [a, b] = 0 then ((a * b % p : Nat) : Int) else 0, right p [a, b]) := by
  have hC := check_ev p [a, b] (by simp)
  unfold field_Mul.f
  refine Ev.bind (a := (if right p [a, b] = 0 then ((a * b % p : Nat) : Int) else 0, right p [a, b])) ?_ (Ev.now _)
  unfold field_two_Times.f
  refine hC.bind ?_
  by_cases h : right p [a, b] = 0
  · have hg := right_zero.1 h
    have h3 := hg.1.1
    refine Ev.pos h (Ev.bind0 (a := ((a * b % p : Nat) : Int)) ?_ (Ev_some ?_))
    · unfold field_Times.f
      rw [mul_tie (by omega) hg.1.2.1 (hg.2 a (by simp)) (hg.2 b (by simp))]
      rfl
    · rw [if_pos h, h]
  · refine Ev.neg h (Ev_some ?_)
    rw [if_neg h]
theorem refSub_tie {p a b : Nat} (h0 : 0 < p) (hp : p ≤ 65537) (ha : a < p) (hb : b < p) : juntoref01_Sub.f (p : Int) (a : Int) (b : Int) = some (((a + (p - b)) % p : Nat) : Int) := by
  unfold juntoref01_Sub.f
  have e1 : IntKind.u64.wrap ((a : Int) + p) = ((a + p : Nat) : Int) := by rw [u64_in (by omega) (by omega)]; rfl
  have e2 : ((a + p : Nat) : Int) - b = ((a + (p - b) : Nat) : Int) := by omega
  rw [if_neg (by omega), e1, e2, u64_in (by omega) (by omega), tmod_nat]
theorem refAdd_tie' {p a b : Nat} (h0 : 0 < p) (hp : p ≤ 65537) (ha : a < p) (hb : b < p) : juntoref01_Add.f (p : Int) (a : Int) (b : Int) = some (((a + b) % p : Nat) : Int) := by
  unfold juntoref01_Add.f
  rw [if_neg (by omega), refAdd_small h0 hp ha hb, tmod_nat]
end Go.Proofs.Ytpdlbiahfmidoaa.Fb
