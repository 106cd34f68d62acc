/- FieldFermat, in plain numbers: Fermat's little theorem, Euler's criterion, and a root's square. -/
import Derived.Test.YtpdlbiahfmidoaaFbTie5
import Derived.Test.YtpdlbiahfmidoaaFbTie6
import Derived.Test.YtpdlbiahfmidoaaFbLFieldFermat
namespace Go.Proofs.Ytpdlbiahfmidoaa.Fb
open Go.RowKit Go.Proofs.YtpdlbiahfmidoaaW.PrintWords Go.Proofs.Ytpdlbiahfmidoaa.Num Go.Proofs.Ytpdlbiahfmidoaa.Arith

theorem Pow_ev {p a e : Nat} (h : right p [a] = 0) (he : e < 18446744073709551616) : Ev (fun k => field_Pow.f k (p : Int) (a : Int) (e : Int)) (((a ^ e % p : Nat) : Int), (0 : Int)) := by
  have hC := check_ev p [a] (by simp)
  have hg := right_zero.1 h
  have h3 := hg.1.1
  rw [h] at hC
  unfold field_Pow.f
  exact hC.bind (Ev.pos rfl ((pow_ev (by omega) hg.1.2.1 (hg.2 a (by simp)) he).bind (Ev.now _)))

theorem le_one_cast (n : Nat) : decide (((n : Nat) : Int) ≤ 1) = decide (n ≤ 1) := by
  by_cases h : n ≤ 1
  · rw [decide_eq_true h, decide_eq_true (by omega)]
  · rw [decide_eq_false h, decide_eq_false (by omega)]

theorem Pure_FieldFermat : juntolaw01_FieldFermat.Pure := by
  intro a0 a1 w0 w1
  obtain ⟨p, rfl, hp⟩ := nat_u64 w0
  obtain ⟨a, rfl, ha⟩ := nat_u64 w1
  refine Ev.rounds (g := fun k => juntolaw01_FieldFermat.f k (p : Int) (a : Int)) ?_
  unfold juntolaw01_FieldFermat.f
  refine (right_ev p [a] (by simp)).bind ?_
  by_cases h : right p [a] = 0
  · have hg := right_zero.1 h
    have hP := hg.1
    have h3 := hP.1
    have hap := hg.2 a (by simp)
    have hp' := hP.2.1
    have hodd := hP.odd
    refine Ev.pos h ((Pow_ev h hp).bind ?_)
    have e : IntKind.u64.wrap (Int.tdiv (IntKind.u64.wrap ((p : Int) - 1)) 2) = (((p - 1) / 2 : Nat) : Int) := by
      have e1 : (p : Int) - 1 = ((p - 1 : Nat) : Int) := by omega
      have e2 : Int.tdiv ((p - 1 : Nat) : Int) 2 = (((p - 1) / 2 : Nat) : Int) := tdiv_nat (p - 1) 2
      rw [e1, u64_in (x := ((p - 1 : Nat) : Int)) (by omega) (by omega), e2, u64_in (by omega) (by omega)]
    have e3 : IntKind.u64.wrap (Int.tdiv (p : Int) 2) = ((p / 2 : Nat) : Int) := by
      have e2 : Int.tdiv (p : Int) 2 = ((p / 2 : Nat) : Int) := tdiv_nat p 2
      rw [e2, u64_in (by omega) (by omega)]
    rw [e, e3]
    refine (Pow_ev h (by omega)).bind ((Square_ev p a).bind ?_)
    simp only [if_pos h, le_one_cast]
    have hx : a ^ p % p = a := by rw [fermat hP.pr, Nat.mod_eq_of_lt hap]
    rcases Root_ev h with ⟨hev, hno⟩ | ⟨hyes, R, hR1, hR2, hev⟩
    · refine hev.bind ((mul_ev p 0 0).bind ?_)
      rw [hx, decide_eq_false hno]
      exact Ev.pos rfl (Ev.pos rfl (Ev.pos rfl (Ev.neg (by simp) (alive_ev.bind (Ev.now _)))))
    · have hl := less_half h3 hodd hR1
      have hl2 := less_sq h3 hR1
      have hrr : right p [less p R, less p R] = 0 := right_zero.2 ⟨hP, by simp [hl.2]⟩
      refine hev.bind ((mul_ev p (less p R) (less p R)).bind ?_)
      rw [hx, decide_eq_true hyes]
      refine Ev.pos rfl (Ev.pos rfl (Ev.pos rfl (Ev.pos rfl (Ev.pos ?_ (Ev.pos (by omega) (alive_ev.bind (Ev.now _)))))))
      show (if right p [less p R, less p R] = 0 then ((less p R * less p R % p : Nat) : Int) else 0) = _
      rw [if_pos hrr, hl2, hR2]
  · have h2 := (right_two p [a]).resolve_left h
    rw [h2]
    exact Ev.neg (by decide) (alive_ev.bind (Ev.now _))
end Go.Proofs.Ytpdlbiahfmidoaa.Fb
