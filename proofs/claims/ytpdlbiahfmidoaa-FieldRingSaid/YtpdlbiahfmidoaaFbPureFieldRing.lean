/- FieldRing, in plain numbers: the laws of a field, by the laws of whole numbers and Fermat. -/
import Derived.Test.YtpdlbiahfmidoaaFbTie6
import Derived.Test.YtpdlbiahfmidoaaFbTie4
import Derived.Test.YtpdlbiahfmidoaaFbLFieldRing
namespace Go.Proofs.Ytpdlbiahfmidoaa.Fb
open Go.RowKit Go.Proofs.YtpdlbiahfmidoaaW.PrintWords Go.Proofs.Ytpdlbiahfmidoaa.Num Go.Proofs.Ytpdlbiahfmidoaa.Arith

theorem lawadd_ev {p a b : Nat} (hP : IsP p) (ha : a < p) (hb : b < p) : Ev (fun k => juntolaw01_add.f k (p : Int) (a : Int) (b : Int)) (((a + b) % p : Nat) : Int) := by
  unfold juntolaw01_add.f
  have h : right p [a, b] = 0 := right_zero.2 ⟨hP, by simp [ha, hb]⟩
  refine (add_ev p a b).bind (Ev_some ?_)
  rw [if_pos h]
theorem lawmul_ev {p a b : Nat} (hP : IsP p) (ha : a < p) (hb : b < p) : Ev (fun k => juntolaw01_mul.f k (p : Int) (a : Int) (b : Int)) ((a * b % p : Nat) : Int) := by
  unfold juntolaw01_mul.f
  have h : right p [a, b] = 0 := right_zero.2 ⟨hP, by simp [ha, hb]⟩
  refine (mul_ev p a b).bind (Ev_some ?_)
  rw [if_pos h]

theorem Pure_FieldRing : ∀ (a0 q0 q1 q2 : Int), (Lit.int .u64 a0).wf = true → (Lit.int .u64 q0).wf = true → (Lit.int .u64 q1).wf = true → (Lit.int .u64 q2).wf = true → ∃ k, juntolaw01_FieldRing.f k a0 q0 q1 q2 = some true := by
  intro a0 q0 q1 q2 w0 w1 w2 w3
  obtain ⟨p, rfl, hp⟩ := nat_u64 w0
  obtain ⟨a, rfl, ha⟩ := nat_u64 w1
  obtain ⟨b, rfl, hb⟩ := nat_u64 w2
  obtain ⟨c, rfl, hc⟩ := nat_u64 w3
  refine Ev.rounds (g := fun k => juntolaw01_FieldRing.f k (p : Int) (a : Int) (b : Int) (c : Int)) ?_
  unfold juntolaw01_FieldRing.f
  refine (right_ev p [a, b, c] (by simp)).bind ?_
  by_cases h : right p [a, b, c] = 0
  · have hg := right_zero.1 h
    have hP := hg.1
    have h3 := hP.1
    have hap := hg.2 a (by simp)
    have hbp := hg.2 b (by simp)
    have hcp := hg.2 c (by simp)
    have m : ∀ x, x % p < p := fun x => Nat.mod_lt _ (by omega)
    have hR0a : right p [0, a] = 0 := right_zero.2 ⟨hP, by simp [hap]; omega⟩
    have hRa : right p [a] = 0 := right_zero.2 ⟨hP, by simp [hap]⟩
    have e0 : ((0 : Int)) = ((0 : Nat) : Int) := rfl
    have e1 : ((1 : Int)) = ((1 : Nat) : Int) := rfl
    have hs := sub_ev p 0 a
    rw [if_pos hR0a, Nat.zero_add] at hs
    have hi := inv_ev p a
    rw [if_pos hRa] at hi
    refine Ev.pos h (hs.bind (hi.bind ?_))
    refine (lawadd_ev hP hap hbp).bind ((lawadd_ev hP hbp hap).bind (Ev.pos (by rw [Nat.add_comm]) ?_))
    refine (lawmul_ev hP hap hbp).bind ((lawmul_ev hP hbp hap).bind (Ev.pos (by rw [Nat.mul_comm]) ?_))
    refine (lawadd_ev hP hap hbp).bind ((lawadd_ev hP (m _) hcp).bind ((lawadd_ev hP hbp hcp).bind ((lawadd_ev hP hap (m _)).bind (Ev.pos (by rw [Nat.mod_add_mod, Nat.add_mod_mod, Nat.add_assoc]) ?_))))
    refine (lawmul_ev hP hap hbp).bind ((lawmul_ev hP (m _) hcp).bind ((lawmul_ev hP hbp hcp).bind ((lawmul_ev hP hap (m _)).bind (Ev.pos (by rw [Nat.mod_mul_mod, Nat.mul_mod_mod, Nat.mul_assoc]) ?_))))
    refine (lawadd_ev hP hbp hcp).bind ((lawmul_ev hP hap (m _)).bind ((lawmul_ev hP hap hbp).bind ((lawmul_ev hP hap hcp).bind ((lawadd_ev hP (m _) (m _)).bind (Ev.pos (by rw [Nat.mul_mod_mod, ← Nat.add_mod, Nat.mul_add]) ?_)))))
    refine Ev.bind (a := (a : Int)) (Ev.same (lawadd_ev hP hap (show 0 < p by omega)) (by rw [Nat.add_zero, Nat.mod_eq_of_lt hap])) (Ev.pos rfl ?_)
    refine Ev.bind (a := (a : Int)) (Ev.same (lawmul_ev hP hap (show 1 < p by omega)) (by rw [Nat.mul_one, Nat.mod_eq_of_lt hap])) (Ev.pos rfl ?_)
    refine Ev.bind (a := 0) (Ev.same (lawadd_ev hP hap (m _)) ?_) (Ev.pos rfl ?_)
    · rw [Nat.add_mod_mod, show a + (p - a) = p by omega, Nat.mod_self]; rfl
    · by_cases hz : a = 0
      · refine Ev.pos (by omega) (Ev.pos ?_ (alive_ev.bind (Ev.now _)))
        rw [if_pos hz]
      · refine Ev.neg (by omega) ?_
        rw [if_neg hz]
        refine Ev.bind (a := 1) (Ev.same (lawmul_ev hP hap (m _)) ?_) (Ev.pos rfl (alive_ev.bind (Ev.now _)))
        rw [inv_mul hP.pr (not_dvd (by omega) hap)]; rfl
  · exact Ev.neg h (alive_ev.bind (Ev.now _))
end Go.Proofs.Ytpdlbiahfmidoaa.Fb
