/- FieldInts, in plain numbers: the program's residue of a whole number is the reference's. -/
import Derived.Test.YtpdlbiahfmidoaaFbTie2
import Derived.Test.YtpdlbiahfmidoaaFbLFieldInts
namespace Go.Proofs.Ytpdlbiahfmidoaa.Fb
open Go.RowKit Go.Proofs.YtpdlbiahfmidoaaW.PrintWords Go.Proofs.Ytpdlbiahfmidoaa.Num Go.Proofs.Ytpdlbiahfmidoaa.Arith

theorem tmod_neg_nat (m p : Nat) : Int.tmod (-(m : Int)) (p : Int) = -((m % p : Nat) : Int) := by
  rw [Int.neg_tmod, tmod_nat]

theorem refInt_tie {p : Nat} (h0 : 0 < p) (hp : p ≤ 65537) {n : Int} (w : -9223372036854775808 ≤ n ∧ n < 9223372036854775808) :
    juntoref01_Int.f (p : Int) n = some (if n < 0 then (((p - (-n).toNat % p) % p : Nat) : Int) else ((n.toNat % p : Nat) : Int)) := by
  unfold juntoref01_Int.f
  rw [w64_in (x := (p : Int)) (by omega) (by omega), if_neg (by omega)]
  by_cases hn : n < 0
  · obtain ⟨m, rfl⟩ : ∃ m : Nat, n = -(m : Int) := ⟨(-n).toNat, by omega⟩
    have hm : m % p < p := Nat.mod_lt _ h0
    have e : -((m % p : Nat) : Int) + p = ((p - m % p : Nat) : Int) := by omega
    rw [tmod_neg_nat, e, w64_in (by omega) (by omega), tmod_nat, if_pos hn]
    have h2 : (p - m % p) % p < p := Nat.mod_lt _ h0
    rw [u64_in (by omega) (by omega), Int.neg_neg, Int.toNat_natCast]
  · obtain ⟨m, rfl⟩ : ∃ m : Nat, n = (m : Int) := ⟨n.toNat, by omega⟩
    have hm : m % p < p := Nat.mod_lt _ h0
    have e : ((m % p : Nat) : Int) + p = ((m % p + p : Nat) : Int) := by omega
    rw [tmod_nat, e, w64_in (by omega) (by omega), tmod_nat, if_neg hn]
    rw [Nat.add_mod_right, Nat.mod_mod, u64_in (by omega) (by omega), Int.toNat_natCast]

theorem int_ev {p : Nat} {n : Int} (w : -9223372036854775808 ≤ n ∧ n < 9223372036854775808) :
    Ev (fun k => field_Int.f k (p : Int) n) (if isP p = true then (if n < 0 then (((p - (-n).toNat % p) % p : Nat) : Int) else ((n.toNat % p : Nat) : Int), 0) else (0, 2)) := by
  unfold field_Int.f
  refine (field_Is_ev p).bind ?_
  by_cases h : isP p = true
  · obtain ⟨h3, hp, _⟩ := isP_iff.1 h
    refine Ev.same (Ev.pos h ?_) (if_pos h).symm
    by_cases hn : n < 0
    · obtain ⟨m, rfl⟩ : ∃ m : Nat, n = -(m : Int) := ⟨(-n).toNat, by omega⟩
      have hm : m % p < p := Nat.mod_lt _ (by omega)
      have e1 : IntKind.u64.wrap (-(IntKind.u64.wrap (-(m : Int)))) = m := by
        rw [u64_mod, u64_mod]; omega
      have e2 := minus_tie (p := p) (a := 0) (b := m % p) (by omega) hp (by omega) hm
      refine Ev.pos hn (Ev.neg (by omega) ?_)
      rw [e1, tmod_nat]
      refine Ev.bind0 e2 (Ev_some ?_)
      rw [if_pos hn, Nat.zero_add, Int.neg_neg, Int.toNat_natCast]
    · obtain ⟨m, rfl⟩ : ∃ m : Nat, n = (m : Int) := ⟨n.toNat, by omega⟩
      refine Ev.neg hn (Ev.neg (by omega) (Ev_some ?_))
      rw [u64_in (by omega) (by omega), tmod_nat, if_neg hn, Int.toNat_natCast]
  · exact Ev.same (Ev.neg h (Ev.now _)) (if_neg h).symm

theorem Pure_FieldInts : juntolaw01_FieldInts.Pure := by
  intro a0 n w0 w1
  obtain ⟨p, rfl, hp⟩ := nat_u64 w0
  have wn := wf_i64 w1
  refine Ev.rounds (g := fun k => juntolaw01_FieldInts.f k (p : Int) n) ?_
  unfold juntolaw01_FieldInts.f
  refine (int_ev wn).bind ((ref_Is_ev p).bind ?_)
  by_cases h : isP p = true
  · obtain ⟨h3, hp', _⟩ := isP_iff.1 h
    simp only [if_pos h]
    refine Ev.bind0 (refInt_tie (by omega) hp' wn) (Ev.bind0 (is_tie _ _ _ _) (Ev_some ?_))
    simp
  · simp only [if_neg h]
    refine Ev.bind0 (is_tie _ _ _ _) (Ev.pos (by simp) (alive_ev.bind (Ev.now _)))
end Go.Proofs.Ytpdlbiahfmidoaa.Fb
