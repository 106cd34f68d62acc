/- What the printed functions of the package field come to, in plain numbers: primes, and the chapter's examples. -/
import Derived.Test.YtpdlbiahfmidoaaFb1
import Derived.Test.YtpdlbiahfmidoaaFb6
import Derived.Test.YtpdlbiahfmidoaaArith
namespace Go.Proofs.Ytpdlbiahfmidoaa.Fb
open Go.RowKit Go.Proofs.YtpdlbiahfmidoaaW.PrintWords Go.Proofs.YtpdlbiahfmidoaaW.PrintLast Go.Proofs.YtpdlbiahfmidoaaW.PrintMore
open Go.Proofs.Ytpdlbiahfmidoaa.Num Go.Proofs.Ytpdlbiahfmidoaa.Arith
set_option linter.unusedVariables false

/-! ### primes -/
theorem field_Is_l0 (p : Nat) (hp : p ≤ 65537) : ∀ (n d : Nat), 3 ≤ d → d ≤ 65537 → p < (d + 2 * n) * (d + 2 * n) →
    ∃ r, field_Is.l0 (n + 1) (p : Int) (d : Int) = some r ∧ (r = true ↔ ∀ e, d ≤ e → e % 2 = d % 2 → e * e ≤ p → ¬ e ∣ p) := by
  intro n
  induction n with
  | zero =>
    intro d h3 hd hn
    refine ⟨true, ?_, ?_⟩
    · unfold field_Is.l0
      have hdd : (d : Int) * d = ((d * d : Nat) : Int) := by push_cast; rfl
      have hb : d * d ≤ 65537 * 65537 := Nat.mul_le_mul hd hd
      rw [hdd, u64_in (by omega) (by omega), if_neg (by simp at hn; omega)]
    · refine ⟨fun _ e he _ hee => ?_, fun _ => rfl⟩
      have : d * d ≤ e * e := Nat.mul_le_mul he he
      simp at hn
      omega
  | succ n ih =>
    intro d h3 hd hn
    have hdd : (d : Int) * d = ((d * d : Nat) : Int) := by push_cast; rfl
    have hb : d * d ≤ 65537 * 65537 := Nat.mul_le_mul hd hd
    by_cases hle : d * d ≤ p
    · have h257 : d ≤ 65535 := by
        apply Classical.byContradiction
        intro hc
        have : 65536 * 65536 ≤ d * d := Nat.mul_le_mul (by omega) (by omega)
        omega
      by_cases hdiv : d ∣ p
      · refine ⟨false, ?_, ?_⟩
        · unfold field_Is.l0
          rw [hdd, u64_in (by omega) (by omega), if_pos (by omega), if_neg (by omega), tmod_nat, if_pos (by rw [Nat.mod_eq_zero_of_dvd hdiv]; rfl)]
        · exact ⟨(fun h => by cases h), fun h => absurd hdiv (h d (Nat.le_refl _) rfl hle)⟩
      · obtain ⟨r, hr, hi⟩ := ih (d + 2) (by omega) (by omega) (by rw [show d + 2 + 2 * n = d + 2 * (n + 1) by omega]; exact hn)
        refine ⟨r, ?_, ?_⟩
        · rw [show n + 1 + 1 = (n + 1) + 1 from rfl]
          unfold field_Is.l0
          rw [hdd, u64_in (by omega) (by omega), if_pos (by omega), if_neg (by omega), tmod_nat,
            if_neg (by intro h0; exact hdiv (Nat.dvd_of_mod_eq_zero (by omega))), u64_in (by omega) (by omega)]
          exact hr
        · rw [hi]
          constructor
          · intro h e he hpar hee
            by_cases hed : e = d
            · subst hed; exact hdiv
            · exact h e (by omega) (by omega) hee
          · intro h e he hpar hee
            exact h e (by omega) (by omega) hee
    · refine ⟨true, ?_, ?_⟩
      · unfold field_Is.l0
        rw [hdd, u64_in (by omega) (by omega), if_neg (by omega)]
      · refine ⟨fun _ e he _ hee => ?_, fun _ => rfl⟩
        have : d * d ≤ e * e := Nat.mul_le_mul he he
        omega

theorem field_Is_ev (p : Nat) : Ev (fun k => field_Is.f k (p : Int)) (isP p) := by
  by_cases h3 : p < 3
  · refine Ev.same (r := false) ?_ ?_
    · unfold field_Is.f
      refine Ev.pos (by omega) (Ev.step (f := fun _ => some false) (fun k => ?_) (Ev.now _))
      simp [field_Is.j0]
    · refine (Bool.eq_false_iff.2 fun h => ?_).symm
      have := (isP_iff.1 h).1
      omega
  by_cases hbig : 65537 < p
  · refine Ev.same (r := false) ?_ ?_
    · unfold field_Is.f
      refine Ev.neg (by omega) (Ev.pos (by omega) (Ev.step (f := fun _ => some false) (fun k => ?_) (Ev.now _)))
      simp [field_Is.j0]
    · refine (Bool.eq_false_iff.2 fun h => ?_).symm
      have := (isP_iff.1 h).2.1
      omega
  by_cases hev : p % 2 = 0
  · refine Ev.same (r := false) ?_ ?_
    · unfold field_Is.f
      refine Ev.neg (by omega) (Ev.neg (by omega) (Ev.step (f := fun _ => some false) (fun k => ?_) (Ev.now _)))
      have : Int.tmod (p : Int) 2 = 0 := by
        have : Int.tmod (p : Int) 2 = ((p % 2 : Nat) : Int) := tmod_nat p 2
        omega
      simp [field_Is.j0, this]
    · refine (Bool.eq_false_iff.2 fun h => ?_).symm
      have := (isP_iff.1 h).odd
      omega
  · obtain ⟨r, hr, hi⟩ := field_Is_l0 p (by omega) 65537 3 (by omega) (by omega) (by
      have : 65537 * 1 ≤ (3 + 2 * 65537) * (3 + 2 * 65537) := Nat.mul_le_mul (by omega) (by omega)
      omega)
    refine Ev.same (r := r) ?_ ?_
    · have : Int.tmod (p : Int) 2 = 1 := by
        have : Int.tmod (p : Int) 2 = ((p % 2 : Nat) : Int) := tmod_nat p 2
        omega
      unfold field_Is.f
      refine Ev.neg (by omega) (Ev.neg (by omega) (Ev.step (f := fun k => field_Is.l0 k (p : Int) 3) (fun k => ?_) (Ev.of (fun k => (field_Is.mono_l k).2 (p : Int) 3) hr)))
      simp [field_Is.j0, this]
    · rw [Bool.eq_iff_iff, hi, isP_iff]
      constructor
      · intro h
        refine ⟨by omega, by omega, fun d hd hdd hdiv => ?_⟩
        by_cases hpar : d % 2 = 1
        · exact h d (by omega) (by omega) hdd hdiv
        · obtain ⟨q, hq⟩ := hdiv
          have hm : p % 2 = (d * q) % 2 := by rw [← hq]
          rw [Nat.mul_mod, show d % 2 = 0 by omega] at hm
          simp at hm
          omega
      · intro h e he _ hee
        exact h.2.2 e (by omega) hee

theorem ref_Is_l0 (p : Nat) (hp : p ≤ 65537) : ∀ (n d : Nat), 2 ≤ d → d ≤ 65537 → p < (d + n) * (d + n) →
    ∃ r, juntoref01_Is.l0 (n + 1) (p : Int) (d : Int) = some r ∧ (r = true ↔ ∀ e, d ≤ e → e * e ≤ p → ¬ e ∣ p) := by
  intro n
  induction n with
  | zero =>
    intro d h3 hd hn
    refine ⟨true, ?_, ?_⟩
    · unfold juntoref01_Is.l0
      have hdd : (d : Int) * d = ((d * d : Nat) : Int) := by push_cast; rfl
      have hb : d * d ≤ 65537 * 65537 := Nat.mul_le_mul hd hd
      rw [hdd, u64_in (by omega) (by omega), if_neg (by simp at hn; omega)]
    · refine ⟨fun _ e he hee => ?_, fun _ => rfl⟩
      have : d * d ≤ e * e := Nat.mul_le_mul he he
      simp at hn
      omega
  | succ n ih =>
    intro d h3 hd hn
    have hdd : (d : Int) * d = ((d * d : Nat) : Int) := by push_cast; rfl
    have hb : d * d ≤ 65537 * 65537 := Nat.mul_le_mul hd hd
    by_cases hle : d * d ≤ p
    · have h257 : d ≤ 65535 := by
        apply Classical.byContradiction
        intro hc
        have : 65536 * 65536 ≤ d * d := Nat.mul_le_mul (by omega) (by omega)
        omega
      by_cases hdiv : d ∣ p
      · refine ⟨false, ?_, ?_⟩
        · unfold juntoref01_Is.l0
          rw [hdd, u64_in (by omega) (by omega), if_pos (by omega), if_neg (by omega), tmod_nat, if_pos (by rw [Nat.mod_eq_zero_of_dvd hdiv]; rfl)]
        · exact ⟨(fun h => by cases h), fun h => absurd hdiv (h d (Nat.le_refl _) hle)⟩
      · obtain ⟨r, hr, hi⟩ := ih (d + 1) (by omega) (by omega) (by rw [show d + 1 + n = d + (n + 1) by omega]; exact hn)
        refine ⟨r, ?_, ?_⟩
        · unfold juntoref01_Is.l0
          rw [hdd, u64_in (by omega) (by omega), if_pos (by omega), if_neg (by omega), tmod_nat,
            if_neg (by intro h0; exact hdiv (Nat.dvd_of_mod_eq_zero (by omega))), u64_in (by omega) (by omega)]
          exact hr
        · rw [hi]
          constructor
          · intro h e he hee
            by_cases hed : e = d
            · subst hed; exact hdiv
            · exact h e (by omega) hee
          · intro h e he hee
            exact h e (by omega) hee
    · refine ⟨true, ?_, ?_⟩
      · unfold juntoref01_Is.l0
        rw [hdd, u64_in (by omega) (by omega), if_neg (by omega)]
      · refine ⟨fun _ e he hee => ?_, fun _ => rfl⟩
        have : d * d ≤ e * e := Nat.mul_le_mul he he
        omega

theorem ref_Is_ev (p : Nat) : Ev (fun k => juntoref01_Is.f k (p : Int)) (isP p) := by
  by_cases h3 : p < 3
  · refine Ev.same (r := false) ?_ ?_
    · unfold juntoref01_Is.f
      refine Ev.pos (by omega) (Ev.step (f := fun _ => some false) (fun k => ?_) (Ev.now _))
      simp [juntoref01_Is.j0]
    · refine (Bool.eq_false_iff.2 fun h => ?_).symm
      have := (isP_iff.1 h).1
      omega
  by_cases hbig : 65537 < p
  · refine Ev.same (r := false) ?_ ?_
    · unfold juntoref01_Is.f
      refine Ev.neg (by omega) (Ev.step (f := fun _ => some false) (fun k => ?_) (Ev.now _))
      simp only [juntoref01_Is.j0]
      rw [if_pos (by simp; omega)]
    · refine (Bool.eq_false_iff.2 fun h => ?_).symm
      have := (isP_iff.1 h).2.1
      omega
  · obtain ⟨r, hr, hi⟩ := ref_Is_l0 p (by omega) 65537 2 (by omega) (by omega) (by
      have : 65537 * 2 ≤ (2 + 65537) * (2 + 65537) := Nat.mul_le_mul (by omega) (by omega)
      omega)
    refine Ev.same (r := r) ?_ ?_
    · unfold juntoref01_Is.f
      refine Ev.neg (by omega) (Ev.step (f := fun k => juntoref01_Is.l0 k (p : Int) 2) (fun k => ?_) (Ev.of (fun k => (juntoref01_Is.mono_l k).2 (p : Int) 2) hr))
      simp only [juntoref01_Is.j0]
      rw [if_neg (by simp; omega)]
    · rw [Bool.eq_iff_iff, hi, isP_iff]
      exact ⟨fun h => ⟨by omega, by omega, h⟩, fun h => h.2.2⟩

theorem alive_ev : Ev (fun k => juntolaw01_alive.f k) true :=
  Ev.of juntolaw01_alive.mono (k := 60) (by decide +kernel)

end Go.Proofs.Ytpdlbiahfmidoaa.Fb
