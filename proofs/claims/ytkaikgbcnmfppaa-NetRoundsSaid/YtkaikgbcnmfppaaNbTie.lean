/- What the checks come to, in plain numbers: primes, setups, corrupted parties, acts, worlds. -/
import Derived.Test.YtkaikgbcnmfppaaNbFNetCheck
import Derived.Test.YtkaikgbcnmfppaaNbFRef17Check
import Derived.Test.YtkaikgbcnmfppaaArith
namespace Go.Proofs.Ytkaikgbcnmfppaa.Nb
open Go Go.RowKit Go.Proofs.YtkaikgbcnmfppaaW.PrintWords Go.Proofs.YtkaikgbcnmfppaaW.PrintLast Go.Proofs.YtkaikgbcnmfppaaW.PrintMore
open Go.Proofs.Ytkaikgbcnmfppaa.Num Go.Proofs.Ytkaikgbcnmfppaa.Arith
set_option linter.unusedVariables false
set_option linter.unusedSimpArgs false
/-! ### primes -/
theorem field_Is_l0 (p : Nat) (hp : p ≤ 65537) : ∀ (n d : Nat), 3 ≤ d → d ≤ 65537 → p < (d + 2 * n) * (d + 2 * n) →
  ∃ r, fIs.l0 (n + 1) (p : Int) (d : Int) = some r ∧ (r = true ↔ ∀ e, d ≤ e → e % 2 = d % 2 → e * e ≤ p → ¬ e ∣ p) := by
 intro n
 induction n with
 | zero =>
  intro d h3 hd hn
  refine ⟨true, ?_, ?_⟩
  ·unfold fIs.l0
   have hdd : (d : Int) * d = ((d * d : Nat) : Int) := by push_cast; rfl
   have hb : d * d ≤ 65537 * 65537 := Nat.mul_le_mul hd hd
   rw [hdd, u64_in (by omega) (by omega), if_neg (by simp at hn; omega)]
  ·refine ⟨fun _ e he _ hee => ?_, fun _ => rfl⟩
   have : d * d ≤ e * e := Nat.mul_le_mul he he
   simp at hn
   omega
 | succ n ih =>
  intro d h3 hd hn
  have hdd : (d : Int) * d = ((d * d : Nat) : Int) := by push_cast; rfl
  have hb : d * d ≤ 65537 * 65537 := Nat.mul_le_mul hd hd
  by_cases hle : d * d ≤ p
  ·have h257 : d ≤ 65535 := by
    apply Classical.byContradiction
    intro hc
    have : 65536 * 65536 ≤ d * d := Nat.mul_le_mul (by omega) (by omega)
    omega
   by_cases hdiv : d ∣ p
   ·refine ⟨false, ?_, ?_⟩
    ·unfold fIs.l0
     rw [hdd, u64_in (by omega) (by omega), if_pos (by omega), if_neg (by omega), tmod_nat, if_pos (by rw [Nat.mod_eq_zero_of_dvd hdiv]; rfl)]
    ·exact ⟨(fun h => by cases h), fun h => absurd hdiv (h d (Nat.le_refl _) rfl hle)⟩
   ·obtain ⟨r, hr, hi⟩ := ih (d + 2) (by omega) (by omega) (by rw [show d + 2 + 2 * n = d + 2 * (n + 1) by omega]; exact hn)
    refine ⟨r, ?_, ?_⟩
    ·rw [show n + 1 + 1 = (n + 1) + 1 from rfl]
     unfold fIs.l0
     rw [hdd, u64_in (by omega) (by omega), if_pos (by omega), if_neg (by omega), tmod_nat,
      if_neg (by intro h0; exact hdiv (Nat.dvd_of_mod_eq_zero (by omega))), u64_in (by omega) (by omega)]
     exact hr
    ·rw [hi]
     constructor
     ·intro h e he hpar hee
      by_cases hed : e = d
      ·subst hed; exact hdiv
      ·exact h e (by omega) (by omega) hee
     ·intro h e he hpar hee
      exact h e (by omega) (by omega) hee
  ·refine ⟨true, ?_, ?_⟩
   ·unfold fIs.l0
    rw [hdd, u64_in (by omega) (by omega), if_neg (by omega)]
   ·refine ⟨fun _ e he _ hee => ?_, fun _ => rfl⟩
    have : d * d ≤ e * e := Nat.mul_le_mul he he
    omega

theorem field_Is_ev (p : Nat) : Ev (fun k => fIs.f k (p : Int)) (isP p) := by
 by_cases h3 : p < 3
 ·refine Ev.same (r := false) ?_ ?_
  ·unfold fIs.f
   refine Ev.pos (by omega) (Ev.step (f := fun _ => some false) (fun k => ?_) (Ev.now _))
   simp [fIs.j0]
  ·refine (Bool.eq_false_iff.2 fun h => ?_).symm
   have := (isP_iff.1 h).1
   omega
 by_cases hbig : 65537 < p
 ·refine Ev.same (r := false) ?_ ?_
  ·unfold fIs.f
   refine Ev.neg (by omega) (Ev.pos (by omega) (Ev.step (f := fun _ => some false) (fun k => ?_) (Ev.now _)))
   simp [fIs.j0]
  ·refine (Bool.eq_false_iff.2 fun h => ?_).symm
   have := (isP_iff.1 h).2.1
   omega
 by_cases hev : p % 2 = 0
 ·refine Ev.same (r := false) ?_ ?_
  ·unfold fIs.f
   refine Ev.neg (by omega) (Ev.neg (by omega) (Ev.step (f := fun _ => some false) (fun k => ?_) (Ev.now _)))
   have : Int.tmod (p : Int) 2 = 0 := by
    have : Int.tmod (p : Int) 2 = ((p % 2 : Nat) : Int) := tmod_nat p 2
    omega
   simp [fIs.j0, this]
  ·refine (Bool.eq_false_iff.2 fun h => ?_).symm
   have := (isP_iff.1 h).odd
   omega
 ·obtain ⟨r, hr, hi⟩ := field_Is_l0 p (by omega) 65537 3 (by omega) (by omega) (by
   have : 65537 * 1 ≤ (3 + 2 * 65537) * (3 + 2 * 65537) := Nat.mul_le_mul (by omega) (by omega)
   omega)
  refine Ev.same (r := r) ?_ ?_
  ·have : Int.tmod (p : Int) 2 = 1 := by
    have : Int.tmod (p : Int) 2 = ((p % 2 : Nat) : Int) := tmod_nat p 2
    omega
   unfold fIs.f
   refine Ev.neg (by omega) (Ev.neg (by omega) (Ev.step (f := fun k => fIs.l0 k (p : Int) 3) (fun k => ?_) (Ev.of (fun k => (fIs.mono_l k).2 (p : Int) 3) hr)))
   simp [fIs.j0, this]
  ·rw [Bool.eq_iff_iff, hi, isP_iff]
   constructor
   ·intro h
    refine ⟨by omega, by omega, fun d hd hdd hdiv => ?_⟩
    by_cases hpar : d % 2 = 1
    ·exact h d (by omega) (by omega) hdd hdiv
    ·obtain ⟨q, hq⟩ := hdiv
     have hm : p % 2 = (d * q) % 2 := by rw [← hq]
     rw [Nat.mul_mod, show d % 2 = 0 by omega] at hm
     simp at hm
     omega
   ·intro h e he _ hee
    exact h.2.2 e (by omega) hee

theorem ref_Is_l0 (p : Nat) (hp : p ≤ 65537) : ∀ (n d : Nat), 2 ≤ d → d ≤ 65537 → p < (d + n) * (d + n) →
  ∃ r, j1I.l0 (n + 1) (p : Int) (d : Int) = some r ∧ (r = true ↔ ∀ e, d ≤ e → e * e ≤ p → ¬ e ∣ p) := by
 intro n
 induction n with
 | zero =>
  intro d h3 hd hn
  refine ⟨true, ?_, ?_⟩
  ·unfold j1I.l0
   have hdd : (d : Int) * d = ((d * d : Nat) : Int) := by push_cast; rfl
   have hb : d * d ≤ 65537 * 65537 := Nat.mul_le_mul hd hd
   rw [hdd, u64_in (by omega) (by omega), if_neg (by simp at hn; omega)]
  ·refine ⟨fun _ e he hee => ?_, fun _ => rfl⟩
   have : d * d ≤ e * e := Nat.mul_le_mul he he
   simp at hn
   omega
 | succ n ih =>
  intro d h3 hd hn
  have hdd : (d : Int) * d = ((d * d : Nat) : Int) := by push_cast; rfl
  have hb : d * d ≤ 65537 * 65537 := Nat.mul_le_mul hd hd
  by_cases hle : d * d ≤ p
  ·have h257 : d ≤ 65535 := by
    apply Classical.byContradiction
    intro hc
    have : 65536 * 65536 ≤ d * d := Nat.mul_le_mul (by omega) (by omega)
    omega
   by_cases hdiv : d ∣ p
   ·refine ⟨false, ?_, ?_⟩
    ·unfold j1I.l0
     rw [hdd, u64_in (by omega) (by omega), if_pos (by omega), if_neg (by omega), tmod_nat, if_pos (by rw [Nat.mod_eq_zero_of_dvd hdiv]; rfl)]
    ·exact ⟨(fun h => by cases h), fun h => absurd hdiv (h d (Nat.le_refl _) hle)⟩
   ·obtain ⟨r, hr, hi⟩ := ih (d + 1) (by omega) (by omega) (by rw [show d + 1 + n = d + (n + 1) by omega]; exact hn)
    refine ⟨r, ?_, ?_⟩
    ·unfold j1I.l0
     rw [hdd, u64_in (by omega) (by omega), if_pos (by omega), if_neg (by omega), tmod_nat,
      if_neg (by intro h0; exact hdiv (Nat.dvd_of_mod_eq_zero (by omega))), u64_in (by omega) (by omega)]
     exact hr
    ·rw [hi]
     constructor
     ·intro h e he hee
      by_cases hed : e = d
      ·subst hed; exact hdiv
      ·exact h e (by omega) hee
     ·intro h e he hee
      exact h e (by omega) hee
  ·refine ⟨true, ?_, ?_⟩
   ·unfold j1I.l0
    rw [hdd, u64_in (by omega) (by omega), if_neg (by omega)]
   ·refine ⟨fun _ e he hee => ?_, fun _ => rfl⟩
    have : d * d ≤ e * e := Nat.mul_le_mul he he
    omega

theorem ref_Is_ev (p : Nat) : Ev (fun k => j1I.f k (p : Int)) (isP p) := by
 by_cases h3 : p < 3
 ·refine Ev.same (r := false) ?_ ?_
  ·unfold j1I.f
   refine Ev.pos (by omega) (Ev.step (f := fun _ => some false) (fun k => ?_) (Ev.now _))
   simp [j1I.j0]
  ·refine (Bool.eq_false_iff.2 fun h => ?_).symm
   have := (isP_iff.1 h).1
   omega
 by_cases hbig : 65537 < p
 ·refine Ev.same (r := false) ?_ ?_
  ·unfold j1I.f
   refine Ev.neg (by omega) (Ev.step (f := fun _ => some false) (fun k => ?_) (Ev.now _))
   simp only [j1I.j0]
   rw [if_pos (by simp; omega)]
  ·refine (Bool.eq_false_iff.2 fun h => ?_).symm
   have := (isP_iff.1 h).2.1
   omega
 ·obtain ⟨r, hr, hi⟩ := ref_Is_l0 p (by omega) 65537 2 (by omega) (by omega) (by
   have : 65537 * 2 ≤ (2 + 65537) * (2 + 65537) := Nat.mul_le_mul (by omega) (by omega)
   omega)
  refine Ev.same (r := r) ?_ ?_
  ·unfold j1I.f
   refine Ev.neg (by omega) (Ev.step (f := fun k => j1I.l0 k (p : Int) 2) (fun k => ?_) (Ev.of (fun k => (j1I.mono_l k).2 (p : Int) 2) hr))
   simp only [j1I.j0]
   rw [if_neg (by simp; omega)]
  ·rw [Bool.eq_iff_iff, hi, isP_iff]
   exact ⟨fun h => ⟨by omega, by omega, h⟩, fun h => h.2.2⟩

/-! ### setups -/
noncomputable def setupV (p : Nat) (N T : Int) : Int := if isP p = true ∧ 1 ≤ N ∧ N ≤ 13 ∧ 0 ≤ T ∧ 4 * T + 1 ≤ N ∧ N < (p : Int) then 0 else 2
theorem setupV_zero {p : Nat} {N T : Int} (h : setupV p N T = 0) : isP p = true ∧ 1 ≤ N ∧ N ≤ 13 ∧ 0 ≤ T ∧ 4 * T + 1 ≤ N ∧ N < (p : Int) := by
 unfold setupV at h
 by_cases hc : isP p = true ∧ 1 ≤ N ∧ N ≤ 13 ∧ 0 ≤ T ∧ 4 * T + 1 ≤ N ∧ N < (p : Int)
 ·exact hc
 ·rw [if_neg hc] at h
  exact absurd h (by decide)
theorem share_Setup_ev (p : Nat) (N T : Int) : Ev (fun k => shS.f k (p : Int) N T) (setupV p N T) := by
 unfold shS.f
 refine Ev.bind (field_Is_ev p) ?_
 by_cases h : isP p = true
 ·refine Ev.pos h ?_
  by_cases h1 : N < 1
  ·exact Ev.pos h1 (Ev_some (by unfold setupV; rw [if_neg (by omega)]))
  refine Ev.neg h1 ?_
  by_cases h2 : N > 13
  ·exact Ev.pos h2 (Ev_some (by unfold setupV; rw [if_neg (by omega)]))
  refine Ev.neg h2 ?_
  by_cases h3 : T < 0
  ·exact Ev.pos h3 (Ev_some (by unfold setupV; rw [if_neg (by omega)]))
  refine Ev.neg h3 ?_
  by_cases h4 : T > N
  ·exact Ev.pos h4 (Ev_some (by unfold setupV; rw [if_neg (by omega)]))
  refine Ev.neg h4 ?_
  rw [w64_in (x := 4 * T) (by omega) (by omega), w64_in (by omega) (by omega)]
  by_cases h5 : 4 * T + 1 > N
  ·exact Ev.pos h5 (Ev_some (by unfold setupV; rw [if_neg (by omega)]))
  refine Ev.neg h5 ?_
  rw [u64_in (by omega) (by omega)]
  by_cases h6 : (p : Int) ≤ N
  ·exact Ev.pos h6 (Ev_some (by unfold setupV; rw [if_neg (by omega)]))
  ·exact Ev.neg h6 (Ev_some (by unfold setupV; rw [if_pos ⟨h, by omega, by omega, by omega, by omega, by omega⟩]))
 ·exact Ev.neg h (Ev_some (by unfold setupV; rw [if_neg (fun q => h q.1)]))
theorem ref_Setup_ev (p : Nat) (N T : Int) : Ev (fun k => j4S.f k (p : Int) N T) (setupV p N T) := by
 unfold j4S.f
 refine Ev.bind (ref_Is_ev p) ?_
 by_cases h : isP p = true
 ·refine Ev.pos h ?_
  by_cases h1 : N < 1
  ·exact Ev.pos h1 (Ev_some (by unfold setupV; rw [if_neg (by omega)]))
  refine Ev.neg h1 ?_
  by_cases h2 : N > 13
  ·exact Ev.pos h2 (Ev_some (by unfold setupV; rw [if_neg (by omega)]))
  refine Ev.neg h2 ?_
  by_cases h3 : T < 0
  ·exact Ev.pos h3 (Ev_some (by unfold setupV; rw [if_neg (by omega)]))
  refine Ev.neg h3 ?_
  by_cases h4 : T > 13
  ·exact Ev.pos h4 (Ev_some (by unfold setupV; rw [if_neg (by omega)]))
  refine Ev.neg h4 ?_
  rw [w64_in (x := 4 * T) (by omega) (by omega), w64_in (by omega) (by omega)]
  by_cases h5 : N < 4 * T + 1
  ·exact Ev.pos h5 (Ev_some (by unfold setupV; rw [if_neg (by omega)]))
  refine Ev.neg h5 ?_
  rw [u64_in (by omega) (by omega)]
  by_cases h6 : (p : Int) ≤ N
  ·exact Ev.pos h6 (Ev_some (by unfold setupV; rw [if_neg (by omega)]))
  ·exact Ev.neg h6 (Ev_some (by unfold setupV; rw [if_pos ⟨h, by omega, by omega, by omega, by omega, by omega⟩]))
 ·exact Ev.neg h (Ev_some (by unfold setupV; rw [if_neg (fun q => h q.1)]))
/-! ### rising lists -/
/-- Rising from x on, up to N. -/
def risesB (N : Int) : Int → List Int → Bool
 | _, [] => true
 | x, y :: l => decide (x < y) && decide (y ≤ N) && risesB N y l
theorem rises_cons (N x y : Int) (l : List Int) : risesB N x (y :: l) = (decide (x < y) && decide (y ≤ N) && risesB N y l) := rfl
theorem corr_l0 (P N T : Int) (l : List Int) (hl : l.length < 4611686018427387904) : ∀ (d i : Nat) (x : Int), i + d = l.length → ∀ k, d < k → shC.l0 k x l (l.length : Int) (i : Int) P N T = some (if risesB N x (l.drop i) = true then 0 else 2)
 | 0, i, x, hi, k, hk => by
  obtain ⟨k, rfl⟩ : ∃ m, k = m + 1 := ⟨k - 1, by omega⟩
  unfold shC.l0
  rw [if_neg (by omega), List.drop_eq_nil_of_le (by omega)]
  rfl
 | d + 1, i, x, hi, k, hk => by
  obtain ⟨k, rfl⟩ : ∃ m, k = m + 1 := ⟨k - 1, by omega⟩
  have hil : i < l.length := by omega
  have ih := fun y => corr_l0 P N T l hl d (i + 1) y (by omega) k (by omega)
  unfold shC.l0
  rw [if_pos (by omega), if_pos (by omega), if_pos (by omega), rd_nat _ _ hil, List.drop_eq_getElem_cons hil, rises_cons]
  by_cases h1 : l[i] ≤ x
  ·rw [if_pos h1, decide_eq_false (p := x < l[i]) (by omega)]
   rfl
  by_cases h2 : l[i] > N
  ·rw [if_neg h1, if_pos h2, decide_eq_false (p := l[i] ≤ N) (by omega), Bool.and_false]
   rfl
  ·rw [if_neg h1, if_neg h2, w64_in (by omega) (by omega)]
   have := ih l[i]
   rw [show ((i : Int) + 1) = ((i + 1 : Nat) : Int) from by omega, this]
   have e1 : decide (x < l[i]) = true := decide_eq_true (by omega)
   have e2 : decide (l[i] ≤ N) = true := decide_eq_true (by omega)
   rw [e1, e2]
   rfl
noncomputable def corrV (p : Nat) (N T : Int) (l : List Int) : Int := if setupV p N T = 0 then (if (l.length : Int) ≤ T ∧ risesB N 0 l = true then 0 else 2) else setupV p N T
theorem corrV_zero {p : Nat} {N T : Int} {l : List Int} (h : corrV p N T l = 0) : setupV p N T = 0 ∧ (l.length : Int) ≤ T ∧ risesB N 0 l = true := by
 unfold corrV at h
 by_cases hs : setupV p N T = 0
 ·rw [if_pos hs] at h
  by_cases hc : (l.length : Int) ≤ T ∧ risesB N 0 l = true
  ·exact ⟨hs, hc⟩
  ·rw [if_neg hc] at h
   exact absurd h (by decide)
 ·rw [if_neg hs] at h
  exact absurd h hs
theorem share_Corrupted_ev (p : Nat) (N T : Int) (l : List Int) : Ev (fun k => shC.f k (p : Int) N T l) (corrV p N T l) := by
 unfold shC.f corrV
 refine Ev.bind (share_Setup_ev p N T) ?_
 by_cases h : setupV p N T = 0
 ·refine Ev.pos h ?_
  rw [if_pos h]
  by_cases h1 : (l.length : Int) > T
  ·exact Ev.pos h1 (Ev_some (by rw [if_neg (by omega)]))
  ·have hs := setupV_zero h
   have hl : l.length < 4611686018427387904 := by omega
   refine Ev.neg h1 (Ev.same ⟨l.length + 1, fun k hk => corr_l0 _ N T l hl l.length 0 0 (by omega) k (by omega)⟩ ?_)
   rw [List.drop_zero]
   by_cases h2 : risesB N 0 l = true
   ·rw [if_pos h2, if_pos ⟨by omega, h2⟩]
   ·rw [if_neg h2, if_neg (fun q => h2 q.2)]
 ·refine Ev.neg h (Ev_some ?_)
  rw [if_neg h]
theorem rising_l0 (N : Int) (l : List Int) (hl : l.length < 4611686018427387904) : ∀ (d i : Nat) (x : Int), i + d = l.length → (i = 0 → x = 0) → (0 < i → x = l.getD (i - 1) 0 ∧ 1 ≤ x) → ∀ k, d < k → j4R.l0 k N l l (l.length : Int) (i : Int) = some (risesB N x (l.drop i))
 | 0, i, x, hi, _, _, k, hk => by
  obtain ⟨k, rfl⟩ : ∃ m, k = m + 1 := ⟨k - 1, by omega⟩
  unfold j4R.l0
  rw [if_neg (by omega), List.drop_eq_nil_of_le (by omega)]
  rfl
 | d + 1, i, x, hi, hx0, hx1, k, hk => by
  obtain ⟨k, rfl⟩ : ∃ m, k = m + 1 := ⟨k - 1, by omega⟩
  have hil : i < l.length := by omega
  unfold j4R.l0
  rw [if_pos (by omega), if_pos (by omega), if_pos (by omega), rd_nat _ _ hil, List.drop_eq_getElem_cons hil, rises_cons]
  have hx : 0 ≤ x := by
   rcases Nat.eq_zero_or_pos i with h | h
   ·rw [hx0 h]; omega
   ·have := (hx1 h).2; omega
  by_cases h1 : l[i] < 1
  ·rw [if_pos h1, decide_eq_false (p := x < l[i]) (by omega)]
   rfl
  rw [if_neg h1]
  by_cases h2 : l[i] > N
  ·rw [if_pos h2, decide_eq_false (p := l[i] ≤ N) (by omega), Bool.and_false]
   rfl
  rw [if_neg h2, decide_eq_true (p := l[i] ≤ N) (by omega), Bool.and_true]
  have ih := rising_l0 N l hl d (i + 1) l[i] (by omega) (by omega) (fun _ => ⟨by rw [show i + 1 - 1 = i from rfl, List.getD_eq_getElem?_getD, List.getElem?_eq_getElem hil]; rfl, by omega⟩) k (by omega)
  rw [w64_in (x := (i : Int) + 1) (by omega) (by omega), show ((i : Int) + 1) = ((i + 1 : Nat) : Int) from by omega, ih]
  rcases Nat.eq_zero_or_pos i with h0 | h0
  ·rw [if_neg (by omega), hx0 h0, decide_eq_true (p := (0 : Int) < l[i]) (by omega), Bool.true_and]
  ·rw [if_pos (by omega), w64_in (by omega) (by omega), if_pos (by omega), if_pos (by omega), show ((i : Int) - 1) = ((i - 1 : Nat) : Int) from by omega, show rd l ((i - 1 : Nat) : Int) = x from by rw [(hx1 h0).1]; simp [rd]]
   by_cases h3 : x ≥ l[i]
   ·rw [if_pos h3, decide_eq_false (p := x < l[i]) (by omega)]
    rfl
   ·rw [if_neg h3, decide_eq_true (p := x < l[i]) (by omega), Bool.true_and]
theorem rising_ev (N : Int) (l : List Int) (hl : l.length < 4611686018427387904) : Ev (fun k => j4R.f k N l) (risesB N 0 l) := by
 unfold j4R.f
 exact ⟨l.length + 1, fun k hk => by have h := rising_l0 N l hl l.length 0 0 (by omega) (fun _ => rfl) (fun h => absurd h (by omega)) k (by omega); rw [List.drop_zero] at h; exact h⟩
theorem ref_Corrupted_ev (p : Nat) (N T : Int) (l : List Int) : Ev (fun k => j4C.f k (p : Int) N T l) (corrV p N T l) := by
 unfold j4C.f corrV
 refine Ev.bind (ref_Setup_ev p N T) ?_
 by_cases h : setupV p N T = 0
 ·refine Ev.pos h ?_
  rw [if_pos h]
  by_cases h1 : (l.length : Int) > T
  ·exact Ev.pos h1 (Ev_some (by rw [if_neg (by omega)]))
  ·have hs := setupV_zero h
   refine Ev.neg h1 (Ev.bind (rising_ev N l (by omega)) ?_)
   by_cases h2 : risesB N 0 l = true
   ·exact Ev.pos h2 (Ev_some (by rw [if_pos ⟨by omega, h2⟩]))
   ·exact Ev.neg h2 (Ev_some (by rw [if_neg (fun q => h2 q.2)]))
 ·exact Ev.neg h (Ev_some (by rw [if_neg h]))
/-! ### acts -/
theorem index_l0 (l : List Int) (x : Int) (hl : l.length < 4611686018427387904) : ∀ (d i : Nat), i + d = l.length → ∃ z : Int, (∀ k, d < k → sxii.l0 k l x (l.length : Int) (i : Int) = some z) ∧ (0 ≤ z ↔ x ∈ l.drop i)
 | 0, i, hi => ⟨-1, fun k hk => by
   obtain ⟨k, rfl⟩ : ∃ m, k = m + 1 := ⟨k - 1, by omega⟩
   unfold sxii.l0
   rw [if_neg (by omega)], by rw [List.drop_eq_nil_of_le (by omega)]; simp⟩
 | d + 1, i, hi => by
  have hil : i < l.length := by omega
  obtain ⟨z, hz, hq⟩ := index_l0 l x hl d (i + 1) (by omega)
  by_cases h : x = l[i]
  ·refine ⟨(i : Int), fun k hk => ?_, ?_⟩
   ·obtain ⟨k, rfl⟩ : ∃ m, k = m + 1 := ⟨k - 1, by omega⟩
    unfold sxii.l0
    rw [if_pos (by omega), if_pos (by omega), if_pos (by omega), rd_nat _ _ hil, if_pos h]
   ·rw [List.drop_eq_getElem_cons hil]
    exact ⟨fun _ => by rw [h]; exact List.mem_cons_self, fun _ => by omega⟩
  ·refine ⟨z, fun k hk => ?_, ?_⟩
   ·obtain ⟨k, rfl⟩ : ∃ m, k = m + 1 := ⟨k - 1, by omega⟩
    unfold sxii.l0
    rw [if_pos (by omega), if_pos (by omega), if_pos (by omega), rd_nat _ _ hil, if_neg h, w64_in (by omega) (by omega)]
    exact hz k (by omega)
   ·rw [hq, List.drop_eq_getElem_cons hil, List.mem_cons]
    exact ⟨fun q => .inr q, fun q => q.elim (fun e => absurd e h) id⟩
theorem contains_at (l : List Int) (x : Int) (hl : l.length < 4611686018427387904) (k : Nat) (hk : l.length < k) : snii.f k l x = some (decide (x ∈ l)) := by
 obtain ⟨z, hz, hq⟩ := index_l0 l x hl l.length 0 (by omega)
 unfold snii.f sxii.f
 rw [show (0 : Int) = ((0 : Nat) : Int) from rfl, hz k hk]
 rw [List.drop_zero] at hq
 simp only [Option.bind_some, Option.some.injEq, decide_eq_decide]
 exact hq
theorem is_at (l : List Int) (x : Int) (hl : l.length < 4611686018427387904) : ∀ (d i : Nat), i + d = l.length → ∀ k, d < k → jIs.l0 k x l (l.length : Int) (i : Int) = some (decide (x ∈ l.drop i))
 | 0, i, hi, k, hk => by
  obtain ⟨k, rfl⟩ : ∃ m, k = m + 1 := ⟨k - 1, by omega⟩
  unfold jIs.l0
  rw [if_neg (by omega), List.drop_eq_nil_of_le (by omega)]
  rfl
 | d + 1, i, hi, k, hk => by
  obtain ⟨k, rfl⟩ : ∃ m, k = m + 1 := ⟨k - 1, by omega⟩
  have hil : i < l.length := by omega
  have ih := is_at l x hl d (i + 1) (by omega) k (by omega)
  unfold jIs.l0
  rw [if_pos (by omega), if_pos (by omega), if_pos (by omega), rd_nat _ _ hil, List.drop_eq_getElem_cons hil]
  by_cases h : l[i] = x
  ·rw [if_pos h, decide_eq_true (by rw [h]; exact List.mem_cons_self)]
  ·rw [if_neg h, w64_in (by omega) (by omega), show ((i : Int) + 1) = ((i + 1 : Nat) : Int) from by omega, ih]
   congr 1
   rw [decide_eq_decide, List.mem_cons]
   exact ⟨fun q => .inr q, fun q => q.elim (fun e => absurd e.symm h) id⟩
theorem ref_Is_at (l : List Int) (x : Int) (hl : l.length < 4611686018427387904) (k : Nat) (hk : l.length < k) : jIs.f k l x = some (decide (x ∈ l)) := by
 unfold jIs.f
 rw [show (0 : Int) = ((0 : Nat) : Int) from rfl, is_at l x hl l.length 0 (by omega) k hk, List.drop_zero]
def key (a : S72) : S90 := ⟨a.f0, a.f1, a.f2⟩
def same (a b : S72) : Bool := a.f0 == b.f0 && a.f1 == b.f1 && a.f2 == b.f2
def actBad (N : Int) (co : List Int) (prev : List S72) (a : S72) : Int := if a.f1 ∉ co ∨ a.f2 < 0 ∨ N < a.f2 ∨ a.f2 = a.f1 ∨ a.f0 < 1 then 2 else if 65536 < a.f4.length then 3 else if prev.any (same a) = true then 6 else 0
def actsV (N : Int) (co : List Int) : List S72 → List S72 → Int
 | _, [] => 0
 | prev, a :: l => if actBad N co prev a = 0 then actsV N co (prev ++ [a]) l else actBad N co prev a
theorem actsV_cons (N : Int) (co : List Int) (prev : List S72) (a : S72) (l : List S72) : actsV N co prev (a :: l) = if actBad N co prev a = 0 then actsV N co (prev ++ [a]) l else actBad N co prev a := rfl
theorem actsV_bad {N : Int} {co : List Int} {prev : List S72} {a : S72} {v : Int} (l : List S72) (h : actBad N co prev a = v) (hv : v ≠ 0) : actsV N co prev (a :: l) = v := by
 rw [actsV_cons, h, if_neg hv]
theorem actsV_good {N : Int} {co : List Int} {prev : List S72} {a : S72} (l : List S72) (h : actBad N co prev a = 0) : actsV N co prev (a :: l) = actsV N co (prev ++ [a]) l := by
 rw [actsV_cons, if_pos h]
theorem has_key (prev : List S72) (a : S72) : net_has.f (prev.map key) a.f0 a.f1 a.f2 = some (prev.any (same a)) := by
 unfold net_has.f
 congr 1
 rw [Bool.eq_iff_iff, @decide_eq_true_iff _ (Classical.propDecidable _), List.any_eq_true, List.mem_map]
 constructor
 ·rintro ⟨b, hb, he⟩
  refine ⟨b, hb, ?_⟩
  simp only [key, S90.mk.injEq] at he
  obtain ⟨h1, h2, h3⟩ := he
  simp [same, h1, h2, h3]
 ·rintro ⟨b, hb, he⟩
  simp only [same, Bool.and_eq_true, beq_iff_eq] at he
  exact ⟨b, hb, by simp [key, he.1.1, he.1.2, he.2]⟩
theorem rd72 (l : List S72) (i : Nat) (h : i < l.length) : r72 l (i : Int) = l[i] := by
 simp [r72, List.getD_eq_getElem?_getD, h]
theorem acts_l0 (N P T : Int) (co : List Int) (hco : co.length < 4611686018427387904) (la : List S72) (hla : la.length ≤ 65536) : ∀ (d i : Nat), i + d = la.length → ∀ k, 2 * d + co.length + 2 ≤ k → net_acts.l0 k co ((la.take i).map key) la (la.length : Int) (i : Int) P N T = some (actsV N co (la.take i) (la.drop i))
 | 0, i, hi, k, hk => by
  obtain ⟨k, rfl⟩ : ∃ m, k = m + 1 := ⟨k - 1, by omega⟩
  unfold net_acts.l0
  rw [if_neg (by omega), List.drop_eq_nil_of_le (by omega)]
  rfl
 | d + 1, i, hi, k, hk => by
  obtain ⟨k, rfl⟩ : ∃ m, k = m + 2 := ⟨k - 2, by omega⟩
  have hil : i < la.length := by omega
  have ih := acts_l0 N P T co hco la hla d (i + 1) (by omega) k (by omega)
  rw [List.drop_eq_getElem_cons hil]
  unfold net_acts.l0
  rw [if_pos (by omega), if_pos (by omega), if_pos (by omega), rd72 _ _ hil, contains_at co _ hco (k + 1) (by omega)]
  simp only [Option.bind_some]
  have bad : ∀ (b : Bool), b = decide (la[i].f1 ∉ co ∨ la[i].f2 < 0 ∨ N < la[i].f2 ∨ la[i].f2 = la[i].f1 ∨ la[i].f0 < 1) →
    net_acts.j1 (k + 1) co ((la.take i).map key) la (la.length : Int) (i : Int) b P N T la[i].f0 la[i].f1 la[i].f2 la[i].f3 la[i].f4 la[i].f0 la[i].f1 la[i].f2 = some (actsV N co (la.take i) (la[i] :: la.drop (i + 1))) := by
   intro b hb
   unfold net_acts.j1
   by_cases hc : la[i].f1 ∉ co ∨ la[i].f2 < 0 ∨ N < la[i].f2 ∨ la[i].f2 = la[i].f1 ∨ la[i].f0 < 1
   ·rw [decide_eq_true hc] at hb
    rw [if_pos hb, actsV_bad (v := 2) _ (by unfold actBad; rw [if_pos hc]) (by decide)]
   rw [decide_eq_false hc] at hb
   rw [if_neg (by rw [hb]; decide)]
   by_cases hd : (la[i].f4.length : Int) > 65536
   ·rw [if_pos hd, actsV_bad (v := 3) _ (by unfold actBad; rw [if_neg hc, if_pos (by omega)]) (by decide)]
   rw [if_neg hd, has_key]
   simp only [Option.bind_some]
   by_cases he : (la.take i).any (same la[i]) = true
   ·rw [if_pos he, actsV_bad (v := 6) _ (by unfold actBad; rw [if_neg hc, if_neg (by omega), if_pos he]) (by decide)]
   ·rw [if_neg he, if_pos (by simp; omega), w64_in (by omega) (by omega), actsV_good _ (by unfold actBad; rw [if_neg hc, if_neg (by omega), if_neg he])]
    rw [List.take_succ_eq_append_getElem hil, List.map_append] at ih
    exact ih
  by_cases h0 : la[i].f1 ∈ co
  ·rw [if_pos (decide_eq_true h0)]
   by_cases h1 : la[i].f2 < 0
   ·rw [if_pos h1]
    exact bad true (by rw [decide_eq_true]; exact .inr (.inl h1))
   rw [if_neg h1]
   by_cases h2 : la[i].f2 > N
   ·rw [if_pos h2]
    exact bad true (by rw [decide_eq_true]; exact .inr (.inr (.inl h2)))
   rw [if_neg h2]
   by_cases h3 : la[i].f2 = la[i].f1
   ·rw [if_pos h3]
    exact bad true (by rw [decide_eq_true]; exact .inr (.inr (.inr (.inl h3))))
   rw [if_neg h3]
   exact bad _ (by rw [decide_eq_decide]; exact ⟨fun h => .inr (.inr (.inr (.inr h))), fun h => by
    rcases h with h | h | h | h | h
    ·exact absurd h0 h
    ·exact absurd h h1
    ·exact absurd h h2
    ·exact absurd h h3
    ·exact h⟩)
  ·rw [if_neg (by simp [h0])]
   exact bad true (by rw [decide_eq_true]; exact .inl h0)
theorem net_acts_ev (P N T : Int) (co : List Int) (hco : co.length < 4611686018427387904) (la : List S72) : Ev (fun k => net_acts.f k P N T co la) (if 65536 < la.length then 3 else actsV N co [] la) := by
 unfold net_acts.f
 by_cases h : (la.length : Int) > 65536
 ·exact Ev.pos h (Ev_some (by rw [if_pos (by omega)]))
 ·refine Ev.neg h ⟨2 * la.length + co.length + 2, fun k hk => ?_⟩
  rw [if_neg (by omega)]
  exact acts_l0 N P T co hco la (by omega) la.length 0 (by omega) k hk
/-- The error of a world. -/
noncomputable def checkV (p : Nat) (N T : Int) (co : List Int) (la : List S72) (tn : Nat) (R : Int) : Int := if corrV p N T co = 0 then (if (tn : Int) = N ∧ 0 ≤ R ∧ R ≤ 1048576 then (if 65536 < la.length then 3 else actsV N co [] la) else 2) else corrV p N T co
theorem net_Check_ev (p : Nat) (N T : Int) (co : List Int) (la : List S72) (ta : List (List Int)) (R : Int) (se : List S77) : Ev (fun k => net_Check.f k (p : Int) N T co la ta R se) (checkV p N T co la ta.length R) := by
 unfold net_Check.f checkV
 refine Ev.bind (share_Corrupted_ev p N T co) ?_
 by_cases h : corrV p N T co = 0
 ·have hz := corrV_zero h
  have hs := setupV_zero hz.1
  have hco : co.length < 4611686018427387904 := by omega
  refine Ev.pos h ?_
  rw [if_pos h]
  by_cases h1 : (ta.length : Int) = N
  ·refine Ev.pos h1 ?_
   by_cases h2 : R < 0
   ·exact Ev.pos h2 (Ev_some (by rw [if_neg (by omega)]))
   refine Ev.neg h2 ?_
   by_cases h3 : R > 1048576
   ·exact Ev.pos h3 (Ev_some (by rw [if_neg (by omega)]))
   refine Ev.neg h3 ?_
   rw [if_pos ⟨h1, by omega, by omega⟩]
   exact Ev.bind (net_acts_ev _ N T co hco la) (Ev.now _)
  ·exact Ev.neg h1 (Ev_some (by rw [if_neg (fun q => h1 q.1)]))
 ·exact Ev.neg h (Ev_some (by rw [if_neg h]))
/-! ### the reference -/
theorem ahead_l0 (a : S72) (l : List S72) (hl : l.length < 4611686018427387904) : ∀ (d i : Nat), i + d = l.length → ∀ k, d < k → jAh.l0 k l (l.length : Int) (i : Int) a.f0 a.f1 a.f2 a.f3 a.f4 = some ((l.drop i).any (same a))
 | 0, i, hi, k, hk => by
  obtain ⟨k, rfl⟩ : ∃ m, k = m + 1 := ⟨k - 1, by omega⟩
  unfold jAh.l0
  rw [if_neg (by omega), List.drop_eq_nil_of_le (by omega)]
  rfl
 | d + 1, i, hi, k, hk => by
  obtain ⟨k, rfl⟩ : ∃ m, k = m + 1 := ⟨k - 1, by omega⟩
  have hil : i < l.length := by omega
  have ih := ahead_l0 a l hl d (i + 1) (by omega) k (by omega)
  unfold jAh.l0
  rw [if_pos (by omega), if_pos (by omega), if_pos (by omega), rd72 _ _ hil, List.drop_eq_getElem_cons hil, List.any_cons, w64_in (by omega) (by omega), show ((i : Int) + 1) = ((i + 1 : Nat) : Int) from by omega, ih]
  by_cases h0 : a.f0 = l[i].f0
  ·rw [if_pos h0]
   by_cases h1 : a.f1 = l[i].f1
   ·rw [if_pos h1]
    by_cases h2 : a.f2 = l[i].f2
    ·rw [if_pos h2]
     simp [same, h0, h1, h2]
    ·rw [if_neg h2]
     simp [same, h2]
   ·rw [if_neg h1]
    simp [same, h1]
  ·rw [if_neg h0]
   simp [same, h0]
theorem ahead_at (a : S72) (l : List S72) (hl : l.length < 4611686018427387904) (k : Nat) (hk : l.length < k) : jAh.f k l a.f0 a.f1 a.f2 a.f3 a.f4 = some (l.any (same a)) := by
 unfold jAh.f
 rw [show (0 : Int) = ((0 : Nat) : Int) from rfl, ahead_l0 a l hl l.length 0 (by omega) k hk, List.drop_zero]
theorem ref_acts_l0 (P N T R : Int) (co : List Int) (hco : co.length < 4611686018427387904) (la : List S72) (hla : la.length ≤ 65536) (ta : List (List Int)) (se : List S77) : ∀ (d i : Nat), i + d = la.length → ∀ k, 2 * d + co.length + la.length + 2 ≤ k → jCk.l0 k la (la.length : Int) (i : Int) P N T co la ta R se = some (actsV N co (la.take i) (la.drop i))
 | 0, i, hi, k, hk => by
  obtain ⟨k, rfl⟩ : ∃ m, k = m + 1 := ⟨k - 1, by omega⟩
  unfold jCk.l0
  rw [if_neg (by omega), List.drop_eq_nil_of_le (by omega)]
  rfl
 | d + 1, i, hi, k, hk => by
  obtain ⟨k, rfl⟩ : ∃ m, k = m + 2 := ⟨k - 2, by omega⟩
  have hil : i < la.length := by omega
  have ih := ref_acts_l0 P N T R co hco la hla ta se d (i + 1) (by omega) k (by omega)
  rw [List.drop_eq_getElem_cons hil]
  unfold jCk.l0
  rw [if_pos (by omega), if_pos (by omega), if_pos (by omega), rd72 _ _ hil, ref_Is_at co _ hco (k + 1) (by omega)]
  simp only [Option.bind_some]
  have bad : ∀ (b : Bool), b = decide (la[i].f1 ∉ co ∨ la[i].f2 < 0 ∨ N < la[i].f2 ∨ la[i].f2 = la[i].f1 ∨ la[i].f0 < 1) →
    jCk.j2 (k + 1) (i : Int) la (la.length : Int) (i : Int) b P N T co la ta R se la[i].f0 la[i].f1 la[i].f2 la[i].f3 la[i].f4 = some (actsV N co (la.take i) (la[i] :: la.drop (i + 1))) := by
   intro b hb
   unfold jCk.j2
   by_cases hc : la[i].f1 ∉ co ∨ la[i].f2 < 0 ∨ N < la[i].f2 ∨ la[i].f2 = la[i].f1 ∨ la[i].f0 < 1
   ·rw [decide_eq_true hc] at hb
    rw [if_pos hb, actsV_bad (v := 2) _ (by unfold actBad; rw [if_pos hc]) (by decide)]
   rw [decide_eq_false hc] at hb
   rw [if_neg (by rw [hb]; decide)]
   by_cases hd : (la[i].f4.length : Int) > 65536
   ·rw [if_pos hd, actsV_bad (v := 3) _ (by unfold actBad; rw [if_neg hc, if_pos (by omega)]) (by decide)]
   rw [if_neg hd, if_pos (by omega), if_pos (by omega), Int.toNat_natCast, ahead_at la[i] (la.take i) (by simp; omega) k (by simp; omega)]
   simp only [Option.bind_some]
   by_cases he : (la.take i).any (same la[i]) = true
   ·rw [if_pos he, actsV_bad (v := 6) _ (by unfold actBad; rw [if_neg hc, if_neg (by omega), if_pos he]) (by decide)]
   ·rw [if_neg he, w64_in (by omega) (by omega), actsV_good _ (by unfold actBad; rw [if_neg hc, if_neg (by omega), if_neg he])]
    rw [List.take_succ_eq_append_getElem hil] at ih
    exact ih
  by_cases h0 : la[i].f1 ∈ co
  ·rw [if_pos (decide_eq_true h0)]
   by_cases h1 : la[i].f2 < 0
   ·rw [if_pos h1]
    exact bad true (by rw [decide_eq_true]; exact .inr (.inl h1))
   rw [if_neg h1]
   by_cases h2 : la[i].f2 > N
   ·rw [if_pos h2]
    exact bad true (by rw [decide_eq_true]; exact .inr (.inr (.inl h2)))
   rw [if_neg h2]
   by_cases h3 : la[i].f2 = la[i].f1
   ·rw [if_pos h3]
    exact bad true (by rw [decide_eq_true]; exact .inr (.inr (.inr (.inl h3))))
   rw [if_neg h3]
   exact bad _ (by rw [decide_eq_decide]; exact ⟨fun h => .inr (.inr (.inr (.inr h))), fun h => by
    rcases h with h | h | h | h | h
    ·exact absurd h0 h
    ·exact absurd h h1
    ·exact absurd h h2
    ·exact absurd h h3
    ·exact h⟩)
  ·rw [if_neg (by simp [h0])]
   exact bad true (by rw [decide_eq_true]; exact .inl h0)
theorem ref_Check_ev (p : Nat) (N T : Int) (co : List Int) (la : List S72) (ta : List (List Int)) (R : Int) (se : List S77) : Ev (fun k => jCk.f k (p : Int) N T co la ta R se) (checkV p N T co la ta.length R) := by
 have bad : co.length < 4611686018427387904 → ∀ b : Bool, ∀ v : Int, (b = true → v = 2) → (b = false → v = if 65536 < la.length then 3 else actsV N co [] la) → Ev (fun k => jCk.j0 k b (p : Int) N T co la ta R se) v := by
  intro hco b v h1 h2
  refine ⟨2 * la.length + co.length + la.length + 3, fun k hk => ?_⟩
  obtain ⟨k, rfl⟩ : ∃ m, k = m + 1 := ⟨k - 1, by omega⟩
  show (if b = true then some 2 else (if (la.length : Int) > 65536 then some 3 else jCk.l0 k la (la.length : Int) 0 (p : Int) N T co la ta R se)) = some v
  cases b with
  | true => rw [if_pos rfl, h1 rfl]
  | false =>
   rw [if_neg (by decide), h2 rfl]
   by_cases h : (la.length : Int) > 65536
   ·rw [if_pos h, if_pos (by omega)]
   ·rw [if_neg h, if_neg (by omega)]
    exact ref_acts_l0 _ N T R co hco la (by omega) ta se la.length 0 (by omega) k (by omega)
 unfold jCk.f checkV
 refine Ev.bind (ref_Corrupted_ev p N T co) ?_
 by_cases h : corrV p N T co = 0
 ·have hz := corrV_zero h
  have hs := setupV_zero hz.1
  have hco : co.length < 4611686018427387904 := by omega
  refine Ev.pos h ?_
  rw [if_pos h]
  by_cases h1 : (ta.length : Int) = N
  ·refine Ev.pos h1 ?_
   by_cases h2 : R < 0
   ·exact Ev.pos h2 (bad hco true _ (fun _ => by rw [if_neg (by omega)]) (fun q => absurd q (by decide)))
   refine Ev.neg h2 (bad hco _ _ (fun q => ?_) (fun q => ?_))
   ·rw [if_neg (by have := of_decide_eq_true q; omega)]
   ·rw [if_pos ⟨h1, by omega, by have := of_decide_eq_false q; omega⟩]
  ·exact Ev.neg h1 (bad hco true _ (fun _ => by rw [if_neg (fun q => h1 q.1)]) (fun q => absurd q (by decide)))
 ·exact Ev.neg h (Ev_some (by rw [if_neg h]))
end Go.Proofs.Ytkaikgbcnmfppaa.Nb
