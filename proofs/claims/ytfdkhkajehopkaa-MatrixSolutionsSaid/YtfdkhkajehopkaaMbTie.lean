/- What the field's functions come to, in plain numbers. -/
import Derived.Test.YtfdkhkajehopkaaMb1
import Derived.Test.YtfdkhkajehopkaaMb2
import Derived.Test.YtfdkhkajehopkaaMb3
import Derived.Test.YtfdkhkajehopkaaArith
namespace Go.Proofs.Ytfdkhkajehopkaa.Mb
open Go.RowKit Go.Proofs.YtfdkhkajehopkaaW.PrintWords Go.Proofs.YtfdkhkajehopkaaW.PrintLast Go.Proofs.YtfdkhkajehopkaaW.PrintMore
open Go.Proofs.Ytfdkhkajehopkaa.Num Go.Proofs.Ytfdkhkajehopkaa.Arith
set_option linter.unusedVariables false

theorem field_Is_l0 (p : Nat) (hp : p ≤ 65537) : ∀ (n d : Nat), 3 ≤ d → d ≤ 65537 → p < (d + 2 * n) * (d + 2 * n) →
  ∃ r, field_Is.l0 (n + 1) (p : Int) (d : Int) = some r ∧ (r = true ↔ ∀ e, d ≤ e → e % 2 = d % 2 → e * e ≤ p → ¬ e ∣ p) := by
 intro n
 induction n with
 | zero =>
  intro d h3 hd hn
  refine ⟨true, ?_, ?_⟩
  ·unfold field_Is.l0
   have hdd : (d : Int) * d = ((d * d : Nat) : Int) := by push_cast; rfl
   have hb : d * d ≤ 65537 * 65537 := Nat.mul_le_mul hd hd
   rw [hdd, u64_in (by omega) (by omega), if_neg (by simp at hn; omega)]
  ·refine ⟨fun _ e he _ hee => ?_, fun _ => rfl⟩
   have : d * d ≤ e * e := Nat.mul_le_mul he he
   simp at hn
   omega
 | succ n ih =>
  intro d h3 hd hn
  have hdd : (d : Int) * d = ((d * d : Nat) : Int) := by push_cast; rfl
  have hb : d * d ≤ 65537 * 65537 := Nat.mul_le_mul hd hd
  by_cases hle : d * d ≤ p
  ·have h257 : d ≤ 65535 := by
    apply Classical.byContradiction
    intro hc
    have : 65536 * 65536 ≤ d * d := Nat.mul_le_mul (by omega) (by omega)
    omega
   by_cases hdiv : d ∣ p
   ·refine ⟨false, ?_, ?_⟩
    ·unfold field_Is.l0
     rw [hdd, u64_in (by omega) (by omega), if_pos (by omega), if_neg (by omega), tmod_nat, if_pos (by rw [Nat.mod_eq_zero_of_dvd hdiv]; rfl)]
    ·exact ⟨(fun h => by cases h), fun h => absurd hdiv (h d (Nat.le_refl _) rfl hle)⟩
   ·obtain ⟨r, hr, hi⟩ := ih (d + 2) (by omega) (by omega) (by rw [show d + 2 + 2 * n = d + 2 * (n + 1) by omega]; exact hn)
    refine ⟨r, ?_, ?_⟩
    ·rw [show n + 1 + 1 = (n + 1) + 1 from rfl]
     unfold field_Is.l0
     rw [hdd, u64_in (by omega) (by omega), if_pos (by omega), if_neg (by omega), tmod_nat,
      if_neg (by intro h0; exact hdiv (Nat.dvd_of_mod_eq_zero (by omega))), u64_in (by omega) (by omega)]
     exact hr
    ·rw [hi]
     constructor
     ·intro h e he hpar hee
      by_cases hed : e = d
      ·subst hed; exact hdiv
      ·exact h e (by omega) (by omega) hee
     ·intro h e he hpar hee
      exact h e (by omega) (by omega) hee
  ·refine ⟨true, ?_, ?_⟩
   ·unfold field_Is.l0
    rw [hdd, u64_in (by omega) (by omega), if_neg (by omega)]
   ·refine ⟨fun _ e he _ hee => ?_, fun _ => rfl⟩
    have : d * d ≤ e * e := Nat.mul_le_mul he he
    omega
theorem field_Is_ev (p : Nat) : Ev (fun k => field_Is.f k (p : Int)) (isP p) := by
 by_cases h3 : p < 3
 ·refine Ev.same (r := false) ?_ ?_
  ·unfold field_Is.f
   refine Ev.pos (by omega) (Ev.step (f := fun _ => some false) (fun k => ?_) (Ev.now _))
   simp [field_Is.j0]
  ·refine (Bool.eq_false_iff.2 fun h => ?_).symm
   have := (isP_iff.1 h).1
   omega
 by_cases hbig : 65537 < p
 ·refine Ev.same (r := false) ?_ ?_
  ·unfold field_Is.f
   refine Ev.neg (by omega) (Ev.pos (by omega) (Ev.step (f := fun _ => some false) (fun k => ?_) (Ev.now _)))
   simp [field_Is.j0]
  ·refine (Bool.eq_false_iff.2 fun h => ?_).symm
   have := (isP_iff.1 h).2.1
   omega
 by_cases hev : p % 2 = 0
 ·refine Ev.same (r := false) ?_ ?_
  ·unfold field_Is.f
   refine Ev.neg (by omega) (Ev.neg (by omega) (Ev.step (f := fun _ => some false) (fun k => ?_) (Ev.now _)))
   have : Int.tmod (p : Int) 2 = 0 := by
    have : Int.tmod (p : Int) 2 = ((p % 2 : Nat) : Int) := tmod_nat p 2
    omega
   simp [field_Is.j0, this]
  ·refine (Bool.eq_false_iff.2 fun h => ?_).symm
   have := (isP_iff.1 h).odd
   omega
 ·obtain ⟨r, hr, hi⟩ := field_Is_l0 p (by omega) 65537 3 (by omega) (by omega) (by
   have : 65537 * 1 ≤ (3 + 2 * 65537) * (3 + 2 * 65537) := Nat.mul_le_mul (by omega) (by omega)
   omega)
  refine Ev.same (r := r) ?_ ?_
  ·have : Int.tmod (p : Int) 2 = 1 := by
    have : Int.tmod (p : Int) 2 = ((p % 2 : Nat) : Int) := tmod_nat p 2
    omega
   unfold field_Is.f
   refine Ev.neg (by omega) (Ev.neg (by omega) (Ev.step (f := fun k => field_Is.l0 k (p : Int) 3) (fun k => ?_) (Ev.of (fun k => (field_Is.mono_l k).2 (p : Int) 3) hr)))
   simp [field_Is.j0, this]
  ·rw [Bool.eq_iff_iff, hi, isP_iff]
   constructor
   ·intro h
    refine ⟨by omega, by omega, fun d hd hdd hdiv => ?_⟩
    by_cases hpar : d % 2 = 1
    ·exact h d (by omega) (by omega) hdd hdiv
    ·obtain ⟨q, hq⟩ := hdiv
     have hm : p % 2 = (d * q) % 2 := by rw [← hq]
     rw [Nat.mul_mod, show d % 2 = 0 by omega] at hm
     simp at hm
     omega
   ·intro h e he _ hee
    exact h.2.2 e (by omega) hee
theorem ref_Is_l0 (p : Nat) (hp : p ≤ 65537) : ∀ (n d : Nat), 2 ≤ d → d ≤ 65537 → p < (d + n) * (d + n) →
  ∃ r, juntoref01_Is.l0 (n + 1) (p : Int) (d : Int) = some r ∧ (r = true ↔ ∀ e, d ≤ e → e * e ≤ p → ¬ e ∣ p) := by
 intro n
 induction n with
 | zero =>
  intro d h3 hd hn
  refine ⟨true, ?_, ?_⟩
  ·unfold juntoref01_Is.l0
   have hdd : (d : Int) * d = ((d * d : Nat) : Int) := by push_cast; rfl
   have hb : d * d ≤ 65537 * 65537 := Nat.mul_le_mul hd hd
   rw [hdd, u64_in (by omega) (by omega), if_neg (by simp at hn; omega)]
  ·refine ⟨fun _ e he hee => ?_, fun _ => rfl⟩
   have : d * d ≤ e * e := Nat.mul_le_mul he he
   simp at hn
   omega
 | succ n ih =>
  intro d h3 hd hn
  have hdd : (d : Int) * d = ((d * d : Nat) : Int) := by push_cast; rfl
  have hb : d * d ≤ 65537 * 65537 := Nat.mul_le_mul hd hd
  by_cases hle : d * d ≤ p
  ·have h257 : d ≤ 65535 := by
    apply Classical.byContradiction
    intro hc
    have : 65536 * 65536 ≤ d * d := Nat.mul_le_mul (by omega) (by omega)
    omega
   by_cases hdiv : d ∣ p
   ·refine ⟨false, ?_, ?_⟩
    ·unfold juntoref01_Is.l0
     rw [hdd, u64_in (by omega) (by omega), if_pos (by omega), if_neg (by omega), tmod_nat, if_pos (by rw [Nat.mod_eq_zero_of_dvd hdiv]; rfl)]
    ·exact ⟨(fun h => by cases h), fun h => absurd hdiv (h d (Nat.le_refl _) hle)⟩
   ·obtain ⟨r, hr, hi⟩ := ih (d + 1) (by omega) (by omega) (by rw [show d + 1 + n = d + (n + 1) by omega]; exact hn)
    refine ⟨r, ?_, ?_⟩
    ·unfold juntoref01_Is.l0
     rw [hdd, u64_in (by omega) (by omega), if_pos (by omega), if_neg (by omega), tmod_nat,
      if_neg (by intro h0; exact hdiv (Nat.dvd_of_mod_eq_zero (by omega))), u64_in (by omega) (by omega)]
     exact hr
    ·rw [hi]
     constructor
     ·intro h e he hee
      by_cases hed : e = d
      ·subst hed; exact hdiv
      ·exact h e (by omega) hee
     ·intro h e he hee
      exact h e (by omega) hee
  ·refine ⟨true, ?_, ?_⟩
   ·unfold juntoref01_Is.l0
    rw [hdd, u64_in (by omega) (by omega), if_neg (by omega)]
   ·refine ⟨fun _ e he hee => ?_, fun _ => rfl⟩
    have : d * d ≤ e * e := Nat.mul_le_mul he he
    omega
theorem ref_Is_ev (p : Nat) : Ev (fun k => juntoref01_Is.f k (p : Int)) (isP p) := by
 by_cases h3 : p < 3
 ·refine Ev.same (r := false) ?_ ?_
  ·unfold juntoref01_Is.f
   refine Ev.pos (by omega) (Ev.step (f := fun _ => some false) (fun k => ?_) (Ev.now _))
   simp [juntoref01_Is.j0]
  ·refine (Bool.eq_false_iff.2 fun h => ?_).symm
   have := (isP_iff.1 h).1
   omega
 by_cases hbig : 65537 < p
 ·refine Ev.same (r := false) ?_ ?_
  ·unfold juntoref01_Is.f
   refine Ev.neg (by omega) (Ev.step (f := fun _ => some false) (fun k => ?_) (Ev.now _))
   simp only [juntoref01_Is.j0]
   rw [if_pos (by simp; omega)]
  ·refine (Bool.eq_false_iff.2 fun h => ?_).symm
   have := (isP_iff.1 h).2.1
   omega
 ·obtain ⟨r, hr, hi⟩ := ref_Is_l0 p (by omega) 65537 2 (by omega) (by omega) (by
   have : 65537 * 2 ≤ (2 + 65537) * (2 + 65537) := Nat.mul_le_mul (by omega) (by omega)
   omega)
  refine Ev.same (r := r) ?_ ?_
  ·unfold juntoref01_Is.f
   refine Ev.neg (by omega) (Ev.step (f := fun k => juntoref01_Is.l0 k (p : Int) 2) (fun k => ?_) (Ev.of (fun k => (juntoref01_Is.mono_l k).2 (p : Int) 2) hr))
   simp only [juntoref01_Is.j0]
   rw [if_neg (by simp; omega)]
  ·rw [Bool.eq_iff_iff, hi, isP_iff]
   exact ⟨fun h => ⟨by omega, by omega, h⟩, fun h => h.2.2⟩
theorem mul_small {p a b : Nat} (hp : p ≤ 65537) (ha : a < p) (hb : b < p) : a * b < 18446744073709551616 := by
 have : a * b ≤ 65537 * 65537 := Nat.mul_le_mul (by omega) (by omega)
 omega
theorem mul_tie {p a b : Nat} (h0 : 0 < p) (hp : p ≤ 65537) (ha : a < p) (hb : b < p) : field_mul.f (p : Int) (a : Int) (b : Int) = some ((a * b % p : Nat) : Int) := by
 have := mul_small hp ha hb
 unfold field_mul.f
 rw [if_neg (by omega), ← Int.natCast_mul, u64_in (by omega) (by omega), tmod_nat]
theorem plus_tie {p a b : Nat} (h0 : 0 < p) (hp : p ≤ 65537) (ha : a < p) (hb : b < p) : field_Plus.f (p : Int) (a : Int) (b : Int) = some (((a + b) % p : Nat) : Int) := by
 unfold field_Plus.f
 rw [u64_in (by omega) (by omega)]
 by_cases h : p ≤ a + b
 ·rw [if_pos (by omega), u64_in (by omega) (by omega)]
  have : (a + b) % p = a + b - p := by rw [Nat.mod_eq_sub_mod h, Nat.mod_eq_of_lt (by omega)]
  congr 1; omega
 ·rw [if_neg (by omega)]
  have : (a + b) % p = a + b := Nat.mod_eq_of_lt (by omega)
  congr 1; omega
theorem minus_tie {p a b : Nat} (h0 : 0 < p) (hp : p ≤ 65537) (ha : a < p) (hb : b < p) : field_Minus.f (p : Int) (a : Int) (b : Int) = some (((a + (p - b)) % p : Nat) : Int) := by
 unfold field_Minus.f
 have e : (p : Int) - b = ((p - b : Nat) : Int) := by omega
 rw [if_neg (by omega), u64_in (by omega) (by omega), e, tmod_nat, plus_tie h0 hp ha (Nat.mod_lt _ h0)]
 simp
theorem pow_l0 (p : Nat) (h0 : 0 < p) (hp : p ≤ 65537) : ∀ (n e a r k : Nat), e ≤ n → n < k → e < 18446744073709551616 → a < p → r < p → field_pow.l0 k (p : Int) (a : Int) (e : Int) (r : Int) = some ((r * a ^ e % p : Nat) : Int) := by
 intro n
 induction n with
 | zero =>
  intro e a r k he hk _ ha hr
  obtain ⟨k, rfl⟩ : ∃ m, k = m + 1 := ⟨k - 1, by omega⟩
  obtain rfl : e = 0 := by omega
  simp only [field_pow.l0]
  rw [if_neg (by omega)]
  simp [Nat.mod_eq_of_lt hr]
 | succ n ih =>
  intro e a r k he hk h64 ha hr
  obtain ⟨k, rfl⟩ : ∃ m, k = m + 1 := ⟨k - 1, by omega⟩
  by_cases hz : e = 0
  ·subst hz
   simp only [field_pow.l0]
   rw [if_neg (by omega)]
   simp [Nat.mod_eq_of_lt hr]
  ·simp only [field_pow.l0]
   have hd : ((e : Int) / 2) = ((e / 2 : Nat) : Int) := by omega
   have hm : a * a % p < p := Nat.mod_lt _ h0
   have hrm : r * a % p < p := Nat.mod_lt _ h0
   have hsq : (a * a % p) ^ (e / 2) % p = (a ^ (2 * (e / 2))) % p := by
    rw [← Nat.pow_mod, Nat.pow_mul, Nat.pow_two]
   rw [if_pos (by omega), and_one e h64]
   by_cases hodd : e % 2 = 1
   ·rw [if_pos (by omega), mul_tie h0 hp hr ha]
    simp only [Option.bind_some]
    rw [mul_tie h0 hp ha ha]
    simp only [Option.bind_some]
    rw [hd, ih (e / 2) (a * a % p) (r * a % p) k (by omega) (by omega) (by omega) hm hrm]
    congr 2
    rw [Nat.mul_mod, hsq, Nat.mod_mod, ← Nat.mul_mod, Nat.mul_assoc, ← Nat.pow_succ', show (2 * (e / 2)).succ = e by omega]
   ·rw [if_neg (by omega), mul_tie h0 hp ha ha]
    simp only [Option.bind_some]
    rw [hd, ih (e / 2) (a * a % p) r k (by omega) (by omega) (by omega) hm hr]
    congr 2
    rw [Nat.mul_mod, hsq, ← Nat.mul_mod, show 2 * (e / 2) = e by omega]
theorem pow_ev {p a e : Nat} (h2 : 2 ≤ p) (hp : p ≤ 65537) (ha : a < p) (he : e < 18446744073709551616) : Ev (fun k => field_pow.f k (p : Int) (a : Int) (e : Int)) ((a ^ e % p : Nat) : Int) := by
 refine Ev.of (field_pow.mono _ _ _) (k := e + 1) ?_
 unfold field_pow.f
 have h1 : (1 : Int) % p = ((1 : Nat) : Int) := by
  rw [Int.emod_eq_of_lt (by omega) (by omega)]; rfl
 rw [if_neg (by omega), h1, pow_l0 p (by omega) hp e e a 1 (e + 1) (by omega) (by omega) he ha (by omega), Nat.one_mul]
noncomputable def below (p : Nat) (xs : List Nat) : Int := if xs.all (· < p) then 0 else 2
theorem below_drop (p : Nat) (xs : List Nat) (i : Nat) (h : i < xs.length) : below p (xs.drop i) = if xs[i] < p then below p (xs.drop (i + 1)) else 2 := by
 unfold below
 rw [List.drop_eq_getElem_cons h, List.all_cons]
 by_cases hx : xs[i] < p <;> simp [hx]
theorem below_l0 (p : Nat) (xs : List Nat) (hl : xs.length < 9223372036854775807) : ∀ (d i k : Nat), xs.length - i = d → d < k → field_Below.l0 k (p : Int) (cast xs) (xs.length : Int) (i : Int) = some (below p (xs.drop i)) := by
 intro d
 induction d with
 | zero =>
  intro i k hd hk
  obtain ⟨k, rfl⟩ : ∃ m, k = m + 1 := ⟨k - 1, by omega⟩
  simp only [field_Below.l0]
  rw [if_neg (by omega), List.drop_eq_nil_of_le (by omega)]
  rfl
 | succ d ih =>
  intro i k hd hk
  obtain ⟨k, rfl⟩ : ∃ m, k = m + 1 := ⟨k - 1, by omega⟩
  have hi : i < xs.length := by omega
  simp only [field_Below.l0]
  rw [if_pos (by omega), if_pos (by omega), if_pos (by simpa using hi), cast_rd xs i hi, below_drop p xs i hi]
  by_cases hx : xs[i] < p
  ·rw [if_neg (by omega), w64_in (by omega) (by omega), if_pos hx]
   exact ih (i + 1) k (by omega) (by omega)
  ·rw [if_pos (by omega), if_neg hx]
theorem below_ev (p : Nat) (xs : List Nat) (hl : xs.length < 9223372036854775807) : Ev (fun k => field_Below.f k (p : Int) (cast xs)) (below p xs) := by
 refine Ev.of (field_Below.mono _ _) (k := xs.length + 1) ?_
 unfold field_Below.f
 have := below_l0 p xs hl xs.length 0 (xs.length + 1) (by omega) (by omega)
 simpa using this
theorem within_l0 (p : Nat) (xs : List Nat) (hl : xs.length < 9223372036854775807) : ∀ (d i k : Nat), xs.length - i = d → d < k → juntoref01_Within.l0 k (p : Int) (cast xs) (xs.length : Int) (i : Int) = some (below p (xs.drop i)) := by
 intro d
 induction d with
 | zero =>
  intro i k hd hk
  obtain ⟨k, rfl⟩ : ∃ m, k = m + 1 := ⟨k - 1, by omega⟩
  simp only [juntoref01_Within.l0]
  rw [if_neg (by omega), List.drop_eq_nil_of_le (by omega)]
  rfl
 | succ d ih =>
  intro i k hd hk
  obtain ⟨k, rfl⟩ : ∃ m, k = m + 1 := ⟨k - 1, by omega⟩
  have hi : i < xs.length := by omega
  simp only [juntoref01_Within.l0]
  rw [if_pos (by omega), if_pos (by omega), if_pos (by simpa using hi), cast_rd xs i hi, below_drop p xs i hi]
  by_cases hx : xs[i] < p
  ·rw [if_neg (by omega), w64_in (by omega) (by omega), if_pos hx]
   exact ih (i + 1) k (by omega) (by omega)
  ·rw [if_pos (by omega), if_neg hx]
theorem within_ev (p : Nat) (xs : List Nat) (hl : xs.length < 9223372036854775807) : Ev (fun k => juntoref01_Within.f k (p : Int) (cast xs)) (below p xs) := by
 refine Ev.of (juntoref01_Within.mono _ _) (k := xs.length + 1) ?_
 unfold juntoref01_Within.f
 have := within_l0 p xs hl xs.length 0 (xs.length + 1) (by omega) (by omega)
 simpa using this
theorem same_l0 (xs ys : List Int) (he : xs.length = ys.length) (hl : xs.length < 9223372036854775807) : ∀ (d i k : Nat), xs.length - i = d → d < k →
  juntoref01_Same.l0 k xs ys (xs.length : Int) (i : Int) = some (decide (xs.drop i = ys.drop i)) := by
 intro d
 induction d with
 | zero =>
  intro i k hd hk
  obtain ⟨k, rfl⟩ : ∃ m, k = m + 1 := ⟨k - 1, by omega⟩
  simp only [juntoref01_Same.l0]
  rw [if_neg (by omega), List.drop_eq_nil_of_le (by omega), List.drop_eq_nil_of_le (by omega)]
  simp
 | succ d ih =>
  intro i k hd hk
  obtain ⟨k, rfl⟩ : ∃ m, k = m + 1 := ⟨k - 1, by omega⟩
  have hi : i < xs.length := by omega
  have hi' : i < ys.length := by omega
  simp only [juntoref01_Same.l0]
  rw [if_pos (by omega), if_pos (by omega), if_pos (by omega), if_pos (by omega), rd_nat xs i hi, rd_nat ys i hi', w64_in (by omega) (by omega)]
  rw [List.drop_eq_getElem_cons hi, List.drop_eq_getElem_cons hi']
  by_cases hx : xs[i] = ys[i]
  ·rw [if_pos hx]
   simp only [List.cons.injEq, hx, true_and]
   exact ih (i + 1) k (by omega) (by omega)
  ·rw [if_neg hx]
   simp only [List.cons.injEq, hx, false_and, decide_false]
theorem same_ev (xs ys : List Int) (hl : xs.length < 9223372036854775807) : Ev (fun k => juntoref01_Same.f k xs ys) (decide (xs = ys)) := by
 by_cases he : xs.length = ys.length
 ·refine Ev.of (juntoref01_Same.mono _ _) (k := xs.length + 1) ?_
  unfold juntoref01_Same.f
  rw [if_pos (by omega)]
  simpa using same_l0 xs ys he hl xs.length 0 (xs.length + 1) (by omega) (by omega)
 ·unfold juntoref01_Same.f
  refine Ev.neg (by omega) (Ev_some ?_)
  symm
  simp only [decide_eq_false_iff_not]
  exact fun h => he (by rw [h])
theorem over_ev {p a : Nat} (h3 : 3 ≤ p) (hp : p ≤ 65537) (ha : a < p) : Ev (fun k => field_Over.f k (p : Int) (a : Int)) ((a ^ (p - 2) % p : Nat) : Int) := by
 unfold field_Over.f
 have e : IntKind.u64.wrap ((p : Int) - 2) = ((p - 2 : Nat) : Int) := by rw [u64_in (by omega) (by omega)]; omega
 rw [e]
 exact (pow_ev (by omega) hp ha (by omega)).bind (Ev.now _)
end Go.Proofs.Ytfdkhkajehopkaa.Mb
