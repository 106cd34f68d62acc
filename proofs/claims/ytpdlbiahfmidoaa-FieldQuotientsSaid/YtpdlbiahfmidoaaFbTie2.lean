/- What Plus, Minus, mul, pow, Below, Check and their references come to, in plain numbers. -/
import Derived.Test.YtpdlbiahfmidoaaFbTie
import Derived.Test.YtpdlbiahfmidoaaFb7
import Derived.Test.YtpdlbiahfmidoaaFb8
namespace Go.Proofs.Ytpdlbiahfmidoaa.Fb
open Go.RowKit Go.Proofs.YtpdlbiahfmidoaaW.PrintWords Go.Proofs.YtpdlbiahfmidoaaW.PrintLast Go.Proofs.YtpdlbiahfmidoaaW.PrintMore
open Go.Proofs.Ytpdlbiahfmidoaa.Num Go.Proofs.Ytpdlbiahfmidoaa.Arith
set_option linter.unusedVariables false

theorem mul_small {p a b : Nat} (hp : p ≤ 65537) (ha : a < p) (hb : b < p) : a * b < 18446744073709551616 := by
  have : a * b ≤ 65537 * 65537 := Nat.mul_le_mul (by omega) (by omega)
  omega
theorem mul_tie {p a b : Nat} (h0 : 0 < p) (hp : p ≤ 65537) (ha : a < p) (hb : b < p) : field_mul.f (p : Int) (a : Int) (b : Int) = some ((a * b % p : Nat) : Int) := by
  have := mul_small hp ha hb
  unfold field_mul.f
  rw [if_neg (by omega), ← Int.natCast_mul, u64_in (by omega) (by omega), tmod_nat]
theorem refMul_tie {p a b : Nat} (h0 : 0 < p) (hp : p ≤ 65537) (ha : a < p) (hb : b < p) : juntoref01_Mul.f (p : Int) (a : Int) (b : Int) = some ((a * b % p : Nat) : Int) := by
  have := mul_small hp ha hb
  unfold juntoref01_Mul.f
  rw [if_neg (by omega), ← Int.natCast_mul, u64_in (by omega) (by omega), tmod_nat]
theorem plus_tie {p a b : Nat} (h0 : 0 < p) (hp : p ≤ 65537) (ha : a < p) (hb : b < p) : field_Plus.f (p : Int) (a : Int) (b : Int) = some (((a + b) % p : Nat) : Int) := by
  unfold field_Plus.f
  rw [u64_in (by omega) (by omega)]
  by_cases h : p ≤ a + b
  · rw [if_pos (by omega), u64_in (by omega) (by omega)]
    have : (a + b) % p = a + b - p := by rw [Nat.mod_eq_sub_mod h, Nat.mod_eq_of_lt (by omega)]
    congr 1; omega
  · rw [if_neg (by omega)]
    have : (a + b) % p = a + b := Nat.mod_eq_of_lt (by omega)
    congr 1; omega
theorem minus_tie {p a b : Nat} (h0 : 0 < p) (hp : p ≤ 65537) (ha : a < p) (hb : b < p) : field_Minus.f (p : Int) (a : Int) (b : Int) = some (((a + (p - b)) % p : Nat) : Int) := by
  unfold field_Minus.f
  have e : (p : Int) - b = ((p - b : Nat) : Int) := by omega
  rw [if_neg (by omega), u64_in (by omega) (by omega), e, tmod_nat, plus_tie h0 hp ha (Nat.mod_lt _ h0)]
  simp
theorem refAdd_small {p a b : Nat} (h0 : 0 < p) (hp : p ≤ 65537) (ha : a < p) (hb : b < p) : (IntKind.u64.wrap ((a : Int) + b)) = ((a + b : Nat) : Int) := by
  rw [u64_in (by omega) (by omega)]; rfl

theorem pow_l0 (p : Nat) (h0 : 0 < p) (hp : p ≤ 65537) : ∀ (n e a r k : Nat), e ≤ n → n < k → e < 18446744073709551616 → a < p → r < p → field_pow.l0 k (p : Int) (a : Int) (e : Int) (r : Int) = some ((r * a ^ e % p : Nat) : Int) := by
  intro n
  induction n with
  | zero =>
    intro e a r k he hk _ ha hr
    obtain ⟨k, rfl⟩ : ∃ m, k = m + 1 := ⟨k - 1, by omega⟩
    obtain rfl : e = 0 := by omega
    simp only [field_pow.l0]
    rw [if_neg (by omega)]
    simp [Nat.mod_eq_of_lt hr]
  | succ n ih =>
    intro e a r k he hk h64 ha hr
    obtain ⟨k, rfl⟩ : ∃ m, k = m + 1 := ⟨k - 1, by omega⟩
    by_cases hz : e = 0
    · subst hz
      simp only [field_pow.l0]
      rw [if_neg (by omega)]
      simp [Nat.mod_eq_of_lt hr]
    · simp only [field_pow.l0]
      have hd : ((e : Int) / 2) = ((e / 2 : Nat) : Int) := by omega
      have hm : a * a % p < p := Nat.mod_lt _ h0
      have hrm : r * a % p < p := Nat.mod_lt _ h0
      have hsq : (a * a % p) ^ (e / 2) % p = (a ^ (2 * (e / 2))) % p := by
        rw [← Nat.pow_mod, Nat.pow_mul, Nat.pow_two]
      rw [if_pos (by omega), and_one e h64]
      by_cases hodd : e % 2 = 1
      · rw [if_pos (by omega), mul_tie h0 hp hr ha]
        simp only [Option.bind_some]
        rw [mul_tie h0 hp ha ha]
        simp only [Option.bind_some]
        rw [hd, ih (e / 2) (a * a % p) (r * a % p) k (by omega) (by omega) (by omega) hm hrm]
        congr 2
        rw [Nat.mul_mod, hsq, Nat.mod_mod, ← Nat.mul_mod, Nat.mul_assoc, ← Nat.pow_succ', show (2 * (e / 2)).succ = e by omega]
      · rw [if_neg (by omega), mul_tie h0 hp ha ha]
        simp only [Option.bind_some]
        rw [hd, ih (e / 2) (a * a % p) r k (by omega) (by omega) (by omega) hm hr]
        congr 2
        rw [Nat.mul_mod, hsq, ← Nat.mul_mod, show 2 * (e / 2) = e by omega]

theorem pow_ev {p a e : Nat} (h2 : 2 ≤ p) (hp : p ≤ 65537) (ha : a < p) (he : e < 18446744073709551616) : Ev (fun k => field_pow.f k (p : Int) (a : Int) (e : Int)) ((a ^ e % p : Nat) : Int) := by
  refine Ev.of (field_pow.mono _ _ _) (k := e + 1) ?_
  unfold field_pow.f
  have h1 : (1 : Int) % p = ((1 : Nat) : Int) := by
    rw [Int.emod_eq_of_lt (by omega) (by omega)]; rfl
  rw [if_neg (by omega), h1, pow_l0 p (by omega) hp e e a 1 (e + 1) (by omega) (by omega) he ha (by omega), Nat.one_mul]

theorem refPow_tie (p : Nat) (h2 : 2 ≤ p) (hp : p ≤ 65537) (a : Nat) (ha : a < p) : ∀ (n e : Nat), e ≤ n → e < 18446744073709551616 → juntoref01_Pow.f (n + 1) (p : Int) (a : Int) (e : Int) = some ((a ^ e % p : Nat) : Int) := by
  intro n
  induction n with
  | zero =>
    intro e he _
    obtain rfl : e = 0 := by omega
    simp only [juntoref01_Pow.f]
    rw [if_pos (by rfl)]
    have : a ^ 0 % p = 1 := by rw [Nat.pow_zero, Nat.mod_eq_of_lt (by omega)]
    rw [this]; rfl
  | succ n ih =>
    intro e he h64
    by_cases hz : e = 0
    · subst hz
      simp only [juntoref01_Pow.f]
      rw [if_pos (by rfl)]
      have : a ^ 0 % p = 1 := by rw [Nat.pow_zero, Nat.mod_eq_of_lt (by omega)]
      rw [this]; rfl
    · have hd : Int.tdiv (e : Int) 2 = ((e / 2 : Nat) : Int) := tdiv_nat e 2
      have hm : Int.tmod (e : Int) 2 = ((e % 2 : Nat) : Int) := tmod_nat e 2
      have hx : a ^ (e / 2) % p < p := Nat.mod_lt _ (by omega)
      have hy : (a ^ (e / 2) % p) * (a ^ (e / 2) % p) % p < p := Nat.mod_lt _ (by omega)
      have hsq : (a ^ (e / 2) % p) * (a ^ (e / 2) % p) % p = a ^ (2 * (e / 2)) % p := by
        rw [← Nat.mul_mod, ← Nat.pow_add, show e / 2 + e / 2 = 2 * (e / 2) by omega]
      unfold juntoref01_Pow.f
      rw [if_neg (by omega), hd, u64_in (by omega) (by omega), ih (e / 2) (by omega) (by omega)]
      simp only [Option.bind_some]
      rw [refMul_tie (by omega) hp hx hx]
      simp only [Option.bind_some]
      rw [hm]
      by_cases hodd : e % 2 = 1
      · rw [if_pos (by omega), refMul_tie (by omega) hp hy ha]
        simp only [Option.bind_some]
        congr 2
        rw [hsq, Nat.mod_mul_mod, ← Nat.pow_succ, show (2 * (e / 2)).succ = e by omega]
      · rw [if_neg (by omega)]
        congr 2
        rw [hsq, show 2 * (e / 2) = e by omega]
theorem refPow_ev {p a e : Nat} (h2 : 2 ≤ p) (hp : p ≤ 65537) (ha : a < p) (he : e < 18446744073709551616) : Ev (fun k => juntoref01_Pow.f k (p : Int) (a : Int) (e : Int)) ((a ^ e % p : Nat) : Int) :=
  Ev.of (juntoref01_Pow.mono _ _ _) (k := e + 1) (refPow_tie p h2 hp a ha e e (Nat.le_refl _) he)

/-! ### lists below a prime -/
noncomputable def below (p : Nat) (xs : List Nat) : Int := if xs.all (· < p) then 0 else 2
theorem below_drop (p : Nat) (xs : List Nat) (i : Nat) (h : i < xs.length) : below p (xs.drop i) = if xs[i] < p then below p (xs.drop (i + 1)) else 2 := by
  unfold below
  rw [List.drop_eq_getElem_cons h, List.all_cons]
  by_cases hx : xs[i] < p <;> simp [hx]
theorem below_l0 (p : Nat) (xs : List Nat) (hl : xs.length < 9223372036854775807) : ∀ (d i k : Nat), xs.length - i = d → d < k → field_Below.l0 k (p : Int) (cast xs) (xs.length : Int) (i : Int) = some (below p (xs.drop i)) := by
  intro d
  induction d with
  | zero =>
    intro i k hd hk
    obtain ⟨k, rfl⟩ : ∃ m, k = m + 1 := ⟨k - 1, by omega⟩
    simp only [field_Below.l0]
    rw [if_neg (by omega), List.drop_eq_nil_of_le (by omega)]
    rfl
  | succ d ih =>
    intro i k hd hk
    obtain ⟨k, rfl⟩ : ∃ m, k = m + 1 := ⟨k - 1, by omega⟩
    have hi : i < xs.length := by omega
    simp only [field_Below.l0]
    rw [if_pos (by omega), if_pos (by omega), if_pos (by simpa using hi), cast_rd xs i hi, below_drop p xs i hi]
    by_cases hx : xs[i] < p
    · rw [if_neg (by omega), w64_in (by omega) (by omega), if_pos hx]
      exact ih (i + 1) k (by omega) (by omega)
    · rw [if_pos (by omega), if_neg hx]
theorem below_ev (p : Nat) (xs : List Nat) (hl : xs.length < 9223372036854775807) : Ev (fun k => field_Below.f k (p : Int) (cast xs)) (below p xs) := by
  refine Ev.of (field_Below.mono _ _) (k := xs.length + 1) ?_
  unfold field_Below.f
  have := below_l0 p xs hl xs.length 0 (xs.length + 1) (by omega) (by omega)
  simpa using this
theorem within_l0 (p : Nat) (xs : List Nat) (hl : xs.length < 9223372036854775807) : ∀ (d i k : Nat), xs.length - i = d → d < k → juntoref01_Within.l0 k (p : Int) (cast xs) (xs.length : Int) (i : Int) = some (below p (xs.drop i)) := by
  intro d
  induction d with
  | zero =>
    intro i k hd hk
    obtain ⟨k, rfl⟩ : ∃ m, k = m + 1 := ⟨k - 1, by omega⟩
    simp only [juntoref01_Within.l0]
    rw [if_neg (by omega), List.drop_eq_nil_of_le (by omega)]
    rfl
  | succ d ih =>
    intro i k hd hk
    obtain ⟨k, rfl⟩ : ∃ m, k = m + 1 := ⟨k - 1, by omega⟩
    have hi : i < xs.length := by omega
    simp only [juntoref01_Within.l0]
    rw [if_pos (by omega), if_pos (by omega), if_pos (by simpa using hi), cast_rd xs i hi, below_drop p xs i hi]
    by_cases hx : xs[i] < p
    · rw [if_neg (by omega), w64_in (by omega) (by omega), if_pos hx]
      exact ih (i + 1) k (by omega) (by omega)
    · rw [if_pos (by omega), if_neg hx]
theorem within_ev (p : Nat) (xs : List Nat) (hl : xs.length < 9223372036854775807) : Ev (fun k => juntoref01_Within.f k (p : Int) (cast xs)) (below p xs) := by
  refine Ev.of (juntoref01_Within.mono _ _) (k := xs.length + 1) ?_
  unfold juntoref01_Within.f
  have := within_l0 p xs hl xs.length 0 (xs.length + 1) (by omega) (by omega)
  simpa using this

theorem right_eq (p : Nat) (xs : List Nat) : right p xs = if isP p = true then below p xs else 2 := by
  unfold right below
  split <;> rfl
theorem check_ev (p : Nat) (xs : List Nat) (hl : xs.length < 9223372036854775807) : Ev (fun k => field_Check.f k (p : Int) (cast xs)) (right p xs) := by
  unfold field_Check.f
  refine (field_Is_ev p).bind ?_
  rw [right_eq]
  by_cases h : isP p = true
  · rw [if_pos h]
    exact Ev.pos h ((below_ev p xs hl).bind (Ev.now _))
  · rw [if_neg h]
    exact Ev.neg h (Ev.now _)
theorem right_ev (p : Nat) (xs : List Nat) (hl : xs.length < 9223372036854775807) : Ev (fun k => juntoref01_Right.f k (p : Int) (cast xs)) (right p xs) := by
  unfold juntoref01_Right.f
  refine (ref_Is_ev p).bind ?_
  rw [right_eq]
  by_cases h : isP p = true
  · rw [if_pos h]
    exact Ev.pos h ((within_ev p xs hl).bind (Ev.now _))
  · rw [if_neg h]
    exact Ev.neg h (Ev.now _)
theorem right_two (p : Nat) (xs : List Nat) : right p xs = 0 ∨ right p xs = 2 := by
  unfold right
  split
  · split
    · exact .inl rfl
    · exact .inr rfl
  · exact .inr rfl
theorem right_zero {p : Nat} {xs : List Nat} : right p xs = 0 ↔ IsP p ∧ ∀ x ∈ xs, x < p := by
  unfold right
  by_cases h : isP p = true
  · rw [if_pos h]
    have hp := isP_iff.1 h
    by_cases hx : xs.all (· < p) = true
    · rw [if_pos hx]
      simp only [List.all_eq_true, decide_eq_true_eq] at hx
      exact ⟨fun _ => ⟨hp, hx⟩, fun _ => rfl⟩
    · rw [if_neg hx]
      simp only [List.all_eq_true, decide_eq_true_eq] at hx
      exact ⟨fun h => absurd h (by decide), fun h => absurd h.2 hx⟩
  · rw [if_neg h]
    exact ⟨fun h => absurd h (by decide), fun g => absurd (isP_iff.2 g.1) h⟩
theorem is_tie (a e w f : Int) : juntolaw01_is.f a e w f = some (decide (e = f ∧ ((f ≠ 0 ∧ a = 0) ∨ (f = 0 ∧ a = w)))) := by
  unfold juntolaw01_is.f
  by_cases h1 : e = f
  · rw [if_pos h1]
    by_cases h2 : f = 0
    · rw [if_pos h2]
      by_cases h3 : a = w <;> simp [h1, h2, h3]
    · rw [if_neg h2]
      by_cases h3 : a = 0 <;> simp [h1, h2, h3]
  · rw [if_neg h1]
    simp [h1]
end Go.Proofs.Ytpdlbiahfmidoaa.Fb
