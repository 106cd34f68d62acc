/- Powers and squares modulo a prime: what Tonelli and Shanks' way needs; no program in sight. -/
import Derived.Test.YtpdlbiahfmidoaaNum
namespace Go.Proofs.Ytpdlbiahfmidoaa.Num

theorem pow_mod_pow (a m n p : Nat) : (a ^ m % p) ^ n % p = a ^ (m * n) % p := by
  rw [← Nat.pow_mod, Nat.pow_mul]
theorem half_pow {p a : Nat} (hP : IsP p) (ha : ¬ p ∣ a) : a ^ ((p - 1) / 2) % p = 1 ∨ a ^ ((p - 1) / 2) % p = p - 1 := by
  have hp := hP.pr
  have h3 := hP.1
  have hodd := hP.odd
  refine sq_one hp (Nat.mod_lt _ (by omega)) ?_
  rw [← Nat.mul_mod, ← Nat.pow_add, show (p - 1) / 2 + (p - 1) / 2 = p - 1 by omega]
  exact fermat1 hp ha
theorem zero_pow_mod {p m : Nat} (h0 : 0 < m) : 0 ^ m % p = 0 := by
  rw [Nat.zero_pow h0, Nat.zero_mod]
/-- A square's power (p - 1) / 2 is 0 or 1. -/
theorem half_of_sq {p x a : Nat} (hP : IsP p) (h : x * x % p = a) : a ^ ((p - 1) / 2) % p ≤ 1 := by
  have hp := hP.pr
  have h3 := hP.1
  have hodd := hP.odd
  subst h
  rw [← Nat.pow_two, pow_mod_pow, show 2 * ((p - 1) / 2) = p - 1 by omega]
  by_cases hd : p ∣ x
  · obtain ⟨q, rfl⟩ := hd
    rw [Nat.pow_mod, Nat.mul_mod_right, zero_pow_mod (by omega)]
    omega
  · rw [fermat1 hp hd]
    omega
theorem neg_sq {p : Nat} (h3 : 3 ≤ p) : (p - 1) * (p - 1) % p = 1 := by
  obtain ⟨m, rfl⟩ : ∃ m, p = m + 1 := ⟨p - 1, by omega⟩
  have e : (m + 1 - 1) * (m + 1 - 1) = (m + 1) * (m - 1) + 1 := by
    rw [Nat.add_sub_cancel]
    obtain ⟨j, rfl⟩ : ∃ j, m = j + 1 := ⟨m - 1, by omega⟩
    rw [Nat.add_sub_cancel]
    grind
  rw [e, Nat.mul_add_mod, Nat.mod_eq_of_lt (by omega)]

/-- The state of Tonelli and Shanks' loop. -/
structure TS (p a s c r t : Nat) : Prop where
  hc : c < p
  hr : r < p
  ht : t < p
  s1 : 1 ≤ s
  rr : r * r % p = a * t % p
  cc : c ^ (2 ^ (s - 1)) % p = p - 1
  tt : t ^ (2 ^ (s - 1)) % p = 1

theorem TS.next {p a s c r t k : Nat} (hP : IsP p) (h : TS p a s c r t) (hk1 : 1 ≤ k) (hks : k ≤ s - 1) (h1 : t ^ (2 ^ k) % p = 1) (h2 : t ^ (2 ^ (k - 1)) % p ≠ 1) {b c' r' t' : Nat}
    (hb : b = c ^ (2 ^ (s - k - 1)) % p) (hc' : c' = b * b % p) (hr' : r' = r * b % p) (ht' : t' = t * c' % p) : TS p a k c' r' t' := by
  have hp := hP.pr
  have h3 := hP.1
  have e2 : (2 ^ (s - k - 1)) * 2 = 2 ^ (s - k) := by rw [← Nat.pow_succ]; congr 1; omega
  have hcc : c' = c ^ (2 ^ (s - k)) % p := by
    rw [hc', hb, ← Nat.mul_mod, ← Nat.pow_two, ← Nat.pow_mul, e2]
  have hck : c' ^ (2 ^ (k - 1)) % p = p - 1 := by
    rw [hcc, pow_mod_pow, ← Nat.pow_add, show s - k + (k - 1) = s - 1 by omega]
    exact h.cc
  have htk : t ^ (2 ^ (k - 1)) % p = p - 1 := by
    refine (sq_one hp (Nat.mod_lt _ (by omega)) ?_).resolve_left h2
    rw [← Nat.mul_mod, ← Nat.pow_add, ← Nat.two_mul, Nat.mul_comm, ← Nat.pow_succ, show (k - 1).succ = k by omega]
    exact h1
  refine ⟨by rw [hc']; exact Nat.mod_lt _ (by omega), by rw [hr']; exact Nat.mod_lt _ (by omega), by rw [ht']; exact Nat.mod_lt _ (by omega), hk1, ?_, hck, ?_⟩
  · rw [hr', ht', ← Nat.mul_mod, Nat.mul_mod_mod, hc', ← Nat.mul_assoc a, Nat.mul_mod_mod, show r * b * (r * b) = (r * r) * (b * b) by grind, Nat.mul_mod, h.rr, ← Nat.mul_mod]
  · rw [ht', ← Nat.pow_mod, Nat.mul_pow, Nat.mul_mod, htk, hck]
    exact neg_sq h3
end Go.Proofs.Ytpdlbiahfmidoaa.Num
