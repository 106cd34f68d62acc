/- What the reference's arithmetic comes to, in plain numbers. -/
import Derived.Test.YtfdkhkajehopkaaMbTie
import Derived.Test.YtfdkhkajehopkaaMbR1
namespace Go.Proofs.Ytfdkhkajehopkaa.Mb
open Go.RowKit Go.Proofs.YtfdkhkajehopkaaW.PrintWords Go.Proofs.YtfdkhkajehopkaaW.PrintLast Go.Proofs.YtfdkhkajehopkaaW.PrintMore
open Go.Proofs.Ytfdkhkajehopkaa.Num Go.Proofs.Ytfdkhkajehopkaa.Arith
set_option linter.unusedVariables false

theorem refMul_tie {p a b : Nat} (h0 : 0 < p) (hp : p ≤ 65537) (ha : a < p) (hb : b < p) : juntoref01_Mul.f (p : Int) (a : Int) (b : Int) = some ((a * b % p : Nat) : Int) := by
 have := mul_small hp ha hb
 unfold juntoref01_Mul.f
 rw [if_neg (by omega), ← Int.natCast_mul, u64_in (by omega) (by omega), tmod_nat]
theorem refAdd_small {p a b : Nat} (h0 : 0 < p) (hp : p ≤ 65537) (ha : a < p) (hb : b < p) : (IntKind.u64.wrap ((a : Int) + b)) = ((a + b : Nat) : Int) := by
 rw [u64_in (by omega) (by omega)]; rfl
theorem refPow_tie (p : Nat) (h2 : 2 ≤ p) (hp : p ≤ 65537) (a : Nat) (ha : a < p) : ∀ (n e : Nat), e ≤ n → e < 18446744073709551616 → juntoref01_Pow.f (n + 1) (p : Int) (a : Int) (e : Int) = some ((a ^ e % p : Nat) : Int) := by
 intro n
 induction n with
 | zero =>
  intro e he _
  obtain rfl : e = 0 := by omega
  simp only [juntoref01_Pow.f]
  rw [if_pos (by rfl)]
  have : a ^ 0 % p = 1 := by rw [Nat.pow_zero, Nat.mod_eq_of_lt (by omega)]
  rw [this]; rfl
 | succ n ih =>
  intro e he h64
  by_cases hz : e = 0
  ·subst hz
   simp only [juntoref01_Pow.f]
   rw [if_pos (by rfl)]
   have : a ^ 0 % p = 1 := by rw [Nat.pow_zero, Nat.mod_eq_of_lt (by omega)]
   rw [this]; rfl
  ·have hd : Int.tdiv (e : Int) 2 = ((e / 2 : Nat) : Int) := tdiv_nat e 2
   have hm : Int.tmod (e : Int) 2 = ((e % 2 : Nat) : Int) := tmod_nat e 2
   have hx : a ^ (e / 2) % p < p := Nat.mod_lt _ (by omega)
   have hy : (a ^ (e / 2) % p) * (a ^ (e / 2) % p) % p < p := Nat.mod_lt _ (by omega)
   have hsq : (a ^ (e / 2) % p) * (a ^ (e / 2) % p) % p = a ^ (2 * (e / 2)) % p := by
    rw [← Nat.mul_mod, ← Nat.pow_add, show e / 2 + e / 2 = 2 * (e / 2) by omega]
   unfold juntoref01_Pow.f
   rw [if_neg (by omega), hd, u64_in (by omega) (by omega), ih (e / 2) (by omega) (by omega)]
   simp only [Option.bind_some]
   rw [refMul_tie (by omega) hp hx hx]
   simp only [Option.bind_some]
   rw [hm]
   by_cases hodd : e % 2 = 1
   ·rw [if_pos (by omega), refMul_tie (by omega) hp hy ha]
    simp only [Option.bind_some]
    congr 2
    rw [hsq, Nat.mod_mul_mod, ← Nat.pow_succ, show (2 * (e / 2)).succ = e by omega]
   ·rw [if_neg (by omega)]
    congr 2
    rw [hsq, show 2 * (e / 2) = e by omega]
theorem refPow_ev {p a e : Nat} (h2 : 2 ≤ p) (hp : p ≤ 65537) (ha : a < p) (he : e < 18446744073709551616) : Ev (fun k => juntoref01_Pow.f k (p : Int) (a : Int) (e : Int)) ((a ^ e % p : Nat) : Int) :=
 Ev.of (juntoref01_Pow.mono _ _ _) (k := e + 1) (refPow_tie p h2 hp a ha e e (Nat.le_refl _) he)
theorem refInv_ev {p a : Nat} (h3 : 3 ≤ p) (hp : p ≤ 65537) (ha : a < p) : Ev (fun k => juntoref01_Inv.f k (p : Int) (a : Int)) ((a ^ (p - 2) % p : Nat) : Int) := by
 unfold juntoref01_Inv.f
 have e : IntKind.u64.wrap ((p : Int) - 2) = ((p - 2 : Nat) : Int) := by rw [u64_in (by omega) (by omega)]; omega
 rw [e]
 exact (refPow_ev (by omega) hp ha (by omega)).bind (Ev.now _)
theorem refSub_tie {p a b : Nat} (h0 : 0 < p) (hp : p ≤ 65537) (ha : a < p) (hb : b < p) : juntoref01_Sub.f (p : Int) (a : Int) (b : Int) = some (((a + (p - b)) % p : Nat) : Int) := by
 unfold juntoref01_Sub.f
 have e1 : IntKind.u64.wrap ((a : Int) + p) = ((a + p : Nat) : Int) := by rw [u64_in (by omega) (by omega)]; rfl
 have e2 : ((a + p : Nat) : Int) - b = ((a + (p - b) : Nat) : Int) := by omega
 rw [if_neg (by omega), e1, e2, u64_in (by omega) (by omega), tmod_nat]
theorem refAdd_tie' {p a b : Nat} (h0 : 0 < p) (hp : p ≤ 65537) (ha : a < p) (hb : b < p) : juntoref01_Add.f (p : Int) (a : Int) (b : Int) = some (((a + b) % p : Nat) : Int) := by
 unfold juntoref01_Add.f
 rw [if_neg (by omega), refAdd_small h0 hp ha hb, tmod_nat]
end Go.Proofs.Ytfdkhkajehopkaa.Mb
