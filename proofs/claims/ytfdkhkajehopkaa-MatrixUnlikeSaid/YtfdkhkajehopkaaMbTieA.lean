/- What products come to, in plain lists. -/
import Derived.Test.YtfdkhkajehopkaaMbTieM
import Derived.Test.YtfdkhkajehopkaaMbTieR
import Derived.Test.YtfdkhkajehopkaaMb0
import Derived.Test.YtfdkhkajehopkaaMb3
import Derived.Test.YtfdkhkajehopkaaMb2
import Derived.Test.YtfdkhkajehopkaaMbG2
import Derived.Test.YtfdkhkajehopkaaMbR1
namespace Go.Proofs.Ytfdkhkajehopkaa.Mb
open Go.RowKit Go.Proofs.YtfdkhkajehopkaaW.PrintWords Go.Proofs.YtfdkhkajehopkaaW.PrintLast Go.Proofs.YtfdkhkajehopkaaW.PrintMore
open Go.Proofs.Ytfdkhkajehopkaa.Num Go.Proofs.Ytfdkhkajehopkaa.Arith
set_option linter.unusedVariables false

def dotS : List Nat → List Nat → Nat
 | x :: xs, y :: ys => x * y + dotS xs ys
 | _, _ => 0
theorem dotS_nil (ys : List Nat) : dotS [] ys = 0 := by cases ys <;> rfl
def dot (p : Nat) (xs ys : List Nat) : Nat := dotS xs ys % p
theorem dot_lt {p : Nat} (h0 : 0 < p) (xs ys : List Nat) : dot p xs ys < p := Nat.mod_lt _ h0
theorem acc_step (p acc a s : Nat) : ((acc + a % p) % p + s) % p = (acc + (a + s)) % p := by
 rw [Nat.mod_add_mod, Nat.add_assoc, Nat.add_comm (a % p) s, ← Nat.add_assoc, Nat.add_mod_mod, Nat.add_assoc, Nat.add_comm s a]
theorem refDot_l0 {p : Nat} (h0 : 0 < p) (hp : p ≤ 65537) (xs ys : List Nat) (hl : xs.length = ys.length) (hn : xs.length ≤ 4096) (hx : ∀ x ∈ xs, x < p) (hy : ∀ y ∈ ys, y < p) : ∀ (d i acc : Nat), xs.length - i = d → acc < p → Ev (fun k => juntoref01_Dot.l0 k (p : Int) (Arith.cast xs) (Arith.cast ys) (acc : Int) (xs.length : Int) (i : Int)) (((acc + dotS (xs.drop i) (ys.drop i)) % p : Nat) : Int) := by
 intro d
 induction d with
 | zero =>
  intro i acc hd ha
  refine Ev.step (fun k => juntoref01_Dot.l0.eq_2 _ _ _ _ _ _ k) (Ev.neg (by omega) ?_)
  rw [List.drop_eq_nil_of_le (by omega)]
  exact Ev.same (Ev.now _) (by rw [dotS_nil, Nat.add_zero, Nat.mod_eq_of_lt ha])
 | succ d ih =>
  intro i acc hd ha
  have hi : i < xs.length := by omega
  have hi2 : i < ys.length := by omega
  refine Ev.step (fun k => juntoref01_Dot.l0.eq_2 _ _ _ _ _ _ k) (Ev.pos (by omega) (Ev.pos (by omega) (Ev.pos (by rw [cast_len]; omega) (Ev.pos (by rw [cast_len]; omega) ?_))))
  rw [cast_rd xs i hi, cast_rd ys i hi2]
  have a1 := hx _ (List.getElem_mem hi)
  have a2 := hy _ (List.getElem_mem hi2)
  refine Ev.bind0 (refMul_tie h0 hp a1 a2) (Ev.bind0 (refAdd_tie' h0 hp ha (Nat.mod_lt _ h0)) ?_)
  rw [w64_in (by omega) (by omega)]
  refine Ev.same (ih (i + 1) _ (by omega) (Nat.mod_lt _ h0)) ?_
  rw [List.drop_eq_getElem_cons hi, List.drop_eq_getElem_cons hi2, dotS, acc_step]
theorem refDot_ev {p : Nat} (h0 : 0 < p) (hp : p ≤ 65537) (xs ys : List Nat) (hl : xs.length = ys.length) (hn : xs.length ≤ 4096) (hx : ∀ x ∈ xs, x < p) (hy : ∀ y ∈ ys, y < p) : Ev (fun k => juntoref01_Dot.f k (p : Int) (Arith.cast xs) (Arith.cast ys)) ((dot p xs ys : Nat) : Int) := by
 unfold juntoref01_Dot.f
 rw [cast_len]
 have h := refDot_l0 h0 hp xs ys hl hn hx hy xs.length 0 0 (by omega) h0
 rw [List.drop_zero, List.drop_zero, Nat.zero_add] at h
 exact h
/-- A list that is filled from the front. -/
theorem filled_set {α : Type} (L : List α) (z : α) (n i : Nat) (hn : L.length = n) (x : α) (h : L[i]? = some x) : (L.take i ++ List.replicate (n - i) z).set i x = L.take (i + 1) ++ List.replicate (n - (i + 1)) z := by
 obtain ⟨hh, rfl⟩ := List.getElem?_eq_some_iff.1 h
 subst hn
 rw [List.set_append_right _ _ (by rw [List.length_take]; omega), List.length_take, Nat.min_eq_left (by omega), Nat.sub_self, show L.length - i = (L.length - (i + 1)) + 1 by omega, List.replicate_succ, List.set_cons_zero, List.take_succ_eq_append_getElem hh, List.append_assoc]
 rfl
theorem gd {m : List (List Nat)} {i : Nat} (hi : i < m.length) : m.getD i [] = m[i] := by rw [List.getD_eq_getElem?_getD, List.getElem?_eq_getElem hi]; rfl
end Go.Proofs.Ytfdkhkajehopkaa.Mb
