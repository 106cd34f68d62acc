/- What products come to, in plain lists. -/
import Derived.Test.YtfdkhkajehopkaaMbTieM
import Derived.Test.YtfdkhkajehopkaaMbTieR
import Derived.Test.YtfdkhkajehopkaaMbFMatrixApply
import Derived.Test.YtfdkhkajehopkaaMbFRef3Apply
namespace Go.Proofs.Ytfdkhkajehopkaa.Mb
open Go.RowKit Go.Proofs.YtfdkhkajehopkaaW.PrintWords Go.Proofs.YtfdkhkajehopkaaW.PrintLast Go.Proofs.YtfdkhkajehopkaaW.PrintMore
open Go.Proofs.Ytfdkhkajehopkaa.Num Go.Proofs.Ytfdkhkajehopkaa.Arith
set_option linter.unusedVariables false

def dotS : List Nat → List Nat → Nat
 | x :: xs, y :: ys => x * y + dotS xs ys
 | _, _ => 0
theorem dotS_nil (ys : List Nat) : dotS [] ys = 0 := by cases ys <;> rfl
def dot (p : Nat) (xs ys : List Nat) : Nat := dotS xs ys % p
theorem dot_lt {p : Nat} (h0 : 0 < p) (xs ys : List Nat) : dot p xs ys < p := Nat.mod_lt _ h0
theorem acc_step (p acc a s : Nat) : ((acc + a % p) % p + s) % p = (acc + (a + s)) % p := by
 rw [Nat.mod_add_mod, Nat.add_assoc, Nat.add_comm (a % p) s, ← Nat.add_assoc, Nat.add_mod_mod, Nat.add_assoc, Nat.add_comm s a]
theorem scalar_l0 {p : Nat} (h0 : 0 < p) (hp : p ≤ 65537) (xs ys : List Nat) (hl : xs.length = ys.length) (hn : xs.length ≤ 4096) (hx : ∀ x ∈ xs, x < p) (hy : ∀ y ∈ ys, y < p) : ∀ (d i acc : Nat), xs.length - i = d → acc < p → Ev (fun k => field_Scalar.l0 k (p : Int) (Arith.cast xs) (Arith.cast ys) (acc : Int) (xs.length : Int) (i : Int)) (((acc + dotS (xs.drop i) (ys.drop i)) % p : Nat) : Int) := by
 intro d
 induction d with
 | zero =>
  intro i acc hd ha
  refine Ev.step (fun k => field_Scalar.l0.eq_2 _ _ _ _ _ _ k) (Ev.neg (by omega) ?_)
  rw [List.drop_eq_nil_of_le (by omega)]
  exact Ev.same (Ev.now _) (by rw [dotS_nil, Nat.add_zero, Nat.mod_eq_of_lt ha])
 | succ d ih =>
  intro i acc hd ha
  have hi : i < xs.length := by omega
  have hi2 : i < ys.length := by omega
  refine Ev.step (fun k => field_Scalar.l0.eq_2 _ _ _ _ _ _ k) (Ev.pos (by omega) (Ev.pos (by omega) (Ev.pos (by rw [cast_len]; omega) (Ev.pos (by rw [cast_len]; omega) ?_))))
  rw [cast_rd xs i hi, cast_rd ys i hi2]
  have a1 := hx _ (List.getElem_mem hi)
  have a2 := hy _ (List.getElem_mem hi2)
  refine Ev.bind0 (mul_tie h0 hp a1 a2) (Ev.bind0 (plus_tie h0 hp ha (Nat.mod_lt _ h0)) ?_)
  rw [w64_in (by omega) (by omega)]
  refine Ev.same (ih (i + 1) _ (by omega) (Nat.mod_lt _ h0)) ?_
  rw [List.drop_eq_getElem_cons hi, List.drop_eq_getElem_cons hi2, dotS, acc_step]
theorem scalar_ev {p : Nat} (h0 : 0 < p) (hp : p ≤ 65537) (xs ys : List Nat) (hl : xs.length = ys.length) (hn : xs.length ≤ 4096) (hx : ∀ x ∈ xs, x < p) (hy : ∀ y ∈ ys, y < p) : Ev (fun k => field_Scalar.f k (p : Int) (Arith.cast xs) (Arith.cast ys)) ((dot p xs ys : Nat) : Int) := by
 unfold field_Scalar.f
 rw [cast_len]
 have h := scalar_l0 h0 hp xs ys hl hn hx hy xs.length 0 0 (by omega) h0
 rw [List.drop_zero, List.drop_zero, Nat.zero_add] at h
 exact h
theorem refDot_l0 {p : Nat} (h0 : 0 < p) (hp : p ≤ 65537) (xs ys : List Nat) (hl : xs.length = ys.length) (hn : xs.length ≤ 4096) (hx : ∀ x ∈ xs, x < p) (hy : ∀ y ∈ ys, y < p) : ∀ (d i acc : Nat), xs.length - i = d → acc < p → Ev (fun k => juntoref01_Dot.l0 k (p : Int) (Arith.cast xs) (Arith.cast ys) (acc : Int) (xs.length : Int) (i : Int)) (((acc + dotS (xs.drop i) (ys.drop i)) % p : Nat) : Int) := by
 intro d
 induction d with
 | zero =>
  intro i acc hd ha
  refine Ev.step (fun k => juntoref01_Dot.l0.eq_2 _ _ _ _ _ _ k) (Ev.neg (by omega) ?_)
  rw [List.drop_eq_nil_of_le (by omega)]
  exact Ev.same (Ev.now _) (by rw [dotS_nil, Nat.add_zero, Nat.mod_eq_of_lt ha])
 | succ d ih =>
  intro i acc hd ha
  have hi : i < xs.length := by omega
  have hi2 : i < ys.length := by omega
  refine Ev.step (fun k => juntoref01_Dot.l0.eq_2 _ _ _ _ _ _ k) (Ev.pos (by omega) (Ev.pos (by omega) (Ev.pos (by rw [cast_len]; omega) (Ev.pos (by rw [cast_len]; omega) ?_))))
  rw [cast_rd xs i hi, cast_rd ys i hi2]
  have a1 := hx _ (List.getElem_mem hi)
  have a2 := hy _ (List.getElem_mem hi2)
  refine Ev.bind0 (refMul_tie h0 hp a1 a2) (Ev.bind0 (refAdd_tie' h0 hp ha (Nat.mod_lt _ h0)) ?_)
  rw [w64_in (by omega) (by omega)]
  refine Ev.same (ih (i + 1) _ (by omega) (Nat.mod_lt _ h0)) ?_
  rw [List.drop_eq_getElem_cons hi, List.drop_eq_getElem_cons hi2, dotS, acc_step]
theorem refDot_ev {p : Nat} (h0 : 0 < p) (hp : p ≤ 65537) (xs ys : List Nat) (hl : xs.length = ys.length) (hn : xs.length ≤ 4096) (hx : ∀ x ∈ xs, x < p) (hy : ∀ y ∈ ys, y < p) : Ev (fun k => juntoref01_Dot.f k (p : Int) (Arith.cast xs) (Arith.cast ys)) ((dot p xs ys : Nat) : Int) := by
 unfold juntoref01_Dot.f
 rw [cast_len]
 have h := refDot_l0 h0 hp xs ys hl hn hx hy xs.length 0 0 (by omega) h0
 rw [List.drop_zero, List.drop_zero, Nat.zero_add] at h
 exact h
/-- A list that is filled from the front. -/
theorem filled_set {α : Type} (L : List α) (z : α) (n i : Nat) (hn : L.length = n) (x : α) (h : L[i]? = some x) : (L.take i ++ List.replicate (n - i) z).set i x = L.take (i + 1) ++ List.replicate (n - (i + 1)) z := by
 obtain ⟨hh, rfl⟩ := List.getElem?_eq_some_iff.1 h
 subst hn
 rw [List.set_append_right _ _ (by rw [List.length_take]; omega), List.length_take, Nat.min_eq_left (by omega), Nat.sub_self, show L.length - i = (L.length - (i + 1)) + 1 by omega, List.replicate_succ, List.set_cons_zero, List.take_succ_eq_append_getElem hh, List.append_assoc]
 rfl
def applyN (p : Nat) (m : List (List Nat)) (v : List Nat) : List Nat := m.map (dot p · v)
theorem applyN_len (p : Nat) (m : List (List Nat)) (v : List Nat) : (applyN p m v).length = m.length := by simp [applyN]
theorem gd {m : List (List Nat)} {i : Nat} (hi : i < m.length) : m.getD i [] = m[i] := by rw [List.getD_eq_getElem?_getD, List.getElem?_eq_getElem hi]; rfl
theorem apply_l0 {p n : Nat} {m : List (List Nat)} (G : Good p m n) (v : List Nat) (hv : v.length = n) (hvs : ∀ x ∈ v, x < p) : ∀ (d i : Nat), m.length - i = d → Ev (fun k => matrix_Apply.l0 k (p : Int) (Arith.cast v) ((Arith.cast (applyN p m v)).take i ++ List.replicate (m.length - i) 0) (cM m) (m.length : Int) (i : Int)) (Arith.cast (applyN p m v), 0) := by
 have h0 : 0 < p := by have := G.prime.1; omega
 have hp : p ≤ 65537 := G.prime.2.1
 have hL : (Arith.cast (applyN p m v)).length = m.length := by rw [cast_len, applyN_len]
 intro d
 induction d with
 | zero =>
  intro i hd
  refine Ev.step (fun k => matrix_Apply.l0.eq_2 _ _ _ _ _ _ k) (Ev.neg (by omega) ?_)
  rw [List.take_of_length_le (by omega), show m.length - i = 0 by omega]
  exact Ev.same (Ev.now _) (by rw [List.replicate_zero, List.append_nil])
 | succ d ih =>
  intro i hd
  have hi : i < m.length := by omega
  have hr := G.rows
  refine Ev.step (fun k => matrix_Apply.l0.eq_2 _ _ _ _ _ _ k) (Ev.pos (by omega) (Ev.pos (by omega) (Ev.pos (by rw [cM_len]; omega) ?_)))
  rw [cM_row, gd hi]
  have hw := G.wide _ (List.getElem_mem hi)
  refine (scalar_ev h0 hp m[i] v (by rw [hw, hv]) (by have := G.cols; omega) (G.small _ (List.getElem_mem hi)) hvs).bind ?_
  refine Ev.pos (by rw [List.length_append, List.length_take, List.length_replicate]; omega) ?_
  rw [w64_in (by omega) (by omega), Int.toNat_natCast]
  rw [filled_set (Arith.cast (applyN p m v)) (0 : Int) m.length i hL _ (by rw [List.getElem?_map, applyN, List.getElem?_map, List.getElem?_eq_getElem hi]; rfl)]
  exact ih (i + 1) (by omega)
/-- Apply, in plain lists. -/
noncomputable def applyR (p : Nat) (m : List (List Nat)) (v : List Nat) : List Int × Int :=
 if chkM p m = 0 then (if v.length = (row0 m).length then (if below p v = 0 then (Arith.cast (applyN p m v), 0) else ([], 2)) else ([], 2)) else ([], chkM p m)
theorem matrix_Apply_ev (p : Nat) (m : List (List Nat)) (v : List Nat) (hvl : v.length < 9223372036854775807) : Ev (fun k => matrix_Apply.f k (p : Int) (cM m) (Arith.cast v)) (applyR p m v) := by
 unfold matrix_Apply.f applyR
 refine (matrix_Check_ev p m).bind ?_
 by_cases hc : chkM p m = 0
 ·have G := chkM_zero hc
  rw [if_pos hc]
  refine Ev.pos hc (Ev.pos (by rw [cM_len]; have := G.one; omega) ?_)
  unfold matrix_column.f
  rw [cM_row0, cast_len, cast_len, cM_len]
  by_cases h1 : v.length = (row0 m).length
  ·rw [if_pos h1]
   refine Ev.bind (a := below p v) (Ev.pos (by omega) ((below_ev p v hvl).bind (Ev.now _))) ?_
   by_cases h2 : below p v = 0
   ·rw [if_pos h2]
    refine Ev.pos h2 (Ev.pos (by omega) (Ev.pos (by have := G.rows; omega) ?_))
    rw [Int.toNat_natCast]
    have h := apply_l0 G v h1 (below_zero.1 h2) m.length 0 (by omega)
    rw [List.take_zero, List.nil_append, Nat.sub_zero] at h
    exact h
   ·rw [if_neg h2]
    refine Ev.neg h2 ?_
    rcases below_two (p := p) (xs := v) with h | h
    ·exact absurd h h2
    ·rw [h]; exact Ev.now _
  ·rw [if_neg h1]
   exact Ev.bind (a := (2 : Int)) (Ev.neg (by omega) (Ev.now _)) (Ev.neg (by decide) (Ev.now _))
 ·rw [if_neg hc]
  exact Ev.neg hc (Ev.now _)
theorem refApply_l0 {p n : Nat} {m : List (List Nat)} (G : Good p m n) (v : List Nat) (hv : v.length = n) (hvs : ∀ x ∈ v, x < p) : ∀ (d i : Nat), m.length - i = d → i ≤ m.length → Ev (fun k => juntoref03_Apply.l0 k (p : Int) (Arith.cast v) ((Arith.cast (applyN p m v)).take i) (cM m) (m.length : Int) (i : Int)) (Arith.cast (applyN p m v)) := by
 have h0 : 0 < p := by have := G.prime.1; omega
 have hp : p ≤ 65537 := G.prime.2.1
 have hL : (Arith.cast (applyN p m v)).length = m.length := by rw [cast_len, applyN_len]
 intro d
 induction d with
 | zero =>
  intro i hd hil
  refine Ev.step (fun k => juntoref03_Apply.l0.eq_2 _ _ _ _ _ _ k) (Ev.neg (by omega) ?_)
  rw [List.take_of_length_le (by omega)]
  exact Ev.now _
 | succ d ih =>
  intro i hd hil
  have hi : i < m.length := by omega
  have hr := G.rows
  refine Ev.step (fun k => juntoref03_Apply.l0.eq_2 _ _ _ _ _ _ k) (Ev.pos (by omega) (Ev.pos (by omega) (Ev.pos (by rw [cM_len]; omega) ?_)))
  rw [cM_row, gd hi]
  have hw := G.wide _ (List.getElem_mem hi)
  refine (refDot_ev h0 hp m[i] v (by rw [hw, hv]) (by have := G.cols; omega) (G.small _ (List.getElem_mem hi)) hvs).bind ?_
  refine Ev.pos (by rw [List.length_take]; omega) ?_
  rw [w64_in (by omega) (by omega)]
  have e : ((dot p m[i] v : Nat) : Int) = (Arith.cast (applyN p m v))[i]'(by omega) := by simp [applyN]
  rw [e, ← List.take_succ_eq_append_getElem (by omega)]
  exact ih (i + 1) (by omega) (by omega)
theorem refApply_ev {p n : Nat} {m : List (List Nat)} (G : Good p m n) (v : List Nat) (hv : v.length = n) (hvs : ∀ x ∈ v, x < p) : Ev (fun k => juntoref03_Apply.f k (p : Int) (cM m) (Arith.cast v)) (Arith.cast (applyN p m v)) := by
 unfold juntoref03_Apply.f
 rw [cM_len]
 have h := refApply_l0 G v hv hvs m.length 0 (by omega) (by omega)
 rw [List.take_zero] at h
 exact h
end Go.Proofs.Ytfdkhkajehopkaa.Mb
