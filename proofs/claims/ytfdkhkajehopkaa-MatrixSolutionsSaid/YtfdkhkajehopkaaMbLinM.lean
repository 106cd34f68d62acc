/- Determinants of products, inverses, powers of distinct numbers. -/
import Derived.Test.YtfdkhkajehopkaaMbLinR
import Derived.Test.YtfdkhkajehopkaaMbTieS
import Derived.Test.YtfdkhkajehopkaaMbTieA
namespace Go.Proofs.Ytfdkhkajehopkaa.Mb
open Go.Proofs.Ytfdkhkajehopkaa.Num
set_option linter.unusedVariables false
set_option linter.unusedSimpArgs false

/-! ### the determinant answers to row operations -/
def cz (r : List Nat) : List Int := r.map fun (n : Nat) => (n : Int)
/-! ### products -/
def colAt (b : List (List Nat)) (k : Nat) : List Nat := b.map fun r => r.getD k 0
theorem dotS_dI : ∀ (r v : List Nat), ((dotS r v : Nat) : Int) = dI r (cz v)
 | [], v => by cases v <;> rfl
 | x :: r, [] => rfl
 | x :: r, y :: v => by
  have ih := dotS_dI r v
  show ((x * y + dotS r v : Nat) : Int) = x * y + dI r (cz v)
  rw [← ih]; push_cast; rfl
theorem dot_cg (p : Nat) (r v : List Nat) : Cg p ((dot p r v : Nat) : Int) (dI r (cz v)) := (Cg.mod p _).trans (Cg.of (dotS_dI r v))
theorem dI_zeros : ∀ (k : Nat) (z : List Int), dI (List.replicate k 0) z = 0
 | 0, z => by cases z <;> rfl
 | k + 1, [] => rfl
 | k + 1, y :: z => by rw [List.replicate_succ, dI, dI_zeros k z]; simp
theorem cz_at (v : List Nat) (i : Nat) : (cz v).getD i 0 = ((v.getD i 0 : Nat) : Int) := getD_map v (fun (n : Nat) => (n : Int)) i 0
theorem cz_len (v : List Nat) : (cz v).length = v.length := by simp [cz]
/-! ### the first columns alone -/
abbrev tk (n : Nat) (rows : List (List Nat)) : List (List Nat) := rows.map (List.take n)
theorem tk_get (n : Nat) (rows : List (List Nat)) (r : Nat) : (tk n rows).getD r [] = (rows.getD r []).take n := by
 have := getD_map rows (List.take n) r []
 simpa using this
theorem take_at {l : List Nat} {n j : Nat} (h : j < n) : (l.take n).getD j 0 = l.getD j 0 := by
 rw [List.getD_eq_getElem?_getD, List.getElem?_take_of_lt h, List.getD_eq_getElem?_getD]
theorem tk_ent {n : Nat} (rows : List (List Nat)) (r : Nat) {j : Nat} (h : j < n) : ent (tk n rows) r j = ent rows r j := by
 unfold ent
 rw [tk_get, take_at h]
theorem tk_srch {n : Nat} (rows : List (List Nat)) (at_ : Nat) {c : Nat} (h : c < n) : srchN (tk n rows) at_ c = srchN rows at_ c := by
 unfold srchN
 rw [List.length_map]
 congr 1
 funext i
 have := tk_ent rows i h
 unfold ent at this
 rw [this]
theorem tk_elim1 {p n c : Nat} (h : c < n) (at_ i : Nat) (rows : List (List Nat)) : elim1N p c at_ i (tk n rows) = tk n (elim1N p c at_ i rows) := by
 unfold elim1N
 split
 ·rfl
 ·have := tk_ent rows i h
  unfold ent at this
  rw [this, tk_get, tk_get]
  simp only [tk, List.map_set]
  congr 1
  unfold subRow
  rw [List.take_zipWith]
theorem tk_elim {p n c : Nat} (h : c < n) (at_ : Nat) : ∀ (d i : Nat) (rows : List (List Nat)), elimN p c at_ d i (tk n rows) = tk n (elimN p c at_ d i rows)
 | 0, _, _ => rfl
 | d + 1, i, rows => by rw [elimN, elimN, tk_elim1 h, tk_elim h at_ d (i + 1)]
theorem tk_red {p n : Nat} : ∀ (d c : Nat) (rows : List (List Nat)) (det : Nat) (lead : List Nat), c + d ≤ n → redN p d c (tk n rows) det lead = (tk n (redN p d c rows det lead).1, (redN p d c rows det lead).2.1, (redN p d c rows det lead).2.2)
 | 0, _, _, _, _, _ => rfl
 | d + 1, c, rows, det, lead, h => by
  rw [redN, redN, tk_srch rows _ (show c < n by omega)]
  cases hs : srchN rows lead.length c with
  | none => exact tk_red d (c + 1) rows det lead (by omega)
  | some i0 =>
   have hx := tk_ent rows i0 (show c < n by omega)
   unfold ent at hx
   have hp : pivN (tk n rows) lead.length i0 (mulRow p (invN p (((tk n rows).getD i0 []).getD c 0)) ((tk n rows).getD i0 [])) = tk n (pivN rows lead.length i0 (mulRow p (invN p ((rows.getD i0 []).getD c 0)) (rows.getD i0 []))) := by
    unfold pivN
    rw [hx, tk_get, tk_get]
    simp only [tk, List.map_set]
    congr 1
    unfold mulRow
    rw [List.map_take]
   simp only [hp]
   rw [hx, List.length_map, tk_elim (by omega)]
   exact tk_red d (c + 1) _ _ _ (by omega)
theorem tk_beside {p n k : Nat} {m w : List (List Nat)} (h : MatP p n m) (hw : w.length = m.length) : tk n (besideN m w) = m := by
 refine ext_rows (by rw [List.length_map, besideN_length hw]) fun i hi => ?_
 rw [List.length_map, besideN_length hw] at hi
 have h1 := besideN_get hw i hi
 rw [tk_get, List.getD_eq_getElem?_getD, h1, Option.getD_some, List.getD_eq_getElem?_getD, List.getElem?_eq_getElem hi, Option.getD_some]
 exact List.take_left' (h.wide _ (List.getElem_mem hi))
/-- More columns beside the matrix change nothing in the first ones. -/
theorem red_beside {p n : Nat} {m w : List (List Nat)} (h : MatP p n m) (hw : w.length = m.length) : redN p n 0 m 1 [] = (tk n (redN p n 0 (besideN m w) 1 []).1, (redN p n 0 (besideN m w) 1 []).2.1, (redN p n 0 (besideN m w) 1 []).2.2) := by
 have := tk_red (p := p) (n := n) n 0 (besideN m w) 1 [] (by omega)
 rwa [tk_beside (k := 0) h hw] at this

/-! ### the inverse -/
theorem dI_append : ∀ (x y : List Nat) (u v : List Int), x.length = u.length → dI (x ++ y) (u ++ v) = dI x u + dI y v
 | [], y, [], v, _ => by simp [dI]
 | [], _, _ :: _, _, h => by simp at h
 | _ :: _, _, [], _, h => by simp at h
 | a :: x, y, b :: u, v, h => by
  have ih := dI_append x y u v (by simpa using h)
  simp only [List.cons_append, dI, ih]
  omega
theorem besideN_row {m w : List (List Nat)} (hw : w.length = m.length) {i : Nat} (hi : i < m.length) : (besideN m w).getD i [] = m.getD i [] ++ w.getD i [] := by
 rw [List.getD_eq_getElem?_getD, besideN_get hw i hi, Option.getD_some, List.getD_eq_getElem?_getD, List.getElem?_eq_getElem hi, List.getD_eq_getElem?_getD, List.getElem?_eq_getElem (by omega)]; rfl
/-! ### powers of distinct numbers -/
end Go.Proofs.Ytfdkhkajehopkaa.Mb
