/- Determinants of products, inverses, powers of distinct numbers. -/
import Derived.Test.YtfdkhkajehopkaaMbLinR
import Derived.Test.YtfdkhkajehopkaaMbTieS
import Derived.Test.YtfdkhkajehopkaaMbTieA
namespace Go.Proofs.Ytfdkhkajehopkaa.Mb
open Go.Proofs.Ytfdkhkajehopkaa.Num
set_option linter.unusedVariables false
set_option linter.unusedSimpArgs false

/-! ### the determinant answers to row operations -/
def cz (r : List Nat) : List Int := r.map fun (n : Nat) => (n : Int)
/-! ### products -/
def colAt (b : List (List Nat)) (k : Nat) : List Nat := b.map fun r => r.getD k 0
def rmul (p w : Nat) (b : List (List Nat)) (r : List Nat) : List Nat := (List.range w).map fun k => dot p r (colAt b k)
def mulN (p w : Nat) (a b : List (List Nat)) : List (List Nat) := a.map (rmul p w b)
theorem dotS_dI : ∀ (r v : List Nat), ((dotS r v : Nat) : Int) = dI r (cz v)
 | [], v => by cases v <;> rfl
 | x :: r, [] => rfl
 | x :: r, y :: v => by
  have ih := dotS_dI r v
  show ((x * y + dotS r v : Nat) : Int) = x * y + dI r (cz v)
  rw [← ih]; push_cast; rfl
theorem dot_cg (p : Nat) (r v : List Nat) : Cg p ((dot p r v : Nat) : Int) (dI r (cz v)) := (Cg.mod p _).trans (Cg.of (dotS_dI r v))
theorem rmul_at {p w k : Nat} (b : List (List Nat)) (r : List Nat) (hk : k < w) : (rmul p w b r).getD k 0 = dot p r (colAt b k) := by
 unfold rmul
 rw [List.getD_eq_getElem?_getD, List.getElem?_map, List.getElem?_range hk]; rfl
theorem rmul_len (p w : Nat) (b : List (List Nat)) (r : List Nat) : (rmul p w b r).length = w := by simp [rmul]
theorem mulN_len (p w : Nat) (a b : List (List Nat)) : (mulN p w a b).length = a.length := by simp [mulN]
theorem mulN_get {p w : Nat} (a b : List (List Nat)) {i : Nat} (hi : i < a.length) : (mulN p w a b).getD i [] = rmul p w b (a.getD i []) := by
 unfold mulN
 rw [List.getD_eq_getElem?_getD, List.getElem?_map, List.getD_eq_getElem?_getD, List.getElem?_eq_getElem hi]; rfl
theorem unitN_zero (n : Nat) : unitN (n + 1) 0 = 1 :: List.replicate n 0 := by
 unfold unitN
 rw [List.range_succ_eq_map]
 simp only [List.map_cons, List.map_map, if_pos]
 congr 1
 rw [List.eq_replicate_iff]
 simp
theorem unitN_succ (n i : Nat) : unitN (n + 1) (i + 1) = 0 :: unitN n i := by
 unfold unitN
 rw [List.range_succ_eq_map]
 simp only [List.map_cons, List.map_map]
 congr 1
 refine List.map_congr_left fun j _ => ?_
 simp
theorem dI_zeros : ∀ (k : Nat) (z : List Int), dI (List.replicate k 0) z = 0
 | 0, z => by cases z <;> rfl
 | k + 1, [] => rfl
 | k + 1, y :: z => by rw [List.replicate_succ, dI, dI_zeros k z]; simp
theorem dI_unit : ∀ (n i : Nat) (z : List Int), z.length = n → i < n → dI (unitN n i) z = z.getD i 0
 | 0, i, z, _, h => by omega
 | n + 1, 0, [], h, _ => by simp at h
 | n + 1, 0, y :: z, h, _ => by rw [unitN_zero, dI, dI_zeros]; simp
 | n + 1, i + 1, [], h, _ => by simp at h
 | n + 1, i + 1, y :: z, h, hi => by rw [unitN_succ, dI, dI_unit n i z (by simpa using h) (by omega)]; simp
theorem colAt_len (b : List (List Nat)) (k : Nat) : (colAt b k).length = b.length := by simp [colAt]
theorem colAt_at {b : List (List Nat)} {k i : Nat} (hi : i < b.length) : (colAt b k).getD i 0 = ent b i k := by
 unfold colAt ent
 rw [List.getD_eq_getElem?_getD, List.getElem?_map, List.getD_eq_getElem?_getD (l := b), List.getElem?_eq_getElem hi]; rfl
theorem cz_at (v : List Nat) (i : Nat) : (cz v).getD i 0 = ((v.getD i 0 : Nat) : Int) := getD_map v (fun (n : Nat) => (n : Int)) i 0
theorem cz_len (v : List Nat) : (cz v).length = v.length := by simp [cz]
/-! ### the first columns alone -/
abbrev tk (n : Nat) (rows : List (List Nat)) : List (List Nat) := rows.map (List.take n)
theorem tk_get (n : Nat) (rows : List (List Nat)) (r : Nat) : (tk n rows).getD r [] = (rows.getD r []).take n := by
 have := getD_map rows (List.take n) r []
 simpa using this
theorem take_at {l : List Nat} {n j : Nat} (h : j < n) : (l.take n).getD j 0 = l.getD j 0 := by
 rw [List.getD_eq_getElem?_getD, List.getElem?_take_of_lt h, List.getD_eq_getElem?_getD]
theorem tk_ent {n : Nat} (rows : List (List Nat)) (r : Nat) {j : Nat} (h : j < n) : ent (tk n rows) r j = ent rows r j := by
 unfold ent
 rw [tk_get, take_at h]
theorem tk_srch {n : Nat} (rows : List (List Nat)) (at_ : Nat) {c : Nat} (h : c < n) : srchN (tk n rows) at_ c = srchN rows at_ c := by
 unfold srchN
 rw [List.length_map]
 congr 1
 funext i
 have := tk_ent rows i h
 unfold ent at this
 rw [this]
theorem tk_elim1 {p n c : Nat} (h : c < n) (at_ i : Nat) (rows : List (List Nat)) : elim1N p c at_ i (tk n rows) = tk n (elim1N p c at_ i rows) := by
 unfold elim1N
 split
 ·rfl
 ·have := tk_ent rows i h
  unfold ent at this
  rw [this, tk_get, tk_get]
  simp only [tk, List.map_set]
  congr 1
  unfold subRow
  rw [List.take_zipWith]
theorem tk_elim {p n c : Nat} (h : c < n) (at_ : Nat) : ∀ (d i : Nat) (rows : List (List Nat)), elimN p c at_ d i (tk n rows) = tk n (elimN p c at_ d i rows)
 | 0, _, _ => rfl
 | d + 1, i, rows => by rw [elimN, elimN, tk_elim1 h, tk_elim h at_ d (i + 1)]
theorem tk_red {p n : Nat} : ∀ (d c : Nat) (rows : List (List Nat)) (det : Nat) (lead : List Nat), c + d ≤ n → redN p d c (tk n rows) det lead = (tk n (redN p d c rows det lead).1, (redN p d c rows det lead).2.1, (redN p d c rows det lead).2.2)
 | 0, _, _, _, _, _ => rfl
 | d + 1, c, rows, det, lead, h => by
  rw [redN, redN, tk_srch rows _ (show c < n by omega)]
  cases hs : srchN rows lead.length c with
  | none => exact tk_red d (c + 1) rows det lead (by omega)
  | some i0 =>
   have hx := tk_ent rows i0 (show c < n by omega)
   unfold ent at hx
   have hp : pivN (tk n rows) lead.length i0 (mulRow p (invN p (((tk n rows).getD i0 []).getD c 0)) ((tk n rows).getD i0 [])) = tk n (pivN rows lead.length i0 (mulRow p (invN p ((rows.getD i0 []).getD c 0)) (rows.getD i0 []))) := by
    unfold pivN
    rw [hx, tk_get, tk_get]
    simp only [tk, List.map_set]
    congr 1
    unfold mulRow
    rw [List.map_take]
   simp only [hp]
   rw [hx, List.length_map, tk_elim (by omega)]
   exact tk_red d (c + 1) _ _ _ (by omega)
theorem tk_beside {p n k : Nat} {m w : List (List Nat)} (h : MatP p n m) (hw : w.length = m.length) : tk n (besideN m w) = m := by
 refine ext_rows (by rw [List.length_map, besideN_length hw]) fun i hi => ?_
 rw [List.length_map, besideN_length hw] at hi
 have h1 := besideN_get hw i hi
 rw [tk_get, List.getD_eq_getElem?_getD, h1, Option.getD_some, List.getD_eq_getElem?_getD, List.getElem?_eq_getElem hi, Option.getD_some]
 exact List.take_left' (h.wide _ (List.getElem_mem hi))
/-- More columns beside the matrix change nothing in the first ones. -/
theorem red_beside {p n : Nat} {m w : List (List Nat)} (h : MatP p n m) (hw : w.length = m.length) : redN p n 0 m 1 [] = (tk n (redN p n 0 (besideN m w) 1 []).1, (redN p n 0 (besideN m w) 1 []).2.1, (redN p n 0 (besideN m w) 1 []).2.2) := by
 have := tk_red (p := p) (n := n) n 0 (besideN m w) 1 [] (by omega)
 rwa [tk_beside (k := 0) h hw] at this

/-! ### the inverse -/
theorem dI_append : ∀ (x y : List Nat) (u v : List Int), x.length = u.length → dI (x ++ y) (u ++ v) = dI x u + dI y v
 | [], y, [], v, _ => by simp [dI]
 | [], _, _ :: _, _, h => by simp at h
 | _ :: _, _, [], _, h => by simp at h
 | a :: x, y, b :: u, v, h => by
  have ih := dI_append x y u v (by simpa using h)
  simp only [List.cons_append, dI, ih]
  omega
theorem dI_neg : ∀ (x : List Nat) (z : List Int), dI x (z.map (- ·)) = - dI x z
 | [], z => by simp [dI]
 | a :: x, [] => by simp [dI]
 | a :: x, b :: z => by
  have ih := dI_neg x z
  simp only [List.map_cons, dI, ih]
  grind
theorem dI_unit2 : ∀ (n i : Nat) (x : List Nat), x.length = n → i < n → dI x (cz (unitN n i)) = x.getD i 0
 | 0, i, x, _, h => by omega
 | n + 1, 0, [], h, _ => by simp at h
 | n + 1, 0, a :: x, h, _ => by
  rw [unitN_zero]
  have : ∀ (k : Nat) (x : List Nat), dI x (cz (List.replicate k 0)) = 0 := by
   intro k
   induction k with
   | zero => intro x; cases x <;> rfl
   | succ k ih =>
    intro x
    cases x with
    | nil => rfl
    | cons y x => have := ih x; simp only [cz, List.replicate_succ, List.map_cons, dI] at this ⊢; rw [this]; simp
  show (a : Int) * ((1 : Nat) : Int) + dI x (cz (List.replicate n 0)) = _
  rw [this]; simp
 | n + 1, i + 1, [], h, _ => by simp at h
 | n + 1, i + 1, a :: x, h, hi => by
  rw [unitN_succ]
  show (a : Int) * ((0 : Nat) : Int) + dI x (cz (unitN n i)) = _
  rw [dI_unit2 n i x (by simpa using h) (by omega)]; simp
def inverseN (p : Nat) (m : List (List Nat)) : List (List Nat) := (redN p m.length 0 (besideN m (identN m.length)) 1 []).1.map (List.drop m.length)
theorem identN_mat (p n : Nat) (h1 : 1 < p) : MatP p n (identN n) := by
 constructor
 ·intro r hr
  obtain ⟨i, _, rfl⟩ := List.mem_map.1 hr
  exact unitN_len n i
 ·intro r hr x hx
  obtain ⟨i, _, rfl⟩ := List.mem_map.1 hr
  obtain ⟨j, _, rfl⟩ := List.mem_map.1 hx
  split <;> omega
theorem besideN_row {m w : List (List Nat)} (hw : w.length = m.length) {i : Nat} (hi : i < m.length) : (besideN m w).getD i [] = m.getD i [] ++ w.getD i [] := by
 rw [List.getD_eq_getElem?_getD, besideN_get hw i hi, Option.getD_some, List.getD_eq_getElem?_getD, List.getElem?_eq_getElem hi, List.getD_eq_getElem?_getD, List.getElem?_eq_getElem (by omega)]; rfl
theorem inverseN_mat {p n : Nat} (hP : IsP p) {m : List (List Nat)} (h : MatP p n m) (hl : m.length = n) : MatP p n (inverseN p m) ∧ (inverseN p m).length = n := by
 have h3 := hP.1
 have hI := identN_mat p n (by omega)
 have hM := besideN_mat h hI
 have hinv := redN_inv hP n 0 _ 1 [] (RInv.start hM) (by omega)
 unfold inverseN
 rw [hl]
 constructor
 ·constructor
  ·intro r hr
   obtain ⟨x, hx, rfl⟩ := List.mem_map.1 hr
   rw [List.length_drop, hinv.1.mat.wide x hx]; omega
  ·intro r hr y hy
   obtain ⟨x, hx, rfl⟩ := List.mem_map.1 hr
   exact hinv.1.mat.small x hx y (List.mem_of_mem_drop hy)
 ·rw [List.length_map, hinv.2, besideN_length (by rw [identN_len, hl]), hl]
/-- A matrix times its inverse. -/
theorem mul_inverse {p n : Nat} (hP : IsP p) {m : List (List Nat)} (h : MatP p n m) (hl : m.length = n) (hf : ¬ (redN p n 0 m 1 []).2.2.length < n) : mulN p n m (inverseN p m) = identN n := by
 have h3 := hP.1
 have h0 : 0 < p := by omega
 have hI := identN_mat p n (by omega)
 have hw : (identN n).length = m.length := by rw [identN_len, hl]
 have hM := besideN_mat h hI
 have hinv := redN_inv hP n 0 _ 1 [] (RInv.start hM) (by omega)
 rw [red_beside h hw] at hf
 simp only at hf
 rw [Nat.zero_add] at hinv
 obtain ⟨hR, hRl⟩ := hinv
 have hm := inverseN_mat hP h hl
 have hlead : (redN p n 0 (besideN m (identN n)) 1 []).2.2.length = n := by
  have h1 := hR.few
  rw [hRl, besideN_length hw] at h1
  omega
 rw [besideN_length hw, hl] at hRl
 -- the reduced rows
 have hrow : ∀ r, r < n → (redN p n 0 (besideN m (identN n)) 1 []).1.getD r [] = unitN n r ++ (inverseN p m).getD r [] := by
  intro r hr
  have h1 := (hR.mat.row (show r < (redN p n 0 (besideN m (identN n)) 1 []).1.length by omega)).1
  rw [← List.take_append_drop n ((redN p n 0 (besideN m (identN n)) 1 []).1.getD r [])]
  congr 1
  ·refine ext_getD (by rw [List.length_take, h1, unitN_len]; omega) fun j hj => ?_
   rw [List.length_take, h1] at hj
   rw [take_at (by omega), show ((redN p n 0 (besideN m (identN n)) 1 []).1.getD r []).getD j 0 = _ from hR.full hlead r (by omega) j (by omega), unitN_at (by omega)]
   by_cases e : r = j
   ·rw [if_pos e, if_pos e.symm]
   ·rw [if_neg e, if_neg (Ne.symm e)]
  ·unfold inverseN
   rw [hl]
   have := getD_map (redN p n 0 (besideN m (identN n)) 1 []).1 (List.drop n) r []
   simpa using this.symm
 have hinvl : ∀ r, r < n → ((inverseN p m).getD r []).length = n := fun r hr => (hm.1.row (by omega)).1
 have kills : ∀ k, k < n → Kills p (besideN m (identN n)) (cz (colAt (inverseN p m) k) ++ (cz (unitN n k)).map (- ·)) := by
  intro k hk
  rw [← redN_kills hP _ n 0 _ 1 [] hM (by omega)]
  intro r hr
  rw [hRl] at hr
  rw [hrow r hr, dI_append _ _ _ _ (by rw [unitN_len, cz_len, colAt_len, hm.2]), dI_unit n r _ (by rw [cz_len, colAt_len, hm.2]) hr, cz_at, colAt_at (by omega), dI_neg, dI_unit2 n k _ (hinvl r hr) hk]
  exact Cg.of (by unfold ent; omega)
 refine ext_rows (by rw [mulN_len, identN_len, hl]) fun i hi => ?_
 rw [mulN_len, hl] at hi
 rw [mulN_get _ _ (by omega), identN_row hi]
 refine ext_getD (by rw [rmul_len, unitN_len]) fun k hk => ?_
 rw [rmul_len] at hk
 rw [rmul_at _ _ hk, unitN_at hk]
 have h1 := kills k hk i (by rw [besideN_length hw]; omega)
 rw [besideN_row hw (by omega), dI_append _ _ _ _ (by rw [(h.row (by omega)).1, cz_len, colAt_len, hm.2]), identN_row hi, dI_neg, dI_unit2 n k _ (unitN_len n i) hk, unitN_at hk] at h1
 refine Cg.eq (dot_lt h0 _ _) (by split <;> omega) ((dot_cg p _ _).trans ?_)
 have h2 := h1.add (Cg.refl (p := p) (((if k = i then 1 else 0 : Nat)) : Int))
 exact Cg.trans (Cg.of (by omega)) (h2.trans (Cg.of (by omega)))

/-! ### powers of distinct numbers -/
end Go.Proofs.Ytfdkhkajehopkaa.Mb
