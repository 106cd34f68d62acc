/- Determinants of products, inverses, powers of distinct numbers. -/
import Derived.Test.YtfdkhkajehopkaaMbLinR
import Derived.Test.YtfdkhkajehopkaaMbTieS
import Derived.Test.YtfdkhkajehopkaaMbTieA
namespace Go.Proofs.Ytfdkhkajehopkaa.Mb
open Go.Proofs.Ytfdkhkajehopkaa.Num Go.Proofs.Ytfdkhkajehopkaa.Lin
set_option linter.unusedVariables false
set_option linter.unusedSimpArgs false

/-! ### the determinant answers to row operations -/
def cz (r : List Nat) : List Int := r.map fun (n : Nat) => (n : Int)
theorem D_cg {p n : Nat} {X Y : List (List Int)} (h : X.map (redp p) = Y.map (redp p)) : Cg p (D n X) (D n Y) := by
 rw [Cg.iff_emod, ← D_red, h, D_red]
theorem D_cg_set {p n i : Nat} {L : List (List Int)} {x y : List Int} (h : redp p x = redp p y) : Cg p (D n (L.set i x)) (D n (L.set i y)) :=
 D_cg (by rw [List.map_set, List.map_set, h])
theorem set_split {α : Type} (L : List α) {i : Nat} (hi : i < L.length) (x : α) : L.set i x = L.take i ++ x :: L.drop (i + 1) := by
 rw [List.set_eq_take_append_cons_drop, if_pos hi]
theorem two_set {α : Type} : ∀ (L : List α) (i j : Nat), i < j → j < L.length → ∃ a mid b, ∀ r s, (L.set i r).set j s = a ++ r :: (mid ++ s :: b)
 | [], i, j, _, h => by simp at h
 | x :: L, 0, j + 1, _, h => ⟨[], L.take j, L.drop (j + 1), fun r s => by
   rw [List.set_cons_zero, List.set_cons_succ, set_split L (by simpa using h) s]; rfl⟩
 | x :: L, i + 1, j + 1, hij, h => by
  obtain ⟨a, mid, b, hh⟩ := two_set L i j (by omega) (by simpa using h)
  exact ⟨x :: a, mid, b, fun r s => by rw [List.set_cons_succ, List.set_cons_succ, hh]; rfl⟩
theorem pair_set {α : Type} (L : List α) {i j : Nat} (hi : i < L.length) (hj : j < L.length) (h : i ≠ j) : ∃ a mid b, (∀ r s, (L.set i r).set j s = a ++ r :: (mid ++ s :: b)) ∨ (∀ r s, (L.set i r).set j s = a ++ s :: (mid ++ r :: b)) := by
 rcases Nat.lt_or_gt_of_ne h with h1 | h1
 ·obtain ⟨a, mid, b, hh⟩ := two_set L i j h1 hj
  exact ⟨a, mid, b, Or.inl hh⟩
 ·obtain ⟨a, mid, b, hh⟩ := two_set L j i h1 hi
  exact ⟨a, mid, b, Or.inr fun r s => by rw [List.set_comm _ _ h, hh]⟩
theorem Dset_swap {n : Nat} {L : List (List Int)} {i j : Nat} (hi : i < L.length) (hj : j < L.length) (h : i ≠ j) (r s : List Int) : D n ((L.set i r).set j s) = - D n ((L.set i s).set j r) := by
 obtain ⟨a, mid, b, hh | hh⟩ := pair_set L hi hj h
 ·rw [hh, hh]; exact D_far n r s mid a b
 ·rw [hh, hh]; exact D_far n s r mid a b
theorem Dset_addk {n : Nat} {L : List (List Int)} {i j : Nat} (hi : i < L.length) (hj : j < L.length) (h : i ≠ j) (k : Int) (r s : List Int) (hl : r.length = s.length) : D n ((L.set i (addk k r s)).set j s) = D n ((L.set i r).set j s) := by
 obtain ⟨a, mid, b, hh | hh⟩ := pair_set L hi hj h
 ·rw [hh, hh]; exact D_addk_below k n a mid b r s hl
 ·rw [hh, hh]; exact D_addk_above k n a mid b r s hl
theorem red_mulRow (p k : Nat) (r : List Nat) : redp p (cz (mulRow p k r)) = redp p ((cz r).map ((k : Int) * ·)) := by
 unfold redp cz mulRow
 rw [List.map_map, List.map_map, List.map_map, List.map_map]
 refine List.map_congr_left fun a _ => ?_
 show (((a * k % p : Nat) : Int)) % p = ((k : Int) * a) % p
 rw [← Cg.iff_emod]
 refine (Cg.mod p _).trans (Cg.of ?_)
 push_cast
 exact Int.mul_comm _ _
theorem red_subRow {p y : Nat} (h0 : 0 < p) : ∀ (rt rf : List Nat), redp p (cz (subRow p y rt rf)) = redp p (addk (-(y : Int)) (cz rt) (cz rf))
 | [], _ => by simp [subRow, addk, cz, redp]
 | _ :: _, [] => by simp [subRow, addk, cz, redp]
 | a :: rt, x :: rf => by
  have ih := red_subRow (p := p) (y := y) h0 rt rf
  have h1 : (((a + (p - y * x % p)) % p : Nat) : Int) % p = ((a : Int) + -(y : Int) * x) % p := by
   rw [← Cg.iff_emod]
   exact (sub_cg h0).trans (Cg.of (by grind))
  show (((a + (p - y * x % p)) % p : Nat) : Int) % p :: redp p (cz (subRow p y rt rf)) = ((a : Int) + -(y : Int) * x) % p :: redp p (addk (-(y : Int)) (cz rt) (cz rf))
  rw [ih, h1]
theorem cz_get {rows : List (List Nat)} (i : Nat) : (rows.map cz).getD i [] = cz (rows.getD i []) := getD_map rows cz i []
theorem altD (p n : Nat) (h0 : 0 < p) : Alt p n (fun rows => D n (rows.map cz)) := by
 constructor
 ·intro rows h hl i k hi
  have hi' : i < (rows.map cz).length := by rw [List.length_map]; omega
  simp only [List.map_set]
  refine (D_cg_set (red_mulRow p k _)).trans (Cg.of ?_)
  rw [set_split _ hi', D_scale, ← set_split _ hi', ← cz_get, set_same]
 ·intro rows h hl i j hi hj hij
  have hi' : i < (rows.map cz).length := by rw [List.length_map]; omega
  have hj' : j < (rows.map cz).length := by rw [List.length_map]; omega
  simp only [List.map_set]
  rw [Dset_swap hi' hj' hij, ← cz_get, ← cz_get, set_same, set_same]
  exact Cg.refl _
 ·intro rows h hl i j y hi hj hij
  have hi' : i < (rows.map cz).length := by rw [List.length_map]; omega
  have hj' : j < (rows.map cz).length := by rw [List.length_map]; omega
  have hlen : (cz (rows.getD i [])).length = (cz (rows.getD j [])).length := by simp only [cz, List.length_map]; rw [(h.row (by omega)).1, (h.row (by omega)).1]
  simp only [List.map_set]
  refine (D_cg_set (red_subRow h0 _ _)).trans (Cg.of ?_)
  have e : ∀ x, ((rows.map cz).set i x).set j (cz (rows.getD j [])) = (rows.map cz).set i x := fun x => by
   have : ((rows.map cz).set i x).getD j [] = cz (rows.getD j []) := by rw [getD_set, if_neg (fun c => hij c.1), cz_get]
   rw [← this, set_same]
  rw [← e, Dset_addk hi' hj' hij _ _ _ hlen, e, ← cz_get, set_same]
 ·intro rows h hl i hi hz
  have hi' : i < (rows.map cz).length := by rw [List.length_map]; omega
  refine Cg.of ?_
  show D n (rows.map cz) = 0
  rw [← set_same (rows.map cz) i [], cz_get, hz, set_split _ hi']
  have : cz (List.replicate n 0) = List.replicate n 0 := by simp [cz]
  rw [this, D_zero]

/-! ### products -/
def colAt (b : List (List Nat)) (k : Nat) : List Nat := b.map fun r => r.getD k 0
def rmul (p w : Nat) (b : List (List Nat)) (r : List Nat) : List Nat := (List.range w).map fun k => dot p r (colAt b k)
def mulN (p w : Nat) (a b : List (List Nat)) : List (List Nat) := a.map (rmul p w b)
theorem dotS_dI : ∀ (r v : List Nat), ((dotS r v : Nat) : Int) = dI r (cz v)
 | [], v => by cases v <;> rfl
 | x :: r, [] => rfl
 | x :: r, y :: v => by
  have ih := dotS_dI r v
  show ((x * y + dotS r v : Nat) : Int) = x * y + dI r (cz v)
  rw [← ih]; push_cast; rfl
theorem dot_cg (p : Nat) (r v : List Nat) : Cg p ((dot p r v : Nat) : Int) (dI r (cz v)) := (Cg.mod p _).trans (Cg.of (dotS_dI r v))
theorem rmul_at {p w k : Nat} (b : List (List Nat)) (r : List Nat) (hk : k < w) : (rmul p w b r).getD k 0 = dot p r (colAt b k) := by
 unfold rmul
 rw [List.getD_eq_getElem?_getD, List.getElem?_map, List.getElem?_range hk]; rfl
theorem rmul_len (p w : Nat) (b : List (List Nat)) (r : List Nat) : (rmul p w b r).length = w := by simp [rmul]
theorem mulN_len (p w : Nat) (a b : List (List Nat)) : (mulN p w a b).length = a.length := by simp [mulN]
theorem mulN_get {p w : Nat} (a b : List (List Nat)) {i : Nat} (hi : i < a.length) : (mulN p w a b).getD i [] = rmul p w b (a.getD i []) := by
 unfold mulN
 rw [List.getD_eq_getElem?_getD, List.getElem?_map, List.getD_eq_getElem?_getD, List.getElem?_eq_getElem hi]; rfl
theorem unitN_zero (n : Nat) : unitN (n + 1) 0 = 1 :: List.replicate n 0 := by
 unfold unitN
 rw [List.range_succ_eq_map]
 simp only [List.map_cons, List.map_map, if_pos]
 congr 1
 rw [List.eq_replicate_iff]
 simp
theorem unitN_succ (n i : Nat) : unitN (n + 1) (i + 1) = 0 :: unitN n i := by
 unfold unitN
 rw [List.range_succ_eq_map]
 simp only [List.map_cons, List.map_map]
 congr 1
 refine List.map_congr_left fun j _ => ?_
 simp
theorem dI_zeros : ∀ (k : Nat) (z : List Int), dI (List.replicate k 0) z = 0
 | 0, z => by cases z <;> rfl
 | k + 1, [] => rfl
 | k + 1, y :: z => by rw [List.replicate_succ, dI, dI_zeros k z]; simp
theorem dI_unit : ∀ (n i : Nat) (z : List Int), z.length = n → i < n → dI (unitN n i) z = z.getD i 0
 | 0, i, z, _, h => by omega
 | n + 1, 0, [], h, _ => by simp at h
 | n + 1, 0, y :: z, h, _ => by rw [unitN_zero, dI, dI_zeros]; simp
 | n + 1, i + 1, [], h, _ => by simp at h
 | n + 1, i + 1, y :: z, h, hi => by rw [unitN_succ, dI, dI_unit n i z (by simpa using h) (by omega)]; simp
theorem colAt_len (b : List (List Nat)) (k : Nat) : (colAt b k).length = b.length := by simp [colAt]
theorem colAt_at {b : List (List Nat)} {k i : Nat} (hi : i < b.length) : (colAt b k).getD i 0 = ent b i k := by
 unfold colAt ent
 rw [List.getD_eq_getElem?_getD, List.getElem?_map, List.getD_eq_getElem?_getD (l := b), List.getElem?_eq_getElem hi]; rfl
theorem cz_at (v : List Nat) (i : Nat) : (cz v).getD i 0 = ((v.getD i 0 : Nat) : Int) := getD_map v (fun (n : Nat) => (n : Int)) i 0
theorem cz_len (v : List Nat) : (cz v).length = v.length := by simp [cz]
theorem identN_cz (n : Nat) : (identN n).map cz = ident n := by
 unfold identN ident
 rw [List.map_map]
 refine List.map_congr_left fun i _ => ?_
 show cz (unitN n i) = unit n i
 unfold cz unitN unit
 rw [List.map_map]
 refine List.map_congr_left fun j _ => ?_
 show (((if j = i then 1 else 0 : Nat)) : Int) = _
 split <;> rfl
theorem D_detN {p n : Nat} (hP : IsP p) {m : List (List Nat)} (h : MatP p n m) (hl : m.length = n) : Cg p (D n (m.map cz)) (detN p m) := by
 have h0 : 0 < p := by have := hP.1; omega
 have := det_alt (altD p n h0) hP h hl
 simp only [identN_cz, D_ident, Int.mul_one] at this
 exact this
/-- Two rows alike. -/
theorem det_alike {p n : Nat} (hP : IsP p) {m : List (List Nat)} (h : MatP p n m) (hl : m.length = n) {i j : Nat} (hi : i < n) (hj : j < n) (hij : i ≠ j) (he : m.getD i [] = m.getD j []) : detN p m = 0 := by
 have h1 := D_detN hP h hl
 have hi' : i < (m.map cz).length := by rw [List.length_map]; omega
 have hj' : j < (m.map cz).length := by rw [List.length_map]; omega
 have h2 := Dset_swap (n := n) hi' hj' hij (cz (m.getD i [])) (cz (m.getD j []))
 rw [he] at h2
 have e : ((m.map cz).set i (cz (m.getD j []))).set j (cz (m.getD j [])) = m.map cz := by
  conv => lhs; arg 1; rw [← he, ← cz_get, set_same]
  rw [← cz_get, set_same]
 rw [e] at h2
 have h3 : D n (m.map cz) = 0 := by omega
 rw [h3] at h1
 exact Cg.nat_zero (detN_lt hP h hl) h1.symm

/-! ### the first columns alone -/
abbrev tk (n : Nat) (rows : List (List Nat)) : List (List Nat) := rows.map (List.take n)
theorem tk_get (n : Nat) (rows : List (List Nat)) (r : Nat) : (tk n rows).getD r [] = (rows.getD r []).take n := by
 have := getD_map rows (List.take n) r []
 simpa using this
theorem take_at {l : List Nat} {n j : Nat} (h : j < n) : (l.take n).getD j 0 = l.getD j 0 := by
 rw [List.getD_eq_getElem?_getD, List.getElem?_take_of_lt h, List.getD_eq_getElem?_getD]
theorem tk_ent {n : Nat} (rows : List (List Nat)) (r : Nat) {j : Nat} (h : j < n) : ent (tk n rows) r j = ent rows r j := by
 unfold ent
 rw [tk_get, take_at h]
theorem tk_srch {n : Nat} (rows : List (List Nat)) (at_ : Nat) {c : Nat} (h : c < n) : srchN (tk n rows) at_ c = srchN rows at_ c := by
 unfold srchN
 rw [List.length_map]
 congr 1
 funext i
 have := tk_ent rows i h
 unfold ent at this
 rw [this]
theorem tk_elim1 {p n c : Nat} (h : c < n) (at_ i : Nat) (rows : List (List Nat)) : elim1N p c at_ i (tk n rows) = tk n (elim1N p c at_ i rows) := by
 unfold elim1N
 split
 ·rfl
 ·have := tk_ent rows i h
  unfold ent at this
  rw [this, tk_get, tk_get]
  simp only [tk, List.map_set]
  congr 1
  unfold subRow
  rw [List.take_zipWith]
theorem tk_elim {p n c : Nat} (h : c < n) (at_ : Nat) : ∀ (d i : Nat) (rows : List (List Nat)), elimN p c at_ d i (tk n rows) = tk n (elimN p c at_ d i rows)
 | 0, _, _ => rfl
 | d + 1, i, rows => by rw [elimN, elimN, tk_elim1 h, tk_elim h at_ d (i + 1)]
theorem tk_red {p n : Nat} : ∀ (d c : Nat) (rows : List (List Nat)) (det : Nat) (lead : List Nat), c + d ≤ n → redN p d c (tk n rows) det lead = (tk n (redN p d c rows det lead).1, (redN p d c rows det lead).2.1, (redN p d c rows det lead).2.2)
 | 0, _, _, _, _, _ => rfl
 | d + 1, c, rows, det, lead, h => by
  rw [redN, redN, tk_srch rows _ (show c < n by omega)]
  cases hs : srchN rows lead.length c with
  | none => exact tk_red d (c + 1) rows det lead (by omega)
  | some i0 =>
   have hx := tk_ent rows i0 (show c < n by omega)
   unfold ent at hx
   have hp : pivN (tk n rows) lead.length i0 (mulRow p (invN p (((tk n rows).getD i0 []).getD c 0)) ((tk n rows).getD i0 [])) = tk n (pivN rows lead.length i0 (mulRow p (invN p ((rows.getD i0 []).getD c 0)) (rows.getD i0 []))) := by
    unfold pivN
    rw [hx, tk_get, tk_get]
    simp only [tk, List.map_set]
    congr 1
    unfold mulRow
    rw [List.map_take]
   simp only [hp]
   rw [hx, List.length_map, tk_elim (by omega)]
   exact tk_red d (c + 1) _ _ _ (by omega)
theorem tk_beside {p n k : Nat} {m w : List (List Nat)} (h : MatP p n m) (hw : w.length = m.length) : tk n (besideN m w) = m := by
 refine ext_rows (by rw [List.length_map, besideN_length hw]) fun i hi => ?_
 rw [List.length_map, besideN_length hw] at hi
 have h1 := besideN_get hw i hi
 rw [tk_get, List.getD_eq_getElem?_getD, h1, Option.getD_some, List.getD_eq_getElem?_getD, List.getElem?_eq_getElem hi, Option.getD_some]
 exact List.take_left' (h.wide _ (List.getElem_mem hi))
/-- More columns beside the matrix change nothing in the first ones. -/
theorem red_beside {p n : Nat} {m w : List (List Nat)} (h : MatP p n m) (hw : w.length = m.length) : redN p n 0 m 1 [] = (tk n (redN p n 0 (besideN m w) 1 []).1, (redN p n 0 (besideN m w) 1 []).2.1, (redN p n 0 (besideN m w) 1 []).2.2) := by
 have := tk_red (p := p) (n := n) n 0 (besideN m w) 1 [] (by omega)
 rwa [tk_beside (k := 0) h hw] at this

/-! ### the inverse -/
theorem dI_append : ∀ (x y : List Nat) (u v : List Int), x.length = u.length → dI (x ++ y) (u ++ v) = dI x u + dI y v
 | [], y, [], v, _ => by simp [dI]
 | [], _, _ :: _, _, h => by simp at h
 | _ :: _, _, [], _, h => by simp at h
 | a :: x, y, b :: u, v, h => by
  have ih := dI_append x y u v (by simpa using h)
  simp only [List.cons_append, dI, ih]
  omega
theorem dI_neg : ∀ (x : List Nat) (z : List Int), dI x (z.map (- ·)) = - dI x z
 | [], z => by simp [dI]
 | a :: x, [] => by simp [dI]
 | a :: x, b :: z => by
  have ih := dI_neg x z
  simp only [List.map_cons, dI, ih]
  grind
theorem dI_unit2 : ∀ (n i : Nat) (x : List Nat), x.length = n → i < n → dI x (cz (unitN n i)) = x.getD i 0
 | 0, i, x, _, h => by omega
 | n + 1, 0, [], h, _ => by simp at h
 | n + 1, 0, a :: x, h, _ => by
  rw [unitN_zero]
  have : ∀ (k : Nat) (x : List Nat), dI x (cz (List.replicate k 0)) = 0 := by
   intro k
   induction k with
   | zero => intro x; cases x <;> rfl
   | succ k ih =>
    intro x
    cases x with
    | nil => rfl
    | cons y x => have := ih x; simp only [cz, List.replicate_succ, List.map_cons, dI] at this ⊢; rw [this]; simp
  show (a : Int) * ((1 : Nat) : Int) + dI x (cz (List.replicate n 0)) = _
  rw [this]; simp
 | n + 1, i + 1, [], h, _ => by simp at h
 | n + 1, i + 1, a :: x, h, hi => by
  rw [unitN_succ]
  show (a : Int) * ((0 : Nat) : Int) + dI x (cz (unitN n i)) = _
  rw [dI_unit2 n i x (by simpa using h) (by omega)]; simp
def inverseN (p : Nat) (m : List (List Nat)) : List (List Nat) := (redN p m.length 0 (besideN m (identN m.length)) 1 []).1.map (List.drop m.length)
theorem identN_mat (p n : Nat) (h1 : 1 < p) : MatP p n (identN n) := by
 constructor
 ·intro r hr
  obtain ⟨i, _, rfl⟩ := List.mem_map.1 hr
  exact unitN_len n i
 ·intro r hr x hx
  obtain ⟨i, _, rfl⟩ := List.mem_map.1 hr
  obtain ⟨j, _, rfl⟩ := List.mem_map.1 hx
  split <;> omega
theorem besideN_row {m w : List (List Nat)} (hw : w.length = m.length) {i : Nat} (hi : i < m.length) : (besideN m w).getD i [] = m.getD i [] ++ w.getD i [] := by
 rw [List.getD_eq_getElem?_getD, besideN_get hw i hi, Option.getD_some, List.getD_eq_getElem?_getD, List.getElem?_eq_getElem hi, List.getD_eq_getElem?_getD, List.getElem?_eq_getElem (by omega)]; rfl
theorem inverseN_mat {p n : Nat} (hP : IsP p) {m : List (List Nat)} (h : MatP p n m) (hl : m.length = n) : MatP p n (inverseN p m) ∧ (inverseN p m).length = n := by
 have h3 := hP.1
 have hI := identN_mat p n (by omega)
 have hM := besideN_mat h hI
 have hinv := redN_inv hP n 0 _ 1 [] (RInv.start hM) (by omega)
 unfold inverseN
 rw [hl]
 constructor
 ·constructor
  ·intro r hr
   obtain ⟨x, hx, rfl⟩ := List.mem_map.1 hr
   rw [List.length_drop, hinv.1.mat.wide x hx]; omega
  ·intro r hr y hy
   obtain ⟨x, hx, rfl⟩ := List.mem_map.1 hr
   exact hinv.1.mat.small x hx y (List.mem_of_mem_drop hy)
 ·rw [List.length_map, hinv.2, besideN_length (by rw [identN_len, hl]), hl]
/-- A matrix times its inverse. -/
theorem mul_inverse {p n : Nat} (hP : IsP p) {m : List (List Nat)} (h : MatP p n m) (hl : m.length = n) (hf : ¬ (redN p n 0 m 1 []).2.2.length < n) : mulN p n m (inverseN p m) = identN n := by
 have h3 := hP.1
 have h0 : 0 < p := by omega
 have hI := identN_mat p n (by omega)
 have hw : (identN n).length = m.length := by rw [identN_len, hl]
 have hM := besideN_mat h hI
 have hinv := redN_inv hP n 0 _ 1 [] (RInv.start hM) (by omega)
 rw [red_beside h hw] at hf
 simp only at hf
 rw [Nat.zero_add] at hinv
 obtain ⟨hR, hRl⟩ := hinv
 have hm := inverseN_mat hP h hl
 have hlead : (redN p n 0 (besideN m (identN n)) 1 []).2.2.length = n := by
  have h1 := hR.few
  rw [hRl, besideN_length hw] at h1
  omega
 rw [besideN_length hw, hl] at hRl
 -- the reduced rows
 have hrow : ∀ r, r < n → (redN p n 0 (besideN m (identN n)) 1 []).1.getD r [] = unitN n r ++ (inverseN p m).getD r [] := by
  intro r hr
  have h1 := (hR.mat.row (show r < (redN p n 0 (besideN m (identN n)) 1 []).1.length by omega)).1
  rw [← List.take_append_drop n ((redN p n 0 (besideN m (identN n)) 1 []).1.getD r [])]
  congr 1
  ·refine ext_getD (by rw [List.length_take, h1, unitN_len]; omega) fun j hj => ?_
   rw [List.length_take, h1] at hj
   rw [take_at (by omega), show ((redN p n 0 (besideN m (identN n)) 1 []).1.getD r []).getD j 0 = _ from hR.full hlead r (by omega) j (by omega), unitN_at (by omega)]
   by_cases e : r = j
   ·rw [if_pos e, if_pos e.symm]
   ·rw [if_neg e, if_neg (Ne.symm e)]
  ·unfold inverseN
   rw [hl]
   have := getD_map (redN p n 0 (besideN m (identN n)) 1 []).1 (List.drop n) r []
   simpa using this.symm
 have hinvl : ∀ r, r < n → ((inverseN p m).getD r []).length = n := fun r hr => (hm.1.row (by omega)).1
 have kills : ∀ k, k < n → Kills p (besideN m (identN n)) (cz (colAt (inverseN p m) k) ++ (cz (unitN n k)).map (- ·)) := by
  intro k hk
  rw [← redN_kills hP _ n 0 _ 1 [] hM (by omega)]
  intro r hr
  rw [hRl] at hr
  rw [hrow r hr, dI_append _ _ _ _ (by rw [unitN_len, cz_len, colAt_len, hm.2]), dI_unit n r _ (by rw [cz_len, colAt_len, hm.2]) hr, cz_at, colAt_at (by omega), dI_neg, dI_unit2 n k _ (hinvl r hr) hk]
  exact Cg.of (by unfold ent; omega)
 refine ext_rows (by rw [mulN_len, identN_len, hl]) fun i hi => ?_
 rw [mulN_len, hl] at hi
 rw [mulN_get _ _ (by omega), identN_row hi]
 refine ext_getD (by rw [rmul_len, unitN_len]) fun k hk => ?_
 rw [rmul_len] at hk
 rw [rmul_at _ _ hk, unitN_at hk]
 have h1 := kills k hk i (by rw [besideN_length hw]; omega)
 rw [besideN_row hw (by omega), dI_append _ _ _ _ (by rw [(h.row (by omega)).1, cz_len, colAt_len, hm.2]), identN_row hi, dI_neg, dI_unit2 n k _ (unitN_len n i) hk, unitN_at hk] at h1
 refine Cg.eq (dot_lt h0 _ _) (by split <;> omega) ((dot_cg p _ _).trans ?_)
 have h2 := h1.add (Cg.refl (p := p) (((if k = i then 1 else 0 : Nat)) : Int))
 exact Cg.trans (Cg.of (by omega)) (h2.trans (Cg.of (by omega)))

/-! ### powers of distinct numbers -/
def powN (p n x : Nat) : List Nat := (List.range n).map fun i => x ^ i % p
def vandN (p n : Nat) (xs : List Nat) : List (List Nat) := xs.map (powN p n)
theorem powN_len (p n x : Nat) : (powN p n x).length = n := by simp [powN]
theorem vandN_mat {p n : Nat} (h0 : 0 < p) (xs : List Nat) : MatP p n (vandN p n xs) := by
 constructor
 ·intro r hr
  obtain ⟨x, _, rfl⟩ := List.mem_map.1 hr
  exact powN_len p n x
 ·intro r hr y hy
  obtain ⟨x, _, rfl⟩ := List.mem_map.1 hr
  obtain ⟨j, _, rfl⟩ := List.mem_map.1 hy
  exact Nat.mod_lt _ h0
theorem vandN_len (p n : Nat) (xs : List Nat) : (vandN p n xs).length = xs.length := by simp [vandN]
theorem dI_pow {p x : Nat} : ∀ (n s : Nat) (z : List Int), z.length = n → Cg p (dI ((List.range n).map fun i => x ^ (i + s) % p) z) ((x : Int) ^ s * ev z x)
 | 0, s, [], _ => Cg.of (by simp [dI, ev])
 | 0, s, _ :: _, h => by simp at h
 | n + 1, s, [], h => by simp at h
 | n + 1, s, a :: z, h => by
  have ih := dI_pow (p := p) (x := x) n (s + 1) z (by simpa using h)
  have e : ((List.range (n + 1)).map fun i => x ^ (i + s) % p) = x ^ s % p :: (List.range n).map fun i => x ^ (i + (s + 1)) % p := by
   rw [List.range_succ_eq_map, List.map_cons, List.map_map, Nat.zero_add]
   congr 1
   refine List.map_congr_left fun i _ => ?_
   show x ^ (i + 1 + s) % p = x ^ (i + (s + 1)) % p
   rw [show i + 1 + s = i + (s + 1) by omega]
  rw [e]
  show Cg p (((x ^ s % p : Nat) : Int) * a + dI ((List.range n).map fun i => x ^ (i + (s + 1)) % p) z) ((x : Int) ^ s * (a + x * ev z x))
  refine (((Cg.mod p (x ^ s)).mul (Cg.refl a)).add ih).trans (Cg.of ?_)
  rw [Int.pow_succ]
  push_cast
  grind
theorem ev_top (x : Int) : ∀ (zs : List Int) (k : Nat), ev (zs ++ 1 :: List.replicate k 0) x = mv zs x
 | [], k => by
  have : ∀ k, ev (List.replicate k 0) x = 0 := by
   intro k
   induction k with
   | zero => rfl
   | succ k ih => rw [List.replicate_succ, ev, ih]; simp
  simp [ev, mv, this]
 | c :: zs, k => by
  rw [List.cons_append, ev, mv, ev_top x zs k]
theorem first_gap {lead : List Nat} {n : Nat} (asc : lead.Pairwise (· < ·)) (hf : lead.length < n) : ∃ k, k ≤ lead.length ∧ (∀ i, i < k → lead.getD i 0 = i) ∧ ∀ i, k ≤ i → i < lead.length → k < lead.getD i 0 := by
 have : ∀ d k, k + d = lead.length → (∀ i, i < k → lead.getD i 0 = i) → ∃ k, k ≤ lead.length ∧ (∀ i, i < k → lead.getD i 0 = i) ∧ ∀ i, k ≤ i → i < lead.length → k < lead.getD i 0 := by
  intro d
  induction d with
  | zero => intro k hk h; exact ⟨k, by omega, h, fun i h1 h2 => by omega⟩
  | succ d ih =>
   intro k hk h
   by_cases e : lead.getD k 0 = k
   ·exact ih (k + 1) (by omega) fun i hi => by
     by_cases e2 : i = k
     ·rw [e2]; exact e
     ·exact h i (by omega)
   ·refine ⟨k, by omega, h, fun i h1 h2 => ?_⟩
    have up : ∀ a b, a < b → b < lead.length → lead.getD a 0 < lead.getD b 0 := fun a b hab hb => by
     have := List.pairwise_iff_getElem.1 asc a b (by omega) hb hab
     rwa [List.getD_eq_getElem?_getD, List.getElem?_eq_getElem (by omega), List.getD_eq_getElem?_getD, List.getElem?_eq_getElem hb]
    have hk' : k ≤ lead.getD k 0 := by
     cases k with
     | zero => exact Nat.zero_le _
     | succ k =>
      have h1 := up k (k + 1) (by omega) (by omega)
      rw [h k (by omega)] at h1
      exact h1
    by_cases e2 : i = k
    ·rw [e2]; omega
    ·have := up k i (by omega) h2
     omega
 exact this lead.length 0 (by omega) (fun i hi => by omega)
/-- The matrix of the powers of distinct numbers has full rank. -/
theorem vand_full {p n : Nat} (hP : IsP p) {xs : List Nat} (hl : xs.length = n) (hx : ∀ x ∈ xs, x < p) (hd : xs.Pairwise (· ≠ ·)) : ¬ (redN p n 0 (vandN p n xs) 1 []).2.2.length < n := by
 intro hf
 have h3 := hP.1
 have hM := vandN_mat (p := p) (n := n) (by omega) xs
 have hinv := redN_inv hP n 0 _ 1 [] (RInv.start hM) (by omega)
 rw [Nat.zero_add, vandN_len, hl] at hinv
 obtain ⟨hR, hRl⟩ := hinv
 have hk3 := fun z => redN_kills hP z n 0 (vandN p n xs) 1 [] hM (by omega)
 generalize redN p n 0 (vandN p n xs) 1 [] = R at *
 obtain ⟨k, hk, hlow, hhigh⟩ := first_gap hR.asc hf
 have hkn : k < n := by omega
 let zs : List Int := (List.range k).map fun j => - ((ent R.1 j k : Nat) : Int)
 have hzl : zs.length = k := by simp [zs]
 have hz : Kills p (vandN p n xs) (zs ++ 1 :: List.replicate (n - k - 1) 0) := by
  rw [← hk3]
  intro r hr
  rw [hRl] at hr
  have hrl := (hR.mat.row (show r < R.1.length by omega)).1
  have hsplit : R.1.getD r [] = (R.1.getD r []).take k ++ ent R.1 r k :: (R.1.getD r []).drop (k + 1) := by
   conv => lhs; rw [← List.take_append_drop k (R.1.getD r [])]
   congr 1
   rw [List.drop_eq_getElem_cons (by omega)]
   congr 1
   unfold ent
   have hkl : k < (R.1.getD r []).length := by omega
   rw [List.getD_eq_getElem?_getD (l := R.1.getD r []), List.getElem?_eq_getElem hkl]; rfl
  have hzero : ∀ (a : List Nat) (w : Nat), dI a (List.replicate w 0) = 0 := by
   intro a
   induction a with
   | nil => intro w; cases w <;> rfl
   | cons y a ih =>
    intro w
    cases w with
    | zero => rfl
    | succ w => rw [List.replicate_succ, dI, ih]; simp
  rw [hsplit, dI_append _ _ _ _ (by rw [List.length_take, hrl, hzl]; omega), dI, hzero]
  have hcol : ∀ j, j < k → ent R.1 r j = if r = j then 1 else 0 := fun j hj => by
   have := hR.one j (by omega) r (by omega)
   rwa [hlow j hj] at this
  by_cases hrk : r < k
  ·have e : (R.1.getD r []).take k = unitN k r := by
    refine ext_getD (by rw [List.length_take, hrl, unitN_len]; omega) fun j hj => ?_
    rw [List.length_take, hrl] at hj
    rw [take_at (by omega), show (R.1.getD r []).getD j 0 = _ from hcol j (by omega), unitN_at (by omega)]
    by_cases e : r = j
    ·rw [if_pos e, if_pos e.symm]
    ·rw [if_neg e, if_neg (Ne.symm e)]
   rw [e, dI_unit k r zs hzl hrk]
   have hg : zs.getD r 0 = - ((ent R.1 r k : Nat) : Int) := by
    show ((List.range k).map _).getD r 0 = _
    rw [List.getD_eq_getElem?_getD, List.getElem?_map, List.getElem?_range hrk]; rfl
   rw [hg]
   exact Cg.of (by omega)
  ·have e : (R.1.getD r []).take k = List.replicate k 0 := by
    refine ext_getD (by rw [List.length_take, hrl, List.length_replicate]; omega) fun j hj => ?_
    rw [List.length_take, hrl] at hj
    rw [take_at (by omega), show (R.1.getD r []).getD j 0 = _ from hcol j (by omega), if_neg (by omega), List.getD_eq_getElem?_getD, List.getElem?_replicate, if_pos (by omega)]; rfl
   have e2 : ent R.1 r k = 0 := by
    by_cases hrl2 : r < R.2.2.length
    ·exact hR.left r hrl2 k (hhigh r (by omega) hrl2)
    ·exact hR.zero r (by omega) (by omega) k hkn
   rw [e, dI_zeros, e2]
   exact Cg.of (by simp)
 have hroots : ∀ x ∈ xs.map (fun x : Nat => (x : Int)), (p : Int) ∣ mv zs x := by
  intro x' hx'
  obtain ⟨x, hxm, rfl⟩ := List.mem_map.1 hx'
  obtain ⟨i, hi, rfl⟩ := List.mem_iff_getElem.1 hxm
  have h1 := hz i (by rw [vandN_len]; exact hi)
  have e : (vandN p n xs).getD i [] = powN p n xs[i] := by
   unfold vandN
   rw [List.getD_eq_getElem?_getD, List.getElem?_map, List.getElem?_eq_getElem hi]; rfl
  have h2 := dI_pow (p := p) (x := xs[i]) n 0 (zs ++ 1 :: List.replicate (n - k - 1) 0) (by simp [hzl]; omega)
  rw [e] at h1
  rw [ev_top] at h2
  have h4 := h2.symm.trans h1
  rw [Int.pow_zero, Int.one_mul] at h4
  exact Cg.dvd.1 h4
 have := roots_le hP.pr k zs hzl (xs.map fun x : Nat => (x : Int)) (by
  rw [List.pairwise_map]
  refine List.Pairwise.imp_of_mem (fun {a b} ha hb hne hdv => ?_) hd
  have h4 : Cg p ((b : Int)) (a : Int) := by
   obtain ⟨q, hq⟩ := hdv
   exact ⟨q, by omega⟩
  exact hne (Cg.eq (hx b hb) (hx a ha) h4).symm) hroots
 rw [List.length_map] at this
 omega
theorem vand_alike {p n : Nat} (hP : IsP p) {xs : List Nat} (hl : xs.length = n) (hd : ¬ xs.Pairwise (· ≠ ·)) : (redN p n 0 (vandN p n xs) 1 []).2.2.length < n := by
 have h3 := hP.1
 have hM := vandN_mat (p := p) (n := n) (by omega) xs
 rw [← det_zero hP hM (by rw [vandN_len, hl])]
 have : ∃ i j, ∃ (hj : j < xs.length), ∃ (hi : i < j), xs[i] = xs[j] := by
  refine Classical.byContradiction fun c => hd ?_
  rw [List.pairwise_iff_getElem]
  intro i j hi hj hij he
  exact c ⟨i, j, hj, hij, he⟩
 obtain ⟨i, j, hj, hi, he⟩ := this
 refine det_alike hP hM (by rw [vandN_len, hl]) (i := i) (j := j) (by omega) (by omega) (by omega) ?_
 unfold vandN
 rw [List.getD_eq_getElem?_getD, List.getD_eq_getElem?_getD, List.getElem?_map, List.getElem?_map, List.getElem?_eq_getElem (by omega), List.getElem?_eq_getElem hj, he]
end Go.Proofs.Ytfdkhkajehopkaa.Mb
