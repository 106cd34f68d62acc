/- Determinants of products, inverses, powers of distinct numbers. -/
import Derived.Test.YtfdkhkajehopkaaMbLinR
import Derived.Test.YtfdkhkajehopkaaMbTieB
import Derived.Test.YtfdkhkajehopkaaMb0
import Derived.Test.YtfdkhkajehopkaaMbG2
import Derived.Test.YtfdkhkajehopkaaMbTieA
namespace Go.Proofs.Ytfdkhkajehopkaa.Mb
open Go.Proofs.Ytfdkhkajehopkaa.Num Go.Proofs.Ytfdkhkajehopkaa.Lin
set_option linter.unusedVariables false
set_option linter.unusedSimpArgs false

/-! ### the determinant answers to row operations -/
def cz (r : List Nat) : List Int := r.map fun (n : Nat) => (n : Int)
theorem D_cg {p n : Nat} {X Y : List (List Int)} (h : X.map (redp p) = Y.map (redp p)) : Cg p (D n X) (D n Y) := by
 rw [Cg.iff_emod, ← D_red, h, D_red]
theorem D_cg_set {p n i : Nat} {L : List (List Int)} {x y : List Int} (h : redp p x = redp p y) : Cg p (D n (L.set i x)) (D n (L.set i y)) :=
 D_cg (by rw [List.map_set, List.map_set, h])
theorem set_split {α : Type} (L : List α) {i : Nat} (hi : i < L.length) (x : α) : L.set i x = L.take i ++ x :: L.drop (i + 1) := by
 rw [List.set_eq_take_append_cons_drop, if_pos hi]
theorem two_set {α : Type} : ∀ (L : List α) (i j : Nat), i < j → j < L.length → ∃ a mid b, ∀ r s, (L.set i r).set j s = a ++ r :: (mid ++ s :: b)
 | [], i, j, _, h => by simp at h
 | x :: L, 0, j + 1, _, h => ⟨[], L.take j, L.drop (j + 1), fun r s => by
   rw [List.set_cons_zero, List.set_cons_succ, set_split L (by simpa using h) s]; rfl⟩
 | x :: L, i + 1, j + 1, hij, h => by
  obtain ⟨a, mid, b, hh⟩ := two_set L i j (by omega) (by simpa using h)
  exact ⟨x :: a, mid, b, fun r s => by rw [List.set_cons_succ, List.set_cons_succ, hh]; rfl⟩
theorem pair_set {α : Type} (L : List α) {i j : Nat} (hi : i < L.length) (hj : j < L.length) (h : i ≠ j) : ∃ a mid b, (∀ r s, (L.set i r).set j s = a ++ r :: (mid ++ s :: b)) ∨ (∀ r s, (L.set i r).set j s = a ++ s :: (mid ++ r :: b)) := by
 rcases Nat.lt_or_gt_of_ne h with h1 | h1
 ·obtain ⟨a, mid, b, hh⟩ := two_set L i j h1 hj
  exact ⟨a, mid, b, Or.inl hh⟩
 ·obtain ⟨a, mid, b, hh⟩ := two_set L j i h1 hi
  exact ⟨a, mid, b, Or.inr fun r s => by rw [List.set_comm _ _ h, hh]⟩
theorem Dset_swap {n : Nat} {L : List (List Int)} {i j : Nat} (hi : i < L.length) (hj : j < L.length) (h : i ≠ j) (r s : List Int) : D n ((L.set i r).set j s) = - D n ((L.set i s).set j r) := by
 obtain ⟨a, mid, b, hh | hh⟩ := pair_set L hi hj h
 ·rw [hh, hh]; exact D_far n r s mid a b
 ·rw [hh, hh]; exact D_far n s r mid a b
theorem Dset_addk {n : Nat} {L : List (List Int)} {i j : Nat} (hi : i < L.length) (hj : j < L.length) (h : i ≠ j) (k : Int) (r s : List Int) (hl : r.length = s.length) : D n ((L.set i (addk k r s)).set j s) = D n ((L.set i r).set j s) := by
 obtain ⟨a, mid, b, hh | hh⟩ := pair_set L hi hj h
 ·rw [hh, hh]; exact D_addk_below k n a mid b r s hl
 ·rw [hh, hh]; exact D_addk_above k n a mid b r s hl
theorem red_mulRow (p k : Nat) (r : List Nat) : redp p (cz (mulRow p k r)) = redp p ((cz r).map ((k : Int) * ·)) := by
 unfold redp cz mulRow
 rw [List.map_map, List.map_map, List.map_map, List.map_map]
 refine List.map_congr_left fun a _ => ?_
 show (((a * k % p : Nat) : Int)) % p = ((k : Int) * a) % p
 rw [← Cg.iff_emod]
 refine (Cg.mod p _).trans (Cg.of ?_)
 push_cast
 exact Int.mul_comm _ _
theorem red_subRow {p y : Nat} (h0 : 0 < p) : ∀ (rt rf : List Nat), redp p (cz (subRow p y rt rf)) = redp p (addk (-(y : Int)) (cz rt) (cz rf))
 | [], _ => by simp [subRow, addk, cz, redp]
 | _ :: _, [] => by simp [subRow, addk, cz, redp]
 | a :: rt, x :: rf => by
  have ih := red_subRow (p := p) (y := y) h0 rt rf
  have h1 : (((a + (p - y * x % p)) % p : Nat) : Int) % p = ((a : Int) + -(y : Int) * x) % p := by
   rw [← Cg.iff_emod]
   exact (sub_cg h0).trans (Cg.of (by grind))
  show (((a + (p - y * x % p)) % p : Nat) : Int) % p :: redp p (cz (subRow p y rt rf)) = ((a : Int) + -(y : Int) * x) % p :: redp p (addk (-(y : Int)) (cz rt) (cz rf))
  rw [ih, h1]
theorem cz_get {rows : List (List Nat)} (i : Nat) : (rows.map cz).getD i [] = cz (rows.getD i []) := getD_map rows cz i []
theorem altD (p n : Nat) (h0 : 0 < p) : Alt p n (fun rows => D n (rows.map cz)) := by
 constructor
 ·intro rows h hl i k hi
  have hi' : i < (rows.map cz).length := by rw [List.length_map]; omega
  simp only [List.map_set]
  refine (D_cg_set (red_mulRow p k _)).trans (Cg.of ?_)
  rw [set_split _ hi', D_scale, ← set_split _ hi', ← cz_get, set_same]
 ·intro rows h hl i j hi hj hij
  have hi' : i < (rows.map cz).length := by rw [List.length_map]; omega
  have hj' : j < (rows.map cz).length := by rw [List.length_map]; omega
  simp only [List.map_set]
  rw [Dset_swap hi' hj' hij, ← cz_get, ← cz_get, set_same, set_same]
  exact Cg.refl _
 ·intro rows h hl i j y hi hj hij
  have hi' : i < (rows.map cz).length := by rw [List.length_map]; omega
  have hj' : j < (rows.map cz).length := by rw [List.length_map]; omega
  have hlen : (cz (rows.getD i [])).length = (cz (rows.getD j [])).length := by simp only [cz, List.length_map]; rw [(h.row (by omega)).1, (h.row (by omega)).1]
  simp only [List.map_set]
  refine (D_cg_set (red_subRow h0 _ _)).trans (Cg.of ?_)
  have e : ∀ x, ((rows.map cz).set i x).set j (cz (rows.getD j [])) = (rows.map cz).set i x := fun x => by
   have : ((rows.map cz).set i x).getD j [] = cz (rows.getD j []) := by rw [getD_set, if_neg (fun c => hij c.1), cz_get]
   rw [← this, set_same]
  rw [← e, Dset_addk hi' hj' hij _ _ _ hlen, e, ← cz_get, set_same]
 ·intro rows h hl i hi hz
  have hi' : i < (rows.map cz).length := by rw [List.length_map]; omega
  refine Cg.of ?_
  show D n (rows.map cz) = 0
  rw [← set_same (rows.map cz) i [], cz_get, hz, set_split _ hi']
  have : cz (List.replicate n 0) = List.replicate n 0 := by simp [cz]
  rw [this, D_zero]

/-! ### products -/
def colAt (b : List (List Nat)) (k : Nat) : List Nat := b.map fun r => r.getD k 0
def rmul (p w : Nat) (b : List (List Nat)) (r : List Nat) : List Nat := (List.range w).map fun k => dot p r (colAt b k)
def mulN (p w : Nat) (a b : List (List Nat)) : List (List Nat) := a.map (rmul p w b)
theorem dotS_dI : ∀ (r v : List Nat), ((dotS r v : Nat) : Int) = dI r (cz v)
 | [], v => by cases v <;> rfl
 | x :: r, [] => rfl
 | x :: r, y :: v => by
  have ih := dotS_dI r v
  show ((x * y + dotS r v : Nat) : Int) = x * y + dI r (cz v)
  rw [← ih]; push_cast; rfl
theorem dot_cg (p : Nat) (r v : List Nat) : Cg p ((dot p r v : Nat) : Int) (dI r (cz v)) := (Cg.mod p _).trans (Cg.of (dotS_dI r v))
theorem rmul_at {p w k : Nat} (b : List (List Nat)) (r : List Nat) (hk : k < w) : (rmul p w b r).getD k 0 = dot p r (colAt b k) := by
 unfold rmul
 rw [List.getD_eq_getElem?_getD, List.getElem?_map, List.getElem?_range hk]; rfl
theorem rmul_len (p w : Nat) (b : List (List Nat)) (r : List Nat) : (rmul p w b r).length = w := by simp [rmul]
theorem rmul_small {p w : Nat} (h0 : 0 < p) (b : List (List Nat)) (r : List Nat) : ∀ x ∈ rmul p w b r, x < p := by
 intro x hx
 obtain ⟨k, _, rfl⟩ := List.mem_map.1 hx
 exact dot_lt h0 _ _
theorem mulN_mat {p w : Nat} (h0 : 0 < p) (a b : List (List Nat)) : MatP p w (mulN p w a b) := by
 constructor
 ·intro r hr
  obtain ⟨x, _, rfl⟩ := List.mem_map.1 hr
  exact rmul_len _ _ _ _
 ·intro r hr
  obtain ⟨x, _, rfl⟩ := List.mem_map.1 hr
  exact rmul_small h0 _ _
theorem mulN_len (p w : Nat) (a b : List (List Nat)) : (mulN p w a b).length = a.length := by simp [mulN]
theorem mulN_get {p w : Nat} (a b : List (List Nat)) {i : Nat} (hi : i < a.length) : (mulN p w a b).getD i [] = rmul p w b (a.getD i []) := by
 unfold mulN
 rw [List.getD_eq_getElem?_getD, List.getElem?_map, List.getD_eq_getElem?_getD, List.getElem?_eq_getElem hi]; rfl
theorem rmul_mulRow {p w k : Nat} (h0 : 0 < p) (b : List (List Nat)) (r : List Nat) : rmul p w b (mulRow p k r) = mulRow p k (rmul p w b r) := by
 refine ext_getD (by rw [rmul_len, (mulRow_ok h0 (rmul_len p w b r)).1]) fun j hj => ?_
 rw [rmul_len] at hj
 rw [rmul_at _ _ hj, mulRow_at, rmul_at _ _ hj]
 refine Cg.eq (dot_lt h0 _ _) (Nat.mod_lt _ h0) ?_
 refine (dot_cg p _ _).trans ((dI_mul _ _).trans ?_)
 refine Cg.trans ?_ (Cg.mod p _).symm
 push_cast
 exact ((Cg.refl _).mul (dot_cg p _ _).symm).trans (Cg.of (Int.mul_comm _ _))
theorem rmul_subRow {p w y : Nat} (h0 : 0 < p) (b : List (List Nat)) {rt rf : List Nat} (hl : rt.length = rf.length) : rmul p w b (subRow p y rt rf) = subRow p y (rmul p w b rt) (rmul p w b rf) := by
 refine ext_getD (by rw [rmul_len, (subRow_ok h0 (rmul_len p w b rt) (rmul_len p w b rf)).1]) fun j hj => ?_
 rw [rmul_len] at hj
 rw [rmul_at _ _ hj, subRow_at (by rw [rmul_len, rmul_len]), rmul_at _ _ hj, rmul_at _ _ hj]
 refine Cg.eq (dot_lt h0 _ _) (Nat.mod_lt _ h0) ?_
 refine (dot_cg p _ _).trans ((dI_sub h0 _ _ _ hl).trans ?_)
 exact Cg.trans ((dot_cg p _ _).symm.sub ((Cg.refl _).mul (dot_cg p _ _).symm)) (sub_cg h0).symm
theorem altG (p n : Nat) (h0 : 0 < p) (b : List (List Nat)) : Alt p n (fun rows => D n ((mulN p n rows b).map cz)) := by
 have A := altD p n h0
 have hset : ∀ rows i x, mulN p n (rows.set i x) b = (mulN p n rows b).set i (rmul p n b x) := fun rows i x => by simp [mulN, List.map_set]
 constructor
 ·intro rows h hl i k hi
  have := A.scale _ (mulN_mat (w := n) h0 rows b) (by rw [mulN_len, hl]) i k hi
  simp only [hset, rmul_mulRow h0]
  rwa [mulN_get _ _ (by omega)] at this
 ·intro rows h hl i j hi hj hij
  have := A.swap _ (mulN_mat (w := n) h0 rows b) (by rw [mulN_len, hl]) i j hi hj hij
  simp only [hset]
  rwa [mulN_get _ _ (by omega), mulN_get _ _ (by omega)] at this
 ·intro rows h hl i j y hi hj hij
  have := A.sub _ (mulN_mat (w := n) h0 rows b) (by rw [mulN_len, hl]) i j y hi hj hij
  simp only [hset]
  rw [rmul_subRow h0 _ (by rw [(h.row (by omega)).1, (h.row (by omega)).1])]
  rwa [mulN_get _ _ (by omega), mulN_get _ _ (by omega)] at this
 ·intro rows h hl i hi hz
  refine A.zero _ (mulN_mat (w := n) h0 rows b) (by rw [mulN_len, hl]) i hi ?_
  rw [mulN_get _ _ (by omega), hz]
  refine ext_getD (by rw [rmul_len, List.length_replicate]) fun j hj => ?_
  rw [rmul_len] at hj
  rw [rmul_at _ _ hj, List.getD_eq_getElem?_getD, List.getElem?_replicate]
  have : ∀ (k : Nat) (v : List Nat), dotS (List.replicate k 0) v = 0 := by
   intro k
   induction k with
   | zero => intro v; cases v <;> rfl
   | succ k ih =>
    intro v
    cases v with
    | nil => rfl
    | cons y v => rw [List.replicate_succ, dotS, ih]; simp
  simp [dot, this, hj]
theorem unitN_zero (n : Nat) : unitN (n + 1) 0 = 1 :: List.replicate n 0 := by
 unfold unitN
 rw [List.range_succ_eq_map]
 simp only [List.map_cons, List.map_map, if_pos]
 congr 1
 rw [List.eq_replicate_iff]
 simp
theorem unitN_succ (n i : Nat) : unitN (n + 1) (i + 1) = 0 :: unitN n i := by
 unfold unitN
 rw [List.range_succ_eq_map]
 simp only [List.map_cons, List.map_map]
 congr 1
 refine List.map_congr_left fun j _ => ?_
 simp
theorem dI_zeros : ∀ (k : Nat) (z : List Int), dI (List.replicate k 0) z = 0
 | 0, z => by cases z <;> rfl
 | k + 1, [] => rfl
 | k + 1, y :: z => by rw [List.replicate_succ, dI, dI_zeros k z]; simp
theorem dI_unit : ∀ (n i : Nat) (z : List Int), z.length = n → i < n → dI (unitN n i) z = z.getD i 0
 | 0, i, z, _, h => by omega
 | n + 1, 0, [], h, _ => by simp at h
 | n + 1, 0, y :: z, h, _ => by rw [unitN_zero, dI, dI_zeros]; simp
 | n + 1, i + 1, [], h, _ => by simp at h
 | n + 1, i + 1, y :: z, h, hi => by rw [unitN_succ, dI, dI_unit n i z (by simpa using h) (by omega)]; simp
theorem colAt_len (b : List (List Nat)) (k : Nat) : (colAt b k).length = b.length := by simp [colAt]
theorem colAt_at {b : List (List Nat)} {k i : Nat} (hi : i < b.length) : (colAt b k).getD i 0 = ent b i k := by
 unfold colAt ent
 rw [List.getD_eq_getElem?_getD, List.getElem?_map, List.getD_eq_getElem?_getD (l := b), List.getElem?_eq_getElem hi]; rfl
theorem cz_at (v : List Nat) (i : Nat) : (cz v).getD i 0 = ((v.getD i 0 : Nat) : Int) := getD_map v (fun (n : Nat) => (n : Int)) i 0
theorem cz_len (v : List Nat) : (cz v).length = v.length := by simp [cz]
theorem ident_mul {p n : Nat} {b : List (List Nat)} (h : MatP p n b) (hl : b.length = n) (h0 : 0 < p) : mulN p n (identN n) b = b := by
 refine ext_rows (by rw [mulN_len, identN_len, hl]) fun i hi => ?_
 rw [mulN_len, identN_len] at hi
 rw [mulN_get _ _ (by rw [identN_len]; exact hi), identN_row hi]
 refine ext_getD (by rw [rmul_len, (h.row (by omega)).1]) fun j hj => ?_
 rw [rmul_len] at hj
 rw [rmul_at _ _ hj]
 refine Cg.eq (dot_lt h0 _ _) (h.at_ (by omega) hj) ((dot_cg p _ _).trans (Cg.of ?_))
 rw [dI_unit n i _ (by rw [cz_len, colAt_len, hl]) hi, cz_at, colAt_at (by omega)]
theorem identN_cz (n : Nat) : (identN n).map cz = ident n := by
 unfold identN ident
 rw [List.map_map]
 refine List.map_congr_left fun i _ => ?_
 show cz (unitN n i) = unit n i
 unfold cz unitN unit
 rw [List.map_map]
 refine List.map_congr_left fun j _ => ?_
 show (((if j = i then 1 else 0 : Nat)) : Int) = _
 split <;> rfl
theorem D_detN {p n : Nat} (hP : IsP p) {m : List (List Nat)} (h : MatP p n m) (hl : m.length = n) : Cg p (D n (m.map cz)) (detN p m) := by
 have h0 : 0 < p := by have := hP.1; omega
 have := det_alt (altD p n h0) hP h hl
 simp only [identN_cz, D_ident, Int.mul_one] at this
 exact this
/-- The determinant of a product. -/
theorem det_mul {p n : Nat} (hP : IsP p) {a b : List (List Nat)} (ha : MatP p n a) (hla : a.length = n) (hb : MatP p n b) (hlb : b.length = n) : detN p (mulN p n a b) = detN p a * detN p b % p := by
 have h0 : 0 < p := by have := hP.1; omega
 have h1 := D_detN hP (mulN_mat (w := n) h0 a b) (by rw [mulN_len, hla])
 have h2 := det_alt (altG p n h0 b) hP ha hla
 simp only [ident_mul hb hlb h0] at h2
 refine Cg.eq (detN_lt hP (mulN_mat (w := n) h0 a b) (by rw [mulN_len, hla])) (Nat.mod_lt _ h0) ?_
 refine h1.symm.trans (h2.trans ?_)
 refine ((Cg.refl _).mul (D_detN hP hb hlb)).trans ((Cg.of ?_).trans (Cg.mod p _).symm)
 push_cast; rfl
/-! ### the first columns alone -/
/-! ### the inverse -/
/-! ### powers of distinct numbers -/
end Go.Proofs.Ytfdkhkajehopkaa.Mb
