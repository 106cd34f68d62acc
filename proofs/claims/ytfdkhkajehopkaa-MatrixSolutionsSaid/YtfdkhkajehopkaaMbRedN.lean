/- The reduction in plain lists of numbers: the program's and the reference's come to the same. -/
import Derived.Test.YtfdkhkajehopkaaMbTieM
import Derived.Test.YtfdkhkajehopkaaMbTieR
import Derived.Test.YtfdkhkajehopkaaMbG3
import Derived.Test.YtfdkhkajehopkaaMbRefReduce
namespace Go.Proofs.Ytfdkhkajehopkaa.Mb
open Go.RowKit Go.Proofs.YtfdkhkajehopkaaW.PrintWords Go.Proofs.YtfdkhkajehopkaaW.PrintLast Go.Proofs.YtfdkhkajehopkaaW.PrintMore
open Go.Proofs.Ytfdkhkajehopkaa.Num Go.Proofs.Ytfdkhkajehopkaa.Arith
set_option linter.unusedVariables false

def mulRow (p k : Nat) (r : List Nat) : List Nat := r.map fun a => a * k % p
def subRow (p y : Nat) (rt rf : List Nat) : List Nat := List.zipWith (fun a x => (a + (p - y * x % p)) % p) rt rf
def srchN (rows : List (List Nat)) (at_ col : Nat) : Option Nat := (List.range rows.length).find? fun i => decide (at_ ≤ i) && ((rows.getD i []).getD col 0 != 0)
def pivN (rows : List (List Nat)) (at_ i0 : Nat) (r : List Nat) : List (List Nat) := (rows.set i0 (rows.getD at_ [])).set at_ r
def elim1N (p col at_ i : Nat) (rows : List (List Nat)) : List (List Nat) := if i = at_ then rows else rows.set i (subRow p ((rows.getD i []).getD col 0) (rows.getD i []) (rows.getD at_ []))
def elimN (p col at_ : Nat) : Nat → Nat → List (List Nat) → List (List Nat)
 | 0, _, rows => rows
 | d + 1, i, rows => elimN p col at_ d (i + 1) (elim1N p col at_ i rows)
def invN (p x : Nat) : Nat := x ^ (p - 2) % p
def detStep (p det x : Nat) (same : Bool) : Nat := (if same then det else (p - det) % p) * x % p
def redN (p : Nat) : Nat → Nat → List (List Nat) → Nat → List Nat → List (List Nat) × Nat × List Nat
 | 0, _, rows, det, lead => (rows, det, lead)
 | d + 1, c, rows, det, lead => match srchN rows lead.length c with
   | none => redN p d (c + 1) rows det lead
   | some i0 => redN p d (c + 1) (elimN p c lead.length rows.length 0 (pivN rows lead.length i0 (mulRow p (invN p ((rows.getD i0 []).getD c 0)) (rows.getD i0 [])))) (detStep p det ((rows.getD i0 []).getD c 0) (decide (i0 = lead.length))) (lead ++ [c])
/-- A matrix of numbers below p, m columns wide. -/
structure MatP (p m : Nat) (rows : List (List Nat)) : Prop where
 wide : ∀ r ∈ rows, r.length = m
 small : ∀ r ∈ rows, ∀ x ∈ r, x < p
theorem getD_mem {α : Type} {l : List α} {i : Nat} {d : α} (h : i < l.length) : l.getD i d ∈ l := by
 rw [List.getD_eq_getElem?_getD, List.getElem?_eq_getElem h]; exact List.getElem_mem h
theorem MatP.row {p m : Nat} {rows : List (List Nat)} (h : MatP p m rows) {i : Nat} (hi : i < rows.length) : (rows.getD i []).length = m ∧ ∀ x ∈ rows.getD i [], x < p := ⟨h.wide _ (getD_mem hi), h.small _ (getD_mem hi)⟩
theorem MatP.at_ {p m : Nat} {rows : List (List Nat)} (h : MatP p m rows) {i c : Nat} (hi : i < rows.length) (hc : c < m) : (rows.getD i []).getD c 0 < p := (h.row hi).2 _ (getD_mem (by rw [(h.row hi).1]; exact hc))
theorem MatP.set {p m : Nat} {rows : List (List Nat)} (h : MatP p m rows) {i : Nat} {r : List Nat} (h1 : r.length = m) (h2 : ∀ x ∈ r, x < p) : MatP p m (rows.set i r) := by
 constructor
 ·intro x hx
  rcases List.mem_or_eq_of_mem_set hx with hx | rfl
  ·exact h.wide _ hx
  ·exact h1
 ·intro x hx
  rcases List.mem_or_eq_of_mem_set hx with hx | rfl
  ·exact h.small _ hx
  ·exact h2
theorem mulRow_ok {p k m : Nat} (h0 : 0 < p) {r : List Nat} (h : r.length = m) : (mulRow p k r).length = m ∧ ∀ x ∈ mulRow p k r, x < p := by
 refine ⟨by simp [mulRow, h], fun x hx => ?_⟩
 obtain ⟨a, _, rfl⟩ := List.mem_map.1 hx
 exact Nat.mod_lt _ h0
theorem subRow_ok {p y m : Nat} (h0 : 0 < p) {rt rf : List Nat} (h1 : rt.length = m) (h2 : rf.length = m) : (subRow p y rt rf).length = m ∧ ∀ x ∈ subRow p y rt rf, x < p := by
 refine ⟨by simp [subRow, h1, h2], fun x hx => ?_⟩
 obtain ⟨i, hi, rfl⟩ := List.mem_iff_getElem.1 hx
 simp only [subRow, List.getElem_zipWith]
 exact Nat.mod_lt _ h0
theorem pivN_ok {p m : Nat} {rows : List (List Nat)} (h : MatP p m rows) {at_ i0 : Nat} (ha : at_ < rows.length) {r : List Nat} (h1 : r.length = m) (h2 : ∀ x ∈ r, x < p) : MatP p m (pivN rows at_ i0 r) ∧ (pivN rows at_ i0 r).length = rows.length :=
 ⟨(h.set (h.row ha).1 (h.row ha).2).set h1 h2, by simp [pivN]⟩
theorem elim1N_ok {p m : Nat} (h0 : 0 < p) {rows : List (List Nat)} (h : MatP p m rows) {col at_ i : Nat} (ha : at_ < rows.length) (hi : i < rows.length) : MatP p m (elim1N p col at_ i rows) ∧ (elim1N p col at_ i rows).length = rows.length := by
 unfold elim1N
 split
 ·exact ⟨h, rfl⟩
 ·have := subRow_ok (p := p) (y := (rows.getD i []).getD col 0) h0 (h.row hi).1 (h.row ha).1
  exact ⟨h.set this.1 this.2, by simp⟩
theorem elimN_ok {p m : Nat} (h0 : 0 < p) {col at_ : Nat} : ∀ (d i : Nat) {rows : List (List Nat)}, MatP p m rows → at_ < rows.length → i + d ≤ rows.length → MatP p m (elimN p col at_ d i rows) ∧ (elimN p col at_ d i rows).length = rows.length
 | 0, _, rows, h, _, _ => ⟨h, rfl⟩
 | d + 1, i, rows, h, ha, hi => by
  have h1 := elim1N_ok h0 (col := col) h ha (show i < rows.length by omega)
  have h2 := elimN_ok h0 (col := col) (at_ := at_) d (i + 1) h1.1 (by rw [h1.2]; exact ha) (by rw [h1.2]; omega)
  exact ⟨h2.1, h2.2.trans h1.2⟩
theorem srchN_some {rows : List (List Nat)} {at_ col i0 : Nat} (h : srchN rows at_ col = some i0) : at_ ≤ i0 ∧ i0 < rows.length ∧ (rows.getD i0 []).getD col 0 ≠ 0 := by
 have h1 := List.find?_some h
 have h2 := List.mem_range.1 (List.mem_of_find?_eq_some h)
 rw [Bool.and_eq_true, decide_eq_true_iff, bne_iff_ne] at h1
 exact ⟨h1.1, h2, h1.2⟩
theorem srchN_none {rows : List (List Nat)} {at_ col : Nat} (h : srchN rows at_ col = none) : ∀ i, at_ ≤ i → i < rows.length → (rows.getD i []).getD col 0 = 0 := by
 intro i ha hi
 have h1 := List.find?_eq_none.1 h i (List.mem_range.2 hi)
 rw [Bool.and_eq_true, decide_eq_true_iff, bne_iff_ne] at h1
 exact Decidable.byContradiction fun c => h1 ⟨ha, c⟩
theorem srchN_full {rows : List (List Nat)} {at_ col : Nat} (h : rows.length ≤ at_) : srchN rows at_ col = none := by
 refine List.find?_eq_none.2 fun i hi => ?_
 have := List.mem_range.1 hi
 rw [Bool.and_eq_true, decide_eq_true_iff]
 rintro ⟨h1, _⟩
 omega
theorem cM_at (rows : List (List Nat)) (i c : Nat) : ((cM rows).getD i []).getD c 0 = (((rows.getD i []).getD c 0 : Nat) : Int) := by
 rw [cM_get, List.getD_eq_getElem?_getD, List.getD_eq_getElem?_getD (l := rows.getD i []), List.getElem?_map]
 cases (rows.getD i [])[c]? <;> rfl
theorem srch_tie (rows : List (List Nat)) (at_ col : Nat) : srch (cM rows) at_ col = srchN rows at_ col := by
 unfold srch srchN
 rw [cM_len]
 congr 1
 funext i
 rw [cM_at]
 congr 1
 rw [Bool.eq_iff_iff, bne_iff_ne, bne_iff_ne]
 omega
/-! ### rows -/
theorem times_tie {p a b : Nat} (h0 : 0 < p) (hp : p ≤ 65537) (ha : a < p) (hb : b < p) : field_Times.f (p : Int) (a : Int) (b : Int) = some ((a * b % p : Nat) : Int) := by
 unfold field_Times.f
 rw [mul_tie h0 hp ha hb]; rfl
theorem scale_tie {p k : Nat} (h0 : 0 < p) (hp : p ≤ 65537) (hk : k < p) : ∀ (r : List Nat), (∀ x ∈ r, x < p) → scaleRow (p : Int) (k : Int) (Arith.cast r) = some (Arith.cast (mulRow p k r))
 | [], _ => rfl
 | a :: r, h => by
  have ih := scale_tie h0 hp hk r (fun x hx => h x (List.mem_cons_of_mem _ hx))
  simp only [Arith.cast, List.map_cons, scaleRow, mulRow] at ih ⊢
  rw [times_tie h0 hp (h a List.mem_cons_self) hk, Option.bind_some, ih]
  rfl
theorem rowMul_tie {p k : Nat} (h0 : 0 < p) (hp : p ≤ 65537) (hk : k < p) : ∀ (r : List Nat), (∀ x ∈ r, x < p) → rowMul (p : Int) (k : Int) (Arith.cast r) = some (Arith.cast (mulRow p k r))
 | [], _ => rfl
 | a :: r, h => by
  have ih := rowMul_tie h0 hp hk r (fun x hx => h x (List.mem_cons_of_mem _ hx))
  simp only [Arith.cast, List.map_cons, rowMul, mulRow] at ih ⊢
  rw [refMul_tie h0 hp (h a List.mem_cons_self) hk, Option.bind_some, ih]
  rfl
theorem neg_mul (p x y : Nat) (h0 : 0 < p) (hy : y < p) : (x * ((0 + (p - y)) % p)) % p = (p - y * x % p) % p := by
 rw [Nat.zero_add, Nat.mul_mod_mod]
 have h1 : (x * (p - y) + y * x) % p = 0 := by
  rw [Nat.mul_comm y x, ← Nat.mul_add, Nat.sub_add_cancel (Nat.le_of_lt hy)]
  exact Nat.mul_mod_left _ _
 have h2 := Nat.mod_lt (x * (p - y)) h0
 have h3 := Nat.mod_lt (y * x) h0
 rw [Nat.add_mod] at h1
 generalize x * (p - y) % p = a at *
 generalize y * x % p = b at *
 by_cases hb : b = 0
 ·subst hb
  rw [Nat.add_zero] at h1
  rw [Nat.sub_zero, Nat.mod_self]
  rwa [Nat.mod_eq_of_lt h2] at h1
 ·rw [Nat.mod_eq_of_lt (show p - b < p by omega)]
  rcases Nat.lt_or_ge (a + b) p with h | h
  ·rw [Nat.mod_eq_of_lt h] at h1; omega
  ·rw [Nat.mod_eq_sub_mod h, Nat.mod_eq_of_lt (by omega)] at h1; omega
theorem add_tie {p y : Nat} (h0 : 0 < p) (hp : p ≤ 65537) (hy : y < p) : ∀ (rt rf : List Nat), rt.length = rf.length → (∀ x ∈ rt, x < p) → (∀ x ∈ rf, x < p) → addRow (p : Int) (((0 + (p - y)) % p : Nat) : Int) (Arith.cast rt) (Arith.cast rf) = some (Arith.cast (subRow p y rt rf))
 | [], [], _, _, _ => rfl
 | [], x :: rf, h, _, _ => by simp at h
 | a :: rt, [], h, _, _ => by simp at h
 | a :: rt, x :: rf, h, h1, h2 => by
  have ih := add_tie h0 hp hy rt rf (by simpa using h) (fun x hx => h1 x (List.mem_cons_of_mem _ hx)) (fun x hx => h2 x (List.mem_cons_of_mem _ hx))
  simp only [Arith.cast, List.map_cons, addRow, subRow, List.zipWith_cons_cons] at ih ⊢
  rw [times_tie h0 hp (h2 x List.mem_cons_self) (Nat.mod_lt _ h0), Option.bind_some, plus_tie h0 hp (h1 a List.mem_cons_self) (Nat.mod_lt _ h0), Option.bind_some, ih, neg_mul p x y h0 hy, Nat.add_mod_mod]
  rfl
theorem less_tie {p y : Nat} (h0 : 0 < p) (hp : p ≤ 65537) (hy : y < p) : ∀ (rt rf : List Nat), rt.length = rf.length → (∀ x ∈ rt, x < p) → (∀ x ∈ rf, x < p) → lessRow (p : Int) (y : Int) (Arith.cast rt) (Arith.cast rf) = some (Arith.cast (subRow p y rt rf))
 | [], [], _, _, _ => rfl
 | [], x :: rf, h, _, _ => by simp at h
 | a :: rt, [], h, _, _ => by simp at h
 | a :: rt, x :: rf, h, h1, h2 => by
  have ih := less_tie h0 hp hy rt rf (by simpa using h) (fun x hx => h1 x (List.mem_cons_of_mem _ hx)) (fun x hx => h2 x (List.mem_cons_of_mem _ hx))
  simp only [Arith.cast, List.map_cons, lessRow, subRow, List.zipWith_cons_cons] at ih ⊢
  rw [refMul_tie h0 hp hy (h2 x List.mem_cons_self), Option.bind_some, refSub_tie h0 hp (h1 a List.mem_cons_self) (Nat.mod_lt _ h0), Option.bind_some, ih]
  rfl
theorem cM_set (rows : List (List Nat)) (i : Nat) (r : List Nat) : (cM rows).set i (Arith.cast r) = cM (rows.set i r) := by simp [cM, List.map_set]
theorem elim1_tie {p m : Nat} (h0 : 0 < p) (hp : p ≤ 65537) {rows : List (List Nat)} (h : MatP p m rows) {col at_ i : Nat} (ha : at_ < rows.length) (hi : i < rows.length) (hc : col < m) : elim1 (p : Int) col at_ i (cM rows) = some (cM (elim1N p col at_ i rows)) := by
 unfold elim1 elim1N
 split
 ·rfl
 ·rw [cM_at, cM_get, cM_get, show (0 : Int) = ((0 : Nat) : Int) from rfl, minus_tie h0 hp h0 (h.at_ hi hc), Option.bind_some, add_tie h0 hp (h.at_ hi hc) _ _ ((h.row hi).1.trans (h.row ha).1.symm) (h.row hi).2 (h.row ha).2, Option.bind_some, cM_set]
theorem elimR1_tie {p m : Nat} (h0 : 0 < p) (hp : p ≤ 65537) {rows : List (List Nat)} (h : MatP p m rows) {col at_ i : Nat} (ha : at_ < rows.length) (hi : i < rows.length) (hc : col < m) : elimR1 (p : Int) col at_ i (cM rows) = some (cM (elim1N p col at_ i rows)) := by
 unfold elimR1 elim1N
 split
 ·rfl
 ·rw [cM_at, cM_get, cM_get, less_tie h0 hp (h.at_ hi hc) _ _ ((h.row hi).1.trans (h.row ha).1.symm) (h.row hi).2 (h.row ha).2, Option.bind_some, cM_set]
theorem elim_tie {p m : Nat} (h0 : 0 < p) (hp : p ≤ 65537) {col at_ : Nat} (hc : col < m) : ∀ (d i : Nat) {rows : List (List Nat)}, MatP p m rows → at_ < rows.length → i + d ≤ rows.length → elim (p : Int) col at_ d i (cM rows) = some (cM (elimN p col at_ d i rows))
 | 0, _, rows, _, _, _ => rfl
 | d + 1, i, rows, h, ha, hi => by
  have h1 := elim1N_ok h0 (col := col) h ha (show i < rows.length by omega)
  rw [elim, elim1_tie h0 hp h ha (by omega) hc, Option.bind_some]
  exact elim_tie h0 hp hc d (i + 1) h1.1 (by rw [h1.2]; exact ha) (by rw [h1.2]; omega)
theorem elimR_tie {p m : Nat} (h0 : 0 < p) (hp : p ≤ 65537) {col at_ : Nat} (hc : col < m) : ∀ (d i : Nat) {rows : List (List Nat)}, MatP p m rows → at_ < rows.length → i + d ≤ rows.length → elimR (p : Int) col at_ d i (cM rows) = some (cM (elimN p col at_ d i rows))
 | 0, _, rows, _, _, _ => rfl
 | d + 1, i, rows, h, ha, hi => by
  have h1 := elim1N_ok h0 (col := col) h ha (show i < rows.length by omega)
  rw [elimR, elimR1_tie h0 hp h ha (by omega) hc, Option.bind_some]
  exact elimR_tie h0 hp hc d (i + 1) h1.1 (by rw [h1.2]; exact ha) (by rw [h1.2]; omega)
theorem set_same {α : Type} (l : List α) (i : Nat) (d : α) : l.set i (l.getD i d) = l := by
 by_cases h : i < l.length
 ·rw [List.getD_eq_getElem?_getD, List.getElem?_eq_getElem h]
  exact List.set_getElem_self h
 ·exact List.set_eq_of_length_le (by omega)
theorem piv_tie (rows : List (List Nat)) (at_ i0 : Nat) (r : List Nat) : (if i0 = at_ then cM rows else ((cM rows).set i0 ((cM rows).getD at_ [])).set at_ ((cM rows).getD i0 [])).set at_ (Arith.cast r) = cM (pivN rows at_ i0 r) := by
 unfold pivN
 split
 ·rename_i e
  rw [e, set_same, cM_set]
 ·rw [List.set_set, cM_get, cM_set, cM_set]
theorem pivR_tie (rows : List (List Nat)) (at_ i0 : Nat) (r : List Nat) : (swapR (cM rows) at_ i0).set at_ (Arith.cast r) = cM (pivN rows at_ i0 r) := by
 unfold pivN swapR
 rw [cM_get, cM_get, cM_set, cM_set, cM_set]
 congr 1
 by_cases e : at_ = i0
 ·subst e
  rw [List.set_set, List.set_set]
 ·rw [List.set_comm _ _ e, List.set_set]
/-! ### the whole -/
theorem redN_full (p : Nat) : ∀ (d c : Nat) (rows : List (List Nat)) (det : Nat) (lead : List Nat), rows.length ≤ lead.length → redN p d c rows det lead = (rows, det, lead)
 | 0, _, _, _, _, _ => rfl
 | d + 1, c, rows, det, lead, h => by
  rw [redN, srchN_full h]
  exact redN_full p d (c + 1) rows det lead h
theorem detStep_lt {p det x : Nat} {s : Bool} (h0 : 0 < p) : detStep p det x s < p := Nat.mod_lt _ h0
/-- One pivot's rows. -/
def stepN (p c at_ i0 : Nat) (rows : List (List Nat)) : List (List Nat) := elimN p c at_ rows.length 0 (pivN rows at_ i0 (mulRow p (invN p ((rows.getD i0 []).getD c 0)) (rows.getD i0 [])))
theorem stepN_ok {p m c at_ i0 : Nat} (h0 : 0 < p) {rows : List (List Nat)} (h : MatP p m rows) (ha : at_ ≤ i0) (hi : i0 < rows.length) : MatP p m (stepN p c at_ i0 rows) ∧ (stepN p c at_ i0 rows).length = rows.length := by
 have h1 := mulRow_ok (p := p) (k := invN p ((rows.getD i0 []).getD c 0)) h0 (h.row hi).1
 have h2 := pivN_ok h (at_ := at_) (i0 := i0) (by omega) h1.1 h1.2
 have h3 := elimN_ok h0 (col := c) (at_ := at_) rows.length 0 h2.1 (by rw [h2.2]; omega) (by rw [h2.2]; omega)
 exact ⟨h3.1, h3.2.trans h2.2⟩
structure RedOk (p m n e : Nat) (R : List (List Nat) × Nat × List Nat) : Prop where
 mat : MatP p m R.1
 len : R.1.length = n
 det : R.2.1 < p
 few : R.2.2.length ≤ n
 asc : R.2.2.Pairwise (· < ·)
 cols : ∀ x ∈ R.2.2, x < e
theorem redN_ok {p m : Nat} (h0 : 0 < p) : ∀ (d c : Nat) (rows : List (List Nat)) (det : Nat) (lead : List Nat), RedOk p m rows.length c (rows, det, lead) → RedOk p m rows.length (c + d) (redN p d c rows det lead)
 | 0, c, rows, det, lead, h => h
 | d + 1, c, rows, det, lead, h => by
  have wider : RedOk p m rows.length (c + 1) (rows, det, lead) := ⟨h.mat, h.len, h.det, h.few, h.asc, fun x hx => Nat.lt_succ_of_lt (h.cols x hx)⟩
  rw [redN]
  cases hs : srchN rows lead.length c with
  | none =>
   have := redN_ok h0 d (c + 1) rows det lead wider
   rwa [show c + (d + 1) = c + 1 + d by omega]
  | some i0 =>
   obtain ⟨s1, s2, s3⟩ := srchN_some hs
   have h3 := stepN_ok (c := c) h0 h.mat s1 s2
   have h4 : RedOk p m (stepN p c lead.length i0 rows).length (c + 1) (stepN p c lead.length i0 rows, detStep p det ((rows.getD i0 []).getD c 0) (decide (i0 = lead.length)), lead ++ [c]) := by
    refine ⟨h3.1, rfl, detStep_lt h0, ?_, ?_, fun x hx => ?_⟩
    ·rw [h3.2]; simp only [List.length_append, List.length_cons, List.length_nil]; omega
    ·refine List.pairwise_append.2 ⟨h.asc, List.pairwise_singleton _ _, fun a ha b hb => ?_⟩
     obtain rfl := List.mem_singleton.1 hb
     exact h.cols a ha
    ·rcases List.mem_append.1 hx with hx | hx
     ·exact Nat.lt_succ_of_lt (h.cols x hx)
     ·obtain rfl := List.mem_singleton.1 hx; exact Nat.lt_succ_self _
   have h5 := redN_ok h0 d (c + 1) _ _ _ h4
   rw [h3.2] at h5
   rwa [show c + (d + 1) = c + 1 + d by omega]
theorem cast_snoc (lead : List Nat) (c : Nat) : Arith.cast lead ++ [(c : Int)] = Arith.cast (lead ++ [c]) := by simp
theorem lift_ev {p m : Nat} (hP : IsP p) {rows : List (List Nat)} (h : MatP p m rows) {det at_ col : Nat} (hd : det < p) (hc : col < m) : Ev (fun k => liftR k (p : Int) (cM rows) (det : Int) at_ col)
  (match srchN rows at_ col with
  | none => none
  | some i0 => some (cM (pivN rows at_ i0 (mulRow p (invN p ((rows.getD i0 []).getD col 0)) (rows.getD i0 []))), ((detStep p det ((rows.getD i0 []).getD col 0) (decide (i0 = at_)) : Nat) : Int))) := by
 have h3 : 3 ≤ p := hP.1
 have hp : p ≤ 65537 := hP.2.1
 unfold liftR
 rw [srch_tie]
 cases hs : srchN rows at_ col with
 | none => exact Ev.now _
 | some i0 =>
  obtain ⟨s1, s2, s3⟩ := srchN_some hs
  have hx := h.at_ s2 hc
  simp only [cM_at]
  refine Ev.bind0 (a := (((if decide (i0 = at_) = true then det else (p - det) % p : Nat)) : Int)) ?_ ?_
  ·by_cases e : i0 = at_
   ·rw [if_pos e, decide_eq_true e]; rfl
   ·rw [if_neg e, decide_eq_false e, show (0 : Int) = ((0 : Nat) : Int) from rfl, minus_tie (by omega) hp (by omega) hd, Nat.zero_add]; rfl
  ·have hd1 : (if decide (i0 = at_) = true then det else (p - det) % p) < p := by
    split
    ·exact hd
    ·exact Nat.mod_lt _ (by omega)
   refine Ev.bind0 (times_tie (by omega) hp hd1 hx) ((over_ev h3 hp hx).bind ?_)
   rw [cM_get]
   refine Ev.bind0 (scale_tie (by omega) hp (Nat.mod_lt _ (by omega)) _ (h.row s2).2) ?_
   have hpv := piv_tie rows at_ i0 (mulRow p (invN p ((rows.getD i0 []).getD col 0)) (rows.getD i0 []))
   rw [cM_get, cM_get] at hpv
   rw [cM_get]
   refine Ev_some ?_
   unfold invN at hpv ⊢
   rw [hpv]
   rfl
/-- What a reduction comes to, as the walks have it. -/
def resN (R : List (List Nat) × Nat × List Nat) : List (List Int) × Int × List Int := (cM R.1, (R.2.1 : Int), Arith.cast R.2.2)
theorem red_ev {p m : Nat} (hP : IsP p) : ∀ (d c : Nat) (rows : List (List Nat)) (det : Nat) (lead : List Nat), MatP p m rows → det < p → c + d ≤ m → Ev (fun k => red k (p : Int) d c (cM rows) (det : Int) (Arith.cast lead)) (resN (redN p d c rows det lead))
 | 0, c, rows, det, lead, _, _, _ => Ev.now _
 | d + 1, c, rows, det, lead, h, hd, hc => by
  have h0 : 0 < p := by have := hP.1; omega
  have hp : p ≤ 65537 := hP.2.1
  simp only [red]
  by_cases hl : lead.length < rows.length
  ·refine Ev.pos (by rw [cM_len, cast_len]; exact hl) ?_
   rw [cast_len]
   refine (lift_ev hP h hd (at_ := lead.length) (col := c) (by omega)).bind ?_
   rw [redN]
   cases hs : srchN rows lead.length c with
   | none => exact red_ev hP d (c + 1) rows det lead h hd (by omega)
   | some i0 =>
    obtain ⟨s1, s2, s3⟩ := srchN_some hs
    have h1 := mulRow_ok (p := p) (k := invN p ((rows.getD i0 []).getD c 0)) h0 (h.row s2).1
    have h2 := pivN_ok h (at_ := lead.length) (i0 := i0) hl h1.1 h1.2
    have h3 := stepN_ok (c := c) h0 h s1 s2
    refine Ev.bind0 (elim_tie h0 hp (by omega) _ 0 h2.1 (by rw [h2.2]; exact hl) (by rw [cM_len]; omega)) ?_
    rw [cM_len, h2.2, cast_snoc]
    exact red_ev hP d (c + 1) _ _ _ h3.1 (detStep_lt h0) (by omega)
  ·refine Ev.neg (by rw [cM_len, cast_len]; exact hl) ?_
   rw [redN_full p (d + 1) c rows det lead (by omega)]
   exact Ev.now _
theorem refRed_ev {p m : Nat} (hP : IsP p) (det0 : Nat) : ∀ (d c : Nat) (rows : List (List Nat)) (det : Nat) (lead : List Nat), MatP p m rows → c + d ≤ m → Ev (fun k => refRed k (p : Int) d c (cM rows) (Arith.cast lead)) (cM (redN p d c rows det lead).1, Arith.cast (redN p d c rows det lead).2.2)
 | 0, c, rows, det, lead, _, _ => Ev.now _
 | d + 1, c, rows, det, lead, h, hc => by
  have h0 : 0 < p := by have := hP.1; omega
  have hp : p ≤ 65537 := hP.2.1
  simp only [refRed]
  rw [srch_tie, cast_len, redN]
  cases hs : srchN rows lead.length c with
  | none => exact refRed_ev hP det0 d (c + 1) rows det lead h (by omega)
  | some i0 =>
   obtain ⟨s1, s2, s3⟩ := srchN_some hs
   have h1 := mulRow_ok (p := p) (k := invN p ((rows.getD i0 []).getD c 0)) h0 (h.row s2).1
   have h2 := pivN_ok h (at_ := lead.length) (i0 := i0) (by omega) h1.1 h1.2
   have h3 := stepN_ok (c := c) h0 h s1 s2
   simp only [cM_at]
   refine (refInv_ev hP.1 hp (h.at_ s2 (by omega))).bind ?_
   rw [cM_get]
   refine Ev.bind0 (rowMul_tie h0 hp (Nat.mod_lt _ h0) _ (h.row s2).2) ?_
   rw [pivR_tie, cM_len, cast_snoc]
   have h2' := h2.2
   unfold invN at h2'
   refine Ev.bind0 (elimR_tie h0 hp (by omega) _ 0 h2.1 (by omega) (by omega)) ?_
   exact refRed_ev hP det0 d (c + 1) _ _ _ h3.1 (by omega)
end Go.Proofs.Ytfdkhkajehopkaa.Mb
