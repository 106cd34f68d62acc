/- The reduction in plain lists of numbers: the program's and the reference's come to the same. -/
import Derived.Test.YtfdkhkajehopkaaMbTieM
import Derived.Test.YtfdkhkajehopkaaMbTieR
import Derived.Test.YtfdkhkajehopkaaMbG3
import Derived.Test.YtfdkhkajehopkaaMbRefReduce
namespace Go.Proofs.Ytfdkhkajehopkaa.Mb
open Go.RowKit Go.Proofs.YtfdkhkajehopkaaW.PrintWords Go.Proofs.YtfdkhkajehopkaaW.PrintLast Go.Proofs.YtfdkhkajehopkaaW.PrintMore
open Go.Proofs.Ytfdkhkajehopkaa.Num Go.Proofs.Ytfdkhkajehopkaa.Arith
set_option linter.unusedVariables false

def mulRow (p k : Nat) (r : List Nat) : List Nat := r.map fun a => a * k % p
def subRow (p y : Nat) (rt rf : List Nat) : List Nat := List.zipWith (fun a x => (a + (p - y * x % p)) % p) rt rf
def pivN (rows : List (List Nat)) (at_ i0 : Nat) (r : List Nat) : List (List Nat) := (rows.set i0 (rows.getD at_ [])).set at_ r
def elim1N (p col at_ i : Nat) (rows : List (List Nat)) : List (List Nat) := if i = at_ then rows else rows.set i (subRow p ((rows.getD i []).getD col 0) (rows.getD i []) (rows.getD at_ []))
def elimN (p col at_ : Nat) : Nat → Nat → List (List Nat) → List (List Nat)
 | 0, _, rows => rows
 | d + 1, i, rows => elimN p col at_ d (i + 1) (elim1N p col at_ i rows)
def invN (p x : Nat) : Nat := x ^ (p - 2) % p
/-- A matrix of numbers below p, m columns wide. -/
structure MatP (p m : Nat) (rows : List (List Nat)) : Prop where
 wide : ∀ r ∈ rows, r.length = m
 small : ∀ r ∈ rows, ∀ x ∈ r, x < p
theorem getD_mem {α : Type} {l : List α} {i : Nat} {d : α} (h : i < l.length) : l.getD i d ∈ l := by
 rw [List.getD_eq_getElem?_getD, List.getElem?_eq_getElem h]; exact List.getElem_mem h
theorem MatP.row {p m : Nat} {rows : List (List Nat)} (h : MatP p m rows) {i : Nat} (hi : i < rows.length) : (rows.getD i []).length = m ∧ ∀ x ∈ rows.getD i [], x < p := ⟨h.wide _ (getD_mem hi), h.small _ (getD_mem hi)⟩
theorem MatP.at_ {p m : Nat} {rows : List (List Nat)} (h : MatP p m rows) {i c : Nat} (hi : i < rows.length) (hc : c < m) : (rows.getD i []).getD c 0 < p := (h.row hi).2 _ (getD_mem (by rw [(h.row hi).1]; exact hc))
theorem MatP.set {p m : Nat} {rows : List (List Nat)} (h : MatP p m rows) {i : Nat} {r : List Nat} (h1 : r.length = m) (h2 : ∀ x ∈ r, x < p) : MatP p m (rows.set i r) := by
 constructor
 ·intro x hx
  rcases List.mem_or_eq_of_mem_set hx with hx | rfl
  ·exact h.wide _ hx
  ·exact h1
 ·intro x hx
  rcases List.mem_or_eq_of_mem_set hx with hx | rfl
  ·exact h.small _ hx
  ·exact h2
theorem mulRow_ok {p k m : Nat} (h0 : 0 < p) {r : List Nat} (h : r.length = m) : (mulRow p k r).length = m ∧ ∀ x ∈ mulRow p k r, x < p := by
 refine ⟨by simp [mulRow, h], fun x hx => ?_⟩
 obtain ⟨a, _, rfl⟩ := List.mem_map.1 hx
 exact Nat.mod_lt _ h0
theorem subRow_ok {p y m : Nat} (h0 : 0 < p) {rt rf : List Nat} (h1 : rt.length = m) (h2 : rf.length = m) : (subRow p y rt rf).length = m ∧ ∀ x ∈ subRow p y rt rf, x < p := by
 refine ⟨by simp [subRow, h1, h2], fun x hx => ?_⟩
 obtain ⟨i, hi, rfl⟩ := List.mem_iff_getElem.1 hx
 simp only [subRow, List.getElem_zipWith]
 exact Nat.mod_lt _ h0
theorem pivN_ok {p m : Nat} {rows : List (List Nat)} (h : MatP p m rows) {at_ i0 : Nat} (ha : at_ < rows.length) {r : List Nat} (h1 : r.length = m) (h2 : ∀ x ∈ r, x < p) : MatP p m (pivN rows at_ i0 r) ∧ (pivN rows at_ i0 r).length = rows.length :=
 ⟨(h.set (h.row ha).1 (h.row ha).2).set h1 h2, by simp [pivN]⟩
theorem elim1N_ok {p m : Nat} (h0 : 0 < p) {rows : List (List Nat)} (h : MatP p m rows) {col at_ i : Nat} (ha : at_ < rows.length) (hi : i < rows.length) : MatP p m (elim1N p col at_ i rows) ∧ (elim1N p col at_ i rows).length = rows.length := by
 unfold elim1N
 split
 ·exact ⟨h, rfl⟩
 ·have := subRow_ok (p := p) (y := (rows.getD i []).getD col 0) h0 (h.row hi).1 (h.row ha).1
  exact ⟨h.set this.1 this.2, by simp⟩
theorem elimN_ok {p m : Nat} (h0 : 0 < p) {col at_ : Nat} : ∀ (d i : Nat) {rows : List (List Nat)}, MatP p m rows → at_ < rows.length → i + d ≤ rows.length → MatP p m (elimN p col at_ d i rows) ∧ (elimN p col at_ d i rows).length = rows.length
 | 0, _, rows, h, _, _ => ⟨h, rfl⟩
 | d + 1, i, rows, h, ha, hi => by
  have h1 := elim1N_ok h0 (col := col) h ha (show i < rows.length by omega)
  have h2 := elimN_ok h0 (col := col) (at_ := at_) d (i + 1) h1.1 (by rw [h1.2]; exact ha) (by rw [h1.2]; omega)
  exact ⟨h2.1, h2.2.trans h1.2⟩
/-! ### rows -/
theorem times_tie {p a b : Nat} (h0 : 0 < p) (hp : p ≤ 65537) (ha : a < p) (hb : b < p) : field_Times.f (p : Int) (a : Int) (b : Int) = some ((a * b % p : Nat) : Int) := by
 unfold field_Times.f
 rw [mul_tie h0 hp ha hb]; rfl
/-! ### the whole -/
/-- One pivot's rows. -/
def stepN (p c at_ i0 : Nat) (rows : List (List Nat)) : List (List Nat) := elimN p c at_ rows.length 0 (pivN rows at_ i0 (mulRow p (invN p ((rows.getD i0 []).getD c 0)) (rows.getD i0 [])))
theorem stepN_ok {p m c at_ i0 : Nat} (h0 : 0 < p) {rows : List (List Nat)} (h : MatP p m rows) (ha : at_ ≤ i0) (hi : i0 < rows.length) : MatP p m (stepN p c at_ i0 rows) ∧ (stepN p c at_ i0 rows).length = rows.length := by
 have h1 := mulRow_ok (p := p) (k := invN p ((rows.getD i0 []).getD c 0)) h0 (h.row hi).1
 have h2 := pivN_ok h (at_ := at_) (i0 := i0) (by omega) h1.1 h1.2
 have h3 := elimN_ok h0 (col := c) (at_ := at_) rows.length 0 h2.1 (by rw [h2.2]; omega) (by rw [h2.2]; omega)
 exact ⟨h3.1, h3.2.trans h2.2⟩
end Go.Proofs.Ytfdkhkajehopkaa.Mb
