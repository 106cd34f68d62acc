/- What Check, its reference and Same come to, in plain lists of lists of numbers; the chapter's example. -/
import Derived.Test.YtfdkhkajehopkaaMbTie
import Derived.Test.YtfdkhkajehopkaaMbG2
import Derived.Test.YtfdkhkajehopkaaMbG1
import Derived.Test.YtfdkhkajehopkaaMb2
import Derived.Test.YtfdkhkajehopkaaMbFLawAlive
import Derived.Deep.Matrix
namespace Go.Proofs.Ytfdkhkajehopkaa.Mb
open Go.RowKit Go.Proofs.YtfdkhkajehopkaaW.PrintWords Go.Proofs.YtfdkhkajehopkaaW.PrintLast Go.Proofs.YtfdkhkajehopkaaW.PrintMore
open Go.Proofs.Ytfdkhkajehopkaa.Num Go.Proofs.Ytfdkhkajehopkaa.Arith
set_option linter.unusedVariables false

theorem alive_ev : Ev (fun k => juntolaw03_alive.f k) true :=
 Ev.of juntolaw03_alive.mono (k := 60) (by decide +kernel)

/-- A matrix of natural numbers, as the walks have it. -/
abbrev cM (m : List (List Nat)) : List (List Int) := m.map Arith.cast
abbrev row0 (m : List (List Nat)) : List Nat := m.getD 0 []
theorem cast_len (r : List Nat) : (Arith.cast r).length = r.length := by simp
theorem cM_len (m : List (List Nat)) : (cM m).length = m.length := by simp

theorem below_zero {p : Nat} {xs : List Nat} : below p xs = 0 ↔ ∀ x ∈ xs, x < p := by
 unfold below
 constructor
 ·intro h
  split at h
  ·rename_i c; simpa using c
  ·cases h
 ·intro h
  rw [if_pos (by simpa using h)]
theorem below_two {p : Nat} {xs : List Nat} : below p xs = 0 ∨ below p xs = 2 := by
 unfold below; split <;> simp
/-- A matrix that was checked. -/
structure Good (p : Nat) (m : List (List Nat)) (n : Nat) : Prop where
 prime : IsP p
 one : 1 ≤ m.length
 rows : m.length ≤ 64
 pos : 1 ≤ n
 cols : n ≤ 64
 head : (row0 m).length = n
 wide : ∀ r ∈ m, r.length = n
 small : ∀ r ∈ m, ∀ x ∈ r, x < p
/-- Two matrices are told the same if they are. -/
theorem same_rows (a b : List (List Int)) (he : a.length = b.length) (hn : a.length < 9223372036854775807) (hl : ∀ r ∈ a, r.length < 9223372036854775807) : ∀ (d i : Nat), a.length - i = d → Ev (fun k => juntoref03_Same.l0 k a b (a.length : Int) (i : Int)) (decide (a.drop i = b.drop i)) := by
 intro d
 induction d with
 | zero =>
  intro i hd
  refine Ev.step (fun k => juntoref03_Same.l0.eq_2 _ _ _ _ k) (Ev.neg (by omega) ?_)
  rw [List.drop_eq_nil_of_le (by omega), List.drop_eq_nil_of_le (by omega)]
  exact Ev.same (Ev.now _) (by simp)
 | succ d ih =>
  intro i hd
  have hi : i < a.length := by omega
  have hi2 : i < b.length := by omega
  refine Ev.step (fun k => juntoref03_Same.l0.eq_2 _ _ _ _ k) (Ev.pos (by omega) (Ev.pos (by omega) (Ev.pos (by omega) (Ev.pos (by omega) ?_))))
  have hra : rd_L1 a (i : Int) = a[i] := by show a.getD i [] = _; rw [List.getD_eq_getElem?_getD, List.getElem?_eq_getElem hi]; rfl
  have hrb : rd_L1 b (i : Int) = b[i] := by show b.getD i [] = _; rw [List.getD_eq_getElem?_getD, List.getElem?_eq_getElem hi2]; rfl
  rw [hra, hrb, List.drop_eq_getElem_cons hi, List.drop_eq_getElem_cons hi2]
  refine (same_ev a[i] b[i] (hl _ (List.getElem_mem hi))).bind ?_
  by_cases hz : a[i] = b[i]
  ·rw [hz, decide_eq_true rfl]
   refine Ev.pos rfl ?_
   rw [w64_in (by omega) (by omega)]
   exact Ev.same (ih (i + 1) (by omega)) (decide_eq_decide.2 ⟨fun h => by rw [h], fun h => (List.cons.inj h).2⟩)
  ·rw [decide_eq_false hz]
   exact Ev.neg (by decide) (Ev.same (Ev.now _) (decide_eq_false fun h => hz (List.cons.inj h).1).symm)
theorem sameM_ev (a b : List (List Int)) (hn : a.length < 9223372036854775807) (hl : ∀ r ∈ a, r.length < 9223372036854775807) : Ev (fun k => juntoref03_Same.f k a b) (decide (a = b)) := by
 unfold juntoref03_Same.f
 by_cases he : a.length = b.length
 ·refine Ev.pos (by omega) ?_
  have := same_rows a b he hn hl a.length 0 (by omega)
  simpa using this
 ·refine Ev.neg (by omega) (Ev.same (Ev.now _) ?_)
  rw [decide_eq_false]
  rintro rfl
  exact he rfl
end Go.Proofs.Ytfdkhkajehopkaa.Mb
