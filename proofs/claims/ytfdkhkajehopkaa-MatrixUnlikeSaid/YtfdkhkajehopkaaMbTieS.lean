/- Solve and the reference's Solve, in plain lists. -/
import Derived.Test.YtfdkhkajehopkaaMbTieB
import Derived.Test.YtfdkhkajehopkaaMb0
import Derived.Test.YtfdkhkajehopkaaMbG2
namespace Go.Proofs.Ytfdkhkajehopkaa.Mb
open Go.RowKit Go.Proofs.YtfdkhkajehopkaaW.PrintWords Go.Proofs.YtfdkhkajehopkaaW.PrintLast Go.Proofs.YtfdkhkajehopkaaW.PrintMore
open Go.Proofs.Ytfdkhkajehopkaa.Num Go.Proofs.Ytfdkhkajehopkaa.Arith
set_option linter.unusedVariables false
def besideN (m w : List (List Nat)) : List (List Nat) := List.zipWith (· ++ ·) m w
theorem besideN_length {m w : List (List Nat)} (h : w.length = m.length) : (besideN m w).length = m.length := by simp [besideN, h]
theorem besideN_mat {p a b : Nat} {m w : List (List Nat)} (hm : MatP p a m) (hw : MatP p b w) : MatP p (a + b) (besideN m w) := by
 have key : ∀ r ∈ besideN m w, ∃ x ∈ m, ∃ y ∈ w, r = x ++ y := by
  intro r hr
  obtain ⟨i, hi, rfl⟩ := List.mem_iff_getElem.1 hr
  simp only [besideN, List.length_zipWith] at hi
  exact ⟨m[i]'(by omega), List.getElem_mem _, w[i]'(by omega), List.getElem_mem _, by simp [besideN]⟩
 constructor
 ·intro r hr
  obtain ⟨x, hx, y, hy, rfl⟩ := key r hr
  rw [List.length_append, hm.wide x hx, hw.wide y hy]
 ·intro r hr z hz
  obtain ⟨x, hx, y, hy, rfl⟩ := key r hr
  rcases List.mem_append.1 hz with hz | hz
  ·exact hm.small x hx z hz
  ·exact hw.small y hy z hz
theorem besideN_get {m w : List (List Nat)} (h : w.length = m.length) (i : Nat) (hi : i < m.length) : (besideN m w)[i]? = some (m[i] ++ w[i]'(by omega)) := by
 rw [List.getElem?_eq_getElem (by rw [besideN_length h]; exact hi)]
 simp [besideN]
theorem extend_tie {m w : List (List Nat)} (h : w.length = m.length) (ext : Nat → List Int) (he : ∀ i (hi : i < w.length), ext i = Arith.cast w[i]) : extend (cM m) ext m.length = cM (besideN m w) := by
 refine List.ext_getElem? fun i => ?_
 by_cases hi : i < m.length
 ·rw [extend_get (row := Arith.cast m[i]) (by rw [List.getElem?_map, List.getElem?_eq_getElem hi]; rfl), if_pos hi, List.getElem?_map, besideN_get h i hi, he i (by omega)]
  simp
 ·rw [List.getElem?_eq_none (by rw [extend_length, cM_len]; omega), List.getElem?_eq_none (by rw [cM_len, besideN_length h]; omega)]
end Go.Proofs.Ytfdkhkajehopkaa.Mb
