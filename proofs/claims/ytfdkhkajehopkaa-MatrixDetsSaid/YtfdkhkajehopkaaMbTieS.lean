/- Solve and the reference's Solve, in plain lists. -/
import Derived.Test.YtfdkhkajehopkaaMbTieB
import Derived.Test.YtfdkhkajehopkaaMbFRef3Beside
namespace Go.Proofs.Ytfdkhkajehopkaa.Mb
open Go.RowKit Go.Proofs.YtfdkhkajehopkaaW.PrintWords Go.Proofs.YtfdkhkajehopkaaW.PrintLast Go.Proofs.YtfdkhkajehopkaaW.PrintMore
open Go.Proofs.Ytfdkhkajehopkaa.Num Go.Proofs.Ytfdkhkajehopkaa.Arith
set_option linter.unusedVariables false
def besideN (m w : List (List Nat)) : List (List Nat) := List.zipWith (· ++ ·) m w
theorem besideN_length {m w : List (List Nat)} (h : w.length = m.length) : (besideN m w).length = m.length := by simp [besideN, h]
theorem besideN_mat {p a b : Nat} {m w : List (List Nat)} (hm : MatP p a m) (hw : MatP p b w) : MatP p (a + b) (besideN m w) := by
 have key : ∀ r ∈ besideN m w, ∃ x ∈ m, ∃ y ∈ w, r = x ++ y := by
  intro r hr
  obtain ⟨i, hi, rfl⟩ := List.mem_iff_getElem.1 hr
  simp only [besideN, List.length_zipWith] at hi
  exact ⟨m[i]'(by omega), List.getElem_mem _, w[i]'(by omega), List.getElem_mem _, by simp [besideN]⟩
 constructor
 ·intro r hr
  obtain ⟨x, hx, y, hy, rfl⟩ := key r hr
  rw [List.length_append, hm.wide x hx, hw.wide y hy]
 ·intro r hr z hz
  obtain ⟨x, hx, y, hy, rfl⟩ := key r hr
  rcases List.mem_append.1 hz with hz | hz
  ·exact hm.small x hx z hz
  ·exact hw.small y hy z hz
theorem besideN_get {m w : List (List Nat)} (h : w.length = m.length) (i : Nat) (hi : i < m.length) : (besideN m w)[i]? = some (m[i] ++ w[i]'(by omega)) := by
 rw [List.getElem?_eq_getElem (by rw [besideN_length h]; exact hi)]
 simp [besideN]
theorem extend_tie {m w : List (List Nat)} (h : w.length = m.length) (ext : Nat → List Int) (he : ∀ i (hi : i < w.length), ext i = Arith.cast w[i]) : extend (cM m) ext m.length = cM (besideN m w) := by
 refine List.ext_getElem? fun i => ?_
 by_cases hi : i < m.length
 ·rw [extend_get (row := Arith.cast m[i]) (by rw [List.getElem?_map, List.getElem?_eq_getElem hi]; rfl), if_pos hi, List.getElem?_map, besideN_get h i hi, he i (by omega)]
  simp
 ·rw [List.getElem?_eq_none (by rw [extend_length, cM_len]; omega), List.getElem?_eq_none (by rw [cM_len, besideN_length h]; omega)]
theorem beside_l0 {m w : List (List Nat)} (h : w.length = m.length) (hm : m.length ≤ 4096) (hr : ∀ r ∈ m, r.length ≤ 4096) (hw : ∀ r ∈ w, r.length ≤ 4096) : ∀ (d i : Nat), m.length - i = d → i ≤ m.length → Ev (fun k => juntoref03_beside.l0 k (cM w) ((cM (besideN m w)).take i) (cM m) (m.length : Int) (i : Int)) (cM (besideN m w)) := by
 have hL : (cM (besideN m w)).length = m.length := by rw [cM_len, besideN_length h]
 intro d
 induction d with
 | zero =>
  intro i hd hi
  refine Ev.step (fun k => juntoref03_beside.l0.eq_2 _ _ _ _ _ k) (Ev.neg (by omega) ?_)
  rw [List.take_of_length_le (by omega)]
  exact Ev.now _
 | succ d ih =>
  intro i hd hi
  have hil : i < m.length := by omega
  refine Ev.step (fun k => juntoref03_beside.l0.eq_2 _ _ _ _ _ k) (Ev.pos (by omega) (Ev.pos (by omega) (Ev.pos (by rw [cM_len]; omega) ?_)))
  refine Ev.bind0 (a := []) rfl ?_
  rw [cM_row, cM_row, gdN hil, gdN (by omega), cast_len, cast_len]
  have h1 := hr _ (List.getElem_mem hil)
  have h2 := hw _ (List.getElem_mem (show i < w.length by omega))
  refine Ev.pos (by simp only [List.length_nil]; omega) (Ev.bind0 (a := [] ++ Arith.cast m[i]) rfl (Ev.pos (by rw [cM_len]; omega) (Ev.pos (by rw [List.nil_append, cast_len]; omega) (Ev.pos (by rw [List.length_take]; omega) ?_))))
  rw [w64_in (by omega) (by omega), List.nil_append]
  have e : (cM (besideN m w)).take i ++ [Arith.cast m[i] ++ Arith.cast (w[i]'(by omega))] = (cM (besideN m w)).take (i + 1) := by
   rw [List.take_succ_eq_append_getElem (by omega)]
   congr 1
   simp [besideN]
  rw [e]
  exact ih (i + 1) (by omega) (by omega)
theorem beside_ev {m w : List (List Nat)} (h : w.length = m.length) (hm : m.length ≤ 4096) (hr : ∀ r ∈ m, r.length ≤ 4096) (hw : ∀ r ∈ w, r.length ≤ 4096) : Ev (fun k => juntoref03_beside.f k (cM m) (cM w)) (cM (besideN m w)) := by
 unfold juntoref03_beside.f
 rw [cM_len]
 have h := beside_l0 h hm hr hw m.length 0 (by omega) (by omega)
 rw [List.take_zero] at h
 exact h
end Go.Proofs.Ytfdkhkajehopkaa.Mb
