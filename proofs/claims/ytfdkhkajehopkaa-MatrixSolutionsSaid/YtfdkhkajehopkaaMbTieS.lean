/- Solve and the reference's Solve, in plain lists. -/
import Derived.Test.YtfdkhkajehopkaaMbTieB
import Derived.Test.YtfdkhkajehopkaaMb0
import Derived.Test.YtfdkhkajehopkaaMbG2
namespace Go.Proofs.Ytfdkhkajehopkaa.Mb
open Go.RowKit Go.Proofs.YtfdkhkajehopkaaW.PrintWords Go.Proofs.YtfdkhkajehopkaaW.PrintLast Go.Proofs.YtfdkhkajehopkaaW.PrintMore
open Go.Proofs.Ytfdkhkajehopkaa.Num Go.Proofs.Ytfdkhkajehopkaa.Arith
set_option linter.unusedVariables false
def besideN (m w : List (List Nat)) : List (List Nat) := List.zipWith (· ++ ·) m w
theorem besideN_length {m w : List (List Nat)} (h : w.length = m.length) : (besideN m w).length = m.length := by simp [besideN, h]
theorem besideN_mat {p a b : Nat} {m w : List (List Nat)} (hm : MatP p a m) (hw : MatP p b w) : MatP p (a + b) (besideN m w) := by
 have key : ∀ r ∈ besideN m w, ∃ x ∈ m, ∃ y ∈ w, r = x ++ y := by
  intro r hr
  obtain ⟨i, hi, rfl⟩ := List.mem_iff_getElem.1 hr
  simp only [besideN, List.length_zipWith] at hi
  exact ⟨m[i]'(by omega), List.getElem_mem _, w[i]'(by omega), List.getElem_mem _, by simp [besideN]⟩
 constructor
 ·intro r hr
  obtain ⟨x, hx, y, hy, rfl⟩ := key r hr
  rw [List.length_append, hm.wide x hx, hw.wide y hy]
 ·intro r hr z hz
  obtain ⟨x, hx, y, hy, rfl⟩ := key r hr
  rcases List.mem_append.1 hz with hz | hz
  ·exact hm.small x hx z hz
  ·exact hw.small y hy z hz
theorem besideN_get {m w : List (List Nat)} (h : w.length = m.length) (i : Nat) (hi : i < m.length) : (besideN m w)[i]? = some (m[i] ++ w[i]'(by omega)) := by
 rw [List.getElem?_eq_getElem (by rw [besideN_length h]; exact hi)]
 simp [besideN]
theorem extend_tie {m w : List (List Nat)} (h : w.length = m.length) (ext : Nat → List Int) (he : ∀ i (hi : i < w.length), ext i = Arith.cast w[i]) : extend (cM m) ext m.length = cM (besideN m w) := by
 refine List.ext_getElem? fun i => ?_
 by_cases hi : i < m.length
 ·rw [extend_get (row := Arith.cast m[i]) (by rw [List.getElem?_map, List.getElem?_eq_getElem hi]; rfl), if_pos hi, List.getElem?_map, besideN_get h i hi, he i (by omega)]
  simp
 ·rw [List.getElem?_eq_none (by rw [extend_length, cM_len]; omega), List.getElem?_eq_none (by rw [cM_len, besideN_length h]; omega)]
/-- A column as rows of one. -/
def colN (v : List Nat) : List (List Nat) := v.map fun a => [a]
theorem colN_len (v : List Nat) : (colN v).length = v.length := by simp [colN]
theorem colN_mat {p : Nat} {v : List Nat} (h : ∀ x ∈ v, x < p) : MatP p 1 (colN v) := by
 constructor
 ·intro r hr
  obtain ⟨a, _, rfl⟩ := List.mem_map.1 hr
  rfl
 ·intro r hr x hx
  obtain ⟨a, ha, rfl⟩ := List.mem_map.1 hr
  obtain rfl := List.mem_singleton.1 hx
  exact h _ ha
theorem colN_ext (v : List Nat) (i : Nat) (hi : i < (colN v).length) : [rd (Arith.cast v) (i : Int)] = Arith.cast (colN v)[i] := by
 rw [cast_rd v i (by rw [colN_len] at hi; exact hi)]
 simp [colN]
/-- What both solvers make of the reduced rows. -/
def solN (p n : Nat) (m : List (List Nat)) (v : List Nat) : Option (List Int × Bool) := ansL n (Arith.cast (redN p n 0 (besideN m (colN v)) 1 []).2.2) (cM (redN p n 0 (besideN m (colN v)) 1 []).1) 0 (List.replicate n 0)
theorem inCols_cast {n : Nat} {lead : List Nat} (h : ∀ x ∈ lead, x < n) : inCols n (Arith.cast lead) = true := by
 refine List.all_eq_true.2 fun x hx => ?_
 obtain ⟨y, hy, rfl⟩ := List.mem_map.1 hx
 have := h y hy
 rw [Bool.and_eq_true, decide_eq_true_iff, decide_eq_true_iff]
 omega
theorem answer_ev {p n : Nat} {m : List (List Nat)} (G : Good p m n) {v : List Nat} (hv : v.length = m.length) (hvs : ∀ x ∈ v, x < p) {res : List Int × Bool} (hs : solN p n m v = some res) : Ev (fun k => matrix_Answer.f k (p : Int) (cM m) (Arith.cast v)) res := by
 have hM := besideN_mat G.mat (colN_mat hvs)
 have hR := redN_ok G.p0 n 0 _ 1 [] (start_ok hM (by have := G.prime.1; omega))
 unfold matrix_Answer.f
 rw [cM_row0, cM_len, cast_len, cast_len, G.head]
 refine Ev.pos ⟨G.one, G.rows, G.pos, G.cols, List.all_eq_true.2 fun r hr => ?_, hv⟩ ?_
 ·obtain ⟨r', hr', rfl⟩ := List.mem_map.1 hr
  rw [cast_len, G.wide r' hr']
  exact beq_self_eq_true n
 ·rw [extend_tie (w := colN v) (by rw [colN_len, hv]) _ (fun i hi => colN_ext v i hi)]
  have h := red_ev G.prime n 0 (besideN m (colN v)) 1 [] hM (by have := G.prime.1; omega) (by omega)
  refine Ev.bind h ?_
  unfold answerOf resN
  have e : (if inCols n (Arith.cast (redN p n 0 (besideN m (colN v)) 1 []).2.2) = true then ansL n (Arith.cast (redN p n 0 (besideN m (colN v)) 1 []).2.2) (cM (redN p n 0 (besideN m (colN v)) 1 []).1) 0 (List.replicate n 0) else none) = some res := by
   rw [if_pos (inCols_cast (fun x hx => by have := hR.cols x hx; omega))]
   exact hs
  exact ⟨0, fun _ _ => e⟩
theorem matrix_Solve_ev (p : Nat) (m : List (List Nat)) (v : List Nat) (hvl : v.length < 9223372036854775807) {res : List Int × Bool} (hs : solN p (row0 m).length m v = some res) : Ev (fun k => matrix_Solve.f k (p : Int) (cM m) (Arith.cast v)) (if chkM p m = 0 then (if v.length = m.length then (if below p v = 0 then (if res.2 = true then (res.1, 0) else ([], 5)) else ([], 2)) else ([], 2)) else ([], chkM p m)) := by
 unfold matrix_Solve.f
 refine (matrix_Check_ev p m).bind ?_
 by_cases hc : chkM p m = 0
 ·have G := chkM_zero hc
  rw [if_pos hc]
  refine Ev.pos hc ?_
  unfold matrix_column.f
  rw [cast_len, cM_len]
  by_cases h1 : v.length = m.length
  ·rw [if_pos h1]
   refine Ev.bind (a := below p v) (Ev.pos (by omega) ((below_ev p v hvl).bind (Ev.now _))) ?_
   by_cases h2 : below p v = 0
   ·rw [if_pos h2]
    refine Ev.pos h2 ((answer_ev G h1 (below_zero.1 h2) hs).bind ?_)
    by_cases h3 : res.2 = true
    ·exact Ev.same (Ev.pos h3 (Ev.now _)) (if_pos h3).symm
    ·exact Ev.same (Ev.neg h3 (Ev.now _)) (if_neg h3).symm
   ·rw [if_neg h2]
    refine Ev.neg h2 ?_
    rcases below_two (p := p) (xs := v) with h | h
    ·exact absurd h h2
    ·rw [h]; exact Ev.now _
  ·rw [if_neg h1]
   exact Ev.bind (a := (2 : Int)) (Ev.neg (by omega) (Ev.now _)) (Ev.neg (by decide) (Ev.now _))
 ·rw [if_neg hc]
  exact Ev.neg hc (Ev.now _)
end Go.Proofs.Ytfdkhkajehopkaa.Mb
