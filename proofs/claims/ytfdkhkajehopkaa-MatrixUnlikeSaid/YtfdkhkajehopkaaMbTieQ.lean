/- Mul, Det, Inverse, Powers and what the reference has for them, in plain lists. -/
import Derived.Test.YtfdkhkajehopkaaMbTieN
import Derived.Test.YtfdkhkajehopkaaMbMul
import Derived.Test.YtfdkhkajehopkaaMbRefReduce
namespace Go.Proofs.Ytfdkhkajehopkaa.Mb
open Go.RowKit Go.Proofs.YtfdkhkajehopkaaW.PrintWords Go.Proofs.YtfdkhkajehopkaaW.PrintLast Go.Proofs.YtfdkhkajehopkaaW.PrintMore
open Go.Proofs.Ytfdkhkajehopkaa.Num Go.Proofs.Ytfdkhkajehopkaa.Arith
set_option linter.unusedVariables false
/-! ### Det and Inverse -/
theorem unitRow_cast {n i : Nat} : unitRow n i = Arith.cast (unitN n i) := by
 unfold unitRow unitN
 refine List.ext_getElem (by simp) fun j h1 h2 => ?_
 simp only [List.getElem_set, List.getElem_replicate, List.getElem_map, List.getElem_range]
 by_cases e : i = j
 ·rw [if_pos e, if_pos e.symm]; rfl
 ·rw [if_neg e, if_neg (Ne.symm e)]; rfl
theorem matrix_Inverse_ev (p : Nat) (m : List (List Nat)) : Ev (fun k => matrix_Inverse.f k (p : Int) (cM m)) (if chkM p m = 0 then (if (row0 m).length = m.length then (if (redN p m.length 0 m 1 []).2.2.length < m.length then ([], 7) else (cM (inverseN p m), 0)) else ([], 2)) else ([], chkM p m)) := by
 unfold matrix_Inverse.f
 refine (matrix_Check_ev p m).bind ?_
 by_cases hc : chkM p m = 0
 ·have G := chkM_zero hc
  rw [if_pos hc]
  refine Ev.pos hc ?_
  rw [cM_row0, cast_len, cM_len]
  by_cases hs : (row0 m).length = m.length
  ·rw [if_pos hs]
   refine Ev.pos hs ?_
   have hI := identN_mat p m.length (by have := G.prime.1; omega)
   have hw : (identN m.length).length = m.length := identN_len _
   have hm := G.mat
   rw [hs] at hm
   rw [extend_tie (w := identN m.length) hw _ (fun i hi => by rw [identN_len] at hi; rw [unitRow_cast]; congr 1; simp [identN])]
   have h := red_ev G.prime m.length 0 _ 1 [] (besideN_mat hm hI) (by have := G.prime.1; omega) (by omega)
   refine Ev.bind h ?_
   rw [red_beside hm hw]
   unfold resN
   simp only [cast_len]
   by_cases hf : (redN p m.length 0 (besideN m (identN m.length)) 1 []).2.2.length < m.length
   ·simp only [if_pos hf]
    exact Ev.now _
   ·simp only [if_neg hf]
    refine Ev.same (Ev.now _) ?_
    unfold inverseN
    refine Prod.ext ?_ rfl
    simp only [cM, List.map_map]
    refine List.map_congr_left fun r _ => ?_
    simp [List.map_drop]
  ·rw [if_neg hs]
   exact Ev.neg hs (Ev.now _)
 ·rw [if_neg hc]
  exact Ev.neg hc (Ev.now _)
/-! ### the reference's Det -/
/-! ### Mul -/
section
variable {p n w : Nat} {a b : List (List Nat)}
end
theorem chk_mat {p n : Nat} (hP : IsP p) {m : List (List Nat)} (h : MatP p n m) (h1 : 1 ≤ m.length) (h2 : m.length ≤ 64) (h3 : 1 ≤ n) (h4 : n ≤ 64) : chkM p m = 0 ∧ (row0 m).length = n := by
 have hr : (row0 m).length = n := (h.row (i := 0) (by omega)).1
 refine ⟨?_, hr⟩
 unfold chkM formM
 rw [if_pos (isP_iff.2 hP), hr, if_neg (by omega), if_neg (fun ⟨r, hr, hn⟩ => hn (h.wide r hr)), if_neg (fun ⟨r, hr, x, hx, hp⟩ => by have := h.small r hr x hx; omega)]
end Go.Proofs.Ytfdkhkajehopkaa.Mb
