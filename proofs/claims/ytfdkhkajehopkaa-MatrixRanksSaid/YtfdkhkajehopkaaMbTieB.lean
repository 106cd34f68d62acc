/- Reduce and Rank and the reference's Reduce, in plain lists. -/
import Derived.Test.YtfdkhkajehopkaaMbRedN
import Derived.Test.YtfdkhkajehopkaaMb0
namespace Go.Proofs.Ytfdkhkajehopkaa.Mb
open Go.RowKit Go.Proofs.YtfdkhkajehopkaaW.PrintWords Go.Proofs.YtfdkhkajehopkaaW.PrintLast Go.Proofs.YtfdkhkajehopkaaW.PrintMore
open Go.Proofs.Ytfdkhkajehopkaa.Num Go.Proofs.Ytfdkhkajehopkaa.Arith
set_option linter.unusedVariables false
theorem gdN {m : List (List Nat)} {i : Nat} (hi : i < m.length) : m.getD i [] = m[i] := by rw [List.getD_eq_getElem?_getD, List.getElem?_eq_getElem hi]; rfl
theorem Good.mat {p n : Nat} {m : List (List Nat)} (G : Good p m n) : MatP p n m := ⟨G.wide, G.small⟩
theorem Good.p0 {p n : Nat} {m : List (List Nat)} (G : Good p m n) : 0 < p := by have := G.prime.1; omega
noncomputable def reduceR (p : Nat) (m : List (List Nat)) : List (List Int) × List Int × Int :=
 if chkM p m = 0 then (cM (redN p (row0 m).length 0 m 1 []).1, Arith.cast (redN p (row0 m).length 0 m 1 []).2.2, 0) else ([], [], chkM p m)
theorem matrix_Reduce_ev (p : Nat) (m : List (List Nat)) : Ev (fun k => matrix_Reduce.f k (p : Int) (cM m)) (reduceR p m) := by
 unfold matrix_Reduce.f reduceR
 refine (matrix_Check_ev p m).bind ?_
 by_cases hc : chkM p m = 0
 ·have G := chkM_zero hc
  rw [if_pos hc, cM_row0, cast_len]
  refine Ev.pos hc ?_
  have h := red_ev G.prime (row0 m).length 0 m 1 [] G.mat (by have := G.prime.1; omega) (by omega)
  exact Ev.bind h (Ev.now _)
 ·rw [if_neg hc]
  exact Ev.neg hc (Ev.now _)
end Go.Proofs.Ytfdkhkajehopkaa.Mb
