/- Reduce and Rank and the reference's Reduce, in plain lists. -/
import Derived.Test.YtfdkhkajehopkaaMbRedN
import Derived.Test.YtfdkhkajehopkaaMb0
namespace Go.Proofs.Ytfdkhkajehopkaa.Mb
open Go.RowKit Go.Proofs.YtfdkhkajehopkaaW.PrintWords Go.Proofs.YtfdkhkajehopkaaW.PrintLast Go.Proofs.YtfdkhkajehopkaaW.PrintMore
open Go.Proofs.Ytfdkhkajehopkaa.Num Go.Proofs.Ytfdkhkajehopkaa.Arith
set_option linter.unusedVariables false
theorem gdN {m : List (List Nat)} {i : Nat} (hi : i < m.length) : m.getD i [] = m[i] := by rw [List.getD_eq_getElem?_getD, List.getElem?_eq_getElem hi]; rfl
theorem Good.mat {p n : Nat} {m : List (List Nat)} (G : Good p m n) : MatP p n m := ⟨G.wide, G.small⟩
theorem Good.p0 {p n : Nat} {m : List (List Nat)} (G : Good p m n) : 0 < p := by have := G.prime.1; omega
theorem start_ok {p n : Nat} {m : List (List Nat)} (h : MatP p n m) (h1 : 1 < p) : RedOk p n m.length 0 (m, 1, []) := ⟨h, rfl, h1, Nat.zero_le _, List.Pairwise.nil, fun _ h => by cases h⟩
noncomputable def reduceR (p : Nat) (m : List (List Nat)) : List (List Int) × List Int × Int :=
 if chkM p m = 0 then (cM (redN p (row0 m).length 0 m 1 []).1, Arith.cast (redN p (row0 m).length 0 m 1 []).2.2, 0) else ([], [], chkM p m)
theorem matrix_Reduce_ev (p : Nat) (m : List (List Nat)) : Ev (fun k => matrix_Reduce.f k (p : Int) (cM m)) (reduceR p m) := by
 unfold matrix_Reduce.f reduceR
 refine (matrix_Check_ev p m).bind ?_
 by_cases hc : chkM p m = 0
 ·have G := chkM_zero hc
  rw [if_pos hc, cM_row0, cast_len]
  refine Ev.pos hc ?_
  have h := red_ev G.prime (row0 m).length 0 m 1 [] G.mat (by have := G.prime.1; omega) (by omega)
  exact Ev.bind h (Ev.now _)
 ·rw [if_neg hc]
  exact Ev.neg hc (Ev.now _)
theorem copied_l0 (m : List (List Nat)) (hm : m.length ≤ 4096) (hr : ∀ r ∈ m, r.length ≤ 4096) : ∀ (d i : Nat), m.length - i = d → i ≤ m.length → Ev (fun k => juntoref03_copied.l0 k ((cM m).take i) (cM m) (m.length : Int) (i : Int)) (cM m) := by
 intro d
 induction d with
 | zero =>
  intro i hd hi
  refine Ev.step (fun k => juntoref03_copied.l0.eq_2 _ _ _ _ k) (Ev.neg (by omega) ?_)
  rw [List.take_of_length_le (by rw [cM_len]; omega)]
  exact Ev.now _
 | succ d ih =>
  intro i hd hi
  have hil : i < m.length := by omega
  refine Ev.step (fun k => juntoref03_copied.l0.eq_2 _ _ _ _ k) (Ev.pos (by omega) (Ev.pos (by omega) (Ev.pos (by rw [cM_len]; omega) ?_)))
  refine Ev.bind0 (a := []) rfl ?_
  rw [cM_row, gdN hil, cast_len]
  have := hr _ (List.getElem_mem hil)
  refine Ev.pos (by simp only [List.length_nil]; omega) (Ev.pos (by rw [List.length_take]; omega) ?_)
  rw [w64_in (by omega) (by omega), List.nil_append]
  have e : (cM m).take i ++ [Arith.cast m[i]] = (cM m).take (i + 1) := by
   rw [List.take_succ_eq_append_getElem (by rw [cM_len]; exact hil)]; simp [cM]
  rw [e]
  exact ih (i + 1) (by omega) (by omega)
theorem copied_ev (m : List (List Nat)) (hm : m.length ≤ 4096) (hr : ∀ r ∈ m, r.length ≤ 4096) : Ev (fun k => juntoref03_copied.f k (cM m)) (cM m) := by
 unfold juntoref03_copied.f
 rw [cM_len]
 have h := copied_l0 m hm hr m.length 0 (by omega) (by omega)
 rw [List.take_zero] at h
 exact h
theorem refReduce_ev {p n : Nat} (hP : IsP p) {m : List (List Nat)} (h : MatP p n m) (h1 : 1 ≤ m.length) (h2 : m.length ≤ 4096) (h3 : n ≤ 4096) (cols : Nat) (hc : cols ≤ n) : Ev (fun k => juntoref03_Reduce.f k (p : Int) (cM m) (cols : Int)) (cM (redN p cols 0 m 1 []).1, Arith.cast (redN p cols 0 m 1 []).2.2) := by
 obtain ⟨K1, hK1⟩ := copied_ev m h2 (fun r hr => by rw [h.wide r hr]; exact h3)
 obtain ⟨K2, hK2⟩ := refRed_ev hP 0 cols 0 m 1 [] h (by omega)
 have hr0 : (row0 m).length = n := (h.row (i := 0) (by omega)).1
 refine ⟨K1 + K2, fun k hk => ?_⟩
 show juntoref03_Reduce.f k (p : Int) (cM m) (cols : Int) = _
 unfold juntoref03_Reduce.f
 rw [cM_row0, cast_len, hr0, if_pos]
 ·rw [Int.toNat_natCast]
  exact hK2 k (by omega)
 ·refine ⟨by rw [cM_len]; exact h2, h3, List.all_eq_true.2 fun r hr => ?_, Int.natCast_nonneg _, by rw [Int.toNat_natCast]; exact hc, hK1 k (by omega)⟩
  obtain ⟨r', hr', rfl⟩ := List.mem_map.1 hr
  rw [cast_len, h.wide r' hr']
  exact beq_self_eq_true n
end Go.Proofs.Ytfdkhkajehopkaa.Mb
