/- Mul, Det, Inverse, Powers and what the reference has for them, in plain lists. -/
import Derived.Test.YtfdkhkajehopkaaMbTieN
import Derived.Test.YtfdkhkajehopkaaMbMul
import Derived.Test.YtfdkhkajehopkaaMbRefReduce
namespace Go.Proofs.Ytfdkhkajehopkaa.Mb
open Go.RowKit Go.Proofs.YtfdkhkajehopkaaW.PrintWords Go.Proofs.YtfdkhkajehopkaaW.PrintLast Go.Proofs.YtfdkhkajehopkaaW.PrintMore
open Go.Proofs.Ytfdkhkajehopkaa.Num Go.Proofs.Ytfdkhkajehopkaa.Arith
set_option linter.unusedVariables false
/-! ### Det and Inverse -/
theorem extend_nil (m : List (List Int)) : extend m (fun _ => []) m.length = m := by
 refine List.ext_getElem? fun i => ?_
 by_cases hi : i < m.length
 ·rw [extend_get (row := m[i]) (List.getElem?_eq_getElem hi), if_pos hi, List.append_nil, List.getElem?_eq_getElem hi]
 ·rw [List.getElem?_eq_none (by rw [extend_length]; omega), List.getElem?_eq_none (by omega)]
theorem matrix_Det_ev (p : Nat) (m : List (List Nat)) : Ev (fun k => matrix_Det.f k (p : Int) (cM m)) (if chkM p m = 0 then (if (row0 m).length = m.length then (((detN p m : Nat) : Int), 0) else (0, 2)) else (0, chkM p m)) := by
 unfold matrix_Det.f
 refine (matrix_Check_ev p m).bind ?_
 by_cases hc : chkM p m = 0
 ·have G := chkM_zero hc
  rw [if_pos hc]
  refine Ev.pos hc ?_
  rw [cM_row0, cast_len, extend_nil, cM_len]
  by_cases hs : (row0 m).length = m.length
  ·rw [if_pos hs]
   refine Ev.pos hs ?_
   have h := red_ev G.prime m.length 0 m 1 [] G.mat (by have := G.prime.1; omega) (by omega)
   refine Ev.bind h ?_
   unfold detN resN
   simp only [cast_len]
   by_cases hf : (redN p m.length 0 m 1 []).2.2.length < m.length
   ·simp only [if_pos hf]
    exact Ev.now _
   ·simp only [if_neg hf]
    exact Ev.now _
  ·rw [if_neg hs]
   exact Ev.neg hs (Ev.now _)
 ·rw [if_neg hc]
  exact Ev.neg hc (Ev.now _)
/-! ### the reference's Det -/
/-! ### Mul -/
theorem mid_set {α : Type} (L R : List α) (r r' : α) {i : Nat} (h : i ≤ L.length) : (L.take i ++ r :: R).set i r' = L.take i ++ r' :: R := by
 rw [List.set_append_right _ _ (by rw [List.length_take]; omega), List.length_take, Nat.min_eq_left h, Nat.sub_self, List.set_cons_zero]
theorem mid_get {α : Type} (L R : List α) (r d : α) {i : Nat} (h : i ≤ L.length) : (L.take i ++ r :: R).getD i d = r := by
 rw [List.getD_eq_getElem?_getD, List.getElem?_append_right (by rw [List.length_take]; omega), List.length_take, Nat.min_eq_left h, Nat.sub_self]; rfl
theorem mid_len {α : Type} (L : List α) (r z : α) {i n : Nat} (h : L.length = n) (hi : i < n) : (L.take i ++ r :: List.replicate (n - i - 1) z).length = n := by
 rw [List.length_append, List.length_take, List.length_cons, List.length_replicate]; omega
section
variable {p n w : Nat} {a b : List (List Nat)}
theorem mul_l2 (h0 : 0 < p) (hp : p ≤ 65537) (Ma : MatP p n a) (Mb : MatP p w b) (hn : b.length = n) (hn4 : n ≤ 4096) (hw4 : w ≤ 4096) (ha4 : a.length ≤ 4096) {i kk : Nat} (hi : i < a.length) (hk : kk < w) (M : List (List Int)) (hM : M.length = a.length) (V : List Int) (hV : V.length = w) (res : List (List Int) × Int) (fin : Nat)
  (H : Ev (fun k => matrix_Mul.l1 k (p : Int) (cM b) (M.take i ++ (V.take kk ++ (fin : Int) :: List.replicate (w - kk - 1) 0) :: List.replicate (a.length - i - 1) []) (i : Int) (Arith.cast a[i]) (cM a) (a.length : Int) (i : Int) (w : Int) ((kk + 1 : Nat) : Int)) res) : ∀ (d j acc : Nat), n - j = d → acc < p → (acc + dotS (a[i].drop j) ((colAt b kk).drop j)) % p = fin →
  Ev (fun k => matrix_Mul.l2 k (p : Int) (cM b) (M.take i ++ (V.take kk ++ (acc : Int) :: List.replicate (w - kk - 1) 0) :: List.replicate (a.length - i - 1) []) (i : Int) (Arith.cast a[i]) (kk : Int) (cM a) (a.length : Int) (i : Int) (w : Int) (kk : Int) (Arith.cast a[i]) (n : Int) (j : Int)) res := by
 have hai := Ma.wide _ (List.getElem_mem hi)
 intro d
 induction d with
 | zero =>
  intro j acc hd hac he
  rw [List.drop_eq_nil_of_le (by omega), dotS_nil, Nat.add_zero, Nat.mod_eq_of_lt hac] at he
  subst he
  refine Ev.step (fun k => matrix_Mul.l2.eq_2 _ _ _ _ _ _ _ _ _ _ _ _ _ _ k) (Ev.neg (by omega) ?_)
  rw [w64_in (by omega) (by omega)]
  exact H
 | succ d ih =>
  intro j acc hd hac he
  have hj : j < n := by omega
  have hja : j < a[i].length := by omega
  have hjb : j < b.length := by omega
  have hjc : j < (colAt b kk).length := by rw [colAt_len]; exact hjb
  have hrow := Mb.wide _ (List.getElem_mem hjb)
  have hrd : rd_L1 (M.take i ++ (V.take kk ++ (acc : Int) :: List.replicate (w - kk - 1) 0) :: List.replicate (a.length - i - 1) []) (i : Int) = V.take kk ++ (acc : Int) :: List.replicate (w - kk - 1) 0 := mid_get M _ _ [] (by omega)
  refine Ev.step (fun k => matrix_Mul.l2.eq_2 _ _ _ _ _ _ _ _ _ _ _ _ _ _ k) (Ev.pos (by omega) (Ev.pos (by omega) (Ev.pos (by rw [cast_len]; omega) (Ev.pos (by omega) (Ev.pos (by rw [mid_len M _ _ hM hi]; omega) (Ev.pos (by omega) ?_))))))
  rw [hrd, cM_row, gdN hjb, cast_len]
  refine Ev.pos (by rw [mid_len V _ _ hV hk]; omega) (Ev.pos (by rw [cM_len]; omega) (Ev.pos (by omega) ?_))
  rw [cast_rd _ j hja, cast_rd _ kk (by omega)]
  have hxa := Ma.small _ (List.getElem_mem hi) _ (List.getElem_mem hja)
  have hxb := Mb.small _ (List.getElem_mem hjb) _ (List.getElem_mem (show kk < b[j].length by omega))
  have hacc : rd (V.take kk ++ (acc : Int) :: List.replicate (w - kk - 1) 0) (kk : Int) = (acc : Int) := mid_get V _ _ 0 (by omega)
  rw [hacc]
  refine Ev.bind0 (times_tie h0 hp hxa hxb) (Ev.bind0 (plus_tie h0 hp hac (Nat.mod_lt _ h0)) ?_)
  rw [Int.toNat_natCast, Int.toNat_natCast, mid_set V _ _ _ (by omega), mid_set M _ _ _ (by omega), w64_in (by omega) (by omega)]
  refine ih (j + 1) _ (by omega) (Nat.mod_lt _ h0) ?_
  rw [List.drop_eq_getElem_cons hja, List.drop_eq_getElem_cons hjc, dotS] at he
  have e : (colAt b kk)[j] = b[j][kk]'(by omega) := by
   simp [colAt, List.getD_eq_getElem?_getD, List.getElem?_eq_getElem (show kk < b[j].length by omega)]
  rw [e] at he
  rw [acc_step, he]
theorem mul_l1 (h0 : 0 < p) (hp : p ≤ 65537) (Ma : MatP p n a) (Mb : MatP p w b) (hn : b.length = n) (hn4 : n ≤ 4096) (hw4 : w ≤ 4096) (ha4 : a.length ≤ 4096) {i : Nat} (hi : i < a.length) (M : List (List Int)) (hM : M.length = a.length) (res : List (List Int) × Int)
  (H : Ev (fun k => matrix_Mul.l0 k (p : Int) (cM b) (M.take i ++ Arith.cast (rmul p w b a[i]) :: List.replicate (a.length - i - 1) []) (cM a) (a.length : Int) ((i + 1 : Nat) : Int)) res) : ∀ (d kk : Nat), w - kk = d → kk ≤ w →
  Ev (fun k => matrix_Mul.l1 k (p : Int) (cM b) (M.take i ++ ((Arith.cast (rmul p w b a[i])).take kk ++ List.replicate (w - kk) 0) :: List.replicate (a.length - i - 1) []) (i : Int) (Arith.cast a[i]) (cM a) (a.length : Int) (i : Int) (w : Int) (kk : Int)) res := by
 have hV : (Arith.cast (rmul p w b a[i])).length = w := by rw [cast_len, rmul_len]
 have hai := Ma.wide _ (List.getElem_mem hi)
 intro d
 induction d with
 | zero =>
  intro kk hd hk
  refine Ev.step (fun k => matrix_Mul.l1.eq_2 _ _ _ _ _ _ _ _ _ _ k) (Ev.neg (by omega) ?_)
  rw [w64_in (by omega) (by omega), List.take_of_length_le (l := Arith.cast (rmul p w b a[i])) (by omega), show w - kk = 0 by omega, List.replicate_zero, List.append_nil]
  exact H
 | succ d ih =>
  intro kk hd hk
  have hkw : kk < w := by omega
  have hv : (Arith.cast (rmul p w b a[i]))[kk]'(by omega) = ((dot p a[i] (colAt b kk) : Nat) : Int) := by simp [rmul]
  refine Ev.step (fun k => matrix_Mul.l1.eq_2 _ _ _ _ _ _ _ _ _ _ k) (Ev.pos (by omega) ?_)
  have h1 := ih (kk + 1) (by omega) (by omega)
  rw [List.take_succ_eq_append_getElem (by omega), hv, List.append_assoc, List.singleton_append] at h1
  have h2 := mul_l2 h0 hp Ma Mb hn hn4 hw4 ha4 hi hkw M hM _ hV res _ (by rw [show w - kk - 1 = w - (kk + 1) by omega]; exact h1) n 0 0 (by omega) h0 (by rw [Nat.zero_add, List.drop_zero, List.drop_zero]; rfl)
  rw [show w - kk = (w - kk - 1) + 1 by omega, List.replicate_succ, cast_len, hai]
  exact h2
theorem mul_l0 (h0 : 0 < p) (hp : p ≤ 65537) (Ma : MatP p n a) (Mb : MatP p w b) (hn : b.length = n) (hn1 : 1 ≤ n) (hn4 : n ≤ 4096) (hw4 : w ≤ 4096) (ha4 : a.length ≤ 4096) : ∀ (d i : Nat), a.length - i = d → i ≤ a.length →
  Ev (fun k => matrix_Mul.l0 k (p : Int) (cM b) ((cM (mulN p w a b)).take i ++ List.replicate (a.length - i) []) (cM a) (a.length : Int) (i : Int)) (cM (mulN p w a b), 0) := by
 have hM : (cM (mulN p w a b)).length = a.length := by rw [cM_len, mulN_len]
 intro d
 induction d with
 | zero =>
  intro i hd hi
  refine Ev.step (fun k => matrix_Mul.l0.eq_2 _ _ _ _ _ _ k) (Ev.neg (by omega) ?_)
  rw [List.take_of_length_le (by omega), show a.length - i = 0 by omega, List.replicate_zero, List.append_nil]
  exact Ev.now _
 | succ d ih =>
  intro i hd hi
  have hil : i < a.length := by omega
  have hbl : 0 < b.length := by omega
  refine Ev.step (fun k => matrix_Mul.l0.eq_2 _ _ _ _ _ _ k) (Ev.pos (by omega) (Ev.pos (by omega) (Ev.pos (by rw [cM_len]; omega) (Ev.pos (by rw [cM_len]; omega) ?_))))
  rw [cM_row0, cast_len, (Mb.row hbl).1]
  refine Ev.pos (by omega) (Ev.pos (by omega) (Ev.pos ?_ ?_))
  ·rw [List.length_append, List.length_take, List.length_replicate]; omega
  ·refine Ev.bind0 rfl ?_
   rw [Int.toNat_natCast, Int.toNat_natCast, cM_row, gdN hil, show a.length - i = (a.length - i - 1) + 1 by omega, List.replicate_succ, mid_set _ _ _ _ (by omega)]
   have hrd : rd_L1 ((cM (mulN p w a b)).take i ++ List.replicate w 0 :: List.replicate (a.length - i - 1) []) (i : Int) = List.replicate w 0 := mid_get _ _ _ [] (by omega)
   rw [hrd, List.length_replicate]
   have h1 := ih (i + 1) (by omega) (by omega)
   have e : (cM (mulN p w a b))[i]'(by omega) = Arith.cast (rmul p w b a[i]) := by simp [mulN]
   rw [List.take_succ_eq_append_getElem (by omega), e, List.append_assoc, List.singleton_append, show a.length - (i + 1) = a.length - i - 1 by omega] at h1
   have h2 := mul_l1 h0 hp Ma Mb hn hn4 hw4 ha4 hil _ hM _ h1 w 0 (by omega) (by omega)
   rw [List.take_zero, List.nil_append, Nat.sub_zero] at h2
   exact h2
end
noncomputable def mulR (p : Nat) (a b : List (List Nat)) : List (List Int) × Int :=
 if chkM p a = 0 then (if chkM p b = 0 then (if (row0 a).length = b.length then (cM (mulN p (row0 b).length a b), 0) else ([], 2)) else ([], chkM p b)) else ([], chkM p a)
theorem matrix_Mul_ev (p : Nat) (a b : List (List Nat)) : Ev (fun k => matrix_Mul.f k (p : Int) (cM a) (cM b)) (mulR p a b) := by
 unfold matrix_Mul.f mulR
 refine (matrix_Check_ev p a).bind ?_
 by_cases hc : chkM p a = 0
 ·have Ga := chkM_zero hc
  rw [if_pos hc]
  refine Ev.pos hc ((matrix_Check_ev p b).bind ?_)
  by_cases hc2 : chkM p b = 0
  ·have Gb := chkM_zero hc2
   rw [if_pos hc2]
   refine Ev.pos hc2 ?_
   unfold matrix_MulR.f
   rw [cM_row0, cast_len, cM_len, cM_len]
   refine Ev.pos (by have := Ga.one; omega) ?_
   by_cases h1 : (row0 a).length = b.length
   ·rw [if_pos h1]
    refine Ev.pos (by omega) (Ev.pos (by omega) (Ev.pos (by have := Ga.rows; omega) ?_))
    rw [Int.toNat_natCast]
    have h := mul_l0 Ga.p0 Ga.prime.2.1 Ga.mat Gb.mat h1.symm Ga.pos (by have := Ga.cols; omega) (by have := Gb.cols; omega) (by have := Ga.rows; omega) a.length 0 (by omega) (by omega)
    rw [List.take_zero, List.nil_append, Nat.sub_zero] at h
    exact h
   ·rw [if_neg h1]
    exact Ev.neg (by omega) (Ev.now _)
  ·rw [if_neg hc2]
   exact Ev.neg hc2 (Ev.now _)
 ·rw [if_neg hc]
  exact Ev.neg hc (Ev.now _)
theorem chk_mat {p n : Nat} (hP : IsP p) {m : List (List Nat)} (h : MatP p n m) (h1 : 1 ≤ m.length) (h2 : m.length ≤ 64) (h3 : 1 ≤ n) (h4 : n ≤ 64) : chkM p m = 0 ∧ (row0 m).length = n := by
 have hr : (row0 m).length = n := (h.row (i := 0) (by omega)).1
 refine ⟨?_, hr⟩
 unfold chkM formM
 rw [if_pos (isP_iff.2 hP), hr, if_neg (by omega), if_neg (fun ⟨r, hr, hn⟩ => hn (h.wide r hr)), if_neg (fun ⟨r, hr, x, hx, hp⟩ => by have := h.small r hr x hx; omega)]
end Go.Proofs.Ytfdkhkajehopkaa.Mb
