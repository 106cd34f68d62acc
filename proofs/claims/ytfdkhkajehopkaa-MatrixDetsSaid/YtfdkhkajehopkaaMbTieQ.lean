/- Mul, Det, Inverse, Powers and what the reference has for them, in plain lists. -/
import Derived.Test.YtfdkhkajehopkaaMbTieN
import Derived.Test.YtfdkhkajehopkaaMbMul
import Derived.Test.YtfdkhkajehopkaaMbRefDet
namespace Go.Proofs.Ytfdkhkajehopkaa.Mb
open Go.RowKit Go.Proofs.YtfdkhkajehopkaaW.PrintWords Go.Proofs.YtfdkhkajehopkaaW.PrintLast Go.Proofs.YtfdkhkajehopkaaW.PrintMore
open Go.Proofs.Ytfdkhkajehopkaa.Num Go.Proofs.Ytfdkhkajehopkaa.Arith
set_option linter.unusedVariables false
/-! ### Det and Inverse -/
theorem extend_nil (m : List (List Int)) : extend m (fun _ => []) m.length = m := by
 refine List.ext_getElem? fun i => ?_
 by_cases hi : i < m.length
 ·rw [extend_get (row := m[i]) (List.getElem?_eq_getElem hi), if_pos hi, List.append_nil, List.getElem?_eq_getElem hi]
 ·rw [List.getElem?_eq_none (by rw [extend_length]; omega), List.getElem?_eq_none (by omega)]
theorem matrix_Det_ev (p : Nat) (m : List (List Nat)) : Ev (fun k => matrix_Det.f k (p : Int) (cM m)) (if chkM p m = 0 then (if (row0 m).length = m.length then (((detN p m : Nat) : Int), 0) else (0, 2)) else (0, chkM p m)) := by
 unfold matrix_Det.f
 refine (matrix_Check_ev p m).bind ?_
 by_cases hc : chkM p m = 0
 ·have G := chkM_zero hc
  rw [if_pos hc]
  refine Ev.pos hc ?_
  rw [cM_row0, cast_len, extend_nil, cM_len]
  by_cases hs : (row0 m).length = m.length
  ·rw [if_pos hs]
   refine Ev.pos hs ?_
   have h := red_ev G.prime m.length 0 m 1 [] G.mat (by have := G.prime.1; omega) (by omega)
   refine Ev.bind h ?_
   unfold detN resN
   simp only [cast_len]
   by_cases hf : (redN p m.length 0 m 1 []).2.2.length < m.length
   ·simp only [if_pos hf]
    exact Ev.now _
   ·simp only [if_neg hf]
    exact Ev.now _
  ·rw [if_neg hs]
   exact Ev.neg hs (Ev.now _)
 ·rw [if_neg hc]
  exact Ev.neg hc (Ev.now _)
theorem unitRow_cast {n i : Nat} : unitRow n i = Arith.cast (unitN n i) := by
 unfold unitRow unitN
 refine List.ext_getElem (by simp) fun j h1 h2 => ?_
 simp only [List.getElem_set, List.getElem_replicate, List.getElem_map, List.getElem_range]
 by_cases e : i = j
 ·rw [if_pos e, if_pos e.symm]; rfl
 ·rw [if_neg e, if_neg (Ne.symm e)]; rfl
theorem matrix_Inverse_ev (p : Nat) (m : List (List Nat)) : Ev (fun k => matrix_Inverse.f k (p : Int) (cM m)) (if chkM p m = 0 then (if (row0 m).length = m.length then (if (redN p m.length 0 m 1 []).2.2.length < m.length then ([], 7) else (cM (inverseN p m), 0)) else ([], 2)) else ([], chkM p m)) := by
 unfold matrix_Inverse.f
 refine (matrix_Check_ev p m).bind ?_
 by_cases hc : chkM p m = 0
 ·have G := chkM_zero hc
  rw [if_pos hc]
  refine Ev.pos hc ?_
  rw [cM_row0, cast_len, cM_len]
  by_cases hs : (row0 m).length = m.length
  ·rw [if_pos hs]
   refine Ev.pos hs ?_
   have hI := identN_mat p m.length (by have := G.prime.1; omega)
   have hw : (identN m.length).length = m.length := identN_len _
   have hm := G.mat
   rw [hs] at hm
   rw [extend_tie (w := identN m.length) hw _ (fun i hi => by rw [identN_len] at hi; rw [unitRow_cast]; congr 1; simp [identN])]
   have h := red_ev G.prime m.length 0 _ 1 [] (besideN_mat hm hI) (by have := G.prime.1; omega) (by omega)
   refine Ev.bind h ?_
   rw [red_beside hm hw]
   unfold resN
   simp only [cast_len]
   by_cases hf : (redN p m.length 0 (besideN m (identN m.length)) 1 []).2.2.length < m.length
   ·simp only [if_pos hf]
    exact Ev.now _
   ·simp only [if_neg hf]
    refine Ev.same (Ev.now _) ?_
    unfold inverseN
    refine Prod.ext ?_ rfl
    simp only [cM, List.map_map]
    refine List.map_congr_left fun r _ => ?_
    simp [List.map_drop]
  ·rw [if_neg hs]
   exact Ev.neg hs (Ev.now _)
 ·rw [if_neg hc]
  exact Ev.neg hc (Ev.now _)
/-! ### the reference's Det -/
def swapN (rows : List (List Nat)) (i j : Nat) : List (List Nat) := (rows.set i (rows.getD j [])).set j (rows.getD i [])
def elimP (p c : Nat) : Nat → Nat → List (List Nat) → List (List Nat)
 | 0, _, rows => rows
 | d + 1, i, rows => elimP p c d (i + 1) (rows.set i (subRow p (ent rows i c * invN p (ent rows c c) % p) (rows.getD i []) (rows.getD c [])))
def detP (p : Nat) : Nat → Nat → List (List Nat) → Nat → Nat
 | 0, _, _, det => det
 | d + 1, c, rows, det => match srchN rows c c with
   | none => 0
   | some i0 => detP p d (c + 1) (elimP p c (rows.length - (c + 1)) (c + 1) (swapN rows c i0)) (detStep p det (ent rows i0 c) (decide (i0 = c)))
theorem elimP_ok {p m : Nat} (h0 : 0 < p) {c : Nat} : ∀ (d i : Nat) {rows : List (List Nat)}, MatP p m rows → c < rows.length → i + d ≤ rows.length → MatP p m (elimP p c d i rows) ∧ (elimP p c d i rows).length = rows.length
 | 0, _, rows, h, _, _ => ⟨h, rfl⟩
 | d + 1, i, rows, h, ha, hi => by
  have := subRow_ok (p := p) (y := ent rows i c * invN p (ent rows c c) % p) h0 (h.row (show i < rows.length by omega)).1 (h.row ha).1
  have h2 := elimP_ok h0 (c := c) d (i + 1) (h.set (i := i) this.1 this.2) (by rw [List.length_set]; exact ha) (by rw [List.length_set]; omega)
  exact ⟨h2.1, h2.2.trans (List.length_set ..)⟩
theorem elimP_get {p c : Nat} : ∀ (d i : Nat) (rows : List (List Nat)) (r : Nat), c < i → i + d ≤ rows.length → (elimP p c d i rows).getD r [] = if i ≤ r ∧ r < i + d then subRow p (ent rows r c * invN p (ent rows c c) % p) (rows.getD r []) (rows.getD c []) else rows.getD r []
 | 0, i, rows, r, _, _ => by rw [elimP, if_neg (by omega)]
 | d + 1, i, rows, r, hc, hi => by
  rw [elimP, elimP_get d (i + 1) _ r (by omega) (by rw [List.length_set]; omega)]
  have e2 : ∀ q, (rows.set i q).getD c [] = rows.getD c [] := fun q => by rw [getD_set, if_neg (fun h => by omega)]
  unfold ent
  rw [e2, getD_set]
  by_cases h1 : r = i
  ·subst h1
   rw [if_neg (by omega), if_pos ⟨rfl, by omega⟩, if_pos ⟨by omega, by omega⟩]
  ·have hne : ¬ (i = r ∧ i < rows.length) := fun h => h1 h.1.symm
   simp only [if_neg hne]
   by_cases h3 : i + 1 ≤ r ∧ r < i + 1 + d
   ·rw [if_pos h3, if_pos ⟨by omega, by omega⟩]
   ·rw [if_neg h3, if_neg (fun c => h3 ⟨by omega, by omega⟩)]
theorem swapN_get {rows : List (List Nat)} {c i0 : Nat} (hc : c < rows.length) (hi : i0 < rows.length) (r : Nat) : (swapN rows c i0).getD r [] = if r = i0 then rows.getD c [] else if r = c then rows.getD i0 [] else rows.getD r [] := by
 unfold swapN
 rw [getD_set, List.length_set, getD_set]
 by_cases h : r = i0
 ·rw [if_pos ⟨h.symm, hi⟩, if_pos h]
 ·rw [if_neg (fun x => h x.1.symm), if_neg h]
  by_cases h2 : r = c
  ·rw [if_pos ⟨h2.symm, hc⟩, if_pos h2]
  ·rw [if_neg (fun x => h2 x.1.symm), if_neg h2]
theorem swapN_ok {p m : Nat} {rows : List (List Nat)} (h : MatP p m rows) {i j : Nat} (hi : i < rows.length) (hj : j < rows.length) : MatP p m (swapN rows i j) ∧ (swapN rows i j).length = rows.length :=
 ⟨(h.set (h.row hj).1 (h.row hj).2).set (h.row hi).1 (h.row hi).2, by simp [swapN]⟩
theorem redN_lead (p : Nat) : ∀ (d c : Nat) (rows : List (List Nat)) (det : Nat) (lead : List Nat), (redN p d c rows det lead).2.2.length ≤ lead.length + d
 | 0, c, rows, det, lead => by rw [redN]; exact Nat.le_refl _
 | d + 1, c, rows, det, lead => by
  rw [redN]
  cases hs : srchN rows lead.length c with
  | none =>
   have := redN_lead p d (c + 1) rows det lead
   simp only
   omega
  | some i0 =>
   have := redN_lead p d (c + 1) (elimN p c lead.length rows.length 0 (pivN rows lead.length i0 (mulRow p (invN p ((rows.getD i0 []).getD c 0)) (rows.getD i0 [])))) (detStep p det ((rows.getD i0 []).getD c 0) (decide (i0 = lead.length))) (lead ++ [c])
   rw [List.length_append, List.length_singleton] at this
   simp only
   omega
/-- The rows from a place on are alike. -/
def Tails (c : Nat) (A B : List (List Nat)) : Prop := A.length = B.length ∧ ∀ r, c ≤ r → r < A.length → A.getD r [] = B.getD r []
theorem tails_srch {c : Nat} {A B : List (List Nat)} (h : Tails c A B) : srchN A c c = srchN B c c := by
 unfold srchN
 rw [← h.1]
 have key : ∀ i, i ∈ List.range A.length → (decide (c ≤ i) && ((A.getD i []).getD c 0 != 0)) = (decide (c ≤ i) && ((B.getD i []).getD c 0 != 0)) := fun i hi => by
  by_cases hc : c ≤ i
  ·rw [h.2 i hc (List.mem_range.1 hi)]
  ·simp [hc]
 generalize List.range A.length = L at key
 induction L with
 | nil => rfl
 | cons x L ih =>
  rw [List.find?_cons, List.find?_cons, key x List.mem_cons_self, ih (fun i hi => key i (List.mem_cons_of_mem _ hi))]
theorem detP_red {p n : Nat} (hP : IsP p) : ∀ (d c : Nat) (A B : List (List Nat)) (det : Nat) (lead : List Nat), MatP p n A → MatP p n B → Tails c A B → A.length = n → c + d = n → lead.length = c →
  detP p d c A det = if (redN p d c B det lead).2.2.length < lead.length + d then 0 else (redN p d c B det lead).2.1
 | 0, c, A, B, det, lead, _, _, _, _, _, _ => by rw [detP, redN, if_neg (by simp)]
 | d + 1, c, A, B, det, lead, hA, hB, hT, hl, hcn, hlead => by
  have h0 : 0 < p := by have := hP.1; omega
  rw [detP, redN, tails_srch hT, hlead]
  cases hs : srchN B c c with
  | none =>
   have := redN_lead p d (c + 1) B det lead
   simp only
   rw [if_pos (by omega)]
  | some i0 =>
   obtain ⟨s1, s2, s3⟩ := srchN_some hs
   have hAl : A.length = B.length := hT.1
   have hi0A : A.getD i0 [] = B.getD i0 [] := hT.2 i0 s1 (by omega)
   have hok := stepN_ok (c := c) (at_ := c) h0 hB s1 s2
   have hsw := swapN_ok hA (i := c) (j := i0) (by omega) (by omega)
   have hel := elimP_ok h0 (c := c) (A.length - (c + 1)) (c + 1) hsw.1 (by rw [hsw.2]; omega) (by rw [hsw.2]; omega)
   have hx : ent A i0 c = ent B i0 c := by unfold ent; rw [hi0A]
   have hT2 : Tails (c + 1) (elimP p c (A.length - (c + 1)) (c + 1) (swapN A c i0)) (stepN p c c i0 B) := by
    refine ⟨by rw [hel.2, hsw.2, hok.2, hAl], fun r hr hrl => ?_⟩
    rw [hel.2, hsw.2] at hrl
    rw [elimP_get _ _ _ _ (by omega) (by rw [hsw.2]; omega), if_pos ⟨hr, by omega⟩, stepN_get (by omega) s2 (by omega), if_neg (by omega)]
    have eQ : (swapN A c i0).getD r [] = B.getD (if r = i0 then c else r) [] := by
     rw [swapN_get (by omega) (by omega)]
     by_cases e : r = i0
     ·rw [if_pos e, if_pos e]; exact hT.2 c (Nat.le_refl _) (by omega)
     ·rw [if_neg e, if_neg e, if_neg (by omega)]; exact hT.2 r (by omega) (by omega)
    have eC : (swapN A c i0).getD c [] = B.getD i0 [] := by
     rw [swapN_get (by omega) (by omega)]
     by_cases e : c = i0
     ·rw [if_pos e, ← hi0A, ← e]
     ·rw [if_neg e, if_pos rfl, hi0A]
    unfold ent
    rw [eQ, eC]
    have hsrc : (if r = i0 then c else r) < B.length := by split <;> omega
    have hql := (hB.row hsrc).1
    have hpl : (pivRow p c i0 B).length = n := (mulRow_ok h0 (hB.row s2).1).1
    refine ext_getD (by rw [(subRow_ok h0 hql (hB.row s2).1).1, (subRow_ok h0 hql hpl).1]) fun j hj => ?_
    rw [subRow_at (by rw [hql, (hB.row s2).1]), subRow_at (by rw [hql, hpl]), mulRow_at]
    refine Cg.eq (Nat.mod_lt _ h0) (Nat.mod_lt _ h0) ((sub_cg h0).trans (Cg.trans ?_ (sub_cg h0).symm))
    refine (Cg.refl _).sub ?_
    refine ((Cg.mod p _).mul (Cg.refl _)).trans (Cg.trans (Cg.of ?_) ((Cg.refl _).mul (Cg.mod p _)).symm)
    unfold ent
    push_cast
    grind
   have ih := detP_red hP d (c + 1) _ _ (detStep p det (ent B i0 c) (decide (i0 = c))) (lead ++ [c]) hel.1 hok.1 hT2 (by rw [hel.2, hsw.2, hl]) (by omega) (by rw [List.length_append, List.length_singleton, hlead])
   rw [List.length_append, List.length_singleton, show lead.length + 1 + d = lead.length + (d + 1) by omega, hlead] at ih
   simp only [hx]
   exact ih
theorem swapR_tie (rows : List (List Nat)) (i j : Nat) : swapR (cM rows) i j = cM (swapN rows i j) := by
 unfold swapR swapN
 rw [cM_get, cM_get, cM_set, cM_set]
theorem elimD_ev {p m : Nat} (hP : IsP p) {c : Nat} (hc : c < m) : ∀ (d i : Nat) (rows : List (List Nat)), MatP p m rows → c < rows.length → i + d ≤ rows.length → Ev (fun k => elimD k (p : Int) c d i (cM rows)) (cM (elimP p c d i rows))
 | 0, i, rows, _, _, _ => Ev.now _
 | d + 1, i, rows, h, ha, hi => by
  have h0 : 0 < p := by have := hP.1; omega
  have hp : p ≤ 65537 := hP.2.1
  have hil : i < rows.length := by omega
  have hs := subRow_ok (p := p) (y := ent rows i c * invN p (ent rows c c) % p) h0 (h.row hil).1 (h.row ha).1
  simp only [elimD, elimP, cM_at]
  refine (refInv_ev hP.1 hp (h.at_ ha hc)).bind ?_
  refine Ev.bind0 (refMul_tie h0 hp (h.at_ hil hc) (Nat.mod_lt _ h0)) ?_
  rw [cM_get, cM_get]
  refine Ev.bind0 (less_tie h0 hp (Nat.mod_lt _ h0) _ _ ((h.row hil).1.trans (h.row ha).1.symm) (h.row hil).2 (h.row ha).2) ?_
  rw [cM_set]
  exact elimD_ev hP hc d (i + 1) _ (h.set hs.1 hs.2) (by rw [List.length_set]; exact ha) (by rw [List.length_set]; omega)
theorem detR_ev {p n : Nat} (hP : IsP p) : ∀ (d c : Nat) (rows : List (List Nat)) (det : Nat), MatP p n rows → rows.length = n → det < p → c + d = n → Ev (fun k => detR k (p : Int) d c (cM rows) (det : Int)) ((detP p d c rows det : Nat) : Int)
 | 0, c, rows, det, _, _, _, _ => Ev.now _
 | d + 1, c, rows, det, h, hl, hd, hc => by
  have h0 : 0 < p := by have := hP.1; omega
  have hp : p ≤ 65537 := hP.2.1
  simp only [detR, detP]
  rw [srch_tie]
  cases hs : srchN rows c c with
  | none => exact Ev.now _
  | some i0 =>
   obtain ⟨s1, s2, s3⟩ := srchN_some hs
   have hsw := swapN_ok h (i := c) (j := i0) (by omega) s2
   have hel := elimP_ok h0 (c := c) (rows.length - (c + 1)) (c + 1) hsw.1 (by rw [hsw.2]; omega) (by rw [hsw.2]; omega)
   have hd1 : (if decide (i0 = c) = true then det else (p - det) % p) < p := by
    split
    ·exact hd
    ·exact Nat.mod_lt _ h0
   simp only [cM_at]
   refine Ev.bind0 (a := (((if decide (i0 = c) = true then det else (p - det) % p : Nat)) : Int)) ?_ ?_
   ·by_cases e : i0 = c
    ·rw [if_pos e, decide_eq_true e]; rfl
    ·rw [if_neg e, decide_eq_false e, show (0 : Int) = ((0 : Nat) : Int) from rfl, refSub_tie h0 hp h0 hd, Nat.zero_add]; rfl
   ·refine Ev.bind0 (refMul_tie h0 hp hd1 (h.at_ s2 (by omega))) ?_
    rw [swapR_tie, cM_len]
    refine (elimD_ev hP (m := n) (by omega) _ _ _ hsw.1 (by rw [hsw.2]; omega) (by rw [hsw.2]; omega)).bind ?_
    exact detR_ev hP d (c + 1) _ _ hel.1 (by rw [hel.2, hsw.2, hl]) (Nat.mod_lt _ h0) (by omega)
theorem refDet_ev {p n : Nat} (hP : IsP p) {m : List (List Nat)} (h : MatP p n m) (hl : m.length = n) (hn : n ≤ 64) : Ev (fun k => juntoref03_Det.f k (p : Int) (cM m)) ((detN p m : Nat) : Int) := by
 obtain ⟨K1, hK1⟩ := copied_ev m (by omega) (fun r hr => by rw [h.wide r hr]; omega)
 obtain ⟨K2, hK2⟩ := detR_ev hP n 0 m 1 h hl (by have := hP.1; omega) (by omega)
 have e := detP_red hP n 0 m m 1 [] h h ⟨rfl, fun _ _ _ => rfl⟩ hl (by omega) rfl
 have e2 : detP p n 0 m 1 = detN p m := by
  rw [e]
  unfold detN
  rw [hl]
  simp
 rw [e2] at hK2
 refine ⟨K1 + K2, fun k hk => ?_⟩
 show juntoref03_Det.f k (p : Int) (cM m) = _
 unfold juntoref03_Det.f
 rw [if_pos ⟨by rw [cM_len]; omega, List.all_eq_true.2 fun r hr => by
  obtain ⟨r', hr', rfl⟩ := List.mem_map.1 hr
  rw [cast_len, h.wide r' hr', cM_len, hl]
  exact beq_self_eq_true n, hK1 k (by omega)⟩, cM_len, hl]
 exact hK2 k (by omega)
/-! ### Mul -/
section
variable {p n w : Nat} {a b : List (List Nat)}
end
end Go.Proofs.Ytfdkhkajehopkaa.Mb
