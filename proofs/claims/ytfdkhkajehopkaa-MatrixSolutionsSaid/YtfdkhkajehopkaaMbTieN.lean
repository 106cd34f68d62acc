/- The null space's basis, of the program and of the reference, in plain lists. -/
import Derived.Test.YtfdkhkajehopkaaMbLinM
import Derived.Test.YtfdkhkajehopkaaMb0
import Derived.Test.YtfdkhkajehopkaaMbG2
import Derived.Test.YtfdkhkajehopkaaMbR1
import Derived.Test.YtfdkhkajehopkaaMbRefReduce
import Derived.Test.YtfdkhkajehopkaaMbFMatrixNull
import Derived.Test.YtfdkhkajehopkaaMbFRef3Free
import Derived.Test.YtfdkhkajehopkaaMbIdx
namespace Go.Proofs.Ytfdkhkajehopkaa.Mb
open Go.RowKit Go.Proofs.YtfdkhkajehopkaaW.PrintWords Go.Proofs.YtfdkhkajehopkaaW.PrintLast Go.Proofs.YtfdkhkajehopkaaW.PrintMore
open Go.Proofs.Ytfdkhkajehopkaa.Num Go.Proofs.Ytfdkhkajehopkaa.Arith
set_option linter.unusedVariables false
/-- The columns without a pivot. -/
def freeN (n : Nat) (lead : List Nat) : List Nat := (List.range n).filter fun c => decide (c ∉ lead)
def nullSet (p : Nat) (R : List (List Nat)) (c : Nat) : Nat → List Nat → List Nat → List Nat
 | _, [], x => x
 | i, l :: ls, x => nullSet p R c (i + 1) ls (x.set l ((0 + (p - ent R i c)) % p))
def nullVec (p n : Nat) (R : List (List Nat)) (lead : List Nat) (c : Nat) : List Nat := nullSet p R c 0 lead ((List.replicate n 0).set c 1)
def nullM (p n : Nat) (R : List (List Nat)) (lead : List Nat) : List (List Nat) := (freeN n lead).map (nullVec p n R lead)
theorem nullSet_len (p : Nat) (R : List (List Nat)) (c : Nat) : ∀ (ls : List Nat) (i : Nat) (x : List Nat), (nullSet p R c i ls x).length = x.length
 | [], _, _ => rfl
 | l :: ls, i, x => by rw [nullSet, nullSet_len p R c ls, List.length_set]
theorem nullVec_len (p n : Nat) (R : List (List Nat)) (lead : List Nat) (c : Nat) : (nullVec p n R lead c).length = n := by
 unfold nullVec; rw [nullSet_len]; simp
theorem freeN_mem {n : Nat} {lead : List Nat} {c : Nat} : c ∈ freeN n lead ↔ c < n ∧ c ∉ lead := by
 unfold freeN
 rw [List.mem_filter, List.mem_range, decide_eq_true_iff]
theorem freeN_len (n : Nat) (lead : List Nat) : (freeN n lead).length ≤ n := by
 have := List.length_filter_le (fun c => decide (c ∉ lead)) (List.range n)
 rw [List.length_range] at this
 exact this
theorem freeN_succ (n : Nat) (lead : List Nat) : freeN (n + 1) lead = freeN n lead ++ if n ∈ lead then [] else [n] := by
 unfold freeN
 rw [List.range_succ, List.filter_append]
 congr 1
 by_cases h : n ∈ lead
 ·rw [if_pos h]; simp [h]
 ·rw [if_neg h]; simp [h]
theorem index_l0 (lead : List Nat) (c : Nat) (hl : lead.length ≤ 4096) : ∀ (d i : Nat), lead.length - i = d → ∃ r : Int, Ev (fun k => slices_Index_int_int.l0 k (Arith.cast lead) (c : Int) (lead.length : Int) (i : Int)) r ∧ (0 ≤ r ↔ c ∈ lead.drop i) := by
 intro d
 induction d with
 | zero =>
  intro i hd
  refine ⟨-1, Ev.step (fun k => slices_Index_int_int.l0.eq_2 _ _ _ _ k) (Ev.neg (by omega) (Ev.now _)), ?_⟩
  rw [List.drop_eq_nil_of_le (by omega)]
  constructor
  ·intro h; omega
  ·intro h; cases h
 | succ d ih =>
  intro i hd
  have hi : i < lead.length := by omega
  obtain ⟨r, hr, hri⟩ := ih (i + 1) (by omega)
  by_cases hz : c = lead[i]
  ·refine ⟨(i : Int), Ev.step (fun k => slices_Index_int_int.l0.eq_2 _ _ _ _ k) (Ev.pos (by omega) (Ev.pos (by omega) (Ev.pos (by rw [cast_len]; omega) (Ev.pos (by rw [cast_rd lead i hi]; omega) (Ev.now _))))), ?_⟩
   rw [List.drop_eq_getElem_cons hi]
   exact ⟨fun _ => by rw [hz]; exact List.mem_cons_self, fun _ => by omega⟩
  ·refine ⟨r, Ev.step (fun k => slices_Index_int_int.l0.eq_2 _ _ _ _ k) (Ev.pos (by omega) (Ev.pos (by omega) (Ev.pos (by rw [cast_len]; omega) (Ev.neg (by rw [cast_rd lead i hi]; omega) ?_)))), ?_⟩
   ·rw [w64_in (by omega) (by omega)]
    exact hr
   ·rw [List.drop_eq_getElem_cons hi, List.mem_cons]
    exact ⟨fun h => Or.inr (hri.1 h), fun h => hri.2 (h.resolve_left hz)⟩
theorem contains_ev (lead : List Nat) (c : Nat) (hl : lead.length ≤ 4096) : Ev (fun k => slices_Contains_int_int.f k (Arith.cast lead) (c : Int)) (decide (c ∈ lead)) := by
 unfold slices_Contains_int_int.f slices_Index_int_int.f
 rw [cast_len]
 obtain ⟨r, hr, hi⟩ := index_l0 lead c hl lead.length 0 (by omega)
 rw [List.drop_zero] at hi
 exact hr.bind (Ev.same (Ev.now _) (decide_eq_decide.2 hi))
theorem cast_set (x : List Nat) (i v : Nat) : (Arith.cast x).set i ((v : Nat) : Int) = Arith.cast (x.set i v) := by simp [List.map_set]
theorem ent_small {p n : Nat} {R : List (List Nat)} (h : MatP p n R) {i c : Nat} (hi : i < R.length) (hc : c < n) : ent R i c < p := h.at_ hi hc
section
variable {p n : Nat} {R : List (List Nat)} {lead : List Nat}
theorem null_l1 (h0 : 0 < p) (hp : p ≤ 65537) (hR : MatP p n R) (hfew : lead.length ≤ R.length) (hcols : ∀ x ∈ lead, x < n) (hn4 : n ≤ 4096) (hR4 : R.length ≤ 4096) (m : List (List Int)) (acc : List (List Int)) (res : List (List Int) × Int) {c : Nat} (hc : c < n) (hacc : acc.length ≤ 4096) (x0 : List Nat)
  (H : Ev (fun k => matrix_Null.l0 k (p : Int) m (cM R) (Arith.cast lead) (acc ++ [Arith.cast x0]) (n : Int) ((c + 1 : Nat) : Int)) res) : ∀ (d i : Nat) (x : List Nat), lead.length - i = d → x.length = n → nullSet p R c i (lead.drop i) x = x0 →
  Ev (fun k => matrix_Null.l1 k (p : Int) m (cM R) (Arith.cast lead) acc (c : Int) (Arith.cast x) (n : Int) (c : Int) (Arith.cast lead) (lead.length : Int) (i : Int)) res := by
 intro d
 induction d with
 | zero =>
  intro i x hd hx he
  rw [List.drop_eq_nil_of_le (by omega), nullSet] at he
  refine Ev.step (fun k => matrix_Null.l1.eq_2 _ _ _ _ _ _ _ _ _ _ _ _ k) (Ev.neg (by omega) (Ev.pos (by omega) ?_))
  rw [w64_in (by omega) (by omega), he]
  exact H
 | succ d ih =>
  intro i x hd hx he
  have hi : i < lead.length := by omega
  have hli := hcols _ (List.getElem_mem hi)
  have hiR : i < R.length := by omega
  rw [List.drop_eq_getElem_cons hi, nullSet] at he
  refine Ev.step (fun k => matrix_Null.l1.eq_2 _ _ _ _ _ _ _ _ _ _ _ _ k) (Ev.pos (by omega) (Ev.pos (by omega) (Ev.pos (by rw [cast_len]; omega) (Ev.pos (by rw [cM_len]; omega) (Ev.pos (by omega) ?_)))))
  have hrl := (hR.row hiR).1
  rw [cM_row, cast_len, hrl, cast_rd _ c (by rw [hrl]; exact hc), cast_rd lead i hi]
  have hv : ((R.getD i [])[c]'(by rw [hrl]; exact hc)) = ent R i c := by
   unfold ent
   rw [List.getD_eq_getElem?_getD (l := R.getD i []), List.getElem?_eq_getElem (by rw [hrl]; exact hc)]; rfl
  rw [hv]
  refine Ev.pos (by omega) (Ev.bind0 (minus_tie h0 hp h0 (ent_small hR hiR hc)) (Ev.pos (by omega) (Ev.pos (by rw [cast_len]; omega) ?_)))
  rw [Int.toNat_natCast, cast_set, w64_in (by omega) (by omega)]
  exact ih (i + 1) _ (by omega) (by rw [List.length_set]; exact hx) he
theorem null_l0 (h0 : 0 < p) (hp : p ≤ 65537) (hR : MatP p n R) (hfew : lead.length ≤ R.length) (hcols : ∀ x ∈ lead, x < n) (hn4 : n ≤ 4096) (hR4 : R.length ≤ 4096) {m : List (List Nat)} (hm : 1 ≤ m.length) (hm0 : (row0 m).length = n) : ∀ (d c : Nat), n - c = d → c ≤ n →
  Ev (fun k => matrix_Null.l0 k (p : Int) (cM m) (cM R) (Arith.cast lead) (cM ((freeN c lead).map (nullVec p n R lead))) (n : Int) (c : Int)) (cM (nullM p n R lead), 0) := by
 intro d
 induction d with
 | zero =>
  intro c hd hc
  obtain rfl : c = n := by omega
  exact Ev.step (fun k => matrix_Null.l0.eq_2 _ _ _ _ _ _ _ k) (Ev.neg (by omega) (Ev.now _))
 | succ d ih =>
  intro c hd hc
  have hcn : c < n := by omega
  refine Ev.step (fun k => matrix_Null.l0.eq_2 _ _ _ _ _ _ _ k) (Ev.pos (by omega) ((contains_ev lead c (by omega)).bind ?_))
  have h := ih (c + 1) (by omega) (by omega)
  rw [freeN_succ] at h
  by_cases hz : c ∈ lead
  ·rw [if_pos hz, List.append_nil] at h
   refine Ev.pos (decide_eq_true hz) ?_
   rw [w64_in (by omega) (by omega)]
   exact h
  ·rw [if_neg hz] at h
   refine Ev.neg (by rw [decide_eq_false hz]; decide) (Ev.pos (by rw [cM_len]; omega) ?_)
   rw [cM_row0, cast_len, hm0]
   refine Ev.pos (by omega) (Ev.pos (by omega) (Ev.bind0 rfl ?_))
   rw [Int.toNat_natCast, Int.toNat_natCast]
   refine Ev.pos (by omega) (Ev.pos (by rw [List.length_replicate]; omega) ?_)
   rw [cast_len]
   have e : (List.replicate n (0 : Int)).set c 1 = Arith.cast ((List.replicate n 0).set c 1) := by simp [List.map_set]
   rw [e]
   have hfl := freeN_len c lead
   refine null_l1 h0 hp hR hfew hcols hn4 hR4 (cM m) _ _ hcn (by rw [cM_len, List.length_map]; omega) (nullVec p n R lead c) ?_ lead.length 0 _ (by omega) (by simp) (by rw [List.drop_zero]; rfl)
   have e2 : cM ((freeN c lead ++ [c]).map (nullVec p n R lead)) = cM ((freeN c lead).map (nullVec p n R lead)) ++ [Arith.cast (nullVec p n R lead c)] := by simp
   rw [e2] at h
   exact h
/-- How far the pivots are below a column. -/
structure Ptr (lead : List Nat) (k at_ : Nat) : Prop where
 le : at_ ≤ lead.length
 low : ∀ i, i < at_ → lead.getD i 0 < k
 high : ∀ i, at_ ≤ i → i < lead.length → k ≤ lead.getD i 0
theorem Ptr.start (lead : List Nat) : Ptr lead 0 0 := ⟨Nat.zero_le _, (fun _ h => by omega), (fun _ _ _ => Nat.zero_le _)⟩
theorem Ptr.next {lead : List Nat} (asc : lead.Pairwise (· < ·)) {k at_ : Nat} (h : Ptr lead k at_) : (at_ < lead.length ∧ lead.getD at_ 0 = k ∧ k ∈ lead ∧ Ptr lead (k + 1) (at_ + 1)) ∨ (¬ (at_ < lead.length ∧ lead.getD at_ 0 = k) ∧ k ∉ lead ∧ Ptr lead (k + 1) at_) := by
 have up : ∀ a b, a < b → b < lead.length → lead.getD a 0 < lead.getD b 0 := fun a b hab hb => by
  have := List.pairwise_iff_getElem.1 asc a b (by omega) hb hab
  rwa [List.getD_eq_getElem?_getD, List.getElem?_eq_getElem (by omega), List.getD_eq_getElem?_getD, List.getElem?_eq_getElem hb]
 by_cases h1 : at_ < lead.length ∧ lead.getD at_ 0 = k
 ·refine Or.inl ⟨h1.1, h1.2, h1.2 ▸ getD_mem h1.1, by omega, fun i hi => ?_, fun i hi hil => ?_⟩
  ·by_cases e : i = at_
   ·rw [e]; omega
   ·have := h.low i (by omega); omega
  ·have := up at_ i (by omega) hil
   omega
 ·have hmem : k ∉ lead := by
   intro hm
   obtain ⟨i, hi, he⟩ := List.mem_iff_getElem.1 hm
   have hg : lead.getD i 0 = k := by rw [List.getD_eq_getElem?_getD, List.getElem?_eq_getElem hi]; exact he
   by_cases h2 : i < at_
   ·have := h.low i h2; omega
   ·by_cases h3 : i = at_
    ·exact h1 ⟨by omega, by rw [← h3]; exact hg⟩
    ·have := up at_ i (by omega) hi
     have := h.high at_ (Nat.le_refl _) (by omega)
     omega
  refine Or.inr ⟨h1, hmem, h.le, fun i hi => by have := h.low i hi; omega, fun i hi hil => ?_⟩
  have := h.high i hi hil
  by_cases e : lead.getD i 0 = k
  ·exact absurd (e ▸ getD_mem hil) hmem
  ·omega
theorem free_l0 {lead : List Nat} (asc : lead.Pairwise (· < ·)) {n : Nat} (hn4 : n ≤ 4096) (hlead : lead.length ≤ 4096) : ∀ (d k at_ : Nat), n - k = d → k ≤ n → Ptr lead k at_ → Ev (fun r => juntoref03_Free.l0 r (Arith.cast lead) (Arith.cast (freeN k lead)) (at_ : Int) (n : Int) (k : Int)) (Arith.cast (freeN n lead)) := by
 intro d
 induction d with
 | zero =>
  intro k at_ hd hk h
  obtain rfl : k = n := by omega
  exact Ev.step (fun r => juntoref03_Free.l0.eq_2 _ _ _ _ _ r) (Ev.neg (by omega) (Ev.now _))
 | succ d ih =>
  intro k at_ hd hk h
  have hfl := freeN_len k lead
  have hle := h.le
  refine Ev.step (fun r => juntoref03_Free.l0.eq_2 _ _ _ _ _ r) (Ev.pos (by omega) ?_)
  rw [cast_len, cast_len, w64_in (x := (k : Int) + 1) (by omega) (by omega), w64_in (x := (at_ : Int) + 1) (by omega) (by omega)]
  rcases h.next asc with ⟨hl, hg, hm, h2⟩ | ⟨hno, hm, h2⟩
  ·have h3 := ih (k + 1) (at_ + 1) (by omega) (by omega) h2
   rw [freeN_succ, if_pos hm, List.append_nil] at h3
   have hg' : rd (Arith.cast lead) (at_ : Int) = (k : Int) := by
    rw [cast_rd lead at_ hl, ← hg, List.getD_eq_getElem?_getD, List.getElem?_eq_getElem hl]; rfl
   exact Ev.pos (by omega) (Ev.pos (by omega) (Ev.pos hg' h3))
  ·have h3 := ih (k + 1) at_ (by omega) (by omega) h2
   rw [freeN_succ, if_neg hm] at h3
   have e : Arith.cast (freeN k lead ++ [k]) = Arith.cast (freeN k lead) ++ [(k : Int)] := by simp
   rw [e] at h3
   by_cases hl : at_ < lead.length
   ·refine Ev.pos (by omega) (Ev.pos (by omega) (Ev.neg ?_ (Ev.pos (by omega) h3)))
    rw [cast_rd lead at_ hl]
    intro hg
    refine hno ⟨hl, ?_⟩
    rw [List.getD_eq_getElem?_getD, List.getElem?_eq_getElem hl]
    show lead[at_] = k
    omega
   ·exact Ev.neg (by omega) (Ev.pos (by omega) h3)
end
/-- The reduced rows and the pivots' columns of a checked matrix. -/
abbrev rowsN (p n : Nat) (m : List (List Nat)) : List (List Nat) := (redN p n 0 m 1 []).1
abbrev leadN (p n : Nat) (m : List (List Nat)) : List Nat := (redN p n 0 m 1 []).2.2
theorem Good.inv {p n : Nat} {m : List (List Nat)} (G : Good p m n) : RInv p n n (rowsN p n m) (leadN p n m) ∧ (rowsN p n m).length = m.length := by
 have := redN_inv G.prime n 0 m 1 [] (RInv.start G.mat) (by omega)
 rwa [Nat.zero_add] at this
theorem matrix_Null_ev (p : Nat) (m : List (List Nat)) : Ev (fun k => matrix_Null.f k (p : Int) (cM m)) (if chkM p m = 0 then (cM (nullM p (row0 m).length (rowsN p (row0 m).length m) (leadN p (row0 m).length m)), 0) else ([], chkM p m)) := by
 unfold matrix_Null.f
 refine (matrix_Reduce_ev p m).bind ?_
 unfold reduceR
 by_cases hc : chkM p m = 0
 ·have G := chkM_zero hc
  rw [if_pos hc, if_pos hc]
  obtain ⟨hR, hl⟩ := G.inv
  have := G.cols
  have := G.rows
  have hf := hR.few
  refine Ev.pos rfl (Ev.pos (by rw [cM_len]; have := G.one; omega) ?_)
  rw [cM_row0, cast_len]
  exact null_l0 G.p0 G.prime.2.1 hR.mat hR.few hR.cols (by omega) (by omega) G.one rfl (row0 m).length 0 (by omega) (by omega)
 ·rw [if_neg hc, if_neg hc]
  exact Ev.neg hc (Ev.now _)
theorem refFree_ev {p n : Nat} {m : List (List Nat)} (G : Good p m n) : Ev (fun k => juntoref03_Free.f k (p : Int) (cM m)) (Arith.cast (freeN n (leadN p n m))) := by
 obtain ⟨hR, hl⟩ := G.inv
 have := G.cols
 have := G.rows
 have hf := hR.few
 unfold juntoref03_Free.f
 refine Ev.pos (by rw [cM_len]; have := G.one; omega) ?_
 rw [cM_row0, cast_len, G.head]
 refine (refReduce_ev G.prime G.mat G.one (by omega) (by omega) n (Nat.le_refl _)).bind ?_
 exact free_l0 hR.asc (by omega) (by omega) n 0 0 (by omega) (by omega) (Ptr.start _)
end Go.Proofs.Ytfdkhkajehopkaa.Mb
