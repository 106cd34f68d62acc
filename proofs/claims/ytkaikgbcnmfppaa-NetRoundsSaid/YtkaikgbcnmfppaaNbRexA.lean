/- What holds in the reference's Exchange at each step. -/
import Derived.Test.YtkaikgbcnmfppaaNbWide
import Derived.Test.YtkaikgbcnmfppaaNbSwapB
import Derived.Test.YtkaikgbcnmfppaaNbFSlicesCloneIntInt
import Derived.Test.YtkaikgbcnmfppaaNbRefAct
namespace Go.Proofs.Ytkaikgbcnmfppaa.Nb
open Go Go.RowKit Go.Proofs.YtkaikgbcnmfppaaW.PrintWords Go.Proofs.YtkaikgbcnmfppaaW.PrintLast Go.Proofs.YtkaikgbcnmfppaaW.PrintMore
set_option linter.unusedVariables false
set_option linter.unusedSimpArgs false
noncomputable section
theorem cell_move {w w1 : World} {a : Addr} (h : w1.heap[a.block]? = w.heap[a.block]?) : w1.cell? a = w.cell? a := by
 simp [World.cell?, h]
theorem eff_sent (l : List S72) (R f t : Int) (d : List Int) : sendV l R f t d = eff (now R l) f t d := by
 unfold eff sendV now
 rw [List.find?_filter]
 have h : (fun a : S72 => decide ((a.f0 == R) = true ∧ (f == a.f1 && t == a.f2) = true)) = fun a => a.f0 == R && a.f1 == f && a.f2 == t := by
  funext a
  rw [Bool.eq_iff_iff]
  simp only [decide_eq_true_eq, Bool.and_eq_true, beq_iff_eq]
  exact ⟨fun ⟨h1, h2, h3⟩ => ⟨⟨h1, h2.symm⟩, h3.symm⟩, fun ⟨⟨h1, h2⟩, h3⟩ => ⟨h1, h2.symm, h3.symm⟩⟩
 rw [h]
 cases List.find? (fun a => a.f0 == R && a.f1 == f && a.f2 == t) l <;> rfl
theorem eff_self {l : List S72} (h : ∀ a ∈ l, a.f2 ≠ a.f1) (R f : Int) (d : List Int) : eff (now R l) f f d = d := by
 unfold eff
 have h1 : (now R l).find? (fun a => f == a.f1 && f == a.f2) = none := by
  rw [List.find?_eq_none]
  intro a ha hq
  simp only [Bool.and_eq_true, beq_iff_eq] at hq
  exact h a (List.mem_filter.1 ha).1 (hq.2.symm.trans hq.1)
 rw [h1]
/-- A row's cell, and the payload that it holds. -/
theorem row_at {w : World} {base b n c : Nat} {ok : Nat → Prop} {L : List (List Int)} (h : kD.N 51 w base ok (.slice (some ⟨b, 0, none⟩) n c) L) {i : Nat} (hi : i < n) :
  ∃ A' c', w.cell? ⟨b, i, none⟩ = some (.slice A' (L.getD i []).length c') ∧ (L.getD i []).length ≤ c' ∧ Kd.F (Kd.int .u64) w (fun k => ok k ∧ k ≠ b) A' (L.getD i []).length (L.getD i []) := by
 obtain ⟨ce, hcl, hM, hcc, hf⟩ := Kd.N_elem h [] (i : Int) (by omega) (by omega)
 obtain ⟨A', c', rfl, hl, hF⟩ := Kd.FK_slice_open hM
 have h2 := hcc 0 _ rfl
 have e2 : (i : Int).toNat * kD.sz + 0 = i := by show (i : Int).toNat * 1 + 0 = i; omega
 rw [e2] at h2
 exact ⟨A', c', h2, hl, hF⟩
theorem Rows.put51 {w : World} {base n : Nat} {D : Nat → Prop} {rbs : List (Nat × Nat)} {G : List (List (List Int))} (h : Rows w base n D rbs G) {j b c i : Nat} {L : List (List Int)} (hb : rbs[j]? = some (b, c)) (hL : G[j]? = some L) (hi : i < n) {A : Option Addr} {c' : Nat} {d : List Int} (hc : d.length ≤ c') (hv : Kd.F (Kd.int .u64) w D A d.length d) (hD : ∀ b, b ∈ rbs.map (·.1) → ¬ D b) :
  Rows (w.setCell ⟨b, i, none⟩ (.slice A d.length c')) base n D rbs (G.set j (L.set i d)) := by
 have hbm : b ∈ rbs.map (·.1) := List.mem_map.2 ⟨(b, c), List.mem_of_getElem? hb, rfl⟩
 obtain ⟨h3, h4, h5⟩ := h.row j b c L hb hL
 refine ⟨by rw [List.length_set]; exact h.len, h.once, fun j' b' c2 L' h1 h2 => ?_⟩
 by_cases hj : j' = j
 ·subst hj
  rw [hb] at h1
  cases h1
  have hjl : j' < G.length := (List.getElem?_eq_some_iff.1 hL).1
  rw [List.getElem?_set_self hjl] at h2
  cases h2
  exact ⟨h3, by rw [List.length_set]; exact h4, row_put51 h5 hi hc (Kd.F_mono hv (fun k hk => ⟨.inr hk, fun e => hD b hbm (e ▸ hk)⟩))⟩
 ·rw [List.getElem?_set_ne (Ne.symm hj)] at h2
  obtain ⟨g3, g4, g5⟩ := h.row j' b' c2 L' h1 h2
  have hne : b' ≠ b := fun e => hj (by
   subst e
   have hj1 := (List.getElem?_eq_some_iff.1 h1).1
   have hj2 := (List.getElem?_eq_some_iff.1 hb).1
   have e1 : (rbs.map (·.1))[j']? = some b' := by simp [h1]
   have e2 : (rbs.map (·.1))[j]? = some b' := by simp [hb]
   exact (List.getElem?_inj (by simpa using hj1) h.once).1 (e1.trans e2.symm))
  refine ⟨g3, g4, Kd.N_step g5 (fun k hk _ => Below.heap_setCell _ _ _ _ (fun e => ?_))⟩
  have e3 : k = b := e
  rcases hk with hk | hk
  ·exact hne (hk.symm.trans e3)
  ·exact hD b hbm (e3 ▸ hk)
/-- w: at the call; nb: the size behind what is made there; v: now. -/
structure RInv (w : World) (nb n g3 g8 g c h2 ch : Nat) (rbs : List (Nat × Nat)) (W8 Z8 : Array Value) (v : World) (vq : Value) (G : List (List (List Int))) (H : List (List Int)) (ss : List S77) : Prop where
 bw : v.heap[g3]? = some (.cells W8 30 (0, 0))
 bz : v.heap[g8]? = some (.cells Z8 30 (0, 0))
 ho : (kO n).R 27 v w.heap.size (fun k => k = g) (.slice (some ⟨g, 0, none⟩) n c) (rbs.map some)
 hr : Rows v w.heap.size n (fun k => k < w.heap.size) rbs G
 hh : kD.N 51 v w.heap.size (fun k => k = h2 ∨ k < w.heap.size) (.slice (some ⟨h2, 0, none⟩) n ch) H
 hs : k77.N 77 v w.heap.size (fun k => k < w.heap.size ∨ nb ≤ k) vq ss
 hb : Below w.heap.size w v
 sz : nb ≤ v.heap.size
 q3 : w.heap.size ≤ g3 ∧ g3 < nb
 q8 : w.heap.size ≤ g8 ∧ g8 < nb
 qg : w.heap.size ≤ g ∧ g < nb
 q2 : w.heap.size ≤ h2 ∧ h2 < nb
 qn : h2 ∉ rbs.map (·.1)
 qr : ∀ b ∈ rbs.map (·.1), w.heap.size ≤ b ∧ b < nb
section
variable {w : World} {nb n g3 g8 g c h2 ch : Nat} {rbs : List (Nat × Nat)} {W8 Z8 : Array Value} {v v' : World} {vq vq' : Value} {G : List (List (List Int))} {H : List (List Int)} {ss ss' : List S77}
theorem RInv.step (h : RInv w nb n g3 g8 g c h2 ch rbs W8 Z8 v vq G H ss) (hm : ∀ k, k < v.heap.size → v'.heap[k]? = v.heap[k]?) (hb : Below w.heap.size w v') (hz : v.heap.size ≤ v'.heap.size) : RInv w nb n g3 g8 g c h2 ch rbs W8 Z8 v' vq G H ss :=
 ⟨(hm _ (blt h.bw)).trans h.bw, (hm _ (blt h.bz)).trans h.bz, Kd.R_step h.ho (fun k _ hk => hm k hk), h.hr.step (fun b _ hk => hm b hk), Kd.N_step h.hh (fun k _ hk => hm k hk), Kd.N_step h.hs (fun k _ hk => hm k hk), hb, Nat.le_trans h.sz hz, h.q3, h.q8, h.qg, h.q2, h.qn, h.qr⟩
theorem RInv.drew (h : RInv w nb n g3 g8 g c h2 ch rbs W8 Z8 v vq G H ss) : RInv w nb n g3 g8 g c h2 ch rbs W8 Z8 v.drew vq G H ss :=
 h.step (fun _ _ => rfl) (bd1 h.hb) (Nat.le_refl _)
theorem RInv.below (h : RInv w nb n g3 g8 g c h2 ch rbs W8 Z8 v vq G H ss) (hb : Below v.heap.size v v') : RInv w nb n g3 g8 g c h2 ch rbs W8 Z8 v' vq G H ss :=
 h.step (fun k hk => hb.block k hk) (h.hb.trans (hb.mono h.hb.size)) hb.size
theorem typed_ne {w : World} {a b t t' : Nat} {cs cs' : Array Value} (ha : w.heap[a]? = some (.cells cs t (0, 0))) (hb : w.heap[b]? = some (.cells cs' t' (0, 0))) (hne : t ≠ t') : a ≠ b := fun e => by
 rw [e, hb] at ha
 injection ha with ha
 injection ha with _ ha
 exact hne ha.symm
/-- A store into one of the rows made here. -/
theorem RInv.store (h : RInv w nb n g3 g8 g c h2 ch rbs W8 Z8 v vq G H ss) {b i : Nat} {u : Value} {G' : List (List (List Int))} {H' : List (List Int)} {cs : Array Value} (hcb : v.heap[b]? = some (.cells cs 51 (0, 0))) (hlo : w.heap.size ≤ b) (hhi : b < nb)
  (hr' : Rows (v.setCell ⟨b, i, none⟩ u) w.heap.size n (fun k => k < w.heap.size) rbs G') (hh' : kD.N 51 (v.setCell ⟨b, i, none⟩ u) w.heap.size (fun k => k = h2 ∨ k < w.heap.size) (.slice (some ⟨h2, 0, none⟩) n ch) H') :
  RInv w nb n g3 g8 g c h2 ch rbs W8 Z8 (v.setCell ⟨b, i, none⟩ u) vq G' H' ss := by
 obtain ⟨cs27, h27⟩ := Kd.R_typed h.ho g rfl
 refine ⟨bkf (p := ⟨b, i, none⟩) h.bw (typed_ne h.bw hcb (by decide)) u, bkf (p := ⟨b, i, none⟩) h.bz (typed_ne h.bz hcb (by decide)) u, Kd.R_far h.ho (p := ⟨b, i, none⟩) (fun k hk => by rw [hk]; exact typed_ne h27 hcb (by decide)) u, hr', hh', Kd.N_step h.hs (fun k hk _ => Below.heap_setCell _ _ _ _ (fun e => ?_)), bset h.hb hlo, ?_, h.q3, h.q8, h.qg, h.q2, h.qn, h.qr⟩
 ·have e2 : k = b := e
  rcases hk with hk | hk <;> omega
 ·have : (v.setCell ⟨b, i, none⟩ u).heap.size = v.heap.size := by simp [World.setCell]
  rw [this]
  exact h.sz
theorem RInv.heard (h : RInv w nb n g3 g8 g c h2 ch rbs W8 Z8 v vq G H ss) {i : Nat} (hi : i < n) {A : Option Addr} {c' : Nat} {d : List Int} (hc : d.length ≤ c') (hv : Kd.F (Kd.int .u64) v (fun k => k < w.heap.size) A d.length d) :
  RInv w nb n g3 g8 g c h2 ch rbs W8 Z8 (v.setCell ⟨h2, i, none⟩ (.slice A d.length c')) vq G (H.set i d) ss := by
 obtain ⟨cs51, h51⟩ := Kd.N_typed h.hh h2 rfl
 refine h.store h51 h.q2.1 h.q2.2 (h.hr.step (fun b hb _ => Below.heap_setCell _ _ _ _ (fun e => ?_))) (row_put51 h.hh hi hc (Kd.F_mono hv (fun k hk => ⟨.inr hk, fun e => by have := h.q2.1; omega⟩)))
 have e2 : b = h2 := e
 rcases hb with hb | hb
 ·exact h.qn (e2 ▸ hb)
 ·have := h.q2.1
  omega
theorem RInv.came (h : RInv w nb n g3 g8 g c h2 ch rbs W8 Z8 v vq G H ss) {j b cb i : Nat} {L : List (List Int)} (hb : rbs[j]? = some (b, cb)) (hL : G[j]? = some L) (hi : i < n) {A : Option Addr} {c' : Nat} {d : List Int} (hc : d.length ≤ c') (hv : Kd.F (Kd.int .u64) v (fun k => k < w.heap.size) A d.length d) :
  RInv w nb n g3 g8 g c h2 ch rbs W8 Z8 (v.setCell ⟨b, i, none⟩ (.slice A d.length c')) vq (G.set j (L.set i d)) H ss := by
 have hbm : b ∈ rbs.map (·.1) := List.mem_map.2 ⟨(b, cb), List.mem_of_getElem? hb, rfl⟩
 obtain ⟨_, _, h5⟩ := h.hr.row j b cb L hb hL
 obtain ⟨cs51, h51⟩ := Kd.N_typed h5 b rfl
 refine h.store h51 (h.qr b hbm).1 (h.qr b hbm).2 (h.hr.put51 hb hL hi hc hv (fun q hq => by have := (h.qr q hq).1; omega)) (Kd.N_step h.hh (fun k hk _ => Below.heap_setCell _ _ _ _ (fun e => ?_)))
 have e2 : k = b := e
 rcases hk with hk | hk
 ·exact h.qn (by rw [← hk, e2]; exact hbm)
 ·have := (h.qr b hbm).1
  omega
theorem RInv.sent (h : RInv w nb n g3 g8 g c h2 ch rbs W8 Z8 v vq G H ss) (hn : k77.N 77 v' w.heap.size (fun k => k < w.heap.size ∨ nb ≤ k) vq' ss') (hb : Below w.heap.size w v') (hg : v.grownBy v' vq.ownBlock) (hz : v.heap.size ≤ v'.heap.size) :
  RInv w nb n g3 g8 g c h2 ch rbs W8 Z8 v' vq' G H ss' := by
 have hown : ∀ k, k < nb → some k ≠ vq.ownBlock := fun k hk e => by
  have h1 := Kd.N_base h.hs k e.symm
  rcases h.hs.1 k e.symm with h2 | h2 <;> omega
 have hm : ∀ k, k < nb → v'.heap[k]? = v.heap[k]? := fun k hk => hg.block k (Nat.lt_of_lt_of_le hk h.sz) (hown k hk)
 have hw : w.heap.size ≤ nb := by have := h.q3; omega
 refine ⟨(hm _ h.q3.2).trans h.bw, (hm _ h.q8.2).trans h.bz, Kd.R_step h.ho (fun k hk _ => hm k (by rw [hk]; exact h.qg.2)), h.hr.step (fun b hb' _ => hm b (hb'.elim (fun q => (h.qr b q).2) (fun q => Nat.lt_of_lt_of_le q hw))), Kd.N_step h.hh (fun k hk _ => hm k (hk.elim (fun q => by rw [q]; exact h.q2.2) (fun q => Nat.lt_of_lt_of_le q hw))), hn, hb, Nat.le_trans h.sz hz, h.q3, h.q8, h.qg, h.q2, h.qn, h.qr⟩
theorem RInv.cell0 (h : RInv w nb n g3 g8 g c h2 ch rbs W8 Z8 v vq G H ss) {k bk ck : Nat} (hk : rbs[k]? = some (bk, ck)) (hl : rbs.length = n) : v.cell? ⟨g, k, none⟩ = some (.slice (some ⟨bk, 0, none⟩) n ck) := by
 have hkl : k < rbs.length := (List.getElem?_eq_some_iff.1 hk).1
 have hl2 : (rbs.map some).length = n := by rw [List.length_map, hl]
 have h3 := (Kd.R_cell none (show (kO n).R 27 v w.heap.size (fun k => k = g) (.slice (some ⟨g, 0, none⟩) (rbs.map some).length c) (rbs.map some) from by rw [hl2]; exact h.ho) (k : Int) (by omega) (by rw [hl2]; omega)).1
 simp only [Int.toNat_natCast] at h3
 rw [h3]
 simp [rdOf, List.getD_eq_getElem?_getD, hk, encO]
end
/-- Behind the two rows' making, in either order. -/
structure RexMid (n : Nat) (w v0 : World) (s : (Nat × Nat) × (Nat × Nat)) (v : World) : Prop where
 ho : (kO n).R 27 v w.heap.size (fun k => k = s.1.1) (.slice (some ⟨s.1.1, 0, none⟩) n s.1.2) (List.replicate n none)
 hh : kD.N 51 v w.heap.size (fun k => k = s.2.1) (.slice (some ⟨s.2.1, 0, none⟩) n s.2.2) (List.replicate n [])
 hb : Below v0.heap.size v0 v
 qg : w.heap.size ≤ s.1.1
 q2 : w.heap.size ≤ s.2.1
/-- What the reference's Exchange hands back. -/
def RexPost (W : World) (came : List (List (List Int))) (heard : List (List Int)) (x : S30) (e : Ending) (w' : World) : Prop :=
 ∃ G1 d1 G2 d2 A3 c3 A4 c4 A5 c5 A7 c7, e = .returned (.tuple #[.slice G1 came.length d1, .slice G2 heard.length d2, .agg (wv x A3 c3 A4 c4 A5 c5 A7 c7)]) ∧
  (Kd.slice 51 kD).C w' G1 came.length came ∧ came.length ≤ d1 ∧ kD.C w' G2 heard.length heard ∧ heard.length ≤ d2 ∧ k30.K w' x (wv x A3 c3 A4 c4 A5 c5 A7 c7).toList ∧ Below W.heap.size W w'
end
end Go.Proofs.Ytkaikgbcnmfppaa.Nb
