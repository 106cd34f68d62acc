/- What net.swap does, in plain words, and how its rows move. -/
import Derived.Test.YtkaikgbcnmfppaaNbWide
import Derived.Test.YtkaikgbcnmfppaaNbComes
import Derived.Test.YtkaikgbcnmfppaaNbBlank
namespace Go.Proofs.Ytkaikgbcnmfppaa.Nb
open Go Go.RowKit Go.Proofs.YtkaikgbcnmfppaaW.PrintWords Go.Proofs.YtkaikgbcnmfppaaW.PrintLast Go.Proofs.YtkaikgbcnmfppaaW.PrintMore
set_option linter.unusedVariables false
set_option linter.unusedSimpArgs false
/-- A payload's block. -/
def Data (w : World) (k : Nat) : Prop := ∃ cs, w.heap[k]? = some (.cells cs 22 (0, 0))
theorem Data.move {w w1 : World} {k : Nat} (h : Data w k) (hm : w1.heap[k]? = w.heap[k]?) : Data w1 k := by
 obtain ⟨cs, hc⟩ := h
 exact ⟨cs, hm.trans hc⟩
theorem Rows.move {w w1 : World} {base n : Nat} {rbs : List (Nat × Nat)} {G : List (List (List Int))} (h : Rows w base n (Data w) rbs G) (hm : ∀ b, b ∈ rbs.map (·.1) ∨ Data w b → w1.heap[b]? = w.heap[b]?) : Rows w1 base n (Data w1) rbs G :=
 ⟨h.len, h.once, fun j b c L h1 h2 => by
  obtain ⟨h3, h4, h5⟩ := h.row j b c L h1 h2
  refine ⟨h3, h4, Kd.N_mono (Kd.N_step h5 (fun k hk _ => hm k ?_)) (fun k hk => hk.imp id (fun hd => hd.move (hm k (.inr hd))))⟩
  rcases hk with rfl | hk
  ·exact .inl (List.mem_map.2 ⟨(k, c), List.mem_of_getElem? h1, rfl⟩)
  ·exact .inr hk⟩
theorem row_move {w w1 : World} {base b n c : Nat} {L : List (List Int)} (h : kD.N 51 w base (fun k => k = b ∨ Data w k) (.slice (some ⟨b, 0, none⟩) n c) L) (hm : ∀ k, k = b ∨ Data w k → w1.heap[k]? = w.heap[k]?) : kD.N 51 w1 base (fun k => k = b ∨ Data w1 k) (.slice (some ⟨b, 0, none⟩) n c) L :=
 Kd.N_mono (Kd.N_step h (fun k hk _ => hm k hk)) (fun k hk => hk.imp id (fun hd => hd.move (hm k (.inr hd))))
theorem row_put {w : World} {base b n c : Nat} {L : List (List Int)} (h : kD.N 51 w base (fun k => k = b ∨ Data w k) (.slice (some ⟨b, 0, none⟩) n c) L) {i : Nat} (hi : i < n) {v : Value} {d : List Int} (hv : Kd.R (Kd.int .u64) 22 w base (Data w) v d) :
  kD.N 51 (w.setCell ⟨b, i, none⟩ v) base (fun k => k = b ∨ Data (w.setCell ⟨b, i, none⟩ v) k) (.slice (some ⟨b, 0, none⟩) n c) (L.set i d) := by
 obtain ⟨ce, hcl, hM, hcc, _⟩ := Kd.N_elem h [] (i : Int) (by omega) (by omega)
 obtain ⟨Av, cv, rfl⟩ := Kd.R_slice hv
 have hcl1 : ce.length = 1 := hcl
 have hnb : ¬ Data w b := fun ⟨cs, hc⟩ => Kd.N_ne h hc (by decide) (by simp [Value.ownBlock])
 have hp := (Kd.N_seg (okp := Data w) h (i : Int) (by omega) (by omega) (c := ce) (seg := [.slice Av d.length cv]) (j := 0) (x' := d) hcl hcc (by show 0 + 1 ≤ 1; omega) (by
  have e : ce.take 0 ++ [Value.slice Av d.length cv] ++ ce.drop (0 + [Value.slice Av d.length cv].length) = [.slice Av d.length cv] := by
   simp [List.drop_eq_nil_of_le, hcl1]
  rw [e]
  intro W' hW
  have h2 := Kd.R_reads' (Kd.R_step hv hW)
  exact ⟨Av, cv, rfl, h2.2.1, h2.2.2⟩) (fun k hk => ⟨.inr hk, fun e => hnb (e ▸ hk)⟩)).1
 have e2 : (i : Int).toNat * kD.sz + 0 = i := by show (i : Int).toNat * 1 + 0 = i; omega
 rw [e2, setCells_one] at hp
 simp only [Int.toNat_natCast] at hp
 refine Kd.N_mono hp (fun k hk => hk.imp id (fun hd => hd.move (Below.heap_setCell _ _ _ _ (fun e => hnb ?_))))
 have e3 : k = b := e
 exact e3 ▸ hd
theorem Rows.put {w : World} {base n : Nat} {rbs : List (Nat × Nat)} {G : List (List (List Int))} (h : Rows w base n (Data w) rbs G) {j b c i : Nat} {L : List (List Int)} (hb : rbs[j]? = some (b, c)) (hL : G[j]? = some L) (hi : i < n) {v : Value} {d : List Int} (hv : Kd.R (Kd.int .u64) 22 w base (Data w) v d) :
  Rows (w.setCell ⟨b, i, none⟩ v) base n (Data (w.setCell ⟨b, i, none⟩ v)) rbs (G.set j (L.set i d)) := by
 obtain ⟨h3, h4, h5⟩ := h.row j b c L hb hL
 have hnb : ¬ Data w b := fun ⟨cs, hc⟩ => Kd.N_ne h5 hc (by decide) (by simp [Value.ownBlock])
 refine ⟨by rw [List.length_set]; exact h.len, h.once, fun j' b' c' L' h1 h2 => ?_⟩
 by_cases hj : j' = j
 ·subst hj
  rw [hb] at h1
  cases h1
  have hjl : j' < G.length := (List.getElem?_eq_some_iff.1 hL).1
  rw [List.getElem?_set_self hjl] at h2
  cases h2
  exact ⟨h3, by rw [List.length_set]; exact h4, row_put h5 hi hv⟩
 ·rw [List.getElem?_set_ne (Ne.symm hj)] at h2
  obtain ⟨g3, g4, g5⟩ := h.row j' b' c' L' h1 h2
  have hne : b' ≠ b := fun e => hj (by
   subst e
   have hj1 := (List.getElem?_eq_some_iff.1 h1).1
   have hj2 := (List.getElem?_eq_some_iff.1 hb).1
   have e1 : (rbs.map (·.1))[j']? = some b' := by simp [h1]
   have e2 : (rbs.map (·.1))[j]? = some b' := by simp [hb]
   exact (List.getElem?_inj (by simpa using hj1) h.once).1 (e1.trans e2.symm))
  refine ⟨g3, g4, row_move g5 (fun k hk => Below.heap_setCell _ _ _ _ (fun e => ?_))⟩
  have e3 : k = b := e
  rcases hk with hk | hk
  ·exact hne (hk.symm.trans e3)
  ·exact hnb (e3 ▸ hk)
/-- What a new payload is made of. -/
theorem fresh_data {w : World} {base b : Nat} {v : Value} {d : List Int} (h : Kd.R (Kd.int .u64) 22 w b (fun _ => True) v d) (hb : base ≤ b) : Kd.R (Kd.int .u64) 22 w base (Data w) v d :=
 Kd.R_lower (Kd.R_mono (Kd.R_bound h) (fun k hk => by
  obtain ⟨_, _, _, q, hq, cs, hc⟩ := hk
  have : q = 22 := by simpa [Kd.int, Kd.scalar] using hq
  subst this
  exact ⟨cs, hc⟩)) hb
/-- A sender's message to one receiver. -/
def kStep (l : List S72) (R : Int) (i : Nat) (row : List (List Int)) (k : Nat) (x : List (List (List Int)) × List S77) : List (List (List Int)) × List S77 :=
 let d := eff l ((i : Int) + 1) ((k : Int) + 1) (row.getD k [])
 (x.1.set k ((x.1.getD k []).set i d), stowed R ((i : Int) + 1) ((k : Int) + 1) d x.2)
def kRun (l : List S72) (R : Int) (i : Nat) (row : List (List Int)) (x : List (List (List Int)) × List S77) : Nat → List (List (List Int)) × List S77
 | 0 => x
 | k + 1 => kStep l R i row k (kRun l R i row x k)
/-- All that one sender sends. -/
def iStep (l : List S72) (R : Int) (n : Nat) (priv : List (List (List Int))) (said : List (List Int)) (i : Nat) (x : List (List (List Int)) × List (List Int) × List S77) : List (List (List Int)) × List (List Int) × List S77 :=
 let d := eff l ((i : Int) + 1) 0 (said.getD i [])
 let y := kRun l R i (priv.getD i []) (x.1, stowed R ((i : Int) + 1) 0 d x.2.2) n
 (y.1, x.2.1.set i d, y.2)
def iRun (l : List S72) (R : Int) (n : Nat) (priv : List (List (List Int))) (said : List (List Int)) (ss : List S77) : Nat → List (List (List Int)) × List (List Int) × List S77
 | 0 => (List.replicate n (List.replicate n []), List.replicate n [], ss)
 | i + 1 => iStep l R n priv said i (iRun l R n priv said ss i)
theorem stowed_le (R f t : Int) (d : List Int) (ss : List S77) : (stowed R f t d ss).length ≤ ss.length + 1 := by
 unfold stowed
 split <;> simp
theorem kRun_le (l : List S72) (R : Int) (i : Nat) (row : List (List Int)) (x : List (List (List Int)) × List S77) : ∀ k, (kRun l R i row x k).2.length ≤ x.2.length + k ∧ (kRun l R i row x k).1.length = x.1.length
 | 0 => ⟨Nat.le_refl _, rfl⟩
 | k + 1 => by
  obtain ⟨h1, h2⟩ := kRun_le l R i row x k
  refine ⟨?_, ?_⟩
  ·have h := stowed_le R ((i : Int) + 1) ((k : Int) + 1) (eff l ((i : Int) + 1) ((k : Int) + 1) (row.getD k [])) (kRun l R i row x k).2
   show (stowed _ _ _ _ _).length ≤ _
   omega
  ·show (List.set _ _ _).length = _
   rw [List.length_set, h2]
theorem iRun_le (l : List S72) (R : Int) (n : Nat) (priv : List (List (List Int))) (said : List (List Int)) (ss : List S77) : ∀ i, (iRun l R n priv said ss i).2.2.length ≤ ss.length + i * (n + 1) ∧ (iRun l R n priv said ss i).1.length = n ∧ (iRun l R n priv said ss i).2.1.length = n
 | 0 => by simp [iRun]
 | i + 1 => by
  obtain ⟨h1, h2, h3⟩ := iRun_le l R n priv said ss i
  have h4 := stowed_le R ((i : Int) + 1) 0 (eff l ((i : Int) + 1) 0 (said.getD i [])) (iRun l R n priv said ss i).2.2
  obtain ⟨h5, h6⟩ := kRun_le l R i (priv.getD i []) ((iRun l R n priv said ss i).1, stowed R ((i : Int) + 1) 0 (eff l ((i : Int) + 1) 0 (said.getD i [])) (iRun l R n priv said ss i).2.2) n
  refine ⟨?_, ?_, ?_⟩
  ·show (kRun _ _ _ _ _ _).2.length ≤ _
   rw [Nat.succ_mul]
   simp only at h5
   omega
  ·show (kRun _ _ _ _ _ _).1.length = _
   rw [h6]
   exact h2
  ·show (List.set _ _ _).length = _
   rw [List.length_set, h3]
theorem kRun_succ (l : List S72) (R : Int) (i : Nat) (row : List (List Int)) (x : List (List (List Int)) × List S77) (k : Nat) (d : List Int) (hk : k < (kRun l R i row x k).1.length) (hd : row.getD k [] = d) : kRun l R i row x (k + 1) = ((kRun l R i row x k).1.set k (((kRun l R i row x k).1[k]).set i (eff l ((i : Int) + 1) ((k : Int) + 1) d)), stowed R ((i : Int) + 1) ((k : Int) + 1) (eff l ((i : Int) + 1) ((k : Int) + 1) d) (kRun l R i row x k).2) := by
 show kStep l R i row k (kRun l R i row x k) = _
 unfold kStep
 rw [hd]
 have h : (kRun l R i row x k).1.getD k [] = (kRun l R i row x k).1[k] := by rw [List.getD_eq_getElem?_getD, List.getElem?_eq_getElem hk]; rfl
 rw [h]
end Go.Proofs.Ytkaikgbcnmfppaa.Nb
