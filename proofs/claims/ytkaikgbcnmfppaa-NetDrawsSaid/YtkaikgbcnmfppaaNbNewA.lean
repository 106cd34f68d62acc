/- copy(w.Tapes, tapes): rows of payloads copied to the head of a row just made. -/
import Derived.Test.YtkaikgbcnmfppaaNbExch
import Derived.Laws.CopyOwn
namespace Go.Proofs.Ytkaikgbcnmfppaa.Nb
open Go Go.RowKit Go.Proofs.YtkaikgbcnmfppaaW.PrintWords Go.Proofs.YtkaikgbcnmfppaaW.PrintLast Go.Proofs.YtkaikgbcnmfppaaW.PrintMore
set_option linter.unusedVariables false
set_option linter.unusedSimpArgs false
theorem cell_heap {w w1 : World} {a : Addr} (h : w1.heap[a.block]? = w.heap[a.block]?) : w1.cell? a = w.cell? a := by
 simp [World.cell?, h]
def srcCells (w : World) (A : Option Addr) (m : Nat) : List Value := match A with
 | none => []
 | some ad => (List.range m).map fun j => (w.cell? (ad.add j)).getD (.slice none 0 0)
theorem add_block (ad : Addr) (j : Nat) : (ad.add j).block = ad.block := by
 first | rfl | (cases ad; rfl) | (unfold Addr.add; split <;> rfl) | simp [Addr.add]
theorem copyF {w w' : World} {g n m : Nat} {okS : Nat → Prop} {A : Option Addr} {xs : List (List Int)} (HS : Kd.F kD w okS A m xs) (hm : m ≤ n) (hn : n ≤ 9223372036854775807) (hne : ∀ k, okS k → k ≠ g) (hw : ∀ k, k ≠ g → w'.heap[k]? = w.heap[k]?)
  (hg : w'.heap[g]? = some (.cells (srcCells w A m ++ List.replicate (n - m) (Value.slice none 0 0)).toArray 51 (0, 0))) : Kd.F kD w' (fun k => okS k ∨ k = g) (some ⟨g, 0, none⟩) n (xs ++ List.replicate (n - m) []) := by
 intro W' hW'
 have hl := Kd.F_len HS
 have hgl := blk_lt hg
 have hg2 : W'.heap[g]? = some (.cells (srcCells w A m ++ List.replicate (n - m) (Value.slice none 0 0)).toArray 51 (0, 0)) := (hW' g (.inr rfl) hgl).trans hg
 have hsame : ∀ k, okS k → k < w.heap.size → W'.heap[k]? = w.heap[k]? := fun k hk hlt => (hW' k (.inl hk) (heap_lt (hw k (hne k hk)) hlt)).trans (hw k (hne k hk))
 refine ⟨by simp [hl]; omega, hn, fun hp => ⟨_, rfl, fun j p hj => ?_⟩⟩
 have hcell : ∀ i u, (srcCells w A m ++ List.replicate (n - m) (Value.slice none 0 0))[j]? = some u → ([u] : List Value)[i]? = some u → W'.cell? ((⟨g, 0, none⟩ : Addr).add (j * kD.sz + i)) = some u := fun i u h1 h2 => by
  cases i with
  | succ i => simp at h2
  | zero =>
   rw [add_at]
   show W'.cell? ⟨g, 0 + (j * 1 + 0), none⟩ = _
   rw [show 0 + (j * 1 + 0) = j from by omega, blk_cell hg2 j]
   simpa using h1
 by_cases hjm : j < m
 ·have hjx : j < xs.length := by omega
  rw [List.getElem?_append_left hjx] at hj
  obtain ⟨ad, c, rfl, hcl, hFK, hcc, hin⟩ := Kd.F_get HS p (j : Int) (by omega) (by omega)
  simp only [Int.toNat_natCast] at hFK hcc
  rw [List.getD_eq_getElem?_getD, hj] at hFK
  have hK := hFK W' hsame
  obtain ⟨B, b, rfl, hb1, hb2⟩ := hK
  have h0 := hcc 0 _ rfl
  have e2 : j * kD.sz + 0 = j := by show j * 1 + 0 = j; omega
  rw [e2] at h0
  have hs : (srcCells w (some ad) m ++ List.replicate (n - m) (Value.slice none 0 0))[j]? = some (.slice B p.length b) := by
   rw [List.getElem?_append_left (by simp [srcCells]; exact hjm)]
   simp [srcCells, hjm, h0]
  refine ⟨[.slice B p.length b], rfl, ⟨B, b, rfl, hb1, hb2⟩, fun i u hu => ?_⟩
  cases i with
  | succ i => simp at hu
  | zero =>
   simp at hu
   subst hu
   exact hcell 0 _ hs rfl
 ·rw [List.getElem?_append_right (by omega)] at hj
  have hjl := (List.getElem?_eq_some_iff.1 hj).1
  have hjp := (List.getElem?_eq_some_iff.1 hj).2
  rw [List.getElem_replicate] at hjp
  subst hjp
  simp at hjl
  have hsl : (srcCells w A m).length = m := by
   cases A with
   | none =>
    obtain ⟨_, _, h3⟩ := Kd.F_now HS
    rcases Nat.eq_zero_or_pos m with h | h
    ·simp [srcCells, h]
    ·obtain ⟨_, h4, _⟩ := h3 h
     cases h4
   | some ad => simp [srcCells]
  refine ⟨[.slice none 0 0], rfl, ⟨none, 0, rfl, Nat.le_refl _, Kd.C_nil _ _⟩, fun i u hu => ?_⟩
  cases i with
  | succ i => simp at hu
  | zero =>
   simp at hu
   subst hu
   refine hcell 0 _ ?_ rfl
   rw [List.getElem?_append_right (by omega), hsl]
   rw [List.getElem?_replicate, if_pos (by omega)]
theorem size51 : (Try.prog.info? 51).map (·.size) = some 1 := by kernel_rfl
theorem wp_copy_rows {w : World} {ops : Array Oper} {rest : List Oper} {o : Oper} {a : Act} {Q : Exit → Act → World → Prop} (hgd : o.guard = none) (d s : Operand)
  (ho : o.op = .call { callee := .builtin .copy, args := #[d, s], argTypes := #[27, 27] }) {g n m dc sc : Nat} {okS : Nat → Prop} {A : Option Addr} {xs : List (List Int)}
  (hd : a.eval d = .slice (some ⟨g, 0, none⟩) n dc) (hs : a.eval s = .slice A m sc) (hm : m ≤ n) (hn : n ≤ 9223372036854775807) (HS : Kd.F kD w okS A m xs) (hne : ∀ k, okS k → k ≠ g)
  (hg : w.heap[g]? = some (.cells (madeCells #[.slice none 0 0] n) 51 (0, 0)))
  (h : ∀ w' v, Kd.F kD w' (fun k => okS k ∨ k = g) (some ⟨g, 0, none⟩) n (xs ++ List.replicate (n - m) []) → Kept w w' (fun k => k = g) → (∀ base w0, Below base w0 w → base ≤ g → Below base w0 w') → wpList Try.prog ops Q rest (a.put o.dst v) w') : wpList Try.prog ops Q (o :: rest) a w := by
 have hmade : madeCells #[Value.slice none 0 0] n = (List.replicate n (Value.slice none 0 0)).toArray := by
  apply Array.toList_inj.1
  rw [toList_madeCells_one]
 rw [hmade] at hg
 by_cases h0 : m = 0
 ·subst h0
  have hx : xs = [] := List.eq_nil_of_length_eq_zero (Kd.F_len HS)
  subst hx
  refine wpList_copy_nothing hgd d s 27 27 ho 51 Try.underlying27 size51 _ _ n dc 0 sc hd hs (by simp) ?_
  refine h w _ ?_ (Kept.refl _ _) (fun _ _ hb _ => hb)
  refine copyF HS hm hn hne (fun _ _ => rfl) ?_
  rw [hg]
  cases A <;> simp [srcCells]
 ·obtain ⟨ad, c, hA, _⟩ := Kd.F_get HS [] (0 : Int) (by omega) (by omega)
  subst hA
  refine wpList_copy_own hgd d s 27 27 ho 51 Try.underlying27 size51 g 0 n dc ad m sc hd hs _ 51 hg (srcCells w (some ad) m) (by simp only [srcCells, List.length_map, List.length_range]; exact (Nat.min_eq_left hm).symm) ?_ (by simp [srcCells]; omega) ?_ ?_
  ·intro j v hj
   have hjm : j < m := by have := (List.getElem?_eq_some_iff.1 hj).1; simpa [srcCells] using this
   obtain ⟨ad', c, e, hcl, hFK, hcc, _⟩ := Kd.F_get HS [] (j : Int) (by omega) (by omega)
   cases e
   simp only [Int.toNat_natCast] at hFK hcc
   obtain ⟨B, b, rfl, _⟩ := Kd.FK_slice_open hFK
   have h1 := hcc 0 _ rfl
   have e2 : j * kD.sz + 0 = j := by show j * 1 + 0 = j; omega
   rw [e2] at h1
   simp [srcCells, hjm, h1] at hj
   rw [h1, ← hj, List.getD_eq_getElem?_getD]
  ·intro v hv
   simp only [srcCells, List.mem_map, List.mem_range] at hv
   obtain ⟨j, hjm, rfl⟩ := hv
   obtain ⟨ad', c, e, hcl, hFK, hcc, _⟩ := Kd.F_get HS [] (j : Int) (by omega) (by omega)
   cases e
   simp only [Int.toNat_natCast] at hFK hcc
   obtain ⟨B, b, rfl, _⟩ := Kd.FK_slice_open hFK
   have h1 := hcc 0 _ rfl
   have e2 : j * kD.sz + 0 = j := by show j * 1 + 0 = j; omega
   rw [e2] at h1
   rw [h1]
   rfl
  ·have hset : (w.setRow g ((List.replicate n (Value.slice none 0 0)).toArray.toList.take 0 ++ (srcCells w (some ad) m ++ (List.replicate n (Value.slice none 0 0)).toArray.toList.drop (0 + (srcCells w (some ad) m).length))).toArray).heap[g]? = some (.cells (srcCells w (some ad) m ++ List.replicate (n - m) (Value.slice none 0 0)).toArray 51 (0, 0)) := by
    rw [setRow_heap w g _ _ 51 (0, 0) hg]
    simp [srcCells]
   refine h _ _ (copyF HS hm hn hne (fun k hk => setRow_other w g k _ hk) hset) ⟨by simp, fun k _ hk => setRow_other w g k _ hk⟩ (fun base w0 hb hbg => below_setRow hb hbg _)
end Go.Proofs.Ytkaikgbcnmfppaa.Nb
