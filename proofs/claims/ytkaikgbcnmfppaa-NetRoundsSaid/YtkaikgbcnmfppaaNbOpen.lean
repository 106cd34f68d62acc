/- What an argument's cells read as: kinds opened by their types. -/
import Derived.Test.YtkaikgbcnmfppaaNb0
import Derived.Test.YtkaikgbcnmfppaaNbBlank
import Derived.ChangeSame
import Derived.WideKeyArr2
import Derived.ChangeArms
import Derived.ChangeReads
import Derived.SizedLaws
namespace Go.Proofs.Ytkaikgbcnmfppaa.Nb
open Go Go.ChangeShapes Go.WideShapes Go.RowKit Go.Proofs.YtkaikgbcnmfppaaW.PrintWords Go.Proofs.YtkaikgbcnmfppaaW.PrintLast Go.Proofs.YtkaikgbcnmfppaaW.PrintMore
set_option linter.unusedVariables false
set_option linter.unusedSimpArgs false
section
variable {H : Type} {P : Program}
theorem weights_all {e : TypeId} {q : Nat → Bool} : ∀ (l : List (DataW H)), (DataW.weightsAll P e l).all q = true → ∀ d ∈ l, (d.weights P e).all q = true
 | [], _, d, hd => by cases hd
 | y :: l, h, d, hd => by
  simp only [DataW.weightsAll, List.all_append, Bool.and_eq_true] at h
  rcases List.mem_cons.1 hd with rfl | hd
  ·exact h.1
  ·exact weights_all l h.2 d hd
theorem weights_each {q : Nat → Bool} : ∀ (ts : List TypeId) (ds : List (DataW H)) (j : Nat) (t : TypeId) (d : DataW H), (DataW.weightsEach P ts ds).all q = true → ts[j]? = some t → ds[j]? = some d → (d.weights P t).all q = true
 | [], _, j, t, d, _, ht, _ => by simp at ht
 | _ :: _, [], j, t, d, _, _, hd => by simp at hd
 | u :: ts, y :: ds, j, t, d, h, ht, hd => by
  simp only [DataW.weightsEach, List.all_append, Bool.and_eq_true] at h
  cases j with
  | zero =>
   simp at ht hd
   subst ht hd
   exact h.1
  | succ j => exact weights_each ts ds j t d h.2 (by simpa using ht) (by simpa using hd)
theorem weights_fields {q : Nat → Bool} {g : Field → Option (DataW H × List MemPlace)} : ∀ (L : List Field) (ys : List (DataW H × List MemPlace)), L.mapM g = some ys → (DataW.weightsEach P (L.map (·.type)) (ys.map (·.1))).all q = true → ∀ f ∈ L, ∃ y, g f = some y ∧ (y.1.weights P f.type).all q = true
 | [], _, _, _, f, hf => by cases hf
 | a :: L, ys, h, hw, f, hf => by
  rw [List.mapM_cons] at h
  cases ha : g a with
  | none => simp [ha] at h
  | some y =>
   rw [ha] at h
   cases hr : L.mapM g with
   | none => simp [hr] at h
   | some zs =>
    simp [hr] at h
    subst h
    simp only [List.map_cons, DataW.weightsEach, List.all_append, Bool.and_eq_true] at hw
    rcases List.mem_cons.1 hf with rfl | hf
    ·exact ⟨y, ha, hw.1⟩
    ·exact weights_fields L zs hr hw.2 f hf
end
/-- Cells of type t that read, read as kind d. -/
def Opens {α : Type} (P : Program) (d : Kd α) (t : TypeId) (Wf : α → Prop) : Prop :=
 ∀ (H : Type) (enc : TypeId × Value → H) (w : World) (base : Nat) (held : Bool) (fuel : Nat) (cs : List Value) (x : DataW H × List MemPlace), DataW.trod enc P w base (fun _ => true) held fuel t cs = some x → (x.1.weights P t).all (· ≤ reachBytes) = true → ∃ v, d.K w v cs ∧ Wf v
section
variable {P : Program} {t e : TypeId}
theorem opens_int {k : IntKind} (ht : P.underlying t = some (.int k)) : Opens P (Kd.int k) t (fun n => (Lit.int k n).wf = true) := fun H enc w base held fuel cs x h _ => by
 obtain ⟨n, hc, _, hw⟩ := DataW.trod_int ht h
 exact ⟨n, hc, hw⟩
theorem opens_bool (ht : P.underlying t = some .bool) : Opens P Kd.bool t (fun _ => True) := fun H enc w base held fuel cs x h _ => by
 cases fuel with
 | zero => simp [DataW.trod] at h
 | succ m =>
  rw [DataW.trod_step] at h
  unfold DataW.trodStep at h
  rw [ht] at h
  cases cs with
  | nil => simp at h
  | cons c r =>
   cases r with
   | cons _ _ => simp at h
   | nil => cases c <;> first | (simp at h; done) | exact ⟨_, rfl, trivial⟩
theorem opens_slice {α : Type} {d : Kd α} {Wf : α → Prop} (z : α) {B : Nat} (ht : P.underlying t = some (.slice e)) (he : Opens P d e Wf) (hs : P.cellsOf e = d.sz) (hB : P.bytesOf e = B) : Opens P (Kd.slice e d) t (fun l => l.length ≤ maxLen ∧ l.length * B ≤ 140737488351232 ∧ ∀ y ∈ l, Wf y) := fun H enc w base held fuel cs x h hwt => by
 have hmx : maxLen ≤ 9223372036854775807 := by decide
 rcases DataW.trod_slice ht h with ⟨rfl, _⟩ | ⟨a, len, cap, elems, rest, n, _, rfl, rfl, hb, hl, hm, hlen, hel, _, _⟩
 ·exact ⟨[], ⟨none, 0, rfl, Nat.le_refl _, Kd.C_nil _ _⟩, Nat.zero_le _, by simp, fun _ h => by cases h⟩
 ·simp only [DataW.weights, ht, List.all_cons, List.all_append, Bool.and_eq_true, decide_eq_true_eq, List.length_map] at hwt
  obtain ⟨hw0, hw1, _⟩ := hwt
  have hw2 : len * B ≤ 140737488351232 := by
   rw [hB, hlen] at hw0
   have h3 : len * B ≤ (len + rest.length) * B := Nat.mul_le_mul_right _ (Nat.le_add_right _ _)
   have h4 : reachBytes = 140737488351232 := by decide
   omega
  have hex : ∀ i, ∃ v : α, i < len → ∃ c : List Value, c.length = d.sz ∧ d.K w v c ∧ (∀ j u, c[j]? = some u → w.cell? (a.add (i * d.sz + j)) = some u) ∧ Wf v := fun i => by
   by_cases hi : i < len
   ·have hi' : i < elems.length := by omega
    have h1 := hel i hi
    rw [List.getElem?_eq_getElem hi', hs, Option.bind_eq_some_iff] at h1
    obtain ⟨c, hcs, hy⟩ := h1
    obtain ⟨_, hl2, hc⟩ := World.cells?_some hcs
    obtain ⟨v, hv, hw⟩ := he H enc w base held n c _ hy (weights_all _ hw1 _ (List.mem_map.2 ⟨_, List.getElem_mem hi', rfl⟩))
    refine ⟨v, fun _ => ⟨c, hl2, hv, fun j u hu => ?_, hw⟩⟩
    have hj := (List.getElem?_eq_some_iff.1 hu).1
    have h2 := hc j (by omega)
    rw [Addr.add_add] at h2
    rw [h2]
    exact hu
   ·exact ⟨z, fun h => absurd h hi⟩
  obtain ⟨f, hf⟩ : ∃ f : Nat → α, ∀ i, i < len → ∃ c : List Value, c.length = d.sz ∧ d.K w (f i) c ∧ (∀ j u, c[j]? = some u → w.cell? (a.add (i * d.sz + j)) = some u) ∧ Wf (f i) := ⟨fun i => Classical.choose (hex i), fun i => Classical.choose_spec (hex i)⟩
  refine ⟨(List.range len).map f, ⟨some a, cap, by simp, by simpa using hl, ⟨rfl, by simp; omega, fun _ => ⟨a, rfl, fun j p hj => ?_⟩⟩⟩, by simp; omega, by simpa using hw2, fun y hy => ?_⟩
  ·rw [List.getElem?_map, Option.map_eq_some_iff] at hj
   obtain ⟨j', hj', rfl⟩ := hj
   obtain ⟨hjl, hj2⟩ := List.getElem?_eq_some_iff.1 hj'
   simp only [List.length_range] at hjl
   simp only [List.getElem_range] at hj2
   subst hj2
   obtain ⟨c, h1, h2, h3, _⟩ := hf _ hjl
   exact ⟨c, h1, h2, h3⟩
  ·obtain ⟨i, hi, rfl⟩ := List.mem_map.1 hy
   obtain ⟨_, _, _, _, h4⟩ := hf i (List.mem_range.1 hi)
   exact h4
/-- A struct's fields. -/
theorem trod_fields {H : Type} {enc : TypeId × Value → H} {w : World} {base : Nat} {held : Bool} {fuel : Nat} {cs : List Value} {x : DataW H × List MemPlace} {fs : Array Field} (ht : P.underlying t = some (.struct fs)) (h : DataW.trod enc P w base (fun _ => true) held fuel t cs = some x) (hw : (x.1.weights P t).all (· ≤ reachBytes) = true) :
  cs.length = P.cellsOf t ∧ ∃ m, ∀ f ∈ fs.toList, ∃ y, DataW.trod enc P w base (fun _ => true) held m f.type ((cs.drop f.offset).take (P.cellsOf f.type)) = some y ∧ (y.1.weights P f.type).all (· ≤ reachBytes) = true := by
 cases fuel with
 | zero => simp [DataW.trod] at h
 | succ m =>
  rw [DataW.trod_step] at h
  unfold DataW.trodStep at h
  rw [ht] at h
  simp only at h
  split at h
  ·rename_i hl
   simp only [Option.map_eq_some_iff] at h
   obtain ⟨ys, hy, rfl⟩ := h
   simp only [DataW.weights, ht] at hw
   exact ⟨hl, m, weights_fields _ _ hy hw⟩
  ·simp at h
end
theorem cells3 : Try.prog.cellsOf 3 = 1 := by kernel_rfl
theorem cells4 : Try.prog.cellsOf 4 = 1 := by kernel_rfl
theorem cells22 : Try.prog.cellsOf 22 = 1 := by kernel_rfl
theorem cells24 : Try.prog.cellsOf 24 = 3 := by kernel_rfl
theorem cells25 : Try.prog.cellsOf 25 = 1 := by kernel_rfl
theorem cells26 : Try.prog.cellsOf 26 = 1 := by kernel_rfl
theorem cells27 : Try.prog.cellsOf 27 = 1 := by kernel_rfl
theorem cells28 : Try.prog.cellsOf 28 = 1 := by kernel_rfl
theorem cells30 : Try.prog.cellsOf 30 = 8 := by kernel_rfl
theorem cells51 : Try.prog.cellsOf 51 = 1 := by kernel_rfl
theorem cells72 : Try.prog.cellsOf 72 = 5 := by kernel_rfl
theorem cells77 : Try.prog.cellsOf 77 = 4 := by kernel_rfl
theorem bytes3 : Try.prog.bytesOf 3 = 8 := by kernel_rfl
theorem bytes22 : Try.prog.bytesOf 22 = 8 := by kernel_rfl
theorem bytes27 : Try.prog.bytesOf 27 = 24 := by kernel_rfl
theorem bytes51 : Try.prog.bytesOf 51 = 24 := by kernel_rfl
theorem bytes72 : Try.prog.bytesOf 72 = 56 := by kernel_rfl
theorem bytes77 : Try.prog.bytesOf 77 = 48 := by kernel_rfl
/-- A payload that came in. -/
def WfD (l : List Int) : Prop := l.length ≤ maxLen ∧ l.length * 8 ≤ 140737488351232 ∧ ∀ n ∈ l, (Lit.int .u64 n).wf = true
theorem opensD : Opens Try.prog (Kd.slice 22 (Kd.int .u64)) 51 WfD := opens_slice (0 : Int) Try.underlying51 (opens_int Try.underlying22) cells22 bytes22
/-- Payloads that came in. -/
def WfT (l : List (List Int)) : Prop := l.length ≤ maxLen ∧ l.length * 24 ≤ 140737488351232 ∧ ∀ d ∈ l, WfD d
theorem opensT : Opens Try.prog (Kd.slice 51 kD) 27 WfT := opens_slice ([] : List Int) Try.underlying27 opensD cells51 bytes51
def WfP (l : List (List (List Int))) : Prop := l.length ≤ maxLen ∧ l.length * 24 ≤ 140737488351232 ∧ ∀ d ∈ l, WfT d
theorem opensP : Opens Try.prog (Kd.slice 27 (Kd.slice 51 kD)) 40 WfP := opens_slice ([] : List (List Int)) Try.underlying40 opensT cells27 bytes27
def WfI (l : List Int) : Prop := l.length ≤ maxLen ∧ l.length * 8 ≤ 140737488351232 ∧ ∀ n ∈ l, (Lit.int .i64 n).wf = true
theorem opensI : Opens Try.prog (Kd.slice 3 (Kd.int .i64)) 25 WfI := opens_slice (0 : Int) Try.underlying25 (opens_int Try.underlying3) cells3 bytes3
def Wf24 (x : S24) : Prop := (Lit.int .u64 x.f0).wf = true ∧ (Lit.int .i64 x.f1).wf = true ∧ (Lit.int .i64 x.f2).wf = true
set_option maxRecDepth 100000 in
theorem opens24 : Opens Try.prog k24 24 Wf24 := fun H enc w base held fuel cs x h hw => by
 obtain ⟨hl, m, hf⟩ := trod_fields Try.underlying24 h hw
 rw [cells24] at hl
 match cs, hl with
 | [c0, c1, c2], _ =>
  simp only [List.mem_cons, List.not_mem_nil, or_false, forall_eq_or_imp, forall_eq, cells3, cells22, List.drop_zero, List.drop_succ_cons, List.take_succ_cons, List.take_zero] at hf
  obtain ⟨⟨_, h0, _⟩, ⟨_, h1, _⟩, ⟨_, h2, _⟩⟩ := hf
  obtain ⟨a, ha, _, wa⟩ := DataW.trod_int Try.underlying22 h0
  obtain ⟨b, hb, _, wb⟩ := DataW.trod_int Try.underlying3 h1
  obtain ⟨c, hc, _, wc⟩ := DataW.trod_int Try.underlying3 h2
  cases ha
  cases hb
  cases hc
  exact ⟨⟨a, b, c⟩, k24_mk w _, wa, wb, wc⟩
def Wf72 (x : S72) : Prop := (Lit.int .i64 x.f0).wf = true ∧ (Lit.int .i64 x.f1).wf = true ∧ (Lit.int .i64 x.f2).wf = true ∧ WfD x.f4
set_option maxRecDepth 100000 in
theorem opens72 : Opens Try.prog k72 72 Wf72 := fun H enc w base held fuel cs x h hw => by
 obtain ⟨hl, m, hf⟩ := trod_fields Try.underlying72 h hw
 rw [cells72] at hl
 match cs, hl with
 | [c0, c1, c2, c3, c4], _ =>
  simp only [List.mem_cons, List.not_mem_nil, or_false, forall_eq_or_imp, forall_eq, cells3, cells4, cells51, List.drop_zero, List.drop_succ_cons, List.take_succ_cons, List.take_zero] at hf
  obtain ⟨⟨_, h0, _⟩, ⟨_, h1, _⟩, ⟨_, h2, _⟩, ⟨_, h3, w3⟩, ⟨_, h4, w4⟩⟩ := hf
  obtain ⟨a, ha, _, wa⟩ := DataW.trod_int Try.underlying3 h0
  obtain ⟨b, hb, _, wb⟩ := DataW.trod_int Try.underlying3 h1
  obtain ⟨c, hc, _, wc⟩ := DataW.trod_int Try.underlying3 h2
  obtain ⟨d, hd, _⟩ := opens_bool Try.underlying4 H enc w base held m _ _ h3 w3
  obtain ⟨l, ⟨A, q, he, g1, g2⟩, wl⟩ := opensD H enc w base held m _ _ h4 w4
  cases ha
  cases hb
  cases hc
  cases hd
  cases he
  exact ⟨⟨a, b, c, d, l⟩, k72_mk w ⟨a, b, c, d, l⟩ g1 g2, wa, wb, wc, wl⟩
def Wf77 (x : S77) : Prop := (Lit.int .i64 x.f0).wf = true ∧ (Lit.int .i64 x.f1).wf = true ∧ (Lit.int .i64 x.f2).wf = true ∧ WfD x.f3
set_option maxRecDepth 100000 in
theorem opens77 : Opens Try.prog k77 77 Wf77 := fun H enc w base held fuel cs x h hw => by
 obtain ⟨hl, m, hf⟩ := trod_fields Try.underlying77 h hw
 rw [cells77] at hl
 match cs, hl with
 | [c0, c1, c2, c4], _ =>
  simp only [List.mem_cons, List.not_mem_nil, or_false, forall_eq_or_imp, forall_eq, cells3, cells51, List.drop_zero, List.drop_succ_cons, List.take_succ_cons, List.take_zero] at hf
  obtain ⟨⟨_, h0, _⟩, ⟨_, h1, _⟩, ⟨_, h2, _⟩, ⟨_, h4, w4⟩⟩ := hf
  obtain ⟨a, ha, _, wa⟩ := DataW.trod_int Try.underlying3 h0
  obtain ⟨b, hb, _, wb⟩ := DataW.trod_int Try.underlying3 h1
  obtain ⟨c, hc, _, wc⟩ := DataW.trod_int Try.underlying3 h2
  obtain ⟨l, ⟨A, q, he, g1, g2⟩, wl⟩ := opensD H enc w base held m _ _ h4 w4
  cases ha
  cases hb
  cases hc
  cases he
  exact ⟨⟨a, b, c, l⟩, k77_mk w ⟨a, b, c, l⟩ g1 g2, wa, wb, wc, wl⟩
def WfA (l : List S72) : Prop := l.length ≤ maxLen ∧ l.length * 56 ≤ 140737488351232 ∧ ∀ d ∈ l, Wf72 d
theorem opensA : Opens Try.prog (Kd.slice 72 k72) 26 WfA := opens_slice z72 Try.underlying26 opens72 cells72 bytes72
def WfS (l : List S77) : Prop := l.length ≤ maxLen ∧ l.length * 48 ≤ 140737488351232 ∧ ∀ d ∈ l, Wf77 d
theorem opensS : Opens Try.prog (Kd.slice 77 k77) 28 WfS := opens_slice z77 Try.underlying28 opens77 cells77 bytes77
structure Wf30 (x : S30) : Prop where
 s : Wf24 x.f0
 co : WfI x.f1
 ac : WfA x.f2
 ta : WfT x.f3
 r : (Lit.int .i64 x.f4).wf = true
 se : WfS x.f5
set_option maxRecDepth 100000 in
theorem opens30 : Opens Try.prog k30 30 Wf30 := fun H enc w base held fuel cs x h hw => by
 obtain ⟨hl, m, hf⟩ := trod_fields Try.underlying30 h hw
 rw [cells30] at hl
 match cs, hl with
 | [c0, c1, c2, c3, c4, c5, c6, c7], _ =>
  simp only [List.mem_cons, List.not_mem_nil, or_false, forall_eq_or_imp, forall_eq, cells24, cells25, cells26, cells27, cells28, cells3, List.drop_zero, List.drop_succ_cons, List.take_succ_cons, List.take_zero] at hf
  obtain ⟨⟨_, h0, w0⟩, ⟨_, h1, w1⟩, ⟨_, h2, w2⟩, ⟨_, h3, w3⟩, ⟨_, h4, w4⟩, ⟨_, h5, w5⟩⟩ := hf
  obtain ⟨s, hs, ws⟩ := opens24 H enc w base held m _ _ h0 w0
  obtain ⟨co, ⟨A3, q3, e3, g3, k3⟩, wco⟩ := opensI H enc w base held m _ _ h1 w1
  obtain ⟨ac, ⟨A4, q4, e4, g4, k4⟩, wac⟩ := opensA H enc w base held m _ _ h2 w2
  obtain ⟨ta, ⟨A5, q5, e5, g5, k5⟩, wta⟩ := opensT H enc w base held m _ _ h3 w3
  obtain ⟨r, hr, _, wr⟩ := DataW.trod_int Try.underlying3 h4
  obtain ⟨se, ⟨A7, q7, e7, g7, k7⟩, wse⟩ := opensS H enc w base held m _ _ h5 w5
  have hs2 := k24_open hs
  cases hs2
  cases e3
  cases e4
  cases e5
  cases hr
  cases e7
  exact ⟨⟨s, co, ac, ta, r, se⟩, k30_mk w ⟨s, co, ac, ta, r, se⟩ g3 k3 g4 k4 g5 k5 g7 k7, ws, wco, wac, wta, wr, wse⟩
/-- An argument that came in. -/
theorem opens_arg {α : Type} {d : Kd α} {t : TypeId} {Wf : α → Prop} (ho : Opens Try.prog d t Wf) {H : Type} {enc : TypeId × Value → H} {w : World} {base : Nat} {held : Bool} {v : Value} {x : DataW H} {p : List MemPlace} {ts : List TypeId} {ds : List (DataW H)} {j : Nat}
  (hsz : (DataW.weightsEach Try.prog ts ds).all (· ≤ reachBytes) = true) (ht : ts[j]? = some t) (hd : ds[j]? = some x) (h : DataW.Trod enc Try.prog w base (fun _ => true) held t v x p) : ∃ y, d.K w y v.cells.toList ∧ Wf y := by
 obtain ⟨fuel, hf⟩ := h
 exact ho H enc w base held fuel _ _ hf (weights_each ts ds j t x hsz ht hd)
end Go.Proofs.Ytkaikgbcnmfppaa.Nb
