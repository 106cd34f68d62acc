/- A slice of pairs of whole numbers as a law's argument: what it reads as. -/
import Derived.Test.YtmgjohlaoflebaaSb0
import Derived.Test.YtmgjohlaoflebaaArr
import Derived.ChangeArms
import Derived.ChangeReads
namespace Go.Proofs.Ytmgjohlaoflebaa.Sb
open Go Go.ChangeShapes Go.WideShapes Go.Proofs.YtmgjohlaoflebaaW.PrintWords
section
variable {H : Type} {enc : TypeId × Value → H} {P : Program} {t e f : TypeId} {w : World} {base : Nat} {sp : Nat → Bool} {held : Bool} {fuel : Nat}

def num? : Option Value → Int
  | some (.int _ z) => z
  | _ => 0

theorem open_pair (he : P.underlying e = some (.array 2 f)) (hf : P.underlying f = some (.int .i64)) (h1 : P.cellsOf f = 1) {cs : List Value} {y : DataW H × List MemPlace} (hl : cs.length = 2)
    (h : DataW.trod enc P w base sp held fuel e cs = some y) : ∃ u v, cs = [.int .i64 u, .int .i64 v] ∧ (Lit.int .i64 u).wf = true ∧ (Lit.int .i64 v).wf = true := by
  cases fuel with
  | zero => simp [DataW.trod] at h
  | succ m =>
    rw [DataW.trod_step] at h
    unfold DataW.trodStep at h
    match cs, hl with
    | [c, d], _ =>
      simp only [he] at h
      split at h
      · simp only [Option.map_eq_some_iff] at h
        obtain ⟨ys, hy, _⟩ := h
        obtain ⟨hh, _⟩ := Go.Proofs.Ytmgjohlaoflebaa.Arrs.mapM_all _ _ hy
        obtain ⟨_, _, g0⟩ := hh 0 (by simp)
        obtain ⟨_, _, g1⟩ := hh 1 (by simp)
        rw [h1] at g0 g1
        obtain ⟨u, eu, _, wu⟩ := DataW.trod_int hf g0
        obtain ⟨v, ev, _, wv⟩ := DataW.trod_int hf g1
        simp at eu ev
        exact ⟨u, v, by rw [eu, ev], wu, wv⟩
      · simp at h

theorem open_pairs (ht : P.underlying t = some (.slice e)) (he : P.underlying e = some (.array 2 f)) (hf : P.underlying f = some (.int .i64)) (h1 : P.cellsOf f = 1) (h2 : P.cellsOf e = 2) {cs : List Value} {x : DataW H × List MemPlace}
    (h : DataW.trod enc P w base sp held fuel t cs = some x) :
    ∃ A len cap, cs = [.slice A len cap] ∧ len ≤ cap ∧ cap ≤ maxLen ∧ ∃ l : List S53, l.length = len ∧ k53.C w A len l ∧ ∀ p ∈ l, (Lit.int .i64 p.f0).wf = true ∧ (Lit.int .i64 p.f1).wf = true := by
  rcases DataW.trod_slice ht h with ⟨rfl, _⟩ | ⟨a, len, cap, elems, rest, n, _, rfl, _, hb, hl, hm, hlen, hel, _, _⟩
  · exact ⟨none, 0, 0, rfl, Nat.le_refl _, by decide, [], rfl, ⟨rfl, by decide, fun h => absurd h (by decide)⟩, fun _ h => by cases h⟩
  · let p : Nat → S53 := fun i => ⟨num? (w.cell? (a.add (i * 2))), num? (w.cell? (a.add (i * 2 + 1)))⟩
    have each : ∀ i, i < len → w.cell? (a.add (i * 2)) = some (.int .i64 (p i).f0) ∧ w.cell? (a.add (i * 2 + 1)) = some (.int .i64 (p i).f1) ∧ (Lit.int .i64 (p i).f0).wf = true ∧ (Lit.int .i64 (p i).f1).wf = true := by
      intro i hi
      have hi' : i < elems.length := by omega
      have := hel i hi
      rw [List.getElem?_eq_getElem hi', h2, Option.bind_eq_some_iff] at this
      obtain ⟨cs', hcs, hy⟩ := this
      obtain ⟨_, hl2, hc⟩ := World.cells?_some hcs
      obtain ⟨u, v, rfl, wu, wv⟩ := open_pair he hf h1 hl2 hy
      have c0 : w.cell? (a.add (i * 2)) = some (.int .i64 u) := hc 0 (by omega)
      have c1 : w.cell? (a.add (i * 2 + 1)) = some (.int .i64 v) := by
        have := hc 1 (by omega)
        rwa [show (a.add (i * 2)).add 1 = a.add (i * 2 + 1) by exact Addr.add_add _ _ _] at this
      have p0 : (p i).f0 = u := by show num? _ = u; rw [c0]; rfl
      have p1 : (p i).f1 = v := by show num? _ = v; rw [c1]; rfl
      rw [p0, p1]
      exact ⟨c0, c1, wu, wv⟩
    refine ⟨some a, len, cap, rfl, hl, hm, (List.range len).map p, by simp, ⟨by simp, by simpa [maxLen] using Nat.le_trans hl hm, fun _ => ⟨a, rfl, ?_⟩⟩, ?_⟩
    · intro j q hj
      rw [List.getElem?_map, Option.map_eq_some_iff] at hj
      obtain ⟨j', hj', rfl⟩ := hj
      obtain ⟨hjl, hj2⟩ := List.getElem?_eq_some_iff.1 hj'
      simp only [List.length_range] at hjl
      simp only [List.getElem_range] at hj2
      subst hj2
      obtain ⟨c0, c1, _, _⟩ := each _ hjl
      refine ⟨_, rfl, k53_mk w _, fun i u hu => ?_⟩
      match i, hu with
      | 0, hu => simp at hu; subst hu; exact c0
      | 1, hu => simp at hu; subst hu; exact c1
    · intro q hq
      obtain ⟨i, hi, rfl⟩ := List.mem_map.1 hq
      exact (each i (List.mem_range.1 hi)).2.2
end
end Go.Proofs.Ytmgjohlaoflebaa.Sb
