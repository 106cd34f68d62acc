/- A slice of slices of whole numbers as a law's argument: what it reads as. -/
import Derived.Test.YtfdkhkajehopkaaMbG1
import Derived.Deep.Matrix
namespace Go.Proofs.Ytfdkhkajehopkaa.Mb
open Go Go.ChangeShapes Go.WideShapes Go.RowKit Go.Proofs.YtfdkhkajehopkaaW.PrintWords
section
variable {H : Type} {enc : TypeId × Value → H} {P : Program} {t e q : TypeId} {w : World} {base : Nat} {held : Bool} {fuel : Nat}
/-- What is known of a matrix that came in. -/
def WfRows (l : List (List Int)) : Prop := l.length ≤ maxLen ∧ ∀ r ∈ l, r.length ≤ maxLen ∧ ∀ n ∈ r, (Lit.int .u64 n).wf = true
theorem open_rows (ht : P.underlying t = some (.slice e)) (he : P.underlying e = some (.slice q)) (hq : P.underlying q = some (.int .u64)) (ce : P.cellsOf e = 1) (cq : P.cellsOf q = 1) {cs : List Value} {x : DataW H × List MemPlace}
    (h : DataW.trod enc P w base (fun _ => true) held fuel t cs = some x) :
    ∃ A len cap, cs = [.slice A len cap] ∧ len ≤ cap ∧ cap ≤ maxLen ∧ ∃ l : List (List Int), l.length = len ∧ Kd.C k2 w A len l ∧ ∀ r ∈ l, r.length ≤ maxLen ∧ ∀ n ∈ r, (Lit.int .u64 n).wf = true := by
  rcases Go.Deep.open_int_rows ht he hq ce cq h with ⟨rfl, _⟩ | ⟨a, len, cap, A, L, C, Z, rfl, _, hl, hm, _, hx⟩
  · exact ⟨none, 0, 0, rfl, Nat.le_refl _, Nat.zero_le _, [], rfl, ⟨rfl, Nat.zero_le _, fun h => absurd h (Nat.lt_irrefl 0)⟩, fun _ h => by cases h⟩
  · have hmx : maxLen ≤ 9223372036854775807 := by decide
    have each : ∀ r, r < len → ((Z r).take (L r)).length = L r ∧ Kd.C (Kd.int .u64) w (A r) (L r) ((Z r).take (L r)) := by
      intro r hr
      obtain ⟨h1, h2, h3, h4, h5, h6, h7⟩ := hx r (by omega)
      have hlen : ((Z r).take (L r)).length = L r := by rw [List.length_take]; omega
      refine ⟨hlen, Kd.C_of_reads (d := 0) ⟨hlen, by omega, fun hn => ?_⟩⟩
      cases hA : A r with
      | none => have := h6 hA; omega
      | some a' =>
        refine ⟨a', rfl, fun c hc => ?_⟩
        rw [(h7 a' hA).2 c (by omega)]
        rw [List.getD_eq_getElem?_getD, List.getD_eq_getElem?_getD, List.getElem?_take_of_lt hc]
    refine ⟨some a, len, cap, rfl, hl, hm, (List.range len).map fun r => (Z r).take (L r), by simp, ⟨by simp, by omega, fun _ => ⟨a, rfl, fun j p hj => ?_⟩⟩, fun r hr => ?_⟩
    · rw [List.getElem?_map, Option.map_eq_some_iff] at hj
      obtain ⟨j', hj', rfl⟩ := hj
      obtain ⟨hjl, hj2⟩ := List.getElem?_eq_some_iff.1 hj'
      simp only [List.length_range] at hjl
      simp only [List.getElem_range] at hj2
      subst hj2
      obtain ⟨h1, h2, _⟩ := hx j (by omega)
      obtain ⟨e1, e2⟩ := each j hjl
      refine ⟨[.slice (A j) (L j) (C j)], rfl, ⟨A j, C j, by rw [e1], by rw [e1]; exact h2, by rw [e1]; exact e2⟩, fun i u hu => ?_⟩
      match i, hu with
      | 0, hu =>
        simp at hu
        subst hu
        show w.cell? (a.add (j * 1 + 0)) = _
        rw [Nat.mul_one, Nat.add_zero]
        exact h1
    · obtain ⟨i, hi, rfl⟩ := List.mem_map.1 hr
      have hi' := List.mem_range.1 hi
      obtain ⟨h1, h2, h3, h4, h5, h6, h7⟩ := hx i (by omega)
      rw [(each i hi').1]
      exact ⟨by omega, fun n hn => h5 n (List.mem_of_mem_take hn)⟩
end
end Go.Proofs.Ytfdkhkajehopkaa.Mb
