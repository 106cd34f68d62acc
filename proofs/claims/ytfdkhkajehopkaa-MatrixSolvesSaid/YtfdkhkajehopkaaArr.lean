/- An array of whole numbers as a law's argument: what it reads as. -/
import Derived.ChangeSame
import Derived.WideKeyArr2
namespace Go.Proofs.Ytfdkhkajehopkaa.Arrs
open Go Go.ChangeShapes Go.WideShapes

section
variable {H : Type} {enc : TypeId × Value → H} {P : Program} {k e : TypeId} {n : Nat} {q : IntKind} {W : World} {base : Nat} {sp : Nat → Bool} {held : Bool}

theorem mapM_all {α β : Type} {f : α → Option β} : ∀ (L : List α) (ys : List β), L.mapM f = some ys → (∀ i ∈ L, ∃ y ∈ ys, f i = some y) ∧ ∀ y ∈ ys, ∃ i ∈ L, f i = some y
  | [], ys, h => by
    simp at h
    subst h
    simp
  | a :: L, ys, h => by
    rw [List.mapM_cons] at h
    simp only [bind, Option.bind_eq_some_iff, pure, Option.some.injEq] at h
    obtain ⟨y, hy, zs, hzs, rfl⟩ := h
    obtain ⟨h1, h2⟩ := mapM_all L zs hzs
    refine ⟨?_, ?_⟩
    · intro i hi
      rcases List.mem_cons.1 hi with rfl | hi
      · exact ⟨y, by simp, hy⟩
      · obtain ⟨z, hz, hf⟩ := h1 i hi
        exact ⟨z, by simp [hz], hf⟩
    · intro z hz
      rcases List.mem_cons.1 hz with rfl | hz
      · exact ⟨a, by simp, hy⟩
      · obtain ⟨i, hi, hf⟩ := h2 z hz
        exact ⟨i, by simp [hi], hf⟩

def numOf : Value → Int
  | .int _ z => z
  | _ => 0

theorem open_ints_arr (hu : P.underlying k = some (.array n e)) (he : P.underlying e = some (.int q)) (hc : P.cellsOf e = 1) (hk : P.cellsOf k = n) {r : Reach} {b0 : Nat} {v : Value} {d : DataW H} {ps : List MemPlace}
    (hv : Value.okWide P W r b0 k v) (hd : DataW.Trod enc P W base sp held k v d ps) : ∃ zs : List Int, zs.length = n ∧ v = .agg (zs.map (Value.int q)).toArray ∧ ps = [] ∧ ∀ z ∈ zs, (Lit.int q z).wf = true := by
  simp only [Value.okWide, hu] at hv
  obtain ⟨cs, rfl, hsz, _⟩ := hv
  rw [hk] at hsz
  obtain ⟨fuel, hf⟩ := hd
  cases fuel with
  | zero => simp [DataW.trod] at hf
  | succ m =>
    rw [DataW.trod_step] at hf
    unfold DataW.trodStep at hf
    simp only [hu, Value.cells] at hf
    rw [if_pos (by rw [hk]; simpa using hsz), hc] at hf
    simp only [Option.map_eq_some_iff] at hf
    obtain ⟨ys, hy, e1⟩ := hf
    obtain ⟨h1, h2⟩ := mapM_all _ _ hy
    simp only [Prod.mk.injEq] at e1
    have cell : ∀ i, i < n → ∃ z, (cs.toList.drop (i * 1)).take 1 = [.int q z] ∧ (Lit.int q z).wf = true := by
      intro i hi
      obtain ⟨y, _, hf⟩ := h1 i (List.mem_range.2 hi)
      obtain ⟨z, hz, rfl, wz⟩ := DataW.trod_int he hf
      exact ⟨z, hz, wz⟩
    have cell' : ∀ i, (hi : i < cs.toList.length) → ∃ z, cs.toList[i] = .int q z ∧ (Lit.int q z).wf = true := by
      intro i hi
      obtain ⟨z, hz, wz⟩ := cell i (by simpa [hsz] using hi)
      rw [Nat.mul_one, List.drop_eq_getElem_cons hi] at hz
      simp only [List.take_succ_cons, List.take_zero, List.cons.injEq, and_true] at hz
      exact ⟨z, hz, wz⟩
    refine ⟨cs.toList.map numOf, by simpa using hsz, ?_, ?_, ?_⟩
    · congr 1
      apply Array.toList_inj.1
      refine List.ext_getElem (by simp) fun i hi hi2 => ?_
      obtain ⟨z, hz, _⟩ := cell' i hi
      simp only [List.getElem_map, hz, numOf]
    · rw [← e1.2, List.flatMap_eq_nil_iff]
      intro y hy2
      obtain ⟨i, _, hf⟩ := h2 y hy2
      obtain ⟨z, _, rfl, _⟩ := DataW.trod_int he hf
      rfl
    · intro z hz
      obtain ⟨v, hv, rfl⟩ := List.mem_map.1 hz
      obtain ⟨i, hi, rfl⟩ := List.getElem_of_mem hv
      obtain ⟨z, hz, wz⟩ := cell' i hi
      rw [hz]
      exact wz

theorem list2 {α : Type} {l : List α} (h : l.length = 2) : ∃ a b, l = [a, b] := by
  match l, h with
  | [a, b], _ => exact ⟨a, b, rfl⟩
theorem list3 {α : Type} {l : List α} (h : l.length = 3) : ∃ a b c, l = [a, b, c] := by
  match l, h with
  | [a, b, c], _ => exact ⟨a, b, c, rfl⟩
end
end Go.Proofs.Ytfdkhkajehopkaa.Arrs
