/- SorterRight: the plain law. -/
import Derived.Test.YtmgjohlaoflebaaSbTie6
import Derived.Test.YtmgjohlaoflebaaSbLSorterRight
namespace Go.Proofs.Ytmgjohlaoflebaa.Sb
open Go.RowKit Go.Proofs.YtmgjohlaoflebaaW.PrintWords Go.Proofs.YtmgjohlaoflebaaW.PrintMore Go.Proofs.Ytmgjohlaoflebaa.Arith
set_option linter.unusedVariables false
set_option linter.unusedSectionVars false
theorem rd61_eq {l : List S61} {i : Nat} (h : i < l.length) : rd_T61 l (i : Int) = l[i] := by
  show l.getD i z61 = _
  rw [List.getD_eq_getElem?_getD, List.getElem?_eq_getElem h]; rfl
open Classical in
theorem swap_perm' {α : Type} (l : List α) (i j : Nat) (hij : i < j) (hj : j < l.length) : ((l.set i l[j]).set j (l[i]'(by omega))).Perm l := by
  rw [List.perm_iff_count]
  intro b
  rw [List.count_set (by simpa using hj), List.count_set (by omega), List.getElem_set_ne (by omega)]
  have c1 : (if (l[i]'(by omega) == b) = true then 1 else 0) ≤ List.count b l := List.boole_getElem_le_count (by omega)
  have c2 : (if (l[j] == b) = true then 1 else 0) ≤ List.count b l := List.boole_getElem_le_count hj
  by_cases e1 : (l[i]'(by omega) == b) = true <;> by_cases e2 : (l[j] == b) = true <;> simp only [e1, e2, if_true, if_false, Bool.false_eq_true] at c1 c2 ⊢ <;> omega
theorem stepI_perm {l : List S61} {q : S53} (h : Within l.length q) : (stepI l q).Perm l := by
  obtain ⟨i, j, hij, hj, e0, e1⟩ := within_nat h
  unfold stepI
  rw [e0, e1, rd61_eq (show i < l.length by omega), rd61_eq hj]
  split
  · exact swap_perm' l i j hij hj
  · exact .refl _
theorem foldI_perm : ∀ (net : List S53) (l : List S61), (∀ q ∈ net, Within l.length q) → (net.foldl stepI l).Perm l
  | [], _, _ => .refl _
  | q :: net, l, h => by
    rw [List.foldl_cons]
    refine (foldI_perm net (stepI l q) (fun q' h' => ?_)).trans (stepI_perm (h q (List.mem_cons_self ..)))
    rw [stepI_length]
    exact h q' (List.mem_cons_of_mem _ h')
theorem rdOf_eq {l : List Bool} {i : Int} : rdOf false l i = l.getD i.toNat false := rfl
theorem right_l0 {l out moves : List Int} {n : Nat} (hl : l.length = n) (ho : out.length = n) (hm : moves.length = n) (hn : n ≤ 32)
    (hg : ∀ i (h : i < n), 0 ≤ rd moves (i : Int) ∧ rd moves (i : Int) < n ∧ rd l (rd moves (i : Int)) = rd out (i : Int)) (hnd : ∀ i j, i < j → j < n → rd moves (i : Int) ≠ rd moves (j : Int)) :
    ∀ (d i : Nat) (met : List Bool), n - i = d → i ≤ n → met.length = n → (∀ j, i ≤ j → j < n → rdOf false met (rd moves (j : Int)) = false) →
      Ev (fun k => juntolaw14_SorterRight.l0 k l out met moves (moves.length : Int) (i : Int)) true := by
  intro d
  induction d with
  | zero =>
    intro i met hd hi hme hf
    obtain rfl : i = n := by omega
    refine Ev.step (fun k => by simp only [juntolaw14_SorterRight.l0]; rfl) ?_
    exact Ev.neg (by omega) (alive_ev.bind (Ev.now _))
  | succ d ih =>
    intro i met hd hi hme hf
    have hlt : i < n := by omega
    have w : wrap64 ((i : Int) + 1) = ((i + 1 : Nat) : Int) := by rw [w64_in (by omega) (by omega)]; rfl
    obtain ⟨g0, g1, g2⟩ := hg i hlt
    have key := ih (i + 1) (met.set (rd moves (i : Int)).toNat true) (by omega) (by omega) (by rw [List.length_set, hme]) (fun j h1 h2 => by
      have h3 := hf j (by omega) h2
      have h4 := hnd i j (by omega) h2
      obtain ⟨k0, _, _⟩ := hg j h2
      rw [rdOf_eq] at h3 ⊢
      rw [List.getD_eq_getElem?_getD, List.getElem?_set_ne (by omega), ← List.getD_eq_getElem?_getD]
      exact h3)
    refine Ev.step (fun k => by simp only [juntolaw14_SorterRight.l0]; rfl) ?_
    rw [w]
    refine Ev.pos (by omega) (Ev.pos (by omega) (Ev.pos (by omega) (Ev.neg (by omega) (Ev.neg (by omega) (Ev.pos g0 (Ev.pos (by omega) (Ev.neg ?_ (Ev.pos (by omega) (Ev.pos (by omega) (Ev.pos g2 key))))))))))
    rw [hf i (Nat.le_refl _) hlt]; simp
theorem Pure_SorterRight (l : List Int) (y : l.length * 8 ≤ 140737488351232) (_ : ∀ n ∈ l, (Lit.int .u64 n).wf = true) :
    ∃ k, juntolaw14_SorterRight.f k l = some true := by
  refine Ev.rounds (g := fun k => juntolaw14_SorterRight.f k l) ?_
  unfold juntolaw14_SorterRight.f
  by_cases hn : l.length ≤ 32
  · have hc := net_check ⟨l.length, by omega⟩
    have hw := (check_zero hc).2.2.2
    have hc' : checkW (l.length : Int) (netL l.length) = 0 := hc
    have hperm : ((netL l.length).foldl stepI (items l)).Perm (items l) := foldI_perm _ _ (by rw [show (items l).length = l.length by simp [items]]; exact hw)
    obtain ⟨M, hM⟩ : ∃ M, M = (netL l.length).foldl stepI (items l) := ⟨_, rfl⟩
    have hMl : M.length = l.length := by rw [hM, foldI_length]; simp [items]
    have hv : (netL l.length).foldl stepV l = M.map (·.f0) := by
      have h1 := fold_same (netL l.length) (items l)
      rw [items0, items1] at h1
      rw [← foldR_fst _ (l, iota l.length), h1, hM]
    have hmv := Moves_ok hc'
    rw [← hM] at hmv hperm
    have hrun := Run_okV hc'
    have hs := Sorted_ev l _ (by omega) (Run_sorts hn) (foldV_perm _ l hw)
    rw [hv] at hrun hs
    refine (net_ev hn).bind (Ev.pos rfl (hrun.bind (hmv.bind (Ev.pos rfl (Ev.pos rfl (hs.bind ((Same_ev _ (by rw [List.length_map, hMl]; omega)).bind (Ev.pos rfl ?_))))))))
    refine Ev.step (fun k => by simp only [juntolaw14_SorterRight.j0]; rfl) ?_
    refine Ev.neg (by simp [hMl]) (Ev.pos (by omega) (Ev.pos (by omega) ?_))
    have hmem : ∀ i (h : i < l.length), ∃ k : Nat, k < l.length ∧ (M[i]'(by omega)).f1 = (k : Int) ∧ (M[i]'(by omega)).f0 = rd l (k : Int) := by
      intro i h
      have := hperm.mem_iff.1 (List.getElem_mem (show i < M.length by omega))
      unfold items at this
      obtain ⟨k, hk, e⟩ := List.mem_map.1 this
      refine ⟨k, List.mem_range.1 hk, ?_, ?_⟩ <;> rw [← e]
    have hr1 : ∀ i (h : i < l.length), rd (M.map (·.f1)) (i : Int) = (M[i]'(by omega)).f1 := fun i h => by rw [rd_eq (by simp; omega)]; simp
    have hr0 : ∀ i (h : i < l.length), rd (M.map (·.f0)) (i : Int) = (M[i]'(by omega)).f0 := fun i h => by rw [rd_eq (by simp; omega)]; simp
    have hnd : (M.map (·.f1)).Nodup := by
      have h1 := hperm.map (·.f1)
      rw [items1] at h1
      refine h1.nodup_iff.2 ?_
      unfold iota
      refine List.pairwise_map.2 (List.nodup_range.imp fun h => ?_)
      omega
    refine right_l0 (n := l.length) rfl (by simp; omega) (by simp; omega) hn (fun i h => ?_) (fun i j hij hj => ?_) l.length 0 _ rfl (Nat.zero_le _) (by simp) (fun j _ _ => ?_)
    · obtain ⟨k, h1, h2, h3⟩ := hmem i h
      rw [hr1 i h, hr0 i h, h2]
      exact ⟨Int.natCast_nonneg k, Int.ofNat_lt.2 h1, h3.symm⟩
    · rw [hr1 i (by omega), hr1 j hj]
      have := List.pairwise_iff_getElem.1 hnd i j (by simp; omega) (by simp; omega) hij
      simpa using this
    · rw [rdOf_eq, List.getD_eq_getElem?_getD, List.getElem?_replicate]
      split <;> rfl
  · exact (net_bad hn).bind (Ev.neg (by decide) (Ev.pos (by omega) (alive_ev.bind (Ev.now _))))
end Go.Proofs.Ytmgjohlaoflebaa.Sb
