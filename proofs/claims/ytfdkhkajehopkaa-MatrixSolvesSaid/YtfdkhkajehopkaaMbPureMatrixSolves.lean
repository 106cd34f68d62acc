/- MatrixSolves, in plain lists. -/
import Derived.Test.YtfdkhkajehopkaaMbTieS
import Derived.Test.YtfdkhkajehopkaaMbTieL
import Derived.Test.YtfdkhkajehopkaaMbLMatrixSolves
namespace Go.Proofs.Ytfdkhkajehopkaa.Mb
open Go.RowKit Go.Proofs.YtfdkhkajehopkaaW.PrintWords Go.Proofs.Ytfdkhkajehopkaa.Num Go.Proofs.Ytfdkhkajehopkaa.Arith
theorem solve_l1 {n : Nat} (hn : n ≤ 4096) (lead : List Nat) (hlead : ∀ x ∈ lead, x < n) (rows : List (List Nat)) (hr : rows.length ≤ 4096) (hw : ∀ r ∈ rows, r.length = n + 1) (res : List Int × Bool) : ∀ (d i : Nat) (x : List Int), rows.length - i = d → x.length = n → ansL n (Arith.cast lead) ((cM rows).drop i) i x = some res →
    Ev (fun k => juntoref03_Solve.l1 k (n : Int) (Arith.cast lead) x (cM rows) (rows.length : Int) (i : Int)) res := by
  intro d
  induction d with
  | zero =>
    intro i x hd hx h
    rw [List.drop_eq_nil_of_le (by rw [cM_len]; omega), ansL] at h
    refine Ev.step (fun k => juntoref03_Solve.l1.eq_2 _ _ _ _ _ _ k) (Ev.neg (by omega) ?_)
    exact ⟨0, fun _ _ => h⟩
  | succ d ih =>
    intro i x hd hx h
    have hi : i < rows.length := by omega
    have hwi := hw _ (List.getElem_mem hi)
    have e1 : (cM rows).drop i = Arith.cast rows[i] :: (cM rows).drop (i + 1) := by
      rw [List.drop_eq_getElem_cons (by rw [cM_len]; exact hi)]; simp [cM]
    rw [e1, ansL, cast_len] at h
    refine Ev.step (fun k => juntoref03_Solve.l1.eq_2 _ _ _ _ _ _ k) (Ev.pos (by omega) (Ev.pos (by omega) (Ev.pos (by rw [cM_len]; omega) ?_)))
    rw [cM_row, gdN hi, cast_len, cast_len]
    have hrd : rd (Arith.cast rows[i]) (n : Int) = (Arith.cast rows[i]).getD n 0 := rfl
    rw [hrd]
    by_cases hl : i < lead.length
    · rw [if_pos hl] at h
      have hll : lead[i] < n := hlead _ (List.getElem_mem hl)
      have hg : (Arith.cast lead).getD i 0 = ((lead[i] : Nat) : Int) := cast_rd lead i hl
      rw [hg, Int.toNat_natCast] at h
      refine Ev.pos (by omega) (Ev.pos (by omega) (Ev.pos (by omega) ?_))
      rw [cast_rd lead i hl]
      refine Ev.pos (by omega) (Ev.pos (by omega) ?_)
      rw [Int.toNat_natCast, w64_in (by omega) (by omega)]
      exact ih (i + 1) _ (by omega) (by rw [List.length_set]; exact hx) h
    · rw [if_neg hl] at h
      refine Ev.neg (by omega) (Ev.pos (by omega) (Ev.pos (by omega) ?_))
      by_cases hz : (Arith.cast rows[i]).getD n 0 = 0
      · rw [if_pos hz] at h
        refine Ev.pos hz ?_
        rw [w64_in (by omega) (by omega)]
        exact ih (i + 1) x (by omega) hx h
      · rw [if_neg hz] at h
        exact Ev.neg hz ⟨0, fun _ _ => h⟩
theorem refSolve_ev {p n : Nat} {m : List (List Nat)} (G : Good p m n) {v : List Nat} (hv : v.length = m.length) (hvs : ∀ x ∈ v, x < p) {res : List Int × Bool} (hs : solN p n m v = some res) : Ev (fun k => juntoref03_Solve.f k (p : Int) (cM m) (Arith.cast v)) res := by
  have hM := besideN_mat G.mat (colN_mat hvs)
  have hR := redN_ok G.p0 n 0 _ 1 [] (start_ok hM (by have := G.prime.1; omega))
  have hbl : (besideN m (colN v)).length = m.length := besideN_length (by rw [colN_len, hv])
  have l0 : ∀ (d i : Nat), v.length - i = d → i ≤ v.length → Ev (fun k => juntoref03_Solve.l0 k (p : Int) (cM m) ((cM (colN v)).take i) (Arith.cast v) (v.length : Int) (i : Int)) res := by
    intro d
    induction d with
    | zero =>
      intro i hd hi
      refine Ev.step (fun k => juntoref03_Solve.l0.eq_2 _ _ _ _ _ _ k) (Ev.neg (by omega) (Ev.pos (by rw [cM_len]; have := G.one; omega) ?_))
      rw [List.take_of_length_le (by rw [cM_len, colN_len]; omega), cM_row0, cast_len, G.head]
      have := G.rows
      have := G.cols
      refine (beside_ev (m := m) (w := colN v) (by rw [colN_len, hv]) (by omega) (fun r hr => by rw [G.wide r hr]; omega) (fun r hr => by rw [(colN_mat hvs).wide r hr]; omega)).bind ?_
      refine (refReduce_ev G.prime hM (by rw [hbl]; exact G.one) (by rw [hbl]; omega) (by omega) n (by omega)).bind ?_
      refine Ev.pos (by omega) (Ev.pos (by omega) ?_)
      rw [Int.toNat_natCast, cM_len]
      exact solve_l1 (by omega) _ (fun x hx => by have := hR.cols x hx; omega) _ (by rw [hR.len, hbl]; omega) hR.mat.wide res _ 0 _ rfl (by simp) hs
    | succ d ih =>
      intro i hd hi
      have hil : i < v.length := by omega
      have := G.rows
      refine Ev.step (fun k => juntoref03_Solve.l0.eq_2 _ _ _ _ _ _ k) (Ev.pos (by omega) (Ev.pos (by omega) (Ev.pos (by rw [cast_len]; omega) (Ev.pos (by rw [List.length_take]; omega) ?_))))
      rw [w64_in (by omega) (by omega)]
      have e : (cM (colN v)).take i ++ [([rd (Arith.cast v) (i : Int)] : List Int)] = (cM (colN v)).take (i + 1) := by
        rw [List.take_succ_eq_append_getElem (by rw [cM_len, colN_len]; exact hil), colN_ext v i (by rw [colN_len]; exact hil)]
        simp [cM]
      rw [e]
      exact ih (i + 1) (by omega) (by omega)
  unfold juntoref03_Solve.f
  rw [cast_len]
  have h := l0 v.length 0 (by omega) (by omega)
  rw [List.take_zero] at h
  exact h
theorem ansL_len (n : Nat) (lead : List Int) : ∀ (rows : List (List Int)) (i : Nat) (x : List Int) (res : List Int × Bool), ansL n lead rows i x = some res → res.1.length = x.length ∨ res = ([], false)
  | [], i, x, res, h => by rw [ansL] at h; cases h; exact .inl rfl
  | r :: rs, i, x, res, h => by
    rw [ansL] at h
    split at h
    · have := ansL_len n lead rs _ _ res h; simpa using this
    · split at h
      · exact ansL_len n lead rs _ _ res h
      · cases h; exact .inr rfl
theorem solves_j1_bad (p : Nat) (m : List (List Nat)) (v : List Nat) (e bad : Int) (h : bad ≠ 0) (he : e = bad) : Ev (fun k => juntolaw03_MatrixSolves.j1 k (p : Int) (cM m) (Arith.cast v) [] e bad) true :=
  Ev.step (fun k => juntolaw03_MatrixSolves.j1.eq_2 _ _ _ _ _ _ k) (Ev.neg h ((list_bad [] e bad h he).bind (Ev.pos rfl (alive_ev.bind (Ev.now _)))))
theorem Pure_MatrixSolves : ∀ (a0 : Int) (l1 : List (List Int)) (l2 : List Int), (Lit.int .u64 a0).wf = true → WfRows l1 → l2.length * 8 ≤ 140737488351232 → (∀ x ∈ l2, (Lit.int .u64 x).wf = true) → ∃ k, juntolaw03_MatrixSolves.f k a0 l1 l2 = some true := by
  intro a0 l1 l2 w0 w1 h2 w2
  obtain ⟨p, rfl, hp⟩ := nat_u64 w0
  obtain ⟨m, rfl⟩ := mats l1 w1
  obtain ⟨v, rfl, hv⟩ := nats l2 w2
  have hvl : v.length < 9223372036854775807 := by simp at h2; omega
  refine Ev.rounds (g := fun k => juntolaw03_MatrixSolves.f k (p : Int) (cM m) (Arith.cast v)) ?_
  unfold juntolaw03_MatrixSolves.f
  obtain ⟨res, hs⟩ : ∃ res, solN p (row0 m).length m v = some res := ansL_some _ _ _ _ _
  refine (matrix_Solve_ev p m v hvl hs).bind ((ref_Check1_ev p m).bind ?_)
  by_cases hc : chkM p m = 0
  · have G := chkM_zero hc
    rw [if_pos hc]
    refine Ev.pos hc ?_
    rw [cM_len, cast_len, hc]
    by_cases h1 : v.length = m.length
    · rw [if_pos h1]
      refine Ev.pos (by omega) ((within_ev p v hvl).bind ?_)
      by_cases h3 : below p v = 0
      · rw [if_pos h3, h3]
        refine Ev.step (fun k => juntolaw03_MatrixSolves.j0.eq_2 _ _ _ _ _ _ _ k) (Ev.neg (by decide) ?_)
        refine Ev.step (fun k => juntolaw03_MatrixSolves.j1.eq_2 _ _ _ _ _ _ k) (Ev.pos rfl ?_)
        refine (refSolve_ev G h1 (below_zero.1 h3) hs).bind ?_
        by_cases h4 : res.2 = true
        · rw [if_pos h4]
          refine Ev.pos h4 ((list_ok _ _ rfl ?_).bind (Ev.now _))
          have := G.cols
          rcases ansL_len _ _ _ _ _ _ hs with h | h
          · rw [h, List.length_replicate]; omega
          · rw [h] at h4; cases h4
        · rw [if_neg h4]
          exact Ev.neg h4 ((list_bad [] 5 5 (by decide) rfl).bind (Ev.pos rfl (alive_ev.bind (Ev.now _))))
      · rw [if_neg h3]
        refine Ev.step (fun k => juntolaw03_MatrixSolves.j0.eq_2 _ _ _ _ _ _ _ k) (Ev.pos (by simpa using h3) ?_)
        exact solves_j1_bad p m v 2 2 (by decide) rfl
    · rw [if_neg h1]
      refine Ev.neg (by omega) ?_
      refine Ev.step (fun k => juntolaw03_MatrixSolves.j0.eq_2 _ _ _ _ _ _ _ k) (Ev.pos rfl ?_)
      exact solves_j1_bad p m v 2 2 (by decide) rfl
  · rw [if_neg hc]
    refine Ev.neg hc (Ev.step (fun k => juntolaw03_MatrixSolves.j0.eq_2 _ _ _ _ _ _ _ k) (Ev.neg (by decide) ?_))
    exact solves_j1_bad p m v _ _ hc rfl
end Go.Proofs.Ytfdkhkajehopkaa.Mb
