/- MatrixPowers, in plain lists. -/
import Derived.Test.YtfdkhkajehopkaaMbTieV
import Derived.Test.YtfdkhkajehopkaaMbTieL
import Derived.Test.YtfdkhkajehopkaaMbLMatrixPowers
namespace Go.Proofs.Ytfdkhkajehopkaa.Mb
open Go.RowKit Go.Proofs.YtfdkhkajehopkaaW.PrintWords Go.Proofs.Ytfdkhkajehopkaa.Num Go.Proofs.Ytfdkhkajehopkaa.Arith
theorem powers_j1_bad (p : Nat) (xs : List Nat) (n e bad : Int) (h : bad ≠ 0) (he : e = bad) : Ev (fun k => juntolaw03_MatrixPowers.j1 k (p : Int) (Arith.cast xs) n [] e bad) true :=
  Ev.step (fun k => juntolaw03_MatrixPowers.j1.eq_2 _ _ _ _ _ _ k) (Ev.neg h ((is_bad [] e bad h he).bind (Ev.pos rfl (alive_ev.bind (Ev.now _)))))
theorem Pure_MatrixPowers : ∀ (a0 : Int) (l1 : List Int) (a2 : Int), (Lit.int .u64 a0).wf = true → l1.length * 8 ≤ 140737488351232 → (∀ x ∈ l1, (Lit.int .u64 x).wf = true) → (Lit.int .i64 a2).wf = true → ∃ k, juntolaw03_MatrixPowers.f k a0 l1 a2 = some true := by
  intro a0 l1 n w0 h1 w1 w2
  obtain ⟨p, rfl, hp⟩ := nat_u64 w0
  obtain ⟨xs, rfl, hx⟩ := nats l1 w1
  have hxl : xs.length < 9223372036854775807 := by simp at h1; omega
  refine Ev.rounds (g := fun k => juntolaw03_MatrixPowers.f k (p : Int) (Arith.cast xs) n) ?_
  unfold juntolaw03_MatrixPowers.f
  by_cases hP : isP p = true
  · have hP' := isP_iff.1 hP
    have bad : Ev (fun k => juntolaw03_MatrixPowers.j0 k (p : Int) (Arith.cast xs) n [] 3 0 true) true :=
      Ev.step (fun k => juntolaw03_MatrixPowers.j0.eq_2 _ _ _ _ _ _ _ k) (Ev.pos rfl (powers_j1_bad p xs n 3 3 (by decide) rfl))
    have go : ∀ R, powR p xs n = R → Ev (fun k => if (xs.length : Int) < 1 then juntolaw03_MatrixPowers.j0 k (p : Int) (Arith.cast xs) n R.1 R.2 0 true else (if (xs.length : Int) > 64 then juntolaw03_MatrixPowers.j0 k (p : Int) (Arith.cast xs) n R.1 R.2 0 true else (if n < 1 then juntolaw03_MatrixPowers.j0 k (p : Int) (Arith.cast xs) n R.1 R.2 0 true else juntolaw03_MatrixPowers.j0 k (p : Int) (Arith.cast xs) n R.1 R.2 0 (decide (n > 64))))) true → Ev (fun k => (matrix_Powers.f k (p : Int) (Arith.cast xs) n).bind fun bt175 => ((juntoref01_Is.f k (p : Int)).bind fun t179 => (if t179 = true then (if ((Arith.cast xs).length : Int) < 1 then (juntolaw03_MatrixPowers.j0 k (p : Int) (Arith.cast xs) n bt175.1 bt175.2 0 true) else (if ((Arith.cast xs).length : Int) > 64 then (juntolaw03_MatrixPowers.j0 k (p : Int) (Arith.cast xs) n bt175.1 bt175.2 0 true) else (if n < 1 then (juntolaw03_MatrixPowers.j0 k (p : Int) (Arith.cast xs) n bt175.1 bt175.2 0 true) else (juntolaw03_MatrixPowers.j0 k (p : Int) (Arith.cast xs) n bt175.1 bt175.2 0 (decide (n > 64)))))) else (juntolaw03_MatrixPowers.j1 k (p : Int) (Arith.cast xs) n bt175.1 bt175.2 2)))) true := fun R hR h => by
      refine (Ev.same (matrix_Powers_ev p xs n hxl) hR).bind ((Ev.same (ref_Is_ev p) hP).bind (Ev.pos rfl ?_))
      rw [cast_len]
      exact h
    by_cases h1 : xs.length < 1
    · exact go ([], 3) (by unfold powR; rw [if_pos hP, if_pos (Or.inl h1)]) (Ev.pos (by omega) bad)
    · by_cases h2 : 64 < xs.length
      · exact go ([], 3) (by unfold powR; rw [if_pos hP, if_pos (Or.inr (Or.inl h2))]) (Ev.neg (by omega) (Ev.pos (by omega) bad))
      · by_cases h3 : n < 1
        · exact go ([], 3) (by unfold powR; rw [if_pos hP, if_pos (Or.inr (Or.inr (Or.inl h3)))]) (Ev.neg (by omega) (Ev.neg (by omega) (Ev.pos h3 bad)))
        · by_cases h4 : 64 < n
          · refine go ([], 3) (by unfold powR; rw [if_pos hP, if_pos (Or.inr (Or.inr (Or.inr h4)))]) ?_
            rw [decide_eq_true (show n > 64 from h4)]
            exact Ev.neg (by omega) (Ev.neg (by omega) (Ev.neg h3 bad))
          · by_cases h5 : below p xs = 0
            · refine go (cM (vandN p n.toNat xs), 0) (by unfold powR; rw [if_pos hP, if_neg (by omega), if_pos h5]) ?_
              rw [decide_eq_false (show ¬ n > 64 from h4)]
              refine Ev.neg (by omega) (Ev.neg (by omega) (Ev.neg h3 ?_))
              refine Ev.step (fun k => juntolaw03_MatrixPowers.j0.eq_2 _ _ _ _ _ _ _ k) (Ev.neg (by decide) ((Ev.same (within_ev p xs hxl) h5).bind (Ev.pos rfl ?_)))
              refine Ev.step (fun k => juntolaw03_MatrixPowers.j1.eq_2 _ _ _ _ _ _ k) (Ev.pos rfl ?_)
              obtain ⟨n', rfl⟩ := Int.eq_ofNat_of_zero_le (show 0 ≤ n by omega)
              refine (refPowers_ev (n := n') hP'.1 hP'.2.1 (by omega) xs (by omega) (below_zero.1 h5)).bind ?_
              refine (is_ok _ _ rfl (by rw [cM_len, vandN_len]; omega) (fun r hr => ?_)).bind (Ev.now _)
              obtain ⟨r', hr', rfl⟩ := List.mem_map.1 hr
              rw [cast_len, (vandN_mat (n := (n' : Int).toNat) (show 0 < p by have := hP'.1; omega) xs).wide r' hr']
              omega
            · have h5' : below p xs = 2 := below_two.resolve_left h5
              refine go ([], 2) (by unfold powR; rw [if_pos hP, if_neg (by omega), if_neg h5]) ?_
              rw [decide_eq_false (show ¬ n > 64 from h4)]
              refine Ev.neg (by omega) (Ev.neg (by omega) (Ev.neg h3 ?_))
              refine Ev.step (fun k => juntolaw03_MatrixPowers.j0.eq_2 _ _ _ _ _ _ _ k) (Ev.neg (by decide) ((Ev.same (within_ev p xs hxl) h5').bind (Ev.neg (by decide) ?_)))
              exact powers_j1_bad p xs n 2 2 (by decide) rfl
  · have hP0 : isP p = false := by simpa using hP
    refine (Ev.same (matrix_Powers_ev p xs n hxl) (by unfold powR; rw [if_neg hP] : powR p xs n = ([], 2))).bind ((Ev.same (ref_Is_ev p) hP0).bind (Ev.neg (by decide) ?_))
    exact powers_j1_bad p xs n 2 2 (by decide) rfl
end Go.Proofs.Ytfdkhkajehopkaa.Mb
