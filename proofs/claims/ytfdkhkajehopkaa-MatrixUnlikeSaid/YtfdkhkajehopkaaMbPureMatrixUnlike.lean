/- MatrixUnlike, in plain lists. -/
import Derived.Test.YtfdkhkajehopkaaMbTieQ
import Derived.Test.YtfdkhkajehopkaaMbTieV
import Derived.Test.YtfdkhkajehopkaaMbTieM
import Derived.Test.YtfdkhkajehopkaaMb0
import Derived.Test.YtfdkhkajehopkaaMb3
import Derived.Test.YtfdkhkajehopkaaMbLMatrixUnlike
namespace Go.Proofs.Ytfdkhkajehopkaa.Mb
open Go.RowKit Go.Proofs.YtfdkhkajehopkaaW.PrintWords Go.Proofs.Ytfdkhkajehopkaa.Num Go.Proofs.Ytfdkhkajehopkaa.Arith
/-- Twice tells whether a number stands twice. -/
theorem twice_l0 (xs : List Nat) (hl : xs.length ≤ 64) : ∀ (d i : Nat), xs.length - i = d → ∃ r : Bool, Ev (fun k => juntoref02_Twice.l0 k (Arith.cast xs) (xs.length : Int) (i : Int)) r ∧ (r = true ↔ ∃ a, i ≤ a ∧ a < xs.length ∧ ∃ b, b < a ∧ xs.getD a 0 = xs.getD b 0) := by
  intro d
  induction d with
  | zero =>
    intro i hd
    refine ⟨false, Ev.step (fun k => juntoref02_Twice.l0.eq_2 _ _ _ k) (Ev.neg (by omega) (Ev.now _)), ?_⟩
    constructor
    · intro h; cases h
    · rintro ⟨a, h1, h2, _⟩; omega
  | succ d ih =>
    intro i hd
    have hi : i < xs.length := by omega
    obtain ⟨r, hr, hri⟩ := ih (i + 1) (by omega)
    have inner : ∀ (e j : Nat), i - j = e → ∃ q : Bool, Ev (fun k => juntoref02_Twice.l1 k (Arith.cast xs) (i : Int) (j : Int) (xs.length : Int) (i : Int)) q ∧ (q = true ↔ (∃ b, j ≤ b ∧ b < i ∧ xs.getD i 0 = xs.getD b 0) ∨ r = true) := by
      intro e
      induction e with
      | zero =>
        intro j he
        refine ⟨r, Ev.step (fun k => juntoref02_Twice.l1.eq_2 _ _ _ _ _ k) (Ev.neg (by omega) ?_), ?_⟩
        · rw [w64_in (by omega) (by omega)]
          exact hr
        · constructor
          · intro h; exact Or.inr h
          · rintro (⟨b, h1, h2, _⟩ | h)
            · omega
            · exact h
      | succ e ihe =>
        intro j he
        have hj : j < i := by omega
        have hjl : j < xs.length := by omega
        have gi : xs.getD i 0 = xs[i] := by rw [List.getD_eq_getElem?_getD, List.getElem?_eq_getElem hi]; rfl
        have gj : xs.getD j 0 = xs[j] := by rw [List.getD_eq_getElem?_getD, List.getElem?_eq_getElem hjl]; rfl
        obtain ⟨q, hq, hqi⟩ := ihe (j + 1) (by omega)
        by_cases hz : xs[i] = xs[j]
        · refine ⟨true, Ev.step (fun k => juntoref02_Twice.l1.eq_2 _ _ _ _ _ k) (Ev.pos (by omega) (Ev.pos (by omega) (Ev.pos (by rw [cast_len]; omega) (Ev.pos (by omega) (Ev.pos (by rw [cast_len]; omega) (Ev.pos ?_ (Ev.now _))))))), ?_⟩
          · rw [cast_rd xs i hi, cast_rd xs j hjl, hz]
          · exact ⟨fun _ => Or.inl ⟨j, Nat.le_refl _, hj, by rw [gi, gj, hz]⟩, fun _ => rfl⟩
        · refine ⟨q, Ev.step (fun k => juntoref02_Twice.l1.eq_2 _ _ _ _ _ k) (Ev.pos (by omega) (Ev.pos (by omega) (Ev.pos (by rw [cast_len]; omega) (Ev.pos (by omega) (Ev.pos (by rw [cast_len]; omega) (Ev.neg ?_ ?_)))))), ?_⟩
          · rw [cast_rd xs i hi, cast_rd xs j hjl]; omega
          · rw [w64_in (by omega) (by omega)]
            exact hq
          · rw [hqi]
            constructor
            · rintro (⟨b, h1, h2, h3⟩ | h)
              · exact Or.inl ⟨b, by omega, h2, h3⟩
              · exact Or.inr h
            · rintro (⟨b, h1, h2, h3⟩ | h)
              · by_cases hb : b = j
                · subst hb; rw [gi, gj] at h3; exact absurd h3 hz
                · exact Or.inl ⟨b, by omega, h2, h3⟩
              · exact Or.inr h
    obtain ⟨q, hq, hqi⟩ := inner i 0 (by omega)
    refine ⟨q, Ev.step (fun k => juntoref02_Twice.l0.eq_2 _ _ _ k) (Ev.pos (by omega) hq), ?_⟩
    rw [hqi, hri]
    constructor
    · rintro (⟨b, _, h2, h3⟩ | ⟨a, h1, h2, h3⟩)
      · exact ⟨i, Nat.le_refl _, hi, b, h2, h3⟩
      · exact ⟨a, by omega, h2, h3⟩
    · rintro ⟨a, h1, h2, b, h3, h4⟩
      by_cases e : a = i
      · subst e; exact Or.inl ⟨b, Nat.zero_le _, h3, h4⟩
      · exact Or.inr ⟨a, by omega, h2, b, h3, h4⟩
theorem twice_ev (xs : List Nat) (hl : xs.length ≤ 64) : ∃ r : Bool, Ev (fun k => juntoref02_Twice.f k (Arith.cast xs)) r ∧ (r = true ↔ ¬ xs.Pairwise (· ≠ ·)) := by
  obtain ⟨r, hr, hi⟩ := twice_l0 xs hl xs.length 0 (by omega)
  refine ⟨r, by unfold juntoref02_Twice.f; rw [cast_len]; exact hr, ?_⟩
  rw [hi, List.pairwise_iff_getElem]
  constructor
  · rintro ⟨a, _, ha, b, hb, he⟩ h
    rw [List.getD_eq_getElem?_getD, List.getElem?_eq_getElem ha, List.getD_eq_getElem?_getD, List.getElem?_eq_getElem (by omega)] at he
    exact h b a (by omega) ha hb he.symm
  · intro h
    refine Classical.byContradiction fun c => h fun i j hi hj hij he => c ⟨j, Nat.zero_le _, hj, i, hij, ?_⟩
    rw [List.getD_eq_getElem?_getD, List.getElem?_eq_getElem hj, List.getD_eq_getElem?_getD, List.getElem?_eq_getElem hi, he]
theorem Pure_MatrixUnlike : ∀ (a0 : Int) (l1 : List Int), (Lit.int .u64 a0).wf = true → l1.length * 8 ≤ 140737488351232 → (∀ x ∈ l1, (Lit.int .u64 x).wf = true) → ∃ k, juntolaw03_MatrixUnlike.f k a0 l1 = some true := by
  intro a0 l1 w0 h1 w1
  obtain ⟨p, rfl, hp⟩ := nat_u64 w0
  obtain ⟨xs, rfl, hx⟩ := nats l1 w1
  have hxl : xs.length < 9223372036854775807 := by simp at h1; omega
  refine Ev.rounds (g := fun k => juntolaw03_MatrixUnlike.f k (p : Int) (Arith.cast xs)) ?_
  unfold juntolaw03_MatrixUnlike.f
  have bad : Ev (fun k => juntolaw03_MatrixUnlike.j0 k (p : Int) (Arith.cast xs) true) true :=
    Ev.step (fun k => juntolaw03_MatrixUnlike.j0.eq_2 _ _ _ k) (Ev.pos rfl (alive_ev.bind (Ev.now _)))
  by_cases hP : isP p = true
  · have hP' := isP_iff.1 hP
    have h3 := hP'.1
    refine (Ev.same (ref_Is_ev p) hP).bind (Ev.pos rfl ((within_ev p xs hxl).bind ?_))
    by_cases h5 : below p xs = 0
    · refine Ev.pos h5 ?_
      rw [cast_len]
      by_cases h6 : xs.length < 1
      · exact Ev.pos (by omega) bad
      · refine Ev.neg (by omega) ?_
        by_cases h7 : 64 < xs.length
        · rw [decide_eq_true (show (xs.length : Int) > 64 by omega)]
          exact bad
        · rw [decide_eq_false (show ¬ (xs.length : Int) > 64 by omega)]
          refine Ev.step (fun k => juntolaw03_MatrixUnlike.j0.eq_2 _ _ _ k) (Ev.neg (by decide) ?_)
          rw [cast_len]
          have hsm := below_zero.1 h5
          have hV := vandN_mat (p := p) (n := xs.length) (by omega) xs
          have hVl := vandN_len p xs.length xs
          have eP : powR p xs (xs.length : Int) = (cM (vandN p xs.length xs), 0) := by
            unfold powR
            rw [if_pos hP, if_neg (by omega), if_pos h5, Int.toNat_natCast]
          refine (Ev.same (matrix_Powers_ev p xs _ hxl) eP).bind ?_
          obtain ⟨hc, hr0⟩ := chk_mat hP' hV (by omega) (by omega) (by omega) (by omega)
          have hI := matrix_Inverse_ev p (vandN p xs.length xs)
          rw [hVl, hr0, if_pos hc, if_pos rfl] at hI
          obtain ⟨r, hr, hri⟩ := twice_ev xs (by omega)
          by_cases hd : xs.Pairwise (· ≠ ·)
          · have hrf : r = false := by
              cases r
              · rfl
              · exact absurd hd (hri.1 rfl)
            have hf := vand_full hP' rfl hsm hd
            rw [if_neg hf] at hI
            have hIm := inverseN_mat hP' hV hVl
            refine hI.bind ((Ev.same hr hrf).bind (Ev.neg (by decide) (Ev.pos rfl (Ev.pos rfl ?_))))
            refine (refMul_ev (by omega) hP'.2.1 hV hIm.1 hIm.2 (by omega) (by omega) (by omega) (by omega)).bind ?_
            refine (one_ev xs.length (by omega)).bind ?_
            rw [mul_inverse hP' hV hVl hf]
            refine (Ev.same (sameM_ev _ _ (by rw [cM_len, identN_len]; omega) (fun q hq => ?_)) (decide_eq_true rfl)).bind (Ev.pos rfl (alive_ev.bind (Ev.now _)))
            obtain ⟨r', hr', rfl⟩ := List.mem_map.1 hq
            rw [cast_len, (identN_mat p xs.length (by omega)).wide r' hr']
            omega
          · have hrt : r = true := hri.2 hd
            have hf := vand_alike hP' (n := xs.length) rfl hd
            rw [if_pos hf] at hI
            exact hI.bind ((Ev.same hr hrt).bind (Ev.pos rfl (Ev.pos rfl (Ev.pos rfl (alive_ev.bind (Ev.now _))))))
    · exact Ev.neg h5 bad
  · have hP0 : isP p = false := by simpa using hP
    exact (Ev.same (ref_Is_ev p) hP0).bind (Ev.neg (by decide) bad)
end Go.Proofs.Ytfdkhkajehopkaa.Mb
