/- What NetApart asks, in plain lists. -/
import Derived.Test.YtkaikgbcnmfppaaNbHonestA
import Derived.Test.YtkaikgbcnmfppaaNbFRef17SameSent
import Derived.Test.YtkaikgbcnmfppaaNbFLaw17SameCame
namespace Go.Proofs.Ytkaikgbcnmfppaa.Nb
open Go Go.RowKit Go.Proofs.YtkaikgbcnmfppaaW.PrintWords Go.Proofs.YtkaikgbcnmfppaaW.PrintLast Go.Proofs.YtkaikgbcnmfppaaW.PrintMore
open Go.Proofs.Ytkaikgbcnmfppaa.Num Go.Proofs.Ytkaikgbcnmfppaa.Arith
set_option linter.unusedVariables false
set_option linter.unusedSimpArgs false
noncomputable section
theorem same_at (xs : List Int) (hl : xs.length < 9223372036854775807) (k : Nat) (hk : xs.length < k) : j1S.f k xs xs = some true := by
 unfold j1S.f
 rw [if_pos rfl]
 simpa using same_l0 xs xs rfl hl xs.length 0 k (by omega) hk
theorem pay_l0 (ys : List (List Int)) (hl : ys.length < 9223372036854775807) (B : Nat) (hB : B ≤ 9223372036854775807) (hb : ∀ i, i < ys.length → (ys.getD i []).length < B) : ∀ d i k, i + d = ys.length → d + B < k → jSP.l0 k ys ys (ys.length : Int) (i : Int) = some true := by
 intro d
 induction d with
 | zero =>
  intro i k hd hk
  obtain ⟨k, rfl⟩ : ∃ m, k = m + 1 := ⟨k - 1, by omega⟩
  simp only [jSP.l0]
  rw [if_neg (by omega)]
 | succ d ih =>
  intro i k hd hk
  obtain ⟨k, rfl⟩ : ∃ m, k = m + 1 := ⟨k - 1, by omega⟩
  have hi : i < ys.length := by omega
  have he : rd_M2 ys (i : Int) = ys.getD i [] := by simp [rd_M2]
  simp only [jSP.l0]
  rw [if_pos (by omega), if_pos (by omega), if_pos (by omega), if_pos (by omega), he, same_at _ (by have := hb i hi; omega) k (by have := hb i hi; omega), Option.bind_some, if_pos rfl, w64_in (by omega) (by omega)]
  exact ih (i + 1) k (by omega) (by omega)
theorem pay_at (ys : List (List Int)) (hl : ys.length < 9223372036854775807) (B : Nat) (hB : B ≤ 9223372036854775807) (hb : ∀ i, i < ys.length → (ys.getD i []).length < B) (k : Nat) (hk : ys.length + B < k) : jSP.f k ys ys = some true := by
 unfold jSP.f
 rw [if_pos rfl]
 simpa using pay_l0 ys hl B hB hb ys.length 0 k (by omega) hk
theorem came_l0 (xs : List (List (List Int))) (hl : xs.length < 9223372036854775807) (B C : Nat) (hB : B ≤ 9223372036854775807) (hC : C ≤ 9223372036854775807) (hb : ∀ i, i < xs.length → (xs.getD i []).length < C ∧ ∀ j, j < (xs.getD i []).length → ((xs.getD i []).getD j []).length < B) : ∀ d i k, i + d = xs.length → d + C + B < k → jsC.l0 k xs xs (xs.length : Int) (i : Int) = some true := by
 intro d
 induction d with
 | zero =>
  intro i k hd hk
  obtain ⟨k, rfl⟩ : ∃ m, k = m + 1 := ⟨k - 1, by omega⟩
  simp only [jsC.l0]
  rw [if_neg (by omega)]
 | succ d ih =>
  intro i k hd hk
  obtain ⟨k, rfl⟩ : ∃ m, k = m + 1 := ⟨k - 1, by omega⟩
  have hi : i < xs.length := by omega
  have he : rd_M5 xs (i : Int) = xs.getD i [] := by simp [rd_M5]
  simp only [jsC.l0]
  rw [if_pos (by omega), if_pos (by omega), if_pos (by omega), if_pos (by omega), he, pay_at _ (by have := (hb i hi).1; omega) B hB (hb i hi).2 k (by have := (hb i hi).1; omega), Option.bind_some, if_pos rfl, w64_in (by omega) (by omega)]
  exact ih (i + 1) k (by omega) (by omega)
theorem came_some (xs : List (List (List Int))) (hl : xs.length < 9223372036854775807) (B C : Nat) (hB : B ≤ 9223372036854775807) (hC : C ≤ 9223372036854775807) (hb : ∀ i, i < xs.length → (xs.getD i []).length < C ∧ ∀ j, j < (xs.getD i []).length → ((xs.getD i []).getD j []).length < B) : ∃ k, jsC.f k xs xs = some true := by
 refine ⟨xs.length + C + B + 1, ?_⟩
 unfold jsC.f
 rw [if_pos rfl]
 simpa using came_l0 xs hl B C hB hC hb xs.length 0 (xs.length + C + B + 1) (by omega) (by omega)
theorem sent_l0 (xs : List S77) (hl : xs.length < 9223372036854775807) (B : Nat) (hB : B ≤ 9223372036854775807) (hb : ∀ i, i < xs.length → (xs.getD i z77).f3.length < B) : ∀ d i k, i + d = xs.length → d + B < k → jSS.l0 k xs xs (xs.length : Int) (i : Int) = some true := by
 intro d
 induction d with
 | zero =>
  intro i k hd hk
  obtain ⟨k, rfl⟩ : ∃ m, k = m + 1 := ⟨k - 1, by omega⟩
  simp only [jSS.l0]
  rw [if_neg (by omega)]
 | succ d ih =>
  intro i k hd hk
  obtain ⟨k, rfl⟩ : ∃ m, k = m + 1 := ⟨k - 1, by omega⟩
  have hi : i < xs.length := by omega
  have he : r77 xs (i : Int) = xs.getD i z77 := by simp [r77]
  simp only [jSS.l0]
  rw [if_pos (by omega), if_pos (by omega), if_pos (by omega), if_pos (by omega), if_pos trivial, if_pos trivial, if_pos trivial, he, same_at _ (by have := hb i hi; omega) k (by have := hb i hi; omega), Option.bind_some, if_pos rfl, w64_in (by omega) (by omega)]
  exact ih (i + 1) k (by omega) (by omega)
theorem sent_some (xs : List S77) (hl : xs.length < 9223372036854775807) (B : Nat) (hB : B ≤ 9223372036854775807) (hb : ∀ a ∈ xs, a.f3.length < B) : ∃ k, jSS.f k xs xs = some true := by
 refine ⟨xs.length + B + 1, ?_⟩
 unfold jSS.f
 rw [if_pos rfl]
 simpa using sent_l0 xs hl B hB (fun i hi => hb _ (by rw [List.getD_eq_getElem?_getD, List.getElem?_eq_getElem hi]; exact List.getElem_mem _)) xs.length 0 (xs.length + B + 1) (by omega) (by omega)
theorem getD_mem_or {α : Type} (l : List α) (i : Nat) (z : α) : l.getD i z ∈ l ∨ l.getD i z = z := by
 by_cases h : i < l.length
 ·left
  rw [List.getD_eq_getElem?_getD, List.getElem?_eq_getElem h]
  exact List.getElem_mem _
 ·right
  exact getD_big _ _ _ (Nat.le_of_not_lt h)
theorem stowed_all {Q : S77 → Prop} {R f t : Int} {d : List Int} {s : List S77} (h : ∀ a ∈ s, Q a) (hq : Q ⟨R, f, t, d⟩) : ∀ a ∈ stowed R f t d s, Q a := by
 unfold stowed
 split
 ·intro a ha
  rcases List.mem_append.1 ha with ha | ha
  ·exact h a ha
  ·simp only [List.mem_cons, List.not_mem_nil, or_false] at ha
   rw [ha]
   exact hq
 ·exact h
theorem kRun_all {Q : S77 → Prop} (l : List S72) (R : Int) (i : Nat) (row : List (List Int)) (x : List (List (List Int)) × List S77) (h : ∀ a ∈ x.2, Q a) (hq : ∀ k : Nat, Q ⟨R, (i : Int) + 1, (k : Int) + 1, eff l ((i : Int) + 1) ((k : Int) + 1) (row.getD k [])⟩) : ∀ k, ∀ a ∈ (kRun l R i row x k).2, Q a
 | 0 => h
 | k + 1 => stowed_all (kRun_all l R i row x h hq k) (hq k)
theorem iRun_all {Q : S77 → Prop} (l : List S72) (R : Int) (n : Nat) (priv : List (List (List Int))) (said : List (List Int)) (ss : List S77) (h : ∀ a ∈ ss, Q a) (hq : ∀ f t d, (d = [] ∨ d ∈ said ∨ ∃ r ∈ priv, d ∈ r) → Q ⟨R, f, t, eff l f t d⟩) : ∀ i, ∀ a ∈ (iRun l R n priv said ss i).2.2, Q a
 | 0 => h
 | i + 1 => by
  refine kRun_all l R i (priv.getD i []) _ (stowed_all (iRun_all l R n priv said ss h hq i) ?_) (fun k => ?_) n
  ·refine hq _ _ _ ?_
   rcases getD_mem_or said i [] with h1 | h1
   ·exact .inr (.inl h1)
   ·exact .inl h1
  ·refine hq _ _ _ ?_
   rcases getD_mem_or (priv.getD i []) k [] with h1 | h1
   ·rcases getD_mem_or priv i [] with h2 | h2
    ·exact .inr (.inr ⟨_, h2, h1⟩)
    ·rw [h2] at h1
     cases h1
   ·exact .inl h1
theorem actsV_filter {N : Int} {co : List Int} (p : S72 → Bool) : ∀ (l prev prev' : List S72), (∀ b ∈ prev', b ∈ prev) → actsV N co prev l = 0 → actsV N co prev' (l.filter p) = 0
 | [], _, _, _, _ => rfl
 | a :: l, prev, prev', hp, h => by
  by_cases hb : actBad N co prev a = 0
  ·rw [actsV_good _ hb] at h
   by_cases hpa : p a = true
   ·rw [List.filter_cons_of_pos hpa]
    obtain ⟨g1, g2, g3, g4, g5, g6, g7⟩ := actBad_zero hb
    have hb' : actBad N co prev' a = 0 := by
     unfold actBad
     rw [if_neg (fun q => q.elim (fun q => q g1) (fun q => q.elim (fun q => by omega) (fun q => q.elim (fun q => by omega) (fun q => q.elim g4 (fun q => by omega))))), if_neg (by omega), if_neg]
     intro q
     obtain ⟨b, hb1, hs⟩ := List.any_eq_true.1 q
     exact List.any_eq_false.1 g7 b (hp b hb1) hs
    rw [actsV_good _ hb']
    exact actsV_filter p l (prev ++ [a]) (prev' ++ [a]) (fun b hb1 => by
     rcases List.mem_append.1 hb1 with h1 | h1
     ·exact List.mem_append_left _ (hp b h1)
     ·exact List.mem_append_right _ h1) h
   ·rw [List.filter_cons_of_neg hpa]
    exact actsV_filter p l (prev ++ [a]) prev' (fun b hb1 => List.mem_append_left _ (hp b hb1)) h
  ·rw [actsV_bad l rfl hb] at h
   exact absurd h hb
theorem now_now (R : Int) (l : List S72) : now R (now R l) = now R l := by
 unfold now
 rw [List.filter_filter]
 simp
/-- The world that keeps the acts of the round alone, and no record. -/
def only (x : S30) : S30 := ⟨x.f0, x.f1, now (x.f4 + 1) x.f2, x.f3, x.f4, []⟩
/-- What a round of the world that keeps the acts of the round alone comes to. -/
structure AF (x : S30) (l1 : List (List (List Int))) (l2 : List (List Int)) (came : List (List (List Int))) (heard : List (List Int)) (x1 : S30) (s : List S77) : Prop where
 ex : exchV (only x) l1 l2 = (came, heard, ⟨x.f0, x.f1, now (x.f4 + 1) x.f2, x.f3, x.f4 + 1, s⟩, 0)
 x1 : x1 = ⟨x.f0, x.f1, x.f2, x.f3, x.f4 + 1, x.f5 ++ s⟩
 sm : ∀ a ∈ s, a.f3.length < 17592186044416
 sl : s.length ≤ 1001000
 cm : ∀ a, a < came.length → (came.getD a []).length < 17592186044416 ∧ ∀ b, b < (came.getD a []).length → ((came.getD a []).getD b []).length < 17592186044416
 hm : ∀ b, b < heard.length → (heard.getD b []).length < 17592186044416
theorem exchV_only {x : S30} {l1 : List (List (List Int))} {l2 : List (List Int)} {came : List (List (List Int))} {heard : List (List Int)} {x1 : S30} (wf : Wf30 x) (wp : WfP l1) (wt : WfT l2) (h : exchV x l1 l2 = (came, heard, x1, 0)) : ∃ s, AF x l1 l2 came heard x1 s := by
 obtain ⟨n, hF⟩ := exchV_zero h
 have hN := hF.N
 unfold exchV at h
 by_cases hz : chk x ≠ 0
 ·rw [if_pos hz] at h
  simp only [Prod.mk.injEq] at h
  exact absurd h.2.2.2 hz
 rw [if_neg hz] at h
 have hz0 : chk x = 0 := Classical.byContradiction hz
 by_cases hl : (l1.length : Int) ≠ x.f0.f1 ∨ (l2.length : Int) ≠ x.f0.f1 ∨ l1.any (badRow x.f0.f1) = true
 ·rw [if_pos hl] at h
  simp only [Prod.mk.injEq] at h
  exact absurd h.2.2.2 (by decide)
 rw [if_neg hl] at h
 by_cases hR : x.f4 = 1048576
 ·rw [if_pos hR] at h
  simp only [Prod.mk.injEq] at h
  exact absurd h.2.2.2 (by decide)
 rw [if_neg hR, iRun_app (now (x.f4 + 1) x.f2) (x.f4 + 1) x.f0.f1.toNat l1 l2 x.f5 x.f0.f1.toNat] at h
 simp only [Prod.mk.injEq] at h
 obtain ⟨hca, hhe, hx1, _⟩ := h
 obtain ⟨z1, z2, z3, z4, z5, z6⟩ := checkV_zero hz0
 have hl' : (now (x.f4 + 1) x.f2).length ≤ x.f2.length := List.length_filter_le _ _
 have hz' : chk (only x) = 0 := by
  show checkV x.f0.f0.toNat x.f0.f1 x.f0.f2 x.f1 (now (x.f4 + 1) x.f2) x.f3.length x.f4 = 0
  unfold checkV
  rw [if_pos z1, if_pos ⟨z2, z3, z4⟩, if_neg (by omega)]
  exact actsV_filter _ x.f2 [] [] (fun b hb => hb) z6
 have hsz : ∀ f t d, (d = [] ∨ d ∈ l2 ∨ ∃ r ∈ l1, d ∈ r) → (eff (now (x.f4 + 1) x.f2) f t d).length < 17592186044416 := fun f t d hd => by
  refine eff_small (fun a ha => WfD.lt (wf.ac.2.2 a (List.mem_filter.1 ha).1).2.2.2) ?_
  rcases hd with rfl | hd | ⟨r, hr, hd⟩
  ·decide
  ·exact WfD.lt (wt.2.2 d hd)
  ·exact WfD.lt ((wp.2.2 r hr).2.2 d hd)
 rw [hN, Int.toNat_natCast] at hca hhe hx1
 have g := iRun_at (now (x.f4 + 1) x.f2) (x.f4 + 1) n l1 l2 [] n (Nat.le_refl _)
 have g2 := iRun_le (now (x.f4 + 1) x.f2) (x.f4 + 1) n l1 l2 [] n
 have g3 := iRun_all (Q := fun a => a.f3.length < 17592186044416) (now (x.f4 + 1) x.f2) (x.f4 + 1) n l1 l2 [] (fun a ha => absurd ha List.not_mem_nil) hsz n
 have hn := hF.top
 refine ⟨(iRun (now (x.f4 + 1) x.f2) (x.f4 + 1) n l1 l2 [] n).2.2, ?_, hx1.symm, g3, ?_, fun a ha => ?_, fun b hb => ?_⟩
 ·unfold exchV
  rw [if_neg (fun q => q hz')]
  show (if (l1.length : Int) ≠ x.f0.f1 ∨ (l2.length : Int) ≠ x.f0.f1 ∨ l1.any (badRow x.f0.f1) = true then _ else if x.f4 = 1048576 then _ else _) = _
  rw [if_neg hl, if_neg hR]
  show ((iRun (now (x.f4 + 1) (now (x.f4 + 1) x.f2)) (x.f4 + 1) x.f0.f1.toNat l1 l2 [] x.f0.f1.toNat).1, (iRun (now (x.f4 + 1) (now (x.f4 + 1) x.f2)) (x.f4 + 1) x.f0.f1.toNat l1 l2 [] x.f0.f1.toNat).2.1, (⟨x.f0, x.f1, now (x.f4 + 1) x.f2, x.f3, x.f4 + 1, (iRun (now (x.f4 + 1) (now (x.f4 + 1) x.f2)) (x.f4 + 1) x.f0.f1.toNat l1 l2 [] x.f0.f1.toNat).2.2⟩ : S30), (0 : Int)) = _
  rw [now_now, hN, Int.toNat_natCast, hca, hhe]
 ·have h1 := g2.1
  have h5 : n * (n + 1) ≤ 1000 * 1001 := Nat.mul_le_mul (by omega) (by omega)
  simp only [List.length_nil, Nat.zero_add] at h1
  omega
 ·rw [hF.cl] at ha
  refine ⟨by rw [hF.cr a ha]; omega, fun b hb => ?_⟩
  rw [hF.cr a ha] at hb
  have h1 := g.2.1 a b ha hb
  rw [hca, if_pos hb] at h1
  show ((came.getD a []).getD b []).length < _
  have h2 : (came.getD a []).getD b [] = eff (now (x.f4 + 1) x.f2) ((b : Int) + 1) ((a : Int) + 1) (at2 l1 b a) := h1
  rw [h2]
  refine hsz _ _ _ ?_
  rcases getD_mem_or (l1.getD b []) a [] with q | q
  ·rcases getD_mem_or l1 b [] with q2 | q2
   ·exact .inr (.inr ⟨_, q2, q⟩)
   ·rw [q2] at q
    cases q
  ·exact .inl q
 ·rw [hF.hl] at hb
  have h1 := g.2.2 b hb
  rw [hhe, if_pos hb] at h1
  rw [h1]
  refine hsz _ _ _ ?_
  rcases getD_mem_or l2 b [] with q | q
  ·exact .inr (.inl q)
  ·exact .inl q
end
end Go.Proofs.Ytkaikgbcnmfppaa.Nb
