/- What NetRounds asks, in plain lists: copies, errors, the reference's round. juntoref17.Zero walked at the zero world. -/
import Derived.Test.YtkaikgbcnmfppaaNbRex
import Derived.Test.YtkaikgbcnmfppaaNbApartA
import Derived.Test.YtkaikgbcnmfppaaNbRefSame
import Derived.Test.YtkaikgbcnmfppaaNbCopies
import Derived.Test.YtkaikgbcnmfppaaNbFRef17ExchErr
import Derived.Test.YtkaikgbcnmfppaaNbWide
namespace Go.Proofs.Ytkaikgbcnmfppaa.Nb
open Go Go.RowKit Go.Proofs.YtkaikgbcnmfppaaW.PrintWords Go.Proofs.YtkaikgbcnmfppaaW.PrintLast Go.Proofs.YtkaikgbcnmfppaaW.PrintMore
open Go.Proofs.Ytkaikgbcnmfppaa.Num Go.Proofs.Ytkaikgbcnmfppaa.Arith
set_option linter.unusedVariables false
set_option linter.unusedSimpArgs false
noncomputable section
theorem Wf30.fitr {x : S30} (h : Wf30 x) : Fit x :=
 ⟨by have := h.co.2.1; omega, by have := h.ac.2.1; omega, fun a ha => WfD.lt (h.ac.2.2 a ha).2.2.2, by have := h.ta.2.1; omega, fun i hi => WfD.lt (h.ta.2.2 _ (by rw [List.getD_eq_getElem?_getD, List.getElem?_eq_getElem hi]; exact List.getElem_mem _)), by have := h.se.2.1; omega, fun a ha => WfD.lt (h.se.2.2 a ha).2.2.2⟩
theorem came_wf (l : List (List (List Int))) (wp : WfP l) : ∃ k, jsC.f k l l = some true :=
 came_some l (by have := wp.2.1; omega) 17592186044416 5864062014805 (by decide) (by decide) (fun i hi => ⟨by have := (wp.2.2 _ (getD_in (z := []) hi)).2.1; omega, fun j hj => WfD.lt ((wp.2.2 _ (getD_in (z := []) hi)).2.2 _ (getD_in hj))⟩)
theorem pays_wf (l : List (List Int)) (wt : WfT l) : ∃ k, jSP.f k l l = some true :=
 ⟨l.length + 17592186044416 + 1, pay_at l (by have := wt.2.1; omega) 17592186044416 (by decide) (fun i hi => WfD.lt (wt.2.2 _ (getD_in hi))) _ (by omega)⟩
theorem exchE_l0 (l1 : List (List (List Int))) (hl : l1.length < 9223372036854775807) (P N T : Int) (co : List Int) (ac : List S72) (ta : List (List Int)) (R : Int) (se : List S77) : ∀ d i k, i + d = l1.length → d < k → jEE.l0 k l1 (l1.length : Int) (i : Int) P N T co ac ta R se = some (if (l1.drop i).any (badRow N) = true then 2 else if R = 1048576 then 8 else 0) := by
 intro d
 induction d with
 | zero =>
  intro i k hdd hk
  obtain ⟨k, rfl⟩ : ∃ m, k = m + 1 := ⟨k - 1, by omega⟩
  simp only [jEE.l0]
  rw [if_neg (by omega), List.drop_eq_nil_of_le (by omega)]
  simp only [List.any_nil, Bool.false_eq_true, if_false]
  by_cases h : R = 1048576
  ·rw [if_pos h, if_pos h]
  ·rw [if_neg h, if_neg h]
 | succ d ih =>
  intro i k hdd hk
  obtain ⟨k, rfl⟩ : ∃ m, k = m + 1 := ⟨k - 1, by omega⟩
  have hi : i < l1.length := by omega
  have he : rd_M5 l1 (i : Int) = l1[i] := by simp [rd_M5, List.getD_eq_getElem?_getD, hi]
  simp only [jEE.l0]
  rw [if_pos (by omega), if_pos (by omega), if_pos (by omega), he, List.drop_eq_getElem_cons hi, List.any_cons]
  by_cases h : ((l1[i].length : Nat) : Int) = N
  ·have hb : badRow N l1[i] = false := by simp [badRow, h]
   rw [if_pos h, w64_in (by omega) (by omega), hb, Bool.false_or]
   exact ih (i + 1) k (by omega) (by omega)
  ·have hb : badRow N l1[i] = true := by simp [badRow, h]
   rw [if_neg h, hb, Bool.true_or, if_pos rfl]
/-- The error of a call of Exchange. -/
def exchE (x : S30) (l1 : List (List (List Int))) (l2 : List (List Int)) : Int := (exchV x l1 l2).2.2.2
theorem exchE_eq (x : S30) (l1 : List (List (List Int))) (l2 : List (List Int)) : exchE x l1 l2 = if chk x = 0 then (if (l1.length : Int) = x.f0.f1 then (if (l2.length : Int) = x.f0.f1 then (if l1.any (badRow x.f0.f1) = true then 2 else if x.f4 = 1048576 then 8 else 0) else 2) else 2) else chk x := by
 unfold exchE exchV
 by_cases h0 : chk x = 0
 ·rw [if_neg (show ¬ (chk x ≠ 0) from fun q => q h0), if_pos (show chk x = 0 from h0)]
  by_cases e1 : (l1.length : Int) = x.f0.f1
  ·rw [if_pos e1]
   by_cases e2 : (l2.length : Int) = x.f0.f1
   ·rw [if_pos e2]
    by_cases e3 : l1.any (badRow x.f0.f1) = true
    ·rw [if_pos (show l1.any (badRow x.f0.f1) = true from e3), if_pos (show ((l1.length : Int) ≠ x.f0.f1 ∨ (l2.length : Int) ≠ x.f0.f1 ∨ l1.any (badRow x.f0.f1) = true) from .inr (.inr e3))]
    ·rw [if_neg (show ¬ (l1.any (badRow x.f0.f1) = true) from e3), if_neg (show ¬ ((l1.length : Int) ≠ x.f0.f1 ∨ (l2.length : Int) ≠ x.f0.f1 ∨ l1.any (badRow x.f0.f1) = true) from fun q => q.elim (fun q => q e1) (fun q => q.elim (fun q => q e2) e3))]
     by_cases e4 : x.f4 = 1048576
     ·rw [if_pos e4, if_pos e4]
     ·rw [if_neg e4, if_neg e4]
   ·rw [if_neg e2, if_pos (show ((l1.length : Int) ≠ x.f0.f1 ∨ (l2.length : Int) ≠ x.f0.f1 ∨ l1.any (badRow x.f0.f1) = true) from .inr (.inl e2))]
  ·rw [if_neg e1, if_pos (show ((l1.length : Int) ≠ x.f0.f1 ∨ (l2.length : Int) ≠ x.f0.f1 ∨ l1.any (badRow x.f0.f1) = true) from .inl e1)]
 ·rw [if_pos (show chk x ≠ 0 from h0), if_neg (show ¬ (chk x = 0) from h0)]
theorem exchE_ev {x : S30} (wf : Wf30 x) {l1 : List (List (List Int))} (wp : WfP l1) (l2 : List (List Int)) : ∃ k, jEE.f k x.f0.f0 x.f0.f1 x.f0.f2 x.f1 x.f2 x.f3 x.f4 x.f5 l1 l2 = some (exchE x l1 l2) := by
 obtain ⟨p, hp, _⟩ := nat_u64 wf.s.1
 have hc : chk x = checkV p x.f0.f1 x.f0.f2 x.f1 x.f2 x.f3.length x.f4 := by
  unfold chk
  rw [hp, Int.toNat_natCast]
 obtain ⟨K, hK⟩ := ref_Check_ev p x.f0.f1 x.f0.f2 x.f1 x.f2 x.f3 x.f4 x.f5
 refine ⟨K + l1.length + 3, ?_⟩
 have h1 := hK (K + l1.length + 3) (by omega)
 simp only at h1
 rw [← hc] at h1
 rw [exchE_eq]
 unfold jEE.f
 rw [hp, h1, Option.bind_some]
 by_cases h0 : chk x = 0
 ·rw [if_pos h0, if_pos h0]
  have hl : l1.length < 9223372036854775807 := by have := wp.2.1; omega
  by_cases e1 : (l1.length : Int) = x.f0.f1
  ·rw [if_pos e1, if_pos e1]
   by_cases e2 : (l2.length : Int) = x.f0.f1
   ·have hb : ((l2.length : Int) != x.f0.f1) = false := by simp [e2]
    rw [hb, if_pos e2]
    simp only [jEE.j0]
    rw [if_neg (by decide)]
    have h := exchE_l0 l1 hl (p : Int) x.f0.f1 x.f0.f2 x.f1 x.f2 x.f3 x.f4 x.f5 l1.length 0 (K + l1.length + 2) (by omega) (by omega)
    rw [List.drop_zero] at h
    exact h
   ·have hb : ((l2.length : Int) != x.f0.f1) = true := by simp [e2]
    rw [hb, if_neg e2]
    simp only [jEE.j0]
    rw [if_pos trivial]
  ·rw [if_neg e1, if_neg e1]
   simp only [jEE.j0]
   rw [if_pos trivial]
 ·rw [if_neg h0, if_neg h0]
theorem rex_all {x : S30} {l1 : List (List (List Int))} {l2 : List (List Int)} {came : List (List (List Int))} {heard : List (List Int)} {x1 : S30} (wf : Wf30 x) (wp : WfP l1) (wt : WfT l2) (h : exchV x l1 l2 = (came, heard, x1, 0)) (A3 : Option Addr) (c3 : Nat) (A4 : Option Addr) (c4 : Nat) (A5 : Option Addr) (c5 : Nat) (A7 : Option Addr) (c7 : Nat) (A1 : Option Addr) (c1 : Nat) (A2 : Option Addr) (c2 : Nat) (w : World)
  (hx : k30.K w x (wv x A3 c3 A4 c4 A5 c5 A7 c7).toList) (h1 : (Kd.slice 51 kD).C w A1 l1.length l1) (h2 : kD.C w A2 l2.length l2) :
  Calls Try.prog 25 #[.agg (wv x A3 c3 A4 c4 A5 c5 A7 c7), .slice A1 l1.length c1, .slice A2 l2.length c2] w (RexPost w came heard x1) := by
 unfold exchV at h
 by_cases hz : chk x ≠ 0
 ·rw [if_pos hz] at h
  simp only [Prod.mk.injEq] at h
  exact absurd h.2.2.2 hz
 rw [if_neg hz] at h
 have hz0 : chk x = 0 := Classical.byContradiction hz
 by_cases hl : (l1.length : Int) ≠ x.f0.f1 ∨ (l2.length : Int) ≠ x.f0.f1 ∨ l1.any (badRow x.f0.f1) = true
 ·rw [if_pos hl] at h
  simp only [Prod.mk.injEq] at h
  exact absurd h.2.2.2 (by decide)
 rw [if_neg hl] at h
 by_cases hR : x.f4 = 1048576
 ·rw [if_pos hR] at h
  simp only [Prod.mk.injEq] at h
  exact absurd h.2.2.2 (by decide)
 rw [if_neg hR] at h
 simp only [Prod.mk.injEq] at h
 obtain ⟨hca, hhe, hx1, _⟩ := h
 have e1 : (l1.length : Int) = x.f0.f1 := Classical.byContradiction fun q => hl (.inl q)
 have e2 : (l2.length : Int) = x.f0.f1 := Classical.byContradiction fun q => hl (.inr (.inl q))
 have e3 : l1.any (badRow x.f0.f1) = false := by simpa using fun q => hl (.inr (.inr q))
 obtain ⟨z1, z2, z3, z4, z5, z6⟩ := checkV_zero hz0
 have zs := setupV_zero (corrV_zero z1).1
 have hse := wf.se.2.1
 obtain ⟨⟨P, N, T⟩, co, ac, ta, R, se⟩ := x
 obtain ⟨n, rfl⟩ : ∃ n : Nat, N = n := ⟨N.toNat, by have := zs.2.1; simp only at this; omega⟩
 simp only at e1 e2 e3 hR z2 z3 z4 z5 z6 zs hca hhe hx1 hse
 rw [Int.toNat_natCast] at hca hhe hx1
 have g := rex_ok n P T R co ac ta se A3 c3 A4 c4 A5 c5 A7 c7 A1 c1 l1 A2 c2 l2 w hx h1 h2 (by omega) (by omega) z3 (by omega) z5 (fun a ha => ((actsV_zero ac [] z6).2.2 a ha).2.2.2.1) (by omega) (by omega) (fun r hr => by
  have h := List.any_eq_false.1 e3 r hr
  simp only [badRow, bne_iff_ne, ne_eq, Decidable.not_not] at h
  omega) (by omega)
 rw [hca, hhe, hx1] at g
 exact g
theorem rounds_fit {x : S30} {l1 : List (List (List Int))} {l2 : List (List Int)} {came : List (List (List Int))} {heard : List (List Int)} {x1 : S30} (wf : Wf30 x) (wp : WfP l1) (wt : WfT l2) (h : exchV x l1 l2 = (came, heard, x1, 0)) :
  Fit x1 ∧ (∃ k, jsC.f k came came = some true) ∧ ∃ k, jSP.f k heard heard = some true := by
 obtain ⟨n, hF⟩ := exchV_zero h
 obtain ⟨s, hs⟩ := exchV_only wf wp wt h
 have ft := wf.fitr
 have htop := hF.top
 have hcl := hF.cl
 have hhl := hF.hl
 refine ⟨?_, came_some came (by omega) 17592186044416 17592186044416 (by decide) (by decide) hs.cm, heard.length + 17592186044416 + 1, pay_at heard (by omega) 17592186044416 (by decide) hs.hm _ (by omega)⟩
 rw [hs.x1]
 refine ⟨ft.co, ft.ac, ft.ad, ft.ta, ft.td, ?_, fun a ha => ?_⟩
 ·show (x.f5 ++ s).length < _
  rw [List.length_append]
  have h1 := wf.se.2.1
  have h2 := hs.sl
  omega
 ·rcases List.mem_append.1 ha with ha | ha
  ·exact ft.sd a ha
  ·exact hs.sm a ha
theorem exchV_bad {x : S30} {l1 : List (List (List Int))} {l2 : List (List Int)} {came : List (List (List Int))} {heard : List (List Int)} {x1 : S30} {er : Int} (h : exchV x l1 l2 = (came, heard, x1, er)) (he : er ≠ 0) : came = [] ∧ heard = [] ∧ x1 = z30 := by
 unfold exchV at h
 by_cases hz : chk x ≠ 0
 ·rw [if_pos hz] at h
  simp only [Prod.mk.injEq] at h
  exact ⟨h.1.symm, h.2.1.symm, h.2.2.1.symm⟩
 rw [if_neg hz] at h
 by_cases hl : (l1.length : Int) ≠ x.f0.f1 ∨ (l2.length : Int) ≠ x.f0.f1 ∨ l1.any (badRow x.f0.f1) = true
 ·rw [if_pos hl] at h
  simp only [Prod.mk.injEq] at h
  exact ⟨h.1.symm, h.2.1.symm, h.2.2.1.symm⟩
 rw [if_neg hl] at h
 by_cases hR : x.f4 = 1048576
 ·rw [if_pos hR] at h
  simp only [Prod.mk.injEq] at h
  exact ⟨h.1.symm, h.2.1.symm, h.2.2.1.symm⟩
 rw [if_neg hR] at h
 simp only [Prod.mk.injEq] at h
 exact absurd h.2.2.2.symm he
end
end Go.Proofs.Ytkaikgbcnmfppaa.Nb
namespace Go.Proofs.Ytkaikgbcnmfppaa.Nb
open Go Go.RowKit Go.Proofs.YtkaikgbcnmfppaaW.PrintWords Go.Proofs.YtkaikgbcnmfppaaW.PrintLast Go.Proofs.YtkaikgbcnmfppaaW.PrintMore
attribute [local go_sem] max2_int min2_int max_two min_two max_three min_three max_four min_four
set_option linter.unusedVariables false
set_option linter.unusedSimpArgs false
noncomputable section
set_option maxHeartbeats 8000000 in
set_option maxRecDepth 100000 in
theorem zero.calls (A3 : Option Addr) (c3 : Nat) (A4 : Option Addr) (c4 : Nat) (A5 : Option Addr) (c5 : Nat) (A7 : Option Addr) (c7 : Nat) (w : World) :
  Calls Try.prog 24 #[.agg (wv z30 A3 c3 A4 c4 A5 c5 A7 c7)] w fun e w' => e = .returned (.bool true) ∧ Below w.heap.size w w' := by
 show Calls Try.prog 24 #[.agg #[.int .u64 0, .int .i64 0, .int .i64 0, .slice A3 0 c3, .slice A4 0 c4, .slice A5 0 c5, .int .i64 0, .slice A7 0 c7]] w fun e w' => e = .returned (.bool true) ∧ Below w.heap.size w w'
 have hu30 := Try.underlying30
 have hu24 := Try.underlying24
 go_enter Try.func24, Try.ntmps24
 go_wp2_with ((with_reducible refine gdt (N := 1) rfl ?_); refine bxe ?hg (N := 1) ?hd (cs := #[.int .u64 0, .int .i64 0, .int .i64 0, .slice A3 0 c3, .slice A4 0 c4, .slice A5 0 c5, .int .i64 0, .slice A7 0 c7]) (t := 30) ?hr ?_; (case hd => rfl); (case hg => rfl); (case hr => first | (go_simp; done) | (go_simp; rfl)); intro g2 hg2 w2 hbox hb2; have B2 := Qz.mk hbox; have HB := Qz.mk hb2; clear hg2 hbox hb2; have hx0 : w2.cell? ⟨g2, 0, none⟩ = some (.int .u64 0) := (bc_ B2.out 0).trans rfl; have hx1 : w2.cell? ⟨g2, 1, none⟩ = some (.int .i64 0) := (bc_ B2.out 1).trans rfl; have hx2 : w2.cell? ⟨g2, 2, none⟩ = some (.int .i64 0) := (bc_ B2.out 2).trans rfl; have hx3 : w2.cell? ⟨g2, 3, none⟩ = some (.slice A3 0 c3) := (bc_ B2.out 3).trans rfl; have hx4 : w2.cell? ⟨g2, 4, none⟩ = some (.slice A4 0 c4) := (bc_ B2.out 4).trans rfl; have hx5 : w2.cell? ⟨g2, 5, none⟩ = some (.slice A5 0 c5) := (bc_ B2.out 5).trans rfl; have hx6 : w2.cell? ⟨g2, 6, none⟩ = some (.int .i64 0) := (bc_ B2.out 6).trans rfl; have hx7 : w2.cell? ⟨g2, 7, none⟩ = some (.slice A7 0 c7) := (bc_ B2.out 7).trans rfl)
 go_ret
 exact ⟨rfl, HB.out⟩
end
end Go.Proofs.Ytkaikgbcnmfppaa.Nb
