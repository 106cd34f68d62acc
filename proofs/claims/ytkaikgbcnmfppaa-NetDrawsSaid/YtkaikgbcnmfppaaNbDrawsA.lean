/- What Draw comes to, for every argument: both texts. -/
import Derived.Test.YtkaikgbcnmfppaaNbDraw
import Derived.Test.YtkaikgbcnmfppaaNbDrawn
import Derived.Test.YtkaikgbcnmfppaaNbExchV
import Derived.Test.YtkaikgbcnmfppaaNbRefSame
import Derived.Test.YtkaikgbcnmfppaaNbFRef17DrawError
namespace Go.Proofs.Ytkaikgbcnmfppaa.Nb
open Go Go.RowKit Go.Proofs.YtkaikgbcnmfppaaW.PrintWords Go.Proofs.YtkaikgbcnmfppaaW.PrintLast Go.Proofs.YtkaikgbcnmfppaaW.PrintMore
open Go.Proofs.Ytkaikgbcnmfppaa.Num Go.Proofs.Ytkaikgbcnmfppaa.Arith
set_option linter.unusedVariables false
set_option linter.unusedSimpArgs false
noncomputable section
theorem Wf30.fits {x : S30} (h : Wf30 x) : Fit x :=
 ⟨by have := h.co.2.1; omega, by have := h.ac.2.1; omega, fun a ha => WfD.lt (h.ac.2.2 a ha).2.2.2, by have := h.ta.2.1; omega, fun i hi => WfD.lt (h.ta.2.2 _ (by rw [List.getD_eq_getElem?_getD, List.getElem?_eq_getElem hi]; exact List.getElem_mem _)), by have := h.se.2.1; omega, fun a ha => WfD.lt (h.se.2.2 a ha).2.2.2⟩
/-- The error of a call of Draw. -/
def drawE (x : S30) (a n : Int) : Int := if chk x = 0 then (if a < 1 then 2 else if a > x.f0.f1 then 2 else if n < 0 then 2 else if n > 65536 then 2 else 0) else chk x
theorem drawE_ev {x : S30} (wf : Wf30 x) (a n : Int) : Ev (fun k => juntoref17_DrawError.f k x.f0.f0 x.f0.f1 x.f0.f2 x.f1 x.f2 x.f3 x.f4 x.f5 a n) (drawE x a n) := by
 obtain ⟨p, hp, _⟩ := nat_u64 wf.s.1
 have hc : chk x = checkV p x.f0.f1 x.f0.f2 x.f1 x.f2 x.f3.length x.f4 := by
  unfold chk
  rw [hp, Int.toNat_natCast]
 unfold juntoref17_DrawError.f drawE
 rw [hp, hc]
 refine (ref_Check_ev p x.f0.f1 x.f0.f2 x.f1 x.f2 x.f3 x.f4 x.f5).bind ?_
 by_cases h0 : checkV p x.f0.f1 x.f0.f2 x.f1 x.f2 x.f3.length x.f4 = 0
 ·refine Ev.same (Ev.pos h0 ?_) (if_pos h0).symm
  by_cases h1 : a < 1
  ·exact Ev.same (Ev.pos h1 (Ev.now _)) (if_pos h1).symm
  refine Ev.same (Ev.neg h1 ?_) (if_neg h1).symm
  by_cases h2 : a > x.f0.f1
  ·exact Ev.same (Ev.pos h2 (Ev.now _)) (if_pos h2).symm
  refine Ev.same (Ev.neg h2 ?_) (if_neg h2).symm
  by_cases h3 : n < 0
  ·exact Ev.same (Ev.pos h3 (Ev.now _)) (if_pos h3).symm
  refine Ev.same (Ev.neg h3 ?_) (if_neg h3).symm
  by_cases h4 : n > 65536
  ·exact Ev.same (Ev.pos h4 (Ev.now _)) (if_pos h4).symm
  ·exact Ev.same (Ev.neg h4 (Ev.now _)) (if_neg h4).symm
 ·exact Ev.same (Ev.neg h0 (Ev.now _)) (if_neg h0).symm
section
variable {x : S30} {a n : Int}
theorem tape_wf (wf : Wf30 x) {j : Nat} (hj : j < x.f3.length) : (x.f3.getD j []).length < 17592186044416 ∧ ∀ n ∈ x.f3.getD j [], (Lit.int .u64 n).wf = true := by
 have h := wf.ta.2.2 (x.f3.getD j []) (by rw [List.getD_eq_getElem?_getD, List.getElem?_eq_getElem hj]; exact List.getElem_mem _)
 exact ⟨WfD.lt h, h.2.2⟩
theorem draws_bad (wf : Wf30 x) (h : drawE x a n ≠ 0) (A3 : Option Addr) (c3 : Nat) (A4 : Option Addr) (c4 : Nat) (A5 : Option Addr) (c5 : Nat) (A7 : Option Addr) (c7 : Nat) (w : World) (hx : k30.K w x (wv x A3 c3 A4 c4 A5 c5 A7 c7).toList) :
  Calls Try.prog 37 #[.agg (wv x A3 c3 A4 c4 A5 c5 A7 c7), .int .i64 a, .int .i64 n] w (DrawPost w [] z30 (drawE x a n)) := by
 obtain ⟨K1, hK1⟩ := wcheck_ev wf
 have hc := hK1 K1 (Nat.le_refl _)
 simp only at hc
 unfold drawE at h ⊢
 by_cases h0 : chk x = 0
 ·rw [if_pos h0] at h ⊢
  rw [h0] at hc
  obtain ⟨z1, z2, z3, z4, z5, z6⟩ := checkV_zero h0
  have zs := setupV_zero (corrV_zero z1).1
  by_cases h1 : a < 1
  ·rw [if_pos h1]
   exact draw_low K1 x A3 c3 A4 c4 A5 c5 A7 c7 a n w hx hc h1
  rw [if_neg h1] at h ⊢
  by_cases h2 : a > x.f0.f1
  ·rw [if_pos h2]
   exact draw_high K1 x A3 c3 A4 c4 A5 c5 A7 c7 a n w hx hc h1 h2
  rw [if_neg h2] at h ⊢
  obtain ⟨j, rfl⟩ : ∃ j : Nat, a = (j : Int) + 1 := ⟨(a - 1).toNat, by omega⟩
  have hj : j < x.f3.length := by omega
  obtain ⟨p, hp, _⟩ := nat_u64 wf.s.1
  have hbad : n < 0 ∨ n > 65536 := by
   by_cases h3 : n < 0
   ·exact .inl h3
   rw [if_neg h3] at h
   by_cases h4 : n > 65536
   ·exact .inr h4
   rw [if_neg h4] at h
   exact absurd rfl h
  have e2 : (if n < 0 then (2 : Int) else if n > 65536 then 2 else 0) = 2 := by
   rcases hbad with q | q
   ·rw [if_pos q]
   ·rw [if_neg (by omega), if_pos q]
  rw [e2]
  obtain ⟨K2, hK2⟩ := draw_not (p := p) (tape_wf wf hj) hbad
  have g1 := hK1 (K1 + K2) (by omega)
  have g2 := hK2 (K1 + K2) (by omega)
  simp only at g1 g2
  rw [h0] at g1
  rw [← hp] at g2
  exact draw_no (K1 + K2) x A3 c3 A4 c4 A5 c5 A7 c7 n w hx j g1 (by omega) (by omega) z2 (by omega) 2 g2 (by decide)
 ·rw [if_neg h0]
  exact draw_bad K1 x A3 c3 A4 c4 A5 c5 A7 c7 a n w hx _ hc h0
theorem draws_good (wf : Wf30 x) (h : drawE x a n = 0) : ∃ l x1, Fit x1 ∧ l.length < 17592186044416 ∧
  (∀ (A3 : Option Addr) (c3 : Nat) (A4 : Option Addr) (c4 : Nat) (A5 : Option Addr) (c5 : Nat) (A7 : Option Addr) (c7 : Nat) (w : World), k30.K w x (wv x A3 c3 A4 c4 A5 c5 A7 c7).toList → Calls Try.prog 37 #[.agg (wv x A3 c3 A4 c4 A5 c5 A7 c7), .int .i64 a, .int .i64 n] w (DrawPost w l x1 0)) ∧
  (∀ (A3 : Option Addr) (c3 : Nat) (A4 : Option Addr) (c4 : Nat) (A5 : Option Addr) (c5 : Nat) (A7 : Option Addr) (c7 : Nat) (w : World), k30.K w x (wv x A3 c3 A4 c4 A5 c5 A7 c7).toList → Calls Try.prog 39 #[.agg (wv x A3 c3 A4 c4 A5 c5 A7 c7), .int .i64 a, .int .i64 n] w (DrawnPost w l x1)) := by
 obtain ⟨K1, hK1⟩ := wcheck_ev wf
 unfold drawE at h
 by_cases h0 : chk x = 0
 ·rw [if_pos h0] at h
  obtain ⟨z1, z2, z3, z4, z5, z6⟩ := checkV_zero h0
  have zs := setupV_zero (corrV_zero z1).1
  have h1 : ¬ a < 1 := fun q => by rw [if_pos q] at h; exact absurd h (by decide)
  rw [if_neg h1] at h
  have h2 : ¬ a > x.f0.f1 := fun q => by rw [if_pos q] at h; exact absurd h (by decide)
  rw [if_neg h2] at h
  have h3 : ¬ n < 0 := fun q => by rw [if_pos q] at h; exact absurd h (by decide)
  rw [if_neg h3] at h
  have h4 : ¬ n > 65536 := fun q => by rw [if_pos q] at h; exact absurd h (by decide)
  obtain ⟨j, rfl⟩ : ∃ j : Nat, a = (j : Int) + 1 := ⟨(a - 1).toNat, by omega⟩
  have hj : j < x.f3.length := by omega
  obtain ⟨p, hp, _⟩ := nat_u64 wf.s.1
  have hp2 : isP p = true := by
   have := zs.1
   rw [hp, Int.toNat_natCast] at this
   exact this
  obtain ⟨l, r, hll, hrl, ⟨K2, hK2⟩, ⟨K3, hK3⟩⟩ := draw_both hp2 (tape_wf wf hj) (show 0 ≤ n by omega) (show n ≤ 65536 by omega)
  have g1 := hK1 (K1 + K2 + K3) (by omega)
  have g2 := hK2 (K1 + K2 + K3) (by omega)
  have g3 := hK3 (K1 + K2 + K3) (by omega)
  simp only at g1 g2 g3
  rw [h0] at g1
  rw [← hp] at g2 g3
  have ft := wf.fits
  have hdl := (tape_wf wf hj).1
  refine ⟨l, ⟨x.f0, x.f1, x.f2, x.f3.set j r, x.f4, x.f5⟩, ⟨ft.co, ft.ac, ft.ad, by simpa using ft.ta, fun i hi => ?_, ft.se, ft.sd⟩, by omega, fun A3 c3 A4 c4 A5 c5 A7 c7 w hx => ?_, fun A3 c3 A4 c4 A5 c5 A7 c7 w hx => ?_⟩
  ·have hi2 : i < x.f3.length := by simpa using hi
   show ((x.f3.set j r).getD i []).length < _
   rw [List.getD_eq_getElem?_getD, List.getElem?_set]
   by_cases e : j = i
   ·subst e
    rw [if_pos rfl, if_pos hi2]
    simp only [Option.getD_some]
    omega
   ·rw [if_neg e, ← List.getD_eq_getElem?_getD]
    exact ft.td i hi2
  ·exact draw_ok (K1 + K2 + K3) x A3 c3 A4 c4 A5 c5 A7 c7 n w hx j g1 (by omega) (by omega) z2 (by omega) l r g2 wf.small
  ·exact drawn_ok (K1 + K2 + K3) x A3 c3 A4 c4 A5 c5 A7 c7 n w hx j hj (by omega) l r g3
 ·rw [if_neg h0] at h
  exact absurd h h0
end
end
end Go.Proofs.Ytkaikgbcnmfppaa.Nb
