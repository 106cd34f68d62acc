/- net.Exchange for every argument, and what a round comes to. -/
import Derived.Test.YtkaikgbcnmfppaaNbExch
import Derived.Test.YtkaikgbcnmfppaaNbClone
import Derived.Test.YtkaikgbcnmfppaaNbTie
import Derived.Test.YtkaikgbcnmfppaaNbOpen
namespace Go.Proofs.Ytkaikgbcnmfppaa.Nb
open Go Go.RowKit Go.Proofs.YtkaikgbcnmfppaaW.PrintWords Go.Proofs.YtkaikgbcnmfppaaW.PrintLast Go.Proofs.YtkaikgbcnmfppaaW.PrintMore
open Go.Proofs.Ytkaikgbcnmfppaa.Num Go.Proofs.Ytkaikgbcnmfppaa.Arith
set_option linter.unusedVariables false
set_option linter.unusedSimpArgs false
noncomputable section
theorem actBad_zero {N : Int} {co : List Int} {prev : List S72} {a : S72} (h : actBad N co prev a = 0) : a.f1 ∈ co ∧ 0 ≤ a.f2 ∧ a.f2 ≤ N ∧ a.f2 ≠ a.f1 ∧ 1 ≤ a.f0 ∧ a.f4.length ≤ 65536 ∧ prev.any (same a) = false := by
 unfold actBad at h
 by_cases hc : a.f1 ∉ co ∨ a.f2 < 0 ∨ N < a.f2 ∨ a.f2 = a.f1 ∨ a.f0 < 1
 ·rw [if_pos hc] at h
  exact absurd h (by decide)
 rw [if_neg hc] at h
 by_cases hd : 65536 < a.f4.length
 ·rw [if_pos hd] at h
  exact absurd h (by decide)
 rw [if_neg hd] at h
 by_cases he : prev.any (same a) = true
 ·rw [if_pos he] at h
  exact absurd h (by decide)
 refine ⟨Classical.byContradiction fun q => hc (.inl q), Classical.byContradiction fun q => hc (.inr (.inl (by omega))), Classical.byContradiction fun q => hc (.inr (.inr (.inl (by omega)))), fun q => hc (.inr (.inr (.inr (.inl q)))), Classical.byContradiction fun q => hc (.inr (.inr (.inr (.inr (by omega))))), by omega, by simpa using he⟩
theorem actsV_zero {N : Int} {co : List Int} : ∀ (l prev : List S72), actsV N co prev l = 0 → l.Pairwise (fun a b => same b a = false) ∧ (∀ b ∈ l, prev.any (same b) = false) ∧ ∀ a ∈ l, a.f1 ∈ co ∧ 0 ≤ a.f2 ∧ a.f2 ≤ N ∧ a.f2 ≠ a.f1 ∧ 1 ≤ a.f0 ∧ a.f4.length ≤ 65536
 | [], prev, _ => ⟨List.Pairwise.nil, (fun b h => absurd h List.not_mem_nil), (fun a h => absurd h List.not_mem_nil)⟩
 | a :: l, prev, h => by
  by_cases hb : actBad N co prev a = 0
  ·rw [actsV_good _ hb] at h
   obtain ⟨h1, h2, h3⟩ := actsV_zero l (prev ++ [a]) h
   obtain ⟨g1, g2, g3, g4, g5, g6, g7⟩ := actBad_zero hb
   have h4 : ∀ b ∈ l, prev.any (same b) = false ∧ same b a = false := fun b hb => by
    have := h2 b hb
    rw [List.any_append, Bool.or_eq_false_iff] at this
    exact ⟨this.1, by simpa using this.2⟩
   refine ⟨List.Pairwise.cons (fun b hb => (h4 b hb).2) h1, fun b hb => ?_, fun b hb => ?_⟩
   ·rcases List.mem_cons.1 hb with rfl | hb
    ·exact g7
    ·exact (h4 b hb).1
   ·rcases List.mem_cons.1 hb with rfl | hb
    ·exact ⟨g1, g2, g3, g4, g5, g6⟩
    ·exact h3 b hb
  ·rw [actsV_bad l rfl hb] at h
   exact absurd h hb
theorem acts_apart {N : Int} {co : List Int} {l : List S72} (h : actsV N co [] l = 0) (R : Int) : apart (now R l) := by
 have h1 := (actsV_zero l [] h).1
 unfold apart now
 refine (List.Pairwise.and_mem.1 (List.Pairwise.filter _ h1)).imp ?_
 rintro a b ⟨ha, hb, hs⟩ ⟨e1, e2⟩
 have ha := (List.mem_filter.1 ha).2
 have hb := (List.mem_filter.1 hb).2
 simp only [beq_iff_eq] at ha hb
 simp [same, ha, hb, e1, e2] at hs
theorem checkV_zero {p : Nat} {N T : Int} {co : List Int} {la : List S72} {tn : Nat} {R : Int} (h : checkV p N T co la tn R = 0) : corrV p N T co = 0 ∧ (tn : Int) = N ∧ 0 ≤ R ∧ R ≤ 1048576 ∧ la.length ≤ 65536 ∧ actsV N co [] la = 0 := by
 unfold checkV at h
 by_cases hc : corrV p N T co = 0
 ·rw [if_pos hc] at h
  by_cases hd : (tn : Int) = N ∧ 0 ≤ R ∧ R ≤ 1048576
  ·rw [if_pos hd] at h
   by_cases he : 65536 < la.length
   ·rw [if_pos he] at h
    exact absurd h (by decide)
   ·rw [if_neg he] at h
    exact ⟨hc, hd.1, hd.2.1, hd.2.2, by omega, h⟩
  ·rw [if_neg hd] at h
   exact absurd h (by decide)
 ·rw [if_neg hc] at h
  exact absurd h hc
/-- The error of a world. -/
def chk (x : S30) : Int := checkV x.f0.f0.toNat x.f0.f1 x.f0.f2 x.f1 x.f2 x.f3.length x.f4
theorem wcheck_ev {x : S30} (wf : Wf30 x) : Ev (fun k => wcheck k x) (chk x) := by
 obtain ⟨p, hp, _⟩ := nat_u64 wf.s.1
 have h := net_Check_ev p x.f0.f1 x.f0.f2 x.f1 x.f2 x.f3 x.f4 x.f5
 unfold wcheck chk
 rw [hp]
 exact h
theorem WfD.lt {l : List Int} (h : WfD l) : l.length < 17592186044416 := by have := h.2.1; omega
theorem Wf30.small {x : S30} (h : Wf30 x) : Small x.f1 x.f2 x.f3 x.f5 :=
 ⟨by have := h.co.2.1; omega, by have := h.ac.2.1; omega, fun a ha => WfD.lt (h.ac.2.2 a ha).2.2.2, by have := h.ta.2.1; omega, fun d hd => WfD.lt (h.ta.2.2 d hd), by have := h.se.2.1; omega, fun a ha => WfD.lt (h.se.2.2 a ha).2.2.2⟩
theorem eff_small {B : Nat} {l : List S72} {f t : Int} {d : List Int} (hl : ∀ a ∈ l, a.f4.length < B) (hd : d.length < B) : (eff l f t d).length < B := by
 unfold eff
 split
 ·rename_i a ha
  have := hl a (List.mem_of_find?_eq_some ha)
  split
  ·simp; omega
  ·exact this
 ·exact hd
/-- What Exchange comes to. -/
def exchV (x : S30) (l1 : List (List (List Int))) (l2 : List (List Int)) : List (List (List Int)) × List (List Int) × S30 × Int :=
 if chk x ≠ 0 then ([], [], z30, chk x)
 else if (l1.length : Int) ≠ x.f0.f1 ∨ (l2.length : Int) ≠ x.f0.f1 ∨ l1.any (badRow x.f0.f1) = true then ([], [], z30, 2)
 else if x.f4 = 1048576 then ([], [], z30, 8)
 else ((iRun (now (x.f4 + 1) x.f2) (x.f4 + 1) x.f0.f1.toNat l1 l2 x.f5 x.f0.f1.toNat).1, (iRun (now (x.f4 + 1) x.f2) (x.f4 + 1) x.f0.f1.toNat l1 l2 x.f5 x.f0.f1.toNat).2.1, ⟨x.f0, x.f1, x.f2, x.f3, x.f4 + 1, (iRun (now (x.f4 + 1) x.f2) (x.f4 + 1) x.f0.f1.toNat l1 l2 x.f5 x.f0.f1.toNat).2.2⟩, 0)
theorem exch_all (x : S30) (wf : Wf30 x) (A3 : Option Addr) (c3 : Nat) (A4 : Option Addr) (c4 : Nat) (A5 : Option Addr) (c5 : Nat) (A7 : Option Addr) (c7 : Nat) (A1 : Option Addr) (c1 : Nat) (l1 : List (List (List Int))) (wp : WfP l1) (A2 : Option Addr) (c2 : Nat) (l2 : List (List Int)) (wt : WfT l2) (w : World)
  (hx : k30.K w x (wv x A3 c3 A4 c4 A5 c5 A7 c7).toList) (h1 : (Kd.slice 51 kD).C w A1 l1.length l1) (h2 : kD.C w A2 l2.length l2) :
  Calls Try.prog 20 #[.agg (wv x A3 c3 A4 c4 A5 c5 A7 c7), .slice A1 l1.length c1, .slice A2 l2.length c2] w (ExchPost w (exchV x l1 l2).1 (exchV x l1 l2).2.1 (exchV x l1 l2).2.2.1 (exchV x l1 l2).2.2.2) := by
 obtain ⟨K1, hK1⟩ := wcheck_ev wf
 obtain ⟨K2, hK2⟩ := net_Clone_ev x.f0.f0 x.f0.f1 x.f0.f2 x.f1 x.f2 x.f3 x.f4 x.f5 wf.small
 have hc := hK1 (max K1 K2) (by omega)
 have hcl := hK2 (max K1 K2) (by omega)
 generalize max K1 K2 = k at hc hcl
 clear hK1 hK2
 have hl1 : l1.length < 9223372036854775807 := by have := wp.2.1; omega
 unfold exchV
 by_cases hz : chk x ≠ 0
 ·rw [if_pos hz]
  exact exch_bad k x A3 c3 A4 c4 A5 c5 A7 c7 A1 c1 l1 A2 c2 l2 w hx _ hc hz
 rw [if_neg hz]
 have hz0 : chk x = 0 := Classical.byContradiction hz
 simp only at hc
 rw [hz0] at hc
 by_cases hl : (l1.length : Int) ≠ x.f0.f1 ∨ (l2.length : Int) ≠ x.f0.f1 ∨ l1.any (badRow x.f0.f1) = true
 ·rw [if_pos hl]
  by_cases e1 : (l1.length : Int) = x.f0.f1
  ·by_cases e2 : (l2.length : Int) = x.f0.f1
   ·have e3 : l1.any (badRow x.f0.f1) = true := hl.elim (fun q => absurd e1 q) (fun q => q.elim (fun q => absurd e2 q) id)
    exact exch_rows k x A3 c3 A4 c4 A5 c5 A7 c7 A1 c1 l1 A2 c2 l2 w hx hc e1 e2 h1 hl1 e3
   ·exact exch_len2 k x A3 c3 A4 c4 A5 c5 A7 c7 A1 c1 l1 A2 c2 l2 w hx hc e1 e2
  ·exact exch_len1 k x A3 c3 A4 c4 A5 c5 A7 c7 A1 c1 l1 A2 c2 l2 w hx hc e1
 rw [if_neg hl]
 have e1 : (l1.length : Int) = x.f0.f1 := Classical.byContradiction fun q => hl (.inl q)
 have e2 : (l2.length : Int) = x.f0.f1 := Classical.byContradiction fun q => hl (.inr (.inl q))
 have e3 : l1.any (badRow x.f0.f1) = false := by simpa using fun q => hl (.inr (.inr q))
 by_cases hR : x.f4 = 1048576
 ·rw [if_pos hR]
  exact exch_state k x A3 c3 A4 c4 A5 c5 A7 c7 A1 c1 l1 A2 c2 l2 w hx hc e1 e2 h1 hl1 e3 hR
 rw [if_neg hR]
 obtain ⟨z1, z2, z3, z4, z5, z6⟩ := checkV_zero hz0
 have zs := setupV_zero (corrV_zero z1).1
 obtain ⟨⟨P, N, T⟩, co, ac, ta, R, se⟩ := x
 obtain ⟨n, rfl⟩ : ∃ n : Nat, N = n := ⟨N.toNat, by have := zs.2.1; simp only at this; omega⟩
 simp only at hc hcl e1 e2 e3 hR z2 z3 z4 z5 z6 zs ⊢
 rw [Int.toNat_natCast]
 refine exch_ok k n P T R co ac ta se A3 c3 A4 c4 A5 c5 A7 c7 A1 c1 l1 A2 c2 l2 w hx hc hcl h1 h2 (by omega) (by omega) z3 (by omega) z5 (acts_apart z6 _) (by omega) (by omega) ?_ ?_ ?_
 ·intro r hr
  have h := List.any_eq_false.1 e3 r hr
  simp only [badRow, bne_iff_ne, ne_eq, Decidable.not_not] at h
  omega
 ·have h := wf.se.2.1
  simp only at h
  have h5 : n * (n + 1) ≤ 13 * 14 := Nat.mul_le_mul (by omega) (by omega)
  omega
 ·intro f t d hd
  refine eff_small (fun a ha => ?_) ?_
  ·have h := (wf.ac.2.2 a (List.mem_filter.1 ha).1).2.2.2
   exact WfD.lt h
  ·rcases hd with hd | ⟨r, hr, hd⟩
   ·exact WfD.lt (wt.2.2 d hd)
   ·exact WfD.lt ((wp.2.2 r hr).2.2 d hd)
end
end Go.Proofs.Ytkaikgbcnmfppaa.Nb
