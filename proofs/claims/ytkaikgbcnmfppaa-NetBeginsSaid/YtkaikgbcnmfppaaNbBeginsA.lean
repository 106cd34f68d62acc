/- What New comes to, for every argument: both texts. -/
import Derived.Test.YtkaikgbcnmfppaaNbRefNew
import Derived.Test.YtkaikgbcnmfppaaNbRefSame
import Derived.Test.YtkaikgbcnmfppaaNbExchV
namespace Go.Proofs.Ytkaikgbcnmfppaa.Nb
open Go Go.RowKit Go.Proofs.YtkaikgbcnmfppaaW.PrintWords Go.Proofs.YtkaikgbcnmfppaaW.PrintLast Go.Proofs.YtkaikgbcnmfppaaW.PrintMore
open Go.Proofs.Ytkaikgbcnmfppaa.Num Go.Proofs.Ytkaikgbcnmfppaa.Arith
set_option linter.unusedVariables false
set_option linter.unusedSimpArgs false
noncomputable section
theorem Wf30.fit {x : S30} (h : Wf30 x) : Fit x :=
 ⟨by have := h.co.2.1; omega, by have := h.ac.2.1; omega, fun a ha => WfD.lt (h.ac.2.2 a ha).2.2.2, by have := h.ta.2.1; omega, fun i hi => WfD.lt (h.ta.2.2 _ (by rw [List.getD_eq_getElem?_getD, List.getElem?_eq_getElem hi]; exact List.getElem_mem _)), by have := h.se.2.1; omega, fun a ha => WfD.lt (h.se.2.2 a ha).2.2.2⟩
theorem wfD_nil : WfD [] := ⟨Nat.zero_le _, by simp, fun _ h => by cases h⟩
theorem z30_wf : Wf30 z30 := ⟨⟨by decide, by decide, by decide⟩, ⟨Nat.zero_le _, by decide, (fun _ h => by cases h)⟩, ⟨Nat.zero_le _, by decide, (fun _ h => by cases h)⟩, ⟨Nat.zero_le _, by decide, (fun _ h => by cases h)⟩, by decide, ⟨Nat.zero_le _, by decide, (fun _ h => by cases h)⟩⟩
/-- The world that New begins with. -/
def newX (s : S24) (co : List Int) (ta : List (List Int)) (ac : List S72) : S30 := ⟨s, co, ac, ta ++ List.replicate (s.f1.toNat - ta.length) [], 0, []⟩
/-- What New comes to. -/
def newV (s : S24) (co : List Int) (ta : List (List Int)) (ac : List S72) : S30 × Int :=
 if setupV s.f0.toNat s.f1 s.f2 ≠ 0 then (z30, setupV s.f0.toNat s.f1 s.f2)
 else if s.f1 < (ta.length : Int) then (z30, 2)
 else if chk (newX s co ta ac) ≠ 0 then (z30, chk (newX s co ta ac))
 else (newX s co ta ac, 0)
theorem newX_wf {s : S24} {co : List Int} {ta : List (List Int)} {ac : List S72} (hs : Wf24 s) (hc : WfI co) (ht : WfT ta) (ha : WfA ac) (hn : s.f1 ≤ 1000) (hm : ta.length ≤ 1000) : Wf30 (newX s co ta ac) := by
 refine ⟨hs, hc, ha, ⟨?_, ?_, ?_⟩, by simp only [newX]; decide, ⟨Nat.zero_le _, by simp [newX], (fun _ h => by simp [newX] at h)⟩⟩
 ·simp only [newX, List.length_append, List.length_replicate]
  have h1 : maxLen = 9223372036854775807 := by decide
  omega
 ·simp only [newX, List.length_append, List.length_replicate]
  omega
 ·intro d hd
  simp only [newX] at hd
  rcases List.mem_append.1 hd with hd | hd
  ·exact ht.2.2 d hd
  ·rw [List.mem_replicate] at hd
   rw [hd.2]
   exact wfD_nil
section
variable {s : S24} {co : List Int} {ta : List (List Int)} {ac : List S72}
theorem newV_wf (hs : Wf24 s) (hc : WfI co) (ht : WfT ta) (ha : WfA ac) : Wf30 (newV s co ta ac).1 := by
 unfold newV
 by_cases h0 : setupV s.f0.toNat s.f1 s.f2 ≠ 0
 ·rw [if_pos h0]
  exact z30_wf
 rw [if_neg h0]
 have zs := setupV_zero (Classical.byContradiction h0)
 by_cases h1 : s.f1 < (ta.length : Int)
 ·rw [if_pos h1]
  exact z30_wf
 rw [if_neg h1]
 by_cases h2 : chk (newX s co ta ac) ≠ 0
 ·rw [if_pos h2]
  exact z30_wf
 rw [if_neg h2]
 exact newX_wf hs hc ht ha (by omega) (by omega)
theorem new_all (hs : Wf24 s) (A3 : Option Addr) (c3 : Nat) (wc : WfI co) (A5 : Option Addr) (c5 : Nat) (wt : WfT ta) (A4 : Option Addr) (c4 : Nat) (wa : WfA ac) (w : World)
  (h3 : (Kd.int .i64).C w A3 co.length co) (h3l : co.length ≤ c3) (h4 : k72.C w A4 ac.length ac) (h4l : ac.length ≤ c4) (h5 : kD.C w A5 ta.length ta) (h5l : ta.length ≤ c5) :
  Calls Try.prog 15 #[.agg #[.int .u64 s.f0, .int .i64 s.f1, .int .i64 s.f2], .slice A3 co.length c3, .slice A5 ta.length c5, .slice A4 ac.length c4] w (NewPost w (newV s co ta ac).1 (newV s co ta ac).2) := by
 obtain ⟨p, hp, _⟩ := nat_u64 hs.1
 obtain ⟨K1, hK1⟩ := share_Setup_ev p s.f1 s.f2
 have hz : setupV s.f0.toNat s.f1 s.f2 = setupV p s.f1 s.f2 := by rw [hp, Int.toNat_natCast]
 unfold newV
 by_cases h0 : setupV s.f0.toNat s.f1 s.f2 ≠ 0
 ·rw [if_pos h0]
  refine new_setup K1 s.f0 s.f1 s.f2 A3 c3 co A5 c5 ta A4 c4 ac w _ ?_ h0
  rw [hp, Int.toNat_natCast]
  exact hK1 K1 (Nat.le_refl _)
 rw [if_neg h0]
 have h00 : setupV p s.f1 s.f2 = 0 := by rw [← hz]; exact Classical.byContradiction h0
 have zs := setupV_zero h00
 by_cases h1 : s.f1 < (ta.length : Int)
 ·rw [if_pos h1]
  refine new_many K1 s.f0 s.f1 s.f2 A3 c3 co A5 c5 ta A4 c4 ac w ?_ h1
  rw [hp, ← h00]
  exact hK1 K1 (Nat.le_refl _)
 rw [if_neg h1]
 have wf := newX_wf hs wc wt wa (by omega) (by omega)
 obtain ⟨K2, hK2⟩ := wcheck_ev wf
 obtain ⟨K3, hK3⟩ := net_Clone_ev (newX s co ta ac).f0.f0 (newX s co ta ac).f0.f1 (newX s co ta ac).f0.f2 (newX s co ta ac).f1 (newX s co ta ac).f2 (newX s co ta ac).f3 (newX s co ta ac).f4 (newX s co ta ac).f5 wf.small
 have e1 := hK1 (K1 + K2 + K3) (by omega)
 have e2 := hK2 (K1 + K2 + K3) (by omega)
 have e3 := hK3 (K1 + K2 + K3) (by omega)
 generalize K1 + K2 + K3 = k at e1 e2 e3
 clear hK1 hK2 hK3
 by_cases h2 : chk (newX s co ta ac) ≠ 0
 ·rw [if_pos h2]
  obtain ⟨P, N, T⟩ := s
  obtain ⟨n, rfl⟩ : ∃ n : Nat, N = n := ⟨N.toNat, by have := zs.2.1; simp only at this; omega⟩
  simp only at hp hz h0 h00 zs h1 e1 e2 e3 ⊢
  rw [h00, ← hp] at e1
  simp only [newX, Int.toNat_natCast] at e2 e3 h2 ⊢
  exact new_check k n P T A3 c3 co A5 c5 ta A4 c4 ac w e1 (by omega) (by omega) (by omega) h3 h3l h4 h4l h5 h5l _ e2 h2
 ·rw [if_neg h2]
  have h20 : chk (newX s co ta ac) = 0 := Classical.byContradiction h2
  rw [h20] at e2
  clear h20
  obtain ⟨P, N, T⟩ := s
  obtain ⟨n, rfl⟩ : ∃ n : Nat, N = n := ⟨N.toNat, by have := zs.2.1; simp only at this; omega⟩
  simp only at hp hz h0 h00 zs h1 e1 e2 e3 ⊢
  rw [h00, ← hp] at e1
  simp only [newX, Int.toNat_natCast] at e2 e3 h2 ⊢
  exact new_ok k n P T A3 c3 co A5 c5 ta A4 c4 ac w e1 (by omega) (by omega) (by omega) h3 h3l h4 h4l h5 h5l e2 e3
theorem refNew_all (hs : Wf24 s) (A3 : Option Addr) (c3 : Nat) (wc : WfI co) (A5 : Option Addr) (c5 : Nat) (wt : WfT ta) (A4 : Option Addr) (c4 : Nat) (wa : WfA ac) (w : World)
  (h3 : (Kd.int .i64).C w A3 co.length co) (h3l : co.length ≤ c3) (h4 : k72.C w A4 ac.length ac) (h4l : ac.length ≤ c4) (h5 : kD.C w A5 ta.length ta) (h5l : ta.length ≤ c5) :
  Calls Try.prog 16 #[.agg #[.int .u64 s.f0, .int .i64 s.f1, .int .i64 s.f2], .slice A3 co.length c3, .slice A5 ta.length c5, .slice A4 ac.length c4] w (NewPost w (newV s co ta ac).1 (newV s co ta ac).2) := by
 obtain ⟨p, hp, _⟩ := nat_u64 hs.1
 obtain ⟨K1, hK1⟩ := ref_Setup_ev p s.f1 s.f2
 have hz : setupV s.f0.toNat s.f1 s.f2 = setupV p s.f1 s.f2 := by rw [hp, Int.toNat_natCast]
 unfold newV
 by_cases h0 : setupV s.f0.toNat s.f1 s.f2 ≠ 0
 ·rw [if_pos h0]
  refine refNew_setup K1 s.f0 s.f1 s.f2 A3 c3 co A5 c5 ta A4 c4 ac w _ ?_ h0
  rw [hp, Int.toNat_natCast]
  exact hK1 K1 (Nat.le_refl _)
 rw [if_neg h0]
 have h00 : setupV p s.f1 s.f2 = 0 := by rw [← hz]; exact Classical.byContradiction h0
 have zs := setupV_zero h00
 by_cases h1 : s.f1 < (ta.length : Int)
 ·rw [if_pos h1]
  refine refNew_many K1 s.f0 s.f1 s.f2 A3 c3 co A5 c5 ta A4 c4 ac w ?_ h1
  rw [hp, ← h00]
  exact hK1 K1 (Nat.le_refl _)
 rw [if_neg h1]
 have wf := newX_wf hs wc wt wa (by omega) (by omega)
 obtain ⟨K2, hK2⟩ := ref_Check_ev p s.f1 s.f2 co ac (newX s co ta ac).f3 0 []
 have hck : chk (newX s co ta ac) = checkV p s.f1 s.f2 co ac (newX s co ta ac).f3.length 0 := by
  show checkV s.f0.toNat s.f1 s.f2 co ac (newX s co ta ac).f3.length 0 = _
  rw [hp, Int.toNat_natCast]
 have e1 := hK1 (K1 + K2) (by omega)
 have e2 := hK2 (K1 + K2) (by omega)
 rw [← hck] at e2
 generalize K1 + K2 = k at e1 e2
 clear hK1 hK2 hck
 by_cases h2 : chk (newX s co ta ac) ≠ 0
 ·rw [if_pos h2]
  obtain ⟨P, N, T⟩ := s
  obtain ⟨n, rfl⟩ : ∃ n : Nat, N = n := ⟨N.toNat, by have := zs.2.1; simp only at this; omega⟩
  simp only at hp hz h0 h00 zs h1 e1 e2 ⊢
  rw [h00, ← hp] at e1
  rw [← hp] at e2
  simp only [newX, Int.toNat_natCast] at e2 h2 ⊢
  exact refNew_check k n P T A3 c3 co A5 c5 ta A4 c4 ac w e1 (by omega) (by omega) (by omega) h3 h3l h4 h4l h5 h5l _ e2 h2
 ·rw [if_neg h2]
  have h20 : chk (newX s co ta ac) = 0 := Classical.byContradiction h2
  rw [h20] at e2
  clear h20
  obtain ⟨P, N, T⟩ := s
  obtain ⟨n, rfl⟩ : ∃ n : Nat, N = n := ⟨N.toNat, by have := zs.2.1; simp only at this; omega⟩
  simp only at hp hz h0 h00 zs h1 e1 e2 ⊢
  rw [h00, ← hp] at e1
  rw [← hp] at e2
  simp only [newX, Int.toNat_natCast] at e2 h2 ⊢
  exact refNew_ok k n P T A3 c3 co A5 c5 ta A4 c4 ac w e1 (by omega) (by omega) (by omega) h3 h3l h4 h4l h5 h5l e2
end
end
end Go.Proofs.Ytkaikgbcnmfppaa.Nb
