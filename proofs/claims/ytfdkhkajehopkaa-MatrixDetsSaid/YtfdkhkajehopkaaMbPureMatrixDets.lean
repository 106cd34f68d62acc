/- MatrixDets, in plain lists. -/
import Derived.Test.YtfdkhkajehopkaaMbTieQ
import Derived.Test.YtfdkhkajehopkaaMbTieL
import Derived.Test.YtfdkhkajehopkaaMbLMatrixDets
namespace Go.Proofs.Ytfdkhkajehopkaa.Mb
open Go.RowKit Go.Proofs.YtfdkhkajehopkaaW.PrintWords Go.Proofs.Ytfdkhkajehopkaa.Num Go.Proofs.Ytfdkhkajehopkaa.Arith
theorem dets_j1_bad (p : Nat) (m : List (List Nat)) (e bad : Int) (h : bad ≠ 0) (he : e = bad) : Ev (fun k => juntolaw03_MatrixDets.j1 k (p : Int) (cM m) 0 e [] e bad) true :=
  Ev.step (fun k => juntolaw03_MatrixDets.j1.eq_2 _ _ _ _ _ _ _ k) (Ev.neg h (Ev.pos rfl (Ev.pos he ((is_bad [] e bad h he).bind (Ev.pos rfl (alive_ev.bind (Ev.now _)))))))
theorem Pure_MatrixDets : ∀ (a0 : Int) (l1 : List (List Int)), (Lit.int .u64 a0).wf = true → WfRows l1 → ∃ k, juntolaw03_MatrixDets.f k a0 l1 = some true := by
  intro a0 l1 w0 w1
  obtain ⟨p, rfl, hp⟩ := nat_u64 w0
  obtain ⟨m, rfl⟩ := mats l1 w1
  refine Ev.rounds (g := fun k => juntolaw03_MatrixDets.f k (p : Int) (cM m)) ?_
  unfold juntolaw03_MatrixDets.f
  by_cases hc : chkM p m = 0
  · have G := chkM_zero hc
    have h3 := G.prime.1
    by_cases hs : (row0 m).length = m.length
    · have hm := G.mat
      rw [hs] at hm
      have hn1 := G.one
      have hn := G.rows
      have hd := det_zero G.prime hm rfl
      have eD : (if chkM p m = 0 then (if (row0 m).length = m.length then (((detN p m : Nat) : Int), (0 : Int)) else (0, 2)) else (0, chkM p m)) = (((detN p m : Nat) : Int), 0) := by rw [if_pos hc, if_pos hs]
      have enter : ∀ I : List (List Int) × Int, Ev (fun k => matrix_Inverse.f k (p : Int) (cM m)) I → Ev (fun k => juntolaw03_MatrixDets.j1 k (p : Int) (cM m) ((detN p m : Nat) : Int) 0 I.1 I.2 0) true → Ev (fun k => (matrix_Det.f k (p : Int) (cM m)).bind fun bt224 => ((matrix_Inverse.f k (p : Int) (cM m)).bind fun bt226 => ((ref_Check1.f k (p : Int) (cM m)).bind fun t230 => (if t230 = 0 then (if 0 < ((cM m).length : Int) then (juntolaw03_MatrixDets.j0 k (p : Int) (cM m) bt224.1 bt224.2 bt226.1 bt226.2 t230 (((cM m).length : Int) != ((rd_L1 (cM m) 0).length : Int))) else (none)) else (juntolaw03_MatrixDets.j0 k (p : Int) (cM m) bt224.1 bt224.2 bt226.1 bt226.2 t230 false))))) true := fun I hI h => by
        refine (Ev.same (matrix_Det_ev p m) eD).bind (hI.bind ((Ev.same (ref_Check1_ev p m) hc).bind (Ev.pos rfl (Ev.pos (by rw [cM_len]; omega) ?_))))
        rw [cM_row0, cast_len, cM_len, hs, show ((m.length : Int) != (m.length : Int)) = false from bne_eq_false_iff_eq.mpr rfl]
        exact Ev.step (fun k => juntolaw03_MatrixDets.j0.eq_2 _ _ _ _ _ _ _ _ k) (Ev.neg (by decide) h)
      by_cases hf : (redN p m.length 0 m 1 []).2.2.length < m.length
      · have h0 := hd.2 hf
        refine enter ([], 7) (Ev.same (matrix_Inverse_ev p m) (by rw [if_pos hc, if_pos hs, if_pos hf])) ?_
        rw [h0]
        refine Ev.step (fun k => juntolaw03_MatrixDets.j1.eq_2 _ _ _ _ _ _ _ k) (Ev.pos rfl ((Ev.same (refDet_ev G.prime hm rfl hn) (show ((detN p m : Nat) : Int) = 0 by rw [h0]; rfl)).bind (Ev.pos rfl (Ev.pos rfl (Ev.pos rfl ?_)))))
        exact (is_bad [] 7 7 (by decide) rfl).bind (Ev.pos rfl (alive_ev.bind (Ev.now _)))
      · have h0 : detN p m ≠ 0 := fun h => hf (hd.1 h)
        have hI := inverseN_mat G.prime hm rfl
        refine enter (cM (inverseN p m), 0) (Ev.same (matrix_Inverse_ev p m) (by rw [if_pos hc, if_pos hs, if_neg hf])) ?_
        refine Ev.step (fun k => juntolaw03_MatrixDets.j1.eq_2 _ _ _ _ _ _ _ k) (Ev.pos rfl ((refDet_ev G.prime hm rfl hn).bind (Ev.neg (by omega) (Ev.pos rfl (Ev.pos rfl ?_)))))
        refine (refInverse_ev G.prime hm rfl hn1 hn).bind ?_
        have hlen : ∀ r ∈ cM (inverseN p m), r.length < 9223372036854775807 := fun r hr => by
          obtain ⟨r', hr', rfl⟩ := List.mem_map.1 hr
          rw [cast_len, hI.1.wide r' hr']
          omega
        refine (is_ok _ _ rfl (by rw [cM_len, hI.2]; omega) hlen).bind (Ev.pos rfl ?_)
        refine (refMul_ev (by omega) G.prime.2.1 hm hI.1 hI.2 hn1 (by omega) (by omega) (by omega)).bind ?_
        rw [cM_len]
        refine (one_ev m.length (by omega)).bind ?_
        rw [mul_inverse G.prime hm rfl hf]
        refine (Ev.same (sameM_ev _ _ (by rw [cM_len, identN_len]; omega) (fun r hr => ?_)) (decide_eq_true rfl)).bind (Ev.now _)
        obtain ⟨r', hr', rfl⟩ := List.mem_map.1 hr
        rw [cast_len, (identN_mat p m.length (by omega)).wide r' hr']
        omega
    · refine (Ev.same (matrix_Det_ev p m) (by rw [if_pos hc, if_neg hs] : _ = ((0 : Int), (2 : Int)))).bind ((Ev.same (matrix_Inverse_ev p m) (by rw [if_pos hc, if_neg hs] : _ = (([] : List (List Int)), (2 : Int)))).bind ((Ev.same (ref_Check1_ev p m) hc).bind (Ev.pos rfl (Ev.pos (by rw [cM_len]; have := G.one; omega) ?_))))
      rw [cM_row0, cast_len, cM_len, show ((m.length : Int) != ((row0 m).length : Int)) = true from bne_iff_ne.mpr (by omega)]
      exact Ev.step (fun k => juntolaw03_MatrixDets.j0.eq_2 _ _ _ _ _ _ _ _ k) (Ev.pos rfl (dets_j1_bad p m 2 2 (by decide) rfl))
  · refine (Ev.same (matrix_Det_ev p m) (by rw [if_neg hc] : _ = ((0 : Int), chkM p m))).bind ((Ev.same (matrix_Inverse_ev p m) (by rw [if_neg hc] : _ = (([] : List (List Int)), chkM p m))).bind ((ref_Check1_ev p m).bind (Ev.neg hc ?_)))
    exact Ev.step (fun k => juntolaw03_MatrixDets.j0.eq_2 _ _ _ _ _ _ _ _ k) (Ev.neg (by decide) (dets_j1_bad p m _ _ hc rfl))
end Go.Proofs.Ytfdkhkajehopkaa.Mb
