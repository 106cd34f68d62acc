/- MatrixRanks, in plain lists. -/
import Derived.Test.YtfdkhkajehopkaaMbTieQ
import Derived.Test.YtfdkhkajehopkaaMbTieM
import Derived.Test.YtfdkhkajehopkaaMb0
import Derived.Test.YtfdkhkajehopkaaMb3
import Derived.Test.YtfdkhkajehopkaaMbLMatrixRanks
namespace Go.Proofs.Ytfdkhkajehopkaa.Mb
open Go.RowKit Go.Proofs.YtfdkhkajehopkaaW.PrintWords Go.Proofs.Ytfdkhkajehopkaa.Num Go.Proofs.Ytfdkhkajehopkaa.Arith
theorem Pure_MatrixRanks : ∀ (a0 : Int) (l1 l2 : List (List Int)), (Lit.int .u64 a0).wf = true → WfRows l1 → WfRows l2 → ∃ k, juntolaw03_MatrixRanks.f k a0 l1 l2 = some true := by
  intro a0 l1 l2 w0 w1 w2
  obtain ⟨p, rfl, hp⟩ := nat_u64 w0
  obtain ⟨a, rfl⟩ := mats l1 w1
  obtain ⟨b, rfl⟩ := mats l2 w2
  refine Ev.rounds (g := fun k => juntolaw03_MatrixRanks.f k (p : Int) (cM a) (cM b)) ?_
  unfold juntolaw03_MatrixRanks.f
  have alive_j1 : ∀ x7 : Int, Ev (fun k => juntolaw03_MatrixRanks.j1 k (p : Int) (cM a) (cM b) x7 true) true := fun x7 =>
    Ev.step (fun k => juntolaw03_MatrixRanks.j1.eq_2 _ _ _ _ _ k) (Ev.pos rfl (alive_ev.bind (Ev.now _)))
  by_cases hc : chkM p a = 0
  · have Ga := chkM_zero hc
    have h3 := Ga.prime.1
    by_cases hc2 : chkM p b = 0
    · have Gb := chkM_zero hc2
      have eC : (if chkM p a = 0 then chkM p b else chkM p a) = 0 := by rw [if_pos hc, hc2]
      refine (Ev.same (ref_Check2_ev p a b) eC).bind (Ev.pos rfl ?_)
      have eR : reduceR p a = (cM (rowsN p (row0 a).length a), Arith.cast (leadN p (row0 a).length a), 0) := by unfold reduceR; rw [if_pos hc]
      have hrank : Ev (fun k => matrix_Rank.f k (p : Int) (cM a)) (((leadN p (row0 a).length a).length : Int), 0) := by
        unfold matrix_Rank.f
        refine (Ev.same (matrix_Reduce_ev p a) eR).bind (Ev.same (Ev.now _) ?_)
        rw [cast_len]
      refine hrank.bind ((Ev.same (matrix_Null_ev p a) (if_pos hc)).bind (Ev.pos rfl (Ev.pos (by rw [cM_len]; have := Ga.one; omega) ?_)))
      obtain ⟨hR, hRl⟩ := Ga.inv
      have hcols := Ga.cols
      have hrows := Ga.rows
      have hone := Ga.one
      have htot := free_total hR.asc hR.cols
      have hnl : (cM (nullM p (row0 a).length (rowsN p (row0 a).length a) (leadN p (row0 a).length a))).length = (freeN (row0 a).length (leadN p (row0 a).length a)).length := by rw [cM_len, nullM, List.length_map]
      rw [cM_row0, cast_len, hnl, w64_in (by omega) (by omega)]
      rw [show (((leadN p (row0 a).length a).length : Int) + ((freeN (row0 a).length (leadN p (row0 a).length a)).length : Int) != ((row0 a).length : Int)) = false from bne_eq_false_iff_eq.mpr (by omega)]
      refine Ev.step (fun k => juntolaw03_MatrixRanks.j0.eq_2 _ _ _ _ _ k) (Ev.neg (by decide) (Ev.pos (by rw [cM_len]; omega) ?_))
      rw [cM_row0, cM_row0, cast_len, cast_len, cM_len, cM_len]
      by_cases hs : (row0 a).length = a.length
      · refine Ev.pos (by omega) (Ev.pos (by have := Gb.one; omega) ?_)
        by_cases hs2 : (row0 b).length = b.length
        · refine Ev.pos (by omega) ?_
          by_cases hab : a.length = b.length
          · rw [show ((a.length : Int) != (b.length : Int)) = false from bne_eq_false_iff_eq.mpr (by omega)]
            have Ma := Ga.mat
            have Mb := Gb.mat
            rw [hs] at Ma
            rw [hs2, ← hab] at Mb
            have hM := mulN_mat (p := p) (w := a.length) (by omega) a b
            have hMl := mulN_len p a.length a b
            have eM : mulR p a b = (cM (mulN p a.length a b), 0) := by unfold mulR; rw [if_pos hc, if_pos hc2, if_pos (by omega), hs2, hab]
            obtain ⟨hcM, hr0⟩ := chk_mat Ga.prime hM (by omega) (by omega) hone hrows
            refine Ev.step (fun k => juntolaw03_MatrixRanks.j1.eq_2 _ _ _ _ _ k) (Ev.neg (by decide) ?_)
            have dA := matrix_Det_ev p a
            have dB := matrix_Det_ev p b
            have dM := matrix_Det_ev p (mulN p a.length a b)
            rw [if_pos hc, if_pos hs] at dA
            rw [if_pos hc2, if_pos hs2] at dB
            rw [if_pos hcM, hr0, if_pos hMl.symm] at dM
            refine dA.bind (dB.bind ((Ev.same (matrix_Mul_ev p a b) eM).bind (dM.bind (Ev.pos rfl ?_))))
            have lA := detN_lt Ga.prime Ma rfl
            have lB := detN_lt Ga.prime Mb hab.symm
            refine Ev.bind0 (refMul_tie (by omega) Ga.prime.2.1 lA lB) (Ev.pos (by rw [det_mul Ga.prime Ma rfl Mb hab.symm]) ?_)
            have hz : detN p a = 0 ↔ (leadN p a.length a).length < a.length := det_zero Ga.prime Ma rfl
            refine Ev.pos ?_ (alive_ev.bind (Ev.now _))
            rw [cM_len, hs]
            by_cases hf : (leadN p a.length a).length < a.length
            · rw [hz.2 hf, decide_eq_true (by omega)]; rfl
            · rw [decide_eq_false (by omega), show (((detN p a : Nat) : Int) == 0) = false from beq_eq_false_iff_ne.mpr (by have := mt hz.1 hf; omega)]; rfl
          · rw [show ((a.length : Int) != (b.length : Int)) = true from bne_iff_ne.mpr (by omega)]
            exact alive_j1 _
        · exact Ev.neg (by omega) (alive_j1 _)
      · exact Ev.neg (by omega) (alive_j1 _)
    · have eC : (if chkM p a = 0 then chkM p b else chkM p a) = chkM p b := if_pos hc
      exact (Ev.same (ref_Check2_ev p a b) eC).bind (Ev.neg hc2 (alive_ev.bind (Ev.now _)))
  · have eC : (if chkM p a = 0 then chkM p b else chkM p a) = chkM p a := if_neg hc
    exact (Ev.same (ref_Check2_ev p a b) eC).bind (Ev.neg hc (alive_ev.bind (Ev.now _)))
end Go.Proofs.Ytfdkhkajehopkaa.Mb
