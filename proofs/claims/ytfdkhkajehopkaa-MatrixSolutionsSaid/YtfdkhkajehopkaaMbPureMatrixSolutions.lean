/- MatrixSolutions, in plain lists. -/
import Derived.Test.YtfdkhkajehopkaaMbLinS
import Derived.Test.YtfdkhkajehopkaaMbTieM
import Derived.Test.YtfdkhkajehopkaaMb0
import Derived.Test.YtfdkhkajehopkaaMb3
import Derived.Test.YtfdkhkajehopkaaMbLMatrixSolutions
namespace Go.Proofs.Ytfdkhkajehopkaa.Mb
open Go.RowKit Go.Proofs.YtfdkhkajehopkaaW.PrintWords Go.Proofs.Ytfdkhkajehopkaa.Num Go.Proofs.Ytfdkhkajehopkaa.Arith
section
variable {p n : Nat} {R : List (List Nat)} {lead x y : List Nat}
theorem solutions_l0 (hP : IsP p) (hn : n ≤ 64) (hR : RInv p n n R lead) (hx : x.length = n) (hxs : ∀ t ∈ x, t < p)
    (hy : ∀ i, i < lead.length → Cg p ((x.getD (lead.getD i 0) 0 : Nat) + sumF (fun k => ((ent R i k : Nat) : Int) * ((x.getD k 0 : Nat) : Int)) (freeN n lead)) (y.getD (lead.getD i 0) 0 : Nat)) : ∀ (d t : Nat) (z : List Nat), (freeN n lead).length - t = d → t ≤ (freeN n lead).length → Sum p n R lead x y t z →
    Ev (fun k => juntolaw03_MatrixSolutions.l0 k (p : Int) (Arith.cast x) (Arith.cast z) (cM (nullM p n R lead)) (Arith.cast (freeN n lead)) ((freeN n lead).length : Int) (t : Int)) true := by
  have h0 : 0 < p := by have := hP.1; omega
  have hp : p ≤ 65537 := hP.2.1
  have hxg : ∀ k, k < n → x.getD k 0 < p := fun k hk => hxs _ (getD_mem (by omega))
  have hfl := freeN_len n lead
  have hRs : ∀ i, i < lead.length → ∀ k, k < n → ent R i k < p := fun i hi k hk => hR.mat.at_ (by have := hR.few; omega) hk
  intro d
  induction d with
  | zero =>
    intro t z hd ht hS
    obtain rfl : t = (freeN n lead).length := by omega
    have e := hS.done hR.cols hx hxg hy
    subst e
    refine Ev.step (fun k => juntolaw03_MatrixSolutions.l0.eq_2 _ _ _ _ _ _ _ k) (Ev.neg (by omega) ?_)
    exact (Ev.same (same_ev _ _ (by rw [cast_len]; omega)) (decide_eq_true rfl)).bind (Ev.pos rfl (alive_ev.bind (Ev.now _)))
  | succ d ih =>
    intro t z hd ht hS
    have htl : t < (freeN n lead).length := by omega
    obtain ⟨z0, hS2⟩ := hS.next h0 hR.asc hR.cols hxg hRs htl
    obtain ⟨hk1, hk2⟩ := freeN_mem.1 (List.getElem_mem htl)
    have hnl : (cM (nullM p n R lead)).length = (freeN n lead).length := by rw [cM_len, nullM, List.length_map]
    have hrow : rd_L1 (cM (nullM p n R lead)) (t : Int) = Arith.cast (nullVec p n R lead (freeN n lead)[t]) := by
      rw [cM_row, gdN (by rw [nullM, List.length_map]; exact htl)]
      simp [nullM]
    refine Ev.step (fun k => juntolaw03_MatrixSolutions.l0.eq_2 _ _ _ _ _ _ _ k) (Ev.pos (by omega) (Ev.pos (by omega) (Ev.pos (by rw [cast_len]; omega) (Ev.pos (by omega) ?_))))
    rw [hrow, cast_len, cast_len, nullVec_len, hx, cast_rd _ t htl, cast_len, hS.len]
    refine Ev.pos rfl (Ev.pos (by omega) (Ev.pos (by omega) ?_))
    have hz : rd (Arith.cast z) (((freeN n lead)[t] : Nat) : Int) = 0 := by
      rw [cast_rd z _ (by rw [hS.len]; exact hk1)]
      rw [List.getD_eq_getElem?_getD, List.getElem?_eq_getElem (by rw [hS.len]; exact hk1)] at z0
      simp only [Option.getD_some] at z0
      omega
    rw [hz]
    refine Ev.step (fun k => juntolaw03_MatrixSolutions.j3.eq_2 _ _ _ _ _ _ _ _ _ _ k) (Ev.neg (by decide) ?_)
    rw [cast_len, hS.len]
    have hnx := ih (t + 1) _ (by omega) (by omega) hS2
    generalize hk : (freeN n lead)[t] = kk at *
    have hvl := nullVec_len p n R lead kk
    have hzl : z.length = (nullVec p n R lead kk).length := by rw [hS.len, hvl]
    have hal : (addY p (x.getD kk 0) z (nullVec p n R lead kk)).length = n := by rw [addY_len hzl, hS.len]
    have hvs : ∀ j, j < n → (nullVec p n R lead kk).getD j 0 < p := fun j hj => by
      by_cases hm : j ∈ lead
      · obtain ⟨i, hi, rfl⟩ := mem_idx hm
        rw [nullVec_lead hR.asc hR.cols kk i hi]; exact Nat.mod_lt _ h0
      · rw [nullVec_free hR.asc hR.cols hk1 hm]; split <;> (have := hP.1; omega)
    have l1 : ∀ (e j : Nat), n - j = e → j ≤ n → Ev (fun k => juntolaw03_MatrixSolutions.l1 k (p : Int) (Arith.cast x) (Arith.cast ((addY p (x.getD kk 0) z (nullVec p n R lead kk)).take j ++ z.drop j)) (cM (nullM p n R lead)) (t : Int) (kk : Int) (Arith.cast (freeN n lead)) ((freeN n lead).length : Int) (t : Int) (n : Int) (j : Int)) true := by
      intro e
      induction e with
      | zero =>
        intro j he hj
        refine Ev.step (fun k => juntolaw03_MatrixSolutions.l1.eq_2 _ _ _ _ _ _ _ _ _ _ _ k) (Ev.neg (by omega) ?_)
        rw [w64_in (by omega) (by omega), List.take_of_length_le (by omega), List.drop_eq_nil_of_le (by rw [hS.len]; omega), List.append_nil]
        exact hnx
      | succ e ihe =>
        intro j he hj
        have hjn : j < n := by omega
        have hjz : j < z.length := by rw [hS.len]; exact hjn
        have hsl : ((addY p (x.getD kk 0) z (nullVec p n R lead kk)).take j ++ z.drop j).length = n := by rw [List.length_append, List.length_take, List.length_drop, hal, hS.len]; omega
        have hsg : ((addY p (x.getD kk 0) z (nullVec p n R lead kk)).take j ++ z.drop j)[j]'(by omega) = z[j] := by
          rw [List.getElem_append_right (by rw [List.length_take]; omega), List.getElem_drop]
          congr 1
          rw [List.length_take]; omega
        refine Ev.step (fun k => juntolaw03_MatrixSolutions.l1.eq_2 _ _ _ _ _ _ _ _ _ _ _ k) (Ev.pos (by omega) (Ev.pos (by omega) (Ev.pos (by rw [cast_len]; omega) (Ev.pos (by omega) (Ev.pos (by rw [cast_len]; omega) (Ev.pos (by omega) (Ev.pos (by omega) ?_)))))))
        rw [hrow, cast_len, hvl]
        refine Ev.pos (by omega) ?_
        rw [cast_rd x kk (by omega), cast_rd _ j (by omega), cast_rd _ j (by omega), hsg]
        have gx : x.getD kk 0 = x[kk]'(by omega) := by rw [List.getD_eq_getElem?_getD, List.getElem?_eq_getElem (by omega)]; rfl
        have gv : (nullVec p n R lead kk).getD j 0 = (nullVec p n R lead kk)[j]'(by omega) := by rw [List.getD_eq_getElem?_getD, List.getElem?_eq_getElem (by omega)]; rfl
        have gz : z.getD j 0 = z[j] := by rw [List.getD_eq_getElem?_getD, List.getElem?_eq_getElem hjz]; rfl
        have b1 := hxg kk hk1
        have b2 := hvs j hjn
        have b3 := hS.small j hjn
        rw [gx] at b1
        rw [gv] at b2
        rw [gz] at b3
        refine Ev.bind0 (refMul_tie h0 hp b1 b2) (Ev.bind0 (refAdd_tie' h0 hp b3 (Nat.mod_lt _ h0)) ?_)
        rw [Int.toNat_natCast, cast_set, w64_in (by omega) (by omega)]
        have hb : (addY p (x.getD kk 0) z (nullVec p n R lead kk)).getD j 0 = (z[j] + x[kk]'(by omega) * (nullVec p n R lead kk)[j]'(by omega) % p) % p := by
          rw [addY_at hzl j hjz, gx, gv, gz]
        have ga : (addY p (x.getD kk 0) z (nullVec p n R lead kk)).getD j 0 = (addY p (x.getD kk 0) z (nullVec p n R lead kk))[j]'(by omega) := by
          rw [List.getD_eq_getElem?_getD, List.getElem?_eq_getElem (by omega)]; rfl
        have e1 : ((addY p (x.getD kk 0) z (nullVec p n R lead kk)).take j ++ z.drop j).set j ((z[j] + x[kk]'(by omega) * (nullVec p n R lead kk)[j]'(by omega) % p) % p) = (addY p (x.getD kk 0) z (nullVec p n R lead kk)).take (j + 1) ++ z.drop (j + 1) := by
          rw [List.drop_eq_getElem_cons hjz, List.set_append_right _ _ (by rw [List.length_take]; omega), List.length_take, Nat.min_eq_left (by omega), Nat.sub_self, List.set_cons_zero, List.take_succ_eq_append_getElem (by omega), List.append_assoc, List.singleton_append]
          congr 2
          exact hb.symm.trans ga
        rw [e1]
        exact ihe (j + 1) (by omega) (by omega)
    have h2 := l1 n 0 (by omega) (by omega)
    rw [List.take_zero, List.nil_append, List.drop_zero] at h2
    exact h2
end
theorem Pure_MatrixSolutions : ∀ (a0 : Int) (l1 : List (List Int)) (l2 : List Int), (Lit.int .u64 a0).wf = true → WfRows l1 → l2.length * 8 ≤ 140737488351232 → (∀ x ∈ l2, (Lit.int .u64 x).wf = true) → ∃ k, juntolaw03_MatrixSolutions.f k a0 l1 l2 = some true := by
  intro a0 l1 l2 w0 w1 h2 w2
  obtain ⟨p, rfl, hp⟩ := nat_u64 w0
  obtain ⟨m, rfl⟩ := mats l1 w1
  obtain ⟨x, rfl, hx⟩ := nats l2 w2
  have hxl : x.length < 9223372036854775807 := by simp at h2; omega
  refine Ev.rounds (g := fun k => juntolaw03_MatrixSolutions.f k (p : Int) (cM m) (Arith.cast x)) ?_
  unfold juntolaw03_MatrixSolutions.f
  have bad : Ev (fun k => juntolaw03_MatrixSolutions.j0 k (p : Int) (cM m) (Arith.cast x) true) true :=
    Ev.step (fun k => juntolaw03_MatrixSolutions.j0.eq_2 _ _ _ _ k) (Ev.pos rfl (alive_ev.bind (Ev.now _)))
  by_cases hc : chkM p m = 0
  · have G := chkM_zero hc
    refine (Ev.same (ref_Check1_ev p m) hc).bind (Ev.pos rfl (Ev.pos (by rw [cM_len]; have := G.one; omega) ?_))
    rw [cM_row0, cast_len, cast_len]
    by_cases h1 : x.length = (row0 m).length
    · refine Ev.pos (by omega) ((within_ev p x hxl).bind ?_)
      by_cases h3 : below p x = 0
      · rw [h3]
        have hxs := below_zero.1 h3
        obtain ⟨y, a1, a2, a3, a4, a5, a6⟩ := sol_spec G h1 hxs
        obtain ⟨hR, hRl⟩ := G.inv
        have hcols := G.cols
        have hrows := G.rows
        have hvl := applyN_len p m x
        have hvs : ∀ t ∈ applyN p m x, t < p := by
          intro t ht
          obtain ⟨r, _, rfl⟩ := List.mem_map.1 ht
          exact dot_lt G.p0 _ _
        have eA : applyR p m x = (Arith.cast (applyN p m x), 0) := by unfold applyR; rw [if_pos hc, if_pos h1, if_pos h3]
        refine Ev.step (fun k => juntolaw03_MatrixSolutions.j0.eq_2 _ _ _ _ k) (Ev.neg (by decide) ((Ev.same (matrix_Apply_ev p m x hxl) eA).bind ?_))
        have hS := matrix_Solve_ev p m (applyN p m x) (by omega) a1
        rw [if_pos hc, if_pos hvl, if_pos (below_zero.2 hvs), if_pos rfl] at hS
        refine hS.bind ((Ev.same (matrix_Null_ev p m) (if_pos hc)).bind ((refFree_ev G).bind (Ev.pos rfl ?_)))
        rw [cast_len, cast_len, cast_len, cM_len, nullM, List.length_map, a2]
        refine Ev.pos (by omega) (Ev.pos rfl ?_)
        have hys : ∀ t ∈ y, t < p := by
          intro t ht
          obtain ⟨i, hi, rfl⟩ := List.mem_iff_getElem.1 ht
          have := a3 i (by omega)
          rwa [List.getD_eq_getElem?_getD, List.getElem?_eq_getElem hi] at this
        refine (refApply_ev G y a2 hys).bind ((Ev.same (same_ev _ _ (by rw [cast_len, applyN_len]; omega)) (decide_eq_true (by rw [a4]))).bind ?_)
        refine Ev.step (fun k => juntolaw03_MatrixSolutions.j1.eq_2 _ _ _ _ _ _ k) (Ev.neg (by decide) ?_)
        rw [cast_len]
        refine solutions_l0 (R := rowsN p (row0 m).length m) (lead := leadN p (row0 m).length m) (y := y) G.prime hcols hR h1 hxs a6 (freeN (row0 m).length (leadN p (row0 m).length m)).length 0 y (by omega) (by omega) ⟨a2, a3, fun k hk hkl => ?_, fun i hi => ?_⟩
        · rw [List.take_zero, if_neg (by simp)]; exact a5 k hkl
        · rw [List.take_zero]; exact Cg.of (by simp [sumF])
      · have h3' : below p x = 2 := below_two.resolve_left h3
        rw [h3']
        exact bad
    · exact Ev.neg (by omega) bad
  · exact (ref_Check1_ev p m).bind (Ev.neg hc bad)
end Go.Proofs.Ytfdkhkajehopkaa.Mb
