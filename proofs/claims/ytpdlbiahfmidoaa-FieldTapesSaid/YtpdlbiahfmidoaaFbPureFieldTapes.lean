/- FieldTapes, in plain lists: two draws behind each other are one draw of the sum. -/
import Derived.Test.YtpdlbiahfmidoaaFbTie3
import Derived.Test.YtpdlbiahfmidoaaFbLFieldTapes
namespace Go.Proofs.Ytpdlbiahfmidoaa.Fb
open Go.RowKit Go.Proofs.YtpdlbiahfmidoaaW.PrintWords Go.Proofs.Ytpdlbiahfmidoaa.Num Go.Proofs.Ytpdlbiahfmidoaa.Arith

theorem fill_append (p : Nat) (xs : List Nat) (m n : Nat) : fill p xs m m ++ fill p (xs.drop (min m xs.length)) n n = fill p xs (m + n) (m + n) := by
  refine List.ext_getElem (by simp [fill]) fun j h1 h2 => ?_
  simp only [fill, List.length_map, List.length_range] at h2
  by_cases hj : j < m
  · rw [List.getElem_append_left (by simp [fill]; exact hj)]
    simp only [fill, List.getElem_map, List.getElem_range]
    rw [if_pos hj, if_pos h2]
  · rw [List.getElem_append_right (by simp [fill]; omega)]
    simp only [fill, List.getElem_map, List.getElem_range, List.length_map, List.length_range]
    rw [if_pos (by omega), if_pos h2]
    by_cases hm : m ≤ xs.length
    · rw [Nat.min_eq_left hm]
      simp only [val, List.getD_eq_getElem?_getD, List.getElem?_drop]
      rw [show m + (j - m) = j by omega]
    · rw [Nat.min_eq_right (by omega), List.drop_length, val_big p [] _ (by simp), val_big p xs j (by omega)]

theorem wf_u8 {x : Int} (h : (Lit.int .u8 x).wf = true) : 0 ≤ x ∧ x ≤ 255 := by
  have : (2 : Int) ^ 8 = 256 := by decide
  simp only [Lit.wf, IntKind.min, IntKind.max, IntKind.signed, IntKind.bits, Bool.and_eq_true, decide_eq_true_eq, Bool.false_eq_true, if_false, this] at h
  omega

theorem Pure_FieldTapes : ∀ (a0 : Int) (l1 : List Int) (q0 q1 : Int), (Lit.int .u64 a0).wf = true → l1.length * 8 ≤ 140737488351232 → (∀ x ∈ l1, (Lit.int .u64 x).wf = true) → (Lit.int .u8 q0).wf = true → (Lit.int .u8 q1).wf = true → ∃ k, juntolaw01_FieldTapes.f k a0 l1 q0 q1 = some true := by
  intro a0 l1 q0 q1 w0 hl8 hwf wq0 wq1
  have ⟨h0, h1⟩ := wf_u8 wq0
  have ⟨h2, h3⟩ := wf_u8 wq1
  obtain ⟨p, rfl, hp⟩ := nat_u64 w0
  obtain ⟨xs, rfl, hx⟩ := nats l1 hwf
  obtain ⟨m, rfl⟩ : ∃ m : Nat, q0 = m := ⟨q0.toNat, by omega⟩
  obtain ⟨n, rfl⟩ : ∃ n : Nat, q1 = n := ⟨q1.toNat, by omega⟩
  have hlx : xs.length < 17592186044416 := by simp at hl8; omega
  have hd : (xs.drop (min m xs.length)).length < 17592186044416 := by rw [List.length_drop]; omega
  refine Ev.rounds (g := fun k => juntolaw01_FieldTapes.f k (p : Int) (Arith.cast xs) (m : Int) (n : Int)) ?_
  unfold juntolaw01_FieldTapes.f
  simp only [Option.bind_some]
  refine Ev.pos (by simp; omega) ?_
  rw [w64_in (x := (m : Int)) (by omega) (by omega), w64_in (x := (n : Int)) (by omega) (by omega), w64_in (by omega) (by omega), show (m : Int) + n = ((m + n : Nat) : Int) by omega]
  have d1 := draw_ev p xs hlx (m : Int)
  have d2 := draw_ev p (xs.drop (min m xs.length)) hd (n : Int)
  have d3 := draw_ev p xs hlx ((m + n : Nat) : Int)
  by_cases h : isP p = true
  · rw [if_pos h, if_neg (by omega), Int.toNat_natCast] at d1 d2 d3
    refine d1.bind (d2.bind (d3.bind ((ref_Is_ev p).bind (Ev.pos h (Ev.pos rfl (Ev.pos rfl (Ev.pos rfl ?_)))))))
    refine Ev.pos (by simp [fill]; omega) (Ev.pos (by simp [fill]; omega) ?_)
    simp only [List.nil_append]
    refine Ev.bind (a := true) (Ev.same (same_ev _ _ (by simp [fill]; omega)) (by rw [fill_append]; simp)) (Ev.pos rfl ?_)
    refine Ev.bind (a := true) (Ev.same (same_ev _ _ (by simp; omega)) ?_) (Ev.pos rfl ?_)
    · simp only [decide_eq_true_eq]
      rw [List.drop_drop, List.length_drop]
      congr 2
      omega
    · refine Ev.bind (a := true) (Ev.same (same_ev _ _ (by simp; omega)) (by simp)) (Ev.pos rfl (alive_ev.bind (Ev.now _)))
  · rw [if_neg h] at d1 d3
    have d2' := draw_ev p [] (by simp) (n : Int)
    rw [if_neg h] at d2'
    exact d1.bind (Ev.bind (a := (([] : List Int), ([] : List Int), (2 : Int))) d2' (d3.bind ((ref_Is_ev p).bind (Ev.neg h (Ev.pos rfl (Ev.pos rfl (Ev.pos rfl (alive_ev.bind (Ev.now _)))))))))
end Go.Proofs.Ytpdlbiahfmidoaa.Fb
