/- FieldDraws, in plain lists: the program's draw is the reference's. -/
import Derived.Test.YtpdlbiahfmidoaaFbTie3
import Derived.Test.YtpdlbiahfmidoaaFbLFieldDraws
namespace Go.Proofs.Ytpdlbiahfmidoaa.Fb
open Go.RowKit Go.Proofs.YtpdlbiahfmidoaaW.PrintWords Go.Proofs.Ytpdlbiahfmidoaa.Num Go.Proofs.Ytpdlbiahfmidoaa.Arith

theorem Pure_FieldDraws : juntolaw01_FieldDraws.Pure := by
  intro a0 l1 n w0 hl hl8 hwf w2
  obtain ⟨p, rfl, hp⟩ := nat_u64 w0
  obtain ⟨xs, rfl, hx⟩ := nats l1 hwf
  have hlx : xs.length < 17592186044416 := by simp at hl8; omega
  refine Ev.rounds (g := fun k => juntolaw01_FieldDraws.f k (p : Int) (cast xs) n) ?_
  unfold juntolaw01_FieldDraws.f
  refine (draw_ev p xs hlx n).bind ((ref_Is_ev p).bind ?_)
  have bad : ∀ (bt : List Int × List Int × Int), bt = (([] : List Int), ([] : List Int), (2 : Int)) → Ev (fun k => juntolaw01_FieldDraws.j0 k (p : Int) (cast xs) n bt.1 bt.2.1 bt.2.2 true) true := by
    rintro _ rfl
    refine Ev.step (fun k => by simp only [juntolaw01_FieldDraws.j0]; rfl) ?_
    exact Ev.pos (by simp) (Ev.pos (by simp) (Ev.pos (by simp) (Ev.pos (by simp) (alive_ev.bind (Ev.now _)))))
  by_cases h : isP p = true
  · have h3 := (isP_iff.1 h).1
    refine Ev.pos h ?_
    by_cases hn : n < 0
    · exact Ev.pos hn (bad _ (by rw [if_pos h, if_pos (.inl hn)]))
    · refine Ev.neg hn ?_
      by_cases hb : n > 65536
      · rw [decide_eq_true hb]
        exact bad _ (by rw [if_pos h, if_pos (.inr hb)])
      · rw [decide_eq_false hb, if_pos h, if_neg (by omega)]
        obtain ⟨m, rfl⟩ : ∃ m : Nat, n = m := ⟨n.toNat, by omega⟩
        rw [Int.toNat_natCast]
        refine Ev.step (fun k => by simp only [juntolaw01_FieldDraws.j0]; rfl) ?_
        refine Ev.neg (by simp) ((refDraw_ev p (by omega) xs hlx m (by omega)).bind (Ev.pos (by simp) ((same_ev _ _ (by rw [fill_length]; omega)).bind (Ev.pos (by simp) ((same_ev _ _ (by simp; omega)).bind (Ev.pos (by simp) (alive_ev.bind (Ev.now _))))))))
  · refine Ev.neg h ?_
    exact bad _ (by rw [if_neg h])
end Go.Proofs.Ytpdlbiahfmidoaa.Fb
