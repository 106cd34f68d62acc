/- FieldRoots, in plain numbers: the lesser square root is what the search finds first. -/
import Derived.Test.YtpdlbiahfmidoaaFbTie5
import Derived.Test.YtpdlbiahfmidoaaFbLFieldRoots
namespace Go.Proofs.Ytpdlbiahfmidoaa.Fb
open Go.RowKit Go.Proofs.YtpdlbiahfmidoaaW.PrintWords Go.Proofs.Ytpdlbiahfmidoaa.Num Go.Proofs.Ytpdlbiahfmidoaa.Arith

theorem refRoot_l0 {p a : Nat} (h3 : 3 ≤ p) (hp : p ≤ 65537) (r : Option Nat) (hr : ∀ m, r = some m → m ≤ p / 2 ∧ m * m % p = a) (hn : ∀ x, x ≤ p / 2 → (∀ m, r = some m → x < m) → ¬ x * x % p = a) :
    ∀ (d x : Nat), p - x = d → x ≤ p → (∀ m, r = some m → x ≤ m) → Ev (fun k => juntoref01_Root.l0 k (p : Int) (a : Int) (x : Int)) (match r with | some m => (((m : Nat) : Int), true) | none => ((0 : Int), false)) := by
  have ed : IntKind.u64.wrap (Int.tdiv (p : Int) 2) = ((p / 2 : Nat) : Int) := by
    have : Int.tdiv (p : Int) 2 = ((p / 2 : Nat) : Int) := tdiv_nat p 2
    rw [this, u64_in (by omega) (by omega)]
  intro d
  induction d with
  | zero =>
    intro x hd hx hm
    refine Ev.step (fun k => by simp only [juntoref01_Root.l0]; rfl) ?_
    rw [ed]
    refine Ev.neg (by omega) (Ev_some ?_)
    cases r with
    | none => rfl
    | some m =>
      have := hm m rfl
      have := (hr m rfl).1
      omega
  | succ d ih =>
    intro x hd hx hm
    refine Ev.step (fun k => by simp only [juntoref01_Root.l0]; rfl) ?_
    rw [ed]
    by_cases hle : x ≤ p / 2
    · refine Ev.pos (by omega) (Ev.bind0 (refMul_tie (by omega) hp (show x < p by omega) (show x < p by omega)) ?_)
      by_cases hsq : x * x % p = a
      · refine Ev.pos (by omega) (Ev_some ?_)
        cases r with
        | none => exact absurd hsq (hn x hle (by simp))
        | some m =>
          have h1 := hm m rfl
          have : x = m := by
            apply Classical.byContradiction
            intro hne
            exact hn x hle (fun m' h' => by cases h'; omega) hsq
          subst this
          rfl
      · refine Ev.neg (by omega) ?_
        rw [u64_in (by omega) (by omega)]
        refine ih (x + 1) (by omega) (by omega) (fun m h' => ?_)
        have h1 := hm m h'
        by_cases hxm : x = m
        · subst hxm
          exact absurd (hr x h').2 hsq
        · omega
    · refine Ev.neg (by omega) (Ev_some ?_)
      cases r with
      | none => rfl
      | some m =>
        have := hm m rfl
        have := (hr m rfl).1
        omega

theorem Pure_FieldRoots : juntolaw01_FieldRoots.Pure := by
  intro a0 a1 w0 w1
  obtain ⟨p, rfl, hp⟩ := nat_u64 w0
  obtain ⟨a, rfl, ha⟩ := nat_u64 w1
  refine Ev.rounds (g := fun k => juntolaw01_FieldRoots.f k (p : Int) (a : Int)) ?_
  unfold juntolaw01_FieldRoots.f
  have hR := right_ev p [a] (by simp)
  refine (Square_ev p a).bind ?_
  by_cases h : right p [a] = 0
  · have hg := right_zero.1 h
    have hP := hg.1
    have h3 := hP.1
    have hp' := hP.2.1
    have hap : a < p := hg.2 a (by simp)
    rw [h] at hR
    simp only [if_pos h]
    rcases Root_ev h with ⟨hev, hno⟩ | ⟨hyes, R, hR1, hR2, hev⟩
    · rw [decide_eq_false hno]
      refine hev.bind (hR.bind (Ev.pos rfl ?_))
      have := refRoot_l0 (p := p) (a := a) h3 hp' none (by simp) (fun x _ _ hsq => hno (half_of_sq hP hsq)) p 0 (by omega) (by omega) (by simp)
      refine Ev.bind (a := ((0 : Int), false)) this ?_
      exact Ev.neg (by simp) (Ev.neg (by simp) (Ev.pos (by simp) (Ev.bind0 (is_tie _ _ _ _) (Ev.pos (by simp) (alive_ev.bind (Ev.now _))))))
    · rw [decide_eq_true hyes]
      refine hev.bind (hR.bind (Ev.pos rfl ?_))
      have hl := less_half h3 hP.odd hR1
      have hl2 := less_sq h3 hR1
      have := refRoot_l0 (p := p) (a := a) h3 hp' (some (less p R)) (by rintro m ⟨⟩; exact ⟨hl.1, by rw [hl2, hR2]⟩) (fun x hx hm hsq => by
        have hm' := hm _ rfl
        have := same_sq hP.pr (show x < p by omega) hl.2 (by rw [hsq, hl2, hR2])
        omega) p 0 (by omega) (by omega) (by simp)
      refine Ev.bind (a := (((less p R : Nat) : Int), true)) this ?_
      refine Ev.pos (by simp) (Ev.pos (by simp) (Ev.pos (by simp) (Ev.bind0 (is_tie _ _ _ _) (Ev_some ?_))))
      simp
  · have h2 := (right_two p [a]).resolve_left h
    rw [h2] at hR
    simp only [if_neg h]
    refine (Root_bad h).bind (hR.bind (Ev.neg (by decide) (Ev.neg (by simp) (Ev.pos (by simp) (Ev.bind0 (is_tie _ _ _ _) (Ev.pos (by simp) (alive_ev.bind (Ev.now _))))))))
end Go.Proofs.Ytpdlbiahfmidoaa.Fb
