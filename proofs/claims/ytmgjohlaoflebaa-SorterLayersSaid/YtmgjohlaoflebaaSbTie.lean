/- What the checks and the example come to. -/
import Derived.Test.YtmgjohlaoflebaaArith
import Derived.Test.YtmgjohlaoflebaaSb2
import Derived.Test.YtmgjohlaoflebaaSb6
import Derived.Test.YtmgjohlaoflebaaSb8
namespace Go.Proofs.Ytmgjohlaoflebaa.Sb
open Go.RowKit Go.Proofs.YtmgjohlaoflebaaW.PrintWords Go.Proofs.YtmgjohlaoflebaaW.PrintMore Go.Proofs.Ytmgjohlaoflebaa.Num Go.Proofs.Ytmgjohlaoflebaa.Arith
set_option linter.unusedVariables false

theorem alive_true : juntolaw14_alive.f 400 = some true := by decide +kernel
theorem alive_ev : Ev (fun k => juntolaw14_alive.f k) true := Ev.of juntolaw14_alive.mono alive_true

theorem rd53_eq {l : List S53} {i : Nat} (h : i < l.length) : rd_T53 l (i : Int) = l[i] := by
  show l.getD i z53 = _
  rw [List.getD_eq_getElem?_getD, List.getElem?_eq_getElem h]; rfl

/-- The error of a network, in plain words. -/
def checkW (n : Int) (l : List S53) : Int := if n < 0 then 2 else if n > 32 then 2 else if (l.length : Int) > 4096 then 3 else if l.any (badPair n) = true then 13 else 0
theorem sorterCheck_eq (n : Int) (l : List S53) : sorter_Check.f n l = some (checkW n l) := by
  unfold sorter_Check.f checkW
  repeat' split
  all_goals rfl

theorem refCheck_l0 (n : Int) (l : List S53) (hm : l.length ≤ 9223372036854775807) : ∀ (d i : Nat), l.length - i = d → i ≤ l.length →
    Ev (fun k => juntoref14_Check.l0 k n l (l.length : Int) (i : Int)) (if (l.drop i).any (badPair n) = true then 13 else 0) := by
  intro d
  induction d with
  | zero =>
    intro i hd hi
    obtain rfl : i = l.length := by omega
    refine Ev.step (fun k => by simp only [juntoref14_Check.l0]; rfl) ?_
    refine Ev.neg (by omega) (Ev_some ?_)
    simp
  | succ d ih =>
    intro i hd hi
    have hlt : i < l.length := by omega
    refine Ev.step (fun k => by simp only [juntoref14_Check.l0]; rfl) ?_
    refine Ev.pos (by omega) (Ev.pos (by omega) (Ev.pos (by omega) ?_))
    rw [rd53_eq hlt, List.drop_eq_getElem_cons hlt, List.any_cons]
    by_cases h0 : l[i].f0 < 0
    · refine Ev.pos h0 (Ev_some ?_)
      simp [badPair, h0]
    refine Ev.neg h0 ?_
    by_cases h1 : l[i].f0 ≥ l[i].f1
    · refine Ev.pos h1 (Ev_some ?_)
      have : decide (l[i].f1 ≤ l[i].f0) = true := decide_eq_true h1
      simp [badPair, this]
    refine Ev.neg h1 ?_
    by_cases h2 : l[i].f1 ≥ n
    · refine Ev.pos h2 (Ev_some ?_)
      have : decide (n ≤ l[i].f1) = true := decide_eq_true h2
      simp [badPair, this]
    refine Ev.neg h2 ?_
    have hb : badPair n l[i] = false := by
      unfold badPair
      rw [decide_eq_false h0, decide_eq_false (show ¬ n ≤ l[i].f1 from h2), decide_eq_false (show ¬ l[i].f1 ≤ l[i].f0 from h1)]
      rfl
    rw [hb, Bool.false_or, w64_in (by omega) (by omega)]
    exact ih (i + 1) (by omega) (by omega)

theorem refCheck_ev (n : Int) (l : List S53) (hm : l.length ≤ 9223372036854775807) : Ev (fun k => juntoref14_Check.f k n l) (checkW n l) := by
  unfold juntoref14_Check.f checkW
  by_cases h0 : n < 0
  · refine Ev.pos h0 (Ev.step (f := fun _ => some 2) (fun k => ?_) (Ev_some ?_))
    · simp only [juntoref14_Check.j0]; rfl
    · rw [if_pos h0]
  refine Ev.neg h0 ?_
  rw [if_neg h0]
  by_cases h1 : n > 32
  · refine Ev.step (f := fun _ => some 2) (fun k => ?_) (Ev_some ?_)
    · simp only [juntoref14_Check.j0, decide_eq_true h1]; rfl
    · rw [if_pos h1]
  rw [if_neg h1]
  refine Ev.step (fun k => by simp only [juntoref14_Check.j0]; rfl) ?_
  refine Ev.neg (by simpa using h1) ?_
  by_cases h2 : (l.length : Int) > 4096
  · exact Ev.pos h2 (Ev_some (by rw [if_pos h2]))
  refine Ev.neg h2 ?_
  rw [if_neg h2]
  exact refCheck_l0 n l hm l.length 0 rfl (Nat.zero_le _)
end Go.Proofs.Ytmgjohlaoflebaa.Sb
