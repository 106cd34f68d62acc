/- Two stores behind each other into one row of bools. -/
import Derived.Test.YtmgjohlaoflebaaSbTwo
namespace Go.Proofs.Ytmgjohlaoflebaa.Sb
open Go.RowKit Go.Proofs.YtmgjohlaoflebaaW.PrintWords Go.Proofs.YtmgjohlaoflebaaW.PrintLast Go.Proofs.YtmgjohlaoflebaaW.PrintMore
set_option linter.unusedVariables false
theorem two_bools {e g cap n base : Nat} {ok : Nat → Prop} {W : World} {xs : List Bool} (h : Kd.R Kd.bool e W base ok (.slice (some ⟨g, 0, none⟩) n cap) xs) (i j : Int) (x y : Bool) :
    Kd.R Kd.bool e ((W.setCell ⟨g, i.toNat, none⟩ (.bool x)).setCell ⟨g, j.toNat, none⟩ (.bool y)) base ok (.slice (some ⟨g, 0, none⟩) n cap) ((xs.set i.toNat x).set j.toNat y) ∧
      W.grownBy ((W.setCell ⟨g, i.toNat, none⟩ (.bool x)).setCell ⟨g, j.toNat, none⟩ (.bool y)) (some g) := by
  have s1 := Kd.R_putg h i x
  have s2 := Kd.R_putg s1.1 j y
  exact ⟨s2.1, s1.2.trans s2.2⟩
theorem two_bools_facts {e g cap n base : Nat} {ok : Nat → Prop} {W : World} {xs : List Bool} (h : Kd.R Kd.bool e W base ok (.slice (some ⟨g, 0, none⟩) n cap) xs) (i j : Int) (x : Bool) (pi : 0 ≤ i) (qi : i < (n : Int)) (pj : 0 ≤ j) (qj : j < (n : Int)) :
    W.cell? ⟨g, i.toNat, none⟩ = some (.bool (rdOf false xs i)) ∧ W.frozen? ⟨g, i.toNat, none⟩ = false ∧ W.cell? ⟨g, j.toNat, none⟩ = some (.bool (rdOf false xs j)) ∧ W.frozen? ⟨g, j.toNat, none⟩ = false ∧
      (W.setCell ⟨g, i.toNat, none⟩ (.bool x)).drew.cell? ⟨g, j.toNat, none⟩ = some (.bool (rdOf false (xs.set i.toNat x) j)) :=
  ⟨(Kd.R_celln false h i pi qi).1, (Kd.R_celln false h i pi qi).2, (Kd.R_celln false h j pj qj).1, (Kd.R_celln false h j pj qj).2, (Kd.R_celln false (Kd.R_drew (Kd.R_putg h i x).1) j pj qj).1⟩
theorem boolrow_ne {e g cap n base b t : Nat} {ok : Nat → Prop} {W : World} {xs : List Bool} {cells : Array Value} (h : Kd.R Kd.bool e W base ok (.slice (some ⟨g, 0, none⟩) n cap) xs) (hb : W.heap[b]? = some (.cells cells t (0, 0))) (hne : e ≠ t) : g ≠ b := by
  have := Kd.R_ne h hb hne
  intro he
  subst he
  exact this (by simp [Value.ownBlock])
end Go.Proofs.Ytmgjohlaoflebaa.Sb
