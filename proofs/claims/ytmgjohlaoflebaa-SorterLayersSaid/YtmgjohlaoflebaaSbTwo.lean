/- Two stores behind each other into one row of whole numbers. -/
import Derived.Test.YtmgjohlaoflebaaSb0
namespace Go.Proofs.Ytmgjohlaoflebaa.Sb
open Go.RowKit Go.Proofs.YtmgjohlaoflebaaW.PrintWords Go.Proofs.YtmgjohlaoflebaaW.PrintLast Go.Proofs.YtmgjohlaoflebaaW.PrintMore
set_option linter.unusedVariables false
def put2 (W : World) (g i j : Nat) (u v : Value) : World := ((W.setCell ⟨g, i, none⟩ u).setCell ⟨g, j, none⟩ v).drew
structure Put2 (k : IntKind) (e g cap n : Nat) (ok : Nat → Prop) (w W W2 : World) (ys : List Int) : Prop where
  row : Kd.R (Kd.int k) e W2 w.heap.size ok (.slice (some ⟨g, 0, none⟩) n cap) ys
  below : Below w.heap.size w W → Below w.heap.size w W2
  blk : ∀ (b t : Nat) (cells : Array Value), e ≠ t → W.heap[b]? = some (.cells cells t (0, 0)) → W2.heap[b]? = some (.cells cells t (0, 0))
  other : ∀ (k' : IntKind) (e' : Nat) (v : Value) (ok' : Nat → Prop) (xs : List Int), e' ≠ e → Kd.R (Kd.int k') e' W w.heap.size ok' v xs → Kd.R (Kd.int k') e' W2 w.heap.size ok' v xs
theorem put2_row {k : IntKind} {e g cap n : Nat} {ok : Nat → Prop} {w W : World} {xs : List Int} (h : Kd.R (Kd.int k) e W w.heap.size ok (.slice (some ⟨g, 0, none⟩) n cap) xs) (hg : w.heap.size ≤ g) (i j : Int) (x y : Int) :
    Put2 k e g cap n ok w W (put2 W g i.toNat j.toNat (.int k x) (.int k y)) ((xs.set i.toNat x).set j.toNat y) := by
  have s1 := Kd.R_putg h i x
  have s2 := Kd.R_putg s1.1 j y
  refine ⟨Kd.R_drew s2.1, fun hB => below_drew1 (below_set (below_set hB hg) hg), ?_, ?_⟩
  · intro b t cells hne hb
    have b1 := blk_grown hb s1.2 (Kd.R_ne h hb hne)
    exact blk_drew (blk_grown b1 s2.2 (Kd.R_ne s1.1 b1 hne))
  · intro k' e' v ok' ys hne hr
    have r1 := Kd.R_over' (v := (.slice (some ⟨g, 0, none⟩) n cap)) hr (Kd.R_typed h) (fun q hq => by rcases List.mem_cons.1 hq with h_ | h_; exact h_ ▸ hne; exact absurd (show q ∈ ([] : List Nat) from h_) List.not_mem_nil) s1.2
    exact Kd.R_drew (Kd.R_over' (v := (.slice (some ⟨g, 0, none⟩) n cap)) r1 (Kd.R_typed s1.1) (fun q hq => by rcases List.mem_cons.1 hq with h_ | h_; exact h_ ▸ hne; exact absurd (show q ∈ ([] : List Nat) from h_) List.not_mem_nil) s2.2)
/-- What the walk of a region 'xs[i], xs[j] = u, v' asks, at the world behind its first store. -/
theorem put2_facts {k : IntKind} {e g cap n : Nat} {ok : Nat → Prop} {W : World} {base : Nat} {xs : List Int} (h : Kd.R (Kd.int k) e W base ok (.slice (some ⟨g, 0, none⟩) n cap) xs) (i j : Int) (x : Int) (pi : 0 ≤ i) (qi : i < (n : Int)) (pj : 0 ≤ j) (qj : j < (n : Int)) :
    W.cell? ⟨g, i.toNat, none⟩ = some (.int k (rd xs i)) ∧ W.frozen? ⟨g, i.toNat, none⟩ = false ∧ W.cell? ⟨g, j.toNat, none⟩ = some (.int k (rd xs j)) ∧ W.frozen? ⟨g, j.toNat, none⟩ = false ∧
      (W.setCell ⟨g, i.toNat, none⟩ (.int k x)).drew.cell? ⟨g, j.toNat, none⟩ = some (.int k (rd (xs.set i.toNat x) j)) :=
  ⟨(Kd.R_celln 0 h i pi qi).1, (Kd.R_celln 0 h i pi qi).2, (Kd.R_celln 0 h j pj qj).1, (Kd.R_celln 0 h j pj qj).2, (Kd.R_celln 0 (Kd.R_drew (Kd.R_putg h i x).1) j pj qj).1⟩
theorem blk_ne_row {k : IntKind} {e g cap n base b t : Nat} {ok : Nat → Prop} {W : World} {xs : List Int} {cells : Array Value} (h : Kd.R (Kd.int k) e W base ok (.slice (some ⟨g, 0, none⟩) n cap) xs) (hb : W.heap[b]? = some (.cells cells t (0, 0))) (hne : e ≠ t) : g ≠ b := by
  have := Kd.R_ne h hb hne
  intro he
  subst he
  exact this (by simp [Value.ownBlock])
theorem put2_S {α : Type} {d : Kd α} {k : IntKind} {e g cap n base e' : Nat} {ok ok' : Nat → Prop} {W : World} {xs : List Int} {v' : Value} {zs : List α} (h : Kd.R (Kd.int k) e W base ok (.slice (some ⟨g, 0, none⟩) n cap) xs) (hs : Kd.S d e' W base ok' v' zs)
    (ht : ∀ q, q ∈ e' :: d.E → q ≠ e) (i j : Int) (x y : Int) : Kd.S d e' (put2 W g i.toNat j.toNat (.int k x) (.int k y)) base ok' v' zs :=
  Kd.S_drew (Kd.S_over' (v := (.slice (some ⟨g, 0, none⟩) n cap)) (Kd.S_over' (v := (.slice (some ⟨g, 0, none⟩) n cap)) hs (Kd.R_typed h) ht (Kd.R_putg h i x).2) (Kd.R_typed (Kd.R_putg h i x).1) ht (Kd.R_putg (Kd.R_putg h i x).1 j y).2)
end Go.Proofs.Ytmgjohlaoflebaa.Sb
