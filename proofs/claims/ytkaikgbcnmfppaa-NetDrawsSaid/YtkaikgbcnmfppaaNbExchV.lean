/- What Draw comes to, in plain lists: both texts. juntoref17.Zero walked at the zero world. juntoref17.Act walked. Made by mk_refact.py. net.Exchange for every argument, and what a round comes to. -/
import Derived.Test.YtkaikgbcnmfppaaNbTie3
import Derived.Test.YtkaikgbcnmfppaaNbOpen
import Derived.Test.YtkaikgbcnmfppaaNbFFieldDraw
import Derived.Test.YtkaikgbcnmfppaaNbFRef1Draw
import Derived.Test.YtkaikgbcnmfppaaNbWide
import Derived.Test.YtkaikgbcnmfppaaNbExch
import Derived.Test.YtkaikgbcnmfppaaNbTie
namespace Go.Proofs.Ytkaikgbcnmfppaa.Nb
open Go Go.RowKit Go.Proofs.YtkaikgbcnmfppaaW.PrintWords Go.Proofs.YtkaikgbcnmfppaaW.PrintLast Go.Proofs.YtkaikgbcnmfppaaW.PrintMore
open Go.Proofs.Ytkaikgbcnmfppaa.Num Go.Proofs.Ytkaikgbcnmfppaa.Arith
set_option linter.unusedVariables false
set_option linter.unusedSimpArgs false
theorem draw_ev (p : Nat) (xs : List Nat) (hl : xs.length < 17592186044416) (n : Int) :
  Ev (fun k => field_Draw.f k (p : Int) (cast xs) n) (if isP p = true then (if n < 0 ∨ n > 65536 then (([] : List Int), ([] : List Int), (2 : Int)) else (fill p xs n.toNat n.toNat, cast (xs.drop (min n.toNat xs.length)), 0)) else (([] : List Int), ([] : List Int), (2 : Int))) := by
 unfold field_Draw.f
 refine (field_Is_ev p).bind ?_
 by_cases h : isP p = true
 ·have h3 := (isP_iff.1 h).1
  refine Ev.same (Ev.pos h ?_) (if_pos h).symm
  by_cases hn : n < 0
  ·exact Ev.same (Ev.pos hn (Ev.now _)) (if_pos (.inl hn)).symm
  ·by_cases hb : n > 65536
   ·exact Ev.same (Ev.neg hn (Ev.pos hb (Ev.now _))) (if_pos (.inr hb)).symm
   ·obtain ⟨m, rfl⟩ : ∃ m : Nat, n = m := ⟨n.toNat, by omega⟩
    refine Ev.same (Ev.neg hn (Ev.neg hb ((take_ev p (by omega) xs hl m (by omega)).bind (Ev.now _)))) ?_
    rw [if_neg (by omega), Int.toNat_natCast]
 ·exact Ev.same (Ev.neg h (Ev.now _)) (if_neg h).symm

theorem refDraw_l0 (p : Nat) (h0 : 0 < p) (xs : List Nat) (hl : xs.length < 17592186044416) (n : Nat) (hn : n ≤ 1048576) : ∀ (d i k : Nat), n - i = d → i ≤ n → d < k →
  juntoref01_Draw.l0 k (p : Int) (cast xs) (n : Int) (fill p xs i n) (i : Int) = some (fill p xs n n, cast (xs.drop (min n xs.length))) := by
 intro d
 induction d with
 | zero =>
  intro i k hd hi hk
  obtain ⟨k, rfl⟩ : ∃ m, k = m + 1 := ⟨k - 1, by omega⟩
  obtain rfl : i = n := by omega
  simp only [juntoref01_Draw.l0]
  rw [if_neg (by omega)]
  exact rest_tie xs i _ hl
 | succ d ih =>
  intro i k hd hi hk
  obtain ⟨k, rfl⟩ : ∃ m, k = m + 1 := ⟨k - 1, by omega⟩
  have hin : i < n := by omega
  have e : (cast xs).length = xs.length := by simp
  simp only [juntoref01_Draw.l0]
  rw [if_pos (by omega)]
  by_cases hx : i < xs.length
  ·rw [if_pos (by omega), if_pos (by omega), if_neg (by omega), if_pos (by rw [fill_length]; omega), val_at p xs i hx, Int.toNat_natCast, fill_set p xs i n hin, w64_in (by omega) (by omega)]
   exact ih (i + 1) k (by omega) (by omega) (by omega)
  ·rw [if_neg (by omega), fill_big p xs i n n (by omega) (by omega)]
   exact rest_tie xs n _ hl
theorem refDraw_ev (p : Nat) (h0 : 0 < p) (xs : List Nat) (hl : xs.length < 17592186044416) (n : Nat) (hn : n ≤ 1048576) :
  Ev (fun k => juntoref01_Draw.f k (p : Int) (cast xs) (n : Int)) (fill p xs n n, cast (xs.drop (min n xs.length))) := by
 refine Ev.of (juntoref01_Draw.mono _ _ _) (k := n + 1) ?_
 unfold juntoref01_Draw.f
 rw [if_pos (by omega), if_pos (by omega), Int.toNat_natCast, ← fill_zero p xs n]
 exact refDraw_l0 p h0 xs hl n hn n 0 (n + 1) (by omega) (by omega) (by omega)

theorem nat_row {d : List Int} (h : ∀ n ∈ d, (Lit.int .u64 n).wf = true) : ∃ xs : List Nat, d = cast xs := by
 induction d with
 | nil => exact ⟨[], rfl⟩
 | cons n l ih =>
  obtain ⟨xs, hx⟩ := ih (fun m hm => h m (List.mem_cons_of_mem _ hm))
  obtain ⟨p, hp, _⟩ := nat_u64 (h n (List.mem_cons_self ..))
  exact ⟨p :: xs, by rw [hx, hp]; rfl⟩
/-- Both texts draw the same, where the world is in order. -/
theorem draw_both {p : Nat} (hp : isP p = true) {d : List Int} (wd : d.length < 17592186044416 ∧ ∀ n ∈ d, (Lit.int .u64 n).wf = true) {n : Int} (h0 : 0 ≤ n) (h1 : n ≤ 65536) :
  ∃ l r, l.length ≤ 65536 ∧ r.length ≤ d.length ∧ Ev (fun k => field_Draw.f k (p : Int) d n) (l, r, 0) ∧ Ev (fun k => juntoref01_Draw.f k (p : Int) d n) (l, r) := by
 obtain ⟨xs, rfl⟩ := nat_row wd.2
 have hx : xs.length < 17592186044416 := by have := wd.1; simpa using this
 obtain ⟨m, rfl⟩ : ∃ m : Nat, n = m := ⟨n.toNat, by omega⟩
 have h3 := (isP_iff.1 hp).1
 have e := draw_ev p xs hx (m : Int)
 rw [if_pos hp, if_neg (by omega), Int.toNat_natCast] at e
 exact ⟨_, _, by rw [fill_length]; omega, by simp, e, refDraw_ev p (by omega) xs hx m (by omega)⟩
theorem draw_not {p : Nat} {d : List Int} (wd : d.length < 17592186044416 ∧ ∀ n ∈ d, (Lit.int .u64 n).wf = true) {n : Int} (h : n < 0 ∨ n > 65536) : Ev (fun k => field_Draw.f k (p : Int) d n) ([], [], 2) := by
 obtain ⟨xs, rfl⟩ := nat_row wd.2
 have hx : xs.length < 17592186044416 := by have := wd.1; simpa using this
 have e := draw_ev p xs hx n
 by_cases hp : isP p = true
 ·rw [if_pos hp, if_pos h] at e
  exact e
 ·rw [if_neg hp] at e
  exact e
end Go.Proofs.Ytkaikgbcnmfppaa.Nb
namespace Go.Proofs.Ytkaikgbcnmfppaa.Nb
open Go Go.RowKit Go.Proofs.YtkaikgbcnmfppaaW.PrintWords Go.Proofs.YtkaikgbcnmfppaaW.PrintLast Go.Proofs.YtkaikgbcnmfppaaW.PrintMore
attribute [local go_sem] max2_int min2_int max_two min_two max_three min_three max_four min_four
set_option linter.unusedVariables false
set_option linter.unusedSimpArgs false
noncomputable section
set_option maxHeartbeats 8000000 in
set_option maxRecDepth 100000 in
theorem zero.calls (A3 : Option Addr) (c3 : Nat) (A4 : Option Addr) (c4 : Nat) (A5 : Option Addr) (c5 : Nat) (A7 : Option Addr) (c7 : Nat) (w : World) :
  Calls Try.prog 24 #[.agg (wv z30 A3 c3 A4 c4 A5 c5 A7 c7)] w fun e w' => e = .returned (.bool true) ∧ Below w.heap.size w w' := by
 show Calls Try.prog 24 #[.agg #[.int .u64 0, .int .i64 0, .int .i64 0, .slice A3 0 c3, .slice A4 0 c4, .slice A5 0 c5, .int .i64 0, .slice A7 0 c7]] w fun e w' => e = .returned (.bool true) ∧ Below w.heap.size w w'
 have hu30 := Try.underlying30
 have hu24 := Try.underlying24
 go_enter Try.func24, Try.ntmps24
 go_wp2_with ((with_reducible refine gate_dst (N := 1) rfl ?_); refine box_event ?hg (N := 1) ?hd (cs := #[.int .u64 0, .int .i64 0, .int .i64 0, .slice A3 0 c3, .slice A4 0 c4, .slice A5 0 c5, .int .i64 0, .slice A7 0 c7]) (t := 30) ?hr ?_; (case hd => rfl); (case hg => rfl); (case hr => first | (go_simp; done) | (go_simp; rfl)); intro g2 hg2 w2 hbox hb2; have B2 := Aside0.mk hbox; have HB := Aside0.mk hb2; clear hg2 hbox hb2; have hx0 : w2.cell? ⟨g2, 0, none⟩ = some (.int .u64 0) := (blk_cell B2.out 0).trans rfl; have hx1 : w2.cell? ⟨g2, 1, none⟩ = some (.int .i64 0) := (blk_cell B2.out 1).trans rfl; have hx2 : w2.cell? ⟨g2, 2, none⟩ = some (.int .i64 0) := (blk_cell B2.out 2).trans rfl; have hx3 : w2.cell? ⟨g2, 3, none⟩ = some (.slice A3 0 c3) := (blk_cell B2.out 3).trans rfl; have hx4 : w2.cell? ⟨g2, 4, none⟩ = some (.slice A4 0 c4) := (blk_cell B2.out 4).trans rfl; have hx5 : w2.cell? ⟨g2, 5, none⟩ = some (.slice A5 0 c5) := (blk_cell B2.out 5).trans rfl; have hx6 : w2.cell? ⟨g2, 6, none⟩ = some (.int .i64 0) := (blk_cell B2.out 6).trans rfl; have hx7 : w2.cell? ⟨g2, 7, none⟩ = some (.slice A7 0 c7) := (blk_cell B2.out 7).trans rfl)
 go_ret
 exact ⟨rfl, HB.out⟩
end
end Go.Proofs.Ytkaikgbcnmfppaa.Nb
namespace Go.Proofs.Ytkaikgbcnmfppaa.Nb
open Go Go.RowKit Go.Proofs.YtkaikgbcnmfppaaW.PrintWords Go.Proofs.YtkaikgbcnmfppaaW.PrintLast Go.Proofs.YtkaikgbcnmfppaaW.PrintMore
attribute [local go_sem] max2_int min2_int max_two min_two max_three min_three max_four min_four
set_option linter.unusedVariables false
set_option linter.unusedSimpArgs false
noncomputable section
/-- A struct of five cells stored. -/
def put5 (w : World) (g : Nat) (v0 v1 v2 v3 v4 : Value) : World := (((((w.setCell ⟨g, 0, none⟩ (v0)).setCell ⟨g, 1, none⟩ (v1)).setCell ⟨g, 2, none⟩ (v2)).setCell ⟨g, 3, none⟩ (v3)).setCell ⟨g, 4, none⟩ (v4))
theorem kept5 (w : World) (g : Nat) (v0 v1 v2 v3 v4 : Value) : Kept w (put5 w g v0 v1 v2 v3 v4) (fun k => k = g) := by
 unfold put5
 exact Kept.setCell (S := fun k => k = g) (p := ⟨g, 4, none⟩) (Kept.setCell (S := fun k => k = g) (p := ⟨g, 3, none⟩) (Kept.setCell (S := fun k => k = g) (p := ⟨g, 2, none⟩) (Kept.setCell (S := fun k => k = g) (p := ⟨g, 1, none⟩) (Kept.setCell (S := fun k => k = g) (p := ⟨g, 0, none⟩) (Kept.refl _ _) (.inl rfl) v0) (.inl rfl) v1) (.inl rfl) v2) (.inl rfl) v3) (.inl rfl) v4
theorem below5 {w0 w : World} {b g : Nat} (h : Below b w0 w) (hg : b ≤ g) (v0 v1 v2 v3 v4 : Value) : Below b w0 (put5 w g v0 v1 v2 v3 v4) := by
 unfold put5
 exact Below.setCell (p := ⟨g, 4, none⟩) (Below.setCell (p := ⟨g, 3, none⟩) (Below.setCell (p := ⟨g, 2, none⟩) (Below.setCell (p := ⟨g, 1, none⟩) (Below.setCell (p := ⟨g, 0, none⟩) (h) hg v0) hg v1) hg v2) hg v3) hg v4
theorem blk5 {w : World} {g t : Nat} {u0 u1 u2 u3 u4 : Value} (h : w.heap[g]? = some (.cells #[u0, u1, u2, u3, u4] t (0, 0))) (v0 v1 v2 v3 v4 : Value) : (put5 w g v0 v1 v2 v3 v4).heap[g]? = some (.cells #[v0, v1, v2, v3, v4] t (0, 0)) := by
 unfold put5
 refine blk_put (cs := #[v0, v1, v2, v3, u4]) ?_ 4 _ rfl; refine blk_put (cs := #[v0, v1, v2, u3, u4]) ?_ 3 _ rfl; refine blk_put (cs := #[v0, v1, u2, u3, u4]) ?_ 2 _ rfl; refine blk_put (cs := #[v0, u1, u2, u3, u4]) ?_ 1 _ rfl; refine blk_put (cs := #[u0, u1, u2, u3, u4]) ?_ 0 _ rfl; exact h
/-- The message that goes out: the act's, or the given one. -/
def sendV (l : List S72) (R : Int) (f t : Int) (d : List Int) : List Int := match l.find? (fun a => a.f0 == R && a.f1 == f && a.f2 == t) with
 | some a => if a.f3 = true then [] else a.f4
 | none => d
end
end Go.Proofs.Ytkaikgbcnmfppaa.Nb
namespace Go.Proofs.Ytkaikgbcnmfppaa.Nb
open Go Go.RowKit Go.Proofs.YtkaikgbcnmfppaaW.PrintWords Go.Proofs.YtkaikgbcnmfppaaW.PrintLast Go.Proofs.YtkaikgbcnmfppaaW.PrintMore
open Go.Proofs.Ytkaikgbcnmfppaa.Num Go.Proofs.Ytkaikgbcnmfppaa.Arith
set_option linter.unusedVariables false
set_option linter.unusedSimpArgs false
noncomputable section
theorem checkV_zero {p : Nat} {N T : Int} {co : List Int} {la : List S72} {tn : Nat} {R : Int} (h : checkV p N T co la tn R = 0) : corrV p N T co = 0 ∧ (tn : Int) = N ∧ 0 ≤ R ∧ R ≤ 1048576 ∧ la.length ≤ 65536 ∧ actsV N co [] la = 0 := by
 unfold checkV at h
 by_cases hc : corrV p N T co = 0
 ·rw [if_pos hc] at h
  by_cases hd : (tn : Int) = N ∧ 0 ≤ R ∧ R ≤ 1048576
  ·rw [if_pos hd] at h
   by_cases he : 65536 < la.length
   ·rw [if_pos he] at h
    exact absurd h (by decide)
   ·rw [if_neg he] at h
    exact ⟨hc, hd.1, hd.2.1, hd.2.2, by omega, h⟩
  ·rw [if_neg hd] at h
   exact absurd h (by decide)
 ·rw [if_neg hc] at h
  exact absurd h hc
/-- The error of a world. -/
def chk (x : S30) : Int := checkV x.f0.f0.toNat x.f0.f1 x.f0.f2 x.f1 x.f2 x.f3.length x.f4
theorem wcheck_ev {x : S30} (wf : Wf30 x) : Ev (fun k => wcheck k x) (chk x) := by
 obtain ⟨p, hp, _⟩ := nat_u64 wf.s.1
 have h := net_Check_ev p x.f0.f1 x.f0.f2 x.f1 x.f2 x.f3 x.f4 x.f5
 unfold wcheck chk
 rw [hp]
 exact h
theorem WfD.lt {l : List Int} (h : WfD l) : l.length < 17592186044416 := by have := h.2.1; omega
theorem Wf30.small {x : S30} (h : Wf30 x) : Small x.f1 x.f2 x.f3 x.f5 :=
 ⟨by have := h.co.2.1; omega, by have := h.ac.2.1; omega, fun a ha => WfD.lt (h.ac.2.2 a ha).2.2.2, by have := h.ta.2.1; omega, fun d hd => WfD.lt (h.ta.2.2 d hd), by have := h.se.2.1; omega, fun a ha => WfD.lt (h.se.2.2 a ha).2.2.2⟩
theorem eff_small {B : Nat} {l : List S72} {f t : Int} {d : List Int} (hl : ∀ a ∈ l, a.f4.length < B) (hd : d.length < B) : (eff l f t d).length < B := by
 unfold eff
 split
 ·rename_i a ha
  have := hl a (List.mem_of_find?_eq_some ha)
  split
  ·simp; omega
  ·exact this
 ·exact hd
end
end Go.Proofs.Ytkaikgbcnmfppaa.Nb
