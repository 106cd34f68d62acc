/- juntoref17.Act walked. Made by mk_refact.py. Plain number theory, no program in sight: primes by trial division, Fermat, roots of polynomials modulo a prime, a number that is no square. Small facts on the machine's whole numbers, and on Ev, for the pure statements. net.Clone hands back what it was given. -/
import Derived.Test.YtkaikgbcnmfppaaNbExch
import Derived.KernelRfl
import Derived.Test.YtkaikgbcnmfppaaWAll
import Derived.Laws.BitsLemmas
import Derived.Test.YtkaikgbcnmfppaaNbFNetClone
import Derived.Test.YtkaikgbcnmfppaaNbComes
namespace Go.Proofs.Ytkaikgbcnmfppaa.Nb
open Go Go.RowKit Go.Proofs.YtkaikgbcnmfppaaW.PrintWords Go.Proofs.YtkaikgbcnmfppaaW.PrintLast Go.Proofs.YtkaikgbcnmfppaaW.PrintMore
attribute [local go_sem] max2_int min2_int max_two min_two max_three min_three max_four min_four
set_option linter.unusedVariables false
set_option linter.unusedSimpArgs false
noncomputable section
/-- A struct of five cells stored. -/
def put5 (w : World) (g : Nat) (v0 v1 v2 v3 v4 : Value) : World := (((((w.setCell ⟨g, 0, none⟩ (v0)).setCell ⟨g, 1, none⟩ (v1)).setCell ⟨g, 2, none⟩ (v2)).setCell ⟨g, 3, none⟩ (v3)).setCell ⟨g, 4, none⟩ (v4))
theorem kept5 (w : World) (g : Nat) (v0 v1 v2 v3 v4 : Value) : Kept w (put5 w g v0 v1 v2 v3 v4) (fun k => k = g) := by
 unfold put5
 exact Kept.setCell (S := fun k => k = g) (p := ⟨g, 4, none⟩) (Kept.setCell (S := fun k => k = g) (p := ⟨g, 3, none⟩) (Kept.setCell (S := fun k => k = g) (p := ⟨g, 2, none⟩) (Kept.setCell (S := fun k => k = g) (p := ⟨g, 1, none⟩) (Kept.setCell (S := fun k => k = g) (p := ⟨g, 0, none⟩) (Kept.refl _ _) (.inl rfl) v0) (.inl rfl) v1) (.inl rfl) v2) (.inl rfl) v3) (.inl rfl) v4
theorem below5 {w0 w : World} {b g : Nat} (h : Below b w0 w) (hg : b ≤ g) (v0 v1 v2 v3 v4 : Value) : Below b w0 (put5 w g v0 v1 v2 v3 v4) := by
 unfold put5
 exact Below.setCell (p := ⟨g, 4, none⟩) (Below.setCell (p := ⟨g, 3, none⟩) (Below.setCell (p := ⟨g, 2, none⟩) (Below.setCell (p := ⟨g, 1, none⟩) (Below.setCell (p := ⟨g, 0, none⟩) (h) hg v0) hg v1) hg v2) hg v3) hg v4
theorem blk5 {w : World} {g t : Nat} {u0 u1 u2 u3 u4 : Value} (h : w.heap[g]? = some (.cells #[u0, u1, u2, u3, u4] t (0, 0))) (v0 v1 v2 v3 v4 : Value) : (put5 w g v0 v1 v2 v3 v4).heap[g]? = some (.cells #[v0, v1, v2, v3, v4] t (0, 0)) := by
 unfold put5
 refine blk_put (cs := #[v0, v1, v2, v3, u4]) ?_ 4 _ rfl; refine blk_put (cs := #[v0, v1, v2, u3, u4]) ?_ 3 _ rfl; refine blk_put (cs := #[v0, v1, u2, u3, u4]) ?_ 2 _ rfl; refine blk_put (cs := #[v0, u1, u2, u3, u4]) ?_ 1 _ rfl; refine blk_put (cs := #[u0, u1, u2, u3, u4]) ?_ 0 _ rfl; exact h
/-- The message that goes out: the act's, or the given one. -/
def sendV (l : List S72) (R : Int) (f t : Int) (d : List Int) : List Int := match l.find? (fun a => a.f0 == R && a.f1 == f && a.f2 == t) with
 | some a => if a.f3 = true then [] else a.f4
 | none => d
end
end Go.Proofs.Ytkaikgbcnmfppaa.Nb
namespace Go.Proofs.Ytkaikgbcnmfppaa.Num

/-- A prime from 3 to 65537, as trial division sees it. -/
def IsP (p : Nat) : Prop := 3 ≤ p ∧ p ≤ 65537 ∧ ∀ d, 2 ≤ d → d * d ≤ p → ¬ d ∣ p

theorem IsP.odd {p : Nat} (h : IsP p) : p % 2 = 1 := by
  have h2 := h.2.2 2 (by omega)
  have := h.1
  by_cases h4 : 4 ≤ p
  · have := h2 (by omega)
    omega
  · have : p = 3 := by omega
    subst this; rfl

/-! ### Fermat -/
def ch : Nat → Nat → Nat
  | _, 0 => 1
  | 0, _ + 1 => 0
  | n + 1, k + 1 => ch n k + ch n (k + 1)

/-! ### Roots of a polynomial whose highest coefficient is 1 -/
def ev : List Int → Int → Int
  | [], _ => 0
  | c :: cs, x => c + x * ev cs x
/-! ### Squares -/
end Go.Proofs.Ytkaikgbcnmfppaa.Num
namespace Go.Proofs.Ytkaikgbcnmfppaa.Arith
open Go.RowKit Go.Proofs.YtkaikgbcnmfppaaW.PrintWords Go.Proofs.YtkaikgbcnmfppaaW.PrintLast Go.Proofs.YtkaikgbcnmfppaaW.PrintMore
open Go.Proofs.Ytkaikgbcnmfppaa.Num

theorem u64_in {x : Int} (h0 : 0 ≤ x) (h1 : x < 18446744073709551616) : IntKind.u64.wrap x = x := by
  simp only [IntKind.wrap, IntKind.bits, IntKind.signed, Bool.false_and, Bool.false_eq_true, if_false]
  have : (2 : Int) ^ 64 = 18446744073709551616 := by decide
  rw [this]
  exact Int.emod_eq_of_lt h0 h1
theorem w64_in {x : Int} (h0 : -9223372036854775808 ≤ x) (h1 : x < 9223372036854775808) : wrap64 x = x := by
  unfold wrap64; omega
theorem wf_u64 {x : Int} (h : (Lit.int .u64 x).wf = true) : 0 ≤ x ∧ x < 18446744073709551616 := by
  have : (2 : Int) ^ 64 = 18446744073709551616 := by decide
  simp only [Lit.wf, IntKind.min, IntKind.max, IntKind.signed, IntKind.bits, Bool.and_eq_true, decide_eq_true_eq, Bool.false_eq_true, if_false, this] at h
  omega
theorem nat_u64 {x : Int} (h : (Lit.int .u64 x).wf = true) : ∃ n : Nat, x = n ∧ n < 18446744073709551616 := by
  have := wf_u64 h
  exact ⟨x.toNat, by omega, by omega⟩
theorem tmod_nat (a b : Nat) : Int.tmod (a : Int) (b : Int) = ((a % b : Nat) : Int) := by
  rw [Int.tmod_eq_emod_of_nonneg (by omega)]; rfl
theorem Ev_some {α : Type} {r q : α} (h : r = q) : Ev (fun _ => some r) q := h ▸ Ev.now r
theorem Ev.same {α : Type} {g : Nat → Option α} {r q : α} (h : Ev g r) (e : r = q) : Ev g q := e ▸ h
theorem Ev.unique {α : Type} {g : Nat → Option α} {r q : α} (h : Ev g r) (k : Ev g q) : r = q := by
  obtain ⟨K, h⟩ := h
  obtain ⟨K', k⟩ := k
  have h1 := h (max K K') (by omega)
  have h2 := k (max K K') (by omega)
  rw [h1] at h2
  exact Option.some.inj h2
theorem Ev.pos {α : Type} {c : Prop} {_ : Decidable c} {f g : Nat → Option α} {r : α} (h : c) (k : Ev f r) : Ev (fun n => if c then f n else g n) r := Ev.congr (fun _ => if_pos h) k
theorem Ev.neg {α : Type} {c : Prop} {_ : Decidable c} {f g : Nat → Option α} {r : α} (h : ¬ c) (k : Ev g r) : Ev (fun n => if c then f n else g n) r := Ev.congr (fun _ => if_neg h) k

noncomputable def isP (p : Nat) : Bool := @decide (IsP p) (Classical.propDecidable _)
theorem isP_iff {p : Nat} : isP p = true ↔ IsP p := by
  unfold isP
  exact @decide_eq_true_iff _ (Classical.propDecidable _)

theorem rd_nat (xs : List Int) (i : Nat) (h : i < xs.length) : rd xs (i : Int) = xs[i] := by
  simp [rd, h]

end Go.Proofs.Ytkaikgbcnmfppaa.Arith
namespace Go.Proofs.Ytkaikgbcnmfppaa.Nb
open Go Go.RowKit Go.Proofs.YtkaikgbcnmfppaaW.PrintWords Go.Proofs.YtkaikgbcnmfppaaW.PrintLast Go.Proofs.YtkaikgbcnmfppaaW.PrintMore
open Go.Proofs.Ytkaikgbcnmfppaa.Num Go.Proofs.Ytkaikgbcnmfppaa.Arith
set_option linter.unusedVariables false
set_option linter.unusedSimpArgs false
theorem clone2 (P N T : Int) (co : List Int) (ac : List S72) (ta : List (List Int)) (R : Int) (se : List S77) (hs : ∀ x ∈ se, x.f3.length < 17592186044416) (hl : se.length < 4611686018427387904) : ∀ (d i : Nat), i + d = se.length → ∀ k, d < k → net_Clone.l2 k (se.length : Int) (i : Int) P N T co ac ta R se = some (P, N, T, co, ac, ta, R, se)
 | 0, i, hi, k, hk => by
  obtain ⟨k, rfl⟩ : ∃ m, k = m + 1 := ⟨k - 1, by omega⟩
  unfold net_Clone.l2
  rw [if_neg (by omega)]
 | d + 1, i, hi, k, hk => by
  obtain ⟨k, rfl⟩ : ∃ m, k = m + 1 := ⟨k - 1, by omega⟩
  have hil : i < se.length := by omega
  have ih := clone2 P N T co ac ta R se hs hl d (i + 1) (by omega) k (by omega)
  have hr : rd_T77 se (i : Int) = se[i] := by simp [rd_T77, List.getD_eq_getElem?_getD, hil]
  unfold net_Clone.l2
  rw [if_pos (by omega), if_pos (by omega), if_pos (by omega), hr, cl61 (hs _ (List.getElem_mem hil))]
  simp only [Option.bind_some, Int.toNat_natCast]
  rw [w64_in (by omega) (by omega), show (⟨se[i].f0, se[i].f1, se[i].f2, se[i].f3⟩ : S77) = se[i] from rfl, List.set_getElem_self]
  exact ih
theorem clone1 (P N T : Int) (co : List Int) (ac : List S72) (ta : List (List Int)) (R : Int) (se : List S77) (hs : ∀ x ∈ se, x.f3.length < 17592186044416) (hl : se.length < 2932031007402) (ht : ∀ x ∈ ta, x.length < 17592186044416) (hlt : ta.length < 4611686018427387904) : ∀ (d i : Nat), i + d = ta.length → ∀ k, d + se.length + 1 < k → net_Clone.l1 k (ta.length : Int) (i : Int) P N T co ac ta R se = some (P, N, T, co, ac, ta, R, se)
 | 0, i, hi, k, hk => by
  obtain ⟨k, rfl⟩ : ∃ m, k = m + 1 := ⟨k - 1, by omega⟩
  unfold net_Clone.l1
  rw [if_neg (by omega)]
  unfold api_Sent.f
  simp only [Option.bind_some, List.length_nil, Nat.zero_add, if_pos hl, List.nil_append]
  exact clone2 P N T co ac ta R se hs (by omega) se.length 0 (by omega) k (by omega)
 | d + 1, i, hi, k, hk => by
  obtain ⟨k, rfl⟩ : ∃ m, k = m + 1 := ⟨k - 1, by omega⟩
  have hil : i < ta.length := by omega
  have ih := clone1 P N T co ac ta R se hs hl ht hlt d (i + 1) (by omega) k (by omega)
  have hr : rd_M2 ta (i : Int) = ta[i] := by simp [rd_M2, List.getD_eq_getElem?_getD, hil]
  unfold net_Clone.l1
  rw [if_pos (by omega), if_pos (by omega), if_pos (by omega), hr, cl61 (ht _ (List.getElem_mem hil))]
  simp only [Option.bind_some, Int.toNat_natCast]
  rw [w64_in (by omega) (by omega), List.set_getElem_self]
  exact ih
theorem clone0 (P N T : Int) (co : List Int) (ac : List S72) (ta : List (List Int)) (R : Int) (se : List S77) (hs : ∀ x ∈ se, x.f3.length < 17592186044416) (hl : se.length < 2932031007402) (ht : ∀ x ∈ ta, x.length < 17592186044416) (hlt : ta.length < 5864062014805) (ha : ∀ x ∈ ac, x.f4.length < 17592186044416) (hla : ac.length < 4611686018427387904) : ∀ (d i : Nat), i + d = ac.length → ∀ k, d + ta.length + se.length + 2 < k → net_Clone.l0 k (ac.length : Int) (i : Int) P N T co ac ta R se = some (P, N, T, co, ac, ta, R, se)
 | 0, i, hi, k, hk => by
  obtain ⟨k, rfl⟩ : ∃ m, k = m + 1 := ⟨k - 1, by omega⟩
  unfold net_Clone.l0
  rw [if_neg (by omega)]
  unfold slices_Clone_uint64_uint64_62.f
  simp only [Option.bind_some, List.length_nil, Nat.zero_add, if_pos hlt, List.nil_append]
  exact clone1 P N T co ac ta R se hs hl ht (by omega) ta.length 0 (by omega) k (by omega)
 | d + 1, i, hi, k, hk => by
  obtain ⟨k, rfl⟩ : ∃ m, k = m + 1 := ⟨k - 1, by omega⟩
  have hil : i < ac.length := by omega
  have ih := clone0 P N T co ac ta R se hs hl ht hlt ha hla d (i + 1) (by omega) k (by omega)
  have hr : rd_T72 ac (i : Int) = ac[i] := by simp [rd_T72, List.getD_eq_getElem?_getD, hil]
  unfold net_Clone.l0
  rw [if_pos (by omega), if_pos (by omega), if_pos (by omega), hr, cl61 (ha _ (List.getElem_mem hil))]
  simp only [Option.bind_some, Int.toNat_natCast]
  rw [w64_in (by omega) (by omega), show (⟨ac[i].f0, ac[i].f1, ac[i].f2, ac[i].f3, ac[i].f4⟩ : S72) = ac[i] from rfl, List.set_getElem_self]
  exact ih
/-- What Clone asks of a world: sizes that no memory holds are out. -/
structure Small (co : List Int) (ac : List S72) (ta : List (List Int)) (se : List S77) : Prop where
 hco : co.length < 17592186044416
 hac : ac.length < 2513169434916
 had : ∀ x ∈ ac, x.f4.length < 17592186044416
 hta : ta.length < 5864062014805
 htd : ∀ x ∈ ta, x.length < 17592186044416
 hse : se.length < 2932031007402
 hsd : ∀ x ∈ se, x.f3.length < 17592186044416
theorem net_Clone_ev (P N T : Int) (co : List Int) (ac : List S72) (ta : List (List Int)) (R : Int) (se : List S77) (h : Small co ac ta se) : Ev (fun k => net_Clone.f k P N T co ac ta R se) (P, N, T, co, ac, ta, R, se) := by
 refine ⟨ac.length + ta.length + se.length + 3, fun k hk => ?_⟩
 show net_Clone.f k P N T co ac ta R se = _
 unfold net_Clone.f slices_Clone_int_int.f api_Act.f
 simp only [Option.bind_some, List.length_nil, Nat.zero_add, if_pos h.hco, if_pos h.hac, List.nil_append]
 exact clone0 P N T co ac ta R se h.hsd h.hse h.htd h.hta h.had (by have := h.hac; omega) ac.length 0 (by omega) k (by omega)
end Go.Proofs.Ytkaikgbcnmfppaa.Nb
