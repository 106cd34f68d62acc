/- Small facts on the machine's whole numbers, and on Ev, for the pure statements. -/
import Derived.Test.YtfdkhkajehopkaaWAll
import Derived.Laws.BitsLemmas
import Derived.Test.YtfdkhkajehopkaaNum
namespace Go.Proofs.Ytfdkhkajehopkaa.Arith
open Go.RowKit Go.Proofs.YtfdkhkajehopkaaW.PrintWords Go.Proofs.YtfdkhkajehopkaaW.PrintLast Go.Proofs.YtfdkhkajehopkaaW.PrintMore
open Go.Proofs.Ytfdkhkajehopkaa.Num

theorem u64_in {x : Int} (h0 : 0 ≤ x) (h1 : x < 18446744073709551616) : IntKind.u64.wrap x = x := by
  simp only [IntKind.wrap, IntKind.bits, IntKind.signed, Bool.false_and, Bool.false_eq_true, if_false]
  have : (2 : Int) ^ 64 = 18446744073709551616 := by decide
  rw [this]
  exact Int.emod_eq_of_lt h0 h1
theorem w64_in {x : Int} (h0 : -9223372036854775808 ≤ x) (h1 : x < 9223372036854775808) : wrap64 x = x := by
  unfold wrap64; omega
theorem wf_u64 {x : Int} (h : (Lit.int .u64 x).wf = true) : 0 ≤ x ∧ x < 18446744073709551616 := by
  have : (2 : Int) ^ 64 = 18446744073709551616 := by decide
  simp only [Lit.wf, IntKind.min, IntKind.max, IntKind.signed, IntKind.bits, Bool.and_eq_true, decide_eq_true_eq, Bool.false_eq_true, if_false, this] at h
  omega
theorem nat_u64 {x : Int} (h : (Lit.int .u64 x).wf = true) : ∃ n : Nat, x = n ∧ n < 18446744073709551616 := by
  have := wf_u64 h
  exact ⟨x.toNat, by omega, by omega⟩
theorem tmod_nat (a b : Nat) : Int.tmod (a : Int) (b : Int) = ((a % b : Nat) : Int) := by
  rw [Int.tmod_eq_emod_of_nonneg (by omega)]; rfl
theorem tdiv_nat (a b : Nat) : Int.tdiv (a : Int) (b : Int) = ((a / b : Nat) : Int) := by
  rw [Int.tdiv_eq_ediv_of_nonneg (by omega)]; rfl
theorem and_one (x : Nat) (h : x < 18446744073709551616) : Go.bits .and .u64 (x : Int) 1 = ((x % 2 : Nat) : Int) := by
  have := bits_mask .u64 64 (by decide) (fun n h0 h1 => u64_in h0 (by have : (2 : Int) ^ 64 = 18446744073709551616 := by decide
                                                                      omega)) 1 (by decide) (x : Int) (by omega) (by have : (2 : Int) ^ 64 = 18446744073709551616 := by decide
                                                                                                                     omega)
  have e : ((2 : Int) ^ 1 - 1) = 1 := by decide
  rw [e] at this
  rw [this]
  have e2 : ((2 : Int) ^ 1) = 2 := by decide
  rw [e2]
  omega

theorem Ev_some {α : Type} {r q : α} (h : r = q) : Ev (fun _ => some r) q := h ▸ Ev.now r
theorem Ev.same {α : Type} {g : Nat → Option α} {r q : α} (h : Ev g r) (e : r = q) : Ev g q := e ▸ h
/-- A function without rounds. -/
theorem Ev.bind0 {α β : Type} {g : Option α} {f : Nat → α → Option β} {a : α} {r : β} (h : g = some a) (k : Ev (fun n => f n a) r) : Ev (fun n => g.bind (f n)) r := by
  subst h
  exact k
theorem Ev.pos {α : Type} {c : Prop} {_ : Decidable c} {f g : Nat → Option α} {r : α} (h : c) (k : Ev f r) : Ev (fun n => if c then f n else g n) r := Ev.congr (fun _ => if_pos h) k
theorem Ev.neg {α : Type} {c : Prop} {_ : Decidable c} {f g : Nat → Option α} {r : α} (h : ¬ c) (k : Ev g r) : Ev (fun n => if c then f n else g n) r := Ev.congr (fun _ => if_neg h) k

noncomputable def isP (p : Nat) : Bool := @decide (IsP p) (Classical.propDecidable _)
theorem isP_iff {p : Nat} : isP p = true ↔ IsP p := by
  unfold isP
  exact @decide_eq_true_iff _ (Classical.propDecidable _)

theorem rd_nat (xs : List Int) (i : Nat) (h : i < xs.length) : rd xs (i : Int) = xs[i] := by
  simp [rd, h]

/-- Any list of numbers that aren't negative is one of natural numbers. -/
theorem nats (l : List Int) (h : ∀ x ∈ l, (Lit.int .u64 x).wf = true) : ∃ xs : List Nat, l = xs.map (fun (n : Nat) => (n : Int)) ∧ ∀ x ∈ xs, x < 18446744073709551616 := by
  induction l with
  | nil => exact ⟨[], rfl, by simp⟩
  | cons x l ih =>
    obtain ⟨xs, rfl, hx⟩ := ih (fun y hy => h y (List.mem_cons_of_mem _ hy))
    obtain ⟨n, rfl, hn⟩ := nat_u64 (h x (by simp))
    exact ⟨n :: xs, rfl, by simpa using ⟨hn, hx⟩⟩
abbrev cast (xs : List Nat) : List Int := xs.map (fun (n : Nat) => (n : Int))
theorem cast_rd (xs : List Nat) (i : Nat) (h : i < xs.length) : rd (cast xs) (i : Int) = ((xs[i] : Nat) : Int) := by
  rw [rd_nat _ _ (by simpa using h)]
  simp

end Go.Proofs.Ytfdkhkajehopkaa.Arith
