/- The reference's Check, of one matrix or of two that are put into a slice for it. -/
import Derived.Test.YtfdkhkajehopkaaMbG1
import Derived.Test.YtfdkhkajehopkaaMb2
namespace Go.Proofs.Ytfdkhkajehopkaa.Mb
open Go.RowKit Go.Proofs.YtfdkhkajehopkaaW.PrintWords Go.Proofs.YtfdkhkajehopkaaW.PrintLast Go.Proofs.YtfdkhkajehopkaaW.PrintMore
set_option linter.unusedVariables false
theorem rowsK {w : World} {A : Option Addr} {c : Nat} {l : List (List Int)} (h : Kd.C k2 w A l.length l) (hc : l.length ≤ c) : (Kd.slice 33 k2).K w l [.slice A l.length c] := ⟨A, c, rfl, hc, h⟩
def ref_Check1.f (k : Nat) (a0 : Int) (l1 : List (List Int)) : Option Int := juntoref03_Check.f k a0 [l1]
theorem ref_Check1.calls (k : Nat) (a0 : Int) (A1 : Option Addr) (c1 : Nat) (l1 : List (List Int)) (r : Int) (w : World) (hr1 : Kd.C (Kd.slice 22 (Kd.int .u64)) w A1 l1.length l1) (hc1 : l1.length ≤ c1) (h : ref_Check1.f k a0 l1 = some r) :
  Calls Try.prog 15 #[.int .u64 a0, .slice (some ⟨w.heap.size, 0, none⟩) 1 1] (w.alloc (.cells #[.slice A1 l1.length c1] 23)) fun e w' => e = .returned (.int .i64 r) ∧ Below w.heap.size w w' := by
 have hb : Below w.heap.size w (w.alloc (.cells #[.slice A1 l1.length c1] 23)) := below_alloc (Below.refl _ _) _
 refine (juntoref03_Check.calls k a0 (some ⟨w.heap.size, 0, none⟩) 1 [l1] r _ ⟨rfl, (by decide : (1 : Nat) ≤ 9223372036854775807), fun _ => ⟨_, rfl, fun j p hj => ⟨[.slice A1 l1.length c1], rfl, ?_, fun i u hu => ?_⟩⟩⟩ (Nat.le_refl _) h).mono ?_
 ·obtain ⟨h1, h2⟩ := List.getElem?_eq_some_iff.1 hj
  obtain rfl : j = 0 := by have : j < 1 := h1; omega
  obtain rfl : l1 = p := h2
  exact rowsK (Kd.C_below hr1 hb) hc1
 ·obtain ⟨h1, _⟩ := List.getElem?_eq_some_iff.1 hj
  obtain rfl : j = 0 := by have : j < 1 := h1; omega
  obtain ⟨h3, h4⟩ := List.getElem?_eq_some_iff.1 hu
  obtain rfl : i = 0 := by have : i < 1 := h3; omega
  obtain rfl : .slice A1 l1.length c1 = u := h4
  show (w.alloc (.cells #[.slice A1 l1.length c1] 23)).cell? (Addr.add ⟨w.heap.size, 0, none⟩ 0) = _
  rw [Addr.add_zero']
  simp
 ·rintro e w' ⟨rfl, ⟨n, rfl⟩⟩
  exact ⟨rfl, pw_below_drewN hb n⟩
end Go.Proofs.Ytfdkhkajehopkaa.Mb
