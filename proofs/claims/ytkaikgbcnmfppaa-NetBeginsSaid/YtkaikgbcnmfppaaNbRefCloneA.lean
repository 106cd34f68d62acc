/- A row of structs of one's own: its slice field put anew, with what it reads as unchanged. -/
import Derived.Test.YtkaikgbcnmfppaaNbAliveA
import Derived.Test.YtkaikgbcnmfppaaNbExchV
import Derived.Test.YtkaikgbcnmfppaaNbFRef17Copy
namespace Go.Proofs.Ytkaikgbcnmfppaa.Nb
open Go.Proofs.Ytkaikgbcnmfppaa.Num Go.Proofs.Ytkaikgbcnmfppaa.Arith
open Go Go.RowKit Go.Proofs.YtkaikgbcnmfppaaW.PrintWords Go.Proofs.YtkaikgbcnmfppaaW.PrintLast Go.Proofs.YtkaikgbcnmfppaaW.PrintMore
set_option linter.unusedVariables false
set_option linter.unusedSimpArgs false
noncomputable section
theorem set_getD {α : Type} (l : List α) (i : Nat) (z : α) : l.set i (l.getD i z) = l := by
 apply List.ext_getElem?
 intro j
 rw [List.getElem?_set]
 by_cases h : i = j
 ·subst h
  by_cases h2 : i < l.length
  ·simp [h2]
  ·simp [h2]
 ·simp [h]
theorem row_put72 {w : World} {base g n cap : Nat} {ok : Nat → Prop} {L : List S72} (h : k72.N 72 w base ok (.slice (some ⟨g, 0, none⟩) n cap) L) {i : Nat} (hi : i < n) {A : Option Addr} {c : Nat} (hc : (L.getD i z72).f4.length ≤ c) (hv : Kd.F (Kd.int .u64) w (fun k => ok k ∧ k ≠ g) A (L.getD i z72).f4.length (L.getD i z72).f4) :
  k72.N 72 (w.setCell ⟨g, i * 5 + 4, none⟩ (.slice A (L.getD i z72).f4.length c)) base ok (.slice (some ⟨g, 0, none⟩) n cap) L := by
 obtain ⟨cs, hcl, hFK, hcc, _⟩ := Kd.N_elem h z72 (i : Int) (by omega) (by omega)
 have hp := (Kd.N_seg (okp := fun k => ok k ∧ k ≠ g) h (i : Int) (by omega) (by omega) (c := cs) (seg := [.slice A (L.getD i z72).f4.length c]) (j := 4) (x' := L.getD i z72) hcl hcc (by show 4 + 1 ≤ 5; decide) (fun W hW => by
  obtain ⟨A4, c4, e, _, _⟩ := k72_open (hFK W hW)
  subst e
  exact k72_mk W _ hc (hv W hW)) (fun k hk => hk)).1
 have e2 : (i : Int).toNat * k72.sz + 4 = i * 5 + 4 := by show (i : Int).toNat * 5 + 4 = i * 5 + 4; omega
 rw [e2, setCells_one] at hp
 simp only [Int.toNat_natCast, set_getD] at hp
 exact hp
theorem row_put77 {w : World} {base g n cap : Nat} {ok : Nat → Prop} {L : List S77} (h : k77.N 77 w base ok (.slice (some ⟨g, 0, none⟩) n cap) L) {i : Nat} (hi : i < n) {A : Option Addr} {c : Nat} (hc : (L.getD i z77).f3.length ≤ c) (hv : Kd.F (Kd.int .u64) w (fun k => ok k ∧ k ≠ g) A (L.getD i z77).f3.length (L.getD i z77).f3) :
  k77.N 77 (w.setCell ⟨g, i * 4 + 3, none⟩ (.slice A (L.getD i z77).f3.length c)) base ok (.slice (some ⟨g, 0, none⟩) n cap) L := by
 obtain ⟨cs, hcl, hFK, hcc, _⟩ := Kd.N_elem h z77 (i : Int) (by omega) (by omega)
 have hp := (Kd.N_seg (okp := fun k => ok k ∧ k ≠ g) h (i : Int) (by omega) (by omega) (c := cs) (seg := [.slice A (L.getD i z77).f3.length c]) (j := 3) (x' := L.getD i z77) hcl hcc (by show 3 + 1 ≤ 4; decide) (fun W hW => by
  obtain ⟨A4, c4, e, _, _⟩ := k77_open (hFK W hW)
  subst e
  exact k77_mk W _ hc (hv W hW)) (fun k hk => hk)).1
 have e2 : (i : Int).toNat * k77.sz + 3 = i * 4 + 3 := by show (i : Int).toNat * 4 + 3 = i * 4 + 3; omega
 rw [e2, setCells_one] at hp
 simp only [Int.toNat_natCast, set_getD] at hp
 exact hp
theorem copy_l0 (l : List (List Int)) (hl : l.length ≤ 5864062014634) (hd : ∀ i, i < l.length → (l.getD i []).length < 17592186044416) : ∀ d i k, i + d = l.length → d < k → juntoref17_Copy.l0 k (l.take i) l (l.length : Int) (i : Int) = some l := by
 intro d
 induction d with
 | zero =>
  intro i k hdd hk
  obtain ⟨k, rfl⟩ : ∃ m, k = m + 1 := ⟨k - 1, by omega⟩
  simp only [juntoref17_Copy.l0]
  rw [if_neg (by omega), List.take_of_length_le (by omega)]
 | succ d ih =>
  intro i k hdd hk
  obtain ⟨k, rfl⟩ : ∃ m, k = m + 1 := ⟨k - 1, by omega⟩
  have hi : i < l.length := by omega
  have he : rd_M2 l (i : Int) = l.getD i [] := by simp [rd_M2]
  have ht : l.take i ++ [l.getD i []] = l.take (i + 1) := by
   rw [List.take_succ_eq_append_getElem hi, List.getD_eq_getElem?_getD, List.getElem?_eq_getElem hi]
   rfl
  simp only [juntoref17_Copy.l0]
  rw [if_pos (by omega), if_pos (by omega), if_pos (by omega), Option.bind_some, he, if_pos (by have := hd i hi; simp only [List.length_nil]; omega), if_pos (by rw [List.length_take]; omega), w64_in (by omega) (by omega), List.nil_append, ht]
  exact ih (i + 1) k (by omega) (by omega)
theorem copy_some (l : List (List Int)) (hl : l.length ≤ 5864062014634) (hd : ∀ i, i < l.length → (l.getD i []).length < 17592186044416) : ∃ k, juntoref17_Copy.f k l = some l := by
 refine ⟨l.length + 1, ?_⟩
 unfold juntoref17_Copy.f
 simpa using copy_l0 l hl hd l.length 0 (l.length + 1) (by omega) (by omega)
end
end Go.Proofs.Ytkaikgbcnmfppaa.Nb
