/- Powers and its reference, and Twice, in plain lists. -/
import Derived.Test.YtfdkhkajehopkaaMbLinM
import Derived.Test.YtfdkhkajehopkaaMbTieB
import Derived.Test.YtfdkhkajehopkaaMb9
import Derived.Test.YtfdkhkajehopkaaMb0
import Derived.Test.YtfdkhkajehopkaaMbG2
import Derived.Test.YtfdkhkajehopkaaMbR1
namespace Go.Proofs.Ytfdkhkajehopkaa.Mb
open Go.RowKit Go.Proofs.YtfdkhkajehopkaaW.PrintWords Go.Proofs.YtfdkhkajehopkaaW.PrintLast Go.Proofs.YtfdkhkajehopkaaW.PrintMore
open Go.Proofs.Ytfdkhkajehopkaa.Num Go.Proofs.Ytfdkhkajehopkaa.Arith
set_option linter.unusedVariables false
section
variable {p n : Nat}
theorem mpow_l1 (h3 : 3 ≤ p) (hp : p ≤ 65537) (hn : n ≤ 64) (xs : List Nat) (hx4 : xs.length ≤ 4096) {x i0 : Nat} (hx : x < p) (hi0 : i0 < xs.length) (acc : List (List Int)) (hacc : acc.length ≤ 4096) (res : List (List Int) × Int)
  (H : Ev (fun k => matrix_Powers.l0 k (p : Int) (n : Int) (acc ++ [Arith.cast (powN p n x)]) (Arith.cast xs) (xs.length : Int) ((i0 + 1 : Nat) : Int)) res) : ∀ (d i v : Nat), n - i = d → i ≤ n → v = x ^ i % p →
  Ev (fun k => matrix_Powers.l1 k (p : Int) (n : Int) acc (x : Int) ((Arith.cast (powN p n x)).take i ++ List.replicate (n - i) 0) (i : Int) (v : Int) (Arith.cast xs) (xs.length : Int) (i0 : Int)) res := by
 have hL : (Arith.cast (powN p n x)).length = n := by rw [cast_len, powN_len]
 intro d
 induction d with
 | zero =>
  intro i v hd hi hv
  refine Ev.step (fun k => matrix_Powers.l1.eq_2 _ _ _ _ _ _ _ _ _ _ k) (Ev.neg (by omega) (Ev.pos (by omega) ?_))
  rw [w64_in (by omega) (by omega), List.take_of_length_le (l := Arith.cast (powN p n x)) (by omega), show n - i = 0 by omega, List.replicate_zero, List.append_nil]
  exact H
 | succ d ih =>
  intro i v hd hi hv
  have hin : i < n := by omega
  have hvp : v < p := by rw [hv]; exact Nat.mod_lt _ (by omega)
  refine Ev.step (fun k => matrix_Powers.l1.eq_2 _ _ _ _ _ _ _ _ _ _ k) (Ev.pos (by omega) (Ev.pos (by omega) (Ev.pos ?_ ?_)))
  ·rw [List.length_append, List.length_take, List.length_replicate]; omega
  ·refine Ev.bind0 (a := ((v * x % p : Nat) : Int)) ?_ ?_
   ·unfold field_Times.f
    rw [mul_tie (by omega) hp hvp hx]; rfl
   ·rw [Int.toNat_natCast, w64_in (by omega) (by omega)]
    have e : ((Arith.cast (powN p n x)).take i ++ List.replicate (n - i) 0).set i (v : Int) = (Arith.cast (powN p n x)).take (i + 1) ++ List.replicate (n - (i + 1)) 0 :=
     filled_set (Arith.cast (powN p n x)) (0 : Int) n i hL _ (by rw [List.getElem?_map, powN, List.getElem?_map, List.getElem?_range hin, hv]; rfl)
    rw [e]
    refine ih (i + 1) _ (by omega) (by omega) ?_
    rw [hv, Nat.mod_mul_mod, Nat.pow_succ]
theorem mpow_l0 (h3 : 3 ≤ p) (hp : p ≤ 65537) (hn : n ≤ 64) (xs : List Nat) (hx4 : xs.length ≤ 4096) (hx : ∀ x ∈ xs, x < p) : ∀ (d i : Nat), xs.length - i = d → i ≤ xs.length →
  Ev (fun k => matrix_Powers.l0 k (p : Int) (n : Int) ((cM (vandN p n xs)).take i) (Arith.cast xs) (xs.length : Int) (i : Int)) (cM (vandN p n xs), 0) := by
 have hL : (cM (vandN p n xs)).length = xs.length := by rw [cM_len, vandN_len]
 intro d
 induction d with
 | zero =>
  intro i hd hi
  refine Ev.step (fun k => matrix_Powers.l0.eq_2 _ _ _ _ _ _ k) (Ev.neg (by omega) ?_)
  rw [List.take_of_length_le (l := cM (vandN p n xs)) (by omega)]
  exact Ev.now _
 | succ d ih =>
  intro i hd hi
  have hil : i < xs.length := by omega
  refine Ev.step (fun k => matrix_Powers.l0.eq_2 _ _ _ _ _ _ k) (Ev.pos (by omega) (Ev.pos (by omega) (Ev.pos (by rw [cast_len]; omega) (Ev.pos (by omega) (Ev.pos (by omega) ?_)))))
  rw [cast_rd xs i hil, Int.toNat_natCast]
  have h1 := ih (i + 1) (by omega) (by omega)
  have e : (cM (vandN p n xs))[i]'(by omega) = Arith.cast (powN p n xs[i]) := by simp [vandN]
  rw [List.take_succ_eq_append_getElem (by omega), e] at h1
  have h2 := mpow_l1 h3 hp hn xs hx4 (hx _ (List.getElem_mem hil)) hil _ (by rw [List.length_take]; omega) _ h1 n 0 1 (by omega) (by omega) (by rw [Nat.pow_zero, Nat.mod_eq_of_lt (by omega)])
  rw [List.take_zero, List.nil_append, Nat.sub_zero] at h2
  exact h2
end
/-- What Powers tells. -/
noncomputable def powR (p : Nat) (xs : List Nat) (n : Int) : List (List Int) × Int :=
 if isP p = true then (if xs.length < 1 ∨ 64 < xs.length ∨ n < 1 ∨ 64 < n then ([], 3) else if below p xs = 0 then (cM (vandN p n.toNat xs), 0) else ([], 2)) else ([], 2)
theorem matrix_Powers_ev (p : Nat) (xs : List Nat) (n : Int) (hxl : xs.length < 9223372036854775807) : Ev (fun k => matrix_Powers.f k (p : Int) (Arith.cast xs) n) (powR p xs n) := by
 unfold matrix_Powers.f powR
 refine (field_Is_ev p).bind ?_
 by_cases hP : isP p = true
 ·rw [hP, if_pos rfl]
  refine Ev.pos rfl ?_
  have hP' := isP_iff.1 hP
  rw [cast_len]
  have bad : Ev (fun k => matrix_Powers.j0 k (p : Int) (Arith.cast xs) n true) (([] : List (List Int)), (3 : Int)) :=
   Ev.step (fun k => matrix_Powers.j0.eq_2 _ _ _ _ k) (Ev.pos rfl (Ev.now _))
  by_cases h1 : xs.length < 1
  ·rw [if_pos (Or.inl h1)]
   exact Ev.pos (by omega) bad
  ·refine Ev.neg (by omega) ?_
   by_cases h2 : 64 < xs.length
   ·rw [if_pos (Or.inr (Or.inl h2))]
    exact Ev.pos (by omega) bad
   ·refine Ev.neg (by omega) ?_
    by_cases h3 : n < 1
    ·rw [if_pos (Or.inr (Or.inr (Or.inl h3)))]
     exact Ev.pos h3 bad
    ·refine Ev.neg h3 ?_
     by_cases h4 : 64 < n
     ·rw [if_pos (Or.inr (Or.inr (Or.inr h4))), decide_eq_true (show n > 64 from h4)]
      exact bad
     ·rw [if_neg (by omega), decide_eq_false (show ¬ n > 64 from h4)]
      refine Ev.step (fun k => matrix_Powers.j0.eq_2 _ _ _ _ k) (Ev.neg (by decide) ((below_ev p xs hxl).bind ?_))
      by_cases h5 : below p xs = 0
      ·rw [if_pos h5]
       refine Ev.pos h5 ?_
       rw [cast_len]
       obtain ⟨n', rfl⟩ := Int.eq_ofNat_of_zero_le (show 0 ≤ n by omega)
       have h := mpow_l0 (n := n') hP'.1 hP'.2.1 (by omega) xs (by omega) (below_zero.1 h5) xs.length 0 (by omega) (by omega)
       rw [List.take_zero] at h
       exact h
      ·rw [if_neg h5]
       exact Ev.neg h5 (Ev.now _)
 ·rw [if_neg hP]
  exact Ev.neg hP (Ev.now _)
end Go.Proofs.Ytfdkhkajehopkaa.Mb
