/- What Check, its reference and Same come to, in plain lists of lists of numbers; the chapter's example. -/
import Derived.Test.YtfdkhkajehopkaaMbTie
import Derived.Test.YtfdkhkajehopkaaMbG2
import Derived.Test.YtfdkhkajehopkaaMbRefCheck
import Derived.Test.YtfdkhkajehopkaaMbFLawAlive
import Derived.Test.YtfdkhkajehopkaaMbRows
namespace Go.Proofs.Ytfdkhkajehopkaa.Mb
open Go.RowKit Go.Proofs.YtfdkhkajehopkaaW.PrintWords Go.Proofs.YtfdkhkajehopkaaW.PrintLast Go.Proofs.YtfdkhkajehopkaaW.PrintMore
open Go.Proofs.Ytfdkhkajehopkaa.Num Go.Proofs.Ytfdkhkajehopkaa.Arith
set_option linter.unusedVariables false

theorem alive_ev : Ev (fun k => juntolaw03_alive.f k) true :=
 Ev.of juntolaw03_alive.mono (k := 60) (by decide +kernel)

/-- A matrix of natural numbers, as the walks have it. -/
abbrev cM (m : List (List Nat)) : List (List Int) := m.map Arith.cast
abbrev row0 (m : List (List Nat)) : List Nat := m.getD 0 []
theorem mats (l : List (List Int)) (h : WfRows l) : ∃ m : List (List Nat), l = cM m := by
 have h2 := h.2
 clear h
 induction l with
 | nil => exact ⟨[], rfl⟩
 | cons x l ih =>
  obtain ⟨m, rfl⟩ := ih (fun y hy => h2 y (List.mem_cons_of_mem _ hy))
  obtain ⟨r, rfl, hr⟩ := nats x (h2 x (by simp)).2
  exact ⟨r :: m, rfl⟩
theorem cM_get (m : List (List Nat)) (i : Nat) : (cM m).getD i [] = Arith.cast (m.getD i []) := by
 rw [List.getD_eq_getElem?_getD, List.getD_eq_getElem?_getD, List.getElem?_map]
 cases m[i]? <;> rfl
theorem cM_row (m : List (List Nat)) (i : Nat) : rd_L1 (cM m) (i : Int) = Arith.cast (m.getD i []) := cM_get m i
theorem cM_row0 (m : List (List Nat)) : rd_L1 (cM m) 0 = Arith.cast (row0 m) := cM_get m 0
theorem cast_len (r : List Nat) : (Arith.cast r).length = r.length := by simp
theorem cM_len (m : List (List Nat)) : (cM m).length = m.length := by simp

/-- What the checks say of the form of a matrix .. -/
noncomputable def formM (p : Nat) (m : List (List Nat)) : Int :=
 if m.length < 1 ∨ 64 < m.length ∨ (row0 m).length < 1 ∨ 64 < (row0 m).length then 3
 else if ∃ r ∈ m, r.length ≠ (row0 m).length then 4
 else if ∃ r ∈ m, ∃ x ∈ r, p ≤ x then 2 else 0
/-- .. and of a matrix. -/
noncomputable def chkM (p : Nat) (m : List (List Nat)) : Int := if isP p = true then formM p m else 2
theorem below_zero {p : Nat} {xs : List Nat} : below p xs = 0 ↔ ∀ x ∈ xs, x < p := by
 unfold below
 constructor
 ·intro h
  split at h
  ·rename_i c; simpa using c
  ·cases h
 ·intro h
  rw [if_pos (by simpa using h)]
theorem not_below {p : Nat} {r : List Nat} : (¬ ∀ x ∈ r, x < p) ↔ ∃ x ∈ r, p ≤ x := by
 constructor
 ·intro h
  exact Classical.byContradiction fun c => h fun x hx => Nat.lt_of_not_le fun c2 => c ⟨x, hx, c2⟩
 ·rintro ⟨x, hx, h⟩ h2
  have := h2 x hx
  omega
theorem below_two {p : Nat} {xs : List Nat} : below p xs = 0 ∨ below p xs = 2 := by
 unfold below; split <;> simp
/-- With enough rounds, all rows are told. -/
theorem below_rows (p : Nat) : ∀ m : List (List Nat), (∀ r ∈ m, r.length ≤ 64) → ∃ K, ∀ k, K ≤ k → ∀ r ∈ m, field_Below.f k (p : Int) (Arith.cast r) = some (below p r)
 | [], _ => ⟨0, fun _ _ _ h => by cases h⟩
 | r :: m, h => by
  obtain ⟨K1, h1⟩ := below_rows p m (fun x hx => h x (List.mem_cons_of_mem _ hx))
  obtain ⟨K2, h2⟩ := below_ev p r (by have := h r List.mem_cons_self; omega)
  refine ⟨K1 + K2, fun k hk x hx => ?_⟩
  rcases List.mem_cons.1 hx with rfl | hx
  ·exact h2 k (by omega)
  ·exact h1 k (by omega) x hx
theorem matrix_Check_ev (p : Nat) (m : List (List Nat)) : Ev (fun k => matrix_Check.f k (p : Int) (cM m)) (chkM p m) := by
 unfold matrix_Check.f chkM
 refine (field_Is_ev p).bind ?_
 by_cases hp : isP p = true
 ·rw [hp, if_pos rfl, cM_row0, cM_len, cast_len]
  refine Ev.pos rfl ?_
  unfold formM
  by_cases h1 : m.length < 1 ∨ 64 < m.length ∨ (row0 m).length < 1 ∨ 64 < (row0 m).length
  ·rw [if_pos h1]
   exact Ev.pos h1 (Ev.now _)
  ·rw [if_neg h1]
   refine Ev.neg h1 ?_
   by_cases h2 : ∃ r ∈ m, r.length ≠ (row0 m).length
   ·rw [if_pos h2]
    refine Ev.pos ?_ (Ev.now _)
    obtain ⟨r, hr, h⟩ := h2
    exact List.any_eq_true.2 ⟨Arith.cast r, List.mem_map_of_mem hr, by simpa [badLen] using h⟩
   ·rw [if_neg h2]
    refine Ev.neg ?_ ?_
    ·intro h
     obtain ⟨r', hr', h⟩ := List.any_eq_true.1 h
     obtain ⟨r, hr, rfl⟩ := List.mem_map.1 hr'
     exact h2 ⟨r, hr, by simpa [badLen] using h⟩
    ·have hl : ∀ r ∈ m, r.length ≤ 64 := fun r hr => Decidable.byContradiction fun c => h2 ⟨r, hr, by omega⟩
     obtain ⟨K, hK⟩ := below_rows p m hl
     refine ⟨K, fun k hk => ?_⟩
     have hk := hK k hk
     have hall : ((cM m).all fun r => (field_Below.f k (p : Int) r).isSome) = true := by
      refine List.all_eq_true.2 fun r' hr' => ?_
      obtain ⟨r, hr, rfl⟩ := List.mem_map.1 hr'
      rw [hk r hr]; rfl
     show (if ((cM m).all fun r => (field_Below.f k (p : Int) r).isSome) = true then (if (cM m).any (badNum k (p : Int)) = true then some (2 : Int) else some 0) else none) = _
     rw [if_pos hall]
     have hbad : ∀ r ∈ m, badNum k (p : Int) (Arith.cast r) = true ↔ ∃ x ∈ r, p ≤ x := by
      intro r hr
      unfold badNum
      rw [hk r hr]
      simp only [Option.getD_some, bne_iff_ne, ne_eq]
      rw [below_zero]
      exact not_below
     by_cases h3 : ∃ r ∈ m, ∃ x ∈ r, p ≤ x
     ·rw [if_pos h3, if_pos]
      obtain ⟨r, hr, h⟩ := h3
      exact List.any_eq_true.2 ⟨Arith.cast r, List.mem_map_of_mem hr, (hbad r hr).2 h⟩
     ·rw [if_neg h3, if_neg]
      intro h
      obtain ⟨r', hr', h⟩ := List.any_eq_true.1 h
      obtain ⟨r, hr, rfl⟩ := List.mem_map.1 hr'
      exact h3 ⟨r, hr, (hbad r hr).1 h⟩
 ·rw [if_neg hp]
  exact Ev.neg hp (Ev.now _)
theorem form_l1 (p : Nat) (m : List (List Nat)) (hm : m.length ≤ 64) (hl : ∀ r ∈ m, r.length ≤ 64) : ∀ (d i : Nat), m.length - i = d → Ev (fun k => juntoref03_Form.l1 k (p : Int) (cM m) (m.length : Int) (i : Int)) (if ∃ r ∈ m.drop i, ∃ x ∈ r, p ≤ x then 2 else 0) := by
 intro d
 induction d with
 | zero =>
  intro i hd
  refine Ev.step (fun k => juntoref03_Form.l1.eq_2 _ _ _ _ k) (Ev.neg (by omega) ?_)
  rw [List.drop_eq_nil_of_le (by omega), if_neg (by simp)]
  exact Ev.now _
 | succ d ih =>
  intro i hd
  have hi : i < m.length := by omega
  refine Ev.step (fun k => juntoref03_Form.l1.eq_2 _ _ _ _ k) (Ev.pos (by omega) (Ev.pos (by omega) (Ev.pos (by rw [cM_len]; omega) ?_)))
  have hr : m.getD i [] = m[i] := by rw [List.getD_eq_getElem?_getD, List.getElem?_eq_getElem hi]; rfl
  rw [cM_row, hr, List.drop_eq_getElem_cons hi]
  refine (within_ev p m[i] (by have := hl _ (List.getElem_mem hi); omega)).bind ?_
  by_cases hz : below p m[i] = 0
  ·refine Ev.pos hz ?_
   have hz' := below_zero.1 hz
   rw [w64_in (by omega) (by omega)]
   refine Ev.same (ih (i + 1) (by omega)) ?_
   have : (∃ r ∈ m[i] :: m.drop (i + 1), ∃ x ∈ r, p ≤ x) ↔ ∃ r ∈ m.drop (i + 1), ∃ x ∈ r, p ≤ x := by
    constructor
    ·rintro ⟨r, hr, x, hx, h⟩
     rcases List.mem_cons.1 hr with rfl | hr
     ·have := hz' x hx; omega
     ·exact ⟨r, hr, x, hx, h⟩
    ·rintro ⟨r, hr, x, hx, h⟩
     exact ⟨r, List.mem_cons_of_mem _ hr, x, hx, h⟩
   simp only [this]
  ·refine Ev.neg hz ?_
   rw [if_pos]
   ·rcases below_two (p := p) (xs := m[i]) with h | h
    ·exact absurd h hz
    ·rw [h]; exact Ev.now _
   ·rw [below_zero] at hz
    obtain ⟨x, hx, h⟩ := not_below.1 hz
    exact ⟨m[i], List.mem_cons_self, x, hx, h⟩
theorem form_l0 (p : Nat) (m : List (List Nat)) (hm : 1 ≤ m.length ∧ m.length ≤ 64) (hl : (row0 m).length ≤ 64) : ∀ (d i : Nat), m.length - i = d → (∀ r ∈ m.take i, r.length = (row0 m).length) → Ev (fun k => juntoref03_Form.l0 k (p : Int) (cM m) (cM m) (m.length : Int) (i : Int)) (if ∃ r ∈ m.drop i, r.length ≠ (row0 m).length then 4 else if ∃ r ∈ m, ∃ x ∈ r, p ≤ x then 2 else 0) := by
 intro d
 induction d with
 | zero =>
  intro i hd ht
  refine Ev.step (fun k => juntoref03_Form.l0.eq_2 _ _ _ _ _ k) (Ev.neg (by omega) ?_)
  rw [List.drop_eq_nil_of_le (by omega), if_neg (by simp), cM_len]
  rw [List.take_of_length_le (by omega)] at ht
  have := form_l1 p m hm.2 (fun r hr => by rw [ht r hr]; exact hl) m.length 0 (by omega)
  simpa using this
 | succ d ih =>
  intro i hd ht
  have hi : i < m.length := by omega
  refine Ev.step (fun k => juntoref03_Form.l0.eq_2 _ _ _ _ _ k) (Ev.pos (by omega) (Ev.pos (by omega) (Ev.pos (by rw [cM_len]; omega) (Ev.pos (by rw [cM_len]; omega) ?_))))
  have hr : m.getD i [] = m[i] := by rw [List.getD_eq_getElem?_getD, List.getElem?_eq_getElem hi]; rfl
  rw [cM_row, cM_row0, hr, cast_len, cast_len, List.drop_eq_getElem_cons hi]
  by_cases hz : m[i].length = (row0 m).length
  ·refine Ev.pos (by omega) ?_
   rw [w64_in (by omega) (by omega)]
   refine Ev.same (ih (i + 1) (by omega) (fun r hr => ?_)) ?_
   ·rw [List.take_succ_eq_append_getElem hi] at hr
    rcases List.mem_append.1 hr with hr | hr
    ·exact ht r hr
    ·obtain rfl := List.mem_singleton.1 hr; exact hz
   have : (∃ r ∈ m[i] :: m.drop (i + 1), r.length ≠ (row0 m).length) ↔ ∃ r ∈ m.drop (i + 1), r.length ≠ (row0 m).length := by
    constructor
    ·rintro ⟨r, hr, h⟩
     rcases List.mem_cons.1 hr with rfl | hr
     ·exact absurd hz h
     ·exact ⟨r, hr, h⟩
    ·rintro ⟨r, hr, h⟩
     exact ⟨r, List.mem_cons_of_mem _ hr, h⟩
   simp only [this]
  ·refine Ev.neg (by omega) ?_
   rw [if_pos ⟨m[i], List.mem_cons_self, hz⟩]
   exact Ev.now _
theorem form_ev (p : Nat) (m : List (List Nat)) : Ev (fun k => juntoref03_Form.f k (p : Int) (cM m)) (formM p m) := by
 unfold juntoref03_Form.f formM
 rw [cM_row0, cM_len, cast_len]
 by_cases h1 : m.length < 1
 ·rw [if_pos (Or.inl h1)]
  exact Ev.pos (by omega) (Ev.step (fun k => juntoref03_Form.j0.eq_2 _ _ _ k) (Ev.pos rfl (Ev.now _)))
 ·refine Ev.neg (by omega) ?_
  by_cases h2 : 64 < m.length
  ·rw [if_pos (Or.inr (Or.inl h2))]
   exact Ev.pos (by omega) (Ev.step (fun k => juntoref03_Form.j0.eq_2 _ _ _ k) (Ev.pos rfl (Ev.now _)))
  ·refine Ev.neg (by omega) (Ev.pos (by omega) ?_)
   by_cases h3 : (row0 m).length < 1
   ·rw [if_pos (Or.inr (Or.inr (Or.inl h3)))]
    exact Ev.pos (by omega) (Ev.step (fun k => juntoref03_Form.j0.eq_2 _ _ _ k) (Ev.pos rfl (Ev.now _)))
   ·refine Ev.neg (by omega) ?_
    by_cases h4 : 64 < (row0 m).length
    ·rw [if_pos (Or.inr (Or.inr (Or.inr h4)))]
     exact Ev.step (fun k => juntoref03_Form.j0.eq_2 _ _ _ k) (Ev.pos (decide_eq_true (by omega)) (Ev.now _))
    ·rw [if_neg (by omega)]
     refine Ev.step (fun k => juntoref03_Form.j0.eq_2 _ _ _ k) (Ev.neg (by rw [decide_eq_false (by omega)]; decide) ?_)
     rw [cM_len]
     have := form_l0 p m ⟨by omega, by omega⟩ (by omega) m.length 0 (by omega) (by simp)
     simpa using this
theorem checks_l0 (p : Nat) (ms : List (List (List Nat))) (hn : ms.length ≤ 64) : ∀ (d i : Nat), ms.length - i = d → Ev (fun k => juntoref03_Check.l0 k (p : Int) (ms.map cM) (ms.length : Int) (i : Int)) (((ms.drop i).map (formM p)).find? (· != 0) |>.getD 0) := by
 intro d
 induction d with
 | zero =>
  intro i hd
  refine Ev.step (fun k => juntoref03_Check.l0.eq_2 _ _ _ _ k) (Ev.neg (by omega) ?_)
  rw [List.drop_eq_nil_of_le (by omega)]
  exact Ev.now _
 | succ d ih =>
  intro i hd
  have hi : i < ms.length := by omega
  refine Ev.step (fun k => juntoref03_Check.l0.eq_2 _ _ _ _ k) (Ev.pos (by omega) (Ev.pos (by omega) (Ev.pos (by rw [List.length_map]; omega) ?_)))
  have hr : rd_L2 (ms.map cM) (i : Int) = cM ms[i] := by
   show (ms.map cM).getD i [] = _
   rw [List.getD_eq_getElem?_getD, List.getElem?_map, List.getElem?_eq_getElem hi]; rfl
  rw [hr, List.drop_eq_getElem_cons hi, List.map_cons]
  refine (form_ev p ms[i]).bind ?_
  by_cases hz : formM p ms[i] = 0
  ·refine Ev.pos hz ?_
   rw [w64_in (by omega) (by omega), List.find?_cons_of_neg (by simp [hz])]
   exact ih (i + 1) (by omega)
  ·refine Ev.neg hz ?_
   rw [List.find?_cons_of_pos (by simp [hz])]
   exact Ev.now _
theorem ref_Check1_ev (p : Nat) (m : List (List Nat)) : Ev (fun k => ref_Check1.f k (p : Int) (cM m)) (chkM p m) := by
 unfold ref_Check1.f juntoref03_Check.f chkM
 refine (ref_Is_ev p).bind ?_
 by_cases hp : isP p = true
 ·rw [hp, if_pos rfl]
  refine Ev.pos rfl ?_
  have h := checks_l0 p [m] (by simp) 1 0 rfl
  refine Ev.same h ?_
  simp only [List.drop_zero, List.map_cons, List.map_nil]
  by_cases hz : formM p m = 0
  ·rw [List.find?_cons_of_neg (by simp [hz]), hz]; rfl
  ·rw [List.find?_cons_of_pos (by simp [hz])]; rfl
 ·rw [if_neg hp]
  exact Ev.neg hp (Ev.now _)
/-- A matrix that was checked. -/
structure Good (p : Nat) (m : List (List Nat)) (n : Nat) : Prop where
 prime : IsP p
 one : 1 ≤ m.length
 rows : m.length ≤ 64
 pos : 1 ≤ n
 cols : n ≤ 64
 head : (row0 m).length = n
 wide : ∀ r ∈ m, r.length = n
 small : ∀ r ∈ m, ∀ x ∈ r, x < p
theorem chkM_zero {p : Nat} {m : List (List Nat)} (h : chkM p m = 0) : Good p m (row0 m).length := by
 unfold chkM at h
 by_cases hp : isP p = true
 ·rw [if_pos hp] at h
  unfold formM at h
  by_cases h1 : m.length < 1 ∨ 64 < m.length ∨ (row0 m).length < 1 ∨ 64 < (row0 m).length
  ·rw [if_pos h1] at h; cases h
  ·rw [if_neg h1] at h
   by_cases h2 : ∃ r ∈ m, r.length ≠ (row0 m).length
   ·rw [if_pos h2] at h; cases h
   ·rw [if_neg h2] at h
    by_cases h3 : ∃ r ∈ m, ∃ x ∈ r, p ≤ x
    ·rw [if_pos h3] at h; cases h
    ·refine ⟨isP_iff.1 hp, by omega, by omega, by omega, by omega, rfl, fun r hr => ?_, fun r hr x hx => ?_⟩
     ·exact Decidable.byContradiction fun c => h2 ⟨r, hr, c⟩
     ·exact Decidable.byContradiction fun c => h3 ⟨r, hr, x, hx, by omega⟩
 ·rw [if_neg hp] at h; cases h
end Go.Proofs.Ytfdkhkajehopkaa.Mb
