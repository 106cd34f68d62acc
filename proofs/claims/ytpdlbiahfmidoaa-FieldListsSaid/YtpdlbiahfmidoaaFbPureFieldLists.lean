/- FieldLists, in plain lists: the program's sums are the references'. -/
import Derived.Test.YtpdlbiahfmidoaaFbTie2
import Derived.Test.YtpdlbiahfmidoaaFbLFieldLists
namespace Go.Proofs.Ytpdlbiahfmidoaa.Fb
open Go.RowKit Go.Proofs.YtpdlbiahfmidoaaW.PrintWords Go.Proofs.YtpdlbiahfmidoaaW.PrintMore Go.Proofs.Ytpdlbiahfmidoaa.Num Go.Proofs.Ytpdlbiahfmidoaa.Arith

theorem refAdd_tie {p a b : Nat} (h0 : 0 < p) (hp : p ≤ 65537) (ha : a < p) (hb : b < p) : juntoref01_Add.f (p : Int) (a : Int) (b : Int) = some (((a + b) % p : Nat) : Int) := by
  unfold juntoref01_Add.f
  rw [if_neg (by omega), refAdd_small h0 hp ha hb, tmod_nat]

def sumFrom (p : Nat) : Nat → List Nat → Nat
  | s, [] => s
  | s, x :: xs => sumFrom p ((s + x) % p) xs
theorem sum_l0 (p : Nat) (h0 : 0 < p) (hp : p ≤ 65537) (xs : List Nat) (hx : ∀ x ∈ xs, x < p) (hl : xs.length < 9223372036854775807) : ∀ (d i k s : Nat), xs.length - i = d → d < k → s < p →
    field_Sum.l0 k (p : Int) (s : Int) (Arith.cast xs) (xs.length : Int) (i : Int) = some ((sumFrom p s (xs.drop i) : Int), 0) := by
  intro d
  induction d with
  | zero =>
    intro i k s hd hk hs
    obtain ⟨k, rfl⟩ : ∃ m, k = m + 1 := ⟨k - 1, by omega⟩
    simp only [field_Sum.l0]
    rw [if_neg (by omega), List.drop_eq_nil_of_le (by omega)]
    rfl
  | succ d ih =>
    intro i k s hd hk hs
    obtain ⟨k, rfl⟩ : ∃ m, k = m + 1 := ⟨k - 1, by omega⟩
    have hi : i < xs.length := by omega
    simp only [field_Sum.l0]
    rw [if_pos (by omega), if_pos (by omega), if_pos (by simpa using hi), cast_rd xs i hi, plus_tie h0 hp hs (hx _ (List.getElem_mem hi))]
    simp only [Option.bind_some]
    rw [w64_in (by omega) (by omega), List.drop_eq_getElem_cons hi]
    exact ih (i + 1) k _ (by omega) (by omega) (Nat.mod_lt _ h0)
theorem refSum_l0 (p : Nat) (h0 : 0 < p) (hp : p ≤ 65537) (xs : List Nat) (hx : ∀ x ∈ xs, x < p) (hl : xs.length < 9223372036854775807) : ∀ (d i k s : Nat), xs.length - i = d → d < k → s < p →
    juntoref01_Sum.l0 k (p : Int) (s : Int) (Arith.cast xs) (xs.length : Int) (i : Int) = some ((sumFrom p s (xs.drop i) : Int)) := by
  intro d
  induction d with
  | zero =>
    intro i k s hd hk hs
    obtain ⟨k, rfl⟩ : ∃ m, k = m + 1 := ⟨k - 1, by omega⟩
    simp only [juntoref01_Sum.l0]
    rw [if_neg (by omega), List.drop_eq_nil_of_le (by omega)]
    rfl
  | succ d ih =>
    intro i k s hd hk hs
    obtain ⟨k, rfl⟩ : ∃ m, k = m + 1 := ⟨k - 1, by omega⟩
    have hi : i < xs.length := by omega
    simp only [juntoref01_Sum.l0]
    rw [if_pos (by omega), if_pos (by omega), if_pos (by simpa using hi), cast_rd xs i hi, refAdd_tie h0 hp hs (hx _ (List.getElem_mem hi))]
    simp only [Option.bind_some]
    rw [w64_in (by omega) (by omega), List.drop_eq_getElem_cons hi]
    exact ih (i + 1) k _ (by omega) (by omega) (Nat.mod_lt _ h0)

def dotFrom (p : Nat) : Nat → List Nat → List Nat → Nat
  | s, x :: xs, y :: ys => dotFrom p ((s + x * y % p) % p) xs ys
  | s, _, _ => s
theorem scalar_l0 (p : Nat) (h0 : 0 < p) (hp : p ≤ 65537) (xs ys : List Nat) (hx : ∀ x ∈ xs, x < p) (hy : ∀ y ∈ ys, y < p) (he : xs.length = ys.length) (hl : xs.length < 9223372036854775807) : ∀ (d i k s : Nat), xs.length - i = d → d < k → s < p →
    field_Scalar.l0 k (p : Int) (Arith.cast xs) (Arith.cast ys) (s : Int) (xs.length : Int) (i : Int) = some ((dotFrom p s (xs.drop i) (ys.drop i) : Int)) := by
  intro d
  induction d with
  | zero =>
    intro i k s hd hk hs
    obtain ⟨k, rfl⟩ : ∃ m, k = m + 1 := ⟨k - 1, by omega⟩
    simp only [field_Scalar.l0]
    rw [if_neg (by omega), List.drop_eq_nil_of_le (by omega)]
    rfl
  | succ d ih =>
    intro i k s hd hk hs
    obtain ⟨k, rfl⟩ : ∃ m, k = m + 1 := ⟨k - 1, by omega⟩
    have hi : i < xs.length := by omega
    have hi' : i < ys.length := by omega
    have hx' := hx _ (List.getElem_mem hi)
    have hy' := hy _ (List.getElem_mem hi')
    simp only [field_Scalar.l0]
    rw [if_pos (by omega), if_pos (by omega), if_pos (by simpa using hi), if_pos (by simpa using hi'), cast_rd xs i hi, cast_rd ys i hi', mul_tie h0 hp hx' hy']
    simp only [Option.bind_some]
    rw [plus_tie h0 hp hs (Nat.mod_lt _ h0)]
    simp only [Option.bind_some]
    rw [w64_in (by omega) (by omega), List.drop_eq_getElem_cons hi, List.drop_eq_getElem_cons hi']
    exact ih (i + 1) k _ (by omega) (by omega) (Nat.mod_lt _ h0)
theorem refDot_l0 (p : Nat) (h0 : 0 < p) (hp : p ≤ 65537) (xs ys : List Nat) (hx : ∀ x ∈ xs, x < p) (hy : ∀ y ∈ ys, y < p) (he : xs.length = ys.length) (hl : xs.length < 9223372036854775807) : ∀ (d i k s : Nat), xs.length - i = d → d < k → s < p →
    juntoref01_Dot.l0 k (p : Int) (Arith.cast xs) (Arith.cast ys) (s : Int) (xs.length : Int) (i : Int) = some ((dotFrom p s (xs.drop i) (ys.drop i) : Int)) := by
  intro d
  induction d with
  | zero =>
    intro i k s hd hk hs
    obtain ⟨k, rfl⟩ : ∃ m, k = m + 1 := ⟨k - 1, by omega⟩
    simp only [juntoref01_Dot.l0]
    rw [if_neg (by omega), List.drop_eq_nil_of_le (by omega)]
    rfl
  | succ d ih =>
    intro i k s hd hk hs
    obtain ⟨k, rfl⟩ : ∃ m, k = m + 1 := ⟨k - 1, by omega⟩
    have hi : i < xs.length := by omega
    have hi' : i < ys.length := by omega
    have hx' := hx _ (List.getElem_mem hi)
    have hy' := hy _ (List.getElem_mem hi')
    simp only [juntoref01_Dot.l0]
    rw [if_pos (by omega), if_pos (by omega), if_pos (by simpa using hi), if_pos (by simpa using hi'), cast_rd xs i hi, cast_rd ys i hi', refMul_tie h0 hp hx' hy']
    simp only [Option.bind_some]
    rw [refAdd_tie h0 hp hs (Nat.mod_lt _ h0)]
    simp only [Option.bind_some]
    rw [w64_in (by omega) (by omega), List.drop_eq_getElem_cons hi, List.drop_eq_getElem_cons hi']
    exact ih (i + 1) k _ (by omega) (by omega) (Nat.mod_lt _ h0)

theorem sum_ev (p : Nat) (xs : List Nat) (hl : xs.length < 9223372036854775807) : Ev (fun k => field_Sum.f k (p : Int) (Arith.cast xs)) (if right p xs = 0 then ((sumFrom p 0 xs : Int), (0 : Int)) else (0, 2)) := by
  unfold field_Sum.f
  refine (check_ev p xs hl).bind ?_
  by_cases h : right p xs = 0
  · have hg := right_zero.1 h
    have h3 := hg.1.1
    refine Ev.same (Ev.pos h ?_) (if_pos h).symm
    refine Ev.of (fun k => (field_Sum.mono_l k) _ _ _ _ _) (k := xs.length + 1) ?_
    simpa using sum_l0 p (by omega) hg.1.2.1 xs hg.2 hl xs.length 0 (xs.length + 1) 0 (by omega) (by omega) (by omega)
  · exact Ev.same (Ev.neg h (Ev.now _)) (by rw [if_neg h, (right_two p xs).resolve_left h])
theorem dot_ev (p : Nat) (xs ys : List Nat) (hl : xs.length < 9223372036854775807) (hl' : ys.length < 9223372036854775807) :
    Ev (fun k => field_Dot.f k (p : Int) (Arith.cast xs) (Arith.cast ys)) (if right p xs = 0 then (if below p ys = 0 then (if xs.length = ys.length then ((dotFrom p 0 xs ys : Int), (0 : Int)) else (0, 2)) else (0, 2)) else (0, 2)) := by
  unfold field_Dot.f
  refine (check_ev p xs hl).bind ?_
  by_cases h : right p xs = 0
  · have hg := right_zero.1 h
    have h3 := hg.1.1
    refine Ev.same (Ev.pos h ((below_ev p ys hl').bind ?_)) (if_pos h).symm
    by_cases hb : below p ys = 0
    · refine Ev.same (Ev.pos hb ?_) (if_pos hb).symm
      have hy : ∀ y ∈ ys, y < p := by
        unfold below at hb
        by_cases ha : ys.all (· < p) = true
        · simpa using ha
        · rw [if_neg ha] at hb; exact absurd hb (by decide)
      by_cases he : xs.length = ys.length
      · refine Ev.same (Ev.pos (by simp [he]) ?_) (if_pos he).symm
        refine Ev.bind (a := (dotFrom p 0 xs ys : Int)) ?_ (Ev.now _)
        refine Ev.of (field_Scalar.mono _ _ _) (k := xs.length + 1) ?_
        unfold field_Scalar.f
        simpa using scalar_l0 p (by omega) hg.1.2.1 xs ys hg.2 hy he hl xs.length 0 (xs.length + 1) 0 (by omega) (by omega) (by omega)
      · exact Ev.same (Ev.neg (by simp; omega) (Ev.now _)) (if_neg he).symm
    · refine Ev.same (Ev.neg hb (Ev.now _)) ?_
      rw [if_neg hb]
      have : below p ys = 2 := by
        unfold below at hb ⊢
        by_cases ha : ys.all (· < p) = true
        · rw [if_pos ha] at hb; exact absurd rfl hb
        · rw [if_neg ha]
      rw [this]
  · exact Ev.same (Ev.neg h (Ev.now _)) (by rw [if_neg h, (right_two p xs).resolve_left h])

theorem Pure_FieldLists : juntolaw01_FieldLists.Pure := by
  intro a0 l1 l2 w0 hl hl8 hwf hl' hl8' hwf'
  obtain ⟨p, rfl, hp⟩ := nat_u64 w0
  obtain ⟨xs, rfl, hx⟩ := nats l1 hwf
  obtain ⟨ys, rfl, hy⟩ := nats l2 hwf'
  have hlx : xs.length < 9223372036854775807 := by simp at hl8; omega
  have hly : ys.length < 9223372036854775807 := by simp at hl8'; omega
  refine Ev.rounds (g := fun k => juntolaw01_FieldLists.f k (p : Int) (Arith.cast xs) (Arith.cast ys)) ?_
  unfold juntolaw01_FieldLists.f
  refine (sum_ev p xs hlx).bind ((dot_ev p xs ys hlx hly).bind ((right_ev p xs hlx).bind ?_))
  by_cases h : right p xs = 0
  · have hg := right_zero.1 h
    obtain ⟨h3, hp', _⟩ := hg.1
    simp only [if_pos h]
    refine Ev.bind (a := (sumFrom p 0 xs : Int)) ?_ (Ev.bind0 (is_tie _ _ _ _) (Ev.pos (by simp) ((within_ev p ys hly).bind ?_)))
    · refine Ev.of (juntoref01_Sum.mono _ _) (k := xs.length + 1) ?_
      unfold juntoref01_Sum.f
      simpa using refSum_l0 p (by omega) hp' xs hg.2 hlx xs.length 0 (xs.length + 1) 0 (by omega) (by omega) (by omega)
    · by_cases hb : below p ys = 0
      · have hy : ∀ y ∈ ys, y < p := by
          unfold below at hb
          by_cases ha : ys.all (· < p) = true
          · simpa using ha
          · rw [if_neg ha] at hb; exact absurd hb (by decide)
        refine Ev.pos hb ?_
        by_cases he : xs.length = ys.length
        · have hne : (((Arith.cast xs).length : Int) != ((Arith.cast ys).length : Int)) = false := by simp [he]
          rw [hne]
          refine Ev.step (fun k => by simp only [juntolaw01_FieldLists.j0]; rfl) ?_
          refine Ev.neg (by simp) (Ev.bind (a := (dotFrom p 0 xs ys : Int)) ?_ (Ev.bind0 (is_tie _ _ _ _) (Ev_some ?_)))
          · refine Ev.of (juntoref01_Dot.mono _ _ _) (k := xs.length + 1) ?_
            unfold juntoref01_Dot.f
            simpa using refDot_l0 p (by omega) hp' xs ys hg.2 hy he hlx xs.length 0 (xs.length + 1) 0 (by omega) (by omega) (by omega)
          · simp [if_pos hb, if_pos he]
        · have hne : (((Arith.cast xs).length : Int) != ((Arith.cast ys).length : Int)) = true := by simp; omega
          rw [hne]
          refine Ev.step (fun k => by simp only [juntolaw01_FieldLists.j0]; rfl) ?_
          refine Ev.pos (by simp) (Ev.bind0 (is_tie _ _ _ _) (Ev_some ?_))
          simp [if_neg he]
      · refine Ev.neg hb ?_
        refine Ev.step (fun k => by simp only [juntolaw01_FieldLists.j0]; rfl) ?_
        refine Ev.pos (by simp) (Ev.bind0 (is_tie _ _ _ _) (Ev_some ?_))
        simp [if_neg hb]
  · have h2 := (right_two p xs).resolve_left h
    simp only [h2]
    refine Ev.neg (by decide) (Ev.bind0 (is_tie _ _ _ _) (Ev.pos (by simp) (Ev.bind0 (is_tie _ _ _ _) (Ev.pos (by simp) (alive_ev.bind (Ev.now _))))))
end Go.Proofs.Ytpdlbiahfmidoaa.Fb
