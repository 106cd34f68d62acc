/- FieldInverses, in plain lists: all inverses by one power, out of products from the front. -/
import Derived.Test.YtpdlbiahfmidoaaFbTie4
import Derived.Test.YtpdlbiahfmidoaaFbLFieldInverses
namespace Go.Proofs.Ytpdlbiahfmidoaa.Fb
set_option linter.unusedVariables false
open Go.RowKit Go.Proofs.YtpdlbiahfmidoaaW.PrintWords Go.Proofs.YtpdlbiahfmidoaaW.PrintMore Go.Proofs.Ytpdlbiahfmidoaa.Num Go.Proofs.Ytpdlbiahfmidoaa.Arith

/-- The product of the first i. -/
def pre (p : Nat) (xs : List Nat) : Nat → Nat
  | 0 => 1
  | i + 1 => pre p xs i * xs.getD i 0 % p
def inv1 (p a : Nat) : Nat := a ^ (p - 2) % p
theorem getD_lt (xs : List Nat) (i : Nat) (h : i < xs.length) : xs.getD i 0 = xs[i] := by simp [List.getD_eq_getElem?_getD, h]

theorem pre_lt {p : Nat} (h2 : 2 ≤ p) (xs : List Nat) (i : Nat) : pre p xs i < p := by
  cases i with
  | zero => show 1 < p; omega
  | succ i => exact Nat.mod_lt _ (by omega)
theorem pre_nd {p : Nat} (hp : Pr p) (xs : List Nat) (hx : ∀ x ∈ xs, 0 < x ∧ x < p) : ∀ i, i ≤ xs.length → ¬ p ∣ pre p xs i := by
  intro i
  induction i with
  | zero =>
    intro _
    have := hp.two
    exact not_dvd (by show 0 < 1; omega) (by show 1 < p; omega)
  | succ i ih =>
    intro hi hd
    have hx' := hx _ (List.getElem_mem (show i < xs.length by omega))
    have hd' : p ∣ pre p xs i * xs.getD i 0 := Nat.dvd_of_mod_eq_zero (by
      have : pre p xs i * xs.getD i 0 % p % p = 0 := Nat.mod_eq_zero_of_dvd hd
      rwa [Nat.mod_mod] at this)
    rw [getD_lt xs i (by omega)] at hd'
    rcases hp.euclid hd' with g | g
    · exact ih (by omega) g
    · exact not_dvd hx'.1 hx'.2 g

/-- One step from behind. -/
theorem inv_step1 {p a b : Nat} (hp : Pr p) (h3 : 3 ≤ p) (ha : ¬ p ∣ a) : inv1 p (a * b % p) * a % p = inv1 p b := by
  unfold inv1
  rw [← Nat.pow_mod, Nat.mul_pow, Nat.mod_mul_mod, Nat.mul_right_comm, ← Nat.pow_succ, show (p - 2).succ = p - 1 by omega, Nat.mul_mod, fermat1 hp ha, Nat.one_mul, Nat.mod_mod]
theorem inv_step2 {p a b : Nat} (hp : Pr p) (h3 : 3 ≤ p) (hb : ¬ p ∣ b) : inv1 p (a * b % p) * b % p = inv1 p a := by
  rw [Nat.mul_comm a b]
  exact inv_step1 hp h3 hb

/-! ### the products from the front -/
def ahd (p : Nat) (xs : List Nat) (i : Nat) : List Int := (List.range (xs.length + 1)).map fun j => if j ≤ i then ((pre p xs j : Nat) : Int) else 0
theorem ahd_length (p : Nat) (xs : List Nat) (i : Nat) : (ahd p xs i).length = xs.length + 1 := by simp [ahd]
theorem ahd_zero (p : Nat) (xs : List Nat) : (List.replicate (xs.length + 1) (0 : Int)).set 0 1 = ahd p xs 0 := by
  refine List.ext_getElem (by simp [ahd]) fun j h1 h2 => ?_
  rw [List.getElem_set]
  simp only [ahd, List.getElem_map, List.getElem_range, List.getElem_replicate]
  by_cases hj : 0 = j
  · subst hj; simp [pre]
  · rw [if_neg hj, if_neg (by omega)]
theorem ahd_set (p : Nat) (xs : List Nat) (i : Nat) (h : i < xs.length) : (ahd p xs i).set (i + 1) ((pre p xs (i + 1) : Nat) : Int) = ahd p xs (i + 1) := by
  refine List.ext_getElem (by simp [ahd]) fun j h1 h2 => ?_
  rw [List.getElem_set]
  simp only [ahd, List.getElem_map, List.getElem_range]
  by_cases hj : i + 1 = j
  · subst hj; simp
  · rw [if_neg hj]
    by_cases hji : j ≤ i
    · rw [if_pos hji, if_pos (by omega)]
    · rw [if_neg hji, if_neg (by omega)]
theorem ahd_rd (p : Nat) (xs : List Nat) (i j : Nat) (h : j ≤ i) (hj : j ≤ xs.length) : rd (ahd p xs i) (j : Int) = ((pre p xs j : Nat) : Int) := by
  rw [rd_nat _ _ (by rw [ahd_length]; omega)]
  simp only [ahd, List.getElem_map, List.getElem_range]
  rw [if_pos h]

/-! ### the inverses from behind -/
def bhd (p : Nat) (xs : List Nat) (m : Nat) : List Int := (List.range xs.length).map fun j => if m ≤ j then ((inv1 p (xs.getD j 0) : Nat) : Int) else 0
theorem bhd_length (p : Nat) (xs : List Nat) (i : Nat) : (bhd p xs i).length = xs.length := by simp [bhd]
theorem bhd_end (p : Nat) (xs : List Nat) : List.replicate xs.length (0 : Int) = bhd p xs xs.length := by
  refine List.ext_getElem (by simp [bhd]) fun j h1 h2 => ?_
  simp only [bhd, List.getElem_map, List.getElem_range, List.getElem_replicate]
  rw [if_neg (by simpa using h1)]
theorem bhd_set (p : Nat) (xs : List Nat) (m : Nat) (h : m < xs.length) : (bhd p xs (m + 1)).set m ((inv1 p (xs.getD m 0) : Nat) : Int) = bhd p xs m := by
  refine List.ext_getElem (by simp [bhd]) fun j h1 h2 => ?_
  rw [List.getElem_set]
  simp only [bhd, List.getElem_map, List.getElem_range]
  by_cases hj : m = j
  · subst hj; simp
  · rw [if_neg hj]
    by_cases hji : m + 1 ≤ j
    · rw [if_pos hji, if_pos (by omega)]
    · rw [if_neg hji, if_neg (by omega)]

theorem inverses_l1 {p : Nat} (hP : IsP p) (xs : List Nat) (hx : ∀ x ∈ xs, 0 < x ∧ x < p) (hl : xs.length < 17592186044416) : ∀ (m k : Nat), m ≤ xs.length → m < k →
    field_Inverses.l1 k (p : Int) (Arith.cast xs) (ahd p xs xs.length) (bhd p xs m) ((inv1 p (pre p xs m) : Nat) : Int) ((m : Int) - 1) = some (bhd p xs 0, 0) := by
  have hp := hP.pr
  have h3 := hP.1
  intro m
  induction m with
  | zero =>
    intro k hm hk
    obtain ⟨k, rfl⟩ : ∃ m, k = m + 1 := ⟨k - 1, by omega⟩
    simp only [field_Inverses.l1]
    rw [if_neg (by omega)]
  | succ m ih =>
    intro k hm hk
    obtain ⟨k, rfl⟩ : ∃ m, k = m + 1 := ⟨k - 1, by omega⟩
    have e : ((m + 1 : Nat) : Int) - 1 = (m : Int) := by omega
    have hxm := hx _ (List.getElem_mem (show m < xs.length by omega))
    have hinv : inv1 p (pre p xs (m + 1)) < p := Nat.mod_lt _ (by omega)
    rw [e]
    simp only [field_Inverses.l1]
    rw [if_pos (by omega), if_pos (by omega), if_pos (by rw [ahd_length]; omega), ahd_rd p xs _ m (by omega) (by omega), mul_tie (by omega) hP.2.1 hinv (pre_lt (by omega) xs m)]
    simp only [Option.bind_some]
    rw [if_pos (by rw [bhd_length]; omega), if_pos (by simp; omega), cast_rd xs m (by omega), mul_tie (by omega) hP.2.1 hinv hxm.2]
    simp only [Option.bind_some]
    have s1 : inv1 p (pre p xs (m + 1)) * pre p xs m % p = inv1 p (xs.getD m 0) := inv_step1 hp h3 (pre_nd hp xs hx m (by omega))
    have s2 : inv1 p (pre p xs (m + 1)) * xs[m] % p = inv1 p (pre p xs m) := by
      rw [← getD_lt xs m (by omega)]
      exact inv_step2 hp h3 (by rw [getD_lt xs m (by omega)]; exact not_dvd hxm.1 hxm.2)
    rw [s1, s2, Int.toNat_natCast, bhd_set p xs m (by omega), w64_in (by omega) (by omega)]
    exact ih k (by omega) (by omega)

theorem inverses_l0 {p : Nat} (hP : IsP p) (xs : List Nat) (hx : ∀ x ∈ xs, x < p) (hl : xs.length < 17592186044416) : ∀ (d i : Nat), xs.length - i = d → i ≤ xs.length → (∀ j (h : j < xs.length), j < i → xs[j] ≠ 0) →
    Ev (fun k => field_Inverses.l0 k (p : Int) (Arith.cast xs) (ahd p xs i) (Arith.cast xs) (xs.length : Int) (i : Int)) (if (0 ∈ xs) then (([] : List Int), (7 : Int)) else (bhd p xs 0, 0)) := by
  have hp := hP.pr
  have h3 := hP.1
  intro d
  induction d with
  | zero =>
    intro i hd hi hnz
    obtain rfl : i = xs.length := by omega
    have hno : ¬ 0 ∈ xs := by
      intro hxm
      obtain ⟨j, hj, he⟩ := List.getElem_of_mem hxm
      exact hnz j hj hj he
    have hx' : ∀ x ∈ xs, 0 < x ∧ x < p := fun x hm => ⟨Nat.pos_of_ne_zero fun h => hno (h ▸ hm), hx x hm⟩
    rw [if_neg hno]
    have e : (Arith.cast xs).length = xs.length := by simp
    refine Ev.step (fun k => by simp only [field_Inverses.l0]; rfl) ?_
    refine Ev.neg (by omega) (Ev.pos (by omega) (Ev.pos (by rw [e, Int.toNat_natCast]; omega) (Ev.pos (by rw [ahd_length, e]; omega) ?_)))
    rw [e, ahd_rd p xs _ _ (Nat.le_refl _) (Nat.le_refl _)]
    refine (over_ev h3 hP.2.1 (pre_lt (by omega) xs _)).bind ?_
    rw [Int.toNat_natCast, bhd_end p xs, w64_in (by omega) (by omega)]
    exact Ev.of (fun k => (field_Inverses.mono_l k).2 _ _ _ _ _ _) (inverses_l1 hP xs hx' hl xs.length (xs.length + 1) (Nat.le_refl _) (by omega))
  | succ d ih =>
    intro i hd hi hnz
    have hil : i < xs.length := by omega
    have e : (Arith.cast xs).length = xs.length := by simp
    refine Ev.step (fun k => by simp only [field_Inverses.l0]; rfl) ?_
    refine Ev.pos (by omega) (Ev.pos (by omega) (Ev.pos (by omega) ?_))
    rw [cast_rd xs i hil]
    by_cases hz : xs[i] = 0
    · rw [if_pos (hz ▸ List.getElem_mem hil)]
      exact Ev.pos (by omega) (Ev.now _)
    · refine Ev.neg (by omega) (Ev.pos (by rw [ahd_length]; omega) ?_)
      rw [ahd_rd p xs i i (Nat.le_refl _) hi, w64_in (by omega) (by omega)]
      refine Ev.bind0 (mul_tie (by omega) hP.2.1 (pre_lt (by omega) xs i) (hx _ (List.getElem_mem hil))) (Ev.pos (by omega) (Ev.pos (by rw [ahd_length]; omega) ?_))
      have hs : pre p xs i * xs[i] % p = pre p xs (i + 1) := by rw [← getD_lt xs i hil]; rfl
      have ht : ((i : Int) + 1).toNat = i + 1 := by omega
      rw [hs, ht, ahd_set p xs i hil]
      exact ih (i + 1) (by omega) (by omega) (fun j hj hji => by
        by_cases hje : j = i
        · subst hje; exact hz
        · exact hnz j hj (by omega))

theorem inverses_ev (p : Nat) (xs : List Nat) (hl : xs.length < 17592186044416) : Ev (fun k => field_Inverses.f k (p : Int) (Arith.cast xs)) (if right p xs = 0 then (if (0 ∈ xs) then (([] : List Int), (7 : Int)) else (bhd p xs 0, 0)) else (([] : List Int), 2)) := by
  unfold field_Inverses.f
  refine (check_ev p xs (by omega)).bind ?_
  by_cases h : right p xs = 0
  · have hg := right_zero.1 h
    refine Ev.same (Ev.pos h ?_) (if_pos h).symm
    have e : (Arith.cast xs).length = xs.length := by simp
    have ht : ((xs.length : Int) + 1).toNat = xs.length + 1 := by omega
    rw [e, w64_in (by omega) (by omega), ht]
    refine Ev.pos (by omega) (Ev.pos (by omega) ?_)
    simp only [Option.bind_some]
    refine Ev.pos (by simp) ?_
    rw [show (0 : Int).toNat = 0 from rfl, ahd_zero]
    exact inverses_l0 hg.1 xs hg.2 hl xs.length 0 (by omega) (by omega) (fun j _ hj => absurd hj (by omega))
  · exact Ev.same (Ev.neg h (Ev.now _)) (by rw [if_neg h, (right_two p xs).resolve_left h])

/-! ### the law's own loops -/
theorem law_l1 {p : Nat} (h3 : 3 ≤ p) (hp' : p ≤ 65537) (xs : List Nat) (hx : ∀ x ∈ xs, x < p) (hl : xs.length < 17592186044416) : ∀ (d i : Nat), xs.length - i = d →
    Ev (fun k => juntolaw01_FieldInverses.l1 k (p : Int) (bhd p xs 0) (Arith.cast xs) (xs.length : Int) (i : Int)) true := by
  intro d
  induction d with
  | zero =>
    intro i hd
    refine Ev.step (fun k => by simp only [juntolaw01_FieldInverses.l1]; rfl) ?_
    exact Ev.neg (by omega) (alive_ev.bind (Ev.now _))
  | succ d ih =>
    intro i hd
    have hil : i < xs.length := by omega
    refine Ev.step (fun k => by simp only [juntolaw01_FieldInverses.l1]; rfl) ?_
    refine Ev.pos (by omega) (Ev.pos (by omega) (Ev.pos (by simp; omega) (Ev.pos (by rw [bhd_length]; omega) ?_)))
    rw [cast_rd xs i hil, w64_in (by omega) (by omega)]
    refine (refInv_ev h3 hp' (hx _ (List.getElem_mem hil))).bind (Ev.pos ?_ (ih (i + 1) (by omega)))
    rw [rd_nat _ _ (by rw [bhd_length]; omega)]
    simp only [bhd, List.getElem_map, List.getElem_range]
    rw [if_pos (by omega), getD_lt xs i hil]
    try rfl

theorem law_l0 (p : Nat) (xs : List Nat) (hl : xs.length < 17592186044416) (out : List Int) (e : Int) (bad : Int) (K : ∀ b : Int, b = (if bad = 0 then (if (0 ∈ xs) then 7 else 0) else bad) → Ev (fun k => juntolaw01_FieldInverses.l0 k (p : Int) (Arith.cast xs) out e b (Arith.cast xs) (xs.length : Int) (xs.length : Int)) true) : ∀ (d i : Nat) (b : Int), xs.length - i = d → i ≤ xs.length →
    b = (if bad = 0 then (if (0 ∈ xs.take i) then 7 else 0) else bad) → Ev (fun k => juntolaw01_FieldInverses.l0 k (p : Int) (Arith.cast xs) out e b (Arith.cast xs) (xs.length : Int) (i : Int)) true := by
  intro d
  induction d with
  | zero =>
    intro i b hd hi hb
    obtain rfl : i = xs.length := by omega
    rw [List.take_length] at hb
    exact K b hb
  | succ d ih =>
    intro i b hd hi hb
    have hil : i < xs.length := by omega
    have ht : xs.take (i + 1) = xs.take i ++ [xs[i]] := by rw [List.take_succ_eq_append_getElem hil]
    have go : ∀ b' : Int, b' = (if bad = 0 then (if (0 ∈ xs.take (i + 1)) then 7 else 0) else bad) → Ev (fun k => juntolaw01_FieldInverses.l0 k (p : Int) (Arith.cast xs) out e b' (Arith.cast xs) (xs.length : Int) (wrap64 ((i : Int) + 1))) true := fun b' hb' => by
      rw [w64_in (by omega) (by omega)]
      exact ih (i + 1) b' (by omega) (by omega) hb'
    refine Ev.step (fun k => by simp only [juntolaw01_FieldInverses.l0]; rfl) ?_
    refine Ev.pos (by omega) (Ev.pos (by omega) (Ev.pos (by simp; omega) ?_))
    rw [cast_rd xs i hil]
    by_cases hbad : bad = 0
    · rw [if_pos hbad] at hb
      by_cases hex : 0 ∈ xs.take i
      · rw [if_pos hex] at hb
        refine Ev.neg (by omega) (go b ?_)
        rw [if_pos hbad, if_pos (by rw [ht]; exact List.mem_append_left _ hex)]
        exact hb
      · rw [if_neg hex] at hb
        refine Ev.pos hb ?_
        by_cases hz : xs[i] = 0
        · refine Ev.pos (by omega) (go 7 ?_)
          rw [if_pos hbad, if_pos (by rw [ht, hz]; simp)]
        · refine Ev.neg (by omega) (go b ?_)
          rw [if_pos hbad, if_neg ?_]
          · exact hb
          · intro hx
            rw [ht, List.mem_append] at hx
            rcases hx with hx | hx
            · exact hex hx
            · rw [List.mem_singleton] at hx
              exact hz hx.symm
    · rw [if_neg hbad] at hb
      exact Ev.neg (by omega) (go b (by rw [if_neg hbad]; exact hb))

theorem Pure_FieldInverses : juntolaw01_FieldInverses.Pure := by
  intro a0 l1 w0 hl hl8 hwf
  obtain ⟨p, rfl, hp⟩ := nat_u64 w0
  obtain ⟨xs, rfl, hx⟩ := nats l1 hwf
  have hlx : xs.length < 17592186044416 := by simp at hl8; omega
  have e : (Arith.cast xs).length = xs.length := by simp
  refine Ev.rounds (g := fun k => juntolaw01_FieldInverses.f k (p : Int) (Arith.cast xs)) ?_
  unfold juntolaw01_FieldInverses.f
  refine (inverses_ev p xs hlx).bind ((right_ev p xs (by omega)).bind ?_)
  rw [e]
  refine law_l0 p xs hlx _ _ (right p xs) ?_ xs.length 0 _ (by omega) (by omega) ?_
  · intro b hb
    refine Ev.step (fun k => by simp only [juntolaw01_FieldInverses.l0]; rfl) ?_
    refine Ev.neg (by omega) ?_
    by_cases h : right p xs = 0
    · have hg := right_zero.1 h
      simp only [if_pos h] at hb ⊢
      by_cases hex : 0 ∈ xs
      · rw [if_pos hex] at hb
        subst hb
        simp only [if_pos hex]
        exact Ev.neg (by decide) (Ev.pos (by simp) (Ev.pos (by simp) (alive_ev.bind (Ev.now _))))
      · rw [if_neg hex] at hb
        subst hb
        simp only [if_neg hex]
        have hne : (((bhd p xs 0).length : Int) != ((Arith.cast xs).length : Int)) = false := by rw [bhd_length, e]; simp
        rw [hne]
        refine Ev.pos (by simp) (Ev.pos (by simp) ?_)
        refine Ev.step (fun k => by simp only [juntolaw01_FieldInverses.j1]; rfl) ?_
        refine Ev.neg (by simp) ?_
        rw [e]
        exact law_l1 hg.1.1 hg.1.2.1 xs hg.2 hlx xs.length 0 (by omega)
    · have h2 := (right_two p xs).resolve_left h
      rw [if_neg h] at hb
      rw [h2] at hb
      subst hb
      simp only [if_neg h]
      exact Ev.neg (by decide) (Ev.pos (by simp) (Ev.pos (by simp) (alive_ev.bind (Ev.now _))))
  · by_cases h : right p xs = 0
    · rw [if_pos h, if_neg (by simp)]; exact h
    · rw [if_neg h]
end Go.Proofs.Ytpdlbiahfmidoaa.Fb
