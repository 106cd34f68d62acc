/- FieldQuotients, in plain numbers: a power p - 2 is the inverse. -/
import Derived.Test.YtpdlbiahfmidoaaFbTie2
import Derived.Test.YtpdlbiahfmidoaaFbLFieldQuotients
namespace Go.Proofs.Ytpdlbiahfmidoaa.Fb
open Go.RowKit Go.Proofs.YtpdlbiahfmidoaaW.PrintWords Go.Proofs.Ytpdlbiahfmidoaa.Num Go.Proofs.Ytpdlbiahfmidoaa.Arith

theorem over_ev {p a : Nat} (h3 : 3 ≤ p) (hp : p ≤ 65537) (ha : a < p) : Ev (fun k => field_Over.f k (p : Int) (a : Int)) ((a ^ (p - 2) % p : Nat) : Int) := by
  unfold field_Over.f
  have e : IntKind.u64.wrap ((p : Int) - 2) = ((p - 2 : Nat) : Int) := by rw [u64_in (by omega) (by omega)]; omega
  rw [e]
  exact (pow_ev (by omega) hp ha (by omega)).bind (Ev.now _)
theorem refInv_ev {p a : Nat} (h3 : 3 ≤ p) (hp : p ≤ 65537) (ha : a < p) : Ev (fun k => juntoref01_Inv.f k (p : Int) (a : Int)) ((a ^ (p - 2) % p : Nat) : Int) := by
  unfold juntoref01_Inv.f
  have e : IntKind.u64.wrap ((p : Int) - 2) = ((p - 2 : Nat) : Int) := by rw [u64_in (by omega) (by omega)]; omega
  rw [e]
  exact (refPow_ev (by omega) hp ha (by omega)).bind (Ev.now _)

theorem inv_ev (p b : Nat) : Ev (fun k => field_Inv.f k (p : Int) (b : Int)) (if right p [b] = 0 then (if b = 0 then ((0 : Int), (7 : Int)) else (((b ^ (p - 2) % p : Nat) : Int), 0)) else (0, 2)) := by
  unfold field_Inv.f
  have hC := check_ev p [b] (by simp)
  refine hC.bind ?_
  by_cases h : right p [b] = 0
  · have hg := right_zero.1 h
    refine Ev.same (Ev.pos h ?_) (if_pos h).symm
    by_cases hb : b = 0
    · exact Ev.same (Ev.pos (by omega) (Ev.now _)) (if_pos hb).symm
    · exact Ev.same (Ev.neg (by omega) ((over_ev hg.1.1 hg.1.2.1 (hg.2 b (by simp))).bind (Ev.now _))) (if_neg hb).symm
  · have h2 := (right_two p [b]).resolve_left h
    exact Ev.same (Ev.neg h (Ev.now _)) (by rw [if_neg h, h2])
theorem div_ev (p a b : Nat) : Ev (fun k => field_Div.f k (p : Int) (a : Int) (b : Int)) (if right p [a, b] = 0 then (if b = 0 then ((0 : Int), (7 : Int)) else (((a * (b ^ (p - 2) % p) % p : Nat) : Int), 0)) else (0, 2)) := by
  unfold field_Div.f
  have hC := check_ev p [a, b] (by simp)
  refine hC.bind ?_
  by_cases h : right p [a, b] = 0
  · have hg := right_zero.1 h
    have h3 := hg.1.1
    refine Ev.same (Ev.pos h ?_) (if_pos h).symm
    by_cases hb : b = 0
    · exact Ev.same (Ev.pos (by omega) (Ev.now _)) (if_pos hb).symm
    · refine Ev.same (Ev.neg (by omega) ((over_ev hg.1.1 hg.1.2.1 (hg.2 b (by simp))).bind ?_)) (if_neg hb).symm
      exact Ev.bind0 (mul_tie (by omega) hg.1.2.1 (hg.2 a (by simp)) (Nat.mod_lt _ (by omega))) (Ev.now _)
  · have h2 := (right_two p [a, b]).resolve_left h
    exact Ev.same (Ev.neg h (Ev.now _)) (by rw [if_neg h, h2])

theorem quot_j5 (p b : Nat) (v e q f one two inv quo : Int) (h1 : e = one ∧ ((one ≠ 0 ∧ v = 0) ∨ (one = 0 ∧ v = inv))) (h2 : f = two ∧ ((two ≠ 0 ∧ q = 0) ∨ (two = 0 ∧ q = quo)))
    (h3 : one = 0 → juntoref01_Mul.f (p : Int) v (b : Int) = some 1) : Ev (fun k => juntolaw01_FieldQuotients.j5 k (p : Int) (b : Int) v e q f one two inv quo) true := by
  refine Ev.step (fun k => by simp only [juntolaw01_FieldQuotients.j5]; rfl) ?_
  refine Ev.bind0 (is_tie _ _ _ _) (Ev.pos (by simpa using h1) (Ev.bind0 (is_tie _ _ _ _) (Ev.pos (by simpa using h2) ?_)))
  by_cases h : one = 0
  · exact Ev.pos h (Ev.bind0 (h3 h) (Ev.pos rfl (alive_ev.bind (Ev.now _))))
  · exact Ev.neg h (alive_ev.bind (Ev.now _))

theorem Pure_FieldQuotients : juntolaw01_FieldQuotients.Pure := by
  intro a0 a1 a2 w0 w1 w2
  obtain ⟨p, rfl, hp⟩ := nat_u64 w0
  obtain ⟨a, rfl, ha⟩ := nat_u64 w1
  obtain ⟨b, rfl, hb⟩ := nat_u64 w2
  refine Ev.rounds (g := fun k => juntolaw01_FieldQuotients.f k (p : Int) (a : Int) (b : Int)) ?_
  unfold juntolaw01_FieldQuotients.f
  refine (inv_ev p b).bind ((div_ev p a b).bind ((right_ev p [b] (by simp)).bind ((right_ev p [a, b] (by simp)).bind ?_)))
  have hab : right p [a, b] = 0 → right p [b] = 0 := fun h => right_zero.2 ⟨(right_zero.1 h).1, fun x hx => (right_zero.1 h).2 x (List.mem_cons_of_mem _ hx)⟩
  have b0 : ((b : Int) == 0) = decide (b = 0) := by
    by_cases h : b = 0 <;> simp [h]
  rw [b0]
  by_cases h1 : right p [b] = 0
  · have hg := right_zero.1 h1
    obtain ⟨h3, hp', _⟩ := hg.1
    have hbp : b < p := hg.2 b (by simp)
    refine Ev.pos h1 ?_
    refine Ev.step (fun k => by simp only [juntolaw01_FieldQuotients.j0]; rfl) ?_
    by_cases hz : b = 0
    · refine Ev.pos (by simpa using hz) ?_
      refine Ev.step (fun k => by simp only [juntolaw01_FieldQuotients.j1]; rfl) ?_
      have fin : ∀ two : Int, two = 7 ∨ two = 2 → (right p [a, b] = 0 → two = 7) → (right p [a, b] ≠ 0 → two = 2) → Ev (fun k => juntolaw01_FieldQuotients.j3 k (p : Int) (a : Int) (b : Int) (if right p [b] = 0 then (if b = 0 then ((0 : Int), (7 : Int)) else (((b ^ (p - 2) % p : Nat) : Int), 0)) else (0, 2)).1 (if right p [b] = 0 then (if b = 0 then ((0 : Int), (7 : Int)) else (((b ^ (p - 2) % p : Nat) : Int), 0)) else (0, 2)).2
          (if right p [a, b] = 0 then (if b = 0 then ((0 : Int), (7 : Int)) else (((a * (b ^ (p - 2) % p) % p : Nat) : Int), 0)) else (0, 2)).1 (if right p [a, b] = 0 then (if b = 0 then ((0 : Int), (7 : Int)) else (((a * (b ^ (p - 2) % p) % p : Nat) : Int), 0)) else (0, 2)).2 7 two) true := by
        intro two ht t1 t2
        refine Ev.step (fun k => by simp only [juntolaw01_FieldQuotients.j3]; rfl) ?_
        refine Ev.neg (by decide) ?_
        refine Ev.step (fun k => by simp only [juntolaw01_FieldQuotients.j4]; rfl) ?_
        refine Ev.neg (by rcases ht with rfl | rfl <;> decide) ?_
        refine quot_j5 p b _ _ _ _ _ _ _ _ ?_ ?_ (fun h => absurd h (by decide))
        · rw [if_pos h1, if_pos hz]; simp
        · by_cases h2 : right p [a, b] = 0
          · rw [if_pos h2, if_pos hz, t1 h2]; simp
          · rw [if_neg h2, t2 h2]; simp
      by_cases h2 : right p [a, b] = 0
      · refine Ev.pos h2 ?_
        refine Ev.step (fun k => by simp only [juntolaw01_FieldQuotients.j2]; rfl) ?_
        refine Ev.pos (by simpa using hz) ?_
        exact fin 7 (.inl rfl) (fun _ => rfl) (fun h => absurd h2 h)
      · refine Ev.neg h2 ?_
        refine Ev.step (fun k => by simp only [juntolaw01_FieldQuotients.j2]; rfl) ?_
        refine Ev.neg (by simp) ?_
        have h22 := (right_two p [a, b]).resolve_left h2
        have := fin (right p [a, b]) (.inr h22) (fun h => absurd h h2) (fun _ => h22)
        exact this
    · refine Ev.neg (by simpa using hz) ?_
      refine Ev.step (fun k => by simp only [juntolaw01_FieldQuotients.j1]; rfl) ?_
      have hdv : ¬ p ∣ b := not_dvd (by omega) hbp
      have hinv : b ^ (p - 2) % p < p := Nat.mod_lt _ (by omega)
      have h1m : juntoref01_Mul.f (p : Int) ((b ^ (p - 2) % p : Nat) : Int) (b : Int) = some 1 := by
        rw [refMul_tie (by omega) hp' hinv hbp, Nat.mul_comm, inv_mul hg.1.pr hdv]; rfl
      by_cases h2 : right p [a, b] = 0
      · have hap : a < p := (right_zero.1 h2).2 a (by simp)
        refine Ev.pos h2 ?_
        refine Ev.step (fun k => by simp only [juntolaw01_FieldQuotients.j2]; rfl) ?_
        refine Ev.neg (by simpa using hz) ?_
        refine Ev.step (fun k => by simp only [juntolaw01_FieldQuotients.j3]; rfl) ?_
        refine Ev.pos h1 ((refInv_ev h3 hp' hbp).bind ?_)
        refine Ev.step (fun k => by simp only [juntolaw01_FieldQuotients.j4]; rfl) ?_
        refine Ev.pos h2 (Ev.bind0 (refMul_tie (by omega) hp' hap hinv) ?_)
        refine quot_j5 p b _ _ _ _ _ _ _ _ ?_ ?_ (fun _ => ?_)
        · rw [if_pos h1, if_neg hz, h1]; simp
        · rw [if_pos h2, if_neg hz, h2]; simp
        · rw [if_pos h1, if_neg hz]; exact h1m
      · have h22 := (right_two p [a, b]).resolve_left h2
        refine Ev.neg h2 ?_
        refine Ev.step (fun k => by simp only [juntolaw01_FieldQuotients.j2]; rfl) ?_
        refine Ev.neg (by simp) ?_
        refine Ev.step (fun k => by simp only [juntolaw01_FieldQuotients.j3]; rfl) ?_
        refine Ev.pos h1 ((refInv_ev h3 hp' hbp).bind ?_)
        refine Ev.step (fun k => by simp only [juntolaw01_FieldQuotients.j4]; rfl) ?_
        refine Ev.neg h2 ?_
        refine quot_j5 p b _ _ _ _ _ _ _ _ ?_ ?_ (fun _ => ?_)
        · rw [if_pos h1, if_neg hz, h1]; simp
        · rw [if_neg h2, h22]; simp
        · rw [if_pos h1, if_neg hz]; exact h1m
  · have h2 : ¬ right p [a, b] = 0 := fun h => h1 (hab h)
    have h12 := (right_two p [b]).resolve_left h1
    have h22 := (right_two p [a, b]).resolve_left h2
    refine Ev.neg h1 ?_
    refine Ev.step (fun k => by simp only [juntolaw01_FieldQuotients.j0]; rfl) ?_
    refine Ev.neg (by simp) ?_
    refine Ev.step (fun k => by simp only [juntolaw01_FieldQuotients.j1]; rfl) ?_
    refine Ev.neg h2 ?_
    refine Ev.step (fun k => by simp only [juntolaw01_FieldQuotients.j2]; rfl) ?_
    refine Ev.neg (by simp) ?_
    refine Ev.step (fun k => by simp only [juntolaw01_FieldQuotients.j3]; rfl) ?_
    refine Ev.neg h1 ?_
    refine Ev.step (fun k => by simp only [juntolaw01_FieldQuotients.j4]; rfl) ?_
    refine Ev.neg h2 ?_
    refine quot_j5 p b _ _ _ _ _ _ _ _ ?_ ?_ (fun h => absurd h h1)
    · rw [if_neg h1, h12]; simp
    · rw [if_neg h2, h22]; simp
end Go.Proofs.Ytpdlbiahfmidoaa.Fb
