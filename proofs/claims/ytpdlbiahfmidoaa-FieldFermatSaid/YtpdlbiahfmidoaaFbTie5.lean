/- What square, root, Square and Root come to. -/
import Derived.Test.YtpdlbiahfmidoaaFbTie2
import Derived.Test.YtpdlbiahfmidoaaTonelli
namespace Go.Proofs.Ytpdlbiahfmidoaa.Fb
open Go.RowKit Go.Proofs.YtpdlbiahfmidoaaW.PrintWords Go.Proofs.YtpdlbiahfmidoaaW.PrintMore Go.Proofs.Ytpdlbiahfmidoaa.Num Go.Proofs.Ytpdlbiahfmidoaa.Arith
set_option linter.unusedVariables false

theorem square_ev {p a : Nat} (h3 : 3 ≤ p) (hp : p ≤ 65537) (ha : a < p) : Ev (fun k => field_square.f k (p : Int) (a : Int)) (decide (a ^ ((p - 1) / 2) % p ≤ 1)) := by
  unfold field_square.f
  have e : IntKind.u64.wrap (Int.tdiv (IntKind.u64.wrap ((p : Int) - 1)) 2) = (((p - 1) / 2 : Nat) : Int) := by
    have e1 : (p : Int) - 1 = ((p - 1 : Nat) : Int) := by omega
    have e2 : Int.tdiv ((p - 1 : Nat) : Int) 2 = (((p - 1) / 2 : Nat) : Int) := tdiv_nat (p - 1) 2
    rw [e1, u64_in (x := ((p - 1 : Nat) : Int)) (by omega) (by omega), e2, u64_in (by omega) (by omega)]
  rw [e]
  refine (pow_ev (by omega) hp ha (by omega)).bind (Ev_some ?_)
  generalize a ^ ((p - 1) / 2) % p = n
  by_cases h : n ≤ 1
  · rw [decide_eq_true h, decide_eq_true (show ((n : Nat) : Int) ≤ 1 by omega)]
  · rw [decide_eq_false h, decide_eq_false (show ¬ ((n : Nat) : Int) ≤ 1 by omega)]

/-- k rounds of squaring. -/
theorem root_l4 {p : Nat} (h0 : 0 < p) (hp : p ≤ 65537) {r t s' n : Nat} {c : Nat} (hr : r < p) (ht : t < p) (hn : n < 1000) {R : Int}
    (K : ∀ b c' r' t', b = c ^ (2 ^ n) % p → c' = b * b % p → r' = r * b % p → t' = t * c' % p → Ev (fun k => field_root.l2 k (p : Int) (s' : Int) (c' : Int) (r' : Int) (t' : Int)) R) :
    ∀ (d i : Nat), n - i = d → i ≤ n → Ev (fun k => field_root.l4 k (p : Int) (r : Int) (t : Int) (s' : Int) ((c ^ (2 ^ i) % p : Nat) : Int) (n : Int) (i : Int)) R := by
  intro d
  induction d with
  | zero =>
    intro i hd hi
    obtain rfl : i = n := by omega
    have hb : c ^ (2 ^ i) % p < p := Nat.mod_lt _ h0
    refine Ev.step (fun k => by simp only [field_root.l4]; rfl) ?_
    refine Ev.neg (by omega) (Ev.bind0 (mul_tie h0 hp hb hb) (Ev.bind0 (mul_tie h0 hp hr hb) (Ev.bind0 (mul_tie h0 hp ht (Nat.mod_lt _ h0)) ?_)))
    exact K _ _ _ _ rfl rfl rfl rfl
  | succ d ih =>
    intro i hd hi
    have hb : c ^ (2 ^ i) % p < p := Nat.mod_lt _ h0
    refine Ev.step (fun k => by simp only [field_root.l4]; rfl) ?_
    refine Ev.pos (by omega) (Ev.bind0 (mul_tie h0 hp hb hb) ?_)
    have e : (c ^ (2 ^ i) % p) * (c ^ (2 ^ i) % p) % p = c ^ (2 ^ (i + 1)) % p := by
      rw [← Nat.mul_mod, ← Nat.pow_add, ← Nat.two_mul, Nat.mul_comm, ← Nat.pow_succ]
    rw [e, w64_in (by omega) (by omega)]
    exact ih (i + 1) (by omega) (by omega)

theorem root_l3 {p a : Nat} (hP : IsP p) {s c r t : Nat} (h : TS p a s c r t) (hs : s < 1000) (h1 : t ≠ 1) {R : Int}
    (K : ∀ k c' r' t', k < s → TS p a k c' r' t' → Ev (fun n => field_root.l2 n (p : Int) (k : Int) (c' : Int) (r' : Int) (t' : Int)) R) :
    ∀ (d i : Nat), s - 1 - i = d → i ≤ s - 1 → (∀ j, j < i → t ^ (2 ^ j) % p ≠ 1) → Ev (fun k => field_root.l3 k (p : Int) (s : Int) (c : Int) (r : Int) (t : Int) (i : Int) ((t ^ (2 ^ i) % p : Nat) : Int)) R := by
  have h3 := hP.1
  have fin : ∀ i, i ≤ s - 1 → (∀ j, j < i → t ^ (2 ^ j) % p ≠ 1) → t ^ (2 ^ i) % p = 1 → Ev (fun k => field_root.l3 k (p : Int) (s : Int) (c : Int) (r : Int) (t : Int) (i : Int) ((t ^ (2 ^ i) % p : Nat) : Int)) R := by
    intro i hi hj hone
    have hi1 : 1 ≤ i := by
      apply Classical.byContradiction
      intro hc
      obtain rfl : i = 0 := by omega
      rw [Nat.pow_zero, Nat.pow_one, Nat.mod_eq_of_lt h.ht] at hone
      exact h1 hone
    have hs1 := h.s1
    refine Ev.step (fun k => by simp only [field_root.l3]; rfl) ?_
    refine Ev.pos (by omega) ?_
    have e : wrap64 ((wrap64 ((s : Int) - (i : Int))) - 1) = ((s - i - 1 : Nat) : Int) := by
      rw [w64_in (x := (s : Int) - (i : Int)) (by omega) (by omega), w64_in (by omega) (by omega)]
      omega
    rw [e]
    have := root_l4 (p := p) (by omega) hP.2.1 (r := r) (t := t) (s' := i) (n := s - i - 1) (c := c) h.hr h.ht (by omega) (R := R)
      (fun b c' r' t' hb hc' hr' ht' => K i c' r' t' (by omega) (h.next hP hi1 hi hone (hj (i - 1) (by omega)) hb hc' hr' ht')) (s - i - 1) 0 (by omega) (by omega)
    rw [Nat.pow_zero, Nat.pow_one, Nat.mod_eq_of_lt h.hc] at this
    exact this
  intro d
  induction d with
  | zero =>
    intro i hd hi hj
    obtain rfl : i = s - 1 := by omega
    exact fin _ hi hj h.tt
  | succ d ih =>
    intro i hd hi hj
    by_cases hone : t ^ (2 ^ i) % p = 1
    · exact fin i hi hj hone
    · have hb : t ^ (2 ^ i) % p < p := Nat.mod_lt _ (by omega)
      refine Ev.step (fun k => by simp only [field_root.l3]; rfl) ?_
      refine Ev.neg (by omega) (Ev.bind0 (mul_tie (by omega) hP.2.1 hb hb) ?_)
      have e : (t ^ (2 ^ i) % p) * (t ^ (2 ^ i) % p) % p = t ^ (2 ^ (i + 1)) % p := by
        rw [← Nat.mul_mod, ← Nat.pow_add, ← Nat.two_mul, Nat.mul_comm, ← Nat.pow_succ]
      rw [e, w64_in (by omega) (by omega)]
      refine ih (i + 1) (by omega) (by omega) (fun j hj' => ?_)
      by_cases hji : j = i
      · subst hji; exact hone
      · exact hj j (by omega)

theorem root_l2 {p a : Nat} (hP : IsP p) (ha : a < p) : ∀ (n s c r t : Nat), s ≤ n → s < 1000 → TS p a s c r t → ∃ R : Nat, R < p ∧ R * R % p = a ∧ Ev (fun k => field_root.l2 k (p : Int) (s : Int) (c : Int) (r : Int) (t : Int)) (R : Int) := by
  have h3 := hP.1
  intro n
  induction n with
  | zero => intro s c r t hs _ h; have := h.s1; omega
  | succ n ih =>
    intro s c r t hs hs' h
    by_cases h1 : t = 1
    · subst h1
      refine ⟨r, h.hr, ?_, ?_⟩
      · rw [h.rr, Nat.mul_one, Nat.mod_eq_of_lt ha]
      · refine Ev.step (fun k => by simp only [field_root.l2]; rfl) ?_
        exact Ev.pos (by omega) (Ev.now _)
    · -- the next state is found by the loop; its answer is the answer
      have key : ∃ k c' r' t', k < s ∧ TS p a k c' r' t' ∧ ∀ R : Int, Ev (fun n => field_root.l2 n (p : Int) (k : Int) (c' : Int) (r' : Int) (t' : Int)) R → Ev (fun n => field_root.l2 n (p : Int) (s : Int) (c : Int) (r : Int) (t : Int)) R := by
        have hs1 := h.s1
        -- the least power that is 1
        have hex : ∃ k, k ≤ s - 1 ∧ t ^ (2 ^ k) % p = 1 ∧ ∀ j, j < k → t ^ (2 ^ j) % p ≠ 1 := by
          have hm : ∀ m, (∃ k, k ≤ m ∧ t ^ (2 ^ k) % p = 1) → ∃ k, k ≤ m ∧ t ^ (2 ^ k) % p = 1 ∧ ∀ j, j < k → t ^ (2 ^ j) % p ≠ 1 := by
            intro m
            induction m with
            | zero =>
              rintro ⟨k, hk, h1⟩
              exact ⟨k, hk, h1, fun j hj => absurd hj (by omega)⟩
            | succ m ihm =>
              rintro ⟨k, hk, hk1⟩
              by_cases hc : ∃ k, k ≤ m ∧ t ^ (2 ^ k) % p = 1
              · obtain ⟨k', hk', g⟩ := ihm hc
                exact ⟨k', by omega, g⟩
              · refine ⟨k, hk, hk1, fun j hj hj1 => hc ⟨j, by omega, hj1⟩⟩
          exact hm (s - 1) ⟨s - 1, Nat.le_refl _, h.tt⟩
        obtain ⟨k, hk, hk1, hj⟩ := hex
        have hk0 : 1 ≤ k := by
          apply Classical.byContradiction
          intro hc
          obtain rfl : k = 0 := by omega
          rw [Nat.pow_zero, Nat.pow_one, Nat.mod_eq_of_lt h.ht] at hk1
          exact h1 hk1
        refine ⟨k, _, _, _, by omega, h.next hP hk0 hk hk1 (hj (k - 1) (by omega)) rfl rfl rfl rfl, fun R hR => ?_⟩
        refine Ev.step (fun k => by simp only [field_root.l2]; rfl) ?_
        refine Ev.neg (by omega) ?_
        -- squaring until 1
        have l3 : ∀ (d i : Nat), k - i = d → i ≤ k → Ev (fun n => field_root.l3 n (p : Int) (s : Int) (c : Int) (r : Int) (t : Int) (i : Int) ((t ^ (2 ^ i) % p : Nat) : Int)) R := by
          intro d
          induction d with
          | zero =>
            intro i hd hi
            obtain rfl : i = k := by omega
            refine Ev.step (fun k => by simp only [field_root.l3]; rfl) ?_
            refine Ev.pos (by omega) ?_
            have e : wrap64 ((wrap64 ((s : Int) - (i : Int))) - 1) = ((s - i - 1 : Nat) : Int) := by
              rw [w64_in (x := (s : Int) - (i : Int)) (by omega) (by omega), w64_in (by omega) (by omega)]
              omega
            rw [e]
            have := root_l4 (p := p) (by omega) hP.2.1 (r := r) (t := t) (s' := i) (n := s - i - 1) (c := c) h.hr h.ht (by omega) (R := R)
              (fun b c' r' t' hb hc' hr' ht' => by subst hb; subst hc'; subst hr'; subst ht'; exact hR) (s - i - 1) 0 (by omega) (by omega)
            rw [Nat.pow_zero, Nat.pow_one, Nat.mod_eq_of_lt h.hc] at this
            exact this
          | succ d ih3 =>
            intro i hd hi
            have hone := hj i (by omega)
            have hb : t ^ (2 ^ i) % p < p := Nat.mod_lt _ (by omega)
            refine Ev.step (fun k => by simp only [field_root.l3]; rfl) ?_
            refine Ev.neg (by omega) (Ev.bind0 (mul_tie (by omega) hP.2.1 hb hb) ?_)
            have e : (t ^ (2 ^ i) % p) * (t ^ (2 ^ i) % p) % p = t ^ (2 ^ (i + 1)) % p := by
              rw [← Nat.mul_mod, ← Nat.pow_add, ← Nat.two_mul, Nat.mul_comm, ← Nat.pow_succ]
            rw [e, w64_in (by omega) (by omega)]
            exact ih3 (i + 1) (by omega) (by omega)
        have := l3 k 0 (by omega) (by omega)
        rw [Nat.pow_zero, Nat.pow_one, Nat.mod_eq_of_lt h.ht] at this
        exact this
      obtain ⟨k, c', r', t', hks, hts, hev⟩ := key
      obtain ⟨R, hR, hR2, hR3⟩ := ih k c' r' t' (by omega) (by omega) hts
      exact ⟨R, hR, hR2, hev _ hR3⟩

/-- From a number that is no square. -/
theorem root_at {p a z s q : Nat} (hP : IsP p) (ha : a < p) (ha0 : 0 < a) (h1 : a ^ ((p - 1) / 2) % p = 1) (hz : z < p) (hz1 : ¬ z ^ ((p - 1) / 2) % p ≤ 1) (hsq : p - 1 = 2 ^ s * q) (hq : q % 2 = 1) (hs : s < 1000) :
    ∃ R : Nat, R < p ∧ R * R % p = a ∧ Ev (fun k => field_root.l1 k (p : Int) (a : Int) (s : Int) (q : Int) (z : Int)) (R : Int) := by
  have hp := hP.pr
  have h3 := hP.1
  have hp' := hP.2.1
  have hodd := hP.odd
  have hs1 : 1 ≤ s := by
    apply Classical.byContradiction
    intro hc
    obtain rfl : s = 0 := by omega
    rw [Nat.pow_zero, Nat.one_mul] at hsq
    omega
  have hhalf : (p - 1) / 2 = q * 2 ^ (s - 1) := by
    have e : 2 ^ s = 2 ^ (s - 1) * 2 := by rw [← Nat.pow_succ]; congr 1; omega
    rw [hsq, e, Nat.mul_right_comm, Nat.mul_div_cancel _ (by omega), Nat.mul_comm]
  have hqp : q ≤ p - 1 := by
    rw [hsq]
    exact Nat.le_mul_of_pos_left _ (Nat.two_pow_pos s)
  have hzd : ¬ p ∣ z := by
    rintro ⟨w, rfl⟩
    apply hz1
    rw [Nat.pow_mod, Nat.mul_mod_right, zero_pow_mod (by omega)]
    omega
  have hzz : z ^ ((p - 1) / 2) % p = p - 1 := (half_pow hP hzd).resolve_left (by omega)
  have hts : TS p a s (z ^ q % p) (a ^ ((q + 1) / 2) % p) (a ^ q % p) := by
    refine ⟨Nat.mod_lt _ (by omega), Nat.mod_lt _ (by omega), Nat.mod_lt _ (by omega), hs1, ?_, ?_, ?_⟩
    · rw [← Nat.mul_mod, ← Nat.pow_add, Nat.mul_mod_mod, show (q + 1) / 2 + (q + 1) / 2 = q + 1 by omega, Nat.pow_succ, Nat.mul_comm]
    · rw [pow_mod_pow, ← hhalf]; exact hzz
    · rw [pow_mod_pow, ← hhalf]; exact h1
  obtain ⟨R, hR, hR2, hR3⟩ := root_l2 hP ha s s _ _ _ (Nat.le_refl _) hs hts
  refine ⟨R, hR, hR2, ?_⟩
  refine Ev.step (fun k => by simp only [field_root.l1]; rfl) ?_
  refine (square_ev h3 hp' hz).bind (Ev.neg (by simpa using hz1) ?_)
  have e : IntKind.u64.wrap (Int.tdiv (IntKind.u64.wrap ((q : Int) + 1)) 2) = (((q + 1) / 2 : Nat) : Int) := by
    have e2 : Int.tdiv ((q + 1 : Nat) : Int) 2 = (((q + 1) / 2 : Nat) : Int) := tdiv_nat (q + 1) 2
    rw [u64_in (x := (q : Int) + 1) (by omega) (by omega), show (q : Int) + 1 = ((q + 1 : Nat) : Int) by omega, e2, u64_in (by omega) (by omega)]
  rw [e]
  exact (pow_ev (by omega) hp' hz (by omega)).bind ((pow_ev (by omega) hp' ha (by omega)).bind ((pow_ev (by omega) hp' ha (by omega)).bind hR3))

theorem root_l1 {p a s q : Nat} (hP : IsP p) (ha : a < p) (ha0 : 0 < a) (h1 : a ^ ((p - 1) / 2) % p = 1) (hsq : p - 1 = 2 ^ s * q) (hq : q % 2 = 1) (hs : s < 1000) (b : Nat) (hb : b < p) (hb1 : ¬ b ^ ((p - 1) / 2) % p ≤ 1) :
    ∀ (d z : Nat), b - z = d → z ≤ b → ∃ R : Nat, R < p ∧ R * R % p = a ∧ Ev (fun k => field_root.l1 k (p : Int) (a : Int) (s : Int) (q : Int) (z : Int)) (R : Int) := by
  have h3 := hP.1
  have hp' := hP.2.1
  intro d
  induction d with
  | zero =>
    intro z hd hz
    obtain rfl : z = b := by omega
    exact root_at hP ha ha0 h1 hb hb1 hsq hq hs
  | succ d ih =>
    intro z hd hz
    by_cases hz1 : z ^ ((p - 1) / 2) % p ≤ 1
    · obtain ⟨R, hR, hR2, hR3⟩ := ih (z + 1) (by omega) (by omega)
      refine ⟨R, hR, hR2, ?_⟩
      refine Ev.step (fun k => by simp only [field_root.l1]; rfl) ?_
      refine (square_ev h3 hp' (show z < p by omega)).bind (Ev.pos (by simpa using hz1) ?_)
      rw [u64_in (by omega) (by omega)]
      exact hR3
    · exact root_at hP ha ha0 h1 (by omega) hz1 hsq hq hs

theorem root_l0 (p a : Nat) (hp : p ≤ 65537) : ∀ (n o tw : Nat), o ≤ n → 0 < o → o < p → tw < 100 → o < 2 ^ (100 - tw) → ∃ s q, o = 2 ^ s * q ∧ q % 2 = 1 ∧ tw + s < 1000 ∧
    ∀ R : Int, Ev (fun k => field_root.l1 k (p : Int) (a : Int) ((tw + s : Nat) : Int) (q : Int) 2) R → Ev (fun k => field_root.l0 k (p : Int) (a : Int) (tw : Int) (o : Int)) R := by
  intro n
  induction n with
  | zero => intro o tw h0 h1; omega
  | succ n ih =>
    intro o tw hn h0 hop htw hpw
    have em : Int.tmod (o : Int) 2 = ((o % 2 : Nat) : Int) := tmod_nat o 2
    by_cases hodd : o % 2 = 1
    · refine ⟨0, o, by simp, hodd, by omega, fun R hR => ?_⟩
      refine Ev.step (fun k => by simp only [field_root.l0]; rfl) ?_
      exact Ev.neg (by omega) hR
    · have htw1 : tw + 1 < 100 := by
        apply Classical.byContradiction
        intro hc
        obtain rfl : tw = 99 := by omega
        simp at hpw
        omega
      have hpw' : o / 2 < 2 ^ (100 - (tw + 1)) := by
        have e : 2 ^ (100 - tw) = 2 ^ (100 - (tw + 1)) * 2 := by rw [← Nat.pow_succ]; congr 1; omega
        omega
      obtain ⟨s, q, hsq, hq, hts, hev⟩ := ih (o / 2) (tw + 1) (by omega) (by omega) (by omega) htw1 hpw'
      refine ⟨s + 1, q, ?_, hq, by omega, fun R hR => ?_⟩
      · rw [Nat.pow_succ, Nat.mul_right_comm, ← hsq]; omega
      · have ed : Int.tdiv (o : Int) 2 = ((o / 2 : Nat) : Int) := tdiv_nat o 2
        refine Ev.step (fun k => by simp only [field_root.l0]; rfl) ?_
        refine Ev.pos (by omega) ?_
        rw [ed, u64_in (by omega) (by omega), w64_in (by omega) (by omega)]
        refine hev R ?_
        rw [show tw + 1 + s = tw + (s + 1) by omega]
        exact hR

/-- The root of a square is one. -/
theorem root_ev {p a : Nat} (hP : IsP p) (ha : a < p) (h1 : a ^ ((p - 1) / 2) % p ≤ 1) : ∃ R : Nat, R < p ∧ R * R % p = a ∧ Ev (fun k => field_root.f k (p : Int) (a : Int)) (R : Int) := by
  have hp := hP.pr
  have h3 := hP.1
  have hp' := hP.2.1
  have hodd := hP.odd
  by_cases ha0 : a = 0
  · subst ha0
    refine ⟨0, by omega, by simp, ?_⟩
    unfold field_root.f
    exact Ev.pos rfl (Ev.now _)
  · have hone : a ^ ((p - 1) / 2) % p = 1 := (half_pow hP (not_dvd (by omega) ha)).resolve_right (by omega)
    obtain ⟨b, hb0, hb, hb1⟩ := some_power hp (m := (p - 1) / 2) (by omega) (by omega)
    have hb2 : ¬ b ^ ((p - 1) / 2) % p ≤ 1 := by
      have := (half_pow hP (not_dvd hb0 hb)).resolve_left hb1
      omega
    have hbb : 2 ≤ b := by
      apply Classical.byContradiction
      intro hc
      obtain rfl : b = 1 := by omega
      rw [Nat.one_pow, Nat.mod_eq_of_lt (by omega)] at hb1
      exact hb1 rfl
    obtain ⟨s, q, hsq, hq, hts, hev⟩ := root_l0 p a hp' (p - 1) (p - 1) 0 (Nat.le_refl _) (by omega) (by omega) (by omega) (by
      have : 2 ^ 17 ≤ 2 ^ (100 - 0) := Nat.pow_le_pow_right (by omega) (by omega)
      have : (2 : Nat) ^ 17 = 131072 := rfl
      omega)
    obtain ⟨R, hR, hR2, hR3⟩ := root_l1 hP ha (by omega) hone hsq hq (by omega) b hb hb2 (b - 2) 2 rfl hbb
    refine ⟨R, hR, hR2, ?_⟩
    unfold field_root.f
    refine Ev.neg (by omega) ?_
    have e : IntKind.u64.wrap ((p : Int) - 1) = ((p - 1 : Nat) : Int) := by rw [u64_in (by omega) (by omega)]; omega
    rw [e]
    have := hev (R : Int) (by rw [Nat.zero_add]; exact hR3)
    exact this

def less (p r : Nat) : Nat := min r ((p - r) % p)
theorem less_half {p r : Nat} (h3 : 3 ≤ p) (hodd : p % 2 = 1) (hr : r < p) : less p r ≤ p / 2 ∧ less p r < p := by
  unfold less
  by_cases h : r = 0
  · subst h; simp; omega
  · rw [Nat.mod_eq_of_lt (by omega)]; omega
theorem less_sq {p r : Nat} (h3 : 3 ≤ p) (hr : r < p) : less p r * less p r % p = r * r % p := by
  unfold less
  by_cases h : r = 0
  · subst h; simp
  · rw [Nat.mod_eq_of_lt (show p - r < p by omega)]
    by_cases hle : r ≤ p - r
    · rw [Nat.min_eq_left hle]
    · rw [Nat.min_eq_right (by omega)]
      obtain ⟨m, hm⟩ : ∃ m, p = r + m := ⟨p - r, by omega⟩
      rw [show p - r = m by omega]
      have : (r * r + p * m) % p = (m * m + p * r) % p := by
        congr 1
        rw [hm]
        grind
      rw [Nat.add_mul_mod_self_left, Nat.add_mul_mod_self_left] at this
      exact this.symm
theorem Root_ev {p a : Nat} (hl : right p [a] = 0) : Ev (fun k => field_Root.f k (p : Int) (a : Int)) ((0 : Int), (5 : Int)) ∧ ¬ a ^ ((p - 1) / 2) % p ≤ 1
    ∨ a ^ ((p - 1) / 2) % p ≤ 1 ∧ ∃ R : Nat, R < p ∧ R * R % p = a ∧ Ev (fun k => field_Root.f k (p : Int) (a : Int)) (((less p R : Nat) : Int), (0 : Int)) := by
  have hg := right_zero.1 hl
  have hP := hg.1
  have h3 := hP.1
  have hp' := hP.2.1
  have hap : a < p := hg.2 a (by simp)
  have hC := check_ev p [a] (by simp)
  rw [hl] at hC
  by_cases h1 : a ^ ((p - 1) / 2) % p ≤ 1
  · right
    obtain ⟨R, hR, hR2, hR3⟩ := root_ev hP hap h1
    refine ⟨h1, R, hR, hR2, ?_⟩
    unfold field_Root.f
    refine hC.bind (Ev.pos rfl ((square_ev h3 hp' hap).bind (Ev.pos (by simpa using h1) (hR3.bind (Ev.neg (by omega) (Ev_some ?_))))))
    have e : IntKind.u64.wrap ((p : Int) - R) = ((p - R : Nat) : Int) := by rw [u64_in (by omega) (by omega)]; omega
    rw [e, tmod_nat]
    congr 1
    unfold mn less
    omega
  · left
    refine ⟨?_, h1⟩
    unfold field_Root.f
    exact hC.bind (Ev.pos rfl ((square_ev h3 hp' hap).bind (Ev.neg (by simpa using h1) (Ev.now _))))
theorem Root_bad {p a : Nat} (hl : ¬ right p [a] = 0) : Ev (fun k => field_Root.f k (p : Int) (a : Int)) ((0 : Int), (2 : Int)) := by
  have hC := check_ev p [a] (by simp)
  rw [(right_two p [a]).resolve_left hl] at hC
  unfold field_Root.f
  exact hC.bind (Ev.neg (by decide) (Ev.now _))
theorem Square_ev (p a : Nat) : Ev (fun k => field_Square.f k (p : Int) (a : Int)) (if right p [a] = 0 then (decide (a ^ ((p - 1) / 2) % p ≤ 1), (0 : Int)) else (false, 2)) := by
  have hC := check_ev p [a] (by simp)
  unfold field_Square.f
  refine hC.bind ?_
  by_cases h : right p [a] = 0
  · have hg := right_zero.1 h
    exact Ev.same (Ev.pos h ((square_ev hg.1.1 hg.1.2.1 (hg.2 a (by simp))).bind (Ev.now _))) (if_pos h).symm
  · exact Ev.same (Ev.neg h (Ev.now _)) (by rw [if_neg h, (right_two p [a]).resolve_left h])
end Go.Proofs.Ytpdlbiahfmidoaa.Fb
