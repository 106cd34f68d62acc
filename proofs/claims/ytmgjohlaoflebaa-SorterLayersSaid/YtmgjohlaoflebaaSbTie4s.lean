/- What both Rounds come to: the same rounds. -/
import Derived.Test.YtmgjohlaoflebaaSbTie2
import Derived.Test.YtmgjohlaoflebaaSb12
namespace Go.Proofs.Ytmgjohlaoflebaa.Sb
open Go.RowKit Go.Proofs.YtmgjohlaoflebaaW.PrintWords Go.Proofs.YtmgjohlaoflebaaW.PrintMore Go.Proofs.Ytmgjohlaoflebaa.Num Go.Proofs.Ytmgjohlaoflebaa.Arith
set_option linter.unusedVariables false
set_option linter.unusedSectionVars false

def at_ (busy : List Int) (q : S53) : Int := mx (rd busy q.f0) (rd busy q.f1)
def more_ (out : List (List S53)) (busy : List Int) (q : S53) : List (List S53) := if at_ busy q = (out.length : Int) then out ++ [[]] else out
def stepO (s : List (List S53) × List Int) (q : S53) : List (List S53) × List Int :=
  ((more_ s.1 s.2 q).set (at_ s.2 q).toNat (rd_L2 (more_ s.1 s.2 q) (at_ s.2 q) ++ [q]), (s.2.set q.f0.toNat (at_ s.2 q + 1)).set q.f1.toNat (at_ s.2 q + 1))

/-- Behind i pairs. -/
structure Inv (n i : Nat) (out : List (List S53)) (busy : List Int) : Prop where
  busyLen : busy.length = n
  lo : ∀ x ∈ busy, 0 ≤ x ∧ x ≤ out.length
  outLen : out.length ≤ i
  rows : ∀ r ∈ out, r.length ≤ i

theorem rd_mem {l : List Int} {i : Int} (h0 : 0 ≤ i) (h1 : i < l.length) : rd l i ∈ l := by
  show l.getD i.toNat 0 ∈ l
  rw [List.getD_eq_getElem?_getD, List.getElem?_eq_getElem (by omega)]
  exact List.getElem_mem _
theorem mx_cases (a b : Int) : mx a b = a ∨ mx a b = b := by
  unfold mx; split
  · exact .inr rfl
  · exact .inl rfl
theorem rows_le {out : List (List S53)} {i : Nat} (h : ∀ r ∈ out, r.length ≤ i) (j : Int) : (rd_L2 out j).length ≤ i := by
  show (out.getD j.toNat []).length ≤ i
  rw [List.getD_eq_getElem?_getD]
  cases hj : out[j.toNat]? with
  | none => exact Nat.zero_le _
  | some r => exact h r (List.mem_of_getElem? hj)

section
variable {n i : Nat} {out : List (List S53)} {busy : List Int} {q : S53} (h : Inv n i out busy) (h0 : 0 ≤ q.f0) (h1 : q.f0 < q.f1) (h2 : q.f1 < n)
include h h0 h1 h2
theorem at_bounds : 0 ≤ at_ busy q ∧ at_ busy q ≤ out.length := by
  have b := h.busyLen
  have m0 := h.lo _ (rd_mem (l := busy) (i := q.f0) h0 (by omega))
  have m1 := h.lo _ (rd_mem (l := busy) (i := q.f1) (by omega) (by omega))
  unfold at_
  rcases mx_cases (rd busy q.f0) (rd busy q.f1) with e | e <;> rw [e] <;> assumption
theorem more_bounds : at_ busy q < (more_ out busy q).length ∧ (more_ out busy q).length ≤ i + 1 ∧ (∀ r ∈ more_ out busy q, r.length ≤ i) ∧ out.length ≤ (more_ out busy q).length := by
  have b := at_bounds h h0 h1 h2
  have ho := h.outLen
  unfold more_
  by_cases e : at_ busy q = (out.length : Int)
  · rw [if_pos e]
    refine ⟨by simp; omega, by simp; omega, fun r hr => ?_, by simp⟩
    rcases List.mem_append.1 hr with hr | hr
    · exact h.rows r hr
    · rw [List.mem_singleton.1 hr]; exact Nat.zero_le _
  · rw [if_neg e]
    exact ⟨by omega, by omega, h.rows, Nat.le_refl _⟩
theorem inv_step : Inv n (i + 1) (stepO (out, busy) q).1 (stepO (out, busy) q).2 := by
  have b := at_bounds h h0 h1 h2
  obtain ⟨m1, m2, m3, m4⟩ := more_bounds h h0 h1 h2
  refine ⟨by simp [stepO, h.busyLen], fun x hx => ?_, by simp only [stepO, List.length_set]; exact m2, fun r hr => ?_⟩
  · simp only [stepO, List.length_set]
    have hx' : x ∈ (busy.set q.f0.toNat (at_ busy q + 1)).set q.f1.toNat (at_ busy q + 1) := hx
    rcases List.mem_or_eq_of_mem_set hx' with hx' | rfl
    · rcases List.mem_or_eq_of_mem_set hx' with hx' | rfl
      · have := h.lo x hx'; omega
      · omega
    · omega
  · have hr' : r ∈ (more_ out busy q).set (at_ busy q).toNat (rd_L2 (more_ out busy q) (at_ busy q) ++ [q]) := hr
    rcases List.mem_or_eq_of_mem_set hr' with hr' | rfl
    · have := m3 r hr'; omega
    · have := rows_le m3 (at_ busy q)
      simp; omega
end

theorem at_def (busy : List Int) (q : S53) : at_ busy q = mx (rd busy q.f0) (rd busy q.f1) := rfl
theorem more_def (out : List (List S53)) (busy : List Int) (q : S53) : more_ out busy q = if at_ busy q = (out.length : Int) then out ++ [[]] else out := rfl
attribute [irreducible] at_ more_

theorem w_succ {i n : Nat} (h : i < n) (hn : n ≤ 4096) : wrap64 ((i : Int) + 1) = ((i + 1 : Nat) : Int) := by rw [w64_in (by omega) (by omega)]; rfl
theorem w_at {a : Int} {m i n : Nat} (h0 : 0 ≤ a) (h1 : a < m) (h2 : m ≤ i + 1) (h3 : i < n) (h4 : n ≤ 4096) : wrap64 (a + 1) = a + 1 := w64_in (by omega) (by omega)

theorem lt_b {a b : Int} {n m : Nat} (h1 : a < b) (h2 : b < n) (e : m = n) : a < m := by omega
theorem lt_c {b : Int} {n m : Nat} (h2 : b < n) (e : m = n) : b < m := by omega
theorem le_c {a b : Int} (h2 : a < b) (e : 0 ≤ a) : 0 ≤ b := by omega
theorem len_out {m i n : Nat} {K : Int} (h : m ≤ i) (h1 : i < n) (h2 : n ≤ 4096) (hK : 4096 < K) : (m : Int) < K := by omega
theorem len_out' {m i n K : Nat} (h : m ≤ i) (h1 : i < n) (h2 : n ≤ 4096) (hK : 4096 < K) : m < K := by omega

section
variable {net : List S53} {n : Nat} (hn : n ≤ 32) (hl : net.length ≤ 4096) (hq : ∀ q ∈ net, 0 ≤ q.f0 ∧ q.f0 < q.f1 ∧ q.f1 < n)
include hn hl hq
theorem rounds_l0 : ∀ (d i : Nat) (out : List (List S53)) (busy : List Int), net.length - i = d → i ≤ net.length → Inv n i out busy →
    Ev (fun k => sorter_Rounds.l0 k out busy net (net.length : Int) (i : Int)) (((net.drop i).foldl stepO (out, busy)).1, 0) := by
  intro d
  induction d with
  | zero =>
    intro i out busy hd hi h
    obtain rfl : i = net.length := by omega
    refine Ev.step (fun k => by simp only [sorter_Rounds.l0]; rfl) ?_
    exact Ev.neg (by omega) (Ev_some (by simp))
  | succ d ih =>
    intro i out busy hd hi h
    have hlt : i < net.length := by omega
    obtain ⟨g0, g1, g2⟩ := hq net[i] (List.getElem_mem hlt)
    have hb := h.busyLen
    have ho := h.outLen
    have b := at_bounds h g0 g1 g2
    obtain ⟨m1, m2, m3, m4⟩ := more_bounds h g0 g1 g2
    have m5 := rows_le m3 (at_ busy net[i])
    have key := ih (i + 1) _ _ (by omega) (by omega) (inv_step h g0 g1 g2)
    refine Ev.step (fun k => by simp only [sorter_Rounds.l0]; rfl) ?_
    rw [rd53_eq hlt, List.drop_eq_getElem_cons hlt, List.foldl_cons]
    have w : wrap64 ((i : Int) + 1) = ((i + 1 : Nat) : Int) := w_succ hlt hl
    have wa := w_at b.1 m1 m2 hlt hl
    rw [w]
    refine Ev.pos (Int.ofNat_lt.2 hlt) (Ev.pos (Int.natCast_nonneg i) (Ev.pos (Int.ofNat_lt.2 hlt) (Ev.pos g0 (Ev.pos (lt_b g1 g2 hb) (Ev.pos (le_c g1 g0) (Ev.pos (lt_c g2 hb) ?_))))))
    rw [← at_def busy net[i], wa]
    simp only [stepO] at key ⊢
    rw [more_def] at key m1 m5 ⊢
    by_cases e : at_ busy net[i] = (out.length : Int)
    · rw [if_pos e] at key m1 m5 ⊢
      exact Ev.pos e (Ev.pos (len_out' ho hlt hl (by decide)) (Ev.bind0 rfl (Ev.pos b.1 (Ev.pos m1 (Ev.pos (len_out' m5 hlt hl (by decide)) key)))))
    · rw [if_neg e] at key m1 m5 ⊢
      exact Ev.neg e (Ev.pos b.1 (Ev.pos m1 (Ev.pos (len_out' m5 hlt hl (by decide)) key)))
end

def roundsOf (n : Nat) (net : List S53) : List (List S53) := (net.foldl stepO ([], List.replicate n 0)).1
theorem inv_nil (n : Nat) : Inv n 0 [] (List.replicate n 0) :=
  ⟨List.length_replicate, fun x hx => by rw [(List.mem_replicate.1 hx).2]; exact ⟨Int.le_refl _, Int.le_refl _⟩, Nat.le_refl _, fun r hr => absurd hr (List.not_mem_nil)⟩
theorem inv_fold {n : Nat} : ∀ (net : List S53) (i : Nat) (s : List (List S53) × List Int), (∀ q ∈ net, 0 ≤ q.f0 ∧ q.f0 < q.f1 ∧ q.f1 < n) → Inv n i s.1 s.2 → Inv n (i + net.length) (net.foldl stepO s).1 (net.foldl stepO s).2
  | [], _, _, _, h => h
  | q :: net, i, s, hq, h => by
    obtain ⟨g0, g1, g2⟩ := hq q (List.mem_cons_self ..)
    have := inv_fold net (i + 1) (stepO s q) (fun q' h' => hq q' (List.mem_cons_of_mem _ h')) (inv_step h g0 g1 g2)
    rw [List.foldl_cons, List.length_cons, show i + (net.length + 1) = i + 1 + net.length from by omega]
    exact this
theorem inv_rounds {n : Nat} {net : List S53} (hq : ∀ q ∈ net, 0 ≤ q.f0 ∧ q.f0 < q.f1 ∧ q.f1 < n) : (roundsOf n net).length ≤ net.length ∧ ∀ r ∈ roundsOf n net, r.length ≤ net.length := by
  have := inv_fold net 0 ([], List.replicate n 0) hq (inv_nil n)
  rw [Nat.zero_add] at this
  exact ⟨this.outLen, this.rows⟩
theorem Rounds_ok {n : Nat} {net : List S53} (h : checkW (n : Int) net = 0) : Ev (fun k => sorter_Rounds.f k (n : Int) net) (roundsOf n net, 0) := by
  obtain ⟨_, hn, hl, hq⟩ := check_zero h
  have hn' : n ≤ 32 := by clear h hq; omega
  unfold sorter_Rounds.f
  refine Ev.bind0 (sorterCheck_eq _ _) (Ev.pos h (Ev.pos (Int.natCast_nonneg n) (Ev.pos (by clear h hq; omega) ?_)))
  exact rounds_l0 hn' hl hq net.length 0 [] (List.replicate n 0) rfl (Nat.zero_le _) (inv_nil n)
theorem Rounds_bad {n : Int} {net : List S53} (h : checkW n net ≠ 0) : Ev (fun k => sorter_Rounds.f k n net) ([], checkW n net) := by
  unfold sorter_Rounds.f
  exact Ev.bind0 (sorterCheck_eq _ _) (Ev.neg h (Ev.now _))
theorem rd_L2_eq {l : List (List S53)} {i : Nat} (h : i < l.length) : rd_L2 l (i : Int) = l[i] := by
  show l.getD i [] = _
  rw [List.getD_eq_getElem?_getD, List.getElem?_eq_getElem h]; rfl
end Go.Proofs.Ytmgjohlaoflebaa.Sb
