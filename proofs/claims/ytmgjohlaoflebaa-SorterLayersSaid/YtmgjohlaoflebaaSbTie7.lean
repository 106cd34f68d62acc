/- The rounds of a network: what they do, in whatever order within a round. -/
import Derived.Test.YtmgjohlaoflebaaSbTie4s
import Derived.Test.YtmgjohlaoflebaaSbTie5
namespace Go.Proofs.Ytmgjohlaoflebaa.Sb
open Go.RowKit Go.Proofs.YtmgjohlaoflebaaW.PrintWords Go.Proofs.YtmgjohlaoflebaaW.PrintMore Go.Proofs.Ytmgjohlaoflebaa.Num Go.Proofs.Ytmgjohlaoflebaa.Arith
set_option linter.unusedVariables false
set_option linter.unusedSectionVars false
def Disj (p q : S53) : Prop := p.f0.toNat ≠ q.f0.toNat ∧ p.f0.toNat ≠ q.f1.toNat ∧ p.f1.toNat ≠ q.f0.toNat ∧ p.f1.toNat ≠ q.f1.toNat
theorem rd_set_ne {l : List Int} {i : Nat} {j x : Int} (h : i ≠ j.toNat) : rd (l.set i x) j = rd l j := by
  show (l.set i x).getD j.toNat 0 = l.getD j.toNat 0
  rw [List.getD_eq_getElem?_getD, List.getElem?_set_ne h, ← List.getD_eq_getElem?_getD]
theorem rd_step {l : List Int} {p : S53} {j : Int} (h0 : p.f0.toNat ≠ j.toNat) (h1 : p.f1.toNat ≠ j.toNat) : rd (stepV l p) j = rd l j := by
  unfold stepV
  split
  · rw [rd_set_ne h1, rd_set_ne h0]
  · rfl
theorem stepV_def (l : List Int) (q : S53) : stepV l q = if rd l q.f0 > rd l q.f1 then (l.set q.f0.toNat (rd l q.f1)).set q.f1.toNat (rd l q.f0) else l := rfl
theorem step_comm {l : List Int} {p q : S53} (h : Disj p q) : stepV (stepV l p) q = stepV (stepV l q) p := by
  obtain ⟨h1, h2, h3, h4⟩ := h
  have e1 := rd_step (l := l) (p := p) (j := q.f0) h1 h3
  have e2 := rd_step (l := l) (p := p) (j := q.f1) h2 h4
  have e3 := rd_step (l := l) (p := q) (j := p.f0) (Ne.symm h1) (Ne.symm h2)
  have e4 := rd_step (l := l) (p := q) (j := p.f1) (Ne.symm h3) (Ne.symm h4)
  have d1 : stepV (stepV l p) q = if rd l q.f0 > rd l q.f1 then ((stepV l p).set q.f0.toNat (rd l q.f1)).set q.f1.toNat (rd l q.f0) else stepV l p := by
    rw [stepV_def (stepV l p) q, e1, e2]
  have d2 : stepV (stepV l q) p = if rd l p.f0 > rd l p.f1 then ((stepV l q).set p.f0.toNat (rd l p.f1)).set p.f1.toNat (rd l p.f0) else stepV l q := by
    rw [stepV_def (stepV l q) p, e3, e4]
  rw [d1, d2, stepV_def l p, stepV_def l q]
  by_cases c1 : rd l p.f0 > rd l p.f1 <;> by_cases c2 : rd l q.f0 > rd l q.f1
  · rw [if_pos c1, if_pos c2, if_pos c1, if_pos c2]
    rw [List.set_comm _ _ h3, List.set_comm _ _ h4, List.set_comm _ _ h1, List.set_comm _ _ h2]
  · rw [if_pos c1, if_neg c2, if_pos c1, if_neg c2]
  · simp only [if_neg c1, if_pos c2]
  · simp only [if_neg c1, if_neg c2]
theorem fold_move : ∀ (B : List S53) (q : S53) (l : List Int), (∀ p ∈ B, Disj p q) → B.foldl stepV (stepV l q) = stepV (B.foldl stepV l) q
  | [], _, _, _ => rfl
  | p :: B, q, l, h => by
    rw [List.foldl_cons, List.foldl_cons, ← step_comm (h p (List.mem_cons_self ..))]
    exact fold_move B q _ (fun p' h' => h p' (List.mem_cons_of_mem _ h'))
theorem disj_symm {p q : S53} (h : Disj p q) : Disj q p := ⟨Ne.symm h.1, Ne.symm h.2.2.1, Ne.symm h.2.1, Ne.symm h.2.2.2⟩
theorem fold_reverse : ∀ (r : List S53) (l : List Int), r.Pairwise Disj → r.reverse.foldl stepV l = r.foldl stepV l
  | [], _, _ => rfl
  | q :: r, l, h => by
    obtain ⟨h1, h2⟩ := List.pairwise_cons.1 h
    rw [List.reverse_cons, List.foldl_append, fold_reverse r l h2, List.foldl_cons]
    exact (fold_move r q l (fun p hp => disj_symm (h1 p hp))).symm
theorem fold_back : ∀ (out : List (List S53)) (l : List Int), (∀ r ∈ out, r.Pairwise Disj) → (out.map List.reverse).flatten.foldl stepV l = out.flatten.foldl stepV l
  | [], _, _ => rfl
  | r :: out, l, h => by
    rw [List.map_cons, List.flatten_cons, List.flatten_cons, List.foldl_append, List.foldl_append, fold_reverse r l (h r (List.mem_cons_self ..))]
    exact fold_back out _ (fun r' h' => h r' (List.mem_cons_of_mem _ h'))
theorem fold_put : ∀ (M : List (List S53)) (i : Nat) (q : S53) (l : List Int), i < M.length → (∀ k, i < k → ∀ p ∈ M.getD k [], Disj p q) → (M.set i (M.getD i [] ++ [q])).flatten.foldl stepV l = stepV (M.flatten.foldl stepV l) q
  | [], _, _, _, h, _ => absurd h (Nat.not_lt_zero _)
  | r :: M, 0, q, l, _, h => by
    have e : ((r :: M).set 0 ((r :: M).getD 0 [] ++ [q])).flatten = r ++ [q] ++ M.flatten := by simp
    rw [e, List.flatten_cons, List.foldl_append, List.foldl_append, List.foldl_append, List.foldl_cons, List.foldl_nil]
    refine fold_move _ _ _ fun p hp => ?_
    obtain ⟨r', hr', hp'⟩ := List.mem_flatten.1 hp
    obtain ⟨k, hk, rfl⟩ := List.mem_iff_getElem.1 hr'
    refine h (k + 1) (Nat.succ_pos _) p ?_
    rw [List.getD_eq_getElem?_getD, List.getElem?_cons_succ, List.getElem?_eq_getElem hk]
    exact hp'
  | r :: M, i + 1, q, l, hi, h => by
    have e : (r :: M).set (i + 1) ((r :: M).getD (i + 1) [] ++ [q]) = r :: M.set i (M.getD i [] ++ [q]) := by simp
    rw [e, List.flatten_cons, List.flatten_cons, List.foldl_append, List.foldl_append]
    refine fold_put M i q _ (by simpa using hi) fun k hk p hp => h (k + 1) (Nat.succ_lt_succ hk) p ?_
    rw [List.getD_eq_getElem?_getD, List.getElem?_cons_succ, ← List.getD_eq_getElem?_getD]
    exact hp
theorem len_put (M : List (List S53)) (i : Nat) (q : S53) (h : i < M.length) : (M.set i (M.getD i [] ++ [q])).flatten.length = M.flatten.length + 1 := by
  induction M generalizing i with
  | nil => exact absurd h (Nat.not_lt_zero _)
  | cons r M ih =>
    cases i with
    | zero => simp; omega
    | succ i =>
      have e : (r :: M).set (i + 1) ((r :: M).getD (i + 1) [] ++ [q]) = r :: M.set i (M.getD i [] ++ [q]) := by simp
      rw [e, List.flatten_cons, List.flatten_cons, List.length_append, List.length_append, ih i (by simpa using h)]
      omega
structure Lay (n : Nat) (pre : List S53) (out : List (List S53)) (busy : List Int) : Prop where
  inv : Inv n pre.length out busy
  eqv : ∀ l, out.flatten.foldl stepV l = pre.foldl stepV l
  len : out.flatten.length = pre.length
  valid : ∀ k, ∀ q ∈ out.getD k [], Within n q
  free : ∀ k : Nat, ∀ q ∈ out.getD k [], (k : Int) < rd busy q.f0 ∧ (k : Int) < rd busy q.f1
  disj : ∀ k, (out.getD k []).Pairwise Disj
theorem more_getD (out : List (List S53)) (busy : List Int) (q : S53) (k : Nat) : (more_ out busy q).getD k [] = out.getD k [] := by
  rw [more_def]
  split
  · rw [List.getD_eq_getElem?_getD, List.getD_eq_getElem?_getD, List.getElem?_append]
    split
    · rfl
    · rename_i h
      rw [List.getElem?_eq_none (show out.length ≤ k by omega)]
      cases hk : k - out.length <;> simp
  · rfl
theorem more_flatten (out : List (List S53)) (busy : List Int) (q : S53) : (more_ out busy q).flatten = out.flatten := by
  rw [more_def]
  split
  · simp
  · rfl
theorem rd_set_eq {l : List Int} {i : Int} {x : Int} (h : i.toNat < l.length) : rd (l.set i.toNat x) i = x := by
  show (l.set i.toNat x).getD i.toNat 0 = x
  rw [List.getD_eq_getElem?_getD, List.getElem?_set_self h]; rfl
theorem mx_le (a b : Int) : a ≤ mx a b ∧ b ≤ mx a b := by
  unfold mx; split <;> omega
theorem lay_step {n : Nat} {pre : List S53} {out : List (List S53)} {busy : List Int} {q : S53} (h : Lay n pre out busy) (hq : Within n q) : Lay n (pre ++ [q]) (stepO (out, busy) q).1 (stepO (out, busy) q).2 := by
  obtain ⟨g0, g1, g2⟩ := hq
  have hb := h.inv.busyLen
  have hat := at_bounds h.inv g0 g1 g2
  obtain ⟨m1, _, _, _⟩ := more_bounds h.inv g0 g1 g2
  have hmx := mx_le (rd busy q.f0) (rd busy q.f1)
  rw [← at_def] at hmx
  have hinv := inv_step h.inv g0 g1 g2
  have hgd := more_getD out busy q
  have hfl := more_flatten out busy q
  have hfree := h.free
  have hvalid := h.valid
  have hdisj := h.disj
  have heqv := h.eqv
  have hlen := h.len
  simp only [stepO] at hinv ⊢
  generalize more_ out busy q = M at m1 hgd hfl hinv ⊢
  obtain ⟨a, ha⟩ := Int.eq_ofNat_of_zero_le hat.1
  rw [ha] at m1 hmx hinv ⊢
  have e1 : rd_L2 M (a : Int) = M.getD a [] := rfl
  have ea : ((a : Nat) : Int).toNat = a := rfl
  have m1' : a < M.length := Int.ofNat_lt.1 m1
  rw [e1, ea] at hinv ⊢
  have dq : ∀ k, a ≤ k → ∀ p ∈ out.getD k [], Disj p q := by
    intro k hk p hp
    obtain ⟨f0, f1⟩ := hfree k p hp
    obtain ⟨v0, v1, v2⟩ := hvalid k p hp
    refine ⟨fun e => ?_, fun e => ?_, fun e => ?_, fun e => ?_⟩
    · rw [show p.f0 = q.f0 from by omega] at f0; omega
    · rw [show p.f0 = q.f1 from by omega] at f0; omega
    · rw [show p.f1 = q.f0 from by omega] at f1; omega
    · rw [show p.f1 = q.f1 from by omega] at f1; omega
  have get' : ∀ k, (M.set a (M.getD a [] ++ [q])).getD k [] = if k = a then out.getD a [] ++ [q] else out.getD k [] := by
    intro k
    rw [List.getD_eq_getElem?_getD]
    split
    · rename_i e; subst e
      rw [List.getElem?_set_self m1', hgd]; rfl
    · rename_i e
      rw [List.getElem?_set_ne (Ne.symm e), ← List.getD_eq_getElem?_getD, hgd]
  refine ⟨?_, fun l => ?_, ?_, fun k p hp => ?_, fun k p hp => ?_, fun k => ?_⟩
  · rw [List.length_append]
    exact hinv
  · rw [fold_put M a q l m1' (fun k hk p hp => dq k (Nat.le_of_lt hk) p (by rw [← hgd]; exact hp)), hfl, heqv, List.foldl_append]
    rfl
  · rw [len_put M a q m1', hfl, hlen, List.length_append]; rfl
  · rw [get'] at hp
    split at hp
    · rcases List.mem_append.1 hp with hp | hp
      · exact hvalid _ p hp
      · rw [List.mem_singleton.1 hp]; exact ⟨g0, g1, g2⟩
    · exact hvalid _ p hp
  · have key : ∀ j : Int, 0 ≤ j → (j = q.f0 ∨ j = q.f1 → rd ((busy.set q.f0.toNat ((a : Int) + 1)).set q.f1.toNat ((a : Int) + 1)) j = (a : Int) + 1) ∧ (j ≠ q.f0 → j ≠ q.f1 → rd ((busy.set q.f0.toNat ((a : Int) + 1)).set q.f1.toNat ((a : Int) + 1)) j = rd busy j) := by
      intro j hj
      refine ⟨fun hc => ?_, fun h0 h1 => by rw [rd_set_ne (by omega), rd_set_ne (by omega)]⟩
      rcases hc with e | e
      · subst e
        rw [rd_set_ne (by omega), rd_set_eq (by rw [hb]; omega)]
      · subst e
        rw [rd_set_eq (by rw [List.length_set, hb]; omega)]
    rw [get'] at hp
    have old : ∀ k' : Nat, p ∈ out.getD k' [] → (k' : Int) < rd ((busy.set q.f0.toNat ((a : Int) + 1)).set q.f1.toNat ((a : Int) + 1)) p.f0 ∧ (k' : Int) < rd ((busy.set q.f0.toNat ((a : Int) + 1)).set q.f1.toNat ((a : Int) + 1)) p.f1 := by
      intro k' hp'
      obtain ⟨f0, f1⟩ := hfree k' p hp'
      obtain ⟨v0, v1, v2⟩ := hvalid k' p hp'
      constructor
      · by_cases c : p.f0 = q.f0 ∨ p.f0 = q.f1
        · rw [(key p.f0 v0).1 c]
          rcases c with e | e <;> rw [e] at f0 <;> omega
        · rw [(key p.f0 v0).2 (fun e => c (.inl e)) (fun e => c (.inr e))]; exact f0
      · by_cases c : p.f1 = q.f0 ∨ p.f1 = q.f1
        · rw [(key p.f1 (by omega)).1 c]
          rcases c with e | e <;> rw [e] at f1 <;> omega
        · rw [(key p.f1 (by omega)).2 (fun e => c (.inl e)) (fun e => c (.inr e))]; exact f1
    split at hp
    · rename_i e
      subst e
      rcases List.mem_append.1 hp with hp | hp
      · exact old _ hp
      · rw [List.mem_singleton.1 hp, (key q.f0 g0).1 (.inl rfl), (key q.f1 (by omega)).1 (.inr rfl)]
        omega
    · exact old _ hp
  · rw [get']
    split
    · refine List.pairwise_append.2 ⟨hdisj a, List.pairwise_singleton _ _, fun p hp p' hp' => ?_⟩
      rw [List.mem_singleton.1 hp']
      exact dq a (Nat.le_refl _) p hp
    · exact hdisj k
theorem lay_fold {n : Nat} : ∀ (net pre : List S53) (s : List (List S53) × List Int), (∀ q ∈ net, Within n q) → Lay n pre s.1 s.2 → Lay n (pre ++ net) (net.foldl stepO s).1 (net.foldl stepO s).2
  | [], pre, s, _, h => by rw [List.append_nil]; exact h
  | q :: net, pre, s, hq, h => by
    have := lay_fold net (pre ++ [q]) (stepO s q) (fun q' h' => hq q' (List.mem_cons_of_mem _ h')) (lay_step h (hq q (List.mem_cons_self ..)))
    rw [List.append_assoc] at this
    exact this
theorem lay_rounds {n : Nat} {net : List S53} (hq : ∀ q ∈ net, Within n q) :
    (∀ l, (roundsOf n net).flatten.foldl stepV l = net.foldl stepV l) ∧ (roundsOf n net).flatten.length = net.length ∧ (∀ r ∈ roundsOf n net, ∀ q ∈ r, Within n q) ∧ (∀ r ∈ roundsOf n net, r.Pairwise Disj) := by
  have h0 : Lay n [] [] (List.replicate n 0) := ⟨inv_nil n, fun _ => rfl, rfl, fun k q hq => absurd hq (by simp), fun k q hq => absurd hq (by simp), fun k => by simp⟩
  have h := lay_fold net [] ([], List.replicate n 0) hq h0
  rw [List.nil_append] at h
  refine ⟨h.eqv, h.len, fun r hr q hq => ?_, fun r hr => ?_⟩
  · obtain ⟨k, hk, e⟩ := List.mem_iff_getElem.1 hr
    have e2 : (roundsOf n net).getD k [] = r := by rw [List.getD_eq_getElem?_getD, List.getElem?_eq_getElem hk, e]; rfl
    exact h.valid k q (show q ∈ (roundsOf n net).getD k [] by rw [e2]; exact hq)
  · obtain ⟨k, hk, e⟩ := List.mem_iff_getElem.1 hr
    have e2 : (roundsOf n net).getD k [] = r := by rw [List.getD_eq_getElem?_getD, List.getElem?_eq_getElem hk, e]; rfl
    rw [← e2]
    exact h.disj k
theorem check_of {n : Nat} {net : List S53} (hn : n ≤ 32) (hl : net.length ≤ 4096) (hq : ∀ q ∈ net, Within n q) : checkW (n : Int) net = 0 := by
  unfold checkW
  rw [if_neg (by omega), if_neg (by omega), if_neg (by omega)]
  rw [if_neg]
  intro h
  obtain ⟨q, hm, hb⟩ := List.any_eq_true.1 h
  obtain ⟨h0, h1, h2⟩ := hq q hm
  simp [badPair] at hb
  omega
end Go.Proofs.Ytmgjohlaoflebaa.Sb
