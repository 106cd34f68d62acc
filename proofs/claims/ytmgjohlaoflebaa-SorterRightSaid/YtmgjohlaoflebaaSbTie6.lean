/- Batcher's network on at most 32 places sorts. -/
import Derived.Test.YtmgjohlaoflebaaSbTie5
namespace Go.Proofs.Ytmgjohlaoflebaa.Sb
open Go.RowKit Go.Proofs.YtmgjohlaoflebaaW.PrintWords Go.Proofs.YtmgjohlaoflebaaW.PrintMore Go.Proofs.Ytmgjohlaoflebaa.Num Go.Proofs.Ytmgjohlaoflebaa.Arith
set_option linter.unusedVariables false
set_option linter.unusedSectionVars false
instance decS53 : DecidableEq S53 := fun a b => if h0 : a.f0 = b.f0 then if h1 : a.f1 = b.f1 then .isTrue (by cases a; cases b; simp at h0 h1; simp [h0, h1]) else .isFalse (fun h => h1 (h ▸ rfl)) else .isFalse (fun h => h0 (h ▸ rfl))
def net2 : List S53 := [⟨0, 1⟩]
def net4 : List S53 := [⟨0, 1⟩, ⟨2, 3⟩, ⟨0, 2⟩, ⟨1, 3⟩, ⟨1, 2⟩]
def net8 : List S53 := [⟨0, 1⟩, ⟨2, 3⟩, ⟨4, 5⟩, ⟨6, 7⟩, ⟨0, 2⟩, ⟨1, 3⟩, ⟨4, 6⟩, ⟨5, 7⟩, ⟨1, 2⟩, ⟨5, 6⟩, ⟨0, 4⟩, ⟨1, 5⟩, ⟨2, 6⟩, ⟨3, 7⟩, ⟨2, 4⟩, ⟨3, 5⟩, ⟨1, 2⟩, ⟨3, 4⟩, ⟨5, 6⟩]
def net16 : List S53 := [⟨0, 1⟩, ⟨2, 3⟩, ⟨4, 5⟩, ⟨6, 7⟩, ⟨8, 9⟩, ⟨10, 11⟩, ⟨12, 13⟩, ⟨14, 15⟩, ⟨0, 2⟩, ⟨1, 3⟩, ⟨4, 6⟩, ⟨5, 7⟩, ⟨8, 10⟩, ⟨9, 11⟩, ⟨12, 14⟩, ⟨13, 15⟩, ⟨1, 2⟩, ⟨5, 6⟩, ⟨9, 10⟩, ⟨13, 14⟩, ⟨0, 4⟩, ⟨1, 5⟩, ⟨2, 6⟩, ⟨3, 7⟩, ⟨8, 12⟩, ⟨9, 13⟩, ⟨10, 14⟩, ⟨11, 15⟩, ⟨2, 4⟩, ⟨3, 5⟩, ⟨10, 12⟩, ⟨11, 13⟩, ⟨1, 2⟩, ⟨3, 4⟩, ⟨5, 6⟩, ⟨9, 10⟩, ⟨11, 12⟩, ⟨13, 14⟩, ⟨0, 8⟩, ⟨1, 9⟩, ⟨2, 10⟩, ⟨3, 11⟩, ⟨4, 12⟩, ⟨5, 13⟩, ⟨6, 14⟩, ⟨7, 15⟩, ⟨4, 8⟩, ⟨5, 9⟩, ⟨6, 10⟩, ⟨7, 11⟩, ⟨2, 4⟩, ⟨3, 5⟩, ⟨6, 8⟩, ⟨7, 9⟩, ⟨10, 12⟩, ⟨11, 13⟩, ⟨1, 2⟩, ⟨3, 4⟩, ⟨5, 6⟩, ⟨7, 8⟩, ⟨9, 10⟩, ⟨11, 12⟩, ⟨13, 14⟩]
def net32 : List S53 := [⟨0, 1⟩, ⟨2, 3⟩, ⟨4, 5⟩, ⟨6, 7⟩, ⟨8, 9⟩, ⟨10, 11⟩, ⟨12, 13⟩, ⟨14, 15⟩, ⟨16, 17⟩, ⟨18, 19⟩, ⟨20, 21⟩, ⟨22, 23⟩, ⟨24, 25⟩, ⟨26, 27⟩, ⟨28, 29⟩, ⟨30, 31⟩, ⟨0, 2⟩, ⟨1, 3⟩, ⟨4, 6⟩, ⟨5, 7⟩, ⟨8, 10⟩, ⟨9, 11⟩, ⟨12, 14⟩, ⟨13, 15⟩, ⟨16, 18⟩, ⟨17, 19⟩, ⟨20, 22⟩, ⟨21, 23⟩, ⟨24, 26⟩, ⟨25, 27⟩, ⟨28, 30⟩, ⟨29, 31⟩, ⟨1, 2⟩, ⟨5, 6⟩, ⟨9, 10⟩, ⟨13, 14⟩, ⟨17, 18⟩, ⟨21, 22⟩, ⟨25, 26⟩, ⟨29, 30⟩, ⟨0, 4⟩, ⟨1, 5⟩, ⟨2, 6⟩, ⟨3, 7⟩, ⟨8, 12⟩, ⟨9, 13⟩, ⟨10, 14⟩, ⟨11, 15⟩, ⟨16, 20⟩, ⟨17, 21⟩, ⟨18, 22⟩, ⟨19, 23⟩, ⟨24, 28⟩, ⟨25, 29⟩, ⟨26, 30⟩, ⟨27, 31⟩, ⟨2, 4⟩, ⟨3, 5⟩, ⟨10, 12⟩, ⟨11, 13⟩, ⟨18, 20⟩, ⟨19, 21⟩, ⟨26, 28⟩, ⟨27, 29⟩, ⟨1, 2⟩, ⟨3, 4⟩, ⟨5, 6⟩, ⟨9, 10⟩, ⟨11, 12⟩, ⟨13, 14⟩, ⟨17, 18⟩, ⟨19, 20⟩, ⟨21, 22⟩, ⟨25, 26⟩, ⟨27, 28⟩, ⟨29, 30⟩, ⟨0, 8⟩, ⟨1, 9⟩, ⟨2, 10⟩, ⟨3, 11⟩, ⟨4, 12⟩, ⟨5, 13⟩, ⟨6, 14⟩, ⟨7, 15⟩, ⟨16, 24⟩, ⟨17, 25⟩, ⟨18, 26⟩, ⟨19, 27⟩, ⟨20, 28⟩, ⟨21, 29⟩, ⟨22, 30⟩, ⟨23, 31⟩, ⟨4, 8⟩, ⟨5, 9⟩, ⟨6, 10⟩, ⟨7, 11⟩, ⟨20, 24⟩, ⟨21, 25⟩, ⟨22, 26⟩, ⟨23, 27⟩, ⟨2, 4⟩, ⟨3, 5⟩, ⟨6, 8⟩, ⟨7, 9⟩, ⟨10, 12⟩, ⟨11, 13⟩, ⟨18, 20⟩, ⟨19, 21⟩, ⟨22, 24⟩, ⟨23, 25⟩, ⟨26, 28⟩, ⟨27, 29⟩, ⟨1, 2⟩, ⟨3, 4⟩, ⟨5, 6⟩, ⟨7, 8⟩, ⟨9, 10⟩, ⟨11, 12⟩, ⟨13, 14⟩, ⟨17, 18⟩, ⟨19, 20⟩, ⟨21, 22⟩, ⟨23, 24⟩, ⟨25, 26⟩, ⟨27, 28⟩, ⟨29, 30⟩, ⟨0, 16⟩, ⟨1, 17⟩, ⟨2, 18⟩, ⟨3, 19⟩, ⟨4, 20⟩, ⟨5, 21⟩, ⟨6, 22⟩, ⟨7, 23⟩, ⟨8, 24⟩, ⟨9, 25⟩, ⟨10, 26⟩, ⟨11, 27⟩, ⟨12, 28⟩, ⟨13, 29⟩, ⟨14, 30⟩, ⟨15, 31⟩, ⟨8, 16⟩, ⟨9, 17⟩, ⟨10, 18⟩, ⟨11, 19⟩, ⟨12, 20⟩, ⟨13, 21⟩, ⟨14, 22⟩, ⟨15, 23⟩, ⟨4, 8⟩, ⟨5, 9⟩, ⟨6, 10⟩, ⟨7, 11⟩, ⟨12, 16⟩, ⟨13, 17⟩, ⟨14, 18⟩, ⟨15, 19⟩, ⟨20, 24⟩, ⟨21, 25⟩, ⟨22, 26⟩, ⟨23, 27⟩, ⟨2, 4⟩, ⟨3, 5⟩, ⟨6, 8⟩, ⟨7, 9⟩, ⟨10, 12⟩, ⟨11, 13⟩, ⟨14, 16⟩, ⟨15, 17⟩, ⟨18, 20⟩, ⟨19, 21⟩, ⟨22, 24⟩, ⟨23, 25⟩, ⟨26, 28⟩, ⟨27, 29⟩, ⟨1, 2⟩, ⟨3, 4⟩, ⟨5, 6⟩, ⟨7, 8⟩, ⟨9, 10⟩, ⟨11, 12⟩, ⟨13, 14⟩, ⟨15, 16⟩, ⟨17, 18⟩, ⟨19, 20⟩, ⟨21, 22⟩, ⟨23, 24⟩, ⟨25, 26⟩, ⟨27, 28⟩, ⟨29, 30⟩]
def cutN (net : List S53) (n : Nat) : List S53 := net.filter (fun q => decide (q.f1 < (n : Int)))
def netL (n : Nat) : List S53 := if n ≤ 1 then [] else if n ≤ 2 then cutN net2 n else if n ≤ 4 then cutN net4 n else if n ≤ 8 then cutN net8 n else if n ≤ 16 then cutN net16 n else cutN net32 n
theorem net_some : ∀ m : Fin 33, ring_Pairs.f 3000 (m.val : Int) = some (netL m.val) := by decide +kernel
theorem net_ev {n : Nat} (h : n ≤ 32) : Ev (fun k => sorter_Network.f k (n : Int)) (netL n, 0) := by
  unfold sorter_Network.f
  exact Ev.neg (by omega) (Ev.neg (by omega) ((Ev.of (ring_Pairs.mono _) (net_some ⟨n, by omega⟩)).bind (Ev.now _)))
theorem net_bad {n : Nat} (h : ¬ n ≤ 32) : Ev (fun k => sorter_Network.f k (n : Int)) ([], 2) := by
  unfold sorter_Network.f
  exact Ev.neg (by omega) (Ev.pos (by omega) (Ev.now _))
theorem net_check : ∀ m : Fin 33, checkW (m.val : Int) (netL m.val) = 0 := by decide +kernel

/-! two halves, each with comparators of its own -/
def down (m : Nat) (q : S53) : S53 := ⟨q.f0 - m, q.f1 - m⟩
theorem getD_left (A B : List Bool) (i : Nat) (h : i < A.length) : (A ++ B).getD i false = A.getD i false := by
  simp only [List.getD_eq_getElem?_getD, List.getElem?_append_left h]
theorem getD_right (A B : List Bool) (i : Nat) (h : A.length ≤ i) : (A ++ B).getD i false = B.getD (i - A.length) false := by
  simp only [List.getD_eq_getElem?_getD, List.getElem?_append_right h]
theorem stepB_left (A B : List Bool) (q : S53) (h0 : q.f0.toNat < A.length) (h1 : q.f1.toNat < A.length) : stepB (A ++ B) q = stepB A q ++ B := by
  unfold stepB
  rw [getD_left _ _ _ h0, getD_left _ _ _ h1]
  split
  · rw [List.set_append_left _ _ h0, List.set_append_left _ _ (by simpa using h1)]
  · rfl
theorem stepB_right (A B : List Bool) (q : S53) (h0 : (A.length : Int) ≤ q.f0) (h1 : (A.length : Int) ≤ q.f1) : stepB (A ++ B) q = A ++ stepB B (down A.length q) := by
  unfold stepB down
  rw [getD_right _ _ _ (by omega), getD_right _ _ _ (by omega)]
  have e0 : (q.f0 - (A.length : Int)).toNat = q.f0.toNat - A.length := by omega
  have e1 : (q.f1 - (A.length : Int)).toNat = q.f1.toNat - A.length := by omega
  simp only [e0, e1]
  split
  · rw [List.set_append_right _ _ (by omega), List.set_append_right _ _ (by omega)]
  · rfl
theorem fold_halves (m : Nat) : ∀ (net : List S53) (A B : List Bool), A.length = m → (∀ q ∈ net, 0 ≤ q.f0 ∧ q.f0 < q.f1 ∧ (q.f1 < (m : Int) ∨ (m : Int) ≤ q.f0)) →
    net.foldl stepB (A ++ B) = (net.filter fun q => decide (q.f1 < (m : Int))).foldl stepB A ++ ((net.filter fun q => !decide (q.f1 < (m : Int))).map (down m)).foldl stepB B
  | [], _, _, _, _ => rfl
  | q :: net, A, B, hA, h => by
    obtain ⟨h0, h1, h2⟩ := h q (List.mem_cons_self ..)
    have ht := fun q' h' => h q' (List.mem_cons_of_mem _ h')
    rw [List.foldl_cons]
    by_cases hc : q.f1 < (m : Int)
    · rw [List.filter_cons_of_pos (by simpa using hc), List.filter_cons_of_neg (by simpa using hc), List.foldl_cons, stepB_left _ _ _ (by omega) (by omega)]
      exact fold_halves m net _ _ (by rw [stepB_length, hA]) ht
    · rw [List.filter_cons_of_neg (by simpa using hc), List.filter_cons_of_pos (by simpa using hc), List.map_cons, List.foldl_cons, stepB_right _ _ _ (by omega) (by omega), ← hA]
      have := fold_halves m net A (stepB B (down A.length q)) hA ht
      rw [← hA] at this
      exact this
/-- Ones behind the places change nothing. -/
theorem fold_pad (n : Nat) : ∀ (net : List S53) (A : List Bool) (r : Nat), A.length = n → (∀ q ∈ net, 0 ≤ q.f0 ∧ q.f0 < q.f1 ∧ q.f1 < (n + r : Nat)) →
    net.foldl stepB (A ++ List.replicate r true) = (net.filter fun q => decide (q.f1 < (n : Int))).foldl stepB A ++ List.replicate r true
  | [], _, _, _, _ => rfl
  | q :: net, A, r, hA, h => by
    obtain ⟨h0, h1, h2⟩ := h q (List.mem_cons_self ..)
    have ht := fun q' h' => h q' (List.mem_cons_of_mem _ h')
    rw [List.foldl_cons]
    by_cases hc : q.f1 < (n : Int)
    · rw [List.filter_cons_of_pos (by simpa using hc), List.foldl_cons, stepB_left _ _ _ (by omega) (by omega)]
      exact fold_pad n net _ r (by rw [stepB_length, hA]) ht
    · rw [List.filter_cons_of_neg (by simpa using hc)]
      have e : stepB (A ++ List.replicate r true) q = A ++ List.replicate r true := by
        unfold stepB
        rw [getD_right _ _ q.f1.toNat (by omega)]
        have : (List.replicate r true).getD (q.f1.toNat - A.length) false = true := by
          rw [List.getD_eq_getElem?_getD, List.getElem?_replicate, if_pos (by omega)]; rfl
        rw [this]
        simp
      rw [e]
      exact fold_pad n net A r hA ht
def Up (m a : Nat) : List Bool := List.replicate (m - a) false ++ List.replicate a true
theorem chk_true : ∀ (bs : List Bool), chk true bs = true → bs = List.replicate bs.length true := fun bs h =>
  List.eq_replicate_iff.2 ⟨rfl, chk_mem bs h⟩
theorem chk_up : ∀ (bs : List Bool), chk false bs = true → ∃ a, a ≤ bs.length ∧ bs = Up bs.length a
  | [], _ => ⟨0, Nat.le_refl _, rfl⟩
  | b :: bs, h => by
    unfold chk at h
    cases b with
    | false =>
      obtain ⟨a, ha, e⟩ := chk_up bs (by simpa using h)
      refine ⟨a, by simp; omega, ?_⟩
      unfold Up at e ⊢
      rw [List.length_cons, show bs.length + 1 - a = (bs.length - a) + 1 from by omega, List.replicate_succ, List.cons_append, ← e]
    | true =>
      refine ⟨bs.length + 1, Nat.le_refl _, ?_⟩
      unfold Up
      rw [List.length_cons, Nat.sub_self, List.replicate_zero, List.nil_append, List.replicate_succ, ← chk_true bs (by simpa using h)]
theorem chk_prefix : ∀ (A B : List Bool) (s : Bool), chk s (A ++ B) = true → chk s A = true
  | [], _, _, _ => by unfold chk; rfl
  | b :: A, B, s, h => by
    rw [List.cons_append, chk] at h
    rw [chk]
    by_cases hc : (s && !b) = true
    · rw [if_pos hc] at h; exact absurd h (by simp)
    · rw [if_neg hc] at h ⊢; exact chk_prefix A B _ h
def SortsAll (m : Nat) : Prop := ∀ bs : List Bool, bs.length = m → chk false ((netL m).foldl stepB bs) = true
def first (m : Nat) : List S53 := (netL (2 * m)).take (2 * (netL m).length)
def merge (m : Nat) : List S53 := (netL (2 * m)).drop (2 * (netL m).length)
def okFirst (m : Nat) : Bool := (first m).all (fun q => decide (0 ≤ q.f0 ∧ q.f0 < q.f1 ∧ (q.f1 < (m : Int) ∨ (m : Int) ≤ q.f0))) && decide ((first m).filter (fun q => decide (q.f1 < (m : Int))) = netL m) &&
  decide (((first m).filter fun q => !decide (q.f1 < (m : Int))).map (down m) = netL m)
def okMerge (m : Nat) : Bool := (List.range (m + 1)).all fun a => (List.range (m + 1)).all fun b => chk false ((merge m).foldl stepB (Up m a ++ Up m b))
theorem sorts_double {m : Nat} (h : SortsAll m) (h1 : okFirst m = true) (h2 : okMerge m = true) : SortsAll (2 * m) := by
  intro bs hb
  unfold okFirst at h1
  rw [Bool.and_eq_true, Bool.and_eq_true] at h1
  obtain ⟨⟨ha, hl⟩, hr⟩ := h1
  have ha' : ∀ q ∈ first m, 0 ≤ q.f0 ∧ q.f0 < q.f1 ∧ (q.f1 < (m : Int) ∨ (m : Int) ≤ q.f0) := fun q hq => of_decide_eq_true (List.all_eq_true.1 ha q hq)
  have e : netL (2 * m) = first m ++ merge m := (List.take_append_drop _ _).symm
  have l1 : (bs.take m).length = m := by rw [List.length_take]; omega
  have l2 : (bs.drop m).length = m := by rw [List.length_drop]; omega
  rw [e, List.foldl_append]
  have e2 := fold_halves m (first m) (bs.take m) (bs.drop m) l1 ha'
  rw [List.take_append_drop, of_decide_eq_true hl, of_decide_eq_true hr] at e2
  rw [e2]
  obtain ⟨a, a1, a2⟩ := chk_up _ (h _ l1)
  obtain ⟨b, b1, b2⟩ := chk_up _ (h _ l2)
  rw [foldB_length, l1] at a1 a2
  rw [foldB_length, l2] at b1 b2
  rw [a2, b2]
  exact List.all_eq_true.1 (List.all_eq_true.1 h2 a (List.mem_range.2 (by omega))) b (List.mem_range.2 (by omega))
theorem sorts1 : SortsAll 1 := by
  intro bs hb
  have : netL 1 = [] := by decide +kernel
  rw [this]
  match bs, hb with
  | [b], _ => cases b <;> rfl
theorem sorts2 : SortsAll 2 := sorts_double (m := 1) sorts1 (by decide +kernel) (by decide +kernel)
theorem sorts4 : SortsAll 4 := sorts_double (m := 2) sorts2 (by decide +kernel) (by decide +kernel)
theorem sorts8 : SortsAll 8 := sorts_double (m := 4) sorts4 (by decide +kernel) (by decide +kernel)
theorem sorts16 : SortsAll 16 := sorts_double (m := 8) sorts8 (by decide +kernel) (by decide +kernel)
theorem sorts32 : SortsAll 32 := sorts_double (m := 16) sorts16 (by decide +kernel) (by decide +kernel)
theorem sorts_cut {n m : Nat} (h : n ≤ m) (hm : m ≤ 32) (hs : SortsAll m) (e : netL n = cutN (netL m) n) : SortsAll n := by
  intro bs hb
  have hc := check_zero (net_check ⟨m, by omega⟩)
  have h1 := fold_pad n (netL m) bs (m - n) hb (fun q hq => by
    have := hc.2.2.2 q hq
    rw [show n + (m - n) = m from by omega]
    exact this)
  have h3 := hs (bs ++ List.replicate (m - n) true) (by simp; omega)
  rw [h1] at h3
  rw [e]
  exact chk_prefix _ _ _ h3
def upper (n : Nat) : Nat := if n ≤ 1 then 1 else if n ≤ 2 then 2 else if n ≤ 4 then 4 else if n ≤ 8 then 8 else if n ≤ 16 then 16 else 32
theorem net_upper : ∀ m : Fin 33, netL m.val = cutN (netL (upper m.val)) m.val := by decide +kernel
theorem sorts_upper (n : Nat) : SortsAll (upper n) := by
  unfold upper
  repeat' split
  · exact sorts1
  · exact sorts2
  · exact sorts4
  · exact sorts8
  · exact sorts16
  · exact sorts32
theorem sorts_all {n : Nat} (h : n ≤ 32) : SortsAll n :=
  sorts_cut (m := upper n) (by unfold upper; (repeat' split) <;> omega) (by unfold upper; (repeat' split) <;> omega) (sorts_upper n) (net_upper ⟨n, by omega⟩)
theorem Run_sorts {l : List Int} (h : l.length ≤ 32) : Asc ((netL l.length).foldl stepV l) :=
  zero_one (check_zero (net_check ⟨l.length, by omega⟩)).2.2.2 (sorts_all h) rfl
end Go.Proofs.Ytmgjohlaoflebaa.Sb
