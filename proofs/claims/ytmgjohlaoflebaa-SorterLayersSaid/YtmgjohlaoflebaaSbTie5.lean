/- Sorted: the ascending permutation; and the zero-one principle. -/
import Derived.Test.YtmgjohlaoflebaaSbTie3
import Derived.Test.YtmgjohlaoflebaaSbSorted
namespace Go.Proofs.Ytmgjohlaoflebaa.Sb
open Go.RowKit Go.Proofs.YtmgjohlaoflebaaW.PrintWords Go.Proofs.YtmgjohlaoflebaaW.PrintMore Go.Proofs.Ytmgjohlaoflebaa.Num Go.Proofs.Ytmgjohlaoflebaa.Arith
set_option linter.unusedVariables false
set_option linter.unusedSectionVars false

def Asc (l : List Int) : Prop := l.Pairwise (· ≤ ·)
theorem asc_get {l : List Int} (h : Asc l) {i j : Nat} (hij : i ≤ j) (hj : j < l.length) : l[i]'(by omega) ≤ l[j] := by
  rcases Nat.lt_or_eq_of_le hij with h1 | h1
  · exact List.pairwise_iff_getElem.1 h i j (by omega) hj h1
  · subst h1; exact Int.le_refl _
theorem asc_ins {A B : List Int} {a : Int} (h : Asc (A ++ B)) (hA : ∀ x ∈ A, x ≤ a) (hB : ∀ x ∈ B, a ≤ x) : Asc (A ++ a :: B) := by
  obtain ⟨h1, h2, h3⟩ := List.pairwise_append.1 h
  refine List.pairwise_append.2 ⟨h1, List.pairwise_cons.2 ⟨hB, h2⟩, fun x hx y hy => ?_⟩
  rcases List.mem_cons.1 hy with rfl | hy
  · exact hA x hx
  · exact h3 x hx y hy
theorem asc_unique {l m : List Int} (h : Asc l) (k : Asc m) (p : l.Perm m) : l = m :=
  List.Perm.eq_of_pairwise (le := (· ≤ ·)) (fun a b _ _ h1 h2 => Int.le_antisymm h1 h2) h k p
theorem ins_shift (A B : List Int) (a : Int) : (shiftR (A ++ B ++ [0]) A.length).set A.length a = A ++ a :: B := by
  unfold shiftR
  have e1 : (A ++ B ++ [0]).take (A.length + 1) = A ++ [(B ++ [0]).head (by simp)] := by
    rw [List.append_assoc, List.take_append]
    cases B <;> simp <;> exact List.take_of_length_le (by omega)
  have e2 : ((A ++ B ++ [0]).drop A.length).take ((A ++ B ++ [0]).length - (A.length + 1)) = B := by
    rw [List.append_assoc, List.drop_left]
    simp
    rw [show A.length + (B.length + 1) - (A.length + 1) = B.length from by omega]
    simp
  rw [e1, e2, List.append_assoc, List.set_append_right _ _ (Nat.le_refl _)]
  simp
theorem rd_eq {l : List Int} {i : Nat} (h : i < l.length) : rd l (i : Int) = l[i] := by
  show l.getD i 0 = _
  rw [List.getD_eq_getElem?_getD, List.getElem?_eq_getElem h]; rfl

section
variable {l out : List Int} {i : Nat} {a : Int} {P : List Int → Prop} (ho : out.length ≤ 64) (hs : Asc out)
  (next : ∀ out', Asc out' → out'.Perm (a :: out) → ∃ v, P v ∧ Ev (fun k => juntoref14_Sorted.l0 k out' l (l.length : Int) (wrap64 ((i : Int) + 1))) v)
include ho hs next
theorem sorted_stop {p : Nat} (hp : p ≤ out.length) (hB : ∀ j, p ≤ j → (h : j < out.length) → a ≤ out[j]) (hA : p = 0 ∨ rd out ((p - 1 : Nat) : Int) ≤ a) :
    ∃ v, P v ∧ Ev (fun k => if out.length < 17592186044416 then ((some (out ++ [0] : List Int)).bind fun y => (if 0 ≤ (p : Int) then (if (p : Int) < (y.length : Int) then (juntoref14_Sorted.l0 k ((shiftR y (p : Int).toNat).set (p : Int).toNat a) l (l.length : Int) (wrap64 ((i : Int) + 1))) else none) else none)) else none) v := by
  have e : (shiftR (out ++ [0]) p).set p a = out.take p ++ a :: out.drop p := by
    have := ins_shift (out.take p) (out.drop p) a
    rwa [List.take_append_drop, List.length_take, Nat.min_eq_left hp] at this
  have hasc : Asc (out.take p ++ a :: out.drop p) := by
    refine asc_ins (by rw [List.take_append_drop]; exact hs) (fun x hx => ?_) (fun x hx => ?_)
    · obtain ⟨j, hj, rfl⟩ := List.mem_iff_getElem.1 hx
      rw [List.length_take] at hj
      rw [List.getElem_take]
      rcases hA with h0 | h1
      · omega
      · rw [rd_eq (by omega)] at h1
        exact Int.le_trans (asc_get hs (by omega) (by omega)) h1
    · obtain ⟨j, hj, rfl⟩ := List.mem_iff_getElem.1 hx
      rw [List.length_drop] at hj
      rw [List.getElem_drop]
      exact hB _ (by omega) (by omega)
  have hperm : (out.take p ++ a :: out.drop p).Perm (a :: out) := by
    have := List.perm_middle (a := a) (l₁ := out.take p) (l₂ := out.drop p)
    rwa [List.take_append_drop] at this
  obtain ⟨v, hv, hE⟩ := next _ hasc hperm
  refine ⟨v, hv, Ev.pos (by omega) (Ev.bind0 rfl (Ev.pos (Int.natCast_nonneg p) (Ev.pos (by rw [List.length_append]; simp; omega) ?_)))⟩
  show Ev (fun k => juntoref14_Sorted.l0 k ((shiftR (out ++ [0]) p).set p a) l (l.length : Int) (wrap64 ((i : Int) + 1))) v
  rw [e]
  exact hE
theorem sorted_l1 : ∀ (p : Nat), p ≤ out.length → (∀ j, p ≤ j → (h : j < out.length) → a ≤ out[j]) → ∃ v, P v ∧ Ev (fun k => juntoref14_Sorted.l1 k out a (p : Int) l (l.length : Int) (i : Int)) v
  | 0, hp, hB => by
    obtain ⟨v, hv, hE⟩ := sorted_stop ho hs next hp hB (.inl rfl)
    refine ⟨v, hv, Ev.step (fun k => by simp only [juntoref14_Sorted.l1]; rfl) ?_⟩
    exact Ev.neg (by decide) hE
  | p + 1, hp, hB => by
    have w : wrap64 (((p + 1 : Nat) : Int) - 1) = (p : Int) := by rw [w64_in (by omega) (by omega)]; omega
    by_cases hc : rd out (p : Int) > a
    · obtain ⟨v, hv, hE⟩ := sorted_l1 p (by omega) (fun j hj h => by
        rcases Nat.lt_or_eq_of_le hj with h1 | h1
        · exact hB j h1 h
        · subst h1; rw [rd_eq h] at hc; exact Int.le_of_lt hc)
      refine ⟨v, hv, Ev.step (fun k => by simp only [juntoref14_Sorted.l1]; rfl) ?_⟩
      rw [w]
      exact Ev.pos (by omega) (Ev.pos (Int.natCast_nonneg p) (Ev.pos (by omega) (Ev.pos hc hE)))
    · obtain ⟨v, hv, hE⟩ := sorted_stop ho hs next hp hB (.inr (by rw [Nat.add_sub_cancel]; omega))
      refine ⟨v, hv, Ev.step (fun k => by simp only [juntoref14_Sorted.l1]; rfl) ?_⟩
      rw [w]
      exact Ev.pos (by omega) (Ev.pos (Int.natCast_nonneg p) (Ev.pos (by omega) (Ev.neg hc hE)))
end
theorem sorted_l0 {l : List Int} (hl : l.length ≤ 64) : ∀ (d i : Nat) (out : List Int), l.length - i = d → i ≤ l.length → out.length = i → Asc out →
    ∃ v, (Asc v ∧ v.Perm (out ++ l.drop i)) ∧ Ev (fun k => juntoref14_Sorted.l0 k out l (l.length : Int) (i : Int)) v := by
  intro d
  induction d with
  | zero =>
    intro i out hd hi ho hs
    obtain rfl : i = l.length := by omega
    refine ⟨out, ⟨hs, by simp⟩, Ev.step (fun k => by simp only [juntoref14_Sorted.l0]; rfl) ?_⟩
    exact Ev.neg (by omega) (Ev.now _)
  | succ d ih =>
    intro i out hd hi ho hs
    have hlt : i < l.length := by omega
    have w : wrap64 ((i : Int) + 1) = ((i + 1 : Nat) : Int) := by rw [w64_in (by omega) (by omega)]; rfl
    obtain ⟨v, hv, hE⟩ := sorted_l1 (l := l) (out := out) (i := i) (a := l[i]) (P := fun v => Asc v ∧ v.Perm (out ++ l.drop i)) (by omega) hs (fun out' h1 h2 => by
      rw [w]
      obtain ⟨v, ⟨h3, h4⟩, hE⟩ := ih (i + 1) out' (by omega) (by omega) (by rw [h2.length_eq, List.length_cons, ho]) h1
      refine ⟨v, ⟨h3, h4.trans ?_⟩, hE⟩
      rw [List.drop_eq_getElem_cons hlt]
      exact (h2.append_right _).trans List.perm_middle.symm) out.length (Nat.le_refl _) (fun j h1 h2 => absurd h2 (by omega))
    refine ⟨v, hv, Ev.step (fun k => by simp only [juntoref14_Sorted.l0]; rfl) ?_⟩
    rw [rd_eq hlt]
    exact Ev.pos (Int.ofNat_lt.2 hlt) (Ev.pos (Int.natCast_nonneg i) (Ev.pos (Int.ofNat_lt.2 hlt) hE))
theorem Sorted_ev (l m : List Int) (hl : l.length ≤ 64) (hm : Asc m) (hp : m.Perm l) : Ev (fun k => juntoref14_Sorted.f k l) m := by
  obtain ⟨v, ⟨h1, h2⟩, hE⟩ := sorted_l0 hl l.length 0 [] rfl (Nat.zero_le _) rfl List.Pairwise.nil
  have : v = m := asc_unique h1 hm (h2.trans (by simpa using hp.symm))
  rw [← this]
  exact hE

/-! the zero-one principle -/
def stepV (l : List Int) (q : S53) : List Int := if rd l q.f0 > rd l q.f1 then (l.set q.f0.toNat (rd l q.f1)).set q.f1.toNat (rd l q.f0) else l
theorem stepR_fst (s : List Int × List Int) (q : S53) : (stepR s q).1 = stepV s.1 q := by
  unfold stepR stepV; split <;> rfl
theorem foldR_fst : ∀ (net : List S53) (s : List Int × List Int), (net.foldl stepR s).1 = net.foldl stepV s.1
  | [], _ => rfl
  | q :: net, s => by rw [List.foldl_cons, List.foldl_cons, foldR_fst net, stepR_fst]
theorem stepV_length (l : List Int) (q : S53) : (stepV l q).length = l.length := by unfold stepV; split <;> simp
theorem foldV_length : ∀ (net : List S53) (l : List Int), (net.foldl stepV l).length = l.length
  | [], _ => rfl
  | q :: net, l => by rw [List.foldl_cons, foldV_length net, stepV_length]
def Within (n : Nat) (q : S53) : Prop := 0 ≤ q.f0 ∧ q.f0 < q.f1 ∧ q.f1 < n
theorem within_nat {n : Nat} {q : S53} (h : Within n q) : ∃ i j : Nat, i < j ∧ j < n ∧ q.f0 = (i : Int) ∧ q.f1 = (j : Int) :=
  ⟨q.f0.toNat, q.f1.toNat, by unfold Within at h; omega, by unfold Within at h; omega, by unfold Within at h; omega, by unfold Within at h; omega⟩
theorem swap_perm (l : List Int) (i j : Nat) (hij : i < j) (hj : j < l.length) : ((l.set i l[j]).set j (l[i]'(by omega))).Perm l := by
  rw [List.perm_iff_count]
  intro b
  rw [List.count_set (by simpa using hj), List.count_set (by omega), List.getElem_set_ne (by omega)]
  have h1 : (if l[i]'(by omega) == b then 1 else 0) + (if l[j] == b then 1 else 0) ≤ List.count b l ∨ True := .inr trivial
  have c1 : (if (l[i]'(by omega) == b) = true then 1 else 0) ≤ List.count b l := List.boole_getElem_le_count (by omega)
  have c2 : (if (l[j] == b) = true then 1 else 0) ≤ List.count b l := List.boole_getElem_le_count hj
  by_cases e1 : (l[i]'(by omega) == b) = true <;> by_cases e2 : (l[j] == b) = true <;> simp only [e1, e2, if_true, if_false, Bool.false_eq_true] at c1 c2 ⊢ <;> omega
theorem stepV_perm {l : List Int} {q : S53} (h : Within l.length q) : (stepV l q).Perm l := by
  obtain ⟨i, j, hij, hj, e0, e1⟩ := within_nat h
  unfold stepV
  rw [e0, e1, rd_eq (show i < l.length by omega), rd_eq hj]
  split
  · exact swap_perm l i j hij hj
  · exact .refl _
theorem foldV_perm : ∀ (net : List S53) (l : List Int), (∀ q ∈ net, Within l.length q) → (net.foldl stepV l).Perm l
  | [], _, _ => .refl _
  | q :: net, l, h => by
    rw [List.foldl_cons]
    refine (foldV_perm net (stepV l q) (fun q' h' => ?_)).trans (stepV_perm (h q (List.mem_cons_self ..)))
    rw [stepV_length]
    exact h q' (List.mem_cons_of_mem _ h')
def Th (t : Int) (l : List Int) : List Bool := l.map fun x => decide (x > t)
theorem Th_get {t : Int} {l : List Int} {i : Nat} (h : i < l.length) : (Th t l).getD i false = decide (l[i] > t) := by
  rw [List.getD_eq_getElem?_getD, Th, List.getElem?_map, List.getElem?_eq_getElem h]; rfl
theorem set_self (bs : List Bool) (i : Nat) (b : Bool) (h : i < bs.length) (e : bs.getD i false = b) : bs.set i b = bs := by
  rw [List.getD_eq_getElem?_getD, List.getElem?_eq_getElem h] at e
  subst e
  exact List.set_getElem_self h
theorem Th_step {t : Int} {l : List Int} {q : S53} (h : Within l.length q) : Th t (stepV l q) = stepB (Th t l) q := by
  obtain ⟨i, j, hij, hj, e0, e1⟩ := within_nat h
  have hi : i < l.length := by omega
  have hlen : (Th t l).length = l.length := by simp [Th]
  unfold stepV stepB
  rw [e0, e1, rd_eq hi, rd_eq hj, Int.toNat_natCast, Int.toNat_natCast, Th_get hi, Th_get hj]
  by_cases hc : l[i] > l[j]
  · rw [if_pos hc]
    have em : Th t ((l.set i l[j]).set j l[i]) = ((Th t l).set i (decide (l[j] > t))).set j (decide (l[i] > t)) := by simp [Th, List.map_set]
    rw [em]
    by_cases h1 : l[i] > t <;> by_cases h2 : l[j] > t
    · rw [decide_eq_true h1, decide_eq_true h2]
      rw [set_self (Th t l) i true (by omega) (by rw [Th_get hi, decide_eq_true h1]), set_self (Th t l) j true (by omega) (by rw [Th_get hj, decide_eq_true h2])]
      rfl
    · rw [decide_eq_true h1, decide_eq_false h2]; rfl
    · omega
    · rw [decide_eq_false h1, decide_eq_false h2]
      rw [set_self (Th t l) i false (by omega) (by rw [Th_get hi, decide_eq_false h1]), set_self (Th t l) j false (by omega) (by rw [Th_get hj, decide_eq_false h2])]
      rfl
  · rw [if_neg hc]
    by_cases h1 : l[i] > t <;> by_cases h2 : l[j] > t
    · rw [decide_eq_true h1, decide_eq_true h2]; rfl
    · omega
    · rw [decide_eq_false h1]; rfl
    · rw [decide_eq_false h1]; rfl
theorem Th_fold {t : Int} : ∀ (net : List S53) (l : List Int), (∀ q ∈ net, Within l.length q) → Th t (net.foldl stepV l) = net.foldl stepB (Th t l)
  | [], _, _ => rfl
  | q :: net, l, h => by
    rw [List.foldl_cons, List.foldl_cons, ← Th_step (h q (List.mem_cons_self ..))]
    exact Th_fold net _ (fun q' h' => by rw [stepV_length]; exact h q' (List.mem_cons_of_mem _ h'))
theorem chk_mem : ∀ (bs : List Bool), chk true bs = true → ∀ b ∈ bs, b = true
  | [], _, _, h => absurd h List.not_mem_nil
  | b :: bs, h, x, hx => by
    unfold chk at h
    cases b with
    | false => simp at h
    | true =>
      rcases List.mem_cons.1 hx with rfl | hx
      · rfl
      · exact chk_mem bs (by simpa using h) x hx
theorem chk_pair : ∀ (bs : List Bool), chk false bs = true → bs.Pairwise (fun a b => a = true → b = true)
  | [], _ => .nil
  | b :: bs, h => by
    unfold chk at h
    cases b with
    | false => exact List.pairwise_cons.2 ⟨fun _ _ h1 => absurd h1 (by simp), chk_pair bs (by simpa using h)⟩
    | true =>
      have h' : chk true bs = true := by simpa using h
      refine List.pairwise_cons.2 ⟨fun x hx _ => chk_mem bs h' x hx, ?_⟩
      refine List.pairwise_iff_getElem.2 fun i j hi hj hij _ => chk_mem bs h' _ (List.getElem_mem hj)
/-- A network that sorts all lists of bits sorts every list. -/
theorem zero_one {n : Nat} {net : List S53} (hw : ∀ q ∈ net, Within n q) (hg : ∀ bs : List Bool, bs.length = n → chk false (net.foldl stepB bs) = true) {l : List Int} (hl : l.length = n) : Asc (net.foldl stepV l) := by
  subst hl
  refine List.pairwise_iff_getElem.2 fun i j hi hj hij => ?_
  have h := chk_pair _ (hg (Th (net.foldl stepV l)[j] l) (by simp [Th]))
  rw [← Th_fold net l hw] at h
  have h2 := List.pairwise_iff_getElem.1 h i j (by simpa [Th] using hi) (by simpa [Th] using hj) hij
  simp [Th] at h2
  omega
theorem bitsOf_val : ∀ bs : List Bool, bitsOf bs.length (val bs) = bs
  | [] => rfl
  | b :: bs => by
    have ih := bitsOf_val bs
    rw [List.length_cons, bitsOf, val]
    have h2 : (b.toNat + 2 * val bs) / 2 = val bs := by cases b <;> simp <;> omega
    rw [h2, ih]
    cases b <;> simp <;> omega
theorem all_good {n : Nat} {net : List S53} (h : allGood n net = true) (bs : List Bool) (hb : bs.length = n) : chk false (net.foldl stepB bs) = true := by
  unfold allGood at h
  have h2 := List.all_eq_true.1 h (val bs) (by rw [List.mem_range']; exact ⟨val bs, by have := val_lt bs; rw [hb] at this; exact this, by omega⟩)
  unfold good at h2
  rwa [← hb, bitsOf_val] at h2
theorem Run_okV {net : List S53} {l : List Int} (h : checkW (l.length : Int) net = 0) : Ev (fun k => sorter_Run.f k net l) (net.foldl stepV l, 0) := by
  have := Run_ok h
  have e : (net.foldl stepI (items l)).map (·.f0) = net.foldl stepV l := by
    have h1 := fold_same net (items l)
    rw [items0, items1] at h1
    rw [← foldR_fst net (l, iota l.length), h1]
  rwa [e] at this
end Go.Proofs.Ytmgjohlaoflebaa.Sb
