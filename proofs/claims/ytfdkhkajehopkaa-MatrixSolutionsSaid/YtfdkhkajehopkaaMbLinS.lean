/- Solutions of linear equations, in plain lists. -/
import Derived.Test.YtfdkhkajehopkaaMbTieN
namespace Go.Proofs.Ytfdkhkajehopkaa.Mb
open Go.RowKit Go.Proofs.YtfdkhkajehopkaaW.PrintWords Go.Proofs.YtfdkhkajehopkaaW.PrintLast Go.Proofs.YtfdkhkajehopkaaW.PrintMore
open Go.Proofs.Ytfdkhkajehopkaa.Num Go.Proofs.Ytfdkhkajehopkaa.Arith
set_option linter.unusedVariables false
theorem asc_inj {lead : List Nat} (asc : lead.Pairwise (· < ·)) {i j : Nat} (hi : i < lead.length) (hj : j < lead.length) (h : lead.getD i 0 = lead.getD j 0) : i = j := by
 have up : ∀ a b, a < b → b < lead.length → lead.getD a 0 < lead.getD b 0 := fun a b hab hb => by
  have := List.pairwise_iff_getElem.1 asc a b (by omega) hb hab
  rwa [List.getD_eq_getElem?_getD, List.getElem?_eq_getElem (by omega), List.getD_eq_getElem?_getD, List.getElem?_eq_getElem hb]
 rcases Nat.lt_trichotomy i j with h1 | h1 | h1
 ·have := up i j h1 hj; omega
 ·exact h1
 ·have := up j i h1 hi; omega
theorem mem_idx {lead : List Nat} {k : Nat} (h : k ∈ lead) : ∃ i, i < lead.length ∧ lead.getD i 0 = k := by
 obtain ⟨i, hi, he⟩ := List.mem_iff_getElem.1 h
 exact ⟨i, hi, by rw [List.getD_eq_getElem?_getD, List.getElem?_eq_getElem hi]; exact he⟩
theorem cast_at (r : List Nat) (i : Nat) : (Arith.cast r).getD i 0 = ((r.getD i 0 : Nat) : Int) := getD_map r (fun (n : Nat) => (n : Int)) i 0
theorem ansL_ok {n : Nat} {lead : List Nat} (asc : lead.Pairwise (· < ·)) (cols : ∀ x ∈ lead, x < n) : ∀ (rows : List (List Nat)) (i : Nat) (x : List Nat), x.length = n → (∀ j, j < rows.length → lead.length ≤ i + j → ent rows j n = 0) →
  ∃ y : List Nat, ansL n (Arith.cast lead) (cM rows) i (Arith.cast x) = some (Arith.cast y, true) ∧ y.length = n ∧ (∀ k, (∀ j, j < rows.length → i + j < lead.length → lead.getD (i + j) 0 ≠ k) → y.getD k 0 = x.getD k 0) ∧ (∀ j, j < rows.length → i + j < lead.length → y.getD (lead.getD (i + j) 0) 0 = ent rows j n)
 | [], i, x, hx, _ => ⟨x, rfl, hx, fun _ _ => rfl, fun j hj => by simp at hj⟩
 | r :: rs, i, x, hx, hz => by
  have hz' : ∀ j, j < rs.length → lead.length ≤ (i + 1) + j → ent rs j n = 0 := fun j hj h => hz (j + 1) (by simpa using hj) (by omega)
  show ∃ y : List Nat, ansL n (Arith.cast lead) (Arith.cast r :: cM rs) i (Arith.cast x) = _ ∧ _
  rw [ansL, cast_len, cast_at, cast_at, Int.toNat_natCast]
  by_cases hi : i < lead.length
  ·have hl : lead.getD i 0 < n := cols _ (getD_mem hi)
   obtain ⟨y, h1, h2, h3, h4⟩ := ansL_ok asc cols rs (i + 1) (x.set (lead.getD i 0) (r.getD n 0)) (by rw [List.length_set]; exact hx) hz'
   refine ⟨y, by rw [if_pos hi, cast_set, h1], h2, fun k hk => ?_, fun j hj hij => ?_⟩
   ·rw [h3 k (fun j hj hij => by have := hk (j + 1) (by simpa using hj) (by omega); rwa [show i + (j + 1) = i + 1 + j by omega] at this)]
    have := hk 0 (by simp) (by omega)
    rw [getD_set, if_neg (fun c => this c.1)]
   ·cases j with
    | zero =>
     rw [Nat.add_zero, h3 _ (fun j hj hij he => by have := asc_inj asc hij hi he; omega), getD_set, if_pos ⟨rfl, by omega⟩]
     rfl
    | succ j =>
     have := h4 j (by simpa using hj) (by omega)
     rw [show i + (j + 1) = i + 1 + j by omega, this]
     rfl
  ·have h0 : r.getD n 0 = 0 := hz 0 (by simp) (by omega)
   obtain ⟨y, h1, h2, h3, h4⟩ := ansL_ok asc cols rs (i + 1) x hx hz'
   refine ⟨y, by rw [if_neg hi, h0, if_pos (show ((0 : Nat) : Int) = 0 from rfl), h1], h2, fun k hk => ?_, fun j hj hij => by omega⟩
   exact h3 k (fun j hj hij => by have := hk (j + 1) (by simpa using hj) (by omega); rwa [show i + (j + 1) = i + 1 + j by omega] at this)
/-! ### sums -/
def sumF (f : Nat → Int) : List Nat → Int
 | [] => 0
 | k :: l => f k + sumF f l
theorem sumF_append (f : Nat → Int) : ∀ a b, sumF f (a ++ b) = sumF f a + sumF f b
 | [], b => by simp [sumF]
 | k :: a, b => by rw [List.cons_append, sumF, sumF, sumF_append f a b]; omega
theorem sumF_filter (f : Nat → Int) (q : Nat → Bool) : ∀ l, sumF f l = sumF f (l.filter q) + sumF f (l.filter fun k => !q k)
 | [] => rfl
 | k :: l => by
  have ih := sumF_filter f q l
  rw [sumF, ih]
  cases h : q k
  ·rw [List.filter_cons_of_neg (by simp [h]), List.filter_cons_of_pos (by simp [h]), sumF]; omega
  ·rw [List.filter_cons_of_pos h, List.filter_cons_of_neg (by simp [h]), sumF]; omega
theorem sumF_zero {f : Nat → Int} : ∀ {l : List Nat}, (∀ k ∈ l, f k = 0) → sumF f l = 0
 | [], _ => rfl
 | k :: l, h => by rw [sumF, h k List.mem_cons_self, sumF_zero (fun k hk => h k (List.mem_cons_of_mem _ hk))]; rfl
theorem sumF_single {f : Nat → Int} {k0 : Nat} : ∀ {l : List Nat}, l.Nodup → k0 ∈ l → (∀ k ∈ l, k ≠ k0 → f k = 0) → sumF f l = f k0
 | [], _, h, _ => by cases h
 | k :: l, hn, hm, hz => by
  rw [List.nodup_cons] at hn
  rw [sumF]
  rcases List.mem_cons.1 hm with rfl | hm
  ·rw [sumF_zero (fun k hk => hz k (List.mem_cons_of_mem _ hk) (fun e => hn.1 (e ▸ hk)))]; omega
  ·rw [hz k List.mem_cons_self (fun e => hn.1 (e ▸ hm)), sumF_single hn.2 hm (fun k hk => hz k (List.mem_cons_of_mem _ hk))]; omega
theorem sumF_congr {f g : Nat → Int} : ∀ {l : List Nat}, (∀ k ∈ l, f k = g k) → sumF f l = sumF g l
 | [], _ => rfl
 | k :: l, h => by rw [sumF, sumF, h k List.mem_cons_self, sumF_congr (fun k hk => h k (List.mem_cons_of_mem _ hk))]
theorem sumF_shift (f : Nat → Int) : ∀ n, sumF f (List.range (n + 1)) = f 0 + sumF (fun k => f (k + 1)) (List.range n) := fun n => by
 have : ∀ l : List Nat, sumF f (l.map (· + 1)) = sumF (fun k => f (k + 1)) l := by
  intro l
  induction l with
  | nil => rfl
  | cons k l ih => rw [List.map_cons, sumF, sumF, ih]
 rw [List.range_succ_eq_map, sumF]
 congr 1
 exact this _
theorem dI_sumF : ∀ (n : Nat) (r : List Nat) (z : List Int), r.length = n → z.length = n → dI r z = sumF (fun k => (r.getD k 0 : Nat) * z.getD k 0) (List.range n)
 | 0, [], z, _, _ => by cases z <;> rfl
 | 0, _ :: _, _, h, _ => by simp at h
 | n + 1, [], _, h, _ => by simp at h
 | n + 1, _ :: _, [], _, h => by simp at h
 | n + 1, a :: r, y :: z, h1, h2 => by
  rw [sumF_shift, dI, dI_sumF n r z (by simpa using h1) (by simpa using h2)]
  rfl
/-- A reduced row against a vector: its pivot's place and the free ones. -/
theorem row_sum {n : Nat} {lead : List Nat} {r : List Nat} {x : List Nat} {i : Nat} (hr : r.length = n) (hx : x.length = n) (asc : lead.Pairwise (· < ·)) (cols : ∀ k ∈ lead, k < n) (hi : i < lead.length) (hone : ∀ j, j < lead.length → r.getD (lead.getD j 0) 0 = if i = j then 1 else 0) :
  dI r (cz x) = (x.getD (lead.getD i 0) 0 : Nat) + sumF (fun k => ((r.getD k 0 : Nat) : Int) * ((x.getD k 0 : Nat) : Int)) (freeN n lead) := by
 rw [dI_sumF n r (cz x) hr (by rw [cz_len, hx]), sumF_filter _ (fun k => decide (k ∈ lead))]
 have e1 : (List.range n).filter (fun k => !decide (k ∈ lead)) = freeN n lead := by
  unfold freeN
  congr 1
  funext k
  simp
 rw [e1]
 congr 1
 ·rw [sumF_single (k0 := lead.getD i 0)]
  ·rw [hone i hi, if_pos rfl, cz_at]; simp
  ·exact List.Pairwise.filter _ List.nodup_range
  ·rw [List.mem_filter]
   exact ⟨List.mem_range.2 (cols _ (getD_mem hi)), decide_eq_true (getD_mem hi)⟩
  ·intro k hk hne
   rw [List.mem_filter, decide_eq_true_iff] at hk
   obtain ⟨j, hj, rfl⟩ := mem_idx hk.2
   rw [hone j hj, if_neg (fun e => hne (by rw [e]))]
   simp
 ·refine sumF_congr fun k _ => ?_
  rw [cz_at]
theorem split_last {r : List Nat} {n : Nat} (h : r.length = n + 1) : r = r.take n ++ [r.getD n 0] := by
 conv => lhs; rw [← List.take_append_drop n r]
 congr 1
 rw [List.drop_eq_getElem_cons (by omega), List.drop_eq_nil_of_le (by omega), List.getD_eq_getElem?_getD, List.getElem?_eq_getElem (by omega)]; rfl
theorem dI_last {r : List Nat} {n : Nat} (h : r.length = n + 1) {x : List Nat} (hx : x.length = n) : dI r (cz x ++ [-1]) = dI (r.take n) (cz x) - (r.getD n 0 : Nat) := by
 conv => lhs; rw [split_last h]
 rw [dI_append _ _ _ _ (by rw [List.length_take, h, cz_len, hx]; omega)]
 simp only [dI]
 omega
theorem beside_kills {p n : Nat} {m : List (List Nat)} (h : MatP p n m) (h0 : 0 < p) {v : List Nat} (hv : v.length = m.length) (hvs : ∀ t ∈ v, t < p) {x : List Nat} (hx : x.length = n) : Kills p (besideN m (colN v)) (cz x ++ [-1]) ↔ applyN p m x = v := by
 have hw : (colN v).length = m.length := by rw [colN_len, hv]
 have row : ∀ i, i < m.length → dI ((besideN m (colN v)).getD i []) (cz x ++ [-1]) = dI (m.getD i []) (cz x) - (v.getD i 0 : Nat) := fun i hi => by
  rw [besideN_row hw hi, dI_append _ _ _ _ (by rw [(h.row hi).1, cz_len, hx])]
  have : (colN v).getD i [] = [v.getD i 0] := by
   unfold colN
   rw [List.getD_eq_getElem?_getD, List.getElem?_map, List.getD_eq_getElem?_getD, List.getElem?_eq_getElem (by omega)]; rfl
  rw [this]
  simp only [dI]
  omega
 have ap : ∀ i, i < m.length → (applyN p m x).getD i 0 = dot p (m.getD i []) x := fun i hi => by
  unfold applyN
  rw [List.getD_eq_getElem?_getD, List.getElem?_map, List.getD_eq_getElem?_getD, List.getElem?_eq_getElem hi]; rfl
 constructor
 ·intro hk
  refine ext_getD (by rw [applyN_len, hv]) fun i hi => ?_
  rw [applyN_len] at hi
  have h1 := hk i (by rw [besideN_length hw]; exact hi)
  rw [row i hi] at h1
  rw [ap i hi]
  refine Cg.eq (dot_lt h0 _ _) (hvs _ (getD_mem (by omega))) ((dot_cg p _ _).trans ?_)
  have := h1.add (Cg.refl (p := p) (((v.getD i 0 : Nat)) : Int))
  exact Cg.trans (Cg.of (by omega)) (this.trans (Cg.of (by omega)))
 ·intro he i hi
  rw [besideN_length hw] at hi
  rw [row i hi, ← he, ap i hi]
  exact ((Cg.refl _).sub (dot_cg p _ _)).trans (Cg.of (by omega))
/-- The solution of m x = v that the solvers tell. -/
theorem sol_spec {p n : Nat} {m : List (List Nat)} (G : Good p m n) {x : List Nat} (hx : x.length = n) (hxs : ∀ t ∈ x, t < p) : ∃ y : List Nat, solN p n m (applyN p m x) = some (Arith.cast y, true) ∧ y.length = n ∧ (∀ k, k < n → y.getD k 0 < p) ∧ applyN p m y = applyN p m x ∧
  (∀ k, k ∉ leadN p n m → y.getD k 0 = 0) ∧ (∀ i, i < (leadN p n m).length → Cg p ((x.getD ((leadN p n m).getD i 0) 0 : Nat) + sumF (fun k => ((ent (rowsN p n m) i k : Nat) : Int) * ((x.getD k 0 : Nat) : Int)) (freeN n (leadN p n m))) (y.getD ((leadN p n m).getD i 0) 0 : Nat)) := by
 have hP := G.prime
 have h0 := G.p0
 have hvl : (applyN p m x).length = m.length := applyN_len p m x
 have hvs : ∀ t ∈ applyN p m x, t < p := by
  intro t ht
  obtain ⟨r, _, rfl⟩ := List.mem_map.1 ht
  exact dot_lt h0 _ _
 have hw : (colN (applyN p m x)).length = m.length := by rw [colN_len, hvl]
 have hM := besideN_mat G.mat (colN_mat hvs)
 have hinv := redN_inv hP n 0 _ 1 [] (RInv.start hM) (by omega)
 have hk := fun z => redN_kills hP z n 0 _ 1 [] hM (by omega)
 have hrb := red_beside (p := p) G.mat hw
 rw [Nat.zero_add, besideN_length hw] at hinv
 have eL : leadN p n m = (redN p n 0 (besideN m (colN (applyN p m x))) 1 []).2.2 := by unfold leadN; rw [hrb]
 have eR : rowsN p n m = tk n (redN p n 0 (besideN m (colN (applyN p m x))) 1 []).1 := by unfold rowsN; rw [hrb]
 unfold solN
 generalize redN p n 0 (besideN m (colN (applyN p m x))) 1 [] = R at *
 obtain ⟨hR, hRl⟩ := hinv
 rw [eL, eR]
 have rowl : ∀ r, r < R.1.length → (R.1.getD r []).length = n + 1 := fun r hr => (hR.mat.row hr).1
 have one : ∀ i, i < R.2.2.length → ∀ j, j < R.2.2.length → ((R.1.getD i []).take n).getD (R.2.2.getD j 0) 0 = if i = j then 1 else 0 := fun i hi j hj => by
  rw [take_at (hR.colAt hj)]
  exact hR.one j hj i (by have := hR.few; omega)
 have zeros : ∀ r, R.2.2.length ≤ r → r < R.1.length → (R.1.getD r []).take n = List.replicate n 0 := fun r h1 h2 => by
  refine ext_getD (by rw [List.length_take, rowl r h2, List.length_replicate]; omega) fun j hj => ?_
  rw [List.length_take, rowl r h2] at hj
  rw [take_at (by omega), show (R.1.getD r []).getD j 0 = 0 from hR.zero r h1 h2 j (by omega), List.getD_eq_getElem?_getD, List.getElem?_replicate, if_pos (by omega)]; rfl
 have kx := (hk (cz x ++ [-1])).2 ((beside_kills G.mat h0 hvl hvs hx).2 rfl)
 have last0 : ∀ r, R.2.2.length ≤ r → r < R.1.length → ent R.1 r n = 0 := fun r h1 h2 => by
  have h3 := kx r h2
  rw [dI_last (rowl r h2) hx, zeros r h1 h2, dI_zeros] at h3
  refine Cg.nat_zero (hR.mat.at_ h2 (by omega)) ?_
  exact Cg.trans (Cg.of (by show ((ent R.1 r n : Nat) : Int) = - (0 - ((R.1.getD r []).getD n 0 : Nat)); unfold ent; omega)) (h3.neg.trans (Cg.of (by omega)))
 obtain ⟨y, a1, a2, a3, a4⟩ := ansL_ok hR.asc hR.cols R.1 0 (List.replicate n 0) (by simp) (fun j hj hl => last0 j (by omega) hj)
 have rep : Arith.cast (List.replicate n 0) = List.replicate n (0 : Int) := by simp
 rw [rep] at a1
 have yl : ∀ i, i < R.2.2.length → y.getD (R.2.2.getD i 0) 0 = ent R.1 i n := fun i hi => by
  have := a4 i (by have := hR.few; omega) (by omega)
  rwa [Nat.zero_add] at this
 have y0 : ∀ k, k ∉ R.2.2 → y.getD k 0 = 0 := fun k hk => by
  rw [a3 k (fun j hj hij he => hk (by rw [← he, Nat.zero_add]; exact getD_mem (by omega)))]
  rw [List.getD_eq_getElem?_getD, List.getElem?_replicate]
  split <;> rfl
 have ys : ∀ k, k < n → y.getD k 0 < p := fun k hk => by
  by_cases hm : k ∈ R.2.2
  ·obtain ⟨i, hi, rfl⟩ := mem_idx hm
   rw [yl i hi]
   exact hR.mat.at_ (by have := hR.few; omega) (by omega)
  ·rw [y0 k hm]; exact h0
 have ky : Kills p R.1 (cz y ++ [-1]) := fun r hr => by
  rw [dI_last (rowl r hr) a2]
  by_cases hl : r < R.2.2.length
  ·rw [row_sum (n := n) (i := r) (by rw [List.length_take, rowl r hr]; omega) a2 hR.asc hR.cols hl (one r hl), yl r hl, sumF_zero]
   ·exact Cg.of (by unfold ent; omega)
   ·intro k hk
    rw [y0 k (freeN_mem.1 hk).2]; simp
  ·rw [zeros r (by omega) hr, dI_zeros]
   have := last0 r (by omega) hr
   unfold ent at this
   rw [this]
   exact Cg.of (by omega)
 refine ⟨y, a1, a2, ys, (beside_kills G.mat h0 hvl hvs a2).1 ((hk _).1 ky), y0, fun i hi => ?_⟩
 have h3 := kx i (by have := hR.few; omega)
 have hil : i < R.1.length := by have := hR.few; omega
 rw [dI_last (rowl i hil) hx, row_sum (n := n) (i := i) (by rw [List.length_take, rowl i hil]; omega) hx hR.asc hR.cols hi (one i hi)] at h3
 rw [yl i hi]
 have e : sumF (fun k => ((ent (tk n R.1) i k : Nat) : Int) * ((x.getD k 0 : Nat) : Int)) (freeN n R.2.2) = sumF (fun k => ((((R.1.getD i []).take n).getD k 0 : Nat) : Int) * ((x.getD k 0 : Nat) : Int)) (freeN n R.2.2) := by
  refine sumF_congr fun k _ => ?_
  unfold ent
  rw [tk_get]
 rw [e]
 have h4 := h3.add (Cg.refl (p := p) (((ent R.1 i n : Nat)) : Int))
 exact Cg.trans (Cg.of (by unfold ent; omega)) (h4.trans (Cg.of (by omega)))
/-! ### adding up the null space's vectors -/
theorem nullSet_at (p : Nat) (R : List (List Nat)) (c : Nat) : ∀ (ls : List Nat) (i : Nat) (x : List Nat), ls.Nodup → (∀ k ∈ ls, k < x.length) → (∀ k, k ∉ ls → (nullSet p R c i ls x).getD k 0 = x.getD k 0) ∧ (∀ j, j < ls.length → (nullSet p R c i ls x).getD (ls.getD j 0) 0 = (0 + (p - ent R (i + j) c)) % p)
 | [], i, x, _, _ => ⟨fun _ _ => rfl, fun j hj => by simp at hj⟩
 | l :: ls, i, x, hn, hx => by
  rw [List.nodup_cons] at hn
  obtain ⟨h1, h2⟩ := nullSet_at p R c ls (i + 1) (x.set l ((0 + (p - ent R i c)) % p)) hn.2 (fun k hk => by rw [List.length_set]; exact hx k (List.mem_cons_of_mem _ hk))
  constructor
  ·intro k hk
   rw [nullSet, h1 k (fun h => hk (List.mem_cons_of_mem _ h)), getD_set, if_neg (fun c => hk (by rw [c.1]; exact List.mem_cons_self))]
  ·intro j hj
   cases j with
   | zero =>
    show (nullSet p R c i (l :: ls) x).getD l 0 = _
    rw [nullSet, h1 l hn.1, getD_set, if_pos ⟨rfl, hx l List.mem_cons_self⟩]; rfl
   | succ j =>
    have := h2 j (by simpa using hj)
    rw [show i + 1 + j = i + (j + 1) by omega] at this
    exact this
theorem asc_nodup {lead : List Nat} (asc : lead.Pairwise (· < ·)) : lead.Nodup := asc.imp fun h => Nat.ne_of_lt h
theorem nullVec_lead {p n : Nat} {R : List (List Nat)} {lead : List Nat} (asc : lead.Pairwise (· < ·)) (cols : ∀ x ∈ lead, x < n) (c i : Nat) (hi : i < lead.length) : (nullVec p n R lead c).getD (lead.getD i 0) 0 = (0 + (p - ent R i c)) % p := by
 have := (nullSet_at p R c lead 0 ((List.replicate n 0).set c 1) (asc_nodup asc) (fun k hk => by simp; exact cols k hk)).2 i hi
 rw [show (0 : Nat) + i = i from Nat.zero_add i] at this
 exact this
theorem nullVec_free {p n : Nat} {R : List (List Nat)} {lead : List Nat} (asc : lead.Pairwise (· < ·)) (cols : ∀ x ∈ lead, x < n) {c k : Nat} (hc : c < n) (hk : k ∉ lead) : (nullVec p n R lead c).getD k 0 = if c = k then 1 else 0 := by
 have := (nullSet_at p R c lead 0 ((List.replicate n 0).set c 1) (asc_nodup asc) (fun k hk => by simp; exact cols k hk)).1 k hk
 unfold nullVec
 rw [this, getD_set, List.length_replicate, List.getD_eq_getElem?_getD, List.getElem?_replicate]
 by_cases e : c = k
 ·rw [if_pos ⟨e, hc⟩, if_pos e]
 ·rw [if_neg (fun h => e h.1), if_neg e]; split <;> rfl
def addY (p xk : Nat) (y nv : List Nat) : List Nat := List.zipWith (fun a b => (a + xk * b % p) % p) y nv
theorem addY_at {p xk : Nat} : ∀ {y nv : List Nat}, y.length = nv.length → ∀ j, j < y.length → (addY p xk y nv).getD j 0 = (y.getD j 0 + xk * nv.getD j 0 % p) % p
 | [], [], _, j, hj => by simp at hj
 | [], _ :: _, h, _, _ => by simp at h
 | _ :: _, [], h, _, _ => by simp at h
 | a :: y, b :: nv, h, 0, _ => rfl
 | a :: y, b :: nv, h, j + 1, hj => addY_at (y := y) (nv := nv) (by simpa using h) j (by simpa using hj)
theorem addY_len {p xk : Nat} {y nv : List Nat} (h : y.length = nv.length) : (addY p xk y nv).length = y.length := by simp [addY, h]
/-- What holds behind the first t free columns. -/
structure Sum (p n : Nat) (R : List (List Nat)) (lead x y : List Nat) (t : Nat) (z : List Nat) : Prop where
 len : z.length = n
 small : ∀ k, k < n → z.getD k 0 < p
 free : ∀ k, k < n → k ∉ lead → z.getD k 0 = if k ∈ (freeN n lead).take t then x.getD k 0 else 0
 pivot : ∀ i, i < lead.length → Cg p (z.getD (lead.getD i 0) 0 : Nat) ((y.getD (lead.getD i 0) 0 : Nat) - sumF (fun k => ((ent R i k : Nat) : Int) * ((x.getD k 0 : Nat) : Int)) ((freeN n lead).take t))
theorem freeN_nodup (n : Nat) (lead : List Nat) : (freeN n lead).Nodup := List.Pairwise.filter _ List.nodup_range
theorem Sum.next {p n : Nat} {R : List (List Nat)} {lead x y z : List Nat} {t : Nat} (h0 : 0 < p) (asc : lead.Pairwise (· < ·)) (cols : ∀ k ∈ lead, k < n) (hxs : ∀ k, k < n → x.getD k 0 < p) (hR : ∀ i, i < lead.length → ∀ k, k < n → ent R i k < p) (h : Sum p n R lead x y t z) (ht : t < (freeN n lead).length) :
  z.getD (freeN n lead)[t] 0 = 0 ∧ Sum p n R lead x y (t + 1) (addY p (x.getD (freeN n lead)[t] 0) z (nullVec p n R lead (freeN n lead)[t])) := by
 obtain ⟨hk1, hk2⟩ := freeN_mem.1 (List.getElem_mem ht)
 have hnt : (freeN n lead)[t] ∉ (freeN n lead).take t := by
  intro hm
  obtain ⟨i, hi, he⟩ := List.mem_iff_getElem.1 hm
  rw [List.length_take] at hi
  rw [List.getElem_take] at he
  have := (List.nodup_iff_pairwise_ne.1 (freeN_nodup n lead))
  have := List.pairwise_iff_getElem.1 this i t (by omega) ht (by omega)
  exact this he
 have hts : (freeN n lead).take (t + 1) = (freeN n lead).take t ++ [(freeN n lead)[t]] := List.take_succ_eq_append_getElem ht
 generalize hkk : (freeN n lead)[t] = kk at *
 have hvl := nullVec_len p n R lead kk
 have hl : z.length = (nullVec p n R lead kk).length := by rw [h.len, hvl]
 have z0 : z.getD kk 0 = 0 := by rw [h.free kk hk1 hk2, if_neg hnt]
 refine ⟨z0, ⟨by rw [addY_len hl, h.len], fun k hk => ?_, fun k hk hkl => ?_, fun i hi => ?_⟩⟩
 ·rw [addY_at hl k (by rw [h.len]; exact hk)]; exact Nat.mod_lt _ h0
 ·rw [addY_at hl k (by rw [h.len]; exact hk), nullVec_free asc cols hk1 hkl, hts]
  by_cases e : kk = k
  ·subst e
   rw [if_pos rfl, z0, Nat.mul_one, Nat.zero_add, Nat.mod_mod, Nat.mod_eq_of_lt (hxs kk hk1), if_pos (by simp)]
  ·rw [if_neg e, Nat.mul_zero, Nat.zero_mod, Nat.add_zero, Nat.mod_eq_of_lt (h.small k hk), h.free k hk hkl]
   by_cases e2 : k ∈ (freeN n lead).take t
   ·rw [if_pos e2, if_pos (by simp [e2])]
   ·rw [if_neg e2, if_neg (by simp [e2]; exact fun h => e h.symm)]
 ·have hc := cols _ (getD_mem (d := 0) hi)
  rw [addY_at hl _ (by rw [h.len]; exact hc), nullVec_lead asc cols kk i hi, hts, sumF_append]
  refine (Cg.mod p _).trans ?_
  push_cast
  have h1 := h.pivot i hi
  have h2 := Cg.mod p (x.getD kk 0 * ((0 + (p - ent R i kk)) % p))
  have h3 := Cg.mod p (0 + (p - ent R i kk))
  have hb := hR i hi kk hk1
  have h4 : Cg p (((0 + (p - ent R i kk) : Nat)) : Int) (-((ent R i kk : Nat) : Int)) := ⟨1, by omega⟩
  have h5 : Cg p ((x.getD kk 0 * ((0 + (p - ent R i kk)) % p) % p : Nat) : Int) (((x.getD kk 0 : Nat) : Int) * (-((ent R i kk : Nat) : Int))) := by
   refine h2.trans ?_
   push_cast
   exact (Cg.refl _).mul (Cg.trans (by push_cast at h3; exact h3) (by push_cast at h4; exact h4))
  have h6 := h1.add h5
  push_cast at h6
  refine h6.trans (Cg.of ?_)
  simp only [sumF]
  grind
/-- In the end all of x is there. -/
theorem Sum.done {p n : Nat} {R : List (List Nat)} {lead x y z : List Nat} (cols : ∀ k ∈ lead, k < n) (hx : x.length = n) (hxs : ∀ k, k < n → x.getD k 0 < p) (hy : ∀ i, i < lead.length → Cg p ((x.getD (lead.getD i 0) 0 : Nat) + sumF (fun k => ((ent R i k : Nat) : Int) * ((x.getD k 0 : Nat) : Int)) (freeN n lead)) (y.getD (lead.getD i 0) 0 : Nat))
  (h : Sum p n R lead x y (freeN n lead).length z) : z = x := by
 refine ext_getD (by rw [h.len, hx]) fun k hk => ?_
 rw [h.len] at hk
 by_cases hm : k ∈ lead
 ·obtain ⟨i, hi, rfl⟩ := mem_idx hm
  refine Cg.eq (h.small _ hk) (hxs _ hk) ((h.pivot i hi).trans ?_)
  rw [List.take_length]
  exact ((hy i hi).symm.sub (Cg.refl _)).trans (Cg.of (by omega))
 ·rw [h.free k hk hm, List.take_length, if_pos (freeN_mem.2 ⟨hk, hm⟩)]
end Go.Proofs.Ytfdkhkajehopkaa.Mb
