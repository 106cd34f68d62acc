/- Products, the identity, inverses and powers of the reference, in plain lists. -/
import Derived.Test.YtfdkhkajehopkaaMbLinM
import Derived.Test.YtfdkhkajehopkaaMbFRef3Column
import Derived.Test.YtfdkhkajehopkaaMbFRef3Mul
import Derived.Test.YtfdkhkajehopkaaMbFRef3One
import Derived.Test.YtfdkhkajehopkaaMb0
import Derived.Test.YtfdkhkajehopkaaMbG2
import Derived.Test.YtfdkhkajehopkaaMbRefReduce
namespace Go.Proofs.Ytfdkhkajehopkaa.Mb
open Go.RowKit Go.Proofs.YtfdkhkajehopkaaW.PrintWords Go.Proofs.YtfdkhkajehopkaaW.PrintLast Go.Proofs.YtfdkhkajehopkaaW.PrintMore
open Go.Proofs.Ytfdkhkajehopkaa.Num Go.Proofs.Ytfdkhkajehopkaa.Arith
set_option linter.unusedVariables false
theorem column_l0 (b : List (List Nat)) (c : Nat) (hb : b.length ≤ 4096) (hc : ∀ r ∈ b, c < r.length) : ∀ (d i : Nat), b.length - i = d → i ≤ b.length → Ev (fun k => juntoref03_column.l0 k (c : Int) ((Arith.cast (colAt b c)).take i) (cM b) (b.length : Int) (i : Int)) (Arith.cast (colAt b c)) := by
 have hL : (Arith.cast (colAt b c)).length = b.length := by rw [cast_len, colAt_len]
 intro d
 induction d with
 | zero =>
  intro i hd hi
  refine Ev.step (fun k => juntoref03_column.l0.eq_2 _ _ _ _ _ k) (Ev.neg (by omega) ?_)
  rw [List.take_of_length_le (by omega)]
  exact Ev.now _
 | succ d ih =>
  intro i hd hi
  have hil : i < b.length := by omega
  have hcl := hc _ (List.getElem_mem hil)
  refine Ev.step (fun k => juntoref03_column.l0.eq_2 _ _ _ _ _ k) (Ev.pos (by omega) (Ev.pos (by omega) (Ev.pos (by rw [cM_len]; omega) (Ev.pos (by omega) ?_))))
  rw [cM_row, gdN hil, cast_len]
  refine Ev.pos (by omega) (Ev.pos (by rw [List.length_take]; omega) ?_)
  rw [cast_rd _ c hcl, w64_in (by omega) (by omega)]
  have e : (Arith.cast (colAt b c)).take i ++ [((b[i][c] : Nat) : Int)] = (Arith.cast (colAt b c)).take (i + 1) := by
   rw [List.take_succ_eq_append_getElem (by omega)]
   congr 1
   simp [colAt, List.getD_eq_getElem?_getD, List.getElem?_eq_getElem hcl]
  rw [e]
  exact ih (i + 1) (by omega) (by omega)
theorem column_ev (b : List (List Nat)) (c : Nat) (hb : b.length ≤ 4096) (hc : ∀ r ∈ b, c < r.length) : Ev (fun k => juntoref03_column.f k (cM b) (c : Int)) (Arith.cast (colAt b c)) := by
 unfold juntoref03_column.f
 rw [cM_len]
 have h := column_l0 b c hb hc b.length 0 (by omega) (by omega)
 rw [List.take_zero] at h
 exact h
theorem colAt_small {p : Nat} {b : List (List Nat)} {w c : Nat} (h : MatP p w b) (hc : c < w) : ∀ x ∈ colAt b c, x < p := by
 intro x hx
 obtain ⟨r, hr, rfl⟩ := List.mem_map.1 hx
 exact h.small r hr _ (getD_mem (by rw [h.wide r hr]; exact hc))
section
variable {p n w : Nat} {a b : List (List Nat)}
theorem refMul_l1 (h0 : 0 < p) (hp : p ≤ 65537) (Ma : MatP p n a) (Mb : MatP p w b) (hn : b.length = n) (h1 : 1 ≤ n) (hn4 : n ≤ 4096) (hw4 : w ≤ 4096) (ha4 : a.length ≤ 4096) {i : Nat} (hi : i < a.length) (acc res : List (List Int)) (hacc : acc.length = i)
  (H : Ev (fun k => juntoref03_Mul.l0 k (p : Int) (cM b) (acc ++ [Arith.cast (rmul p w b a[i])]) (cM a) (a.length : Int) ((i + 1 : Nat) : Int)) res) : ∀ (d j : Nat), w - j = d → j ≤ w →
  Ev (fun k => juntoref03_Mul.l1 k (p : Int) (cM b) acc (Arith.cast a[i]) ((Arith.cast (rmul p w b a[i])).take j) (cM a) (a.length : Int) (i : Int) (w : Int) (j : Int)) res := by
 have hL : (Arith.cast (rmul p w b a[i])).length = w := by rw [cast_len, rmul_len]
 intro d
 induction d with
 | zero =>
  intro j hd hj
  refine Ev.step (fun k => juntoref03_Mul.l1.eq_2 _ _ _ _ _ _ _ _ _ _ k) (Ev.neg (by omega) (Ev.pos (by omega) ?_))
  rw [List.take_of_length_le (by omega), w64_in (by omega) (by omega)]
  exact H
 | succ d ih =>
  intro j hd hj
  have hjw : j < w := by omega
  refine Ev.step (fun k => juntoref03_Mul.l1.eq_2 _ _ _ _ _ _ _ _ _ _ k) (Ev.pos (by omega) ?_)
  refine (column_ev b j (by omega) (fun r hr => by rw [Mb.wide r hr]; exact hjw)).bind ?_
  have hai := Ma.wide _ (List.getElem_mem hi)
  refine (refDot_ev h0 hp a[i] (colAt b j) (by rw [hai, colAt_len, hn]) (by omega) (Ma.small _ (List.getElem_mem hi)) (colAt_small Mb hjw)).bind ?_
  refine Ev.pos (by rw [List.length_take]; omega) ?_
  rw [w64_in (by omega) (by omega)]
  have e : (Arith.cast (rmul p w b a[i])).take j ++ [((dot p a[i] (colAt b j) : Nat) : Int)] = (Arith.cast (rmul p w b a[i])).take (j + 1) := by
   rw [List.take_succ_eq_append_getElem (by omega)]
   congr 1
   simp [rmul]
  rw [e]
  exact ih (j + 1) (by omega) (by omega)
theorem refMul_l0 (h0 : 0 < p) (hp : p ≤ 65537) (Ma : MatP p n a) (Mb : MatP p w b) (hn : b.length = n) (h1 : 1 ≤ n) (hn4 : n ≤ 4096) (hw4 : w ≤ 4096) (ha4 : a.length ≤ 4096) : ∀ (d i : Nat), a.length - i = d → i ≤ a.length →
  Ev (fun k => juntoref03_Mul.l0 k (p : Int) (cM b) ((cM (mulN p w a b)).take i) (cM a) (a.length : Int) (i : Int)) (cM (mulN p w a b)) := by
 have hL : (cM (mulN p w a b)).length = a.length := by rw [cM_len, mulN_len]
 intro d
 induction d with
 | zero =>
  intro i hd hi
  refine Ev.step (fun k => juntoref03_Mul.l0.eq_2 _ _ _ _ _ _ k) (Ev.neg (by omega) ?_)
  rw [List.take_of_length_le (by omega)]
  exact Ev.now _
 | succ d ih =>
  intro i hd hi
  have hil : i < a.length := by omega
  refine Ev.step (fun k => juntoref03_Mul.l0.eq_2 _ _ _ _ _ _ k) (Ev.pos (by omega) (Ev.pos (by omega) (Ev.pos (by rw [cM_len]; omega) (Ev.pos (by rw [cM_len]; omega) ?_))))
  rw [cM_row, gdN hil, cM_row0, cast_len, (Mb.row (i := 0) (by omega)).1]
  have h := ih (i + 1) (by omega) (by omega)
  have e : (cM (mulN p w a b)).take (i + 1) = (cM (mulN p w a b)).take i ++ [Arith.cast (rmul p w b a[i])] := by
   rw [List.take_succ_eq_append_getElem (by omega)]
   congr 1
   simp [mulN]
  rw [e] at h
  have h2 := refMul_l1 h0 hp Ma Mb hn h1 hn4 hw4 ha4 hil _ _ (by rw [List.length_take]; omega) h w 0 (by omega) (by omega)
  rw [List.take_zero] at h2
  exact h2
theorem refMul_ev (h0 : 0 < p) (hp : p ≤ 65537) (Ma : MatP p n a) (Mb : MatP p w b) (hn : b.length = n) (h1 : 1 ≤ n) (hn4 : n ≤ 4096) (hw4 : w ≤ 4096) (ha4 : a.length ≤ 4096) : Ev (fun k => juntoref03_Mul.f k (p : Int) (cM a) (cM b)) (cM (mulN p w a b)) := by
 unfold juntoref03_Mul.f
 rw [cM_len]
 have h := refMul_l0 h0 hp Ma Mb hn h1 hn4 hw4 ha4 a.length 0 (by omega) (by omega)
 rw [List.take_zero] at h
 exact h
end
/-! ### the identity -/
theorem one_l0 (n : Nat) (hn : n ≤ 4096) : ∀ (d i : Nat), n - i = d → i ≤ n → Ev (fun k => juntoref03_One.l0 k (n : Int) ((cM (identN n)).take i) (n : Int) (i : Int)) (cM (identN n)) := by
 have hL : (cM (identN n)).length = n := by rw [cM_len, identN_len]
 intro d
 induction d with
 | zero =>
  intro i hd hi
  refine Ev.step (fun k => juntoref03_One.l0.eq_2 _ _ _ _ k) (Ev.neg (by omega) ?_)
  rw [List.take_of_length_le (by omega)]
  exact Ev.now _
 | succ d ih =>
  intro i hd hi
  refine Ev.step (fun k => juntoref03_One.l0.eq_2 _ _ _ _ k) (Ev.pos (by omega) (Ev.pos (by omega) (Ev.pos (by omega) (Ev.bind0 rfl ?_))))
  rw [Int.toNat_natCast, Int.toNat_natCast]
  refine Ev.pos (by omega) (Ev.pos (by rw [List.length_replicate]; omega) (Ev.pos (by rw [List.length_take]; omega) ?_))
  rw [w64_in (by omega) (by omega)]
  have e : (cM (identN n)).take i ++ [(List.replicate n (0 : Int)).set i 1] = (cM (identN n)).take (i + 1) := by
   rw [List.take_succ_eq_append_getElem (by omega)]
   congr 2
   refine List.ext_getElem (by simp [identN, unitN]) fun j h1 h2 => ?_
   simp only [List.getElem_set, List.getElem_replicate, List.getElem_map, identN, unitN, List.getElem_range]
   by_cases e : i = j
   ·rw [if_pos e, if_pos e.symm]; rfl
   ·rw [if_neg e, if_neg (Ne.symm e)]; rfl
  rw [e]
  exact ih (i + 1) (by omega) (by omega)
theorem one_ev (n : Nat) (hn : n ≤ 4096) : Ev (fun k => juntoref03_One.f k (n : Int)) (cM (identN n)) := by
 unfold juntoref03_One.f
 have h := one_l0 n hn n 0 (by omega) (by omega)
 rw [List.take_zero] at h
 exact h
/-! ### the inverse -/
end Go.Proofs.Ytfdkhkajehopkaa.Mb
