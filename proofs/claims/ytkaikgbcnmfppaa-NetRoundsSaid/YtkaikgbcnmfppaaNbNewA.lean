/- A function of the program, with its walk: j1S. (Made by this session's own program out of what the kit's print wrote; no text of the print.) What Take, Read and Same come to, in plain lists. copy(w.Tapes, tapes): rows of payloads copied to the head of a row just made. -/
import Derived.Test.YtkaikgbcnmfppaaNb0
import Derived.Test.YtkaikgbcnmfppaaNbTie
import Derived.Test.YtkaikgbcnmfppaaNbFNetRead
import Derived.Test.YtkaikgbcnmfppaaNbExch
import Derived.Laws.CopyOwn
namespace Go.Proofs.Ytkaikgbcnmfppaa.Nb
open Go.RowKit Go.Proofs.YtkaikgbcnmfppaaW.PrintWords Go.Proofs.YtkaikgbcnmfppaaW.PrintLast Go.Proofs.YtkaikgbcnmfppaaW.PrintMore
attribute [local go_sem] max2_int min2_int max_two min_two max_three min_three max_four min_four   -- for this text's walks alone
set_option linter.unusedVariables false
set_option linter.unusedSimpArgs false

noncomputable section
/-! ### j1S: function 28 -/
def j1S.l0 : Nat → List Int → List Int → Int → Int → Option (Bool)
 | 0, _, _, _, _ => none
 | k + 1, x0, x1, x12, x13 => if x13 < x12 then (if 0 ≤ x13 then (if x13 < (x0.length : Int) then (if x13 < (x1.length : Int) then (if (rd x0 x13) = (rd x1 x13) then (j1S.l0 k x0 x1 x12 (wrap64 (x13 + 1))) else (some false)) else (none)) else (none)) else (none)) else (some true)
def j1S.f (k : Nat) (l0 : List Int) (l1 : List Int) : Option (Bool) := if (l0.length : Int) = (l1.length : Int) then (j1S.l0 k l0 l1 (l0.length : Int) 0) else (some false)
set_option maxHeartbeats 8000000 in
set_option maxRecDepth 100000 in
theorem j1S.calls (k : Nat) (A0 : Option Addr) (c0 : Nat) (l0 : List Int) (A1 : Option Addr) (c1 : Nat) (l1 : List Int) (r : Bool) (w : World) (hr0 : Kd.C (Kd.int .u64) w A0 l0.length l0) (hc0 : l0.length ≤ c0) (hr1 : Kd.C (Kd.int .u64) w A1 l1.length l1) (hc1 : l1.length ≤ c1) (h : j1S.f k l0 l1 = some r) :
  Calls Try.prog 28 #[.slice A0 l0.length c0, .slice A1 l1.length c1] w fun e w' => e = .returned (.bool r) ∧ Drawn0 w w' := by
 have HR0 := Qz.mk hr0
 have HC0 := Qz.mk hc0
 clear hr0 hc0
 have HR1 := Qz.mk hr1
 have HC1 := Qz.mk hc1
 clear hr1 hc1
 have H : (if (l0.length : Int) = (l1.length : Int) then (j1S.l0 k l0 l1 (l0.length : Int) 0) else (some false)) = some r := h
 clear h
 by_cases c3 : (l0.length : Int) = (l1.length : Int)
 ·rw [if_pos c3] at H
  have c3b0 : ((l0.length : Int) == (l1.length : Int)) = true := beq_iff_eq.mpr c3
  have c3b1 : ((l0.length : Int) != (l1.length : Int)) = false := bne_eq_false_iff_eq.mpr c3
  have c3b2 : (l0.length == l1.length) = true := by first | simpa using c3 | (simp at c3 ⊢; omega)
  clear c3
  have H' := Qz.mk H
  clear H
  go_enter Try.func28, Try.ntmps28
  go_wp2
  repeat (go_quiet (fail); try go_wp2)
  go_loopg [13] k (fun kq v13 w' => ∃ (x13_1 : Int), v13 = .int .i64 x13_1 ∧ Qz (j1S.l0 kq l0 l1 (l0.length : Int) x13_1 = some r) ∧ Qz (kq ≤ k) ∧ Drawn0 w w')
  case atStart => exact ⟨(0), (by first | rfl | (simp; done) | (simp [*]; done)), H', ⟨Nat.le_refl _⟩, by repeat (first | exact Drawn0.refl _ | apply Drawn0.step)⟩
  case round =>
   clear H'
   try clear c1
   try clear c2
   try clear p2
   try clear c3
   try clear c3b0
   try clear c3b1
   try clear c3b2
   obtain ⟨x13_1, rfl, HA, HK1, ⟨m1, rfl⟩⟩ := hrel
   cases gk with
   | zero => exact absurd HA.out (by simp [j1S.l0])
   | succ k1 =>
    have H := HA.out
    clear HA
    simp only [j1S.l0] at H
    by_cases c4 : x13_1 < (l0.length : Int)
    ·rw [if_pos c4] at H
     have c4b0 : decide (x13_1 < (l0.length : Int)) = true := decide_eq_true c4
     clear c4
     by_cases c5 : 0 ≤ x13_1
     ·rw [if_pos c5] at H
      have c5b0 : decide (0 ≤ x13_1) = true := decide_eq_true c5
      clear c5
      by_cases c6 : x13_1 < (l0.length : Int)
      ·rw [if_pos c6] at H
       have c6b0 : decide (x13_1 < (l0.length : Int)) = true := decide_eq_true c6
       clear c6
       by_cases c7 : x13_1 < (l1.length : Int)
       ·rw [if_pos c7] at H
        have c7b0 : decide (x13_1 < (l1.length : Int)) = true := decide_eq_true c7
        clear c7
        by_cases c8 : (rd l0 x13_1) = (rd l1 x13_1)
        ·rw [if_pos c8] at H
         have c8b0 : ((rd l0 x13_1) == (rd l1 x13_1)) = true := beq_iff_eq.mpr c8
         have c8b1 : ((rd l0 x13_1) != (rd l1 x13_1)) = false := bne_eq_false_iff_eq.mpr c8
         clear c8
         have H' := Qz.mk H
         clear H
         have p124 : 0 ≤ (x13_1 : Int) := of_decide_eq_true (by first | (with_reducible assumption) | assumption)
         have q124 : x13_1 < (l0.length : Int) := of_decide_eq_true (by first | (with_reducible assumption) | assumption)
         obtain ⟨ad124, e124, hx124_0⟩ := Kd.at_int HR0.out x13_1 p124 q124
         cases e124
         replace p124 := eq_true p124
         replace q124 := eq_true q124
         have p125 : 0 ≤ (x13_1 : Int) := of_decide_eq_true (by first | (with_reducible assumption) | assumption)
         have q125 : x13_1 < (l1.length : Int) := of_decide_eq_true (by first | (with_reducible assumption) | assumption)
         obtain ⟨ad125, e125, hx125_0⟩ := Kd.at_int HR1.out x13_1 p125 q125
         cases e125
         replace p125 := eq_true p125
         replace q125 := eq_true q125
         go_wp2
         repeat (go_quiet (fail); try go_wp2)
         go_roundg k1
         case measure => have := HK1.out; omega
         case rel => exact ⟨(wrap64 (x13_1 + 1)), (by first | rfl | (simp; done) | (simp [*]; done)), H', ⟨by have := HK1.out; omega⟩, by repeat (first | exact Drawn0.refl _ | apply Drawn0.step)⟩
        ·rw [if_neg c8] at H
         have c8b0 : ((rd l0 x13_1) == (rd l1 x13_1)) = false := beq_eq_false_iff_ne.mpr c8
         have c8b1 : ((rd l0 x13_1) != (rd l1 x13_1)) = true := bne_iff_ne.mpr c8
         obtain rfl := Option.some.inj H
         have p124 : 0 ≤ (x13_1 : Int) := of_decide_eq_true (by first | (with_reducible assumption) | assumption)
         have q124 : x13_1 < (l0.length : Int) := of_decide_eq_true (by first | (with_reducible assumption) | assumption)
         obtain ⟨ad124, e124, hx124_0⟩ := Kd.at_int HR0.out x13_1 p124 q124
         cases e124
         replace p124 := eq_true p124
         replace q124 := eq_true q124
         have p125 : 0 ≤ (x13_1 : Int) := of_decide_eq_true (by first | (with_reducible assumption) | assumption)
         have q125 : x13_1 < (l1.length : Int) := of_decide_eq_true (by first | (with_reducible assumption) | assumption)
         obtain ⟨ad125, e125, hx125_0⟩ := Kd.at_int HR1.out x13_1 p125 q125
         cases e125
         replace p125 := eq_true p125
         replace q125 := eq_true q125
         go_wp2
         repeat (go_quiet (fail); try go_wp2)
         go_ret
         exact ⟨by first | rfl | (simp; done) | (simp [*]; done), by repeat (first | exact Drawn0.refl _ | apply Drawn0.step)⟩
       ·rw [if_neg c7] at H
        exact absurd H (by simp)
      ·rw [if_neg c6] at H
       exact absurd H (by simp)
     ·rw [if_neg c5] at H
      exact absurd H (by simp)
    ·rw [if_neg c4] at H
     have c4b0 : decide (x13_1 < (l0.length : Int)) = false := decide_eq_false c4
     clear c4
     obtain rfl := Option.some.inj H
     go_wp2
     repeat (go_quiet (fail); try go_wp2)
     go_ret
     exact ⟨by first | rfl | (simp; done) | (simp [*]; done), by repeat (first | exact Drawn0.refl _ | apply Drawn0.step)⟩
 ·rw [if_neg c3] at H
  have c3b0 : ((l0.length : Int) == (l1.length : Int)) = false := beq_eq_false_iff_ne.mpr c3
  have c3b1 : ((l0.length : Int) != (l1.length : Int)) = true := bne_iff_ne.mpr c3
  have c3b2 : (l0.length == l1.length) = false := by first | simpa using c3 | (simp at c3 ⊢; omega)
  obtain rfl := Option.some.inj H
  go_enter Try.func28, Try.ntmps28
  go_wp2
  repeat (go_quiet (fail); try go_wp2)
  go_ret
  exact ⟨by first | rfl | (simp; done) | (simp [*]; done), by repeat (first | exact Drawn0.refl _ | apply Drawn0.step)⟩

end
end Go.Proofs.Ytkaikgbcnmfppaa.Nb
namespace Go.Proofs.Ytkaikgbcnmfppaa.Nb
open Go Go.RowKit Go.Proofs.YtkaikgbcnmfppaaW.PrintWords Go.Proofs.YtkaikgbcnmfppaaW.PrintLast Go.Proofs.YtkaikgbcnmfppaaW.PrintMore
open Go.Proofs.Ytkaikgbcnmfppaa.Num Go.Proofs.Ytkaikgbcnmfppaa.Arith
set_option linter.unusedVariables false
set_option linter.unusedSimpArgs false
def val (p : Nat) (xs : List Nat) (j : Nat) : Int := ((xs.getD j 0 % p : Nat) : Int)
/-! ### Same -/
theorem same_l0 (xs ys : List Int) (he : xs.length = ys.length) (hl : xs.length < 9223372036854775807) : ∀ (d i k : Nat), xs.length - i = d → d < k →
  j1S.l0 k xs ys (xs.length : Int) (i : Int) = some (decide (xs.drop i = ys.drop i)) := by
 intro d
 induction d with
 | zero =>
  intro i k hd hk
  obtain ⟨k, rfl⟩ : ∃ m, k = m + 1 := ⟨k - 1, by omega⟩
  simp only [j1S.l0]
  rw [if_neg (by omega), List.drop_eq_nil_of_le (by omega), List.drop_eq_nil_of_le (by omega)]
  simp
 | succ d ih =>
  intro i k hd hk
  obtain ⟨k, rfl⟩ : ∃ m, k = m + 1 := ⟨k - 1, by omega⟩
  have hi : i < xs.length := by omega
  have hi' : i < ys.length := by omega
  simp only [j1S.l0]
  rw [if_pos (by omega), if_pos (by omega), if_pos (by omega), if_pos (by omega), rd_nat xs i hi, rd_nat ys i hi', w64_in (by omega) (by omega)]
  rw [List.drop_eq_getElem_cons hi, List.drop_eq_getElem_cons hi']
  by_cases hx : xs[i] = ys[i]
  ·rw [if_pos hx]
   simp only [List.cons.injEq, hx, true_and]
   exact ih (i + 1) k (by omega) (by omega)
  ·rw [if_neg hx]
   simp only [List.cons.injEq, hx, false_and, decide_false]
end Go.Proofs.Ytkaikgbcnmfppaa.Nb
namespace Go.Proofs.Ytkaikgbcnmfppaa.Nb
open Go Go.RowKit Go.Proofs.YtkaikgbcnmfppaaW.PrintWords Go.Proofs.YtkaikgbcnmfppaaW.PrintLast Go.Proofs.YtkaikgbcnmfppaaW.PrintMore
set_option linter.unusedVariables false
set_option linter.unusedSimpArgs false
theorem cell_heap {w w1 : World} {a : Addr} (h : w1.heap[a.block]? = w.heap[a.block]?) : w1.cell? a = w.cell? a := by
 simp [World.cell?, h]
def srcCells (w : World) (A : Option Addr) (m : Nat) : List Value := match A with
 | none => []
 | some ad => (List.range m).map fun j => (w.cell? (ad.add j)).getD (.slice none 0 0)
theorem add_block (ad : Addr) (j : Nat) : (ad.add j).block = ad.block := by
 first | rfl | (cases ad; rfl) | (unfold Addr.add; split <;> rfl) | simp [Addr.add]
theorem copyF {w w' : World} {g n m : Nat} {okS : Nat → Prop} {A : Option Addr} {xs : List (List Int)} (HS : Kd.F kD w okS A m xs) (hm : m ≤ n) (hn : n ≤ 9223372036854775807) (hne : ∀ k, okS k → k ≠ g) (hw : ∀ k, k ≠ g → w'.heap[k]? = w.heap[k]?)
  (hg : w'.heap[g]? = some (.cells (srcCells w A m ++ List.replicate (n - m) (Value.slice none 0 0)).toArray 51 (0, 0))) : Kd.F kD w' (fun k => okS k ∨ k = g) (some ⟨g, 0, none⟩) n (xs ++ List.replicate (n - m) []) := by
 intro W' hW'
 have hl := Kd.F_len HS
 have hgl := blt hg
 have hg2 : W'.heap[g]? = some (.cells (srcCells w A m ++ List.replicate (n - m) (Value.slice none 0 0)).toArray 51 (0, 0)) := (hW' g (.inr rfl) hgl).trans hg
 have hsame : ∀ k, okS k → k < w.heap.size → W'.heap[k]? = w.heap[k]? := fun k hk hlt => (hW' k (.inl hk) (heap_lt (hw k (hne k hk)) hlt)).trans (hw k (hne k hk))
 refine ⟨by simp [hl]; omega, hn, fun hp => ⟨_, rfl, fun j p hj => ?_⟩⟩
 have hcell : ∀ i u, (srcCells w A m ++ List.replicate (n - m) (Value.slice none 0 0))[j]? = some u → ([u] : List Value)[i]? = some u → W'.cell? ((⟨g, 0, none⟩ : Addr).add (j * kD.sz + i)) = some u := fun i u h1 h2 => by
  cases i with
  | succ i => simp at h2
  | zero =>
   rw [add_at]
   show W'.cell? ⟨g, 0 + (j * 1 + 0), none⟩ = _
   rw [show 0 + (j * 1 + 0) = j from by omega, bc_ hg2 j]
   simpa using h1
 by_cases hjm : j < m
 ·have hjx : j < xs.length := by omega
  rw [List.getElem?_append_left hjx] at hj
  obtain ⟨ad, c, rfl, hcl, hFK, hcc, hin⟩ := Kd.F_get HS p (j : Int) (by omega) (by omega)
  simp only [Int.toNat_natCast] at hFK hcc
  rw [List.getD_eq_getElem?_getD, hj] at hFK
  have hK := hFK W' hsame
  obtain ⟨B, b, rfl, hb1, hb2⟩ := hK
  have h0 := hcc 0 _ rfl
  have e2 : j * kD.sz + 0 = j := by show j * 1 + 0 = j; omega
  rw [e2] at h0
  have hs : (srcCells w (some ad) m ++ List.replicate (n - m) (Value.slice none 0 0))[j]? = some (.slice B p.length b) := by
   rw [List.getElem?_append_left (by simp [srcCells]; exact hjm)]
   simp [srcCells, hjm, h0]
  refine ⟨[.slice B p.length b], rfl, ⟨B, b, rfl, hb1, hb2⟩, fun i u hu => ?_⟩
  cases i with
  | succ i => simp at hu
  | zero =>
   simp at hu
   subst hu
   exact hcell 0 _ hs rfl
 ·rw [List.getElem?_append_right (by omega)] at hj
  have hjl := (List.getElem?_eq_some_iff.1 hj).1
  have hjp := (List.getElem?_eq_some_iff.1 hj).2
  rw [List.getElem_replicate] at hjp
  subst hjp
  simp at hjl
  have hsl : (srcCells w A m).length = m := by
   cases A with
   | none =>
    obtain ⟨_, _, h3⟩ := Kd.F_now HS
    rcases Nat.eq_zero_or_pos m with h | h
    ·simp [srcCells, h]
    ·obtain ⟨_, h4, _⟩ := h3 h
     cases h4
   | some ad => simp [srcCells]
  refine ⟨[.slice none 0 0], rfl, ⟨none, 0, rfl, Nat.le_refl _, Kd.C_nil _ _⟩, fun i u hu => ?_⟩
  cases i with
  | succ i => simp at hu
  | zero =>
   simp at hu
   subst hu
   refine hcell 0 _ ?_ rfl
   rw [List.getElem?_append_right (by omega), hsl]
   rw [List.getElem?_replicate, if_pos (by omega)]
theorem size51 : (Try.prog.info? 51).map (·.size) = some 1 := by kernel_rfl
theorem wp_copy_rows {w : World} {ops : Array Oper} {rest : List Oper} {o : Oper} {a : Act} {Q : Exit → Act → World → Prop} (hgd : o.guard = none) (d s : Operand)
  (ho : o.op = .call { callee := .builtin .copy, args := #[d, s], argTypes := #[27, 27] }) {g n m dc sc : Nat} {okS : Nat → Prop} {A : Option Addr} {xs : List (List Int)}
  (hd : a.eval d = .slice (some ⟨g, 0, none⟩) n dc) (hs : a.eval s = .slice A m sc) (hm : m ≤ n) (hn : n ≤ 9223372036854775807) (HS : Kd.F kD w okS A m xs) (hne : ∀ k, okS k → k ≠ g)
  (hg : w.heap[g]? = some (.cells (madeCells #[.slice none 0 0] n) 51 (0, 0)))
  (h : ∀ w' v, Kd.F kD w' (fun k => okS k ∨ k = g) (some ⟨g, 0, none⟩) n (xs ++ List.replicate (n - m) []) → Kept w w' (fun k => k = g) → (∀ base w0, Below base w0 w → base ≤ g → Below base w0 w') → wpList Try.prog ops Q rest (a.put o.dst v) w') : wpList Try.prog ops Q (o :: rest) a w := by
 have hmade : madeCells #[Value.slice none 0 0] n = (List.replicate n (Value.slice none 0 0)).toArray := by
  apply Array.toList_inj.1
  rw [toList_madeCells_one]
 rw [hmade] at hg
 by_cases h0 : m = 0
 ·subst h0
  have hx : xs = [] := List.eq_nil_of_length_eq_zero (Kd.F_len HS)
  subst hx
  refine wpList_copy_nothing hgd d s 27 27 ho 51 Try.underlying27 size51 _ _ n dc 0 sc hd hs (by simp) ?_
  refine h w _ ?_ (Kept.refl _ _) (fun _ _ hb _ => hb)
  refine copyF HS hm hn hne (fun _ _ => rfl) ?_
  rw [hg]
  cases A <;> simp [srcCells]
 ·obtain ⟨ad, c, hA, _⟩ := Kd.F_get HS [] (0 : Int) (by omega) (by omega)
  subst hA
  refine wpList_copy_own hgd d s 27 27 ho 51 Try.underlying27 size51 g 0 n dc ad m sc hd hs _ 51 hg (srcCells w (some ad) m) (by simp only [srcCells, List.length_map, List.length_range]; exact (Nat.min_eq_left hm).symm) ?_ (by simp [srcCells]; omega) ?_ ?_
  ·intro j v hj
   have hjm : j < m := by have := (List.getElem?_eq_some_iff.1 hj).1; simpa [srcCells] using this
   obtain ⟨ad', c, e, hcl, hFK, hcc, _⟩ := Kd.F_get HS [] (j : Int) (by omega) (by omega)
   cases e
   simp only [Int.toNat_natCast] at hFK hcc
   obtain ⟨B, b, rfl, _⟩ := Kd.FK_slice_open hFK
   have h1 := hcc 0 _ rfl
   have e2 : j * kD.sz + 0 = j := by show j * 1 + 0 = j; omega
   rw [e2] at h1
   simp [srcCells, hjm, h1] at hj
   rw [h1, ← hj, List.getD_eq_getElem?_getD]
  ·intro v hv
   simp only [srcCells, List.mem_map, List.mem_range] at hv
   obtain ⟨j, hjm, rfl⟩ := hv
   obtain ⟨ad', c, e, hcl, hFK, hcc, _⟩ := Kd.F_get HS [] (j : Int) (by omega) (by omega)
   cases e
   simp only [Int.toNat_natCast] at hFK hcc
   obtain ⟨B, b, rfl, _⟩ := Kd.FK_slice_open hFK
   have h1 := hcc 0 _ rfl
   have e2 : j * kD.sz + 0 = j := by show j * 1 + 0 = j; omega
   rw [e2] at h1
   rw [h1]
   rfl
  ·have hset : (w.setRow g ((List.replicate n (Value.slice none 0 0)).toArray.toList.take 0 ++ (srcCells w (some ad) m ++ (List.replicate n (Value.slice none 0 0)).toArray.toList.drop (0 + (srcCells w (some ad) m).length))).toArray).heap[g]? = some (.cells (srcCells w (some ad) m ++ List.replicate (n - m) (Value.slice none 0 0)).toArray 51 (0, 0)) := by
    rw [setRow_heap w g _ _ 51 (0, 0) hg]
    simp [srcCells]
   refine h _ _ (copyF HS hm hn hne (fun k hk => setRow_other w g k _ hk) hset) ⟨by simp, fun k _ hk => setRow_other w g k _ hk⟩ (fun base w0 hb hbg => below_setRow hb hbg _)
end Go.Proofs.Ytkaikgbcnmfppaa.Nb
