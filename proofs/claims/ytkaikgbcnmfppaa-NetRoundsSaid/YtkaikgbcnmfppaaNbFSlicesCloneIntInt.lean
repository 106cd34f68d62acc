/- net.Exchange's closure, and the library's ContainsFunc over it. A function of the program, with its walk: scii. (Made by this session's own program out of what the kit's print wrote; no text of the print.) -/
import Derived.Test.YtkaikgbcnmfppaaNbSwap
import Derived.Test.YtkaikgbcnmfppaaNb0
import Derived.BigRegion
import Derived.Lib.SliceRun
namespace Go.Proofs.Ytkaikgbcnmfppaa.Nb
open Go Go.RowKit Go.Proofs.YtkaikgbcnmfppaaW.PrintWords Go.Proofs.YtkaikgbcnmfppaaW.PrintLast Go.Proofs.YtkaikgbcnmfppaaW.PrintMore
attribute [local go_sem] max2_int min2_int max_two min_two max_three min_three max_four min_four
set_option linter.unusedVariables false
set_option linter.unusedSimpArgs false
def badRow (N : Int) (r : List (List Int)) : Bool := (r.length : Int) != N
set_option maxHeartbeats 8000000 in
set_option maxRecDepth 100000 in
theorem exch1.calls (A : Option Addr) (c : Nat) (r : List (List Int)) (N : Int) (g : Nat) (w : World) (hm : r.length ≤ 9223372036854775807) (hg : w.cell? ⟨g, 1, none⟩ = some (.int .i64 N)) :
  Calls Try.prog 50 #[.slice A r.length c, .pointer (some ⟨g, 0, none⟩)] w fun e w' => e = .returned (.bool (badRow N r)) ∧ Below w.heap.size w w' := by
 have hu30 := Try.underlying30
 have hu24 := Try.underlying24
 have HG := Qz.mk hg
 by_cases hn : (r.length : Int) = N
 ·have hb : ((r.length : Int) != N) = false := by simp [hn]
  have hb2 : ((r.length : Int) == N) = true := by simp [hn]
  have HF := Qz.mk (show badRow N r = false from hb)
  clear hn
  go_enter Try.func50, Try.ntmps50
  go_wp2
  go_ret
  exact ⟨by rw [HF.out]; rfl, Below.refl _ _⟩
 ·have hb : ((r.length : Int) != N) = true := by simp [hn]
  have hb2 : ((r.length : Int) == N) = false := by simp [hn]
  have HF := Qz.mk (show badRow N r = true from hb)
  clear hn
  go_enter Try.func50, Try.ntmps50
  go_wp2
  go_ret
  exact ⟨by rw [HF.out]; rfl, Below.refl _ _⟩
set_option maxHeartbeats 8000000 in
set_option maxRecDepth 100000 in
theorem exchIdx.calls (N : Int) (g : Nat) (A1 : Option Addr) (c1 : Nat) (l1 : List (List (List Int))) (w : World) (hr1 : Kd.C (Kd.slice 51 kD) w A1 l1.length l1) (hm : l1.length < 9223372036854775807) (hg : w.cell? ⟨g, 1, none⟩ = some (.int .i64 N)) :
  Calls Try.prog 64 #[.slice A1 l1.length c1, .func (.func 50) #[] #[.pointer (some ⟨g, 0, none⟩)]] w fun e w' => (∃ z : Int, e = .returned (.int .i64 z) ∧ decide (0 ≤ z) = l1.any (badRow N)) ∧ Below w.heap.size w w' := by
 have HR1 := Qz.mk hr1
 have HG := Qz.mk hg
 have HM := Qz.mk hm
 have HB := Qz.mk (Below.refl w.heap.size w)
 clear hr1 hg
 go_enter Try.func64, Try.ntmps64
 go_wp2
 go_loopg [8] (l1.length + 1) (fun kq v8 w' => ∃ i : Nat, v8 = .int .i64 (i : Int) ∧ Qz (i ≤ l1.length ∧ kq = l1.length + 1 - i) ∧ Qz ((l1.take i).any (badRow N) = false) ∧ Qz (Below w.heap.size w w'))
 case atStart => exact ⟨0, rfl, ⟨by omega, by omega⟩, ⟨by simp⟩, HB⟩
 case round =>
  clear HB
  obtain ⟨i, rfl, HI, HN, HB⟩ := hrel
  cases gk with
  | zero => exact absurd HI.out.2 (by have := HI.out.1; omega)
  | succ k1 =>
   by_cases hlt : i < l1.length
   ·have b1 : decide ((i : Int) < (l1.length : Int)) = true := decide_eq_true (by omega)
    have b1' : decide (i < l1.length) = true := decide_eq_true hlt
    obtain ⟨ad, A0, c0, e1, hx0, hl0, hC0⟩ := at_M5 HR1.out (i : Int) (by omega) (by omega)
    cases e1
    rw [Int.toNat_natCast] at hx0
    replace hx0 := (HB.out.cell (World.block_lt_of_cell? w _ hx0)).trans hx0
    have hgw := (HB.out.cell (World.block_lt_of_cell? w _ HG.out)).trans HG.out
    have p1 : (0 ≤ (i : Int)) = True := eq_true (by omega)
    have p2 : ((i : Int) < (l1.length : Int)) = True := eq_true (by omega)
    have hi63 : (i : Int) ≤ 9223372036854775806 := by have := HM.out; omega
    have hq : rd_M5 l1 (i : Int) = l1[i] := by simp [rd_M5, List.getD_eq_getElem?_getD, hlt]
    have HQ := Qz.mk hq
    have ht : l1.take (i + 1) = l1.take i ++ [l1[i]] := by rw [List.take_succ_eq_append_getElem hlt]
    have HT := Qz.mk ht
    have HC0 := Qz.mk hC0.2.1
    clear ht hq hl0 hC0
    by_cases cb : badRow N (rd_M5 l1 (i : Int)) = true
    ·have CB := Qz.mk cb
     clear cb
     have hfin : l1.any (badRow N) = true := by
      rw [List.any_eq_true]
      exact ⟨l1[i], List.getElem_mem hlt, by rw [← HQ.out]; exact CB.out⟩
     have HF := Qz.mk hfin
     clear hfin
     go_wp2_with (go_at_call 50; refine (exch1.calls A0 c0 (rd_M5 l1 (i : Int)) N g _ HC0.out hgw).mono ?_; rintro e w1 ⟨rfl, hb⟩; have n0_ := Qz.mk (bst HB.out hb); rw [CB.out])
     go_ret
     exact ⟨⟨_, rfl, by rw [HF.out]; exact decide_eq_true (by omega)⟩, n0_.out⟩
    ·have cb := Bool.eq_false_iff.2 cb
     have CB := Qz.mk cb
     clear cb
     go_wp2_with (go_at_call 50; refine (exch1.calls A0 c0 (rd_M5 l1 (i : Int)) N g _ HC0.out hgw).mono ?_; rintro e w1 ⟨rfl, hb⟩; have n0_ := Qz.mk (bst HB.out hb); rw [CB.out])
     have HN2 : Qz ((l1.take (i + 1)).any (badRow N) = false) := ⟨by rw [HT.out, List.any_append, HN.out, ← HQ.out]; simp [CB.out]⟩
     go_roundg k1
     case measure => omega
     case rel => exact ⟨i + 1, by go_num, ⟨by omega, by have := HI.out; omega⟩, HN2, n0_⟩
   ·have b1 : decide ((i : Int) < (l1.length : Int)) = false := decide_eq_false (by omega)
    have b1' : decide (i < l1.length) = false := decide_eq_false hlt
    have hfin : l1.any (badRow N) = false := by
     have := HN.out
     rwa [List.take_of_length_le (by omega)] at this
    have HF := Qz.mk hfin
    clear hfin
    go_wp2
    go_ret
    exact ⟨⟨-1, rfl, by rw [HF.out]; rfl⟩, HB.out⟩
set_option maxHeartbeats 8000000 in
set_option maxRecDepth 100000 in
theorem exchHas.calls (N : Int) (g : Nat) (A1 : Option Addr) (c1 : Nat) (l1 : List (List (List Int))) (w : World) (hr1 : Kd.C (Kd.slice 51 kD) w A1 l1.length l1) (hm : l1.length < 9223372036854775807) (hg : w.cell? ⟨g, 1, none⟩ = some (.int .i64 N)) :
  Calls Try.prog 49 #[.slice A1 l1.length c1, .func (.func 50) #[] #[.pointer (some ⟨g, 0, none⟩)]] w fun e w' => e = .returned (.bool (l1.any (badRow N))) ∧ Below w.heap.size w w' := by
 have HC := Qz.mk (exchIdx.calls N g A1 c1 l1 w hr1 hm hg)
 clear hr1 hg hm
 go_enter Try.func49, Try.ntmps49
 go_wp2_with (go_at_call 64; refine HC.out.mono ?_; rintro e w1 ⟨⟨z, rfl, hz⟩, hb⟩; have HZ := Qz.mk hz; have HB := Qz.mk hb; clear hz hb)
 go_ret
 exact ⟨by rw [← HZ.out]; rfl, HB.out⟩
end Go.Proofs.Ytkaikgbcnmfppaa.Nb
namespace Go.Proofs.Ytkaikgbcnmfppaa.Nb
open Go.RowKit Go.Proofs.YtkaikgbcnmfppaaW.PrintWords Go.Proofs.YtkaikgbcnmfppaaW.PrintLast Go.Proofs.YtkaikgbcnmfppaaW.PrintMore
attribute [local go_sem] max2_int min2_int max_two min_two max_three min_three max_four min_four   -- for this text's walks alone
set_option linter.unusedVariables false
set_option linter.unusedSimpArgs false

noncomputable section
/-! ### scii: function 59 -/
def scii.f (l0 : List Int) : Option (List Int) := (some (([] : List Int) : List Int)).bind fun y138 => (if y138.length + l0.length < 17592186044416 then (some (y138 ++ l0)) else (none))
set_option maxHeartbeats 8000000 in
set_option maxRecDepth 100000 in
theorem scii.calls (A0 : Option Addr) (c0 : Nat) (l0 : List Int) (r : List Int) (w : World) (hr0 : Kd.C (Kd.int .i64) w A0 l0.length l0) (hc0 : l0.length ≤ c0) (h : scii.f l0 = some r) :
  Calls Try.prog 59 #[.slice A0 l0.length c0] w fun e w' => ∃ v0_ : Value, e = .returned (v0_) ∧ Kd.R (Kd.int .i64) 3 w' w.heap.size (fun _ => True) v0_ r ∧ Below w.heap.size w w' := by
 have HR0 := Qz.mk hr0
 have HC0 := Qz.mk hc0
 clear hr0 hc0
 have HB := Qz.mk (Below.refl w.heap.size w)
 have H : ((some (([] : List Int) : List Int)).bind fun y138 => (if y138.length + l0.length < 17592186044416 then (some (y138 ++ l0)) else (none))) = some r := h
 clear h
 obtain ⟨y138, hy138⟩ : ∃ y_ : List Int, y_ = (([] : List Int)) := ⟨_, rfl⟩
 replace H : (if y138.length + l0.length < 17592186044416 then (some (y138 ++ l0)) else (none)) = some r := by first | (rw [hy138]; with_reducible exact H) | (have H2_ := (Option.bind_some _ _).symm.trans H; rw [hy138]; with_reducible exact H2_) | (have H2_ := (Option.bind_some _ _).symm.trans H; with_reducible exact H2_) | with_reducible exact H | (rw [hy138]; exact H) | exact H
 have Ny138 := Qz.mk hy138
 clear hy138
 by_cases c2 : y138.length + l0.length < 17592186044416
 ·rw [if_pos c2] at H
  have LMc2 := Qz.mk c2
  clear c2
  obtain ⟨y141, hy141⟩ : ∃ y_ : List Int, y_ = (y138 ++ l0) := ⟨_, rfl⟩
  replace H : (some y141) = some r := by first | (rw [hy141]; with_reducible exact H) | (have H2_ := (Option.bind_some _ _).symm.trans H; rw [hy141]; with_reducible exact H2_) | (have H2_ := (Option.bind_some _ _).symm.trans H; with_reducible exact H2_) | with_reducible exact H | (rw [hy141]; exact H) | exact H
  have Ny141 := Qz.mk hy141
  clear hy141
  obtain rfl := Option.some.inj H
  have qeq : ∀ (w : World) (a : Option Addr) (n c n' c' : Nat), (binOp .eql 25 (.slice a n c) (.slice none n' c')).run Try.prog w = .ok (.bool a.isNone) w := fun w a n c n' c' => Lib.run_eql_slice_nil w _ _ a n c n' c' Try.underlying25
  rcases A0 with _ | ad0
  ·have hl0 : l0 = [] := by
    rcases Nat.eq_zero_or_pos l0.length with h | h
    ·exact List.eq_nil_of_length_eq_zero h
    ·obtain ⟨ad, h1, _⟩ := HR0.out.2.2 h
     cases h1
   subst hl0
   have e1 : y141 = [] := by rw [Ny141.out, Ny138.out]; rfl
   subst e1
   go_enter Try.func59, Try.ntmps59
   go_wp2
   go_ret
   exact ⟨_, rfl, Kd.R_nil _ _ _ _ _, Below.refl _ _⟩
  go_enter Try.func59, Try.ntmps59
  go_wp2_with (first | ((with_reducible refine gdt (N := 5) rfl ?_); refine Kd.R_lit (Kd.int .i64) _ 3 ?hg (N := 5) ?hd (xs := ([] : List Int)) (inner := []) (ok := fun _ => True) (okp := fun _ => True) ?hr ?hp (fun _ hk => hk) trivial (Below.refl _ _) (Nat.le_refl _) (by simp) ?_; (case hd => rfl); (case hg => rfl); (case hr => first | (go_simp; done) | (go_simp; rfl)); (case hp => exact (Reps.none _ _)); intro v139 w3 ho4 hb hg_ hnew_; clear hg_ hnew_; (first | rw [← Ny138.out] at ho4 | (simp only [Int.reduceToNat] at ho4; rw [← Ny138.out] at ho4)); have n0_ := Qz.mk (Kd.R_lower ho4 (bsz (by repeat (first | (with_reducible first | exact HB.out | apply ba1 | apply bd_ | apply bd1) | exact HB.out)))); have n1_ := Qz.mk (bst (by repeat (first | (with_reducible first | exact HB.out | apply ba1 | apply bd_ | apply bd1) | exact HB.out)) hb); clear HB; have HO140 := n0_; have HB := n1_; clear n0_ n1_; clear hb ho4) | ((with_reducible refine gbi (b := .append) (xs := #[.tmp 5, .tmp 6]) rfl ?_); at_builtin; refine Kd.R_append_rows (Kd.int .i64) (w0 := w) w.heap.size rfl (.tmp 5) (.tmp 6) 25 3 (.int .i64 0) 8 rfl Try.underlying25 info3 rfl (by decide) (by omega) v139 y138 l0 _ _ _ (fun _ => True) (fun _ => False) rfl rfl ?aO ?aR (fun _ _ h => h) (fun _ h => h.elim) ?aF ?aB ?aS ?aL ?_; (case aR => repeat (first | exact (Kd.C_below HR0.out HB.out) | (with_reducible refine Kd.C_alloc ?_ _) | (with_reducible refine Kd.C_drewN ?_ _) | (with_reducible refine Kd.C_drew ?_))); (case aB => exact (by repeat (first | (with_reducible first | exact HB.out | apply ba1 | apply bd_ | apply bd1) | exact HB.out))); (case aF => exact (fun _ _ => trivial)); (case aO => exact (by (with_reducible repeat (first | apply Kd.R_alloc | apply Kd.R_drewN | apply Kd.R_drew)); exact HO140.out)); (case aS => exact (bsz (by repeat (first | (with_reducible first | exact HB.out | apply ba1 | apply bd_ | apply bd1) | exact HB.out)))); (case aL => have := LMc2.out; omega); intro v142 w5 ho hb hg hat; rw [← Ny141.out] at ho; have n0_ := Qz.mk (hb); have n1_ := Qz.mk (ho); clear HB; clear HO140; have HB := n0_; have HO143 := n1_; clear n0_ n1_; clear ho hb hg hat))
  go_ret
  exact ⟨_, by first | rfl | (simp [ewn, ews] <;> rfl) | (simp [*, ewn, ews] <;> rfl), by (with_reducible repeat (first | apply Kd.R_alloc | apply Kd.R_drewN | apply Kd.R_drew)); exact HO143.out, by repeat (first | (with_reducible first | exact HB.out | apply ba1 | apply bd_ | apply bd1) | exact HB.out)⟩
 ·rw [if_neg c2] at H
  exact absurd H (by simp)

end
end Go.Proofs.Ytkaikgbcnmfppaa.Nb
