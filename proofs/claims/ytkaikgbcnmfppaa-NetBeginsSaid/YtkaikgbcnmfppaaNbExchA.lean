/- net.Exchange's closure, and the library's ContainsFunc over it. -/
import Derived.Test.YtkaikgbcnmfppaaNbSwap
namespace Go.Proofs.Ytkaikgbcnmfppaa.Nb
open Go Go.RowKit Go.Proofs.YtkaikgbcnmfppaaW.PrintWords Go.Proofs.YtkaikgbcnmfppaaW.PrintLast Go.Proofs.YtkaikgbcnmfppaaW.PrintMore
attribute [local go_sem] max2_int min2_int max_two min_two max_three min_three max_four min_four
set_option linter.unusedVariables false
set_option linter.unusedSimpArgs false
def badRow (N : Int) (r : List (List Int)) : Bool := (r.length : Int) != N
set_option maxHeartbeats 8000000 in
set_option maxRecDepth 100000 in
theorem exch1.calls (A : Option Addr) (c : Nat) (r : List (List Int)) (N : Int) (g : Nat) (w : World) (hm : r.length ≤ 9223372036854775807) (hg : w.cell? ⟨g, 1, none⟩ = some (.int .i64 N)) :
  Calls Try.prog 50 #[.slice A r.length c, .pointer (some ⟨g, 0, none⟩)] w fun e w' => e = .returned (.bool (badRow N r)) ∧ Below w.heap.size w w' := by
 have hu30 := Try.underlying30
 have hu24 := Try.underlying24
 have HG := Aside0.mk hg
 by_cases hn : (r.length : Int) = N
 ·have hb : ((r.length : Int) != N) = false := by simp [hn]
  have hb2 : ((r.length : Int) == N) = true := by simp [hn]
  have HF := Aside0.mk (show badRow N r = false from hb)
  clear hn
  go_enter Try.func50, Try.ntmps50
  go_wp2
  go_ret
  exact ⟨by rw [HF.out]; rfl, Below.refl _ _⟩
 ·have hb : ((r.length : Int) != N) = true := by simp [hn]
  have hb2 : ((r.length : Int) == N) = false := by simp [hn]
  have HF := Aside0.mk (show badRow N r = true from hb)
  clear hn
  go_enter Try.func50, Try.ntmps50
  go_wp2
  go_ret
  exact ⟨by rw [HF.out]; rfl, Below.refl _ _⟩
set_option maxHeartbeats 8000000 in
set_option maxRecDepth 100000 in
theorem exchIdx.calls (N : Int) (g : Nat) (A1 : Option Addr) (c1 : Nat) (l1 : List (List (List Int))) (w : World) (hr1 : Kd.C (Kd.slice 51 kD) w A1 l1.length l1) (hm : l1.length < 9223372036854775807) (hg : w.cell? ⟨g, 1, none⟩ = some (.int .i64 N)) :
  Calls Try.prog 64 #[.slice A1 l1.length c1, .func (.func 50) #[] #[.pointer (some ⟨g, 0, none⟩)]] w fun e w' => (∃ z : Int, e = .returned (.int .i64 z) ∧ decide (0 ≤ z) = l1.any (badRow N)) ∧ Below w.heap.size w w' := by
 have HR1 := Aside0.mk hr1
 have HG := Aside0.mk hg
 have HM := Aside0.mk hm
 have HB := Aside0.mk (Below.refl w.heap.size w)
 clear hr1 hg
 go_enter Try.func64, Try.ntmps64
 go_wp2
 go_loopg [8] (l1.length + 1) (fun kq v8 w' => ∃ i : Nat, v8 = .int .i64 (i : Int) ∧ Aside0 (i ≤ l1.length ∧ kq = l1.length + 1 - i) ∧ Aside0 ((l1.take i).any (badRow N) = false) ∧ Aside0 (Below w.heap.size w w'))
 case atStart => exact ⟨0, rfl, ⟨by omega, by omega⟩, ⟨by simp⟩, HB⟩
 case round =>
  clear HB
  obtain ⟨i, rfl, HI, HN, HB⟩ := hrel
  cases gk with
  | zero => exact absurd HI.out.2 (by have := HI.out.1; omega)
  | succ k1 =>
   by_cases hlt : i < l1.length
   ·have b1 : decide ((i : Int) < (l1.length : Int)) = true := decide_eq_true (by omega)
    have b1' : decide (i < l1.length) = true := decide_eq_true hlt
    obtain ⟨ad, A0, c0, e1, hx0, hl0, hC0⟩ := at_M5 HR1.out (i : Int) (by omega) (by omega)
    cases e1
    rw [Int.toNat_natCast] at hx0
    replace hx0 := (HB.out.cell (World.block_lt_of_cell? w _ hx0)).trans hx0
    have hgw := (HB.out.cell (World.block_lt_of_cell? w _ HG.out)).trans HG.out
    have p1 : (0 ≤ (i : Int)) = True := eq_true (by omega)
    have p2 : ((i : Int) < (l1.length : Int)) = True := eq_true (by omega)
    have hi63 : (i : Int) ≤ 9223372036854775806 := by have := HM.out; omega
    have hq : rd_M5 l1 (i : Int) = l1[i] := by simp [rd_M5, List.getD_eq_getElem?_getD, hlt]
    have HQ := Aside0.mk hq
    have ht : l1.take (i + 1) = l1.take i ++ [l1[i]] := by rw [List.take_succ_eq_append_getElem hlt]
    have HT := Aside0.mk ht
    have HC0 := Aside0.mk hC0.2.1
    clear ht hq hl0 hC0
    by_cases cb : badRow N (rd_M5 l1 (i : Int)) = true
    ·have CB := Aside0.mk cb
     clear cb
     have hfin : l1.any (badRow N) = true := by
      rw [List.any_eq_true]
      exact ⟨l1[i], List.getElem_mem hlt, by rw [← HQ.out]; exact CB.out⟩
     have HF := Aside0.mk hfin
     clear hfin
     go_wp2_with (go_at_call 50; refine (exch1.calls A0 c0 (rd_M5 l1 (i : Int)) N g _ HC0.out hgw).mono ?_; rintro e w1 ⟨rfl, hb⟩; have n0_ := Aside0.mk (below_step HB.out hb); rw [CB.out])
     go_ret
     exact ⟨⟨_, rfl, by rw [HF.out]; exact decide_eq_true (by omega)⟩, n0_.out⟩
    ·have cb := Bool.eq_false_iff.2 cb
     have CB := Aside0.mk cb
     clear cb
     go_wp2_with (go_at_call 50; refine (exch1.calls A0 c0 (rd_M5 l1 (i : Int)) N g _ HC0.out hgw).mono ?_; rintro e w1 ⟨rfl, hb⟩; have n0_ := Aside0.mk (below_step HB.out hb); rw [CB.out])
     have HN2 : Aside0 ((l1.take (i + 1)).any (badRow N) = false) := ⟨by rw [HT.out, List.any_append, HN.out, ← HQ.out]; simp [CB.out]⟩
     go_roundg k1
     case measure => omega
     case rel => exact ⟨i + 1, by go_num, ⟨by omega, by have := HI.out; omega⟩, HN2, n0_⟩
   ·have b1 : decide ((i : Int) < (l1.length : Int)) = false := decide_eq_false (by omega)
    have b1' : decide (i < l1.length) = false := decide_eq_false hlt
    have hfin : l1.any (badRow N) = false := by
     have := HN.out
     rwa [List.take_of_length_le (by omega)] at this
    have HF := Aside0.mk hfin
    clear hfin
    go_wp2
    go_ret
    exact ⟨⟨-1, rfl, by rw [HF.out]; rfl⟩, HB.out⟩
set_option maxHeartbeats 8000000 in
set_option maxRecDepth 100000 in
theorem exchHas.calls (N : Int) (g : Nat) (A1 : Option Addr) (c1 : Nat) (l1 : List (List (List Int))) (w : World) (hr1 : Kd.C (Kd.slice 51 kD) w A1 l1.length l1) (hm : l1.length < 9223372036854775807) (hg : w.cell? ⟨g, 1, none⟩ = some (.int .i64 N)) :
  Calls Try.prog 49 #[.slice A1 l1.length c1, .func (.func 50) #[] #[.pointer (some ⟨g, 0, none⟩)]] w fun e w' => e = .returned (.bool (l1.any (badRow N))) ∧ Below w.heap.size w w' := by
 have HC := Aside0.mk (exchIdx.calls N g A1 c1 l1 w hr1 hm hg)
 clear hr1 hg hm
 go_enter Try.func49, Try.ntmps49
 go_wp2_with (go_at_call 64; refine HC.out.mono ?_; rintro e w1 ⟨⟨z, rfl, hz⟩, hb⟩; have HZ := Aside0.mk hz; have HB := Aside0.mk hb; clear hz hb)
 go_ret
 exact ⟨by rw [← HZ.out]; rfl, HB.out⟩
end Go.Proofs.Ytkaikgbcnmfppaa.Nb
