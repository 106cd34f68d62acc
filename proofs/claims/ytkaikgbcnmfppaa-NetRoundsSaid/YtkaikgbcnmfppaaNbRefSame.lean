/- juntoref17.Same walked for two worlds that read the same. Made by mk_refsame.py. -/
import Derived.Test.YtkaikgbcnmfppaaNbRefAct
import Derived.Test.YtkaikgbcnmfppaaNbApartA
import Derived.Test.YtkaikgbcnmfppaaNbFRef17SameInts
import Derived.Test.YtkaikgbcnmfppaaNbFRef17SamePayloads
import Derived.BigRegion
namespace Go.Proofs.Ytkaikgbcnmfppaa.Nb
open Go Go.RowKit Go.Proofs.YtkaikgbcnmfppaaW.PrintWords Go.Proofs.YtkaikgbcnmfppaaW.PrintLast Go.Proofs.YtkaikgbcnmfppaaW.PrintMore
attribute [local go_sem] max2_int min2_int max_two min_two max_three min_three max_four min_four
set_option linter.unusedVariables false
set_option linter.unusedSimpArgs false
noncomputable section
/-- Sizes that the reference's Same can take. -/
structure Fit (x : S30) : Prop where
 co : x.f1.length < 9223372036854775807
 ac : x.f2.length < 4611686018427387904
 ad : ∀ a ∈ x.f2, a.f4.length < 17592186044416
 ta : x.f3.length < 9223372036854775807
 td : ∀ i, i < x.f3.length → (x.f3.getD i []).length < 17592186044416
 se : x.f5.length < 9223372036854775807
 sd : ∀ a ∈ x.f5, a.f3.length < 17592186044416
theorem ints_l0 (xs : List Int) (hl : xs.length < 9223372036854775807) : ∀ d i k, i + d = xs.length → d < k → jSI.l0 k xs xs (xs.length : Int) (i : Int) = some true := by
 intro d
 induction d with
 | zero =>
  intro i k hd hk
  obtain ⟨k, rfl⟩ : ∃ m, k = m + 1 := ⟨k - 1, by omega⟩
  simp only [jSI.l0]
  rw [if_neg (by omega)]
 | succ d ih =>
  intro i k hd hk
  obtain ⟨k, rfl⟩ : ∃ m, k = m + 1 := ⟨k - 1, by omega⟩
  simp only [jSI.l0]
  rw [if_pos (by omega), if_pos (by omega), if_pos (by omega), if_pos (by omega), if_pos trivial, Go.Proofs.Ytkaikgbcnmfppaa.Arith.w64_in (by omega) (by omega)]
  exact ih (i + 1) k (by omega) (by omega)
theorem ints_some (xs : List Int) (hl : xs.length < 9223372036854775807) : ∃ k, jSI.f k xs xs = some true := by
 refine ⟨xs.length + 1, ?_⟩
 unfold jSI.f
 rw [if_pos rfl]
 simpa using ints_l0 xs hl xs.length 0 (xs.length + 1) (by omega) (by omega)
/-- Behind the two allocations of Same's region 6, in either order. -/
structure SameMid (w : World) (s : Nat × Nat) (w' : World) : Prop where
 b6 : w'.heap[s.1]? = some (.cells #[.int .i64 0, .int .i64 0, .int .i64 0, .bool false, .slice none 0 0] 72 (0, 0))
 b7 : w'.heap[s.2]? = some (.cells #[.int .i64 0, .int .i64 0, .int .i64 0, .bool false, .slice none 0 0] 72 (0, 0))
 hb : Below w.heap.size w w'
 l1 : w.heap.size ≤ s.1
 l2 : w.heap.size ≤ s.2
 ne : s.1 ≠ s.2
def refSame.T6 : Bool × List (List Nat × List Nat) := (true, [([], []), ([0], [0]), ([], []), ([1, 2], [1, 2]), ([3], [3]), ([], []), ([5], [5]), ([], []), ([6, 7], [6, 7]), ([8], [8]), ([], []), ([], []), ([10, 4, 0, 1, 2, 3, 4, 10, 11], [4, 10]), ([11, 9, 12, 0, 1, 2, 3, 4, 5, 6, 7, 8, 9, 10, 11, 12], [9, 11])])
def refSame.B6 : List Nat := [0, 1, 0, 7, 15, 0, 32, 0, 224, 480, 0, 0, 3103, 8191]
theorem refSame.tab6 : rtab .any (opsOf Try.f17 6) = refSame.T6 := by kernel_rfl
theorem refSame.bits6 : waitsOk refSame.T6.2 refSame.B6 = true := by kernel_rfl
set_option maxHeartbeats 16000000 in
set_option maxRecDepth 100000 in
theorem refSame.calls (x : S30) (ft : Fit x) (A3 : Option Addr) (c3 : Nat) (A4 : Option Addr) (c4 : Nat) (A5 : Option Addr) (c5 : Nat) (A7 : Option Addr) (c7 : Nat) (E3 : Option Addr) (e3 : Nat) (E4 : Option Addr) (e4 : Nat) (E5 : Option Addr) (e5 : Nat) (E7 : Option Addr) (e7 : Nat) (w : World)
  (ha : k30.K w x (wv x A3 c3 A4 c4 A5 c5 A7 c7).toList) (hb : k30.K w x (wv x E3 e3 E4 e4 E5 e5 E7 e7).toList) :
  Calls Try.prog 17 #[.agg (wv x A3 c3 A4 c4 A5 c5 A7 c7), .agg (wv x E3 e3 E4 e4 E5 e5 E7 e7)] w fun e w' => e = .returned (.bool true) ∧ Below w.heap.size w w' := by
 have hu30 := Try.underlying30
 have hu24 := Try.underlying24
 have hu72 := Try.underlying72
 have HX := Qz.mk (XF.of ha)
 have HY := Qz.mk (XF.of hb)
 obtain ⟨ka, hka⟩ := ints_some x.f1 ft.co
 have hkb := pay_at x.f3 ft.ta 17592186044416 (by decide) ft.td (x.f3.length + 17592186044416 + 1) (by omega)
 obtain ⟨kc, hkc⟩ := sent_some x.f5 ft.se 17592186044416 (by decide) ft.sd
 generalize x.f3.length + 17592186044416 + 1 = kb at hkb
 have HKA := Qz.mk hka
 have HKB := Qz.mk hkb
 have HKC := Qz.mk hkc
 have HAC := Qz.mk ft.ac
 have HAD := Qz.mk ft.ad
 clear hka hkb hkc ha hb ft
 go_enter Try.func17, Try.ntmps17
 go_upto_region 4 with (first
   | ((with_reducible refine gdt (N := 2) rfl ?_); refine bxe ?hg (N := 2) ?hd (cs := wv x A3 c3 A4 c4 A5 c5 A7 c7) (t := 30) ?hr ?_; (case hd => rfl); (case hg => rfl); (case hr => first | (go_simp; done) | (go_simp; rfl)); intro g2 hg2 w2 hbox hb2; have B2 := Qz.mk hbox; have HB := Qz.mk hb2; clear hg2 hbox hb2)
   | ((with_reducible refine gdt (N := 3) rfl ?_); refine bxe ?hg (N := 3) ?hd (cs := wv x E3 e3 E4 e4 E5 e5 E7 e7) (t := 30) ?hr ?_; (case hd => rfl); (case hg => rfl); (case hr => first | (go_simp; done) | (go_simp; rfl)); intro g3 hg3 w3 hbox hb3; have B3 := Qz.mk hbox; have B2 := Qz.mk (bkb B2.out hb3); have HB := Qz.mk (HB.out.trans (hb3.mono HB.out.size)); clear hg3 hbox hb3; have hx0 : w3.cell? ⟨g2, 0, none⟩ = some (.int .u64 x.f0.f0) := (bc_ B2.out 0).trans rfl; have hx1 : w3.cell? ⟨g2, 1, none⟩ = some (.int .i64 x.f0.f1) := (bc_ B2.out 1).trans rfl; have hx2 : w3.cell? ⟨g2, 2, none⟩ = some (.int .i64 x.f0.f2) := (bc_ B2.out 2).trans rfl; have hx3 : w3.cell? ⟨g2, 3, none⟩ = some (.slice A3 x.f1.length c3) := (bc_ B2.out 3).trans rfl; have hx4 : w3.cell? ⟨g2, 4, none⟩ = some (.slice A4 x.f2.length c4) := (bc_ B2.out 4).trans rfl; have hx5 : w3.cell? ⟨g2, 5, none⟩ = some (.slice A5 x.f3.length c5) := (bc_ B2.out 5).trans rfl; have hx6 : w3.cell? ⟨g2, 6, none⟩ = some (.int .i64 x.f4) := (bc_ B2.out 6).trans rfl; have hx7 : w3.cell? ⟨g2, 7, none⟩ = some (.slice A7 x.f5.length c7) := (bc_ B2.out 7).trans rfl; have hz0 : w3.cell? ⟨g3, 0, none⟩ = some (.int .u64 x.f0.f0) := (bc_ B3.out 0).trans rfl; have hz1 : w3.cell? ⟨g3, 1, none⟩ = some (.int .i64 x.f0.f1) := (bc_ B3.out 1).trans rfl; have hz2 : w3.cell? ⟨g3, 2, none⟩ = some (.int .i64 x.f0.f2) := (bc_ B3.out 2).trans rfl; have hz3 : w3.cell? ⟨g3, 3, none⟩ = some (.slice E3 x.f1.length e3) := (bc_ B3.out 3).trans rfl; have hz4 : w3.cell? ⟨g3, 4, none⟩ = some (.slice E4 x.f2.length e4) := (bc_ B3.out 4).trans rfl; have hz5 : w3.cell? ⟨g3, 5, none⟩ = some (.slice E5 x.f3.length e5) := (bc_ B3.out 5).trans rfl; have hz6 : w3.cell? ⟨g3, 6, none⟩ = some (.int .i64 x.f4) := (bc_ B3.out 6).trans rfl; have hz7 : w3.cell? ⟨g3, 7, none⟩ = some (.slice E7 x.f5.length e7) := (bc_ B3.out 7).trans rfl)
   | (go_at_call 48; refine (jSI.calls ka A3 c3 x.f1 E3 e3 x.f1 true w3 (Kd.F_now (HX.out.below HB.out).r3) HX.out.l3 (Kd.F_now (HY.out.below HB.out).r3) HY.out.l3 HKA.out).mono ?_; rintro e w4 ⟨rfl, hbc⟩; have B2 := Qz.mk (bkb B2.out hbc.below); have B3 := Qz.mk (bkb B3.out hbc.below); have HB := Qz.mk (HB.out.trans (hbc.below.mono HB.out.size)); clear hbc; clear hx0 hz0 hx1 hz1 hx2 hz2 hx3 hz3 hx4 hz4 hx5 hz5 hx6 hz6 hx7 hz7; have hx0 : w4.cell? ⟨g2, 0, none⟩ = some (.int .u64 x.f0.f0) := (bc_ B2.out 0).trans rfl; have hx1 : w4.cell? ⟨g2, 1, none⟩ = some (.int .i64 x.f0.f1) := (bc_ B2.out 1).trans rfl; have hx2 : w4.cell? ⟨g2, 2, none⟩ = some (.int .i64 x.f0.f2) := (bc_ B2.out 2).trans rfl; have hx3 : w4.cell? ⟨g2, 3, none⟩ = some (.slice A3 x.f1.length c3) := (bc_ B2.out 3).trans rfl; have hx4 : w4.cell? ⟨g2, 4, none⟩ = some (.slice A4 x.f2.length c4) := (bc_ B2.out 4).trans rfl; have hx5 : w4.cell? ⟨g2, 5, none⟩ = some (.slice A5 x.f3.length c5) := (bc_ B2.out 5).trans rfl; have hx6 : w4.cell? ⟨g2, 6, none⟩ = some (.int .i64 x.f4) := (bc_ B2.out 6).trans rfl; have hx7 : w4.cell? ⟨g2, 7, none⟩ = some (.slice A7 x.f5.length c7) := (bc_ B2.out 7).trans rfl; have hz0 : w4.cell? ⟨g3, 0, none⟩ = some (.int .u64 x.f0.f0) := (bc_ B3.out 0).trans rfl; have hz1 : w4.cell? ⟨g3, 1, none⟩ = some (.int .i64 x.f0.f1) := (bc_ B3.out 1).trans rfl; have hz2 : w4.cell? ⟨g3, 2, none⟩ = some (.int .i64 x.f0.f2) := (bc_ B3.out 2).trans rfl; have hz3 : w4.cell? ⟨g3, 3, none⟩ = some (.slice E3 x.f1.length e3) := (bc_ B3.out 3).trans rfl; have hz4 : w4.cell? ⟨g3, 4, none⟩ = some (.slice E4 x.f2.length e4) := (bc_ B3.out 4).trans rfl; have hz5 : w4.cell? ⟨g3, 5, none⟩ = some (.slice E5 x.f3.length e5) := (bc_ B3.out 5).trans rfl; have hz6 : w4.cell? ⟨g3, 6, none⟩ = some (.int .i64 x.f4) := (bc_ B3.out 6).trans rfl; have hz7 : w4.cell? ⟨g3, 7, none⟩ = some (.slice E7 x.f5.length e7) := (bc_ B3.out 7).trans rfl)
   | (go_at_call 23; refine (jSP.calls kb A5 c5 x.f3 E5 e5 x.f3 true w4 (Kd.F_now (HX.out.below HB.out).r5) HX.out.l5 (Kd.F_now (HY.out.below HB.out).r5) HY.out.l5 HKB.out).mono ?_; rintro e w5 ⟨rfl, hbc⟩; have B2 := Qz.mk (bkb B2.out hbc.below); have B3 := Qz.mk (bkb B3.out hbc.below); have HB := Qz.mk (HB.out.trans (hbc.below.mono HB.out.size)); clear hbc; clear hx0 hz0 hx1 hz1 hx2 hz2 hx3 hz3 hx4 hz4 hx5 hz5 hx6 hz6 hx7 hz7; have hx0 : w5.cell? ⟨g2, 0, none⟩ = some (.int .u64 x.f0.f0) := (bc_ B2.out 0).trans rfl; have hx1 : w5.cell? ⟨g2, 1, none⟩ = some (.int .i64 x.f0.f1) := (bc_ B2.out 1).trans rfl; have hx2 : w5.cell? ⟨g2, 2, none⟩ = some (.int .i64 x.f0.f2) := (bc_ B2.out 2).trans rfl; have hx3 : w5.cell? ⟨g2, 3, none⟩ = some (.slice A3 x.f1.length c3) := (bc_ B2.out 3).trans rfl; have hx4 : w5.cell? ⟨g2, 4, none⟩ = some (.slice A4 x.f2.length c4) := (bc_ B2.out 4).trans rfl; have hx5 : w5.cell? ⟨g2, 5, none⟩ = some (.slice A5 x.f3.length c5) := (bc_ B2.out 5).trans rfl; have hx6 : w5.cell? ⟨g2, 6, none⟩ = some (.int .i64 x.f4) := (bc_ B2.out 6).trans rfl; have hx7 : w5.cell? ⟨g2, 7, none⟩ = some (.slice A7 x.f5.length c7) := (bc_ B2.out 7).trans rfl; have hz0 : w5.cell? ⟨g3, 0, none⟩ = some (.int .u64 x.f0.f0) := (bc_ B3.out 0).trans rfl; have hz1 : w5.cell? ⟨g3, 1, none⟩ = some (.int .i64 x.f0.f1) := (bc_ B3.out 1).trans rfl; have hz2 : w5.cell? ⟨g3, 2, none⟩ = some (.int .i64 x.f0.f2) := (bc_ B3.out 2).trans rfl; have hz3 : w5.cell? ⟨g3, 3, none⟩ = some (.slice E3 x.f1.length e3) := (bc_ B3.out 3).trans rfl; have hz4 : w5.cell? ⟨g3, 4, none⟩ = some (.slice E4 x.f2.length e4) := (bc_ B3.out 4).trans rfl; have hz5 : w5.cell? ⟨g3, 5, none⟩ = some (.slice E5 x.f3.length e5) := (bc_ B3.out 5).trans rfl; have hz6 : w5.cell? ⟨g3, 6, none⟩ = some (.int .i64 x.f4) := (bc_ B3.out 6).trans rfl; have hz7 : w5.cell? ⟨g3, 7, none⟩ = some (.slice E7 x.f5.length e7) := (bc_ B3.out 7).trans rfl))
 clear hx0 hz0 hx1 hz1 hx2 hz2 hx3 hz3 hx4 hz4 hx5 hz5 hx6 hz6 hx7 hz7
 go_loopg [48] x.f2.length (fun kq v48 w' => ∃ i : Nat, v48 = .int .i64 (i : Int) ∧ Qz (i + kq = x.f2.length) ∧ Qz (w'.heap[g2]? = some (.cells #[.int .u64 x.f0.f0, .int .i64 x.f0.f1, .int .i64 x.f0.f2, .slice A3 x.f1.length c3, .slice A4 x.f2.length c4, .slice A5 x.f3.length c5, .int .i64 x.f4, .slice A7 x.f5.length c7] 30 (0, 0))) ∧ Qz (w'.heap[g3]? = some (.cells #[.int .u64 x.f0.f0, .int .i64 x.f0.f1, .int .i64 x.f0.f2, .slice E3 x.f1.length e3, .slice E4 x.f2.length e4, .slice E5 x.f3.length e5, .int .i64 x.f4, .slice E7 x.f5.length e7] 30 (0, 0))) ∧ Qz (Below w.heap.size w w'))
 case atStart => exact ⟨0, rfl, ⟨by simp⟩, B2, B3, HB⟩
 case round =>
  clear B2 B3 HB
  obtain ⟨i, rfl, HI, B2, B3, HB⟩ := hrel
  cases gk with
  | zero =>
   have y1 : decide ((i : Int) < (x.f2.length : Int)) = false := decide_eq_false (by have := HI.out; omega)
   have y2 : decide (i < x.f2.length) = false := decide_eq_false (by have := HI.out; omega)
   have hx0 : wr.cell? ⟨g2, 0, none⟩ = some (.int .u64 x.f0.f0) := (bc_ B2.out 0).trans rfl
   have hx1 : wr.cell? ⟨g2, 1, none⟩ = some (.int .i64 x.f0.f1) := (bc_ B2.out 1).trans rfl
   have hx2 : wr.cell? ⟨g2, 2, none⟩ = some (.int .i64 x.f0.f2) := (bc_ B2.out 2).trans rfl
   have hx3 : wr.cell? ⟨g2, 3, none⟩ = some (.slice A3 x.f1.length c3) := (bc_ B2.out 3).trans rfl
   have hx4 : wr.cell? ⟨g2, 4, none⟩ = some (.slice A4 x.f2.length c4) := (bc_ B2.out 4).trans rfl
   have hx5 : wr.cell? ⟨g2, 5, none⟩ = some (.slice A5 x.f3.length c5) := (bc_ B2.out 5).trans rfl
   have hx6 : wr.cell? ⟨g2, 6, none⟩ = some (.int .i64 x.f4) := (bc_ B2.out 6).trans rfl
   have hx7 : wr.cell? ⟨g2, 7, none⟩ = some (.slice A7 x.f5.length c7) := (bc_ B2.out 7).trans rfl
   have hz0 : wr.cell? ⟨g3, 0, none⟩ = some (.int .u64 x.f0.f0) := (bc_ B3.out 0).trans rfl
   have hz1 : wr.cell? ⟨g3, 1, none⟩ = some (.int .i64 x.f0.f1) := (bc_ B3.out 1).trans rfl
   have hz2 : wr.cell? ⟨g3, 2, none⟩ = some (.int .i64 x.f0.f2) := (bc_ B3.out 2).trans rfl
   have hz3 : wr.cell? ⟨g3, 3, none⟩ = some (.slice E3 x.f1.length e3) := (bc_ B3.out 3).trans rfl
   have hz4 : wr.cell? ⟨g3, 4, none⟩ = some (.slice E4 x.f2.length e4) := (bc_ B3.out 4).trans rfl
   have hz5 : wr.cell? ⟨g3, 5, none⟩ = some (.slice E5 x.f3.length e5) := (bc_ B3.out 5).trans rfl
   have hz6 : wr.cell? ⟨g3, 6, none⟩ = some (.int .i64 x.f4) := (bc_ B3.out 6).trans rfl
   have hz7 : wr.cell? ⟨g3, 7, none⟩ = some (.slice E7 x.f5.length e7) := (bc_ B3.out 7).trans rfl
   go_wp2_with (go_at_call 34; refine (jSS.calls kc A7 c7 x.f5 E7 e7 x.f5 true wr (Kd.F_now (HX.out.below HB.out).r7) HX.out.l7 (Kd.F_now (HY.out.below HB.out).r7) HY.out.l7 HKC.out).mono ?_; rintro e wc ⟨rfl, hbc⟩; have HB := Qz.mk (HB.out.trans (hbc.mono HB.out.size)); clear hbc)
   go_ret
   exact ⟨rfl, HB.out⟩
  | succ k1 =>
   have hil : i < x.f2.length := by have := HI.out; omega
   have HIL := Qz.mk hil
   have y1 : decide ((i : Int) < (x.f2.length : Int)) = true := decide_eq_true (by omega)
   have y2 : decide (i < x.f2.length) = true := decide_eq_true hil
   have p1 : (0 : Int) ≤ (i : Int) := by omega
   have q1 : (i : Int) < (x.f2.length : Int) := by omega
   obtain ⟨ad, Ai, ci, ea, ha0, ha1, ha2, ha3, ha4, hla, hia⟩ := at_T72 (Kd.F_now HX.out.r4) (i : Int) p1 q1
   obtain ⟨bd, Bi, bi, eb, hb0, hb1, hb2, hb3, hb4, hlb, hib⟩ := at_T72 (Kd.F_now HY.out.r4) (i : Int) p1 q1
   subst ea
   subst eb
   have HDL := Qz.mk (show (r72 x.f2 (i : Int)).f4.length < 17592186044416 from HAD.out _ (by simp only [r72, Int.toNat_natCast]; rw [List.getD_eq_getElem?_getD, List.getElem?_eq_getElem hil]; exact List.getElem_mem _))
   have HLA := Qz.mk hla
   have HLB := Qz.mk hlb
   have HDA := Qz.mk (Kd.C_F (Kd.heap_int .u64) hia)
   have HDB := Qz.mk (Kd.C_F (Kd.heap_int .u64) hib)
   clear hla hlb hia hib hil
   replace ha0 := bcel HB.out ha0
   replace ha1 := bcel HB.out ha1
   replace ha2 := bcel HB.out ha2
   replace ha3 := bcel HB.out ha3
   replace ha4 := bcel HB.out ha4
   replace hb0 := bcel HB.out hb0
   replace hb1 := bcel HB.out hb1
   replace hb2 := bcel HB.out hb2
   replace hb3 := bcel HB.out hb3
   replace hb4 := bcel HB.out hb4
   simp only [Int.toNat_natCast] at ha0 ha1 ha2 ha3 ha4 hb0 hb1 hb2 hb3 hb4
   replace p1 := eq_true p1
   replace q1 := eq_true q1
   go_wp2
   have B2 := Qz.mk (bkd B2.out)
   have B3 := Qz.mk (bkd B3.out)
   have HB := Qz.mk (bd1 HB.out)
   have HW := Qz.mk (Below.refl wr.drew.heap.size wr.drew)
   have Ta0 := Qz.mk (show wr.drew.cell? _ = _ from ha0)
   have Ta1 := Qz.mk (show wr.drew.cell? _ = _ from ha1)
   have Ta2 := Qz.mk (show wr.drew.cell? _ = _ from ha2)
   have Ta3 := Qz.mk (show wr.drew.cell? _ = _ from ha3)
   have Ta4 := Qz.mk (show wr.drew.cell? _ = _ from ha4)
   have Tb0 := Qz.mk (show wr.drew.cell? _ = _ from hb0)
   have Tb1 := Qz.mk (show wr.drew.cell? _ = _ from hb1)
   have Tb2 := Qz.mk (show wr.drew.cell? _ = _ from hb2)
   have Tb3 := Qz.mk (show wr.drew.cell? _ = _ from hb3)
   have Tb4 := Qz.mk (show wr.drew.cell? _ = _ from hb4)
   clear ha0 ha1 ha2 ha3 ha4 hb0 hb1 hb2 hb3 hb4
   refine start_ (n := 14) (S := fun w' => w'.cell? ⟨g2, 4, none⟩ = some (.slice (some ad) x.f2.length c4) ∧ w'.cell? ⟨g3, 4, none⟩ = some (.slice (some bd) x.f2.length e4) ∧ w'.cell? (ad.add (i * 5)) = some (.int .i64 (r72 x.f2 (i : Int)).f0) ∧ w'.cell? ⟨(ad.add (i * 5)).block, (ad.add (i * 5)).off + 1, none⟩ = some (.int .i64 (r72 x.f2 (i : Int)).f1) ∧ w'.cell? ⟨(ad.add (i * 5)).block, (ad.add (i * 5)).off + 2, none⟩ = some (.int .i64 (r72 x.f2 (i : Int)).f2) ∧ w'.cell? ⟨(ad.add (i * 5)).block, (ad.add (i * 5)).off + 3, none⟩ = some (.bool (r72 x.f2 (i : Int)).f3) ∧ w'.cell? ⟨(ad.add (i * 5)).block, (ad.add (i * 5)).off + 4, none⟩ = some (.slice Ai (r72 x.f2 (i : Int)).f4.length ci) ∧ w'.cell? (bd.add (i * 5)) = some (.int .i64 (r72 x.f2 (i : Int)).f0) ∧ w'.cell? ⟨(bd.add (i * 5)).block, (bd.add (i * 5)).off + 1, none⟩ = some (.int .i64 (r72 x.f2 (i : Int)).f1) ∧ w'.cell? ⟨(bd.add (i * 5)).block, (bd.add (i * 5)).off + 2, none⟩ = some (.int .i64 (r72 x.f2 (i : Int)).f2) ∧ w'.cell? ⟨(bd.add (i * 5)).block, (bd.add (i * 5)).off + 3, none⟩ = some (.bool (r72 x.f2 (i : Int)).f3) ∧ w'.cell? ⟨(bd.add (i * 5)).block, (bd.add (i * 5)).off + 4, none⟩ = some (.slice Bi (r72 x.f2 (i : Int)).f4.length bi)) (ds := [13]) (ba_ 14 0) (by kernel_rfl) rfl rfl ⟨(bc_ B2.out 4).trans rfl, (bc_ B3.out 4).trans rfl, Ta0.out, Ta1.out, Ta2.out, Ta3.out, Ta4.out, Tb0.out, Tb1.out, Tb2.out, Tb3.out, Tb4.out⟩ (fun hHeld => ?_)
   generalize wr.drew = wa at B2 B3 HB HW Ta0 Ta1 Ta2 Ta3 Ta4 Tb0 Tb1 Tb2 Tb3 Tb4 hHeld ⊢
   refine with_tabW refSame.tab6 refSame.bits6 (fun HT_ HW_ => ?_)
   refine pure_ (i := 0) (N := some 51) (v := ?_) (a' := ?_) (ba_ 14 1) rfl rfl (any_of HT_.out (by kernel_rfl)) (fun _ _ _ h => h) (Or.inl ⟨by rfl, ?_⟩) ?_ ?_
   rotate_left
   ·intro w'
    go_simp
    with_reducible rfl
   rotate_left
   ·simp only [aw_]
    rfl
   refine pure_ (i := 2) (N := some 53) (v := ?_) (a' := ?_) (ba_ 14 5) rfl rfl (any_of HT_.out (by kernel_rfl)) (fun _ _ _ h => h) (Or.inl ⟨by rfl, ?_⟩) ?_ ?_
   rotate_left
   ·intro w'
    go_simp
    with_reducible rfl
   rotate_left
   ·simp only [aw_]
    rfl
   refine pure_ (i := 5) (N := some 56) (v := ?_) (a' := ?_) (ba_ 14 37) rfl rfl (any_of HT_.out (by kernel_rfl)) (fun _ _ _ h => h) (Or.inl ⟨by rfl, ?_⟩) ?_ ?_
   rotate_left
   ·intro w'
    go_simp
    with_reducible rfl
   rotate_left
   ·simp only [aw_]
    rfl
   refine pure_ (i := 7) (N := some 58) (v := ?_) (a' := ?_) (ba_ 14 165) rfl rfl (any_of HT_.out (by kernel_rfl)) (fun _ _ _ h => h) (Or.inl ⟨by rfl, ?_⟩) ?_ ?_
   rotate_left
   ·intro w'
    go_simp
    with_reducible rfl
   rotate_left
   ·simp only [aw_]
    rfl
   refine take_ (i := 1) (N := some 52) (v := ?_) (a' := ?_) (ba_ 14 167) rfl rfl (take_ofW HT_.out HW_.out (by kernel_rfl)) (fun _ _ _ h => h) (Or.inl ⟨by rfl, ?_⟩) hHeld ?_ ?_
   rotate_left
   ·rintro w' ⟨s0, s1, s2, s3, s4, s5, s6, s7, s8, s9, s10, s11⟩
    go_simp
    with_reducible rfl
   rotate_left
   ·simp only [aw_]
    rfl
   refine take_ (i := 6) (N := some 57) (v := ?_) (a' := ?_) (ba_ 14 231) rfl rfl (take_ofW HT_.out HW_.out (by kernel_rfl)) (fun _ _ _ h => h) (Or.inl ⟨by rfl, ?_⟩) hHeld ?_ ?_
   rotate_left
   ·rintro w' ⟨s0, s1, s2, s3, s4, s5, s6, s7, s8, s9, s10, s11⟩
    go_simp
    with_reducible rfl
   rotate_left
   ·simp only [aw_]
    rfl
   refine pure_ (i := 3) (N := some 54) (v := ?_) (a' := ?_) (ba_ 14 239) rfl rfl (any_of HT_.out (by kernel_rfl)) (fun _ _ _ h => h) (Or.inl ⟨by rfl, ?_⟩) ?_ ?_
   rotate_left
   ·intro w'
    go_simp
    with_reducible rfl
   rotate_left
   ·simp only [aw_]
    rfl
   refine pure_ (i := 8) (N := some 59) (v := ?_) (a' := ?_) (ba_ 14 495) rfl rfl (any_of HT_.out (by kernel_rfl)) (fun _ _ _ h => h) (Or.inl ⟨by rfl, ?_⟩) ?_ ?_
   rotate_left
   ·intro w'
    go_simp
    with_reducible rfl
   rotate_left
   ·simp only [aw_]
    rfl
   refine take_ (i := 4) (N := some 55) (v := ?_) (a' := ?_) (ba_ 14 511) rfl rfl (take_ofW HT_.out HW_.out (by kernel_rfl)) (fun _ _ _ h => h) (Or.inl ⟨by rfl, ?_⟩) hHeld ?_ ?_
   rotate_left
   ·rintro w' ⟨s0, s1, s2, s3, s4, s5, s6, s7, s8, s9, s10, s11⟩
    go_simp
    with_reducible rfl
   rotate_left
   ·simp only [aw_]
    rfl
   refine take_ (i := 9) (N := some 60) (v := ?_) (a' := ?_) (ba_ 14 1023) rfl rfl (take_ofW HT_.out HW_.out (by kernel_rfl)) (fun _ _ _ h => h) (Or.inl ⟨by rfl, ?_⟩) hHeld ?_ ?_
   rotate_left
   ·rintro w' ⟨s0, s1, s2, s3, s4, s5, s6, s7, s8, s9, s10, s11⟩
    go_simp
    with_reducible rfl
   rotate_left
   ·simp only [aw_]
    rfl
   refine join_ (σ := Nat × Nat) 2 (ba_ 14 4095) (fun s => [(6, .pointer (some ⟨s.1, 0, none⟩)), (7, .pointer (some ⟨s.2, 0, none⟩))]) (SameMid wa) ?_ ?_
   rotate_left
   ·intro hCont
    refine two_ (i := 10) (j := 11) (Ni := some 6) (Nj := some 7) (ba_ 14 2047) (ba_ 14 3071) rfl rfl rfl rfl (by kernel_rfl) (by decide) (by decide) (fun K hK => ?_) (fun K hK => ?_)
    ·skip
     refine value_ (v := .pointer (some ⟨(wa).heap.size, 0, none⟩)) (w1 := (wa).alloc (.cells #[.int .i64 0, .int .i64 0, .int .i64 0, .bool false, .slice none 0 0] 72 (0, 0))) (by rfl) rfl (by first | (go_simp; done) | (go_simp; rfl)) ?_
     refine hK.out _ _ ⟨bcel (ba1 (Below.refl _ _) _) ((bc_ B2.out 4).trans rfl), bcel (ba1 (Below.refl _ _) _) ((bc_ B3.out 4).trans rfl), bcel (ba1 (Below.refl _ _) _) (Ta0.out), bcel (ba1 (Below.refl _ _) _) (Ta1.out), bcel (ba1 (Below.refl _ _) _) (Ta2.out), bcel (ba1 (Below.refl _ _) _) (Ta3.out), bcel (ba1 (Below.refl _ _) _) (Ta4.out), bcel (ba1 (Below.refl _ _) _) (Tb0.out), bcel (ba1 (Below.refl _ _) _) (Tb1.out), bcel (ba1 (Below.refl _ _) _) (Tb2.out), bcel (ba1 (Below.refl _ _) _) (Tb3.out), bcel (ba1 (Below.refl _ _) _) (Tb4.out)⟩ (fun hHeld => ?_)
     clear hK K
     refine norm_ (a' := ?_) ?_ ?_
     rotate_left
     ·show Act.put _ (some 6) _ = _
      simp only [aw_]
      rfl
     refine one_ (i := 11) (N := some 7) (ba_ 14 4095) rfl rfl (one_of HT_.out (by kernel_rfl)) (by decide) (fun K hK => ?_)
     have hsz : (wa.alloc (.cells #[.int .i64 0, .int .i64 0, .int .i64 0, .bool false, .slice none 0 0] 72 (0, 0))).heap.size = wa.heap.size + 1 := Array.size_push _
     refine value_ (v := .pointer (some ⟨(wa.alloc (.cells #[.int .i64 0, .int .i64 0, .int .i64 0, .bool false, .slice none 0 0] 72 (0, 0))).heap.size, 0, none⟩)) (w1 := (wa.alloc (.cells #[.int .i64 0, .int .i64 0, .int .i64 0, .bool false, .slice none 0 0] 72 (0, 0))).alloc (.cells #[.int .i64 0, .int .i64 0, .int .i64 0, .bool false, .slice none 0 0] 72 (0, 0))) (by rfl) rfl (by first | (go_simp; done) | (go_simp; rfl)) ?_
     refine hK.out _ _ ⟨bcel (ba1 (ba1 (Below.refl _ _) _) _) ((bc_ B2.out 4).trans rfl), bcel (ba1 (ba1 (Below.refl _ _) _) _) ((bc_ B3.out 4).trans rfl), bcel (ba1 (ba1 (Below.refl _ _) _) _) (Ta0.out), bcel (ba1 (ba1 (Below.refl _ _) _) _) (Ta1.out), bcel (ba1 (ba1 (Below.refl _ _) _) _) (Ta2.out), bcel (ba1 (ba1 (Below.refl _ _) _) _) (Ta3.out), bcel (ba1 (ba1 (Below.refl _ _) _) _) (Ta4.out), bcel (ba1 (ba1 (Below.refl _ _) _) _) (Tb0.out), bcel (ba1 (ba1 (Below.refl _ _) _) _) (Tb1.out), bcel (ba1 (ba1 (Below.refl _ _) _) _) (Tb2.out), bcel (ba1 (ba1 (Below.refl _ _) _) _) (Tb3.out), bcel (ba1 (ba1 (Below.refl _ _) _) _) (Tb4.out)⟩ (fun hHeld => ?_)
     clear hK K
     refine norm_ (a' := ?_) ?_ ?_
     rotate_left
     ·show Act.put _ (some 7) _ = _
      simp only [aw_]
      rfl
     exact norm_ (by first | (simp only [putAll, Act.put, List.setIfInBounds_toArray, List.set_cons_zero, List.set_cons_succ]; done) | (simp only [putAll, Act.put, List.setIfInBounds_toArray, List.set_cons_zero, List.set_cons_succ]; rfl)) (hCont (wa.heap.size, (wa.alloc (.cells #[.int .i64 0, .int .i64 0, .int .i64 0, .bool false, .slice none 0 0] 72 (0, 0))).heap.size) _ ⟨bka (blk_new wa _) _, blk_new (wa.alloc (.cells #[.int .i64 0, .int .i64 0, .int .i64 0, .bool false, .slice none 0 0] 72 (0, 0))) _, ba1 (ba1 (Below.refl _ _) _) _, Nat.le_refl _, by show wa.heap.size ≤ (wa.alloc (.cells #[.int .i64 0, .int .i64 0, .int .i64 0, .bool false, .slice none 0 0] 72 (0, 0))).heap.size; rw [hsz]; exact Nat.le_succ _, by show wa.heap.size ≠ (wa.alloc (.cells #[.int .i64 0, .int .i64 0, .int .i64 0, .bool false, .slice none 0 0] 72 (0, 0))).heap.size; rw [hsz]; omega⟩)
    ·skip
     refine value_ (v := .pointer (some ⟨(wa).heap.size, 0, none⟩)) (w1 := (wa).alloc (.cells #[.int .i64 0, .int .i64 0, .int .i64 0, .bool false, .slice none 0 0] 72 (0, 0))) (by rfl) rfl (by first | (go_simp; done) | (go_simp; rfl)) ?_
     refine hK.out _ _ ⟨bcel (ba1 (Below.refl _ _) _) ((bc_ B2.out 4).trans rfl), bcel (ba1 (Below.refl _ _) _) ((bc_ B3.out 4).trans rfl), bcel (ba1 (Below.refl _ _) _) (Ta0.out), bcel (ba1 (Below.refl _ _) _) (Ta1.out), bcel (ba1 (Below.refl _ _) _) (Ta2.out), bcel (ba1 (Below.refl _ _) _) (Ta3.out), bcel (ba1 (Below.refl _ _) _) (Ta4.out), bcel (ba1 (Below.refl _ _) _) (Tb0.out), bcel (ba1 (Below.refl _ _) _) (Tb1.out), bcel (ba1 (Below.refl _ _) _) (Tb2.out), bcel (ba1 (Below.refl _ _) _) (Tb3.out), bcel (ba1 (Below.refl _ _) _) (Tb4.out)⟩ (fun hHeld => ?_)
     clear hK K
     refine norm_ (a' := ?_) ?_ ?_
     rotate_left
     ·show Act.put _ (some 7) _ = _
      simp only [aw_]
      rfl
     refine one_ (i := 10) (N := some 6) (ba_ 14 4095) rfl rfl (one_of HT_.out (by kernel_rfl)) (by decide) (fun K hK => ?_)
     have hsz : (wa.alloc (.cells #[.int .i64 0, .int .i64 0, .int .i64 0, .bool false, .slice none 0 0] 72 (0, 0))).heap.size = wa.heap.size + 1 := Array.size_push _
     refine value_ (v := .pointer (some ⟨(wa.alloc (.cells #[.int .i64 0, .int .i64 0, .int .i64 0, .bool false, .slice none 0 0] 72 (0, 0))).heap.size, 0, none⟩)) (w1 := (wa.alloc (.cells #[.int .i64 0, .int .i64 0, .int .i64 0, .bool false, .slice none 0 0] 72 (0, 0))).alloc (.cells #[.int .i64 0, .int .i64 0, .int .i64 0, .bool false, .slice none 0 0] 72 (0, 0))) (by rfl) rfl (by first | (go_simp; done) | (go_simp; rfl)) ?_
     refine hK.out _ _ ⟨bcel (ba1 (ba1 (Below.refl _ _) _) _) ((bc_ B2.out 4).trans rfl), bcel (ba1 (ba1 (Below.refl _ _) _) _) ((bc_ B3.out 4).trans rfl), bcel (ba1 (ba1 (Below.refl _ _) _) _) (Ta0.out), bcel (ba1 (ba1 (Below.refl _ _) _) _) (Ta1.out), bcel (ba1 (ba1 (Below.refl _ _) _) _) (Ta2.out), bcel (ba1 (ba1 (Below.refl _ _) _) _) (Ta3.out), bcel (ba1 (ba1 (Below.refl _ _) _) _) (Ta4.out), bcel (ba1 (ba1 (Below.refl _ _) _) _) (Tb0.out), bcel (ba1 (ba1 (Below.refl _ _) _) _) (Tb1.out), bcel (ba1 (ba1 (Below.refl _ _) _) _) (Tb2.out), bcel (ba1 (ba1 (Below.refl _ _) _) _) (Tb3.out), bcel (ba1 (ba1 (Below.refl _ _) _) _) (Tb4.out)⟩ (fun hHeld => ?_)
     clear hK K
     refine norm_ (a' := ?_) ?_ ?_
     rotate_left
     ·show Act.put _ (some 6) _ = _
      simp only [aw_]
      rfl
     exact norm_ (by first | (simp only [putAll, Act.put, List.setIfInBounds_toArray, List.set_cons_zero, List.set_cons_succ]; done) | (simp only [putAll, Act.put, List.setIfInBounds_toArray, List.set_cons_zero, List.set_cons_succ]; rfl)) (hCont ((wa.alloc (.cells #[.int .i64 0, .int .i64 0, .int .i64 0, .bool false, .slice none 0 0] 72 (0, 0))).heap.size, wa.heap.size) _ ⟨blk_new (wa.alloc (.cells #[.int .i64 0, .int .i64 0, .int .i64 0, .bool false, .slice none 0 0] 72 (0, 0))) _, bka (blk_new wa _) _, ba1 (ba1 (Below.refl _ _) _) _, by show wa.heap.size ≤ (wa.alloc (.cells #[.int .i64 0, .int .i64 0, .int .i64 0, .bool false, .slice none 0 0] 72 (0, 0))).heap.size; rw [hsz]; exact Nat.le_succ _, Nat.le_refl _, by show (wa.alloc (.cells #[.int .i64 0, .int .i64 0, .int .i64 0, .bool false, .slice none 0 0] 72 (0, 0))).heap.size ≠ wa.heap.size; rw [hsz]; omega⟩)
   intro s w6 hMid
   obtain ⟨s1, s2⟩ := s
   have C6 := Qz.mk (show w6.heap[s1]? = _ from hMid.b6)
   have C7 := Qz.mk (show w6.heap[s2]? = _ from hMid.b7)
   have HW := Qz.mk hMid.hb
   have L1 := Qz.mk (show wa.heap.size ≤ s1 from hMid.l1)
   have L2 := Qz.mk (show wa.heap.size ≤ s2 from hMid.l2)
   have NE := Qz.mk (show s1 ≠ s2 from hMid.ne)
   clear hMid
   refine norm_ (a' := ?_) ?_ ?_
   rotate_left
   ·simp only [putAll, Act.put, List.setIfInBounds_toArray, List.set_cons_zero, List.set_cons_succ]
    rfl
   refine one_ (i := 12) (N := none) (ba_ 14 8191) rfl rfl (one_of HT_.out (by kernel_rfl)) (by decide) (fun K hK => ?_)
   have hv0 : w6.cell? ⟨s1, 0, none⟩ = some (.int .i64 0) := (bc_ C6.out 0).trans rfl
   have hw0 := bf_ C6.out 0
   have hv1 : w6.cell? ⟨s1, 1, none⟩ = some (.int .i64 0) := (bc_ C6.out 1).trans rfl
   have hw1 := bf_ C6.out 1
   have hv2 : w6.cell? ⟨s1, 2, none⟩ = some (.int .i64 0) := (bc_ C6.out 2).trans rfl
   have hw2 := bf_ C6.out 2
   have hv3 : w6.cell? ⟨s1, 3, none⟩ = some (.bool false) := (bc_ C6.out 3).trans rfl
   have hw3 := bf_ C6.out 3
   have hv4 : w6.cell? ⟨s1, 4, none⟩ = some (.slice none 0 0) := (bc_ C6.out 4).trans rfl
   have hw4 := bf_ C6.out 4
   refine skip_ (w1 := put5 w6 s1 (.int .i64 (r72 x.f2 (i : Int)).f0) (.int .i64 (r72 x.f2 (i : Int)).f1) (.int .i64 (r72 x.f2 (i : Int)).f2) (.bool (r72 x.f2 (i : Int)).f3) (.slice Ai (r72 x.f2 (i : Int)).f4.length ci)) (by rfl) rfl ?_ ?_
   ·go_simp
    rfl
   clear hv0 hw0 hv1 hw1 hv2 hw2 hv3 hw3 hv4 hw4
   have hKQ := kept5 w6 s1 (.int .i64 (r72 x.f2 (i : Int)).f0) (.int .i64 (r72 x.f2 (i : Int)).f1) (.int .i64 (r72 x.f2 (i : Int)).f2) (.bool (r72 x.f2 (i : Int)).f3) (.slice Ai (r72 x.f2 (i : Int)).f4.length ci)
   have C7 := Qz.mk (bkk C7.out hKQ (Ne.symm NE.out))
   have C6 := Qz.mk (blk5 C6.out (.int .i64 (r72 x.f2 (i : Int)).f0) (.int .i64 (r72 x.f2 (i : Int)).f1) (.int .i64 (r72 x.f2 (i : Int)).f2) (.bool (r72 x.f2 (i : Int)).f3) (.slice Ai (r72 x.f2 (i : Int)).f4.length ci))
   have HW := Qz.mk (below5 HW.out L1.out (.int .i64 (r72 x.f2 (i : Int)).f0) (.int .i64 (r72 x.f2 (i : Int)).f1) (.int .i64 (r72 x.f2 (i : Int)).f2) (.bool (r72 x.f2 (i : Int)).f3) (.slice Ai (r72 x.f2 (i : Int)).f4.length ci))
   clear hKQ
   generalize put5 w6 s1 (.int .i64 (r72 x.f2 (i : Int)).f0) (.int .i64 (r72 x.f2 (i : Int)).f1) (.int .i64 (r72 x.f2 (i : Int)).f2) (.bool (r72 x.f2 (i : Int)).f3) (.slice Ai (r72 x.f2 (i : Int)).f4.length ci) = w7 at C6 C7 HW ⊢
   refine hK.out _ _ ⟨bcel HW.out ((bc_ B2.out 4).trans rfl), bcel HW.out ((bc_ B3.out 4).trans rfl), bcel HW.out (Ta0.out), bcel HW.out (Ta1.out), bcel HW.out (Ta2.out), bcel HW.out (Ta3.out), bcel HW.out (Ta4.out), bcel HW.out (Tb0.out), bcel HW.out (Tb1.out), bcel HW.out (Tb2.out), bcel HW.out (Tb3.out), bcel HW.out (Tb4.out)⟩ (fun hHeld => ?_)
   clear hK K
   refine last_ (i := 13) (N := none) (ba_ 14 16383) rfl rfl (one_of HT_.out (by kernel_rfl)) (by decide) (fun K hK => ?_)
   have hv0 : w7.cell? ⟨s2, 0, none⟩ = some (.int .i64 0) := (bc_ C7.out 0).trans rfl
   have hw0 := bf_ C7.out 0
   have hv1 : w7.cell? ⟨s2, 1, none⟩ = some (.int .i64 0) := (bc_ C7.out 1).trans rfl
   have hw1 := bf_ C7.out 1
   have hv2 : w7.cell? ⟨s2, 2, none⟩ = some (.int .i64 0) := (bc_ C7.out 2).trans rfl
   have hw2 := bf_ C7.out 2
   have hv3 : w7.cell? ⟨s2, 3, none⟩ = some (.bool false) := (bc_ C7.out 3).trans rfl
   have hw3 := bf_ C7.out 3
   have hv4 : w7.cell? ⟨s2, 4, none⟩ = some (.slice none 0 0) := (bc_ C7.out 4).trans rfl
   have hw4 := bf_ C7.out 4
   refine skip_ (w1 := put5 w7 s2 (.int .i64 (r72 x.f2 (i : Int)).f0) (.int .i64 (r72 x.f2 (i : Int)).f1) (.int .i64 (r72 x.f2 (i : Int)).f2) (.bool (r72 x.f2 (i : Int)).f3) (.slice Bi (r72 x.f2 (i : Int)).f4.length bi)) (by rfl) rfl ?_ ?_
   ·go_simp
    rfl
   clear hv0 hw0 hv1 hw1 hv2 hw2 hv3 hw3 hv4 hw4
   have hKQ := kept5 w7 s2 (.int .i64 (r72 x.f2 (i : Int)).f0) (.int .i64 (r72 x.f2 (i : Int)).f1) (.int .i64 (r72 x.f2 (i : Int)).f2) (.bool (r72 x.f2 (i : Int)).f3) (.slice Bi (r72 x.f2 (i : Int)).f4.length bi)
   have C6 := Qz.mk (bkk C6.out hKQ NE.out)
   have C7 := Qz.mk (blk5 C7.out (.int .i64 (r72 x.f2 (i : Int)).f0) (.int .i64 (r72 x.f2 (i : Int)).f1) (.int .i64 (r72 x.f2 (i : Int)).f2) (.bool (r72 x.f2 (i : Int)).f3) (.slice Bi (r72 x.f2 (i : Int)).f4.length bi))
   have HW := Qz.mk (below5 HW.out L2.out (.int .i64 (r72 x.f2 (i : Int)).f0) (.int .i64 (r72 x.f2 (i : Int)).f1) (.int .i64 (r72 x.f2 (i : Int)).f2) (.bool (r72 x.f2 (i : Int)).f3) (.slice Bi (r72 x.f2 (i : Int)).f4.length bi))
   clear hKQ
   generalize put5 w7 s2 (.int .i64 (r72 x.f2 (i : Int)).f0) (.int .i64 (r72 x.f2 (i : Int)).f1) (.int .i64 (r72 x.f2 (i : Int)).f2) (.bool (r72 x.f2 (i : Int)).f3) (.slice Bi (r72 x.f2 (i : Int)).f4.length bi) = w8 at C6 C7 HW ⊢
   refine hK.out _ _ ?_
   clear hK K
   refine done_ (done_of HT_.out (by kernel_rfl)) ?_
   clear hHeld Ta0 Ta1 Ta2 Ta3 Ta4 Tb0 Tb1 Tb2 Tb3 Tb4
   have HDA := Qz.mk (Kd.F_below (Kd.F_below HDA.out HB.out) HW.out)
   have HDB := Qz.mk (Kd.F_below (Kd.F_below HDB.out HB.out) HW.out)
   have B2 := Qz.mk (bkb B2.out HW.out)
   have B3 := Qz.mk (bkb B3.out HW.out)
   have HB := Qz.mk (HB.out.trans (HW.out.mono HB.out.size))
   clear HW L1 L2 NE
   have hx0 : w8.cell? ⟨s1, 0, none⟩ = some (.int .i64 (r72 x.f2 (i : Int)).f0) := (bc_ C6.out 0).trans rfl
   have hx1 : w8.cell? ⟨s1, 1, none⟩ = some (.int .i64 (r72 x.f2 (i : Int)).f1) := (bc_ C6.out 1).trans rfl
   have hx2 : w8.cell? ⟨s1, 2, none⟩ = some (.int .i64 (r72 x.f2 (i : Int)).f2) := (bc_ C6.out 2).trans rfl
   have hx3 : w8.cell? ⟨s1, 3, none⟩ = some (.bool (r72 x.f2 (i : Int)).f3) := (bc_ C6.out 3).trans rfl
   have hx4 : w8.cell? ⟨s1, 4, none⟩ = some (.slice Ai (r72 x.f2 (i : Int)).f4.length ci) := (bc_ C6.out 4).trans rfl
   have hz0 : w8.cell? ⟨s2, 0, none⟩ = some (.int .i64 (r72 x.f2 (i : Int)).f0) := (bc_ C7.out 0).trans rfl
   have hz1 : w8.cell? ⟨s2, 1, none⟩ = some (.int .i64 (r72 x.f2 (i : Int)).f1) := (bc_ C7.out 1).trans rfl
   have hz2 : w8.cell? ⟨s2, 2, none⟩ = some (.int .i64 (r72 x.f2 (i : Int)).f2) := (bc_ C7.out 2).trans rfl
   have hz3 : w8.cell? ⟨s2, 3, none⟩ = some (.bool (r72 x.f2 (i : Int)).f3) := (bc_ C7.out 3).trans rfl
   have hz4 : w8.cell? ⟨s2, 4, none⟩ = some (.slice Bi (r72 x.f2 (i : Int)).f4.length bi) := (bc_ C7.out 4).trans rfl
   go_wp2_with (go_at_call 28; refine (j1S.calls ((r72 x.f2 (i : Int)).f4.length + 1) Ai ci (r72 x.f2 (i : Int)).f4 Bi bi (r72 x.f2 (i : Int)).f4 true w8 (Kd.F_now HDA.out) HLA.out (Kd.F_now HDB.out) HLB.out (same_at _ (by have := HDL.out; omega) _ (Nat.lt_succ_self _))).mono ?_; rintro e wd ⟨rfl, hbc⟩; have B2 := Qz.mk (bkb B2.out hbc.below); have B3 := Qz.mk (bkb B3.out hbc.below); have HB := Qz.mk (HB.out.trans (hbc.below.mono HB.out.size)); clear hbc)
   go_roundg k1
   case measure => exact Nat.lt_succ_self _
   case rel => exact ⟨i + 1, by simp; unfold wrap64; have := HAC.out; have := HIL.out; omega, ⟨by have := HI.out; omega⟩, B2, B3, HB⟩
end
end Go.Proofs.Ytkaikgbcnmfppaa.Nb
