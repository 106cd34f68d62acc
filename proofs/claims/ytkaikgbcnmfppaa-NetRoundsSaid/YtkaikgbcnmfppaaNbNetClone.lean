/- net.Clone walked. Made by mk_netclone.py. -/
import Derived.Test.YtkaikgbcnmfppaaNbWide
import Derived.Test.YtkaikgbcnmfppaaNbFSlicesCloneIntInt
import Derived.Test.YtkaikgbcnmfppaaNbFApiAct
import Derived.Test.YtkaikgbcnmfppaaNbFSlicesCloneUint64Uint6461
import Derived.Test.YtkaikgbcnmfppaaNbFApiSent
import Derived.BigRegion
namespace Go.Proofs.Ytkaikgbcnmfppaa.Nb
open Go Go.RowKit Go.Proofs.YtkaikgbcnmfppaaW.PrintWords Go.Proofs.YtkaikgbcnmfppaaW.PrintLast Go.Proofs.YtkaikgbcnmfppaaW.PrintMore
attribute [local go_sem] max2_int min2_int max_two min_two max_three min_three max_four min_four
set_option linter.unusedVariables false
set_option linter.unusedSimpArgs false
noncomputable section
/-- What Clone hands back: each row with the blocks it lies in. -/
structure Clo (w w' : World) (P : Nat → Prop) (x : S30) (m4 m5 m7 : Nat) (B3 : Option Addr) (b3 : Nat) (B4 : Option Addr) (b4 : Nat) (B5 : Option Addr) (b5 : Nat) (B7 : Option Addr) (b7 : Nat) : Prop where
 h4 : w.heap.size ≤ m4
 h5 : m4 ≤ m5
 h7 : m5 ≤ m7
 l3 : x.f1.length ≤ b3
 r3 : Kd.F (Kd.int .i64) w' (fun k => w.heap.size ≤ k ∧ k < m4) B3 x.f1.length x.f1
 l4 : x.f2.length ≤ b4
 r4 : Kd.F k72 w' (fun k => (P k ∧ k < w.heap.size) ∨ (m4 ≤ k ∧ k < m5)) B4 x.f2.length x.f2
 n5 : Kd.N kD 51 w' m5 (fun k => (P k ∧ k < w.heap.size) ∨ (m5 ≤ k ∧ k < m7)) (.slice B5 x.f3.length b5) x.f3
 n7 : Kd.N k77 77 w' m7 (fun k => (P k ∧ k < w.heap.size) ∨ m7 ≤ k) (.slice B7 x.f5.length b7) x.f5
 bl : Below w.heap.size w w'
section
variable {w w' : World} {P : Nat → Prop} {x : S30} {m4 m5 m7 : Nat} {B3 : Option Addr} {b3 : Nat} {B4 : Option Addr} {b4 : Nat} {B5 : Option Addr} {b5 : Nat} {B7 : Option Addr} {b7 : Nat} {ok : Nat → Prop}
theorem Clo.f3 (h : Clo w w' P x m4 m5 m7 B3 b3 B4 b4 B5 b5 B7 b7) (hok : ∀ k, ((P k ∧ k < w.heap.size) ∨ w.heap.size ≤ k) → some k ≠ (Value.slice B7 x.f5.length b7).ownBlock → ok k) : Kd.F (Kd.int .i64) w' ok B3 x.f1.length x.f1 :=
 Kd.F_mono h.r3 (fun k hk => hok k (.inr hk.1) (fun e => by have := Kd.N_base h.n7 k e.symm; have := h.h5; have := h.h7; omega))
theorem Clo.f4 (h : Clo w w' P x m4 m5 m7 B3 b3 B4 b4 B5 b5 B7 b7) (hok : ∀ k, ((P k ∧ k < w.heap.size) ∨ w.heap.size ≤ k) → some k ≠ (Value.slice B7 x.f5.length b7).ownBlock → ok k) : Kd.F k72 w' ok B4 x.f2.length x.f2 :=
 Kd.F_mono h.r4 (fun k hk => hok k (hk.imp id (fun q => Nat.le_trans h.h4 q.1)) (fun e => by have := Kd.N_base h.n7 k e.symm; have := h.h4; have := h.h5; have := h.h7; omega))
theorem Clo.f5 (h : Clo w w' P x m4 m5 m7 B3 b3 B4 b4 B5 b5 B7 b7) (hok : ∀ k, ((P k ∧ k < w.heap.size) ∨ w.heap.size ≤ k) → some k ≠ (Value.slice B7 x.f5.length b7).ownBlock → ok k) : Kd.F kD w' ok B5 x.f3.length x.f3 :=
 Kd.F_mono (Kd.N_F h.n5) (fun k hk => hok k (hk.imp id (fun q => by have := h.h4; have := h.h5; omega)) (fun e => by have := Kd.N_base h.n7 k e.symm; have := h.h4; have := h.h5; have := h.h7; omega))
theorem Clo.s7 (h : Clo w w' P x m4 m5 m7 B3 b3 B4 b4 B5 b5 B7 b7) (hok : ∀ k, ((P k ∧ k < w.heap.size) ∨ w.heap.size ≤ k) → ok k) : Kd.N k77 77 w' w.heap.size ok (.slice B7 x.f5.length b7) x.f5 :=
 Kd.N_mono (Kd.N_lower h.n7 (by have := h.h4; have := h.h5; have := h.h7; omega)) (fun k hk => hok k (hk.imp id (fun q => by have := h.h4; have := h.h5; have := h.h7; omega)))
theorem Clo.l5 (h : Clo w w' P x m4 m5 m7 B3 b3 B4 b4 B5 b5 B7 b7) : x.f3.length ≤ b5 := (Kd.N_reads' h.n5).2.1
theorem Clo.l7 (h : Clo w w' P x m4 m5 m7 B3 b3 B4 b4 B5 b5 B7 b7) : x.f5.length ≤ b7 := (Kd.N_reads' h.n7).2.1
theorem Clo.own7 (h : Clo w w' P x m4 m5 m7 B3 b3 B4 b4 B5 b5 B7 b7) : ∀ k, some k = (Value.slice B7 x.f5.length b7).ownBlock → w.heap.size ≤ k := fun k e => by have := Kd.N_base h.n7 k e.symm; have := h.h4; have := h.h5; have := h.h7; omega
end
/-- A new row of numbers, with the blocks from its world on. -/
theorem fresh_F {w : World} {b : Nat} {A : Option Addr} {n c : Nat} {k : IntKind} {e : Nat} {ok : Nat → Prop} {xs : List Int} (h : Kd.R (Kd.int k) e w b ok (.slice A n c) xs) : Kd.F (Kd.int k) w (fun j => b ≤ j ∧ j < w.heap.size) A n xs :=
 Kd.F_mono (Kd.F_bound (Kd.R_F (Kd.R_tight rfl h))) (fun j hj => ⟨Kd.R_base h j hj.1.symm, hj.2⟩)
theorem cln59 {d : List Int} (h : d.length < 17592186044416) : scii.f d = some d := by
 unfold scii.f
 simp only [Option.bind_some, List.length_nil, Nat.zero_add, if_pos h, List.nil_append]
theorem cln60 {d : List S72} (h : d.length < 2513169434916) : api_Act.f d = some d := by
 unfold api_Act.f
 simp only [Option.bind_some, List.length_nil, Nat.zero_add, if_pos h, List.nil_append]
theorem cln61 {d : List Int} (h : d.length < 17592186044416) : sc61.f d = some d := by
 unfold sc61.f
 simp only [Option.bind_some, List.length_nil, Nat.zero_add, if_pos h, List.nil_append]
theorem cln62 {d : List (List Int)} (h : d.length < 5864062014805) : sc62.f d = some d := by
 unfold sc62.f
 simp only [Option.bind_some, List.length_nil, Nat.zero_add, if_pos h, List.nil_append]
theorem cln63 {d : List S77} (h : d.length < 2932031007402) : api_Sent.f d = some d := by
 unfold api_Sent.f
 simp only [Option.bind_some, List.length_nil, Nat.zero_add, if_pos h, List.nil_append]
def netClone.T6 : Bool × List (List Nat × List Nat) := (true, [([], []), ([0], [0]), ([], []), ([], []), ([3], [3]), ([], []), ([4, 5], [4, 5]), ([6], [6]), ([7], [7]), ([8], [8]), ([1, 2, 0, 1, 2, 3, 4, 5, 6, 7, 8, 9], [1, 2]), ([10, 0, 1, 2, 3, 4, 5, 6, 7, 8, 9], [10]), ([11, 9, 9, 0, 1, 2, 3, 4, 5, 6, 7, 8, 9], [9, 11])])
def netClone.B6 : List Nat := [0, 1, 0, 0, 8, 0, 56, 120, 248, 504, 1023, 2047, 4095]
theorem netClone.tab6 : rtab .any (opsOf Try.f46 6) = netClone.T6 := by kernel_rfl
theorem netClone.bits6 : waitsOk netClone.T6.2 netClone.B6 = true := by kernel_rfl
def netClone.T12 : Bool × List (List Nat × List Nat) := (true, [([], []), ([0], [0]), ([], []), ([], []), ([3], [3]), ([], []), ([4, 5], [4, 5]), ([6], [6]), ([7], [7]), ([1, 2, 0, 1, 2, 3, 4, 5, 6, 7, 8], [1, 2]), ([9, 8, 8, 0, 1, 2, 3, 4, 5, 6, 7, 8], [8, 9])])
def netClone.B12 : List Nat := [0, 1, 0, 0, 8, 0, 56, 120, 248, 511, 1023]
theorem netClone.tab12 : rtab .any (opsOf Try.f46 12) = netClone.T12 := by kernel_rfl
theorem netClone.bits12 : waitsOk netClone.T12.2 netClone.B12 = true := by kernel_rfl
def netClone.T18 : Bool × List (List Nat × List Nat) := (true, [([], []), ([0], [0]), ([], []), ([], []), ([3], [3]), ([], []), ([4, 5], [4, 5]), ([6], [6]), ([7], [7]), ([8], [8]), ([1, 2, 0, 1, 2, 3, 4, 5, 6, 7, 8, 9], [1, 2]), ([10, 0, 1, 2, 3, 4, 5, 6, 7, 8, 9], [10]), ([11, 9, 9, 0, 1, 2, 3, 4, 5, 6, 7, 8, 9], [9, 11])])
def netClone.B18 : List Nat := [0, 1, 0, 0, 8, 0, 56, 120, 248, 504, 1023, 2047, 4095]
theorem netClone.tab18 : rtab .any (opsOf Try.f46 18) = netClone.T18 := by kernel_rfl
theorem netClone.bits18 : waitsOk netClone.T18.2 netClone.B18 = true := by kernel_rfl
set_option maxHeartbeats 16000000 in
set_option maxRecDepth 100000 in
theorem nCl.calls (x : S30) (sm : Small x.f1 x.f2 x.f3 x.f5) (P : Nat → Prop) (A3 : Option Addr) (c3 : Nat) (A4 : Option Addr) (c4 : Nat) (A5 : Option Addr) (c5 : Nat) (A7 : Option Addr) (c7 : Nat) (w : World) (hx : XF w P x A3 c3 A4 c4 A5 c5 A7 c7) :
  Calls Try.prog 46 #[.agg (wv x A3 c3 A4 c4 A5 c5 A7 c7)] w fun e w' => ∃ m4 m5 m7 B3 b3 B4 b4 B5 b5 B7 b7, e = .returned (.agg (wv x B3 b3 B4 b4 B5 b5 B7 b7)) ∧ Clo w w' P x m4 m5 m7 B3 b3 B4 b4 B5 b5 B7 b7 := by
 have hu30 := Try.underlying30
 have hu24 := Try.underlying24
 have hu72 := Try.underlying72
 have hu77 := Try.underlying77
 have HX := Qz.mk (show XF w (fun k => (P k ∧ k < w.heap.size)) x A3 c3 A4 c4 A5 c5 A7 c7 from ⟨hx.l3, Kd.F_bound hx.r3, hx.l4, Kd.F_bound hx.r4, hx.l5, Kd.F_bound hx.r5, hx.l7, Kd.F_bound hx.r7⟩)
 have HL3 := Qz.mk (cln59 sm.hco)
 have HL4 := Qz.mk (cln60 sm.hac)
 have HL5 := Qz.mk (cln62 sm.hta)
 have HL7 := Qz.mk (cln63 sm.hse)
 have HS4 := Qz.mk sm.hac
 have HS5 := Qz.mk sm.hta
 have HS7 := Qz.mk sm.hse
 have HD4 := Qz.mk sm.had
 have HD5 := Qz.mk sm.htd
 have HD7 := Qz.mk sm.hsd
 clear hx sm
 go_enter Try.func46, Try.ntmps46
 go_upto_region 2 with (first
   | ((with_reducible refine gdt (N := 1) rfl ?_); refine bxe ?hg (N := 1) ?hd (cs := wv x A3 c3 A4 c4 A5 c5 A7 c7) (t := 30) ?hr ?_; (case hd => rfl); (case hg => rfl); (case hr => first | (go_simp; done) | (go_simp; rfl)); intro g1 hg1 w1 hbox hb1; have B1 := Qz.mk hbox; have HB := Qz.mk hb1; have GE1 := Qz.mk (show w.heap.size ≤ g1 from Nat.le_of_eq hg1.symm); clear hg1 hbox hb1)
   | ((with_reducible refine gdt (N := 2) rfl ?_); refine bxe ?hg (N := 2) ?hd (cs := #[.int .u64 0, .int .i64 0, .int .i64 0, .slice none 0 0, .slice none 0 0, .slice none 0 0, .int .i64 0, .slice none 0 0]) (t := 30) ?hr ?_; (case hd => rfl); (case hg => rfl); (case hr => first | (go_simp; done) | (go_simp; rfl)); intro g2 hg2 w2 hbox hb2; have B2 := Qz.mk hbox; have NE := Qz.mk (show g1 ≠ g2 from by rw [hg2]; exact Nat.ne_of_lt (blt B1.out)); have GE2 := Qz.mk (show w.heap.size ≤ g2 from by rw [hg2]; exact HB.out.size); have B1 := Qz.mk (bkb B1.out hb2); have HB := Qz.mk (HB.out.trans (hb2.mono HB.out.size)); clear hg2 hbox hb2; have hx3 : w2.cell? ⟨g1, 3, none⟩ = some (.slice A3 x.f1.length c3) := (bc_ B1.out 3).trans rfl; have GS1 := Qz.mk (blt B1.out); have GS2 := Qz.mk (blt B2.out))
   | (go_at_call 59; refine (scii.calls A3 c3 x.f1 x.f1 w2 (Kd.F_now (HX.out.below HB.out).r3) HX.out.l3 HL3.out).mono ?_; rintro e w3 ⟨v0, rfl, hR, hbc⟩; obtain ⟨B3, b3, rfl⟩ := Kd.R_slice hR; have HF3 := Qz.mk (fresh_F hR); have HLB3 := Qz.mk (Kd.R_reads' hR).2.1; have B1 := Qz.mk (bkb B1.out hbc); have B2 := Qz.mk (bkb B2.out hbc); have HB := Qz.mk (HB.out.trans (hbc.mono HB.out.size)); have HSW := Qz.mk hbc.size; clear hR hbc hx3; have hx3 : w3.cell? ⟨g1, 3, none⟩ = some (.slice A3 x.f1.length c3) := (bc_ B1.out 3).trans rfl; have hf3 := bf_ B1.out 3))
 have GL1 := Qz.mk (show g1 < w2.heap.size from GS1.out)
 have GL2 := Qz.mk (show g2 < w2.heap.size from GS2.out)
 have HK := Qz.mk (show Kept w3 (w3.setCell ⟨g1, 3, none⟩ (.slice B3 x.f1.length b3)) (fun k => k = g1) from Kept.setCell (S := fun k => k = g1) (p := ⟨g1, 3, none⟩) (Kept.refl _ _) (.inl rfl) _)
 have B1 := Qz.mk (show (w3.setCell ⟨g1, 3, none⟩ (.slice B3 x.f1.length b3)).heap[g1]? = some (.cells #[.int .u64 x.f0.f0, .int .i64 x.f0.f1, .int .i64 x.f0.f2, .slice B3 x.f1.length b3, .slice A4 x.f2.length c4, .slice A5 x.f3.length c5, .int .i64 x.f4, .slice A7 x.f5.length c7] 30 (0, 0)) from (bks B1.out 3 _).trans rfl)
 have B2 := Qz.mk (bkf (p := ⟨g1, 3, none⟩) B2.out (Ne.symm NE.out) (.slice B3 x.f1.length b3))
 have HB := Qz.mk (show Below w.heap.size w (w3.setCell ⟨g1, 3, none⟩ (.slice B3 x.f1.length b3)) from bset HB.out GE1.out)
 have ZA := Qz.mk (show w2.heap.size ≤ (w3.setCell ⟨g1, 3, none⟩ (.slice B3 x.f1.length b3)).heap.size from Nat.le_trans HSW.out HK.out.1)
 have HF3 := Qz.mk (Kd.F_kept HF3.out HK.out (fun k hk e => by have q1 := GE1.out; have q2 := GL1.out; omega))
 clear HK HSW hx3 hf3
 generalize w3.setCell ⟨g1, 3, none⟩ (.slice B3 x.f1.length b3) = wA at B1 B2 HB ZA HF3 ⊢
 have HF3 := Qz.mk (Kd.F_mono (Kd.F_bound HF3.out) (fun k hk => (⟨hk.1.1, hk.2⟩ : w2.heap.size ≤ k ∧ k < wA.heap.size)))
 have HSA := Qz.mk (show w.heap.size ≤ wA.heap.size from HB.out.size)
 have HM4 := HSA
 have HW2M4 := ZA
 have hx4 : wA.cell? ⟨g1, 4, none⟩ = some (.slice A4 x.f2.length c4) := (bc_ B1.out 4).trans rfl
 go_upto_region 3 with (go_at_call 60; refine (api_Act.calls (fun k => (P k ∧ k < w.heap.size)) A4 c4 x.f2 x.f2 wA (Kd.V_mk HX.out.l4 (HX.out.below HB.out).r4) HL4.out).mono ?_; rintro e w4 ⟨v0, rfl, hR, hbc⟩; obtain ⟨B4, b4, rfl⟩ := Kd.N_slice hR; have HN4 := Qz.mk hR; have HLB4 := Qz.mk (Kd.N_reads' hR).2.1; have HF3 := Qz.mk (Kd.F_below HF3.out hbc); have B1 := Qz.mk (bkb B1.out hbc); have B2 := Qz.mk (bkb B2.out hbc); have HB := Qz.mk (HB.out.trans (hbc.mono HB.out.size)); have HSW := Qz.mk hbc.size; clear hR hbc hx4; have hx4 : w4.cell? ⟨g1, 4, none⟩ = some (.slice A4 x.f2.length c4) := (bc_ B1.out 4).trans rfl; have hf4 := bf_ B1.out 4)
 have HK := Qz.mk (show Kept w4 (w4.setCell ⟨g1, 4, none⟩ (.slice B4 x.f2.length b4)) (fun k => k = g1) from Kept.setCell (S := fun k => k = g1) (p := ⟨g1, 4, none⟩) (Kept.refl _ _) (.inl rfl) _)
 have B1 := Qz.mk (show (w4.setCell ⟨g1, 4, none⟩ (.slice B4 x.f2.length b4)).heap[g1]? = some (.cells #[.int .u64 x.f0.f0, .int .i64 x.f0.f1, .int .i64 x.f0.f2, .slice B3 x.f1.length b3, .slice B4 x.f2.length b4, .slice A5 x.f3.length c5, .int .i64 x.f4, .slice A7 x.f5.length c7] 30 (0, 0)) from (bks B1.out 4 _).trans rfl)
 have B2 := Qz.mk (bkf (p := ⟨g1, 4, none⟩) B2.out (Ne.symm NE.out) (.slice B4 x.f2.length b4))
 have HB := Qz.mk (show Below w.heap.size w (w4.setCell ⟨g1, 4, none⟩ (.slice B4 x.f2.length b4)) from bset HB.out GE1.out)
 have ZB := Qz.mk (show wA.heap.size ≤ (w4.setCell ⟨g1, 4, none⟩ (.slice B4 x.f2.length b4)).heap.size from Nat.le_trans HSW.out HK.out.1)
 have HF3 := Qz.mk (Kd.F_kept HF3.out HK.out (fun k hk e => by have q1 := GE1.out; have q2 := GL1.out; omega))
 have HN4 := Qz.mk (Kd.N_kept HN4.out HK.out (fun k hk e => by have q1 := GE1.out; have q2 := GL1.out; have q3 := ZA.out; rcases hk with hk | hk <;> omega))
 clear HK HSW hx4 hf4
 generalize w4.setCell ⟨g1, 4, none⟩ (.slice B4 x.f2.length b4) = wB at B1 B2 HB ZB HF3 HN4 ⊢
 have HS0 := Qz.mk (show w.heap.size ≤ w2.heap.size from Nat.le_trans GE2.out (Nat.le_of_lt GL2.out))
 have HAW := ZB
 have hxl : wB.cell? ⟨g1, 4, none⟩ = some (.slice B4 x.f2.length b4) := (bc_ B1.out 4).trans rfl
 go_wp2
 clear hxl
 go_loopg [17] x.f2.length (fun kq v17 w' => ∃ i : Nat, v17 = .int .i64 (i : Int) ∧ Qz (i + kq = x.f2.length) ∧ Qz (Kd.N k72 72 w' wA.heap.size (fun k => (P k ∧ k < w.heap.size) ∨ wA.heap.size ≤ k) (.slice B4 x.f2.length b4) x.f2) ∧ Qz (Kd.F (Kd.int .i64) w' (fun k => w2.heap.size ≤ k ∧ k < wA.heap.size) B3 x.f1.length x.f1) ∧ Qz (w'.heap[g1]? = some (.cells #[.int .u64 x.f0.f0, .int .i64 x.f0.f1, .int .i64 x.f0.f2, .slice B3 x.f1.length b3, .slice B4 x.f2.length b4, .slice A5 x.f3.length c5, .int .i64 x.f4, .slice A7 x.f5.length c7] 30 (0, 0))) ∧ Qz (w'.heap[g2]? = some (.cells #[.int .u64 0, .int .i64 0, .int .i64 0, .slice none 0 0, .slice none 0 0, .slice none 0 0, .int .i64 0, .slice none 0 0] 30 (0, 0))) ∧ Qz (Below w.heap.size w w') ∧ Qz (wA.heap.size ≤ w'.heap.size))
 case atStart => exact ⟨0, rfl, ⟨by simp⟩, HN4, HF3, B1, B2, HB, HAW⟩
 case round =>
  clear HN4 HF3 B1 B2 HB HAW
  obtain ⟨i, rfl, HI, HN4, HF3, B1, B2, HB, HAW⟩ := hrel
  cases gk with
  | zero =>
   have y1 : decide ((i : Int) < (x.f2.length : Int)) = false := decide_eq_false (by have := HI.out; omega)
   have y2 : decide (i < x.f2.length) = false := decide_eq_false (by have := HI.out; omega)
   obtain ⟨wC, hwC⟩ : ∃ q, q = wr := ⟨_, rfl⟩
   rw [← hwC] at HN4 HF3 B1 B2 HB HAW ⊢
   clear hwC
   have HF4 := Qz.mk (Kd.F_mono (Kd.F_bound (Kd.N_F HN4.out)) (fun k hk => (hk.1.imp id (fun h => ⟨h, hk.2⟩) : (P k ∧ k < w.heap.size) ∨ (wA.heap.size ≤ k ∧ k < wC.heap.size))))
   clear HN4
   have ZC := HAW
   have HM5 := Qz.mk (show w.heap.size ≤ wC.heap.size from HB.out.size)
   have HW2M5 := Qz.mk (Nat.le_trans ZA.out HAW.out)
   have hx5 : wC.cell? ⟨g1, 5, none⟩ = some (.slice A5 x.f3.length c5) := (bc_ B1.out 5).trans rfl
   go_upto_region 9 with (go_at_call 62; refine (sc62.calls (fun k => (P k ∧ k < w.heap.size)) A5 c5 x.f3 x.f3 wC (Kd.V_mk HX.out.l5 (HX.out.below HB.out).r5) HL5.out).mono ?_; rintro e w5 ⟨v0, rfl, hR, hbc⟩; obtain ⟨B5, b5, rfl⟩ := Kd.N_slice hR; have HN5 := Qz.mk hR; have HLB5 := Qz.mk (Kd.N_reads' hR).2.1; have HF3 := Qz.mk (Kd.F_below HF3.out hbc); have HF4 := Qz.mk (Kd.F_below HF4.out hbc); have B1 := Qz.mk (bkb B1.out hbc); have B2 := Qz.mk (bkb B2.out hbc); have HB := Qz.mk (HB.out.trans (hbc.mono HB.out.size)); have HSW := Qz.mk hbc.size; clear hR hbc hx5; have hx5 : w5.cell? ⟨g1, 5, none⟩ = some (.slice A5 x.f3.length c5) := (bc_ B1.out 5).trans rfl; have hf5 := bf_ B1.out 5)
   have HK := Qz.mk (show Kept w5 (w5.setCell ⟨g1, 5, none⟩ (.slice B5 x.f3.length b5)) (fun k => k = g1) from Kept.setCell (S := fun k => k = g1) (p := ⟨g1, 5, none⟩) (Kept.refl _ _) (.inl rfl) _)
   have B1 := Qz.mk (show (w5.setCell ⟨g1, 5, none⟩ (.slice B5 x.f3.length b5)).heap[g1]? = some (.cells #[.int .u64 x.f0.f0, .int .i64 x.f0.f1, .int .i64 x.f0.f2, .slice B3 x.f1.length b3, .slice B4 x.f2.length b4, .slice B5 x.f3.length b5, .int .i64 x.f4, .slice A7 x.f5.length c7] 30 (0, 0)) from (bks B1.out 5 _).trans rfl)
   have B2 := Qz.mk (bkf (p := ⟨g1, 5, none⟩) B2.out (Ne.symm NE.out) (.slice B5 x.f3.length b5))
   have HB := Qz.mk (show Below w.heap.size w (w5.setCell ⟨g1, 5, none⟩ (.slice B5 x.f3.length b5)) from bset HB.out GE1.out)
   have ZD := Qz.mk (show wC.heap.size ≤ (w5.setCell ⟨g1, 5, none⟩ (.slice B5 x.f3.length b5)).heap.size from Nat.le_trans HSW.out HK.out.1)
   have HF3 := Qz.mk (Kd.F_kept HF3.out HK.out (fun k hk e => by have q1 := GE1.out; have q2 := GL1.out; omega))
   have HF4 := Qz.mk (Kd.F_kept HF4.out HK.out (fun k hk e => by have q1 := GE1.out; have q2 := GL1.out; have q3 := ZA.out; rcases hk with hk | hk <;> omega))
   have HN5 := Qz.mk (Kd.N_kept HN5.out HK.out (fun k hk e => by have q1 := GE1.out; have q2 := GL1.out; have q3 := ZA.out; have q4 := ZC.out; rcases hk with hk | hk <;> omega))
   clear HK HSW hx5 hf5
   generalize w5.setCell ⟨g1, 5, none⟩ (.slice B5 x.f3.length b5) = wD at B1 B2 HB ZD HF3 HF4 HN5 ⊢
   have HCW := ZD
   have hxl : wD.cell? ⟨g1, 5, none⟩ = some (.slice B5 x.f3.length b5) := (bc_ B1.out 5).trans rfl
   go_wp2
   clear hxl
   go_loopg [40] x.f3.length (fun kq v40 w' => ∃ i : Nat, v40 = .int .i64 (i : Int) ∧ Qz (i + kq = x.f3.length) ∧ Qz (Kd.N kD 51 w' wC.heap.size (fun k => (P k ∧ k < w.heap.size) ∨ wC.heap.size ≤ k) (.slice B5 x.f3.length b5) x.f3) ∧ Qz (Kd.F (Kd.int .i64) w' (fun k => w2.heap.size ≤ k ∧ k < wA.heap.size) B3 x.f1.length x.f1) ∧ Qz (Kd.F (k72) w' (fun k => (P k ∧ k < w.heap.size) ∨ (wA.heap.size ≤ k ∧ k < wC.heap.size)) B4 x.f2.length x.f2) ∧ Qz (w'.heap[g1]? = some (.cells #[.int .u64 x.f0.f0, .int .i64 x.f0.f1, .int .i64 x.f0.f2, .slice B3 x.f1.length b3, .slice B4 x.f2.length b4, .slice B5 x.f3.length b5, .int .i64 x.f4, .slice A7 x.f5.length c7] 30 (0, 0))) ∧ Qz (w'.heap[g2]? = some (.cells #[.int .u64 0, .int .i64 0, .int .i64 0, .slice none 0 0, .slice none 0 0, .slice none 0 0, .int .i64 0, .slice none 0 0] 30 (0, 0))) ∧ Qz (Below w.heap.size w w') ∧ Qz (wC.heap.size ≤ w'.heap.size))
   case atStart => exact ⟨0, rfl, ⟨by simp⟩, HN5, HF3, HF4, B1, B2, HB, HCW⟩
   case round =>
    clear HN5 HF3 HF4 B1 B2 HB HCW
    obtain ⟨i, rfl, HI, HN5, HF3, HF4, B1, B2, HB, HCW⟩ := hrel
    cases gk with
    | zero =>
     have y1 : decide ((i : Int) < (x.f3.length : Int)) = false := decide_eq_false (by have := HI.out; omega)
     have y2 : decide (i < x.f3.length) = false := decide_eq_false (by have := HI.out; omega)
     obtain ⟨wE, hwE⟩ : ∃ q, q = wr := ⟨_, rfl⟩
     rw [← hwE] at HN5 HF3 HF4 B1 B2 HB HCW ⊢
     clear hwE
     have HN5 := Qz.mk (show Kd.N kD 51 wE wC.heap.size (fun k => (P k ∧ k < w.heap.size) ∨ (wC.heap.size ≤ k ∧ k < wE.heap.size)) _ _ from Kd.N_mono (Kd.N_bound HN5.out) (fun k hk => (hk.1.imp id (fun h => ⟨h, hk.2⟩) : (P k ∧ k < w.heap.size) ∨ (wC.heap.size ≤ k ∧ k < wE.heap.size))))
     have ZE := HCW
     have HM7 := Qz.mk (show w.heap.size ≤ wE.heap.size from HB.out.size)
     have HW2M7 := Qz.mk (Nat.le_trans HW2M5.out HCW.out)
     have hx7 : wE.cell? ⟨g1, 7, none⟩ = some (.slice A7 x.f5.length c7) := (bc_ B1.out 7).trans rfl
     go_upto_region 15 with (go_at_call 63; refine (api_Sent.calls (fun k => (P k ∧ k < w.heap.size)) A7 c7 x.f5 x.f5 wE (Kd.V_mk HX.out.l7 (HX.out.below HB.out).r7) HL7.out).mono ?_; rintro e w7 ⟨v0, rfl, hR, hbc⟩; obtain ⟨B7, b7, rfl⟩ := Kd.N_slice hR; have HN7 := Qz.mk hR; have HLB7 := Qz.mk (Kd.N_reads' hR).2.1; have HF3 := Qz.mk (Kd.F_below HF3.out hbc); have HF4 := Qz.mk (Kd.F_below HF4.out hbc); have HN5 := Qz.mk (Kd.N_below HN5.out hbc); have B1 := Qz.mk (bkb B1.out hbc); have B2 := Qz.mk (bkb B2.out hbc); have HB := Qz.mk (HB.out.trans (hbc.mono HB.out.size)); have HSW := Qz.mk hbc.size; clear hR hbc hx7; have hx7 : w7.cell? ⟨g1, 7, none⟩ = some (.slice A7 x.f5.length c7) := (bc_ B1.out 7).trans rfl; have hf7 := bf_ B1.out 7)
     have HK := Qz.mk (show Kept w7 (w7.setCell ⟨g1, 7, none⟩ (.slice B7 x.f5.length b7)) (fun k => k = g1) from Kept.setCell (S := fun k => k = g1) (p := ⟨g1, 7, none⟩) (Kept.refl _ _) (.inl rfl) _)
     have B1 := Qz.mk (show (w7.setCell ⟨g1, 7, none⟩ (.slice B7 x.f5.length b7)).heap[g1]? = some (.cells #[.int .u64 x.f0.f0, .int .i64 x.f0.f1, .int .i64 x.f0.f2, .slice B3 x.f1.length b3, .slice B4 x.f2.length b4, .slice B5 x.f3.length b5, .int .i64 x.f4, .slice B7 x.f5.length b7] 30 (0, 0)) from (bks B1.out 7 _).trans rfl)
     have B2 := Qz.mk (bkf (p := ⟨g1, 7, none⟩) B2.out (Ne.symm NE.out) (.slice B7 x.f5.length b7))
     have HB := Qz.mk (show Below w.heap.size w (w7.setCell ⟨g1, 7, none⟩ (.slice B7 x.f5.length b7)) from bset HB.out GE1.out)
     have ZF := Qz.mk (show wE.heap.size ≤ (w7.setCell ⟨g1, 7, none⟩ (.slice B7 x.f5.length b7)).heap.size from Nat.le_trans HSW.out HK.out.1)
     have HF3 := Qz.mk (Kd.F_kept HF3.out HK.out (fun k hk e => by have q1 := GE1.out; have q2 := GL1.out; omega))
     have HF4 := Qz.mk (Kd.F_kept HF4.out HK.out (fun k hk e => by have q1 := GE1.out; have q2 := GL1.out; have q3 := ZA.out; rcases hk with hk | hk <;> omega))
     have HN5 := Qz.mk (Kd.N_kept HN5.out HK.out (fun k hk e => by have q1 := GE1.out; have q2 := GL1.out; have q3 := ZA.out; have q4 := ZC.out; rcases hk with hk | hk <;> omega))
     have HN7 := Qz.mk (Kd.N_kept HN7.out HK.out (fun k hk e => by have q1 := GE1.out; have q2 := GL1.out; have q3 := ZA.out; have q4 := ZC.out; have q5 := ZE.out; rcases hk with hk | hk <;> omega))
     clear HK HSW hx7 hf7
     generalize w7.setCell ⟨g1, 7, none⟩ (.slice B7 x.f5.length b7) = wF at B1 B2 HB ZF HF3 HF4 HN5 HN7 ⊢
     have hxl : wF.cell? ⟨g1, 7, none⟩ = some (.slice B7 x.f5.length b7) := (bc_ B1.out 7).trans rfl
     go_wp2
     clear hxl
     go_loopg [61] x.f5.length (fun kq v61 w' => ∃ i : Nat, v61 = .int .i64 (i : Int) ∧ Qz (i + kq = x.f5.length) ∧ Qz (Kd.N k77 77 w' wE.heap.size (fun k => (P k ∧ k < w.heap.size) ∨ wE.heap.size ≤ k) (.slice B7 x.f5.length b7) x.f5) ∧ Qz (Kd.F (Kd.int .i64) w' (fun k => w2.heap.size ≤ k ∧ k < wA.heap.size) B3 x.f1.length x.f1) ∧ Qz (Kd.F (k72) w' (fun k => (P k ∧ k < w.heap.size) ∨ (wA.heap.size ≤ k ∧ k < wC.heap.size)) B4 x.f2.length x.f2) ∧ Qz (Kd.N kD 51 w' wC.heap.size (fun k => (P k ∧ k < w.heap.size) ∨ (wC.heap.size ≤ k ∧ k < wE.heap.size)) (.slice B5 x.f3.length b5) x.f3) ∧ Qz (w'.heap[g1]? = some (.cells #[.int .u64 x.f0.f0, .int .i64 x.f0.f1, .int .i64 x.f0.f2, .slice B3 x.f1.length b3, .slice B4 x.f2.length b4, .slice B5 x.f3.length b5, .int .i64 x.f4, .slice B7 x.f5.length b7] 30 (0, 0))) ∧ Qz (w'.heap[g2]? = some (.cells #[.int .u64 0, .int .i64 0, .int .i64 0, .slice none 0 0, .slice none 0 0, .slice none 0 0, .int .i64 0, .slice none 0 0] 30 (0, 0))) ∧ Qz (Below w.heap.size w w'))
     case atStart => exact ⟨0, rfl, ⟨by simp⟩, HN7, HF3, HF4, HN5, B1, B2, HB⟩
     case round =>
      clear HN7 HF3 HF4 HN5 B1 B2 HB
      obtain ⟨i, rfl, HI, HN7, HF3, HF4, HN5, B1, B2, HB⟩ := hrel
      cases gk with
      | zero =>
       have y1 : decide ((i : Int) < (x.f5.length : Int)) = false := decide_eq_false (by have := HI.out; omega)
       have y2 : decide (i < x.f5.length) = false := decide_eq_false (by have := HI.out; omega)
       have hx0 : wr.cell? ⟨g1, 0, none⟩ = some (.int .u64 x.f0.f0) := (bc_ B1.out 0).trans rfl
       have hx1 : wr.cell? ⟨g1, 1, none⟩ = some (.int .i64 x.f0.f1) := (bc_ B1.out 1).trans rfl
       have hx2 : wr.cell? ⟨g1, 2, none⟩ = some (.int .i64 x.f0.f2) := (bc_ B1.out 2).trans rfl
       have hx3 : wr.cell? ⟨g1, 3, none⟩ = some (.slice B3 x.f1.length b3) := (bc_ B1.out 3).trans rfl
       have hx4 : wr.cell? ⟨g1, 4, none⟩ = some (.slice B4 x.f2.length b4) := (bc_ B1.out 4).trans rfl
       have hx5 : wr.cell? ⟨g1, 5, none⟩ = some (.slice B5 x.f3.length b5) := (bc_ B1.out 5).trans rfl
       have hx6 : wr.cell? ⟨g1, 6, none⟩ = some (.int .i64 x.f4) := (bc_ B1.out 6).trans rfl
       have hx7 : wr.cell? ⟨g1, 7, none⟩ = some (.slice B7 x.f5.length b7) := (bc_ B1.out 7).trans rfl
       have hz0 : wr.cell? ⟨g2, 0, none⟩ = some (.int .u64 0) := (bc_ B2.out 0).trans rfl
       have hz1 : wr.cell? ⟨g2, 1, none⟩ = some (.int .i64 0) := (bc_ B2.out 1).trans rfl
       have hz2 : wr.cell? ⟨g2, 2, none⟩ = some (.int .i64 0) := (bc_ B2.out 2).trans rfl
       have hz3 : wr.cell? ⟨g2, 3, none⟩ = some (.slice none 0 0) := (bc_ B2.out 3).trans rfl
       have hz4 : wr.cell? ⟨g2, 4, none⟩ = some (.slice none 0 0) := (bc_ B2.out 4).trans rfl
       have hz5 : wr.cell? ⟨g2, 5, none⟩ = some (.slice none 0 0) := (bc_ B2.out 5).trans rfl
       have hz6 : wr.cell? ⟨g2, 6, none⟩ = some (.int .i64 0) := (bc_ B2.out 6).trans rfl
       have hz7 : wr.cell? ⟨g2, 7, none⟩ = some (.slice none 0 0) := (bc_ B2.out 7).trans rfl
       have hf0 := bf_ B2.out 0
       have hf1 := bf_ B2.out 1
       have hf2 := bf_ B2.out 2
       have hf3 := bf_ B2.out 3
       have hf4 := bf_ B2.out 4
       have hf5 := bf_ B2.out 5
       have hf6 := bf_ B2.out 6
       have hf7 := bf_ B2.out 7
       go_wp2
       rw [show ((((((((wr.setCell ⟨g2, 0, none⟩ (.int .u64 x.f0.f0)).setCell ⟨g2, 1, none⟩ (.int .i64 x.f0.f1)).setCell ⟨g2, 2, none⟩ (.int .i64 x.f0.f2)).setCell ⟨g2, 3, none⟩ (.slice B3 x.f1.length b3)).setCell ⟨g2, 4, none⟩ (.slice B4 x.f2.length b4)).setCell ⟨g2, 5, none⟩ (.slice B5 x.f3.length b5)).setCell ⟨g2, 6, none⟩ (.int .i64 x.f4)).setCell ⟨g2, 7, none⟩ (.slice B7 x.f5.length b7)) = put8 wr g2 (.int .u64 x.f0.f0) (.int .i64 x.f0.f1) (.int .i64 x.f0.f2) (.slice B3 x.f1.length b3) (.slice B4 x.f2.length b4) (.slice B5 x.f3.length b5) (.int .i64 x.f4) (.slice B7 x.f5.length b7) from rfl]
       have hK := kept8 wr g2 (.int .u64 x.f0.f0) (.int .i64 x.f0.f1) (.int .i64 x.f0.f2) (.slice B3 x.f1.length b3) (.slice B4 x.f2.length b4) (.slice B5 x.f3.length b5) (.int .i64 x.f4) (.slice B7 x.f5.length b7)
       refine bodyPost_ret (results_cell_row rfl _ _ g2 30 #[.int .u64 x.f0.f0, .int .i64 x.f0.f1, .int .i64 x.f0.f2, .slice B3 x.f1.length b3, .slice B4 x.f2.length b4, .slice B5 x.f3.length b5, .int .i64 x.f4, .slice B7 x.f5.length b7] (0, 0) _ rfl (blk8 B2.out (.int .u64 x.f0.f0) (.int .i64 x.f0.f1) (.int .i64 x.f0.f2) (.slice B3 x.f1.length b3) (.slice B4 x.f2.length b4) (.slice B5 x.f3.length b5) (.int .i64 x.f4) (.slice B7 x.f5.length b7)) Try.underlying30 rfl (by kernel_rfl)) rfl ?_
       refine ⟨wA.heap.size, wC.heap.size, wE.heap.size, B3, b3, B4, b4, B5, b5, B7, b7, rfl, HSA.out, ZC.out, ZE.out, HLB3.out, Kd.F_mono (Kd.F_kept HF3.out hK (fun k hk e => by have q1 := GE2.out; have q2 := GL2.out; omega)) (fun k hk => ⟨Nat.le_trans HS0.out hk.1, hk.2⟩), HLB4.out, Kd.F_kept HF4.out hK (fun k hk e => by have q1 := GE2.out; have q2 := GL2.out; have q3 := ZA.out; rcases hk with hk | hk <;> omega), Kd.N_kept HN5.out hK (fun k hk e => by have q1 := GE2.out; have q2 := GL2.out; have q3 := ZA.out; have q4 := ZC.out; rcases hk with hk | hk <;> omega), Kd.N_kept HN7.out hK (fun k hk e => by have q1 := GE2.out; have q2 := GL2.out; have q3 := ZA.out; have q4 := ZC.out; have q5 := ZE.out; rcases hk with hk | hk <;> omega), below8 HB.out GE2.out (.int .u64 x.f0.f0) (.int .i64 x.f0.f1) (.int .i64 x.f0.f2) (.slice B3 x.f1.length b3) (.slice B4 x.f2.length b4) (.slice B5 x.f3.length b5) (.int .i64 x.f4) (.slice B7 x.f5.length b7)⟩
      | succ k1 =>
       have hil : i < x.f5.length := by have := HI.out; omega
       have HIL := Qz.mk hil
       have y1 : decide ((i : Int) < (x.f5.length : Int)) = true := decide_eq_true (by omega)
       have y2 : decide (i < x.f5.length) = true := decide_eq_true hil
       have p1 : (0 : Int) ≤ (i : Int) := by omega
       have q1 : (i : Int) < (x.f5.length : Int) := by omega
       replace p1 := eq_true p1
       replace q1 := eq_true q1
       obtain ⟨g4, cap, ev, hge, hlt, _, _⟩ := Kd.N_form HN7.out (by omega)
       simp only [Value.slice.injEq, true_and] at ev
       obtain ⟨rfl, rfl⟩ := ev
       have HGE := Qz.mk hge
       clear hge hlt hil
       go_wp2
       have HN7 := Qz.mk (Kd.N_drew HN7.out)
       have HF3 := Qz.mk (Kd.F_drew HF3.out)
       have HF4 := Qz.mk (Kd.F_drew HF4.out)
       have HN5 := Qz.mk (Kd.N_drew HN5.out)
       have B1 := Qz.mk (bkd B1.out)
       have B2 := Qz.mk (bkd B2.out)
       have HB := Qz.mk (bd1 HB.out)
       obtain ⟨cs, hcl, hFK, hcc, hfz⟩ := Kd.N_elem HN7.out z77 (i : Int) (by have := HIL.out; omega) (by have := HIL.out; omega)
       simp only [Int.toNat_natCast] at hFK hcc hfz
       obtain ⟨Ai, ci, ecs, hli, hCi⟩ := k77_open (Kd.FK_now hFK)
       subst ecs
       have HS := Qz.mk (show wr.drew.cell? ⟨g4, i * 4 + 3, none⟩ = some (.slice Ai (x.f5.getD i z77).f3.length ci) from hcc 3 _ rfl)
       have HZ := Qz.mk (show wr.drew.frozen? ⟨g4, i * 4 + 3, none⟩ = false from hfz 3)
       have HCI := Qz.mk hCi
       have HLI := Qz.mk hli
       have HDL := Qz.mk (show (x.f5.getD i z77).f3.length < 17592186044416 from HD7.out _ (by rw [List.getD_eq_getElem?_getD, List.getElem?_eq_getElem HIL.out]; exact List.getElem_mem _))
       have HDL2 := Qz.mk (show (x.f5[i]?.getD z77).f3.length < 17592186044416 from by rw [← List.getD_eq_getElem?_getD]; exact HDL.out)
       clear hcl hFK hcc hfz hli hCi
       have HW := Qz.mk (Below.refl wr.drew.heap.size wr.drew)
       refine start_ (n := 13) (S := fun w' => w'.cell? ⟨g1, 7, none⟩ = some (.slice (some ⟨g4, 0, none⟩) x.f5.length b7) ∧ w'.cell? ⟨g4, i * 4 + 3, none⟩ = some (.slice Ai (x.f5.getD i z77).f3.length ci)) (ds := [12]) (ba_ 13 0) (by kernel_rfl) rfl rfl ⟨bcel HW.out ((bc_ B1.out 7).trans rfl), bcel HW.out HS.out⟩ (fun hHeld => ?_)
       generalize wr.drew = wa at HN7 HF3 HF4 HN5 B1 B2 HB HS HZ HCI HW hHeld ⊢
       refine with_tabW netClone.tab18 netClone.bits18 (fun HT_ HW_ => ?_)
       refine pure_ (i := 0) (N := some 64) (v := ?_) (a' := ?_) (ba_ 13 1) rfl rfl (any_of HT_.out (by kernel_rfl)) (fun _ _ _ h => h) (Or.inl ⟨by rfl, ?_⟩) ?_ ?_
       rotate_left
       ·intro w'
        go_simp
        with_reducible rfl
       rotate_left
       ·simp only [aw_]
        rfl
       refine pure_ (i := 2) (N := some 66) (v := ?_) (a' := ?_) (ba_ 13 5) rfl rfl (any_of HT_.out (by kernel_rfl)) (fun _ _ _ h => h) (Or.inl ⟨by rfl, ?_⟩) ?_ ?_
       rotate_left
       ·intro w'
        go_simp
        with_reducible rfl
       rotate_left
       ·simp only [aw_]
        rfl
       refine pure_ (i := 3) (N := some 67) (v := ?_) (a' := ?_) (ba_ 13 13) rfl rfl (any_of HT_.out (by kernel_rfl)) (fun _ _ _ h => h) (Or.inl ⟨by rfl, ?_⟩) ?_ ?_
       rotate_left
       ·intro w'
        go_simp
        with_reducible rfl
       rotate_left
       ·simp only [aw_]
        rfl
       refine pure_ (i := 5) (N := some 69) (v := ?_) (a' := ?_) (ba_ 13 45) rfl rfl (any_of HT_.out (by kernel_rfl)) (fun _ _ _ h => h) (Or.inl ⟨by rfl, ?_⟩) ?_ ?_
       rotate_left
       ·intro w'
        go_simp
        with_reducible rfl
       rotate_left
       ·simp only [aw_]
        rfl
       refine take_ (i := 1) (N := some 65) (v := ?_) (a' := ?_) (ba_ 13 47) rfl rfl (take_ofW HT_.out HW_.out (by kernel_rfl)) (fun _ _ _ h => h) (Or.inl ⟨by rfl, ?_⟩) hHeld ?_ ?_
       rotate_left
       ·rintro w' ⟨s0, s1⟩
        go_simp
        with_reducible rfl
       rotate_left
       ·simp only [aw_]
        rfl
       refine take_ (i := 4) (N := some 68) (v := ?_) (a' := ?_) (ba_ 13 63) rfl rfl (take_ofW HT_.out HW_.out (by kernel_rfl)) (fun _ _ _ h => h) (Or.inl ⟨by rfl, ?_⟩) hHeld ?_ ?_
       rotate_left
       ·rintro w' ⟨s0, s1⟩
        go_simp
        with_reducible rfl
       rotate_left
       ·simp only [aw_]
        rfl
       refine pure_ (i := 6) (N := some 70) (v := ?_) (a' := ?_) (ba_ 13 127) rfl rfl (any_of HT_.out (by kernel_rfl)) (fun _ _ _ h => h) (Or.inl ⟨by rfl, ?_⟩) ?_ ?_
       rotate_left
       ·intro w'
        go_simp
        with_reducible rfl
       rotate_left
       ·simp only [aw_]
        rfl
       refine pure_ (i := 7) (N := some 71) (v := ?_) (a' := ?_) (ba_ 13 255) rfl rfl (any_of HT_.out (by kernel_rfl)) (fun _ _ _ h => h) (Or.inl ⟨by rfl, ?_⟩) ?_ ?_
       rotate_left
       ·intro w'
        go_simp
        with_reducible rfl
       rotate_left
       ·simp only [aw_]
        rfl
       refine take_ (i := 8) (N := some 72) (v := ?_) (a' := ?_) (ba_ 13 511) rfl rfl (take_ofW HT_.out HW_.out (by kernel_rfl)) (fun _ _ _ h => h) (Or.inl ⟨by rfl, ?_⟩) hHeld ?_ ?_
       rotate_left
       ·rintro w' ⟨s0, s1⟩
        go_simp
        with_reducible rfl
       rotate_left
       ·simp only [aw_]
        rfl
       refine one_ (i := 9) (N := some 73) (ba_ 13 1023) rfl rfl (one_of HT_.out (by kernel_rfl)) (by decide) (fun K hK => ?_)
       refine goes_ Try.func61 (by kernel_rfl) rfl #[.slice Ai (x.f5.getD i z77).f3.length ci] (by rfl) rfl rfl (by (try simp only [List.map_toArray, List.map_cons, List.map_nil]); first | done | rfl | (simp only [List.length_drop, List.length_take]; rfl)) ?_
       refine (sc61.calls Ai ci (x.f5.getD i z77).f3 (x.f5.getD i z77).f3 wa HCI.out HLI.out (cln61 HDL.out)).mono ?_
       rintro e wd ⟨vd, rfl, hod, hbd⟩
       refine ⟨_, rfl, ?_⟩
       obtain ⟨Ad, cd, rfl⟩ := Kd.R_slice hod
       have HOD := Qz.mk hod
       have HW := Qz.mk hbd
       clear hod hbd
       refine hK.out _ _ ⟨bcel HW.out ((bc_ B1.out 7).trans rfl), bcel HW.out HS.out⟩ (fun hHeld => ?_)
       clear hK K
       refine norm_ (a' := ?_) ?_ ?_
       rotate_left
       ·show Act.put _ (some 73) _ = _
        simp only [aw_]
        rfl
       refine pure_ (i := 10) (N := some 74) (v := ?_) (a' := ?_) (ba_ 13 2047) rfl rfl (any_of HT_.out (by kernel_rfl)) (fun _ _ _ h => h) (Or.inl ⟨by rfl, ?_⟩) ?_ ?_
       rotate_left
       ·intro w'
        go_simp
        with_reducible rfl
       rotate_left
       ·simp only [aw_]
        rfl
       refine pure_ (i := 11) (N := some 75) (v := ?_) (a' := ?_) (ba_ 13 4095) rfl rfl (any_of HT_.out (by kernel_rfl)) (fun _ _ _ h => h) (Or.inl ⟨by rfl, ?_⟩) ?_ ?_
       rotate_left
       ·intro w'
        go_simp
        with_reducible rfl
       rotate_left
       ·simp only [aw_]
        rfl
       refine last_ (i := 12) (N := none) (ba_ 13 8191) rfl rfl (one_of HT_.out (by kernel_rfl)) (by decide) (fun K hK => ?_)
       have hcell := bcel HW.out HS.out
       have hfroz := (HW.out.frozen (p := ⟨g4, i * 4 + 3, none⟩) (World.block_lt_of_cell? wa _ HS.out)).trans HZ.out
       refine skip_ (w1 := ?_) (by rfl) rfl ?_ ?_
       rotate_left
       ·go_simp
        rfl
       refine hK.out _ _ ?_
       clear hK K
       refine done_ (done_of HT_.out (by kernel_rfl)) ?_
       clear hHeld hcell hfroz
       have hrd := Kd.R_reads' HOD.out
       have hg4 := World.block_lt_of_cell? wa _ HS.out
       have HKS := Qz.mk (show Kept wd (wd.setCell ⟨g4, i * 4 + 3, none⟩ (.slice Ad (x.f5.getD i z77).f3.length cd)) (fun k => k = g4) from Kept.setCell (S := fun k => k = g4) (p := ⟨g4, i * 4 + 3, none⟩) (Kept.refl _ _) (.inl rfl) _)
       have HMW := Qz.mk (show wE.heap.size ≤ wa.heap.size from Nat.le_trans HGE.out (Nat.le_of_lt hg4))
       have m0 := Qz.mk (row_put77 (Kd.N_below HN7.out HW.out) HIL.out hrd.2.1 (Kd.F_mono (fresh_F HOD.out) (fun k hk => ⟨.inr (Nat.le_trans HMW.out hk.1), fun e => by have h1 := hk.1; have h2 : g4 < wa.heap.size := hg4; omega⟩)))
       have m1 := Qz.mk (Kd.F_kept (Kd.F_step HF3.out (fun k hk hlt => HW.out.block k hlt)) HKS.out (fun k hk e => by have q0 := HGE.out; have q1 := ZA.out; have q2 := ZC.out; have q3 := ZE.out; omega))
       have m2 := Qz.mk (Kd.F_kept (Kd.F_step HF4.out (fun k hk hlt => HW.out.block k hlt)) HKS.out (fun k hk e => by have q0 := HGE.out; have q1 := ZA.out; have q2 := ZC.out; have q3 := ZE.out; have q5 := HB.out.size; have q6 := HSA.out; rcases hk with hk | hk <;> omega))
       have m3 := Qz.mk (Kd.N_kept (Kd.N_below HN5.out HW.out) HKS.out (fun k hk e => by have q0 := HGE.out; have q1 := ZA.out; have q2 := ZC.out; have q3 := ZE.out; have q6 := HSA.out; rcases hk with hk | hk <;> omega))
       have m4 := Qz.mk (bkf (p := ⟨g4, i * 4 + 3, none⟩) (bkb B1.out HW.out) (fun e => by have h2 := HGE.out; have h3 := GL1.out; have h4 := HW2M7.out; have e2 : g1 = g4 := e; omega) (.slice Ad (x.f5.getD i z77).f3.length cd))
       have m5 := Qz.mk (bkf (p := ⟨g4, i * 4 + 3, none⟩) (bkb B2.out HW.out) (fun e => by have h2 := HGE.out; have h3 := GL2.out; have h4 := HW2M7.out; have e2 : g2 = g4 := e; omega) (.slice Ad (x.f5.getD i z77).f3.length cd))
       have m6 := Qz.mk (show Below w.heap.size w (wd.setCell ⟨g4, i * 4 + 3, none⟩ (.slice Ad (x.f5.getD i z77).f3.length cd)) from bset (HB.out.trans (HW.out.mono HB.out.size)) (Nat.le_trans HM7.out HGE.out))
       clear hrd hg4
       go_wp2
       go_roundg k1
       case measure => exact Nat.lt_succ_self _
       case rel => exact ⟨i + 1, by simp; unfold wrap64; have := HS7.out; have := HIL.out; omega, ⟨by have := HI.out; omega⟩, m0, m1, m2, m3, m4, m5, m6⟩
    | succ k1 =>
     have hil : i < x.f3.length := by have := HI.out; omega
     have HIL := Qz.mk hil
     have y1 : decide ((i : Int) < (x.f3.length : Int)) = true := decide_eq_true (by omega)
     have y2 : decide (i < x.f3.length) = true := decide_eq_true hil
     have p1 : (0 : Int) ≤ (i : Int) := by omega
     have q1 : (i : Int) < (x.f3.length : Int) := by omega
     replace p1 := eq_true p1
     replace q1 := eq_true q1
     obtain ⟨g4, cap, ev, hge, hlt, _, _⟩ := Kd.N_form HN5.out (by omega)
     simp only [Value.slice.injEq, true_and] at ev
     obtain ⟨rfl, rfl⟩ := ev
     have HGE := Qz.mk hge
     clear hge hlt hil
     go_wp2
     have HN5 := Qz.mk (Kd.N_drew HN5.out)
     have HF3 := Qz.mk (Kd.F_drew HF3.out)
     have HF4 := Qz.mk (Kd.F_drew HF4.out)
     have B1 := Qz.mk (bkd B1.out)
     have B2 := Qz.mk (bkd B2.out)
     have HB := Qz.mk (bd1 HB.out)
     have HCW := Qz.mk (show _ ≤ wr.drew.heap.size from HCW.out)
     obtain ⟨cs, hcl, hFK, hcc, hfz⟩ := Kd.N_elem HN5.out [] (i : Int) (by have := HIL.out; omega) (by have := HIL.out; omega)
     simp only [Int.toNat_natCast] at hFK hcc hfz
     obtain ⟨Ai, ci, ecs, hli, hCi⟩ := Kd.FK_now hFK
     subst ecs
     have HS := Qz.mk (show wr.drew.cell? ⟨g4, i, none⟩ = some (.slice Ai (x.f3.getD i []).length ci) from by have h := hcc 0 _ rfl; rw [show i * kD.sz + 0 = i from by show i * 1 + 0 = i; omega] at h; exact h)
     have HZ := Qz.mk (show wr.drew.frozen? ⟨g4, i, none⟩ = false from by have h := hfz 0; rw [show i * kD.sz + 0 = i from by show i * 1 + 0 = i; omega] at h; exact h)
     have HCI := Qz.mk hCi
     have HLI := Qz.mk hli
     have HDL := Qz.mk (show (x.f3.getD i []).length < 17592186044416 from HD5.out _ (by rw [List.getD_eq_getElem?_getD, List.getElem?_eq_getElem HIL.out]; exact List.getElem_mem _))
     have HDL2 := Qz.mk (show (x.f3[i]?.getD []).length < 17592186044416 from by rw [← List.getD_eq_getElem?_getD]; exact HDL.out)
     clear hcl hFK hcc hfz hli hCi
     have HW := Qz.mk (Below.refl wr.drew.heap.size wr.drew)
     refine start_ (n := 11) (S := fun w' => w'.cell? ⟨g1, 5, none⟩ = some (.slice (some ⟨g4, 0, none⟩) x.f3.length b5) ∧ w'.cell? ⟨g4, i, none⟩ = some (.slice Ai (x.f3.getD i []).length ci)) (ds := [10]) (ba_ 11 0) (by kernel_rfl) rfl rfl ⟨bcel HW.out ((bc_ B1.out 5).trans rfl), bcel HW.out HS.out⟩ (fun hHeld => ?_)
     generalize wr.drew = wa at HN5 HF3 HF4 B1 B2 HB HCW HS HZ HCI HW hHeld ⊢
     refine with_tabW netClone.tab12 netClone.bits12 (fun HT_ HW_ => ?_)
     refine pure_ (i := 0) (N := some 43) (v := ?_) (a' := ?_) (ba_ 11 1) rfl rfl (any_of HT_.out (by kernel_rfl)) (fun _ _ _ h => h) (Or.inl ⟨by rfl, ?_⟩) ?_ ?_
     rotate_left
     ·intro w'
      go_simp
      with_reducible rfl
     rotate_left
     ·simp only [aw_]
      rfl
     refine pure_ (i := 2) (N := some 45) (v := ?_) (a' := ?_) (ba_ 11 5) rfl rfl (any_of HT_.out (by kernel_rfl)) (fun _ _ _ h => h) (Or.inl ⟨by rfl, ?_⟩) ?_ ?_
     rotate_left
     ·intro w'
      go_simp
      with_reducible rfl
     rotate_left
     ·simp only [aw_]
      rfl
     refine pure_ (i := 3) (N := some 46) (v := ?_) (a' := ?_) (ba_ 11 13) rfl rfl (any_of HT_.out (by kernel_rfl)) (fun _ _ _ h => h) (Or.inl ⟨by rfl, ?_⟩) ?_ ?_
     rotate_left
     ·intro w'
      go_simp
      with_reducible rfl
     rotate_left
     ·simp only [aw_]
      rfl
     refine pure_ (i := 5) (N := some 48) (v := ?_) (a' := ?_) (ba_ 11 45) rfl rfl (any_of HT_.out (by kernel_rfl)) (fun _ _ _ h => h) (Or.inl ⟨by rfl, ?_⟩) ?_ ?_
     rotate_left
     ·intro w'
      go_simp
      with_reducible rfl
     rotate_left
     ·simp only [aw_]
      rfl
     refine take_ (i := 1) (N := some 44) (v := ?_) (a' := ?_) (ba_ 11 47) rfl rfl (take_ofW HT_.out HW_.out (by kernel_rfl)) (fun _ _ _ h => h) (Or.inl ⟨by rfl, ?_⟩) hHeld ?_ ?_
     rotate_left
     ·rintro w' ⟨s0, s1⟩
      go_simp
      with_reducible rfl
     rotate_left
     ·simp only [aw_]
      rfl
     refine take_ (i := 4) (N := some 47) (v := ?_) (a' := ?_) (ba_ 11 63) rfl rfl (take_ofW HT_.out HW_.out (by kernel_rfl)) (fun _ _ _ h => h) (Or.inl ⟨by rfl, ?_⟩) hHeld ?_ ?_
     rotate_left
     ·rintro w' ⟨s0, s1⟩
      go_simp
      with_reducible rfl
     rotate_left
     ·simp only [aw_]
      rfl
     refine pure_ (i := 6) (N := some 49) (v := ?_) (a' := ?_) (ba_ 11 127) rfl rfl (any_of HT_.out (by kernel_rfl)) (fun _ _ _ h => h) (Or.inl ⟨by rfl, ?_⟩) ?_ ?_
     rotate_left
     ·intro w'
      go_simp
      with_reducible rfl
     rotate_left
     ·simp only [aw_]
      rfl
     refine take_ (i := 7) (N := some 50) (v := ?_) (a' := ?_) (ba_ 11 255) rfl rfl (take_ofW HT_.out HW_.out (by kernel_rfl)) (fun _ _ _ h => h) (Or.inl ⟨by rfl, ?_⟩) hHeld ?_ ?_
     rotate_left
     ·rintro w' ⟨s0, s1⟩
      go_simp
      with_reducible rfl
     rotate_left
     ·simp only [aw_]
      rfl
     refine one_ (i := 8) (N := some 51) (ba_ 11 511) rfl rfl (one_of HT_.out (by kernel_rfl)) (by decide) (fun K hK => ?_)
     refine goes_ Try.func61 (by kernel_rfl) rfl #[.slice Ai (x.f3.getD i []).length ci] (by rfl) rfl rfl (by (try simp only [List.map_toArray, List.map_cons, List.map_nil]); first | done | rfl | (simp only [List.length_drop, List.length_take]; rfl)) ?_
     refine (sc61.calls Ai ci (x.f3.getD i []) (x.f3.getD i []) wa HCI.out HLI.out (cln61 HDL.out)).mono ?_
     rintro e wd ⟨vd, rfl, hod, hbd⟩
     refine ⟨_, rfl, ?_⟩
     obtain ⟨Ad, cd, rfl⟩ := Kd.R_slice hod
     have HOD := Qz.mk hod
     have HW := Qz.mk hbd
     clear hod hbd
     refine hK.out _ _ ⟨bcel HW.out ((bc_ B1.out 5).trans rfl), bcel HW.out HS.out⟩ (fun hHeld => ?_)
     clear hK K
     refine norm_ (a' := ?_) ?_ ?_
     rotate_left
     ·show Act.put _ (some 51) _ = _
      simp only [aw_]
      rfl
     refine pure_ (i := 9) (N := some 52) (v := ?_) (a' := ?_) (ba_ 11 1023) rfl rfl (any_of HT_.out (by kernel_rfl)) (fun _ _ _ h => h) (Or.inl ⟨by rfl, ?_⟩) ?_ ?_
     rotate_left
     ·intro w'
      go_simp
      with_reducible rfl
     rotate_left
     ·simp only [aw_]
      rfl
     refine last_ (i := 10) (N := none) (ba_ 11 2047) rfl rfl (one_of HT_.out (by kernel_rfl)) (by decide) (fun K hK => ?_)
     have hcell := bcel HW.out HS.out
     have hfroz := (HW.out.frozen (p := ⟨g4, i, none⟩) (World.block_lt_of_cell? wa _ HS.out)).trans HZ.out
     refine skip_ (w1 := ?_) (by rfl) rfl ?_ ?_
     rotate_left
     ·go_simp
      rfl
     refine hK.out _ _ ?_
     clear hK K
     refine done_ (done_of HT_.out (by kernel_rfl)) ?_
     clear hHeld hcell hfroz
     have hrd := Kd.R_reads' HOD.out
     have hg4 := World.block_lt_of_cell? wa _ HS.out
     have HKS := Qz.mk (show Kept wd (wd.setCell ⟨g4, i, none⟩ (.slice Ad (x.f3.getD i []).length cd)) (fun k => k = g4) from Kept.setCell (S := fun k => k = g4) (p := ⟨g4, i, none⟩) (Kept.refl _ _) (.inl rfl) _)
     have HMW := Qz.mk (show wC.heap.size ≤ wa.heap.size from Nat.le_trans HGE.out (Nat.le_of_lt hg4))
     have hm0 := row_put51 (Kd.N_below HN5.out HW.out) HIL.out hrd.2.1 (Kd.F_mono (fresh_F HOD.out) (fun k hk => ⟨.inr (Nat.le_trans HMW.out hk.1), fun e => by have h1 := hk.1; have h2 : g4 < wa.heap.size := hg4; omega⟩))
     rw [set_getD] at hm0
     have m0 := Qz.mk hm0
     clear hm0
     have m1 := Qz.mk (Kd.F_kept (Kd.F_step HF3.out (fun k hk hlt => HW.out.block k hlt)) HKS.out (fun k hk e => by have q0 := HGE.out; have q1 := ZA.out; have q2 := ZC.out; omega))
     have m2 := Qz.mk (Kd.F_kept (Kd.F_step HF4.out (fun k hk hlt => HW.out.block k hlt)) HKS.out (fun k hk e => by have q0 := HGE.out; have q1 := ZA.out; have q2 := ZC.out; have q5 := HB.out.size; have q6 := HSA.out; rcases hk with hk | hk <;> omega))
     have m3 := Qz.mk (bkf (p := ⟨g4, i, none⟩) (bkb B1.out HW.out) (fun e => by have h2 := HGE.out; have h3 := GL1.out; have h4 := HW2M5.out; have e2 : g1 = g4 := e; omega) (.slice Ad (x.f3.getD i []).length cd))
     have m4 := Qz.mk (bkf (p := ⟨g4, i, none⟩) (bkb B2.out HW.out) (fun e => by have h2 := HGE.out; have h3 := GL2.out; have h4 := HW2M5.out; have e2 : g2 = g4 := e; omega) (.slice Ad (x.f3.getD i []).length cd))
     have m5 := Qz.mk (show Below w.heap.size w (wd.setCell ⟨g4, i, none⟩ (.slice Ad (x.f3.getD i []).length cd)) from bset (HB.out.trans (HW.out.mono HB.out.size)) (Nat.le_trans HM5.out HGE.out))
     have m6 := Qz.mk (Nat.le_trans HCW.out (Nat.le_trans HW.out.size HKS.out.1))
     clear hrd hg4
     go_wp2
     go_roundg k1
     case measure => exact Nat.lt_succ_self _
     case rel => exact ⟨i + 1, by simp; unfold wrap64; have := HS5.out; have := HIL.out; omega, ⟨by have := HI.out; omega⟩, m0, m1, m2, m3, m4, m5, m6⟩
  | succ k1 =>
   have hil : i < x.f2.length := by have := HI.out; omega
   have HIL := Qz.mk hil
   have y1 : decide ((i : Int) < (x.f2.length : Int)) = true := decide_eq_true (by omega)
   have y2 : decide (i < x.f2.length) = true := decide_eq_true hil
   have p1 : (0 : Int) ≤ (i : Int) := by omega
   have q1 : (i : Int) < (x.f2.length : Int) := by omega
   replace p1 := eq_true p1
   replace q1 := eq_true q1
   obtain ⟨g4, cap, ev, hge, hlt, _, _⟩ := Kd.N_form HN4.out (by omega)
   simp only [Value.slice.injEq, true_and] at ev
   obtain ⟨rfl, rfl⟩ := ev
   have HGE := Qz.mk hge
   clear hge hlt hil
   go_wp2
   have HN4 := Qz.mk (Kd.N_drew HN4.out)
   have HF3 := Qz.mk (Kd.F_drew HF3.out)
   have B1 := Qz.mk (bkd B1.out)
   have B2 := Qz.mk (bkd B2.out)
   have HB := Qz.mk (bd1 HB.out)
   have HAW := Qz.mk (show _ ≤ wr.drew.heap.size from HAW.out)
   obtain ⟨cs, hcl, hFK, hcc, hfz⟩ := Kd.N_elem HN4.out z72 (i : Int) (by have := HIL.out; omega) (by have := HIL.out; omega)
   simp only [Int.toNat_natCast] at hFK hcc hfz
   obtain ⟨Ai, ci, ecs, hli, hCi⟩ := k72_open (Kd.FK_now hFK)
   subst ecs
   have HS := Qz.mk (show wr.drew.cell? ⟨g4, i * 5 + 4, none⟩ = some (.slice Ai (x.f2.getD i z72).f4.length ci) from hcc 4 _ rfl)
   have HZ := Qz.mk (show wr.drew.frozen? ⟨g4, i * 5 + 4, none⟩ = false from hfz 4)
   have HCI := Qz.mk hCi
   have HLI := Qz.mk hli
   have HDL := Qz.mk (show (x.f2.getD i z72).f4.length < 17592186044416 from HD4.out _ (by rw [List.getD_eq_getElem?_getD, List.getElem?_eq_getElem HIL.out]; exact List.getElem_mem _))
   have HDL2 := Qz.mk (show (x.f2[i]?.getD z72).f4.length < 17592186044416 from by rw [← List.getD_eq_getElem?_getD]; exact HDL.out)
   clear hcl hFK hcc hfz hli hCi
   have HW := Qz.mk (Below.refl wr.drew.heap.size wr.drew)
   refine start_ (n := 13) (S := fun w' => w'.cell? ⟨g1, 4, none⟩ = some (.slice (some ⟨g4, 0, none⟩) x.f2.length b4) ∧ w'.cell? ⟨g4, i * 5 + 4, none⟩ = some (.slice Ai (x.f2.getD i z72).f4.length ci)) (ds := [12]) (ba_ 13 0) (by kernel_rfl) rfl rfl ⟨bcel HW.out ((bc_ B1.out 4).trans rfl), bcel HW.out HS.out⟩ (fun hHeld => ?_)
   generalize wr.drew = wa at HN4 HF3 B1 B2 HB HAW HS HZ HCI HW hHeld ⊢
   refine with_tabW netClone.tab6 netClone.bits6 (fun HT_ HW_ => ?_)
   refine pure_ (i := 0) (N := some 20) (v := ?_) (a' := ?_) (ba_ 13 1) rfl rfl (any_of HT_.out (by kernel_rfl)) (fun _ _ _ h => h) (Or.inl ⟨by rfl, ?_⟩) ?_ ?_
   rotate_left
   ·intro w'
    go_simp
    with_reducible rfl
   rotate_left
   ·simp only [aw_]
    rfl
   refine pure_ (i := 2) (N := some 22) (v := ?_) (a' := ?_) (ba_ 13 5) rfl rfl (any_of HT_.out (by kernel_rfl)) (fun _ _ _ h => h) (Or.inl ⟨by rfl, ?_⟩) ?_ ?_
   rotate_left
   ·intro w'
    go_simp
    with_reducible rfl
   rotate_left
   ·simp only [aw_]
    rfl
   refine pure_ (i := 3) (N := some 23) (v := ?_) (a' := ?_) (ba_ 13 13) rfl rfl (any_of HT_.out (by kernel_rfl)) (fun _ _ _ h => h) (Or.inl ⟨by rfl, ?_⟩) ?_ ?_
   rotate_left
   ·intro w'
    go_simp
    with_reducible rfl
   rotate_left
   ·simp only [aw_]
    rfl
   refine pure_ (i := 5) (N := some 25) (v := ?_) (a' := ?_) (ba_ 13 45) rfl rfl (any_of HT_.out (by kernel_rfl)) (fun _ _ _ h => h) (Or.inl ⟨by rfl, ?_⟩) ?_ ?_
   rotate_left
   ·intro w'
    go_simp
    with_reducible rfl
   rotate_left
   ·simp only [aw_]
    rfl
   refine take_ (i := 1) (N := some 21) (v := ?_) (a' := ?_) (ba_ 13 47) rfl rfl (take_ofW HT_.out HW_.out (by kernel_rfl)) (fun _ _ _ h => h) (Or.inl ⟨by rfl, ?_⟩) hHeld ?_ ?_
   rotate_left
   ·rintro w' ⟨s0, s1⟩
    go_simp
    with_reducible rfl
   rotate_left
   ·simp only [aw_]
    rfl
   refine take_ (i := 4) (N := some 24) (v := ?_) (a' := ?_) (ba_ 13 63) rfl rfl (take_ofW HT_.out HW_.out (by kernel_rfl)) (fun _ _ _ h => h) (Or.inl ⟨by rfl, ?_⟩) hHeld ?_ ?_
   rotate_left
   ·rintro w' ⟨s0, s1⟩
    go_simp
    with_reducible rfl
   rotate_left
   ·simp only [aw_]
    rfl
   refine pure_ (i := 6) (N := some 26) (v := ?_) (a' := ?_) (ba_ 13 127) rfl rfl (any_of HT_.out (by kernel_rfl)) (fun _ _ _ h => h) (Or.inl ⟨by rfl, ?_⟩) ?_ ?_
   rotate_left
   ·intro w'
    go_simp
    with_reducible rfl
   rotate_left
   ·simp only [aw_]
    rfl
   refine pure_ (i := 7) (N := some 27) (v := ?_) (a' := ?_) (ba_ 13 255) rfl rfl (any_of HT_.out (by kernel_rfl)) (fun _ _ _ h => h) (Or.inl ⟨by rfl, ?_⟩) ?_ ?_
   rotate_left
   ·intro w'
    go_simp
    with_reducible rfl
   rotate_left
   ·simp only [aw_]
    rfl
   refine take_ (i := 8) (N := some 28) (v := ?_) (a' := ?_) (ba_ 13 511) rfl rfl (take_ofW HT_.out HW_.out (by kernel_rfl)) (fun _ _ _ h => h) (Or.inl ⟨by rfl, ?_⟩) hHeld ?_ ?_
   rotate_left
   ·rintro w' ⟨s0, s1⟩
    go_simp
    with_reducible rfl
   rotate_left
   ·simp only [aw_]
    rfl
   refine one_ (i := 9) (N := some 29) (ba_ 13 1023) rfl rfl (one_of HT_.out (by kernel_rfl)) (by decide) (fun K hK => ?_)
   refine goes_ Try.func61 (by kernel_rfl) rfl #[.slice Ai (x.f2.getD i z72).f4.length ci] (by rfl) rfl rfl (by (try simp only [List.map_toArray, List.map_cons, List.map_nil]); first | done | rfl | (simp only [List.length_drop, List.length_take]; rfl)) ?_
   refine (sc61.calls Ai ci (x.f2.getD i z72).f4 (x.f2.getD i z72).f4 wa HCI.out HLI.out (cln61 HDL.out)).mono ?_
   rintro e wd ⟨vd, rfl, hod, hbd⟩
   refine ⟨_, rfl, ?_⟩
   obtain ⟨Ad, cd, rfl⟩ := Kd.R_slice hod
   have HOD := Qz.mk hod
   have HW := Qz.mk hbd
   clear hod hbd
   refine hK.out _ _ ⟨bcel HW.out ((bc_ B1.out 4).trans rfl), bcel HW.out HS.out⟩ (fun hHeld => ?_)
   clear hK K
   refine norm_ (a' := ?_) ?_ ?_
   rotate_left
   ·show Act.put _ (some 29) _ = _
    simp only [aw_]
    rfl
   refine pure_ (i := 10) (N := some 30) (v := ?_) (a' := ?_) (ba_ 13 2047) rfl rfl (any_of HT_.out (by kernel_rfl)) (fun _ _ _ h => h) (Or.inl ⟨by rfl, ?_⟩) ?_ ?_
   rotate_left
   ·intro w'
    go_simp
    with_reducible rfl
   rotate_left
   ·simp only [aw_]
    rfl
   refine pure_ (i := 11) (N := some 31) (v := ?_) (a' := ?_) (ba_ 13 4095) rfl rfl (any_of HT_.out (by kernel_rfl)) (fun _ _ _ h => h) (Or.inl ⟨by rfl, ?_⟩) ?_ ?_
   rotate_left
   ·intro w'
    go_simp
    with_reducible rfl
   rotate_left
   ·simp only [aw_]
    rfl
   refine last_ (i := 12) (N := none) (ba_ 13 8191) rfl rfl (one_of HT_.out (by kernel_rfl)) (by decide) (fun K hK => ?_)
   have hcell := bcel HW.out HS.out
   have hfroz := (HW.out.frozen (p := ⟨g4, i * 5 + 4, none⟩) (World.block_lt_of_cell? wa _ HS.out)).trans HZ.out
   refine skip_ (w1 := ?_) (by rfl) rfl ?_ ?_
   rotate_left
   ·go_simp
    rfl
   refine hK.out _ _ ?_
   clear hK K
   refine done_ (done_of HT_.out (by kernel_rfl)) ?_
   clear hHeld hcell hfroz
   have hrd := Kd.R_reads' HOD.out
   have hg4 := World.block_lt_of_cell? wa _ HS.out
   have HKS := Qz.mk (show Kept wd (wd.setCell ⟨g4, i * 5 + 4, none⟩ (.slice Ad (x.f2.getD i z72).f4.length cd)) (fun k => k = g4) from Kept.setCell (S := fun k => k = g4) (p := ⟨g4, i * 5 + 4, none⟩) (Kept.refl _ _) (.inl rfl) _)
   have HMW := Qz.mk (show wA.heap.size ≤ wa.heap.size from Nat.le_trans HGE.out (Nat.le_of_lt hg4))
   have m0 := Qz.mk (row_put72 (Kd.N_below HN4.out HW.out) HIL.out hrd.2.1 (Kd.F_mono (fresh_F HOD.out) (fun k hk => ⟨.inr (Nat.le_trans HMW.out hk.1), fun e => by have h1 := hk.1; have h2 : g4 < wa.heap.size := hg4; omega⟩)))
   have m1 := Qz.mk (Kd.F_kept (Kd.F_step HF3.out (fun k hk hlt => HW.out.block k hlt)) HKS.out (fun k hk e => by have q0 := HGE.out; have q1 := ZA.out; omega))
   have m2 := Qz.mk (bkf (p := ⟨g4, i * 5 + 4, none⟩) (bkb B1.out HW.out) (fun e => by have h2 := HGE.out; have h3 := GL1.out; have h4 := HW2M4.out; have e2 : g1 = g4 := e; omega) (.slice Ad (x.f2.getD i z72).f4.length cd))
   have m3 := Qz.mk (bkf (p := ⟨g4, i * 5 + 4, none⟩) (bkb B2.out HW.out) (fun e => by have h2 := HGE.out; have h3 := GL2.out; have h4 := HW2M4.out; have e2 : g2 = g4 := e; omega) (.slice Ad (x.f2.getD i z72).f4.length cd))
   have m4 := Qz.mk (show Below w.heap.size w (wd.setCell ⟨g4, i * 5 + 4, none⟩ (.slice Ad (x.f2.getD i z72).f4.length cd)) from bset (HB.out.trans (HW.out.mono HB.out.size)) (Nat.le_trans HM4.out HGE.out))
   have m5 := Qz.mk (Nat.le_trans HAW.out (Nat.le_trans HW.out.size HKS.out.1))
   clear hrd hg4
   go_wp2
   go_roundg k1
   case measure => exact Nat.lt_succ_self _
   case rel => exact ⟨i + 1, by simp; unfold wrap64; have := HS4.out; have := HIL.out; omega, ⟨by have := HI.out; omega⟩, m0, m1, m2, m3, m4, m5⟩
end
end Go.Proofs.Ytkaikgbcnmfppaa.Nb
