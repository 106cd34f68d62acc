/- The reference's Det. -/
import Derived.Test.YtfdkhkajehopkaaMbRefReduce
namespace Go.Proofs.Ytfdkhkajehopkaa.Mb
open Go.RowKit Go.Proofs.YtfdkhkajehopkaaW.PrintWords Go.Proofs.YtfdkhkajehopkaaW.PrintLast Go.Proofs.YtfdkhkajehopkaaW.PrintMore
set_option linter.unusedVariables false
set_option linter.unusedSimpArgs false
def ref_det.T12 : Bool × List (List Nat × List Nat) := (true, [([], []), ([], []), ([], []), ([], []), ([], []), ([], []), ([4, 5], [4, 5]), ([6], [6]), ([], []), ([], []), ([8, 9], [8, 9]), ([10], [10]), ([0, 1, 0, 1, 4, 5, 6, 7, 11], [0, 1]), ([12, 7, 0, 1, 4, 5, 6, 7, 11], [7, 12]), ([2, 3, 0, 1, 2, 3, 4, 5, 6, 7, 8, 9, 10, 11, 12, 13], [2, 3]), ([14, 11, 13, 0, 1, 2, 3, 4, 5, 6, 7, 8, 9, 10, 11, 12, 13], [11, 14])])
def ref_det.B12 : List Nat := [0, 0, 0, 0, 0, 0, 48, 112, 0, 0, 768, 1792, 4083, 8179, 16383, 32767]
theorem ref_det.tab12 : rtab .any (opsOf Try.f20 12) = ref_det.T12 := by kernel_rfl
theorem ref_det.bits12 : waitsOk ref_det.T12.2 ref_det.B12 = true := by kernel_rfl
def ref_det.T18 : Bool × List (List Nat × List Nat) := (true, [([], []), ([], []), ([], []), ([1, 2], [1, 2]), ([3], [3]), ([], []), ([], []), ([5, 6], [5, 6]), ([7], [7]), ([], []), ([], []), ([], []), ([10, 11], [10, 11]), ([12], [12]), ([], []), ([13, 14], [13, 14]), ([15], [15]), ([], []), ([], []), ([], []), ([18, 19], [18, 19]), ([20], [20]), ([], []), ([21, 22], [21, 22]), ([23], [23]), ([17, 24], [17, 24]), ([9, 16, 25, 25], [9, 16, 25]), ([0, 4, 8, 26, 26], [0, 4, 8, 26])])
def ref_det.B18 : List Nat := [0, 0, 0, 6, 14, 0, 0, 96, 224, 0, 0, 0, 3072, 7168, 0, 31744, 64512, 0, 0, 0, 786432, 1835008, 0, 8126464, 16515072, 33423360, 67108352, 134217727]
theorem ref_det.tab18 : rtab .any (opsOf Try.f20 18) = ref_det.T18 := by kernel_rfl
theorem ref_det.bits18 : waitsOk ref_det.T18.2 ref_det.B18 = true := by kernel_rfl
/-- Rows below a pivot. -/
def elimD (kr : Nat) (p : Int) (c : Nat) : Nat → Nat → List (List Int) → Option (List (List Int))
 | 0, _, rows => some rows
 | d + 1, i, rows => (juntoref01_Inv.f kr p ((rows.getD c []).getD c 0)).bind fun v => (juntoref01_Mul.f p ((rows.getD i []).getD c 0) v).bind fun kk => (lessRow p kk (rows.getD i []) (rows.getD c [])).bind fun r => elimD kr p c d (i + 1) (rows.set i r)
def detR (kr : Nat) (p : Int) : Nat → Nat → List (List Int) → Int → Option Int
 | 0, _, _, det => some det
 | d + 1, c, rows, det => match srch rows c c with
   | none => some 0
   | some i0 => (if i0 = c then some det else juntoref01_Sub.f p 0 det).bind fun d1 => (juntoref01_Mul.f p d1 ((rows.getD i0 []).getD c 0)).bind fun d2 => (elimD kr p c (rows.length - (c + 1)) (c + 1) (swapR rows c i0)).bind fun rows2 => detR kr p d (c + 1) rows2 d2
structure GAt (w0 w : World) (vr : Value) (rows : List (List Int)) : Prop where
 rws : Kd.S k2 33 w w0.heap.size (fun _ => True) vr rows
 low : Below w0.heap.size w0 w
theorem RowAt.drewN' {w : World} {base : Nat} {vr : Value} {rows : List (List Int)} {i : Nat} {row : List Int} {g cap : Nat} {A : Option Addr} {c : Nat} (h : RowAt w base vr rows i row g cap A c) (n : Nat) : RowAt (w.drewN n) base vr rows i row g cap A c := ⟨h.vr_, h.gb, h.ty, h.head, h.free, h.room⟩
def juntoref03_Det.f (k : Nat) (a0 : Int) (l1 : List (List Int)) : Option Int :=
 if l1.length ≤ 4096 ∧ l1.all (fun r => r.length == l1.length) = true ∧ juntoref03_copied.f k l1 = some l1 then detR k a0 l1.length 0 l1 1 else none
set_option maxHeartbeats 8000000 in
set_option maxRecDepth 100000 in
theorem juntoref03_Det.calls (k : Nat) (a0 : Int) (A1 : Option Addr) (c1 : Nat) (l1 : List (List Int)) (r : Int) (w : World) (hr1 : Kd.C (Kd.slice 22 (Kd.int .u64)) w A1 l1.length l1) (hc1 : l1.length ≤ c1) (h : juntoref03_Det.f k a0 l1 = some r) :
  Calls Try.prog 20 #[.int .u64 a0, .slice A1 l1.length c1] w fun e w' => e = .returned (.int .u64 r) ∧ Below w.heap.size w w' := by
 unfold juntoref03_Det.f at h
 by_cases hd : l1.length ≤ 4096 ∧ l1.all (fun r => r.length == l1.length) = true ∧ juntoref03_copied.f k l1 = some l1
 ·rw [if_pos hd] at h
  obtain ⟨d1, d3, d6⟩ := hd
  have hwide : Wide l1.length l1 := fun row hrow => by simpa using List.all_eq_true.1 d3 row hrow
  have HR := Aside0.mk hr1
  have HC := Aside0.mk hc1
  have HCP := Aside0.mk d6
  have HN0 := Aside0.mk d1
  have HF := Aside0.mk h
  have HWI := Aside0.mk hwide
  clear hr1 hc1 d1 d3 d6 hwide h
  go_enter Try.func20, Try.ntmps20
  go_wp2_with (go_at_call 56; refine (juntoref03_copied.calls k A1 c1 l1 l1 _ HR.out HC.out HCP.out).mono ?_; rintro e w1 ⟨v0, rfl, hs, hb⟩; obtain ⟨Ar, cr, er⟩ := Kd.S_slice hs; have HS1 := Aside0.mk hs; have HB1 := Aside0.mk hb; clear hs hb; subst er)
  obtain ⟨n, hn⟩ : ∃ n, l1.length = n := ⟨_, rfl⟩
  rw [hn] at HS1 HN0 HWI HF
  have HN := HN0
  clear HN0
  have HG0 : Aside0 (GAt w w1 (.slice Ar n cr) l1) := ⟨⟨HS1.out, HB1.out⟩⟩
  have HW0 : Aside0 (Wide n l1 ∧ l1.length = n) := ⟨⟨HWI.out, hn⟩⟩
  try rw [hn]
  have HNN := Aside0.mk hn
  clear HS1 HB1 HWI hn
  go_loopg [5, 13] (n + 1) (fun kq v5 v13 w' => ∃ (c : Nat) (rows_c : List (List Int)) (det : Int), v5 = .int .u64 det ∧ v13 = .int .i64 (c : Int) ∧ Aside0 (c ≤ n ∧ kq = n + 1 - c) ∧ Aside0 (detR k a0 (n - c) c rows_c det = some r) ∧ Aside0 (GAt w w' (.slice Ar n cr) rows_c) ∧ Aside0 (Wide n rows_c ∧ rows_c.length = n))
  case atStart => exact ⟨0, l1, 1, rfl, rfl, ⟨by omega, by omega⟩, HF, HG0, HW0⟩
  case round =>
   clear HF HG0 HW0
   obtain ⟨c, rows_c, det, rfl, rfl, HI, HF, HG, HW⟩ := hrel
   cases gk with
   | zero => exact absurd HI.out.2 (by have := HI.out.1; omega)
   | succ k1 =>
    have hc63 : (c : Int) ≤ 9223372036854775806 := by have := HI.out; have := HN.out; omega
    by_cases hlt : c < n
    ·have b1 : decide ((c : Int) < (n : Int)) = true := decide_eq_true (by omega)
     have b1' : decide (c < n) = true := decide_eq_true hlt
     obtain ⟨d, hd⟩ : ∃ d, n - c = d + 1 := ⟨n - c - 1, by omega⟩
     have hd' : n - (c + 1) = d := by omega
     have HD' := Aside0.mk hd'
     have HCL := Aside0.mk hlt
     have hF := HF.out
     rw [hd] at hF
     simp only [detR] at hF
     clear hd hd' HF hlt
     cases hs : srch rows_c c c with
     | none =>
      rw [hs] at hF
      simp only [Option.some.injEq] at hF
      subst hF
      have hz0 := srch_none hs
      have HZ : Aside0 (∀ i, c ≤ i → i < n → (rows_c.getD i []).getD c 0 = 0) := ⟨fun i h1 h2 => hz0 i h1 (by rw [HW.out.2]; exact h2)⟩
      have HSTOP : Aside0 (n ≤ n) := ⟨Nat.le_refl _⟩
      clear hs hz0
      go_wp2
      go_loopg [7] (n + 1) (fun kq v7 w' => ∃ i : Nat, v7 = .int .i64 (i : Int) ∧ Aside0 (c ≤ i ∧ i ≤ n ∧ n < kq + i) ∧ w' = wr)
      case atStart => exact ⟨c, rfl, ⟨Nat.le_refl _, by have := HCL.out; omega, by omega⟩, rfl⟩
      case round =>
       obtain ⟨i, rfl, HJ, rfl⟩ := hrel
       cases gk with
       | zero => exact absurd HJ.out.2 (by have := HSTOP.out; omega)
       | succ j2 =>
        have hi63 : (i : Int) ≤ 9223372036854775806 := by have := HJ.out; have := HN.out; have := HSTOP.out; omega
        by_cases hlt2 : i < n
        ·have hz := HZ.out i HJ.out.1 hlt2
         have hil : i < rows_c.length := by rw [HW.out.2]; have := HSTOP.out; omega
         obtain ⟨ga, gl⟩ := wide_get HW.out.1 (i := i) hil
         obtain ⟨row, hrow⟩ : ∃ x_, rows_c.getD i [] = x_ := ⟨_, rfl⟩
         rw [hrow] at ga gl hz
         obtain ⟨g, cap, A, cc, RA, hCA⟩ := grid_row' HG.out.rws ga
         obtain ⟨bi, CA⟩ := hCA c (by rw [gl]; exact HCL.out)
         have e1 := RA.vr_
         have e2 := CA.addr
         subst e2
         injection e1 with e1 el_ e3
         clear el_
         subst e1 e3
         have hh := RA.head
         have hcx := CA.cell
         rw [hz] at hcx
         have b3 : decide ((i : Int) < (n : Int)) = true := decide_eq_true (by have := HW.out.2; omega)
         have b3' : decide (i < n) = true := decide_eq_true (by have := HW.out.2; omega)
         have g1 : (i < n) = True := eq_true (by have := HW.out.2; omega)
         have g2 : (c < row.length) = True := eq_true (by rw [gl]; exact HCL.out)
         have HLT2 := Aside0.mk hlt2
         clear ga gl hz hrow RA CA hCA hil hlt2
         go_wp2
         go_roundg j2
         case measure => omega
         case rel => exact ⟨i + 1, by go_num, ⟨by have := HJ.out; omega, by have := HLT2.out; omega, by have := HJ.out; omega⟩, rfl⟩
        ·have hii : i = n := by have := HJ.out; omega
         clear hlt2
         have b3 : decide ((i : Int) < (n : Int)) = false := decide_eq_false (by omega)
         have b3' : decide (i < n) = false := decide_eq_false (by omega)
         have b4 : ((i : Int) == (n : Int)) = true := beq_iff_eq.mpr (by omega)
         have b4' : (i == n) = true := beq_iff_eq.mpr (by omega)
         clear hii
         go_wp2
         go_ret
         exact ⟨rfl, HG.out.low⟩
     | some i0 =>
      rw [hs] at hF
      obtain ⟨s1, s2, s3, s4⟩ := srch_some hs
      simp only [Option.bind_eq_some_iff] at hF
      obtain ⟨d1, hsg, d2, hmul, rows2, hel, hF⟩ := hF
      have HF2 := Aside0.mk hF
      have HSG := Aside0.mk hsg
      have HMUL := Aside0.mk hmul
      rw [HW.out.2] at hel
      have HEL := Aside0.mk hel
      have HZ : Aside0 (∀ i, c ≤ i → i < i0 → (rows_c.getD i []).getD c 0 = 0) := ⟨s4⟩
      have HS1 := Aside0.mk s1
      have HSTOP : Aside0 (i0 < n) := ⟨by have := HW.out.2; omega⟩
      have HNZ := Aside0.mk s3
      clear hF hs hsg hmul hel s1 s2 s3 s4
      go_wp2
      go_loopg [7] (n + 1) (fun kq v7 w' => ∃ i : Nat, v7 = .int .i64 (i : Int) ∧ Aside0 (c ≤ i ∧ i ≤ i0 ∧ n < kq + i) ∧ w' = wr)
      case atStart => exact ⟨c, rfl, ⟨Nat.le_refl _, HS1.out, by omega⟩, rfl⟩
      case round =>
       obtain ⟨i, rfl, HJ, rfl⟩ := hrel
       cases gk with
       | zero => exact absurd HJ.out.2 (by have := HSTOP.out; omega)
       | succ j2 =>
        have hi63 : (i : Int) ≤ 9223372036854775806 := by have := HJ.out; have := HN.out; have := HSTOP.out; omega
        by_cases hlt2 : i < i0
        ·have hz := HZ.out i HJ.out.1 hlt2
         have hil : i < rows_c.length := by rw [HW.out.2]; have := HSTOP.out; omega
         obtain ⟨ga, gl⟩ := wide_get HW.out.1 (i := i) hil
         obtain ⟨row, hrow⟩ : ∃ x_, rows_c.getD i [] = x_ := ⟨_, rfl⟩
         rw [hrow] at ga gl hz
         obtain ⟨g, cap, A, cc, RA, hCA⟩ := grid_row' HG.out.rws ga
         obtain ⟨bi, CA⟩ := hCA c (by rw [gl]; exact HCL.out)
         have e1 := RA.vr_
         have e2 := CA.addr
         subst e2
         injection e1 with e1 el_ e3
         clear el_
         subst e1 e3
         have hh := RA.head
         have hcx := CA.cell
         rw [hz] at hcx
         have b3 : decide ((i : Int) < (n : Int)) = true := decide_eq_true (by have := HW.out.2; omega)
         have b3' : decide (i < n) = true := decide_eq_true (by have := HW.out.2; omega)
         have g1 : (i < n) = True := eq_true (by have := HW.out.2; omega)
         have g2 : (c < row.length) = True := eq_true (by rw [gl]; exact HCL.out)
         have HLT2 := Aside0.mk hlt2
         clear ga gl hz hrow RA CA hCA hil hlt2
         go_wp2
         go_roundg j2
         case measure => omega
         case rel => exact ⟨i + 1, by go_num, ⟨by have := HJ.out; omega, by have := HLT2.out; omega, by have := HJ.out; omega⟩, rfl⟩
        ·have hii : i = i0 := by have := HJ.out; omega
         clear hlt2
         subst hii
         have hil : i < rows_c.length := by rw [HW.out.2]; exact HSTOP.out
         have htl : c < rows_c.length := by rw [HW.out.2]; exact HCL.out
         obtain ⟨ga, gl⟩ := wide_get HW.out.1 (i := i) hil
         obtain ⟨gc, gm⟩ := wide_get HW.out.1 (i := c) htl
         obtain ⟨ri, hri⟩ : ∃ x_, rows_c.getD i [] = x_ := ⟨_, rfl⟩
         obtain ⟨ra, hra⟩ : ∃ x_, rows_c.getD c [] = x_ := ⟨_, rfl⟩
         have HSW : Aside0 (swapR rows_c c i = (rows_c.set c ri).set i ra) := ⟨by unfold swapR; rw [hri, hra]⟩
         rw [hri] at ga gl HNZ HMUL
         rw [hra] at gc gm
         obtain ⟨x, hx⟩ : ∃ x_, ri.getD c 0 = x_ := ⟨_, rfl⟩
         rw [hx] at HNZ HMUL
         have HX := Aside0.mk hx
         obtain ⟨g, cap, A, cc, RA, hCA⟩ := grid_row' HG.out.rws ga
         obtain ⟨bi, CA⟩ := hCA c (by rw [gl]; exact HCL.out)
         have e1 := RA.vr_
         have e2 := CA.addr
         subst e2
         injection e1 with e1 el_ e3
         clear el_
         subst e1 e3
         obtain ⟨g', cap', A', c', RB, _⟩ := grid_row' HG.out.rws gc
         have eg : g' = g := by have := RB.vr_; injection this with e _ _; injection e with e; injection e with e; exact e.symm
         subst eg
         have hh := RA.head
         have hha := RB.head
         have hcx := CA.cell
         rw [hx] at hcx
         have hfi := RA.free
         have hfa := RB.free
         have bx : (x == 0) = false := beq_eq_false_iff_ne.mpr HNZ.out
         have b3 : decide ((i : Int) < (n : Int)) = true := decide_eq_true (by have := HSTOP.out; omega)
         have b3' : decide (i < n) = true := decide_eq_true (by have := HSTOP.out; omega)
         have b4 : ((i : Int) == (n : Int)) = false := beq_eq_false_iff_ne.mpr (by have := HSTOP.out; omega)
         have b4' : (i == n) = false := beq_eq_false_iff_ne.mpr (by have := HSTOP.out; omega)
         have g1 : (i < n) = True := eq_true HSTOP.out
         have g2 : (c < ri.length) = True := eq_true (by rw [gl]; exact HCL.out)
         have g3 : (c < n) = True := eq_true HCL.out
         have HGL := Aside0.mk gl
         by_cases hic : i = c
         ·have hsg := HSG.out
          rw [if_pos hic] at hsg
          have hsg := (Option.some.inj hsg).symm
          subst hsg
          have hci := hic.symm
          subst hci
          have b5 : ((c : Int) != (c : Int)) = false := bne_eq_false_iff_eq.mpr rfl
          have hsame : swapR rows_c c c = rows_c := by
           unfold swapR
           rw [hri, List.set_set]
           obtain ⟨q1, q2⟩ := List.getElem?_eq_some_iff.1 ga
           rw [← q2, List.set_getElem_self]
          rw [hsame] at HEL
          have HROW := Aside0.mk ga
          obtain ⟨rows7, hr7⟩ : ∃ x_, rows_c = x_ := ⟨_, rfl⟩
          have HG7 : Aside0 (GAt w wr (.slice (some ⟨g', 0, none⟩) n cr) rows7) := ⟨by rw [← hr7]; exact HG.out⟩
          have HW7 : Aside0 (Wide n rows7 ∧ rows7.length = n) := ⟨by rw [← hr7]; exact HW.out⟩
          rw [hr7] at HEL HROW
          clear ga gc gl gm hri hra hx CA hCA hil htl RA RB HSG HSW hsame hr7 HG HW hh hha hfi hfa
          obtain ⟨gt, capt, At, ct, RT, hCT⟩ := grid_row' HG7.out.rws HROW.out
          obtain ⟨bt, CT⟩ := hCT c (by rw [HGL.out]; exact HCL.out)
          have e1 := RT.vr_
          injection e1 with e1 el_ e3
          clear el_
          injection e1 with e1
          injection e1 with e1 eo_ es_
          clear eo_ es_
          have e2 := CT.addr
          subst e1 e2 e3
          have hhd := RT.head
          have hct := CT.cell
          rw [HX.out] at hct
          clear RT CT hCT
          go_wp2_with (first | (go_at_call 45; refine (juntoref01_Mul.calls a0 d1 x d2 _ HMUL.out).mono ?_; rintro e w' ⟨rfl, ⟨nd14, rfl⟩⟩))
          clear hhd hct
          go_loopg [8] (n - c) (fun kq v8 w' => ∃ (q : Nat) (rows_q : List (List Int)), v8 = .int .i64 (q : Int) ∧ Aside0 (c + 1 ≤ q ∧ q ≤ n ∧ kq = n + 1 - q) ∧ Aside0 (elimD k a0 c (n - q) q rows_q = some rows2) ∧ Aside0 (GAt w w' (.slice (some ⟨g', 0, none⟩) n cr) rows_q) ∧ Aside0 (Wide n rows_q ∧ rows_q.length = n))
          case atStart => exact ⟨c + 1, rows7, by go_num, ⟨by omega, by have := HCL.out; omega, by have := HCL.out; omega⟩, HEL, ⟨⟨by (with_reducible repeat (first | apply Kd.S_drewN | apply Kd.S_drew)); exact HG7.out.rws, by repeat (first | exact HG7.out.low | apply pw_below_drewN | apply below_drew1)⟩⟩, HW7⟩
          case round =>
           clear HEL HW7 HG7 HJ
           obtain ⟨q, rows_q, rfl, HJ, HE, HGq, HWq⟩ := hrel
           cases gk with
           | zero => exact absurd HJ.out.2.2 (by have := HJ.out.2.1; omega)
           | succ k3 =>
            have hq63 : (q : Int) ≤ 9223372036854775806 := by have := HJ.out; have := HN.out; omega
            by_cases hin : q < n
            ·have b3 : decide ((q : Int) < (n : Int)) = true := decide_eq_true (by omega)
             have b3' : decide (q < n) = true := decide_eq_true hin
             obtain ⟨d2', hd2⟩ : ∃ d2', n - q = d2' + 1 := ⟨n - q - 1, by omega⟩
             have hE := HE.out
             rw [hd2, elimD] at hE
             simp only [Option.bind_eq_some_iff] at hE
             obtain ⟨iv, hiv, kk, hkk, rq, hrq, hE2⟩ := hE
             have hD2 : n - (q + 1) = d2' := by omega
             have HD2 := Aside0.mk hD2
             have HE2 := Aside0.mk hE2
             have HIN := Aside0.mk hin
             clear hd2 hD2 hE2 HE
             have hqc : q ≠ c := by have := HJ.out; omega
             obtain ⟨ga, gl⟩ := wide_get HWq.out.1 (i := q) (by rw [HWq.out.2]; exact hin)
             obtain ⟨gc, gm⟩ := wide_get HWq.out.1 (i := c) (by rw [HWq.out.2]; exact HCL.out)
             obtain ⟨m1, m2, m3⟩ := lessRow_spec hrq
             obtain ⟨rt, hrt⟩ : ∃ x_, rows_q.getD q [] = x_ := ⟨_, rfl⟩
             obtain ⟨rf, hrf⟩ : ∃ x_, rows_q.getD c [] = x_ := ⟨_, rfl⟩
             rw [hrt] at ga gl m1 m2 m3 hkk
             rw [hrf] at gc gm m2 m3 hiv
             obtain ⟨y, hy⟩ : ∃ x_, rt.getD c 0 = x_ := ⟨_, rfl⟩
             obtain ⟨yc, hyc⟩ : ∃ x_, rf.getD c 0 = x_ := ⟨_, rfl⟩
             rw [hy] at hkk
             rw [hyc] at hiv
             have HIV := Aside0.mk hiv
             have HKK := Aside0.mk hkk
             obtain ⟨gq, capq, Aq, cq, RQ, hCQ⟩ := grid_row' HGq.out.rws ga
             obtain ⟨bq, CQ⟩ := hCQ c (by rw [gl]; exact HCL.out)
             obtain ⟨gp, capp, Ap, cp, RP, hCP⟩ := grid_row' HGq.out.rws gc
             obtain ⟨bp, CP⟩ := hCP c (by rw [gm]; exact HCL.out)
             have e1 := RQ.vr_
             have e2 := CQ.addr
             subst e2
             injection e1 with e1 el_ e3
             clear el_
             injection e1 with e1
             injection e1 with e1 eo_ es_
             clear eo_ es_
             subst e1 e3
             have e4 := RP.vr_
             injection e4 with e4 el_ e5
             clear el_
             injection e4 with e4
             injection e4 with e4 eo_ es_
             clear eo_ es_
             subst e4 e5
             have e6 := CP.addr
             subst e6
             have hh := RQ.head
             have hhp := RP.head
             have hcx := CQ.cell
             rw [hy] at hcx
             have hcp := CP.cell
             rw [hyc] at hcp
             have HA1 := Aside0.mk (⟨ga, gc, hqc, m1, m2, m3, gl⟩ : rows_q[q]? = some rt ∧ rows_q[c]? = some rf ∧ q ≠ c ∧ rq.length = rt.length ∧ rf.length = rt.length ∧ (∀ j, j < rq.length → ∃ t, juntoref01_Mul.f a0 kk (rf.getD j 0) = some t ∧ juntoref01_Sub.f a0 (rt.getD j 0) t = some (rq.getD j 0)) ∧ rt.length = n)
             have RQ := Aside0.mk RQ
             have RP := Aside0.mk RP
             have g1 : (q < n) = True := eq_true hin
             have g2 : (c < rt.length) = True := eq_true (by rw [gl]; exact HCL.out)
             have g2' : (c < rf.length) = True := eq_true (by rw [gm]; exact HCL.out)
             have g3 : (c < n) = True := eq_true HCL.out
             have HWS : Aside0 (Wide n (rows_q.set q rq) ∧ (rows_q.set q rq).length = n) := ⟨wide_set HWq.out.1 (by rw [m1, gl]), by rw [List.length_set]; exact HWq.out.2⟩
             clear ga gc gl gm m1 m2 m3 hrt hrf hy hyc CQ hCQ CP hCP hin hrq hqc hiv hkk
             go_wp2
             refine start_ (n := 28) (S := fun w' => w'.cell? ⟨g', q, none⟩ = some (.slice (some ⟨bq, 0, none⟩) rt.length cq) ∧ w'.cell? ⟨g', c, none⟩ = some (.slice (some ⟨bp, 0, none⟩) rf.length cp) ∧ w'.cell? ⟨bq, c, none⟩ = some (.int .u64 y) ∧ w'.cell? ⟨bp, c, none⟩ = some (.int .u64 yc)) (ds := [27]) #[false, false, false, false, false, false, false, false, false, false, false, false, false, false, false, false, false, false, false, false, false, false, false, false, false, false, false, false] (by kernel_rfl) rfl rfl ⟨hh, hhp, hcx, hcp⟩ (fun hHeld => ?_); refine with_tabW ref_det.tab18 ref_det.bits18 (fun HT_ HW_ => ?_)
             refine pure_ (i := 0) (N := some 75) (v := ?_) (a' := ?_) #[true, false, false, false, false, false, false, false, false, false, false, false, false, false, false, false, false, false, false, false, false, false, false, false, false, false, false, false] rfl rfl (any_of HT_.out (by kernel_rfl)) (fun _ _ _ h => h) (Or.inl ⟨by rfl, ?_⟩) ?_ ?_
             rotate_left
             ·intro w'
              go_simp
              (try with_reducible rfl)
             rotate_left
             ·simp only [Act.put, List.setIfInBounds_toArray, List.set_cons_zero, List.set_cons_succ, i64_w, i32_w]
              rfl
             refine pure_ (i := 1) (N := some 76) (v := ?_) (a' := ?_) #[true, true, false, false, false, false, false, false, false, false, false, false, false, false, false, false, false, false, false, false, false, false, false, false, false, false, false, false] rfl rfl (any_of HT_.out (by kernel_rfl)) (fun _ _ _ h => h) (Or.inl ⟨by rfl, ?_⟩) ?_ ?_
             rotate_left
             ·intro w'
              go_simp
              (try with_reducible rfl)
             rotate_left
             ·simp only [Act.put, List.setIfInBounds_toArray, List.set_cons_zero, List.set_cons_succ, i64_w, i32_w]
              rfl
             refine pure_ (i := 2) (N := some 77) (v := ?_) (a' := ?_) #[true, true, true, false, false, false, false, false, false, false, false, false, false, false, false, false, false, false, false, false, false, false, false, false, false, false, false, false] rfl rfl (any_of HT_.out (by kernel_rfl)) (fun _ _ _ h => h) (Or.inl ⟨by rfl, ?_⟩) ?_ ?_
             rotate_left
             ·intro w'
              go_simp
              (try with_reducible rfl)
             rotate_left
             ·simp only [Act.put, List.setIfInBounds_toArray, List.set_cons_zero, List.set_cons_succ, i64_w, i32_w]
              rfl
             refine pure_ (i := 3) (N := some 78) (v := ?_) (a' := ?_) #[true, true, true, true, false, false, false, false, false, false, false, false, false, false, false, false, false, false, false, false, false, false, false, false, false, false, false, false] rfl rfl (any_of HT_.out (by kernel_rfl)) (fun _ _ _ h => h) (Or.inl ⟨by rfl, ?_⟩) ?_ ?_
             rotate_left
             ·intro w'
              go_simp
              (try with_reducible rfl)
             rotate_left
             ·simp only [Act.put, List.setIfInBounds_toArray, List.set_cons_zero, List.set_cons_succ, i64_w, i32_w]
              rfl
             refine pure_ (i := 5) (N := some 80) (v := ?_) (a' := ?_) #[true, true, true, true, false, true, false, false, false, false, false, false, false, false, false, false, false, false, false, false, false, false, false, false, false, false, false, false] rfl rfl (any_of HT_.out (by kernel_rfl)) (fun _ _ _ h => h) (Or.inl ⟨by rfl, ?_⟩) ?_ ?_
             rotate_left
             ·intro w'
              go_simp
              (try with_reducible rfl)
             rotate_left
             ·simp only [Act.put, List.setIfInBounds_toArray, List.set_cons_zero, List.set_cons_succ, i64_w, i32_w]
              rfl
             refine pure_ (i := 6) (N := some 81) (v := ?_) (a' := ?_) #[true, true, true, true, false, true, true, false, false, false, false, false, false, false, false, false, false, false, false, false, false, false, false, false, false, false, false, false] rfl rfl (any_of HT_.out (by kernel_rfl)) (fun _ _ _ h => h) (Or.inl ⟨by rfl, ?_⟩) ?_ ?_
             rotate_left
             ·intro w'
              go_simp
              (try with_reducible rfl)
             rotate_left
             ·simp only [Act.put, List.setIfInBounds_toArray, List.set_cons_zero, List.set_cons_succ, i64_w, i32_w]
              rfl
             refine pure_ (i := 7) (N := some 82) (v := ?_) (a' := ?_) #[true, true, true, true, false, true, true, true, false, false, false, false, false, false, false, false, false, false, false, false, false, false, false, false, false, false, false, false] rfl rfl (any_of HT_.out (by kernel_rfl)) (fun _ _ _ h => h) (Or.inl ⟨by rfl, ?_⟩) ?_ ?_
             rotate_left
             ·intro w'
              go_simp
              (try with_reducible rfl)
             rotate_left
             ·simp only [Act.put, List.setIfInBounds_toArray, List.set_cons_zero, List.set_cons_succ, i64_w, i32_w]
              rfl
             refine pure_ (i := 9) (N := some 84) (v := ?_) (a' := ?_) #[true, true, true, true, false, true, true, true, false, true, false, false, false, false, false, false, false, false, false, false, false, false, false, false, false, false, false, false] rfl rfl (any_of HT_.out (by kernel_rfl)) (fun _ _ _ h => h) (Or.inl ⟨by rfl, ?_⟩) ?_ ?_
             rotate_left
             ·intro w'
              go_simp
              (try with_reducible rfl)
             rotate_left
             ·simp only [Act.put, List.setIfInBounds_toArray, List.set_cons_zero, List.set_cons_succ, i64_w, i32_w]
              rfl
             refine pure_ (i := 10) (N := some 85) (v := ?_) (a' := ?_) #[true, true, true, true, false, true, true, true, false, true, true, false, false, false, false, false, false, false, false, false, false, false, false, false, false, false, false, false] rfl rfl (any_of HT_.out (by kernel_rfl)) (fun _ _ _ h => h) (Or.inl ⟨by rfl, ?_⟩) ?_ ?_
             rotate_left
             ·intro w'
              go_simp
              (try with_reducible rfl)
             rotate_left
             ·simp only [Act.put, List.setIfInBounds_toArray, List.set_cons_zero, List.set_cons_succ, i64_w, i32_w]
              rfl
             refine pure_ (i := 11) (N := some 86) (v := ?_) (a' := ?_) #[true, true, true, true, false, true, true, true, false, true, true, true, false, false, false, false, false, false, false, false, false, false, false, false, false, false, false, false] rfl rfl (any_of HT_.out (by kernel_rfl)) (fun _ _ _ h => h) (Or.inl ⟨by rfl, ?_⟩) ?_ ?_
             rotate_left
             ·intro w'
              go_simp
              (try with_reducible rfl)
             rotate_left
             ·simp only [Act.put, List.setIfInBounds_toArray, List.set_cons_zero, List.set_cons_succ, i64_w, i32_w]
              rfl
             refine pure_ (i := 12) (N := some 87) (v := ?_) (a' := ?_) #[true, true, true, true, false, true, true, true, false, true, true, true, true, false, false, false, false, false, false, false, false, false, false, false, false, false, false, false] rfl rfl (any_of HT_.out (by kernel_rfl)) (fun _ _ _ h => h) (Or.inl ⟨by rfl, ?_⟩) ?_ ?_
             rotate_left
             ·intro w'
              go_simp
              (try with_reducible rfl)
             rotate_left
             ·simp only [Act.put, List.setIfInBounds_toArray, List.set_cons_zero, List.set_cons_succ, i64_w, i32_w]
              rfl
             refine pure_ (i := 14) (N := some 89) (v := ?_) (a' := ?_) #[true, true, true, true, false, true, true, true, false, true, true, true, true, false, true, false, false, false, false, false, false, false, false, false, false, false, false, false] rfl rfl (any_of HT_.out (by kernel_rfl)) (fun _ _ _ h => h) (Or.inl ⟨by rfl, ?_⟩) ?_ ?_
             rotate_left
             ·intro w'
              go_simp
              (try with_reducible rfl)
             rotate_left
             ·simp only [Act.put, List.setIfInBounds_toArray, List.set_cons_zero, List.set_cons_succ, i64_w, i32_w]
              rfl
             refine pure_ (i := 17) (N := some 92) (v := ?_) (a' := ?_) #[true, true, true, true, false, true, true, true, false, true, true, true, true, false, true, false, false, true, false, false, false, false, false, false, false, false, false, false] rfl rfl (any_of HT_.out (by kernel_rfl)) (fun _ _ _ h => h) (Or.inl ⟨by rfl, ?_⟩) ?_ ?_
             rotate_left
             ·intro w'
              go_simp
              (try with_reducible rfl)
             rotate_left
             ·simp only [Act.put, List.setIfInBounds_toArray, List.set_cons_zero, List.set_cons_succ, i64_w, i32_w]
              rfl
             refine pure_ (i := 18) (N := some 93) (v := ?_) (a' := ?_) #[true, true, true, true, false, true, true, true, false, true, true, true, true, false, true, false, false, true, true, false, false, false, false, false, false, false, false, false] rfl rfl (any_of HT_.out (by kernel_rfl)) (fun _ _ _ h => h) (Or.inl ⟨by rfl, ?_⟩) ?_ ?_
             rotate_left
             ·intro w'
              go_simp
              (try with_reducible rfl)
             rotate_left
             ·simp only [Act.put, List.setIfInBounds_toArray, List.set_cons_zero, List.set_cons_succ, i64_w, i32_w]
              rfl
             refine pure_ (i := 19) (N := some 94) (v := ?_) (a' := ?_) #[true, true, true, true, false, true, true, true, false, true, true, true, true, false, true, false, false, true, true, true, false, false, false, false, false, false, false, false] rfl rfl (any_of HT_.out (by kernel_rfl)) (fun _ _ _ h => h) (Or.inl ⟨by rfl, ?_⟩) ?_ ?_
             rotate_left
             ·intro w'
              go_simp
              (try with_reducible rfl)
             rotate_left
             ·simp only [Act.put, List.setIfInBounds_toArray, List.set_cons_zero, List.set_cons_succ, i64_w, i32_w]
              rfl
             refine pure_ (i := 20) (N := some 95) (v := ?_) (a' := ?_) #[true, true, true, true, false, true, true, true, false, true, true, true, true, false, true, false, false, true, true, true, true, false, false, false, false, false, false, false] rfl rfl (any_of HT_.out (by kernel_rfl)) (fun _ _ _ h => h) (Or.inl ⟨by rfl, ?_⟩) ?_ ?_
             rotate_left
             ·intro w'
              go_simp
              (try with_reducible rfl)
             rotate_left
             ·simp only [Act.put, List.setIfInBounds_toArray, List.set_cons_zero, List.set_cons_succ, i64_w, i32_w]
              rfl
             refine pure_ (i := 22) (N := some 97) (v := ?_) (a' := ?_) #[true, true, true, true, false, true, true, true, false, true, true, true, true, false, true, false, false, true, true, true, true, false, true, false, false, false, false, false] rfl rfl (any_of HT_.out (by kernel_rfl)) (fun _ _ _ h => h) (Or.inl ⟨by rfl, ?_⟩) ?_ ?_
             rotate_left
             ·intro w'
              go_simp
              (try with_reducible rfl)
             rotate_left
             ·simp only [Act.put, List.setIfInBounds_toArray, List.set_cons_zero, List.set_cons_succ, i64_w, i32_w]
              rfl
             refine take_ (i := 4) (N := some 79) (v := ?_) (a' := ?_) #[true, true, true, true, true, true, true, true, false, true, true, true, true, false, true, false, false, true, true, true, true, false, true, false, false, false, false, false] rfl rfl (take_ofW HT_.out HW_.out (by kernel_rfl)) (fun _ _ _ h => h) (Or.inl ⟨by rfl, ?_⟩) hHeld ?_ ?_
             rotate_left
             ·rintro w' ⟨s0, s1, s2, s3⟩
              go_simp
              (try with_reducible rfl)
             rotate_left
             ·simp only [Act.put, List.setIfInBounds_toArray, List.set_cons_zero, List.set_cons_succ, i64_w, i32_w]
              rfl
             refine take_ (i := 8) (N := some 83) (v := ?_) (a' := ?_) #[true, true, true, true, true, true, true, true, true, true, true, true, true, false, true, false, false, true, true, true, true, false, true, false, false, false, false, false] rfl rfl (take_ofW HT_.out HW_.out (by kernel_rfl)) (fun _ _ _ h => h) (Or.inl ⟨by rfl, ?_⟩) hHeld ?_ ?_
             rotate_left
             ·rintro w' ⟨s0, s1, s2, s3⟩
              go_simp
              (try with_reducible rfl)
             rotate_left
             ·simp only [Act.put, List.setIfInBounds_toArray, List.set_cons_zero, List.set_cons_succ, i64_w, i32_w]
              rfl
             refine take_ (i := 13) (N := some 88) (v := ?_) (a' := ?_) #[true, true, true, true, true, true, true, true, true, true, true, true, true, true, true, false, false, true, true, true, true, false, true, false, false, false, false, false] rfl rfl (take_ofW HT_.out HW_.out (by kernel_rfl)) (fun _ _ _ h => h) (Or.inl ⟨by rfl, ?_⟩) hHeld ?_ ?_
             rotate_left
             ·rintro w' ⟨s0, s1, s2, s3⟩
              go_simp
              (try with_reducible rfl)
             rotate_left
             ·simp only [Act.put, List.setIfInBounds_toArray, List.set_cons_zero, List.set_cons_succ, i64_w, i32_w]
              rfl
             refine pure_ (i := 15) (N := some 90) (v := ?_) (a' := ?_) #[true, true, true, true, true, true, true, true, true, true, true, true, true, true, true, true, false, true, true, true, true, false, true, false, false, false, false, false] rfl rfl (any_of HT_.out (by kernel_rfl)) (fun _ _ _ h => h) (Or.inl ⟨by rfl, ?_⟩) ?_ ?_
             rotate_left
             ·intro w'
              go_simp
              (try with_reducible rfl)
             rotate_left
             ·simp only [Act.put, List.setIfInBounds_toArray, List.set_cons_zero, List.set_cons_succ, i64_w, i32_w]
              rfl
             refine take_ (i := 16) (N := some 91) (v := ?_) (a' := ?_) #[true, true, true, true, true, true, true, true, true, true, true, true, true, true, true, true, true, true, true, true, true, false, true, false, false, false, false, false] rfl rfl (take_ofW HT_.out HW_.out (by kernel_rfl)) (fun _ _ _ h => h) (Or.inl ⟨by rfl, ?_⟩) hHeld ?_ ?_
             rotate_left
             ·rintro w' ⟨s0, s1, s2, s3⟩
              go_simp
              (try with_reducible rfl)
             rotate_left
             ·simp only [Act.put, List.setIfInBounds_toArray, List.set_cons_zero, List.set_cons_succ, i64_w, i32_w]
              rfl
             refine take_ (i := 21) (N := some 96) (v := ?_) (a' := ?_) #[true, true, true, true, true, true, true, true, true, true, true, true, true, true, true, true, true, true, true, true, true, true, true, false, false, false, false, false] rfl rfl (take_ofW HT_.out HW_.out (by kernel_rfl)) (fun _ _ _ h => h) (Or.inl ⟨by rfl, ?_⟩) hHeld ?_ ?_
             rotate_left
             ·rintro w' ⟨s0, s1, s2, s3⟩
              go_simp
              (try with_reducible rfl)
             rotate_left
             ·simp only [Act.put, List.setIfInBounds_toArray, List.set_cons_zero, List.set_cons_succ, i64_w, i32_w]
              rfl
             refine pure_ (i := 23) (N := some 98) (v := ?_) (a' := ?_) #[true, true, true, true, true, true, true, true, true, true, true, true, true, true, true, true, true, true, true, true, true, true, true, true, false, false, false, false] rfl rfl (any_of HT_.out (by kernel_rfl)) (fun _ _ _ h => h) (Or.inl ⟨by rfl, ?_⟩) ?_ ?_
             rotate_left
             ·intro w'
              go_simp
              (try with_reducible rfl)
             rotate_left
             ·simp only [Act.put, List.setIfInBounds_toArray, List.set_cons_zero, List.set_cons_succ, i64_w, i32_w]
              rfl
             refine take_ (i := 24) (N := some 99) (v := ?_) (a' := ?_) #[true, true, true, true, true, true, true, true, true, true, true, true, true, true, true, true, true, true, true, true, true, true, true, true, true, false, false, false] rfl rfl (take_ofW HT_.out HW_.out (by kernel_rfl)) (fun _ _ _ h => h) (Or.inl ⟨by rfl, ?_⟩) hHeld ?_ ?_
             rotate_left
             ·rintro w' ⟨s0, s1, s2, s3⟩
              go_simp
              (try with_reducible rfl)
             rotate_left
             ·simp only [Act.put, List.setIfInBounds_toArray, List.set_cons_zero, List.set_cons_succ, i64_w, i32_w]
              rfl
             refine one_ (i := 25) (N := some 100) #[true, true, true, true, true, true, true, true, true, true, true, true, true, true, true, true, true, true, true, true, true, true, true, true, true, true, false, false] rfl rfl (one_of HT_.out (by kernel_rfl)) (by decide) (fun K hK => ?_)
             refine goes_ Try.func59 (by kernel_rfl) rfl #[.int .u64 a0, .int .u64 yc] (by rfl) rfl rfl (by (try simp only [List.map_toArray, List.map_cons, List.map_nil]); first | done | rfl) ?_
             with_reducible refine (juntoref01_Inv.calls k a0 yc iv _ HIV.out).mono ?_
             rintro e w' ⟨rfl, ⟨nd25, rfl⟩⟩
             refine ⟨_, rfl, ?_⟩
             refine hK.out _ _ ⟨hHeld.1, hHeld.2.1, hHeld.2.2.1, hHeld.2.2.2⟩ (fun hHeld => ?_)
             clear hK K
             refine norm_ (a' := ?_) ?_ ?_
             rotate_left
             ·show Act.put _ (some 100) _ = _
              simp only [Act.put, List.setIfInBounds_toArray, List.set_cons_zero, List.set_cons_succ, i64_w, i32_w]
              rfl
             refine one_ (i := 26) (N := some 101) #[true, true, true, true, true, true, true, true, true, true, true, true, true, true, true, true, true, true, true, true, true, true, true, true, true, true, true, false] rfl rfl (one_of HT_.out (by kernel_rfl)) (by decide) (fun K hK => ?_)
             refine goes_ Try.func45 (by kernel_rfl) rfl #[.int .u64 a0, .int .u64 y, .int .u64 iv] (by rfl) rfl rfl (by (try simp only [List.map_toArray, List.map_cons, List.map_nil]); first | done | rfl) ?_
             with_reducible refine (juntoref01_Mul.calls a0 y iv kk _ HKK.out).mono ?_
             rintro e w' ⟨rfl, ⟨nd26, rfl⟩⟩
             refine ⟨_, rfl, ?_⟩
             refine hK.out _ _ ⟨hHeld.1, hHeld.2.1, hHeld.2.2.1, hHeld.2.2.2⟩ (fun hHeld => ?_)
             clear hK K
             refine norm_ (a' := ?_) ?_ ?_
             rotate_left
             ·show Act.put _ (some 101) _ = _
              simp only [Act.put, List.setIfInBounds_toArray, List.set_cons_zero, List.set_cons_succ, i64_w, i32_w]
              rfl
             refine last_ (i := 27) (N := some 102) #[true, true, true, true, true, true, true, true, true, true, true, true, true, true, true, true, true, true, true, true, true, true, true, true, true, true, true, true] rfl rfl (one_of HT_.out (by kernel_rfl)) (by decide) (fun K hK => ?_)
             refine goes_ Try.func58 (by kernel_rfl) rfl #[.int .u64 a0, .slice (some ⟨bq, 0, none⟩) rt.length cq, .slice (some ⟨bp, 0, none⟩) rf.length cp, .int .u64 kk] (by rfl) rfl rfl (by (try simp only [List.map_toArray, List.map_cons, List.map_nil]); first | done | rfl) ?_
             with_reducible refine (ref_less.calls a0 kk rows_q q c rt rf rq (.slice (some ⟨g', 0, none⟩) n cr) g' cr g' cr (some ⟨bq, 0, none⟩) (some ⟨bp, 0, none⟩) cq cp w _ (pw_below_drewN (pw_below_drewN (below_drew1 HGq.out.low) _) _) (Kd.S_drewN (Kd.S_drewN (Kd.S_drew HGq.out.rws) _) _) HA1.out.1 HA1.out.2.1 HA1.out.2.2.1 HA1.out.2.2.2.1 HA1.out.2.2.2.2.1 (by rw [HA1.out.2.2.2.2.2.2]; exact HN.out) (RowAt.drewN' (RowAt.drewN' (RowAt.drew RQ.out) _) _) (RowAt.drewN' (RowAt.drewN' (RowAt.drew RP.out) _) _) HA1.out.2.2.2.2.2.1).mono ?_
             rintro e w2 ⟨rfl, h1, h2, h3⟩
             refine ⟨_, rfl, ?_⟩
             have H1 := Aside0.mk h1
             have H2 := Aside0.mk h2
             have H3 := Aside0.mk h3
             clear h1 h2 h3
             refine hK.out _ _ ?_
             clear hK K
             refine norm_ (a' := ?_) ?_ ?_
             rotate_left
             ·show Act.put _ (some 102) _ = _
              simp only [Act.put, List.setIfInBounds_toArray, List.set_cons_zero, List.set_cons_succ, i64_w, i32_w]
              rfl
             refine done_ (done_of HT_.out (by kernel_rfl)) ?_
             try go_wp2
             go_roundg k3
             case measure => omega
             case rel => exact ⟨q + 1, rows_q.set q rq, by go_num, ⟨by have := HJ.out; omega, HIN.out, by have := HJ.out; omega⟩, ⟨by rw [HD2.out]; exact HE2.out⟩, ⟨⟨H1.out, H2.out⟩⟩, HWS⟩
            ·have hin2 : q = n := by have := HJ.out.2.1; omega
             have hE := HE.out
             rw [hin2, Nat.sub_self] at hE
             simp only [elimD] at hE
             have hE2 := Option.some.inj hE
             subst hE2
             have b3 : decide ((q : Int) < (n : Int)) = false := decide_eq_false (by omega)
             have b3' : decide (q < n) = false := decide_eq_false (by omega)
             clear hE hin HE hin2
             go_wp2
             go_roundg k1
             case measure => omega
             case rel => exact ⟨c + 1, rows_q, d2, rfl, by go_num, ⟨by have := HCL.out; omega, by have := HI.out; omega⟩, ⟨by rw [HD'.out]; exact HF2.out⟩, HGq, HWq⟩
         ·have hsg := HSG.out
          rw [if_neg hic] at hsg
          have HSUB := Aside0.mk hsg
          have b5 : ((i : Int) != (c : Int)) = true := bne_iff_ne.mpr (by omega)
          have b5' : (i != c) = true := bne_iff_ne.mpr hic
          have hsame : (wr.drew.setCell ⟨g', c, none⟩ (.slice (some ⟨bi, 0, none⟩) ri.length cc)).cell? ⟨g', i, none⟩ = some (.slice (some ⟨bi, 0, none⟩) ri.length cc) := by
           rw [World.cell?_setCell_other _ ⟨g', c, none⟩ ⟨g', i, none⟩ _ (by intro h_; injection h_ with _ h_ _; exact hic h_.symm)]; exact hh
          have hsame2 : (wr.setCell ⟨g', c, none⟩ (.slice (some ⟨bi, 0, none⟩) ri.length cc)).cell? ⟨g', i, none⟩ = some (.slice (some ⟨bi, 0, none⟩) ri.length cc) := hsame
          have hfs : (wr.drew.setCell ⟨g', c, none⟩ (.slice (some ⟨bi, 0, none⟩) ri.length cc)).frozen? ⟨g', i, none⟩ = false := by rw [World.frozen?_setCell]; exact hfi
          have HIC := Aside0.mk hic
          have HGA := Aside0.mk ga
          have HGC := Aside0.mk gc
          have RA := Aside0.mk RA
          have RB := Aside0.mk RB
          clear ga gc gl gm hri hra hx CA hCA hil htl HSG hsg hic
          go_wp2
          refine start_ (n := 16) (S := fun w' => w'.cell? ⟨g', c, none⟩ = some (.slice A' ra.length c') ∧ w'.cell? ⟨g', i, none⟩ = some (.slice (some ⟨bi, 0, none⟩) ri.length cc)) (ds := [13, 15]) #[false, false, false, false, false, false, false, false, false, false, false, false, false, false, false, false] (by kernel_rfl) rfl rfl ⟨hha, hh⟩ (fun hHeld => ?_); refine with_tabW ref_det.tab12 ref_det.bits12 (fun HT_ HW_ => ?_)
          refine pure_ (i := 0) (N := some 40) (v := ?_) (a' := ?_) #[true, false, false, false, false, false, false, false, false, false, false, false, false, false, false, false] rfl rfl (any_of HT_.out (by kernel_rfl)) (fun _ _ _ h => h) (Or.inl ⟨by rfl, ?_⟩) ?_ ?_
          rotate_left
          ·intro w'
           go_simp
           (try with_reducible rfl)
          rotate_left
          ·simp only [Act.put, List.setIfInBounds_toArray, List.set_cons_zero, List.set_cons_succ, i64_w, i32_w]
           rfl
          refine pure_ (i := 1) (N := some 41) (v := ?_) (a' := ?_) #[true, true, false, false, false, false, false, false, false, false, false, false, false, false, false, false] rfl rfl (any_of HT_.out (by kernel_rfl)) (fun _ _ _ h => h) (Or.inl ⟨by rfl, ?_⟩) ?_ ?_
          rotate_left
          ·intro w'
           go_simp
           (try with_reducible rfl)
          rotate_left
          ·simp only [Act.put, List.setIfInBounds_toArray, List.set_cons_zero, List.set_cons_succ, i64_w, i32_w]
           rfl
          refine pure_ (i := 2) (N := some 42) (v := ?_) (a' := ?_) #[true, true, true, false, false, false, false, false, false, false, false, false, false, false, false, false] rfl rfl (any_of HT_.out (by kernel_rfl)) (fun _ _ _ h => h) (Or.inl ⟨by rfl, ?_⟩) ?_ ?_
          rotate_left
          ·intro w'
           go_simp
           (try with_reducible rfl)
          rotate_left
          ·simp only [Act.put, List.setIfInBounds_toArray, List.set_cons_zero, List.set_cons_succ, i64_w, i32_w]
           rfl
          refine pure_ (i := 3) (N := some 43) (v := ?_) (a' := ?_) #[true, true, true, true, false, false, false, false, false, false, false, false, false, false, false, false] rfl rfl (any_of HT_.out (by kernel_rfl)) (fun _ _ _ h => h) (Or.inl ⟨by rfl, ?_⟩) ?_ ?_
          rotate_left
          ·intro w'
           go_simp
           (try with_reducible rfl)
          rotate_left
          ·simp only [Act.put, List.setIfInBounds_toArray, List.set_cons_zero, List.set_cons_succ, i64_w, i32_w]
           rfl
          refine pure_ (i := 4) (N := some 44) (v := ?_) (a' := ?_) #[true, true, true, true, true, false, false, false, false, false, false, false, false, false, false, false] rfl rfl (any_of HT_.out (by kernel_rfl)) (fun _ _ _ h => h) (Or.inl ⟨by rfl, ?_⟩) ?_ ?_
          rotate_left
          ·intro w'
           go_simp
           (try with_reducible rfl)
          rotate_left
          ·simp only [Act.put, List.setIfInBounds_toArray, List.set_cons_zero, List.set_cons_succ, i64_w, i32_w]
           rfl
          refine pure_ (i := 5) (N := some 45) (v := ?_) (a' := ?_) #[true, true, true, true, true, true, false, false, false, false, false, false, false, false, false, false] rfl rfl (any_of HT_.out (by kernel_rfl)) (fun _ _ _ h => h) (Or.inl ⟨by rfl, ?_⟩) ?_ ?_
          rotate_left
          ·intro w'
           go_simp
           (try with_reducible rfl)
          rotate_left
          ·simp only [Act.put, List.setIfInBounds_toArray, List.set_cons_zero, List.set_cons_succ, i64_w, i32_w]
           rfl
          refine pure_ (i := 6) (N := some 46) (v := ?_) (a' := ?_) #[true, true, true, true, true, true, true, false, false, false, false, false, false, false, false, false] rfl rfl (any_of HT_.out (by kernel_rfl)) (fun _ _ _ h => h) (Or.inl ⟨by rfl, ?_⟩) ?_ ?_
          rotate_left
          ·intro w'
           go_simp
           (try with_reducible rfl)
          rotate_left
          ·simp only [Act.put, List.setIfInBounds_toArray, List.set_cons_zero, List.set_cons_succ, i64_w, i32_w]
           rfl
          refine pure_ (i := 8) (N := some 48) (v := ?_) (a' := ?_) #[true, true, true, true, true, true, true, false, true, false, false, false, false, false, false, false] rfl rfl (any_of HT_.out (by kernel_rfl)) (fun _ _ _ h => h) (Or.inl ⟨by rfl, ?_⟩) ?_ ?_
          rotate_left
          ·intro w'
           go_simp
           (try with_reducible rfl)
          rotate_left
          ·simp only [Act.put, List.setIfInBounds_toArray, List.set_cons_zero, List.set_cons_succ, i64_w, i32_w]
           rfl
          refine pure_ (i := 9) (N := some 49) (v := ?_) (a' := ?_) #[true, true, true, true, true, true, true, false, true, true, false, false, false, false, false, false] rfl rfl (any_of HT_.out (by kernel_rfl)) (fun _ _ _ h => h) (Or.inl ⟨by rfl, ?_⟩) ?_ ?_
          rotate_left
          ·intro w'
           go_simp
           (try with_reducible rfl)
          rotate_left
          ·simp only [Act.put, List.setIfInBounds_toArray, List.set_cons_zero, List.set_cons_succ, i64_w, i32_w]
           rfl
          refine pure_ (i := 10) (N := some 50) (v := ?_) (a' := ?_) #[true, true, true, true, true, true, true, false, true, true, true, false, false, false, false, false] rfl rfl (any_of HT_.out (by kernel_rfl)) (fun _ _ _ h => h) (Or.inl ⟨by rfl, ?_⟩) ?_ ?_
          rotate_left
          ·intro w'
           go_simp
           (try with_reducible rfl)
          rotate_left
          ·simp only [Act.put, List.setIfInBounds_toArray, List.set_cons_zero, List.set_cons_succ, i64_w, i32_w]
           rfl
          refine take_ (i := 7) (N := some 47) (v := ?_) (a' := ?_) #[true, true, true, true, true, true, true, true, true, true, true, false, false, false, false, false] rfl rfl (take_ofW HT_.out HW_.out (by kernel_rfl)) (fun _ _ _ h => h) (Or.inl ⟨by rfl, ?_⟩) hHeld ?_ ?_
          rotate_left
          ·rintro w' ⟨s0, s1⟩
           go_simp
           (try with_reducible rfl)
          rotate_left
          ·simp only [Act.put, List.setIfInBounds_toArray, List.set_cons_zero, List.set_cons_succ, i64_w, i32_w]
           rfl
          refine take_ (i := 11) (N := some 51) (v := ?_) (a' := ?_) #[true, true, true, true, true, true, true, true, true, true, true, true, false, false, false, false] rfl rfl (take_ofW HT_.out HW_.out (by kernel_rfl)) (fun _ _ _ h => h) (Or.inl ⟨by rfl, ?_⟩) hHeld ?_ ?_
          rotate_left
          ·rintro w' ⟨s0, s1⟩
           go_simp
           (try with_reducible rfl)
          rotate_left
          ·simp only [Act.put, List.setIfInBounds_toArray, List.set_cons_zero, List.set_cons_succ, i64_w, i32_w]
           rfl
          refine pure_ (i := 12) (N := some 52) (v := ?_) (a' := ?_) #[true, true, true, true, true, true, true, true, true, true, true, true, true, false, false, false] rfl rfl (any_of HT_.out (by kernel_rfl)) (fun _ _ _ h => h) (Or.inl ⟨by rfl, ?_⟩) ?_ ?_
          rotate_left
          ·intro w'
           go_simp
           (try with_reducible rfl)
          rotate_left
          ·simp only [Act.put, List.setIfInBounds_toArray, List.set_cons_zero, List.set_cons_succ, i64_w, i32_w]
           rfl
          refine last_ (i := 13) (N := none) #[true, true, true, true, true, true, true, true, true, true, true, true, true, true, false, false] rfl rfl (one_of HT_.out (by kernel_rfl)) (by decide) (fun K hK => ?_)
          refine skip_ (w1 := ?_) (by rfl) rfl ?_ ?_
          rotate_left
          ·go_simp
           (try rfl)
          refine hK.out _ _ ?_
          clear hK K
          refine pure_ (i := 14) (N := some 53) (v := ?_) (a' := ?_) #[true, true, true, true, true, true, true, true, true, true, true, true, true, true, true, false] rfl rfl (any_of HT_.out (by kernel_rfl)) (fun _ _ _ h => h) (Or.inl ⟨by rfl, ?_⟩) ?_ ?_
          rotate_left
          ·intro w'
           go_simp
           (try with_reducible rfl)
          rotate_left
          ·simp only [Act.put, List.setIfInBounds_toArray, List.set_cons_zero, List.set_cons_succ, i64_w, i32_w]
           rfl
          refine last_ (i := 15) (N := none) #[true, true, true, true, true, true, true, true, true, true, true, true, true, true, true, true] rfl rfl (one_of HT_.out (by kernel_rfl)) (by decide) (fun K hK => ?_)
          refine skip_ (w1 := ?_) (by rfl) rfl ?_ ?_
          rotate_left
          ·go_simp
           (try rfl)
          refine hK.out _ _ ?_
          clear hK K
          refine done_ (done_of HT_.out (by kernel_rfl)) ?_
          have s7 := Kd.S_drew (S_swap' HG.out.rws HGC.out HGA.out hha hh hsame)
          have l7 : Below w.heap.size w (((wr.setCell ⟨g', c, none⟩ (.slice (some ⟨bi, 0, none⟩) ri.length cc)).setCell ⟨g', i, none⟩ (.slice A' ra.length c')).drew) := below_drew1 (below_set (below_set HG.out.low RA.out.gb) RA.out.gb)
          have hrow : ((rows_c.set c ri).set i ra)[c]? = some ri := by
           have htl : c < rows_c.length := by rw [HW.out.2]; exact HCL.out
           rw [List.getElem?_set_ne HIC.out, List.getElem?_set_self htl]
          obtain ⟨rows7, hr7⟩ : ∃ x_, (rows_c.set c ri).set i ra = x_ := ⟨_, rfl⟩
          have HR7 : Aside0 (swapR rows_c c i = rows7) := ⟨HSW.out.trans hr7⟩
          rw [hr7] at s7 hrow
          have hw7 : Wide n rows7 ∧ rows7.length = n := by
           rw [← HR7.out]
           exact ⟨swapR_wide HW.out.1 (by rw [HW.out.2]; exact HCL.out) (by rw [HW.out.2]; exact HSTOP.out), by rw [swapR_length]; exact HW.out.2⟩
          have HW7 := Aside0.mk hw7
          rw [HR7.out] at HEL
          generalize ((wr.setCell ⟨g', c, none⟩ (.slice (some ⟨bi, 0, none⟩) ri.length cc)).setCell ⟨g', i, none⟩ (.slice A' ra.length c')).drew = w7 at s7 l7 ⊢
          have HG7 : Aside0 (GAt w w7 (.slice (some ⟨g', 0, none⟩) n cr) rows7) := ⟨⟨s7, l7⟩⟩
          have HROW := Aside0.mk hrow
          clear hh hha hcx hfi hfa hsame hsame2 hfs s7 l7 hr7 hw7 HSW bx hHeld HT_ HW_ hrow HR7 RA RB HG HW HGA HGC
          obtain ⟨gt, capt, At, ct, RT, hCT⟩ := grid_row' HG7.out.rws HROW.out
          obtain ⟨bt, CT⟩ := hCT c (by rw [HGL.out]; exact HCL.out)
          have e1 := RT.vr_
          injection e1 with e1 el_ e3
          clear el_
          injection e1 with e1
          injection e1 with e1 eo_ es_
          clear eo_ es_
          have e2 := CT.addr
          subst e1 e2 e3
          have hhd := RT.head
          have hct := CT.cell
          rw [HX.out] at hct
          clear RT CT hCT
          go_wp2_with (first | (go_at_call 57; refine (juntoref01_Sub.calls a0 0 det d1 _ HSUB.out).mono ?_; rintro e w' ⟨rfl, ⟨nd13, rfl⟩⟩) | (go_at_call 45; refine (juntoref01_Mul.calls a0 d1 x d2 _ HMUL.out).mono ?_; rintro e w' ⟨rfl, ⟨nd14, rfl⟩⟩))
          clear hhd hct
          go_loopg [8] (n - c) (fun kq v8 w' => ∃ (q : Nat) (rows_q : List (List Int)), v8 = .int .i64 (q : Int) ∧ Aside0 (c + 1 ≤ q ∧ q ≤ n ∧ kq = n + 1 - q) ∧ Aside0 (elimD k a0 c (n - q) q rows_q = some rows2) ∧ Aside0 (GAt w w' (.slice (some ⟨g', 0, none⟩) n cr) rows_q) ∧ Aside0 (Wide n rows_q ∧ rows_q.length = n))
          case atStart => exact ⟨c + 1, rows7, by go_num, ⟨by omega, by have := HCL.out; omega, by have := HCL.out; omega⟩, HEL, ⟨⟨by (with_reducible repeat (first | apply Kd.S_drewN | apply Kd.S_drew)); exact HG7.out.rws, by repeat (first | exact HG7.out.low | apply pw_below_drewN | apply below_drew1)⟩⟩, HW7⟩
          case round =>
           clear HEL HW7 HG7 HJ
           obtain ⟨q, rows_q, rfl, HJ, HE, HGq, HWq⟩ := hrel
           cases gk with
           | zero => exact absurd HJ.out.2.2 (by have := HJ.out.2.1; omega)
           | succ k3 =>
            have hq63 : (q : Int) ≤ 9223372036854775806 := by have := HJ.out; have := HN.out; omega
            by_cases hin : q < n
            ·have b3 : decide ((q : Int) < (n : Int)) = true := decide_eq_true (by omega)
             have b3' : decide (q < n) = true := decide_eq_true hin
             obtain ⟨d2', hd2⟩ : ∃ d2', n - q = d2' + 1 := ⟨n - q - 1, by omega⟩
             have hE := HE.out
             rw [hd2, elimD] at hE
             simp only [Option.bind_eq_some_iff] at hE
             obtain ⟨iv, hiv, kk, hkk, rq, hrq, hE2⟩ := hE
             have hD2 : n - (q + 1) = d2' := by omega
             have HD2 := Aside0.mk hD2
             have HE2 := Aside0.mk hE2
             have HIN := Aside0.mk hin
             clear hd2 hD2 hE2 HE
             have hqc : q ≠ c := by have := HJ.out; omega
             obtain ⟨ga, gl⟩ := wide_get HWq.out.1 (i := q) (by rw [HWq.out.2]; exact hin)
             obtain ⟨gc, gm⟩ := wide_get HWq.out.1 (i := c) (by rw [HWq.out.2]; exact HCL.out)
             obtain ⟨m1, m2, m3⟩ := lessRow_spec hrq
             obtain ⟨rt, hrt⟩ : ∃ x_, rows_q.getD q [] = x_ := ⟨_, rfl⟩
             obtain ⟨rf, hrf⟩ : ∃ x_, rows_q.getD c [] = x_ := ⟨_, rfl⟩
             rw [hrt] at ga gl m1 m2 m3 hkk
             rw [hrf] at gc gm m2 m3 hiv
             obtain ⟨y, hy⟩ : ∃ x_, rt.getD c 0 = x_ := ⟨_, rfl⟩
             obtain ⟨yc, hyc⟩ : ∃ x_, rf.getD c 0 = x_ := ⟨_, rfl⟩
             rw [hy] at hkk
             rw [hyc] at hiv
             have HIV := Aside0.mk hiv
             have HKK := Aside0.mk hkk
             obtain ⟨gq, capq, Aq, cq, RQ, hCQ⟩ := grid_row' HGq.out.rws ga
             obtain ⟨bq, CQ⟩ := hCQ c (by rw [gl]; exact HCL.out)
             obtain ⟨gp, capp, Ap, cp, RP, hCP⟩ := grid_row' HGq.out.rws gc
             obtain ⟨bp, CP⟩ := hCP c (by rw [gm]; exact HCL.out)
             have e1 := RQ.vr_
             have e2 := CQ.addr
             subst e2
             injection e1 with e1 el_ e3
             clear el_
             injection e1 with e1
             injection e1 with e1 eo_ es_
             clear eo_ es_
             subst e1 e3
             have e4 := RP.vr_
             injection e4 with e4 el_ e5
             clear el_
             injection e4 with e4
             injection e4 with e4 eo_ es_
             clear eo_ es_
             subst e4 e5
             have e6 := CP.addr
             subst e6
             have hh := RQ.head
             have hhp := RP.head
             have hcx := CQ.cell
             rw [hy] at hcx
             have hcp := CP.cell
             rw [hyc] at hcp
             have HA1 := Aside0.mk (⟨ga, gc, hqc, m1, m2, m3, gl⟩ : rows_q[q]? = some rt ∧ rows_q[c]? = some rf ∧ q ≠ c ∧ rq.length = rt.length ∧ rf.length = rt.length ∧ (∀ j, j < rq.length → ∃ t, juntoref01_Mul.f a0 kk (rf.getD j 0) = some t ∧ juntoref01_Sub.f a0 (rt.getD j 0) t = some (rq.getD j 0)) ∧ rt.length = n)
             have RQ := Aside0.mk RQ
             have RP := Aside0.mk RP
             have g1 : (q < n) = True := eq_true hin
             have g2 : (c < rt.length) = True := eq_true (by rw [gl]; exact HCL.out)
             have g2' : (c < rf.length) = True := eq_true (by rw [gm]; exact HCL.out)
             have g3 : (c < n) = True := eq_true HCL.out
             have HWS : Aside0 (Wide n (rows_q.set q rq) ∧ (rows_q.set q rq).length = n) := ⟨wide_set HWq.out.1 (by rw [m1, gl]), by rw [List.length_set]; exact HWq.out.2⟩
             clear ga gc gl gm m1 m2 m3 hrt hrf hy hyc CQ hCQ CP hCP hin hrq hqc hiv hkk
             go_wp2
             refine start_ (n := 28) (S := fun w' => w'.cell? ⟨g', q, none⟩ = some (.slice (some ⟨bq, 0, none⟩) rt.length cq) ∧ w'.cell? ⟨g', c, none⟩ = some (.slice (some ⟨bp, 0, none⟩) rf.length cp) ∧ w'.cell? ⟨bq, c, none⟩ = some (.int .u64 y) ∧ w'.cell? ⟨bp, c, none⟩ = some (.int .u64 yc)) (ds := [27]) #[false, false, false, false, false, false, false, false, false, false, false, false, false, false, false, false, false, false, false, false, false, false, false, false, false, false, false, false] (by kernel_rfl) rfl rfl ⟨hh, hhp, hcx, hcp⟩ (fun hHeld => ?_); refine with_tabW ref_det.tab18 ref_det.bits18 (fun HT_ HW_ => ?_)
             refine pure_ (i := 0) (N := some 75) (v := ?_) (a' := ?_) #[true, false, false, false, false, false, false, false, false, false, false, false, false, false, false, false, false, false, false, false, false, false, false, false, false, false, false, false] rfl rfl (any_of HT_.out (by kernel_rfl)) (fun _ _ _ h => h) (Or.inl ⟨by rfl, ?_⟩) ?_ ?_
             rotate_left
             ·intro w'
              go_simp
              (try with_reducible rfl)
             rotate_left
             ·simp only [Act.put, List.setIfInBounds_toArray, List.set_cons_zero, List.set_cons_succ, i64_w, i32_w]
              rfl
             refine pure_ (i := 1) (N := some 76) (v := ?_) (a' := ?_) #[true, true, false, false, false, false, false, false, false, false, false, false, false, false, false, false, false, false, false, false, false, false, false, false, false, false, false, false] rfl rfl (any_of HT_.out (by kernel_rfl)) (fun _ _ _ h => h) (Or.inl ⟨by rfl, ?_⟩) ?_ ?_
             rotate_left
             ·intro w'
              go_simp
              (try with_reducible rfl)
             rotate_left
             ·simp only [Act.put, List.setIfInBounds_toArray, List.set_cons_zero, List.set_cons_succ, i64_w, i32_w]
              rfl
             refine pure_ (i := 2) (N := some 77) (v := ?_) (a' := ?_) #[true, true, true, false, false, false, false, false, false, false, false, false, false, false, false, false, false, false, false, false, false, false, false, false, false, false, false, false] rfl rfl (any_of HT_.out (by kernel_rfl)) (fun _ _ _ h => h) (Or.inl ⟨by rfl, ?_⟩) ?_ ?_
             rotate_left
             ·intro w'
              go_simp
              (try with_reducible rfl)
             rotate_left
             ·simp only [Act.put, List.setIfInBounds_toArray, List.set_cons_zero, List.set_cons_succ, i64_w, i32_w]
              rfl
             refine pure_ (i := 3) (N := some 78) (v := ?_) (a' := ?_) #[true, true, true, true, false, false, false, false, false, false, false, false, false, false, false, false, false, false, false, false, false, false, false, false, false, false, false, false] rfl rfl (any_of HT_.out (by kernel_rfl)) (fun _ _ _ h => h) (Or.inl ⟨by rfl, ?_⟩) ?_ ?_
             rotate_left
             ·intro w'
              go_simp
              (try with_reducible rfl)
             rotate_left
             ·simp only [Act.put, List.setIfInBounds_toArray, List.set_cons_zero, List.set_cons_succ, i64_w, i32_w]
              rfl
             refine pure_ (i := 5) (N := some 80) (v := ?_) (a' := ?_) #[true, true, true, true, false, true, false, false, false, false, false, false, false, false, false, false, false, false, false, false, false, false, false, false, false, false, false, false] rfl rfl (any_of HT_.out (by kernel_rfl)) (fun _ _ _ h => h) (Or.inl ⟨by rfl, ?_⟩) ?_ ?_
             rotate_left
             ·intro w'
              go_simp
              (try with_reducible rfl)
             rotate_left
             ·simp only [Act.put, List.setIfInBounds_toArray, List.set_cons_zero, List.set_cons_succ, i64_w, i32_w]
              rfl
             refine pure_ (i := 6) (N := some 81) (v := ?_) (a' := ?_) #[true, true, true, true, false, true, true, false, false, false, false, false, false, false, false, false, false, false, false, false, false, false, false, false, false, false, false, false] rfl rfl (any_of HT_.out (by kernel_rfl)) (fun _ _ _ h => h) (Or.inl ⟨by rfl, ?_⟩) ?_ ?_
             rotate_left
             ·intro w'
              go_simp
              (try with_reducible rfl)
             rotate_left
             ·simp only [Act.put, List.setIfInBounds_toArray, List.set_cons_zero, List.set_cons_succ, i64_w, i32_w]
              rfl
             refine pure_ (i := 7) (N := some 82) (v := ?_) (a' := ?_) #[true, true, true, true, false, true, true, true, false, false, false, false, false, false, false, false, false, false, false, false, false, false, false, false, false, false, false, false] rfl rfl (any_of HT_.out (by kernel_rfl)) (fun _ _ _ h => h) (Or.inl ⟨by rfl, ?_⟩) ?_ ?_
             rotate_left
             ·intro w'
              go_simp
              (try with_reducible rfl)
             rotate_left
             ·simp only [Act.put, List.setIfInBounds_toArray, List.set_cons_zero, List.set_cons_succ, i64_w, i32_w]
              rfl
             refine pure_ (i := 9) (N := some 84) (v := ?_) (a' := ?_) #[true, true, true, true, false, true, true, true, false, true, false, false, false, false, false, false, false, false, false, false, false, false, false, false, false, false, false, false] rfl rfl (any_of HT_.out (by kernel_rfl)) (fun _ _ _ h => h) (Or.inl ⟨by rfl, ?_⟩) ?_ ?_
             rotate_left
             ·intro w'
              go_simp
              (try with_reducible rfl)
             rotate_left
             ·simp only [Act.put, List.setIfInBounds_toArray, List.set_cons_zero, List.set_cons_succ, i64_w, i32_w]
              rfl
             refine pure_ (i := 10) (N := some 85) (v := ?_) (a' := ?_) #[true, true, true, true, false, true, true, true, false, true, true, false, false, false, false, false, false, false, false, false, false, false, false, false, false, false, false, false] rfl rfl (any_of HT_.out (by kernel_rfl)) (fun _ _ _ h => h) (Or.inl ⟨by rfl, ?_⟩) ?_ ?_
             rotate_left
             ·intro w'
              go_simp
              (try with_reducible rfl)
             rotate_left
             ·simp only [Act.put, List.setIfInBounds_toArray, List.set_cons_zero, List.set_cons_succ, i64_w, i32_w]
              rfl
             refine pure_ (i := 11) (N := some 86) (v := ?_) (a' := ?_) #[true, true, true, true, false, true, true, true, false, true, true, true, false, false, false, false, false, false, false, false, false, false, false, false, false, false, false, false] rfl rfl (any_of HT_.out (by kernel_rfl)) (fun _ _ _ h => h) (Or.inl ⟨by rfl, ?_⟩) ?_ ?_
             rotate_left
             ·intro w'
              go_simp
              (try with_reducible rfl)
             rotate_left
             ·simp only [Act.put, List.setIfInBounds_toArray, List.set_cons_zero, List.set_cons_succ, i64_w, i32_w]
              rfl
             refine pure_ (i := 12) (N := some 87) (v := ?_) (a' := ?_) #[true, true, true, true, false, true, true, true, false, true, true, true, true, false, false, false, false, false, false, false, false, false, false, false, false, false, false, false] rfl rfl (any_of HT_.out (by kernel_rfl)) (fun _ _ _ h => h) (Or.inl ⟨by rfl, ?_⟩) ?_ ?_
             rotate_left
             ·intro w'
              go_simp
              (try with_reducible rfl)
             rotate_left
             ·simp only [Act.put, List.setIfInBounds_toArray, List.set_cons_zero, List.set_cons_succ, i64_w, i32_w]
              rfl
             refine pure_ (i := 14) (N := some 89) (v := ?_) (a' := ?_) #[true, true, true, true, false, true, true, true, false, true, true, true, true, false, true, false, false, false, false, false, false, false, false, false, false, false, false, false] rfl rfl (any_of HT_.out (by kernel_rfl)) (fun _ _ _ h => h) (Or.inl ⟨by rfl, ?_⟩) ?_ ?_
             rotate_left
             ·intro w'
              go_simp
              (try with_reducible rfl)
             rotate_left
             ·simp only [Act.put, List.setIfInBounds_toArray, List.set_cons_zero, List.set_cons_succ, i64_w, i32_w]
              rfl
             refine pure_ (i := 17) (N := some 92) (v := ?_) (a' := ?_) #[true, true, true, true, false, true, true, true, false, true, true, true, true, false, true, false, false, true, false, false, false, false, false, false, false, false, false, false] rfl rfl (any_of HT_.out (by kernel_rfl)) (fun _ _ _ h => h) (Or.inl ⟨by rfl, ?_⟩) ?_ ?_
             rotate_left
             ·intro w'
              go_simp
              (try with_reducible rfl)
             rotate_left
             ·simp only [Act.put, List.setIfInBounds_toArray, List.set_cons_zero, List.set_cons_succ, i64_w, i32_w]
              rfl
             refine pure_ (i := 18) (N := some 93) (v := ?_) (a' := ?_) #[true, true, true, true, false, true, true, true, false, true, true, true, true, false, true, false, false, true, true, false, false, false, false, false, false, false, false, false] rfl rfl (any_of HT_.out (by kernel_rfl)) (fun _ _ _ h => h) (Or.inl ⟨by rfl, ?_⟩) ?_ ?_
             rotate_left
             ·intro w'
              go_simp
              (try with_reducible rfl)
             rotate_left
             ·simp only [Act.put, List.setIfInBounds_toArray, List.set_cons_zero, List.set_cons_succ, i64_w, i32_w]
              rfl
             refine pure_ (i := 19) (N := some 94) (v := ?_) (a' := ?_) #[true, true, true, true, false, true, true, true, false, true, true, true, true, false, true, false, false, true, true, true, false, false, false, false, false, false, false, false] rfl rfl (any_of HT_.out (by kernel_rfl)) (fun _ _ _ h => h) (Or.inl ⟨by rfl, ?_⟩) ?_ ?_
             rotate_left
             ·intro w'
              go_simp
              (try with_reducible rfl)
             rotate_left
             ·simp only [Act.put, List.setIfInBounds_toArray, List.set_cons_zero, List.set_cons_succ, i64_w, i32_w]
              rfl
             refine pure_ (i := 20) (N := some 95) (v := ?_) (a' := ?_) #[true, true, true, true, false, true, true, true, false, true, true, true, true, false, true, false, false, true, true, true, true, false, false, false, false, false, false, false] rfl rfl (any_of HT_.out (by kernel_rfl)) (fun _ _ _ h => h) (Or.inl ⟨by rfl, ?_⟩) ?_ ?_
             rotate_left
             ·intro w'
              go_simp
              (try with_reducible rfl)
             rotate_left
             ·simp only [Act.put, List.setIfInBounds_toArray, List.set_cons_zero, List.set_cons_succ, i64_w, i32_w]
              rfl
             refine pure_ (i := 22) (N := some 97) (v := ?_) (a' := ?_) #[true, true, true, true, false, true, true, true, false, true, true, true, true, false, true, false, false, true, true, true, true, false, true, false, false, false, false, false] rfl rfl (any_of HT_.out (by kernel_rfl)) (fun _ _ _ h => h) (Or.inl ⟨by rfl, ?_⟩) ?_ ?_
             rotate_left
             ·intro w'
              go_simp
              (try with_reducible rfl)
             rotate_left
             ·simp only [Act.put, List.setIfInBounds_toArray, List.set_cons_zero, List.set_cons_succ, i64_w, i32_w]
              rfl
             refine take_ (i := 4) (N := some 79) (v := ?_) (a' := ?_) #[true, true, true, true, true, true, true, true, false, true, true, true, true, false, true, false, false, true, true, true, true, false, true, false, false, false, false, false] rfl rfl (take_ofW HT_.out HW_.out (by kernel_rfl)) (fun _ _ _ h => h) (Or.inl ⟨by rfl, ?_⟩) hHeld ?_ ?_
             rotate_left
             ·rintro w' ⟨s0, s1, s2, s3⟩
              go_simp
              (try with_reducible rfl)
             rotate_left
             ·simp only [Act.put, List.setIfInBounds_toArray, List.set_cons_zero, List.set_cons_succ, i64_w, i32_w]
              rfl
             refine take_ (i := 8) (N := some 83) (v := ?_) (a' := ?_) #[true, true, true, true, true, true, true, true, true, true, true, true, true, false, true, false, false, true, true, true, true, false, true, false, false, false, false, false] rfl rfl (take_ofW HT_.out HW_.out (by kernel_rfl)) (fun _ _ _ h => h) (Or.inl ⟨by rfl, ?_⟩) hHeld ?_ ?_
             rotate_left
             ·rintro w' ⟨s0, s1, s2, s3⟩
              go_simp
              (try with_reducible rfl)
             rotate_left
             ·simp only [Act.put, List.setIfInBounds_toArray, List.set_cons_zero, List.set_cons_succ, i64_w, i32_w]
              rfl
             refine take_ (i := 13) (N := some 88) (v := ?_) (a' := ?_) #[true, true, true, true, true, true, true, true, true, true, true, true, true, true, true, false, false, true, true, true, true, false, true, false, false, false, false, false] rfl rfl (take_ofW HT_.out HW_.out (by kernel_rfl)) (fun _ _ _ h => h) (Or.inl ⟨by rfl, ?_⟩) hHeld ?_ ?_
             rotate_left
             ·rintro w' ⟨s0, s1, s2, s3⟩
              go_simp
              (try with_reducible rfl)
             rotate_left
             ·simp only [Act.put, List.setIfInBounds_toArray, List.set_cons_zero, List.set_cons_succ, i64_w, i32_w]
              rfl
             refine pure_ (i := 15) (N := some 90) (v := ?_) (a' := ?_) #[true, true, true, true, true, true, true, true, true, true, true, true, true, true, true, true, false, true, true, true, true, false, true, false, false, false, false, false] rfl rfl (any_of HT_.out (by kernel_rfl)) (fun _ _ _ h => h) (Or.inl ⟨by rfl, ?_⟩) ?_ ?_
             rotate_left
             ·intro w'
              go_simp
              (try with_reducible rfl)
             rotate_left
             ·simp only [Act.put, List.setIfInBounds_toArray, List.set_cons_zero, List.set_cons_succ, i64_w, i32_w]
              rfl
             refine take_ (i := 16) (N := some 91) (v := ?_) (a' := ?_) #[true, true, true, true, true, true, true, true, true, true, true, true, true, true, true, true, true, true, true, true, true, false, true, false, false, false, false, false] rfl rfl (take_ofW HT_.out HW_.out (by kernel_rfl)) (fun _ _ _ h => h) (Or.inl ⟨by rfl, ?_⟩) hHeld ?_ ?_
             rotate_left
             ·rintro w' ⟨s0, s1, s2, s3⟩
              go_simp
              (try with_reducible rfl)
             rotate_left
             ·simp only [Act.put, List.setIfInBounds_toArray, List.set_cons_zero, List.set_cons_succ, i64_w, i32_w]
              rfl
             refine take_ (i := 21) (N := some 96) (v := ?_) (a' := ?_) #[true, true, true, true, true, true, true, true, true, true, true, true, true, true, true, true, true, true, true, true, true, true, true, false, false, false, false, false] rfl rfl (take_ofW HT_.out HW_.out (by kernel_rfl)) (fun _ _ _ h => h) (Or.inl ⟨by rfl, ?_⟩) hHeld ?_ ?_
             rotate_left
             ·rintro w' ⟨s0, s1, s2, s3⟩
              go_simp
              (try with_reducible rfl)
             rotate_left
             ·simp only [Act.put, List.setIfInBounds_toArray, List.set_cons_zero, List.set_cons_succ, i64_w, i32_w]
              rfl
             refine pure_ (i := 23) (N := some 98) (v := ?_) (a' := ?_) #[true, true, true, true, true, true, true, true, true, true, true, true, true, true, true, true, true, true, true, true, true, true, true, true, false, false, false, false] rfl rfl (any_of HT_.out (by kernel_rfl)) (fun _ _ _ h => h) (Or.inl ⟨by rfl, ?_⟩) ?_ ?_
             rotate_left
             ·intro w'
              go_simp
              (try with_reducible rfl)
             rotate_left
             ·simp only [Act.put, List.setIfInBounds_toArray, List.set_cons_zero, List.set_cons_succ, i64_w, i32_w]
              rfl
             refine take_ (i := 24) (N := some 99) (v := ?_) (a' := ?_) #[true, true, true, true, true, true, true, true, true, true, true, true, true, true, true, true, true, true, true, true, true, true, true, true, true, false, false, false] rfl rfl (take_ofW HT_.out HW_.out (by kernel_rfl)) (fun _ _ _ h => h) (Or.inl ⟨by rfl, ?_⟩) hHeld ?_ ?_
             rotate_left
             ·rintro w' ⟨s0, s1, s2, s3⟩
              go_simp
              (try with_reducible rfl)
             rotate_left
             ·simp only [Act.put, List.setIfInBounds_toArray, List.set_cons_zero, List.set_cons_succ, i64_w, i32_w]
              rfl
             refine one_ (i := 25) (N := some 100) #[true, true, true, true, true, true, true, true, true, true, true, true, true, true, true, true, true, true, true, true, true, true, true, true, true, true, false, false] rfl rfl (one_of HT_.out (by kernel_rfl)) (by decide) (fun K hK => ?_)
             refine goes_ Try.func59 (by kernel_rfl) rfl #[.int .u64 a0, .int .u64 yc] (by rfl) rfl rfl (by (try simp only [List.map_toArray, List.map_cons, List.map_nil]); first | done | rfl) ?_
             with_reducible refine (juntoref01_Inv.calls k a0 yc iv _ HIV.out).mono ?_
             rintro e w' ⟨rfl, ⟨nd25, rfl⟩⟩
             refine ⟨_, rfl, ?_⟩
             refine hK.out _ _ ⟨hHeld.1, hHeld.2.1, hHeld.2.2.1, hHeld.2.2.2⟩ (fun hHeld => ?_)
             clear hK K
             refine norm_ (a' := ?_) ?_ ?_
             rotate_left
             ·show Act.put _ (some 100) _ = _
              simp only [Act.put, List.setIfInBounds_toArray, List.set_cons_zero, List.set_cons_succ, i64_w, i32_w]
              rfl
             refine one_ (i := 26) (N := some 101) #[true, true, true, true, true, true, true, true, true, true, true, true, true, true, true, true, true, true, true, true, true, true, true, true, true, true, true, false] rfl rfl (one_of HT_.out (by kernel_rfl)) (by decide) (fun K hK => ?_)
             refine goes_ Try.func45 (by kernel_rfl) rfl #[.int .u64 a0, .int .u64 y, .int .u64 iv] (by rfl) rfl rfl (by (try simp only [List.map_toArray, List.map_cons, List.map_nil]); first | done | rfl) ?_
             with_reducible refine (juntoref01_Mul.calls a0 y iv kk _ HKK.out).mono ?_
             rintro e w' ⟨rfl, ⟨nd26, rfl⟩⟩
             refine ⟨_, rfl, ?_⟩
             refine hK.out _ _ ⟨hHeld.1, hHeld.2.1, hHeld.2.2.1, hHeld.2.2.2⟩ (fun hHeld => ?_)
             clear hK K
             refine norm_ (a' := ?_) ?_ ?_
             rotate_left
             ·show Act.put _ (some 101) _ = _
              simp only [Act.put, List.setIfInBounds_toArray, List.set_cons_zero, List.set_cons_succ, i64_w, i32_w]
              rfl
             refine last_ (i := 27) (N := some 102) #[true, true, true, true, true, true, true, true, true, true, true, true, true, true, true, true, true, true, true, true, true, true, true, true, true, true, true, true] rfl rfl (one_of HT_.out (by kernel_rfl)) (by decide) (fun K hK => ?_)
             refine goes_ Try.func58 (by kernel_rfl) rfl #[.int .u64 a0, .slice (some ⟨bq, 0, none⟩) rt.length cq, .slice (some ⟨bp, 0, none⟩) rf.length cp, .int .u64 kk] (by rfl) rfl rfl (by (try simp only [List.map_toArray, List.map_cons, List.map_nil]); first | done | rfl) ?_
             with_reducible refine (ref_less.calls a0 kk rows_q q c rt rf rq (.slice (some ⟨g', 0, none⟩) n cr) g' cr g' cr (some ⟨bq, 0, none⟩) (some ⟨bp, 0, none⟩) cq cp w _ (pw_below_drewN (pw_below_drewN (below_drew1 HGq.out.low) _) _) (Kd.S_drewN (Kd.S_drewN (Kd.S_drew HGq.out.rws) _) _) HA1.out.1 HA1.out.2.1 HA1.out.2.2.1 HA1.out.2.2.2.1 HA1.out.2.2.2.2.1 (by rw [HA1.out.2.2.2.2.2.2]; exact HN.out) (RowAt.drewN' (RowAt.drewN' (RowAt.drew RQ.out) _) _) (RowAt.drewN' (RowAt.drewN' (RowAt.drew RP.out) _) _) HA1.out.2.2.2.2.2.1).mono ?_
             rintro e w2 ⟨rfl, h1, h2, h3⟩
             refine ⟨_, rfl, ?_⟩
             have H1 := Aside0.mk h1
             have H2 := Aside0.mk h2
             have H3 := Aside0.mk h3
             clear h1 h2 h3
             refine hK.out _ _ ?_
             clear hK K
             refine norm_ (a' := ?_) ?_ ?_
             rotate_left
             ·show Act.put _ (some 102) _ = _
              simp only [Act.put, List.setIfInBounds_toArray, List.set_cons_zero, List.set_cons_succ, i64_w, i32_w]
              rfl
             refine done_ (done_of HT_.out (by kernel_rfl)) ?_
             try go_wp2
             go_roundg k3
             case measure => omega
             case rel => exact ⟨q + 1, rows_q.set q rq, by go_num, ⟨by have := HJ.out; omega, HIN.out, by have := HJ.out; omega⟩, ⟨by rw [HD2.out]; exact HE2.out⟩, ⟨⟨H1.out, H2.out⟩⟩, HWS⟩
            ·have hin2 : q = n := by have := HJ.out.2.1; omega
             have hE := HE.out
             rw [hin2, Nat.sub_self] at hE
             simp only [elimD] at hE
             have hE2 := Option.some.inj hE
             subst hE2
             have b3 : decide ((q : Int) < (n : Int)) = false := decide_eq_false (by omega)
             have b3' : decide (q < n) = false := decide_eq_false (by omega)
             clear hE hin HE hin2
             go_wp2
             go_roundg k1
             case measure => omega
             case rel => exact ⟨c + 1, rows_q, d2, rfl, by go_num, ⟨by have := HCL.out; omega, by have := HI.out; omega⟩, ⟨by rw [HD'.out]; exact HF2.out⟩, HGq, HWq⟩
    ·have hcc : c = n := by have := HI.out.1; omega
     have hF := HF.out
     rw [hcc, Nat.sub_self] at hF
     simp only [detR] at hF
     have hF2 := Option.some.inj hF
     subst hF2
     have b1 : decide ((c : Int) < (n : Int)) = false := decide_eq_false (by omega)
     have b1' : decide (c < n) = false := decide_eq_false (by omega)
     clear hF hlt HF hcc
     go_wp2
     go_ret
     exact ⟨rfl, HG.out.low⟩
 ·rw [if_neg hd] at h; cases h
end Go.Proofs.Ytfdkhkajehopkaa.Mb
