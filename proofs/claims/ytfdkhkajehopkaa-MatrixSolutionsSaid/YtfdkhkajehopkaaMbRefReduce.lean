/- The reference's Reduce. -/
import Derived.Test.YtfdkhkajehopkaaMbLess
import Derived.Test.YtfdkhkajehopkaaMbFRef3Copied
import Derived.Test.YtfdkhkajehopkaaMbG2
import Derived.BigRegion
import Derived.RegionTactic
import Derived.Deep.DeepMust
import Derived.OwnWalk
namespace Go.Proofs.Ytfdkhkajehopkaa.Mb
open Go.RowKit Go.Proofs.YtfdkhkajehopkaaW.PrintWords Go.Proofs.YtfdkhkajehopkaaW.PrintLast Go.Proofs.YtfdkhkajehopkaaW.PrintMore
set_option linter.unusedVariables false
set_option linter.unusedSimpArgs false
def ref_reduce.T11 : Bool × List (List Nat × List Nat) := (true, [([], []), ([], []), ([], []), ([], []), ([], []), ([], []), ([4, 5], [4, 5]), ([6], [6]), ([], []), ([], []), ([8, 9], [8, 9]), ([10], [10]), ([0, 1, 0, 1, 4, 5, 6, 7, 11], [0, 1]), ([12, 7, 0, 1, 4, 5, 6, 7, 11], [7, 12]), ([2, 3, 0, 1, 2, 3, 4, 5, 6, 7, 8, 9, 10, 11, 12, 13], [2, 3]), ([14, 11, 13, 0, 1, 2, 3, 4, 5, 6, 7, 8, 9, 10, 11, 12, 13], [11, 14])])
def ref_reduce.B11 : List Nat := [0, 0, 0, 0, 0, 0, 48, 112, 0, 0, 768, 1792, 4083, 8179, 16383, 32767]
theorem ref_reduce.tab11 : rtab .any (opsOf Try.f31 11) = ref_reduce.T11 := by kernel_rfl
theorem ref_reduce.bits11 : waitsOk ref_reduce.T11.2 ref_reduce.B11 = true := by kernel_rfl
def ref_reduce.T16 : Bool × List (List Nat × List Nat) := (true, [([], []), ([], []), ([0, 1], [0, 1]), ([2], [2]), ([], []), ([], []), ([], []), ([], []), ([6, 7], [6, 7]), ([8], [8]), ([], []), ([9, 10], [9, 10]), ([11], [11]), ([], []), ([5, 12, 13], [5, 12, 13]), ([3, 4, 0, 1, 2, 3, 4, 5, 6, 7, 8, 9, 10, 11, 12, 13, 14], [3, 4]), ([15, 14, 14, 0, 1, 2, 3, 4, 5, 6, 7, 8, 9, 10, 11, 12, 13, 14], [14, 15])])
def ref_reduce.B16 : List Nat := [0, 0, 3, 7, 0, 0, 0, 0, 192, 448, 0, 1984, 4032, 0, 16352, 32767, 65535]
theorem ref_reduce.tab16 : rtab .any (opsOf Try.f31 16) = ref_reduce.T16 := by kernel_rfl
theorem ref_reduce.bits16 : waitsOk ref_reduce.T16.2 ref_reduce.B16 = true := by kernel_rfl
def ref_reduce.T22 : Bool × List (List Nat × List Nat) := (true, [([], []), ([], []), ([], []), ([1, 2], [1, 2]), ([3], [3]), ([], []), ([], []), ([5, 6], [5, 6]), ([7], [7]), ([], []), ([], []), ([9, 10], [9, 10]), ([11], [11]), ([], []), ([12, 13], [12, 13]), ([14], [14]), ([0, 4, 8, 15], [0, 4, 8, 15])])
def ref_reduce.B22 : List Nat := [0, 0, 0, 6, 14, 0, 0, 96, 224, 0, 0, 1536, 3584, 0, 15872, 32256, 65535]
theorem ref_reduce.tab22 : rtab .any (opsOf Try.f31 22) = ref_reduce.T22 := by kernel_rfl
theorem ref_reduce.bits22 : waitsOk ref_reduce.T22.2 ref_reduce.B22 = true := by kernel_rfl
theorem S_same {w : World} {base : Nat} {g n cap : Nat} {rows : List (List Int)} (hS : Kd.S k2 33 w base (fun _ => True) (.slice (some ⟨g, 0, none⟩) n cap) rows) {i : Nat} (hi : i < rows.length) {vi : Value} (ci : w.cell? ⟨g, i, none⟩ = some vi) :
  Kd.S k2 33 (w.setCell ⟨g, i, none⟩ vi) base (fun _ => True) (.slice (some ⟨g, 0, none⟩) n cap) rows := by
 obtain ⟨g', cap', A, c, oki, RA, hfr, hR, hH⟩ := row_out hS (List.getElem?_eq_getElem hi)
 have e := RA.vr_
 injection e with e1 e2 e3
 injection e1 with e1
 injection e1 with e1 _ _
 subst e1 e2 e3
 have h := RA.head
 rw [ci] at h
 have h := Option.some.inj h
 subst h
 have := row_back hH hi hR
 rwa [List.set_getElem_self] at this
theorem S_swap' {w : World} {base : Nat} {g n cap : Nat} {rows : List (List Int)} (hS : Kd.S k2 33 w base (fun _ => True) (.slice (some ⟨g, 0, none⟩) n cap) rows) {i j : Nat} {ri rj : List Int} (hi : rows[i]? = some ri) (hj : rows[j]? = some rj)
  {vi vj : Value} (ci : w.cell? ⟨g, i, none⟩ = some vi) (cj : w.cell? ⟨g, j, none⟩ = some vj) (c2 : (w.setCell ⟨g, i, none⟩ vj).cell? ⟨g, j, none⟩ = some vj) :
  Kd.S k2 33 ((w.setCell ⟨g, i, none⟩ vj).setCell ⟨g, j, none⟩ vi) base (fun _ => True) (.slice (some ⟨g, 0, none⟩) n cap) ((rows.set i rj).set j ri) := by
 by_cases h : i = j
 ·subst h
  obtain ⟨hil, hi'⟩ := List.getElem?_eq_some_iff.1 hi
  have e1 : vi = vj := by rw [ci] at cj; exact Option.some.inj cj
  have e2 : ri = rj := by rw [hi] at hj; exact Option.some.inj hj
  subst e1 e2
  rw [List.set_set, ← hi', List.set_getElem_self]
  exact S_same (S_same hS hil ci) hil c2
 ·exact S_swap hS hi hj h ci cj
def rowMul (p one : Int) : List Int → Option (List Int)
 | [] => some []
 | a :: as_ => (juntoref01_Mul.f p a one).bind fun u => (rowMul p one as_).bind fun r => some (u :: r)
theorem rowMul_spec {p one : Int} : ∀ {ri r : List Int}, rowMul p one ri = some r → r.length = ri.length ∧ ∀ j, j < r.length → juntoref01_Mul.f p (ri.getD j 0) one = some (r.getD j 0)
 | [], r, h => by
  simp only [rowMul] at h
  cases h
  exact ⟨rfl, fun i hi => absurd hi (Nat.not_lt_zero _)⟩
 | a :: as_, r, h => by
  simp only [rowMul, Option.bind_eq_some_iff] at h
  obtain ⟨u, h1, r', h2, h3⟩ := h
  cases h3
  obtain ⟨l1, l2⟩ := rowMul_spec h2
  refine ⟨by simp [l1], fun j hj => ?_⟩
  cases j with
  | zero => exact h1
  | succ j => exact l2 j (by simpa using hj)
def lessRow (p kk : Int) : List Int → List Int → Option (List Int)
 | a :: as_, x :: xs => (juntoref01_Mul.f p kk x).bind fun t => (juntoref01_Sub.f p a t).bind fun u => (lessRow p kk as_ xs).bind fun r => some (u :: r)
 | [], [] => some []
 | _, _ => none
theorem lessRow_spec {p kk : Int} : ∀ {rt rf r : List Int}, lessRow p kk rt rf = some r → r.length = rt.length ∧ rf.length = rt.length ∧ ∀ i, i < r.length → ∃ t, juntoref01_Mul.f p kk (rf.getD i 0) = some t ∧ juntoref01_Sub.f p (rt.getD i 0) t = some (r.getD i 0)
 | [], [], r, h => by
  simp only [lessRow] at h
  cases h
  exact ⟨rfl, rfl, fun i hi => absurd hi (Nat.not_lt_zero _)⟩
 | [], x :: xs, r, h => by simp [lessRow] at h
 | a :: as_, [], r, h => by simp [lessRow] at h
 | a :: as_, x :: xs, r, h => by
  simp only [lessRow, Option.bind_eq_some_iff] at h
  obtain ⟨t, h1, u, h2, r', h3, h4⟩ := h
  cases h4
  obtain ⟨l1, l2, l3⟩ := lessRow_spec h3
  refine ⟨by simp [l1], by simp [l2], fun i hi => ?_⟩
  cases i with
  | zero => exact ⟨t, h1, h2⟩
  | succ i => exact l3 i (by simpa using hi)
def elimR1 (p : Int) (col top i : Nat) (rows : List (List Int)) : Option (List (List Int)) :=
 if i = top then some rows else (lessRow p ((rows.getD i []).getD col 0) (rows.getD i []) (rows.getD top [])).bind fun r => some (rows.set i r)
def elimR (p : Int) (col top : Nat) : Nat → Nat → List (List Int) → Option (List (List Int))
 | 0, _, rows => some rows
 | d + 1, i, rows => (elimR1 p col top i rows).bind fun rows1 => elimR p col top d (i + 1) rows1
def swapR (rows : List (List Int)) (i j : Nat) : List (List Int) := (rows.set i (rows.getD j [])).set j (rows.getD i [])
def refRed (kr : Nat) (p : Int) : Nat → Nat → List (List Int) → List Int → Option (List (List Int) × List Int)
 | 0, _, rows, lead => some (rows, lead)
 | d + 1, c, rows, lead => match srch rows lead.length c with
   | none => refRed kr p d (c + 1) rows lead
   | some i0 => (juntoref01_Inv.f kr p ((rows.getD i0 []).getD c 0)).bind fun one => (rowMul p one (rows.getD i0 [])).bind fun r => (elimR p c lead.length rows.length 0 ((swapR rows lead.length i0).set lead.length r)).bind fun rows2 => refRed kr p d (c + 1) rows2 (lead ++ [(c : Int)])
theorem swapR_wide {m : Nat} {rows : List (List Int)} (hw : Wide m rows) {i j : Nat} (hi : i < rows.length) (hj : j < rows.length) : Wide m (swapR rows i j) := wide_set (wide_set hw (wide_get hw hj).2) (wide_get hw hi).2
theorem swapR_length (rows : List (List Int)) (i j : Nat) : (swapR rows i j).length = rows.length := by simp [swapR]
theorem elimR1_wide {p : Int} {col top i m : Nat} {rows rows1 : List (List Int)} (hw : Wide m rows) (hi : i < rows.length) (h : elimR1 p col top i rows = some rows1) : Wide m rows1 ∧ rows1.length = rows.length := by
 unfold elimR1 at h
 split at h
 ·cases h; exact ⟨hw, rfl⟩
 ·simp only [Option.bind_eq_some_iff] at h
  obtain ⟨r, hr, he⟩ := h
  cases he
  exact ⟨wide_set hw ((lessRow_spec hr).1.trans (wide_get hw hi).2), by simp⟩
/-- The reference's matrix and its pivots, in memory. -/
structure RefAt (w0 w : World) (vr : Value) (rows : List (List Int)) (vl : Value) (lead : List Int) : Prop where
 rws : Kd.S k2 33 w w0.heap.size (fun _ => True) vr rows
 led : Kd.R (Kd.int .i64) 3 w w0.heap.size (fun _ => True) vl lead
 low : Below w0.heap.size w0 w
def juntoref03_Reduce.f (k : Nat) (a0 : Int) (l1 : List (List Int)) (a2 : Int) : Option (List (List Int) × List Int) :=
 if l1.length ≤ 4096 ∧ (rd_L1 l1 0).length ≤ 4096 ∧ l1.all (fun r => r.length == (rd_L1 l1 0).length) = true ∧ 0 ≤ a2 ∧ a2.toNat ≤ (rd_L1 l1 0).length ∧ juntoref03_copied.f k l1 = some l1 then refRed k a0 a2.toNat 0 l1 [] else none
theorem RowAt.drew {w : World} {base : Nat} {vr : Value} {rows : List (List Int)} {i : Nat} {row : List Int} {g cap : Nat} {A : Option Addr} {c : Nat} (h : RowAt w base vr rows i row g cap A c) : RowAt w.drew base vr rows i row g cap A c := ⟨h.vr_, h.gb, h.ty, h.head, h.free, h.room⟩

set_option maxHeartbeats 8000000 in
set_option maxRecDepth 100000 in
theorem juntoref03_Reduce.calls (k : Nat) (a0 : Int) (A1 : Option Addr) (c1 : Nat) (l1 : List (List Int)) (a2 : Int) (r1 : List (List Int)) (r2 : List Int) (w : World) (hr1 : Kd.C (Kd.slice 22 (Kd.int .u64)) w A1 l1.length l1) (hc1 : l1.length ≤ c1) (h : juntoref03_Reduce.f k a0 l1 a2 = some (r1, r2)) :
  Calls Try.prog 31 #[.int .u64 a0, .slice A1 l1.length c1, .int .i64 a2] w fun e w' => ∃ v0_ v1_ : Value, e = .returned (.tuple #[v0_, v1_]) ∧ Kd.S (Kd.slice 22 (Kd.int .u64)) 33 w' w.heap.size (fun k_ => some k_ ≠ (v1_ : Value).ownBlock) v0_ r1 ∧ Kd.R (Kd.int .i64) 3 w' w.heap.size (fun k_ => some k_ ≠ (v0_ : Value).ownBlock) v1_ r2 ∧ Below w.heap.size w w' := by
 unfold juntoref03_Reduce.f at h
 by_cases hd : l1.length ≤ 4096 ∧ (rd_L1 l1 0).length ≤ 4096 ∧ l1.all (fun r => r.length == (rd_L1 l1 0).length) = true ∧ 0 ≤ a2 ∧ a2.toNat ≤ (rd_L1 l1 0).length ∧ juntoref03_copied.f k l1 = some l1
 ·rw [if_pos hd] at h
  obtain ⟨d1, d2, d3, d4, d5, d6⟩ := hd
  obtain ⟨m, hm⟩ : ∃ m, (rd_L1 l1 0).length = m := ⟨_, rfl⟩
  rw [hm] at d2 d3 d5
  obtain ⟨cols, rfl⟩ := Int.eq_ofNat_of_zero_le d4
  rw [Int.toNat_natCast] at d5 h
  obtain ⟨fin, hfin⟩ : ∃ fin, fin = (r1, r2) := ⟨_, rfl⟩
  rw [← hfin] at h
  have hwide : Wide m l1 := fun row hrow => by simpa using List.all_eq_true.1 d3 row hrow
  have HR := Aside0.mk hr1
  have HC := Aside0.mk hc1
  have HCP := Aside0.mk d6
  have HM := Aside0.mk d2
  have HN0 := Aside0.mk d1
  have HCO := Aside0.mk d5
  have HF := Aside0.mk h
  have HWI := Aside0.mk hwide
  have HFIN := Aside0.mk hfin
  clear hr1 hc1 d1 d2 d3 d4 d5 d6 hm hwide h hfin
  go_enter Try.func31, Try.ntmps31
  go_wp2_with (go_at_call 56; refine (juntoref03_copied.calls k A1 c1 l1 l1 _ HR.out HC.out HCP.out).mono ?_; rintro e w1 ⟨v0, rfl, hs, hb⟩; obtain ⟨Ar, cr, er⟩ := Kd.S_slice hs; have HS1 := Aside0.mk hs; have HB1 := Aside0.mk hb; clear hs hb)
  subst er
  obtain ⟨n, hn⟩ : ∃ n, l1.length = n := ⟨_, rfl⟩
  rw [hn] at HS1 HN0
  have HN := HN0
  clear HN0
  have HG0 : Aside0 (RefAt w w1 (.slice Ar n cr) l1 (.slice none 0 0) []) := ⟨⟨HS1.out, Kd.R_nil _ _ _ _ _, HB1.out⟩⟩
  have HW0 : Aside0 (Wide m l1 ∧ l1.length = n ∧ ([] : List Int).length ≤ n) := ⟨⟨HWI.out, hn, Nat.zero_le _⟩⟩
  try rw [hn]
  have HNN := Aside0.mk hn
  clear HS1 HB1 HWI hn
  go_loopg [8, 9] (cols + 1) (fun kq v8 v9 w' => ∃ (c : Nat) (rows_c : List (List Int)) (lead_c : List Int), v9 = .int .i64 (c : Int) ∧ Aside0 (c ≤ cols ∧ kq = cols + 1 - c) ∧ Aside0 (refRed k a0 (cols - c) c rows_c lead_c = some fin) ∧ Aside0 (RefAt w w' (.slice Ar n cr) rows_c v8 lead_c) ∧ Aside0 (Wide m rows_c ∧ rows_c.length = n ∧ lead_c.length ≤ n))
  case atStart => exact ⟨0, l1, [], rfl, ⟨by omega, by omega⟩, HF, HG0, HW0⟩
  case round =>
   clear HF HG0 HW0
   obtain ⟨c, rows_c, lead_c, rfl, HI, HF, HG, HW⟩ := hrel
   cases gk with
   | zero => exact absurd HI.out.2 (by have := HI.out.1; omega)
   | succ k1 =>
    have hc63 : (c : Int) ≤ 9223372036854775806 := by have := HI.out; have := HCO.out; have := HM.out; omega
    obtain ⟨Al, cl, el⟩ := Kd.R_slice HG.out.led
    subst el
    by_cases hlt : c < cols
    ·have b1 : decide ((c : Int) < (cols : Int)) = true := decide_eq_true (by omega)
     have b1' : decide (c < cols) = true := decide_eq_true hlt
     obtain ⟨d, hd⟩ : ∃ d, cols - c = d + 1 := ⟨cols - c - 1, by omega⟩
     have hd' : cols - (c + 1) = d := by omega
     have HD' := Aside0.mk hd'
     have HCM : Aside0 (c < m) := ⟨by have := HCO.out; omega⟩
     have HCL := Aside0.mk hlt
     have hF := HF.out
     rw [hd] at hF
     simp only [refRed] at hF
     clear hd hd' HF hlt
     cases hs : srch rows_c lead_c.length c with
     | none =>
      rw [hs] at hF
      have HF2 := Aside0.mk hF
      have hz0 := srch_none hs
      have HZ : Aside0 (∀ i, lead_c.length ≤ i → i < n → (rows_c.getD i []).getD c 0 = 0) := ⟨fun i h1 h2 => hz0 i h1 (by rw [HW.out.2.1]; exact h2)⟩
      have HSTOP : Aside0 (n ≤ n) := ⟨Nat.le_refl _⟩
      clear hF hs hz0
      go_wp2
      go_loopg [11] (n + 1) (fun kq v11 w' => ∃ i : Nat, v11 = .int .i64 (i : Int) ∧ Aside0 (lead_c.length ≤ i ∧ i ≤ n ∧ n < kq + i) ∧ w' = wr)
      case atStart => exact ⟨lead_c.length, rfl, ⟨Nat.le_refl _, HW.out.2.2, by omega⟩, rfl⟩
      case round =>
       obtain ⟨i, rfl, HJ, rfl⟩ := hrel
       cases gk with
       | zero => exact absurd HJ.out.2 (by have := HSTOP.out; omega)
       | succ j2 =>
        have hi63 : (i : Int) ≤ 9223372036854775806 := by have := HJ.out; have := HN.out; have := HSTOP.out; omega
        by_cases hlt2 : i < n
        ·have hz := HZ.out i HJ.out.1 hlt2
         have hil : i < rows_c.length := by rw [HW.out.2.1]; have := HSTOP.out; omega
         obtain ⟨ga, gl⟩ := wide_get HW.out.1 (i := i) hil
         obtain ⟨row, hrow⟩ : ∃ x_, rows_c.getD i [] = x_ := ⟨_, rfl⟩
         rw [hrow] at ga gl hz
         obtain ⟨g, cap, A, cc, RA, hCA⟩ := grid_row' HG.out.rws ga
         obtain ⟨bi, CA⟩ := hCA c (by rw [gl]; exact HCM.out)
         have e1 := RA.vr_
         have e2 := CA.addr
         subst e2
         injection e1 with e1 el_ e3
         clear el_
         subst e1 e3
         have hh := RA.head
         have hcx := CA.cell
         rw [hz] at hcx
         have b3 : decide ((i : Int) < (n : Int)) = true := decide_eq_true (by have := HW.out.2.1; omega)
         have b3' : decide (i < n) = true := decide_eq_true (by have := HW.out.2.1; omega)
         have g1 : (i < n) = True := eq_true (by have := HW.out.2.1; omega)
         have g2 : (c < row.length) = True := eq_true (by rw [gl]; exact HCM.out)
         have HLT2 := Aside0.mk hlt2
         clear ga gl hz hrow RA CA hCA hil hlt2
         go_wp2
         go_roundg j2
         case measure => omega
         case rel => exact ⟨i + 1, by go_num, ⟨by have := HJ.out; omega, by have := HLT2.out; omega, by have := HJ.out; omega⟩, rfl⟩
        ·have hii : i = n := by have := HJ.out; omega
         clear hlt2
         have b3 : decide ((i : Int) < (n : Int)) = false := decide_eq_false (by omega)
         have b3' : decide (i < n) = false := decide_eq_false (by omega)
         have b4 : decide ((n : Int) ≤ (i : Int)) = true := decide_eq_true (by omega)
         have b4' : decide (n ≤ i) = true := decide_eq_true (by omega)
         clear hii
         go_wp2
         go_roundg k1
         case measure => omega
         case rel => exact ⟨c + 1, rows_c, lead_c, by go_num, ⟨by have := HCL.out; omega, by have := HI.out; omega⟩, ⟨by rw [HD'.out]; exact HF2.out⟩, HG, HW⟩
     | some i0 =>
      rw [hs] at hF
      obtain ⟨s1, s2, s3, s4⟩ := srch_some hs
      simp only [Option.bind_eq_some_iff] at hF
      obtain ⟨one, hone, r, hrm, rows2, hel, hF⟩ := hF
      have HF2 := Aside0.mk hF
      have HONE := Aside0.mk hone
      have HEL := Aside0.mk hel
      have HZ : Aside0 (∀ i, lead_c.length ≤ i → i < i0 → (rows_c.getD i []).getD c 0 = 0) := ⟨s4⟩
      have HS1 := Aside0.mk s1
      have HSTOP : Aside0 (i0 < n) := ⟨by have := HW.out.2.1; omega⟩
      have HTN : Aside0 (lead_c.length < n) := ⟨by have := HW.out.2.1; omega⟩
      have HNZ := Aside0.mk s3
      obtain ⟨l1_, l2_⟩ := rowMul_spec hrm
      have HRM := Aside0.mk (⟨l1_, l2_⟩ : r.length = (rows_c.getD i0 []).length ∧ ∀ j, j < r.length → juntoref01_Mul.f a0 ((rows_c.getD i0 []).getD j 0) one = some (r.getD j 0))
      clear hF hs hone hrm hel s1 s2 s3 s4 l1_ l2_
      go_wp2
      go_loopg [11] (n + 1) (fun kq v11 w' => ∃ i : Nat, v11 = .int .i64 (i : Int) ∧ Aside0 (lead_c.length ≤ i ∧ i ≤ i0 ∧ n < kq + i) ∧ w' = wr)
      case atStart => exact ⟨lead_c.length, rfl, ⟨Nat.le_refl _, HS1.out, by omega⟩, rfl⟩
      case round =>
       obtain ⟨i, rfl, HJ, rfl⟩ := hrel
       cases gk with
       | zero => exact absurd HJ.out.2 (by have := HSTOP.out; omega)
       | succ j2 =>
        have hi63 : (i : Int) ≤ 9223372036854775806 := by have := HJ.out; have := HN.out; have := HSTOP.out; omega
        by_cases hlt2 : i < i0
        ·have hz := HZ.out i HJ.out.1 hlt2
         have hil : i < rows_c.length := by rw [HW.out.2.1]; have := HSTOP.out; omega
         obtain ⟨ga, gl⟩ := wide_get HW.out.1 (i := i) hil
         obtain ⟨row, hrow⟩ : ∃ x_, rows_c.getD i [] = x_ := ⟨_, rfl⟩
         rw [hrow] at ga gl hz
         obtain ⟨g, cap, A, cc, RA, hCA⟩ := grid_row' HG.out.rws ga
         obtain ⟨bi, CA⟩ := hCA c (by rw [gl]; exact HCM.out)
         have e1 := RA.vr_
         have e2 := CA.addr
         subst e2
         injection e1 with e1 el_ e3
         clear el_
         subst e1 e3
         have hh := RA.head
         have hcx := CA.cell
         rw [hz] at hcx
         have b3 : decide ((i : Int) < (n : Int)) = true := decide_eq_true (by have := HW.out.2.1; omega)
         have b3' : decide (i < n) = true := decide_eq_true (by have := HW.out.2.1; omega)
         have g1 : (i < n) = True := eq_true (by have := HW.out.2.1; omega)
         have g2 : (c < row.length) = True := eq_true (by rw [gl]; exact HCM.out)
         have HLT2 := Aside0.mk hlt2
         clear ga gl hz hrow RA CA hCA hil hlt2
         go_wp2
         go_roundg j2
         case measure => omega
         case rel => exact ⟨i + 1, by go_num, ⟨by have := HJ.out; omega, by have := HLT2.out; omega, by have := HJ.out; omega⟩, rfl⟩
        ·have hii : i = i0 := by have := HJ.out; omega
         clear hlt2
         subst hii
         have hil : i < rows_c.length := by rw [HW.out.2.1]; exact HSTOP.out
         have htl : lead_c.length < rows_c.length := by rw [HW.out.2.1]; exact HTN.out
         obtain ⟨ga, gl⟩ := wide_get HW.out.1 (i := i) hil
         obtain ⟨gc, gm⟩ := wide_get HW.out.1 (i := lead_c.length) htl
         obtain ⟨ri, hri⟩ : ∃ x_, rows_c.getD i [] = x_ := ⟨_, rfl⟩
         obtain ⟨ra, hra⟩ : ∃ x_, rows_c.getD lead_c.length [] = x_ := ⟨_, rfl⟩
         have HSW : Aside0 (swapR rows_c lead_c.length i = (rows_c.set lead_c.length ri).set i ra) := ⟨by unfold swapR; rw [hri, hra]⟩
         rw [hri] at ga gl HNZ HONE HRM
         rw [hra] at gc gm
         obtain ⟨x, hx⟩ : ∃ x_, ri.getD c 0 = x_ := ⟨_, rfl⟩
         rw [hx] at HNZ HONE
         have HX := Aside0.mk hx
         obtain ⟨g, cap, A, cc, RA, hCA⟩ := grid_row' HG.out.rws ga
         obtain ⟨bi, CA⟩ := hCA c (by rw [gl]; exact HCM.out)
         have e1 := RA.vr_
         have e2 := CA.addr
         subst e2
         injection e1 with e1 el_ e3
         clear el_
         subst e1 e3
         obtain ⟨g', cap', A', c', RB, _⟩ := grid_row' HG.out.rws gc
         have eg : g' = g := by have := RB.vr_; injection this with e _ _; injection e with e; injection e with e; exact e.symm
         subst eg
         have hh := RA.head
         have hha := RB.head
         have hcx := CA.cell
         rw [hx] at hcx
         have hfi := RA.free
         have hfa := RB.free
         have bx : (x == 0) = false := beq_eq_false_iff_ne.mpr HNZ.out
         have b3 : decide ((i : Int) < (n : Int)) = true := decide_eq_true (by have := HSTOP.out; omega)
         have b3' : decide (i < n) = true := decide_eq_true (by have := HSTOP.out; omega)
         have b4 : decide ((n : Int) ≤ (i : Int)) = false := decide_eq_false (by have := HSTOP.out; omega)
         have b4' : decide (n ≤ i) = false := decide_eq_false (by have := HSTOP.out; omega)
         have g1 : (i < n) = True := eq_true HSTOP.out
         have g2 : (c < ri.length) = True := eq_true (by rw [gl]; exact HCM.out)
         have g3 : (lead_c.length < n) = True := eq_true HTN.out
         have hsame : (wr.drew.setCell ⟨g', lead_c.length, none⟩ (.slice (some ⟨bi, 0, none⟩) ri.length cc)).cell? ⟨g', i, none⟩ = some (.slice (some ⟨bi, 0, none⟩) ri.length cc) := by
          by_cases e : i = lead_c.length
          ·rw [e]
           exact World.cell?_setCell_same _ _ _ hha
          ·rw [World.cell?_setCell_other _ ⟨g', lead_c.length, none⟩ ⟨g', i, none⟩ _ (by intro h_; injection h_ with _ h_ _; exact e h_.symm)]; exact hh
         have hsame2 : (wr.setCell ⟨g', lead_c.length, none⟩ (.slice (some ⟨bi, 0, none⟩) ri.length cc)).cell? ⟨g', i, none⟩ = some (.slice (some ⟨bi, 0, none⟩) ri.length cc) := hsame
         have hfs : (wr.drew.setCell ⟨g', lead_c.length, none⟩ (.slice (some ⟨bi, 0, none⟩) ri.length cc)).frozen? ⟨g', i, none⟩ = false := by rw [World.frozen?_setCell]; exact hfi
         have HGA := Aside0.mk ga
         have HGC := Aside0.mk gc
         have HGL := Aside0.mk gl
         have RA := Aside0.mk RA
         have RB := Aside0.mk RB
         clear ga gc gl gm hri hra hx CA hCA hil htl
         go_wp2
         refine start_ (n := 16) (S := fun w' => w'.cell? ⟨g', lead_c.length, none⟩ = some (.slice A' ra.length c') ∧ w'.cell? ⟨g', i, none⟩ = some (.slice (some ⟨bi, 0, none⟩) ri.length cc)) (ds := [13, 15]) #[false, false, false, false, false, false, false, false, false, false, false, false, false, false, false, false] (by kernel_rfl) rfl rfl ⟨hha, hh⟩ (fun hHeld => ?_); refine with_tabW ref_reduce.tab11 ref_reduce.bits11 (fun HT_ HW_ => ?_)
         refine pure_ (i := 0) (N := some 45) (v := ?_) (a' := ?_) #[true, false, false, false, false, false, false, false, false, false, false, false, false, false, false, false] rfl rfl (any_of HT_.out (by kernel_rfl)) (fun _ _ _ h => h) (Or.inl ⟨by rfl, ?_⟩) ?_ ?_
         rotate_left
         ·intro w'
          go_simp
          (try with_reducible rfl)
         rotate_left
         ·simp only [Act.put, List.setIfInBounds_toArray, List.set_cons_zero, List.set_cons_succ, i64_w, i32_w]
          rfl
         refine pure_ (i := 1) (N := some 46) (v := ?_) (a' := ?_) #[true, true, false, false, false, false, false, false, false, false, false, false, false, false, false, false] rfl rfl (any_of HT_.out (by kernel_rfl)) (fun _ _ _ h => h) (Or.inl ⟨by rfl, ?_⟩) ?_ ?_
         rotate_left
         ·intro w'
          go_simp
          (try with_reducible rfl)
         rotate_left
         ·simp only [Act.put, List.setIfInBounds_toArray, List.set_cons_zero, List.set_cons_succ, i64_w, i32_w]
          rfl
         refine pure_ (i := 2) (N := some 47) (v := ?_) (a' := ?_) #[true, true, true, false, false, false, false, false, false, false, false, false, false, false, false, false] rfl rfl (any_of HT_.out (by kernel_rfl)) (fun _ _ _ h => h) (Or.inl ⟨by rfl, ?_⟩) ?_ ?_
         rotate_left
         ·intro w'
          go_simp
          (try with_reducible rfl)
         rotate_left
         ·simp only [Act.put, List.setIfInBounds_toArray, List.set_cons_zero, List.set_cons_succ, i64_w, i32_w]
          rfl
         refine pure_ (i := 3) (N := some 48) (v := ?_) (a' := ?_) #[true, true, true, true, false, false, false, false, false, false, false, false, false, false, false, false] rfl rfl (any_of HT_.out (by kernel_rfl)) (fun _ _ _ h => h) (Or.inl ⟨by rfl, ?_⟩) ?_ ?_
         rotate_left
         ·intro w'
          go_simp
          (try with_reducible rfl)
         rotate_left
         ·simp only [Act.put, List.setIfInBounds_toArray, List.set_cons_zero, List.set_cons_succ, i64_w, i32_w]
          rfl
         refine pure_ (i := 4) (N := some 49) (v := ?_) (a' := ?_) #[true, true, true, true, true, false, false, false, false, false, false, false, false, false, false, false] rfl rfl (any_of HT_.out (by kernel_rfl)) (fun _ _ _ h => h) (Or.inl ⟨by rfl, ?_⟩) ?_ ?_
         rotate_left
         ·intro w'
          go_simp
          (try with_reducible rfl)
         rotate_left
         ·simp only [Act.put, List.setIfInBounds_toArray, List.set_cons_zero, List.set_cons_succ, i64_w, i32_w]
          rfl
         refine pure_ (i := 5) (N := some 50) (v := ?_) (a' := ?_) #[true, true, true, true, true, true, false, false, false, false, false, false, false, false, false, false] rfl rfl (any_of HT_.out (by kernel_rfl)) (fun _ _ _ h => h) (Or.inl ⟨by rfl, ?_⟩) ?_ ?_
         rotate_left
         ·intro w'
          go_simp
          (try with_reducible rfl)
         rotate_left
         ·simp only [Act.put, List.setIfInBounds_toArray, List.set_cons_zero, List.set_cons_succ, i64_w, i32_w]
          rfl
         refine pure_ (i := 6) (N := some 51) (v := ?_) (a' := ?_) #[true, true, true, true, true, true, true, false, false, false, false, false, false, false, false, false] rfl rfl (any_of HT_.out (by kernel_rfl)) (fun _ _ _ h => h) (Or.inl ⟨by rfl, ?_⟩) ?_ ?_
         rotate_left
         ·intro w'
          go_simp
          (try with_reducible rfl)
         rotate_left
         ·simp only [Act.put, List.setIfInBounds_toArray, List.set_cons_zero, List.set_cons_succ, i64_w, i32_w]
          rfl
         refine pure_ (i := 8) (N := some 53) (v := ?_) (a' := ?_) #[true, true, true, true, true, true, true, false, true, false, false, false, false, false, false, false] rfl rfl (any_of HT_.out (by kernel_rfl)) (fun _ _ _ h => h) (Or.inl ⟨by rfl, ?_⟩) ?_ ?_
         rotate_left
         ·intro w'
          go_simp
          (try with_reducible rfl)
         rotate_left
         ·simp only [Act.put, List.setIfInBounds_toArray, List.set_cons_zero, List.set_cons_succ, i64_w, i32_w]
          rfl
         refine pure_ (i := 9) (N := some 54) (v := ?_) (a' := ?_) #[true, true, true, true, true, true, true, false, true, true, false, false, false, false, false, false] rfl rfl (any_of HT_.out (by kernel_rfl)) (fun _ _ _ h => h) (Or.inl ⟨by rfl, ?_⟩) ?_ ?_
         rotate_left
         ·intro w'
          go_simp
          (try with_reducible rfl)
         rotate_left
         ·simp only [Act.put, List.setIfInBounds_toArray, List.set_cons_zero, List.set_cons_succ, i64_w, i32_w]
          rfl
         refine pure_ (i := 10) (N := some 55) (v := ?_) (a' := ?_) #[true, true, true, true, true, true, true, false, true, true, true, false, false, false, false, false] rfl rfl (any_of HT_.out (by kernel_rfl)) (fun _ _ _ h => h) (Or.inl ⟨by rfl, ?_⟩) ?_ ?_
         rotate_left
         ·intro w'
          go_simp
          (try with_reducible rfl)
         rotate_left
         ·simp only [Act.put, List.setIfInBounds_toArray, List.set_cons_zero, List.set_cons_succ, i64_w, i32_w]
          rfl
         refine take_ (i := 7) (N := some 52) (v := ?_) (a' := ?_) #[true, true, true, true, true, true, true, true, true, true, true, false, false, false, false, false] rfl rfl (take_ofW HT_.out HW_.out (by kernel_rfl)) (fun _ _ _ h => h) (Or.inl ⟨by rfl, ?_⟩) hHeld ?_ ?_
         rotate_left
         ·rintro w' ⟨s0, s1⟩
          go_simp
          (try with_reducible rfl)
         rotate_left
         ·simp only [Act.put, List.setIfInBounds_toArray, List.set_cons_zero, List.set_cons_succ, i64_w, i32_w]
          rfl
         refine take_ (i := 11) (N := some 56) (v := ?_) (a' := ?_) #[true, true, true, true, true, true, true, true, true, true, true, true, false, false, false, false] rfl rfl (take_ofW HT_.out HW_.out (by kernel_rfl)) (fun _ _ _ h => h) (Or.inl ⟨by rfl, ?_⟩) hHeld ?_ ?_
         rotate_left
         ·rintro w' ⟨s0, s1⟩
          go_simp
          (try with_reducible rfl)
         rotate_left
         ·simp only [Act.put, List.setIfInBounds_toArray, List.set_cons_zero, List.set_cons_succ, i64_w, i32_w]
          rfl
         refine pure_ (i := 12) (N := some 57) (v := ?_) (a' := ?_) #[true, true, true, true, true, true, true, true, true, true, true, true, true, false, false, false] rfl rfl (any_of HT_.out (by kernel_rfl)) (fun _ _ _ h => h) (Or.inl ⟨by rfl, ?_⟩) ?_ ?_
         rotate_left
         ·intro w'
          go_simp
          (try with_reducible rfl)
         rotate_left
         ·simp only [Act.put, List.setIfInBounds_toArray, List.set_cons_zero, List.set_cons_succ, i64_w, i32_w]
          rfl
         refine last_ (i := 13) (N := none) #[true, true, true, true, true, true, true, true, true, true, true, true, true, true, false, false] rfl rfl (one_of HT_.out (by kernel_rfl)) (by decide) (fun K hK => ?_)
         refine skip_ (w1 := ?_) (by rfl) rfl ?_ ?_
         rotate_left
         ·go_simp
          (try rfl)
         refine hK.out _ _ ?_
         clear hK K
         refine pure_ (i := 14) (N := some 58) (v := ?_) (a' := ?_) #[true, true, true, true, true, true, true, true, true, true, true, true, true, true, true, false] rfl rfl (any_of HT_.out (by kernel_rfl)) (fun _ _ _ h => h) (Or.inl ⟨by rfl, ?_⟩) ?_ ?_
         rotate_left
         ·intro w'
          go_simp
          (try with_reducible rfl)
         rotate_left
         ·simp only [Act.put, List.setIfInBounds_toArray, List.set_cons_zero, List.set_cons_succ, i64_w, i32_w]
          rfl
         refine last_ (i := 15) (N := none) #[true, true, true, true, true, true, true, true, true, true, true, true, true, true, true, true] rfl rfl (one_of HT_.out (by kernel_rfl)) (by decide) (fun K hK => ?_)
         refine skip_ (w1 := ?_) (by rfl) rfl ?_ ?_
         rotate_left
         ·go_simp
          (try rfl)
         refine hK.out _ _ ?_
         clear hK K
         refine done_ (done_of HT_.out (by kernel_rfl)) ?_
         have s7 := Kd.S_drew (S_swap' HG.out.rws HGC.out HGA.out hha hh hsame)
         obtain ⟨cellsA, hcA⟩ := RA.out.ty
         have t7 : KeepT [33] wr (((wr.setCell ⟨g', lead_c.length, none⟩ (.slice (some ⟨bi, 0, none⟩) ri.length cc)).setCell ⟨g', i, none⟩ (.slice A' ra.length c')).drew) := KeepT.drew (KeepT.put2 (KeepT.refl _ _) hcA (by decide) _ _ _ _)
         have l7 : Below w.heap.size w (((wr.setCell ⟨g', lead_c.length, none⟩ (.slice (some ⟨bi, 0, none⟩) ri.length cc)).setCell ⟨g', i, none⟩ (.slice A' ra.length c')).drew) := below_drew1 (below_set (below_set HG.out.low RA.out.gb) RA.out.gb)
         have d7 := R_keepT HG.out.led t7 (by decide)
         have hrow : ((rows_c.set lead_c.length ri).set i ra)[lead_c.length]? = some ri := by
          have htl : lead_c.length < rows_c.length := by rw [HW.out.2.1]; exact HTN.out
          by_cases e : i = lead_c.length
          ·have e2 : ra = ri := by have h1 := HGA.out; rw [e, HGC.out] at h1; exact Option.some.inj h1
           rw [e, e2, List.getElem?_set_self (by rw [List.length_set]; exact htl)]
          ·rw [List.getElem?_set_ne e, List.getElem?_set_self htl]
         obtain ⟨rows7, hr7⟩ : ∃ x_, (rows_c.set lead_c.length ri).set i ra = x_ := ⟨_, rfl⟩
         have HR7 : Aside0 (swapR rows_c lead_c.length i = rows7) := ⟨HSW.out.trans hr7⟩
         rw [hr7] at s7 hrow
         have hw7 : Wide m rows7 ∧ rows7.length = n := by
          rw [← HR7.out]
          exact ⟨swapR_wide HW.out.1 (by rw [HW.out.2.1]; exact HTN.out) (by rw [HW.out.2.1]; exact HSTOP.out), by rw [swapR_length]; exact HW.out.2.1⟩
         have HW7 := Aside0.mk hw7
         generalize ((wr.setCell ⟨g', lead_c.length, none⟩ (.slice (some ⟨bi, 0, none⟩) ri.length cc)).setCell ⟨g', i, none⟩ (.slice A' ra.length c')).drew = w7 at s7 d7 l7 ⊢
         have HG7 : Aside0 (RefAt w w7 (.slice (some ⟨g', 0, none⟩) n cr) rows7 (.slice Al lead_c.length cl) lead_c) := ⟨⟨s7, d7, l7⟩⟩
         clear hh hha hcx hfi hfa hsame hsame2 hfs s7 d7 l7 t7 hcA hr7 hw7 HSW bx hHeld HT_ HW_
         obtain ⟨gt, capt, At, ct, RT, hCT⟩ := grid_row' HG7.out.rws hrow
         obtain ⟨bt, CT⟩ := hCT c (by rw [HGL.out]; exact HCM.out)
         have e1 := RT.vr_
         injection e1 with e1 el_ e3
         clear el_
         injection e1 with e1
         injection e1 with e1 eo_ es_
         clear eo_ es_
         have e2 := CT.addr
         subst e1 e2 e3
         have hhd := RT.head
         have hct := CT.cell
         have hxx : ri.getD c 0 = x := HX.out
         rw [hxx] at hct
         have RT0 := Aside0.mk RT
         have hroom := Aside0.mk RT.room
         have HROW := Aside0.mk hrow
         clear RT CT hCT hrow hxx
         go_wp2_with (go_at_call 59; refine (juntoref01_Inv.calls k a0 x one _ HONE.out).mono ?_; rintro e w' ⟨rfl, ⟨nd10, rfl⟩⟩)
         have hS0 : Aside0 (Kd.S k2 33 w7 w.heap.size (fun _ => True) (.slice (some ⟨g', 0, none⟩) n cr) (rows7.set lead_c.length (r.take 0 ++ ri.drop 0))) := ⟨by
          obtain ⟨h1, h2⟩ := List.getElem?_eq_some_iff.1 HROW.out
          rw [List.take_zero, List.nil_append, List.drop_zero, ← h2, List.set_getElem_self]; exact HG7.out.rws⟩
         have HL1 : Aside0 (r.length = ri.length) := ⟨HRM.out.1⟩
         have HRL := HGL
         clear hhd hct
         go_loopg [73] (r.length + 1) (fun kq v73 w' => ∃ j : Nat, v73 = .int .i64 (j : Int) ∧ Aside0 (j ≤ r.length ∧ kq = r.length + 1 - j) ∧ Aside0 (Kd.S k2 33 w' w.heap.size (fun _ => True) (.slice (some ⟨g', 0, none⟩) n cr) (rows7.set lead_c.length (r.take j ++ ri.drop j))) ∧ Aside0 (KeepT [22] w7 w') ∧ Aside0 (Below w.heap.size w w'))
         case atStart => exact ⟨0, rfl, ⟨by omega, by omega⟩, ⟨Kd.S_drewN hS0.out _⟩, ⟨KeepT.drewN (KeepT.refl _ _) _⟩, ⟨pw_below_drewN HG7.out.low _⟩⟩
         case round =>
          clear hS0 HJ
          obtain ⟨j, rfl, HJ, HSj, HK, HBj⟩ := hrel
          cases gk with
          | zero => exact absurd HJ.out.2 (by have := HJ.out.1; omega)
          | succ j2 =>
           obtain ⟨cur, hcur⟩ : ∃ cur, cur = r.take j ++ ri.drop j := ⟨_, rfl⟩
           rw [← hcur] at HSj
           have hcl : cur.length = ri.length := by rw [hcur]; have := HL1.out; have := HJ.out.1; simp; omega
           have hal' : lead_c.length < rows7.length := (List.getElem?_eq_some_iff.1 HROW.out).1
           have e2 : (rows7.set lead_c.length cur)[lead_c.length]? = some cur := List.getElem?_set_self hal'
           obtain ⟨gu, capu, Au, cu, RU, hCU⟩ := grid_row' HSj.out e2
           obtain ⟨q1, q2, q3⟩ := RowAt.keep RT0.out RU HK.out (by decide)
           subst q1 q2 q3
           by_cases hlt : j < r.length
           ·have hit : j < cur.length := by rw [hcl, ← HL1.out]; exact hlt
            have hif : j < ri.length := by rw [← HL1.out]; exact hlt
            obtain ⟨bt', CT⟩ := hCU j hit
            have eb := CT.addr
            injection eb with eb
            injection eb with eb _ _
            subst eb
            have hT1 := HRM.out.2 j hlt
            have hcg : cur.getD j 0 = ri.getD j 0 := by
             rw [hcur, List.getD_eq_getElem?_getD, List.getElem?_append_right (by rw [List.length_take]; omega), List.getElem?_drop, List.length_take, Nat.min_eq_left (by omega), ← List.getD_eq_getElem?_getD]
             congr 1; omega
            have hnext : cur.set j (r.getD j 0) = r.take (j + 1) ++ ri.drop (j + 1) := by
             rw [hcur, List.set_append_right _ _ (by rw [List.length_take]; omega), List.length_take, Nat.min_eq_left (by omega), Nat.sub_self, List.drop_eq_getElem_cons hif, List.set_cons_zero, List.take_succ_eq_append_getElem hlt, List.append_assoc, List.getD_eq_getElem?_getD, List.getElem?_eq_getElem hlt]
             rfl
            rw [← hcg] at hT1
            obtain ⟨xt, hxt⟩ : ∃ x_, cur.getD j 0 = x_ := ⟨_, rfl⟩
            obtain ⟨xr, hxr⟩ : ∃ x_, r.getD j 0 = x_ := ⟨_, rfl⟩
            rw [hxt, hxr] at hT1
            rw [hxr] at hnext
            have T1 := Aside0.mk hT1
            have HNX := Aside0.mk hnext
            have hct := CT.cell
            rw [hxt] at hct
            have hft := CT.free
            have hhd := RU.head
            have CT := Aside0.mk CT
            have RU := Aside0.mk RU
            have hj63 : (j : Int) ≤ 9223372036854775806 := by have := HL1.out; have := HM.out; have := HRL.out; omega
            have b1 : decide ((j : Int) < (ri.length : Int)) = true := decide_eq_true (by omega)
            have b1' : decide (j < ri.length) = true := decide_eq_true hif
            have g1 : (j < ri.length) = True := eq_true hif
            have g2 : (j < cur.length) = True := eq_true hit
            have g3 : (lead_c.length < n) = True := eq_true HTN.out
            have HLT3 := Aside0.mk hlt
            clear hT1 hxt hxr hcg hnext hcur hcl hit hif hCU e2 hlt hal'
            go_wp2
            refine start_ (n := 17) (S := fun w' => w'.cell? ⟨gu, lead_c.length, none⟩ = some (.slice (some ⟨bt, 0, none⟩) cur.length cu) ∧ w'.cell? ⟨bt, j, none⟩ = some (.int .u64 xt)) (ds := [16]) #[false, false, false, false, false, false, false, false, false, false, false, false, false, false, false, false, false] (by kernel_rfl) rfl rfl ⟨hhd, hct⟩ (fun hHeld => ?_); refine with_tabW ref_reduce.tab16 ref_reduce.bits16 (fun HT_ HW_ => ?_)
            refine pure_ (i := 0) (N := some 76) (v := ?_) (a' := ?_) #[true, false, false, false, false, false, false, false, false, false, false, false, false, false, false, false, false] rfl rfl (any_of HT_.out (by kernel_rfl)) (fun _ _ _ h => h) (Or.inl ⟨by rfl, ?_⟩) ?_ ?_
            rotate_left
            ·intro w'
             go_simp
             (try with_reducible rfl)
            rotate_left
            ·simp only [Act.put, List.setIfInBounds_toArray, List.set_cons_zero, List.set_cons_succ, i64_w, i32_w]
             rfl
            refine pure_ (i := 1) (N := some 77) (v := ?_) (a' := ?_) #[true, true, false, false, false, false, false, false, false, false, false, false, false, false, false, false, false] rfl rfl (any_of HT_.out (by kernel_rfl)) (fun _ _ _ h => h) (Or.inl ⟨by rfl, ?_⟩) ?_ ?_
            rotate_left
            ·intro w'
             go_simp
             (try with_reducible rfl)
            rotate_left
            ·simp only [Act.put, List.setIfInBounds_toArray, List.set_cons_zero, List.set_cons_succ, i64_w, i32_w]
             rfl
            refine pure_ (i := 2) (N := some 78) (v := ?_) (a' := ?_) #[true, true, true, false, false, false, false, false, false, false, false, false, false, false, false, false, false] rfl rfl (any_of HT_.out (by kernel_rfl)) (fun _ _ _ h => h) (Or.inl ⟨by rfl, ?_⟩) ?_ ?_
            rotate_left
            ·intro w'
             go_simp
             (try with_reducible rfl)
            rotate_left
            ·simp only [Act.put, List.setIfInBounds_toArray, List.set_cons_zero, List.set_cons_succ, i64_w, i32_w]
             rfl
            refine pure_ (i := 4) (N := some 80) (v := ?_) (a' := ?_) #[true, true, true, false, true, false, false, false, false, false, false, false, false, false, false, false, false] rfl rfl (any_of HT_.out (by kernel_rfl)) (fun _ _ _ h => h) (Or.inl ⟨by rfl, ?_⟩) ?_ ?_
            rotate_left
            ·intro w'
             go_simp
             (try with_reducible rfl)
            rotate_left
            ·simp only [Act.put, List.setIfInBounds_toArray, List.set_cons_zero, List.set_cons_succ, i64_w, i32_w]
             rfl
            refine pure_ (i := 5) (N := some 81) (v := ?_) (a' := ?_) #[true, true, true, false, true, true, false, false, false, false, false, false, false, false, false, false, false] rfl rfl (any_of HT_.out (by kernel_rfl)) (fun _ _ _ h => h) (Or.inl ⟨by rfl, ?_⟩) ?_ ?_
            rotate_left
            ·intro w'
             go_simp
             (try with_reducible rfl)
            rotate_left
            ·simp only [Act.put, List.setIfInBounds_toArray, List.set_cons_zero, List.set_cons_succ, i64_w, i32_w]
             rfl
            refine pure_ (i := 6) (N := some 82) (v := ?_) (a' := ?_) #[true, true, true, false, true, true, true, false, false, false, false, false, false, false, false, false, false] rfl rfl (any_of HT_.out (by kernel_rfl)) (fun _ _ _ h => h) (Or.inl ⟨by rfl, ?_⟩) ?_ ?_
            rotate_left
            ·intro w'
             go_simp
             (try with_reducible rfl)
            rotate_left
            ·simp only [Act.put, List.setIfInBounds_toArray, List.set_cons_zero, List.set_cons_succ, i64_w, i32_w]
             rfl
            refine pure_ (i := 7) (N := some 83) (v := ?_) (a' := ?_) #[true, true, true, false, true, true, true, true, false, false, false, false, false, false, false, false, false] rfl rfl (any_of HT_.out (by kernel_rfl)) (fun _ _ _ h => h) (Or.inl ⟨by rfl, ?_⟩) ?_ ?_
            rotate_left
            ·intro w'
             go_simp
             (try with_reducible rfl)
            rotate_left
            ·simp only [Act.put, List.setIfInBounds_toArray, List.set_cons_zero, List.set_cons_succ, i64_w, i32_w]
             rfl
            refine pure_ (i := 8) (N := some 84) (v := ?_) (a' := ?_) #[true, true, true, false, true, true, true, true, true, false, false, false, false, false, false, false, false] rfl rfl (any_of HT_.out (by kernel_rfl)) (fun _ _ _ h => h) (Or.inl ⟨by rfl, ?_⟩) ?_ ?_
            rotate_left
            ·intro w'
             go_simp
             (try with_reducible rfl)
            rotate_left
            ·simp only [Act.put, List.setIfInBounds_toArray, List.set_cons_zero, List.set_cons_succ, i64_w, i32_w]
             rfl
            refine pure_ (i := 10) (N := some 86) (v := ?_) (a' := ?_) #[true, true, true, false, true, true, true, true, true, false, true, false, false, false, false, false, false] rfl rfl (any_of HT_.out (by kernel_rfl)) (fun _ _ _ h => h) (Or.inl ⟨by rfl, ?_⟩) ?_ ?_
            rotate_left
            ·intro w'
             go_simp
             (try with_reducible rfl)
            rotate_left
            ·simp only [Act.put, List.setIfInBounds_toArray, List.set_cons_zero, List.set_cons_succ, i64_w, i32_w]
             rfl
            refine pure_ (i := 13) (N := some 89) (v := ?_) (a' := ?_) #[true, true, true, false, true, true, true, true, true, false, true, false, false, true, false, false, false] rfl rfl (any_of HT_.out (by kernel_rfl)) (fun _ _ _ h => h) (Or.inl ⟨by rfl, ?_⟩) ?_ ?_
            rotate_left
            ·intro w'
             go_simp
             (try with_reducible rfl)
            rotate_left
            ·simp only [Act.put, List.setIfInBounds_toArray, List.set_cons_zero, List.set_cons_succ, i64_w, i32_w]
             rfl
            refine take_ (i := 3) (N := some 79) (v := ?_) (a' := ?_) #[true, true, true, true, true, true, true, true, true, false, true, false, false, true, false, false, false] rfl rfl (take_ofW HT_.out HW_.out (by kernel_rfl)) (fun _ _ _ h => h) (Or.inl ⟨by rfl, ?_⟩) hHeld ?_ ?_
            rotate_left
            ·rintro w' ⟨s0, s1⟩
             go_simp
             (try with_reducible rfl)
            rotate_left
            ·simp only [Act.put, List.setIfInBounds_toArray, List.set_cons_zero, List.set_cons_succ, i64_w, i32_w]
             rfl
            refine take_ (i := 9) (N := some 85) (v := ?_) (a' := ?_) #[true, true, true, true, true, true, true, true, true, true, true, false, false, true, false, false, false] rfl rfl (take_ofW HT_.out HW_.out (by kernel_rfl)) (fun _ _ _ h => h) (Or.inl ⟨by rfl, ?_⟩) hHeld ?_ ?_
            rotate_left
            ·rintro w' ⟨s0, s1⟩
             go_simp
             (try with_reducible rfl)
            rotate_left
            ·simp only [Act.put, List.setIfInBounds_toArray, List.set_cons_zero, List.set_cons_succ, i64_w, i32_w]
             rfl
            refine pure_ (i := 11) (N := some 87) (v := ?_) (a' := ?_) #[true, true, true, true, true, true, true, true, true, true, true, true, false, true, false, false, false] rfl rfl (any_of HT_.out (by kernel_rfl)) (fun _ _ _ h => h) (Or.inl ⟨by rfl, ?_⟩) ?_ ?_
            rotate_left
            ·intro w'
             go_simp
             (try with_reducible rfl)
            rotate_left
            ·simp only [Act.put, List.setIfInBounds_toArray, List.set_cons_zero, List.set_cons_succ, i64_w, i32_w]
             rfl
            refine take_ (i := 12) (N := some 88) (v := ?_) (a' := ?_) #[true, true, true, true, true, true, true, true, true, true, true, true, true, true, false, false, false] rfl rfl (take_ofW HT_.out HW_.out (by kernel_rfl)) (fun _ _ _ h => h) (Or.inl ⟨by rfl, ?_⟩) hHeld ?_ ?_
            rotate_left
            ·rintro w' ⟨s0, s1⟩
             go_simp
             (try with_reducible rfl)
            rotate_left
            ·simp only [Act.put, List.setIfInBounds_toArray, List.set_cons_zero, List.set_cons_succ, i64_w, i32_w]
             rfl
            refine one_ (i := 14) (N := some 90) #[true, true, true, true, true, true, true, true, true, true, true, true, true, true, true, false, false] rfl rfl (one_of HT_.out (by kernel_rfl)) (by decide) (fun K hK => ?_)
            refine goes_ Try.func45 (by kernel_rfl) rfl #[.int .u64 a0, .int .u64 xt, .int .u64 one] (by rfl) rfl rfl (by (try simp only [List.map_toArray, List.map_cons, List.map_nil]); first | done | rfl) ?_
            with_reducible refine (juntoref01_Mul.calls a0 xt one xr _ T1.out).mono ?_
            rintro e w' ⟨rfl, ⟨nd14, rfl⟩⟩
            refine ⟨_, rfl, ?_⟩
            refine hK.out _ _ ⟨hHeld.1, hHeld.2⟩ (fun hHeld => ?_)
            clear hK K
            refine norm_ (a' := ?_) ?_ ?_
            rotate_left
            ·show Act.put _ (some 90) _ = _
             simp only [Act.put, List.setIfInBounds_toArray, List.set_cons_zero, List.set_cons_succ, i64_w, i32_w]
             rfl
            refine pure_ (i := 15) (N := some 91) (v := ?_) (a' := ?_) #[true, true, true, true, true, true, true, true, true, true, true, true, true, true, true, true, false] rfl rfl (any_of HT_.out (by kernel_rfl)) (fun _ _ _ h => h) (Or.inl ⟨by rfl, ?_⟩) ?_ ?_
            rotate_left
            ·intro w'
             go_simp
             (try with_reducible rfl)
            rotate_left
            ·simp only [Act.put, List.setIfInBounds_toArray, List.set_cons_zero, List.set_cons_succ, i64_w, i32_w]
             rfl
            refine last_ (i := 16) (N := none) #[true, true, true, true, true, true, true, true, true, true, true, true, true, true, true, true, true] rfl rfl (one_of HT_.out (by kernel_rfl)) (by decide) (fun K hK => ?_)
            refine skip_ (w1 := ?_) (by rfl) rfl ?_ ?_
            rotate_left
            ·go_simp
             (try rfl)
            refine hK.out _ _ ?_
            clear hK K
            refine done_ (done_of HT_.out (by kernel_rfl)) ?_
            try go_wp2
            go_roundg j2
            case measure => omega
            case rel =>
             obtain ⟨cellsT, hT⟩ := CT.out.ty
             have hs := CT.out.put xr
             rw [List.set_set, HNX.out] at hs
             exact ⟨j + 1, by go_num, ⟨by have := HLT3.out; omega, by have := HJ.out; omega⟩, ⟨Kd.S_drewN hs _⟩, ⟨KeepT.set (w' := wr.drewN _) HK.out hT (by decide) j _⟩, ⟨below_set (pw_below_drewN HBj.out _) CT.out.gb⟩⟩
           ·have b1 : decide ((j : Int) < (ri.length : Int)) = false := decide_eq_false (by have := HL1.out; omega)
            have b1' : decide (j < ri.length) = false := decide_eq_false (by have := HL1.out; omega)
            have hfin : cur = r := by
             rw [hcur, List.take_of_length_le (by omega), List.drop_eq_nil_of_le (by have := HL1.out; omega), List.append_nil]
            rw [hfin] at HSj
            have HGE : Aside0 (RefAt w wr (.slice (some ⟨gu, 0, none⟩) n cr) (rows7.set lead_c.length r) (.slice Al lead_c.length cl) lead_c) := ⟨⟨HSj.out, R_keepT HG7.out.led HK.out (by decide), HBj.out⟩⟩
            have HEL2 : Aside0 (elimR a0 c lead_c.length (n - 0) 0 (rows7.set lead_c.length r) = some rows2) := ⟨by have := HEL.out; rw [HR7.out, HW.out.2.1] at this; exact this⟩
            have HWE : Aside0 (Wide m (rows7.set lead_c.length r) ∧ (rows7.set lead_c.length r).length = n) := ⟨wide_set HW7.out.1 (by rw [HL1.out]; exact HRL.out), by rw [List.length_set]; exact HW7.out.2⟩
            clear hcur hcl e2 hCU hlt hfin hal' HEL RU
            go_wp2
            go_loopg [95] (n + 1) (fun kq v95 w' => ∃ (q : Nat) (rows_q : List (List Int)), v95 = .int .i64 (q : Int) ∧ Aside0 (q ≤ n ∧ kq = n + 1 - q) ∧ Aside0 (elimR a0 c lead_c.length (n - q) q rows_q = some rows2) ∧ Aside0 (RefAt w w' (.slice (some ⟨gu, 0, none⟩) n cr) rows_q (.slice Al lead_c.length cl) lead_c) ∧ Aside0 (Wide m rows_q ∧ rows_q.length = n))
            case atStart => exact ⟨0, rows7.set lead_c.length r, rfl, ⟨by omega, by omega⟩, HEL2, HGE, HWE⟩
            case round =>
             clear HGE HEL2 HWE HJ HSj HK HBj
             obtain ⟨q, rows_q, rfl, HJ, HE, HGq, HWq⟩ := hrel
             cases gk with
             | zero => exact absurd HJ.out.2 (by have := HJ.out.1; omega)
             | succ k3 =>
              have hq63 : (q : Int) ≤ 9223372036854775806 := by have := HJ.out; have := HN.out; omega
              by_cases hin : q < n
              ·have b3 : decide ((q : Int) < (n : Int)) = true := decide_eq_true (by omega)
               have b3' : decide (q < n) = true := decide_eq_true hin
               obtain ⟨d2, hd2⟩ : ∃ d2, n - q = d2 + 1 := ⟨n - q - 1, by omega⟩
               have hE := HE.out
               rw [hd2, elimR, Option.bind_eq_some_iff] at hE
               obtain ⟨rows_j, hE1, hE2⟩ := hE
               have hD2 : n - (q + 1) = d2 := by omega
               have HD2 := Aside0.mk hD2
               have HE2 := Aside0.mk hE2
               have hwj := elimR1_wide HWq.out.1 (by rw [HWq.out.2]; exact hin) hE1
               have HWJ := Aside0.mk hwj
               have HIN := Aside0.mk hin
               clear hd2 hD2 hE2 hwj HE
               by_cases hia : q = lead_c.length
               ·unfold elimR1 at hE1
                rw [if_pos hia] at hE1
                cases hE1
                have b4 : ((q : Int) != (lead_c.length : Int)) = false := bne_eq_false_iff_eq.mpr (by omega)
                clear hia hin
                go_wp2
                go_roundg k3
                case measure => omega
                case rel => exact ⟨q + 1, rows_q, by go_num, ⟨HIN.out, by have := HJ.out; omega⟩, ⟨by rw [HD2.out]; exact HE2.out⟩, HGq, HWq⟩
               ·unfold elimR1 at hE1
                rw [if_neg hia, Option.bind_eq_some_iff] at hE1
                obtain ⟨rq, hrq, hE1⟩ := hE1
                cases hE1
                have b4 : ((q : Int) != (lead_c.length : Int)) = true := bne_iff_ne.mpr (by omega)
                obtain ⟨ga, gl⟩ := wide_get HWq.out.1 (i := q) (by rw [HWq.out.2]; exact hin)
                obtain ⟨gc, gm⟩ := wide_get HWq.out.1 (i := lead_c.length) (by rw [HWq.out.2]; exact HTN.out)
                obtain ⟨m1, m2, m3⟩ := lessRow_spec hrq
                obtain ⟨rt, hrt⟩ : ∃ x_, rows_q.getD q [] = x_ := ⟨_, rfl⟩
                obtain ⟨rf, hrf⟩ : ∃ x_, rows_q.getD lead_c.length [] = x_ := ⟨_, rfl⟩
                rw [hrt] at ga gl m1 m2 m3
                rw [hrf] at gc gm m2 m3
                obtain ⟨y, hy⟩ : ∃ x_, rt.getD c 0 = x_ := ⟨_, rfl⟩
                rw [hy] at m3
                obtain ⟨gq, capq, Aq, cq, RQ, hCQ⟩ := grid_row' HGq.out.rws ga
                obtain ⟨bq, CQ⟩ := hCQ c (by rw [gl]; exact HCM.out)
                obtain ⟨gp, capp, Ap, cp, RP, _⟩ := grid_row' HGq.out.rws gc
                have e1 := RQ.vr_
                have e2 := CQ.addr
                subst e2
                injection e1 with e1 el_ e3
                clear el_
                injection e1 with e1
                injection e1 with e1 eo_ es_
                clear eo_ es_
                subst e1 e3
                have e4 := RP.vr_
                injection e4 with e4 el_ e5
                clear el_
                injection e4 with e4
                injection e4 with e4 eo_ es_
                clear eo_ es_
                subst e4 e5
                have hh := RQ.head
                have hhp := RP.head
                have hcx := CQ.cell
                rw [hy] at hcx
                have HA1 := Aside0.mk (⟨ga, gc, hia, m1, m2, m3, gl⟩ : rows_q[q]? = some rt ∧ rows_q[lead_c.length]? = some rf ∧ q ≠ lead_c.length ∧ rq.length = rt.length ∧ rf.length = rt.length ∧ (∀ j, j < rq.length → ∃ t, juntoref01_Mul.f a0 y (rf.getD j 0) = some t ∧ juntoref01_Sub.f a0 (rt.getD j 0) t = some (rq.getD j 0)) ∧ rt.length = m)
                have RQ := Aside0.mk RQ
                have RP := Aside0.mk RP
                have g1 : (q < n) = True := eq_true hin
                have g2 : (c < rt.length) = True := eq_true (by rw [gl]; exact HCM.out)
                have g3 : (lead_c.length < n) = True := eq_true HTN.out
                clear ga gc gl gm m1 m2 m3 hrt hrf hy CQ hCQ hia hin hrq
                go_wp2
                refine start_ (n := 17) (S := fun w' => w'.cell? ⟨gu, q, none⟩ = some (.slice (some ⟨bq, 0, none⟩) rt.length cq) ∧ w'.cell? ⟨gu, lead_c.length, none⟩ = some (.slice Ap rf.length cp) ∧ w'.cell? ⟨bq, c, none⟩ = some (.int .u64 y)) (ds := [16]) #[false, false, false, false, false, false, false, false, false, false, false, false, false, false, false, false, false] (by kernel_rfl) rfl rfl ⟨hh, hhp, hcx⟩ (fun hHeld => ?_); refine with_tabW ref_reduce.tab22 ref_reduce.bits22 (fun HT_ HW_ => ?_)
                refine pure_ (i := 0) (N := some 101) (v := ?_) (a' := ?_) #[true, false, false, false, false, false, false, false, false, false, false, false, false, false, false, false, false] rfl rfl (any_of HT_.out (by kernel_rfl)) (fun _ _ _ h => h) (Or.inl ⟨by rfl, ?_⟩) ?_ ?_
                rotate_left
                ·intro w'
                 go_simp
                 (try with_reducible rfl)
                rotate_left
                ·simp only [Act.put, List.setIfInBounds_toArray, List.set_cons_zero, List.set_cons_succ, i64_w, i32_w]
                 rfl
                refine pure_ (i := 1) (N := some 102) (v := ?_) (a' := ?_) #[true, true, false, false, false, false, false, false, false, false, false, false, false, false, false, false, false] rfl rfl (any_of HT_.out (by kernel_rfl)) (fun _ _ _ h => h) (Or.inl ⟨by rfl, ?_⟩) ?_ ?_
                rotate_left
                ·intro w'
                 go_simp
                 (try with_reducible rfl)
                rotate_left
                ·simp only [Act.put, List.setIfInBounds_toArray, List.set_cons_zero, List.set_cons_succ, i64_w, i32_w]
                 rfl
                refine pure_ (i := 2) (N := some 103) (v := ?_) (a' := ?_) #[true, true, true, false, false, false, false, false, false, false, false, false, false, false, false, false, false] rfl rfl (any_of HT_.out (by kernel_rfl)) (fun _ _ _ h => h) (Or.inl ⟨by rfl, ?_⟩) ?_ ?_
                rotate_left
                ·intro w'
                 go_simp
                 (try with_reducible rfl)
                rotate_left
                ·simp only [Act.put, List.setIfInBounds_toArray, List.set_cons_zero, List.set_cons_succ, i64_w, i32_w]
                 rfl
                refine pure_ (i := 3) (N := some 104) (v := ?_) (a' := ?_) #[true, true, true, true, false, false, false, false, false, false, false, false, false, false, false, false, false] rfl rfl (any_of HT_.out (by kernel_rfl)) (fun _ _ _ h => h) (Or.inl ⟨by rfl, ?_⟩) ?_ ?_
                rotate_left
                ·intro w'
                 go_simp
                 (try with_reducible rfl)
                rotate_left
                ·simp only [Act.put, List.setIfInBounds_toArray, List.set_cons_zero, List.set_cons_succ, i64_w, i32_w]
                 rfl
                refine pure_ (i := 5) (N := some 106) (v := ?_) (a' := ?_) #[true, true, true, true, false, true, false, false, false, false, false, false, false, false, false, false, false] rfl rfl (any_of HT_.out (by kernel_rfl)) (fun _ _ _ h => h) (Or.inl ⟨by rfl, ?_⟩) ?_ ?_
                rotate_left
                ·intro w'
                 go_simp
                 (try with_reducible rfl)
                rotate_left
                ·simp only [Act.put, List.setIfInBounds_toArray, List.set_cons_zero, List.set_cons_succ, i64_w, i32_w]
                 rfl
                refine pure_ (i := 6) (N := some 107) (v := ?_) (a' := ?_) #[true, true, true, true, false, true, true, false, false, false, false, false, false, false, false, false, false] rfl rfl (any_of HT_.out (by kernel_rfl)) (fun _ _ _ h => h) (Or.inl ⟨by rfl, ?_⟩) ?_ ?_
                rotate_left
                ·intro w'
                 go_simp
                 (try with_reducible rfl)
                rotate_left
                ·simp only [Act.put, List.setIfInBounds_toArray, List.set_cons_zero, List.set_cons_succ, i64_w, i32_w]
                 rfl
                refine pure_ (i := 7) (N := some 108) (v := ?_) (a' := ?_) #[true, true, true, true, false, true, true, true, false, false, false, false, false, false, false, false, false] rfl rfl (any_of HT_.out (by kernel_rfl)) (fun _ _ _ h => h) (Or.inl ⟨by rfl, ?_⟩) ?_ ?_
                rotate_left
                ·intro w'
                 go_simp
                 (try with_reducible rfl)
                rotate_left
                ·simp only [Act.put, List.setIfInBounds_toArray, List.set_cons_zero, List.set_cons_succ, i64_w, i32_w]
                 rfl
                refine pure_ (i := 9) (N := some 110) (v := ?_) (a' := ?_) #[true, true, true, true, false, true, true, true, false, true, false, false, false, false, false, false, false] rfl rfl (any_of HT_.out (by kernel_rfl)) (fun _ _ _ h => h) (Or.inl ⟨by rfl, ?_⟩) ?_ ?_
                rotate_left
                ·intro w'
                 go_simp
                 (try with_reducible rfl)
                rotate_left
                ·simp only [Act.put, List.setIfInBounds_toArray, List.set_cons_zero, List.set_cons_succ, i64_w, i32_w]
                 rfl
                refine pure_ (i := 10) (N := some 111) (v := ?_) (a' := ?_) #[true, true, true, true, false, true, true, true, false, true, true, false, false, false, false, false, false] rfl rfl (any_of HT_.out (by kernel_rfl)) (fun _ _ _ h => h) (Or.inl ⟨by rfl, ?_⟩) ?_ ?_
                rotate_left
                ·intro w'
                 go_simp
                 (try with_reducible rfl)
                rotate_left
                ·simp only [Act.put, List.setIfInBounds_toArray, List.set_cons_zero, List.set_cons_succ, i64_w, i32_w]
                 rfl
                refine pure_ (i := 11) (N := some 112) (v := ?_) (a' := ?_) #[true, true, true, true, false, true, true, true, false, true, true, true, false, false, false, false, false] rfl rfl (any_of HT_.out (by kernel_rfl)) (fun _ _ _ h => h) (Or.inl ⟨by rfl, ?_⟩) ?_ ?_
                rotate_left
                ·intro w'
                 go_simp
                 (try with_reducible rfl)
                rotate_left
                ·simp only [Act.put, List.setIfInBounds_toArray, List.set_cons_zero, List.set_cons_succ, i64_w, i32_w]
                 rfl
                refine pure_ (i := 13) (N := some 114) (v := ?_) (a' := ?_) #[true, true, true, true, false, true, true, true, false, true, true, true, false, true, false, false, false] rfl rfl (any_of HT_.out (by kernel_rfl)) (fun _ _ _ h => h) (Or.inl ⟨by rfl, ?_⟩) ?_ ?_
                rotate_left
                ·intro w'
                 go_simp
                 (try with_reducible rfl)
                rotate_left
                ·simp only [Act.put, List.setIfInBounds_toArray, List.set_cons_zero, List.set_cons_succ, i64_w, i32_w]
                 rfl
                refine take_ (i := 4) (N := some 105) (v := ?_) (a' := ?_) #[true, true, true, true, true, true, true, true, false, true, true, true, false, true, false, false, false] rfl rfl (take_ofW HT_.out HW_.out (by kernel_rfl)) (fun _ _ _ h => h) (Or.inl ⟨by rfl, ?_⟩) hHeld ?_ ?_
                rotate_left
                ·rintro w' ⟨s0, s1, s2⟩
                 go_simp
                 (try with_reducible rfl)
                rotate_left
                ·simp only [Act.put, List.setIfInBounds_toArray, List.set_cons_zero, List.set_cons_succ, i64_w, i32_w]
                 rfl
                refine take_ (i := 8) (N := some 109) (v := ?_) (a' := ?_) #[true, true, true, true, true, true, true, true, true, true, true, true, false, true, false, false, false] rfl rfl (take_ofW HT_.out HW_.out (by kernel_rfl)) (fun _ _ _ h => h) (Or.inl ⟨by rfl, ?_⟩) hHeld ?_ ?_
                rotate_left
                ·rintro w' ⟨s0, s1, s2⟩
                 go_simp
                 (try with_reducible rfl)
                rotate_left
                ·simp only [Act.put, List.setIfInBounds_toArray, List.set_cons_zero, List.set_cons_succ, i64_w, i32_w]
                 rfl
                refine take_ (i := 12) (N := some 113) (v := ?_) (a' := ?_) #[true, true, true, true, true, true, true, true, true, true, true, true, true, true, false, false, false] rfl rfl (take_ofW HT_.out HW_.out (by kernel_rfl)) (fun _ _ _ h => h) (Or.inl ⟨by rfl, ?_⟩) hHeld ?_ ?_
                rotate_left
                ·rintro w' ⟨s0, s1, s2⟩
                 go_simp
                 (try with_reducible rfl)
                rotate_left
                ·simp only [Act.put, List.setIfInBounds_toArray, List.set_cons_zero, List.set_cons_succ, i64_w, i32_w]
                 rfl
                refine pure_ (i := 14) (N := some 115) (v := ?_) (a' := ?_) #[true, true, true, true, true, true, true, true, true, true, true, true, true, true, true, false, false] rfl rfl (any_of HT_.out (by kernel_rfl)) (fun _ _ _ h => h) (Or.inl ⟨by rfl, ?_⟩) ?_ ?_
                rotate_left
                ·intro w'
                 go_simp
                 (try with_reducible rfl)
                rotate_left
                ·simp only [Act.put, List.setIfInBounds_toArray, List.set_cons_zero, List.set_cons_succ, i64_w, i32_w]
                 rfl
                refine take_ (i := 15) (N := some 116) (v := ?_) (a' := ?_) #[true, true, true, true, true, true, true, true, true, true, true, true, true, true, true, true, false] rfl rfl (take_ofW HT_.out HW_.out (by kernel_rfl)) (fun _ _ _ h => h) (Or.inl ⟨by rfl, ?_⟩) hHeld ?_ ?_
                rotate_left
                ·rintro w' ⟨s0, s1, s2⟩
                 go_simp
                 (try with_reducible rfl)
                rotate_left
                ·simp only [Act.put, List.setIfInBounds_toArray, List.set_cons_zero, List.set_cons_succ, i64_w, i32_w]
                 rfl
                refine last_ (i := 16) (N := some 117) #[true, true, true, true, true, true, true, true, true, true, true, true, true, true, true, true, true] rfl rfl (one_of HT_.out (by kernel_rfl)) (by decide) (fun K hK => ?_)
                refine goes_ Try.func58 (by kernel_rfl) rfl #[.int .u64 a0, .slice (some ⟨bq, 0, none⟩) rt.length cq, .slice Ap rf.length cp, .int .u64 y] (by rfl) rfl rfl (by (try simp only [List.map_toArray, List.map_cons, List.map_nil]); first | done | rfl) ?_
                with_reducible refine (ref_less.calls a0 y rows_q q lead_c.length rt rf rq (.slice (some ⟨gu, 0, none⟩) n cr) gu cr gu cr (some ⟨bq, 0, none⟩) Ap cq cp w _ (below_drew1 HGq.out.low) (Kd.S_drew HGq.out.rws) HA1.out.1 HA1.out.2.1 HA1.out.2.2.1 HA1.out.2.2.2.1 HA1.out.2.2.2.2.1 (by rw [HA1.out.2.2.2.2.2.2]; exact HM.out) (RowAt.drew RQ.out) (RowAt.drew RP.out) HA1.out.2.2.2.2.2.1).mono ?_
                rintro e w2 ⟨rfl, h1, h2, h3⟩
                refine ⟨_, rfl, ?_⟩
                have H1 := Aside0.mk h1
                have H2 := Aside0.mk h2
                have H3 := Aside0.mk h3
                clear h1 h2 h3
                refine hK.out _ _ ?_
                clear hK K
                refine norm_ (a' := ?_) ?_ ?_
                rotate_left
                ·show Act.put _ (some 117) _ = _
                 simp only [Act.put, List.setIfInBounds_toArray, List.set_cons_zero, List.set_cons_succ, i64_w, i32_w]
                 rfl
                refine done_ (done_of HT_.out (by kernel_rfl)) ?_
                try go_wp2
                go_roundg k3
                case measure => omega
                case rel => exact ⟨q + 1, rows_q.set q rq, by go_num, ⟨HIN.out, by have := HJ.out; omega⟩, ⟨by rw [HD2.out]; exact HE2.out⟩, ⟨⟨H1.out, R_keepT (Kd.R_drew HGq.out.led) H3.out (by decide), H2.out⟩⟩, ⟨HWJ.out.1, by rw [HWJ.out.2]; exact HWq.out.2⟩⟩
              ·have hin2 : q = n := by have := HJ.out.1; omega
               have hE := HE.out
               rw [hin2, Nat.sub_self] at hE
               simp only [elimR] at hE
               have hE2 := Option.some.inj hE
               subst hE2
               have b3 : decide ((q : Int) < (n : Int)) = false := decide_eq_false (by omega)
               have b3' : decide (q < n) = false := decide_eq_false (by omega)
               clear hE hin HE hin2
               have HLL2 : Aside0 (lead_c.length < 4096) := ⟨by have := HTN.out; have := HN.out; omega⟩
               go_wp2_with (first | ((with_reducible refine gate_builtin (b := .append) (xs := #[.tmp 119, .tmp 121]) rfl ?_); at_builtin; refine Kd.R_append (Kd.int .i64) (w0 := w) w.heap.size rfl (.tmp 119) (.tmp 121) 47 3 (.int .i64 0) 8 rfl Try.underlying47 info3 rfl (by decide) (by omega) (.slice Al lead_c.length cl) lead_c (c : Int) [.int .i64 (c : Int)] (fun _ => True) (fun _ => False) rfl rfl ?aP (fun _ hk => hk.elim) ?aF ?aO ?aB ?aS ?aL ?_; (case aP => exact rfl); (case aB => exact (by repeat (first | (with_reducible first | exact HGq.out.low | apply below_alloc | apply pw_below_drewN | apply below_drew1) | exact HGq.out.low))); (case aF => exact (fun _ _ => trivial)); (case aO => exact (by (with_reducible repeat (first | apply Kd.R_alloc | apply Kd.R_drewN | apply Kd.R_drew)); exact HGq.out.led)); (case aS => exact (below_size (by repeat (first | (with_reducible first | exact HGq.out.low | apply below_alloc | apply pw_below_drewN | apply below_drew1) | exact HGq.out.low)))); (case aL => have := HLL2.out; omega); intro v wA ho hb hg hat; obtain ⟨Av, cv, ev⟩ := Kd.R_slice ho; subst ev; have HO := Aside0.mk ho; have HBA := Aside0.mk hb; have hka := KeepT.grown (ts := [3]) (KeepT.refl _ wr) hg (fun k hk => own_typed (Kd.R_own HGq.out.led).choose_spec k hk) (by decide); have HKA := Aside0.mk hka; clear ho hb hg hat hka))
               go_roundg k1
               case measure => omega
               case rel => exact ⟨c + 1, rows_q, lead_c ++ [(c : Int)], by go_num, ⟨by have := HCL.out; omega, by have := HI.out; omega⟩, ⟨by rw [HD'.out]; exact HF2.out⟩, ⟨⟨S_keepT HGq.out.rws HKA.out (by decide), by simpa using HO.out, HBA.out⟩⟩, ⟨HWq.out.1, HWq.out.2, by have := HTN.out; simp; omega⟩⟩
    ·have hcc : c = cols := by have := HI.out.1; omega
     have hF := HF.out
     rw [hcc, Nat.sub_self] at hF
     simp only [refRed] at hF
     have hF2 := (Option.some.inj hF).trans HFIN.out
     obtain ⟨rfl, rfl⟩ : rows_c = r1 ∧ lead_c = r2 := by injection hF2 with a b; exact ⟨a, b⟩
     have b1 : decide ((c : Int) < (cols : Int)) = false := decide_eq_false (by omega)
     have b1' : decide (c < cols) = false := decide_eq_false (by omega)
     clear hF hlt HF hF2 hcc
     go_wp2
     go_ret2
     exact ⟨_, _, rfl, Kd.S_mono (Kd.S_apart' HG.out.rws (Kd.R_typed HG.out.led) (by decide)) (fun _ hk => hk.2), Kd.R_mono (Kd.R_apart' HG.out.led (Kd.S_typed HG.out.rws) (by decide)) (fun _ hk => hk.2), HG.out.low⟩
 ·rw [if_neg hd] at h; cases h
end Go.Proofs.Ytfdkhkajehopkaa.Mb
