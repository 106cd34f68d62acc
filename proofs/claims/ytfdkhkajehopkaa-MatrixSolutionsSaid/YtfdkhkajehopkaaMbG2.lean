/- matrix: reduce, Clone, own, Check, flat. -/
import Derived.Test.YtfdkhkajehopkaaMbG1
import Derived.BigRegion
import Derived.RegionTactic
import Derived.Deep.DeepMust
import Derived.Test.YtfdkhkajehopkaaMb0
import Derived.Lib.SliceRun
import Derived.Test.YtfdkhkajehopkaaMb1
import Derived.Test.YtfdkhkajehopkaaMb3
namespace Go.Proofs.Ytfdkhkajehopkaa.Mb
open Go.RowKit Go.Proofs.YtfdkhkajehopkaaW.PrintWords Go.Proofs.YtfdkhkajehopkaaW.PrintLast Go.Proofs.YtfdkhkajehopkaaW.PrintMore
set_option linter.unusedVariables false
set_option linter.unusedSimpArgs false
def grid_reduce.T10 : Bool × List (List Nat × List Nat) := (true, [([], []), ([], []), ([], []), ([], []), ([3], [3]), ([4], [4]), ([5], [5]), ([], []), ([7], [7]), ([8], [8]), ([9], [9]), ([], []), ([10, 11], [10, 11]), ([12], [12]), ([], []), ([13, 14], [13, 14]), ([15], [15]), ([6, 16], [6, 16]), ([0, 1, 2, 17, 17], [0, 1, 2, 17])])
def grid_reduce.B10 : List Nat := [0, 0, 0, 0, 8, 24, 56, 0, 128, 384, 896, 0, 3968, 8064, 0, 32640, 65408, 131064, 262143]
theorem grid_reduce.tab10 : rtab .any (opsOf Try.f66 10) = grid_reduce.T10 := by kernel_rfl
theorem grid_reduce.bits10 : waitsOk grid_reduce.T10.2 grid_reduce.B10 = true := by kernel_rfl
theorem info3 : (Try.prog.info? 3).map (fun i => (i.zero, i.size, i.bytes)) = some (some (.int .i64 0), 1, 8) := by kernel_rfl

/-- The state of a grid in memory. -/
structure GridAt (w0 w : World) (b : Nat) (p : Int) (vr : Value) (rows : List (List Int)) (det : Int) (vl : Value) (lead : List Int) : Prop where
 blk : w.heap[b]? = some (.cells #[.int .u64 p, vr, .int .u64 det, vl] 75 (0, 0))
 gb : w0.heap.size ≤ b
 rws : Kd.S k2 33 w w0.heap.size (fun _ => True) vr rows
 led : Kd.R (Kd.int .i64) 3 w w0.heap.size (fun _ => True) vl lead
 low : Below w0.heap.size w0 w
set_option maxHeartbeats 8000000 in
set_option maxRecDepth 100000 in
theorem grid_reduce.calls (kr : Nat) (p det : Int) (rows : List (List Int)) (lead : List Int) (m n cols : Nat) (fin : List (List Int) × Int × List Int) (vr vl : Value) (b : Nat) (w0 w : World) (hG : GridAt w0 w b p vr rows det vl lead) (hrn : rows.length = n) (hn : n ≤ 4096) (hm : m ≤ 4096) (hw : Wide m rows) (hcols : cols ≤ m) (hlead : lead.length ≤ n)
  (h : red kr p cols 0 rows det lead = some fin) :
  Calls Try.prog 66 #[.pointer (some ⟨b, 0, none⟩), .int .i64 (cols : Int)] w fun e w' => e = .returned (.pointer (some ⟨b, 0, none⟩)) ∧ (∃ vl', GridAt w0 w' b p vr fin.1 fin.2.1 vl' fin.2.2) ∧ fin.1.length = n ∧ Wide m fin.1 ∧ fin.2.2.length ≤ n ∧ KeepT [22, 33, 75, 3] w w' := by
 have HG := Aside0.mk hG
 have HN := Aside0.mk hn
 have HM := Aside0.mk hm
 have HC := Aside0.mk hcols
 have HF := Aside0.mk h
 have HW := Aside0.mk hw
 have HRN := Aside0.mk hrn
 have HLD := Aside0.mk hlead
 clear hG hn hm hcols h hw hrn hlead
 go_enter Try.func66, Try.ntmps66
 go_wp2
 go_loopg [5] (cols + 1) (fun kq v5 w' => ∃ (c : Nat) (rows_c : List (List Int)) (det_c : Int) (lead_c : List Int) (vl_c : Value), v5 = .int .i64 (c : Int) ∧ Aside0 (c ≤ cols ∧ kq = cols + 1 - c) ∧ Aside0 (red kr p (cols - c) c rows_c det_c lead_c = some fin) ∧ Aside0 (GridAt w0 w' b p vr rows_c det_c vl_c lead_c) ∧ Aside0 (Wide m rows_c ∧ rows_c.length = n ∧ lead_c.length ≤ n) ∧ Aside0 (KeepT [22, 33, 75, 3] w w'))
 case atStart => exact ⟨0, rows, det, lead, vl, rfl, ⟨by omega, by omega⟩, HF, HG, ⟨HW.out, HRN.out, HLD.out⟩, ⟨KeepT.refl _ _⟩⟩
 case round =>
  clear HF HG HW HRN HLD
  obtain ⟨c, rows_c, det_c, lead_c, vl_c, rfl, HI, HF, HG, HW, HK⟩ := hrel
  cases gk with
  | zero => exact absurd HI.out.2 (by have := HI.out.1; omega)
  | succ k1 =>
   have hc63 : (c : Int) ≤ 9223372036854775806 := by have := HI.out; have := HC.out; have := HM.out; omega
   have hb1 : wr.cell? ⟨b, 1, none⟩ = some vr := (blk_cell HG.out.blk 1).trans rfl
   have hb3 : wr.cell? ⟨b, 3, none⟩ = some vl_c := (blk_cell HG.out.blk 3).trans rfl
   obtain ⟨Al, cl, el⟩ := Kd.R_slice HG.out.led
   obtain ⟨Ar, cr, er⟩ := Kd.S_slice HG.out.rws
   rw [HW.out.2.1] at er
   subst el er
   by_cases hlt : c < cols
   ·have b1 : decide ((c : Int) < (cols : Int)) = true := decide_eq_true (by omega)
    have b1' : decide (c < cols) = true := decide_eq_true hlt
    obtain ⟨d, hd⟩ : ∃ d, cols - c = d + 1 := ⟨cols - c - 1, by omega⟩
    have hd' : cols - (c + 1) = d := by omega
    have HD' := Aside0.mk hd'
    have hF := HF.out
    rw [hd] at hF
    simp only [red] at hF
    clear hd hd'
    by_cases hll : lead_c.length < rows_c.length
    ·rw [if_pos hll, Option.bind_eq_some_iff] at hF
     obtain ⟨o, ho, hF⟩ := hF
     have HO := Aside0.mk ho
     have HF2 := Aside0.mk hF
     have b2 : decide ((lead_c.length : Int) < (n : Int)) = true := decide_eq_true (by have := HW.out.2.1; omega)
     have b2' : decide (lead_c.length < n) = true := decide_eq_true (by have := HW.out.2.1; omega)
     have HLL := Aside0.mk hll
     have HCM : Aside0 (c < m) := ⟨by have := HC.out; omega⟩
     clear ho hF hll HF
     cases o with
     | none =>
      go_wp2
      go_region
      go_wp2_with (go_at_call 74; refine (grid_lift.calls kr p det_c rows_c lead_c.length c m none (.slice Ar n cr) (.slice Al lead_c.length cl) b w0 _ (below_drew1 HG.out.low) HG.out.gb HG.out.blk (Kd.S_drew HG.out.rws) (by rw [HW.out.2.1]; exact HN.out) HM.out HW.out.1 HCM.out HLL.out HO.out).mono ?_; rintro e w1 ⟨rfl, h1, h2, h3, h4⟩; have H1 := Aside0.mk h1; have H2 := Aside0.mk h2; have H3 := Aside0.mk h3; have H4 := Aside0.mk h4; clear h1 h2 h3 h4)
      go_roundg k1
      case measure => omega
      case rel => exact ⟨c + 1, rows_c, det_c, lead_c, _, by go_num, ⟨by omega, by have := HI.out; omega⟩, ⟨by rw [HD'.out]; exact HF2.out⟩, ⟨H1.out, HG.out.gb, H2.out, R_keepT (Kd.R_drew HG.out.led) H4.out (by decide), H3.out⟩, HW, ⟨KeepT.trans (KeepT.drew HK.out) (KeepT.mono H4.out (by decide))⟩⟩
     | some q =>
      obtain ⟨rows1, det1⟩ := q
      have hF3 := HF2.out
      simp only [Option.bind_eq_some_iff] at hF3
      obtain ⟨rows2, he, hF3⟩ := hF3
      have HE := Aside0.mk he
      have HF3 := Aside0.mk hF3
      have hw1 := liftR_wide HW.out.1 HLL.out HO.out
      have HW1 := Aside0.mk hw1
      clear he hF3 HF2 hw1
      go_wp2
      go_region
      go_wp2_with (go_at_call 74; refine (grid_lift.calls kr p det_c rows_c lead_c.length c m (some (rows1, det1)) (.slice Ar n cr) (.slice Al lead_c.length cl) b w0 _ (below_drew1 HG.out.low) HG.out.gb HG.out.blk (Kd.S_drew HG.out.rws) (by rw [HW.out.2.1]; exact HN.out) HM.out HW.out.1 HCM.out HLL.out HO.out).mono ?_; rintro e w1 ⟨rfl, h1, h2, h3, h4⟩; have H1 := Aside0.mk h1; have H2 := Aside0.mk h2; have H3 := Aside0.mk h3; have H4 := Aside0.mk h4; clear h1 h2 h3 h4; have hd1 : w1.cell? ⟨b, 1, none⟩ = some (.slice Ar n cr) := (blk_cell H1.out 1).trans rfl)
      have HG1 : Aside0 (GridAt w0 w1 b p (.slice Ar n cr) rows1 det1 (.slice Al lead_c.length cl) lead_c) := ⟨⟨H1.out, HG.out.gb, H2.out, R_keepT (Kd.R_drew HG.out.led) H4.out (by decide), H3.out⟩⟩
      have HK1 : Aside0 (KeepT [22, 33, 75, 3] w w1) := ⟨KeepT.trans (KeepT.drew HK.out) (KeepT.mono H4.out (by decide))⟩
      have HE1 : Aside0 (elim p c lead_c.length (n - 0) 0 rows1 = some rows2) := ⟨by have := HE.out; rw [HW1.out.2, HW.out.2.1] at this; exact this⟩
      clear H1 H2 H3 H4 HG HK HE HO hd1 hb1 hb3
      go_loopg [41] (n + 1) (fun kq v41 w' => ∃ (i : Nat) (rows_i : List (List Int)), v41 = .int .i64 (i : Int) ∧ Aside0 (i ≤ n ∧ kq = n + 1 - i) ∧ Aside0 (elim p c lead_c.length (n - i) i rows_i = some rows2) ∧ Aside0 (GridAt w0 w' b p (.slice Ar n cr) rows_i det1 (.slice Al lead_c.length cl) lead_c) ∧ Aside0 (Wide m rows_i ∧ rows_i.length = n) ∧ Aside0 (KeepT [22, 33, 75, 3] w w'))
      case atStart => exact ⟨0, rows1, rfl, ⟨by omega, by omega⟩, HE1, HG1, ⟨HW1.out.1, by rw [HW1.out.2, HW.out.2.1]⟩, HK1⟩
      case round =>
       have HLN : Aside0 (lead_c.length < n) := ⟨by have := HLL.out; have := HW.out.2.1; omega⟩
       clear HE1 HG1 HW1 HK1 HW HLL
       obtain ⟨i, rows_i, rfl, HJ, HE, HG, HW, HK⟩ := hrel
       cases gk with
       | zero => exact absurd HJ.out.2 (by have := HJ.out.1; omega)
       | succ k2 =>
        have hi63 : (i : Int) ≤ 9223372036854775806 := by have := HJ.out; have := HN.out; omega
        by_cases hin : i < n
        ·have b3 : decide ((i : Int) < (n : Int)) = true := decide_eq_true (by omega)
         have b3' : decide (i < n) = true := decide_eq_true hin
         obtain ⟨d2, hd2⟩ : ∃ d2, n - i = d2 + 1 := ⟨n - i - 1, by omega⟩
         have hE := HE.out
         rw [hd2, elim, Option.bind_eq_some_iff] at hE
         obtain ⟨rows_j, hE1, hE2⟩ := hE
         have hD2 : n - (i + 1) = d2 := by omega
         have HD2 := Aside0.mk hD2
         have HE2 := Aside0.mk hE2
         have hwj := elim1_wide HW.out.1 (by rw [HW.out.2]; exact hin) hE1
         have HWJ := Aside0.mk hwj
         have HIN := Aside0.mk hin
         clear hd2 hD2 hE2 hwj HE
         by_cases hia : i = lead_c.length
         ·unfold elim1 at hE1
          rw [if_pos hia] at hE1
          cases hE1
          have b4 : ((i : Int) != (lead_c.length : Int)) = false := bne_eq_false_iff_eq.mpr (by omega)
          clear hia hin
          go_wp2
          go_roundg k2
          case measure => omega
          case rel => exact ⟨i + 1, rows_i, by go_num, ⟨HIN.out, by have := HJ.out; omega⟩, ⟨by rw [HD2.out]; exact HE2.out⟩, HG, HW, HK⟩
         ·unfold elim1 at hE1
          rw [if_neg hia, Option.bind_eq_some_iff] at hE1
          obtain ⟨kk, hkk, hE1⟩ := hE1
          rw [Option.bind_eq_some_iff] at hE1
          obtain ⟨r, hr, hE1⟩ := hE1
          cases hE1
          have b4 : ((i : Int) != (lead_c.length : Int)) = true := bne_iff_ne.mpr (by omega)
          obtain ⟨ga, gl⟩ := wide_get HW.out.1 (i := i) (by rw [HW.out.2]; exact hin)
          obtain ⟨gc, gm⟩ := wide_get HW.out.1 (i := lead_c.length) (by rw [HW.out.2]; exact HLN.out)
          obtain ⟨l1, l2, l3⟩ := addRow_spec hr
          obtain ⟨ri, hri⟩ : ∃ x_, rows_i.getD i [] = x_ := ⟨_, rfl⟩
          obtain ⟨ra, hra⟩ : ∃ x_, rows_i.getD lead_c.length [] = x_ := ⟨_, rfl⟩
          rw [hri] at ga gl l1 l2 l3 hkk
          rw [hra] at gc gm l2 l3
          obtain ⟨x, hx⟩ : ∃ x_, ri.getD c 0 = x_ := ⟨_, rfl⟩
          rw [hx] at hkk
          obtain ⟨g, cap, A, cc, RA, hCA⟩ := grid_row' HG.out.rws ga
          obtain ⟨bi, CA⟩ := hCA c (by rw [gl]; exact HCM.out)
          have e1 := RA.vr_
          have e2 := CA.addr
          subst e2
          injection e1 with e1 el_ e3
          clear el_
          subst e1 e3
          have hh := RA.head
          have hcx := CA.cell
          rw [hx] at hcx
          have hc0 : wr.cell? ⟨b, 0, none⟩ = some (.int .u64 p) := (blk_cell HG.out.blk 0).trans rfl
          have hc1 : wr.cell? ⟨b, 1, none⟩ = some (.slice (some ⟨g, 0, none⟩) n cr) := (blk_cell HG.out.blk 1).trans rfl
          have HA1 := Aside0.mk (⟨ga, gc, hia, l1, l2, l3, gl⟩ : rows_i[i]? = some ri ∧ rows_i[lead_c.length]? = some ra ∧ i ≠ lead_c.length ∧ r.length = ri.length ∧ ra.length = ri.length ∧ (∀ j, j < r.length → ∃ t, field_Times.f p (ra.getD j 0) kk = some t ∧ field_Plus.f p (ri.getD j 0) t = some (r.getD j 0)) ∧ ri.length = m)
          have HKK := Aside0.mk hkk
          have g1 : (i < n) = True := eq_true hin
          have g2 : (c < ri.length) = True := eq_true (by rw [gl]; exact HCM.out)
          clear ga gc gl gm l1 l2 l3 hri hra hx hkk RA CA hCA hia hin hr
          go_wp2
          refine start_ (n := 19) (S := fun w' => w'.cell? ⟨b, 0, none⟩ = some (.int .u64 p) ∧ w'.cell? ⟨b, 1, none⟩ = some (.slice (some ⟨g, 0, none⟩) n cr) ∧ w'.cell? ⟨g, i, none⟩ = some (.slice (some ⟨bi, 0, none⟩) ri.length cc) ∧ w'.cell? ⟨bi, c, none⟩ = some (.int .u64 x)) (ds := [18]) #[false, false, false, false, false, false, false, false, false, false, false, false, false, false, false, false, false, false, false] (by kernel_rfl) rfl rfl ⟨hc0, hc1, hh, hcx⟩ (fun hHeld => ?_); refine with_tabW grid_reduce.tab10 grid_reduce.bits10 (fun HT_ HW_ => ?_)
          refine pure_ (i := 0) (N := some 47) (v := ?_) (a' := ?_) #[true, false, false, false, false, false, false, false, false, false, false, false, false, false, false, false, false, false, false] rfl rfl (any_of HT_.out (by kernel_rfl)) (fun _ _ _ h => h) (Or.inl ⟨by rfl, ?_⟩) ?_ ?_
          rotate_left
          ·intro w'
           go_simp
           (try with_reducible rfl)
          rotate_left
          ·simp only [Act.put, List.setIfInBounds_toArray, List.set_cons_zero, List.set_cons_succ, i64_w, i32_w]
           rfl
          refine pure_ (i := 1) (N := some 48) (v := ?_) (a' := ?_) #[true, true, false, false, false, false, false, false, false, false, false, false, false, false, false, false, false, false, false] rfl rfl (any_of HT_.out (by kernel_rfl)) (fun _ _ _ h => h) (Or.inl ⟨by rfl, ?_⟩) ?_ ?_
          rotate_left
          ·intro w'
           go_simp
           (try with_reducible rfl)
          rotate_left
          ·simp only [Act.put, List.setIfInBounds_toArray, List.set_cons_zero, List.set_cons_succ, i64_w, i32_w]
           rfl
          refine pure_ (i := 2) (N := some 49) (v := ?_) (a' := ?_) #[true, true, true, false, false, false, false, false, false, false, false, false, false, false, false, false, false, false, false] rfl rfl (any_of HT_.out (by kernel_rfl)) (fun _ _ _ h => h) (Or.inl ⟨by rfl, ?_⟩) ?_ ?_
          rotate_left
          ·intro w'
           go_simp
           (try with_reducible rfl)
          rotate_left
          ·simp only [Act.put, List.setIfInBounds_toArray, List.set_cons_zero, List.set_cons_succ, i64_w, i32_w]
           rfl
          refine pure_ (i := 3) (N := some 50) (v := ?_) (a' := ?_) #[true, true, true, true, false, false, false, false, false, false, false, false, false, false, false, false, false, false, false] rfl rfl (any_of HT_.out (by kernel_rfl)) (fun _ _ _ h => h) (Or.inl ⟨by rfl, ?_⟩) ?_ ?_
          rotate_left
          ·intro w'
           go_simp
           (try with_reducible rfl)
          rotate_left
          ·simp only [Act.put, List.setIfInBounds_toArray, List.set_cons_zero, List.set_cons_succ, i64_w, i32_w]
           rfl
          refine pure_ (i := 4) (N := some 51) (v := ?_) (a' := ?_) #[true, true, true, true, true, false, false, false, false, false, false, false, false, false, false, false, false, false, false] rfl rfl (any_of HT_.out (by kernel_rfl)) (fun _ _ _ h => h) (Or.inl ⟨by rfl, ?_⟩) ?_ ?_
          rotate_left
          ·intro w'
           go_simp
           (try with_reducible rfl)
          rotate_left
          ·simp only [Act.put, List.setIfInBounds_toArray, List.set_cons_zero, List.set_cons_succ, i64_w, i32_w]
           rfl
          refine pure_ (i := 5) (N := some 52) (v := ?_) (a' := ?_) #[true, true, true, true, true, true, false, false, false, false, false, false, false, false, false, false, false, false, false] rfl rfl (any_of HT_.out (by kernel_rfl)) (fun _ _ _ h => h) (Or.inl ⟨by rfl, ?_⟩) ?_ ?_
          rotate_left
          ·intro w'
           go_simp
           (try with_reducible rfl)
          rotate_left
          ·simp only [Act.put, List.setIfInBounds_toArray, List.set_cons_zero, List.set_cons_succ, i64_w, i32_w]
           rfl
          refine pure_ (i := 7) (N := some 54) (v := ?_) (a' := ?_) #[true, true, true, true, true, true, false, true, false, false, false, false, false, false, false, false, false, false, false] rfl rfl (any_of HT_.out (by kernel_rfl)) (fun _ _ _ h => h) (Or.inl ⟨by rfl, ?_⟩) ?_ ?_
          rotate_left
          ·intro w'
           go_simp
           (try with_reducible rfl)
          rotate_left
          ·simp only [Act.put, List.setIfInBounds_toArray, List.set_cons_zero, List.set_cons_succ, i64_w, i32_w]
           rfl
          refine pure_ (i := 8) (N := some 55) (v := ?_) (a' := ?_) #[true, true, true, true, true, true, false, true, true, false, false, false, false, false, false, false, false, false, false] rfl rfl (any_of HT_.out (by kernel_rfl)) (fun _ _ _ h => h) (Or.inl ⟨by rfl, ?_⟩) ?_ ?_
          rotate_left
          ·intro w'
           go_simp
           (try with_reducible rfl)
          rotate_left
          ·simp only [Act.put, List.setIfInBounds_toArray, List.set_cons_zero, List.set_cons_succ, i64_w, i32_w]
           rfl
          refine pure_ (i := 9) (N := some 56) (v := ?_) (a' := ?_) #[true, true, true, true, true, true, false, true, true, true, false, false, false, false, false, false, false, false, false] rfl rfl (any_of HT_.out (by kernel_rfl)) (fun _ _ _ h => h) (Or.inl ⟨by rfl, ?_⟩) ?_ ?_
          rotate_left
          ·intro w'
           go_simp
           (try with_reducible rfl)
          rotate_left
          ·simp only [Act.put, List.setIfInBounds_toArray, List.set_cons_zero, List.set_cons_succ, i64_w, i32_w]
           rfl
          refine pure_ (i := 11) (N := some 58) (v := ?_) (a' := ?_) #[true, true, true, true, true, true, false, true, true, true, false, true, false, false, false, false, false, false, false] rfl rfl (any_of HT_.out (by kernel_rfl)) (fun _ _ _ h => h) (Or.inl ⟨by rfl, ?_⟩) ?_ ?_
          rotate_left
          ·intro w'
           go_simp
           (try with_reducible rfl)
          rotate_left
          ·simp only [Act.put, List.setIfInBounds_toArray, List.set_cons_zero, List.set_cons_succ, i64_w, i32_w]
           rfl
          refine pure_ (i := 14) (N := some 61) (v := ?_) (a' := ?_) #[true, true, true, true, true, true, false, true, true, true, false, true, false, false, true, false, false, false, false] rfl rfl (any_of HT_.out (by kernel_rfl)) (fun _ _ _ h => h) (Or.inl ⟨by rfl, ?_⟩) ?_ ?_
          rotate_left
          ·intro w'
           go_simp
           (try with_reducible rfl)
          rotate_left
          ·simp only [Act.put, List.setIfInBounds_toArray, List.set_cons_zero, List.set_cons_succ, i64_w, i32_w]
           rfl
          refine take_ (i := 6) (N := some 53) (v := ?_) (a' := ?_) #[true, true, true, true, true, true, true, true, true, true, false, true, false, false, true, false, false, false, false] rfl rfl (take_ofW HT_.out HW_.out (by kernel_rfl)) (fun _ _ _ h => h) (Or.inl ⟨by rfl, ?_⟩) hHeld ?_ ?_
          rotate_left
          ·rintro w' ⟨s0, s1, s2, s3⟩
           go_simp
           (try with_reducible rfl)
          rotate_left
          ·simp only [Act.put, List.setIfInBounds_toArray, List.set_cons_zero, List.set_cons_succ, i64_w, i32_w]
           rfl
          refine take_ (i := 10) (N := some 57) (v := ?_) (a' := ?_) #[true, true, true, true, true, true, true, true, true, true, true, true, false, false, true, false, false, false, false] rfl rfl (take_ofW HT_.out HW_.out (by kernel_rfl)) (fun _ _ _ h => h) (Or.inl ⟨by rfl, ?_⟩) hHeld ?_ ?_
          rotate_left
          ·rintro w' ⟨s0, s1, s2, s3⟩
           go_simp
           (try with_reducible rfl)
          rotate_left
          ·simp only [Act.put, List.setIfInBounds_toArray, List.set_cons_zero, List.set_cons_succ, i64_w, i32_w]
           rfl
          refine pure_ (i := 12) (N := some 59) (v := ?_) (a' := ?_) #[true, true, true, true, true, true, true, true, true, true, true, true, true, false, true, false, false, false, false] rfl rfl (any_of HT_.out (by kernel_rfl)) (fun _ _ _ h => h) (Or.inl ⟨by rfl, ?_⟩) ?_ ?_
          rotate_left
          ·intro w'
           go_simp
           (try with_reducible rfl)
          rotate_left
          ·simp only [Act.put, List.setIfInBounds_toArray, List.set_cons_zero, List.set_cons_succ, i64_w, i32_w]
           rfl
          refine take_ (i := 13) (N := some 60) (v := ?_) (a' := ?_) #[true, true, true, true, true, true, true, true, true, true, true, true, true, true, true, false, false, false, false] rfl rfl (take_ofW HT_.out HW_.out (by kernel_rfl)) (fun _ _ _ h => h) (Or.inl ⟨by rfl, ?_⟩) hHeld ?_ ?_
          rotate_left
          ·rintro w' ⟨s0, s1, s2, s3⟩
           go_simp
           (try with_reducible rfl)
          rotate_left
          ·simp only [Act.put, List.setIfInBounds_toArray, List.set_cons_zero, List.set_cons_succ, i64_w, i32_w]
           rfl
          refine pure_ (i := 15) (N := some 62) (v := ?_) (a' := ?_) #[true, true, true, true, true, true, true, true, true, true, true, true, true, true, true, true, false, false, false] rfl rfl (any_of HT_.out (by kernel_rfl)) (fun _ _ _ h => h) (Or.inl ⟨by rfl, ?_⟩) ?_ ?_
          rotate_left
          ·intro w'
           go_simp
           (try with_reducible rfl)
          rotate_left
          ·simp only [Act.put, List.setIfInBounds_toArray, List.set_cons_zero, List.set_cons_succ, i64_w, i32_w]
           rfl
          refine take_ (i := 16) (N := some 63) (v := ?_) (a' := ?_) #[true, true, true, true, true, true, true, true, true, true, true, true, true, true, true, true, true, false, false] rfl rfl (take_ofW HT_.out HW_.out (by kernel_rfl)) (fun _ _ _ h => h) (Or.inl ⟨by rfl, ?_⟩) hHeld ?_ ?_
          rotate_left
          ·rintro w' ⟨s0, s1, s2, s3⟩
           go_simp
           (try with_reducible rfl)
          rotate_left
          ·simp only [Act.put, List.setIfInBounds_toArray, List.set_cons_zero, List.set_cons_succ, i64_w, i32_w]
           rfl
          refine one_ (i := 17) (N := some 64) #[true, true, true, true, true, true, true, true, true, true, true, true, true, true, true, true, true, true, false] rfl rfl (one_of HT_.out (by kernel_rfl)) (by decide) (fun K hK => ?_)
          refine goes_ Try.func72 (by kernel_rfl) rfl #[.int .u64 p, .int .u64 0, .int .u64 x] (by rfl) rfl rfl (by (try simp only [List.map_toArray, List.map_cons, List.map_nil]); first | done | rfl) ?_
          with_reducible refine (field_Minus.calls p 0 x kk _ HKK.out).mono ?_
          rintro e w' ⟨rfl, ⟨nd, rfl⟩⟩
          refine ⟨_, rfl, ?_⟩
          refine hK.out _ _ ⟨hHeld.1, hHeld.2.1, hHeld.2.2.1, hHeld.2.2.2⟩ (fun hHeld => ?_)
          clear hK K
          refine norm_ (a' := ?_) ?_ ?_
          rotate_left
          ·show Act.put _ (some 64) _ = _
           simp only [Act.put, List.setIfInBounds_toArray, List.set_cons_zero, List.set_cons_succ, i64_w, i32_w]
           rfl
          refine last_ (i := 18) (N := some 65) #[true, true, true, true, true, true, true, true, true, true, true, true, true, true, true, true, true, true, true] rfl rfl (one_of HT_.out (by kernel_rfl)) (by decide) (fun K hK => ?_)
          refine goes_ Try.func75 (by kernel_rfl) rfl #[.pointer (some ⟨b, 0, none⟩), .int .i64 (i : Int), .int .i64 (lead_c.length : Int), .int .u64 kk] (by rfl) rfl rfl (by (try simp only [List.map_toArray, List.map_cons, List.map_nil]); first | done | rfl) ?_
          with_reducible refine (grid_add.calls p det1 kk rows_i i lead_c.length ri ra r (.slice (some ⟨g, 0, none⟩) n cr) (.slice Al lead_c.length cl) b w0 _ (pw_below_drewN (below_drew1 HG.out.low) nd) (by first | exact HG.out.blk | simpa using HG.out.blk) (Kd.S_drewN (Kd.S_drew HG.out.rws) nd) HA1.out.1 HA1.out.2.1 HA1.out.2.2.1 (by rw [HW.out.2]; exact HN.out) HA1.out.2.2.2.1 HA1.out.2.2.2.2.1 (by rw [HA1.out.2.2.2.2.2.2]; exact HM.out) HA1.out.2.2.2.2.2.1).mono ?_
          rintro e w2 ⟨rfl, h1, h2, h3⟩
          refine ⟨_, rfl, ?_⟩
          have H1 := Aside0.mk h1
          have H2 := Aside0.mk h2
          have H3 := Aside0.mk h3
          clear h1 h2 h3
          refine hK.out _ _ ?_
          clear hK K
          refine norm_ (a' := ?_) ?_ ?_
          rotate_left
          ·show Act.put _ (some 65) _ = _
           simp only [Act.put, List.setIfInBounds_toArray, List.set_cons_zero, List.set_cons_succ, i64_w, i32_w]
           rfl
          refine done_ (done_of HT_.out (by kernel_rfl)) ?_
          try go_wp2
          go_roundg k2
          case measure => omega
          case rel => exact ⟨i + 1, rows_i.set i r, by go_num, ⟨HIN.out, by have := HJ.out; omega⟩, ⟨by rw [HD2.out]; exact HE2.out⟩, ⟨⟨H3.out.2 b 75 _ (by first | exact HG.out.blk | simpa using HG.out.blk) (by decide), HG.out.gb, H1.out, R_keepT (Kd.R_drewN (Kd.R_drew HG.out.led) nd) H3.out (by decide), H2.out⟩⟩, ⟨HWJ.out.1, by rw [HWJ.out.2]; exact HW.out.2⟩, ⟨KeepT.trans (KeepT.drewN (KeepT.drew HK.out) nd) (KeepT.mono H3.out (by decide))⟩⟩
        ·have hin2 : i = n := by have := HJ.out.1; omega
         subst hin2
         have hE := HE.out
         rw [Nat.sub_self] at hE
         simp only [elim] at hE
         have hE2 := Option.some.inj hE
         subst hE2
         have b3 : decide ((i : Int) < (i : Int)) = false := decide_eq_false (by omega)
         have b3' : decide (i < i) = false := decide_eq_false (by omega)
         have hc3 : wr.cell? ⟨b, 3, none⟩ = some (.slice Al lead_c.length cl) := (blk_cell HG.out.blk 3).trans rfl
         have hf3 := blk_frozen HG.out.blk 3
         clear hE hin HE
         have HLL2 : Aside0 (lead_c.length < 4096) := ⟨by have := HLN.out; have := HN.out; omega⟩
         go_wp2_with (first | ((with_reducible refine gate_builtin (b := .append) (xs := #[.tmp 71, .tmp 73]) rfl ?_); at_builtin; refine Kd.R_append (Kd.int .i64) (w0 := w0) w0.heap.size rfl (.tmp 71) (.tmp 73) 47 3 (.int .i64 0) 8 rfl Try.underlying47 info3 rfl (by decide) (by omega) (.slice Al lead_c.length cl) lead_c (c : Int) [.int .i64 (c : Int)] (fun _ => True) (fun _ => False) rfl rfl ?aP (fun _ hk => hk.elim) ?aF ?aO ?aB ?aS ?aL ?_; (case aP => exact rfl); (case aB => exact (by repeat (first | (with_reducible first | exact HG.out.low | apply below_alloc | apply pw_below_drewN | apply below_drew1) | exact HG.out.low))); (case aF => exact (fun _ _ => trivial)); (case aO => exact (by (with_reducible repeat (first | apply Kd.R_alloc | apply Kd.R_drewN | apply Kd.R_drew)); exact HG.out.led)); (case aS => exact (below_size (by repeat (first | (with_reducible first | exact HG.out.low | apply below_alloc | apply pw_below_drewN | apply below_drew1) | exact HG.out.low)))); (case aL => have := HLL2.out; omega); intro v wA ho hb hg hat; obtain ⟨Av, cv, ev⟩ := Kd.R_slice ho; subst ev; have HO := Aside0.mk ho; have HBA := Aside0.mk hb; have hka := KeepT.grown (ts := [3]) (KeepT.refl _ wr) hg (fun k hk => own_typed (Kd.R_own HG.out.led).choose_spec k hk) (by decide); have hbA := hka.2 b 75 _ HG.out.blk (by decide); clear hc3 hf3; have hc3 : wA.cell? ⟨b, 3, none⟩ = some (.slice Al lead_c.length cl) := (blk_cell hbA 3).trans rfl; have hf3 := blk_frozen hbA 3; have HKA := Aside0.mk hka; have HBB := Aside0.mk hbA; clear ho hb hg hat hka hbA))
         go_roundg k1
         case measure => omega
         case rel => exact ⟨c + 1, rows_i, det1, lead_c ++ [(c : Int)], _, by go_num, ⟨by omega, by have := HI.out; omega⟩, ⟨by rw [HD'.out]; exact HF3.out⟩,
          ⟨⟨blk_put (cs := #[.int .u64 p, .slice Ar i cr, .int .u64 det1, .slice Al lead_c.length cl]) HBB.out 3 _ rfl, HG.out.gb, S_keepT HG.out.rws (KeepT.set (ts := [3, 75]) (KeepT.mono HKA.out (by decide)) HBB.out (by decide) 3 _) (by decide), R_keepT (by simpa using HO.out) (KeepT.set (ts := [75]) (KeepT.refl _ _) HBB.out (by decide) 3 _) (by decide), below_set HBA.out HG.out.gb⟩⟩,
          ⟨HW.out.1, HW.out.2, by have := HLN.out; simp; omega⟩, ⟨KeepT.trans HK.out (KeepT.set (ts := [22, 33, 75, 3]) (KeepT.mono HKA.out (by decide)) HBB.out (by decide) 3 _)⟩⟩
    ·rw [if_neg hll] at hF
     have hF2 := Option.some.inj hF
     subst hF2
     have b2 : decide ((lead_c.length : Int) < (n : Int)) = false := decide_eq_false (by have := HW.out.2.1; omega)
     have b2' : decide (lead_c.length < n) = false := decide_eq_false (by have := HW.out.2.1; omega)
     clear hF hll HF
     go_wp2
     go_region
     go_wp2
     go_ret
     exact ⟨rfl, ⟨_, HG.out.blk, HG.out.gb, Kd.S_drew HG.out.rws, Kd.R_drew HG.out.led, below_drew1 HG.out.low⟩, HW.out.2.1, HW.out.1, HW.out.2.2, KeepT.drew HK.out⟩
   ·have hcc : c = cols := by have := HI.out.1; omega
    subst hcc
    have hF := HF.out
    rw [Nat.sub_self] at hF
    simp only [red] at hF
    have hF2 := Option.some.inj hF
    subst hF2
    have b1 : decide ((c : Int) < (c : Int)) = false := decide_eq_false (by omega)
    have b1' : decide (c < c) = false := decide_eq_false (by omega)
    clear hF hlt HF
    go_wp2
    go_region
    go_wp2
    go_ret
    exact ⟨rfl, ⟨_, HG.out.blk, HG.out.gb, Kd.S_drew HG.out.rws, Kd.R_drew HG.out.led, below_drew1 HG.out.low⟩, HW.out.2.1, HW.out.1, HW.out.2.2, KeepT.drew HK.out⟩
end Go.Proofs.Ytfdkhkajehopkaa.Mb
namespace Go.Proofs.Ytfdkhkajehopkaa.Mb
open Go.RowKit Go.Proofs.YtfdkhkajehopkaaW.PrintWords Go.Proofs.YtfdkhkajehopkaaW.PrintLast Go.Proofs.YtfdkhkajehopkaaW.PrintMore
set_option linter.unusedVariables false
set_option linter.unusedSimpArgs false
/-! ### slices_Clone_uint64_uint64: function 55 -/
def slices_Clone_uint64_uint64.f (l0 : List Int) : Option (List Int) := (some (([] : List Int) : List Int)).bind fun y111 => (if y111.length + l0.length < 17592186044416 then (some (y111 ++ l0)) else (none))
set_option maxHeartbeats 8000000 in
set_option maxRecDepth 100000 in
theorem slices_Clone_uint64_uint64.calls (A0 : Option Addr) (c0 : Nat) (l0 : List Int) (r : List Int) (w : World) (hr0 : Kd.C (Kd.int .u64) w A0 l0.length l0) (hc0 : l0.length ≤ c0) (h : slices_Clone_uint64_uint64.f l0 = some r) :
  Calls Try.prog 55 #[.slice A0 l0.length c0] w fun e w' => ∃ v0_ : Value, e = .returned (v0_) ∧ Kd.R (Kd.int .u64) 22 w' w.heap.size (fun _ => True) v0_ r ∧ Below w.heap.size w w' := by
 have HR0 := Aside0.mk hr0
 have HC0 := Aside0.mk hc0
 clear hr0 hc0
 have HB := Aside0.mk (Below.refl w.heap.size w)
 have H : ((some (([] : List Int) : List Int)).bind fun y111 => (if y111.length + l0.length < 17592186044416 then (some (y111 ++ l0)) else (none))) = some r := h
 clear h
 obtain ⟨y111, hy111⟩ : ∃ y_ : List Int, y_ = (([] : List Int)) := ⟨_, rfl⟩
 replace H : (if y111.length + l0.length < 17592186044416 then (some (y111 ++ l0)) else (none)) = some r := by first | (rw [hy111]; with_reducible exact H) | (have H2_ := (Option.bind_some _ _).symm.trans H; rw [hy111]; with_reducible exact H2_) | (have H2_ := (Option.bind_some _ _).symm.trans H; with_reducible exact H2_) | with_reducible exact H | (rw [hy111]; exact H) | exact H
 have Ny111 := Aside0.mk hy111
 clear hy111
 by_cases c2 : y111.length + l0.length < 17592186044416
 ·rw [if_pos c2] at H
  have LMc2 := Aside0.mk c2
  clear c2
  obtain ⟨y114, hy114⟩ : ∃ y_ : List Int, y_ = (y111 ++ l0) := ⟨_, rfl⟩
  replace H : (some y114) = some r := by first | (rw [hy114]; with_reducible exact H) | (have H2_ := (Option.bind_some _ _).symm.trans H; rw [hy114]; with_reducible exact H2_) | (have H2_ := (Option.bind_some _ _).symm.trans H; with_reducible exact H2_) | with_reducible exact H | (rw [hy114]; exact H) | exact H
  have Ny114 := Aside0.mk hy114
  clear hy114
  obtain rfl := Option.some.inj H
  have qeq : ∀ (w : World) (a : Option Addr) (n c n' c' : Nat), (binOp .eql 33 (.slice a n c) (.slice none n' c')).run Try.prog w = .ok (.bool a.isNone) w := fun w a n c n' c' => Lib.run_eql_slice_nil w _ _ a n c n' c' Try.underlying33
  rcases A0 with _ | ad0
  ·have hl0 : l0 = [] := by
    rcases Nat.eq_zero_or_pos l0.length with h | h
    ·exact List.eq_nil_of_length_eq_zero h
    ·obtain ⟨ad, h1, _⟩ := HR0.out.2.2 h
     cases h1
   subst hl0
   have e1 : y114 = [] := by rw [Ny114.out, Ny111.out]; rfl
   subst e1
   have hc0' := HC0.out
   go_enter Try.func55, Try.ntmps55
   go_wp2
   go_ret
   exact ⟨_, rfl, Kd.R_nil _ _ _ _ _, Below.refl _ _⟩
  go_enter Try.func55, Try.ntmps55
  go_wp2_with (first | ((with_reducible refine gate_dst (N := 5) rfl ?_); refine Kd.R_lit (Kd.int .u64) _ 22 ?hg (N := 5) ?hd (xs := ([] : List Int)) (inner := []) (ok := fun _ => True) (okp := fun _ => True) ?hr ?hp (fun _ hk => hk) trivial (Below.refl _ _) (Nat.le_refl _) (by simp) ?_; (case hd => rfl); (case hg => rfl); (case hr => first | (go_simp; done) | (go_simp; rfl)); (case hp => exact (Reps.none _ _)); intro v112 w3 ho4 hb hg_ hnew_; clear hg_ hnew_; (first | rw [← Ny111.out] at ho4 | (simp only [Int.reduceToNat] at ho4; rw [← Ny111.out] at ho4)); have n0_ := Aside0.mk (Kd.R_lower ho4 (below_size (by repeat (first | (with_reducible first | exact HB.out | apply below_alloc | apply pw_below_drewN | apply below_drew1) | exact HB.out)))); have n1_ := Aside0.mk (below_step (by repeat (first | (with_reducible first | exact HB.out | apply below_alloc | apply pw_below_drewN | apply below_drew1) | exact HB.out)) hb); clear HB; have HO113 := n0_; have HB := n1_; clear n0_ n1_; clear hb ho4) | ((with_reducible refine gate_builtin (b := .append) (xs := #[.tmp 5, .tmp 6]) rfl ?_); at_builtin; refine Kd.R_append_rows (Kd.int .u64) (w0 := w) w.heap.size rfl (.tmp 5) (.tmp 6) 33 22 (.int .u64 0) 8 rfl Try.underlying33 info22 rfl (by decide) (by omega) v112 y111 l0 _ _ _ (fun _ => True) (fun _ => False) rfl rfl ?aO ?aR (fun _ _ h => h) (fun _ h => h.elim) ?aF ?aB ?aS ?aL ?_; (case aR => repeat (first | exact (Kd.C_below HR0.out HB.out) | (with_reducible refine Kd.C_alloc ?_ _) | (with_reducible refine Kd.C_drewN ?_ _) | (with_reducible refine Kd.C_drew ?_))); (case aB => exact (by repeat (first | (with_reducible first | exact HB.out | apply below_alloc | apply pw_below_drewN | apply below_drew1) | exact HB.out))); (case aF => exact (fun _ _ => trivial)); (case aO => exact (by (with_reducible repeat (first | apply Kd.R_alloc | apply Kd.R_drewN | apply Kd.R_drew)); exact HO113.out)); (case aS => exact (below_size (by repeat (first | (with_reducible first | exact HB.out | apply below_alloc | apply pw_below_drewN | apply below_drew1) | exact HB.out)))); (case aL => have := LMc2.out; omega); intro v115 w5 ho hb hg hat; rw [← Ny114.out] at ho; have n0_ := Aside0.mk (hb); have n1_ := Aside0.mk (ho); clear HB; clear HO113; have HB := n0_; have HO116 := n1_; clear n0_ n1_; clear ho hb hg hat))
  go_ret
  exact ⟨_, by first | rfl | (simp [errW_none, errW_some] <;> rfl) | (simp [*, errW_none, errW_some] <;> rfl), by (with_reducible repeat (first | apply Kd.R_alloc | apply Kd.R_drewN | apply Kd.R_drew)); exact HO116.out, by repeat (first | (with_reducible first | exact HB.out | apply below_alloc | apply pw_below_drewN | apply below_drew1) | exact HB.out)⟩
 ·rw [if_neg c2] at H
  exact absurd H (by simp)
end Go.Proofs.Ytfdkhkajehopkaa.Mb
namespace Go.Proofs.Ytfdkhkajehopkaa.Mb
open Go.RowKit Go.Proofs.YtfdkhkajehopkaaW.PrintWords Go.Proofs.YtfdkhkajehopkaaW.PrintLast Go.Proofs.YtfdkhkajehopkaaW.PrintMore
set_option linter.unusedVariables false
set_option linter.unusedSimpArgs false
def matrix_own.T5 : Bool × List (List Nat × List Nat) := (true, [([], []), ([], []), ([1], [1]), ([2], [2]), ([3], [3]), ([], []), ([5], [5]), ([6], [6]), ([4, 7, 6], [4, 7]), ([0, 0, 1, 2, 3, 4, 5, 6, 7, 8], [0]), ([9, 0, 1, 2, 3, 4, 5, 6, 7, 8], [9]), ([10, 8, 8, 0, 1, 2, 3, 4, 5, 6, 7, 8], [8, 10])])
def matrix_own.B5 : List Nat := [0, 0, 2, 6, 14, 0, 32, 96, 254, 511, 1023, 2047]
theorem matrix_own.tab5 : rtab .any (opsOf Try.f65 5) = matrix_own.T5 := by kernel_rfl
theorem matrix_own.bits5 : waitsOk matrix_own.T5.2 matrix_own.B5 = true := by kernel_rfl
theorem clone_some {l : List Int} (h : l.length ≤ 4096) : slices_Clone_uint64_uint64.f l = some l := by
 unfold slices_Clone_uint64_uint64.f
 simp only [Option.bind_some, List.length_nil, Nat.zero_add, List.nil_append]
 exact if_pos (by omega)
set_option maxHeartbeats 8000000 in
set_option maxRecDepth 100000 in
theorem matrix_own.calls (p : Int) (A1 : Option Addr) (c1 : Nat) (m : List (List Int)) (w : World) (hr : Kd.C k2 w A1 m.length m) (hc : m.length ≤ c1) (hm : m.length ≤ 4096) (hrow : ∀ row ∈ m, row.length ≤ 4096) :
  Calls Try.prog 65 #[.int .u64 p, .slice A1 m.length c1] w fun e w' => ∃ b vr, e = .returned (.pointer (some ⟨b, 0, none⟩)) ∧ GridAt w w' b p vr m 1 (.slice none 0 0) [] := by
 have HR := Aside0.mk hr
 have HC := Aside0.mk hc
 have HM := Aside0.mk hm
 have HW := Aside0.mk hrow
 clear hr hc hm hrow
 go_enter Try.func65, Try.ntmps65
 go_wp2
 obtain ⟨b, hbe⟩ : ∃ b, b = w.heap.size := ⟨_, rfl⟩
 have hb0 : (w.alloc (.cells #[.int .u64 p, .slice none 0 0, .int .u64 1, .slice none 0 0] 75)).heap[b]? = some (.cells #[.int .u64 p, .slice none 0 0, .int .u64 1, .slice none 0 0] 75 (0, 0)) := by rw [hbe]; exact blk_new _ _
 have hG0 : Aside0 (GridAt w (w.alloc (.cells #[.int .u64 p, .slice none 0 0, .int .u64 1, .slice none 0 0] 75)) b p (.slice none 0 0) (m.take 0) 1 (.slice none 0 0) []) := ⟨⟨hb0, by rw [hbe]; exact Nat.le_refl _, by rw [List.take_zero]; exact Kd.S_nil _ _ _ _ _, Kd.R_nil _ _ _ _ _, below_alloc (Below.refl _ _) _⟩⟩
 try rw [← hbe]
 have HBE := Aside0.mk hbe
 clear hb0 hbe
 go_loopg [13] (m.length + 1) (fun kq v13 w' => ∃ (i : Nat) (vr : Value), v13 = .int .i64 (i : Int) ∧ Aside0 (i ≤ m.length ∧ kq = m.length + 1 - i) ∧ Aside0 (GridAt w w' b p vr (m.take i) 1 (.slice none 0 0) []))
 case atStart => exact ⟨0, _, rfl, ⟨by omega, by omega⟩, hG0⟩
 case round =>
  clear hG0
  obtain ⟨i, vr, rfl, HI, HG⟩ := hrel
  cases gk with
  | zero => exact absurd HI.out.2 (by have := HI.out.1; omega)
  | succ k1 =>
   have hi63 : (i : Int) ≤ 9223372036854775806 := by have := HI.out; have := HM.out; omega
   by_cases hlt : i < m.length
   ·have b1 : decide ((i : Int) < (m.length : Int)) = true := decide_eq_true (by omega)
    have b1' : decide (i < m.length) = true := decide_eq_true hlt
    obtain ⟨ad, A0, c0, e1, hx, hl0, hi0⟩ := at_L1 HR.out (i : Int) (by omega) (by omega)
    have hrl : rd_L1 m (i : Int) = m[i] := by show m.getD i [] = _; rw [List.getD_eq_getElem?_getD, List.getElem?_eq_getElem hlt]; rfl
    rw [hrl] at hx hl0 hi0
    rw [Int.toNat_natCast] at hx
    cases e1
    obtain ⟨row, hrow⟩ : ∃ x_, m[i] = x_ := ⟨_, rfl⟩
    rw [hrow] at hx hl0 hi0
    have HROW : Aside0 (row.length ≤ 4096) := ⟨by rw [← hrow]; exact HW.out _ (List.getElem_mem hlt)⟩
    have ht : m.take (i + 1) = m.take i ++ [row] := by rw [List.take_succ_eq_append_getElem hlt, hrow]
    have HTK := Aside0.mk ht
    have htl : (m.take i).length = i := by rw [List.length_take]; omega
    have HTL := Aside0.mk htl
    replace hx := (HG.out.low.cell (World.block_lt_of_cell? w _ hx)).trans hx
    have HI0 := Aside0.mk hi0
    have HL0 := Aside0.mk hl0
    have hb1 : wr.cell? ⟨b, 1, none⟩ = some vr := (blk_cell HG.out.blk 1).trans rfl
    have g1 : (i < m.length) = True := eq_true hlt
    have HLT := Aside0.mk hlt
    clear hrl hrow ht htl hi0 hl0 hlt
    go_wp2
    refine start_ (n := 12) (S := fun w' => w'.cell? ⟨b, 1, none⟩ = some vr) (ds := [11]) #[false, false, false, false, false, false, false, false, false, false, false, false] (by kernel_rfl) rfl rfl hb1 (fun hHeld => ?_); refine with_tabW matrix_own.tab5 matrix_own.bits5 (fun HT_ HW_ => ?_)
    refine pure_ (i := 0) (N := some 17) (v := ?_) (a' := ?_) #[true, false, false, false, false, false, false, false, false, false, false, false] rfl rfl (any_of HT_.out (by kernel_rfl)) (fun _ _ _ h => h) (Or.inl ⟨by rfl, ?_⟩) ?_ ?_
    rotate_left
    ·intro w'
     go_simp
     (try with_reducible rfl)
    rotate_left
    ·simp only [Act.put, List.setIfInBounds_toArray, List.set_cons_zero, List.set_cons_succ, i64_w, i32_w]
     rfl
    refine pure_ (i := 1) (N := some 18) (v := ?_) (a' := ?_) #[true, true, false, false, false, false, false, false, false, false, false, false] rfl rfl (any_of HT_.out (by kernel_rfl)) (fun _ _ _ h => h) (Or.inl ⟨by rfl, ?_⟩) ?_ ?_
    rotate_left
    ·intro w'
     go_simp
     (try with_reducible rfl)
    rotate_left
    ·simp only [Act.put, List.setIfInBounds_toArray, List.set_cons_zero, List.set_cons_succ, i64_w, i32_w]
     rfl
    refine pure_ (i := 2) (N := some 19) (v := ?_) (a' := ?_) #[true, true, true, false, false, false, false, false, false, false, false, false] rfl rfl (any_of HT_.out (by kernel_rfl)) (fun _ _ _ h => h) (Or.inl ⟨by rfl, ?_⟩) ?_ ?_
    rotate_left
    ·intro w'
     go_simp
     (try with_reducible rfl)
    rotate_left
    ·simp only [Act.put, List.setIfInBounds_toArray, List.set_cons_zero, List.set_cons_succ, i64_w, i32_w]
     rfl
    refine pure_ (i := 3) (N := some 20) (v := ?_) (a' := ?_) #[true, true, true, true, false, false, false, false, false, false, false, false] rfl rfl (any_of HT_.out (by kernel_rfl)) (fun _ _ _ h => h) (Or.inl ⟨by rfl, ?_⟩) ?_ ?_
    rotate_left
    ·intro w'
     go_simp
     (try with_reducible rfl)
    rotate_left
    ·simp only [Act.put, List.setIfInBounds_toArray, List.set_cons_zero, List.set_cons_succ, i64_w, i32_w]
     rfl
    refine pure_ (i := 5) (N := some 22) (v := ?_) (a' := ?_) #[true, true, true, true, false, true, false, false, false, false, false, false] rfl rfl (any_of HT_.out (by kernel_rfl)) (fun _ _ _ h => h) (Or.inl ⟨by rfl, ?_⟩) ?_ ?_
    rotate_left
    ·intro w'
     go_simp
     (try with_reducible rfl)
    rotate_left
    ·simp only [Act.put, List.setIfInBounds_toArray, List.set_cons_zero, List.set_cons_succ, i64_w, i32_w]
     rfl
    refine take_ (i := 4) (N := some 21) (v := ?_) (a' := ?_) #[true, true, true, true, true, true, false, false, false, false, false, false] rfl rfl (take_ofW HT_.out HW_.out (by kernel_rfl)) (fun _ _ _ h => h) (Or.inl ⟨by rfl, ?_⟩) hHeld ?_ ?_
    rotate_left
    ·rintro w' s0
     go_simp
     (try with_reducible rfl)
    rotate_left
    ·simp only [Act.put, List.setIfInBounds_toArray, List.set_cons_zero, List.set_cons_succ, i64_w, i32_w]
     rfl
    refine one_ (i := 6) (N := some 23) #[true, true, true, true, true, true, true, false, false, false, false, false] rfl rfl (one_of HT_.out (by kernel_rfl)) (by decide) (fun K hK => ?_)
    refine goes_ Try.func55 (by kernel_rfl) rfl #[.slice A0 row.length c0] (by rfl) rfl rfl (by (try simp only [List.map_toArray, List.map_cons, List.map_nil]); first | done | rfl) ?_
    with_reducible refine (slices_Clone_uint64_uint64.calls A0 c0 row row _ (Kd.C_below HI0.out (below_drew1 HG.out.low)) HL0.out (clone_some HROW.out)).mono ?_
    rintro e wc ⟨v0, rfl, hR, hb⟩
    refine ⟨_, rfl, ?_⟩
    obtain ⟨A9, c9, e9⟩ := Kd.R_slice hR
    subst e9
    have hbk := (hb.block b (blk_lt HG.out.blk)).trans HG.out.blk
    have hbase := below_size HG.out.low
    have HRR := Aside0.mk (Kd.R_lower hR hbase)
    have HSS := Aside0.mk (Kd.S_elder' (Kd.S_drew HG.out.rws) (Kd.R_base hR) hb)
    have HLOW := Aside0.mk (below_step (below_drew1 HG.out.low) hb)
    have HBK := Aside0.mk hbk
    have hb1' : wc.cell? ⟨b, 1, none⟩ = some vr := (blk_cell hbk 1).trans rfl
    clear hR hb hbk hbase
    refine hK.out _ _ hb1' (fun hHeld => ?_)
    clear hK K
    refine norm_ (a' := ?_) ?_ ?_
    rotate_left
    ·show Act.put _ (some 23) _ = _
     simp only [Act.put, List.setIfInBounds_toArray, List.set_cons_zero, List.set_cons_succ, i64_w, i32_w]
     rfl
    refine one_ (i := 7) (N := some 24) #[true, true, true, true, true, true, true, true, false, false, false, false] rfl rfl (one_of HT_.out (by kernel_rfl)) (by decide) (fun K hK => ?_)
    refine value_ (v := .slice (some ⟨wc.heap.size, 0, none⟩) 1 1) (w1 := wc.alloc (.cells #[.slice A9 row.length c9] 33)) (by rfl) rfl (by first | (go_simp; done) | (go_simp; rfl)) ?_
    refine hK.out _ _ ((blk_cell (blk_alloc HBK.out _) 1).trans rfl) (fun hHeld => ?_)
    clear hK K
    refine norm_ (a' := ?_) ?_ ?_
    rotate_left
    ·show Act.put _ (some 24) _ = _
     simp only [Act.put, List.setIfInBounds_toArray, List.set_cons_zero, List.set_cons_succ, i64_w, i32_w]
     rfl
    refine one_ (i := 8) (N := some 25) #[true, true, true, true, true, true, true, true, true, false, false, false] rfl rfl (one_of HT_.out (by kernel_rfl)) (by decide) (fun K hK => ?_)
    refine Kd.S_append_step k2 (w0 := w) w.heap.size (by rfl) (.tmp 21) (.tmp 24) 23 33 (.slice none 0 0) 24 rfl Try.underlying23 info33 rfl (by decide) (by omega) vr (m.take i) row [.slice A9 row.length c9] (fun _ => True) (fun k_ => some k_ = (.slice A9 row.length c9 : Value).ownBlock) rfl rfl ?aP ?aK (fun _ _ => trivial) ?aO HLOW.out (below_size HLOW.out) ?aL ?_
    case aP => exact ⟨_, rfl, fun k hk => hk.symm, HRR.out.2⟩
    case aK => exact fun k_ hk_ => (Kd.R_mono (ok' := fun k_ => True ∧ some k_ ≠ (vr : Value).ownBlock) (Kd.R_apart' HRR.out (Kd.S_typed HSS.out) (by decide)) (fun k_ hk => ⟨trivial, hk.2⟩)).1 k_ hk_.symm
    case aO => exact Kd.S_mono HSS.out (fun k_ hk => ⟨trivial, fun e_ => hk.2 e_⟩)
    case aL => rw [HTL.out]; have := HLT.out; have := HM.out; omega
    intro v1 w1 ho hb2 hg hat
    obtain ⟨A8, c8, e8⟩ := Kd.S_slice ho
    rw [show (m.take i ++ [row]).length = i + 1 from by rw [List.length_append, HTL.out]; rfl] at e8
    subst e8
    have hbk := (KeepT.grown (ts := [33]) (KeepT.refl _ wc) hg (fun k hk => own_typed (Kd.R_own (Kd.S_R HSS.out)).choose_spec k hk) (by decide)).2 b 75 _ HBK.out (by decide)
    rw [← HTK.out] at ho
    have HO := Aside0.mk ho
    have HB2 := Aside0.mk hb2
    have HBK2 := Aside0.mk hbk
    have hb1'' : w1.cell? ⟨b, 1, none⟩ = some vr := (blk_cell hbk 1).trans rfl
    have hf1'' := blk_frozen hbk 1
    clear ho hb2 hg hat hbk
    refine hK.out _ _ hb1'' (fun hHeld => ?_)
    clear hK K
    refine norm_ (a' := ?_) ?_ ?_
    rotate_left
    ·show Act.put _ (some 25) _ = _
     simp only [Act.put, List.setIfInBounds_toArray, List.set_cons_zero, List.set_cons_succ, i64_w, i32_w]
     rfl
    refine pure_ (i := 9) (N := some 26) (v := ?_) (a' := ?_) #[true, true, true, true, true, true, true, true, true, true, false, false] rfl rfl (any_of HT_.out (by kernel_rfl)) (fun _ _ _ h => h) (Or.inl ⟨by rfl, ?_⟩) ?_ ?_
    rotate_left
    ·intro w'
     go_simp
     (try with_reducible rfl)
    rotate_left
    ·simp only [Act.put, List.setIfInBounds_toArray, List.set_cons_zero, List.set_cons_succ, i64_w, i32_w]
     rfl
    refine pure_ (i := 10) (N := some 27) (v := ?_) (a' := ?_) #[true, true, true, true, true, true, true, true, true, true, true, false] rfl rfl (any_of HT_.out (by kernel_rfl)) (fun _ _ _ h => h) (Or.inl ⟨by rfl, ?_⟩) ?_ ?_
    rotate_left
    ·intro w'
     go_simp
     (try with_reducible rfl)
    rotate_left
    ·simp only [Act.put, List.setIfInBounds_toArray, List.set_cons_zero, List.set_cons_succ, i64_w, i32_w]
     rfl
    refine last_ (i := 11) (N := none) #[true, true, true, true, true, true, true, true, true, true, true, true] rfl rfl (one_of HT_.out (by kernel_rfl)) (by decide) (fun K hK => ?_)
    refine skip_ (w1 := ?_) (by rfl) rfl ?_ ?_
    rotate_left
    ·go_simp
     (try rfl)
    refine hK.out _ _ ?_
    clear hK K
    refine done_ (done_of HT_.out (by kernel_rfl)) ?_
    try go_wp2
    go_roundg k1
    case measure => omega
    case rel => exact ⟨i + 1, _, by go_num, ⟨HLT.out, by have := HI.out; omega⟩, ⟨⟨blk_put (cs := #[.int .u64 p, vr, .int .u64 1, .slice none 0 0]) HBK2.out 1 _ rfl, HG.out.gb, S_keepT HO.out (KeepT.set (ts := [75]) (KeepT.refl _ _) HBK2.out (by decide) 1 _) (by decide), Kd.R_nil _ _ _ _ _, below_set HB2.out HG.out.gb⟩⟩⟩
   ·have hin : i = m.length := by have := HI.out.1; omega
    subst hin
    have b1 : decide ((m.length : Int) < (m.length : Int)) = false := decide_eq_false (by omega)
    have b1' : decide (m.length < m.length) = false := decide_eq_false (by omega)
    have hg := HG.out
    rw [List.take_length] at hg
    have HG2 := Aside0.mk hg
    clear hg hlt
    go_wp2
    go_ret
    exact ⟨_, _, rfl, HG2.out⟩
end Go.Proofs.Ytfdkhkajehopkaa.Mb
namespace Go.Proofs.Ytfdkhkajehopkaa.Mb
open Go.RowKit Go.Proofs.YtfdkhkajehopkaaW.PrintWords Go.Proofs.YtfdkhkajehopkaaW.PrintLast Go.Proofs.YtfdkhkajehopkaaW.PrintMore
set_option linter.unusedVariables false
set_option linter.unusedSimpArgs false
def badLen (n : Nat) (r : List Int) : Bool := r.length != n
def badNum (k : Nat) (p : Int) (r : List Int) : Bool := (field_Below.f k p r).getD 0 != 0
def matrix_Check.f (k : Nat) (a0 : Int) (l1 : List (List Int)) : Option Int := (field_Is.f k a0).bind fun t => if t = true then (if l1.length < 1 ∨ 64 < l1.length ∨ (rd_L1 l1 0).length < 1 ∨ 64 < (rd_L1 l1 0).length then some 3 else if l1.any (badLen (rd_L1 l1 0).length) = true then some 4 else if l1.all (fun r => (field_Below.f k a0 r).isSome) = true then (if l1.any (badNum k a0) = true then some 2 else some 0) else none) else some 2
theorem matrix_Check.mono : ∀ a0 a1 k, LeO (matrix_Check.f k a0 a1) (matrix_Check.f (k + 1) a0 a1) := by
 intro a0 a1 k r h
 unfold matrix_Check.f at h ⊢
 rw [Option.bind_eq_some_iff] at h ⊢
 obtain ⟨t, h1, h2⟩ := h
 refine ⟨t, field_Is.mono a0 k _ h1, ?_⟩
 by_cases c1 : t = true
 ·rw [if_pos c1] at h2 ⊢
  by_cases c2 : a1.length < 1 ∨ 64 < a1.length ∨ (rd_L1 a1 0).length < 1 ∨ 64 < (rd_L1 a1 0).length
  ·rw [if_pos c2] at h2 ⊢; exact h2
  ·rw [if_neg c2] at h2 ⊢
   by_cases c3 : a1.any (badLen (rd_L1 a1 0).length) = true
   ·rw [if_pos c3] at h2 ⊢; exact h2
   ·rw [if_neg c3] at h2 ⊢
    by_cases c4 : a1.all (fun r => (field_Below.f k a0 r).isSome) = true
    ·rw [if_pos c4] at h2
     have hs : ∀ row ∈ a1, field_Below.f (k + 1) a0 row = field_Below.f k a0 row := fun row hrow => by
      have := List.all_eq_true.1 c4 row hrow
      obtain ⟨x, hx⟩ := Option.isSome_iff_exists.1 this
      rw [hx, field_Below.mono a0 row k _ hx]
     have c4' : a1.all (fun r => (field_Below.f (k + 1) a0 r).isSome) = true := by
      rw [List.all_eq_true] at c4 ⊢
      intro row hrow
      rw [hs row hrow]; exact c4 row hrow
     have e : a1.any (badNum (k + 1) a0) = a1.any (badNum k a0) := by
      rw [Bool.eq_iff_iff, List.any_eq_true, List.any_eq_true]
      constructor <;> rintro ⟨x, hx, hb⟩ <;> refine ⟨x, hx, ?_⟩ <;> unfold badNum at hb ⊢
      ·rw [← hs x hx]; exact hb
      ·rw [hs x hx]; exact hb
     rw [if_pos c4', e]; exact h2
    ·rw [if_neg c4] at h2; cases h2
 ·rw [if_neg c1] at h2 ⊢; exact h2

set_option maxHeartbeats 8000000 in
set_option maxRecDepth 100000 in
theorem matrix_Check_1.calls (A : Option Addr) (c : Nat) (row : List Int) (A1 : Option Addr) (c1 : Nat) (l1 : List (List Int)) (gm : Nat) (w : World) (hg : w.cell? ⟨gm, 0, none⟩ = some (.slice A1 l1.length c1)) (hr1 : Kd.C k2 w A1 l1.length l1) (hn : 0 < l1.length) :
  Calls Try.prog 48 #[.slice A row.length c, .pointer (some ⟨gm, 0, none⟩)] w fun e w' => e = .returned (.bool (badLen (rd_L1 l1 0).length row)) ∧ Below w.heap.size w w' := by
 obtain ⟨ad, A0, c0, e1, hx, hl0, hi0⟩ := at_L1 hr1 0 (by omega) (by omega)
 cases e1
 have g1 : (0 < l1.length) = True := eq_true hn
 have hx' : w.cell? ad = some (.slice A0 (rd_L1 l1 0).length c0) := by have h := hx; rwa [show (0 : Int).toNat = 0 from rfl, Addr.add_zero'] at h
 generalize hL : (rd_L1 l1 0).length = L at *
 have hfin : badLen L row = !((row.length : Int) == (L : Int)) := by
  unfold badLen
  by_cases h : row.length = L
  ·subst h; simp
  ·have h2 : ¬ (row.length : Int) = (L : Int) := by omega
   have e3 : ((row.length : Int) == (L : Int)) = false := beq_eq_false_iff_ne.mpr h2
   rw [e3, bne_iff_ne.mpr h]; rfl
 have HF := Aside0.mk hfin
 clear hfin hi0 hl0 hr1 hx hn hL
 go_enter Try.func48, Try.ntmps48
 go_wp2
 go_ret
 exact ⟨by rw [HF.out]; simp [bne], Below.refl _ _⟩

set_option maxHeartbeats 8000000 in
set_option maxRecDepth 100000 in
theorem matrix_Check_2.calls (k : Nat) (p : Int) (A : Option Addr) (c : Nat) (row : List Int) (gp : Nat) (w : World) (hg : w.cell? ⟨gp, 0, none⟩ = some (.int .u64 p)) (hr : Kd.C (Kd.int .u64) w A row.length row) (hc : row.length ≤ c) (hs : (field_Below.f k p row).isSome = true) :
  Calls Try.prog 49 #[.slice A row.length c, .pointer (some ⟨gp, 0, none⟩)] w fun e w' => e = .returned (.bool (badNum k p row)) ∧ Below w.heap.size w w' := by
 obtain ⟨t, ht⟩ := Option.isSome_iff_exists.1 hs
 have HT := Aside0.mk ht
 have HC := Aside0.mk hr
 have HCC := Aside0.mk hc
 have hfin : badNum k p row = (t != 0) := by unfold badNum; rw [ht]; rfl
 have HF := Aside0.mk hfin
 clear hfin ht hs hr hc
 go_enter Try.func49, Try.ntmps49
 go_wp2_with (go_at_call 50; refine (field_Below.calls k p A c row t _ HC.out HCC.out HT.out).mono ?_; rintro e w1 ⟨rfl, ⟨nd, rfl⟩⟩)
 go_ret
 exact ⟨by rw [HF.out]; rfl, pw_below_drewN (Below.refl _ _) nd⟩

set_option maxHeartbeats 8000000 in
set_option maxRecDepth 100000 in
theorem slices_IndexFunc_len.calls (gm : Nat) (A1 : Option Addr) (c1 : Nat) (l1 : List (List Int)) (w : World) (hr1 : Kd.C k2 w A1 l1.length l1) (hm : l1.length ≤ 4096) (hg : w.cell? ⟨gm, 0, none⟩ = some (.slice A1 l1.length c1)) (hn : 0 < l1.length) :
  Calls Try.prog 73 #[.slice A1 l1.length c1, .func (.func 48) #[] #[.pointer (some ⟨gm, 0, none⟩)]] w fun e w' => (∃ z : Int, e = .returned (.int .i64 z) ∧ decide (0 ≤ z) = l1.any (badLen (rd_L1 l1 0).length)) ∧ Below w.heap.size w w' := by
 have HR1 := Aside0.mk hr1
 have HM := Aside0.mk hm
 have HB := Aside0.mk (Below.refl w.heap.size w)
 have HG := Aside0.mk hg
 have HNN := Aside0.mk hn
 clear hg hn
 clear hr1
 go_enter Try.func73, Try.ntmps73
 go_wp2
 go_loopg [8] (l1.length + 1) (fun kq v8 w' => ∃ i : Nat, v8 = .int .i64 (i : Int) ∧ Aside0 (i ≤ l1.length ∧ kq = l1.length + 1 - i) ∧ Aside0 ((l1.take i).any (badLen (rd_L1 l1 0).length) = false) ∧ Aside0 (Below w.heap.size w w'))
 case atStart => exact ⟨0, rfl, ⟨by omega, by omega⟩, ⟨by simp⟩, HB⟩
 case round =>
  clear HB
  obtain ⟨i, rfl, HI, HN, HB⟩ := hrel
  cases gk with
  | zero => exact absurd HI.out.2 (by have := HI.out.1; omega)
  | succ k1 =>
   by_cases hlt : i < l1.length
   ·have b1 : decide ((i : Int) < (l1.length : Int)) = true := decide_eq_true (by omega)
    have b1' : decide (i < l1.length) = true := decide_eq_true hlt
    obtain ⟨ad, A0, c0, e1, hx, hl0, hi0⟩ := at_L1 HR1.out (i : Int) (by omega) (by omega)
    have hrl : rd_L1 l1 (i : Int) = l1[i] := by show l1.getD i [] = _; rw [List.getD_eq_getElem?_getD, List.getElem?_eq_getElem hlt]; rfl
    rw [hrl] at hx hl0 hi0
    rw [Int.toNat_natCast] at hx
    cases e1
    have hmem : l1[i] ∈ l1 := List.getElem_mem hlt
    have ht : l1.take (i + 1) = l1.take i ++ [l1[i]] := by rw [List.take_succ_eq_append_getElem hlt]
    generalize l1[i] = row at hx hl0 hi0 hmem ht
    replace hx := (HB.out.cell (World.block_lt_of_cell? w _ hx)).trans hx
    have HI0 := Aside0.mk (Kd.C_below hi0 HB.out)
    have HL0 := Aside0.mk hl0
    have HMEM := Aside0.mk hmem
    have HT := Aside0.mk ht
    have p1 : (0 ≤ (i : Int)) = True := eq_true (by omega)
    have p2 : ((i : Int) < (l1.length : Int)) = True := eq_true (by omega)
    have g1 : (i < l1.length) = True := eq_true hlt
    have hi63 : (i : Int) ≤ 9223372036854775806 := by have := HM.out; omega
    have HLT := Aside0.mk hlt
    clear ht hi0 hl0 hmem hlt hrl
    by_cases cb : badLen (rd_L1 l1 0).length row = true
    ·have CB := Aside0.mk cb
     clear cb
     have hfin : l1.any (badLen (rd_L1 l1 0).length) = true := by
      rw [List.any_eq_true]
      exact ⟨row, HMEM.out, CB.out⟩
     have HF := Aside0.mk hfin
     clear hfin
     go_wp2_with (go_at_call 48; refine (matrix_Check_1.calls A0 c0 row (some ad) c1 l1 gm _ ((HB.out.cell (World.block_lt_of_cell? w _ HG.out)).trans HG.out) (Kd.C_below HR1.out HB.out) HNN.out).mono ?_; rintro e w1 ⟨rfl, hb⟩; have n0_ := Aside0.mk (below_step HB.out hb); rw [CB.out])
     go_ret
     exact ⟨⟨_, rfl, by rw [HF.out]; exact decide_eq_true (by omega)⟩, n0_.out⟩
    ·have cb := Bool.eq_false_iff.2 cb
     have CB := Aside0.mk cb
     clear cb
     go_wp2_with (go_at_call 48; refine (matrix_Check_1.calls A0 c0 row (some ad) c1 l1 gm _ ((HB.out.cell (World.block_lt_of_cell? w _ HG.out)).trans HG.out) (Kd.C_below HR1.out HB.out) HNN.out).mono ?_; rintro e w1 ⟨rfl, hb⟩; have n0_ := Aside0.mk (below_step HB.out hb); rw [CB.out])
     have HN2 : Aside0 ((l1.take (i + 1)).any (badLen (rd_L1 l1 0).length) = false) := ⟨by rw [HT.out, List.any_append, HN.out]; simp [CB.out]⟩
     go_roundg k1
     case measure => omega
     case rel => exact ⟨i + 1, by go_num, ⟨HLT.out, by have := HI.out; omega⟩, HN2, n0_⟩
   ·have b1 : decide ((i : Int) < (l1.length : Int)) = false := decide_eq_false (by omega)
    have b1' : decide (i < l1.length) = false := decide_eq_false hlt
    have hfin : l1.any (badLen (rd_L1 l1 0).length) = false := by
     have := HN.out
     rwa [List.take_of_length_le (by omega)] at this
    have HF := Aside0.mk hfin
    clear hfin
    go_wp2
    go_ret
    exact ⟨⟨-1, rfl, by rw [HF.out]; rfl⟩, HB.out⟩

set_option maxHeartbeats 8000000 in
set_option maxRecDepth 100000 in
theorem slices_ContainsFunc_len.calls (gm : Nat) (A1 : Option Addr) (c1 : Nat) (l1 : List (List Int)) (w : World) (hr1 : Kd.C k2 w A1 l1.length l1) (hm : l1.length ≤ 4096) (hg : w.cell? ⟨gm, 0, none⟩ = some (.slice A1 l1.length c1)) (hn : 0 < l1.length) :
  Calls Try.prog 47 #[.slice A1 l1.length c1, .func (.func 48) #[] #[.pointer (some ⟨gm, 0, none⟩)]] w fun e w' => e = .returned (.bool (l1.any (badLen (rd_L1 l1 0).length))) ∧ Below w.heap.size w w' := by
 have HC := Aside0.mk (slices_IndexFunc_len.calls gm A1 c1 l1 w hr1 hm hg hn)
 clear hr1 hm
 go_enter Try.func47, Try.ntmps47
 go_wp2_with (go_at_call 73; refine HC.out.mono ?_; rintro e w1 ⟨⟨z, rfl, hz⟩, hb⟩; have HZ := Aside0.mk hz; have HB := Aside0.mk hb; clear hz hb)
 go_ret
 exact ⟨by rw [← HZ.out]; rfl, HB.out⟩

set_option maxHeartbeats 8000000 in
set_option maxRecDepth 100000 in
theorem slices_IndexFunc_num.calls (k : Nat) (p : Int) (gp : Nat) (A1 : Option Addr) (c1 : Nat) (l1 : List (List Int)) (w : World) (hr1 : Kd.C k2 w A1 l1.length l1) (hm : l1.length ≤ 4096) (hg : w.cell? ⟨gp, 0, none⟩ = some (.int .u64 p)) (hs : ∀ r ∈ l1, (field_Below.f k p r).isSome = true) :
  Calls Try.prog 73 #[.slice A1 l1.length c1, .func (.func 49) #[] #[.pointer (some ⟨gp, 0, none⟩)]] w fun e w' => (∃ z : Int, e = .returned (.int .i64 z) ∧ decide (0 ≤ z) = l1.any (badNum k p)) ∧ Below w.heap.size w w' := by
 have HR1 := Aside0.mk hr1
 have HM := Aside0.mk hm
 have HB := Aside0.mk (Below.refl w.heap.size w)
 have HG := Aside0.mk hg
 have HS := Aside0.mk hs
 clear hg hs
 clear hr1
 go_enter Try.func73, Try.ntmps73
 go_wp2
 go_loopg [8] (l1.length + 1) (fun kq v8 w' => ∃ i : Nat, v8 = .int .i64 (i : Int) ∧ Aside0 (i ≤ l1.length ∧ kq = l1.length + 1 - i) ∧ Aside0 ((l1.take i).any (badNum k p) = false) ∧ Aside0 (Below w.heap.size w w'))
 case atStart => exact ⟨0, rfl, ⟨by omega, by omega⟩, ⟨by simp⟩, HB⟩
 case round =>
  clear HB
  obtain ⟨i, rfl, HI, HN, HB⟩ := hrel
  cases gk with
  | zero => exact absurd HI.out.2 (by have := HI.out.1; omega)
  | succ k1 =>
   by_cases hlt : i < l1.length
   ·have b1 : decide ((i : Int) < (l1.length : Int)) = true := decide_eq_true (by omega)
    have b1' : decide (i < l1.length) = true := decide_eq_true hlt
    obtain ⟨ad, A0, c0, e1, hx, hl0, hi0⟩ := at_L1 HR1.out (i : Int) (by omega) (by omega)
    have hrl : rd_L1 l1 (i : Int) = l1[i] := by show l1.getD i [] = _; rw [List.getD_eq_getElem?_getD, List.getElem?_eq_getElem hlt]; rfl
    rw [hrl] at hx hl0 hi0
    rw [Int.toNat_natCast] at hx
    cases e1
    have hmem : l1[i] ∈ l1 := List.getElem_mem hlt
    have ht : l1.take (i + 1) = l1.take i ++ [l1[i]] := by rw [List.take_succ_eq_append_getElem hlt]
    generalize l1[i] = row at hx hl0 hi0 hmem ht
    replace hx := (HB.out.cell (World.block_lt_of_cell? w _ hx)).trans hx
    have HI0 := Aside0.mk (Kd.C_below hi0 HB.out)
    have HL0 := Aside0.mk hl0
    have HMEM := Aside0.mk hmem
    have HT := Aside0.mk ht
    have p1 : (0 ≤ (i : Int)) = True := eq_true (by omega)
    have p2 : ((i : Int) < (l1.length : Int)) = True := eq_true (by omega)
    have g1 : (i < l1.length) = True := eq_true hlt
    have hi63 : (i : Int) ≤ 9223372036854775806 := by have := HM.out; omega
    have HLT := Aside0.mk hlt
    clear ht hi0 hl0 hmem hlt hrl
    by_cases cb : badNum k p row = true
    ·have CB := Aside0.mk cb
     clear cb
     have hfin : l1.any (badNum k p) = true := by
      rw [List.any_eq_true]
      exact ⟨row, HMEM.out, CB.out⟩
     have HF := Aside0.mk hfin
     clear hfin
     go_wp2_with (go_at_call 49; refine (matrix_Check_2.calls k p A0 c0 row gp _ ((HB.out.cell (World.block_lt_of_cell? w _ HG.out)).trans HG.out) HI0.out HL0.out (HS.out row HMEM.out)).mono ?_; rintro e w1 ⟨rfl, hb⟩; have n0_ := Aside0.mk (below_step HB.out hb); rw [CB.out])
     go_ret
     exact ⟨⟨_, rfl, by rw [HF.out]; exact decide_eq_true (by omega)⟩, n0_.out⟩
    ·have cb := Bool.eq_false_iff.2 cb
     have CB := Aside0.mk cb
     clear cb
     go_wp2_with (go_at_call 49; refine (matrix_Check_2.calls k p A0 c0 row gp _ ((HB.out.cell (World.block_lt_of_cell? w _ HG.out)).trans HG.out) HI0.out HL0.out (HS.out row HMEM.out)).mono ?_; rintro e w1 ⟨rfl, hb⟩; have n0_ := Aside0.mk (below_step HB.out hb); rw [CB.out])
     have HN2 : Aside0 ((l1.take (i + 1)).any (badNum k p) = false) := ⟨by rw [HT.out, List.any_append, HN.out]; simp [CB.out]⟩
     go_roundg k1
     case measure => omega
     case rel => exact ⟨i + 1, by go_num, ⟨HLT.out, by have := HI.out; omega⟩, HN2, n0_⟩
   ·have b1 : decide ((i : Int) < (l1.length : Int)) = false := decide_eq_false (by omega)
    have b1' : decide (i < l1.length) = false := decide_eq_false hlt
    have hfin : l1.any (badNum k p) = false := by
     have := HN.out
     rwa [List.take_of_length_le (by omega)] at this
    have HF := Aside0.mk hfin
    clear hfin
    go_wp2
    go_ret
    exact ⟨⟨-1, rfl, by rw [HF.out]; rfl⟩, HB.out⟩

set_option maxHeartbeats 8000000 in
set_option maxRecDepth 100000 in
theorem slices_ContainsFunc_num.calls (k : Nat) (p : Int) (gp : Nat) (A1 : Option Addr) (c1 : Nat) (l1 : List (List Int)) (w : World) (hr1 : Kd.C k2 w A1 l1.length l1) (hm : l1.length ≤ 4096) (hg : w.cell? ⟨gp, 0, none⟩ = some (.int .u64 p)) (hs : ∀ r ∈ l1, (field_Below.f k p r).isSome = true) :
  Calls Try.prog 47 #[.slice A1 l1.length c1, .func (.func 49) #[] #[.pointer (some ⟨gp, 0, none⟩)]] w fun e w' => e = .returned (.bool (l1.any (badNum k p))) ∧ Below w.heap.size w w' := by
 have HC := Aside0.mk (slices_IndexFunc_num.calls k p gp A1 c1 l1 w hr1 hm hg hs)
 clear hr1 hm
 go_enter Try.func47, Try.ntmps47
 go_wp2_with (go_at_call 73; refine HC.out.mono ?_; rintro e w1 ⟨⟨z, rfl, hz⟩, hb⟩; have HZ := Aside0.mk hz; have HB := Aside0.mk hb; clear hz hb)
 go_ret
 exact ⟨by rw [← HZ.out]; rfl, HB.out⟩
end Go.Proofs.Ytfdkhkajehopkaa.Mb
namespace Go.Proofs.Ytfdkhkajehopkaa.Mb
open Go.RowKit Go.Proofs.YtfdkhkajehopkaaW.PrintWords Go.Proofs.YtfdkhkajehopkaaW.PrintLast Go.Proofs.YtfdkhkajehopkaaW.PrintMore
set_option linter.unusedVariables false
set_option linter.unusedSimpArgs false

set_option maxHeartbeats 8000000 in
set_option maxRecDepth 100000 in
theorem matrix_Check.calls (k : Nat) (a0 : Int) (A1 : Option Addr) (c1 : Nat) (l1 : List (List Int)) (r : Int) (w : World) (hr1 : Kd.C k2 w A1 l1.length l1) (hc1 : l1.length ≤ c1) (h : matrix_Check.f k a0 l1 = some r) :
  Calls Try.prog 14 #[.int .u64 a0, .slice A1 l1.length c1] w fun e w' => e = .returned (.int .i64 r) ∧ Below w.heap.size w w' := by
 have hmf : ∀ (fn : Fn) (first cap : Array Value) (w : World), (Instr.makeFunc fn first cap).run Try.prog w = .ok (.func fn first cap) w := fun _ _ _ _ => rfl
 have HR1 := Aside0.mk hr1
 unfold matrix_Check.f at h
 rw [Option.bind_eq_some_iff] at h
 obtain ⟨t, ht, H⟩ := h
 have HT := Aside0.mk ht
 clear hr1 hc1 ht
 by_cases q1 : t = true
 ·rw [if_pos q1] at H
  subst q1
  by_cases z1 : l1.length < 1
  ·rw [if_pos (.inl z1)] at H
   obtain rfl := Option.some.inj H
   have b1 : decide ((l1.length : Int) < 1) = true := decide_eq_true (by omega)
   have b1' : decide (l1.length < 1) = true := decide_eq_true z1
   clear H z1
   go_enter Try.func14, Try.ntmps14
   go_wp2_with (first | (go_at_call 46; refine (field_Is.calls k a0 _ _ HT.out).mono ?_; rintro e w1 ⟨rfl, ⟨nd, rfl⟩⟩))
   go_ret
   exact ⟨rfl, (by repeat (first | (with_reducible first | exact Below.refl _ _ | apply below_alloc | apply pw_below_drewN | apply below_drew1) | exact Below.refl _ _))⟩
  ·have hn : 0 < l1.length := by omega
   have b1 : decide ((l1.length : Int) < 1) = false := decide_eq_false (by omega)
   have b1' : decide (l1.length < 1) = false := decide_eq_false z1
   by_cases z2 : 64 < l1.length
   ·rw [if_pos (.inr (.inl z2))] at H
    obtain rfl := Option.some.inj H
    have b2 : decide (64 < (l1.length : Int)) = true := decide_eq_true (by omega)
    have b2' : decide (64 < l1.length) = true := decide_eq_true z2
    clear H z1 z2
    go_enter Try.func14, Try.ntmps14
    go_wp2_with (first | (go_at_call 46; refine (field_Is.calls k a0 _ _ HT.out).mono ?_; rintro e w1 ⟨rfl, ⟨nd, rfl⟩⟩))
    go_ret
    exact ⟨rfl, (by repeat (first | (with_reducible first | exact Below.refl _ _ | apply below_alloc | apply pw_below_drewN | apply below_drew1) | exact Below.refl _ _))⟩
   ·have b2 : decide (64 < (l1.length : Int)) = false := decide_eq_false (by omega)
    have b2' : decide (64 < l1.length) = false := decide_eq_false z2
    have HM : Aside0 (l1.length ≤ 4096) := ⟨by omega⟩
    have HN := Aside0.mk hn
    obtain ⟨ad, A0, c0, e1, hx, hl0, hi0⟩ := at_L1 HR1.out 0 (by omega) (by omega)
    have hx' : w.cell? ad = some (.slice A0 (rd_L1 l1 0).length c0) := by have h := hx; rwa [show (0 : Int).toNat = 0 from rfl, Addr.add_zero'] at h
    have g1 : (0 < l1.length) = True := eq_true hn
    subst e1
    have hadl : ad.block < w.heap.size := World.block_lt_of_cell? w _ hx'
    have hs0 : ∀ (u v : Obj) (n : Nat), (((w.alloc u).alloc v).drewN n).cell? ad = some (.slice A0 (rd_L1 l1 0).length c0) := fun u v n => ((pw_below_drewN (below_alloc (below_alloc (Below.refl w.heap.size w) u) v) n).cell hadl).trans hx'
    clear hx hl0 hi0 hn z1 z2 hadl
    obtain ⟨L, hL⟩ : ∃ L, (rd_L1 l1 0).length = L := ⟨_, rfl⟩
    simp only [hL] at hx' hs0 H
    have HL := Aside0.mk hL
    clear hL
    by_cases z3 : L < 1
    ·rw [if_pos (.inr (.inr (.inl z3)))] at H
     obtain rfl := Option.some.inj H
     have b3 : decide ((L : Int) < 1) = true := decide_eq_true (by omega)
     have b3' : decide (L < 1) = true := decide_eq_true z3
     clear H z3
     go_enter Try.func14, Try.ntmps14
     go_wp2_with (first | (go_at_call 46; refine (field_Is.calls k a0 _ _ HT.out).mono ?_; rintro e w1 ⟨rfl, ⟨nd, rfl⟩⟩))
     go_ret
     exact ⟨rfl, (by repeat (first | (with_reducible first | exact Below.refl _ _ | apply below_alloc | apply pw_below_drewN | apply below_drew1) | exact Below.refl _ _))⟩
    ·have b3 : decide ((L : Int) < 1) = false := decide_eq_false (by omega)
     have b3' : decide (L < 1) = false := decide_eq_false z3
     by_cases z4 : 64 < L
     ·rw [if_pos (.inr (.inr (.inr z4)))] at H
      obtain rfl := Option.some.inj H
      have b4 : decide (64 < (L : Int)) = true := decide_eq_true (by omega)
      have b4' : decide (64 < L) = true := decide_eq_true z4
      clear H z3 z4
      go_enter Try.func14, Try.ntmps14
      go_wp2_with (first | (go_at_call 46; refine (field_Is.calls k a0 _ _ HT.out).mono ?_; rintro e w1 ⟨rfl, ⟨nd, rfl⟩⟩))
      go_ret
      exact ⟨rfl, (by repeat (first | (with_reducible first | exact Below.refl _ _ | apply below_alloc | apply pw_below_drewN | apply below_drew1) | exact Below.refl _ _))⟩
     ·rw [if_neg (by rintro (h | h | h | h); exact of_decide_eq_false b1' h; exact of_decide_eq_false b2' h; exact z3 h; exact z4 h)] at H
      have b4 : decide (64 < (L : Int)) = false := decide_eq_false (by omega)
      have b4' : decide (64 < L) = false := decide_eq_false z4
      clear z3 z4
      by_cases z5 : l1.any (badLen L) = true
      ·rw [if_pos z5] at H
       obtain rfl := Option.some.inj H
       have B1 : Aside0 (l1.any (badLen (rd_L1 l1 0).length) = true) := ⟨by rw [HL.out]; exact z5⟩
       clear H z5
       go_enter Try.func14, Try.ntmps14
       go_wp2_with (first | (go_at_call 46; refine (field_Is.calls k a0 _ _ HT.out).mono ?_; rintro e w1 ⟨rfl, ⟨nd, rfl⟩⟩) | (go_at_call 47; refine (slices_ContainsFunc_len.calls (w.heap.size + 1) (some ad) c1 l1 (((w.alloc (.cells #[.int .u64 a0] 22)).alloc (.cells #[.slice (some ad) l1.length c1] 23)).drewN nd) (Kd.C_drewN (Kd.C_alloc (Kd.C_alloc HR1.out _) _) nd) HM.out (by simp) HN.out).mono ?_; rintro e w2 ⟨rfl, hb⟩; have HB2 := Aside0.mk (below_step (w := w) (pw_below_drewN (below_alloc (below_alloc (Below.refl _ _) _) _) nd) hb); have HC2 := Aside0.mk (Kd.C_below (Kd.C_drewN (Kd.C_alloc (Kd.C_alloc HR1.out _) _) nd) hb); have hp2 := (hb.cell (p := ⟨w.heap.size, 0, none⟩) (by simp <;> omega)).trans (show _ = some (.int .u64 a0) from by simp); have hm2 := (hb.cell (p := ⟨w.heap.size + 1, 0, none⟩) (by simp)).trans (show _ = some (.slice (some ad) l1.length c1) from by simp); clear hb; rw [B1.out]))
       go_ret
       exact ⟨rfl, HB2.out⟩
      ·rw [if_neg z5] at H
       have B1 : Aside0 (l1.any (badLen (rd_L1 l1 0).length) = false) := ⟨by rw [HL.out]; exact Bool.eq_false_iff.2 z5⟩
       clear z5
       by_cases z6 : l1.all (fun r => (field_Below.f k a0 r).isSome) = true
       ·rw [if_pos z6] at H
        have HS : Aside0 (∀ r ∈ l1, (field_Below.f k a0 r).isSome = true) := ⟨fun r hr => List.all_eq_true.1 z6 r hr⟩
        clear z6
        by_cases z7 : l1.any (badNum k a0) = true
        ·rw [if_pos z7] at H
         obtain rfl := Option.some.inj H
         have B2 := Aside0.mk z7
         clear H z7
         go_enter Try.func14, Try.ntmps14
         go_wp2_with (first | (go_at_call 46; refine (field_Is.calls k a0 _ _ HT.out).mono ?_; rintro e w1 ⟨rfl, ⟨nd, rfl⟩⟩) | (go_at_call 47; refine (slices_ContainsFunc_num.calls k a0 w.heap.size (some ad) c1 l1 w2 HC2.out HM.out hp2 HS.out).mono ?_; rintro e w3 ⟨rfl, hb⟩; have HB3 := Aside0.mk (below_step HB2.out hb); clear hb; rw [B2.out]) | (go_at_call 47; refine (slices_ContainsFunc_len.calls (w.heap.size + 1) (some ad) c1 l1 (((w.alloc (.cells #[.int .u64 a0] 22)).alloc (.cells #[.slice (some ad) l1.length c1] 23)).drewN nd) (Kd.C_drewN (Kd.C_alloc (Kd.C_alloc HR1.out _) _) nd) HM.out (by simp) HN.out).mono ?_; rintro e w2 ⟨rfl, hb⟩; have HB2 := Aside0.mk (below_step (w := w) (pw_below_drewN (below_alloc (below_alloc (Below.refl _ _) _) _) nd) hb); have HC2 := Aside0.mk (Kd.C_below (Kd.C_drewN (Kd.C_alloc (Kd.C_alloc HR1.out _) _) nd) hb); have hp2 := (hb.cell (p := ⟨w.heap.size, 0, none⟩) (by simp <;> omega)).trans (show _ = some (.int .u64 a0) from by simp); have hm2 := (hb.cell (p := ⟨w.heap.size + 1, 0, none⟩) (by simp)).trans (show _ = some (.slice (some ad) l1.length c1) from by simp); clear hb; rw [B1.out]))
         go_ret
         exact ⟨rfl, HB3.out⟩
        ·rw [if_neg z7] at H
         obtain rfl := Option.some.inj H
         have B2 := Aside0.mk (Bool.eq_false_iff.2 z7)
         clear H z7
         go_enter Try.func14, Try.ntmps14
         go_wp2_with (first | (go_at_call 46; refine (field_Is.calls k a0 _ _ HT.out).mono ?_; rintro e w1 ⟨rfl, ⟨nd, rfl⟩⟩) | (go_at_call 47; refine (slices_ContainsFunc_num.calls k a0 w.heap.size (some ad) c1 l1 w2 HC2.out HM.out hp2 HS.out).mono ?_; rintro e w3 ⟨rfl, hb⟩; have HB3 := Aside0.mk (below_step HB2.out hb); clear hb; rw [B2.out]) | (go_at_call 47; refine (slices_ContainsFunc_len.calls (w.heap.size + 1) (some ad) c1 l1 (((w.alloc (.cells #[.int .u64 a0] 22)).alloc (.cells #[.slice (some ad) l1.length c1] 23)).drewN nd) (Kd.C_drewN (Kd.C_alloc (Kd.C_alloc HR1.out _) _) nd) HM.out (by simp) HN.out).mono ?_; rintro e w2 ⟨rfl, hb⟩; have HB2 := Aside0.mk (below_step (w := w) (pw_below_drewN (below_alloc (below_alloc (Below.refl _ _) _) _) nd) hb); have HC2 := Aside0.mk (Kd.C_below (Kd.C_drewN (Kd.C_alloc (Kd.C_alloc HR1.out _) _) nd) hb); have hp2 := (hb.cell (p := ⟨w.heap.size, 0, none⟩) (by simp <;> omega)).trans (show _ = some (.int .u64 a0) from by simp); have hm2 := (hb.cell (p := ⟨w.heap.size + 1, 0, none⟩) (by simp)).trans (show _ = some (.slice (some ad) l1.length c1) from by simp); clear hb; rw [B1.out]))
         go_ret
         exact ⟨rfl, HB3.out⟩
       ·rw [if_neg z6] at H
        cases H
 ·rw [if_neg q1] at H
  obtain rfl := Option.some.inj H
  have q2 := Bool.eq_false_iff.2 q1
  subst q2
  clear H q1
  go_enter Try.func14, Try.ntmps14
  go_wp2_with (first | (go_at_call 46; refine (field_Is.calls k a0 _ _ HT.out).mono ?_; rintro e w1 ⟨rfl, ⟨nd, rfl⟩⟩))
  go_ret
  exact ⟨rfl, (by repeat (first | (with_reducible first | exact Below.refl _ _ | apply below_alloc | apply pw_below_drewN | apply below_drew1) | exact Below.refl _ _))⟩
end Go.Proofs.Ytfdkhkajehopkaa.Mb
namespace Go.Proofs.Ytfdkhkajehopkaa.Mb
open Go.RowKit Go.Proofs.YtfdkhkajehopkaaW.PrintWords Go.Proofs.YtfdkhkajehopkaaW.PrintLast Go.Proofs.YtfdkhkajehopkaaW.PrintMore
set_option linter.unusedVariables false
theorem row_out {w : World} {base : Nat} {vr : Value} {rows : List (List Int)} (hS : Kd.S k2 33 w base (fun _ => True) vr rows) {i : Nat} {row : List Int} (hi : rows[i]? = some row) :
  ∃ (g cap : Nat) (A : Option Addr) (c : Nat) (oki : Nat → Prop), RowAt w base vr rows i row g cap A c ∧ (∀ k, w.heap.size ≤ k → oki k) ∧ Kd.R (Kd.int .u64) 22 w base oki (.slice A row.length c) row ∧ Kd.H k2 33 w base (fun _ => True) (.slice (some ⟨g, 0, none⟩) rows.length cap) rows (i : Int) oki [.slice A row.length c] := by
 obtain ⟨h, e⟩ := List.getElem?_eq_some_iff.1 hi
 obtain ⟨g, cap, rfl, hg, hgl, hty⟩ := Kd.S_form hS (by omega)
 obtain ⟨oki, c, hcl, hM, hcc, hfr, hoki, hH⟩ := Kd.S_elem hS [] (i : Int) (Int.natCast_nonneg i) (Int.ofNat_lt.2 h)
 obtain ⟨v, rfl, hR⟩ := hM
 rw [show (i : Int).toNat = i from rfl, rd_L1_nat h, e] at hR
 obtain ⟨A, c0, rfl, hlc, hC⟩ := Kd.R_reads hR
 have h1 := hcc 0 _ rfl
 have h2 := hfr 0
 rw [show (i : Int).toNat * k2.sz + 0 = i from by show i * 1 + 0 = i; omega] at h1 h2
 exact ⟨g, cap, A, c0, fun k => oki k ∨ True ∧ w.heap.size ≤ k, ⟨rfl, hg, hty, h1, h2, hlc⟩, fun k hk => .inr ⟨trivial, hk⟩, Kd.R_mono hR (fun k hk => .inl hk), Kd.H_widen hH⟩
theorem row_back {w : World} {base g cap n : Nat} {rows : List (List Int)} {i : Nat} {oki : Nat → Prop} {c : Value} (hH : Kd.H k2 33 w base (fun _ => True) (.slice (some ⟨g, 0, none⟩) n cap) rows (i : Int) oki [c]) (hi : i < n) {v1 : Value} {row1 : List Int} (hR : Kd.R (Kd.int .u64) 22 w base oki v1 row1) :
  Kd.S k2 33 (w.setCell ⟨g, i, none⟩ v1) base (fun _ => True) (.slice (some ⟨g, 0, none⟩) n cap) (rows.set i row1) := by
 have h := (Kd.S_seg0 hH (Int.natCast_nonneg i) (Int.ofNat_lt.2 hi) (seg := [v1]) (j := 0) (show 1 ≤ 1 from by decide) (x' := row1) (Kd.M_row hR) (fun _ hk => hk)).1
 have e : w.setCells g ((i : Int).toNat * k2.sz + 0) [v1] = w.setCell ⟨g, i, none⟩ v1 := by
  show w.setCells g (i * 1 + 0) [v1] = _
  rw [Nat.mul_one, Nat.add_zero]
  rfl
 rw [e] at h
 exact h
end Go.Proofs.Ytfdkhkajehopkaa.Mb
namespace Go.Proofs.Ytfdkhkajehopkaa.Mb
open Go.RowKit Go.Proofs.YtfdkhkajehopkaaW.PrintWords Go.Proofs.YtfdkhkajehopkaaW.PrintLast Go.Proofs.YtfdkhkajehopkaaW.PrintMore
set_option linter.unusedVariables false
set_option linter.unusedSimpArgs false
def matrix_flat.T10 : Bool × List (List Nat × List Nat) := (true, [([], []), ([0], [0]), ([1], [1]), ([2], [2]), ([], []), ([], []), ([5], [5]), ([6], [6]), ([7], [7]), ([], []), ([8, 9], [8, 9]), ([10], [10]), ([], []), ([], []), ([12, 13], [12, 13]), ([11, 14, 14], [11, 14]), ([3, 4, 0, 1, 2, 3, 4, 5, 6, 7, 8, 9, 10, 11, 12, 13, 14, 15], [3, 4]), ([16, 15, 15, 0, 1, 2, 3, 4, 5, 6, 7, 8, 9, 10, 11, 12, 13, 14, 15], [15, 16])])
def matrix_flat.B10 : List Nat := [0, 1, 3, 7, 0, 0, 32, 96, 224, 0, 992, 2016, 0, 0, 12288, 32736, 65535, 131071]
theorem matrix_flat.tab10 : rtab .any (opsOf Try.f52 10) = matrix_flat.T10 := by kernel_rfl
theorem matrix_flat.bits10 : waitsOk matrix_flat.T10.2 matrix_flat.B10 = true := by kernel_rfl
def unitRow (n i : Nat) : List Int := (List.replicate n 0).set i 1
theorem unitRow_length (n i : Nat) : (unitRow n i).length = n := by simp [unitRow]
def extend (m : List (List Int)) (ext : Nat → List Int) (i : Nat) : List (List Int) := m.zipIdx.map fun q => if q.2 < i then q.1 ++ ext q.2 else q.1
theorem extend_length (m : List (List Int)) (ext : Nat → List Int) (i : Nat) : (extend m ext i).length = m.length := by simp [extend]
theorem extend_get {m : List (List Int)} {ext : Nat → List Int} {i j : Nat} {row : List Int} (h : m[j]? = some row) : (extend m ext i)[j]? = some (if j < i then row ++ ext j else row) := by
 unfold extend
 rw [List.getElem?_map, List.getElem?_zipIdx, h]
 simp
theorem extend_zero (m : List (List Int)) (ext : Nat → List Int) : extend m ext 0 = m := by
 refine List.ext_getElem? fun j => ?_
 cases h : m[j]? with
 | none => rw [List.getElem?_eq_none (by rw [extend_length]; exact List.getElem?_eq_none_iff.1 h)]
 | some row => rw [extend_get h, if_neg (Nat.not_lt_zero _)]
theorem extend_succ {m : List (List Int)} {ext : Nat → List Int} {i : Nat} {row : List Int} (h : m[i]? = some row) : (extend m ext i).set i (row ++ ext i) = extend m ext (i + 1) := by
 refine List.ext_getElem? fun j => ?_
 by_cases e : j = i
 ·subst e
  rw [List.getElem?_set_self (by rw [extend_length]; exact (List.getElem?_eq_some_iff.1 h).1), extend_get h, if_pos (Nat.lt_succ_self _)]
 ·rw [List.getElem?_set_ne (Ne.symm e)]
  cases hj : m[j]? with
  | none => rw [List.getElem?_eq_none (by rw [extend_length]; exact List.getElem?_eq_none_iff.1 hj), List.getElem?_eq_none (by rw [extend_length]; exact List.getElem?_eq_none_iff.1 hj)]
  | some r =>
   rw [extend_get hj, extend_get hj]
   by_cases c : j < i
   ·rw [if_pos c, if_pos (by omega)]
   ·rw [if_neg c, if_neg (by omega)]
theorem extend_wide {m : List (List Int)} {ext : Nat → List Int} {a b : Nat} (hm : Wide a m) (he : ∀ j, j < m.length → (ext j).length = b) : Wide (a + b) (extend m ext m.length) := fun row hrow => by
 obtain ⟨j, hj, e⟩ := List.mem_iff_getElem.1 hrow
 rw [extend_length] at hj
 have h1 := extend_get (ext := ext) (i := m.length) (List.getElem?_eq_getElem hj)
 rw [List.getElem?_eq_getElem (by rw [extend_length]; exact hj), if_pos hj] at h1
 rw [← e, Option.some.inj h1, List.length_append, hm _ (List.getElem_mem hj), he j hj]
/-- What a matrix that was checked is like. -/
theorem check_wide {k : Nat} {p : Int} {m : List (List Int)} (h : matrix_Check.f k p m = some 0) : 1 ≤ m.length ∧ m.length ≤ 64 ∧ 1 ≤ (rd_L1 m 0).length ∧ (rd_L1 m 0).length ≤ 64 ∧ Wide (rd_L1 m 0).length m := by
 unfold matrix_Check.f at h
 rw [Option.bind_eq_some_iff] at h
 obtain ⟨t, _, h⟩ := h
 by_cases c1 : t = true
 ·rw [if_pos c1] at h
  by_cases c2 : m.length < 1 ∨ 64 < m.length ∨ (rd_L1 m 0).length < 1 ∨ 64 < (rd_L1 m 0).length
  ·rw [if_pos c2] at h; cases h
  ·rw [if_neg c2] at h
   by_cases c3 : m.any (badLen (rd_L1 m 0).length) = true
   ·rw [if_pos c3] at h; cases h
   ·refine ⟨by omega, by omega, by omega, by omega, fun row hrow => ?_⟩
    have : badLen (rd_L1 m 0).length row = false := by
     cases hb : badLen (rd_L1 m 0).length row with
     | false => rfl
     | true => exact absurd (List.any_eq_true.2 ⟨row, hrow, hb⟩) c3
    simpa [badLen] using this
 ·rw [if_neg c1] at h; cases h
theorem GridAt.lower {w0 w1 w2 : World} {b : Nat} {p det : Int} {vr vl : Value} {rows : List (List Int)} {lead : List Int} (h : GridAt w1 w2 b p vr rows det vl lead) (hb : Below w0.heap.size w0 w1) : GridAt w0 w2 b p vr rows det vl lead :=
 ⟨h.blk, Nat.le_trans hb.size h.gb, Kd.S_lower h.rws hb.size, Kd.R_lower h.led hb.size, below_step hb h.low⟩
set_option maxHeartbeats 8000000 in
set_option maxRecDepth 100000 in
theorem matrix_Det_1.calls (i : Int) (w : World) : Calls Try.prog 53 #[.int .i64 i] w fun e w' => (∃ A c, e = .returned (.slice A ([] : List Int).length c) ∧ ([] : List Int).length ≤ c ∧ Kd.C (Kd.int .u64) w' A ([] : List Int).length []) ∧ Below w.heap.size w w' := by
 go_enter Try.func53, Try.ntmps53
 go_wp2
 go_ret
 exact ⟨⟨none, 0, rfl, Nat.le_refl _, Kd.C_nil _ _⟩, Below.refl _ _⟩
end Go.Proofs.Ytfdkhkajehopkaa.Mb
namespace Go.Proofs.Ytfdkhkajehopkaa.Mb
open Go.RowKit Go.Proofs.YtfdkhkajehopkaaW.PrintWords Go.Proofs.YtfdkhkajehopkaaW.PrintLast Go.Proofs.YtfdkhkajehopkaaW.PrintMore
set_option linter.unusedVariables false
set_option linter.unusedSimpArgs false

set_option maxHeartbeats 8000000 in
set_option maxRecDepth 100000 in
theorem matrix_flat_D.calls (k kr : Nat) (p : Int) (A1 : Option Addr) (c1 : Nat) (m : List (List Int)) (fin : List (List Int) × Int × List Int) (w : World) (hr1 : Kd.C k2 w A1 m.length m) (hc1 : m.length ≤ c1) (hck : matrix_Check.f k p m = some 0) (hsq : (rd_L1 m 0).length = m.length)
  (hred : red kr p m.length 0 (extend m (fun _ => []) m.length) 1 [] = some fin) :
  Calls Try.prog 52 #[.int .u64 p, .slice A1 m.length c1, .func (.func 53) #[] #[]] w fun e w' => ∃ b vr vl, e = .returned (.tuple #[.pointer (some ⟨b, 0, none⟩), .int .i64 0]) ∧ GridAt w w' b p vr fin.1 fin.2.1 vl fin.2.2 ∧ fin.1.length = m.length ∧ fin.2.2.length ≤ m.length ∧ Wide (m.length + 0) fin.1 := by
 have hwd := check_wide hck
 rw [hsq] at hwd
 have HR := Aside0.mk hr1
 have HC := Aside0.mk hc1
 have HCK := Aside0.mk hck
 have HRED := Aside0.mk hred
 have HWD := Aside0.mk hwd
 have HSQ := Aside0.mk hsq
 skip
 obtain ⟨ad, A0, c0, e1, hx, hl0, hi0⟩ := at_L1 hr1 0 (by omega) (by omega)
 subst e1
 have hx' : w.cell? ad = some (.slice A0 m.length c0) := by have h := hx; rwa [show (0 : Int).toNat = 0 from rfl, Addr.add_zero', hsq] at h
 have g1 : (0 < m.length) = True := eq_true (by omega)
 clear hwd hr1 hc1 hck hred hx hl0 hi0 hsq
 go_enter Try.func52, Try.ntmps52
 go_wp2_with (first | (go_at_call 14; refine (matrix_Check.calls k p (some ad) c1 m 0 _ HR.out HC.out HCK.out).mono ?_; rintro e w1 ⟨rfl, hb⟩; have HB1 := Aside0.mk hb; have hx1 : w1.cell? ad = some (.slice A0 m.length c0) := (hb.cell (World.block_lt_of_cell? w _ hx')).trans hx'; clear hb) | (go_at_call 65; refine (matrix_own.calls p (some ad) c1 m _ (Kd.C_below HR.out HB1.out) HC.out (by have := HWD.out.2.1; omega) (fun row hrow => by rw [HWD.out.2.2.2.2 row hrow]; have := HWD.out.2.1; omega)).mono ?_; rintro e w2 ⟨b, vr, rfl, hg⟩; have HG0 := Aside0.mk hg; have hb1 : w2.cell? ⟨b, 1, none⟩ = some vr := (blk_cell hg.blk 1).trans rfl; obtain ⟨Av, cv, ev⟩ := Kd.S_slice hg.rws; subst ev; clear hg))
 have HGE : Aside0 (GridAt w w2 b p (.slice Av m.length cv) (extend m (fun _ => []) 0) 1 (.slice none 0 0) []) := ⟨by rw [extend_zero]; exact HG0.out.lower HB1.out⟩
 clear HG0 hx1 hx'
 go_loopg [32] (m.length + 1) (fun kq v32 w' => ∃ i : Nat, v32 = .int .i64 (i : Int) ∧ Aside0 (i ≤ m.length ∧ kq = m.length + 1 - i) ∧ Aside0 (GridAt w w' b p (.slice Av m.length cv) (extend m (fun _ => []) i) 1 (.slice none 0 0) []))
 case atStart => exact ⟨0, rfl, ⟨by omega, by omega⟩, HGE⟩
 case round =>
  clear HGE hb1
  obtain ⟨i, rfl, HI, HG⟩ := hrel
  cases gk with
  | zero => exact absurd HI.out.2 (by have := HI.out.1; omega)
  | succ k1 =>
   have hi63 : (i : Int) ≤ 9223372036854775806 := by have := HI.out; have := HWD.out.2.1; omega
   by_cases hlt : i < m.length
   ·have b1 : decide ((i : Int) < (m.length : Int)) = true := decide_eq_true (by omega)
    have b1' : decide (i < m.length) = true := decide_eq_true hlt
    obtain ⟨row, hrow⟩ : ∃ row, m[i]? = some row := ⟨_, List.getElem?_eq_getElem hlt⟩
    have hrl : row.length = m.length := HWD.out.2.2.2.2 row (List.mem_of_getElem? hrow)
    have hex := extend_get (ext := (fun _ => [])) (i := i) hrow
    rw [if_neg (Nat.lt_irrefl i)] at hex
    have HNX := Aside0.mk (extend_succ (ext := (fun _ => [])) hrow)
    obtain ⟨g, cap, A, c, oki, RA, hfr, hR, hH⟩ := row_out HG.out.rws hex
    have e1 := RA.vr_
    injection e1 with e1 el_ e3
    clear el_
    subst e1 e3
    rw [extend_length] at hH
    have hhd := RA.head
    have hhf := RA.free
    have hb1 : wr.cell? ⟨b, 1, none⟩ = some (.slice (some ⟨g, 0, none⟩) m.length cv) := (blk_cell HG.out.blk 1).trans rfl
    have RA := Aside0.mk RA
    have HFR := Aside0.mk hfr
    have HRR := Aside0.mk hR
    have HH := Aside0.mk hH
    have HRL := Aside0.mk hrl
    have HLT := Aside0.mk hlt
    have g2 : (i < m.length) = True := eq_true hlt
    clear hfr hR hH hrl hlt hrow hex
    go_wp2
    refine start_ (n := 18) (S := fun w' => w'.cell? ⟨b, 1, none⟩ = some (.slice (some ⟨g, 0, none⟩) m.length cv) ∧ w'.cell? ⟨g, i, none⟩ = some (.slice A row.length c)) (ds := [17]) #[false, false, false, false, false, false, false, false, false, false, false, false, false, false, false, false, false, false] (by kernel_rfl) rfl rfl ⟨hb1, hhd⟩ (fun hHeld => ?_); refine with_tabW matrix_flat.tab10 matrix_flat.bits10 (fun HT_ HW_ => ?_)
    refine pure_ (i := 0) (N := some 35) (v := ?_) (a' := ?_) #[true, false, false, false, false, false, false, false, false, false, false, false, false, false, false, false, false, false] rfl rfl (any_of HT_.out (by kernel_rfl)) (fun _ _ _ h => h) (Or.inl ⟨by rfl, ?_⟩) ?_ ?_
    rotate_left
    ·intro w'
     go_simp
     (try with_reducible rfl)
    rotate_left
    ·simp only [Act.put, List.setIfInBounds_toArray, List.set_cons_zero, List.set_cons_succ, i64_w, i32_w]
     rfl
    refine pure_ (i := 1) (N := some 36) (v := ?_) (a' := ?_) #[true, true, false, false, false, false, false, false, false, false, false, false, false, false, false, false, false, false] rfl rfl (any_of HT_.out (by kernel_rfl)) (fun _ _ _ h => h) (Or.inl ⟨by rfl, ?_⟩) ?_ ?_
    rotate_left
    ·intro w'
     go_simp
     (try with_reducible rfl)
    rotate_left
    ·simp only [Act.put, List.setIfInBounds_toArray, List.set_cons_zero, List.set_cons_succ, i64_w, i32_w]
     rfl
    refine pure_ (i := 2) (N := some 37) (v := ?_) (a' := ?_) #[true, true, true, false, false, false, false, false, false, false, false, false, false, false, false, false, false, false] rfl rfl (any_of HT_.out (by kernel_rfl)) (fun _ _ _ h => h) (Or.inl ⟨by rfl, ?_⟩) ?_ ?_
    rotate_left
    ·intro w'
     go_simp
     (try with_reducible rfl)
    rotate_left
    ·simp only [Act.put, List.setIfInBounds_toArray, List.set_cons_zero, List.set_cons_succ, i64_w, i32_w]
     rfl
    refine pure_ (i := 4) (N := some 39) (v := ?_) (a' := ?_) #[true, true, true, false, true, false, false, false, false, false, false, false, false, false, false, false, false, false] rfl rfl (any_of HT_.out (by kernel_rfl)) (fun _ _ _ h => h) (Or.inl ⟨by rfl, ?_⟩) ?_ ?_
    rotate_left
    ·intro w'
     go_simp
     (try with_reducible rfl)
    rotate_left
    ·simp only [Act.put, List.setIfInBounds_toArray, List.set_cons_zero, List.set_cons_succ, i64_w, i32_w]
     rfl
    refine pure_ (i := 5) (N := some 40) (v := ?_) (a' := ?_) #[true, true, true, false, true, true, false, false, false, false, false, false, false, false, false, false, false, false] rfl rfl (any_of HT_.out (by kernel_rfl)) (fun _ _ _ h => h) (Or.inl ⟨by rfl, ?_⟩) ?_ ?_
    rotate_left
    ·intro w'
     go_simp
     (try with_reducible rfl)
    rotate_left
    ·simp only [Act.put, List.setIfInBounds_toArray, List.set_cons_zero, List.set_cons_succ, i64_w, i32_w]
     rfl
    refine pure_ (i := 6) (N := some 41) (v := ?_) (a' := ?_) #[true, true, true, false, true, true, true, false, false, false, false, false, false, false, false, false, false, false] rfl rfl (any_of HT_.out (by kernel_rfl)) (fun _ _ _ h => h) (Or.inl ⟨by rfl, ?_⟩) ?_ ?_
    rotate_left
    ·intro w'
     go_simp
     (try with_reducible rfl)
    rotate_left
    ·simp only [Act.put, List.setIfInBounds_toArray, List.set_cons_zero, List.set_cons_succ, i64_w, i32_w]
     rfl
    refine pure_ (i := 7) (N := some 42) (v := ?_) (a' := ?_) #[true, true, true, false, true, true, true, true, false, false, false, false, false, false, false, false, false, false] rfl rfl (any_of HT_.out (by kernel_rfl)) (fun _ _ _ h => h) (Or.inl ⟨by rfl, ?_⟩) ?_ ?_
    rotate_left
    ·intro w'
     go_simp
     (try with_reducible rfl)
    rotate_left
    ·simp only [Act.put, List.setIfInBounds_toArray, List.set_cons_zero, List.set_cons_succ, i64_w, i32_w]
     rfl
    refine pure_ (i := 9) (N := some 44) (v := ?_) (a' := ?_) #[true, true, true, false, true, true, true, true, false, true, false, false, false, false, false, false, false, false] rfl rfl (any_of HT_.out (by kernel_rfl)) (fun _ _ _ h => h) (Or.inl ⟨by rfl, ?_⟩) ?_ ?_
    rotate_left
    ·intro w'
     go_simp
     (try with_reducible rfl)
    rotate_left
    ·simp only [Act.put, List.setIfInBounds_toArray, List.set_cons_zero, List.set_cons_succ, i64_w, i32_w]
     rfl
    refine pure_ (i := 12) (N := some 47) (v := ?_) (a' := ?_) #[true, true, true, false, true, true, true, true, false, true, false, false, true, false, false, false, false, false] rfl rfl (any_of HT_.out (by kernel_rfl)) (fun _ _ _ h => h) (Or.inl ⟨by rfl, ?_⟩) ?_ ?_
    rotate_left
    ·intro w'
     go_simp
     (try with_reducible rfl)
    rotate_left
    ·simp only [Act.put, List.setIfInBounds_toArray, List.set_cons_zero, List.set_cons_succ, i64_w, i32_w]
     rfl
    refine pure_ (i := 13) (N := some 48) (v := ?_) (a' := ?_) #[true, true, true, false, true, true, true, true, false, true, false, false, true, true, false, false, false, false] rfl rfl (any_of HT_.out (by kernel_rfl)) (fun _ _ _ h => h) (Or.inl ⟨by rfl, ?_⟩) ?_ ?_
    rotate_left
    ·intro w'
     go_simp
     (try with_reducible rfl)
    rotate_left
    ·simp only [Act.put, List.setIfInBounds_toArray, List.set_cons_zero, List.set_cons_succ, i64_w, i32_w]
     rfl
    refine take_ (i := 3) (N := some 38) (v := ?_) (a' := ?_) #[true, true, true, true, true, true, true, true, false, true, false, false, true, true, false, false, false, false] rfl rfl (take_ofW HT_.out HW_.out (by kernel_rfl)) (fun _ _ _ h => h) (Or.inl ⟨by rfl, ?_⟩) hHeld ?_ ?_
    rotate_left
    ·rintro w' ⟨s0, s1⟩
     go_simp
     (try with_reducible rfl)
    rotate_left
    ·simp only [Act.put, List.setIfInBounds_toArray, List.set_cons_zero, List.set_cons_succ, i64_w, i32_w]
     rfl
    refine take_ (i := 8) (N := some 43) (v := ?_) (a' := ?_) #[true, true, true, true, true, true, true, true, true, true, false, false, true, true, false, false, false, false] rfl rfl (take_ofW HT_.out HW_.out (by kernel_rfl)) (fun _ _ _ h => h) (Or.inl ⟨by rfl, ?_⟩) hHeld ?_ ?_
    rotate_left
    ·rintro w' ⟨s0, s1⟩
     go_simp
     (try with_reducible rfl)
    rotate_left
    ·simp only [Act.put, List.setIfInBounds_toArray, List.set_cons_zero, List.set_cons_succ, i64_w, i32_w]
     rfl
    refine pure_ (i := 10) (N := some 45) (v := ?_) (a' := ?_) #[true, true, true, true, true, true, true, true, true, true, true, false, true, true, false, false, false, false] rfl rfl (any_of HT_.out (by kernel_rfl)) (fun _ _ _ h => h) (Or.inl ⟨by rfl, ?_⟩) ?_ ?_
    rotate_left
    ·intro w'
     go_simp
     (try with_reducible rfl)
    rotate_left
    ·simp only [Act.put, List.setIfInBounds_toArray, List.set_cons_zero, List.set_cons_succ, i64_w, i32_w]
     rfl
    refine take_ (i := 11) (N := some 46) (v := ?_) (a' := ?_) #[true, true, true, true, true, true, true, true, true, true, true, true, true, true, false, false, false, false] rfl rfl (take_ofW HT_.out HW_.out (by kernel_rfl)) (fun _ _ _ h => h) (Or.inl ⟨by rfl, ?_⟩) hHeld ?_ ?_
    rotate_left
    ·rintro w' ⟨s0, s1⟩
     go_simp
     (try with_reducible rfl)
    rotate_left
    ·simp only [Act.put, List.setIfInBounds_toArray, List.set_cons_zero, List.set_cons_succ, i64_w, i32_w]
     rfl
    refine one_ (i := 14) (N := some 49) #[true, true, true, true, true, true, true, true, true, true, true, true, true, true, true, false, false, false] rfl rfl (one_of HT_.out (by kernel_rfl)) (by decide) (fun K hK => ?_)
    refine call_ 53 (#[.int .i64 (i : Int)] ++ #[]) (by rfl) rfl (by first | (go_simp; done) | (go_simp; rfl)) ?_
    refine (matrix_Det_1.calls (i : Int) _).mono ?_
    rintro e wc ⟨⟨A9, c9, rfl, hc9, hC9⟩, hb⟩
    refine ⟨_, rfl, ?_⟩
    have hbk := (hb.block b (blk_lt HG.out.blk)).trans HG.out.blk
    have hcg := (hb.cell (World.block_lt_of_cell? _ _ hhd)).trans hhd
    have HRC := Aside0.mk (Kd.R_below (Kd.R_drew HRR.out) hb)
    have HHC := Aside0.mk (Kd.H_below (Kd.H_drew HH.out) hb)
    have HLC := Aside0.mk (below_step (below_drew1 HG.out.low) hb)
    have HSZ := Aside0.mk (below_size hb)
    have HC9 := Aside0.mk hC9
    have HBK := Aside0.mk hbk
    have hb1c : wc.cell? ⟨b, 1, none⟩ = some (.slice (some ⟨g, 0, none⟩) m.length cv) := (blk_cell hbk 1).trans rfl
    have HKC := Aside0.mk (KeepT.below (KeepT.drew (KeepT.refl [22] wr)) hb)
    clear hb hbk hC9
    refine hK.out _ _ ⟨hb1c, hcg⟩ (fun hHeld => ?_)
    clear hK K
    refine norm_ (a' := ?_) ?_ ?_
    rotate_left
    ·show Act.put _ (some 49) _ = _
     simp only [Act.put, List.setIfInBounds_toArray, List.set_cons_zero, List.set_cons_succ, i64_w, i32_w]
     rfl
    refine one_ (i := 15) (N := some 50) #[true, true, true, true, true, true, true, true, true, true, true, true, true, true, true, true, false, false] rfl rfl (one_of HT_.out (by kernel_rfl)) (by decide) (fun K hK => ?_)
    refine Kd.R_append_rows_step (Kd.int .u64) (w0 := w) w.heap.size (by rfl) (.tmp 46) (.tmp 49) 33 22 (.int .u64 0) 8 rfl Try.underlying33 info22 rfl (by decide) (by omega) (.slice A row.length c) row ([] : List Int) _ _ _ oki (fun _ => False) rfl rfl HRC.out HC9.out (fun _ _ h => h) (fun _ h => h.elim) ?aF HLC.out (below_size HLC.out) ?aL ?_
    case aF => exact fun k hk => HFR.out k (Nat.le_trans HSZ.out hk)
    case aL => have := HRL.out; have := HWD.out.2.1; simp only [List.length_nil, unitRow_length]; omega
    intro v1 w3 ho hb2 hg hat
    obtain ⟨rw1, hrw1⟩ : ∃ r_, r_ = row ++ ([] : List Int) := ⟨_, rfl⟩
    rw [← hrw1] at ho
    obtain ⟨A8, c8, e8⟩ := Kd.R_slice ho
    subst e8
    have HRW := Aside0.mk hrw1
    have hH3 := Kd.H_grown HHC.out hg (fun k hk => HRC.out.1 k hk)
    have hat3 := Kd.H_at hH3 (Int.natCast_nonneg i) (Int.ofNat_lt.2 HLT.out)
    have hc3 := hat3.1 0 _ rfl
    have hf3 := hat3.2 0
    rw [show (i : Int).toNat * k2.sz + 0 = i from by show i * 1 + 0 = i; omega] at hc3 hf3
    have HH3 := Aside0.mk hH3
    have hk3 := KeepT.grown HKC.out hg (fun k hk => own_typed (Kd.R_own HRC.out).choose_spec k hk) (by decide)
    have hbk3 := hk3.2 b 75 _ HG.out.blk (by decide)
    have hb13 : w3.cell? ⟨b, 1, none⟩ = some (.slice (some ⟨g, 0, none⟩) m.length cv) := (blk_cell hbk3 1).trans rfl
    have HBK3 := Aside0.mk hbk3
    have HK3 := Aside0.mk hk3
    have HO3 := Aside0.mk ho
    have HL3 := Aside0.mk hb2
    clear hrw1 hH3 hat3 hk3 hbk3 ho hb2 hg hat
    refine hK.out _ _ ⟨hb13, hc3⟩ (fun hHeld => ?_)
    clear hK K
    refine norm_ (a' := ?_) ?_ ?_
    rotate_left
    ·show Act.put _ (some 50) _ = _
     simp only [Act.put, List.setIfInBounds_toArray, List.set_cons_zero, List.set_cons_succ, i64_w, i32_w]
     rfl
    refine pure_ (i := 16) (N := some 51) (v := ?_) (a' := ?_) #[true, true, true, true, true, true, true, true, true, true, true, true, true, true, true, true, true, false] rfl rfl (any_of HT_.out (by kernel_rfl)) (fun _ _ _ h => h) (Or.inl ⟨by rfl, ?_⟩) ?_ ?_
    rotate_left
    ·intro w'
     go_simp
     (try with_reducible rfl)
    rotate_left
    ·simp only [Act.put, List.setIfInBounds_toArray, List.set_cons_zero, List.set_cons_succ, i64_w, i32_w]
     rfl
    refine last_ (i := 17) (N := none) #[true, true, true, true, true, true, true, true, true, true, true, true, true, true, true, true, true, true] rfl rfl (one_of HT_.out (by kernel_rfl)) (by decide) (fun K hK => ?_)
    refine skip_ (w1 := ?_) (by rfl) rfl ?_ ?_
    rotate_left
    ·go_simp
     (try rfl)
    refine hK.out _ _ ?_
    clear hK K
    refine done_ (done_of HT_.out (by kernel_rfl)) ?_
    try go_wp2
    go_roundg k1
    case measure => omega
    case rel =>
     obtain ⟨cellsg, hty⟩ := RA.out.ty
     have hty3 := HK3.out.2 g 33 cellsg hty (by decide)
     have hs := row_back HH3.out HLT.out HO3.out
     have hse : (extend m (fun _ => []) i).set i rw1 = extend m (fun _ => []) (i + 1) := by rw [HRW.out]; exact HNX.out
     rw [hse] at hs
     exact ⟨i + 1, by go_num, ⟨HLT.out, by have := HI.out; omega⟩, ⟨⟨(KeepT.set (ts := [33]) (KeepT.refl _ w3) hty3 (by decide) i _).2 b 75 _ HBK3.out (by decide), HG.out.gb, hs, Kd.R_nil _ _ _ _ _, below_set HL3.out RA.out.gb⟩⟩⟩
   ·have hin : i = m.length := by have := HI.out.1; omega
    subst hin
    have b1 : decide ((m.length : Int) < (m.length : Int)) = false := decide_eq_false (by omega)
    have b1' : decide (m.length < m.length) = false := decide_eq_false (by omega)
    clear hlt
    have HWX : Aside0 (Wide (m.length + 0) (extend m (fun _ => []) m.length)) := ⟨extend_wide HWD.out.2.2.2.2 (fun j _ => rfl)⟩
    go_wp2_with (go_at_call 66; refine (grid_reduce.calls kr p 1 (extend m (fun _ => []) m.length) [] (m.length + 0) m.length m.length fin (.slice Av m.length cv) (.slice none 0 0) b w _ HG.out (extend_length _ _ _) (by have := HWD.out.2.1; omega) (by have := HWD.out.2.1; omega) HWX.out (by omega) (Nat.zero_le _) HRED.out).mono ?_; rintro e w5 ⟨rfl, ⟨vl', hg⟩, h1, h2, h3, h4⟩; have HG5 := Aside0.mk hg; have H1 := Aside0.mk h1; have H2 := Aside0.mk h2; have H3 := Aside0.mk h3; clear hg h1 h2 h3 h4)
    go_ret2
    exact ⟨b, _, vl', rfl, HG5.out, H1.out, H3.out, H2.out⟩
end Go.Proofs.Ytfdkhkajehopkaa.Mb
namespace Go.Proofs.Ytfdkhkajehopkaa.Mb
open Go.RowKit Go.Proofs.YtfdkhkajehopkaaW.PrintWords Go.Proofs.YtfdkhkajehopkaaW.PrintLast Go.Proofs.YtfdkhkajehopkaaW.PrintMore
set_option linter.unusedVariables false
set_option linter.unusedSimpArgs false
set_option maxHeartbeats 8000000 in
set_option maxRecDepth 100000 in
theorem matrix_Inverse_1.calls (i n gm : Nat) (A1 : Option Addr) (c1 : Nat) (w : World) (hg : w.cell? ⟨gm, 0, none⟩ = some (.slice A1 n c1)) (hi : i < n) (hn : n ≤ 64) :
  Calls Try.prog 54 #[.int .i64 (i : Int), .pointer (some ⟨gm, 0, none⟩)] w fun e w' => (∃ A c, e = .returned (.slice A (unitRow n i).length c) ∧ (unitRow n i).length ≤ c ∧ Kd.C (Kd.int .u64) w' A (unitRow n i).length (unitRow n i)) ∧ Below w.heap.size w w' := by
 have HI := Aside0.mk hi
 have HN := Aside0.mk hn
 clear hi hn
 go_enter Try.func54, Try.ntmps54
 go_wp2_with (first | ((with_reducible refine gate_dst (N := 7) rfl ?_); refine Kd.R_make (Kd.int .u64) _ 22 rfl (N := 7) rfl 33 _ _ rfl (n : Int) rfl rfl Try.underlying33 (.int .u64 0) 8 info22 rfl (by decide) (by omega) 0 (ok := fun _ => True) (okp := fun _ => True) rfl (fun _ hk => hk) trivial (Int.natCast_nonneg n) (by have := HN.out; simp only [Int.toNat_natCast]; omega) (Below.refl _ _) (Nat.le_refl _) ?_; intro v w1 ho hb hg_ hnew_; obtain ⟨z, hz⟩ : ∃ z_ : List Int, z_ = List.replicate (n : Int).toNat 0 := ⟨_, rfl⟩; rw [← hz] at ho; have hzl : z.length = n := (by rw [hz]; simp); obtain ⟨g, cap, ev, hgb, hgl, cells, hcl⟩ := Kd.R_form ho (by have := HI.out; omega); subst ev; have g1 : (i < z.length) = True := eq_true (by have := HI.out; omega); obtain ⟨hc, hf⟩ := Kd.R_celln 0 ho (i : Int) (Int.natCast_nonneg i) (by have := HI.out; omega); rw [Int.toNat_natCast] at hc hf; have HO := Aside0.mk ho; have HB := Aside0.mk hb; have HZ := Aside0.mk hz; have HGB := Aside0.mk hgb; clear hg_ hnew_ ho hb hz hzl hgb hgl hcl))
 go_ret
 have hp := (Kd.R_putg HO.out (i : Int) 1).1
 have he : z.set (i : Int).toNat 1 = unitRow n i := by rw [HZ.out]; rfl
 rw [he] at hp
 obtain ⟨A, c, e1, hc1, hC⟩ := Kd.R_reads hp
 have hlz : z.length = (unitRow n i).length := by rw [HZ.out, unitRow_length]; simp
 refine ⟨⟨A, c, ?_, hc1, hC⟩, below_set HB.out HGB.out⟩
 rw [← e1]
 rfl
end Go.Proofs.Ytfdkhkajehopkaa.Mb
namespace Go.Proofs.Ytfdkhkajehopkaa.Mb
open Go.RowKit Go.Proofs.YtfdkhkajehopkaaW.PrintWords Go.Proofs.YtfdkhkajehopkaaW.PrintLast Go.Proofs.YtfdkhkajehopkaaW.PrintMore
set_option linter.unusedVariables false
set_option linter.unusedSimpArgs false

set_option maxHeartbeats 8000000 in
set_option maxRecDepth 100000 in
theorem matrix_flat_I.calls (k kr : Nat) (p : Int) (A1 : Option Addr) (c1 : Nat) (m : List (List Int)) (fin : List (List Int) × Int × List Int) (gm : Nat) (w : World) (hr1 : Kd.C k2 w A1 m.length m) (hc1 : m.length ≤ c1) (hgm : w.cell? ⟨gm, 0, none⟩ = some (.slice A1 m.length c1)) (hck : matrix_Check.f k p m = some 0) (hsq : (rd_L1 m 0).length = m.length)
  (hred : red kr p m.length 0 (extend m (unitRow m.length) m.length) 1 [] = some fin) :
  Calls Try.prog 52 #[.int .u64 p, .slice A1 m.length c1, .func (.func 54) #[] #[.pointer (some ⟨gm, 0, none⟩)]] w fun e w' => ∃ b vr vl, e = .returned (.tuple #[.pointer (some ⟨b, 0, none⟩), .int .i64 0]) ∧ GridAt w w' b p vr fin.1 fin.2.1 vl fin.2.2 ∧ fin.1.length = m.length ∧ fin.2.2.length ≤ m.length ∧ Wide (m.length + m.length) fin.1 := by
 have hwd := check_wide hck
 rw [hsq] at hwd
 have HR := Aside0.mk hr1
 have HC := Aside0.mk hc1
 have HCK := Aside0.mk hck
 have HRED := Aside0.mk hred
 have HWD := Aside0.mk hwd
 have HSQ := Aside0.mk hsq
 have HGM := Aside0.mk hgm
 obtain ⟨ad, A0, c0, e1, hx, hl0, hi0⟩ := at_L1 hr1 0 (by omega) (by omega)
 subst e1
 have hx' : w.cell? ad = some (.slice A0 m.length c0) := by have h := hx; rwa [show (0 : Int).toNat = 0 from rfl, Addr.add_zero', hsq] at h
 have g1 : (0 < m.length) = True := eq_true (by omega)
 clear hwd hr1 hc1 hck hred hx hl0 hi0 hsq hgm
 go_enter Try.func52, Try.ntmps52
 go_wp2_with (first | (go_at_call 14; refine (matrix_Check.calls k p (some ad) c1 m 0 _ HR.out HC.out HCK.out).mono ?_; rintro e w1 ⟨rfl, hb⟩; have HB1 := Aside0.mk hb; have hx1 : w1.cell? ad = some (.slice A0 m.length c0) := (hb.cell (World.block_lt_of_cell? w _ hx')).trans hx'; clear hb) | (go_at_call 65; refine (matrix_own.calls p (some ad) c1 m _ (Kd.C_below HR.out HB1.out) HC.out (by have := HWD.out.2.1; omega) (fun row hrow => by rw [HWD.out.2.2.2.2 row hrow]; have := HWD.out.2.1; omega)).mono ?_; rintro e w2 ⟨b, vr, rfl, hg⟩; have HG0 := Aside0.mk hg; have hb1 : w2.cell? ⟨b, 1, none⟩ = some vr := (blk_cell hg.blk 1).trans rfl; obtain ⟨Av, cv, ev⟩ := Kd.S_slice hg.rws; subst ev; clear hg))
 have HGE : Aside0 (GridAt w w2 b p (.slice Av m.length cv) (extend m (unitRow m.length) 0) 1 (.slice none 0 0) []) := ⟨by rw [extend_zero]; exact HG0.out.lower HB1.out⟩
 clear HG0 hx1 hx'
 go_loopg [32] (m.length + 1) (fun kq v32 w' => ∃ i : Nat, v32 = .int .i64 (i : Int) ∧ Aside0 (i ≤ m.length ∧ kq = m.length + 1 - i) ∧ Aside0 (GridAt w w' b p (.slice Av m.length cv) (extend m (unitRow m.length) i) 1 (.slice none 0 0) []))
 case atStart => exact ⟨0, rfl, ⟨by omega, by omega⟩, HGE⟩
 case round =>
  clear HGE hb1
  obtain ⟨i, rfl, HI, HG⟩ := hrel
  cases gk with
  | zero => exact absurd HI.out.2 (by have := HI.out.1; omega)
  | succ k1 =>
   have hi63 : (i : Int) ≤ 9223372036854775806 := by have := HI.out; have := HWD.out.2.1; omega
   by_cases hlt : i < m.length
   ·have b1 : decide ((i : Int) < (m.length : Int)) = true := decide_eq_true (by omega)
    have b1' : decide (i < m.length) = true := decide_eq_true hlt
    obtain ⟨row, hrow⟩ : ∃ row, m[i]? = some row := ⟨_, List.getElem?_eq_getElem hlt⟩
    have hrl : row.length = m.length := HWD.out.2.2.2.2 row (List.mem_of_getElem? hrow)
    have hex := extend_get (ext := (unitRow m.length)) (i := i) hrow
    rw [if_neg (Nat.lt_irrefl i)] at hex
    have HNX := Aside0.mk (extend_succ (ext := (unitRow m.length)) hrow)
    obtain ⟨g, cap, A, c, oki, RA, hfr, hR, hH⟩ := row_out HG.out.rws hex
    have e1 := RA.vr_
    injection e1 with e1 el_ e3
    clear el_
    subst e1 e3
    rw [extend_length] at hH
    have hhd := RA.head
    have hhf := RA.free
    have hb1 : wr.cell? ⟨b, 1, none⟩ = some (.slice (some ⟨g, 0, none⟩) m.length cv) := (blk_cell HG.out.blk 1).trans rfl
    have RA := Aside0.mk RA
    have HFR := Aside0.mk hfr
    have HRR := Aside0.mk hR
    have HH := Aside0.mk hH
    have HRL := Aside0.mk hrl
    have HLT := Aside0.mk hlt
    have g2 : (i < m.length) = True := eq_true hlt
    clear hfr hR hH hrl hlt hrow hex
    go_wp2
    refine start_ (n := 18) (S := fun w' => w'.cell? ⟨b, 1, none⟩ = some (.slice (some ⟨g, 0, none⟩) m.length cv) ∧ w'.cell? ⟨g, i, none⟩ = some (.slice A row.length c)) (ds := [17]) #[false, false, false, false, false, false, false, false, false, false, false, false, false, false, false, false, false, false] (by kernel_rfl) rfl rfl ⟨hb1, hhd⟩ (fun hHeld => ?_); refine with_tabW matrix_flat.tab10 matrix_flat.bits10 (fun HT_ HW_ => ?_)
    refine pure_ (i := 0) (N := some 35) (v := ?_) (a' := ?_) #[true, false, false, false, false, false, false, false, false, false, false, false, false, false, false, false, false, false] rfl rfl (any_of HT_.out (by kernel_rfl)) (fun _ _ _ h => h) (Or.inl ⟨by rfl, ?_⟩) ?_ ?_
    rotate_left
    ·intro w'
     go_simp
     (try with_reducible rfl)
    rotate_left
    ·simp only [Act.put, List.setIfInBounds_toArray, List.set_cons_zero, List.set_cons_succ, i64_w, i32_w]
     rfl
    refine pure_ (i := 1) (N := some 36) (v := ?_) (a' := ?_) #[true, true, false, false, false, false, false, false, false, false, false, false, false, false, false, false, false, false] rfl rfl (any_of HT_.out (by kernel_rfl)) (fun _ _ _ h => h) (Or.inl ⟨by rfl, ?_⟩) ?_ ?_
    rotate_left
    ·intro w'
     go_simp
     (try with_reducible rfl)
    rotate_left
    ·simp only [Act.put, List.setIfInBounds_toArray, List.set_cons_zero, List.set_cons_succ, i64_w, i32_w]
     rfl
    refine pure_ (i := 2) (N := some 37) (v := ?_) (a' := ?_) #[true, true, true, false, false, false, false, false, false, false, false, false, false, false, false, false, false, false] rfl rfl (any_of HT_.out (by kernel_rfl)) (fun _ _ _ h => h) (Or.inl ⟨by rfl, ?_⟩) ?_ ?_
    rotate_left
    ·intro w'
     go_simp
     (try with_reducible rfl)
    rotate_left
    ·simp only [Act.put, List.setIfInBounds_toArray, List.set_cons_zero, List.set_cons_succ, i64_w, i32_w]
     rfl
    refine pure_ (i := 4) (N := some 39) (v := ?_) (a' := ?_) #[true, true, true, false, true, false, false, false, false, false, false, false, false, false, false, false, false, false] rfl rfl (any_of HT_.out (by kernel_rfl)) (fun _ _ _ h => h) (Or.inl ⟨by rfl, ?_⟩) ?_ ?_
    rotate_left
    ·intro w'
     go_simp
     (try with_reducible rfl)
    rotate_left
    ·simp only [Act.put, List.setIfInBounds_toArray, List.set_cons_zero, List.set_cons_succ, i64_w, i32_w]
     rfl
    refine pure_ (i := 5) (N := some 40) (v := ?_) (a' := ?_) #[true, true, true, false, true, true, false, false, false, false, false, false, false, false, false, false, false, false] rfl rfl (any_of HT_.out (by kernel_rfl)) (fun _ _ _ h => h) (Or.inl ⟨by rfl, ?_⟩) ?_ ?_
    rotate_left
    ·intro w'
     go_simp
     (try with_reducible rfl)
    rotate_left
    ·simp only [Act.put, List.setIfInBounds_toArray, List.set_cons_zero, List.set_cons_succ, i64_w, i32_w]
     rfl
    refine pure_ (i := 6) (N := some 41) (v := ?_) (a' := ?_) #[true, true, true, false, true, true, true, false, false, false, false, false, false, false, false, false, false, false] rfl rfl (any_of HT_.out (by kernel_rfl)) (fun _ _ _ h => h) (Or.inl ⟨by rfl, ?_⟩) ?_ ?_
    rotate_left
    ·intro w'
     go_simp
     (try with_reducible rfl)
    rotate_left
    ·simp only [Act.put, List.setIfInBounds_toArray, List.set_cons_zero, List.set_cons_succ, i64_w, i32_w]
     rfl
    refine pure_ (i := 7) (N := some 42) (v := ?_) (a' := ?_) #[true, true, true, false, true, true, true, true, false, false, false, false, false, false, false, false, false, false] rfl rfl (any_of HT_.out (by kernel_rfl)) (fun _ _ _ h => h) (Or.inl ⟨by rfl, ?_⟩) ?_ ?_
    rotate_left
    ·intro w'
     go_simp
     (try with_reducible rfl)
    rotate_left
    ·simp only [Act.put, List.setIfInBounds_toArray, List.set_cons_zero, List.set_cons_succ, i64_w, i32_w]
     rfl
    refine pure_ (i := 9) (N := some 44) (v := ?_) (a' := ?_) #[true, true, true, false, true, true, true, true, false, true, false, false, false, false, false, false, false, false] rfl rfl (any_of HT_.out (by kernel_rfl)) (fun _ _ _ h => h) (Or.inl ⟨by rfl, ?_⟩) ?_ ?_
    rotate_left
    ·intro w'
     go_simp
     (try with_reducible rfl)
    rotate_left
    ·simp only [Act.put, List.setIfInBounds_toArray, List.set_cons_zero, List.set_cons_succ, i64_w, i32_w]
     rfl
    refine pure_ (i := 12) (N := some 47) (v := ?_) (a' := ?_) #[true, true, true, false, true, true, true, true, false, true, false, false, true, false, false, false, false, false] rfl rfl (any_of HT_.out (by kernel_rfl)) (fun _ _ _ h => h) (Or.inl ⟨by rfl, ?_⟩) ?_ ?_
    rotate_left
    ·intro w'
     go_simp
     (try with_reducible rfl)
    rotate_left
    ·simp only [Act.put, List.setIfInBounds_toArray, List.set_cons_zero, List.set_cons_succ, i64_w, i32_w]
     rfl
    refine pure_ (i := 13) (N := some 48) (v := ?_) (a' := ?_) #[true, true, true, false, true, true, true, true, false, true, false, false, true, true, false, false, false, false] rfl rfl (any_of HT_.out (by kernel_rfl)) (fun _ _ _ h => h) (Or.inl ⟨by rfl, ?_⟩) ?_ ?_
    rotate_left
    ·intro w'
     go_simp
     (try with_reducible rfl)
    rotate_left
    ·simp only [Act.put, List.setIfInBounds_toArray, List.set_cons_zero, List.set_cons_succ, i64_w, i32_w]
     rfl
    refine take_ (i := 3) (N := some 38) (v := ?_) (a' := ?_) #[true, true, true, true, true, true, true, true, false, true, false, false, true, true, false, false, false, false] rfl rfl (take_ofW HT_.out HW_.out (by kernel_rfl)) (fun _ _ _ h => h) (Or.inl ⟨by rfl, ?_⟩) hHeld ?_ ?_
    rotate_left
    ·rintro w' ⟨s0, s1⟩
     go_simp
     (try with_reducible rfl)
    rotate_left
    ·simp only [Act.put, List.setIfInBounds_toArray, List.set_cons_zero, List.set_cons_succ, i64_w, i32_w]
     rfl
    refine take_ (i := 8) (N := some 43) (v := ?_) (a' := ?_) #[true, true, true, true, true, true, true, true, true, true, false, false, true, true, false, false, false, false] rfl rfl (take_ofW HT_.out HW_.out (by kernel_rfl)) (fun _ _ _ h => h) (Or.inl ⟨by rfl, ?_⟩) hHeld ?_ ?_
    rotate_left
    ·rintro w' ⟨s0, s1⟩
     go_simp
     (try with_reducible rfl)
    rotate_left
    ·simp only [Act.put, List.setIfInBounds_toArray, List.set_cons_zero, List.set_cons_succ, i64_w, i32_w]
     rfl
    refine pure_ (i := 10) (N := some 45) (v := ?_) (a' := ?_) #[true, true, true, true, true, true, true, true, true, true, true, false, true, true, false, false, false, false] rfl rfl (any_of HT_.out (by kernel_rfl)) (fun _ _ _ h => h) (Or.inl ⟨by rfl, ?_⟩) ?_ ?_
    rotate_left
    ·intro w'
     go_simp
     (try with_reducible rfl)
    rotate_left
    ·simp only [Act.put, List.setIfInBounds_toArray, List.set_cons_zero, List.set_cons_succ, i64_w, i32_w]
     rfl
    refine take_ (i := 11) (N := some 46) (v := ?_) (a' := ?_) #[true, true, true, true, true, true, true, true, true, true, true, true, true, true, false, false, false, false] rfl rfl (take_ofW HT_.out HW_.out (by kernel_rfl)) (fun _ _ _ h => h) (Or.inl ⟨by rfl, ?_⟩) hHeld ?_ ?_
    rotate_left
    ·rintro w' ⟨s0, s1⟩
     go_simp
     (try with_reducible rfl)
    rotate_left
    ·simp only [Act.put, List.setIfInBounds_toArray, List.set_cons_zero, List.set_cons_succ, i64_w, i32_w]
     rfl
    refine one_ (i := 14) (N := some 49) #[true, true, true, true, true, true, true, true, true, true, true, true, true, true, true, false, false, false] rfl rfl (one_of HT_.out (by kernel_rfl)) (by decide) (fun K hK => ?_)
    refine call_ 54 (#[.int .i64 (i : Int)] ++ #[.pointer (some ⟨gm, 0, none⟩)]) (by rfl) rfl (by first | (go_simp; done) | (go_simp; rfl)) ?_
    refine (matrix_Inverse_1.calls i m.length gm (some ad) c1 _ (((below_drew1 HG.out.low).cell (World.block_lt_of_cell? w _ HGM.out)).trans HGM.out) HLT.out (by have := HWD.out.2.1; omega)).mono ?_
    rintro e wc ⟨⟨A9, c9, rfl, hc9, hC9⟩, hb⟩
    refine ⟨_, rfl, ?_⟩
    have hbk := (hb.block b (blk_lt HG.out.blk)).trans HG.out.blk
    have hcg := (hb.cell (World.block_lt_of_cell? _ _ hhd)).trans hhd
    have HRC := Aside0.mk (Kd.R_below (Kd.R_drew HRR.out) hb)
    have HHC := Aside0.mk (Kd.H_below (Kd.H_drew HH.out) hb)
    have HLC := Aside0.mk (below_step (below_drew1 HG.out.low) hb)
    have HSZ := Aside0.mk (below_size hb)
    have HC9 := Aside0.mk hC9
    have HBK := Aside0.mk hbk
    have hb1c : wc.cell? ⟨b, 1, none⟩ = some (.slice (some ⟨g, 0, none⟩) m.length cv) := (blk_cell hbk 1).trans rfl
    have HKC := Aside0.mk (KeepT.below (KeepT.drew (KeepT.refl [22] wr)) hb)
    clear hb hbk hC9
    refine hK.out _ _ ⟨hb1c, hcg⟩ (fun hHeld => ?_)
    clear hK K
    refine norm_ (a' := ?_) ?_ ?_
    rotate_left
    ·show Act.put _ (some 49) _ = _
     simp only [Act.put, List.setIfInBounds_toArray, List.set_cons_zero, List.set_cons_succ, i64_w, i32_w]
     rfl
    refine one_ (i := 15) (N := some 50) #[true, true, true, true, true, true, true, true, true, true, true, true, true, true, true, true, false, false] rfl rfl (one_of HT_.out (by kernel_rfl)) (by decide) (fun K hK => ?_)
    refine Kd.R_append_rows_step (Kd.int .u64) (w0 := w) w.heap.size (by rfl) (.tmp 46) (.tmp 49) 33 22 (.int .u64 0) 8 rfl Try.underlying33 info22 rfl (by decide) (by omega) (.slice A row.length c) row (unitRow m.length i) _ _ _ oki (fun _ => False) rfl rfl HRC.out HC9.out (fun _ _ h => h) (fun _ h => h.elim) ?aF HLC.out (below_size HLC.out) ?aL ?_
    case aF => exact fun k hk => HFR.out k (Nat.le_trans HSZ.out hk)
    case aL => have := HRL.out; have := HWD.out.2.1; simp only [List.length_nil, unitRow_length]; omega
    intro v1 w3 ho hb2 hg hat
    obtain ⟨rw1, hrw1⟩ : ∃ r_, r_ = row ++ (unitRow m.length i) := ⟨_, rfl⟩
    rw [← hrw1] at ho
    obtain ⟨A8, c8, e8⟩ := Kd.R_slice ho
    subst e8
    have HRW := Aside0.mk hrw1
    have hH3 := Kd.H_grown HHC.out hg (fun k hk => HRC.out.1 k hk)
    have hat3 := Kd.H_at hH3 (Int.natCast_nonneg i) (Int.ofNat_lt.2 HLT.out)
    have hc3 := hat3.1 0 _ rfl
    have hf3 := hat3.2 0
    rw [show (i : Int).toNat * k2.sz + 0 = i from by show i * 1 + 0 = i; omega] at hc3 hf3
    have HH3 := Aside0.mk hH3
    have hk3 := KeepT.grown HKC.out hg (fun k hk => own_typed (Kd.R_own HRC.out).choose_spec k hk) (by decide)
    have hbk3 := hk3.2 b 75 _ HG.out.blk (by decide)
    have hb13 : w3.cell? ⟨b, 1, none⟩ = some (.slice (some ⟨g, 0, none⟩) m.length cv) := (blk_cell hbk3 1).trans rfl
    have HBK3 := Aside0.mk hbk3
    have HK3 := Aside0.mk hk3
    have HO3 := Aside0.mk ho
    have HL3 := Aside0.mk hb2
    clear hrw1 hH3 hat3 hk3 hbk3 ho hb2 hg hat
    refine hK.out _ _ ⟨hb13, hc3⟩ (fun hHeld => ?_)
    clear hK K
    refine norm_ (a' := ?_) ?_ ?_
    rotate_left
    ·show Act.put _ (some 50) _ = _
     simp only [Act.put, List.setIfInBounds_toArray, List.set_cons_zero, List.set_cons_succ, i64_w, i32_w]
     rfl
    refine pure_ (i := 16) (N := some 51) (v := ?_) (a' := ?_) #[true, true, true, true, true, true, true, true, true, true, true, true, true, true, true, true, true, false] rfl rfl (any_of HT_.out (by kernel_rfl)) (fun _ _ _ h => h) (Or.inl ⟨by rfl, ?_⟩) ?_ ?_
    rotate_left
    ·intro w'
     go_simp
     (try with_reducible rfl)
    rotate_left
    ·simp only [Act.put, List.setIfInBounds_toArray, List.set_cons_zero, List.set_cons_succ, i64_w, i32_w]
     rfl
    refine last_ (i := 17) (N := none) #[true, true, true, true, true, true, true, true, true, true, true, true, true, true, true, true, true, true] rfl rfl (one_of HT_.out (by kernel_rfl)) (by decide) (fun K hK => ?_)
    refine skip_ (w1 := ?_) (by rfl) rfl ?_ ?_
    rotate_left
    ·go_simp
     (try rfl)
    refine hK.out _ _ ?_
    clear hK K
    refine done_ (done_of HT_.out (by kernel_rfl)) ?_
    try go_wp2
    go_roundg k1
    case measure => omega
    case rel =>
     obtain ⟨cellsg, hty⟩ := RA.out.ty
     have hty3 := HK3.out.2 g 33 cellsg hty (by decide)
     have hs := row_back HH3.out HLT.out HO3.out
     have hse : (extend m (unitRow m.length) i).set i rw1 = extend m (unitRow m.length) (i + 1) := by rw [HRW.out]; exact HNX.out
     rw [hse] at hs
     exact ⟨i + 1, by go_num, ⟨HLT.out, by have := HI.out; omega⟩, ⟨⟨(KeepT.set (ts := [33]) (KeepT.refl _ w3) hty3 (by decide) i _).2 b 75 _ HBK3.out (by decide), HG.out.gb, hs, Kd.R_nil _ _ _ _ _, below_set HL3.out RA.out.gb⟩⟩⟩
   ·have hin : i = m.length := by have := HI.out.1; omega
    subst hin
    have b1 : decide ((m.length : Int) < (m.length : Int)) = false := decide_eq_false (by omega)
    have b1' : decide (m.length < m.length) = false := decide_eq_false (by omega)
    clear hlt
    have HWX : Aside0 (Wide (m.length + m.length) (extend m (unitRow m.length) m.length)) := ⟨extend_wide HWD.out.2.2.2.2 (fun j _ => unitRow_length _ _)⟩
    go_wp2_with (go_at_call 66; refine (grid_reduce.calls kr p 1 (extend m (unitRow m.length) m.length) [] (m.length + m.length) m.length m.length fin (.slice Av m.length cv) (.slice none 0 0) b w _ HG.out (extend_length _ _ _) (by have := HWD.out.2.1; omega) (by have := HWD.out.2.1; omega) HWX.out (by omega) (Nat.zero_le _) HRED.out).mono ?_; rintro e w5 ⟨rfl, ⟨vl', hg⟩, h1, h2, h3, h4⟩; have HG5 := Aside0.mk hg; have H1 := Aside0.mk h1; have H2 := Aside0.mk h2; have H3 := Aside0.mk h3; clear hg h1 h2 h3 h4)
    go_ret2
    exact ⟨b, _, vl', rfl, HG5.out, H1.out, H3.out, H2.out⟩
end Go.Proofs.Ytfdkhkajehopkaa.Mb
