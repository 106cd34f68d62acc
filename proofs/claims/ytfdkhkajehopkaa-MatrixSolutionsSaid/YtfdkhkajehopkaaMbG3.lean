/- matrix: Det, Inverse, Answer, Reduce. -/
import Derived.Test.YtfdkhkajehopkaaMbG2
import Derived.BigRegion
import Derived.RegionTactic
import Derived.Deep.DeepMust
import Derived.OwnWalk
namespace Go.Proofs.Ytfdkhkajehopkaa.Mb
open Go.RowKit Go.Proofs.YtfdkhkajehopkaaW.PrintWords Go.Proofs.YtfdkhkajehopkaaW.PrintLast Go.Proofs.YtfdkhkajehopkaaW.PrintMore
set_option linter.unusedVariables false
set_option linter.unusedSimpArgs false

theorem liftR_mono {k : Nat} {p det : Int} {rows : List (List Int)} {at_ col : Nat} : LeO (liftR k p rows det at_ col) (liftR (k + 1) p rows det at_ col) := by
 intro r h
 unfold liftR at h ⊢
 split at h
 ·exact h
 ·rename_i i0 hs
  simp only [Option.bind_eq_some_iff] at h ⊢
  obtain ⟨d1, h1, d2, h2, ov, h3, rest⟩ := h
  exact ⟨d1, h1, d2, h2, ov, field_Over.mono _ _ k _ h3, rest⟩
theorem red_mono {k : Nat} {p : Int} : ∀ (d c : Nat) (rows : List (List Int)) (det : Int) (lead : List Int), LeO (red k p d c rows det lead) (red (k + 1) p d c rows det lead)
 | 0, c, rows, det, lead => fun r h => h
 | d + 1, c, rows, det, lead => fun r h => by
  simp only [red] at h ⊢
  by_cases cc : lead.length < rows.length
  ·rw [if_pos cc] at h ⊢
   rw [Option.bind_eq_some_iff] at h ⊢
   obtain ⟨o, ho, h⟩ := h
   refine ⟨o, liftR_mono _ ho, ?_⟩
   cases o with
   | none => exact red_mono d _ _ _ _ _ h
   | some q =>
    simp only [Option.bind_eq_some_iff] at h ⊢
    obtain ⟨r2, h1, h2⟩ := h
    exact ⟨r2, h1, red_mono d _ _ _ _ _ h2⟩
  ·rw [if_neg cc] at h ⊢; exact h
def matrix_Det.f (k : Nat) (a0 : Int) (l1 : List (List Int)) : Option (Int × Int) := (matrix_Check.f k a0 l1).bind fun t => if t = 0 then (if (rd_L1 l1 0).length = l1.length then (red k a0 l1.length 0 (extend l1 (fun _ => []) l1.length) 1 []).bind fun fin => (if fin.2.2.length < l1.length then some (0, 0) else some (fin.2.1, 0)) else some (0, 2)) else some (0, t)
theorem matrix_Det.mono : ∀ a0 a1 k, LeO (matrix_Det.f k a0 a1) (matrix_Det.f (k + 1) a0 a1) := by
 intro a0 a1 k r h
 unfold matrix_Det.f at h ⊢
 rw [Option.bind_eq_some_iff] at h ⊢
 obtain ⟨t, h1, h2⟩ := h
 refine ⟨t, matrix_Check.mono a0 a1 k _ h1, ?_⟩
 by_cases c1 : t = 0
 ·rw [if_pos c1] at h2 ⊢
  by_cases c2 : (rd_L1 a1 0).length = a1.length
  ·rw [if_pos c2] at h2 ⊢
   rw [Option.bind_eq_some_iff] at h2 ⊢
   obtain ⟨f, h3, h4⟩ := h2
   exact ⟨f, red_mono _ _ _ _ _ _ h3, h4⟩
  ·rw [if_neg c2] at h2 ⊢; exact h2
 ·rw [if_neg c1] at h2 ⊢; exact h2
set_option maxHeartbeats 8000000 in
set_option maxRecDepth 100000 in
theorem matrix_flat_bad.calls (k : Nat) (p : Int) (A1 : Option Addr) (c1 : Nat) (m : List (List Int)) (t : Int) (clo : Value) (w : World) (hr1 : Kd.C k2 w A1 m.length m) (hc1 : m.length ≤ c1) (hck : matrix_Check.f k p m = some t) (ht : t ≠ 0) :
  Calls Try.prog 52 #[.int .u64 p, .slice A1 m.length c1, clo] w fun e w' => e = .returned (.tuple #[.pointer none, .int .i64 t]) ∧ Below w.heap.size w w' := by
 have HR := Aside0.mk hr1
 have HC := Aside0.mk hc1
 have HCK := Aside0.mk hck
 have b1 : (t != 0) = true := bne_iff_ne.mpr ht
 clear hr1 hc1 hck ht
 go_enter Try.func52, Try.ntmps52
 go_wp2_with (first | (go_at_call 14; refine (matrix_Check.calls k p A1 c1 m t _ HR.out HC.out HCK.out).mono ?_; rintro e w1 ⟨rfl, hb⟩; have HB1 := Aside0.mk hb; clear hb))
 go_ret2
 exact ⟨rfl, HB1.out⟩
set_option maxHeartbeats 8000000 in
set_option maxRecDepth 100000 in
theorem matrix_flat_odd.calls (k : Nat) (p : Int) (A1 : Option Addr) (c1 : Nat) (m : List (List Int)) (clo : Value) (w : World) (hr1 : Kd.C k2 w A1 m.length m) (hc1 : m.length ≤ c1) (hck : matrix_Check.f k p m = some 0) (hsq : ¬ (rd_L1 m 0).length = m.length) :
  Calls Try.prog 52 #[.int .u64 p, .slice A1 m.length c1, clo] w fun e w' => e = .returned (.tuple #[.pointer none, .int .i64 2]) ∧ Below w.heap.size w w' := by
 have hwd := check_wide hck
 have HR := Aside0.mk hr1
 have HC := Aside0.mk hc1
 have HCK := Aside0.mk hck
 obtain ⟨ad, A0, c0, e1, hx, hl0, hi0⟩ := at_L1 hr1 0 (by omega) (by omega)
 subst e1
 have hx' : w.cell? ad = some (.slice A0 (rd_L1 m 0).length c0) := by have h := hx; rwa [show (0 : Int).toNat = 0 from rfl, Addr.add_zero'] at h
 obtain ⟨L, hL⟩ : ∃ L, (rd_L1 m 0).length = L := ⟨_, rfl⟩
 rw [hL] at hx' hsq
 have b2 : ((m.length : Int) != (L : Int)) = true := bne_iff_ne.mpr (by omega)
 have g1 : (0 < m.length) = True := eq_true (by omega)
 clear hwd hr1 hc1 hck hsq hx hl0 hi0 hL
 go_enter Try.func52, Try.ntmps52
 go_wp2_with (first | (go_at_call 14; refine (matrix_Check.calls k p (some ad) c1 m 0 _ HR.out HC.out HCK.out).mono ?_; rintro e w1 ⟨rfl, hb⟩; have HB1 := Aside0.mk hb; have hx1 : w1.cell? ad = some (.slice A0 L c0) := (hb.cell (World.block_lt_of_cell? w _ hx')).trans hx'; clear hb))
 go_ret2
 exact ⟨rfl, HB1.out⟩
set_option maxHeartbeats 8000000 in
set_option maxRecDepth 100000 in
theorem matrix_Det.calls (k : Nat) (a0 : Int) (A1 : Option Addr) (c1 : Nat) (l1 : List (List Int)) (r1 : Int) (r2 : Int) (w : World) (hr1 : Kd.C k2 w A1 l1.length l1) (hc1 : l1.length ≤ c1) (h : matrix_Det.f k a0 l1 = some (r1, r2)) :
  Calls Try.prog 17 #[.int .u64 a0, .slice A1 l1.length c1] w fun e w' => e = .returned (.tuple #[.int .u64 r1, .int .i64 r2]) ∧ Below w.heap.size w w' := by
 have HR := Aside0.mk hr1
 have HC := Aside0.mk hc1
 unfold matrix_Det.f at h
 rw [Option.bind_eq_some_iff] at h
 obtain ⟨t, ht, h⟩ := h
 have HT := Aside0.mk ht
 by_cases z1 : t = 0
 ·rw [if_pos z1] at h
  subst z1
  by_cases z2 : (rd_L1 l1 0).length = l1.length
  ·rw [if_pos z2, Option.bind_eq_some_iff] at h
   obtain ⟨fin, hf, h⟩ := h
   have HF := Aside0.mk hf
   have HS := Aside0.mk z2
   have hle : fin.2.2.length ≤ 9223372036854775807 ∨ True := .inr trivial
   obtain ⟨n, hn⟩ : ∃ n, l1.length = n := ⟨_, rfl⟩
   obtain ⟨q, hq⟩ : ∃ q, fin.2.2.length = q := ⟨_, rfl⟩
   have HQ := Aside0.mk hq
   by_cases z3 : fin.2.2.length < l1.length
   ·rw [if_pos z3] at h
    obtain ⟨rfl, rfl⟩ : (0 : Int) = r1 ∧ (0 : Int) = r2 := by injection h with h; injection h with a b; exact ⟨a, b⟩
    have b3 : decide ((q : Int) < (l1.length : Int)) = true := decide_eq_true (by omega)
    have b3' : decide (q < l1.length) = true := decide_eq_true (by omega)
    clear hr1 hc1 ht h hf z2 z3 hle hn hq
    go_enter Try.func17, Try.ntmps17
    go_wp2_with (first | (go_at_call 52; refine (matrix_flat_D.calls k k a0 A1 c1 l1 fin _ HR.out HC.out HT.out HS.out HF.out).mono ?_; rintro e w1 ⟨b, vr, vl, rfl, hg, h1, h2⟩; obtain ⟨Al, cl, el⟩ := Kd.R_slice hg.led; rw [HQ.out] at el; have hb3 : w1.cell? ⟨b, 3, none⟩ = some vl := (blk_cell hg.blk 3).trans rfl; have hb2 : w1.cell? ⟨b, 2, none⟩ = some (.int .u64 fin.2.1) := (blk_cell hg.blk 2).trans rfl; subst el; have HL := Aside0.mk hg.low; clear hg h1 h2))
    go_ret2
    exact ⟨rfl, HL.out⟩
   ·rw [if_neg z3] at h
    obtain ⟨rfl, rfl⟩ : fin.2.1 = r1 ∧ (0 : Int) = r2 := by injection h with h; injection h with a b; exact ⟨a, b⟩
    have b3 : decide ((q : Int) < (l1.length : Int)) = false := decide_eq_false (by omega)
    have b3' : decide (q < l1.length) = false := decide_eq_false (by omega)
    clear hr1 hc1 ht h hf z2 z3 hle hn hq
    go_enter Try.func17, Try.ntmps17
    go_wp2_with (first | (go_at_call 52; refine (matrix_flat_D.calls k k a0 A1 c1 l1 fin _ HR.out HC.out HT.out HS.out HF.out).mono ?_; rintro e w1 ⟨b, vr, vl, rfl, hg, h1, h2⟩; obtain ⟨Al, cl, el⟩ := Kd.R_slice hg.led; rw [HQ.out] at el; have hb3 : w1.cell? ⟨b, 3, none⟩ = some vl := (blk_cell hg.blk 3).trans rfl; have hb2 : w1.cell? ⟨b, 2, none⟩ = some (.int .u64 fin.2.1) := (blk_cell hg.blk 2).trans rfl; subst el; have HL := Aside0.mk hg.low; clear hg h1 h2))
    go_ret2
    exact ⟨rfl, HL.out⟩
  ·rw [if_neg z2] at h
   obtain ⟨rfl, rfl⟩ : (0 : Int) = r1 ∧ (2 : Int) = r2 := by injection h with h; injection h with a b; exact ⟨a, b⟩
   have HS := Aside0.mk z2
   clear hr1 hc1 ht h z2
   go_enter Try.func17, Try.ntmps17
   go_wp2_with (first | (go_at_call 52; refine (matrix_flat_odd.calls k a0 A1 c1 l1 _ _ HR.out HC.out HT.out HS.out).mono ?_; rintro e w1 ⟨rfl, hb⟩; have HL := Aside0.mk hb; clear hb))
   go_ret2
   exact ⟨rfl, HL.out⟩
 ·rw [if_neg z1] at h
  obtain ⟨rfl, rfl⟩ : (0 : Int) = r1 ∧ t = r2 := by injection h with h; injection h with a b; exact ⟨a, b⟩
  have b1 : (t != 0) = true := bne_iff_ne.mpr z1
  have HZ := Aside0.mk z1
  clear hr1 hc1 ht h z1
  go_enter Try.func17, Try.ntmps17
  go_wp2_with (first | (go_at_call 52; refine (matrix_flat_bad.calls k a0 A1 c1 l1 t _ _ HR.out HC.out HT.out HZ.out).mono ?_; rintro e w1 ⟨rfl, hb⟩; have HL := Aside0.mk hb; clear hb))
  go_ret2
  exact ⟨rfl, HL.out⟩
end Go.Proofs.Ytfdkhkajehopkaa.Mb
namespace Go.Proofs.Ytfdkhkajehopkaa.Mb
open Go.RowKit Go.Proofs.YtfdkhkajehopkaaW.PrintWords Go.Proofs.YtfdkhkajehopkaaW.PrintLast Go.Proofs.YtfdkhkajehopkaaW.PrintMore
set_option linter.unusedVariables false
set_option linter.unusedSimpArgs false
def matrix_Inverse.T9 : Bool × List (List Nat × List Nat) := (true, [([], []), ([0], [0]), ([1], [1]), ([2], [2]), ([], []), ([], []), ([], []), ([6], [6]), ([5, 7], [5, 7]), ([8], [8]), ([3, 4, 0, 1, 2, 3, 4, 5, 6, 7, 8, 9], [3, 4]), ([10, 9, 9, 0, 1, 2, 3, 4, 5, 6, 7, 8, 9], [9, 10])])
def matrix_Inverse.B9 : List Nat := [0, 1, 3, 7, 0, 0, 0, 64, 224, 480, 1023, 2047]
theorem matrix_Inverse.tab9 : rtab .any (opsOf Try.f18 9) = matrix_Inverse.T9 := by kernel_rfl
theorem matrix_Inverse.bits9 : waitsOk matrix_Inverse.T9.2 matrix_Inverse.B9 = true := by kernel_rfl
def mapTo (f : Nat → List Int → List Int) (m : List (List Int)) (i : Nat) : List (List Int) := m.zipIdx.map fun q => if q.2 < i then f q.2 q.1 else q.1
theorem mapTo_length (f : Nat → List Int → List Int) (m : List (List Int)) (i : Nat) : (mapTo f m i).length = m.length := by simp [mapTo]
theorem mapTo_get {f : Nat → List Int → List Int} {m : List (List Int)} {i j : Nat} {row : List Int} (h : m[j]? = some row) : (mapTo f m i)[j]? = some (if j < i then f j row else row) := by
 unfold mapTo
 rw [List.getElem?_map, List.getElem?_zipIdx, h]
 simp
theorem mapTo_zero (f : Nat → List Int → List Int) (m : List (List Int)) : mapTo f m 0 = m := by
 refine List.ext_getElem? fun j => ?_
 cases h : m[j]? with
 | none => rw [List.getElem?_eq_none (by rw [mapTo_length]; exact List.getElem?_eq_none_iff.1 h)]
 | some row => rw [mapTo_get h, if_neg (Nat.not_lt_zero _)]
theorem mapTo_succ {f : Nat → List Int → List Int} {m : List (List Int)} {i : Nat} {row : List Int} (h : m[i]? = some row) : (mapTo f m i).set i (f i row) = mapTo f m (i + 1) := by
 refine List.ext_getElem? fun j => ?_
 by_cases e : j = i
 ·subst e
  rw [List.getElem?_set_self (by rw [mapTo_length]; exact (List.getElem?_eq_some_iff.1 h).1), mapTo_get h, if_pos (Nat.lt_succ_self _)]
 ·rw [List.getElem?_set_ne (Ne.symm e)]
  cases hj : m[j]? with
  | none => rw [List.getElem?_eq_none (by rw [mapTo_length]; exact List.getElem?_eq_none_iff.1 hj), List.getElem?_eq_none (by rw [mapTo_length]; exact List.getElem?_eq_none_iff.1 hj)]
  | some r =>
   rw [mapTo_get hj, mapTo_get hj]
   by_cases c : j < i
   ·rw [if_pos c, if_pos (by omega)]
   ·rw [if_neg c, if_neg (by omega)]
theorem mapTo_full (f : List Int → List Int) (m : List (List Int)) : mapTo (fun _ => f) m m.length = m.map f := by
 refine List.ext_getElem? fun j => ?_
 cases h : m[j]? with
 | none => rw [List.getElem?_eq_none (by rw [mapTo_length]; exact List.getElem?_eq_none_iff.1 h), List.getElem?_map, h]; rfl
 | some row => rw [mapTo_get h, if_pos (List.getElem?_eq_some_iff.1 h).1, List.getElem?_map, h]; rfl
def matrix_Inverse.f (k : Nat) (a0 : Int) (l1 : List (List Int)) : Option (List (List Int) × Int) := (matrix_Check.f k a0 l1).bind fun t => if t = 0 then (if (rd_L1 l1 0).length = l1.length then (red k a0 l1.length 0 (extend l1 (unitRow l1.length) l1.length) 1 []).bind fun fin => (if fin.2.2.length < l1.length then some ([], 7) else some (fin.1.map (·.drop l1.length), 0)) else some ([], 2)) else some ([], t)
theorem matrix_Inverse.mono : ∀ a0 a1 k, LeO (matrix_Inverse.f k a0 a1) (matrix_Inverse.f (k + 1) a0 a1) := by
 intro a0 a1 k r h
 unfold matrix_Inverse.f at h ⊢
 rw [Option.bind_eq_some_iff] at h ⊢
 obtain ⟨t, h1, h2⟩ := h
 refine ⟨t, matrix_Check.mono a0 a1 k _ h1, ?_⟩
 by_cases c1 : t = 0
 ·rw [if_pos c1] at h2 ⊢
  by_cases c2 : (rd_L1 a1 0).length = a1.length
  ·rw [if_pos c2] at h2 ⊢
   rw [Option.bind_eq_some_iff] at h2 ⊢
   obtain ⟨f, h3, h4⟩ := h2
   exact ⟨f, red_mono _ _ _ _ _ _ h3, h4⟩
  ·rw [if_neg c2] at h2 ⊢; exact h2
 ·rw [if_neg c1] at h2 ⊢; exact h2
set_option maxHeartbeats 8000000 in
set_option maxRecDepth 100000 in
theorem matrix_Inverse.calls (k : Nat) (a0 : Int) (A1 : Option Addr) (c1 : Nat) (l1 : List (List Int)) (r1 : List (List Int)) (r2 : Int) (w : World) (hr1 : Kd.C k2 w A1 l1.length l1) (hc1 : l1.length ≤ c1) (h : matrix_Inverse.f k a0 l1 = some (r1, r2)) :
  Calls Try.prog 18 #[.int .u64 a0, .slice A1 l1.length c1] w fun e w' => ∃ v0_ : Value, e = .returned (.tuple #[v0_, .int .i64 r2]) ∧ Kd.S k2 33 w' w.heap.size (fun _ => True) v0_ r1 ∧ Below w.heap.size w w' := by
 have hmf : ∀ (fn : Fn) (first cap : Array Value) (w : World), (Instr.makeFunc fn first cap).run Try.prog w = .ok (.func fn first cap) w := fun _ _ _ _ => rfl
 obtain ⟨W0, hW0⟩ : ∃ W0, w.alloc (.cells #[.slice A1 l1.length c1] 23) = W0 := ⟨_, rfl⟩
 have HR : Aside0 (Kd.C k2 W0 A1 l1.length l1) := ⟨by rw [← hW0]; exact Kd.C_alloc hr1 _⟩
 have HB0 : Aside0 (Below w.heap.size w W0) := ⟨by rw [← hW0]; exact below_alloc (Below.refl _ _) _⟩
 have hgm : W0.cell? ⟨w.heap.size, 0, none⟩ = some (.slice A1 l1.length c1) := by rw [← hW0]; simp
 have HGM := Aside0.mk hgm
 have HC := Aside0.mk hc1
 have HW0 := Aside0.mk hW0
 clear hW0
 unfold matrix_Inverse.f at h
 rw [Option.bind_eq_some_iff] at h
 obtain ⟨t, ht, h⟩ := h
 have HT := Aside0.mk ht
 by_cases z1 : t = 0
 ·rw [if_pos z1] at h
  subst z1
  by_cases z2 : (rd_L1 l1 0).length = l1.length
  ·rw [if_pos z2, Option.bind_eq_some_iff] at h
   obtain ⟨fin, hf, h⟩ := h
   have HF := Aside0.mk hf
   have HS := Aside0.mk z2
   have HWD := Aside0.mk (check_wide ht)
   obtain ⟨q, hq⟩ : ∃ q, fin.2.2.length = q := ⟨_, rfl⟩
   have HQ := Aside0.mk hq
   by_cases z3 : fin.2.2.length < l1.length
   ·rw [if_pos z3] at h
    obtain ⟨rfl, rfl⟩ : ([] : List (List Int)) = r1 ∧ (7 : Int) = r2 := by injection h with h; injection h with a b; exact ⟨a, b⟩
    have b3 : decide ((q : Int) < (l1.length : Int)) = true := decide_eq_true (by omega)
    have b3' : decide (q < l1.length) = true := decide_eq_true (by omega)
    clear hr1 hc1 ht h hf z2 z3 hq
    go_enter Try.func18, Try.ntmps18
    go_wp2_with (first | (rw [HW0.out]; go_at_call 52; refine (matrix_flat_I.calls k k a0 A1 c1 l1 fin w.heap.size _ HR.out HC.out HGM.out HT.out HS.out HF.out).mono ?_; rintro e w1 ⟨b, vr, vl, rfl, hg, h1, h2, h3⟩; obtain ⟨Al, cl, el⟩ := Kd.R_slice hg.led; rw [HQ.out] at el; obtain ⟨Av, cv, ev⟩ := Kd.S_slice hg.rws; rw [h1] at ev; subst el ev; have hb3 : w1.cell? ⟨b, 3, none⟩ = some (.slice Al q cl) := (blk_cell hg.blk 3).trans rfl; have hm1 := (hg.low.cell (World.block_lt_of_cell? W0 _ HGM.out)).trans HGM.out; have HG := Aside0.mk hg; have H1 := Aside0.mk h1; have H3 := Aside0.mk h3; clear hg h1 h2 h3))
    go_region
    go_wp2
    go_ret2
    exact ⟨_, rfl, Kd.S_nil _ _ _ _ _, below_drew1 (below_step HB0.out HG.out.low)⟩
   ·rw [if_neg z3] at h
    obtain ⟨rfl, rfl⟩ : fin.1.map (·.drop l1.length) = r1 ∧ (0 : Int) = r2 := by injection h with h; injection h with a b; exact ⟨a, b⟩
    have b3 : decide ((q : Int) < (l1.length : Int)) = false := decide_eq_false (by omega)
    have b3' : decide (q < l1.length) = false := decide_eq_false (by omega)
    clear hr1 hc1 ht h hf z2 z3 hq
    go_enter Try.func18, Try.ntmps18
    go_wp2_with (first | (rw [HW0.out]; go_at_call 52; refine (matrix_flat_I.calls k k a0 A1 c1 l1 fin w.heap.size _ HR.out HC.out HGM.out HT.out HS.out HF.out).mono ?_; rintro e w1 ⟨b, vr, vl, rfl, hg, h1, h2, h3⟩; obtain ⟨Al, cl, el⟩ := Kd.R_slice hg.led; rw [HQ.out] at el; obtain ⟨Av, cv, ev⟩ := Kd.S_slice hg.rws; rw [h1] at ev; subst el ev; have hb3 : w1.cell? ⟨b, 3, none⟩ = some (.slice Al q cl) := (blk_cell hg.blk 3).trans rfl; have hm1 := (hg.low.cell (World.block_lt_of_cell? W0 _ HGM.out)).trans HGM.out; have HG := Aside0.mk hg; have H1 := Aside0.mk h1; have H3 := Aside0.mk h3; clear hg h1 h2 h3))
    go_region
    have hb1 : w1.cell? ⟨b, 1, none⟩ = some (.slice Av l1.length cv) := (blk_cell HG.out.blk 1).trans rfl
    go_wp2
    have HGE : Aside0 (GridAt W0 w1.drew b a0 (.slice Av l1.length cv) (mapTo (fun _ r => r.drop l1.length) fin.1 0) fin.2.1 (.slice Al q cl) fin.2.2) := ⟨by rw [mapTo_zero]; exact ⟨HG.out.blk, HG.out.gb, Kd.S_drew HG.out.rws, Kd.R_drew HG.out.led, below_drew1 HG.out.low⟩⟩
    clear HG hb1 hb3 hm1 b3 b3'
    go_loopg [35] (l1.length + 1) (fun kq v35 w' => ∃ i : Nat, v35 = .int .i64 (i : Int) ∧ Aside0 (i ≤ l1.length ∧ kq = l1.length + 1 - i) ∧ Aside0 (GridAt W0 w' b a0 (.slice Av l1.length cv) (mapTo (fun _ r => r.drop l1.length) fin.1 i) fin.2.1 (.slice Al q cl) fin.2.2))
    case atStart => exact ⟨0, rfl, ⟨by omega, by omega⟩, HGE⟩
    case round =>
     clear HGE
     obtain ⟨i, rfl, HI, HG⟩ := hrel
     cases gk with
     | zero => exact absurd HI.out.2 (by have := HI.out.1; omega)
     | succ k1 =>
      have hi63 : (i : Int) ≤ 9223372036854775806 := by have := HI.out; have := HWD.out.2.1; omega
      have hm1 : wr.cell? ⟨w.heap.size, 0, none⟩ = some (.slice A1 l1.length c1) := (HG.out.low.cell (World.block_lt_of_cell? W0 _ HGM.out)).trans HGM.out
      have hb1 : wr.cell? ⟨b, 1, none⟩ = some (.slice Av l1.length cv) := (blk_cell HG.out.blk 1).trans rfl
      by_cases hlt : i < l1.length
      ·have b1 : decide ((i : Int) < (l1.length : Int)) = true := decide_eq_true (by omega)
       have b1' : decide (i < l1.length) = true := decide_eq_true hlt
       obtain ⟨row, hrow⟩ : ∃ row, fin.1[i]? = some row := ⟨_, List.getElem?_eq_getElem (by rw [H1.out]; exact hlt)⟩
       have hrl : row.length = l1.length + l1.length := H3.out row (List.mem_of_getElem? hrow)
       have hex := mapTo_get (f := fun _ r => r.drop l1.length) (i := i) hrow
       rw [if_neg (Nat.lt_irrefl i)] at hex
       have HNX := Aside0.mk (mapTo_succ (f := fun _ r => r.drop l1.length) hrow)
       obtain ⟨g, cap, A, c, oki, RA, hfr, hR, hH⟩ := row_out HG.out.rws hex
       have e1 := RA.vr_
       injection e1 with e1 el_ e3
       clear el_
       subst e1 e3
       rw [mapTo_length, H1.out] at hH
       obtain ⟨bi, cb, e2, hbi, _, cb2, hcb2⟩ := Kd.R_form hR (by omega)
       injection e2 with eA el2_ ec
       clear el2_
       subst eA ec
       have hhd := RA.head
       have hroom := RA.room
       obtain ⟨rd1, hrd⟩ : ∃ x_, x_ = row.drop l1.length := ⟨_, rfl⟩
       have hd1 : rd1.length = l1.length := by rw [hrd, List.length_drop]; omega
       have hsub : row.length - l1.length = rd1.length := by omega
       have f2 : ((l1.length : Int) ≤ (row.length : Int)) = True := eq_true (by omega)
       have f3 : (l1.length ≤ row.length) = True := eq_true (by omega)
       have f4 : ¬ c = l1.length := by omega
       have hC9 : Kd.C (Kd.int .u64) wr.drew (some ⟨bi, l1.length, none⟩) rd1.length rd1 := by
        have h5 := Kd.C_drop (m := l1.length) (Kd.R_reads' (Kd.R_drew hR)).2.2 (by omega) hroom
        rw [if_neg f4, ← hrd] at h5
        have e5 : Option.map (fun a : Addr => a.add (l1.length * (Kd.int .u64).sz)) (some (⟨bi, 0, none⟩ : Addr)) = some ⟨bi, l1.length, none⟩ := by
         show some (Addr.add ⟨bi, 0, none⟩ (l1.length * 1)) = _
         rw [Nat.mul_one, Addr.add_lit, Nat.zero_add]
        rw [e5] at h5
        exact h5
       have HD1 : Aside0 (rd1.length ≤ 4096 ∧ rd1.length ≤ c - l1.length) := ⟨by have := HWD.out.2.1; omega, by omega⟩
       have HCD := Aside0.mk hC9
       have RA := Aside0.mk RA
       have HFR := Aside0.mk hfr
       have HH := Aside0.mk hH
       have HLT := Aside0.mk hlt
       have HRD := Aside0.mk hrd
       have g2 : (i < l1.length) = True := eq_true hlt
       clear hfr hR hH hrl hlt hrow hex hC9 hrd hd1 hroom hbi hcb2
       go_wp2
       refine start_ (n := 12) (S := fun w' => w'.cell? ⟨b, 1, none⟩ = some (.slice (some ⟨g, 0, none⟩) l1.length cv) ∧ w'.cell? ⟨w.heap.size, 0, none⟩ = some (.slice A1 l1.length c1)) (ds := [11]) #[false, false, false, false, false, false, false, false, false, false, false, false] (by kernel_rfl) rfl rfl ⟨hb1, hm1⟩ (fun hHeld => ?_); refine with_tabW matrix_Inverse.tab9 matrix_Inverse.bits9 (fun HT_ HW_ => ?_)
       refine pure_ (i := 0) (N := some 40) (v := ?_) (a' := ?_) #[true, false, false, false, false, false, false, false, false, false, false, false] rfl rfl (any_of HT_.out (by kernel_rfl)) (fun _ _ _ h => h) (Or.inl ⟨by rfl, ?_⟩) ?_ ?_
       rotate_left
       ·intro w'
        go_simp
        (try with_reducible rfl)
       rotate_left
       ·simp only [Act.put, List.setIfInBounds_toArray, List.set_cons_zero, List.set_cons_succ, i64_w, i32_w]
        rfl
       refine pure_ (i := 1) (N := some 41) (v := ?_) (a' := ?_) #[true, true, false, false, false, false, false, false, false, false, false, false] rfl rfl (any_of HT_.out (by kernel_rfl)) (fun _ _ _ h => h) (Or.inl ⟨by rfl, ?_⟩) ?_ ?_
       rotate_left
       ·intro w'
        go_simp
        (try with_reducible rfl)
       rotate_left
       ·simp only [Act.put, List.setIfInBounds_toArray, List.set_cons_zero, List.set_cons_succ, i64_w, i32_w]
        rfl
       refine pure_ (i := 2) (N := some 42) (v := ?_) (a' := ?_) #[true, true, true, false, false, false, false, false, false, false, false, false] rfl rfl (any_of HT_.out (by kernel_rfl)) (fun _ _ _ h => h) (Or.inl ⟨by rfl, ?_⟩) ?_ ?_
       rotate_left
       ·intro w'
        go_simp
        (try with_reducible rfl)
       rotate_left
       ·simp only [Act.put, List.setIfInBounds_toArray, List.set_cons_zero, List.set_cons_succ, i64_w, i32_w]
        rfl
       refine pure_ (i := 4) (N := some 44) (v := ?_) (a' := ?_) #[true, true, true, false, true, false, false, false, false, false, false, false] rfl rfl (any_of HT_.out (by kernel_rfl)) (fun _ _ _ h => h) (Or.inl ⟨by rfl, ?_⟩) ?_ ?_
       rotate_left
       ·intro w'
        go_simp
        (try with_reducible rfl)
       rotate_left
       ·simp only [Act.put, List.setIfInBounds_toArray, List.set_cons_zero, List.set_cons_succ, i64_w, i32_w]
        rfl
       refine pure_ (i := 5) (N := some 45) (v := ?_) (a' := ?_) #[true, true, true, false, true, true, false, false, false, false, false, false] rfl rfl (any_of HT_.out (by kernel_rfl)) (fun _ _ _ h => h) (Or.inl ⟨by rfl, ?_⟩) ?_ ?_
       rotate_left
       ·intro w'
        go_simp
        (try with_reducible rfl)
       rotate_left
       ·simp only [Act.put, List.setIfInBounds_toArray, List.set_cons_zero, List.set_cons_succ, i64_w, i32_w]
        rfl
       refine take_ (i := 3) (N := some 43) (v := ?_) (a' := ?_) #[true, true, true, true, true, true, false, false, false, false, false, false] rfl rfl (take_ofW HT_.out HW_.out (by kernel_rfl)) (fun _ _ _ h => h) (Or.inl ⟨by rfl, ?_⟩) hHeld ?_ ?_
       rotate_left
       ·rintro w' ⟨s0, s1⟩
        go_simp
        (try with_reducible rfl)
       rotate_left
       ·simp only [Act.put, List.setIfInBounds_toArray, List.set_cons_zero, List.set_cons_succ, i64_w, i32_w]
        rfl
       refine take_ (i := 6) (N := some 46) (v := ?_) (a' := ?_) #[true, true, true, true, true, true, true, false, false, false, false, false] rfl rfl (take_ofW HT_.out HW_.out (by kernel_rfl)) (fun _ _ _ h => h) (Or.inl ⟨by rfl, ?_⟩) hHeld ?_ ?_
       rotate_left
       ·rintro w' ⟨s0, s1⟩
        go_simp
        (try with_reducible rfl)
       rotate_left
       ·simp only [Act.put, List.setIfInBounds_toArray, List.set_cons_zero, List.set_cons_succ, i64_w, i32_w]
        rfl
       refine pure_ (i := 7) (N := some 47) (v := ?_) (a' := ?_) #[true, true, true, true, true, true, true, true, false, false, false, false] rfl rfl (any_of HT_.out (by kernel_rfl)) (fun _ _ _ h => h) (Or.inl ⟨by rfl, ?_⟩) ?_ ?_
       rotate_left
       ·intro w'
        go_simp
        (try with_reducible rfl)
       rotate_left
       ·simp only [Act.put, List.setIfInBounds_toArray, List.set_cons_zero, List.set_cons_succ, i64_w, i32_w]
        rfl
       refine pure_ (i := 8) (N := some 48) (v := ?_) (a' := ?_) #[true, true, true, true, true, true, true, true, true, false, false, false] rfl rfl (any_of HT_.out (by kernel_rfl)) (fun _ _ _ h => h) (Or.inl ⟨by rfl, ?_⟩) ?_ ?_
       rotate_left
       ·intro w'
        go_simp
        (try with_reducible rfl)
       rotate_left
       ·simp only [Act.put, List.setIfInBounds_toArray, List.set_cons_zero, List.set_cons_succ, i64_w, i32_w]
        rfl
       refine one_ (i := 9) (N := some 49) #[true, true, true, true, true, true, true, true, true, true, false, false] rfl rfl (one_of HT_.out (by kernel_rfl)) (by decide) (fun K hK => ?_)
       refine goes_ Try.func55 (by kernel_rfl) rfl #[.slice (some ⟨bi, l1.length, none⟩) rd1.length (c - l1.length)] (by rfl) rfl rfl (by (try simp only [List.map_toArray, List.map_cons, List.map_nil]); first | done | rfl) ?_
       with_reducible refine (slices_Clone_uint64_uint64.calls (some ⟨bi, l1.length, none⟩) (c - l1.length) rd1 rd1 _ HCD.out HD1.out.2 (clone_some HD1.out.1)).mono ?_
       rintro e wc ⟨v0, rfl, hR9, hb⟩
       refine ⟨_, rfl, ?_⟩
       obtain ⟨A9, c9, e9⟩ := Kd.R_slice hR9
       subst e9
       have HR9 := Aside0.mk (Kd.R_lower (Kd.R_mono (ok' := oki) (Kd.R_bound hR9) (fun k hk => HFR.out k hk.2.1)) (below_size (below_drew1 HG.out.low)))
       have hHC := Kd.H_below (Kd.H_drew HH.out) hb
       have hat3 := Kd.H_at hHC (Int.natCast_nonneg i) (Int.ofNat_lt.2 HLT.out)
       have hc3 := hat3.1 0 _ rfl
       have hf3 := hat3.2 0
       rw [show (i : Int).toNat * k2.sz + 0 = i from by show i * 1 + 0 = i; omega] at hc3 hf3
       have HHC := Aside0.mk hHC
       have hbk := (hb.block b (blk_lt HG.out.blk)).trans HG.out.blk
       have hb1c : wc.cell? ⟨b, 1, none⟩ = some (.slice (some ⟨g, 0, none⟩) l1.length cv) := (blk_cell hbk 1).trans rfl
       have hm1c := (hb.cell (World.block_lt_of_cell? _ _ hm1)).trans hm1
       have HBKC := Aside0.mk hbk
       have HLC := Aside0.mk (below_step (below_drew1 HG.out.low) hb)
       have HKC := Aside0.mk (KeepT.below (KeepT.drew (KeepT.refl [22] wr)) hb)
       have HLDC := Aside0.mk (Kd.R_below (Kd.R_drew HG.out.led) hb)
       clear hR9 hHC hat3 hbk hb
       refine hK.out _ _ ⟨hb1c, hm1c⟩ (fun hHeld => ?_)
       clear hK K
       refine norm_ (a' := ?_) ?_ ?_
       rotate_left
       ·show Act.put _ (some 49) _ = _
        simp only [Act.put, List.setIfInBounds_toArray, List.set_cons_zero, List.set_cons_succ, i64_w, i32_w]
        rfl
       refine pure_ (i := 10) (N := some 50) (v := ?_) (a' := ?_) #[true, true, true, true, true, true, true, true, true, true, true, false] rfl rfl (any_of HT_.out (by kernel_rfl)) (fun _ _ _ h => h) (Or.inl ⟨by rfl, ?_⟩) ?_ ?_
       rotate_left
       ·intro w'
        go_simp
        (try with_reducible rfl)
       rotate_left
       ·simp only [Act.put, List.setIfInBounds_toArray, List.set_cons_zero, List.set_cons_succ, i64_w, i32_w]
        rfl
       refine last_ (i := 11) (N := none) #[true, true, true, true, true, true, true, true, true, true, true, true] rfl rfl (one_of HT_.out (by kernel_rfl)) (by decide) (fun K hK => ?_)
       refine skip_ (w1 := ?_) (by rfl) rfl ?_ ?_
       rotate_left
       ·go_simp
        (try rfl)
       refine hK.out _ _ ?_
       clear hK K
       refine done_ (done_of HT_.out (by kernel_rfl)) ?_
       try go_wp2
       go_roundg k1
       case measure => omega
       case rel =>
        obtain ⟨cellsg, hty⟩ := RA.out.ty
        have hty3 := HKC.out.2 g 33 cellsg hty (by decide)
        have hs := row_back HHC.out HLT.out HR9.out
        have hse : (mapTo (fun _ r => r.drop l1.length) fin.1 i).set i rd1 = mapTo (fun _ r => r.drop l1.length) fin.1 (i + 1) := by rw [HRD.out]; exact HNX.out
        rw [hse] at hs
        exact ⟨i + 1, by go_num, ⟨HLT.out, by have := HI.out; omega⟩, ⟨⟨(KeepT.set (ts := [33]) (KeepT.refl _ wc) hty3 (by decide) i _).2 b 75 _ HBKC.out (by decide), HG.out.gb, hs, R_keepT HLDC.out (KeepT.set (ts := [33]) (KeepT.refl _ wc) hty3 (by decide) i _) (by decide), below_set HLC.out RA.out.gb⟩⟩⟩
      ·have hin : i = l1.length := by have := HI.out.1; omega
       subst hin
       have b1 : decide ((l1.length : Int) < (l1.length : Int)) = false := decide_eq_false (by omega)
       have b1' : decide (l1.length < l1.length) = false := decide_eq_false (by omega)
       clear hlt
       have hs := HG.out.rws
       rw [show mapTo (fun _ r => r.drop l1.length) fin.1 l1.length = fin.1.map (·.drop l1.length) from by rw [← H1.out]; exact mapTo_full _ _] at hs
       have HS9 := Aside0.mk (Kd.S_lower hs (below_size HB0.out))
       have HL9 := Aside0.mk (below_step HB0.out HG.out.low)
       clear hs
       go_wp2
       go_ret2
       exact ⟨_, rfl, HS9.out, HL9.out⟩
  ·rw [if_neg z2] at h
   obtain ⟨rfl, rfl⟩ : ([] : List (List Int)) = r1 ∧ (2 : Int) = r2 := by injection h with h; injection h with a b; exact ⟨a, b⟩
   have HS := Aside0.mk z2
   clear hr1 hc1 ht h z2
   go_enter Try.func18, Try.ntmps18
   go_wp2_with (first | (rw [HW0.out]; go_at_call 52; refine (matrix_flat_odd.calls k a0 A1 c1 l1 _ _ HR.out HC.out HT.out HS.out).mono ?_; rintro e w1 ⟨rfl, hb⟩; have HL := Aside0.mk hb; clear hb))
   go_ret2
   exact ⟨_, rfl, Kd.S_nil _ _ _ _ _, below_step HB0.out HL.out⟩
 ·rw [if_neg z1] at h
  obtain ⟨rfl, rfl⟩ : ([] : List (List Int)) = r1 ∧ t = r2 := by injection h with h; injection h with a b; exact ⟨a, b⟩
  have b1 : (t != 0) = true := bne_iff_ne.mpr z1
  have HZ := Aside0.mk z1
  clear hr1 hc1 ht h z1
  go_enter Try.func18, Try.ntmps18
  go_wp2_with (first | (rw [HW0.out]; go_at_call 52; refine (matrix_flat_bad.calls k a0 A1 c1 l1 t _ _ HR.out HC.out HT.out HZ.out).mono ?_; rintro e w1 ⟨rfl, hb⟩; have HL := Aside0.mk hb; clear hb))
  go_ret2
  exact ⟨_, rfl, Kd.S_nil _ _ _ _ _, below_step HB0.out HL.out⟩
end Go.Proofs.Ytfdkhkajehopkaa.Mb
namespace Go.Proofs.Ytfdkhkajehopkaa.Mb
open Go.RowKit Go.Proofs.YtfdkhkajehopkaaW.PrintWords Go.Proofs.YtfdkhkajehopkaaW.PrintLast Go.Proofs.YtfdkhkajehopkaaW.PrintMore
set_option linter.unusedVariables false
set_option linter.unusedSimpArgs false
def matrix_Answer.T1 : Bool × List (List Nat × List Nat) := (true, [([], []), ([], []), ([0, 1], [0, 1]), ([], []), ([3], [3]), ([4], [4]), ([5], [5]), ([2, 2, 0, 1, 2], [2]), ([6, 7, 0, 1, 2, 3, 4, 5, 6, 7], [6])])
def matrix_Answer.B1 : List Nat := [0, 0, 3, 0, 8, 24, 56, 7, 255]
theorem matrix_Answer.tab1 : rtab .any (opsOf Try.f64 1) = matrix_Answer.T1 := by kernel_rfl
theorem matrix_Answer.bits1 : waitsOk matrix_Answer.T1.2 matrix_Answer.B1 = true := by kernel_rfl
def matrix_Answer.T5 : Bool × List (List Nat × List Nat) := (true, [([], []), ([0], [0]), ([1], [1]), ([2], [2]), ([], []), ([], []), ([5], [5]), ([6], [6]), ([7], [7]), ([], []), ([8, 9], [8, 9]), ([10], [10]), ([], []), ([], []), ([12, 13], [12, 13]), ([14], [14]), ([15], [15]), ([11, 16], [11, 16]), ([3, 4, 0, 1, 2, 3, 4, 5, 6, 7, 8, 9, 10, 11, 12, 13, 14, 15, 16, 17], [3, 4]), ([18, 17, 17, 0, 1, 2, 3, 4, 5, 6, 7, 8, 9, 10, 11, 12, 13, 14, 15, 16, 17], [17, 18])])
def matrix_Answer.B5 : List Nat := [0, 1, 3, 7, 0, 0, 32, 96, 224, 0, 992, 2016, 0, 0, 12288, 28672, 61440, 131040, 262143, 524287]
theorem matrix_Answer.tab5 : rtab .any (opsOf Try.f64 5) = matrix_Answer.T5 := by kernel_rfl
theorem matrix_Answer.bits5 : waitsOk matrix_Answer.T5.2 matrix_Answer.B5 = true := by kernel_rfl
def matrix_Answer.T13 : Bool × List (List Nat × List Nat) := (true, [([], []), ([], []), ([1], [1]), ([2], [2]), ([3], [3]), ([], []), ([4, 5], [4, 5]), ([6], [6]), ([], []), ([], []), ([8, 9], [8, 9]), ([10], [10]), ([0, 7, 0, 1, 2, 3, 4, 5, 6, 7, 8, 9, 10, 11], [0, 7]), ([12, 11, 0, 1, 2, 3, 4, 5, 6, 7, 8, 9, 10, 11], [11, 12])])
def matrix_Answer.B13 : List Nat := [0, 0, 2, 6, 14, 0, 62, 126, 0, 0, 768, 1792, 4095, 8191]
theorem matrix_Answer.tab13 : rtab .any (opsOf Try.f64 13) = matrix_Answer.T13 := by kernel_rfl
theorem matrix_Answer.bits13 : waitsOk matrix_Answer.T13.2 matrix_Answer.B13 = true := by kernel_rfl
def ansL (n : Nat) (lead : List Int) : List (List Int) → Nat → List Int → Option (List Int × Bool)
 | [], _, x => some (x, true)
 | r :: rs, i, x => if i < lead.length then ansL n lead rs (i + 1) (x.set (lead.getD i 0).toNat (r.getD n 0)) else (if r.getD n 0 = 0 then ansL n lead rs (i + 1) x else some ([], false))
def inCols (n : Nat) (lead : List Int) : Bool := lead.all fun c => decide (0 ≤ c) && decide (c < (n : Int))
def answerOf (n : Nat) (fin : List (List Int) × Int × List Int) : Option (List Int × Bool) := if inCols n fin.2.2 = true then ansL n fin.2.2 fin.1 0 (List.replicate n 0) else none
def matrix_Answer.f (k : Nat) (a0 : Int) (l1 : List (List Int)) (l2 : List Int) : Option (List Int × Bool) :=
 if 1 ≤ l1.length ∧ l1.length ≤ 64 ∧ 1 ≤ (rd_L1 l1 0).length ∧ (rd_L1 l1 0).length ≤ 64 ∧ l1.all (fun r => r.length == (rd_L1 l1 0).length) = true ∧ l2.length = l1.length then
  (red k a0 (rd_L1 l1 0).length 0 (extend l1 (fun i => [rd l2 i]) l1.length) 1 []).bind (answerOf (rd_L1 l1 0).length)
 else none
theorem matrix_own.calls' (p : Int) (A1 : Option Addr) (c1 : Nat) (m : List (List Int)) (n : Nat) (hn : m.length = n) (w : World) (hr : Kd.C k2 w A1 n m) (hc : n ≤ c1) (hm : m.length ≤ 4096) (hrow : ∀ row ∈ m, row.length ≤ 4096) :
  Calls Try.prog 65 #[.int .u64 p, .slice A1 n c1] w fun e w' => ∃ b vr, e = .returned (.pointer (some ⟨b, 0, none⟩)) ∧ GridAt w w' b p vr m 1 (.slice none 0 0) [] := by
 subst hn
 exact matrix_own.calls p A1 c1 m w hr hc hm hrow
theorem C_new1 (w : World) (x : Int) : Kd.C (Kd.int .u64) (w.alloc (.cells #[.int .u64 x] 22)) (some ⟨w.heap.size, 0, none⟩) 1 [x] := by
 refine Kd.C_of_reads (d := 0) ⟨rfl, by decide, fun _ => ⟨_, rfl, fun j hj => ?_⟩⟩
 obtain rfl : j = 0 := by omega
 rw [Addr.add_zero']
 simp
set_option maxHeartbeats 8000000 in
set_option maxRecDepth 100000 in
theorem matrix_Answer.calls (k : Nat) (a0 : Int) (A1 : Option Addr) (c1 : Nat) (l1 : List (List Int)) (A2 : Option Addr) (c2 : Nat) (l2 : List Int) (r1 : List Int) (r2 : Bool) (w : World) (hr1 : Kd.C k2 w A1 l1.length l1) (hc1 : l1.length ≤ c1) (hr2 : Kd.C (Kd.int .u64) w A2 l2.length l2) (hc2 : l2.length ≤ c2) (h : matrix_Answer.f k a0 l1 l2 = some (r1, r2)) :
  Calls Try.prog 64 #[.int .u64 a0, .slice A1 l1.length c1, .slice A2 l2.length c2] w fun e w' => ∃ v0_ : Value, e = .returned (.tuple #[v0_, .bool r2]) ∧ Kd.R (Kd.int .u64) 22 w' w.heap.size (fun _ => True) v0_ r1 ∧ Below w.heap.size w w' := by
 obtain ⟨n, hn⟩ : ∃ n, (rd_L1 l1 0).length = n := ⟨_, rfl⟩
 obtain ⟨m, hm⟩ : ∃ m, l1.length = m := ⟨_, rfl⟩
 unfold matrix_Answer.f at h
 rw [hn] at h
 by_cases hd : 1 ≤ l1.length ∧ l1.length ≤ 64 ∧ 1 ≤ n ∧ n ≤ 64 ∧ l1.all (fun r => r.length == n) = true ∧ l2.length = l1.length
 ·rw [if_pos hd, Option.bind_eq_some_iff] at h
  obtain ⟨fin, hf, h⟩ := h
  unfold answerOf at h
  by_cases hin : inCols n fin.2.2 = true
  ·rw [if_pos hin] at h
   obtain ⟨d1, d2, d3, d4, d5, d6⟩ := hd
   have hwide : Wide n l1 := fun row hrow => by simpa using List.all_eq_true.1 d5 row hrow
   rw [hm] at d1 d2 d6 hf hr1 hc1
   have HR := Aside0.mk hr1
   have HR2 := Aside0.mk hr2
   have HC := Aside0.mk hc1
   have HC2 := Aside0.mk hc2
   have HM := Aside0.mk hm
   have HN := Aside0.mk hn
   have HD : Aside0 (1 ≤ m ∧ m ≤ 64 ∧ 1 ≤ n ∧ n ≤ 64) := ⟨⟨d1, d2, d3, d4⟩⟩
   have HL2 := Aside0.mk d6
   have HWI : Aside0 (∀ row ∈ l1, row.length = n) := ⟨hwide⟩
   have HF := Aside0.mk hf
   have HIN := Aside0.mk hin
   have HA := Aside0.mk h
   obtain ⟨ad, A0, c0, e1, hx, hl0, hi0⟩ := at_L1 (hm ▸ hr1 : Kd.C k2 w A1 l1.length l1) 0 (by omega) (by omega)
   subst e1
   have hx' : w.cell? ad = some (.slice A0 n c0) := by have h := hx; rwa [show (0 : Int).toNat = 0 from rfl, Addr.add_zero', hn] at h
   rw [hm, d6]
   have g1 : (0 < m) = True := eq_true (by omega)
   clear hr1 hr2 hc1 hc2 hm hn d1 d2 d3 d4 d5 d6 hwide hf hin h hx hl0 hi0
   go_enter Try.func64, Try.ntmps64
   go_wp2
   refine start_ (n := 9) (S := fun w' => w'.cell? ad = some (.slice A0 n c0)) (ds := []) #[false, false, false, false, false, false, false, false, false] (by kernel_rfl) rfl rfl hx' (fun hHeld => ?_); refine with_tabW matrix_Answer.tab1 matrix_Answer.bits1 (fun HT_ HW_ => ?_)
   refine pure_ (i := 0) (N := some 14) (v := ?_) (a' := ?_) #[true, false, false, false, false, false, false, false, false] rfl rfl (any_of HT_.out (by kernel_rfl)) (fun _ _ _ h => h) (Or.inl ⟨by rfl, ?_⟩) ?_ ?_
   rotate_left
   ·intro w'
    go_simp
    (try with_reducible rfl)
   rotate_left
   ·simp only [Act.put, List.setIfInBounds_toArray, List.set_cons_zero, List.set_cons_succ, i64_w, i32_w]
    rfl
   refine pure_ (i := 1) (N := some 15) (v := ?_) (a' := ?_) #[true, true, false, false, false, false, false, false, false] rfl rfl (any_of HT_.out (by kernel_rfl)) (fun _ _ _ h => h) (Or.inl ⟨by rfl, ?_⟩) ?_ ?_
   rotate_left
   ·intro w'
    go_simp
    (try with_reducible rfl)
   rotate_left
   ·simp only [Act.put, List.setIfInBounds_toArray, List.set_cons_zero, List.set_cons_succ, i64_w, i32_w]
    rfl
   refine pure_ (i := 3) (N := some 17) (v := ?_) (a' := ?_) #[true, true, false, true, false, false, false, false, false] rfl rfl (any_of HT_.out (by kernel_rfl)) (fun _ _ _ h => h) (Or.inl ⟨by rfl, ?_⟩) ?_ ?_
   rotate_left
   ·intro w'
    go_simp
    (try with_reducible rfl)
   rotate_left
   ·simp only [Act.put, List.setIfInBounds_toArray, List.set_cons_zero, List.set_cons_succ, i64_w, i32_w]
    rfl
   refine pure_ (i := 4) (N := some 18) (v := ?_) (a' := ?_) #[true, true, false, true, true, false, false, false, false] rfl rfl (any_of HT_.out (by kernel_rfl)) (fun _ _ _ h => h) (Or.inl ⟨by rfl, ?_⟩) ?_ ?_
   rotate_left
   ·intro w'
    go_simp
    (try with_reducible rfl)
   rotate_left
   ·simp only [Act.put, List.setIfInBounds_toArray, List.set_cons_zero, List.set_cons_succ, i64_w, i32_w]
    rfl
   refine take_ (i := 5) (N := some 19) (v := ?_) (a' := ?_) #[true, true, false, true, true, true, false, false, false] rfl rfl (take_ofW HT_.out HW_.out (by kernel_rfl)) (fun _ _ _ h => h) (Or.inl ⟨by rfl, ?_⟩) hHeld ?_ ?_
   rotate_left
   ·rintro w' s0
    go_simp
    (try with_reducible rfl)
   rotate_left
   ·simp only [Act.put, List.setIfInBounds_toArray, List.set_cons_zero, List.set_cons_succ, i64_w, i32_w]
    rfl
   refine pure_ (i := 6) (N := some 20) (v := ?_) (a' := ?_) #[true, true, false, true, true, true, true, false, false] rfl rfl (any_of HT_.out (by kernel_rfl)) (fun _ _ _ h => h) (Or.inl ⟨by rfl, ?_⟩) ?_ ?_
   rotate_left
   ·intro w'
    go_simp
    (try with_reducible rfl)
   rotate_left
   ·simp only [Act.put, List.setIfInBounds_toArray, List.set_cons_zero, List.set_cons_succ, i64_w, i32_w]
    rfl
   refine one_ (i := 2) (N := some 16) #[true, true, true, true, true, true, true, false, false] rfl rfl (one_of HT_.out (by kernel_rfl)) (by decide) (fun K hK => ?_)
   refine goes_ Try.func65 (by kernel_rfl) rfl #[.int .u64 a0, .slice (some ad) m c1] (by rfl) rfl rfl (by (try simp only [List.map_toArray, List.map_cons, List.map_nil]); first | done | rfl) ?_
   with_reducible refine (matrix_own.calls' a0 (some ad) c1 l1 m HM.out _ (Kd.C_drew HR.out) HC.out (by have := HM.out; have := HD.out; omega) (fun row hrow => by have h9 : row.length = n := HWI.out row hrow; have := HD.out; omega)).mono ?_
   rintro e w1 ⟨b, vr, rfl, hg⟩
   refine ⟨_, rfl, ?_⟩
   replace hg := hg.lower (below_drew (Below.refl _ _))
   have HG0 := Aside0.mk hg
   have hx1 : w1.cell? ad = some (.slice A0 n c0) := (hg.low.cell (World.block_lt_of_cell? w _ hx')).trans hx'
   have hb1 : w1.cell? ⟨b, 1, none⟩ = some vr := (blk_cell hg.blk 1).trans rfl
   obtain ⟨Av, cv, ev⟩ := Kd.S_slice hg.rws
   rw [HM.out] at ev
   subst ev
   clear hg
   refine hK.out _ _ hx1 (fun hHeld => ?_)
   clear hK K
   refine norm_ (a' := ?_) ?_ ?_
   rotate_left
   ·show Act.put _ (some 16) _ = _
    simp only [Act.put, List.setIfInBounds_toArray, List.set_cons_zero, List.set_cons_succ, i64_w, i32_w]
    rfl
   refine pure_ (i := 7) (N := some 8) (v := ?_) (a' := ?_) #[true, true, true, true, true, true, true, true, false] rfl rfl (any_of HT_.out (by kernel_rfl)) (fun _ _ _ h => h) (Or.inl ⟨by rfl, ?_⟩) ?_ ?_
   rotate_left
   ·intro w'
    go_simp
    (try with_reducible rfl)
   rotate_left
   ·simp only [Act.put, List.setIfInBounds_toArray, List.set_cons_zero, List.set_cons_succ, i64_w, i32_w]
    rfl
   refine pure_ (i := 8) (N := some 9) (v := ?_) (a' := ?_) #[true, true, true, true, true, true, true, true, true] rfl rfl (any_of HT_.out (by kernel_rfl)) (fun _ _ _ h => h) (Or.inl ⟨by rfl, ?_⟩) ?_ ?_
   rotate_left
   ·intro w'
    go_simp
    (try with_reducible rfl)
   rotate_left
   ·simp only [Act.put, List.setIfInBounds_toArray, List.set_cons_zero, List.set_cons_succ, i64_w, i32_w]
    rfl
   refine done_ (done_of HT_.out (by kernel_rfl)) ?_
   go_wp2
   have HGE : Aside0 (GridAt w w1 b a0 (.slice Av m cv) (extend l1 (fun i => [rd l2 i]) 0) 1 (.slice none 0 0) []) := ⟨by rw [extend_zero]; exact HG0.out⟩
   clear HG0 hx' hx1
   go_loopg [26] (m + 1) (fun kq v26 w' => ∃ i : Nat, v26 = .int .i64 (i : Int) ∧ Aside0 (i ≤ m ∧ kq = m + 1 - i) ∧ Aside0 (GridAt w w' b a0 (.slice Av m cv) (extend l1 (fun i => [rd l2 i]) i) 1 (.slice none 0 0) []))
   case atStart => exact ⟨0, rfl, ⟨by omega, by omega⟩, HGE⟩
   case round =>
    clear HGE hb1
    obtain ⟨i, rfl, HI, HG⟩ := hrel
    cases gk with
    | zero => exact absurd HI.out.2 (by have := HI.out.1; omega)
    | succ k1 =>
     have hi63 : (i : Int) ≤ 9223372036854775806 := by have := HI.out; have := HD.out.2.1; omega
     by_cases hlt : i < m
     ·have b1 : decide ((i : Int) < (m : Int)) = true := decide_eq_true (by omega)
      have b1' : decide (i < m) = true := decide_eq_true hlt
      obtain ⟨row, hrow⟩ : ∃ row, l1[i]? = some row := ⟨_, List.getElem?_eq_getElem (by rw [HM.out]; exact hlt)⟩
      have hrl : row.length = n := HWI.out row (List.mem_of_getElem? hrow)
      have hex := extend_get (ext := (fun i => [rd l2 i])) (i := i) hrow
      rw [if_neg (Nat.lt_irrefl i)] at hex
      have HNX := Aside0.mk (extend_succ (ext := (fun i => [rd l2 i])) hrow)
      obtain ⟨g, cap, A, c, oki, RA, hfr, hR, hH⟩ := row_out HG.out.rws hex
      have e1 := RA.vr_
      injection e1 with e1 el_ e3
      clear el_
      subst e1 e3
      rw [extend_length, HM.out] at hH
      have hhd := RA.head
      have hhf := RA.free
      have hb1 : wr.cell? ⟨b, 1, none⟩ = some (.slice (some ⟨g, 0, none⟩) m cv) := (blk_cell HG.out.blk 1).trans rfl
      obtain ⟨adv, e2, hv⟩ := Kd.at_int HR2.out (i : Int) (Int.natCast_nonneg i) (by rw [HL2.out]; omega)
      subst e2
      rw [Int.toNat_natCast] at hv
      obtain ⟨vi, hvi⟩ : ∃ vi, rd l2 (i : Int) = vi := ⟨_, rfl⟩
      have hv' : w.cell? (adv.add i) = some (.int .u64 vi) := by rw [hv, hvi]
      have HV0 := Aside0.mk hv'
      replace hv' := (HG.out.low.cell (World.block_lt_of_cell? w _ hv')).trans hv'
      have HVI := Aside0.mk hvi
      have RA := Aside0.mk RA
      have HFR := Aside0.mk hfr
      have HRR := Aside0.mk hR
      have HH := Aside0.mk hH
      have HRL := Aside0.mk hrl
      have HLT := Aside0.mk hlt
      have g2 : (i < m) = True := eq_true hlt
      clear hfr hR hH hrl hlt hrow hex hv hvi
      go_wp2
      refine start_ (n := 20) (S := fun w' => w'.cell? ⟨b, 1, none⟩ = some (.slice (some ⟨g, 0, none⟩) m cv) ∧ w'.cell? ⟨g, i, none⟩ = some (.slice A row.length c) ∧ w'.cell? (adv.add i) = some (.int .u64 vi)) (ds := [19]) #[false, false, false, false, false, false, false, false, false, false, false, false, false, false, false, false, false, false, false, false] (by kernel_rfl) rfl rfl ⟨hb1, hhd, hv'⟩ (fun hHeld => ?_); refine with_tabW matrix_Answer.tab5 matrix_Answer.bits5 (fun HT_ HW_ => ?_)
      refine pure_ (i := 0) (N := some 29) (v := ?_) (a' := ?_) #[true, false, false, false, false, false, false, false, false, false, false, false, false, false, false, false, false, false, false, false] rfl rfl (any_of HT_.out (by kernel_rfl)) (fun _ _ _ h => h) (Or.inl ⟨by rfl, ?_⟩) ?_ ?_
      rotate_left
      ·intro w'
       go_simp
       (try with_reducible rfl)
      rotate_left
      ·simp only [Act.put, List.setIfInBounds_toArray, List.set_cons_zero, List.set_cons_succ, i64_w, i32_w]
       rfl
      refine pure_ (i := 1) (N := some 30) (v := ?_) (a' := ?_) #[true, true, false, false, false, false, false, false, false, false, false, false, false, false, false, false, false, false, false, false] rfl rfl (any_of HT_.out (by kernel_rfl)) (fun _ _ _ h => h) (Or.inl ⟨by rfl, ?_⟩) ?_ ?_
      rotate_left
      ·intro w'
       go_simp
       (try with_reducible rfl)
      rotate_left
      ·simp only [Act.put, List.setIfInBounds_toArray, List.set_cons_zero, List.set_cons_succ, i64_w, i32_w]
       rfl
      refine pure_ (i := 2) (N := some 31) (v := ?_) (a' := ?_) #[true, true, true, false, false, false, false, false, false, false, false, false, false, false, false, false, false, false, false, false] rfl rfl (any_of HT_.out (by kernel_rfl)) (fun _ _ _ h => h) (Or.inl ⟨by rfl, ?_⟩) ?_ ?_
      rotate_left
      ·intro w'
       go_simp
       (try with_reducible rfl)
      rotate_left
      ·simp only [Act.put, List.setIfInBounds_toArray, List.set_cons_zero, List.set_cons_succ, i64_w, i32_w]
       rfl
      refine pure_ (i := 4) (N := some 33) (v := ?_) (a' := ?_) #[true, true, true, false, true, false, false, false, false, false, false, false, false, false, false, false, false, false, false, false] rfl rfl (any_of HT_.out (by kernel_rfl)) (fun _ _ _ h => h) (Or.inl ⟨by rfl, ?_⟩) ?_ ?_
      rotate_left
      ·intro w'
       go_simp
       (try with_reducible rfl)
      rotate_left
      ·simp only [Act.put, List.setIfInBounds_toArray, List.set_cons_zero, List.set_cons_succ, i64_w, i32_w]
       rfl
      refine pure_ (i := 5) (N := some 34) (v := ?_) (a' := ?_) #[true, true, true, false, true, true, false, false, false, false, false, false, false, false, false, false, false, false, false, false] rfl rfl (any_of HT_.out (by kernel_rfl)) (fun _ _ _ h => h) (Or.inl ⟨by rfl, ?_⟩) ?_ ?_
      rotate_left
      ·intro w'
       go_simp
       (try with_reducible rfl)
      rotate_left
      ·simp only [Act.put, List.setIfInBounds_toArray, List.set_cons_zero, List.set_cons_succ, i64_w, i32_w]
       rfl
      refine pure_ (i := 6) (N := some 35) (v := ?_) (a' := ?_) #[true, true, true, false, true, true, true, false, false, false, false, false, false, false, false, false, false, false, false, false] rfl rfl (any_of HT_.out (by kernel_rfl)) (fun _ _ _ h => h) (Or.inl ⟨by rfl, ?_⟩) ?_ ?_
      rotate_left
      ·intro w'
       go_simp
       (try with_reducible rfl)
      rotate_left
      ·simp only [Act.put, List.setIfInBounds_toArray, List.set_cons_zero, List.set_cons_succ, i64_w, i32_w]
       rfl
      refine pure_ (i := 7) (N := some 36) (v := ?_) (a' := ?_) #[true, true, true, false, true, true, true, true, false, false, false, false, false, false, false, false, false, false, false, false] rfl rfl (any_of HT_.out (by kernel_rfl)) (fun _ _ _ h => h) (Or.inl ⟨by rfl, ?_⟩) ?_ ?_
      rotate_left
      ·intro w'
       go_simp
       (try with_reducible rfl)
      rotate_left
      ·simp only [Act.put, List.setIfInBounds_toArray, List.set_cons_zero, List.set_cons_succ, i64_w, i32_w]
       rfl
      refine pure_ (i := 9) (N := some 38) (v := ?_) (a' := ?_) #[true, true, true, false, true, true, true, true, false, true, false, false, false, false, false, false, false, false, false, false] rfl rfl (any_of HT_.out (by kernel_rfl)) (fun _ _ _ h => h) (Or.inl ⟨by rfl, ?_⟩) ?_ ?_
      rotate_left
      ·intro w'
       go_simp
       (try with_reducible rfl)
      rotate_left
      ·simp only [Act.put, List.setIfInBounds_toArray, List.set_cons_zero, List.set_cons_succ, i64_w, i32_w]
       rfl
      refine pure_ (i := 12) (N := some 41) (v := ?_) (a' := ?_) #[true, true, true, false, true, true, true, true, false, true, false, false, true, false, false, false, false, false, false, false] rfl rfl (any_of HT_.out (by kernel_rfl)) (fun _ _ _ h => h) (Or.inl ⟨by rfl, ?_⟩) ?_ ?_
      rotate_left
      ·intro w'
       go_simp
       (try with_reducible rfl)
      rotate_left
      ·simp only [Act.put, List.setIfInBounds_toArray, List.set_cons_zero, List.set_cons_succ, i64_w, i32_w]
       rfl
      refine pure_ (i := 13) (N := some 42) (v := ?_) (a' := ?_) #[true, true, true, false, true, true, true, true, false, true, false, false, true, true, false, false, false, false, false, false] rfl rfl (any_of HT_.out (by kernel_rfl)) (fun _ _ _ h => h) (Or.inl ⟨by rfl, ?_⟩) ?_ ?_
      rotate_left
      ·intro w'
       go_simp
       (try with_reducible rfl)
      rotate_left
      ·simp only [Act.put, List.setIfInBounds_toArray, List.set_cons_zero, List.set_cons_succ, i64_w, i32_w]
       rfl
      refine pure_ (i := 14) (N := some 43) (v := ?_) (a' := ?_) #[true, true, true, false, true, true, true, true, false, true, false, false, true, true, true, false, false, false, false, false] rfl rfl (any_of HT_.out (by kernel_rfl)) (fun _ _ _ h => h) (Or.inl ⟨by rfl, ?_⟩) ?_ ?_
      rotate_left
      ·intro w'
       go_simp
       (try with_reducible rfl)
      rotate_left
      ·simp only [Act.put, List.setIfInBounds_toArray, List.set_cons_zero, List.set_cons_succ, i64_w, i32_w]
       rfl
      refine take_ (i := 3) (N := some 32) (v := ?_) (a' := ?_) #[true, true, true, true, true, true, true, true, false, true, false, false, true, true, true, false, false, false, false, false] rfl rfl (take_ofW HT_.out HW_.out (by kernel_rfl)) (fun _ _ _ h => h) (Or.inl ⟨by rfl, ?_⟩) hHeld ?_ ?_
      rotate_left
      ·rintro w' ⟨s0, s1, s2⟩
       go_simp
       (try with_reducible rfl)
      rotate_left
      ·simp only [Act.put, List.setIfInBounds_toArray, List.set_cons_zero, List.set_cons_succ, i64_w, i32_w]
       rfl
      refine take_ (i := 8) (N := some 37) (v := ?_) (a' := ?_) #[true, true, true, true, true, true, true, true, true, true, false, false, true, true, true, false, false, false, false, false] rfl rfl (take_ofW HT_.out HW_.out (by kernel_rfl)) (fun _ _ _ h => h) (Or.inl ⟨by rfl, ?_⟩) hHeld ?_ ?_
      rotate_left
      ·rintro w' ⟨s0, s1, s2⟩
       go_simp
       (try with_reducible rfl)
      rotate_left
      ·simp only [Act.put, List.setIfInBounds_toArray, List.set_cons_zero, List.set_cons_succ, i64_w, i32_w]
       rfl
      refine pure_ (i := 10) (N := some 39) (v := ?_) (a' := ?_) #[true, true, true, true, true, true, true, true, true, true, true, false, true, true, true, false, false, false, false, false] rfl rfl (any_of HT_.out (by kernel_rfl)) (fun _ _ _ h => h) (Or.inl ⟨by rfl, ?_⟩) ?_ ?_
      rotate_left
      ·intro w'
       go_simp
       (try with_reducible rfl)
      rotate_left
      ·simp only [Act.put, List.setIfInBounds_toArray, List.set_cons_zero, List.set_cons_succ, i64_w, i32_w]
       rfl
      refine take_ (i := 11) (N := some 40) (v := ?_) (a' := ?_) #[true, true, true, true, true, true, true, true, true, true, true, true, true, true, true, false, false, false, false, false] rfl rfl (take_ofW HT_.out HW_.out (by kernel_rfl)) (fun _ _ _ h => h) (Or.inl ⟨by rfl, ?_⟩) hHeld ?_ ?_
      rotate_left
      ·rintro w' ⟨s0, s1, s2⟩
       go_simp
       (try with_reducible rfl)
      rotate_left
      ·simp only [Act.put, List.setIfInBounds_toArray, List.set_cons_zero, List.set_cons_succ, i64_w, i32_w]
       rfl
      refine take_ (i := 15) (N := some 44) (v := ?_) (a' := ?_) #[true, true, true, true, true, true, true, true, true, true, true, true, true, true, true, true, false, false, false, false] rfl rfl (take_ofW HT_.out HW_.out (by kernel_rfl)) (fun _ _ _ h => h) (Or.inl ⟨by rfl, ?_⟩) hHeld ?_ ?_
      rotate_left
      ·rintro w' ⟨s0, s1, s2⟩
       go_simp
       (try with_reducible rfl)
      rotate_left
      ·simp only [Act.put, List.setIfInBounds_toArray, List.set_cons_zero, List.set_cons_succ, i64_w, i32_w]
       rfl
      refine one_ (i := 16) (N := some 45) #[true, true, true, true, true, true, true, true, true, true, true, true, true, true, true, true, true, false, false, false] rfl rfl (one_of HT_.out (by kernel_rfl)) (by decide) (fun K hK => ?_)
      obtain ⟨wc, hwc⟩ : ∃ x_, wr.drew.alloc (.cells #[.int .u64 vi] 22) = x_ := ⟨_, rfl⟩
      refine value_ (v := .slice (some ⟨wr.drew.heap.size, 0, none⟩) 1 1) (w1 := wr.drew.alloc (.cells #[.int .u64 vi] 22)) (by rfl) rfl (by first | (go_simp; done) | (go_simp; rfl)) ?_
      have hC9 : Kd.C (Kd.int .u64) (wr.drew.alloc (.cells #[.int .u64 vi] 22)) (some ⟨wr.drew.heap.size, 0, none⟩) 1 [vi] := C_new1 _ _
      have hb : Below wr.drew.heap.size wr.drew (wr.drew.alloc (.cells #[.int .u64 vi] 22)) := below_alloc (Below.refl _ _) _
      rw [hwc] at hC9 hb
      rw [hwc]
      have hbk := (hb.block b (blk_lt HG.out.blk)).trans HG.out.blk
      have hcg := (hb.cell (World.block_lt_of_cell? _ _ hhd)).trans hhd
      have hcv := (hb.cell (World.block_lt_of_cell? _ _ hv')).trans hv'
      have HRC := Aside0.mk (Kd.R_below (Kd.R_drew HRR.out) hb)
      have HHC := Aside0.mk (Kd.H_below (Kd.H_drew HH.out) hb)
      have HLC := Aside0.mk (below_step (below_drew1 HG.out.low) hb)
      have HSZ := Aside0.mk (below_size hb)
      have HC9 := Aside0.mk hC9
      have HBK := Aside0.mk hbk
      have hb1c : wc.cell? ⟨b, 1, none⟩ = some (.slice (some ⟨g, 0, none⟩) m cv) := (blk_cell hbk 1).trans rfl
      have HKC := Aside0.mk (KeepT.below (KeepT.drew (KeepT.refl [22] wr)) hb)
      clear hb hbk hC9
      refine hK.out _ _ ⟨hb1c, hcg, hcv⟩ (fun hHeld => ?_)
      clear hK K
      refine norm_ (a' := ?_) ?_ ?_
      rotate_left
      ·show Act.put _ (some 45) _ = _
       simp only [Act.put, List.setIfInBounds_toArray, List.set_cons_zero, List.set_cons_succ, i64_w, i32_w]
       rfl
      refine one_ (i := 17) (N := some 46) #[true, true, true, true, true, true, true, true, true, true, true, true, true, true, true, true, true, true, false, false] rfl rfl (one_of HT_.out (by kernel_rfl)) (by decide) (fun K hK => ?_)
      refine Kd.R_append_rows_step (Kd.int .u64) (w0 := w) w.heap.size (by rfl) (.tmp 40) (.tmp 45) 33 22 (.int .u64 0) 8 rfl Try.underlying33 info22 rfl (by decide) (by omega) (.slice A row.length c) row [vi] _ _ _ oki (fun _ => False) rfl rfl HRC.out HC9.out (fun _ _ h => h) (fun _ h => h.elim) ?aF HLC.out (below_size HLC.out) ?aL ?_
      case aF => exact fun k hk => HFR.out k (Nat.le_trans HSZ.out hk)
      case aL => have := HRL.out; have := HD.out; (try simp only [List.length_cons, List.length_nil]); omega
      intro v1 w3 ho hb2 hg hat
      obtain ⟨rw1, hrw1⟩ : ∃ r_, r_ = row ++ [vi] := ⟨_, rfl⟩
      rw [← hrw1] at ho
      obtain ⟨A8, c8, e8⟩ := Kd.R_slice ho
      subst e8
      rw [← HVI.out] at hrw1
      have HRW := Aside0.mk hrw1
      have hH3 := Kd.H_grown HHC.out hg (fun k hk => HRC.out.1 k hk)
      have hat3 := Kd.H_at hH3 (Int.natCast_nonneg i) (Int.ofNat_lt.2 HLT.out)
      have hc3 := hat3.1 0 _ rfl
      have hf3 := hat3.2 0
      rw [show (i : Int).toNat * k2.sz + 0 = i from by show i * 1 + 0 = i; omega] at hc3 hf3
      have HH3 := Aside0.mk hH3
      have hk3 := KeepT.grown HKC.out hg (fun k hk => own_typed (Kd.R_own HRC.out).choose_spec k hk) (by decide)
      have hbk3 := hk3.2 b 75 _ HG.out.blk (by decide)
      have hb13 : w3.cell? ⟨b, 1, none⟩ = some (.slice (some ⟨g, 0, none⟩) m cv) := (blk_cell hbk3 1).trans rfl
      have HBK3 := Aside0.mk hbk3
      have HK3 := Aside0.mk hk3
      have HO3 := Aside0.mk ho
      have HL3 := Aside0.mk hb2
      have hcv3 : w3.cell? (adv.add i) = some (.int .u64 vi) := (hb2.cell (World.block_lt_of_cell? w _ HV0.out)).trans HV0.out
      clear hrw1 hH3 hat3 hk3 hbk3 ho hb2 hg hat
      refine hK.out _ _ ⟨hb13, hc3, hcv3⟩ (fun hHeld => ?_)
      clear hK K
      refine norm_ (a' := ?_) ?_ ?_
      rotate_left
      ·show Act.put _ (some 46) _ = _
       simp only [Act.put, List.setIfInBounds_toArray, List.set_cons_zero, List.set_cons_succ, i64_w, i32_w]
       rfl
      refine pure_ (i := 18) (N := some 47) (v := ?_) (a' := ?_) #[true, true, true, true, true, true, true, true, true, true, true, true, true, true, true, true, true, true, true, false] rfl rfl (any_of HT_.out (by kernel_rfl)) (fun _ _ _ h => h) (Or.inl ⟨by rfl, ?_⟩) ?_ ?_
      rotate_left
      ·intro w'
       go_simp
       (try with_reducible rfl)
      rotate_left
      ·simp only [Act.put, List.setIfInBounds_toArray, List.set_cons_zero, List.set_cons_succ, i64_w, i32_w]
       rfl
      refine last_ (i := 19) (N := none) #[true, true, true, true, true, true, true, true, true, true, true, true, true, true, true, true, true, true, true, true] rfl rfl (one_of HT_.out (by kernel_rfl)) (by decide) (fun K hK => ?_)
      refine skip_ (w1 := ?_) (by rfl) rfl ?_ ?_
      rotate_left
      ·go_simp
       (try rfl)
      refine hK.out _ _ ?_
      clear hK K
      refine done_ (done_of HT_.out (by kernel_rfl)) ?_
      try go_wp2
      go_roundg k1
      case measure => omega
      case rel =>
       obtain ⟨cellsg, hty⟩ := RA.out.ty
       have hty3 := HK3.out.2 g 33 cellsg hty (by decide)
       have hs := row_back HH3.out HLT.out HO3.out
       have hse : (extend l1 (fun i => [rd l2 i]) i).set i rw1 = extend l1 (fun i => [rd l2 i]) (i + 1) := by rw [HRW.out]; exact HNX.out
       rw [hse] at hs
       exact ⟨i + 1, by go_num, ⟨HLT.out, by have := HI.out; omega⟩, ⟨⟨(KeepT.set (ts := [33]) (KeepT.refl _ w3) hty3 (by decide) i _).2 b 75 _ HBK3.out (by decide), HG.out.gb, hs, Kd.R_nil _ _ _ _ _, below_set HL3.out RA.out.gb⟩⟩⟩
     ·have hin : i = m := by have := HI.out.1; omega
      subst hin
      have b1 : decide ((i : Int) < (i : Int)) = false := decide_eq_false (by omega)
      have b1' : decide (i < i) = false := decide_eq_false (by omega)
      clear hlt
      have HWX : Aside0 (Wide (n + 1) (extend l1 (fun i => [rd l2 i]) i)) := ⟨by have h := extend_wide (ext := (fun i => [rd l2 i])) HWI.out (b := 1) (fun j _ => rfl); rw [HM.out] at h; exact h⟩
      go_wp2_with (first | (go_at_call 66; refine (grid_reduce.calls k a0 1 (extend l1 (fun i => [rd l2 i]) i) [] (n + 1) i n fin (.slice Av i cv) (.slice none 0 0) b w _ HG.out (by rw [extend_length, HM.out]) (by have := HD.out.2.1; omega) (by have := HD.out; omega) HWX.out (by omega) (Nat.zero_le _) HF.out).mono ?_; rintro e w5 ⟨rfl, ⟨vl', hg⟩, h1, h2, h3, h4⟩; obtain ⟨q, hq⟩ : ∃ q, fin.2.2.length = q := ⟨_, rfl⟩; obtain ⟨Al, cl, el⟩ := Kd.R_slice hg.led; rw [hq] at el; subst el; have HQ := Aside0.mk hq; have HG5 := Aside0.mk hg; have H1 := Aside0.mk h1; have H2 := Aside0.mk h2; have H3 := Aside0.mk h3; clear hg h1 h2 h3 h4 hq) | ((with_reducible refine gate_dst (N := 53) rfl ?_); go_must (refine Kd.R_make (Kd.int .u64) _ 22 rfl (N := 53) rfl 33 _ _ rfl (n : Int) rfl rfl Try.underlying33 (.int .u64 0) 8 info22 rfl (by decide) (by omega) 0 (ok := fun _ => True) (okp := fun _ => True) rfl (fun _ hk => hk) trivial (Int.natCast_nonneg n) (by have := HD.out; simp only [Int.toNat_natCast]; omega) (Below.refl _ _) (Nat.le_refl _) ?_; intro v W6 ho hb hg_ hnew_; obtain ⟨z, hz⟩ : ∃ z_ : List Int, z_ = List.replicate (n : Int).toNat 0 := ⟨_, rfl⟩; rw [← hz] at ho; have hzl : z.length = n := (by rw [hz]; simp); obtain ⟨gx, cx, ev, hgx, hgl, cells, hcl⟩ := Kd.R_form ho (by have := HD.out; omega); rw [hzl] at ev; subst ev; have HO6 := Aside0.mk ho; have HB6 := Aside0.mk hb; have HZ := Aside0.mk hz; have HZL := Aside0.mk hzl; have HGX := Aside0.mk hgx; have hb1 : W6.cell? ⟨b, 1, none⟩ = some (.slice Av i cv) := (hb.cell (by have := blk_lt HG5.out.blk; exact this)).trans ((blk_cell HG5.out.blk 1).trans rfl); clear ho hb hg_ hnew_ hz hzl hgx hgl hcl cells)))
      go_loopg [59] (i + 1) (fun kq v59 w' => ∃ (j : Nat) (xs : List Int), v59 = .int .i64 (j : Int) ∧ Aside0 (j ≤ i ∧ kq = i + 1 - j) ∧ Aside0 (Kd.R (Kd.int .u64) 22 w' w5.heap.size (fun _ => True) (.slice (some ⟨gx, 0, none⟩) n cx) xs) ∧ Aside0 (Below w5.heap.size w5 w') ∧ Aside0 (xs.length = n) ∧ Aside0 (ansL n fin.2.2 (fin.1.drop j) j xs = some (r1, r2)))
      case atStart => exact ⟨0, z, rfl, ⟨by omega, by omega⟩, HO6, HB6, HZL, ⟨by rw [HZ.out]; exact HA.out⟩⟩
      case round =>
       clear HO6 HB6 HZL HA hb1
       obtain ⟨j, xs, rfl, HI2, HX, HB7, HXL, HA⟩ := hrel
       cases gk with
       | zero => exact absurd HI2.out.2 (by have := HI2.out.1; omega)
       | succ k1 =>
        have hj63 : (j : Int) ≤ 9223372036854775806 := by have := HI2.out; have := HD.out.2.1; omega
        have hb1 : wr.cell? ⟨b, 1, none⟩ = some (.slice Av i cv) := (HB7.out.cell (by have := blk_lt HG5.out.blk; exact this)).trans ((blk_cell HG5.out.blk 1).trans rfl)
        have hb3 : wr.cell? ⟨b, 3, none⟩ = some (.slice Al q cl) := (HB7.out.cell (by have := blk_lt HG5.out.blk; exact this)).trans ((blk_cell HG5.out.blk 3).trans rfl)
        by_cases hjl : j < i
        ·have b2 : decide ((j : Int) < (i : Int)) = true := decide_eq_true (by omega)
         have b2' : decide (j < i) = true := decide_eq_true hjl
         have hjr : j < fin.1.length := by rw [H1.out]; exact hjl
         obtain ⟨row, hrow⟩ : ∃ row, fin.1[j] = row := ⟨_, rfl⟩
         have hrl : row.length = n + 1 := H2.out row (by rw [← hrow]; exact List.getElem_mem hjr)
         have ha := HA.out
         rw [List.drop_eq_getElem_cons hjr, hrow] at ha
         obtain ⟨_, _, evs, _, hCr⟩ := Kd.S_reads HG5.out.rws
         injection evs with ea el ec
         rw [← ea] at hCr
         obtain ⟨adr, Ar, cr, er, hxr, hlr, hir⟩ := at_L1 hCr (j : Int) (Int.natCast_nonneg j) (by omega)
         have hrr : rd_L1 fin.1 (j : Int) = row := by show fin.1.getD j [] = _; rw [List.getD_eq_getElem?_getD, List.getElem?_eq_getElem hjr]; exact hrow
         rw [hrr, hrl] at hxr hlr
         rw [hrr] at hir
         rw [Int.toNat_natCast] at hxr
         clear ea el ec
         cases er
         obtain ⟨adn, en, hcn⟩ := Kd.at_int hir (n : Int) (Int.natCast_nonneg n) (by rw [hrl]; omega)
         subst en
         rw [Int.toNat_natCast] at hcn
         have hrn : rd row (n : Int) = row.getD n 0 := rfl
         obtain ⟨y, hy⟩ : ∃ y, row.getD n 0 = y := ⟨_, rfl⟩
         rw [hrn, hy] at hcn
         replace hxr := (HB7.out.cell (World.block_lt_of_cell? _ _ hxr)).trans hxr
         replace hcn := (HB7.out.cell (World.block_lt_of_cell? _ _ hcn)).trans hcn
         have g3 : (j < i) = True := eq_true hjl
         have g4 : (n < n + 1) = True := eq_true (by omega)
         have g4b : ((n : Int) < (n : Int) + 1) = True := eq_true (by omega)
         rw [ansL, hy, HQ.out] at ha
         by_cases hq1 : j < q
         ·rw [if_pos hq1] at ha
          have b3 : decide ((j : Int) < (q : Int)) = true := decide_eq_true (by omega)
          have b3' : decide (j < q) = true := decide_eq_true hq1
          have hjq : j < fin.2.2.length := by rw [HQ.out]; exact hq1
          obtain ⟨_, _, evl, _, hCl⟩ := Kd.R_reads HG5.out.led
          injection evl with ea el ec
          rw [← ea] at hCl
          obtain ⟨adl, el2, hcl⟩ := Kd.at_int hCl (j : Int) (Int.natCast_nonneg j) (by omega)
          clear ea el ec
          subst el2
          rw [Int.toNat_natCast] at hcl
          have hld0 := List.all_eq_true.1 HIN.out (fin.2.2.getD j 0) (by rw [List.getD_eq_getElem?_getD, List.getElem?_eq_getElem hjq]; exact List.getElem_mem hjq)
          rw [Bool.and_eq_true, decide_eq_true_iff, decide_eq_true_iff] at hld0
          obtain ⟨ld, hld⟩ := Int.eq_ofNat_of_zero_le hld0.1
          have hldn : ld < n := by have := hld0.2; rw [hld] at this; omega
          have hcl' : w5.cell? (adl.add j) = some (.int .i64 (ld : Int)) := by rw [hcl]; show some (Value.int .i64 (fin.2.2.getD j 0)) = _; rw [hld]
          replace hcl' := (HB7.out.cell (World.block_lt_of_cell? _ _ hcl')).trans hcl'
          rw [hld, Int.toNat_natCast] at ha
          have g5 : (j < q) = True := eq_true hq1
          have g6 : (ld < n) = True := eq_true hldn
          obtain ⟨hxc, hxf⟩ := Kd.R_celln 0 HX.out (ld : Int) (Int.natCast_nonneg ld) (by omega)
          rw [Int.toNat_natCast] at hxc hxf
          have HA2 := Aside0.mk ha
          have HJ := Aside0.mk hjl
          have HLD := Aside0.mk hldn
          clear ha HA hjr hrow hrl hCr hrr hir hlr hrn hy hjl hq1 hjq hCl hcl hld0 hld hldn
          go_wp2
          refine start_ (n := 14) (S := fun w' => w'.cell? ⟨b, 3, none⟩ = some (.slice (some adl) q cl) ∧ w'.cell? (adl.add j) = some (.int .i64 (ld : Int)) ∧ w'.cell? (adn.add n) = some (.int .u64 y)) (ds := [13]) #[false, false, false, false, false, false, false, false, false, false, false, false, false, false] (by kernel_rfl) rfl rfl ⟨hb3, hcl', hcn⟩ (fun hHeld => ?_); refine with_tabW matrix_Answer.tab13 matrix_Answer.bits13 (fun HT_ HW_ => ?_)
          refine pure_ (i := 0) (N := some 72) (v := ?_) (a' := ?_) #[true, false, false, false, false, false, false, false, false, false, false, false, false, false] rfl rfl (any_of HT_.out (by kernel_rfl)) (fun _ _ _ h => h) (Or.inl ⟨by rfl, ?_⟩) ?_ ?_
          rotate_left
          ·intro w'
           go_simp
           (try with_reducible rfl)
          rotate_left
          ·simp only [Act.put, List.setIfInBounds_toArray, List.set_cons_zero, List.set_cons_succ, i64_w, i32_w]
           rfl
          refine pure_ (i := 1) (N := some 73) (v := ?_) (a' := ?_) #[true, true, false, false, false, false, false, false, false, false, false, false, false, false] rfl rfl (any_of HT_.out (by kernel_rfl)) (fun _ _ _ h => h) (Or.inl ⟨by rfl, ?_⟩) ?_ ?_
          rotate_left
          ·intro w'
           go_simp
           (try with_reducible rfl)
          rotate_left
          ·simp only [Act.put, List.setIfInBounds_toArray, List.set_cons_zero, List.set_cons_succ, i64_w, i32_w]
           rfl
          refine pure_ (i := 2) (N := some 74) (v := ?_) (a' := ?_) #[true, true, true, false, false, false, false, false, false, false, false, false, false, false] rfl rfl (any_of HT_.out (by kernel_rfl)) (fun _ _ _ h => h) (Or.inl ⟨by rfl, ?_⟩) ?_ ?_
          rotate_left
          ·intro w'
           go_simp
           (try with_reducible rfl)
          rotate_left
          ·simp only [Act.put, List.setIfInBounds_toArray, List.set_cons_zero, List.set_cons_succ, i64_w, i32_w]
           rfl
          refine pure_ (i := 3) (N := some 75) (v := ?_) (a' := ?_) #[true, true, true, true, false, false, false, false, false, false, false, false, false, false] rfl rfl (any_of HT_.out (by kernel_rfl)) (fun _ _ _ h => h) (Or.inl ⟨by rfl, ?_⟩) ?_ ?_
          rotate_left
          ·intro w'
           go_simp
           (try with_reducible rfl)
          rotate_left
          ·simp only [Act.put, List.setIfInBounds_toArray, List.set_cons_zero, List.set_cons_succ, i64_w, i32_w]
           rfl
          refine pure_ (i := 5) (N := some 77) (v := ?_) (a' := ?_) #[true, true, true, true, false, true, false, false, false, false, false, false, false, false] rfl rfl (any_of HT_.out (by kernel_rfl)) (fun _ _ _ h => h) (Or.inl ⟨by rfl, ?_⟩) ?_ ?_
          rotate_left
          ·intro w'
           go_simp
           (try with_reducible rfl)
          rotate_left
          ·simp only [Act.put, List.setIfInBounds_toArray, List.set_cons_zero, List.set_cons_succ, i64_w, i32_w]
           rfl
          refine pure_ (i := 8) (N := some 80) (v := ?_) (a' := ?_) #[true, true, true, true, false, true, false, false, true, false, false, false, false, false] rfl rfl (any_of HT_.out (by kernel_rfl)) (fun _ _ _ h => h) (Or.inl ⟨by rfl, ?_⟩) ?_ ?_
          rotate_left
          ·intro w'
           go_simp
           (try with_reducible rfl)
          rotate_left
          ·simp only [Act.put, List.setIfInBounds_toArray, List.set_cons_zero, List.set_cons_succ, i64_w, i32_w]
           rfl
          refine pure_ (i := 9) (N := some 81) (v := ?_) (a' := ?_) #[true, true, true, true, false, true, false, false, true, true, false, false, false, false] rfl rfl (any_of HT_.out (by kernel_rfl)) (fun _ _ _ h => h) (Or.inl ⟨by rfl, ?_⟩) ?_ ?_
          rotate_left
          ·intro w'
           go_simp
           (try with_reducible rfl)
          rotate_left
          ·simp only [Act.put, List.setIfInBounds_toArray, List.set_cons_zero, List.set_cons_succ, i64_w, i32_w]
           rfl
          refine pure_ (i := 10) (N := some 82) (v := ?_) (a' := ?_) #[true, true, true, true, false, true, false, false, true, true, true, false, false, false] rfl rfl (any_of HT_.out (by kernel_rfl)) (fun _ _ _ h => h) (Or.inl ⟨by rfl, ?_⟩) ?_ ?_
          rotate_left
          ·intro w'
           go_simp
           (try with_reducible rfl)
          rotate_left
          ·simp only [Act.put, List.setIfInBounds_toArray, List.set_cons_zero, List.set_cons_succ, i64_w, i32_w]
           rfl
          refine take_ (i := 4) (N := some 76) (v := ?_) (a' := ?_) #[true, true, true, true, true, true, false, false, true, true, true, false, false, false] rfl rfl (take_ofW HT_.out HW_.out (by kernel_rfl)) (fun _ _ _ h => h) (Or.inl ⟨by rfl, ?_⟩) hHeld ?_ ?_
          rotate_left
          ·rintro w' ⟨s0, s1, s2⟩
           go_simp
           (try with_reducible rfl)
          rotate_left
          ·simp only [Act.put, List.setIfInBounds_toArray, List.set_cons_zero, List.set_cons_succ, i64_w, i32_w]
           rfl
          refine pure_ (i := 6) (N := some 78) (v := ?_) (a' := ?_) #[true, true, true, true, true, true, true, false, true, true, true, false, false, false] rfl rfl (any_of HT_.out (by kernel_rfl)) (fun _ _ _ h => h) (Or.inl ⟨by rfl, ?_⟩) ?_ ?_
          rotate_left
          ·intro w'
           go_simp
           (try with_reducible rfl)
          rotate_left
          ·simp only [Act.put, List.setIfInBounds_toArray, List.set_cons_zero, List.set_cons_succ, i64_w, i32_w]
           rfl
          refine take_ (i := 7) (N := some 79) (v := ?_) (a' := ?_) #[true, true, true, true, true, true, true, true, true, true, true, false, false, false] rfl rfl (take_ofW HT_.out HW_.out (by kernel_rfl)) (fun _ _ _ h => h) (Or.inl ⟨by rfl, ?_⟩) hHeld ?_ ?_
          rotate_left
          ·rintro w' ⟨s0, s1, s2⟩
           go_simp
           (try with_reducible rfl)
          rotate_left
          ·simp only [Act.put, List.setIfInBounds_toArray, List.set_cons_zero, List.set_cons_succ, i64_w, i32_w]
           rfl
          refine take_ (i := 11) (N := some 83) (v := ?_) (a' := ?_) #[true, true, true, true, true, true, true, true, true, true, true, true, false, false] rfl rfl (take_ofW HT_.out HW_.out (by kernel_rfl)) (fun _ _ _ h => h) (Or.inl ⟨by rfl, ?_⟩) hHeld ?_ ?_
          rotate_left
          ·rintro w' ⟨s0, s1, s2⟩
           go_simp
           (try with_reducible rfl)
          rotate_left
          ·simp only [Act.put, List.setIfInBounds_toArray, List.set_cons_zero, List.set_cons_succ, i64_w, i32_w]
           rfl
          refine pure_ (i := 12) (N := some 84) (v := ?_) (a' := ?_) #[true, true, true, true, true, true, true, true, true, true, true, true, true, false] rfl rfl (any_of HT_.out (by kernel_rfl)) (fun _ _ _ h => h) (Or.inl ⟨by rfl, ?_⟩) ?_ ?_
          rotate_left
          ·intro w'
           go_simp
           (try with_reducible rfl)
          rotate_left
          ·simp only [Act.put, List.setIfInBounds_toArray, List.set_cons_zero, List.set_cons_succ, i64_w, i32_w]
           rfl
          refine last_ (i := 13) (N := none) #[true, true, true, true, true, true, true, true, true, true, true, true, true, true] rfl rfl (one_of HT_.out (by kernel_rfl)) (by decide) (fun K hK => ?_)
          refine skip_ (w1 := ?_) (by rfl) rfl ?_ ?_
          rotate_left
          ·go_simp
           (try rfl)
          refine hK.out _ _ ?_
          clear hK K
          refine done_ (done_of HT_.out (by kernel_rfl)) ?_
          try go_wp2
          go_roundg k1
          case measure => omega
          case rel => exact ⟨j + 1, xs.set ld y, by go_num, ⟨HJ.out, by have := HI2.out; omega⟩, ⟨(Kd.R_putg HX.out (ld : Int) y).1⟩, ⟨below_set (below_drew1 HB7.out) HGX.out⟩, ⟨by rw [List.length_set]; exact HXL.out⟩, HA2⟩
         ·rw [if_neg hq1] at ha
          have b3 : decide ((j : Int) < (q : Int)) = false := decide_eq_false (by omega)
          have b3' : decide (j < q) = false := decide_eq_false hq1
          have HJ := Aside0.mk hjl
          by_cases hy0 : y = 0
          ·rw [if_pos hy0] at ha
           subst hy0
           have HA2 := Aside0.mk ha
           clear ha HA hjr hrow hrl hCr hrr hir hlr hrn hy hjl hq1
           go_wp2
           go_roundg k1
           case measure => omega
           case rel => exact ⟨j + 1, xs, by go_num, ⟨HJ.out, by have := HI2.out; omega⟩, HX, HB7, HXL, HA2⟩
          ·rw [if_neg hy0] at ha
           have b4 : (y != 0) = true := bne_iff_ne.mpr hy0
           have b4' : (y == 0) = false := by rw [Bool.eq_false_iff]; intro h; exact hy0 (eq_of_beq h)
           obtain ⟨rfl, rfl⟩ : ([] : List Int) = r1 ∧ false = r2 := by injection ha with ha; injection ha with a b; exact ⟨a, b⟩
           clear ha HA hjr hrow hrl hCr hrr hir hlr hrn hy hjl hq1 hy0
           go_wp2
           go_ret2
           exact ⟨_, rfl, Kd.R_nil _ _ _ _ _, below_step HG5.out.low HB7.out⟩
        ·have hin : j = i := by have := HI2.out.1; omega
         have b2 : decide ((j : Int) < (i : Int)) = false := decide_eq_false (by omega)
         have b2' : decide (j < i) = false := decide_eq_false (by omega)
         have ha := HA.out
         rw [List.drop_eq_nil_of_le (by rw [H1.out]; omega), ansL] at ha
         obtain ⟨rfl, rfl⟩ : xs = r1 ∧ true = r2 := by injection ha with ha; injection ha with a b; exact ⟨a, b⟩
         clear hjl hin ha HA
         have HXE := Aside0.mk (Kd.R_lower HX.out (below_size HG5.out.low))
         have HBE := Aside0.mk (below_step HG5.out.low HB7.out)
         go_wp2
         go_ret2
         exact ⟨_, rfl, HXE.out, HBE.out⟩
  ·rw [if_neg hin] at h; cases h
 ·rw [if_neg hd] at h; cases h
end Go.Proofs.Ytfdkhkajehopkaa.Mb
namespace Go.Proofs.Ytfdkhkajehopkaa.Mb
open Go.RowKit Go.Proofs.YtfdkhkajehopkaaW.PrintWords Go.Proofs.YtfdkhkajehopkaaW.PrintLast Go.Proofs.YtfdkhkajehopkaaW.PrintMore
set_option linter.unusedVariables false
set_option linter.unusedSimpArgs false
def matrix_Reduce.T4 : Bool × List (List Nat × List Nat) := (true, [([], []), ([], []), ([0, 1], [0, 1]), ([], []), ([3], [3]), ([4], [4]), ([5], [5]), ([2, 6, 2], [2, 6]), ([7, 7, 0, 1, 2, 3, 4, 5, 6, 7], [7])])
def matrix_Reduce.B4 : List Nat := [0, 0, 3, 0, 8, 24, 56, 127, 255]
theorem matrix_Reduce.tab4 : rtab .any (opsOf Try.f29 4) = matrix_Reduce.T4 := by kernel_rfl
theorem matrix_Reduce.bits4 : waitsOk matrix_Reduce.T4.2 matrix_Reduce.B4 = true := by kernel_rfl
theorem matrix_Answer.mono : ∀ a0 a1 a2 k, LeO (matrix_Answer.f k a0 a1 a2) (matrix_Answer.f (k + 1) a0 a1 a2) := by
 intro a0 a1 a2 k r h
 unfold matrix_Answer.f at h ⊢
 split at h
 ·rename_i c
  rw [if_pos c]
  rw [Option.bind_eq_some_iff] at h ⊢
  obtain ⟨f, h3, h4⟩ := h
  exact ⟨f, red_mono _ _ _ _ _ _ h3, h4⟩
 ·cases h
def matrix_Reduce.f (k : Nat) (a0 : Int) (l1 : List (List Int)) : Option (List (List Int) × List Int × Int) := (matrix_Check.f k a0 l1).bind fun t => if t = 0 then (red k a0 (rd_L1 l1 0).length 0 l1 1 []).bind fun fin => some (fin.1, fin.2.2, 0) else some ([], [], t)
set_option maxHeartbeats 8000000 in
set_option maxRecDepth 100000 in
theorem matrix_Reduce.calls (k : Nat) (a0 : Int) (A1 : Option Addr) (c1 : Nat) (l1 : List (List Int)) (r1 : List (List Int)) (r2 : List Int) (r3 : Int) (w : World) (hr1 : Kd.C k2 w A1 l1.length l1) (hc1 : l1.length ≤ c1) (h : matrix_Reduce.f k a0 l1 = some (r1, r2, r3)) :
  Calls Try.prog 29 #[.int .u64 a0, .slice A1 l1.length c1] w fun e w' => ∃ v0_ v1_ : Value, e = .returned (.tuple #[v0_, v1_, .int .i64 r3]) ∧ Kd.S (Kd.slice 22 (Kd.int .u64)) 33 w' w.heap.size (fun k_ => some k_ ≠ (v1_ : Value).ownBlock) v0_ r1 ∧ Kd.R (Kd.int .i64) 3 w' w.heap.size (fun k_ => some k_ ≠ (v0_ : Value).ownBlock) v1_ r2 ∧ Below w.heap.size w w' := by
 unfold matrix_Reduce.f at h
 rw [Option.bind_eq_some_iff] at h
 obtain ⟨t, ht, h⟩ := h
 have HR := Aside0.mk hr1
 have HC := Aside0.mk hc1
 have HT := Aside0.mk ht
 by_cases z1 : t = 0
 ·rw [if_pos z1] at h
  subst z1
  rw [Option.bind_eq_some_iff] at h
  obtain ⟨fin, hf, h⟩ := h
  have HF := Aside0.mk hf
  obtain ⟨n, hn⟩ : ∃ n, (rd_L1 l1 0).length = n := ⟨_, rfl⟩
  have hwd := check_wide ht
  rw [hn] at hwd hf
  have HF := Aside0.mk hf
  have HWD : Aside0 (1 ≤ l1.length ∧ l1.length ≤ 64 ∧ 1 ≤ n ∧ n ≤ 64) := ⟨⟨hwd.1, hwd.2.1, hwd.2.2.1, hwd.2.2.2.1⟩⟩
  have HWI : Aside0 (∀ row ∈ l1, row.length = n) := ⟨hwd.2.2.2.2⟩
  have HWI2 : Aside0 (Wide n l1) := ⟨hwd.2.2.2.2⟩
  obtain ⟨rfl, rfl, rfl⟩ : fin.1 = r1 ∧ fin.2.2 = r2 ∧ (0 : Int) = r3 := by injection h with h; injection h with a b; injection b with b c; exact ⟨a, b, c⟩
  obtain ⟨ad, A0, c0, e1, hx, hl0, hi0⟩ := at_L1 hr1 0 (by omega) (by omega)
  subst e1
  have hx' : w.cell? ad = some (.slice A0 n c0) := by have h := hx; rwa [show (0 : Int).toNat = 0 from rfl, Addr.add_zero', hn] at h
  have g1 : (0 < l1.length) = True := eq_true (by omega)
  clear hwd hr1 hc1 hx hl0 hi0 hn h hf ht
  go_enter Try.func29, Try.ntmps29
  go_wp2_with (go_at_call 14; refine (matrix_Check.calls k a0 (some ad) c1 l1 0 _ HR.out HC.out HT.out).mono ?_; rintro e w1 ⟨rfl, hb⟩; have HB1 := Aside0.mk hb; have hx1 : w1.cell? ad = some (.slice A0 n c0) := (hb.cell (World.block_lt_of_cell? w _ hx')).trans hx'; clear hb)
  refine start_ (n := 9) (S := fun w' => w'.cell? ad = some (.slice A0 n c0)) (ds := []) #[false, false, false, false, false, false, false, false, false] (by kernel_rfl) rfl rfl hx1 (fun hHeld => ?_); refine with_tabW matrix_Reduce.tab4 matrix_Reduce.bits4 (fun HT_ HW_ => ?_)
  refine pure_ (i := 0) (N := some 15) (v := ?_) (a' := ?_) #[true, false, false, false, false, false, false, false, false] rfl rfl (any_of HT_.out (by kernel_rfl)) (fun _ _ _ h => h) (Or.inl ⟨by rfl, ?_⟩) ?_ ?_
  rotate_left
  ·intro w'
   go_simp
   (try with_reducible rfl)
  rotate_left
  ·simp only [Act.put, List.setIfInBounds_toArray, List.set_cons_zero, List.set_cons_succ, i64_w, i32_w]
   rfl
  refine pure_ (i := 1) (N := some 16) (v := ?_) (a' := ?_) #[true, true, false, false, false, false, false, false, false] rfl rfl (any_of HT_.out (by kernel_rfl)) (fun _ _ _ h => h) (Or.inl ⟨by rfl, ?_⟩) ?_ ?_
  rotate_left
  ·intro w'
   go_simp
   (try with_reducible rfl)
  rotate_left
  ·simp only [Act.put, List.setIfInBounds_toArray, List.set_cons_zero, List.set_cons_succ, i64_w, i32_w]
   rfl
  refine pure_ (i := 3) (N := some 18) (v := ?_) (a' := ?_) #[true, true, false, true, false, false, false, false, false] rfl rfl (any_of HT_.out (by kernel_rfl)) (fun _ _ _ h => h) (Or.inl ⟨by rfl, ?_⟩) ?_ ?_
  rotate_left
  ·intro w'
   go_simp
   (try with_reducible rfl)
  rotate_left
  ·simp only [Act.put, List.setIfInBounds_toArray, List.set_cons_zero, List.set_cons_succ, i64_w, i32_w]
   rfl
  refine pure_ (i := 4) (N := some 19) (v := ?_) (a' := ?_) #[true, true, false, true, true, false, false, false, false] rfl rfl (any_of HT_.out (by kernel_rfl)) (fun _ _ _ h => h) (Or.inl ⟨by rfl, ?_⟩) ?_ ?_
  rotate_left
  ·intro w'
   go_simp
   (try with_reducible rfl)
  rotate_left
  ·simp only [Act.put, List.setIfInBounds_toArray, List.set_cons_zero, List.set_cons_succ, i64_w, i32_w]
   rfl
  refine take_ (i := 5) (N := some 20) (v := ?_) (a' := ?_) #[true, true, false, true, true, true, false, false, false] rfl rfl (take_ofW HT_.out HW_.out (by kernel_rfl)) (fun _ _ _ h => h) (Or.inl ⟨by rfl, ?_⟩) hHeld ?_ ?_
  rotate_left
  ·rintro w' s0
   go_simp
   (try with_reducible rfl)
  rotate_left
  ·simp only [Act.put, List.setIfInBounds_toArray, List.set_cons_zero, List.set_cons_succ, i64_w, i32_w]
   rfl
  refine pure_ (i := 6) (N := some 21) (v := ?_) (a' := ?_) #[true, true, false, true, true, true, true, false, false] rfl rfl (any_of HT_.out (by kernel_rfl)) (fun _ _ _ h => h) (Or.inl ⟨by rfl, ?_⟩) ?_ ?_
  rotate_left
  ·intro w'
   go_simp
   (try with_reducible rfl)
  rotate_left
  ·simp only [Act.put, List.setIfInBounds_toArray, List.set_cons_zero, List.set_cons_succ, i64_w, i32_w]
   rfl
  refine one_ (i := 2) (N := some 17) #[true, true, true, true, true, true, true, false, false] rfl rfl (one_of HT_.out (by kernel_rfl)) (by decide) (fun K hK => ?_)
  refine goes_ Try.func65 (by kernel_rfl) rfl #[.int .u64 a0, .slice (some ad) l1.length c1] (by rfl) rfl rfl (by (try simp only [List.map_toArray, List.map_cons, List.map_nil]); first | done | rfl) ?_
  with_reducible refine (matrix_own.calls a0 (some ad) c1 l1 _ (Kd.C_drew (Kd.C_below HR.out HB1.out)) HC.out (by have := HWD.out; omega) (fun row hrow => by have h9 : row.length = n := HWI.out row hrow; have := HWD.out; omega)).mono ?_
  rintro e w2 ⟨b, vr, rfl, hg⟩
  refine ⟨_, rfl, ?_⟩
  replace hg := hg.lower (below_drew HB1.out)
  have HG0 := Aside0.mk hg
  have hx2 : w2.cell? ad = some (.slice A0 n c0) := (hg.low.cell (World.block_lt_of_cell? w _ hx')).trans hx'
  clear hg
  refine hK.out _ _ hx2 (fun hHeld => ?_)
  clear hK K
  refine norm_ (a' := ?_) ?_ ?_
  rotate_left
  ·show Act.put _ (some 17) _ = _
   simp only [Act.put, List.setIfInBounds_toArray, List.set_cons_zero, List.set_cons_succ, i64_w, i32_w]
   rfl
  refine one_ (i := 7) (N := some 22) #[true, true, true, true, true, true, true, true, false] rfl rfl (one_of HT_.out (by kernel_rfl)) (by decide) (fun K hK => ?_)
  refine goes_ Try.func66 (by kernel_rfl) rfl #[.pointer (some ⟨b, 0, none⟩), .int .i64 (n : Int)] (by rfl) rfl rfl (by (try simp only [List.map_toArray, List.map_cons, List.map_nil]); first | done | rfl) ?_
  with_reducible refine (grid_reduce.calls k a0 1 l1 [] n l1.length n fin vr (.slice none 0 0) b w _ HG0.out rfl (by have := HWD.out; omega) (by have := HWD.out; omega) HWI2.out (Nat.le_refl _) (Nat.zero_le _) HF.out).mono ?_
  rintro e w5 ⟨rfl, ⟨vl', hg⟩, h1, h2, h3, h4⟩
  refine ⟨_, rfl, ?_⟩
  have HG5 := Aside0.mk hg
  have hb1 : w5.cell? ⟨b, 1, none⟩ = some vr := (blk_cell hg.blk 1).trans rfl
  have hb3 : w5.cell? ⟨b, 3, none⟩ = some vl' := (blk_cell hg.blk 3).trans rfl
  have hx5 : w5.cell? ad = some (.slice A0 n c0) := (hg.low.cell (World.block_lt_of_cell? w _ hx')).trans hx'
  clear hg h1 h2 h3 h4
  refine hK.out _ _ hx5 (fun hHeld => ?_)
  clear hK K
  refine norm_ (a' := ?_) ?_ ?_
  rotate_left
  ·show Act.put _ (some 22) _ = _
   simp only [Act.put, List.setIfInBounds_toArray, List.set_cons_zero, List.set_cons_succ, i64_w, i32_w]
   rfl
  refine pure_ (i := 8) (N := some 8) (v := ?_) (a' := ?_) #[true, true, true, true, true, true, true, true, true] rfl rfl (any_of HT_.out (by kernel_rfl)) (fun _ _ _ h => h) (Or.inl ⟨by rfl, ?_⟩) ?_ ?_
  rotate_left
  ·intro w'
   go_simp
   (try with_reducible rfl)
  rotate_left
  ·simp only [Act.put, List.setIfInBounds_toArray, List.set_cons_zero, List.set_cons_succ, i64_w, i32_w]
   rfl
  refine done_ (done_of HT_.out (by kernel_rfl)) ?_
  go_wp2
  go_region
  go_wp2
  go_ret3
  exact ⟨_, _, rfl, Kd.S_drew (Kd.S_mono (Kd.S_apart' HG5.out.rws (Kd.R_typed HG5.out.led) (by decide)) (fun _ hk => hk.2)), Kd.R_drew (Kd.R_mono (Kd.R_apart' HG5.out.led (Kd.S_typed HG5.out.rws) (by decide)) (fun _ hk => hk.2)), below_drew1 HG5.out.low⟩
 ·rw [if_neg z1] at h
  obtain ⟨rfl, rfl, rfl⟩ : ([] : List (List Int)) = r1 ∧ ([] : List Int) = r2 ∧ t = r3 := by injection h with h; injection h with a b; injection b with b c; exact ⟨a, b, c⟩
  have b1 : (t != 0) = true := bne_iff_ne.mpr z1
  clear hr1 hc1 ht h z1
  go_enter Try.func29, Try.ntmps29
  go_wp2_with (go_at_call 14; refine (matrix_Check.calls k a0 A1 c1 l1 t _ HR.out HC.out HT.out).mono ?_; rintro e w1 ⟨rfl, hb⟩; have HB1 := Aside0.mk hb; clear hb)
  go_ret3
  exact ⟨_, _, rfl, Kd.S_nil _ _ _ _ _, Kd.R_nil _ _ _ _ _, HB1.out⟩
end Go.Proofs.Ytfdkhkajehopkaa.Mb
