/- The reference's less: a multiple of a row taken from another one. -/
import Derived.Test.YtfdkhkajehopkaaMbG1
import Derived.Test.YtfdkhkajehopkaaMbR1
import Derived.BigRegion
import Derived.RegionTactic
namespace Go.Proofs.Ytfdkhkajehopkaa.Mb
open Go.RowKit Go.Proofs.YtfdkhkajehopkaaW.PrintWords Go.Proofs.YtfdkhkajehopkaaW.PrintLast Go.Proofs.YtfdkhkajehopkaaW.PrintMore
set_option linter.unusedVariables false
set_option linter.unusedSimpArgs false
def ref_less.T3 : Bool × List (List Nat × List Nat) := (true, [([], []), ([], []), ([], []), ([], []), ([], []), ([3, 4], [3, 4]), ([5], [5]), ([], []), ([], []), ([], []), ([], []), ([9, 10], [9, 10]), ([11], [11]), ([7, 8, 12], [7, 8, 12]), ([2, 6, 13, 13], [2, 6, 13]), ([0, 1, 0, 1, 2, 3, 4, 5, 6, 7, 8, 9, 10, 11, 12, 13, 14], [0, 1]), ([15, 14, 14, 0, 1, 2, 3, 4, 5, 6, 7, 8, 9, 10, 11, 12, 13, 14], [14, 15])])
def ref_less.B3 : List Nat := [0, 0, 0, 0, 0, 24, 56, 0, 0, 0, 0, 1536, 3584, 8064, 16380, 32767, 65535]
theorem ref_less.tab3 : rtab .any (opsOf Try.f58 3) = ref_less.T3 := by kernel_rfl
theorem ref_less.bits3 : waitsOk ref_less.T3.2 ref_less.B3 = true := by kernel_rfl
set_option maxHeartbeats 8000000 in
set_option maxRecDepth 100000 in
theorem ref_less.calls (p kk : Int) (rows : List (List Int)) (ti fr : Nat) (rt rf r : List Int) (vr : Value) (gt capt gf capf : Nat) (At Af : Option Addr) (ct cf : Nat) (w0 w : World) (hB : Below w0.heap.size w0 w)
  (hS : Kd.S k2 33 w w0.heap.size (fun _ => True) vr rows) (hto : rows[ti]? = some rt) (hfr : rows[fr]? = some rf) (hne : ti ≠ fr) (hl1 : r.length = rt.length) (hl2 : rf.length = rt.length) (hlm : rt.length ≤ 4096)
  (hrt : RowAt w w0.heap.size vr rows ti rt gt capt At ct) (hrf : RowAt w w0.heap.size vr rows fr rf gf capf Af cf)
  (hst : ∀ i, i < r.length → ∃ t, juntoref01_Mul.f p kk (rf.getD i 0) = some t ∧ juntoref01_Sub.f p (rt.getD i 0) t = some (r.getD i 0)) :
  Calls Try.prog 58 #[.int .u64 p, .slice At rt.length ct, .slice Af rf.length cf, .int .u64 kk] w fun e w' => e = .returned (.tuple #[]) ∧ Kd.S k2 33 w' w0.heap.size (fun _ => True) vr (rows.set ti r) ∧ Below w0.heap.size w0 w' ∧ KeepT [22] w w' := by
 have HT := Aside0.mk hst
 have HB := Aside0.mk hB
 have HL1 := Aside0.mk hl1
 have HL2 := Aside0.mk hl2
 have HNE := Aside0.mk hne
 have HFR := Aside0.mk hfr
 have HLM := Aside0.mk hlm
 have HTL := Aside0.mk (List.getElem?_eq_some_iff.1 hto).1
 have HFL := Aside0.mk (List.getElem?_eq_some_iff.1 hfr).1
 have RF0 := Aside0.mk hrf
 have RT0 := Aside0.mk hrt
 have HRT := Aside0.mk hrt.room
 have HRF := Aside0.mk hrf.room
 have hS0 : Aside0 (Kd.S k2 33 w w0.heap.size (fun _ => True) vr (rows.set ti (r.take 0 ++ rt.drop 0))) := ⟨by
  obtain ⟨h1, h2⟩ := List.getElem?_eq_some_iff.1 hto
  rw [List.take_zero, List.nil_append, List.drop_zero, ← h2, List.set_getElem_self]; exact hS⟩
 clear hS hB hst hl1 hl2 hne hto hfr hlm hrt hrf
 go_enter Try.func58, Try.ntmps58
 go_wp2
 go_loopg [11] (r.length + 1) (fun kq v11 w' => ∃ i : Nat, v11 = .int .i64 (i : Int) ∧ Aside0 (i ≤ r.length ∧ kq = r.length + 1 - i) ∧ Aside0 (Kd.S k2 33 w' w0.heap.size (fun _ => True) vr (rows.set ti (r.take i ++ rt.drop i))) ∧ Aside0 (KeepT [22] w w') ∧ Aside0 (Below w0.heap.size w0 w'))
 case atStart => exact ⟨0, rfl, ⟨by omega, by omega⟩, hS0, ⟨KeepT.refl _ _⟩, HB⟩
 case round =>
  clear hS0 HB
  obtain ⟨i, rfl, HI, HSi, HK, HB⟩ := hrel
  cases gk with
  | zero => exact absurd HI.out.2 (by have := HI.out.1; omega)
  | succ k1 =>
   obtain ⟨cur, hcur⟩ : ∃ cur, cur = r.take i ++ rt.drop i := ⟨_, rfl⟩
   rw [← hcur] at HSi
   have hcl : cur.length = rt.length := by rw [hcur]; have := HL1.out; have := HI.out.1; simp; omega
   have e1 : (rows.set ti cur)[fr]? = some rf := by rw [List.getElem?_set_ne HNE.out]; exact HFR.out
   have e2 : (rows.set ti cur)[ti]? = some cur := List.getElem?_set_self HTL.out
   obtain ⟨gf', capf', Af', cf', RF', hCF⟩ := grid_row' HSi.out e1
   obtain ⟨gt', capt', At', ct', RT', hCT⟩ := grid_row' HSi.out e2
   obtain ⟨q1, q2, q3⟩ := RowAt.keep RF0.out RF' HK.out (by decide)
   obtain ⟨q4, q5, q6⟩ := RowAt.keep RT0.out RT' HK.out (by decide)
   subst q1 q2 q3 q4 q5 q6
   by_cases hlt : i < r.length
   ·have hif : i < rf.length := by rw [HL2.out, ← HL1.out]; exact hlt
    have hit : i < cur.length := by rw [hcl, ← HL1.out]; exact hlt
    have hir : i < rt.length := by rw [← HL1.out]; exact hlt
    obtain ⟨bf, CF⟩ := hCF i hif
    obtain ⟨bt, CT⟩ := hCT i hit
    have ea := CF.addr
    have eb := CT.addr
    subst ea eb
    obtain ⟨t1, hT1, hT2⟩ := HT.out i hlt
    have hcg : cur.getD i 0 = rt.getD i 0 := by
     rw [hcur, List.getD_eq_getElem?_getD, List.getElem?_append_right (by rw [List.length_take]; omega), List.getElem?_drop, List.length_take, Nat.min_eq_left (by omega), ← List.getD_eq_getElem?_getD]
     congr 1; omega
    have T1 := Aside0.mk hT1
    have T2 : Aside0 (juntoref01_Sub.f p (cur.getD i 0) t1 = some (r.getD i 0)) := ⟨by rw [hcg]; exact hT2⟩
    have hnext : cur.set i (r.getD i 0) = r.take (i + 1) ++ rt.drop (i + 1) := by
     rw [hcur, List.set_append_right _ _ (by rw [List.length_take]; omega), List.length_take, Nat.min_eq_left (by omega), Nat.sub_self, List.drop_eq_getElem_cons (by have := HL1.out; omega), List.set_cons_zero, List.take_succ_eq_append_getElem hlt, List.append_assoc, List.getD_eq_getElem?_getD, List.getElem?_eq_getElem hlt]
     rfl
    obtain ⟨xf, hxf⟩ : ∃ x_, rf.getD i 0 = x_ := ⟨_, rfl⟩
    obtain ⟨xt, hxt⟩ : ∃ x_, cur.getD i 0 = x_ := ⟨_, rfl⟩
    obtain ⟨xr, hxr⟩ : ∃ x_, r.getD i 0 = x_ := ⟨_, rfl⟩
    rw [hxf] at T1
    rw [hxt, hxr] at T2
    rw [hxr] at hnext
    have HNX := Aside0.mk hnext
    have CT := Aside0.mk CT
    have hx := CF.cell
    have hct := CT.out.cell
    rw [hxf] at hx
    rw [hxt] at hct
    have hft := CT.out.free
    clear hxf hxt hxr
    have b1 : decide ((i : Int) < (rt.length : Int)) = true := decide_eq_true (by omega)
    have b1' : decide (i < rt.length) = true := decide_eq_true hir
    have g1 : (i < rf.length) = True := eq_true hif
    have g2 : (i < rt.length) = True := eq_true hir
    have hi63 : (i : Int) ≤ 9223372036854775806 := by have := HL1.out; have := HLM.out; omega
    clear hT1 hT2 hcg hnext hcur hcl hit hif hCF hCT CF e1 e2 RF' RT' hir
    go_wp2
    refine start_ (n := 17) (S := fun w' => w'.cell? ⟨bt, i, none⟩ = some (.int .u64 xt) ∧ w'.cell? ⟨bf, i, none⟩ = some (.int .u64 xf)) (ds := [16]) #[false, false, false, false, false, false, false, false, false, false, false, false, false, false, false, false, false] (by kernel_rfl) rfl rfl ⟨hct, hx⟩ (fun hHeld => ?_); refine with_tabW ref_less.tab3 ref_less.bits3 (fun HT_ HW_ => ?_)
    refine pure_ (i := 0) (N := some 14) (v := ?_) (a' := ?_) #[true, false, false, false, false, false, false, false, false, false, false, false, false, false, false, false, false] rfl rfl (any_of HT_.out (by kernel_rfl)) (fun _ _ _ h => h) (Or.inl ⟨by rfl, ?_⟩) ?_ ?_
    rotate_left
    ·intro w'
     go_simp
     (try with_reducible rfl)
    rotate_left
    ·simp only [Act.put, List.setIfInBounds_toArray, List.set_cons_zero, List.set_cons_succ, i64_w, i32_w]
     rfl
    refine pure_ (i := 1) (N := some 15) (v := ?_) (a' := ?_) #[true, true, false, false, false, false, false, false, false, false, false, false, false, false, false, false, false] rfl rfl (any_of HT_.out (by kernel_rfl)) (fun _ _ _ h => h) (Or.inl ⟨by rfl, ?_⟩) ?_ ?_
    rotate_left
    ·intro w'
     go_simp
     (try with_reducible rfl)
    rotate_left
    ·simp only [Act.put, List.setIfInBounds_toArray, List.set_cons_zero, List.set_cons_succ, i64_w, i32_w]
     rfl
    refine pure_ (i := 2) (N := some 16) (v := ?_) (a' := ?_) #[true, true, true, false, false, false, false, false, false, false, false, false, false, false, false, false, false] rfl rfl (any_of HT_.out (by kernel_rfl)) (fun _ _ _ h => h) (Or.inl ⟨by rfl, ?_⟩) ?_ ?_
    rotate_left
    ·intro w'
     go_simp
     (try with_reducible rfl)
    rotate_left
    ·simp only [Act.put, List.setIfInBounds_toArray, List.set_cons_zero, List.set_cons_succ, i64_w, i32_w]
     rfl
    refine pure_ (i := 3) (N := some 17) (v := ?_) (a' := ?_) #[true, true, true, true, false, false, false, false, false, false, false, false, false, false, false, false, false] rfl rfl (any_of HT_.out (by kernel_rfl)) (fun _ _ _ h => h) (Or.inl ⟨by rfl, ?_⟩) ?_ ?_
    rotate_left
    ·intro w'
     go_simp
     (try with_reducible rfl)
    rotate_left
    ·simp only [Act.put, List.setIfInBounds_toArray, List.set_cons_zero, List.set_cons_succ, i64_w, i32_w]
     rfl
    refine pure_ (i := 4) (N := some 18) (v := ?_) (a' := ?_) #[true, true, true, true, true, false, false, false, false, false, false, false, false, false, false, false, false] rfl rfl (any_of HT_.out (by kernel_rfl)) (fun _ _ _ h => h) (Or.inl ⟨by rfl, ?_⟩) ?_ ?_
    rotate_left
    ·intro w'
     go_simp
     (try with_reducible rfl)
    rotate_left
    ·simp only [Act.put, List.setIfInBounds_toArray, List.set_cons_zero, List.set_cons_succ, i64_w, i32_w]
     rfl
    refine pure_ (i := 5) (N := some 19) (v := ?_) (a' := ?_) #[true, true, true, true, true, true, false, false, false, false, false, false, false, false, false, false, false] rfl rfl (any_of HT_.out (by kernel_rfl)) (fun _ _ _ h => h) (Or.inl ⟨by rfl, ?_⟩) ?_ ?_
    rotate_left
    ·intro w'
     go_simp
     (try with_reducible rfl)
    rotate_left
    ·simp only [Act.put, List.setIfInBounds_toArray, List.set_cons_zero, List.set_cons_succ, i64_w, i32_w]
     rfl
    refine pure_ (i := 7) (N := some 21) (v := ?_) (a' := ?_) #[true, true, true, true, true, true, false, true, false, false, false, false, false, false, false, false, false] rfl rfl (any_of HT_.out (by kernel_rfl)) (fun _ _ _ h => h) (Or.inl ⟨by rfl, ?_⟩) ?_ ?_
    rotate_left
    ·intro w'
     go_simp
     (try with_reducible rfl)
    rotate_left
    ·simp only [Act.put, List.setIfInBounds_toArray, List.set_cons_zero, List.set_cons_succ, i64_w, i32_w]
     rfl
    refine pure_ (i := 8) (N := some 22) (v := ?_) (a' := ?_) #[true, true, true, true, true, true, false, true, true, false, false, false, false, false, false, false, false] rfl rfl (any_of HT_.out (by kernel_rfl)) (fun _ _ _ h => h) (Or.inl ⟨by rfl, ?_⟩) ?_ ?_
    rotate_left
    ·intro w'
     go_simp
     (try with_reducible rfl)
    rotate_left
    ·simp only [Act.put, List.setIfInBounds_toArray, List.set_cons_zero, List.set_cons_succ, i64_w, i32_w]
     rfl
    refine pure_ (i := 9) (N := some 23) (v := ?_) (a' := ?_) #[true, true, true, true, true, true, false, true, true, true, false, false, false, false, false, false, false] rfl rfl (any_of HT_.out (by kernel_rfl)) (fun _ _ _ h => h) (Or.inl ⟨by rfl, ?_⟩) ?_ ?_
    rotate_left
    ·intro w'
     go_simp
     (try with_reducible rfl)
    rotate_left
    ·simp only [Act.put, List.setIfInBounds_toArray, List.set_cons_zero, List.set_cons_succ, i64_w, i32_w]
     rfl
    refine pure_ (i := 10) (N := some 24) (v := ?_) (a' := ?_) #[true, true, true, true, true, true, false, true, true, true, true, false, false, false, false, false, false] rfl rfl (any_of HT_.out (by kernel_rfl)) (fun _ _ _ h => h) (Or.inl ⟨by rfl, ?_⟩) ?_ ?_
    rotate_left
    ·intro w'
     go_simp
     (try with_reducible rfl)
    rotate_left
    ·simp only [Act.put, List.setIfInBounds_toArray, List.set_cons_zero, List.set_cons_succ, i64_w, i32_w]
     rfl
    refine pure_ (i := 11) (N := some 25) (v := ?_) (a' := ?_) #[true, true, true, true, true, true, false, true, true, true, true, true, false, false, false, false, false] rfl rfl (any_of HT_.out (by kernel_rfl)) (fun _ _ _ h => h) (Or.inl ⟨by rfl, ?_⟩) ?_ ?_
    rotate_left
    ·intro w'
     go_simp
     (try with_reducible rfl)
    rotate_left
    ·simp only [Act.put, List.setIfInBounds_toArray, List.set_cons_zero, List.set_cons_succ, i64_w, i32_w]
     rfl
    refine take_ (i := 6) (N := some 20) (v := ?_) (a' := ?_) #[true, true, true, true, true, true, true, true, true, true, true, true, false, false, false, false, false] rfl rfl (take_ofW HT_.out HW_.out (by kernel_rfl)) (fun _ _ _ h => h) (Or.inl ⟨by rfl, ?_⟩) hHeld ?_ ?_
    rotate_left
    ·rintro w' ⟨s0, s1⟩
     go_simp
     (try with_reducible rfl)
    rotate_left
    ·simp only [Act.put, List.setIfInBounds_toArray, List.set_cons_zero, List.set_cons_succ, i64_w, i32_w]
     rfl
    refine take_ (i := 12) (N := some 26) (v := ?_) (a' := ?_) #[true, true, true, true, true, true, true, true, true, true, true, true, true, false, false, false, false] rfl rfl (take_ofW HT_.out HW_.out (by kernel_rfl)) (fun _ _ _ h => h) (Or.inl ⟨by rfl, ?_⟩) hHeld ?_ ?_
    rotate_left
    ·rintro w' ⟨s0, s1⟩
     go_simp
     (try with_reducible rfl)
    rotate_left
    ·simp only [Act.put, List.setIfInBounds_toArray, List.set_cons_zero, List.set_cons_succ, i64_w, i32_w]
     rfl
    refine one_ (i := 13) (N := some 27) #[true, true, true, true, true, true, true, true, true, true, true, true, true, true, false, false, false] rfl rfl (one_of HT_.out (by kernel_rfl)) (by decide) (fun K hK => ?_)
    refine goes_ Try.func45 (by kernel_rfl) rfl #[.int .u64 p, .int .u64 kk, .int .u64 xf] (by rfl) rfl rfl (by (try simp only [List.map_toArray, List.map_cons, List.map_nil]); first | done | rfl) ?_
    with_reducible refine (juntoref01_Mul.calls p kk xf t1 _ T1.out).mono ?_
    rintro e w' ⟨rfl, ⟨nd, rfl⟩⟩
    refine ⟨_, rfl, ?_⟩
    refine hK.out _ _ ⟨hHeld.1, hHeld.2⟩ (fun hHeld => ?_)
    clear hK K
    refine norm_ (a' := ?_) ?_ ?_
    rotate_left
    ·show Act.put _ (some 27) _ = _
     simp only [Act.put, List.setIfInBounds_toArray, List.set_cons_zero, List.set_cons_succ, i64_w, i32_w]
     rfl
    refine one_ (i := 14) (N := some 28) #[true, true, true, true, true, true, true, true, true, true, true, true, true, true, true, false, false] rfl rfl (one_of HT_.out (by kernel_rfl)) (by decide) (fun K hK => ?_)
    refine goes_ Try.func57 (by kernel_rfl) rfl #[.int .u64 p, .int .u64 xt, .int .u64 t1] (by rfl) rfl rfl (by (try simp only [List.map_toArray, List.map_cons, List.map_nil]); first | done | rfl) ?_
    with_reducible refine (juntoref01_Sub.calls p xt t1 xr _ T2.out).mono ?_
    rintro e w' ⟨rfl, ⟨nd2, rfl⟩⟩
    refine ⟨_, rfl, ?_⟩
    refine hK.out _ _ ⟨hHeld.1, hHeld.2⟩ (fun hHeld => ?_)
    clear hK K
    refine norm_ (a' := ?_) ?_ ?_
    rotate_left
    ·show Act.put _ (some 28) _ = _
     simp only [Act.put, List.setIfInBounds_toArray, List.set_cons_zero, List.set_cons_succ, i64_w, i32_w]
     rfl
    refine pure_ (i := 15) (N := some 29) (v := ?_) (a' := ?_) #[true, true, true, true, true, true, true, true, true, true, true, true, true, true, true, true, false] rfl rfl (any_of HT_.out (by kernel_rfl)) (fun _ _ _ h => h) (Or.inl ⟨by rfl, ?_⟩) ?_ ?_
    rotate_left
    ·intro w'
     go_simp
     (try with_reducible rfl)
    rotate_left
    ·simp only [Act.put, List.setIfInBounds_toArray, List.set_cons_zero, List.set_cons_succ, i64_w, i32_w]
     rfl
    refine last_ (i := 16) (N := none) #[true, true, true, true, true, true, true, true, true, true, true, true, true, true, true, true, true] rfl rfl (one_of HT_.out (by kernel_rfl)) (by decide) (fun K hK => ?_)
    refine skip_ (w1 := ?_) (by rfl) rfl ?_ ?_
    rotate_left
    ·go_simp
     (try rfl)
    refine hK.out _ _ ?_
    clear hK K
    refine done_ (done_of HT_.out (by kernel_rfl)) ?_
    try go_wp2
    go_roundg k1
    case measure => omega
    case rel =>
     obtain ⟨cellsT, hT⟩ := CT.out.ty
     have hs := CT.out.put xr
     rw [List.set_set, HNX.out] at hs
     exact ⟨i + 1, by go_num, ⟨by have := HI.out.1; omega, by have := HI.out; omega⟩, ⟨Kd.S_drewN hs _⟩, ⟨KeepT.set (w' := wr.drewN _) HK.out hT (by decide) i _⟩, ⟨below_set (pw_below_drewN HB.out _) CT.out.gb⟩⟩
   ·have b1 : decide ((i : Int) < (rt.length : Int)) = false := decide_eq_false (by have := HL1.out; have := HL2.out; omega)
    have b1' : decide (i < rt.length) = false := decide_eq_false (by have := HL1.out; have := HL2.out; omega)
    have hfin : cur = r := by
     rw [hcur, List.take_of_length_le (by omega), List.drop_eq_nil_of_le (by have := HL1.out; omega), List.append_nil]
    rw [hfin] at HSi
    clear hCF hCT hcl hcur e1 e2 RF' RT'
    go_wp2
    go_end0
    exact ⟨rfl, HSi.out, HB.out, HK.out⟩
end Go.Proofs.Ytfdkhkajehopkaa.Mb
