/- matrix: rows of a grid, add, lift, and what they come to. -/
import Derived.Test.YtfdkhkajehopkaaMb0
import Derived.Test.YtfdkhkajehopkaaMb2
import Derived.Test.YtfdkhkajehopkaaMb3
import Derived.BigRegion
import Derived.RegionTactic
import Derived.Deep.DeepMust
namespace Go.Proofs.Ytfdkhkajehopkaa.Mb
open Go.RowKit Go.Proofs.YtfdkhkajehopkaaW.PrintWords Go.Proofs.YtfdkhkajehopkaaW.PrintLast Go.Proofs.YtfdkhkajehopkaaW.PrintMore
set_option linter.unusedVariables false
abbrev k2 : Kd (List Int) := Kd.slice 22 (Kd.int .u64)
/-- A row of a grid: where its head lies, and its cells. -/
structure RowAt (w : World) (base : Nat) (vr : Value) (rows : List (List Int)) (i : Nat) (row : List Int) (g cap : Nat) (A : Option Addr) (c : Nat) : Prop where
 vr_ : vr = .slice (some ⟨g, 0, none⟩) rows.length cap
 gb : base ≤ g
 ty : ∃ cells, w.heap[g]? = some (.cells cells 33 (0, 0))
 head : w.cell? ⟨g, i, none⟩ = some (.slice A row.length c)
 free : w.frozen? ⟨g, i, none⟩ = false
 room : row.length ≤ c
/-- .. and one of its cells. -/
structure CellAt (w : World) (base : Nat) (vr : Value) (rows : List (List Int)) (i : Nat) (row : List Int) (A : Option Addr) (j : Nat) (b : Nat) : Prop where
 addr : A = some ⟨b, 0, none⟩
 gb : base ≤ b
 ty : ∃ cells, w.heap[b]? = some (.cells cells 22 (0, 0))
 cell : w.cell? ⟨b, j, none⟩ = some (.int .u64 (row.getD j 0))
 free : w.frozen? ⟨b, j, none⟩ = false
 put : ∀ x, Kd.S k2 33 (w.setCell ⟨b, j, none⟩ (.int .u64 x)) base (fun _ => True) vr (rows.set i (row.set j x))
theorem rd_L1_nat {rows : List (List Int)} {i : Nat} (h : i < rows.length) : rows.getD i [] = rows[i] := by
 rw [List.getD_eq_getElem?_getD, List.getElem?_eq_getElem h]; rfl
theorem grid_row {w : World} {base : Nat} {vr : Value} {rows : List (List Int)} (hS : Kd.S k2 33 w base (fun _ => True) vr rows) {i : Nat} (hi : i < rows.length) :
  ∃ g cap A c, RowAt w base vr rows i rows[i] g cap A c ∧ ∀ j, j < rows[i].length → ∃ b, CellAt w base vr rows i rows[i] A j b := by
 obtain ⟨g, cap, rfl, hg, hgl, hty⟩ := Kd.S_form hS (by omega)
 obtain ⟨oki, c, hcl, hM, hcc, hfr, hoki, hH⟩ := Kd.S_elem hS [] (i : Int) (Int.natCast_nonneg i) (Int.ofNat_lt.2 hi)
 obtain ⟨v, rfl, hR⟩ := hM
 rw [show (i : Int).toNat = i from rfl, rd_L1_nat hi] at hR
 obtain ⟨A, c0, rfl, hlc, hC⟩ := Kd.R_reads hR
 have h1 := hcc 0 _ rfl
 have h2 := hfr 0
 rw [show (i : Int).toNat * k2.sz + 0 = i from by show i * 1 + 0 = i; omega] at h1 h2
 refine ⟨g, cap, A, c0, ⟨rfl, hg, hty, h1, h2, hlc⟩, fun j hj => ?_⟩
 obtain ⟨b, cb, e, hb, hbl, hbt⟩ := Kd.R_form hR (by omega)
 obtain ⟨rfl, rfl⟩ : A = some ⟨b, 0, none⟩ ∧ c0 = cb := by injection e with e1 _ e3; exact ⟨e1, e3⟩
 obtain ⟨q1, q2⟩ := Kd.R_celln (n := rows[i].length) 0 hR (j : Int) (Int.natCast_nonneg j) (Int.ofNat_lt.2 hj)
 refine ⟨b, rfl, hb, hbt, q1, q2, fun x => ?_⟩
 have hp := Kd.R_putg (n := rows[i].length) hR (j : Int) x
 have hok : oki b := hR.1 b rfl
 exact Kd.H_back (Kd.H_grown hH hp.2 (fun k hk => by injection hk with hk; exact hk ▸ hok)) ⟨_, rfl, hp.1⟩ (fun _ h => h)
theorem grid_row' {w : World} {base : Nat} {vr : Value} {rows : List (List Int)} (hS : Kd.S k2 33 w base (fun _ => True) vr rows) {i : Nat} {row : List Int} (hi : rows[i]? = some row) :
  ∃ g cap A c, RowAt w base vr rows i row g cap A c ∧ ∀ j, j < row.length → ∃ b, CellAt w base vr rows i row A j b := by
 obtain ⟨h, e⟩ := List.getElem?_eq_some_iff.1 hi
 have := grid_row hS h
 rwa [e] at this

/-- Blocks of other types than these are as they were. -/
def KeepT (ts : List Nat) (w w' : World) : Prop := w.heap.size ≤ w'.heap.size ∧ ∀ (k t : Nat) (cells : Array Value), w.heap[k]? = some (.cells cells t (0, 0)) → t ∉ ts → w'.heap[k]? = some (.cells cells t (0, 0))
theorem KeepT.refl (ts : List Nat) (w : World) : KeepT ts w w := ⟨Nat.le_refl _, fun _ _ _ h _ => h⟩
theorem KeepT.trans {ts : List Nat} {w w1 w2 : World} (h : KeepT ts w w1) (k : KeepT ts w1 w2) : KeepT ts w w2 := ⟨Nat.le_trans h.1 k.1, fun b t cells hb ht => k.2 b t cells (h.2 b t cells hb ht) ht⟩
theorem KeepT.mono {ts ts' : List Nat} {w w' : World} (h : KeepT ts w w') (hs : ∀ t, t ∈ ts → t ∈ ts') : KeepT ts' w w' := ⟨h.1, fun b t cells hb ht => h.2 b t cells hb (fun hm => ht (hs t hm))⟩
theorem KeepT.drewN {ts : List Nat} {w w' : World} (h : KeepT ts w w') (n : Nat) : KeepT ts w (w'.drewN n) := h
theorem KeepT.drew {ts : List Nat} {w w' : World} (h : KeepT ts w w') : KeepT ts w w'.drew := h
theorem KeepT.below {ts : List Nat} {w w1 w2 : World} (h : KeepT ts w w1) (hb : Below w1.heap.size w1 w2) : KeepT ts w w2 := ⟨Nat.le_trans h.1 hb.size, fun b t cells hc ht => by
 have h1 := h.2 b t cells hc ht
 rw [hb.block b (Array.getElem?_eq_some_iff.1 h1).1]
 exact h1⟩
theorem KeepT.alloc {ts : List Nat} {w w' : World} (h : KeepT ts w w') (o : Obj) : KeepT ts w (w'.alloc o) := h.below (below_alloc (Below.refl _ _) o)
theorem KeepT.set {ts : List Nat} {w w' : World} (h : KeepT ts w w') {g t : Nat} {cells : Array Value} (hg : w'.heap[g]? = some (.cells cells t (0, 0))) (ht : t ∈ ts) (j : Nat) (v : Value) : KeepT ts w (w'.setCell ⟨g, j, none⟩ v) :=
 ⟨by simp [World.setCell]; exact h.1, fun b t' cells' hc ht' => by
  have h1 := h.2 b t' cells' hc ht'
  have hne : b ≠ g := by
   intro e
   subst e
   rw [h1] at hg
   injection hg with hg
   injection hg with _ hg
   exact ht' (hg ▸ ht)
  rw [Below.heap_setCell w' ⟨g, j, none⟩ v b hne]
  exact h1⟩
theorem KeepT.grown {ts : List Nat} {w w1 w2 : World} (h : KeepT ts w w1) {row : Option Nat} (hg : w1.grownBy w2 row) {t : Nat} (hrow : ∀ k, row = some k → ∃ cells, w1.heap[k]? = some (.cells cells t (0, 0))) (ht : t ∈ ts) : KeepT ts w w2 :=
 ⟨Nat.le_trans h.1 hg.size, fun b t' cells' hc ht' => by
  have h1 := h.2 b t' cells' hc ht'
  have hne : some b ≠ row := by
   intro e
   obtain ⟨cells, hcl⟩ := hrow b e.symm
   rw [h1] at hcl
   injection hcl with hcl
   injection hcl with _ hcl
   exact ht' (hcl ▸ ht)
  rw [hg.block b (Array.getElem?_eq_some_iff.1 h1).1 hne]
  exact h1⟩
theorem R_keepT {α : Type} {d : Kd α} {e base : Nat} {ok : Nat → Prop} {w w' : World} {v : Value} {xs : List α} {ts : List Nat} (h : d.R e w base ok v xs) (hk : KeepT ts w w') (ht : ∀ q, q ∈ e :: d.E → q ∉ ts) : d.R e w' base ok v xs := by
 refine Kd.R_mono (Kd.R_move (w1 := w') (Kd.R_bound h) (fun k hk' => ?_)) (fun _ hk => hk.1)
 obtain ⟨_, _, _, q, hq, cells, hc⟩ := hk'
 rw [hk.2 k q cells hc (ht q hq), hc]
theorem cell_keepT {w w' : World} {ts : List Nat} {g t i : Nat} {v : Value} {cells : Array Value} (hc : w.cell? ⟨g, i, none⟩ = some v) (hk : KeepT ts w w') (hg : w.heap[g]? = some (.cells cells t (0, 0))) (ht : t ∉ ts) : w'.cell? ⟨g, i, none⟩ = some v := by
 rw [← hc]
 exact World.cell?_of_block (by rw [hk.2 g t cells hg ht, hg])
theorem RowAt.keep {w w' : World} {base : Nat} {vr : Value} {rows rows' : List (List Int)} {i : Nat} {row row' : List Int} {g cap g' cap' c c' : Nat} {A A' : Option Addr} {ts : List Nat} (h : RowAt w base vr rows i row g cap A c) (h' : RowAt w' base vr rows' i row' g' cap' A' c') (hk : KeepT ts w w') (ht : 33 ∉ ts) :
  g' = g ∧ A' = A ∧ c' = c := by
 obtain ⟨cells, hc⟩ := h.ty
 have e := h.vr_.symm.trans h'.vr_
 injection e with e1 _ _
 injection e1 with e1
 injection e1 with e1 _ _
 subst e1
 have h2 := cell_keepT h.head hk hc ht
 rw [h'.head] at h2
 injection h2 with h2
 injection h2 with e2 _ e3
 exact ⟨rfl, e2, e3⟩
end Go.Proofs.Ytfdkhkajehopkaa.Mb
namespace Go.Proofs.Ytfdkhkajehopkaa.Mb
open Go.RowKit Go.Proofs.YtfdkhkajehopkaaW.PrintWords Go.Proofs.YtfdkhkajehopkaaW.PrintLast Go.Proofs.YtfdkhkajehopkaaW.PrintMore
set_option linter.unusedVariables false
set_option linter.unusedSimpArgs false
def grid_add.T3 : Bool × List (List Nat × List Nat) := (true, [([], []), ([0], [0]), ([1], [1]), ([2], [2]), ([], []), ([3, 4], [3, 4]), ([5], [5]), ([], []), ([], []), ([8], [8]), ([9], [9]), ([10], [10]), ([], []), ([12], [12]), ([13], [13]), ([14], [14]), ([], []), ([15, 16], [15, 16]), ([17], [17]), ([], []), ([18, 19], [18, 19]), ([20], [20]), ([], []), ([22], [22]), ([23], [23]), ([24], [24]), ([], []), ([], []), ([25, 26, 27], [25, 26, 27]), ([11, 21, 28, 28], [11, 21, 28]), ([6, 7, 0, 1, 2, 3, 4, 5, 6, 7, 8, 9, 10, 11, 12, 13, 14, 15, 16, 17, 18, 19, 20, 21, 22, 23, 24, 25, 26, 27, 28, 29], [6, 7]), ([30, 29, 29, 0, 1, 2, 3, 4, 5, 6, 7, 8, 9, 10, 11, 12, 13, 14, 15, 16, 17, 18, 19, 20, 21, 22, 23, 24, 25, 26, 27, 28, 29], [29, 30])])
def grid_add.B3 : List Nat := [0, 1, 3, 7, 0, 31, 63, 0, 0, 256, 768, 1792, 0, 4096, 12288, 28672, 0, 126976, 258048, 0, 1044480, 2093056, 0, 4194304, 12582912, 29360128, 0, 0, 264241152, 536870656, 1073741823, 2147483647]
theorem grid_add.tab3 : rtab .any (opsOf Try.f75 3) = grid_add.T3 := by kernel_rfl
theorem grid_add.bits3 : waitsOk grid_add.T3.2 grid_add.B3 = true := by kernel_rfl
set_option maxHeartbeats 8000000 in
set_option maxRecDepth 100000 in
theorem grid_add.calls (p det kk : Int) (rows : List (List Int)) (ti fr : Nat) (rt rf r : List Int) (vr vl : Value) (b : Nat) (w0 w : World) (hB : Below w0.heap.size w0 w) (hb : w.heap[b]? = some (.cells #[.int .u64 p, vr, .int .u64 det, vl] 75 (0, 0)))
  (hS : Kd.S k2 33 w w0.heap.size (fun _ => True) vr rows) (hto : rows[ti]? = some rt) (hfr : rows[fr]? = some rf) (hne : ti ≠ fr) (hn : rows.length ≤ 4096) (hl1 : r.length = rt.length) (hl2 : rf.length = rt.length) (hlm : rt.length ≤ 4096)
  (hst : ∀ i, i < r.length → ∃ t, field_Times.f p (rf.getD i 0) kk = some t ∧ field_Plus.f p (rt.getD i 0) t = some (r.getD i 0)) :
  Calls Try.prog 75 #[.pointer (some ⟨b, 0, none⟩), .int .i64 (ti : Int), .int .i64 (fr : Int), .int .u64 kk] w fun e w' => e = .returned (.tuple #[]) ∧ Kd.S k2 33 w' w0.heap.size (fun _ => True) vr (rows.set ti r) ∧ Below w0.heap.size w0 w' ∧ KeepT [22] w w' := by
 have HS := Aside0.mk hS
 have HB := Aside0.mk hB
 have HT := Aside0.mk hst
 have HBB := Aside0.mk hb
 have HL1 := Aside0.mk hl1
 have HL2 := Aside0.mk hl2
 have HNE := Aside0.mk hne
 have HTO := Aside0.mk hto
 have HFR := Aside0.mk hfr
 have HLM := Aside0.mk hlm
 have HN := Aside0.mk hn
 have htl : ti < rows.length := (List.getElem?_eq_some_iff.1 hto).1
 have hfl : fr < rows.length := (List.getElem?_eq_some_iff.1 hfr).1
 have HTL := Aside0.mk htl
 have HFL := Aside0.mk hfl
 obtain ⟨gf, capf, Af, cf, RF, hCF⟩ := grid_row' hS hfr
 have RF0 := Aside0.mk RF
 have hc1 : w.cell? ⟨b, 1, none⟩ = some vr := (blk_cell hb 1).trans rfl
 have hvr := RF.vr_
 have hhead := RF.head
 have hroom := Aside0.mk RF.room
 have f1 : ((fr : Int) < (rows.length : Int)) = True := eq_true (by omega)
 have f1' : (fr < rows.length) = True := eq_true hfl
 have hS0 : Aside0 (Kd.S k2 33 w w0.heap.size (fun _ => True) vr (rows.set ti (r.take 0 ++ rt.drop 0))) := ⟨by
  obtain ⟨h1, h2⟩ := List.getElem?_eq_some_iff.1 hto
  rw [List.take_zero, List.nil_append, List.drop_zero, ← h2, List.set_getElem_self]; exact hS⟩
 clear hS hB hst hb hl1 hl2 hne hto hfr hlm hCF RF htl hfl hn
 subst hvr
 go_enter Try.func75, Try.ntmps75
 go_wp2
 go_loopg [18] (r.length + 1) (fun kq v18 w' => ∃ i : Nat, v18 = .int .i64 (i : Int) ∧ Aside0 (i ≤ r.length ∧ kq = r.length + 1 - i) ∧ Aside0 (Kd.S k2 33 w' w0.heap.size (fun _ => True) (.slice (some ⟨gf, 0, none⟩) rows.length capf) (rows.set ti (r.take i ++ rt.drop i))) ∧ Aside0 (KeepT [22] w w') ∧ Aside0 (Below w0.heap.size w0 w'))
 case atStart => exact ⟨0, rfl, ⟨by omega, by omega⟩, hS0, ⟨KeepT.refl _ _⟩, HB⟩
 case round =>
  clear hS0 HB hhead hc1
  obtain ⟨i, rfl, HI, HSi, HK, HB⟩ := hrel
  cases gk with
  | zero => exact absurd HI.out.2 (by have := HI.out.1; omega)
  | succ k1 =>
   obtain ⟨cur, hcur⟩ : ∃ cur, cur = r.take i ++ rt.drop i := ⟨_, rfl⟩
   rw [← hcur] at HSi
   have hcl : cur.length = rt.length := by rw [hcur]; have := HL1.out; have := HI.out.1; simp; omega
   have e1 : (rows.set ti cur)[fr]? = some rf := by rw [List.getElem?_set_ne HNE.out]; exact HFR.out
   have e2 : (rows.set ti cur)[ti]? = some cur := List.getElem?_set_self HTL.out
   obtain ⟨gf', capf', Af', cf', RF', hCF⟩ := grid_row' HSi.out e1
   obtain ⟨gt, capt, At, ct, RT, hCT⟩ := grid_row' HSi.out e2
   obtain ⟨q1, q2, q3⟩ := RowAt.keep RF0.out RF' HK.out (by decide)
   subst q1 q2 q3
   have hgt : gt = gf' := by have := RT.vr_; injection this with e _ _; injection e with e; injection e with e; exact e.symm
   subst hgt
   have HW := Aside0.mk (HK.out.2 b 75 _ HBB.out (by decide))
   by_cases hlt : i < r.length
   ·have hif : i < rf.length := by rw [HL2.out, ← HL1.out]; exact hlt
    have hit : i < cur.length := by rw [hcl, ← HL1.out]; exact hlt
    obtain ⟨bf, CF⟩ := hCF i hif
    obtain ⟨bt, CT⟩ := hCT i hit
    have ea := CF.addr
    have eb := CT.addr
    subst ea eb
    obtain ⟨t1, hT1, hT2⟩ := HT.out i hlt
    have hcg : cur.getD i 0 = rt.getD i 0 := by
     rw [hcur, List.getD_eq_getElem?_getD, List.getElem?_append_right (by rw [List.length_take]; omega), List.getElem?_drop, List.length_take, Nat.min_eq_left (by omega), ← List.getD_eq_getElem?_getD]
     congr 1; omega
    have T1 := Aside0.mk hT1
    have T2 : Aside0 (field_Plus.f p (cur.getD i 0) t1 = some (r.getD i 0)) := ⟨by rw [hcg]; exact hT2⟩
    have hnext : cur.set i (r.getD i 0) = r.take (i + 1) ++ rt.drop (i + 1) := by
     rw [hcur, List.set_append_right _ _ (by rw [List.length_take]; omega), List.length_take, Nat.min_eq_left (by omega), Nat.sub_self, List.drop_eq_getElem_cons (by have := HL1.out; omega), List.set_cons_zero, List.take_succ_eq_append_getElem hlt, List.append_assoc, List.getD_eq_getElem?_getD, List.getElem?_eq_getElem hlt]
     rfl
    obtain ⟨xf, hxf⟩ : ∃ x_, rf.getD i 0 = x_ := ⟨_, rfl⟩
    obtain ⟨xt, hxt⟩ : ∃ x_, cur.getD i 0 = x_ := ⟨_, rfl⟩
    obtain ⟨xr, hxr⟩ : ∃ x_, r.getD i 0 = x_ := ⟨_, rfl⟩
    rw [hxf] at T1
    rw [hxt, hxr] at T2
    rw [hxr] at hnext
    have HNX := Aside0.mk hnext
    have CT := Aside0.mk CT
    have RT := Aside0.mk RT
    have hx := CF.cell
    have hct := CT.out.cell
    rw [hxf] at hx
    rw [hxt] at hct
    have hft := CT.out.free
    clear hxf hxt hxr
    have b1 : decide ((i : Int) < (rf.length : Int)) = true := decide_eq_true (by omega)
    have b1' : decide (i < rf.length) = true := decide_eq_true hif
    have g1 : (i < rf.length) = True := eq_true hif
    have g2 : (i < cur.length) = True := eq_true hit
    have g3 : (ti < rows.length) = True := eq_true HTL.out
    have HIT := Aside0.mk hit
    have HIF := Aside0.mk hif
    have hi63 : (i : Int) ≤ 9223372036854775806 := by have := HL1.out; have := HLM.out; omega
    clear hT1 hT2 hcg hnext hcur hcl hit hif hCF hCT CF e1 e2 RF'
    go_wp2
    have hc0 : wr.cell? ⟨b, 0, none⟩ = some (.int .u64 p) := (blk_cell HW.out 0).trans rfl
    have hc1 : wr.cell? ⟨b, 1, none⟩ = some (.slice (some ⟨gt, 0, none⟩) rows.length capf) := (blk_cell HW.out 1).trans rfl
    refine start_ (n := 32) (S := fun w' => w'.cell? ⟨b, 0, none⟩ = some (.int .u64 p) ∧ w'.cell? ⟨b, 1, none⟩ = some (.slice (some ⟨gt, 0, none⟩) rows.length capf) ∧ w'.cell? ⟨gt, ti, none⟩ = some (.slice (some ⟨bt, 0, none⟩) cur.length ct) ∧ w'.cell? ⟨bt, i, none⟩ = some (.int .u64 xt)) (ds := [31]) #[false, false, false, false, false, false, false, false, false, false, false, false, false, false, false, false, false, false, false, false, false, false, false, false, false, false, false, false, false, false, false, false] (by kernel_rfl) rfl rfl ⟨hc0, hc1, RT.out.head, hct⟩ (fun hHeld => ?_); refine with_tabW grid_add.tab3 grid_add.bits3 (fun HT_ HW_ => ?_)
    refine pure_ (i := 0) (N := some 23) (v := ?_) (a' := ?_) #[true, false, false, false, false, false, false, false, false, false, false, false, false, false, false, false, false, false, false, false, false, false, false, false, false, false, false, false, false, false, false, false] rfl rfl (any_of HT_.out (by kernel_rfl)) (fun _ _ _ h => h) (Or.inl ⟨by rfl, ?_⟩) ?_ ?_
    rotate_left
    ·intro w'
     go_simp
     (try with_reducible rfl)
    rotate_left
    ·simp only [Act.put, List.setIfInBounds_toArray, List.set_cons_zero, List.set_cons_succ, i64_w, i32_w]
     rfl
    refine pure_ (i := 1) (N := some 24) (v := ?_) (a' := ?_) #[true, true, false, false, false, false, false, false, false, false, false, false, false, false, false, false, false, false, false, false, false, false, false, false, false, false, false, false, false, false, false, false] rfl rfl (any_of HT_.out (by kernel_rfl)) (fun _ _ _ h => h) (Or.inl ⟨by rfl, ?_⟩) ?_ ?_
    rotate_left
    ·intro w'
     go_simp
     (try with_reducible rfl)
    rotate_left
    ·simp only [Act.put, List.setIfInBounds_toArray, List.set_cons_zero, List.set_cons_succ, i64_w, i32_w]
     rfl
    refine pure_ (i := 2) (N := some 25) (v := ?_) (a' := ?_) #[true, true, true, false, false, false, false, false, false, false, false, false, false, false, false, false, false, false, false, false, false, false, false, false, false, false, false, false, false, false, false, false] rfl rfl (any_of HT_.out (by kernel_rfl)) (fun _ _ _ h => h) (Or.inl ⟨by rfl, ?_⟩) ?_ ?_
    rotate_left
    ·intro w'
     go_simp
     (try with_reducible rfl)
    rotate_left
    ·simp only [Act.put, List.setIfInBounds_toArray, List.set_cons_zero, List.set_cons_succ, i64_w, i32_w]
     rfl
    refine pure_ (i := 4) (N := some 27) (v := ?_) (a' := ?_) #[true, true, true, false, true, false, false, false, false, false, false, false, false, false, false, false, false, false, false, false, false, false, false, false, false, false, false, false, false, false, false, false] rfl rfl (any_of HT_.out (by kernel_rfl)) (fun _ _ _ h => h) (Or.inl ⟨by rfl, ?_⟩) ?_ ?_
    rotate_left
    ·intro w'
     go_simp
     (try with_reducible rfl)
    rotate_left
    ·simp only [Act.put, List.setIfInBounds_toArray, List.set_cons_zero, List.set_cons_succ, i64_w, i32_w]
     rfl
    refine pure_ (i := 7) (N := some 30) (v := ?_) (a' := ?_) #[true, true, true, false, true, false, false, true, false, false, false, false, false, false, false, false, false, false, false, false, false, false, false, false, false, false, false, false, false, false, false, false] rfl rfl (any_of HT_.out (by kernel_rfl)) (fun _ _ _ h => h) (Or.inl ⟨by rfl, ?_⟩) ?_ ?_
    rotate_left
    ·intro w'
     go_simp
     (try with_reducible rfl)
    rotate_left
    ·simp only [Act.put, List.setIfInBounds_toArray, List.set_cons_zero, List.set_cons_succ, i64_w, i32_w]
     rfl
    refine pure_ (i := 8) (N := some 31) (v := ?_) (a' := ?_) #[true, true, true, false, true, false, false, true, true, false, false, false, false, false, false, false, false, false, false, false, false, false, false, false, false, false, false, false, false, false, false, false] rfl rfl (any_of HT_.out (by kernel_rfl)) (fun _ _ _ h => h) (Or.inl ⟨by rfl, ?_⟩) ?_ ?_
    rotate_left
    ·intro w'
     go_simp
     (try with_reducible rfl)
    rotate_left
    ·simp only [Act.put, List.setIfInBounds_toArray, List.set_cons_zero, List.set_cons_succ, i64_w, i32_w]
     rfl
    refine pure_ (i := 9) (N := some 32) (v := ?_) (a' := ?_) #[true, true, true, false, true, false, false, true, true, true, false, false, false, false, false, false, false, false, false, false, false, false, false, false, false, false, false, false, false, false, false, false] rfl rfl (any_of HT_.out (by kernel_rfl)) (fun _ _ _ h => h) (Or.inl ⟨by rfl, ?_⟩) ?_ ?_
    rotate_left
    ·intro w'
     go_simp
     (try with_reducible rfl)
    rotate_left
    ·simp only [Act.put, List.setIfInBounds_toArray, List.set_cons_zero, List.set_cons_succ, i64_w, i32_w]
     rfl
    refine pure_ (i := 10) (N := some 33) (v := ?_) (a' := ?_) #[true, true, true, false, true, false, false, true, true, true, true, false, false, false, false, false, false, false, false, false, false, false, false, false, false, false, false, false, false, false, false, false] rfl rfl (any_of HT_.out (by kernel_rfl)) (fun _ _ _ h => h) (Or.inl ⟨by rfl, ?_⟩) ?_ ?_
    rotate_left
    ·intro w'
     go_simp
     (try with_reducible rfl)
    rotate_left
    ·simp only [Act.put, List.setIfInBounds_toArray, List.set_cons_zero, List.set_cons_succ, i64_w, i32_w]
     rfl
    refine pure_ (i := 12) (N := some 35) (v := ?_) (a' := ?_) #[true, true, true, false, true, false, false, true, true, true, true, false, true, false, false, false, false, false, false, false, false, false, false, false, false, false, false, false, false, false, false, false] rfl rfl (any_of HT_.out (by kernel_rfl)) (fun _ _ _ h => h) (Or.inl ⟨by rfl, ?_⟩) ?_ ?_
    rotate_left
    ·intro w'
     go_simp
     (try with_reducible rfl)
    rotate_left
    ·simp only [Act.put, List.setIfInBounds_toArray, List.set_cons_zero, List.set_cons_succ, i64_w, i32_w]
     rfl
    refine pure_ (i := 13) (N := some 36) (v := ?_) (a' := ?_) #[true, true, true, false, true, false, false, true, true, true, true, false, true, true, false, false, false, false, false, false, false, false, false, false, false, false, false, false, false, false, false, false] rfl rfl (any_of HT_.out (by kernel_rfl)) (fun _ _ _ h => h) (Or.inl ⟨by rfl, ?_⟩) ?_ ?_
    rotate_left
    ·intro w'
     go_simp
     (try with_reducible rfl)
    rotate_left
    ·simp only [Act.put, List.setIfInBounds_toArray, List.set_cons_zero, List.set_cons_succ, i64_w, i32_w]
     rfl
    refine pure_ (i := 14) (N := some 37) (v := ?_) (a' := ?_) #[true, true, true, false, true, false, false, true, true, true, true, false, true, true, true, false, false, false, false, false, false, false, false, false, false, false, false, false, false, false, false, false] rfl rfl (any_of HT_.out (by kernel_rfl)) (fun _ _ _ h => h) (Or.inl ⟨by rfl, ?_⟩) ?_ ?_
    rotate_left
    ·intro w'
     go_simp
     (try with_reducible rfl)
    rotate_left
    ·simp only [Act.put, List.setIfInBounds_toArray, List.set_cons_zero, List.set_cons_succ, i64_w, i32_w]
     rfl
    refine pure_ (i := 16) (N := some 39) (v := ?_) (a' := ?_) #[true, true, true, false, true, false, false, true, true, true, true, false, true, true, true, false, true, false, false, false, false, false, false, false, false, false, false, false, false, false, false, false] rfl rfl (any_of HT_.out (by kernel_rfl)) (fun _ _ _ h => h) (Or.inl ⟨by rfl, ?_⟩) ?_ ?_
    rotate_left
    ·intro w'
     go_simp
     (try with_reducible rfl)
    rotate_left
    ·simp only [Act.put, List.setIfInBounds_toArray, List.set_cons_zero, List.set_cons_succ, i64_w, i32_w]
     rfl
    refine pure_ (i := 19) (N := some 42) (v := ?_) (a' := ?_) #[true, true, true, false, true, false, false, true, true, true, true, false, true, true, true, false, true, false, false, true, false, false, false, false, false, false, false, false, false, false, false, false] rfl rfl (any_of HT_.out (by kernel_rfl)) (fun _ _ _ h => h) (Or.inl ⟨by rfl, ?_⟩) ?_ ?_
    rotate_left
    ·intro w'
     go_simp
     (try with_reducible rfl)
    rotate_left
    ·simp only [Act.put, List.setIfInBounds_toArray, List.set_cons_zero, List.set_cons_succ, i64_w, i32_w]
     rfl
    refine pure_ (i := 22) (N := some 45) (v := ?_) (a' := ?_) #[true, true, true, false, true, false, false, true, true, true, true, false, true, true, true, false, true, false, false, true, false, false, true, false, false, false, false, false, false, false, false, false] rfl rfl (any_of HT_.out (by kernel_rfl)) (fun _ _ _ h => h) (Or.inl ⟨by rfl, ?_⟩) ?_ ?_
    rotate_left
    ·intro w'
     go_simp
     (try with_reducible rfl)
    rotate_left
    ·simp only [Act.put, List.setIfInBounds_toArray, List.set_cons_zero, List.set_cons_succ, i64_w, i32_w]
     rfl
    refine pure_ (i := 23) (N := some 46) (v := ?_) (a' := ?_) #[true, true, true, false, true, false, false, true, true, true, true, false, true, true, true, false, true, false, false, true, false, false, true, true, false, false, false, false, false, false, false, false] rfl rfl (any_of HT_.out (by kernel_rfl)) (fun _ _ _ h => h) (Or.inl ⟨by rfl, ?_⟩) ?_ ?_
    rotate_left
    ·intro w'
     go_simp
     (try with_reducible rfl)
    rotate_left
    ·simp only [Act.put, List.setIfInBounds_toArray, List.set_cons_zero, List.set_cons_succ, i64_w, i32_w]
     rfl
    refine pure_ (i := 24) (N := some 47) (v := ?_) (a' := ?_) #[true, true, true, false, true, false, false, true, true, true, true, false, true, true, true, false, true, false, false, true, false, false, true, true, true, false, false, false, false, false, false, false] rfl rfl (any_of HT_.out (by kernel_rfl)) (fun _ _ _ h => h) (Or.inl ⟨by rfl, ?_⟩) ?_ ?_
    rotate_left
    ·intro w'
     go_simp
     (try with_reducible rfl)
    rotate_left
    ·simp only [Act.put, List.setIfInBounds_toArray, List.set_cons_zero, List.set_cons_succ, i64_w, i32_w]
     rfl
    refine pure_ (i := 26) (N := some 49) (v := ?_) (a' := ?_) #[true, true, true, false, true, false, false, true, true, true, true, false, true, true, true, false, true, false, false, true, false, false, true, true, true, false, true, false, false, false, false, false] rfl rfl (any_of HT_.out (by kernel_rfl)) (fun _ _ _ h => h) (Or.inl ⟨by rfl, ?_⟩) ?_ ?_
    rotate_left
    ·intro w'
     go_simp
     (try with_reducible rfl)
    rotate_left
    ·simp only [Act.put, List.setIfInBounds_toArray, List.set_cons_zero, List.set_cons_succ, i64_w, i32_w]
     rfl
    refine pure_ (i := 27) (N := some 50) (v := ?_) (a' := ?_) #[true, true, true, false, true, false, false, true, true, true, true, false, true, true, true, false, true, false, false, true, false, false, true, true, true, false, true, true, false, false, false, false] rfl rfl (any_of HT_.out (by kernel_rfl)) (fun _ _ _ h => h) (Or.inl ⟨by rfl, ?_⟩) ?_ ?_
    rotate_left
    ·intro w'
     go_simp
     (try with_reducible rfl)
    rotate_left
    ·simp only [Act.put, List.setIfInBounds_toArray, List.set_cons_zero, List.set_cons_succ, i64_w, i32_w]
     rfl
    refine take_ (i := 3) (N := some 26) (v := ?_) (a' := ?_) #[true, true, true, true, true, false, false, true, true, true, true, false, true, true, true, false, true, false, false, true, false, false, true, true, true, false, true, true, false, false, false, false] rfl rfl (take_ofW HT_.out HW_.out (by kernel_rfl)) (fun _ _ _ h => h) (Or.inl ⟨by rfl, ?_⟩) hHeld ?_ ?_
    rotate_left
    ·rintro w' ⟨s0, s1, s2, s3⟩
     go_simp
     (try with_reducible rfl)
    rotate_left
    ·simp only [Act.put, List.setIfInBounds_toArray, List.set_cons_zero, List.set_cons_succ, i64_w, i32_w]
     rfl
    refine pure_ (i := 5) (N := some 28) (v := ?_) (a' := ?_) #[true, true, true, true, true, true, false, true, true, true, true, false, true, true, true, false, true, false, false, true, false, false, true, true, true, false, true, true, false, false, false, false] rfl rfl (any_of HT_.out (by kernel_rfl)) (fun _ _ _ h => h) (Or.inl ⟨by rfl, ?_⟩) ?_ ?_
    rotate_left
    ·intro w'
     go_simp
     (try with_reducible rfl)
    rotate_left
    ·simp only [Act.put, List.setIfInBounds_toArray, List.set_cons_zero, List.set_cons_succ, i64_w, i32_w]
     rfl
    refine take_ (i := 6) (N := some 29) (v := ?_) (a' := ?_) #[true, true, true, true, true, true, true, true, true, true, true, false, true, true, true, false, true, false, false, true, false, false, true, true, true, false, true, true, false, false, false, false] rfl rfl (take_ofW HT_.out HW_.out (by kernel_rfl)) (fun _ _ _ h => h) (Or.inl ⟨by rfl, ?_⟩) hHeld ?_ ?_
    rotate_left
    ·rintro w' ⟨s0, s1, s2, s3⟩
     go_simp
     (try with_reducible rfl)
    rotate_left
    ·simp only [Act.put, List.setIfInBounds_toArray, List.set_cons_zero, List.set_cons_succ, i64_w, i32_w]
     rfl
    refine take_ (i := 11) (N := some 34) (v := ?_) (a' := ?_) #[true, true, true, true, true, true, true, true, true, true, true, true, true, true, true, false, true, false, false, true, false, false, true, true, true, false, true, true, false, false, false, false] rfl rfl (take_ofW HT_.out HW_.out (by kernel_rfl)) (fun _ _ _ h => h) (Or.inl ⟨by rfl, ?_⟩) hHeld ?_ ?_
    rotate_left
    ·rintro w' ⟨s0, s1, s2, s3⟩
     go_simp
     (try with_reducible rfl)
    rotate_left
    ·simp only [Act.put, List.setIfInBounds_toArray, List.set_cons_zero, List.set_cons_succ, i64_w, i32_w]
     rfl
    refine take_ (i := 15) (N := some 38) (v := ?_) (a' := ?_) #[true, true, true, true, true, true, true, true, true, true, true, true, true, true, true, true, true, false, false, true, false, false, true, true, true, false, true, true, false, false, false, false] rfl rfl (take_ofW HT_.out HW_.out (by kernel_rfl)) (fun _ _ _ h => h) (Or.inl ⟨by rfl, ?_⟩) hHeld ?_ ?_
    rotate_left
    ·rintro w' ⟨s0, s1, s2, s3⟩
     go_simp
     (try with_reducible rfl)
    rotate_left
    ·simp only [Act.put, List.setIfInBounds_toArray, List.set_cons_zero, List.set_cons_succ, i64_w, i32_w]
     rfl
    refine pure_ (i := 17) (N := some 40) (v := ?_) (a' := ?_) #[true, true, true, true, true, true, true, true, true, true, true, true, true, true, true, true, true, true, false, true, false, false, true, true, true, false, true, true, false, false, false, false] rfl rfl (any_of HT_.out (by kernel_rfl)) (fun _ _ _ h => h) (Or.inl ⟨by rfl, ?_⟩) ?_ ?_
    rotate_left
    ·intro w'
     go_simp
     (try with_reducible rfl)
    rotate_left
    ·simp only [Act.put, List.setIfInBounds_toArray, List.set_cons_zero, List.set_cons_succ, i64_w, i32_w]
     rfl
    refine take_ (i := 18) (N := some 41) (v := ?_) (a' := ?_) #[true, true, true, true, true, true, true, true, true, true, true, true, true, true, true, true, true, true, true, true, false, false, true, true, true, false, true, true, false, false, false, false] rfl rfl (take_ofW HT_.out HW_.out (by kernel_rfl)) (fun _ _ _ h => h) (Or.inl ⟨by rfl, ?_⟩) hHeld ?_ ?_
    rotate_left
    ·rintro w' ⟨s0, s1, s2, s3⟩
     go_simp
     (try with_reducible rfl)
    rotate_left
    ·simp only [Act.put, List.setIfInBounds_toArray, List.set_cons_zero, List.set_cons_succ, i64_w, i32_w]
     rfl
    refine pure_ (i := 20) (N := some 43) (v := ?_) (a' := ?_) #[true, true, true, true, true, true, true, true, true, true, true, true, true, true, true, true, true, true, true, true, true, false, true, true, true, false, true, true, false, false, false, false] rfl rfl (any_of HT_.out (by kernel_rfl)) (fun _ _ _ h => h) (Or.inl ⟨by rfl, ?_⟩) ?_ ?_
    rotate_left
    ·intro w'
     go_simp
     (try with_reducible rfl)
    rotate_left
    ·simp only [Act.put, List.setIfInBounds_toArray, List.set_cons_zero, List.set_cons_succ, i64_w, i32_w]
     rfl
    refine take_ (i := 21) (N := some 44) (v := ?_) (a' := ?_) #[true, true, true, true, true, true, true, true, true, true, true, true, true, true, true, true, true, true, true, true, true, true, true, true, true, false, true, true, false, false, false, false] rfl rfl (take_ofW HT_.out HW_.out (by kernel_rfl)) (fun _ _ _ h => h) (Or.inl ⟨by rfl, ?_⟩) hHeld ?_ ?_
    rotate_left
    ·rintro w' ⟨s0, s1, s2, s3⟩
     go_simp
     (try with_reducible rfl)
    rotate_left
    ·simp only [Act.put, List.setIfInBounds_toArray, List.set_cons_zero, List.set_cons_succ, i64_w, i32_w]
     rfl
    refine take_ (i := 25) (N := some 48) (v := ?_) (a' := ?_) #[true, true, true, true, true, true, true, true, true, true, true, true, true, true, true, true, true, true, true, true, true, true, true, true, true, true, true, true, false, false, false, false] rfl rfl (take_ofW HT_.out HW_.out (by kernel_rfl)) (fun _ _ _ h => h) (Or.inl ⟨by rfl, ?_⟩) hHeld ?_ ?_
    rotate_left
    ·rintro w' ⟨s0, s1, s2, s3⟩
     go_simp
     (try with_reducible rfl)
    rotate_left
    ·simp only [Act.put, List.setIfInBounds_toArray, List.set_cons_zero, List.set_cons_succ, i64_w, i32_w]
     rfl
    refine one_ (i := 28) (N := some 51) #[true, true, true, true, true, true, true, true, true, true, true, true, true, true, true, true, true, true, true, true, true, true, true, true, true, true, true, true, true, false, false, false] rfl rfl (one_of HT_.out (by kernel_rfl)) (by decide) (fun K hK => ?_)
    refine goes_ Try.func67 (by kernel_rfl) rfl #[.int .u64 p, .int .u64 xf, .int .u64 kk] (by rfl) rfl rfl (by (try simp only [List.map_toArray, List.map_cons, List.map_nil]); first | done | rfl) ?_
    with_reducible refine (field_Times.calls p xf kk t1 _ T1.out).mono ?_
    rintro e w' ⟨rfl, ⟨nd, rfl⟩⟩
    refine ⟨_, rfl, ?_⟩
    refine hK.out _ _ ⟨hHeld.1, hHeld.2.1, hHeld.2.2.1, hHeld.2.2.2⟩ (fun hHeld => ?_)
    clear hK K
    refine norm_ (a' := ?_) ?_ ?_
    rotate_left
    ·show Act.put _ (some 51) _ = _
     simp only [Act.put, List.setIfInBounds_toArray, List.set_cons_zero, List.set_cons_succ, i64_w, i32_w]
     rfl
    refine one_ (i := 29) (N := some 52) #[true, true, true, true, true, true, true, true, true, true, true, true, true, true, true, true, true, true, true, true, true, true, true, true, true, true, true, true, true, true, false, false] rfl rfl (one_of HT_.out (by kernel_rfl)) (by decide) (fun K hK => ?_)
    refine goes_ Try.func69 (by kernel_rfl) rfl #[.int .u64 p, .int .u64 xt, .int .u64 t1] (by rfl) rfl rfl (by (try simp only [List.map_toArray, List.map_cons, List.map_nil]); first | done | rfl) ?_
    with_reducible refine (field_Plus.calls p xt t1 xr _ T2.out).mono ?_
    rintro e w' ⟨rfl, ⟨nd2, rfl⟩⟩
    refine ⟨_, rfl, ?_⟩
    refine hK.out _ _ ⟨hHeld.1, hHeld.2.1, hHeld.2.2.1, hHeld.2.2.2⟩ (fun hHeld => ?_)
    clear hK K
    refine norm_ (a' := ?_) ?_ ?_
    rotate_left
    ·show Act.put _ (some 52) _ = _
     simp only [Act.put, List.setIfInBounds_toArray, List.set_cons_zero, List.set_cons_succ, i64_w, i32_w]
     rfl
    refine pure_ (i := 30) (N := some 53) (v := ?_) (a' := ?_) #[true, true, true, true, true, true, true, true, true, true, true, true, true, true, true, true, true, true, true, true, true, true, true, true, true, true, true, true, true, true, true, false] rfl rfl (any_of HT_.out (by kernel_rfl)) (fun _ _ _ h => h) (Or.inl ⟨by rfl, ?_⟩) ?_ ?_
    rotate_left
    ·intro w'
     go_simp
     (try with_reducible rfl)
    rotate_left
    ·simp only [Act.put, List.setIfInBounds_toArray, List.set_cons_zero, List.set_cons_succ, i64_w, i32_w]
     rfl
    refine last_ (i := 31) (N := none) #[true, true, true, true, true, true, true, true, true, true, true, true, true, true, true, true, true, true, true, true, true, true, true, true, true, true, true, true, true, true, true, true] rfl rfl (one_of HT_.out (by kernel_rfl)) (by decide) (fun K hK => ?_)
    refine skip_ (w1 := ?_) (by rfl) rfl ?_ ?_
    rotate_left
    ·go_simp
     (try rfl)
    refine hK.out _ _ ?_
    clear hK K
    refine done_ (done_of HT_.out (by kernel_rfl)) ?_
    try go_wp2
    go_roundg k1
    case measure => omega
    case rel =>
     obtain ⟨cellsT, hT⟩ := CT.out.ty
     have hs := CT.out.put xr
     rw [List.set_set, HNX.out] at hs
     exact ⟨i + 1, by go_num, ⟨by have := HI.out.1; omega, by have := HI.out; omega⟩, ⟨Kd.S_drewN hs _⟩, ⟨KeepT.set (w' := wr.drewN _) HK.out hT (by decide) i _⟩, ⟨below_set (pw_below_drewN HB.out _) CT.out.gb⟩⟩
   ·have b1 : decide ((i : Int) < (rf.length : Int)) = false := decide_eq_false (by have := HL1.out; have := HL2.out; omega)
    have b1' : decide (i < rf.length) = false := decide_eq_false (by have := HL1.out; have := HL2.out; omega)
    have hfin : cur = r := by
     rw [hcur, List.take_of_length_le (by omega), List.drop_eq_nil_of_le (by have := HL1.out; omega), List.append_nil]
    rw [hfin] at HSi
    clear hCF hCT hcl hcur e1 e2 RF'
    go_wp2
    go_end0
    exact ⟨rfl, HSi.out, HB.out, HK.out⟩
end Go.Proofs.Ytfdkhkajehopkaa.Mb
namespace Go.Proofs.Ytfdkhkajehopkaa.Mb
open Go.RowKit Go.Proofs.YtfdkhkajehopkaaW.PrintWords Go.Proofs.YtfdkhkajehopkaaW.PrintLast Go.Proofs.YtfdkhkajehopkaaW.PrintMore
set_option linter.unusedVariables false
theorem S_keepT {α : Type} {d : Kd α} {e base : Nat} {ok : Nat → Prop} {w w' : World} {v : Value} {xs : List α} {ts : List Nat} (h : Kd.S d e w base ok v xs) (hk : KeepT ts w w') (ht : ∀ q, q ∈ e :: d.E → q ∉ ts) : Kd.S d e w' base ok v xs := by
 obtain ⟨f, h⟩ := h
 exact ⟨f, R_keepT h hk ht⟩
theorem KeepT.put2 {ts : List Nat} {w w' : World} (h : KeepT ts w w') {g t : Nat} {cells : Array Value} (hg : w'.heap[g]? = some (.cells cells t (0, 0))) (ht : t ∈ ts) (i j : Nat) (u v : Value) : KeepT ts w ((w'.setCell ⟨g, i, none⟩ u).setCell ⟨g, j, none⟩ v) :=
 ⟨by simp [World.setCell]; exact h.1, fun b t' cells' hc ht' => by
  have h1 := h.2 b t' cells' hc ht'
  have hne : b ≠ g := by
   intro e
   subst e
   rw [h1] at hg
   injection hg with hg
   injection hg with _ hg
   exact ht' (hg ▸ ht)
  rw [Below.heap_setCell _ ⟨g, j, none⟩ v b hne, Below.heap_setCell _ ⟨g, i, none⟩ u b hne]
  exact h1⟩
theorem grid_det {w w1 w0 : World} {b : Nat} {p d x : Value} {vr vl : Value} {rows : List (List Int)} (hb : w.heap[b]? = some (.cells #[p, vr, d, vl] 75 (0, 0))) (hS : Kd.S k2 33 w w0.heap.size (fun _ => True) vr rows) (hK : KeepT [22, 33, 75] w1 w) (hB : Below w0.heap.size w0 w) (hbb : w0.heap.size ≤ b) (m : Nat) :
  ((w.drewN m).setCell ⟨b, 2, none⟩ x).heap[b]? = some (.cells #[p, vr, x, vl] 75 (0, 0)) ∧ Kd.S k2 33 ((w.drewN m).setCell ⟨b, 2, none⟩ x) w0.heap.size (fun _ => True) vr rows ∧ KeepT [22, 33, 75] w1 ((w.drewN m).setCell ⟨b, 2, none⟩ x) ∧ Below w0.heap.size w0 ((w.drewN m).setCell ⟨b, 2, none⟩ x) := by
 have hb' : (w.drewN m).heap[b]? = some (.cells #[p, vr, d, vl] 75 (0, 0)) := hb
 exact ⟨blk_put (cs := #[p, vr, d, vl]) hb' 2 _ rfl, S_keepT hS (KeepT.set (ts := [75]) (w' := w.drewN m) (KeepT.refl _ _) hb' (by decide) 2 x) (by decide), KeepT.set (w' := w.drewN m) hK hb' (by decide) 2 x, below_set (pw_below_drewN hB m) hbb⟩
theorem one_of_list {l : List Value} {j : Nat} (h : j < l.length) : (l.drop (j * 1)).take 1 = [l[j]] := by
 rw [Nat.mul_one, List.drop_eq_getElem_cons h]; rfl
theorem ownsRow_store {w : World} {base e g n cap : Nat} {xs : List Value} (h : w.ownsRow base e 1 (.slice (some ⟨g, 0, none⟩) n cap) n xs) (j : Nat) (v : Value) : (w.setCell ⟨g, j, none⟩ v).ownsRow base e 1 (.slice (some ⟨g, 0, none⟩) n cap) n (xs.set j v) := by
 exact (h.stored j v).1
theorem S_swap {w : World} {base : Nat} {g n cap : Nat} {rows : List (List Int)} (hS : Kd.S k2 33 w base (fun _ => True) (.slice (some ⟨g, 0, none⟩) n cap) rows) {i j : Nat} {ri rj : List Int} (hi : rows[i]? = some ri) (hj : rows[j]? = some rj) (hij : i ≠ j)
  {vi vj : Value} (ci : w.cell? ⟨g, i, none⟩ = some vi) (cj : w.cell? ⟨g, j, none⟩ = some vj) :
  Kd.S k2 33 ((w.setCell ⟨g, i, none⟩ vj).setCell ⟨g, j, none⟩ vi) base (fun _ => True) (.slice (some ⟨g, 0, none⟩) n cap) ((rows.set i rj).set j ri) := by
 obtain ⟨hil, hi'⟩ := List.getElem?_eq_some_iff.1 hi
 obtain ⟨hjl, hj'⟩ := List.getElem?_eq_some_iff.1 hj
 obtain ⟨f, h0, inner, ho, hr⟩ := hS
 rw [List.length_zipIdx] at ho
 have hn : n = rows.length := by
  rcases ho.2 with ⟨h, _⟩ | ⟨g', cap', cur, h, _⟩
  ·cases h
  ·injection h
 subst hn
 have hlen : inner.length = rows.length := by have h1 : inner.length = rows.length * 1 := ho.1; omega
 have hcell : ∀ m (h : m < inner.length), w.cell? ⟨g, m, none⟩ = some inner[m] := fun m h => by
  have := ho.cells (g := g) rfl m inner[m] (List.getElem?_eq_getElem h)
  rwa [add_plain] at this
 have evi : inner[i]'(by omega) = vi := by have := hcell i (by omega); rw [ci] at this; exact (Option.some.inj this).symm
 have evj : inner[j]'(by omega) = vj := by have := hcell j (by omega); rw [cj] at this; exact (Option.some.inj this).symm
 have own2 := ownsRow_store (ownsRow_store ho i vj) j vi
 refine ⟨fun k => if f k = i then j else if f k = j then i else f k, h0, (inner.set i vj).set j vi, by rw [List.length_zipIdx, List.length_set, List.length_set]; exact own2, ?_⟩
 refine ⟨by show ((inner.set i vj).set j vi).length = ((rows.set i rj).set j ri).zipIdx.length * 1; rw [List.length_set, List.length_set, List.length_zipIdx, List.length_set, List.length_set, hlen, Nat.mul_one], fun m p hm => ?_⟩
 rw [List.getElem?_zipIdx, Nat.zero_add] at hm
 obtain ⟨q, hq, rfl⟩ := Option.map_eq_some_iff.1 hm
 have hml : m < rows.length := by
  have := (List.getElem?_eq_some_iff.1 hq).1
  simpa using this
 have hcl : ((((inner.set i vj).set j vi).drop (m * 1)).take 1) = [((inner.set i vj).set j vi)[m]'(by simp; omega)] := one_of_list (by simp; omega)
 show (Kd.tag _ k2).M _ base _ (q, m) ((((inner.set i vj).set j vi).drop (m * 1)).take 1)
 rw [hcl]
 have old : ∀ m' (h' : m' < rows.length), k2.M w base (fun k => (True ∧ some k ≠ (Value.slice (some ⟨g, 0, none⟩) rows.length cap).ownBlock) ∧ f k = m') rows[m'] [inner[m']'(by omega)] := fun m' h' => by
  have h2 := hr.2 m' (rows[m'], m') (Kd.zip_at (List.getElem?_eq_getElem h'))
  have e2 : (inner.drop (m' * (Kd.tag f k2).sz)).take (Kd.tag f k2).sz = [inner[m']'(by omega)] := one_of_list (by omega)
  rw [e2] at h2
  exact h2
 have moved : ∀ (m' mm : Nat) (h' : m' < rows.length), (∀ k, f k = m' → (if f k = i then j else if f k = j then i else f k) = mm) →
   k2.M ((w.setCell ⟨g, i, none⟩ vj).setCell ⟨g, j, none⟩ vi) base (fun k => (True ∧ some k ≠ (Value.slice (some ⟨g, 0, none⟩) rows.length cap).ownBlock) ∧ (if f k = i then j else if f k = j then i else f k) = mm) rows[m'] [inner[m']'(by omega)] := fun m' mm h' hf => by
  have h1 := old m' h'
  have hne : ∀ k, ((True ∧ some k ≠ (Value.slice (some ⟨g, 0, none⟩) rows.length cap).ownBlock) ∧ f k = m') → k ≠ g := fun k hk e => hk.1.2 (by rw [e]; rfl)
  exact k2.M_mono (fun k hk => ⟨hk.1, hf k hk.2⟩) (Kd.M_far (p := ⟨g, j, none⟩) (Kd.M_far (p := ⟨g, i, none⟩) h1 hne vj) hne vi)
 by_cases e1 : m = j
 ·subst e1
  have hqe : q = ri := by rw [List.getElem?_set_self (by simpa using hjl)] at hq; exact (Option.some.inj hq).symm
  have hv : ((inner.set i vj).set m vi)[m]'(by simp; omega) = inner[i]'(by omega) := by rw [List.getElem_set_self, evi]
  rw [hv, hqe, ← hi']
  exact moved i m hil (fun k hk => if_pos hk)
 ·by_cases e2 : m = i
  ·subst e2
   have hqe : q = rj := by rw [List.getElem?_set_ne (Ne.symm e1), List.getElem?_set_self hil] at hq; exact (Option.some.inj hq).symm
   have hv : ((inner.set m vj).set j vi)[m]'(by simp; omega) = inner[j]'(by omega) := by rw [List.getElem_set_ne (Ne.symm e1), List.getElem_set_self, evj]
   rw [hv, hqe, ← hj']
   exact moved j m hjl (fun k hk => by rw [if_neg (by rw [hk]; exact Ne.symm hij), if_pos hk])
  ·have hqe : rows[m] = q := by rw [List.getElem?_set_ne (Ne.symm e1), List.getElem?_set_ne (Ne.symm e2), List.getElem?_eq_getElem hml] at hq; exact Option.some.inj hq
   have hv : ((inner.set i vj).set j vi)[m]'(by simp; omega) = inner[m]'(by omega) := by rw [List.getElem_set_ne (Ne.symm e1), List.getElem_set_ne (Ne.symm e2)]
   rw [hv, ← hqe]
   exact moved m m hml (fun k hk => by rw [if_neg (by rw [hk]; exact e2), if_neg (by rw [hk]; exact e1)]; exact hk)
end Go.Proofs.Ytfdkhkajehopkaa.Mb
namespace Go.Proofs.Ytfdkhkajehopkaa.Mb
open Go.RowKit Go.Proofs.YtfdkhkajehopkaaW.PrintWords Go.Proofs.YtfdkhkajehopkaaW.PrintLast Go.Proofs.YtfdkhkajehopkaaW.PrintMore
set_option linter.unusedVariables false
set_option linter.unusedSimpArgs false
def grid_lift.T7 : Bool × List (List Nat × List Nat) := (true, [([], []), ([0], [0]), ([1], [1]), ([2], [2]), ([], []), ([], []), ([5], [5]), ([6], [6]), ([7], [7]), ([], []), ([], []), ([10], [10]), ([11], [11]), ([12], [12]), ([], []), ([13, 14], [13, 14]), ([15], [15]), ([], []), ([17], [17]), ([18], [18]), ([19], [19]), ([], []), ([20, 21], [20, 21]), ([22], [22]), ([3, 4, 0, 1, 2, 3, 4, 8, 10, 11, 12, 13, 14, 15, 16, 20, 23], [3, 4]), ([24, 16, 0, 1, 2, 3, 4, 8, 10, 11, 12, 13, 14, 15, 16, 20, 23], [16, 24]), ([8, 9, 0, 1, 2, 3, 4, 5, 6, 7, 8, 9, 10, 11, 12, 13, 14, 15, 16, 17, 18, 19, 20, 21, 22, 23, 24, 25], [8, 9]), ([26, 23, 25, 0, 1, 2, 3, 4, 5, 6, 7, 8, 9, 10, 11, 12, 13, 14, 15, 16, 17, 18, 19, 20, 21, 22, 23, 24, 25], [23, 26])])
def grid_lift.B7 : List Nat := [0, 1, 3, 7, 0, 0, 32, 96, 224, 0, 0, 1024, 3072, 7168, 0, 31744, 64512, 0, 131072, 393216, 917504, 0, 4063232, 8257536, 16776703, 33553919, 67108863, 134217727]
theorem grid_lift.tab7 : rtab .any (opsOf Try.f74 7) = grid_lift.T7 := by kernel_rfl
theorem grid_lift.bits7 : waitsOk grid_lift.T7.2 grid_lift.B7 = true := by kernel_rfl
def grid_lift.T8 : Bool × List (List Nat × List Nat) := (true, [([], []), ([], []), ([1], [1]), ([2], [2]), ([3], [3]), ([], []), ([5], [5]), ([6], [6]), ([7], [7]), ([4, 8], [4, 8]), ([0, 0, 1, 2, 3, 4, 5, 6, 7, 8, 9], [0]), ([10, 0, 1, 2, 3, 4, 5, 6, 7, 8, 9], [10]), ([11, 9, 9, 0, 1, 2, 3, 4, 5, 6, 7, 8, 9], [9, 11])])
def grid_lift.B8 : List Nat := [0, 0, 2, 6, 14, 0, 32, 96, 224, 510, 1023, 2047, 4095]
theorem grid_lift.tab8 : rtab .any (opsOf Try.f74 8) = grid_lift.T8 := by kernel_rfl
theorem grid_lift.bits8 : waitsOk grid_lift.T8.2 grid_lift.B8 = true := by kernel_rfl
def grid_lift.T9 : Bool × List (List Nat × List Nat) := (true, [([], []), ([], []), ([1], [1]), ([2], [2]), ([3], [3]), ([], []), ([5], [5]), ([6], [6]), ([7], [7]), ([], []), ([4, 8, 9], [4, 8, 9]), ([0, 0, 1, 2, 3, 4, 5, 6, 7, 8, 9, 10], [0]), ([11, 0, 1, 2, 3, 4, 5, 6, 7, 8, 9, 10], [11]), ([12, 10, 10, 0, 1, 2, 3, 4, 5, 6, 7, 8, 9, 10], [10, 12])])
def grid_lift.B9 : List Nat := [0, 0, 2, 6, 14, 0, 32, 96, 224, 0, 1022, 2047, 4095, 8191]
theorem grid_lift.tab9 : rtab .any (opsOf Try.f74 9) = grid_lift.T9 := by kernel_rfl
theorem grid_lift.bits9 : waitsOk grid_lift.T9.2 grid_lift.B9 = true := by kernel_rfl
def grid_lift.T14 : Bool × List (List Nat × List Nat) := (true, [([], []), ([0], [0]), ([1], [1]), ([2], [2]), ([], []), ([3, 4], [3, 4]), ([5], [5]), ([], []), ([], []), ([8], [8]), ([9], [9]), ([10], [10]), ([], []), ([], []), ([11, 12, 13], [11, 12, 13]), ([6, 7, 0, 1, 2, 3, 4, 5, 6, 7, 8, 9, 10, 11, 12, 13, 14], [6, 7]), ([15, 14, 14, 0, 1, 2, 3, 4, 5, 6, 7, 8, 9, 10, 11, 12, 13, 14], [14, 15])])
def grid_lift.B14 : List Nat := [0, 1, 3, 7, 0, 31, 63, 0, 0, 256, 768, 1792, 0, 0, 16128, 32767, 65535]
theorem grid_lift.tab14 : rtab .any (opsOf Try.f74 14) = grid_lift.T14 := by kernel_rfl
theorem grid_lift.bits14 : waitsOk grid_lift.T14.2 grid_lift.B14 = true := by kernel_rfl
set_option maxHeartbeats 8000000 in
set_option maxRecDepth 100000 in
theorem grid_lift_none.calls (p det : Int) (rows : List (List Int)) (at_ col : Nat) (vr vl : Value) (b base : Nat) (w : World) (hb : w.heap[b]? = some (.cells #[.int .u64 p, vr, .int .u64 det, vl] 75 (0, 0)))
  (hS : Kd.S k2 33 w base (fun _ => True) vr rows) (hat : at_ ≤ rows.length) (hn : rows.length ≤ 4096) (hz : ∀ i row, at_ ≤ i → rows[i]? = some row → col < row.length ∧ row.getD col 0 = 0) :
  Calls Try.prog 74 #[.pointer (some ⟨b, 0, none⟩), .int .i64 (at_ : Int), .int .i64 (col : Int)] w fun e w' => e = .returned (.bool false) ∧ w' = w := by
 have HS := Aside0.mk hS
 have HZ := Aside0.mk hz
 have HN := Aside0.mk hn
 have HAT := Aside0.mk hat
 obtain ⟨Ar, cr, er⟩ := Kd.S_slice hS
 have hc1 : w.cell? ⟨b, 1, none⟩ = some vr := (blk_cell hb 1).trans rfl
 clear hz hn hat hb hS
 subst er
 go_enter Try.func74, Try.ntmps74
 go_wp2
 go_loopg [7] (rows.length + 1) (fun kq v7 w' => ∃ i : Nat, v7 = .int .i64 (i : Int) ∧ Aside0 (at_ ≤ i ∧ i ≤ rows.length ∧ rows.length < kq + i) ∧ w' = w)
 case atStart => exact ⟨at_, rfl, ⟨Nat.le_refl _, HAT.out, by omega⟩, rfl⟩
 case round =>
  obtain ⟨i, rfl, HI, rfl⟩ := hrel
  cases gk with
  | zero => exact absurd HI.out.2 (by omega)
  | succ k1 =>
   have hi63 : (i : Int) ≤ 9223372036854775806 := by have := HI.out; have := HN.out; omega
   by_cases hlt : i < rows.length
   ·obtain ⟨row, hrow⟩ : ∃ row, rows[i]? = some row := ⟨_, List.getElem?_eq_getElem hlt⟩
    obtain ⟨hz1, hz2⟩ := HZ.out i row HI.out.1 hrow
    obtain ⟨g, cap, A, c, RA, hCA⟩ := grid_row' HS.out hrow
    obtain ⟨bi, CA⟩ := hCA col hz1
    have e1 := RA.vr_
    have e2 := CA.addr
    subst e2
    injection e1 with e1 _ e3
    subst e1 e3
    have hh := RA.head
    have hx := CA.cell
    rw [hz2] at hx
    have b1 : decide ((i : Int) < (rows.length : Int)) = true := decide_eq_true (by omega)
    have b1' : decide (i < rows.length) = true := decide_eq_true hlt
    have g1 : (i < rows.length) = True := eq_true hlt
    have g2 : (col < row.length) = True := eq_true hz1
    have RA := Aside0.mk RA
    have CA := Aside0.mk CA
    have HLT := Aside0.mk hlt
    clear hCA hz1 hz2 hlt hrow
    go_wp2
    go_roundg k1
    case measure => omega
    case rel => exact ⟨i + 1, by go_num, ⟨by have := HI.out; omega, by have := HLT.out; omega, by have := HI.out; omega⟩, rfl⟩
   ·have b1 : decide ((i : Int) < (rows.length : Int)) = false := decide_eq_false (by omega)
    have b1' : decide (i < rows.length) = false := decide_eq_false hlt
    clear hlt
    go_wp2
    go_ret
    exact ⟨rfl, rfl⟩
end Go.Proofs.Ytfdkhkajehopkaa.Mb
namespace Go.Proofs.Ytfdkhkajehopkaa.Mb
open Go.RowKit Go.Proofs.YtfdkhkajehopkaaW.PrintWords Go.Proofs.YtfdkhkajehopkaaW.PrintLast Go.Proofs.YtfdkhkajehopkaaW.PrintMore
set_option linter.unusedVariables false
set_option linter.unusedSimpArgs false

set_option maxHeartbeats 8000000 in
set_option maxRecDepth 100000 in
theorem grid_lift_far.calls (kr : Nat) (p det : Int) (rows : List (List Int)) (at_ col i0 : Nat) (ra ri r : List Int) (x det1 det2 over : Int) (vr vl : Value) (b : Nat) (w0 w : World) (hB : Below w0.heap.size w0 w) (hbb : w0.heap.size ≤ b) (hb : w.heap[b]? = some (.cells #[.int .u64 p, vr, .int .u64 det, vl] 75 (0, 0)))
  (hS : Kd.S k2 33 w w0.heap.size (fun _ => True) vr rows) (hat : at_ ≤ i0) (hn : rows.length ≤ 4096) (hz : ∀ i, at_ ≤ i → i < i0 → ∃ row, rows[i]? = some row ∧ col < row.length ∧ row.getD col 0 = 0)
  (hra : rows[at_]? = some ra) (hri : rows[i0]? = some ri) (hcol : col < ri.length) (hlm : ri.length ≤ 4096) (hx : ri.getD col 0 = x) (hx0 : x ≠ 0) (hway : i0 ≠ at_ ∧ field_Minus.f p 0 det = some det1) (hd2 : field_Times.f p det1 x = some det2) (hov : field_Over.f kr p x = some over)
  (hl1 : r.length = ri.length) (hst : ∀ j, j < r.length → field_Times.f p (ri.getD j 0) over = some (r.getD j 0)) :
  Calls Try.prog 74 #[.pointer (some ⟨b, 0, none⟩), .int .i64 (at_ : Int), .int .i64 (col : Int)] w fun e w' => e = .returned (.bool true) ∧ w'.heap[b]? = some (.cells #[.int .u64 p, vr, .int .u64 det2, vl] 75 (0, 0)) ∧ Kd.S k2 33 w' w0.heap.size (fun _ => True) vr (((rows.set i0 ra).set at_ ri).set at_ r) ∧ Below w0.heap.size w0 w' ∧ KeepT [22, 33, 75] w w' := by
 have HS := Aside0.mk hS
 have HB := Aside0.mk hB
 have HBB := Aside0.mk hb
 have HGB := Aside0.mk hbb
 have HZ := Aside0.mk hz
 have HN := Aside0.mk hn
 have HAT := Aside0.mk hat
 have HRA := Aside0.mk hra
 have HRI := Aside0.mk hri
 have HCOL := Aside0.mk hcol
 have HLM := Aside0.mk hlm
 have HX := Aside0.mk hx
 have HX0 := Aside0.mk hx0
 have HWAY := Aside0.mk hway
 have HD2 := Aside0.mk hd2
 have HOV := Aside0.mk hov
 have HL1 := Aside0.mk hl1
 have HST := Aside0.mk hst
 have HI0 := Aside0.mk (List.getElem?_eq_some_iff.1 hri).1
 obtain ⟨Ar, cr, er⟩ := Kd.S_slice hS
 have hc1 : w.cell? ⟨b, 1, none⟩ = some vr := (blk_cell hb 1).trans rfl
 clear hS hB hb hbb hz hn hat hra hri hcol hlm hx hx0 hway hd2 hov hl1 hst
 subst er
 go_enter Try.func74, Try.ntmps74
 go_wp2
 go_loopg [7] (rows.length + 1) (fun kq v7 w' => ∃ i : Nat, v7 = .int .i64 (i : Int) ∧ Aside0 (at_ ≤ i ∧ i ≤ i0 ∧ rows.length < kq + i) ∧ w' = w)
 case atStart => exact ⟨at_, rfl, ⟨Nat.le_refl _, HAT.out, by omega⟩, rfl⟩
 case round =>
  obtain ⟨i, rfl, HI, rfl⟩ := hrel
  cases gk with
  | zero => exact absurd HI.out.2 (by have := HI0.out; omega)
  | succ k1 =>
   have hi63 : (i : Int) ≤ 9223372036854775806 := by have := HI.out; have := HI0.out; have := HN.out; omega
   by_cases hlt : i < i0
   ·obtain ⟨row, hrow, hz1, hz2⟩ := HZ.out i HI.out.1 hlt
    have hil : i < rows.length := (List.getElem?_eq_some_iff.1 hrow).1
    obtain ⟨g, cap, A, c, RA, hCA⟩ := grid_row' HS.out hrow
    obtain ⟨bi, CA⟩ := hCA col hz1
    have e1 := RA.vr_
    have e2 := CA.addr
    subst e2
    injection e1 with e1 _ e3
    subst e1 e3
    have hh := RA.head
    have hx := CA.cell
    rw [hz2] at hx
    have b1 : decide ((i : Int) < (rows.length : Int)) = true := decide_eq_true (by omega)
    have b1' : decide (i < rows.length) = true := decide_eq_true hil
    have g1 : (i < rows.length) = True := eq_true hil
    have g2 : (col < row.length) = True := eq_true hz1
    have HLT := Aside0.mk hlt
    clear hCA hz1 hz2 hlt hrow RA CA hil
    go_wp2
    go_roundg k1
    case measure => omega
    case rel => exact ⟨i + 1, by go_num, ⟨by have := HI.out; omega, by have := HLT.out; omega, by have := HI.out; omega⟩, rfl⟩
   ·have hii : i = i0 := by have := HI.out; omega
    subst hii
    clear hlt
    have hil : i < rows.length := HI0.out
    have hal : at_ < rows.length := (List.getElem?_eq_some_iff.1 HRA.out).1
    obtain ⟨g, cap, A, c, RA, hCA⟩ := grid_row' HS.out HRI.out
    obtain ⟨bi, CA⟩ := hCA col HCOL.out
    have e1 := RA.vr_
    have e2 := CA.addr
    subst e2
    injection e1 with e1 _ e3
    subst e1 e3
    have hh := RA.head
    have hx := CA.cell
    rw [HX.out] at hx
    have bx : (x == 0) = false := beq_eq_false_iff_ne.mpr HX0.out
    have b1 : decide ((i : Int) < (rows.length : Int)) = true := decide_eq_true (by omega)
    have b1' : decide (i < rows.length) = true := decide_eq_true hil
    have g1 : (i < rows.length) = True := eq_true hil
    have g2 : (col < ri.length) = True := eq_true HCOL.out
    have g3 : (at_ < rows.length) = True := eq_true hal
    have RA := Aside0.mk RA
    clear hCA hil CA
    have hne : ((i : Int) != (at_ : Int)) = true := bne_iff_ne.mpr (by have := HWAY.out.1; omega)
    obtain ⟨g', cap', A', c', RB, _⟩ := grid_row' HS.out HRA.out
    have eg : g' = g := by have := RB.vr_; injection this with e _ _; injection e with e; injection e with e; exact e.symm
    subst eg
    have hha := RB.head
    have RB := Aside0.mk RB
    have hfi := RA.out.free
    have hfa := RB.out.free
    have hai : at_ ≠ i := fun e => HWAY.out.1 e.symm
    have hha2 : (wr.drew.setCell ⟨g', i, none⟩ (.slice A' ra.length c')).cell? ⟨g', at_, none⟩ = some (.slice A' ra.length c') := by
     rw [World.cell?_setCell_other _ ⟨g', i, none⟩ ⟨g', at_, none⟩ _ (by intro h_; injection h_ with _ h_ _; exact hai h_.symm)]; exact hha
    have hai' : ¬ at_ = i := hai
    have hai'' : ¬ i = at_ := HWAY.out.1
    go_wp2
    refine start_ (n := 28) (S := fun w' => w'.cell? ⟨b, 1, none⟩ = some (.slice (some ⟨g', 0, none⟩) rows.length cr) ∧ w'.cell? ⟨g', at_, none⟩ = some (.slice A' ra.length c') ∧ w'.cell? ⟨g', i, none⟩ = some (.slice (some ⟨bi, 0, none⟩) ri.length c)) (ds := [25, 27]) #[false, false, false, false, false, false, false, false, false, false, false, false, false, false, false, false, false, false, false, false, false, false, false, false, false, false, false, false] (by kernel_rfl) rfl rfl ⟨hc1, hha, hh⟩ (fun hHeld => ?_); refine with_tabW grid_lift.tab7 grid_lift.bits7 (fun HT_ HW_ => ?_)
    refine pure_ (i := 0) (N := some 37) (v := ?_) (a' := ?_) #[true, false, false, false, false, false, false, false, false, false, false, false, false, false, false, false, false, false, false, false, false, false, false, false, false, false, false, false] rfl rfl (any_of HT_.out (by kernel_rfl)) (fun _ _ _ h => h) (Or.inl ⟨by rfl, ?_⟩) ?_ ?_
    rotate_left
    ·intro w'
     go_simp
     (try with_reducible rfl)
    rotate_left
    ·simp only [Act.put, List.setIfInBounds_toArray, List.set_cons_zero, List.set_cons_succ, i64_w, i32_w]
     rfl
    refine pure_ (i := 1) (N := some 38) (v := ?_) (a' := ?_) #[true, true, false, false, false, false, false, false, false, false, false, false, false, false, false, false, false, false, false, false, false, false, false, false, false, false, false, false] rfl rfl (any_of HT_.out (by kernel_rfl)) (fun _ _ _ h => h) (Or.inl ⟨by rfl, ?_⟩) ?_ ?_
    rotate_left
    ·intro w'
     go_simp
     (try with_reducible rfl)
    rotate_left
    ·simp only [Act.put, List.setIfInBounds_toArray, List.set_cons_zero, List.set_cons_succ, i64_w, i32_w]
     rfl
    refine pure_ (i := 2) (N := some 39) (v := ?_) (a' := ?_) #[true, true, true, false, false, false, false, false, false, false, false, false, false, false, false, false, false, false, false, false, false, false, false, false, false, false, false, false] rfl rfl (any_of HT_.out (by kernel_rfl)) (fun _ _ _ h => h) (Or.inl ⟨by rfl, ?_⟩) ?_ ?_
    rotate_left
    ·intro w'
     go_simp
     (try with_reducible rfl)
    rotate_left
    ·simp only [Act.put, List.setIfInBounds_toArray, List.set_cons_zero, List.set_cons_succ, i64_w, i32_w]
     rfl
    refine pure_ (i := 4) (N := some 41) (v := ?_) (a' := ?_) #[true, true, true, false, true, false, false, false, false, false, false, false, false, false, false, false, false, false, false, false, false, false, false, false, false, false, false, false] rfl rfl (any_of HT_.out (by kernel_rfl)) (fun _ _ _ h => h) (Or.inl ⟨by rfl, ?_⟩) ?_ ?_
    rotate_left
    ·intro w'
     go_simp
     (try with_reducible rfl)
    rotate_left
    ·simp only [Act.put, List.setIfInBounds_toArray, List.set_cons_zero, List.set_cons_succ, i64_w, i32_w]
     rfl
    refine pure_ (i := 5) (N := some 42) (v := ?_) (a' := ?_) #[true, true, true, false, true, true, false, false, false, false, false, false, false, false, false, false, false, false, false, false, false, false, false, false, false, false, false, false] rfl rfl (any_of HT_.out (by kernel_rfl)) (fun _ _ _ h => h) (Or.inl ⟨by rfl, ?_⟩) ?_ ?_
    rotate_left
    ·intro w'
     go_simp
     (try with_reducible rfl)
    rotate_left
    ·simp only [Act.put, List.setIfInBounds_toArray, List.set_cons_zero, List.set_cons_succ, i64_w, i32_w]
     rfl
    refine pure_ (i := 6) (N := some 43) (v := ?_) (a' := ?_) #[true, true, true, false, true, true, true, false, false, false, false, false, false, false, false, false, false, false, false, false, false, false, false, false, false, false, false, false] rfl rfl (any_of HT_.out (by kernel_rfl)) (fun _ _ _ h => h) (Or.inl ⟨by rfl, ?_⟩) ?_ ?_
    rotate_left
    ·intro w'
     go_simp
     (try with_reducible rfl)
    rotate_left
    ·simp only [Act.put, List.setIfInBounds_toArray, List.set_cons_zero, List.set_cons_succ, i64_w, i32_w]
     rfl
    refine pure_ (i := 7) (N := some 44) (v := ?_) (a' := ?_) #[true, true, true, false, true, true, true, true, false, false, false, false, false, false, false, false, false, false, false, false, false, false, false, false, false, false, false, false] rfl rfl (any_of HT_.out (by kernel_rfl)) (fun _ _ _ h => h) (Or.inl ⟨by rfl, ?_⟩) ?_ ?_
    rotate_left
    ·intro w'
     go_simp
     (try with_reducible rfl)
    rotate_left
    ·simp only [Act.put, List.setIfInBounds_toArray, List.set_cons_zero, List.set_cons_succ, i64_w, i32_w]
     rfl
    refine pure_ (i := 9) (N := some 46) (v := ?_) (a' := ?_) #[true, true, true, false, true, true, true, true, false, true, false, false, false, false, false, false, false, false, false, false, false, false, false, false, false, false, false, false] rfl rfl (any_of HT_.out (by kernel_rfl)) (fun _ _ _ h => h) (Or.inl ⟨by rfl, ?_⟩) ?_ ?_
    rotate_left
    ·intro w'
     go_simp
     (try with_reducible rfl)
    rotate_left
    ·simp only [Act.put, List.setIfInBounds_toArray, List.set_cons_zero, List.set_cons_succ, i64_w, i32_w]
     rfl
    refine pure_ (i := 10) (N := some 47) (v := ?_) (a' := ?_) #[true, true, true, false, true, true, true, true, false, true, true, false, false, false, false, false, false, false, false, false, false, false, false, false, false, false, false, false] rfl rfl (any_of HT_.out (by kernel_rfl)) (fun _ _ _ h => h) (Or.inl ⟨by rfl, ?_⟩) ?_ ?_
    rotate_left
    ·intro w'
     go_simp
     (try with_reducible rfl)
    rotate_left
    ·simp only [Act.put, List.setIfInBounds_toArray, List.set_cons_zero, List.set_cons_succ, i64_w, i32_w]
     rfl
    refine pure_ (i := 11) (N := some 48) (v := ?_) (a' := ?_) #[true, true, true, false, true, true, true, true, false, true, true, true, false, false, false, false, false, false, false, false, false, false, false, false, false, false, false, false] rfl rfl (any_of HT_.out (by kernel_rfl)) (fun _ _ _ h => h) (Or.inl ⟨by rfl, ?_⟩) ?_ ?_
    rotate_left
    ·intro w'
     go_simp
     (try with_reducible rfl)
    rotate_left
    ·simp only [Act.put, List.setIfInBounds_toArray, List.set_cons_zero, List.set_cons_succ, i64_w, i32_w]
     rfl
    refine pure_ (i := 12) (N := some 49) (v := ?_) (a' := ?_) #[true, true, true, false, true, true, true, true, false, true, true, true, true, false, false, false, false, false, false, false, false, false, false, false, false, false, false, false] rfl rfl (any_of HT_.out (by kernel_rfl)) (fun _ _ _ h => h) (Or.inl ⟨by rfl, ?_⟩) ?_ ?_
    rotate_left
    ·intro w'
     go_simp
     (try with_reducible rfl)
    rotate_left
    ·simp only [Act.put, List.setIfInBounds_toArray, List.set_cons_zero, List.set_cons_succ, i64_w, i32_w]
     rfl
    refine pure_ (i := 14) (N := some 51) (v := ?_) (a' := ?_) #[true, true, true, false, true, true, true, true, false, true, true, true, true, false, true, false, false, false, false, false, false, false, false, false, false, false, false, false] rfl rfl (any_of HT_.out (by kernel_rfl)) (fun _ _ _ h => h) (Or.inl ⟨by rfl, ?_⟩) ?_ ?_
    rotate_left
    ·intro w'
     go_simp
     (try with_reducible rfl)
    rotate_left
    ·simp only [Act.put, List.setIfInBounds_toArray, List.set_cons_zero, List.set_cons_succ, i64_w, i32_w]
     rfl
    refine pure_ (i := 17) (N := some 54) (v := ?_) (a' := ?_) #[true, true, true, false, true, true, true, true, false, true, true, true, true, false, true, false, false, true, false, false, false, false, false, false, false, false, false, false] rfl rfl (any_of HT_.out (by kernel_rfl)) (fun _ _ _ h => h) (Or.inl ⟨by rfl, ?_⟩) ?_ ?_
    rotate_left
    ·intro w'
     go_simp
     (try with_reducible rfl)
    rotate_left
    ·simp only [Act.put, List.setIfInBounds_toArray, List.set_cons_zero, List.set_cons_succ, i64_w, i32_w]
     rfl
    refine pure_ (i := 18) (N := some 55) (v := ?_) (a' := ?_) #[true, true, true, false, true, true, true, true, false, true, true, true, true, false, true, false, false, true, true, false, false, false, false, false, false, false, false, false] rfl rfl (any_of HT_.out (by kernel_rfl)) (fun _ _ _ h => h) (Or.inl ⟨by rfl, ?_⟩) ?_ ?_
    rotate_left
    ·intro w'
     go_simp
     (try with_reducible rfl)
    rotate_left
    ·simp only [Act.put, List.setIfInBounds_toArray, List.set_cons_zero, List.set_cons_succ, i64_w, i32_w]
     rfl
    refine pure_ (i := 19) (N := some 56) (v := ?_) (a' := ?_) #[true, true, true, false, true, true, true, true, false, true, true, true, true, false, true, false, false, true, true, true, false, false, false, false, false, false, false, false] rfl rfl (any_of HT_.out (by kernel_rfl)) (fun _ _ _ h => h) (Or.inl ⟨by rfl, ?_⟩) ?_ ?_
    rotate_left
    ·intro w'
     go_simp
     (try with_reducible rfl)
    rotate_left
    ·simp only [Act.put, List.setIfInBounds_toArray, List.set_cons_zero, List.set_cons_succ, i64_w, i32_w]
     rfl
    refine pure_ (i := 21) (N := some 58) (v := ?_) (a' := ?_) #[true, true, true, false, true, true, true, true, false, true, true, true, true, false, true, false, false, true, true, true, false, true, false, false, false, false, false, false] rfl rfl (any_of HT_.out (by kernel_rfl)) (fun _ _ _ h => h) (Or.inl ⟨by rfl, ?_⟩) ?_ ?_
    rotate_left
    ·intro w'
     go_simp
     (try with_reducible rfl)
    rotate_left
    ·simp only [Act.put, List.setIfInBounds_toArray, List.set_cons_zero, List.set_cons_succ, i64_w, i32_w]
     rfl
    refine take_ (i := 3) (N := some 40) (v := ?_) (a' := ?_) #[true, true, true, true, true, true, true, true, false, true, true, true, true, false, true, false, false, true, true, true, false, true, false, false, false, false, false, false] rfl rfl (take_ofW HT_.out HW_.out (by kernel_rfl)) (fun _ _ _ h => h) (Or.inl ⟨by rfl, ?_⟩) hHeld ?_ ?_
    rotate_left
    ·rintro w' ⟨s0, s1, s2⟩
     go_simp
     (try with_reducible rfl)
    rotate_left
    ·simp only [Act.put, List.setIfInBounds_toArray, List.set_cons_zero, List.set_cons_succ, i64_w, i32_w]
     rfl
    refine take_ (i := 8) (N := some 45) (v := ?_) (a' := ?_) #[true, true, true, true, true, true, true, true, true, true, true, true, true, false, true, false, false, true, true, true, false, true, false, false, false, false, false, false] rfl rfl (take_ofW HT_.out HW_.out (by kernel_rfl)) (fun _ _ _ h => h) (Or.inl ⟨by rfl, ?_⟩) hHeld ?_ ?_
    rotate_left
    ·rintro w' ⟨s0, s1, s2⟩
     go_simp
     (try with_reducible rfl)
    rotate_left
    ·simp only [Act.put, List.setIfInBounds_toArray, List.set_cons_zero, List.set_cons_succ, i64_w, i32_w]
     rfl
    refine take_ (i := 13) (N := some 50) (v := ?_) (a' := ?_) #[true, true, true, true, true, true, true, true, true, true, true, true, true, true, true, false, false, true, true, true, false, true, false, false, false, false, false, false] rfl rfl (take_ofW HT_.out HW_.out (by kernel_rfl)) (fun _ _ _ h => h) (Or.inl ⟨by rfl, ?_⟩) hHeld ?_ ?_
    rotate_left
    ·rintro w' ⟨s0, s1, s2⟩
     go_simp
     (try with_reducible rfl)
    rotate_left
    ·simp only [Act.put, List.setIfInBounds_toArray, List.set_cons_zero, List.set_cons_succ, i64_w, i32_w]
     rfl
    refine pure_ (i := 15) (N := some 52) (v := ?_) (a' := ?_) #[true, true, true, true, true, true, true, true, true, true, true, true, true, true, true, true, false, true, true, true, false, true, false, false, false, false, false, false] rfl rfl (any_of HT_.out (by kernel_rfl)) (fun _ _ _ h => h) (Or.inl ⟨by rfl, ?_⟩) ?_ ?_
    rotate_left
    ·intro w'
     go_simp
     (try with_reducible rfl)
    rotate_left
    ·simp only [Act.put, List.setIfInBounds_toArray, List.set_cons_zero, List.set_cons_succ, i64_w, i32_w]
     rfl
    refine take_ (i := 16) (N := some 53) (v := ?_) (a' := ?_) #[true, true, true, true, true, true, true, true, true, true, true, true, true, true, true, true, true, true, true, true, false, true, false, false, false, false, false, false] rfl rfl (take_ofW HT_.out HW_.out (by kernel_rfl)) (fun _ _ _ h => h) (Or.inl ⟨by rfl, ?_⟩) hHeld ?_ ?_
    rotate_left
    ·rintro w' ⟨s0, s1, s2⟩
     go_simp
     (try with_reducible rfl)
    rotate_left
    ·simp only [Act.put, List.setIfInBounds_toArray, List.set_cons_zero, List.set_cons_succ, i64_w, i32_w]
     rfl
    refine take_ (i := 20) (N := some 57) (v := ?_) (a' := ?_) #[true, true, true, true, true, true, true, true, true, true, true, true, true, true, true, true, true, true, true, true, true, true, false, false, false, false, false, false] rfl rfl (take_ofW HT_.out HW_.out (by kernel_rfl)) (fun _ _ _ h => h) (Or.inl ⟨by rfl, ?_⟩) hHeld ?_ ?_
    rotate_left
    ·rintro w' ⟨s0, s1, s2⟩
     go_simp
     (try with_reducible rfl)
    rotate_left
    ·simp only [Act.put, List.setIfInBounds_toArray, List.set_cons_zero, List.set_cons_succ, i64_w, i32_w]
     rfl
    refine pure_ (i := 22) (N := some 59) (v := ?_) (a' := ?_) #[true, true, true, true, true, true, true, true, true, true, true, true, true, true, true, true, true, true, true, true, true, true, true, false, false, false, false, false] rfl rfl (any_of HT_.out (by kernel_rfl)) (fun _ _ _ h => h) (Or.inl ⟨by rfl, ?_⟩) ?_ ?_
    rotate_left
    ·intro w'
     go_simp
     (try with_reducible rfl)
    rotate_left
    ·simp only [Act.put, List.setIfInBounds_toArray, List.set_cons_zero, List.set_cons_succ, i64_w, i32_w]
     rfl
    refine take_ (i := 23) (N := some 60) (v := ?_) (a' := ?_) #[true, true, true, true, true, true, true, true, true, true, true, true, true, true, true, true, true, true, true, true, true, true, true, true, false, false, false, false] rfl rfl (take_ofW HT_.out HW_.out (by kernel_rfl)) (fun _ _ _ h => h) (Or.inl ⟨by rfl, ?_⟩) hHeld ?_ ?_
    rotate_left
    ·rintro w' ⟨s0, s1, s2⟩
     go_simp
     (try with_reducible rfl)
    rotate_left
    ·simp only [Act.put, List.setIfInBounds_toArray, List.set_cons_zero, List.set_cons_succ, i64_w, i32_w]
     rfl
    refine pure_ (i := 24) (N := some 61) (v := ?_) (a' := ?_) #[true, true, true, true, true, true, true, true, true, true, true, true, true, true, true, true, true, true, true, true, true, true, true, true, true, false, false, false] rfl rfl (any_of HT_.out (by kernel_rfl)) (fun _ _ _ h => h) (Or.inl ⟨by rfl, ?_⟩) ?_ ?_
    rotate_left
    ·intro w'
     go_simp
     (try with_reducible rfl)
    rotate_left
    ·simp only [Act.put, List.setIfInBounds_toArray, List.set_cons_zero, List.set_cons_succ, i64_w, i32_w]
     rfl
    refine last_ (i := 25) (N := none) #[true, true, true, true, true, true, true, true, true, true, true, true, true, true, true, true, true, true, true, true, true, true, true, true, true, true, false, false] rfl rfl (one_of HT_.out (by kernel_rfl)) (by decide) (fun K hK => ?_)
    refine skip_ (w1 := ?_) (by rfl) rfl ?_ ?_
    rotate_left
    ·go_simp
     (try rfl)
    refine hK.out _ _ ?_
    clear hK K
    refine pure_ (i := 26) (N := some 62) (v := ?_) (a' := ?_) #[true, true, true, true, true, true, true, true, true, true, true, true, true, true, true, true, true, true, true, true, true, true, true, true, true, true, true, false] rfl rfl (any_of HT_.out (by kernel_rfl)) (fun _ _ _ h => h) (Or.inl ⟨by rfl, ?_⟩) ?_ ?_
    rotate_left
    ·intro w'
     go_simp
     (try with_reducible rfl)
    rotate_left
    ·simp only [Act.put, List.setIfInBounds_toArray, List.set_cons_zero, List.set_cons_succ, i64_w, i32_w]
     rfl
    refine last_ (i := 27) (N := none) #[true, true, true, true, true, true, true, true, true, true, true, true, true, true, true, true, true, true, true, true, true, true, true, true, true, true, true, true] rfl rfl (one_of HT_.out (by kernel_rfl)) (by decide) (fun K hK => ?_)
    refine skip_ (w1 := ?_) (by rfl) rfl ?_ ?_
    rotate_left
    ·go_simp
     (try rfl)
    refine hK.out _ _ ?_
    clear hK K
    refine done_ (done_of HT_.out (by kernel_rfl)) ?_
    try go_wp2
    have hij : i ≠ at_ := HWAY.out.1
    have s7 := Kd.S_drew (S_swap HS.out HRI.out HRA.out hij hh hha)
    obtain ⟨cellsA, hcA⟩ := RA.out.ty
    have t7 : KeepT [22, 33, 75] wr (((wr.setCell ⟨g', i, none⟩ (.slice A' ra.length c')).setCell ⟨g', at_, none⟩ (.slice (some ⟨bi, 0, none⟩) ri.length c)).drew) := KeepT.drew (KeepT.put2 (KeepT.refl _ _) hcA (by decide) _ _ _ _)
    have b7 : (((wr.setCell ⟨g', i, none⟩ (.slice A' ra.length c')).setCell ⟨g', at_, none⟩ (.slice (some ⟨bi, 0, none⟩) ri.length c)).drew).heap[b]? = some (.cells #[.int .u64 p, .slice (some ⟨g', 0, none⟩) rows.length cr, .int .u64 det, vl] 75 (0, 0)) := (KeepT.drew (KeepT.put2 (ts := [33]) (KeepT.refl _ _) hcA (by decide) _ _ _ _)).2 b 75 _ HBB.out (by decide)
    have l7 : Below w0.heap.size w0 (((wr.setCell ⟨g', i, none⟩ (.slice A' ra.length c')).setCell ⟨g', at_, none⟩ (.slice (some ⟨bi, 0, none⟩) ri.length c)).drew) := below_drew1 (below_set (below_set HB.out RA.out.gb) RA.out.gb)
    generalize ((wr.setCell ⟨g', i, none⟩ (.slice A' ra.length c')).setCell ⟨g', at_, none⟩ (.slice (some ⟨bi, 0, none⟩) ri.length c)).drew = w7 at s7 t7 b7 l7 ⊢
    clear hc1 hha hh hfi hfa hai hha2 hai' hai'' hx hij hcA
    have hc0 : w7.cell? ⟨b, 0, none⟩ = some (.int .u64 p) := (blk_cell b7 0).trans rfl
    have hc2 : w7.cell? ⟨b, 2, none⟩ = some (.int .u64 det) := (blk_cell b7 2).trans rfl
    have hf2 := blk_frozen b7 2
    have S7 := Aside0.mk s7
    have T7 := Aside0.mk t7
    have B7 := Aside0.mk b7
    have L7 := Aside0.mk l7
    clear s7 t7 b7 l7
    refine start_ (n := 13) (S := fun w' => w'.cell? ⟨b, 0, none⟩ = some (.int .u64 p) ∧ w'.cell? ⟨b, 2, none⟩ = some (.int .u64 det)) (ds := [12]) #[false, false, false, false, false, false, false, false, false, false, false, false, false] (by kernel_rfl) rfl rfl ⟨hc0, hc2⟩ (fun hHeld => ?_); refine with_tabW grid_lift.tab8 grid_lift.bits8 (fun HT_ HW_ => ?_)
    refine pure_ (i := 0) (N := some 63) (v := ?_) (a' := ?_) #[true, false, false, false, false, false, false, false, false, false, false, false, false] rfl rfl (any_of HT_.out (by kernel_rfl)) (fun _ _ _ h => h) (Or.inl ⟨by rfl, ?_⟩) ?_ ?_
    rotate_left
    ·intro w'
     go_simp
     (try with_reducible rfl)
    rotate_left
    ·simp only [Act.put, List.setIfInBounds_toArray, List.set_cons_zero, List.set_cons_succ, i64_w, i32_w]
     rfl
    refine pure_ (i := 1) (N := some 64) (v := ?_) (a' := ?_) #[true, true, false, false, false, false, false, false, false, false, false, false, false] rfl rfl (any_of HT_.out (by kernel_rfl)) (fun _ _ _ h => h) (Or.inl ⟨by rfl, ?_⟩) ?_ ?_
    rotate_left
    ·intro w'
     go_simp
     (try with_reducible rfl)
    rotate_left
    ·simp only [Act.put, List.setIfInBounds_toArray, List.set_cons_zero, List.set_cons_succ, i64_w, i32_w]
     rfl
    refine pure_ (i := 2) (N := some 65) (v := ?_) (a' := ?_) #[true, true, true, false, false, false, false, false, false, false, false, false, false] rfl rfl (any_of HT_.out (by kernel_rfl)) (fun _ _ _ h => h) (Or.inl ⟨by rfl, ?_⟩) ?_ ?_
    rotate_left
    ·intro w'
     go_simp
     (try with_reducible rfl)
    rotate_left
    ·simp only [Act.put, List.setIfInBounds_toArray, List.set_cons_zero, List.set_cons_succ, i64_w, i32_w]
     rfl
    refine pure_ (i := 3) (N := some 66) (v := ?_) (a' := ?_) #[true, true, true, true, false, false, false, false, false, false, false, false, false] rfl rfl (any_of HT_.out (by kernel_rfl)) (fun _ _ _ h => h) (Or.inl ⟨by rfl, ?_⟩) ?_ ?_
    rotate_left
    ·intro w'
     go_simp
     (try with_reducible rfl)
    rotate_left
    ·simp only [Act.put, List.setIfInBounds_toArray, List.set_cons_zero, List.set_cons_succ, i64_w, i32_w]
     rfl
    refine pure_ (i := 5) (N := some 68) (v := ?_) (a' := ?_) #[true, true, true, true, false, true, false, false, false, false, false, false, false] rfl rfl (any_of HT_.out (by kernel_rfl)) (fun _ _ _ h => h) (Or.inl ⟨by rfl, ?_⟩) ?_ ?_
    rotate_left
    ·intro w'
     go_simp
     (try with_reducible rfl)
    rotate_left
    ·simp only [Act.put, List.setIfInBounds_toArray, List.set_cons_zero, List.set_cons_succ, i64_w, i32_w]
     rfl
    refine pure_ (i := 6) (N := some 69) (v := ?_) (a' := ?_) #[true, true, true, true, false, true, true, false, false, false, false, false, false] rfl rfl (any_of HT_.out (by kernel_rfl)) (fun _ _ _ h => h) (Or.inl ⟨by rfl, ?_⟩) ?_ ?_
    rotate_left
    ·intro w'
     go_simp
     (try with_reducible rfl)
    rotate_left
    ·simp only [Act.put, List.setIfInBounds_toArray, List.set_cons_zero, List.set_cons_succ, i64_w, i32_w]
     rfl
    refine pure_ (i := 7) (N := some 70) (v := ?_) (a' := ?_) #[true, true, true, true, false, true, true, true, false, false, false, false, false] rfl rfl (any_of HT_.out (by kernel_rfl)) (fun _ _ _ h => h) (Or.inl ⟨by rfl, ?_⟩) ?_ ?_
    rotate_left
    ·intro w'
     go_simp
     (try with_reducible rfl)
    rotate_left
    ·simp only [Act.put, List.setIfInBounds_toArray, List.set_cons_zero, List.set_cons_succ, i64_w, i32_w]
     rfl
    refine take_ (i := 4) (N := some 67) (v := ?_) (a' := ?_) #[true, true, true, true, true, true, true, true, false, false, false, false, false] rfl rfl (take_ofW HT_.out HW_.out (by kernel_rfl)) (fun _ _ _ h => h) (Or.inl ⟨by rfl, ?_⟩) hHeld ?_ ?_
    rotate_left
    ·rintro w' ⟨s0, s1⟩
     go_simp
     (try with_reducible rfl)
    rotate_left
    ·simp only [Act.put, List.setIfInBounds_toArray, List.set_cons_zero, List.set_cons_succ, i64_w, i32_w]
     rfl
    refine take_ (i := 8) (N := some 71) (v := ?_) (a' := ?_) #[true, true, true, true, true, true, true, true, true, false, false, false, false] rfl rfl (take_ofW HT_.out HW_.out (by kernel_rfl)) (fun _ _ _ h => h) (Or.inl ⟨by rfl, ?_⟩) hHeld ?_ ?_
    rotate_left
    ·rintro w' ⟨s0, s1⟩
     go_simp
     (try with_reducible rfl)
    rotate_left
    ·simp only [Act.put, List.setIfInBounds_toArray, List.set_cons_zero, List.set_cons_succ, i64_w, i32_w]
     rfl
    refine one_ (i := 9) (N := some 72) #[true, true, true, true, true, true, true, true, true, true, false, false, false] rfl rfl (one_of HT_.out (by kernel_rfl)) (by decide) (fun K hK => ?_)
    refine goes_ Try.func72 (by kernel_rfl) rfl #[.int .u64 p, .int .u64 0, .int .u64 det] (by rfl) rfl rfl (by (try simp only [List.map_toArray, List.map_cons, List.map_nil]); first | done | rfl) ?_
    with_reducible refine (field_Minus.calls p 0 det det1 _ HWAY.out.2).mono ?_
    rintro e w' ⟨rfl, ⟨nd, rfl⟩⟩
    refine ⟨_, rfl, ?_⟩
    refine hK.out _ _ ⟨hHeld.1, hHeld.2⟩ (fun hHeld => ?_)
    clear hK K
    refine norm_ (a' := ?_) ?_ ?_
    rotate_left
    ·show Act.put _ (some 72) _ = _
     simp only [Act.put, List.setIfInBounds_toArray, List.set_cons_zero, List.set_cons_succ, i64_w, i32_w]
     rfl
    refine pure_ (i := 10) (N := some 73) (v := ?_) (a' := ?_) #[true, true, true, true, true, true, true, true, true, true, true, false, false] rfl rfl (any_of HT_.out (by kernel_rfl)) (fun _ _ _ h => h) (Or.inl ⟨by rfl, ?_⟩) ?_ ?_
    rotate_left
    ·intro w'
     go_simp
     (try with_reducible rfl)
    rotate_left
    ·simp only [Act.put, List.setIfInBounds_toArray, List.set_cons_zero, List.set_cons_succ, i64_w, i32_w]
     rfl
    refine pure_ (i := 11) (N := some 74) (v := ?_) (a' := ?_) #[true, true, true, true, true, true, true, true, true, true, true, true, false] rfl rfl (any_of HT_.out (by kernel_rfl)) (fun _ _ _ h => h) (Or.inl ⟨by rfl, ?_⟩) ?_ ?_
    rotate_left
    ·intro w'
     go_simp
     (try with_reducible rfl)
    rotate_left
    ·simp only [Act.put, List.setIfInBounds_toArray, List.set_cons_zero, List.set_cons_succ, i64_w, i32_w]
     rfl
    refine last_ (i := 12) (N := none) #[true, true, true, true, true, true, true, true, true, true, true, true, true] rfl rfl (one_of HT_.out (by kernel_rfl)) (by decide) (fun K hK => ?_)
    refine skip_ (w1 := ?_) (by rfl) rfl ?_ ?_
    rotate_left
    ·go_simp
     (try rfl)
    refine hK.out _ _ ?_
    clear hK K
    refine done_ (done_of HT_.out (by kernel_rfl)) ?_
    obtain ⟨b8, s8, t8, l8⟩ := grid_det (x := .int .u64 det1) B7.out S7.out T7.out L7.out HGB.out (1 + nd)
    generalize (w7.drewN (1 + nd)).setCell ⟨b, 2, none⟩ (.int .u64 det1) = ws at b8 s8 t8 l8 ⊢
    clear hc0 hc2 hf2 S7 T7 B7 L7 hHeld HT_ HW_
    have HBBs := Aside0.mk b8
    have HSs := Aside0.mk s8
    have HKs := Aside0.mk t8
    have HBs := Aside0.mk l8
    clear b8 s8 t8 l8
    have hrow : ((rows.set i ra).set at_ ri)[at_]? = some ri := List.getElem?_set_self (by rw [List.length_set]; exact hal)
    try go_wp2
    have hc0 : ws.cell? ⟨b, 0, none⟩ = some (.int .u64 p) := (blk_cell HBBs.out 0).trans rfl
    have hc2 : ws.cell? ⟨b, 2, none⟩ = some (.int .u64 det1) := (blk_cell HBBs.out 2).trans rfl
    have hf2 := blk_frozen HBBs.out 2
    refine start_ (n := 14) (S := fun w' => w'.cell? ⟨b, 0, none⟩ = some (.int .u64 p) ∧ w'.cell? ⟨b, 2, none⟩ = some (.int .u64 det1)) (ds := [13]) #[false, false, false, false, false, false, false, false, false, false, false, false, false, false] (by kernel_rfl) rfl rfl ⟨hc0, hc2⟩ (fun hHeld => ?_); refine with_tabW grid_lift.tab9 grid_lift.bits9 (fun HT_ HW_ => ?_)
    refine pure_ (i := 0) (N := some 75) (v := ?_) (a' := ?_) #[true, false, false, false, false, false, false, false, false, false, false, false, false, false] rfl rfl (any_of HT_.out (by kernel_rfl)) (fun _ _ _ h => h) (Or.inl ⟨by rfl, ?_⟩) ?_ ?_
    rotate_left
    ·intro w'
     go_simp
     (try with_reducible rfl)
    rotate_left
    ·simp only [Act.put, List.setIfInBounds_toArray, List.set_cons_zero, List.set_cons_succ, i64_w, i32_w]
     rfl
    refine pure_ (i := 1) (N := some 76) (v := ?_) (a' := ?_) #[true, true, false, false, false, false, false, false, false, false, false, false, false, false] rfl rfl (any_of HT_.out (by kernel_rfl)) (fun _ _ _ h => h) (Or.inl ⟨by rfl, ?_⟩) ?_ ?_
    rotate_left
    ·intro w'
     go_simp
     (try with_reducible rfl)
    rotate_left
    ·simp only [Act.put, List.setIfInBounds_toArray, List.set_cons_zero, List.set_cons_succ, i64_w, i32_w]
     rfl
    refine pure_ (i := 2) (N := some 77) (v := ?_) (a' := ?_) #[true, true, true, false, false, false, false, false, false, false, false, false, false, false] rfl rfl (any_of HT_.out (by kernel_rfl)) (fun _ _ _ h => h) (Or.inl ⟨by rfl, ?_⟩) ?_ ?_
    rotate_left
    ·intro w'
     go_simp
     (try with_reducible rfl)
    rotate_left
    ·simp only [Act.put, List.setIfInBounds_toArray, List.set_cons_zero, List.set_cons_succ, i64_w, i32_w]
     rfl
    refine pure_ (i := 3) (N := some 78) (v := ?_) (a' := ?_) #[true, true, true, true, false, false, false, false, false, false, false, false, false, false] rfl rfl (any_of HT_.out (by kernel_rfl)) (fun _ _ _ h => h) (Or.inl ⟨by rfl, ?_⟩) ?_ ?_
    rotate_left
    ·intro w'
     go_simp
     (try with_reducible rfl)
    rotate_left
    ·simp only [Act.put, List.setIfInBounds_toArray, List.set_cons_zero, List.set_cons_succ, i64_w, i32_w]
     rfl
    refine pure_ (i := 5) (N := some 80) (v := ?_) (a' := ?_) #[true, true, true, true, false, true, false, false, false, false, false, false, false, false] rfl rfl (any_of HT_.out (by kernel_rfl)) (fun _ _ _ h => h) (Or.inl ⟨by rfl, ?_⟩) ?_ ?_
    rotate_left
    ·intro w'
     go_simp
     (try with_reducible rfl)
    rotate_left
    ·simp only [Act.put, List.setIfInBounds_toArray, List.set_cons_zero, List.set_cons_succ, i64_w, i32_w]
     rfl
    refine pure_ (i := 6) (N := some 81) (v := ?_) (a' := ?_) #[true, true, true, true, false, true, true, false, false, false, false, false, false, false] rfl rfl (any_of HT_.out (by kernel_rfl)) (fun _ _ _ h => h) (Or.inl ⟨by rfl, ?_⟩) ?_ ?_
    rotate_left
    ·intro w'
     go_simp
     (try with_reducible rfl)
    rotate_left
    ·simp only [Act.put, List.setIfInBounds_toArray, List.set_cons_zero, List.set_cons_succ, i64_w, i32_w]
     rfl
    refine pure_ (i := 7) (N := some 82) (v := ?_) (a' := ?_) #[true, true, true, true, false, true, true, true, false, false, false, false, false, false] rfl rfl (any_of HT_.out (by kernel_rfl)) (fun _ _ _ h => h) (Or.inl ⟨by rfl, ?_⟩) ?_ ?_
    rotate_left
    ·intro w'
     go_simp
     (try with_reducible rfl)
    rotate_left
    ·simp only [Act.put, List.setIfInBounds_toArray, List.set_cons_zero, List.set_cons_succ, i64_w, i32_w]
     rfl
    refine pure_ (i := 9) (N := some 84) (v := ?_) (a' := ?_) #[true, true, true, true, false, true, true, true, false, true, false, false, false, false] rfl rfl (any_of HT_.out (by kernel_rfl)) (fun _ _ _ h => h) (Or.inl ⟨by rfl, ?_⟩) ?_ ?_
    rotate_left
    ·intro w'
     go_simp
     (try with_reducible rfl)
    rotate_left
    ·simp only [Act.put, List.setIfInBounds_toArray, List.set_cons_zero, List.set_cons_succ, i64_w, i32_w]
     rfl
    refine take_ (i := 4) (N := some 79) (v := ?_) (a' := ?_) #[true, true, true, true, true, true, true, true, false, true, false, false, false, false] rfl rfl (take_ofW HT_.out HW_.out (by kernel_rfl)) (fun _ _ _ h => h) (Or.inl ⟨by rfl, ?_⟩) hHeld ?_ ?_
    rotate_left
    ·rintro w' ⟨s0, s1⟩
     go_simp
     (try with_reducible rfl)
    rotate_left
    ·simp only [Act.put, List.setIfInBounds_toArray, List.set_cons_zero, List.set_cons_succ, i64_w, i32_w]
     rfl
    refine take_ (i := 8) (N := some 83) (v := ?_) (a' := ?_) #[true, true, true, true, true, true, true, true, true, true, false, false, false, false] rfl rfl (take_ofW HT_.out HW_.out (by kernel_rfl)) (fun _ _ _ h => h) (Or.inl ⟨by rfl, ?_⟩) hHeld ?_ ?_
    rotate_left
    ·rintro w' ⟨s0, s1⟩
     go_simp
     (try with_reducible rfl)
    rotate_left
    ·simp only [Act.put, List.setIfInBounds_toArray, List.set_cons_zero, List.set_cons_succ, i64_w, i32_w]
     rfl
    refine one_ (i := 10) (N := some 85) #[true, true, true, true, true, true, true, true, true, true, true, false, false, false] rfl rfl (one_of HT_.out (by kernel_rfl)) (by decide) (fun K hK => ?_)
    refine goes_ Try.func67 (by kernel_rfl) rfl #[.int .u64 p, .int .u64 det1, .int .u64 x] (by rfl) rfl rfl (by (try simp only [List.map_toArray, List.map_cons, List.map_nil]); first | done | rfl) ?_
    with_reducible refine (field_Times.calls p det1 x det2 _ HD2.out).mono ?_
    rintro e w' ⟨rfl, ⟨nd9, rfl⟩⟩
    refine ⟨_, rfl, ?_⟩
    refine hK.out _ _ ⟨hHeld.1, hHeld.2⟩ (fun hHeld => ?_)
    clear hK K
    refine norm_ (a' := ?_) ?_ ?_
    rotate_left
    ·show Act.put _ (some 85) _ = _
     simp only [Act.put, List.setIfInBounds_toArray, List.set_cons_zero, List.set_cons_succ, i64_w, i32_w]
     rfl
    refine pure_ (i := 11) (N := some 86) (v := ?_) (a' := ?_) #[true, true, true, true, true, true, true, true, true, true, true, true, false, false] rfl rfl (any_of HT_.out (by kernel_rfl)) (fun _ _ _ h => h) (Or.inl ⟨by rfl, ?_⟩) ?_ ?_
    rotate_left
    ·intro w'
     go_simp
     (try with_reducible rfl)
    rotate_left
    ·simp only [Act.put, List.setIfInBounds_toArray, List.set_cons_zero, List.set_cons_succ, i64_w, i32_w]
     rfl
    refine pure_ (i := 12) (N := some 87) (v := ?_) (a' := ?_) #[true, true, true, true, true, true, true, true, true, true, true, true, true, false] rfl rfl (any_of HT_.out (by kernel_rfl)) (fun _ _ _ h => h) (Or.inl ⟨by rfl, ?_⟩) ?_ ?_
    rotate_left
    ·intro w'
     go_simp
     (try with_reducible rfl)
    rotate_left
    ·simp only [Act.put, List.setIfInBounds_toArray, List.set_cons_zero, List.set_cons_succ, i64_w, i32_w]
     rfl
    refine last_ (i := 13) (N := none) #[true, true, true, true, true, true, true, true, true, true, true, true, true, true] rfl rfl (one_of HT_.out (by kernel_rfl)) (by decide) (fun K hK => ?_)
    refine skip_ (w1 := ?_) (by rfl) rfl ?_ ?_
    rotate_left
    ·go_simp
     (try rfl)
    refine hK.out _ _ ?_
    clear hK K
    refine done_ (done_of HT_.out (by kernel_rfl)) ?_
    obtain ⟨b9, s9, t9, l9⟩ := grid_det (x := .int .u64 det2) HBBs.out HSs.out HKs.out HBs.out HGB.out (1 + nd9)
    generalize (ws.drewN (1 + nd9)).setCell ⟨b, 2, none⟩ (.int .u64 det2) = wt at b9 s9 t9 l9 ⊢
    clear hc0 hc2 hf2 HBBs HSs HKs HBs hHeld HT_ HW_
    have HBBt := Aside0.mk b9
    have HSt := Aside0.mk s9
    have HKt := Aside0.mk t9
    have HBt := Aside0.mk l9
    clear b9 s9 t9 l9
    obtain ⟨gt, capt, At, ct, RT, _⟩ := grid_row' HSt.out hrow
    have e1 := RT.vr_
    injection e1 with e1 el_ e3
    clear el_
    injection e1 with e1
    injection e1 with e1 eo_ es_
    clear eo_ es_
    subst e1 e3
    have hc0 : wt.cell? ⟨b, 0, none⟩ = some (.int .u64 p) := (blk_cell HBBt.out 0).trans rfl
    have hc1 : wt.cell? ⟨b, 1, none⟩ = some (.slice (some ⟨g', 0, none⟩) rows.length cr) := (blk_cell HBBt.out 1).trans rfl
    have hhd := RT.head
    have RT0 := Aside0.mk RT
    have hroom := Aside0.mk RT.room
    clear RT
    have HROW := Aside0.mk hrow
    clear hrow
    go_wp2_with (go_at_call 78; refine (field_Over.calls kr p x over _ HOV.out).mono ?_; rintro e w' ⟨rfl, ⟨nd10, rfl⟩⟩)
    have hS0 : Aside0 (Kd.S k2 33 wt w0.heap.size (fun _ => True) (.slice (some ⟨g', 0, none⟩) rows.length cr) (((rows.set i ra).set at_ ri).set at_ (r.take 0 ++ ri.drop 0))) := ⟨by
     obtain ⟨h1, h2⟩ := List.getElem?_eq_some_iff.1 HROW.out
     have e0 : r.take 0 ++ ri.drop 0 = ((rows.set i ra).set at_ ri)[at_]'h1 := by rw [List.take_zero, List.nil_append, List.drop_zero]; exact h2.symm
     rw [e0, List.set_getElem_self]; exact HSt.out⟩
    clear hc0 hc1 hhd HSt
    go_loopg [102] (r.length + 1) (fun kq v102 w' => ∃ j : Nat, v102 = .int .i64 (j : Int) ∧ Aside0 (j ≤ r.length ∧ kq = r.length + 1 - j) ∧ Aside0 (Kd.S k2 33 w' w0.heap.size (fun _ => True) (.slice (some ⟨g', 0, none⟩) rows.length cr) (((rows.set i ra).set at_ ri).set at_ (r.take j ++ ri.drop j))) ∧ Aside0 (KeepT [22] wt w') ∧ Aside0 (Below w0.heap.size w0 w'))
    case atStart => exact ⟨0, rfl, ⟨by omega, by omega⟩, ⟨Kd.S_drewN hS0.out _⟩, ⟨KeepT.drewN (KeepT.refl _ _) _⟩, ⟨pw_below_drewN HBt.out _⟩⟩
    case round =>
     clear hS0
     obtain ⟨j, rfl, HJ, HSj, HK, HBj⟩ := hrel
     cases gk with
     | zero => exact absurd HJ.out.2 (by have := HJ.out.1; omega)
     | succ k2 =>
      obtain ⟨cur, hcur⟩ : ∃ cur, cur = r.take j ++ ri.drop j := ⟨_, rfl⟩
      rw [← hcur] at HSj
      have hcl : cur.length = ri.length := by rw [hcur]; have := HL1.out; have := HJ.out.1; simp; omega
      have hal' : at_ < (((rows.set i ra).set at_ ri)).length := (List.getElem?_eq_some_iff.1 HROW.out).1
      have e2 : ((((rows.set i ra).set at_ ri)).set at_ cur)[at_]? = some cur := List.getElem?_set_self hal'
      obtain ⟨gu, capu, Au, cu, RU, hCU⟩ := grid_row' HSj.out e2
      obtain ⟨q1, q2, q3⟩ := RowAt.keep RT0.out RU HK.out (by decide)
      subst q1 q2 q3
      have HW := Aside0.mk (HK.out.2 b 75 _ HBBt.out (by decide))
      by_cases hlt : j < r.length
      ·have hit : j < cur.length := by rw [hcl, ← HL1.out]; exact hlt
       have hif : j < ri.length := by rw [← HL1.out]; exact hlt
       obtain ⟨bt, CT⟩ := hCU j hit
       have eb := CT.addr
       subst eb
       have hT1 := HST.out j hlt
       have hcg : cur.getD j 0 = ri.getD j 0 := by
        rw [hcur, List.getD_eq_getElem?_getD, List.getElem?_append_right (by rw [List.length_take]; omega), List.getElem?_drop, List.length_take, Nat.min_eq_left (by omega), ← List.getD_eq_getElem?_getD]
        congr 1; omega
       have hnext : cur.set j (r.getD j 0) = r.take (j + 1) ++ ri.drop (j + 1) := by
        rw [hcur, List.set_append_right _ _ (by rw [List.length_take]; omega), List.length_take, Nat.min_eq_left (by omega), Nat.sub_self, List.drop_eq_getElem_cons hif, List.set_cons_zero, List.take_succ_eq_append_getElem hlt, List.append_assoc, List.getD_eq_getElem?_getD, List.getElem?_eq_getElem hlt]
        rfl
       rw [← hcg] at hT1
       obtain ⟨xt, hxt⟩ : ∃ x_, cur.getD j 0 = x_ := ⟨_, rfl⟩
       obtain ⟨xr, hxr⟩ : ∃ x_, r.getD j 0 = x_ := ⟨_, rfl⟩
       rw [hxt, hxr] at hT1
       rw [hxr] at hnext
       have T1 := Aside0.mk hT1
       have HNX := Aside0.mk hnext
       have hct := CT.cell
       rw [hxt] at hct
       have hft := CT.free
       have hhd := RU.head
       have CT := Aside0.mk CT
       have RU := Aside0.mk RU
       have hc0 : wr.cell? ⟨b, 0, none⟩ = some (.int .u64 p) := (blk_cell HW.out 0).trans rfl
       have hc1 : wr.cell? ⟨b, 1, none⟩ = some (.slice (some ⟨gu, 0, none⟩) rows.length cr) := (blk_cell HW.out 1).trans rfl
       have hj63 : (j : Int) ≤ 9223372036854775806 := by have := HL1.out; have := HLM.out; omega
       have b1 : decide ((j : Int) < (ri.length : Int)) = true := decide_eq_true (by omega)
       have b1' : decide (j < ri.length) = true := decide_eq_true hif
       have g1 : (j < ri.length) = True := eq_true hif
       have g2 : (j < cur.length) = True := eq_true hit
       have g3 : (at_ < rows.length) = True := eq_true hal
       have hcl2 : cur.length = ri.length := hcl
       clear hT1 hxt hxr hcg hnext hcur hcl hit hif hCU e2
       go_wp2
       refine start_ (n := 17) (S := fun w' => w'.cell? ⟨b, 0, none⟩ = some (.int .u64 p) ∧ w'.cell? ⟨b, 1, none⟩ = some (.slice (some ⟨gu, 0, none⟩) rows.length cr) ∧ w'.cell? ⟨gu, at_, none⟩ = some (.slice (some ⟨bt, 0, none⟩) cur.length cu)) (ds := [16]) #[false, false, false, false, false, false, false, false, false, false, false, false, false, false, false, false, false] (by kernel_rfl) rfl rfl ⟨hc0, hc1, hhd⟩ (fun hHeld => ?_); refine with_tabW grid_lift.tab14 grid_lift.bits14 (fun HT_ HW_ => ?_)
       refine pure_ (i := 0) (N := some 107) (v := ?_) (a' := ?_) #[true, false, false, false, false, false, false, false, false, false, false, false, false, false, false, false, false] rfl rfl (any_of HT_.out (by kernel_rfl)) (fun _ _ _ h => h) (Or.inl ⟨by rfl, ?_⟩) ?_ ?_
       rotate_left
       ·intro w'
        go_simp
        (try with_reducible rfl)
       rotate_left
       ·simp only [Act.put, List.setIfInBounds_toArray, List.set_cons_zero, List.set_cons_succ, i64_w, i32_w]
        rfl
       refine pure_ (i := 1) (N := some 108) (v := ?_) (a' := ?_) #[true, true, false, false, false, false, false, false, false, false, false, false, false, false, false, false, false] rfl rfl (any_of HT_.out (by kernel_rfl)) (fun _ _ _ h => h) (Or.inl ⟨by rfl, ?_⟩) ?_ ?_
       rotate_left
       ·intro w'
        go_simp
        (try with_reducible rfl)
       rotate_left
       ·simp only [Act.put, List.setIfInBounds_toArray, List.set_cons_zero, List.set_cons_succ, i64_w, i32_w]
        rfl
       refine pure_ (i := 2) (N := some 109) (v := ?_) (a' := ?_) #[true, true, true, false, false, false, false, false, false, false, false, false, false, false, false, false, false] rfl rfl (any_of HT_.out (by kernel_rfl)) (fun _ _ _ h => h) (Or.inl ⟨by rfl, ?_⟩) ?_ ?_
       rotate_left
       ·intro w'
        go_simp
        (try with_reducible rfl)
       rotate_left
       ·simp only [Act.put, List.setIfInBounds_toArray, List.set_cons_zero, List.set_cons_succ, i64_w, i32_w]
        rfl
       refine pure_ (i := 4) (N := some 111) (v := ?_) (a' := ?_) #[true, true, true, false, true, false, false, false, false, false, false, false, false, false, false, false, false] rfl rfl (any_of HT_.out (by kernel_rfl)) (fun _ _ _ h => h) (Or.inl ⟨by rfl, ?_⟩) ?_ ?_
       rotate_left
       ·intro w'
        go_simp
        (try with_reducible rfl)
       rotate_left
       ·simp only [Act.put, List.setIfInBounds_toArray, List.set_cons_zero, List.set_cons_succ, i64_w, i32_w]
        rfl
       refine pure_ (i := 7) (N := some 114) (v := ?_) (a' := ?_) #[true, true, true, false, true, false, false, true, false, false, false, false, false, false, false, false, false] rfl rfl (any_of HT_.out (by kernel_rfl)) (fun _ _ _ h => h) (Or.inl ⟨by rfl, ?_⟩) ?_ ?_
       rotate_left
       ·intro w'
        go_simp
        (try with_reducible rfl)
       rotate_left
       ·simp only [Act.put, List.setIfInBounds_toArray, List.set_cons_zero, List.set_cons_succ, i64_w, i32_w]
        rfl
       refine pure_ (i := 8) (N := some 115) (v := ?_) (a' := ?_) #[true, true, true, false, true, false, false, true, true, false, false, false, false, false, false, false, false] rfl rfl (any_of HT_.out (by kernel_rfl)) (fun _ _ _ h => h) (Or.inl ⟨by rfl, ?_⟩) ?_ ?_
       rotate_left
       ·intro w'
        go_simp
        (try with_reducible rfl)
       rotate_left
       ·simp only [Act.put, List.setIfInBounds_toArray, List.set_cons_zero, List.set_cons_succ, i64_w, i32_w]
        rfl
       refine pure_ (i := 9) (N := some 116) (v := ?_) (a' := ?_) #[true, true, true, false, true, false, false, true, true, true, false, false, false, false, false, false, false] rfl rfl (any_of HT_.out (by kernel_rfl)) (fun _ _ _ h => h) (Or.inl ⟨by rfl, ?_⟩) ?_ ?_
       rotate_left
       ·intro w'
        go_simp
        (try with_reducible rfl)
       rotate_left
       ·simp only [Act.put, List.setIfInBounds_toArray, List.set_cons_zero, List.set_cons_succ, i64_w, i32_w]
        rfl
       refine pure_ (i := 10) (N := some 117) (v := ?_) (a' := ?_) #[true, true, true, false, true, false, false, true, true, true, true, false, false, false, false, false, false] rfl rfl (any_of HT_.out (by kernel_rfl)) (fun _ _ _ h => h) (Or.inl ⟨by rfl, ?_⟩) ?_ ?_
       rotate_left
       ·intro w'
        go_simp
        (try with_reducible rfl)
       rotate_left
       ·simp only [Act.put, List.setIfInBounds_toArray, List.set_cons_zero, List.set_cons_succ, i64_w, i32_w]
        rfl
       refine pure_ (i := 12) (N := some 119) (v := ?_) (a' := ?_) #[true, true, true, false, true, false, false, true, true, true, true, false, true, false, false, false, false] rfl rfl (any_of HT_.out (by kernel_rfl)) (fun _ _ _ h => h) (Or.inl ⟨by rfl, ?_⟩) ?_ ?_
       rotate_left
       ·intro w'
        go_simp
        (try with_reducible rfl)
       rotate_left
       ·simp only [Act.put, List.setIfInBounds_toArray, List.set_cons_zero, List.set_cons_succ, i64_w, i32_w]
        rfl
       refine pure_ (i := 13) (N := some 120) (v := ?_) (a' := ?_) #[true, true, true, false, true, false, false, true, true, true, true, false, true, true, false, false, false] rfl rfl (any_of HT_.out (by kernel_rfl)) (fun _ _ _ h => h) (Or.inl ⟨by rfl, ?_⟩) ?_ ?_
       rotate_left
       ·intro w'
        go_simp
        (try with_reducible rfl)
       rotate_left
       ·simp only [Act.put, List.setIfInBounds_toArray, List.set_cons_zero, List.set_cons_succ, i64_w, i32_w]
        rfl
       refine take_ (i := 3) (N := some 110) (v := ?_) (a' := ?_) #[true, true, true, true, true, false, false, true, true, true, true, false, true, true, false, false, false] rfl rfl (take_ofW HT_.out HW_.out (by kernel_rfl)) (fun _ _ _ h => h) (Or.inl ⟨by rfl, ?_⟩) hHeld ?_ ?_
       rotate_left
       ·rintro w' ⟨s0, s1, s2⟩
        go_simp
        (try with_reducible rfl)
       rotate_left
       ·simp only [Act.put, List.setIfInBounds_toArray, List.set_cons_zero, List.set_cons_succ, i64_w, i32_w]
        rfl
       refine pure_ (i := 5) (N := some 112) (v := ?_) (a' := ?_) #[true, true, true, true, true, true, false, true, true, true, true, false, true, true, false, false, false] rfl rfl (any_of HT_.out (by kernel_rfl)) (fun _ _ _ h => h) (Or.inl ⟨by rfl, ?_⟩) ?_ ?_
       rotate_left
       ·intro w'
        go_simp
        (try with_reducible rfl)
       rotate_left
       ·simp only [Act.put, List.setIfInBounds_toArray, List.set_cons_zero, List.set_cons_succ, i64_w, i32_w]
        rfl
       refine take_ (i := 6) (N := some 113) (v := ?_) (a' := ?_) #[true, true, true, true, true, true, true, true, true, true, true, false, true, true, false, false, false] rfl rfl (take_ofW HT_.out HW_.out (by kernel_rfl)) (fun _ _ _ h => h) (Or.inl ⟨by rfl, ?_⟩) hHeld ?_ ?_
       rotate_left
       ·rintro w' ⟨s0, s1, s2⟩
        go_simp
        (try with_reducible rfl)
       rotate_left
       ·simp only [Act.put, List.setIfInBounds_toArray, List.set_cons_zero, List.set_cons_succ, i64_w, i32_w]
        rfl
       refine take_ (i := 11) (N := some 118) (v := ?_) (a' := ?_) #[true, true, true, true, true, true, true, true, true, true, true, true, true, true, false, false, false] rfl rfl (take_ofW HT_.out HW_.out (by kernel_rfl)) (fun _ _ _ h => h) (Or.inl ⟨by rfl, ?_⟩) hHeld ?_ ?_
       rotate_left
       ·rintro w' ⟨s0, s1, s2⟩
        go_simp
        (try with_reducible rfl)
       rotate_left
       ·simp only [Act.put, List.setIfInBounds_toArray, List.set_cons_zero, List.set_cons_succ, i64_w, i32_w]
        rfl
       refine one_ (i := 14) (N := some 121) #[true, true, true, true, true, true, true, true, true, true, true, true, true, true, true, false, false] rfl rfl (one_of HT_.out (by kernel_rfl)) (by decide) (fun K hK => ?_)
       refine goes_ Try.func67 (by kernel_rfl) rfl #[.int .u64 p, .int .u64 xt, .int .u64 over] (by rfl) rfl rfl (by (try simp only [List.map_toArray, List.map_cons, List.map_nil]); first | done | rfl) ?_
       with_reducible refine (field_Times.calls p xt over xr _ T1.out).mono ?_
       rintro e w' ⟨rfl, ⟨nd14, rfl⟩⟩
       refine ⟨_, rfl, ?_⟩
       refine hK.out _ _ ⟨hHeld.1, hHeld.2.1, hHeld.2.2⟩ (fun hHeld => ?_)
       clear hK K
       refine norm_ (a' := ?_) ?_ ?_
       rotate_left
       ·show Act.put _ (some 121) _ = _
        simp only [Act.put, List.setIfInBounds_toArray, List.set_cons_zero, List.set_cons_succ, i64_w, i32_w]
        rfl
       refine pure_ (i := 15) (N := some 122) (v := ?_) (a' := ?_) #[true, true, true, true, true, true, true, true, true, true, true, true, true, true, true, true, false] rfl rfl (any_of HT_.out (by kernel_rfl)) (fun _ _ _ h => h) (Or.inl ⟨by rfl, ?_⟩) ?_ ?_
       rotate_left
       ·intro w'
        go_simp
        (try with_reducible rfl)
       rotate_left
       ·simp only [Act.put, List.setIfInBounds_toArray, List.set_cons_zero, List.set_cons_succ, i64_w, i32_w]
        rfl
       refine last_ (i := 16) (N := none) #[true, true, true, true, true, true, true, true, true, true, true, true, true, true, true, true, true] rfl rfl (one_of HT_.out (by kernel_rfl)) (by decide) (fun K hK => ?_)
       refine skip_ (w1 := ?_) (by rfl) rfl ?_ ?_
       rotate_left
       ·go_simp
        (try rfl)
       refine hK.out _ _ ?_
       clear hK K
       refine done_ (done_of HT_.out (by kernel_rfl)) ?_
       try go_wp2
       go_roundg k2
       case measure => omega
       case rel =>
        obtain ⟨cellsT, hT⟩ := CT.out.ty
        have hs := CT.out.put xr
        rw [List.set_set, HNX.out] at hs
        exact ⟨j + 1, by go_num, ⟨by have := HJ.out.1; omega, by have := HJ.out; omega⟩, ⟨Kd.S_drewN hs _⟩, ⟨KeepT.set (w' := wr.drewN _) HK.out hT (by decide) j _⟩, ⟨below_set (pw_below_drewN HBj.out _) CT.out.gb⟩⟩
      ·have b1 : decide ((j : Int) < (ri.length : Int)) = false := decide_eq_false (by have := HL1.out; omega)
       have b1' : decide (j < ri.length) = false := decide_eq_false (by have := HL1.out; omega)
       have hfin : cur = r := by
        rw [hcur, List.take_of_length_le (by omega), List.drop_eq_nil_of_le (by have := HL1.out; omega), List.append_nil]
       rw [hfin] at HSj
       clear hcur hcl e2 hCU hlt hfin
       go_wp2
       go_ret
       exact ⟨rfl, HW.out, HSj.out, HBj.out, KeepT.trans HKt.out (KeepT.mono HK.out (by decide))⟩
end Go.Proofs.Ytfdkhkajehopkaa.Mb
namespace Go.Proofs.Ytfdkhkajehopkaa.Mb
open Go.RowKit Go.Proofs.YtfdkhkajehopkaaW.PrintWords Go.Proofs.YtfdkhkajehopkaaW.PrintLast Go.Proofs.YtfdkhkajehopkaaW.PrintMore
set_option linter.unusedVariables false
set_option linter.unusedSimpArgs false

set_option maxHeartbeats 8000000 in
set_option maxRecDepth 100000 in
theorem grid_lift_here.calls (kr : Nat) (p det : Int) (rows : List (List Int)) (at_ col i0 : Nat) (ra ri r : List Int) (x det1 det2 over : Int) (vr vl : Value) (b : Nat) (w0 w : World) (hB : Below w0.heap.size w0 w) (hbb : w0.heap.size ≤ b) (hb : w.heap[b]? = some (.cells #[.int .u64 p, vr, .int .u64 det, vl] 75 (0, 0)))
  (hS : Kd.S k2 33 w w0.heap.size (fun _ => True) vr rows) (hat : at_ ≤ i0) (hn : rows.length ≤ 4096) (hz : ∀ i, at_ ≤ i → i < i0 → ∃ row, rows[i]? = some row ∧ col < row.length ∧ row.getD col 0 = 0)
  (hra : rows[at_]? = some ra) (hri : rows[i0]? = some ri) (hcol : col < ri.length) (hlm : ri.length ≤ 4096) (hx : ri.getD col 0 = x) (hx0 : x ≠ 0) (hway : i0 = at_ ∧ det1 = det) (hd2 : field_Times.f p det1 x = some det2) (hov : field_Over.f kr p x = some over)
  (hl1 : r.length = ri.length) (hst : ∀ j, j < r.length → field_Times.f p (ri.getD j 0) over = some (r.getD j 0)) :
  Calls Try.prog 74 #[.pointer (some ⟨b, 0, none⟩), .int .i64 (at_ : Int), .int .i64 (col : Int)] w fun e w' => e = .returned (.bool true) ∧ w'.heap[b]? = some (.cells #[.int .u64 p, vr, .int .u64 det2, vl] 75 (0, 0)) ∧ Kd.S k2 33 w' w0.heap.size (fun _ => True) vr (rows.set at_ r) ∧ Below w0.heap.size w0 w' ∧ KeepT [22, 33, 75] w w' := by
 have HS := Aside0.mk hS
 have HB := Aside0.mk hB
 have HBB := Aside0.mk hb
 have HGB := Aside0.mk hbb
 have HZ := Aside0.mk hz
 have HN := Aside0.mk hn
 have HAT := Aside0.mk hat
 have HRA := Aside0.mk hra
 have HRI := Aside0.mk hri
 have HCOL := Aside0.mk hcol
 have HLM := Aside0.mk hlm
 have HX := Aside0.mk hx
 have HX0 := Aside0.mk hx0
 have HWAY := Aside0.mk hway
 have HD2 := Aside0.mk hd2
 have HOV := Aside0.mk hov
 have HL1 := Aside0.mk hl1
 have HST := Aside0.mk hst
 have HI0 := Aside0.mk (List.getElem?_eq_some_iff.1 hri).1
 obtain ⟨Ar, cr, er⟩ := Kd.S_slice hS
 have hc1 : w.cell? ⟨b, 1, none⟩ = some vr := (blk_cell hb 1).trans rfl
 clear hS hB hb hbb hz hn hat hra hri hcol hlm hx hx0 hway hd2 hov hl1 hst
 subst er
 go_enter Try.func74, Try.ntmps74
 go_wp2
 go_loopg [7] (rows.length + 1) (fun kq v7 w' => ∃ i : Nat, v7 = .int .i64 (i : Int) ∧ Aside0 (at_ ≤ i ∧ i ≤ i0 ∧ rows.length < kq + i) ∧ w' = w)
 case atStart => exact ⟨at_, rfl, ⟨Nat.le_refl _, HAT.out, by omega⟩, rfl⟩
 case round =>
  obtain ⟨i, rfl, HI, rfl⟩ := hrel
  cases gk with
  | zero => exact absurd HI.out.2 (by have := HI0.out; omega)
  | succ k1 =>
   have hi63 : (i : Int) ≤ 9223372036854775806 := by have := HI.out; have := HI0.out; have := HN.out; omega
   by_cases hlt : i < i0
   ·obtain ⟨row, hrow, hz1, hz2⟩ := HZ.out i HI.out.1 hlt
    have hil : i < rows.length := (List.getElem?_eq_some_iff.1 hrow).1
    obtain ⟨g, cap, A, c, RA, hCA⟩ := grid_row' HS.out hrow
    obtain ⟨bi, CA⟩ := hCA col hz1
    have e1 := RA.vr_
    have e2 := CA.addr
    subst e2
    injection e1 with e1 _ e3
    subst e1 e3
    have hh := RA.head
    have hx := CA.cell
    rw [hz2] at hx
    have b1 : decide ((i : Int) < (rows.length : Int)) = true := decide_eq_true (by omega)
    have b1' : decide (i < rows.length) = true := decide_eq_true hil
    have g1 : (i < rows.length) = True := eq_true hil
    have g2 : (col < row.length) = True := eq_true hz1
    have HLT := Aside0.mk hlt
    clear hCA hz1 hz2 hlt hrow RA CA hil
    go_wp2
    go_roundg k1
    case measure => omega
    case rel => exact ⟨i + 1, by go_num, ⟨by have := HI.out; omega, by have := HLT.out; omega, by have := HI.out; omega⟩, rfl⟩
   ·have hii : i = i0 := by have := HI.out; omega
    subst hii
    clear hlt
    have hil : i < rows.length := HI0.out
    have hal : at_ < rows.length := (List.getElem?_eq_some_iff.1 HRA.out).1
    obtain ⟨g, cap, A, c, RA, hCA⟩ := grid_row' HS.out HRI.out
    obtain ⟨bi, CA⟩ := hCA col HCOL.out
    have e1 := RA.vr_
    have e2 := CA.addr
    subst e2
    injection e1 with e1 _ e3
    subst e1 e3
    have hh := RA.head
    have hx := CA.cell
    rw [HX.out] at hx
    have bx : (x == 0) = false := beq_eq_false_iff_ne.mpr HX0.out
    have b1 : decide ((i : Int) < (rows.length : Int)) = true := decide_eq_true (by omega)
    have b1' : decide (i < rows.length) = true := decide_eq_true hil
    have g1 : (i < rows.length) = True := eq_true hil
    have g2 : (col < ri.length) = True := eq_true HCOL.out
    have g3 : (at_ < rows.length) = True := eq_true hal
    have RA := Aside0.mk RA
    clear hCA hil CA
    have hne : ((i : Int) != (at_ : Int)) = false := bne_eq_false_iff_eq.mpr (by have := HWAY.out.1; omega)
    have hd := HWAY.out.2
    have hia := HWAY.out.1
    subst hd
    have HBBs := HBB
    have HSs := HS
    have HKs := Aside0.mk (KeepT.refl [22, 33, 75] wr)
    have HBs := HB
    have hrow : rows[at_]? = some ri := by rw [← hia]; exact HRI.out
    clear hia
    have HROW := Aside0.mk hrow
    clear hrow
    obtain ⟨ws, hws⟩ : ∃ ws, ws = wr := ⟨_, rfl⟩
    go_wp2
    rw [← hws] at HBBs HSs HKs HBs ⊢
    have HKs : Aside0 (KeepT [22, 33, 75] wr ws) := ⟨by rw [hws]; exact KeepT.refl _ _⟩
    clear hws
    have hrow := HROW.out
    try go_wp2
    have hc0 : ws.cell? ⟨b, 0, none⟩ = some (.int .u64 p) := (blk_cell HBBs.out 0).trans rfl
    have hc2 : ws.cell? ⟨b, 2, none⟩ = some (.int .u64 det1) := (blk_cell HBBs.out 2).trans rfl
    have hf2 := blk_frozen HBBs.out 2
    refine start_ (n := 14) (S := fun w' => w'.cell? ⟨b, 0, none⟩ = some (.int .u64 p) ∧ w'.cell? ⟨b, 2, none⟩ = some (.int .u64 det1)) (ds := [13]) #[false, false, false, false, false, false, false, false, false, false, false, false, false, false] (by kernel_rfl) rfl rfl ⟨hc0, hc2⟩ (fun hHeld => ?_); refine with_tabW grid_lift.tab9 grid_lift.bits9 (fun HT_ HW_ => ?_)
    refine pure_ (i := 0) (N := some 75) (v := ?_) (a' := ?_) #[true, false, false, false, false, false, false, false, false, false, false, false, false, false] rfl rfl (any_of HT_.out (by kernel_rfl)) (fun _ _ _ h => h) (Or.inl ⟨by rfl, ?_⟩) ?_ ?_
    rotate_left
    ·intro w'
     go_simp
     (try with_reducible rfl)
    rotate_left
    ·simp only [Act.put, List.setIfInBounds_toArray, List.set_cons_zero, List.set_cons_succ, i64_w, i32_w]
     rfl
    refine pure_ (i := 1) (N := some 76) (v := ?_) (a' := ?_) #[true, true, false, false, false, false, false, false, false, false, false, false, false, false] rfl rfl (any_of HT_.out (by kernel_rfl)) (fun _ _ _ h => h) (Or.inl ⟨by rfl, ?_⟩) ?_ ?_
    rotate_left
    ·intro w'
     go_simp
     (try with_reducible rfl)
    rotate_left
    ·simp only [Act.put, List.setIfInBounds_toArray, List.set_cons_zero, List.set_cons_succ, i64_w, i32_w]
     rfl
    refine pure_ (i := 2) (N := some 77) (v := ?_) (a' := ?_) #[true, true, true, false, false, false, false, false, false, false, false, false, false, false] rfl rfl (any_of HT_.out (by kernel_rfl)) (fun _ _ _ h => h) (Or.inl ⟨by rfl, ?_⟩) ?_ ?_
    rotate_left
    ·intro w'
     go_simp
     (try with_reducible rfl)
    rotate_left
    ·simp only [Act.put, List.setIfInBounds_toArray, List.set_cons_zero, List.set_cons_succ, i64_w, i32_w]
     rfl
    refine pure_ (i := 3) (N := some 78) (v := ?_) (a' := ?_) #[true, true, true, true, false, false, false, false, false, false, false, false, false, false] rfl rfl (any_of HT_.out (by kernel_rfl)) (fun _ _ _ h => h) (Or.inl ⟨by rfl, ?_⟩) ?_ ?_
    rotate_left
    ·intro w'
     go_simp
     (try with_reducible rfl)
    rotate_left
    ·simp only [Act.put, List.setIfInBounds_toArray, List.set_cons_zero, List.set_cons_succ, i64_w, i32_w]
     rfl
    refine pure_ (i := 5) (N := some 80) (v := ?_) (a' := ?_) #[true, true, true, true, false, true, false, false, false, false, false, false, false, false] rfl rfl (any_of HT_.out (by kernel_rfl)) (fun _ _ _ h => h) (Or.inl ⟨by rfl, ?_⟩) ?_ ?_
    rotate_left
    ·intro w'
     go_simp
     (try with_reducible rfl)
    rotate_left
    ·simp only [Act.put, List.setIfInBounds_toArray, List.set_cons_zero, List.set_cons_succ, i64_w, i32_w]
     rfl
    refine pure_ (i := 6) (N := some 81) (v := ?_) (a' := ?_) #[true, true, true, true, false, true, true, false, false, false, false, false, false, false] rfl rfl (any_of HT_.out (by kernel_rfl)) (fun _ _ _ h => h) (Or.inl ⟨by rfl, ?_⟩) ?_ ?_
    rotate_left
    ·intro w'
     go_simp
     (try with_reducible rfl)
    rotate_left
    ·simp only [Act.put, List.setIfInBounds_toArray, List.set_cons_zero, List.set_cons_succ, i64_w, i32_w]
     rfl
    refine pure_ (i := 7) (N := some 82) (v := ?_) (a' := ?_) #[true, true, true, true, false, true, true, true, false, false, false, false, false, false] rfl rfl (any_of HT_.out (by kernel_rfl)) (fun _ _ _ h => h) (Or.inl ⟨by rfl, ?_⟩) ?_ ?_
    rotate_left
    ·intro w'
     go_simp
     (try with_reducible rfl)
    rotate_left
    ·simp only [Act.put, List.setIfInBounds_toArray, List.set_cons_zero, List.set_cons_succ, i64_w, i32_w]
     rfl
    refine pure_ (i := 9) (N := some 84) (v := ?_) (a' := ?_) #[true, true, true, true, false, true, true, true, false, true, false, false, false, false] rfl rfl (any_of HT_.out (by kernel_rfl)) (fun _ _ _ h => h) (Or.inl ⟨by rfl, ?_⟩) ?_ ?_
    rotate_left
    ·intro w'
     go_simp
     (try with_reducible rfl)
    rotate_left
    ·simp only [Act.put, List.setIfInBounds_toArray, List.set_cons_zero, List.set_cons_succ, i64_w, i32_w]
     rfl
    refine take_ (i := 4) (N := some 79) (v := ?_) (a' := ?_) #[true, true, true, true, true, true, true, true, false, true, false, false, false, false] rfl rfl (take_ofW HT_.out HW_.out (by kernel_rfl)) (fun _ _ _ h => h) (Or.inl ⟨by rfl, ?_⟩) hHeld ?_ ?_
    rotate_left
    ·rintro w' ⟨s0, s1⟩
     go_simp
     (try with_reducible rfl)
    rotate_left
    ·simp only [Act.put, List.setIfInBounds_toArray, List.set_cons_zero, List.set_cons_succ, i64_w, i32_w]
     rfl
    refine take_ (i := 8) (N := some 83) (v := ?_) (a' := ?_) #[true, true, true, true, true, true, true, true, true, true, false, false, false, false] rfl rfl (take_ofW HT_.out HW_.out (by kernel_rfl)) (fun _ _ _ h => h) (Or.inl ⟨by rfl, ?_⟩) hHeld ?_ ?_
    rotate_left
    ·rintro w' ⟨s0, s1⟩
     go_simp
     (try with_reducible rfl)
    rotate_left
    ·simp only [Act.put, List.setIfInBounds_toArray, List.set_cons_zero, List.set_cons_succ, i64_w, i32_w]
     rfl
    refine one_ (i := 10) (N := some 85) #[true, true, true, true, true, true, true, true, true, true, true, false, false, false] rfl rfl (one_of HT_.out (by kernel_rfl)) (by decide) (fun K hK => ?_)
    refine goes_ Try.func67 (by kernel_rfl) rfl #[.int .u64 p, .int .u64 det1, .int .u64 x] (by rfl) rfl rfl (by (try simp only [List.map_toArray, List.map_cons, List.map_nil]); first | done | rfl) ?_
    with_reducible refine (field_Times.calls p det1 x det2 _ HD2.out).mono ?_
    rintro e w' ⟨rfl, ⟨nd9, rfl⟩⟩
    refine ⟨_, rfl, ?_⟩
    refine hK.out _ _ ⟨hHeld.1, hHeld.2⟩ (fun hHeld => ?_)
    clear hK K
    refine norm_ (a' := ?_) ?_ ?_
    rotate_left
    ·show Act.put _ (some 85) _ = _
     simp only [Act.put, List.setIfInBounds_toArray, List.set_cons_zero, List.set_cons_succ, i64_w, i32_w]
     rfl
    refine pure_ (i := 11) (N := some 86) (v := ?_) (a' := ?_) #[true, true, true, true, true, true, true, true, true, true, true, true, false, false] rfl rfl (any_of HT_.out (by kernel_rfl)) (fun _ _ _ h => h) (Or.inl ⟨by rfl, ?_⟩) ?_ ?_
    rotate_left
    ·intro w'
     go_simp
     (try with_reducible rfl)
    rotate_left
    ·simp only [Act.put, List.setIfInBounds_toArray, List.set_cons_zero, List.set_cons_succ, i64_w, i32_w]
     rfl
    refine pure_ (i := 12) (N := some 87) (v := ?_) (a' := ?_) #[true, true, true, true, true, true, true, true, true, true, true, true, true, false] rfl rfl (any_of HT_.out (by kernel_rfl)) (fun _ _ _ h => h) (Or.inl ⟨by rfl, ?_⟩) ?_ ?_
    rotate_left
    ·intro w'
     go_simp
     (try with_reducible rfl)
    rotate_left
    ·simp only [Act.put, List.setIfInBounds_toArray, List.set_cons_zero, List.set_cons_succ, i64_w, i32_w]
     rfl
    refine last_ (i := 13) (N := none) #[true, true, true, true, true, true, true, true, true, true, true, true, true, true] rfl rfl (one_of HT_.out (by kernel_rfl)) (by decide) (fun K hK => ?_)
    refine skip_ (w1 := ?_) (by rfl) rfl ?_ ?_
    rotate_left
    ·go_simp
     (try rfl)
    refine hK.out _ _ ?_
    clear hK K
    refine done_ (done_of HT_.out (by kernel_rfl)) ?_
    obtain ⟨b9, s9, t9, l9⟩ := grid_det (x := .int .u64 det2) HBBs.out HSs.out HKs.out HBs.out HGB.out (1 + nd9)
    generalize (ws.drewN (1 + nd9)).setCell ⟨b, 2, none⟩ (.int .u64 det2) = wt at b9 s9 t9 l9 ⊢
    clear hc0 hc2 hf2 HBBs HSs HKs HBs hHeld HT_ HW_
    have HBBt := Aside0.mk b9
    have HSt := Aside0.mk s9
    have HKt := Aside0.mk t9
    have HBt := Aside0.mk l9
    clear b9 s9 t9 l9
    obtain ⟨gt, capt, At, ct, RT, _⟩ := grid_row' HSt.out hrow
    have e1 := RT.vr_
    injection e1 with e1 el_ e3
    clear el_
    injection e1 with e1
    injection e1 with e1 eo_ es_
    clear eo_ es_
    subst e1 e3
    have hc0 : wt.cell? ⟨b, 0, none⟩ = some (.int .u64 p) := (blk_cell HBBt.out 0).trans rfl
    have hc1 : wt.cell? ⟨b, 1, none⟩ = some (.slice (some ⟨g, 0, none⟩) rows.length cr) := (blk_cell HBBt.out 1).trans rfl
    have hhd := RT.head
    have RT0 := Aside0.mk RT
    have hroom := Aside0.mk RT.room
    clear RT
    have HROW := Aside0.mk hrow
    clear hrow
    go_wp2_with (go_at_call 78; refine (field_Over.calls kr p x over _ HOV.out).mono ?_; rintro e w' ⟨rfl, ⟨nd10, rfl⟩⟩)
    have hS0 : Aside0 (Kd.S k2 33 wt w0.heap.size (fun _ => True) (.slice (some ⟨g, 0, none⟩) rows.length cr) (rows.set at_ (r.take 0 ++ ri.drop 0))) := ⟨by
     obtain ⟨h1, h2⟩ := List.getElem?_eq_some_iff.1 HROW.out
     have e0 : r.take 0 ++ ri.drop 0 = rows[at_]'h1 := by rw [List.take_zero, List.nil_append, List.drop_zero]; exact h2.symm
     rw [e0, List.set_getElem_self]; exact HSt.out⟩
    clear hc0 hc1 hhd HSt
    go_loopg [102] (r.length + 1) (fun kq v102 w' => ∃ j : Nat, v102 = .int .i64 (j : Int) ∧ Aside0 (j ≤ r.length ∧ kq = r.length + 1 - j) ∧ Aside0 (Kd.S k2 33 w' w0.heap.size (fun _ => True) (.slice (some ⟨g, 0, none⟩) rows.length cr) (rows.set at_ (r.take j ++ ri.drop j))) ∧ Aside0 (KeepT [22] wt w') ∧ Aside0 (Below w0.heap.size w0 w'))
    case atStart => exact ⟨0, rfl, ⟨by omega, by omega⟩, ⟨Kd.S_drewN hS0.out _⟩, ⟨KeepT.drewN (KeepT.refl _ _) _⟩, ⟨pw_below_drewN HBt.out _⟩⟩
    case round =>
     clear hS0
     obtain ⟨j, rfl, HJ, HSj, HK, HBj⟩ := hrel
     cases gk with
     | zero => exact absurd HJ.out.2 (by have := HJ.out.1; omega)
     | succ k2 =>
      obtain ⟨cur, hcur⟩ : ∃ cur, cur = r.take j ++ ri.drop j := ⟨_, rfl⟩
      rw [← hcur] at HSj
      have hcl : cur.length = ri.length := by rw [hcur]; have := HL1.out; have := HJ.out.1; simp; omega
      have hal' : at_ < (rows).length := (List.getElem?_eq_some_iff.1 HROW.out).1
      have e2 : ((rows).set at_ cur)[at_]? = some cur := List.getElem?_set_self hal'
      obtain ⟨gu, capu, Au, cu, RU, hCU⟩ := grid_row' HSj.out e2
      obtain ⟨q1, q2, q3⟩ := RowAt.keep RT0.out RU HK.out (by decide)
      subst q1 q2 q3
      have HW := Aside0.mk (HK.out.2 b 75 _ HBBt.out (by decide))
      by_cases hlt : j < r.length
      ·have hit : j < cur.length := by rw [hcl, ← HL1.out]; exact hlt
       have hif : j < ri.length := by rw [← HL1.out]; exact hlt
       obtain ⟨bt, CT⟩ := hCU j hit
       have eb := CT.addr
       subst eb
       have hT1 := HST.out j hlt
       have hcg : cur.getD j 0 = ri.getD j 0 := by
        rw [hcur, List.getD_eq_getElem?_getD, List.getElem?_append_right (by rw [List.length_take]; omega), List.getElem?_drop, List.length_take, Nat.min_eq_left (by omega), ← List.getD_eq_getElem?_getD]
        congr 1; omega
       have hnext : cur.set j (r.getD j 0) = r.take (j + 1) ++ ri.drop (j + 1) := by
        rw [hcur, List.set_append_right _ _ (by rw [List.length_take]; omega), List.length_take, Nat.min_eq_left (by omega), Nat.sub_self, List.drop_eq_getElem_cons hif, List.set_cons_zero, List.take_succ_eq_append_getElem hlt, List.append_assoc, List.getD_eq_getElem?_getD, List.getElem?_eq_getElem hlt]
        rfl
       rw [← hcg] at hT1
       obtain ⟨xt, hxt⟩ : ∃ x_, cur.getD j 0 = x_ := ⟨_, rfl⟩
       obtain ⟨xr, hxr⟩ : ∃ x_, r.getD j 0 = x_ := ⟨_, rfl⟩
       rw [hxt, hxr] at hT1
       rw [hxr] at hnext
       have T1 := Aside0.mk hT1
       have HNX := Aside0.mk hnext
       have hct := CT.cell
       rw [hxt] at hct
       have hft := CT.free
       have hhd := RU.head
       have CT := Aside0.mk CT
       have RU := Aside0.mk RU
       have hc0 : wr.cell? ⟨b, 0, none⟩ = some (.int .u64 p) := (blk_cell HW.out 0).trans rfl
       have hc1 : wr.cell? ⟨b, 1, none⟩ = some (.slice (some ⟨gu, 0, none⟩) rows.length cr) := (blk_cell HW.out 1).trans rfl
       have hj63 : (j : Int) ≤ 9223372036854775806 := by have := HL1.out; have := HLM.out; omega
       have b1 : decide ((j : Int) < (ri.length : Int)) = true := decide_eq_true (by omega)
       have b1' : decide (j < ri.length) = true := decide_eq_true hif
       have g1 : (j < ri.length) = True := eq_true hif
       have g2 : (j < cur.length) = True := eq_true hit
       have g3 : (at_ < rows.length) = True := eq_true hal
       have hcl2 : cur.length = ri.length := hcl
       clear hT1 hxt hxr hcg hnext hcur hcl hit hif hCU e2
       go_wp2
       refine start_ (n := 17) (S := fun w' => w'.cell? ⟨b, 0, none⟩ = some (.int .u64 p) ∧ w'.cell? ⟨b, 1, none⟩ = some (.slice (some ⟨gu, 0, none⟩) rows.length cr) ∧ w'.cell? ⟨gu, at_, none⟩ = some (.slice (some ⟨bt, 0, none⟩) cur.length cu)) (ds := [16]) #[false, false, false, false, false, false, false, false, false, false, false, false, false, false, false, false, false] (by kernel_rfl) rfl rfl ⟨hc0, hc1, hhd⟩ (fun hHeld => ?_); refine with_tabW grid_lift.tab14 grid_lift.bits14 (fun HT_ HW_ => ?_)
       refine pure_ (i := 0) (N := some 107) (v := ?_) (a' := ?_) #[true, false, false, false, false, false, false, false, false, false, false, false, false, false, false, false, false] rfl rfl (any_of HT_.out (by kernel_rfl)) (fun _ _ _ h => h) (Or.inl ⟨by rfl, ?_⟩) ?_ ?_
       rotate_left
       ·intro w'
        go_simp
        (try with_reducible rfl)
       rotate_left
       ·simp only [Act.put, List.setIfInBounds_toArray, List.set_cons_zero, List.set_cons_succ, i64_w, i32_w]
        rfl
       refine pure_ (i := 1) (N := some 108) (v := ?_) (a' := ?_) #[true, true, false, false, false, false, false, false, false, false, false, false, false, false, false, false, false] rfl rfl (any_of HT_.out (by kernel_rfl)) (fun _ _ _ h => h) (Or.inl ⟨by rfl, ?_⟩) ?_ ?_
       rotate_left
       ·intro w'
        go_simp
        (try with_reducible rfl)
       rotate_left
       ·simp only [Act.put, List.setIfInBounds_toArray, List.set_cons_zero, List.set_cons_succ, i64_w, i32_w]
        rfl
       refine pure_ (i := 2) (N := some 109) (v := ?_) (a' := ?_) #[true, true, true, false, false, false, false, false, false, false, false, false, false, false, false, false, false] rfl rfl (any_of HT_.out (by kernel_rfl)) (fun _ _ _ h => h) (Or.inl ⟨by rfl, ?_⟩) ?_ ?_
       rotate_left
       ·intro w'
        go_simp
        (try with_reducible rfl)
       rotate_left
       ·simp only [Act.put, List.setIfInBounds_toArray, List.set_cons_zero, List.set_cons_succ, i64_w, i32_w]
        rfl
       refine pure_ (i := 4) (N := some 111) (v := ?_) (a' := ?_) #[true, true, true, false, true, false, false, false, false, false, false, false, false, false, false, false, false] rfl rfl (any_of HT_.out (by kernel_rfl)) (fun _ _ _ h => h) (Or.inl ⟨by rfl, ?_⟩) ?_ ?_
       rotate_left
       ·intro w'
        go_simp
        (try with_reducible rfl)
       rotate_left
       ·simp only [Act.put, List.setIfInBounds_toArray, List.set_cons_zero, List.set_cons_succ, i64_w, i32_w]
        rfl
       refine pure_ (i := 7) (N := some 114) (v := ?_) (a' := ?_) #[true, true, true, false, true, false, false, true, false, false, false, false, false, false, false, false, false] rfl rfl (any_of HT_.out (by kernel_rfl)) (fun _ _ _ h => h) (Or.inl ⟨by rfl, ?_⟩) ?_ ?_
       rotate_left
       ·intro w'
        go_simp
        (try with_reducible rfl)
       rotate_left
       ·simp only [Act.put, List.setIfInBounds_toArray, List.set_cons_zero, List.set_cons_succ, i64_w, i32_w]
        rfl
       refine pure_ (i := 8) (N := some 115) (v := ?_) (a' := ?_) #[true, true, true, false, true, false, false, true, true, false, false, false, false, false, false, false, false] rfl rfl (any_of HT_.out (by kernel_rfl)) (fun _ _ _ h => h) (Or.inl ⟨by rfl, ?_⟩) ?_ ?_
       rotate_left
       ·intro w'
        go_simp
        (try with_reducible rfl)
       rotate_left
       ·simp only [Act.put, List.setIfInBounds_toArray, List.set_cons_zero, List.set_cons_succ, i64_w, i32_w]
        rfl
       refine pure_ (i := 9) (N := some 116) (v := ?_) (a' := ?_) #[true, true, true, false, true, false, false, true, true, true, false, false, false, false, false, false, false] rfl rfl (any_of HT_.out (by kernel_rfl)) (fun _ _ _ h => h) (Or.inl ⟨by rfl, ?_⟩) ?_ ?_
       rotate_left
       ·intro w'
        go_simp
        (try with_reducible rfl)
       rotate_left
       ·simp only [Act.put, List.setIfInBounds_toArray, List.set_cons_zero, List.set_cons_succ, i64_w, i32_w]
        rfl
       refine pure_ (i := 10) (N := some 117) (v := ?_) (a' := ?_) #[true, true, true, false, true, false, false, true, true, true, true, false, false, false, false, false, false] rfl rfl (any_of HT_.out (by kernel_rfl)) (fun _ _ _ h => h) (Or.inl ⟨by rfl, ?_⟩) ?_ ?_
       rotate_left
       ·intro w'
        go_simp
        (try with_reducible rfl)
       rotate_left
       ·simp only [Act.put, List.setIfInBounds_toArray, List.set_cons_zero, List.set_cons_succ, i64_w, i32_w]
        rfl
       refine pure_ (i := 12) (N := some 119) (v := ?_) (a' := ?_) #[true, true, true, false, true, false, false, true, true, true, true, false, true, false, false, false, false] rfl rfl (any_of HT_.out (by kernel_rfl)) (fun _ _ _ h => h) (Or.inl ⟨by rfl, ?_⟩) ?_ ?_
       rotate_left
       ·intro w'
        go_simp
        (try with_reducible rfl)
       rotate_left
       ·simp only [Act.put, List.setIfInBounds_toArray, List.set_cons_zero, List.set_cons_succ, i64_w, i32_w]
        rfl
       refine pure_ (i := 13) (N := some 120) (v := ?_) (a' := ?_) #[true, true, true, false, true, false, false, true, true, true, true, false, true, true, false, false, false] rfl rfl (any_of HT_.out (by kernel_rfl)) (fun _ _ _ h => h) (Or.inl ⟨by rfl, ?_⟩) ?_ ?_
       rotate_left
       ·intro w'
        go_simp
        (try with_reducible rfl)
       rotate_left
       ·simp only [Act.put, List.setIfInBounds_toArray, List.set_cons_zero, List.set_cons_succ, i64_w, i32_w]
        rfl
       refine take_ (i := 3) (N := some 110) (v := ?_) (a' := ?_) #[true, true, true, true, true, false, false, true, true, true, true, false, true, true, false, false, false] rfl rfl (take_ofW HT_.out HW_.out (by kernel_rfl)) (fun _ _ _ h => h) (Or.inl ⟨by rfl, ?_⟩) hHeld ?_ ?_
       rotate_left
       ·rintro w' ⟨s0, s1, s2⟩
        go_simp
        (try with_reducible rfl)
       rotate_left
       ·simp only [Act.put, List.setIfInBounds_toArray, List.set_cons_zero, List.set_cons_succ, i64_w, i32_w]
        rfl
       refine pure_ (i := 5) (N := some 112) (v := ?_) (a' := ?_) #[true, true, true, true, true, true, false, true, true, true, true, false, true, true, false, false, false] rfl rfl (any_of HT_.out (by kernel_rfl)) (fun _ _ _ h => h) (Or.inl ⟨by rfl, ?_⟩) ?_ ?_
       rotate_left
       ·intro w'
        go_simp
        (try with_reducible rfl)
       rotate_left
       ·simp only [Act.put, List.setIfInBounds_toArray, List.set_cons_zero, List.set_cons_succ, i64_w, i32_w]
        rfl
       refine take_ (i := 6) (N := some 113) (v := ?_) (a' := ?_) #[true, true, true, true, true, true, true, true, true, true, true, false, true, true, false, false, false] rfl rfl (take_ofW HT_.out HW_.out (by kernel_rfl)) (fun _ _ _ h => h) (Or.inl ⟨by rfl, ?_⟩) hHeld ?_ ?_
       rotate_left
       ·rintro w' ⟨s0, s1, s2⟩
        go_simp
        (try with_reducible rfl)
       rotate_left
       ·simp only [Act.put, List.setIfInBounds_toArray, List.set_cons_zero, List.set_cons_succ, i64_w, i32_w]
        rfl
       refine take_ (i := 11) (N := some 118) (v := ?_) (a' := ?_) #[true, true, true, true, true, true, true, true, true, true, true, true, true, true, false, false, false] rfl rfl (take_ofW HT_.out HW_.out (by kernel_rfl)) (fun _ _ _ h => h) (Or.inl ⟨by rfl, ?_⟩) hHeld ?_ ?_
       rotate_left
       ·rintro w' ⟨s0, s1, s2⟩
        go_simp
        (try with_reducible rfl)
       rotate_left
       ·simp only [Act.put, List.setIfInBounds_toArray, List.set_cons_zero, List.set_cons_succ, i64_w, i32_w]
        rfl
       refine one_ (i := 14) (N := some 121) #[true, true, true, true, true, true, true, true, true, true, true, true, true, true, true, false, false] rfl rfl (one_of HT_.out (by kernel_rfl)) (by decide) (fun K hK => ?_)
       refine goes_ Try.func67 (by kernel_rfl) rfl #[.int .u64 p, .int .u64 xt, .int .u64 over] (by rfl) rfl rfl (by (try simp only [List.map_toArray, List.map_cons, List.map_nil]); first | done | rfl) ?_
       with_reducible refine (field_Times.calls p xt over xr _ T1.out).mono ?_
       rintro e w' ⟨rfl, ⟨nd14, rfl⟩⟩
       refine ⟨_, rfl, ?_⟩
       refine hK.out _ _ ⟨hHeld.1, hHeld.2.1, hHeld.2.2⟩ (fun hHeld => ?_)
       clear hK K
       refine norm_ (a' := ?_) ?_ ?_
       rotate_left
       ·show Act.put _ (some 121) _ = _
        simp only [Act.put, List.setIfInBounds_toArray, List.set_cons_zero, List.set_cons_succ, i64_w, i32_w]
        rfl
       refine pure_ (i := 15) (N := some 122) (v := ?_) (a' := ?_) #[true, true, true, true, true, true, true, true, true, true, true, true, true, true, true, true, false] rfl rfl (any_of HT_.out (by kernel_rfl)) (fun _ _ _ h => h) (Or.inl ⟨by rfl, ?_⟩) ?_ ?_
       rotate_left
       ·intro w'
        go_simp
        (try with_reducible rfl)
       rotate_left
       ·simp only [Act.put, List.setIfInBounds_toArray, List.set_cons_zero, List.set_cons_succ, i64_w, i32_w]
        rfl
       refine last_ (i := 16) (N := none) #[true, true, true, true, true, true, true, true, true, true, true, true, true, true, true, true, true] rfl rfl (one_of HT_.out (by kernel_rfl)) (by decide) (fun K hK => ?_)
       refine skip_ (w1 := ?_) (by rfl) rfl ?_ ?_
       rotate_left
       ·go_simp
        (try rfl)
       refine hK.out _ _ ?_
       clear hK K
       refine done_ (done_of HT_.out (by kernel_rfl)) ?_
       try go_wp2
       go_roundg k2
       case measure => omega
       case rel =>
        obtain ⟨cellsT, hT⟩ := CT.out.ty
        have hs := CT.out.put xr
        rw [List.set_set, HNX.out] at hs
        exact ⟨j + 1, by go_num, ⟨by have := HJ.out.1; omega, by have := HJ.out; omega⟩, ⟨Kd.S_drewN hs _⟩, ⟨KeepT.set (w' := wr.drewN _) HK.out hT (by decide) j _⟩, ⟨below_set (pw_below_drewN HBj.out _) CT.out.gb⟩⟩
      ·have b1 : decide ((j : Int) < (ri.length : Int)) = false := decide_eq_false (by have := HL1.out; omega)
       have b1' : decide (j < ri.length) = false := decide_eq_false (by have := HL1.out; omega)
       have hfin : cur = r := by
        rw [hcur, List.take_of_length_le (by omega), List.drop_eq_nil_of_le (by have := HL1.out; omega), List.append_nil]
       rw [hfin] at HSj
       clear hcur hcl e2 hCU hlt hfin
       go_wp2
       go_ret
       exact ⟨rfl, HW.out, HSj.out, HBj.out, KeepT.trans HKt.out (KeepT.mono HK.out (by decide))⟩
end Go.Proofs.Ytfdkhkajehopkaa.Mb
namespace Go.Proofs.Ytfdkhkajehopkaa.Mb
open Go.RowKit Go.Proofs.YtfdkhkajehopkaaW.PrintWords Go.Proofs.YtfdkhkajehopkaaW.PrintLast Go.Proofs.YtfdkhkajehopkaaW.PrintMore
set_option linter.unusedVariables false
def addRow (p kk : Int) : List Int → List Int → Option (List Int)
 | a :: as_, x :: xs => (field_Times.f p x kk).bind fun t => (field_Plus.f p a t).bind fun u => (addRow p kk as_ xs).bind fun r => some (u :: r)
 | [], [] => some []
 | _, _ => none
theorem addRow_spec {p kk : Int} : ∀ {rt rf r : List Int}, addRow p kk rt rf = some r → r.length = rt.length ∧ rf.length = rt.length ∧ ∀ i, i < r.length → ∃ t, field_Times.f p (rf.getD i 0) kk = some t ∧ field_Plus.f p (rt.getD i 0) t = some (r.getD i 0)
 | [], [], r, h => by
  simp only [addRow] at h
  cases h
  exact ⟨rfl, rfl, fun i hi => absurd hi (Nat.not_lt_zero _)⟩
 | [], x :: xs, r, h => by simp [addRow] at h
 | a :: as_, [], r, h => by simp [addRow] at h
 | a :: as_, x :: xs, r, h => by
  simp only [addRow, Option.bind_eq_some_iff] at h
  obtain ⟨t, h1, u, h2, r', h3, h4⟩ := h
  cases h4
  obtain ⟨l1, l2, l3⟩ := addRow_spec h3
  refine ⟨by simp [l1], by simp [l2], fun i hi => ?_⟩
  cases i with
  | zero => exact ⟨t, h1, h2⟩
  | succ i => exact l3 i (by simpa using hi)
def scaleRow (p over : Int) : List Int → Option (List Int)
 | [] => some []
 | a :: as_ => (field_Times.f p a over).bind fun u => (scaleRow p over as_).bind fun r => some (u :: r)
theorem scaleRow_spec {p over : Int} : ∀ {ri r : List Int}, scaleRow p over ri = some r → r.length = ri.length ∧ ∀ j, j < r.length → field_Times.f p (ri.getD j 0) over = some (r.getD j 0)
 | [], r, h => by
  simp only [scaleRow] at h
  cases h
  exact ⟨rfl, fun i hi => absurd hi (Nat.not_lt_zero _)⟩
 | a :: as_, r, h => by
  simp only [scaleRow, Option.bind_eq_some_iff] at h
  obtain ⟨u, h1, r', h2, h3⟩ := h
  cases h3
  obtain ⟨l1, l2⟩ := scaleRow_spec h2
  refine ⟨by simp [l1], fun j hj => ?_⟩
  cases j with
  | zero => exact h1
  | succ j => exact l2 j (by simpa using hj)
/-- The first row from 'at' on with a number in the column. -/
def srch (rows : List (List Int)) (at_ col : Nat) : Option Nat := (List.range rows.length).find? fun i => decide (at_ ≤ i) && ((rows.getD i []).getD col 0 != 0)
theorem srch_some {rows : List (List Int)} {at_ col i0 : Nat} (h : srch rows at_ col = some i0) : at_ ≤ i0 ∧ i0 < rows.length ∧ (rows.getD i0 []).getD col 0 ≠ 0 ∧ ∀ i, at_ ≤ i → i < i0 → (rows.getD i []).getD col 0 = 0 := by
 unfold srch at h
 rw [List.find?_range_eq_some] at h
 obtain ⟨h1, h2, h3⟩ := h
 simp only [Bool.and_eq_true, decide_eq_true_eq, bne_iff_ne, ne_eq] at h1
 refine ⟨h1.1, by simpa using h2, h1.2, fun i ha hi => ?_⟩
 have := h3 i hi
 simp only [Bool.not_and, Bool.or_eq_true, Bool.not_eq_true', decide_eq_false_iff_not, bne_eq_false_iff_eq] at this
 rcases this with h | h
 ·exact absurd ha h
 ·exact h
theorem srch_none {rows : List (List Int)} {at_ col : Nat} (h : srch rows at_ col = none) : ∀ i, at_ ≤ i → i < rows.length → (rows.getD i []).getD col 0 = 0 := fun i ha hi => by
 unfold srch at h
 rw [List.find?_eq_none] at h
 have := h i (List.mem_range.2 hi)
 simp only [Bool.and_eq_true, decide_eq_true_eq, bne_iff_ne, ne_eq, not_and, Decidable.not_not] at this
 exact this ha
def liftR (kr : Nat) (p : Int) (rows : List (List Int)) (det : Int) (at_ col : Nat) : Option (Option (List (List Int) × Int)) :=
 match srch rows at_ col with
 | none => some none
 | some i0 => (if i0 = at_ then some det else field_Minus.f p 0 det).bind fun det1 => (field_Times.f p det1 ((rows.getD i0 []).getD col 0)).bind fun det2 => (field_Over.f kr p ((rows.getD i0 []).getD col 0)).bind fun over =>
   (scaleRow p over (rows.getD i0 [])).bind fun r => some (some ((if i0 = at_ then rows else (rows.set i0 (rows.getD at_ [])).set at_ (rows.getD i0 [])).set at_ r, det2))
def elim1 (p : Int) (col at_ i : Nat) (rows : List (List Int)) : Option (List (List Int)) :=
 if i = at_ then some rows else (field_Minus.f p 0 ((rows.getD i []).getD col 0)).bind fun kk => (addRow p kk (rows.getD i []) (rows.getD at_ [])).bind fun r => some (rows.set i r)
def elim (p : Int) (col at_ : Nat) : Nat → Nat → List (List Int) → Option (List (List Int))
 | 0, _, rows => some rows
 | d + 1, i, rows => (elim1 p col at_ i rows).bind fun rows1 => elim p col at_ d (i + 1) rows1
def red (kr : Nat) (p : Int) : Nat → Nat → List (List Int) → Int → List Int → Option (List (List Int) × Int × List Int)
 | 0, _, rows, det, lead => some (rows, det, lead)
 | d + 1, c, rows, det, lead => if lead.length < rows.length then (liftR kr p rows det lead.length c).bind fun o => match o with
   | none => red kr p d (c + 1) rows det lead
   | some (rows1, det1) => (elim p c lead.length rows1.length 0 rows1).bind fun rows2 => red kr p d (c + 1) rows2 det1 (lead ++ [(c : Int)])
  else some (rows, det, lead)
/-- All rows as_ long as_ m. -/
def Wide (m : Nat) (rows : List (List Int)) : Prop := ∀ row ∈ rows, row.length = m
theorem wide_get {m : Nat} {rows : List (List Int)} (h : Wide m rows) {i : Nat} (hi : i < rows.length) : rows[i]? = some (rows.getD i []) ∧ (rows.getD i []).length = m := by
 have e : rows.getD i [] = rows[i] := by rw [List.getD_eq_getElem?_getD, List.getElem?_eq_getElem hi]; rfl
 rw [e]
 exact ⟨List.getElem?_eq_getElem hi, h _ (List.getElem_mem hi)⟩
theorem wide_set {m : Nat} {rows : List (List Int)} (h : Wide m rows) {i : Nat} {r : List Int} (hr : r.length = m) : Wide m (rows.set i r) := fun row hrow => by
 rcases List.mem_or_eq_of_mem_set hrow with h1 | h1
 ·exact h row h1
 ·rw [h1]; exact hr
theorem liftR_wide {kr : Nat} {p det : Int} {rows rows1 : List (List Int)} {at_ col m : Nat} {d : Int} (hw : Wide m rows) (hat : at_ < rows.length) (h : liftR kr p rows det at_ col = some (some (rows1, d))) : Wide m rows1 ∧ rows1.length = rows.length := by
 unfold liftR at h
 split at h
 ·simp at h
 ·rename_i i0 hs
  obtain ⟨s1, s2, _, _⟩ := srch_some hs
  simp only [Option.bind_eq_some_iff] at h
  obtain ⟨_, _, _, _, _, _, r, hr, he⟩ := h
  simp only [Option.some.injEq, Prod.mk.injEq] at he
  obtain ⟨rfl, _⟩ := he
  have hl := (scaleRow_spec hr).1
  have w0 := (wide_get hw s2).2
  have wa := (wide_get hw hat).2
  refine ⟨wide_set ?_ (hl.trans w0), by split <;> simp⟩
  split
  ·exact hw
  ·exact wide_set (wide_set hw wa) w0
theorem elim1_wide {p : Int} {col at_ i m : Nat} {rows rows1 : List (List Int)} (hw : Wide m rows) (hi : i < rows.length) (h : elim1 p col at_ i rows = some rows1) : Wide m rows1 ∧ rows1.length = rows.length := by
 unfold elim1 at h
 split at h
 ·cases h; exact ⟨hw, rfl⟩
 ·simp only [Option.bind_eq_some_iff] at h
  obtain ⟨kk, _, r, hr, he⟩ := h
  cases he
  exact ⟨wide_set hw ((addRow_spec hr).1.trans (wide_get hw hi).2), by simp⟩
end Go.Proofs.Ytfdkhkajehopkaa.Mb
namespace Go.Proofs.Ytfdkhkajehopkaa.Mb
open Go.RowKit Go.Proofs.YtfdkhkajehopkaaW.PrintWords Go.Proofs.YtfdkhkajehopkaaW.PrintLast Go.Proofs.YtfdkhkajehopkaaW.PrintMore
set_option linter.unusedVariables false
theorem grid_lift.calls (kr : Nat) (p det : Int) (rows : List (List Int)) (at_ col m : Nat) (res : Option (List (List Int) × Int)) (vr vl : Value) (b : Nat) (w0 w : World) (hB : Below w0.heap.size w0 w) (hbb : w0.heap.size ≤ b) (hb : w.heap[b]? = some (.cells #[.int .u64 p, vr, .int .u64 det, vl] 75 (0, 0)))
  (hS : Kd.S k2 33 w w0.heap.size (fun _ => True) vr rows) (hn : rows.length ≤ 4096) (hm : m ≤ 4096) (hw : Wide m rows) (hcol : col < m) (hat : at_ < rows.length) (h : liftR kr p rows det at_ col = some res) :
  Calls Try.prog 74 #[.pointer (some ⟨b, 0, none⟩), .int .i64 (at_ : Int), .int .i64 (col : Int)] w fun e w' => e = .returned (.bool res.isSome) ∧ w'.heap[b]? = some (.cells #[.int .u64 p, vr, .int .u64 (res.getD (rows, det)).2, vl] 75 (0, 0)) ∧ Kd.S k2 33 w' w0.heap.size (fun _ => True) vr (res.getD (rows, det)).1 ∧ Below w0.heap.size w0 w' ∧ KeepT [22, 33, 75] w w' := by
 unfold liftR at h
 split at h
 ·rename_i hs
  cases h
  refine (grid_lift_none.calls p det rows at_ col vr vl b w0.heap.size w hb hS (Nat.le_of_lt hat) hn (fun i row ha hi => ?_)).mono ?_
  ·have hil := (List.getElem?_eq_some_iff.1 hi).1
   obtain ⟨h1, h2⟩ := wide_get hw hil
   rw [h1] at hi
   have e := Option.some.inj hi
   rw [← e]
   exact ⟨by rw [h2]; exact hcol, srch_none hs i ha hil⟩
  ·rintro e w' ⟨rfl, rfl⟩
   exact ⟨rfl, hb, hS, hB, KeepT.refl _ _⟩
 ·rename_i i0 hs
  obtain ⟨s1, s2, s3, s4⟩ := srch_some hs
  obtain ⟨g1, g2⟩ := wide_get hw s2
  obtain ⟨g3, g4⟩ := wide_get hw hat
  simp only [Option.bind_eq_some_iff] at h
  obtain ⟨det1, d1, det2, d2, over, ho, r, hr, he⟩ := h
  cases he
  obtain ⟨l1, l2⟩ := scaleRow_spec hr
  have hz : ∀ i, at_ ≤ i → i < i0 → ∃ row, rows[i]? = some row ∧ col < row.length ∧ row.getD col 0 = 0 := fun i ha hi => by
   obtain ⟨h1, h2⟩ := wide_get hw (show i < rows.length by omega)
   exact ⟨_, h1, by rw [h2]; exact hcol, s4 i ha hi⟩
  by_cases c : i0 = at_
  ·rw [if_pos c] at d1
   refine (grid_lift_here.calls kr p det rows at_ col i0 (rows.getD at_ []) (rows.getD i0 []) r _ det1 det2 over vr vl b w0 w hB hbb hb hS s1 hn hz g3 g1 (by rw [g2]; exact hcol) (by rw [g2]; exact hm) rfl s3 ⟨c, (Option.some.inj d1).symm⟩ d2 ho l1 l2).mono ?_
   rintro e w' ⟨rfl, h1, h2, h3, h4⟩
   rw [if_pos c]
   exact ⟨rfl, h1, h2, h3, h4⟩
  ·rw [if_neg c] at d1
   refine (grid_lift_far.calls kr p det rows at_ col i0 (rows.getD at_ []) (rows.getD i0 []) r _ det1 det2 over vr vl b w0 w hB hbb hb hS s1 hn hz g3 g1 (by rw [g2]; exact hcol) (by rw [g2]; exact hm) rfl s3 ⟨c, d1⟩ d2 ho l1 l2).mono ?_
   rintro e w' ⟨rfl, h1, h2, h3, h4⟩
   rw [if_neg c]
   exact ⟨rfl, h1, h2, h3, h4⟩
end Go.Proofs.Ytfdkhkajehopkaa.Mb
