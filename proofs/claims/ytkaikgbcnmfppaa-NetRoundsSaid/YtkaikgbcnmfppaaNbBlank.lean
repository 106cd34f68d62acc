/- net.Blank and juntoref17.Nothing: n rows of n empty payloads, and n empty payloads. Made by mk_blank.py. -/
import Derived.Test.YtkaikgbcnmfppaaNb0
import Derived.BigRegion
namespace Go.Proofs.Ytkaikgbcnmfppaa.Nb
open Go Go.RowKit Go.Proofs.YtkaikgbcnmfppaaW.PrintWords Go.Proofs.YtkaikgbcnmfppaaW.PrintLast Go.Proofs.YtkaikgbcnmfppaaW.PrintMore
attribute [local go_sem] max2_int min2_int max_two min_two max_three min_three max_four min_four
set_option linter.unusedVariables false
set_option linter.unusedSimpArgs false
theorem info27o : (Try.prog.info? 27).map (fun i => (i.zero, i.size, i.bytes)) = some (some (.slice none 0 0), 1, 24) := by kernel_rfl
abbrev kD : Kd (List Int) := Kd.slice 22 (Kd.int .u64)
/-- A row of rows by its rows' blocks. -/
def encO (n : Nat) : Option (Nat × Nat) → Value
 | none => .slice none 0 0
 | some (b, c) => .slice (some ⟨b, 0, none⟩) n c
theorem encO_one (n : Nat) : ∀ x, (encO n x).oneCell' = true
 | none => rfl
 | some (_, _) => rfl
abbrev kO (n : Nat) : Kd (Option (Nat × Nat)) := Kd.scalar (encO n) (encO_one n)
/-- The blocks of rows, none twice, each a row of n payloads of its own; the payloads' data lie in D. -/
structure Rows (w : World) (base n : Nat) (D : Nat → Prop) (rbs : List (Nat × Nat)) (G : List (List (List Int))) : Prop where
 len : rbs.length = G.length
 once : (rbs.map (·.1)).Nodup
 row : ∀ (j : Nat) (b c : Nat) (L : List (List Int)), rbs[j]? = some (b, c) → G[j]? = some L → base ≤ b ∧ L.length = n ∧ kD.N 51 w base (fun k => k = b ∨ D k) (.slice (some ⟨b, 0, none⟩) n c) L
theorem Rows.at_ {w : World} {base n : Nat} {D : Nat → Prop} {rbs : List (Nat × Nat)} {G : List (List (List Int))} (h : Rows w base n D rbs G) {b : Nat} (hb : b ∈ rbs.map (·.1)) : ∃ (j c : Nat) (L : List (List Int)), rbs[j]? = some (b, c) ∧ G[j]? = some L ∧ base ≤ b ∧ L.length = n ∧ kD.N 51 w base (fun k => k = b ∨ D k) (.slice (some ⟨b, 0, none⟩) n c) L := by
 obtain ⟨⟨b', c⟩, hm, rfl⟩ := List.mem_map.1 hb
 obtain ⟨j, hj, e⟩ := List.mem_iff_getElem.1 hm
 have hj' : j < G.length := by rw [← h.len]; exact hj
 have h1 : rbs[j]? = some (b', c) := by rw [List.getElem?_eq_getElem hj, e]
 exact ⟨j, c, G[j], h1, List.getElem?_eq_getElem hj', h.row j b' c G[j] h1 (List.getElem?_eq_getElem hj')⟩
theorem Rows.lt {w : World} {base n : Nat} {D : Nat → Prop} {rbs : List (Nat × Nat)} {G : List (List (List Int))} (h : Rows w base n D rbs G) {b : Nat} (hb : b ∈ rbs.map (·.1)) : b < w.heap.size := by
 obtain ⟨_, _, _, _, _, _, _, h3⟩ := h.at_ hb
 exact Kd.N_lt h3 b (by simp [Value.ownBlock])
theorem Rows.ne {w : World} {base n : Nat} {D : Nat → Prop} {rbs : List (Nat × Nat)} {G : List (List (List Int))} (h : Rows w base n D rbs G) {g t : Nat} {cs : Array Value} (hg : w.heap[g]? = some (.cells cs t (0, 0))) (ht : 51 ≠ t) : g ∉ rbs.map (·.1) := fun hb => by
 obtain ⟨_, _, _, _, _, _, _, h3⟩ := h.at_ hb
 exact Kd.N_ne h3 hg ht (by simp [Value.ownBlock])
theorem Rows.step {w w1 : World} {base n : Nat} {D : Nat → Prop} {rbs : List (Nat × Nat)} {G : List (List (List Int))} (h : Rows w base n D rbs G) (hm : ∀ b, b ∈ rbs.map (·.1) ∨ D b → b < w.heap.size → w1.heap[b]? = w.heap[b]?) : Rows w1 base n D rbs G :=
 ⟨h.len, h.once, fun j b c L h1 h2 => by
  obtain ⟨h3, h4, h5⟩ := h.row j b c L h1 h2
  refine ⟨h3, h4, Kd.N_step h5 (fun k hk hlt => hm k ?_ hlt)⟩
  rcases hk with rfl | hk
  ·exact .inl (List.mem_map.2 ⟨(k, c), List.mem_of_getElem? h1, rfl⟩)
  ·exact .inr hk⟩
theorem Rows.below {w w1 : World} {base n : Nat} {D : Nat → Prop} {rbs : List (Nat × Nat)} {G : List (List (List Int))} (h : Rows w base n D rbs G) (hb : Below w.heap.size w w1) : Rows w1 base n D rbs G := h.step fun b _ hm => hb.block b hm
theorem Rows.add {w : World} {base n : Nat} {D : Nat → Prop} {rbs : List (Nat × Nat)} {G : List (List (List Int))} (h : Rows w base n D rbs G) {b c : Nat} {L : List (List Int)} (hb : base ≤ b) (hl : L.length = n) (hnew : b ∉ rbs.map (·.1)) (hN : kD.N 51 w base (fun k => k = b ∨ D k) (.slice (some ⟨b, 0, none⟩) n c) L) : Rows w base n D (rbs ++ [(b, c)]) (G ++ [L]) := by
 refine ⟨by simp [h.len], ?_, fun j b' c' L' h1 h2 => ?_⟩
 ·rw [List.map_append, List.nodup_append]
  exact ⟨h.once, by simp, fun a ha q hq e => hnew (by simp at hq; rw [← hq, ← e]; exact ha)⟩
 ·by_cases hj : j < rbs.length
  ·rw [List.getElem?_append_left hj] at h1
   rw [List.getElem?_append_left (by rw [← h.len]; exact hj)] at h2
   exact h.row j b' c' L' h1 h2
  ·have hj2 : j = rbs.length := by
    have := (List.getElem?_eq_some_iff.1 h1).1
    simp at this
    omega
   subst hj2
   rw [List.getElem?_append_right (Nat.le_refl _)] at h1
   rw [List.getElem?_append_right (by rw [h.len]; exact Nat.le_refl _)] at h2
   simp [h.len] at h1 h2
   obtain ⟨rfl, rfl⟩ := h1
   subst h2
   exact ⟨hb, hl, hN⟩
theorem Rows.nil (w : World) (base n : Nat) (D : Nat → Prop) : Rows w base n D [] [] := ⟨rfl, by simp, fun j b c L h => by simp at h⟩
theorem set_end (rbs : List (Nat × Nat)) (k : Nat) (x : Nat × Nat) : (rbs.map some ++ List.replicate (k + 1) none).set rbs.length (some x) = (rbs ++ [x]).map some ++ List.replicate k none := by
 rw [List.set_append_right _ _ (by simp)]
 simp [List.replicate_succ]
theorem kD_nilF (W : World) (ok : Nat → Prop) : Kd.FK kD W ok ([] : List Int) [.slice none 0 0] := fun W' _ => ⟨none, 0, rfl, Nat.le_refl _, Kd.C_nil _ _⟩
def blank.T7 : Bool × List (List Nat × List Nat) := (true, [([], []), ([], []), ([1, 1], [1]), ([0, 0], [0]), ([2, 3, 0, 1, 2, 3], [2])])
def blank.B7 : List Nat := [0, 0, 2, 1, 15]
theorem blank.tab7 : rtab .any (opsOf Try.f66 7) = blank.T7 := by kernel_rfl
theorem blank.bits7 : waitsOk blank.T7.2 blank.B7 = true := by kernel_rfl
set_option maxHeartbeats 8000000 in
set_option maxRecDepth 100000 in
theorem blank.calls (n : Nat) (hn : 1 ≤ n) (hn2 : n ≤ 1000000) (w : World) :
  Calls Try.prog 66 #[.int .i64 n] w fun e w' => ∃ g c rbs v2, e = .returned (.tuple #[.slice (some ⟨g, 0, none⟩) n c, v2]) ∧ (kO n).R 27 w' w.heap.size (fun _ => True) (.slice (some ⟨g, 0, none⟩) n c) (rbs.map some) ∧
   Rows w' w.heap.size n (fun _ => False) rbs (List.replicate n (List.replicate n [])) ∧ (∃ h2 c2, v2 = .slice (some ⟨h2, 0, none⟩) n c2 ∧ w.heap.size ≤ h2 ∧ h2 ∉ rbs.map (·.1) ∧ kD.N 51 w' w.heap.size (fun k => k = h2) v2 (List.replicate n [])) ∧ Below w.heap.size w w' := by
 have HN1 := Qz.mk hn
 have HN2 := Qz.mk hn2
 have b0 : decide ((0 : Int) ≤ (n : Int)) = true := decide_eq_true (by omega)
 clear hn hn2
 go_enter Try.func66, Try.ntmps66
 go_wp2_with (first | ((with_reducible refine gdt (N := 7) rfl ?_); refine Kd.R_make (kO n) w.heap.size 27 rfl (N := 7) rfl 40 _ _ rfl (n : Int) rfl rfl Try.underlying40 (.slice none 0 0) 24 info27o rfl Nat.one_pos (by omega) none (ok := fun _ => True) (okp := fun _ => False) rfl (fun _ hk => hk.elim) trivial (by omega) (by have := HN2.out; omega) (Below.refl _ _) (Nat.le_refl _) ?_; intro v7 w7 ho hb hg hat; have HO := Qz.mk ho; have HB := Qz.mk hb; clear ho hb hg hat; have hfm := Kd.N_form (Kd.R_N HO.out) (by have := HN1.out; simp; omega); obtain ⟨g, c, rfl, _, _, _⟩ := hfm; simp only [List.length_replicate, Int.toNat_natCast]))
 replace HO := Qz.mk (show (kO n).R 27 w7 w.heap.size (fun _ => True) (.slice (some ⟨g, 0, none⟩) n c) (List.replicate n none) from by have h := HO.out; simpa using h)
 go_loopg [10] n (fun kq v10 w' => ∃ (rbs : List (Nat × Nat)), v10 = .int .i64 (rbs.length : Int) ∧ Qz (rbs.length + kq = n) ∧ Qz ((kO n).R 27 w' w.heap.size (fun _ => True) (.slice (some ⟨g, 0, none⟩) n c) (rbs.map some ++ List.replicate kq none)) ∧ Qz (Rows w' w.heap.size n (fun _ => False) rbs (List.replicate rbs.length (List.replicate n []))) ∧ Qz (Below w.heap.size w w'))
 case atStart => exact ⟨[], rfl, ⟨by simp⟩, ⟨by simpa using HO.out⟩, ⟨Rows.nil _ _ _ _⟩, HB⟩
 case round =>
  clear HO HB
  obtain ⟨rbs, rfl, HK, HO, HR, HB⟩ := hrel
  cases gk with
  | zero =>
   have c1 : decide ((rbs.length : Int) < (n : Int)) = false := decide_eq_false (by have := HK.out; omega)
   have c2 : decide (rbs.length < n) = false := decide_eq_false (by have := HK.out; omega)
   go_wp2
   generalize hW2 : wr = W2 at HO HR HB ⊢
   clear hW2
   have HO := Qz.mk (Kd.R_drew HO.out)
   have HR := Qz.mk (show Rows W2.drew w.heap.size n (fun _ => False) rbs (List.replicate rbs.length (List.replicate n [])) from HR.out.step (fun _ _ _ => rfl))
   have HB := Qz.mk (bd1 HB.out)
   refine start_ (n := 5) (S := fun w' => True) (ds := []) #[false, false, false, false, false] (by kernel_rfl) rfl rfl (trivial) (fun hHeld => ?_)
   refine with_tabW blank.tab7 blank.bits7 (fun HT_ HW_ => ?_)
   refine pure_ (i := 0) (N := some 19) (v := ?_) (a' := ?_) #[true, false, false, false, false] rfl rfl (any_of HT_.out (by kernel_rfl)) (fun _ _ _ h => h) (Or.inl ⟨by rfl, ?_⟩) ?_ ?_
   rotate_left
   ·intro w'
    go_simp
    with_reducible rfl
   rotate_left
   ·simp only [aw_]
    rfl
   refine pure_ (i := 1) (N := some 20) (v := ?_) (a' := ?_) #[true, true, false, false, false] rfl rfl (any_of HT_.out (by kernel_rfl)) (fun _ _ _ h => h) (Or.inl ⟨by rfl, ?_⟩) ?_ ?_
   rotate_left
   ·intro w'
    go_simp
    with_reducible rfl
   rotate_left
   ·simp only [aw_]
    rfl
   refine pure_ (i := 3) (N := some 2) (v := ?_) (a' := ?_) #[true, true, false, true, false] rfl rfl (any_of HT_.out (by kernel_rfl)) (fun _ _ _ h => h) (Or.inl ⟨by rfl, ?_⟩) ?_ ?_
   rotate_left
   ·intro w'
    go_simp
    with_reducible rfl
   rotate_left
   ·simp only [aw_]
    rfl
   refine one_ (i := 2) (N := some 21) #[true, true, true, true, false] rfl rfl (one_of HT_.out (by kernel_rfl)) (by decide) (fun K hK => ?_)
   refine Kd.N_make_step kD w.heap.size 51 rfl (N' := 21) rfl 27 _ _ rfl (n : Int) rfl rfl Try.underlying27 (.slice none 0 0) 24 info51 rfl (by decide) (by omega) [] (ok := fun k_ => k_ = W2.drew.heap.size) (okp := fun _ => False) (kD_nilF _ _) (fun _ hk => hk.elim) rfl (by omega) (by have := HN2.out; omega) HB.out HB.out.size ?_
   intro v21 w21 ho hb hg hat
   have n0_ := Qz.mk ho
   have n1_ := Qz.mk hb
   have n2_ := Qz.mk (Kd.R_grown HO.out hg (fun k _ h => by cases h))
   have n3_ := Qz.mk (HR.out.step (fun b _ hlt => hg.block b hlt (fun h => by cases h)))
   have n4_ := Qz.mk (show ∀ b ∈ rbs.map (·.1), some b ≠ v21.ownBlock from fun b hm e => by
    have h1 := HR.out.lt hm
    obtain ⟨q, hq, hle⟩ := hat
    rw [hq] at e
    injection e with e
    omega)
   clear HO HB HR ho hb hg hat
   have HO2 := n0_
   have HB := n1_
   have HO := n2_
   have HR := n3_
   have HNE := n4_
   clear n0_ n1_ n2_ n3_ n4_
   refine hK.out _ _ (trivial) (fun hHeld => ?_)
   clear hK K
   refine norm_ (a' := ?_) ?_ ?_
   rotate_left
   ·show Act.put _ (some 21) _ = _
    simp only [aw_]
    rfl
   refine pure_ (i := 4) (N := some 3) (v := ?_) (a' := ?_) #[true, true, true, true, true] rfl rfl (any_of HT_.out (by kernel_rfl)) (fun _ _ _ h => h) (Or.inl ⟨by rfl, ?_⟩) ?_ ?_
   rotate_left
   ·intro w'
    go_simp
    with_reducible rfl
   rotate_left
   ·simp only [aw_]
    rfl
   refine done_ (done_of HT_.out (by kernel_rfl)) ?_
   go_wp2
   go_ret2
   have hlen : rbs.length = n := by have := HK.out; omega
   obtain ⟨h2, c2, e2, hb2, hl2, _⟩ := Kd.N_form HO2.out (by have := HN1.out; simp; omega)
   simp only [List.length_replicate, Int.toNat_natCast] at e2
   have hq := HO2.out.1 h2 (by rw [e2]; rfl)
   refine ⟨g, c, rbs, v21, rfl, by simpa using HO.out, by have h := HR.out; rw [hlen] at h; exact h, ⟨h2, c2, e2, hb2, fun hm => HNE.out h2 hm (by rw [e2]; rfl), ?_⟩, HB.out⟩
   have h := HO2.out
   rw [← hq] at h
   simpa using h
  | succ k1 =>
   have c1 : decide ((rbs.length : Int) < (n : Int)) = true := decide_eq_true (by have := HK.out; omega)
   have c2 : decide (rbs.length < n) = true := decide_eq_true (by have := HK.out; omega)
   have c3 : decide ((0 : Int) ≤ (rbs.length : Int)) = true := decide_eq_true (by omega)
   have p1 : ((0 : Int) ≤ (rbs.length : Int)) = True := eq_true (by omega)
   have q1 : ((rbs.length : Int) < (n : Int)) = True := eq_true (by have := HK.out; omega)
   have q2 : (rbs.length < n) = True := eq_true (by have := HK.out; omega)
   have hxl : (rbs.map some ++ List.replicate (k1 + 1) (none : Option (Nat × Nat))).length = n := by have := HK.out; simp; omega
   have HX := Qz.mk hxl
   clear hxl
   go_wp2_with (first | ((with_reducible refine gdt (N := 16) rfl ?_); refine Kd.N_make kD w.heap.size 51 rfl (N' := 16) rfl 27 _ _ rfl (n : Int) rfl rfl Try.underlying27 (.slice none 0 0) 24 info51 rfl (by decide) (by omega) [] (ok := fun k_ => k_ = wr.heap.size) (okp := fun _ => False) (kD_nilF _ _) (fun _ hk => hk.elim) rfl (by omega) (by have := HN2.out; omega) HB.out HB.out.size ?_; intro v16 w16 ho hb hg hat; have HV := Qz.mk ho; have HB2 := Qz.mk hb; have HO2 := Qz.mk (Kd.R_grown HO.out hg (fun k _ h => by cases h)); have HR2 := Qz.mk (HR.out.step (w1 := w16) (fun b _ hlt => hg.block b hlt (fun h => by cases h))); have HNE := Qz.mk (show ∀ b ∈ rbs.map (·.1), b < wr.heap.size from fun b hm => HR.out.lt hm); clear ho hb hg hat HB HO HR; have hfm := Kd.N_form HV.out (by have := HN1.out; simp; omega); obtain ⟨gb, cb, rfl, hb16, _, _⟩ := hfm; simp only [List.length_replicate, Int.toNat_natCast] at HV ⊢; have HBB := Qz.mk hb16; clear hb16; have hcf := Kd.R_cell none (show (kO n).R 27 w16 w.heap.size (fun _ => True) (.slice (some ⟨g, 0, none⟩) (rbs.map some ++ List.replicate (k1 + 1) (none : Option (Nat × Nat))).length c) (rbs.map some ++ List.replicate (k1 + 1) none) from by rw [HX.out]; exact HO2.out) (rbs.length : Int) (by omega) (by rw [HX.out]; have := HK.out; omega); simp only [Int.toNat_natCast] at hcf; obtain ⟨hcell, hfroz⟩ := hcf))
   go_roundg k1
   case measure => exact Nat.lt_succ_self _
   case rel =>
    have hq := HV.out.1 gb rfl
    have hp := Kd.R_putn HO2.out (rbs.length : Int) (some (gb, cb))
    simp only [Int.toNat_natCast] at hp
    rw [set_end] at hp
    obtain ⟨cs27, h27⟩ := Kd.R_typed HO2.out g rfl
    have hgn := HR2.out.ne h27 (by decide)
    refine ⟨rbs ++ [(gb, cb)], by simp; unfold wrap64; have := HN2.out; have := HK.out; omega, ⟨by have := HK.out; simp; omega⟩, ⟨hp⟩, ⟨?_⟩, ⟨HB2.out.setCell (p := ⟨g, rbs.length, none⟩) (Kd.R_base HO2.out g rfl) _⟩⟩
    have hR := Rows.add HR2.out (b := gb) (c := cb) (L := List.replicate n []) HBB.out (by simp) (fun hm => by have := HNE.out gb hm; omega) (by have h := HV.out; rw [← hq] at h; exact Kd.N_mono (by simpa using h) (fun k hk => .inl hk))
    have hR2 := hR.step (w1 := w16.setCell ⟨g, rbs.length, none⟩ (encO n (some (gb, cb)))) (fun b hb _ => Below.heap_setCell _ _ _ _ (by
     intro e
     have e2 : b = g := e
     subst e2
     rcases hb with hb | hb
     ·exact hR.ne h27 (by decide) hb
     ·exact hb))
    simpa [List.replicate_succ', encO] using hR2
def nothing.T7 : Bool × List (List Nat × List Nat) := (true, [([], []), ([], []), ([1, 1], [1]), ([0, 0], [0]), ([2, 3, 0, 1, 2, 3], [2])])
def nothing.B7 : List Nat := [0, 0, 2, 1, 15]
theorem nothing.tab7 : rtab .any (opsOf Try.f44 7) = nothing.T7 := by kernel_rfl
theorem nothing.bits7 : waitsOk nothing.T7.2 nothing.B7 = true := by kernel_rfl
set_option maxHeartbeats 8000000 in
set_option maxRecDepth 100000 in
theorem nothing.calls (n : Nat) (hn : 1 ≤ n) (hn2 : n ≤ 1000000) (w : World) :
  Calls Try.prog 44 #[.int .i64 n] w fun e w' => ∃ g c rbs v2, e = .returned (.tuple #[.slice (some ⟨g, 0, none⟩) n c, v2]) ∧ (kO n).R 27 w' w.heap.size (fun _ => True) (.slice (some ⟨g, 0, none⟩) n c) (rbs.map some) ∧
   Rows w' w.heap.size n (fun _ => False) rbs (List.replicate n (List.replicate n [])) ∧ (∃ h2 c2, v2 = .slice (some ⟨h2, 0, none⟩) n c2 ∧ w.heap.size ≤ h2 ∧ h2 ∉ rbs.map (·.1) ∧ kD.N 51 w' w.heap.size (fun k => k = h2) v2 (List.replicate n [])) ∧ Below w.heap.size w w' := by
 have HN1 := Qz.mk hn
 have HN2 := Qz.mk hn2
 have b0 : decide ((0 : Int) ≤ (n : Int)) = true := decide_eq_true (by omega)
 clear hn hn2
 go_enter Try.func44, Try.ntmps44
 go_wp2_with (first | ((with_reducible refine gdt (N := 7) rfl ?_); refine Kd.R_make (kO n) w.heap.size 27 rfl (N := 7) rfl 40 _ _ rfl (n : Int) rfl rfl Try.underlying40 (.slice none 0 0) 24 info27o rfl Nat.one_pos (by omega) none (ok := fun _ => True) (okp := fun _ => False) rfl (fun _ hk => hk.elim) trivial (by omega) (by have := HN2.out; omega) (Below.refl _ _) (Nat.le_refl _) ?_; intro v7 w7 ho hb hg hat; have HO := Qz.mk ho; have HB := Qz.mk hb; clear ho hb hg hat; have hfm := Kd.N_form (Kd.R_N HO.out) (by have := HN1.out; simp; omega); obtain ⟨g, c, rfl, _, _, _⟩ := hfm; simp only [List.length_replicate, Int.toNat_natCast]))
 replace HO := Qz.mk (show (kO n).R 27 w7 w.heap.size (fun _ => True) (.slice (some ⟨g, 0, none⟩) n c) (List.replicate n none) from by have h := HO.out; simpa using h)
 go_loopg [10] n (fun kq v10 w' => ∃ (rbs : List (Nat × Nat)), v10 = .int .i64 (rbs.length : Int) ∧ Qz (rbs.length + kq = n) ∧ Qz ((kO n).R 27 w' w.heap.size (fun _ => True) (.slice (some ⟨g, 0, none⟩) n c) (rbs.map some ++ List.replicate kq none)) ∧ Qz (Rows w' w.heap.size n (fun _ => False) rbs (List.replicate rbs.length (List.replicate n []))) ∧ Qz (Below w.heap.size w w'))
 case atStart => exact ⟨[], rfl, ⟨by simp⟩, ⟨by simpa using HO.out⟩, ⟨Rows.nil _ _ _ _⟩, HB⟩
 case round =>
  clear HO HB
  obtain ⟨rbs, rfl, HK, HO, HR, HB⟩ := hrel
  cases gk with
  | zero =>
   have c1 : decide ((rbs.length : Int) < (n : Int)) = false := decide_eq_false (by have := HK.out; omega)
   have c2 : decide (rbs.length < n) = false := decide_eq_false (by have := HK.out; omega)
   go_wp2
   generalize hW2 : wr = W2 at HO HR HB ⊢
   clear hW2
   have HO := Qz.mk (Kd.R_drew HO.out)
   have HR := Qz.mk (show Rows W2.drew w.heap.size n (fun _ => False) rbs (List.replicate rbs.length (List.replicate n [])) from HR.out.step (fun _ _ _ => rfl))
   have HB := Qz.mk (bd1 HB.out)
   refine start_ (n := 5) (S := fun w' => True) (ds := []) #[false, false, false, false, false] (by kernel_rfl) rfl rfl (trivial) (fun hHeld => ?_)
   refine with_tabW nothing.tab7 nothing.bits7 (fun HT_ HW_ => ?_)
   refine pure_ (i := 0) (N := some 19) (v := ?_) (a' := ?_) #[true, false, false, false, false] rfl rfl (any_of HT_.out (by kernel_rfl)) (fun _ _ _ h => h) (Or.inl ⟨by rfl, ?_⟩) ?_ ?_
   rotate_left
   ·intro w'
    go_simp
    with_reducible rfl
   rotate_left
   ·simp only [aw_]
    rfl
   refine pure_ (i := 1) (N := some 20) (v := ?_) (a' := ?_) #[true, true, false, false, false] rfl rfl (any_of HT_.out (by kernel_rfl)) (fun _ _ _ h => h) (Or.inl ⟨by rfl, ?_⟩) ?_ ?_
   rotate_left
   ·intro w'
    go_simp
    with_reducible rfl
   rotate_left
   ·simp only [aw_]
    rfl
   refine pure_ (i := 3) (N := some 2) (v := ?_) (a' := ?_) #[true, true, false, true, false] rfl rfl (any_of HT_.out (by kernel_rfl)) (fun _ _ _ h => h) (Or.inl ⟨by rfl, ?_⟩) ?_ ?_
   rotate_left
   ·intro w'
    go_simp
    with_reducible rfl
   rotate_left
   ·simp only [aw_]
    rfl
   refine one_ (i := 2) (N := some 21) #[true, true, true, true, false] rfl rfl (one_of HT_.out (by kernel_rfl)) (by decide) (fun K hK => ?_)
   refine Kd.N_make_step kD w.heap.size 51 rfl (N' := 21) rfl 27 _ _ rfl (n : Int) rfl rfl Try.underlying27 (.slice none 0 0) 24 info51 rfl (by decide) (by omega) [] (ok := fun k_ => k_ = W2.drew.heap.size) (okp := fun _ => False) (kD_nilF _ _) (fun _ hk => hk.elim) rfl (by omega) (by have := HN2.out; omega) HB.out HB.out.size ?_
   intro v21 w21 ho hb hg hat
   have n0_ := Qz.mk ho
   have n1_ := Qz.mk hb
   have n2_ := Qz.mk (Kd.R_grown HO.out hg (fun k _ h => by cases h))
   have n3_ := Qz.mk (HR.out.step (fun b _ hlt => hg.block b hlt (fun h => by cases h)))
   have n4_ := Qz.mk (show ∀ b ∈ rbs.map (·.1), some b ≠ v21.ownBlock from fun b hm e => by
    have h1 := HR.out.lt hm
    obtain ⟨q, hq, hle⟩ := hat
    rw [hq] at e
    injection e with e
    omega)
   clear HO HB HR ho hb hg hat
   have HO2 := n0_
   have HB := n1_
   have HO := n2_
   have HR := n3_
   have HNE := n4_
   clear n0_ n1_ n2_ n3_ n4_
   refine hK.out _ _ (trivial) (fun hHeld => ?_)
   clear hK K
   refine norm_ (a' := ?_) ?_ ?_
   rotate_left
   ·show Act.put _ (some 21) _ = _
    simp only [aw_]
    rfl
   refine pure_ (i := 4) (N := some 3) (v := ?_) (a' := ?_) #[true, true, true, true, true] rfl rfl (any_of HT_.out (by kernel_rfl)) (fun _ _ _ h => h) (Or.inl ⟨by rfl, ?_⟩) ?_ ?_
   rotate_left
   ·intro w'
    go_simp
    with_reducible rfl
   rotate_left
   ·simp only [aw_]
    rfl
   refine done_ (done_of HT_.out (by kernel_rfl)) ?_
   go_wp2
   go_ret2
   have hlen : rbs.length = n := by have := HK.out; omega
   obtain ⟨h2, c2, e2, hb2, hl2, _⟩ := Kd.N_form HO2.out (by have := HN1.out; simp; omega)
   simp only [List.length_replicate, Int.toNat_natCast] at e2
   have hq := HO2.out.1 h2 (by rw [e2]; rfl)
   refine ⟨g, c, rbs, v21, rfl, by simpa using HO.out, by have h := HR.out; rw [hlen] at h; exact h, ⟨h2, c2, e2, hb2, fun hm => HNE.out h2 hm (by rw [e2]; rfl), ?_⟩, HB.out⟩
   have h := HO2.out
   rw [← hq] at h
   simpa using h
  | succ k1 =>
   have c1 : decide ((rbs.length : Int) < (n : Int)) = true := decide_eq_true (by have := HK.out; omega)
   have c2 : decide (rbs.length < n) = true := decide_eq_true (by have := HK.out; omega)
   have c3 : decide ((0 : Int) ≤ (rbs.length : Int)) = true := decide_eq_true (by omega)
   have p1 : ((0 : Int) ≤ (rbs.length : Int)) = True := eq_true (by omega)
   have q1 : ((rbs.length : Int) < (n : Int)) = True := eq_true (by have := HK.out; omega)
   have q2 : (rbs.length < n) = True := eq_true (by have := HK.out; omega)
   have hxl : (rbs.map some ++ List.replicate (k1 + 1) (none : Option (Nat × Nat))).length = n := by have := HK.out; simp; omega
   have HX := Qz.mk hxl
   clear hxl
   go_wp2_with (first | ((with_reducible refine gdt (N := 16) rfl ?_); refine Kd.N_make kD w.heap.size 51 rfl (N' := 16) rfl 27 _ _ rfl (n : Int) rfl rfl Try.underlying27 (.slice none 0 0) 24 info51 rfl (by decide) (by omega) [] (ok := fun k_ => k_ = wr.heap.size) (okp := fun _ => False) (kD_nilF _ _) (fun _ hk => hk.elim) rfl (by omega) (by have := HN2.out; omega) HB.out HB.out.size ?_; intro v16 w16 ho hb hg hat; have HV := Qz.mk ho; have HB2 := Qz.mk hb; have HO2 := Qz.mk (Kd.R_grown HO.out hg (fun k _ h => by cases h)); have HR2 := Qz.mk (HR.out.step (w1 := w16) (fun b _ hlt => hg.block b hlt (fun h => by cases h))); have HNE := Qz.mk (show ∀ b ∈ rbs.map (·.1), b < wr.heap.size from fun b hm => HR.out.lt hm); clear ho hb hg hat HB HO HR; have hfm := Kd.N_form HV.out (by have := HN1.out; simp; omega); obtain ⟨gb, cb, rfl, hb16, _, _⟩ := hfm; simp only [List.length_replicate, Int.toNat_natCast] at HV ⊢; have HBB := Qz.mk hb16; clear hb16; have hcf := Kd.R_cell none (show (kO n).R 27 w16 w.heap.size (fun _ => True) (.slice (some ⟨g, 0, none⟩) (rbs.map some ++ List.replicate (k1 + 1) (none : Option (Nat × Nat))).length c) (rbs.map some ++ List.replicate (k1 + 1) none) from by rw [HX.out]; exact HO2.out) (rbs.length : Int) (by omega) (by rw [HX.out]; have := HK.out; omega); simp only [Int.toNat_natCast] at hcf; obtain ⟨hcell, hfroz⟩ := hcf))
   go_roundg k1
   case measure => exact Nat.lt_succ_self _
   case rel =>
    have hq := HV.out.1 gb rfl
    have hp := Kd.R_putn HO2.out (rbs.length : Int) (some (gb, cb))
    simp only [Int.toNat_natCast] at hp
    rw [set_end] at hp
    obtain ⟨cs27, h27⟩ := Kd.R_typed HO2.out g rfl
    have hgn := HR2.out.ne h27 (by decide)
    refine ⟨rbs ++ [(gb, cb)], by simp; unfold wrap64; have := HN2.out; have := HK.out; omega, ⟨by have := HK.out; simp; omega⟩, ⟨hp⟩, ⟨?_⟩, ⟨HB2.out.setCell (p := ⟨g, rbs.length, none⟩) (Kd.R_base HO2.out g rfl) _⟩⟩
    have hR := Rows.add HR2.out (b := gb) (c := cb) (L := List.replicate n []) HBB.out (by simp) (fun hm => by have := HNE.out gb hm; omega) (by have h := HV.out; rw [← hq] at h; exact Kd.N_mono (by simpa using h) (fun k hk => .inl hk))
    have hR2 := hR.step (w1 := w16.setCell ⟨g, rbs.length, none⟩ (encO n (some (gb, cb)))) (fun b hb _ => Below.heap_setCell _ _ _ _ (by
     intro e
     have e2 : b = g := e
     subst e2
     rcases hb with hb | hb
     ·exact hR.ne h27 (by decide) hb
     ·exact hb))
    simpa [List.replicate_succ', encO] using hR2

end Go.Proofs.Ytkaikgbcnmfppaa.Nb
