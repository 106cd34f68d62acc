/- juntoref17.Act walked. Made by mk_refact.py. -/
import Derived.Test.YtkaikgbcnmfppaaNbExch
namespace Go.Proofs.Ytkaikgbcnmfppaa.Nb
open Go Go.RowKit Go.Proofs.YtkaikgbcnmfppaaW.PrintWords Go.Proofs.YtkaikgbcnmfppaaW.PrintLast Go.Proofs.YtkaikgbcnmfppaaW.PrintMore
attribute [local go_sem] max2_int min2_int max_two min_two max_three min_three max_four min_four
set_option linter.unusedVariables false
set_option linter.unusedSimpArgs false
noncomputable section
/-- A struct of five cells stored. -/
def put5 (w : World) (g : Nat) (v0 v1 v2 v3 v4 : Value) : World := (((((w.setCell ⟨g, 0, none⟩ (v0)).setCell ⟨g, 1, none⟩ (v1)).setCell ⟨g, 2, none⟩ (v2)).setCell ⟨g, 3, none⟩ (v3)).setCell ⟨g, 4, none⟩ (v4))
theorem kept5 (w : World) (g : Nat) (v0 v1 v2 v3 v4 : Value) : Kept w (put5 w g v0 v1 v2 v3 v4) (fun k => k = g) := by
 unfold put5
 exact Kept.setCell (S := fun k => k = g) (p := ⟨g, 4, none⟩) (Kept.setCell (S := fun k => k = g) (p := ⟨g, 3, none⟩) (Kept.setCell (S := fun k => k = g) (p := ⟨g, 2, none⟩) (Kept.setCell (S := fun k => k = g) (p := ⟨g, 1, none⟩) (Kept.setCell (S := fun k => k = g) (p := ⟨g, 0, none⟩) (Kept.refl _ _) (.inl rfl) v0) (.inl rfl) v1) (.inl rfl) v2) (.inl rfl) v3) (.inl rfl) v4
theorem below5 {w0 w : World} {b g : Nat} (h : Below b w0 w) (hg : b ≤ g) (v0 v1 v2 v3 v4 : Value) : Below b w0 (put5 w g v0 v1 v2 v3 v4) := by
 unfold put5
 exact Below.setCell (p := ⟨g, 4, none⟩) (Below.setCell (p := ⟨g, 3, none⟩) (Below.setCell (p := ⟨g, 2, none⟩) (Below.setCell (p := ⟨g, 1, none⟩) (Below.setCell (p := ⟨g, 0, none⟩) (h) hg v0) hg v1) hg v2) hg v3) hg v4
theorem blk5 {w : World} {g t : Nat} {u0 u1 u2 u3 u4 : Value} (h : w.heap[g]? = some (.cells #[u0, u1, u2, u3, u4] t (0, 0))) (v0 v1 v2 v3 v4 : Value) : (put5 w g v0 v1 v2 v3 v4).heap[g]? = some (.cells #[v0, v1, v2, v3, v4] t (0, 0)) := by
 unfold put5
 refine bkp (cs := #[v0, v1, v2, v3, u4]) ?_ 4 _ rfl; refine bkp (cs := #[v0, v1, v2, u3, u4]) ?_ 3 _ rfl; refine bkp (cs := #[v0, v1, u2, u3, u4]) ?_ 2 _ rfl; refine bkp (cs := #[v0, u1, u2, u3, u4]) ?_ 1 _ rfl; refine bkp (cs := #[u0, u1, u2, u3, u4]) ?_ 0 _ rfl; exact h
/-- The message that goes out: the act's, or the given one. -/
def sendV (l : List S72) (R : Int) (f t : Int) (d : List Int) : List Int := match l.find? (fun a => a.f0 == R && a.f1 == f && a.f2 == t) with
 | some a => if a.f3 = true then [] else a.f4
 | none => d
theorem at_T72F {w : World} {ok : Nat → Prop} {A : Option Addr} {n : Nat} {xs : List S72} (h : Kd.F k72 w ok A n xs) (i : Int) (h0 : 0 ≤ i) (h1 : i < n) : ∃ ad A4 c4, A = some ad ∧ w.cell? (ad.add (i.toNat * 5)) = some (.int .i64 (r72 xs i).f0) ∧ w.cell? ⟨(ad.add (i.toNat * 5)).block, (ad.add (i.toNat * 5)).off + 1, none⟩ = some (.int .i64 (r72 xs i).f1) ∧ w.cell? ⟨(ad.add (i.toNat * 5)).block, (ad.add (i.toNat * 5)).off + 2, none⟩ = some (.int .i64 (r72 xs i).f2) ∧ w.cell? ⟨(ad.add (i.toNat * 5)).block, (ad.add (i.toNat * 5)).off + 3, none⟩ = some (.bool (r72 xs i).f3) ∧ w.cell? ⟨(ad.add (i.toNat * 5)).block, (ad.add (i.toNat * 5)).off + 4, none⟩ = some (.slice A4 (r72 xs i).f4.length c4) ∧ (r72 xs i).f4.length ≤ c4 ∧ Kd.F (Kd.int .u64) w ok A4 (r72 xs i).f4.length (r72 xs i).f4 := by
 obtain ⟨ad, c, e, _, hK, hc0, _⟩ := Kd.F_get h z72 i h0 h1
 have hc : ∀ j u, c[j]? = some u → w.cell? (ad.add (i.toNat * 5 + j)) = some u := hc0
 obtain ⟨A4, c4, rfl, l4, g4⟩ := k72_openF hK
 exact ⟨ad, A4, c4, e, hc 0 _ rfl, by rw [← add_field _ _ 1 (by omega)]; exact hc 1 _ rfl, by rw [← add_field _ _ 2 (by omega)]; exact hc 2 _ rfl, by rw [← add_field _ _ 3 (by omega)]; exact hc 3 _ rfl, by rw [← add_field _ _ 4 (by omega)]; exact hc 4 _ rfl, l4, g4⟩
theorem sendV_none {l : List S72} {R f t : Int} (d : List Int) (h : ∀ a ∈ l, (a.f0 == R && a.f1 == f && a.f2 == t) = false) : sendV l R f t d = d := by
 unfold sendV
 rw [List.find?_eq_none.2 (fun a ha => by rw [h a ha]; decide)]
theorem sendV_at {l : List S72} {R f t : Int} (d : List Int) {i : Nat} (hi : i < l.length) (h : ∀ a ∈ l.take i, (a.f0 == R && a.f1 == f && a.f2 == t) = false) (ha : (l[i].f0 == R && l[i].f1 == f && l[i].f2 == t) = true) : sendV l R f t d = if l[i].f3 = true then [] else l[i].f4 := by
 unfold sendV
 have h1 : l.find? (fun a => a.f0 == R && a.f1 == f && a.f2 == t) = some l[i] := by
  rw [List.find?_eq_some_iff_append]
  exact ⟨ha, l.take i, l.drop (i + 1), by rw [← List.drop_eq_getElem_cons hi, List.take_append_drop], fun a hm => by rw [h a hm]; rfl⟩
 rw [h1]
set_option maxHeartbeats 8000000 in
set_option maxRecDepth 100000 in
theorem refAct.callsF (ok : Nat → Prop) (P N T R from_ to_ : Int) (vc vt vs : Value) (A4 : Option Addr) (c4 : Nat) (la : List S72) (A : Option Addr) (c : Nat) (d : List Int) (w : World)
  (hR : 0 ≤ R) (hR2 : R < 1048576) (hla : la.length ≤ 65536) (h4 : Kd.F k72 w ok A4 la.length la) (hd : Kd.F (Kd.int .u64) w ok A d.length d) (hc : d.length ≤ c) :
  Calls Try.prog 30 #[.agg #[.int .u64 P, .int .i64 N, .int .i64 T, vc, .slice A4 la.length c4, vt, .int .i64 R, vs], .int .i64 from_, .int .i64 to_, .slice A d.length c] w fun e w' => ∃ A' c', e = .returned (.slice A' (sendV la (R + 1) from_ to_ d).length c') ∧ Kd.F (Kd.int .u64) w' (fun k => ok k ∧ k < w.heap.size) A' (sendV la (R + 1) from_ to_ d).length (sendV la (R + 1) from_ to_ d) ∧ (sendV la (R + 1) from_ to_ d).length ≤ c' ∧ Below w.heap.size w w' := by
 have hu30 := Try.underlying30
 have hu24 := Try.underlying24
 have hu72 := Try.underlying72
 have H4 := Qz.mk (Kd.F_bound h4)
 have HD := Qz.mk (Kd.F_bound hd)
 have HC := Qz.mk hc
 have HLA := Qz.mk hla
 have hwr : wrap64 (R + 1) = R + 1 := by unfold wrap64; omega
 clear h4 hd hc hla hR hR2
 go_enter Try.func30, Try.ntmps30
 go_wp2_with ((with_reducible refine gdt (N := 4) rfl ?_); refine bxe ?hg (N := 4) ?hd (cs := #[.int .u64 P, .int .i64 N, .int .i64 T, vc, .slice A4 la.length c4, vt, .int .i64 R, vs]) (t := 30) ?hr ?_; (case hd => rfl); (case hg => rfl); (case hr => first | (go_simp; done) | (go_simp; rfl)); intro g4 hg4 w4 hbox hb4; have B4 := Qz.mk hbox; have HB := Qz.mk hb4; have hx4 : w4.cell? ⟨g4, 4, none⟩ = some (.slice A4 la.length c4) := (bc_ hbox 4).trans rfl; clear hg4 hbox hb4)
 clear hx4
 go_loopg [14] la.length (fun kq v14 w' => ∃ i : Nat, v14 = .int .i64 (i : Int) ∧ Qz (i + kq = la.length) ∧ Qz (∀ a ∈ la.take i, (a.f0 == R + 1 && a.f1 == from_ && a.f2 == to_) = false) ∧ Qz (w'.heap[g4]? = some (.cells #[.int .u64 P, .int .i64 N, .int .i64 T, vc, .slice A4 la.length c4, vt, .int .i64 R, vs] 30 (0, 0))) ∧ Qz (Below w.heap.size w w'))
 case atStart => exact ⟨0, rfl, ⟨by simp⟩, ⟨by simp⟩, B4, HB⟩
 case round =>
  clear B4 HB
  obtain ⟨i, rfl, HI, HN, B4, HB⟩ := hrel
  cases gk with
  | zero =>
   have c1 : decide ((i : Int) < (la.length : Int)) = false := decide_eq_false (by have := HI.out; omega)
   have c2 : decide (i < la.length) = false := decide_eq_false (by have := HI.out; omega)
   have hf : sendV la (R + 1) from_ to_ d = d := sendV_none d (by have h := HN.out; rw [List.take_of_length_le (by have := HI.out; omega)] at h; exact h)
   have HF := Qz.mk hf
   clear hf
   go_wp2
   go_ret
   exact ⟨A, c, by rw [HF.out]; rfl, by rw [HF.out]; exact Kd.F_below HD.out HB.out, by rw [HF.out]; exact HC.out, HB.out⟩
  | succ k1 =>
   have hil : i < la.length := by have := HI.out; omega
   have HIL := Qz.mk hil
   have c1 : decide ((i : Int) < (la.length : Int)) = true := decide_eq_true (by omega)
   have c2 : decide (i < la.length) = true := decide_eq_true hil
   have p1 : (0 : Int) ≤ (i : Int) := by omega
   have q1 : (i : Int) < (la.length : Int) := by omega
   obtain ⟨ad, Ai, ci, e, hx0, hx1, hx2, hx3, hx4, hl4, hi4⟩ := at_T72F (Kd.F_below H4.out HB.out) (i : Int) p1 q1
   subst e
   have HLI := Qz.mk hl4
   have HDI := Qz.mk hi4
   clear hl4 hi4 hil
   simp only [Int.toNat_natCast] at hx0 hx1 hx2 hx3 hx4
   replace p1 := eq_true p1
   replace q1 := eq_true q1
   go_upto_region 4 with ((with_reducible refine gdt (N := 10) rfl ?_); refine bxe ?hg (N := 10) ?hd (cs := #[.int .i64 0, .int .i64 0, .int .i64 0, .bool false, .slice none 0 0]) (t := 72) ?hr ?_; (case hd => rfl); (case hg => rfl); (case hr => first | (go_simp; done) | (go_simp; rfl)); intro g10 hg10 w9 hbox hb9; have B10 := Qz.mk hbox; have GE10 := Qz.mk (show w.heap.size ≤ g10 from by rw [hg10]; exact HB.out.size); have NE := Qz.mk (show g4 ≠ g10 from by rw [hg10]; exact Nat.ne_of_lt (blt B4.out)); have GEW := Qz.mk (show wr.heap.size ≤ g10 from Nat.le_of_eq hg10.symm); have B4 := Qz.mk (bkb B4.out hb9); have HDI := Qz.mk (Kd.F_below HDI.out hb9); have HB := Qz.mk (HB.out.trans (hb9.mono HB.out.size)); clear hg10 hbox hb9; have hz0 : w9.cell? ⟨g10, 0, none⟩ = some (.int .i64 0) := (bc_ B10.out 0).trans rfl; have hz1 : w9.cell? ⟨g10, 1, none⟩ = some (.int .i64 0) := (bc_ B10.out 1).trans rfl; have hz2 : w9.cell? ⟨g10, 2, none⟩ = some (.int .i64 0) := (bc_ B10.out 2).trans rfl; have hz3 : w9.cell? ⟨g10, 3, none⟩ = some (.bool false) := (bc_ B10.out 3).trans rfl; have hz4 : w9.cell? ⟨g10, 4, none⟩ = some (.slice none 0 0) := (bc_ B10.out 4).trans rfl; have hf0 := bf_ B10.out 0; have hf1 := bf_ B10.out 1; have hf2 := bf_ B10.out 2; have hf3 := bf_ B10.out 3; have hf4 := bf_ B10.out 4)
   rw [show (((((w9.setCell ⟨g10, 0, none⟩ (.int .i64 (r72 la (i : Int)).f0)).setCell ⟨g10, 1, none⟩ (.int .i64 (r72 la (i : Int)).f1)).setCell ⟨g10, 2, none⟩ (.int .i64 (r72 la (i : Int)).f2)).setCell ⟨g10, 3, none⟩ (.bool (r72 la (i : Int)).f3)).setCell ⟨g10, 4, none⟩ (.slice Ai (r72 la (i : Int)).f4.length ci)) = put5 w9 g10 (.int .i64 (r72 la (i : Int)).f0) (.int .i64 (r72 la (i : Int)).f1) (.int .i64 (r72 la (i : Int)).f2) (.bool (r72 la (i : Int)).f3) (.slice Ai (r72 la (i : Int)).f4.length ci) from rfl]
   have hK := kept5 w9 g10 (.int .i64 (r72 la (i : Int)).f0) (.int .i64 (r72 la (i : Int)).f1) (.int .i64 (r72 la (i : Int)).f2) (.bool (r72 la (i : Int)).f3) (.slice Ai (r72 la (i : Int)).f4.length ci)
   have HB := Qz.mk (below5 HB.out GE10.out (.int .i64 (r72 la (i : Int)).f0) (.int .i64 (r72 la (i : Int)).f1) (.int .i64 (r72 la (i : Int)).f2) (.bool (r72 la (i : Int)).f3) (.slice Ai (r72 la (i : Int)).f4.length ci))
   have B10 := Qz.mk (blk5 B10.out (.int .i64 (r72 la (i : Int)).f0) (.int .i64 (r72 la (i : Int)).f1) (.int .i64 (r72 la (i : Int)).f2) (.bool (r72 la (i : Int)).f3) (.slice Ai (r72 la (i : Int)).f4.length ci))
   have B4 := Qz.mk (bkk B4.out hK NE.out)
   have HDI := Qz.mk (Kd.F_kept HDI.out hK (fun k hk e => by have h1 := GE10.out; have h2 := hk.2; omega))
   clear hK hx0 hx1 hx2 hx3 hx4 hz0 hz1 hz2 hz3 hz4 hf0 hf1 hf2 hf3 hf4
   generalize hw10 : put5 w9 g10 (.int .i64 (r72 la (i : Int)).f0) (.int .i64 (r72 la (i : Int)).f1) (.int .i64 (r72 la (i : Int)).f2) (.bool (r72 la (i : Int)).f3) (.slice Ai (r72 la (i : Int)).f4.length ci) = w10 at HB B10 B4 HDI ⊢
   clear hw10
   have hq : r72 la (i : Int) = la[i]'HIL.out := by simp [r72, List.getD_eq_getElem?_getD, HIL.out]
   have HQ := Qz.mk hq
   clear hq
   have hu0 : w10.cell? ⟨g10, 0, none⟩ = some (.int .i64 (r72 la (i : Int)).f0) := (bc_ B10.out 0).trans rfl
   have hu1 : w10.cell? ⟨g10, 1, none⟩ = some (.int .i64 (r72 la (i : Int)).f1) := (bc_ B10.out 1).trans rfl
   have hu2 : w10.cell? ⟨g10, 2, none⟩ = some (.int .i64 (r72 la (i : Int)).f2) := (bc_ B10.out 2).trans rfl
   have hu3 : w10.cell? ⟨g10, 3, none⟩ = some (.bool (r72 la (i : Int)).f3) := (bc_ B10.out 3).trans rfl
   have hu4 : w10.cell? ⟨g10, 4, none⟩ = some (.slice Ai (r72 la (i : Int)).f4.length ci) := (bc_ B10.out 4).trans rfl
   have hv6 : w10.cell? ⟨g4, 6, none⟩ = some (.int .i64 R) := (bc_ B4.out 6).trans rfl
   have hne : (((r72 la (i : Int)).f0 == R + 1 && (r72 la (i : Int)).f1 == from_ && (r72 la (i : Int)).f2 == to_) = false) → Qz (∀ a ∈ la.take (i + 1), (a.f0 == R + 1 && a.f1 == from_ && a.f2 == to_) = false) := fun h => ⟨fun a ha => by
    rw [List.take_succ_eq_append_getElem HIL.out, List.mem_append] at ha
    rcases ha with ha | ha
    ·exact HN.out a ha
    ·simp only [List.mem_cons, List.not_mem_nil, or_false] at ha
     rw [ha, ← HQ.out]
     exact h⟩
   have HNE := Qz.mk hne
   clear hne
   cases h0 : ((r72 la (i : Int)).f0 == R + 1) with
   | false =>
    have HN2 := HNE.out (by rw [h0]; rfl)
    go_wp2
    go_roundg k1
    case measure => exact Nat.lt_succ_self _
    case rel => exact ⟨i + 1, by simp; unfold wrap64; have := HLA.out; have := HIL.out; omega, ⟨by have := HI.out; omega⟩, HN2, B4, HB⟩
   | true =>
    cases h1 : ((r72 la (i : Int)).f1 == from_) with
    | false =>
     have HN2 := HNE.out (by rw [h0, h1]; rfl)
     go_wp2
     go_roundg k1
     case measure => exact Nat.lt_succ_self _
     case rel => exact ⟨i + 1, by simp; unfold wrap64; have := HLA.out; have := HIL.out; omega, ⟨by have := HI.out; omega⟩, HN2, B4, HB⟩
    | true =>
     cases h2 : ((r72 la (i : Int)).f2 == to_) with
     | false =>
      have HN2 := HNE.out (by rw [h0, h1, h2]; rfl)
      go_wp2
      go_roundg k1
      case measure => exact Nat.lt_succ_self _
      case rel => exact ⟨i + 1, by simp; unfold wrap64; have := HLA.out; have := HIL.out; omega, ⟨by have := HI.out; omega⟩, HN2, B4, HB⟩
     | true =>
      have hv := sendV_at d HIL.out HN.out (by rw [← HQ.out, h0, h1, h2]; rfl)
      rw [← HQ.out] at hv
      have HV := Qz.mk hv
      clear hv
      cases h3 : (r72 la (i : Int)).f3 with
      | false =>
       have h3b : (r72 la (i : Int)).f3 = false := h3
       go_wp2
       go_ret
       rw [h3, if_neg (by decide)] at HV
       exact ⟨Ai, ci, by rw [HV.out]; rfl, by rw [HV.out]; exact HDI.out, by rw [HV.out]; exact HLI.out, HB.out⟩
      | true =>
       go_wp2
       go_ret
       rw [h3, if_pos rfl] at HV
       exact ⟨none, 0, by rw [HV.out]; rfl, by rw [HV.out]; exact Kd.F_nil _ _ _, by rw [HV.out]; exact Nat.le_refl _, HB.out⟩
end
end Go.Proofs.Ytkaikgbcnmfppaa.Nb
