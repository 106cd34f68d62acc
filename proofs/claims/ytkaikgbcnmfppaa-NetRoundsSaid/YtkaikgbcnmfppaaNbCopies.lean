/- A row of structs of one's own: its slice field put anew, with what it reads as unchanged. juntolaw17.copies walked: what it hands back reads as what it was given. -/
import Derived.Test.YtkaikgbcnmfppaaNbWide
import Derived.Test.YtkaikgbcnmfppaaNbRun
import Derived.Test.YtkaikgbcnmfppaaNbFRef17Copy
import Derived.Test.YtkaikgbcnmfppaaNbSwapB
namespace Go.Proofs.Ytkaikgbcnmfppaa.Nb
open Go.Proofs.Ytkaikgbcnmfppaa.Num Go.Proofs.Ytkaikgbcnmfppaa.Arith
open Go Go.RowKit Go.Proofs.YtkaikgbcnmfppaaW.PrintWords Go.Proofs.YtkaikgbcnmfppaaW.PrintLast Go.Proofs.YtkaikgbcnmfppaaW.PrintMore
set_option linter.unusedVariables false
set_option linter.unusedSimpArgs false
noncomputable section
theorem copy_l0 (l : List (List Int)) (hl : l.length ≤ 5864062014634) (hd : ∀ i, i < l.length → (l.getD i []).length < 17592186044416) : ∀ d i k, i + d = l.length → d < k → jCp.l0 k (l.take i) l (l.length : Int) (i : Int) = some l := by
 intro d
 induction d with
 | zero =>
  intro i k hdd hk
  obtain ⟨k, rfl⟩ : ∃ m, k = m + 1 := ⟨k - 1, by omega⟩
  simp only [jCp.l0]
  rw [if_neg (by omega), List.take_of_length_le (by omega)]
 | succ d ih =>
  intro i k hdd hk
  obtain ⟨k, rfl⟩ : ∃ m, k = m + 1 := ⟨k - 1, by omega⟩
  have hi : i < l.length := by omega
  have he : rd_M2 l (i : Int) = l.getD i [] := by simp [rd_M2]
  have ht : l.take i ++ [l.getD i []] = l.take (i + 1) := by
   rw [List.take_succ_eq_append_getElem hi, List.getD_eq_getElem?_getD, List.getElem?_eq_getElem hi]
   rfl
  simp only [jCp.l0]
  rw [if_pos (by omega), if_pos (by omega), if_pos (by omega), Option.bind_some, he, if_pos (by have := hd i hi; simp only [List.length_nil]; omega), if_pos (by rw [List.length_take]; omega), w64_in (by omega) (by omega), List.nil_append, ht]
  exact ih (i + 1) k (by omega) (by omega)
theorem copy_some (l : List (List Int)) (hl : l.length ≤ 5864062014634) (hd : ∀ i, i < l.length → (l.getD i []).length < 17592186044416) : ∃ k, jCp.f k l = some l := by
 refine ⟨l.length + 1, ?_⟩
 unfold jCp.f
 simpa using copy_l0 l hl hd l.length 0 (l.length + 1) (by omega) (by omega)
end
end Go.Proofs.Ytkaikgbcnmfppaa.Nb
namespace Go.Proofs.Ytkaikgbcnmfppaa.Nb
open Go Go.RowKit Go.Proofs.YtkaikgbcnmfppaaW.PrintWords Go.Proofs.YtkaikgbcnmfppaaW.PrintLast Go.Proofs.YtkaikgbcnmfppaaW.PrintMore
attribute [local go_sem] max2_int min2_int max_two min_two max_three min_three max_four min_four
set_option linter.unusedVariables false
set_option linter.unusedSimpArgs false
noncomputable section
theorem getD_in {α : Type} {l : List α} {i : Nat} {z : α} (hi : i < l.length) : l.getD i z ∈ l := by
 rw [List.getD_eq_getElem?_getD, List.getElem?_eq_getElem hi]
 exact List.getElem_mem _
theorem copy_at (l : List (List Int)) (wl : WfT l) (k : Nat) (hk : l.length < k) : jCp.f k l = some l := by
 unfold jCp.f
 have h := copy_l0 l (by have := wl.2.1; omega) (fun i hi => WfD.lt (wl.2.2 _ (getD_in hi))) l.length 0 k (by omega) hk
 simpa using h
set_option maxHeartbeats 8000000 in
set_option maxRecDepth 100000 in
theorem copies.calls (A0 : Option Addr) (c0 : Nat) (l0 : List (List (List Int))) (wp : WfP l0) (w : World) (h0 : (Kd.slice 51 kD).C w A0 l0.length l0) (hc0 : l0.length ≤ c0) :
  Calls Try.prog 18 #[.slice A0 l0.length c0] w fun e w' => ∃ C c, e = .returned (.slice C l0.length c) ∧ (Kd.slice 51 kD).C w' C l0.length l0 ∧ l0.length ≤ c ∧ Below w.heap.size w w' := by
 have H0 := Qz.mk (Kd.C_F (Kd.heap_slice 51 (Kd.heap_slice 22 (Kd.heap_int .u64))) h0)
 have HLM := Qz.mk (show l0.length ≤ 5864062014634 from by have := wp.2.1; omega)
 have HWT := Qz.mk (show ∀ i, i < l0.length → WfT (l0.getD i []) from fun i hi => wp.2.2 _ (getD_in hi))
 have HB := Qz.mk (Below.refl w.heap.size w)
 clear h0 hc0 wp
 go_enter Try.func18, Try.ntmps18
 go_wp2
 go_loopg [3, 8] l0.length (fun kq v3 v8 w' => ∃ (i : Nat), v8 = .int .i64 (i : Int) ∧ Qz (i + kq = l0.length) ∧ Qz (Kd.N (Kd.slice 51 kD) 27 w' w.heap.size (fun k => w.heap.size ≤ k) v3 (l0.take i)) ∧ Qz (Below w.heap.size w w'))
 case atStart => exact ⟨0, rfl, ⟨by simp⟩, ⟨Kd.N_nil _ _ _ _ _⟩, HB⟩
 case round =>
  clear HB
  obtain ⟨i, rfl, HI, HN, HB⟩ := hrel
  cases gk with
  | zero =>
   have c1 : decide ((i : Int) < (l0.length : Int)) = false := decide_eq_false (by have := HI.out; omega)
   have c2 : decide (i < l0.length) = false := decide_eq_false (by have := HI.out; omega)
   have hn := HN.out
   rw [List.take_of_length_le (by have := HI.out; omega)] at hn
   obtain ⟨C, c, rfl⟩ := Kd.N_slice hn
   have HC := Qz.mk (Kd.N_reads' hn)
   clear hn HN
   go_wp2
   go_ret
   exact ⟨C, c, rfl, HC.out.2.2, HC.out.2.1, HB.out⟩
  | succ k1 =>
   have hil : i < l0.length := by have := HI.out; omega
   have HIL := Qz.mk hil
   have c1 : decide ((i : Int) < (l0.length : Int)) = true := decide_eq_true (by omega)
   have c2 : decide (i < l0.length) = true := decide_eq_true hil
   obtain ⟨ad, Ai, ci, e, hcell, hli, hFi⟩ := F_row_at (Kd.F_below H0.out HB.out) hil
   subst e
   obtain ⟨row, hrow⟩ : ∃ r, r = l0.getD i [] := ⟨_, rfl⟩
   rw [← hrow] at hcell hli hFi
   have hwt := HWT.out i hil
   rw [← hrow] at hwt
   have ht : l0.take i ++ [row] = l0.take (i + 1) := by
    rw [hrow, List.take_succ_eq_append_getElem hil, List.getD_eq_getElem?_getD, List.getElem?_eq_getElem hil]
    rfl
   have HT := Qz.mk ht
   have HCP := Qz.mk (copy_at row hwt (row.length + 1) (Nat.lt_succ_self _))
   have HLI := Qz.mk hli
   have HFI := Qz.mk hFi
   have HTL := Qz.mk (show (l0.take i).length = i from by rw [List.length_take]; omega)
   have p1 : ((0 : Int) ≤ (i : Int)) = True := eq_true (by omega)
   have q1 : ((i : Int) < (l0.length : Int)) = True := eq_true (by omega)
   have q2 : (i < l0.length) = True := eq_true hil
   clear hil hrow hwt ht hli hFi
   go_wp2_with (first
    | (go_at_call 19; refine (jCp.calls (row.length + 1) Ai ci row row wr (Kd.F_now HFI.out) HLI.out HCP.out).mono ?_; rintro e w5 ⟨v0, rfl, hS, hbc⟩; have HS := Qz.mk (Kd.S_N (Kd.S_mono (ok' := fun k => wr.heap.size ≤ k) (Kd.S_bound hS) (fun k hk => hk.2.1))); obtain ⟨B, b, rfl⟩ := Kd.N_slice HS.out; have HLV := Qz.mk (show ∀ k, some k = (u3 : Value).ownBlock → k < wr.heap.size from fun k e => Kd.N_lt HN.out k e.symm); have HN := Qz.mk (Kd.N_below HN.out hbc); have HSZ := Qz.mk HB.out.size; have HB := Qz.mk (HB.out.trans (hbc.mono HB.out.size)); clear hS hbc)
    | ((with_reducible refine gbi (b := .append) (xs := #[.tmp 12, .tmp 15]) rfl ?_); at_builtin; refine Kd.N_append (Kd.slice 51 kD) w.heap.size rfl (.tmp 12) (.tmp 15) 40 27 (.slice none 0 0) 24 rfl Try.underlying40 info27o rfl (by decide) (by omega) u3 (l0.take i) row [.slice B row.length b] (fun k => w.heap.size ≤ k) (fun k => wr.heap.size ≤ k) rfl rfl (fun W' hW => ⟨B, b, rfl, (Kd.N_reads' HS.out).2.1, Kd.N_F HS.out W' hW⟩) (fun k hk => ⟨Nat.le_trans HSZ.out hk, fun e => by have := HLV.out k e; omega⟩) (fun k hk => Nat.le_trans HB.out.size hk) HN.out HB.out HB.out.size (by have := HTL.out; have := HLM.out; have := HIL.out; omega) ?_; intro v1 w6 hn hb hg hat; rw [HT.out] at hn; have HN := Qz.mk hn; have HB := Qz.mk hb; clear hn hb hg hat))
   go_roundg k1
   case measure => exact Nat.lt_succ_self _
   case rel => exact ⟨i + 1, by simp; unfold wrap64; have := HLM.out; have := HIL.out; omega, ⟨by have := HI.out; omega⟩, HN, HB⟩
end
end Go.Proofs.Ytkaikgbcnmfppaa.Nb
