/- juntoref17.ActingIn and juntoref17.Fresh walked. Made by mk_actin.py. -/
import Derived.Test.YtkaikgbcnmfppaaNbRefAct
import Derived.Test.YtkaikgbcnmfppaaNbAliveA
namespace Go.Proofs.Ytkaikgbcnmfppaa.Nb
open Go Go.RowKit Go.Proofs.YtkaikgbcnmfppaaW.PrintWords Go.Proofs.YtkaikgbcnmfppaaW.PrintLast Go.Proofs.YtkaikgbcnmfppaaW.PrintMore
attribute [local go_sem] max2_int min2_int max_two min_two max_three min_three max_four min_four
set_option linter.unusedVariables false
set_option linter.unusedSimpArgs false
noncomputable section
theorem now_all {R : Int} {la : List S72} {i : Nat} (h : la.length ≤ i) : now R (la.take i) = now R la := by rw [List.take_of_length_le h]
theorem now_len (R : Int) (l : List S72) : (now R l).length ≤ l.length := List.length_filter_le _ _
set_option maxHeartbeats 8000000 in
set_option maxRecDepth 100000 in
theorem actingIn.calls (P N T R r : Int) (Ac At As : Option Addr) (nc cc nt ct ns cs : Nat) (A4 : Option Addr) (c4 : Nat) (la : List S72) (w : World) (hla : la.length ≤ 65536) (h4 : k72.C w A4 la.length la) :
  Calls Try.prog 33 #[.agg #[.int .u64 P, .int .i64 N, .int .i64 T, .slice Ac nc cc, .slice A4 la.length c4, .slice At nt ct, .int .i64 R, .slice As ns cs], .int .i64 r] w fun e w' => ∃ B b, e = .returned (.agg #[.int .u64 P, .int .i64 N, .int .i64 T, .slice Ac nc cc, .slice B (now r la).length b, .slice At nt ct, .int .i64 R, .slice As ns cs]) ∧ k72.C w' B (now r la).length (now r la) ∧ (now r la).length ≤ b ∧ Below w.heap.size w w' := by
 have hu30 := Try.underlying30
 have hu24 := Try.underlying24
 have hu72 := Try.underlying72
 have H4 := Aside0.mk h4
 have HLA := Aside0.mk hla
 clear h4 hla
 go_enter Try.func33, Try.ntmps33
 go_wp2_with (first
   | ((with_reducible refine gate_dst (N := 2) rfl ?_); refine box_event ?hg (N := 2) ?hd (cs := #[.int .u64 P, .int .i64 N, .int .i64 T, .slice Ac nc cc, .slice A4 la.length c4, .slice At nt ct, .int .i64 R, .slice As ns cs]) (t := 30) ?hr ?_; (case hd => rfl); (case hg => rfl); (case hr => first | (go_simp; done) | (go_simp; rfl)); intro g2 hg2 w2 hbox hb2; have B2 := Aside0.mk hbox; have HB := Aside0.mk hb2; have GE2 := Aside0.mk (show w.heap.size ≤ g2 from Nat.le_of_eq hg2.symm); clear hg2 hbox hb2)
   | ((with_reducible refine gate_dst (N := 4) rfl ?_); refine box_event ?hg (N := 4) ?hd (cs := #[.int .u64 0, .int .i64 0, .int .i64 0, .slice none 0 0, .slice none 0 0, .slice none 0 0, .int .i64 0, .slice none 0 0]) (t := 30) ?hr ?_; (case hd => rfl); (case hg => rfl); (case hr => first | (go_simp; done) | (go_simp; rfl)); intro g4 hg4 w4 hbox hb4; have B4 := Aside0.mk hbox; have NE := Aside0.mk (show g2 ≠ g4 from by rw [hg4]; exact Nat.ne_of_lt (blk_lt B2.out)); have GE4 := Aside0.mk (show w.heap.size ≤ g4 from by rw [hg4]; exact HB.out.size); have B2 := Aside0.mk (blk_below B2.out hb4); have HB := Aside0.mk (HB.out.trans (hb4.mono HB.out.size)); clear hg4 hbox hb4; have hx4 : w4.cell? ⟨g2, 4, none⟩ = some (.slice A4 la.length c4) := (blk_cell B2.out 4).trans rfl))
 clear hx4
 go_loopg [5, 11] la.length (fun kq v5 v11 w' => ∃ i : Nat, v11 = .int .i64 (i : Int) ∧ Aside0 (i + kq = la.length) ∧ Aside0 (Kd.N k72 72 w' w.heap.size (fun k => k ≠ g2 ∧ k ≠ g4) v5 (now r (la.take i))) ∧ Aside0 (w'.heap[g2]? = some (.cells #[.int .u64 P, .int .i64 N, .int .i64 T, .slice Ac nc cc, .slice A4 la.length c4, .slice At nt ct, .int .i64 R, .slice As ns cs] 30 (0, 0))) ∧ Aside0 (w'.heap[g4]? = some (.cells #[.int .u64 0, .int .i64 0, .int .i64 0, .slice none 0 0, .slice none 0 0, .slice none 0 0, .int .i64 0, .slice none 0 0] 30 (0, 0))) ∧ Aside0 (Below w.heap.size w w'))
 case atStart => exact ⟨0, rfl, ⟨by simp⟩, ⟨Kd.N_nil _ _ _ _ _⟩, B2, B4, HB⟩
 case round =>
  clear B2 B4 HB
  obtain ⟨i, rfl, HI, HN, B2, B4, HB⟩ := hrel
  cases gk with
  | zero =>
   have c1 : decide ((i : Int) < (la.length : Int)) = false := decide_eq_false (by have := HI.out; omega)
   have c2 : decide (i < la.length) = false := decide_eq_false (by have := HI.out; omega)
   have hn := HN.out
   rw [now_all (by have := HI.out; omega)] at hn
   have HN2 := Aside0.mk hn
   clear HN hn
   obtain ⟨Bq, bq, rfl⟩ := Kd.N_slice HN2.out
   obtain ⟨_, hle, hC⟩ := Kd.N_reads' HN2.out
   have HLE := Aside0.mk hle
   have HC := Aside0.mk hC
   clear hle hC
   have hx0 : wr.cell? ⟨g2, 0, none⟩ = some (.int .u64 P) := (blk_cell B2.out 0).trans rfl
   have hx1 : wr.cell? ⟨g2, 1, none⟩ = some (.int .i64 N) := (blk_cell B2.out 1).trans rfl
   have hx2 : wr.cell? ⟨g2, 2, none⟩ = some (.int .i64 T) := (blk_cell B2.out 2).trans rfl
   have hx3 : wr.cell? ⟨g2, 3, none⟩ = some (.slice Ac nc cc) := (blk_cell B2.out 3).trans rfl
   have hx4 : wr.cell? ⟨g2, 4, none⟩ = some (.slice A4 la.length c4) := (blk_cell B2.out 4).trans rfl
   have hx5 : wr.cell? ⟨g2, 5, none⟩ = some (.slice At nt ct) := (blk_cell B2.out 5).trans rfl
   have hx6 : wr.cell? ⟨g2, 6, none⟩ = some (.int .i64 R) := (blk_cell B2.out 6).trans rfl
   have hx7 : wr.cell? ⟨g2, 7, none⟩ = some (.slice As ns cs) := (blk_cell B2.out 7).trans rfl
   have hf0 := blk_frozen B2.out 0
   have hf1 := blk_frozen B2.out 1
   have hf2 := blk_frozen B2.out 2
   have hf3 := blk_frozen B2.out 3
   have hf4 := blk_frozen B2.out 4
   have hf5 := blk_frozen B2.out 5
   have hf6 := blk_frozen B2.out 6
   have hf7 := blk_frozen B2.out 7
   have hz0 : wr.cell? ⟨g4, 0, none⟩ = some (.int .u64 0) := (blk_cell B4.out 0).trans rfl
   have hz1 : wr.cell? ⟨g4, 1, none⟩ = some (.int .i64 0) := (blk_cell B4.out 1).trans rfl
   have hz2 : wr.cell? ⟨g4, 2, none⟩ = some (.int .i64 0) := (blk_cell B4.out 2).trans rfl
   have hz3 : wr.cell? ⟨g4, 3, none⟩ = some (.slice none 0 0) := (blk_cell B4.out 3).trans rfl
   have hz4 : wr.cell? ⟨g4, 4, none⟩ = some (.slice none 0 0) := (blk_cell B4.out 4).trans rfl
   have hz5 : wr.cell? ⟨g4, 5, none⟩ = some (.slice none 0 0) := (blk_cell B4.out 5).trans rfl
   have hz6 : wr.cell? ⟨g4, 6, none⟩ = some (.int .i64 0) := (blk_cell B4.out 6).trans rfl
   have hz7 : wr.cell? ⟨g4, 7, none⟩ = some (.slice none 0 0) := (blk_cell B4.out 7).trans rfl
   have hk0 := blk_frozen B4.out 0
   have hk1 := blk_frozen B4.out 1
   have hk2 := blk_frozen B4.out 2
   have hk3 := blk_frozen B4.out 3
   have hk4 := blk_frozen B4.out 4
   have hk5 := blk_frozen B4.out 5
   have hk6 := blk_frozen B4.out 6
   have hk7 := blk_frozen B4.out 7
   have hne := NE.out
   have hne2 : g4 ≠ g2 := Ne.symm hne
   go_wp2
   rw [show (((((((((wr.setCell ⟨g2, 4, none⟩ (.slice Bq (now r la).length bq)).setCell ⟨g4, 0, none⟩ (.int .u64 P)).setCell ⟨g4, 1, none⟩ (.int .i64 N)).setCell ⟨g4, 2, none⟩ (.int .i64 T)).setCell ⟨g4, 3, none⟩ (.slice Ac nc cc)).setCell ⟨g4, 4, none⟩ (.slice Bq (now r la).length bq)).setCell ⟨g4, 5, none⟩ (.slice At nt ct)).setCell ⟨g4, 6, none⟩ (.int .i64 R)).setCell ⟨g4, 7, none⟩ (.slice As ns cs)) = put8 (wr.setCell ⟨g2, 4, none⟩ (.slice Bq (now r la).length bq)) g4 (.int .u64 P) (.int .i64 N) (.int .i64 T) (.slice Ac nc cc) (.slice Bq (now r la).length bq) (.slice At nt ct) (.int .i64 R) (.slice As ns cs) from rfl]
   refine bodyPost_ret (results_cell_row rfl _ _ g4 30 #[.int .u64 P, .int .i64 N, .int .i64 T, .slice Ac nc cc, .slice Bq (now r la).length bq, .slice At nt ct, .int .i64 R, .slice As ns cs] (0, 0) _ rfl (blk8 (blk_far (p := ⟨g2, 4, none⟩) B4.out hne2 _) (.int .u64 P) (.int .i64 N) (.int .i64 T) (.slice Ac nc cc) (.slice Bq (now r la).length bq) (.slice At nt ct) (.int .i64 R) (.slice As ns cs)) Try.underlying30 rfl (by kernel_rfl)) rfl ?_
   refine ⟨Bq, bq, rfl, ?_, HLE.out, below8 (below_set HB.out GE2.out) GE4.out (.int .u64 P) (.int .i64 N) (.int .i64 T) (.slice Ac nc cc) (.slice Bq (now r la).length bq) (.slice At nt ct) (.int .i64 R) (.slice As ns cs)⟩
   exact (Kd.N_reads' (Kd.N_kept (Kd.N_kept HN2.out (Kept.setCell (S := fun k => k = g2) (p := ⟨g2, 4, none⟩) (Kept.refl _ _) (.inl rfl) (.slice Bq (now r la).length bq)) (fun k hk e => hk.1 e)) (kept8 (wr.setCell ⟨g2, 4, none⟩ (.slice Bq (now r la).length bq)) g4 (.int .u64 P) (.int .i64 N) (.int .i64 T) (.slice Ac nc cc) (.slice Bq (now r la).length bq) (.slice At nt ct) (.int .i64 R) (.slice As ns cs)) (fun k hk e => hk.2 e))).2.2
  | succ k1 =>
   have hil : i < la.length := by have := HI.out; omega
   have HIL := Aside0.mk hil
   have c1 : decide ((i : Int) < (la.length : Int)) = true := decide_eq_true (by omega)
   have c2 : decide (i < la.length) = true := decide_eq_true hil
   have p1 : (0 : Int) ≤ (i : Int) := by omega
   have q1 : (i : Int) < (la.length : Int) := by omega
   obtain ⟨ad, Ai, ci, e, hx0, hx1, hx2, hx3, hx4, hl4, hi4⟩ := at_T72 H4.out (i : Int) p1 q1
   subst e
   have HLI := Aside0.mk hl4
   have HDI := Aside0.mk (Kd.C_F (Kd.heap_int .u64) hi4)
   clear hl4 hi4 hil
   replace hx0 := below_cell HB.out hx0
   replace hx1 := below_cell HB.out hx1
   replace hx2 := below_cell HB.out hx2
   replace hx3 := below_cell HB.out hx3
   replace hx4 := below_cell HB.out hx4
   simp only [Int.toNat_natCast] at hx0 hx1 hx2 hx3 hx4
   replace p1 := eq_true p1
   replace q1 := eq_true q1
   have HLN := Aside0.mk (show (now r (la.take i)).length ≤ 65536 from by have h1 := now_len r (la.take i); have h2 := HLA.out; have h3 := HIL.out; rw [List.length_take] at h1; omega)
   go_upto_region 5 with ((with_reducible refine gate_dst (N := 7) rfl ?_); refine box_event ?hg (N := 7) ?hd (cs := #[.int .i64 0, .int .i64 0, .int .i64 0, .bool false, .slice none 0 0]) (t := 72) ?hr ?_; (case hd => rfl); (case hg => rfl); (case hr => first | (go_simp; done) | (go_simp; rfl)); intro g7 hg7 w9 hbox hb9; have B7 := Aside0.mk hbox; have GE7 := Aside0.mk (show w.heap.size ≤ g7 from by rw [hg7]; exact HB.out.size); have N27 := Aside0.mk (show g2 ≠ g7 from by rw [hg7]; exact Nat.ne_of_lt (blk_lt B2.out)); have N47 := Aside0.mk (show g4 ≠ g7 from by rw [hg7]; exact Nat.ne_of_lt (blk_lt B4.out)); have HN := Aside0.mk (Kd.N_below (Kd.N_elderB HN.out g7 (Nat.le_of_eq hg7.symm)) hb9); have B2 := Aside0.mk (blk_below B2.out hb9); have B4 := Aside0.mk (blk_below B4.out hb9); have HB := Aside0.mk (HB.out.trans (hb9.mono HB.out.size)); clear hg7 hbox hb9; have hz0 : w9.cell? ⟨g7, 0, none⟩ = some (.int .i64 0) := (blk_cell B7.out 0).trans rfl; have hz1 : w9.cell? ⟨g7, 1, none⟩ = some (.int .i64 0) := (blk_cell B7.out 1).trans rfl; have hz2 : w9.cell? ⟨g7, 2, none⟩ = some (.int .i64 0) := (blk_cell B7.out 2).trans rfl; have hz3 : w9.cell? ⟨g7, 3, none⟩ = some (.bool false) := (blk_cell B7.out 3).trans rfl; have hz4 : w9.cell? ⟨g7, 4, none⟩ = some (.slice none 0 0) := (blk_cell B7.out 4).trans rfl; have hf0 := blk_frozen B7.out 0; have hf1 := blk_frozen B7.out 1; have hf2 := blk_frozen B7.out 2; have hf3 := blk_frozen B7.out 3; have hf4 := blk_frozen B7.out 4)
   rw [show (((((w9.setCell ⟨g7, 0, none⟩ (.int .i64 (rd_T72 la (i : Int)).f0)).setCell ⟨g7, 1, none⟩ (.int .i64 (rd_T72 la (i : Int)).f1)).setCell ⟨g7, 2, none⟩ (.int .i64 (rd_T72 la (i : Int)).f2)).setCell ⟨g7, 3, none⟩ (.bool (rd_T72 la (i : Int)).f3)).setCell ⟨g7, 4, none⟩ (.slice Ai (rd_T72 la (i : Int)).f4.length ci)) = put5 w9 g7 (.int .i64 (rd_T72 la (i : Int)).f0) (.int .i64 (rd_T72 la (i : Int)).f1) (.int .i64 (rd_T72 la (i : Int)).f2) (.bool (rd_T72 la (i : Int)).f3) (.slice Ai (rd_T72 la (i : Int)).f4.length ci) from rfl]
   have hK := kept5 w9 g7 (.int .i64 (rd_T72 la (i : Int)).f0) (.int .i64 (rd_T72 la (i : Int)).f1) (.int .i64 (rd_T72 la (i : Int)).f2) (.bool (rd_T72 la (i : Int)).f3) (.slice Ai (rd_T72 la (i : Int)).f4.length ci)
   have HB := Aside0.mk (below5 HB.out GE7.out (.int .i64 (rd_T72 la (i : Int)).f0) (.int .i64 (rd_T72 la (i : Int)).f1) (.int .i64 (rd_T72 la (i : Int)).f2) (.bool (rd_T72 la (i : Int)).f3) (.slice Ai (rd_T72 la (i : Int)).f4.length ci))
   have B7 := Aside0.mk (blk5 B7.out (.int .i64 (rd_T72 la (i : Int)).f0) (.int .i64 (rd_T72 la (i : Int)).f1) (.int .i64 (rd_T72 la (i : Int)).f2) (.bool (rd_T72 la (i : Int)).f3) (.slice Ai (rd_T72 la (i : Int)).f4.length ci))
   have B2 := Aside0.mk (blk_kept B2.out hK N27.out)
   have B4 := Aside0.mk (blk_kept B4.out hK N47.out)
   have HN := Aside0.mk (show Kd.N k72 72 _ w.heap.size (fun k => k ≠ g2 ∧ k ≠ g4) _ _ from Kd.N_mono (Kd.N_kept HN.out hK (fun k hk e => hk.2 e)) (fun _ hk => hk.1))
   clear hK hx0 hx1 hx2 hx3 hx4 hz0 hz1 hz2 hz3 hz4 hf0 hf1 hf2 hf3 hf4
   generalize hw10 : put5 w9 g7 (.int .i64 (rd_T72 la (i : Int)).f0) (.int .i64 (rd_T72 la (i : Int)).f1) (.int .i64 (rd_T72 la (i : Int)).f2) (.bool (rd_T72 la (i : Int)).f3) (.slice Ai (rd_T72 la (i : Int)).f4.length ci) = w10 at HB B7 B4 B2 HN ⊢
   clear hw10
   have HDI := Aside0.mk (Kd.F_below HDI.out HB.out)
   have hu0 : w10.cell? ⟨g7, 0, none⟩ = some (.int .i64 (rd_T72 la (i : Int)).f0) := (blk_cell B7.out 0).trans rfl
   have hu1 : w10.cell? ⟨g7, 1, none⟩ = some (.int .i64 (rd_T72 la (i : Int)).f1) := (blk_cell B7.out 1).trans rfl
   have hu2 : w10.cell? ⟨g7, 2, none⟩ = some (.int .i64 (rd_T72 la (i : Int)).f2) := (blk_cell B7.out 2).trans rfl
   have hu3 : w10.cell? ⟨g7, 3, none⟩ = some (.bool (rd_T72 la (i : Int)).f3) := (blk_cell B7.out 3).trans rfl
   have hu4 : w10.cell? ⟨g7, 4, none⟩ = some (.slice Ai (rd_T72 la (i : Int)).f4.length ci) := (blk_cell B7.out 4).trans rfl
   cases h0 : ((rd_T72 la (i : Int)).f0 == r) with
   | false =>
    have HS := Aside0.mk (now_skip (R := r) HIL.out (by simpa using h0))
    go_wp2
    go_roundg k1
    case measure => exact Nat.lt_succ_self _
    case rel => exact ⟨i + 1, by simp; unfold wrap64; have := HLA.out; have := HIL.out; omega, ⟨by have := HI.out; omega⟩, ⟨by rw [HS.out]; exact HN.out⟩, B2, B4, HB⟩
   | true =>
    have HS := Aside0.mk (now_take (R := r) HIL.out (by simpa using h0))
    go_upto_region 7 with ((with_reducible refine gate_builtin (b := .append) (xs := #[.tmp 19, .tmp 21]) rfl ?_); at_builtin; refine Kd.N_append k72 w.heap.size rfl (.tmp 19) (.tmp 21) 26 72 (.agg #[.int .i64 0, .int .i64 0, .int .i64 0, .bool false, .slice none 0 0]) 56 rfl Try.underlying26 info72 rfl (by decide) (by omega) u5 (now r (la.take i)) (rd_T72 la (i : Int)) [.int .i64 (rd_T72 la (i : Int)).f0, .int .i64 (rd_T72 la (i : Int)).f1, .int .i64 (rd_T72 la (i : Int)).f2, .bool (rd_T72 la (i : Int)).f3, .slice Ai (rd_T72 la (i : Int)).f4.length ci] (fun k => k ≠ g2 ∧ k ≠ g4) (fun k => k < w.heap.size) rfl rfl (k72_mkF _ _ (rd_T72 la (i : Int)) HLI.out HDI.out) (fun k hk => ⟨⟨fun e => by have := GE2.out; omega, fun e => by have := GE4.out; omega⟩, fun e => by have := Kd.N_base HN.out k e.symm; omega⟩) (fun k hk => ⟨fun e => by have := blk_lt B2.out; omega, fun e => by have := blk_lt B4.out; omega⟩) HN.out HB.out HB.out.size (by have := HLN.out; omega) ?_; intro v1 w11 hn hb hg hat; have B2 := Aside0.mk (blk_grown B2.out hg (Kd.N_ne HN.out B2.out (by decide))); have B4 := Aside0.mk (blk_grown B4.out hg (Kd.N_ne HN.out B4.out (by decide))); have HN := Aside0.mk hn; have HB := Aside0.mk hb; clear hn hb hg hat)
    rw [← HS.out] at HN
    go_wp2
    go_roundg k1
    case measure => exact Nat.lt_succ_self _
    case rel => exact ⟨i + 1, by simp; unfold wrap64; have := HLA.out; have := HIL.out; omega, ⟨by have := HI.out; omega⟩, HN, B2, B4, HB⟩
set_option maxHeartbeats 8000000 in
set_option maxRecDepth 100000 in
theorem fresh.calls (P N T R : Int) (Ac Aa At As : Option Addr) (nc cc na ca nt ct ns cs : Nat) (w : World) :
  Calls Try.prog 32 #[.agg #[.int .u64 P, .int .i64 N, .int .i64 T, .slice Ac nc cc, .slice Aa na ca, .slice At nt ct, .int .i64 R, .slice As ns cs]] w fun e w' => e = .returned (.agg #[.int .u64 P, .int .i64 N, .int .i64 T, .slice Ac nc cc, .slice Aa na ca, .slice At nt ct, .int .i64 R, .slice none 0 0]) ∧ Below w.heap.size w w' := by
 have hu30 := Try.underlying30
 have hu24 := Try.underlying24
 go_enter Try.func32, Try.ntmps32
 go_wp2_with (first
  | ((with_reducible refine gate_dst (N := 1) rfl ?_); refine box_event ?hg (N := 1) ?hd (cs := #[.int .u64 P, .int .i64 N, .int .i64 T, .slice Ac nc cc, .slice Aa na ca, .slice At nt ct, .int .i64 R, .slice As ns cs]) (t := 30) ?hr ?_; (case hd => rfl); (case hg => rfl); (case hr => first | (go_simp; done) | (go_simp; rfl)); intro g1 hg1 w1 hbox hb1; have B1 := Aside0.mk hbox; have HB := Aside0.mk hb1; have GE1 := Aside0.mk (show w.heap.size ≤ g1 from Nat.le_of_eq hg1.symm); clear hg1 hbox hb1)
  | ((with_reducible refine gate_dst (N := 2) rfl ?_); refine box_event ?hg (N := 2) ?hd (cs := #[.int .u64 0, .int .i64 0, .int .i64 0, .slice none 0 0, .slice none 0 0, .slice none 0 0, .int .i64 0, .slice none 0 0]) (t := 30) ?hr ?_; (case hd => rfl); (case hg => rfl); (case hr => first | (go_simp; done) | (go_simp; rfl)); intro g2 hg2 w2 hbox hb2; have B2 := Aside0.mk hbox; have hne : g1 ≠ g2 := (by rw [hg2]; exact Nat.ne_of_lt (blk_lt B1.out)); have hne2 : g2 ≠ g1 := Ne.symm hne; have GE2 := Aside0.mk (show w.heap.size ≤ g2 from by rw [hg2]; exact HB.out.size); have B1 := Aside0.mk (blk_below B1.out hb2); have HB := Aside0.mk (HB.out.trans (hb2.mono HB.out.size)); clear hg2 hbox hb2; have hx0 : w2.cell? ⟨g1, 0, none⟩ = some (.int .u64 P) := (blk_cell B1.out 0).trans rfl; have hx1 : w2.cell? ⟨g1, 1, none⟩ = some (.int .i64 N) := (blk_cell B1.out 1).trans rfl; have hx2 : w2.cell? ⟨g1, 2, none⟩ = some (.int .i64 T) := (blk_cell B1.out 2).trans rfl; have hx3 : w2.cell? ⟨g1, 3, none⟩ = some (.slice Ac nc cc) := (blk_cell B1.out 3).trans rfl; have hx4 : w2.cell? ⟨g1, 4, none⟩ = some (.slice Aa na ca) := (blk_cell B1.out 4).trans rfl; have hx5 : w2.cell? ⟨g1, 5, none⟩ = some (.slice At nt ct) := (blk_cell B1.out 5).trans rfl; have hx6 : w2.cell? ⟨g1, 6, none⟩ = some (.int .i64 R) := (blk_cell B1.out 6).trans rfl; have hx7 : w2.cell? ⟨g1, 7, none⟩ = some (.slice As ns cs) := (blk_cell B1.out 7).trans rfl; have hf0 := blk_frozen B1.out 0; have hf1 := blk_frozen B1.out 1; have hf2 := blk_frozen B1.out 2; have hf3 := blk_frozen B1.out 3; have hf4 := blk_frozen B1.out 4; have hf5 := blk_frozen B1.out 5; have hf6 := blk_frozen B1.out 6; have hf7 := blk_frozen B1.out 7; have hz0 : w2.cell? ⟨g2, 0, none⟩ = some (.int .u64 0) := (blk_cell B2.out 0).trans rfl; have hz1 : w2.cell? ⟨g2, 1, none⟩ = some (.int .i64 0) := (blk_cell B2.out 1).trans rfl; have hz2 : w2.cell? ⟨g2, 2, none⟩ = some (.int .i64 0) := (blk_cell B2.out 2).trans rfl; have hz3 : w2.cell? ⟨g2, 3, none⟩ = some (.slice none 0 0) := (blk_cell B2.out 3).trans rfl; have hz4 : w2.cell? ⟨g2, 4, none⟩ = some (.slice none 0 0) := (blk_cell B2.out 4).trans rfl; have hz5 : w2.cell? ⟨g2, 5, none⟩ = some (.slice none 0 0) := (blk_cell B2.out 5).trans rfl; have hz6 : w2.cell? ⟨g2, 6, none⟩ = some (.int .i64 0) := (blk_cell B2.out 6).trans rfl; have hz7 : w2.cell? ⟨g2, 7, none⟩ = some (.slice none 0 0) := (blk_cell B2.out 7).trans rfl; have hk0 := blk_frozen B2.out 0; have hk1 := blk_frozen B2.out 1; have hk2 := blk_frozen B2.out 2; have hk3 := blk_frozen B2.out 3; have hk4 := blk_frozen B2.out 4; have hk5 := blk_frozen B2.out 5; have hk6 := blk_frozen B2.out 6; have hk7 := blk_frozen B2.out 7))
 rw [show (((((((((w2.setCell ⟨g1, 7, none⟩ (.slice none 0 0)).setCell ⟨g2, 0, none⟩ (.int .u64 P)).setCell ⟨g2, 1, none⟩ (.int .i64 N)).setCell ⟨g2, 2, none⟩ (.int .i64 T)).setCell ⟨g2, 3, none⟩ (.slice Ac nc cc)).setCell ⟨g2, 4, none⟩ (.slice Aa na ca)).setCell ⟨g2, 5, none⟩ (.slice At nt ct)).setCell ⟨g2, 6, none⟩ (.int .i64 R)).setCell ⟨g2, 7, none⟩ (.slice none 0 0)) = put8 (w2.setCell ⟨g1, 7, none⟩ (.slice none 0 0)) g2 (.int .u64 P) (.int .i64 N) (.int .i64 T) (.slice Ac nc cc) (.slice Aa na ca) (.slice At nt ct) (.int .i64 R) (.slice none 0 0) from rfl]
 refine bodyPost_ret (results_cell_row rfl _ _ g2 30 #[.int .u64 P, .int .i64 N, .int .i64 T, .slice Ac nc cc, .slice Aa na ca, .slice At nt ct, .int .i64 R, .slice none 0 0] (0, 0) _ rfl (blk8 (blk_far (p := ⟨g1, 7, none⟩) B2.out hne2 _) (.int .u64 P) (.int .i64 N) (.int .i64 T) (.slice Ac nc cc) (.slice Aa na ca) (.slice At nt ct) (.int .i64 R) (.slice none 0 0)) Try.underlying30 rfl (by kernel_rfl)) rfl ?_
 exact ⟨rfl, below8 (below_set HB.out GE1.out) GE2.out (.int .u64 P) (.int .i64 N) (.int .i64 T) (.slice Ac nc cc) (.slice Aa na ca) (.slice At nt ct) (.int .i64 R) (.slice none 0 0)⟩
end
end Go.Proofs.Ytkaikgbcnmfppaa.Nb
