/- net.Exchange walked. Made by mk_exch.py. -/
import Derived.Test.YtkaikgbcnmfppaaNbFSlicesCloneIntInt
import Derived.Test.YtkaikgbcnmfppaaNbNetClone
import Derived.Test.YtkaikgbcnmfppaaNbFNetCheck
namespace Go.Proofs.Ytkaikgbcnmfppaa.Nb
open Go Go.RowKit Go.Proofs.YtkaikgbcnmfppaaW.PrintWords Go.Proofs.YtkaikgbcnmfppaaW.PrintLast Go.Proofs.YtkaikgbcnmfppaaW.PrintMore
attribute [local go_sem] max2_int min2_int max_two min_two max_three min_three max_four min_four
set_option linter.unusedVariables false
set_option linter.unusedSimpArgs false
noncomputable section
def wcheck (k : Nat) (x : S30) : Option Int := net_Check.f k x.f0.f0 x.f0.f1 x.f0.f2 x.f1 x.f2 x.f3 x.f4 x.f5
/-- What Exchange hands back. -/
def ExchPost (W : World) (came : List (List (List Int))) (heard : List (List Int)) (x : S30) (er : Int) (e : Ending) (w' : World) : Prop :=
 ∃ G1 d1 G2 d2 A3 c3 A4 c4 A5 c5 A7 c7, e = .returned (.tuple #[.slice G1 came.length d1, .slice G2 heard.length d2, .agg (wv x A3 c3 A4 c4 A5 c5 A7 c7), .int .i64 er]) ∧
  Kd.F (Kd.slice 51 kD) w' (Typ w') G1 came.length came ∧ came.length ≤ d1 ∧ Kd.F kD w' (Typ w') G2 heard.length heard ∧ heard.length ≤ d2 ∧ k30.K w' x (wv x A3 c3 A4 c4 A5 c5 A7 c7).toList ∧ Below W.heap.size W w'
theorem exch_zero (w : World) (A3 A4 A5 A7 : Option Addr) (c3 c4 c5 c7 : Nat) : k30.K w z30 [.int .u64 0, .int .i64 0, .int .i64 0, .slice none 0 0, .slice none 0 0, .slice none 0 0, .int .i64 0, .slice none 0 0] :=
 k30_mk w z30 (Nat.le_refl _) (Kd.C_nil _ _) (Nat.le_refl _) (Kd.C_nil _ _) (Nat.le_refl _) (Kd.C_nil _ _) (Nat.le_refl _) (Kd.C_nil _ _)
set_option maxHeartbeats 8000000 in
set_option maxRecDepth 100000 in
theorem exch_bad (k : Nat) (x : S30) (A3 : Option Addr) (c3 : Nat) (A4 : Option Addr) (c4 : Nat) (A5 : Option Addr) (c5 : Nat) (A7 : Option Addr) (c7 : Nat) (A1 : Option Addr) (c1 : Nat) (l1 : List (List (List Int))) (A2 : Option Addr) (c2 : Nat) (l2 : List (List Int)) (w : World)
  (hx : k30.K w x (wv x A3 c3 A4 c4 A5 c5 A7 c7).toList) (r : Int) (hc : wcheck k x = some r) (hr : r ≠ 0) :
  Calls Try.prog 20 #[.agg (wv x A3 c3 A4 c4 A5 c5 A7 c7), .slice A1 l1.length c1, .slice A2 l2.length c2] w (ExchPost w [] [] z30 r) := by
 have hu30 := Try.underlying30
 have hu24 := Try.underlying24
 obtain ⟨_, _, _, _, _, _, _, _, heq, h3l, h3, h4l, h4, h5l, h5, h7l, h7⟩ := k30_open hx
 simp only [List.cons.injEq, Value.slice.injEq] at heq
 obtain ⟨-, -, -, ⟨rfl, -, rfl⟩, ⟨rfl, -, rfl⟩, ⟨rfl, -, rfl⟩, -, ⟨rfl, -, rfl⟩, -⟩ := heq
 have H3 := Qz.mk h3
 have H4 := Qz.mk h4
 have H5 := Qz.mk h5
 have H7 := Qz.mk h7
 have H3L := Qz.mk h3l
 have H4L := Qz.mk h4l
 have H5L := Qz.mk h5l
 have H7L := Qz.mk h7l
 clear hx h3 h4 h5 h7 h3l h4l h5l h7l
 have HC := Qz.mk hc
 have hr1 : (r != 0) = true := by simp [hr]
 have hr2 : (r == 0) = false := by simp [hr]
 clear hc hr
 go_enter Try.func20, Try.ntmps20
 go_wp2_with (first
  | ((with_reducible refine gdt (N := 3) rfl ?_); refine bxe ?hg (N := 3) ?hd (cs := wv x A3 c3 A4 c4 A5 c5 A7 c7) (t := 30) ?hr ?_; (case hd => rfl); (case hg => rfl); (case hr => first | (go_simp; done) | (go_simp; rfl)); intro g3 hg3 w3 hbox hb3; have BK3 := Qz.mk hbox; have HB3 := Qz.mk hb3; have GE3 := Qz.mk (show w.heap.size ≤ g3 from Nat.le_of_eq hg3.symm); clear hg3 hbox hb3)
  | ((with_reducible refine gdt (N := 8) rfl ?_); refine bxe ?hg (N := 8) ?hd (cs := #[.int .u64 0, .int .i64 0, .int .i64 0, .slice none 0 0, .slice none 0 0, .slice none 0 0, .int .i64 0, .slice none 0 0]) (t := 30) ?hr ?_; (case hd => rfl); (case hg => rfl); (case hr => first | (go_simp; done) | (go_simp; rfl)); intro g8 hg8 w8 hbox hb8; have BK8 := Qz.mk hbox; have GE8 := Qz.mk (show w.heap.size ≤ g8 from by rw [hg8]; exact HB3.out.size); have NE8 := Qz.mk (show g3 ≠ g8 from by rw [hg8]; exact Nat.ne_of_lt (blt BK3.out)); have BK3 := Qz.mk (bkb BK3.out hb8); have HB8 := Qz.mk (HB3.out.trans (hb8.mono HB3.out.size)); clear HB3; clear hg8 hbox hb8; have hx0 : w8.cell? ⟨g3, 0, none⟩ = some (.int .u64 x.f0.f0) := (bc_ BK3.out 0).trans rfl; have hx1 : w8.cell? ⟨g3, 1, none⟩ = some (.int .i64 x.f0.f1) := (bc_ BK3.out 1).trans rfl; have hx2 : w8.cell? ⟨g3, 2, none⟩ = some (.int .i64 x.f0.f2) := (bc_ BK3.out 2).trans rfl; have hx3 : w8.cell? ⟨g3, 3, none⟩ = some (.slice A3 x.f1.length c3) := (bc_ BK3.out 3).trans rfl; have hx4 : w8.cell? ⟨g3, 4, none⟩ = some (.slice A4 x.f2.length c4) := (bc_ BK3.out 4).trans rfl; have hx5 : w8.cell? ⟨g3, 5, none⟩ = some (.slice A5 x.f3.length c5) := (bc_ BK3.out 5).trans rfl; have hx6 : w8.cell? ⟨g3, 6, none⟩ = some (.int .i64 x.f4) := (bc_ BK3.out 6).trans rfl; have hx7 : w8.cell? ⟨g3, 7, none⟩ = some (.slice A7 x.f5.length c7) := (bc_ BK3.out 7).trans rfl)
  | (go_at_call 11; refine (net_Check.calls k x.f0.f0 x.f0.f1 x.f0.f2 A3 c3 x.f1 A4 c4 x.f2 A5 c5 x.f3 x.f4 A7 c7 x.f5 r w8 (Kd.C_below H3.out HB8.out) H3L.out (Kd.C_below H4.out HB8.out) H4L.out (Kd.C_below H5.out HB8.out) H5L.out (Kd.C_below H7.out HB8.out) H7L.out HC.out).mono ?_; rintro e wc ⟨rfl, hbc⟩; have BK3 := Qz.mk (bkb BK3.out hbc); have BK8 := Qz.mk (bkb BK8.out hbc); have HBC := Qz.mk (HB8.out.trans (hbc.mono HB8.out.size)); clear HB8 hbc hx0 hx1 hx2 hx3 hx4 hx5 hx6 hx7; have hy0 : wc.cell? ⟨g3, 0, none⟩ = some (.int .u64 x.f0.f0) := (bc_ BK3.out 0).trans rfl; have hy1 : wc.cell? ⟨g3, 1, none⟩ = some (.int .i64 x.f0.f1) := (bc_ BK3.out 1).trans rfl; have hy2 : wc.cell? ⟨g3, 2, none⟩ = some (.int .i64 x.f0.f2) := (bc_ BK3.out 2).trans rfl; have hy3 : wc.cell? ⟨g3, 3, none⟩ = some (.slice A3 x.f1.length c3) := (bc_ BK3.out 3).trans rfl; have hy4 : wc.cell? ⟨g3, 4, none⟩ = some (.slice A4 x.f2.length c4) := (bc_ BK3.out 4).trans rfl; have hy5 : wc.cell? ⟨g3, 5, none⟩ = some (.slice A5 x.f3.length c5) := (bc_ BK3.out 5).trans rfl; have hy6 : wc.cell? ⟨g3, 6, none⟩ = some (.int .i64 x.f4) := (bc_ BK3.out 6).trans rfl; have hy7 : wc.cell? ⟨g3, 7, none⟩ = some (.slice A7 x.f5.length c7) := (bc_ BK3.out 7).trans rfl; have hz0 : wc.cell? ⟨g8, 0, none⟩ = some (.int .u64 0) := (bc_ BK8.out 0).trans rfl; have hz1 : wc.cell? ⟨g8, 1, none⟩ = some (.int .i64 0) := (bc_ BK8.out 1).trans rfl; have hz2 : wc.cell? ⟨g8, 2, none⟩ = some (.int .i64 0) := (bc_ BK8.out 2).trans rfl; have hz3 : wc.cell? ⟨g8, 3, none⟩ = some (.slice none 0 0) := (bc_ BK8.out 3).trans rfl; have hz4 : wc.cell? ⟨g8, 4, none⟩ = some (.slice none 0 0) := (bc_ BK8.out 4).trans rfl; have hz5 : wc.cell? ⟨g8, 5, none⟩ = some (.slice none 0 0) := (bc_ BK8.out 5).trans rfl; have hz6 : wc.cell? ⟨g8, 6, none⟩ = some (.int .i64 0) := (bc_ BK8.out 6).trans rfl; have hz7 : wc.cell? ⟨g8, 7, none⟩ = some (.slice none 0 0) := (bc_ BK8.out 7).trans rfl; have hf0 := bf_ BK8.out 0; have hf1 := bf_ BK8.out 1; have hf2 := bf_ BK8.out 2; have hf3 := bf_ BK8.out 3; have hf4 := bf_ BK8.out 4; have hf5 := bf_ BK8.out 5; have hf6 := bf_ BK8.out 6; have hf7 := bf_ BK8.out 7))
 refine bodyPost_ret (results_list (rs := [.tmp 6, .tmp 7, .cell 8 30, .tmp 9]) rfl (by simp) (.tmp (.tmp (.cell g8 30 #[.int .u64 0, .int .i64 0, .int .i64 0, .slice none 0 0, .slice none 0 0, .slice none 0 0, .int .i64 0, .slice none 0 0] (0, 0) _ rfl (by refine bkp (cs := #[.int .u64 0, .int .i64 0, .int .i64 0, .slice none 0 0, .slice none 0 0, .slice none 0 0, .int .i64 0, .slice none 0 0]) ?_ 7 _ rfl; refine bkp (cs := #[.int .u64 0, .int .i64 0, .int .i64 0, .slice none 0 0, .slice none 0 0, .slice none 0 0, .int .i64 0, .slice none 0 0]) ?_ 6 _ rfl; refine bkp (cs := #[.int .u64 0, .int .i64 0, .int .i64 0, .slice none 0 0, .slice none 0 0, .slice none 0 0, .int .i64 0, .slice none 0 0]) ?_ 5 _ rfl; refine bkp (cs := #[.int .u64 0, .int .i64 0, .int .i64 0, .slice none 0 0, .slice none 0 0, .slice none 0 0, .int .i64 0, .slice none 0 0]) ?_ 4 _ rfl; refine bkp (cs := #[.int .u64 0, .int .i64 0, .int .i64 0, .slice none 0 0, .slice none 0 0, .slice none 0 0, .int .i64 0, .slice none 0 0]) ?_ 3 _ rfl; refine bkp (cs := #[.int .u64 0, .int .i64 0, .int .i64 0, .slice none 0 0, .slice none 0 0, .slice none 0 0, .int .i64 0, .slice none 0 0]) ?_ 2 _ rfl; refine bkp (cs := #[.int .u64 0, .int .i64 0, .int .i64 0, .slice none 0 0, .slice none 0 0, .slice none 0 0, .int .i64 0, .slice none 0 0]) ?_ 1 _ rfl; refine bkp (cs := #[.int .u64 0, .int .i64 0, .int .i64 0, .slice none 0 0, .slice none 0 0, .slice none 0 0, .int .i64 0, .slice none 0 0]) ?_ 0 _ rfl; exact BK8.out) Try.underlying30 rfl (by kernel_rfl) (.tmp .nil))))) (by rfl) ?_
 refine ⟨none, 0, none, 0, none, 0, none, 0, none, 0, none, 0, rfl, Kd.F_nil _ _ _, Nat.le_refl _, Kd.F_nil _ _ _, Nat.le_refl _, exch_zero _ none none none none 0 0 0 0, ?_⟩
 (repeat (with_reducible first | exact HBC.out | refine bset ?_ GE8.out))
set_option maxHeartbeats 8000000 in
set_option maxRecDepth 100000 in
theorem exch_len1 (k : Nat) (x : S30) (A3 : Option Addr) (c3 : Nat) (A4 : Option Addr) (c4 : Nat) (A5 : Option Addr) (c5 : Nat) (A7 : Option Addr) (c7 : Nat) (A1 : Option Addr) (c1 : Nat) (l1 : List (List (List Int))) (A2 : Option Addr) (c2 : Nat) (l2 : List (List Int)) (w : World)
  (hx : k30.K w x (wv x A3 c3 A4 c4 A5 c5 A7 c7).toList) (hc : wcheck k x = some 0) (hn : (l1.length : Int) ≠ x.f0.f1) :
  Calls Try.prog 20 #[.agg (wv x A3 c3 A4 c4 A5 c5 A7 c7), .slice A1 l1.length c1, .slice A2 l2.length c2] w (ExchPost w [] [] z30 2) := by
 have hu30 := Try.underlying30
 have hu24 := Try.underlying24
 obtain ⟨_, _, _, _, _, _, _, _, heq, h3l, h3, h4l, h4, h5l, h5, h7l, h7⟩ := k30_open hx
 simp only [List.cons.injEq, Value.slice.injEq] at heq
 obtain ⟨-, -, -, ⟨rfl, -, rfl⟩, ⟨rfl, -, rfl⟩, ⟨rfl, -, rfl⟩, -, ⟨rfl, -, rfl⟩, -⟩ := heq
 have H3 := Qz.mk h3
 have H4 := Qz.mk h4
 have H5 := Qz.mk h5
 have H7 := Qz.mk h7
 have H3L := Qz.mk h3l
 have H4L := Qz.mk h4l
 have H5L := Qz.mk h5l
 have H7L := Qz.mk h7l
 clear hx h3 h4 h5 h7 h3l h4l h5l h7l
 have HC := Qz.mk hc
 have hn1 : ((l1.length : Int) != x.f0.f1) = true := by simpa using hn
 have hn2 : ((l1.length : Int) == x.f0.f1) = false := by simpa using hn
 have hmf : ∀ (fn : Fn) (first cap : Array Value) (w : World), (Instr.makeFunc fn first cap).run Try.prog w = .ok (.func fn first cap) w := fun _ _ _ _ => rfl
 clear hc hn
 go_enter Try.func20, Try.ntmps20
 go_wp2_with (first
  | ((with_reducible refine gdt (N := 3) rfl ?_); refine bxe ?hg (N := 3) ?hd (cs := wv x A3 c3 A4 c4 A5 c5 A7 c7) (t := 30) ?hr ?_; (case hd => rfl); (case hg => rfl); (case hr => first | (go_simp; done) | (go_simp; rfl)); intro g3 hg3 w3 hbox hb3; have BK3 := Qz.mk hbox; have HB3 := Qz.mk hb3; have GE3 := Qz.mk (show w.heap.size ≤ g3 from Nat.le_of_eq hg3.symm); clear hg3 hbox hb3)
  | ((with_reducible refine gdt (N := 8) rfl ?_); refine bxe ?hg (N := 8) ?hd (cs := #[.int .u64 0, .int .i64 0, .int .i64 0, .slice none 0 0, .slice none 0 0, .slice none 0 0, .int .i64 0, .slice none 0 0]) (t := 30) ?hr ?_; (case hd => rfl); (case hg => rfl); (case hr => first | (go_simp; done) | (go_simp; rfl)); intro g8 hg8 w8 hbox hb8; have BK8 := Qz.mk hbox; have GE8 := Qz.mk (show w.heap.size ≤ g8 from by rw [hg8]; exact HB3.out.size); have NE8 := Qz.mk (show g3 ≠ g8 from by rw [hg8]; exact Nat.ne_of_lt (blt BK3.out)); have BK3 := Qz.mk (bkb BK3.out hb8); have HB8 := Qz.mk (HB3.out.trans (hb8.mono HB3.out.size)); clear HB3; clear hg8 hbox hb8; have hx0 : w8.cell? ⟨g3, 0, none⟩ = some (.int .u64 x.f0.f0) := (bc_ BK3.out 0).trans rfl; have hx1 : w8.cell? ⟨g3, 1, none⟩ = some (.int .i64 x.f0.f1) := (bc_ BK3.out 1).trans rfl; have hx2 : w8.cell? ⟨g3, 2, none⟩ = some (.int .i64 x.f0.f2) := (bc_ BK3.out 2).trans rfl; have hx3 : w8.cell? ⟨g3, 3, none⟩ = some (.slice A3 x.f1.length c3) := (bc_ BK3.out 3).trans rfl; have hx4 : w8.cell? ⟨g3, 4, none⟩ = some (.slice A4 x.f2.length c4) := (bc_ BK3.out 4).trans rfl; have hx5 : w8.cell? ⟨g3, 5, none⟩ = some (.slice A5 x.f3.length c5) := (bc_ BK3.out 5).trans rfl; have hx6 : w8.cell? ⟨g3, 6, none⟩ = some (.int .i64 x.f4) := (bc_ BK3.out 6).trans rfl; have hx7 : w8.cell? ⟨g3, 7, none⟩ = some (.slice A7 x.f5.length c7) := (bc_ BK3.out 7).trans rfl)
  | (go_at_call 11; refine (net_Check.calls k x.f0.f0 x.f0.f1 x.f0.f2 A3 c3 x.f1 A4 c4 x.f2 A5 c5 x.f3 x.f4 A7 c7 x.f5 0 w8 (Kd.C_below H3.out HB8.out) H3L.out (Kd.C_below H4.out HB8.out) H4L.out (Kd.C_below H5.out HB8.out) H5L.out (Kd.C_below H7.out HB8.out) H7L.out HC.out).mono ?_; rintro e wc ⟨rfl, hbc⟩; have BK3 := Qz.mk (bkb BK3.out hbc); have BK8 := Qz.mk (bkb BK8.out hbc); have HBC := Qz.mk (HB8.out.trans (hbc.mono HB8.out.size)); clear HB8 hbc hx0 hx1 hx2 hx3 hx4 hx5 hx6 hx7; have hy0 : wc.cell? ⟨g3, 0, none⟩ = some (.int .u64 x.f0.f0) := (bc_ BK3.out 0).trans rfl; have hy1 : wc.cell? ⟨g3, 1, none⟩ = some (.int .i64 x.f0.f1) := (bc_ BK3.out 1).trans rfl; have hy2 : wc.cell? ⟨g3, 2, none⟩ = some (.int .i64 x.f0.f2) := (bc_ BK3.out 2).trans rfl; have hy3 : wc.cell? ⟨g3, 3, none⟩ = some (.slice A3 x.f1.length c3) := (bc_ BK3.out 3).trans rfl; have hy4 : wc.cell? ⟨g3, 4, none⟩ = some (.slice A4 x.f2.length c4) := (bc_ BK3.out 4).trans rfl; have hy5 : wc.cell? ⟨g3, 5, none⟩ = some (.slice A5 x.f3.length c5) := (bc_ BK3.out 5).trans rfl; have hy6 : wc.cell? ⟨g3, 6, none⟩ = some (.int .i64 x.f4) := (bc_ BK3.out 6).trans rfl; have hy7 : wc.cell? ⟨g3, 7, none⟩ = some (.slice A7 x.f5.length c7) := (bc_ BK3.out 7).trans rfl; have hz0 : wc.cell? ⟨g8, 0, none⟩ = some (.int .u64 0) := (bc_ BK8.out 0).trans rfl; have hz1 : wc.cell? ⟨g8, 1, none⟩ = some (.int .i64 0) := (bc_ BK8.out 1).trans rfl; have hz2 : wc.cell? ⟨g8, 2, none⟩ = some (.int .i64 0) := (bc_ BK8.out 2).trans rfl; have hz3 : wc.cell? ⟨g8, 3, none⟩ = some (.slice none 0 0) := (bc_ BK8.out 3).trans rfl; have hz4 : wc.cell? ⟨g8, 4, none⟩ = some (.slice none 0 0) := (bc_ BK8.out 4).trans rfl; have hz5 : wc.cell? ⟨g8, 5, none⟩ = some (.slice none 0 0) := (bc_ BK8.out 5).trans rfl; have hz6 : wc.cell? ⟨g8, 6, none⟩ = some (.int .i64 0) := (bc_ BK8.out 6).trans rfl; have hz7 : wc.cell? ⟨g8, 7, none⟩ = some (.slice none 0 0) := (bc_ BK8.out 7).trans rfl; have hf0 := bf_ BK8.out 0; have hf1 := bf_ BK8.out 1; have hf2 := bf_ BK8.out 2; have hf3 := bf_ BK8.out 3; have hf4 := bf_ BK8.out 4; have hf5 := bf_ BK8.out 5; have hf6 := bf_ BK8.out 6; have hf7 := bf_ BK8.out 7))
 refine bodyPost_ret (results_list (rs := [.tmp 6, .tmp 7, .cell 8 30, .tmp 9]) rfl (by simp) (.tmp (.tmp (.cell g8 30 #[.int .u64 0, .int .i64 0, .int .i64 0, .slice none 0 0, .slice none 0 0, .slice none 0 0, .int .i64 0, .slice none 0 0] (0, 0) _ rfl (by refine bkp (cs := #[.int .u64 0, .int .i64 0, .int .i64 0, .slice none 0 0, .slice none 0 0, .slice none 0 0, .int .i64 0, .slice none 0 0]) ?_ 7 _ rfl; refine bkp (cs := #[.int .u64 0, .int .i64 0, .int .i64 0, .slice none 0 0, .slice none 0 0, .slice none 0 0, .int .i64 0, .slice none 0 0]) ?_ 6 _ rfl; refine bkp (cs := #[.int .u64 0, .int .i64 0, .int .i64 0, .slice none 0 0, .slice none 0 0, .slice none 0 0, .int .i64 0, .slice none 0 0]) ?_ 5 _ rfl; refine bkp (cs := #[.int .u64 0, .int .i64 0, .int .i64 0, .slice none 0 0, .slice none 0 0, .slice none 0 0, .int .i64 0, .slice none 0 0]) ?_ 4 _ rfl; refine bkp (cs := #[.int .u64 0, .int .i64 0, .int .i64 0, .slice none 0 0, .slice none 0 0, .slice none 0 0, .int .i64 0, .slice none 0 0]) ?_ 3 _ rfl; refine bkp (cs := #[.int .u64 0, .int .i64 0, .int .i64 0, .slice none 0 0, .slice none 0 0, .slice none 0 0, .int .i64 0, .slice none 0 0]) ?_ 2 _ rfl; refine bkp (cs := #[.int .u64 0, .int .i64 0, .int .i64 0, .slice none 0 0, .slice none 0 0, .slice none 0 0, .int .i64 0, .slice none 0 0]) ?_ 1 _ rfl; refine bkp (cs := #[.int .u64 0, .int .i64 0, .int .i64 0, .slice none 0 0, .slice none 0 0, .slice none 0 0, .int .i64 0, .slice none 0 0]) ?_ 0 _ rfl; exact BK8.out) Try.underlying30 rfl (by kernel_rfl) (.tmp .nil))))) (by rfl) ?_
 refine ⟨none, 0, none, 0, none, 0, none, 0, none, 0, none, 0, rfl, Kd.F_nil _ _ _, Nat.le_refl _, Kd.F_nil _ _ _, Nat.le_refl _, exch_zero _ none none none none 0 0 0 0, ?_⟩
 (repeat (with_reducible first | exact HBC.out | refine bset ?_ GE8.out))
set_option maxHeartbeats 8000000 in
set_option maxRecDepth 100000 in
theorem exch_len2 (k : Nat) (x : S30) (A3 : Option Addr) (c3 : Nat) (A4 : Option Addr) (c4 : Nat) (A5 : Option Addr) (c5 : Nat) (A7 : Option Addr) (c7 : Nat) (A1 : Option Addr) (c1 : Nat) (l1 : List (List (List Int))) (A2 : Option Addr) (c2 : Nat) (l2 : List (List Int)) (w : World)
  (hx : k30.K w x (wv x A3 c3 A4 c4 A5 c5 A7 c7).toList) (hc : wcheck k x = some 0) (hn : (l1.length : Int) = x.f0.f1) (ho : (l2.length : Int) ≠ x.f0.f1) :
  Calls Try.prog 20 #[.agg (wv x A3 c3 A4 c4 A5 c5 A7 c7), .slice A1 l1.length c1, .slice A2 l2.length c2] w (ExchPost w [] [] z30 2) := by
 have hu30 := Try.underlying30
 have hu24 := Try.underlying24
 obtain ⟨_, _, _, _, _, _, _, _, heq, h3l, h3, h4l, h4, h5l, h5, h7l, h7⟩ := k30_open hx
 simp only [List.cons.injEq, Value.slice.injEq] at heq
 obtain ⟨-, -, -, ⟨rfl, -, rfl⟩, ⟨rfl, -, rfl⟩, ⟨rfl, -, rfl⟩, -, ⟨rfl, -, rfl⟩, -⟩ := heq
 have H3 := Qz.mk h3
 have H4 := Qz.mk h4
 have H5 := Qz.mk h5
 have H7 := Qz.mk h7
 have H3L := Qz.mk h3l
 have H4L := Qz.mk h4l
 have H5L := Qz.mk h5l
 have H7L := Qz.mk h7l
 clear hx h3 h4 h5 h7 h3l h4l h5l h7l
 have HC := Qz.mk hc
 have hn1 : ((l1.length : Int) != x.f0.f1) = false := by simpa using hn
 have hn2 : ((l1.length : Int) == x.f0.f1) = true := by simpa using hn
 have ho1 : ((l2.length : Int) != x.f0.f1) = true := by simpa using ho
 have ho2 : ((l2.length : Int) == x.f0.f1) = false := by simpa using ho
 have hmf : ∀ (fn : Fn) (first cap : Array Value) (w : World), (Instr.makeFunc fn first cap).run Try.prog w = .ok (.func fn first cap) w := fun _ _ _ _ => rfl
 clear hc hn ho
 go_enter Try.func20, Try.ntmps20
 go_wp2_with (first
  | ((with_reducible refine gdt (N := 3) rfl ?_); refine bxe ?hg (N := 3) ?hd (cs := wv x A3 c3 A4 c4 A5 c5 A7 c7) (t := 30) ?hr ?_; (case hd => rfl); (case hg => rfl); (case hr => first | (go_simp; done) | (go_simp; rfl)); intro g3 hg3 w3 hbox hb3; have BK3 := Qz.mk hbox; have HB3 := Qz.mk hb3; have GE3 := Qz.mk (show w.heap.size ≤ g3 from Nat.le_of_eq hg3.symm); clear hg3 hbox hb3)
  | ((with_reducible refine gdt (N := 8) rfl ?_); refine bxe ?hg (N := 8) ?hd (cs := #[.int .u64 0, .int .i64 0, .int .i64 0, .slice none 0 0, .slice none 0 0, .slice none 0 0, .int .i64 0, .slice none 0 0]) (t := 30) ?hr ?_; (case hd => rfl); (case hg => rfl); (case hr => first | (go_simp; done) | (go_simp; rfl)); intro g8 hg8 w8 hbox hb8; have BK8 := Qz.mk hbox; have GE8 := Qz.mk (show w.heap.size ≤ g8 from by rw [hg8]; exact HB3.out.size); have NE8 := Qz.mk (show g3 ≠ g8 from by rw [hg8]; exact Nat.ne_of_lt (blt BK3.out)); have BK3 := Qz.mk (bkb BK3.out hb8); have HB8 := Qz.mk (HB3.out.trans (hb8.mono HB3.out.size)); clear HB3; clear hg8 hbox hb8; have hx0 : w8.cell? ⟨g3, 0, none⟩ = some (.int .u64 x.f0.f0) := (bc_ BK3.out 0).trans rfl; have hx1 : w8.cell? ⟨g3, 1, none⟩ = some (.int .i64 x.f0.f1) := (bc_ BK3.out 1).trans rfl; have hx2 : w8.cell? ⟨g3, 2, none⟩ = some (.int .i64 x.f0.f2) := (bc_ BK3.out 2).trans rfl; have hx3 : w8.cell? ⟨g3, 3, none⟩ = some (.slice A3 x.f1.length c3) := (bc_ BK3.out 3).trans rfl; have hx4 : w8.cell? ⟨g3, 4, none⟩ = some (.slice A4 x.f2.length c4) := (bc_ BK3.out 4).trans rfl; have hx5 : w8.cell? ⟨g3, 5, none⟩ = some (.slice A5 x.f3.length c5) := (bc_ BK3.out 5).trans rfl; have hx6 : w8.cell? ⟨g3, 6, none⟩ = some (.int .i64 x.f4) := (bc_ BK3.out 6).trans rfl; have hx7 : w8.cell? ⟨g3, 7, none⟩ = some (.slice A7 x.f5.length c7) := (bc_ BK3.out 7).trans rfl)
  | (go_at_call 11; refine (net_Check.calls k x.f0.f0 x.f0.f1 x.f0.f2 A3 c3 x.f1 A4 c4 x.f2 A5 c5 x.f3 x.f4 A7 c7 x.f5 0 w8 (Kd.C_below H3.out HB8.out) H3L.out (Kd.C_below H4.out HB8.out) H4L.out (Kd.C_below H5.out HB8.out) H5L.out (Kd.C_below H7.out HB8.out) H7L.out HC.out).mono ?_; rintro e wc ⟨rfl, hbc⟩; have BK3 := Qz.mk (bkb BK3.out hbc); have BK8 := Qz.mk (bkb BK8.out hbc); have HBC := Qz.mk (HB8.out.trans (hbc.mono HB8.out.size)); clear HB8 hbc hx0 hx1 hx2 hx3 hx4 hx5 hx6 hx7; have hy0 : wc.cell? ⟨g3, 0, none⟩ = some (.int .u64 x.f0.f0) := (bc_ BK3.out 0).trans rfl; have hy1 : wc.cell? ⟨g3, 1, none⟩ = some (.int .i64 x.f0.f1) := (bc_ BK3.out 1).trans rfl; have hy2 : wc.cell? ⟨g3, 2, none⟩ = some (.int .i64 x.f0.f2) := (bc_ BK3.out 2).trans rfl; have hy3 : wc.cell? ⟨g3, 3, none⟩ = some (.slice A3 x.f1.length c3) := (bc_ BK3.out 3).trans rfl; have hy4 : wc.cell? ⟨g3, 4, none⟩ = some (.slice A4 x.f2.length c4) := (bc_ BK3.out 4).trans rfl; have hy5 : wc.cell? ⟨g3, 5, none⟩ = some (.slice A5 x.f3.length c5) := (bc_ BK3.out 5).trans rfl; have hy6 : wc.cell? ⟨g3, 6, none⟩ = some (.int .i64 x.f4) := (bc_ BK3.out 6).trans rfl; have hy7 : wc.cell? ⟨g3, 7, none⟩ = some (.slice A7 x.f5.length c7) := (bc_ BK3.out 7).trans rfl; have hz0 : wc.cell? ⟨g8, 0, none⟩ = some (.int .u64 0) := (bc_ BK8.out 0).trans rfl; have hz1 : wc.cell? ⟨g8, 1, none⟩ = some (.int .i64 0) := (bc_ BK8.out 1).trans rfl; have hz2 : wc.cell? ⟨g8, 2, none⟩ = some (.int .i64 0) := (bc_ BK8.out 2).trans rfl; have hz3 : wc.cell? ⟨g8, 3, none⟩ = some (.slice none 0 0) := (bc_ BK8.out 3).trans rfl; have hz4 : wc.cell? ⟨g8, 4, none⟩ = some (.slice none 0 0) := (bc_ BK8.out 4).trans rfl; have hz5 : wc.cell? ⟨g8, 5, none⟩ = some (.slice none 0 0) := (bc_ BK8.out 5).trans rfl; have hz6 : wc.cell? ⟨g8, 6, none⟩ = some (.int .i64 0) := (bc_ BK8.out 6).trans rfl; have hz7 : wc.cell? ⟨g8, 7, none⟩ = some (.slice none 0 0) := (bc_ BK8.out 7).trans rfl; have hf0 := bf_ BK8.out 0; have hf1 := bf_ BK8.out 1; have hf2 := bf_ BK8.out 2; have hf3 := bf_ BK8.out 3; have hf4 := bf_ BK8.out 4; have hf5 := bf_ BK8.out 5; have hf6 := bf_ BK8.out 6; have hf7 := bf_ BK8.out 7))
 refine bodyPost_ret (results_list (rs := [.tmp 6, .tmp 7, .cell 8 30, .tmp 9]) rfl (by simp) (.tmp (.tmp (.cell g8 30 #[.int .u64 0, .int .i64 0, .int .i64 0, .slice none 0 0, .slice none 0 0, .slice none 0 0, .int .i64 0, .slice none 0 0] (0, 0) _ rfl (by refine bkp (cs := #[.int .u64 0, .int .i64 0, .int .i64 0, .slice none 0 0, .slice none 0 0, .slice none 0 0, .int .i64 0, .slice none 0 0]) ?_ 7 _ rfl; refine bkp (cs := #[.int .u64 0, .int .i64 0, .int .i64 0, .slice none 0 0, .slice none 0 0, .slice none 0 0, .int .i64 0, .slice none 0 0]) ?_ 6 _ rfl; refine bkp (cs := #[.int .u64 0, .int .i64 0, .int .i64 0, .slice none 0 0, .slice none 0 0, .slice none 0 0, .int .i64 0, .slice none 0 0]) ?_ 5 _ rfl; refine bkp (cs := #[.int .u64 0, .int .i64 0, .int .i64 0, .slice none 0 0, .slice none 0 0, .slice none 0 0, .int .i64 0, .slice none 0 0]) ?_ 4 _ rfl; refine bkp (cs := #[.int .u64 0, .int .i64 0, .int .i64 0, .slice none 0 0, .slice none 0 0, .slice none 0 0, .int .i64 0, .slice none 0 0]) ?_ 3 _ rfl; refine bkp (cs := #[.int .u64 0, .int .i64 0, .int .i64 0, .slice none 0 0, .slice none 0 0, .slice none 0 0, .int .i64 0, .slice none 0 0]) ?_ 2 _ rfl; refine bkp (cs := #[.int .u64 0, .int .i64 0, .int .i64 0, .slice none 0 0, .slice none 0 0, .slice none 0 0, .int .i64 0, .slice none 0 0]) ?_ 1 _ rfl; refine bkp (cs := #[.int .u64 0, .int .i64 0, .int .i64 0, .slice none 0 0, .slice none 0 0, .slice none 0 0, .int .i64 0, .slice none 0 0]) ?_ 0 _ rfl; exact BK8.out) Try.underlying30 rfl (by kernel_rfl) (.tmp .nil))))) (by rfl) ?_
 refine ⟨none, 0, none, 0, none, 0, none, 0, none, 0, none, 0, rfl, Kd.F_nil _ _ _, Nat.le_refl _, Kd.F_nil _ _ _, Nat.le_refl _, exch_zero _ none none none none 0 0 0 0, ?_⟩
 (repeat (with_reducible first | exact HBC.out | refine bset ?_ GE8.out))
set_option maxHeartbeats 8000000 in
set_option maxRecDepth 100000 in
theorem exch_rows (k : Nat) (x : S30) (A3 : Option Addr) (c3 : Nat) (A4 : Option Addr) (c4 : Nat) (A5 : Option Addr) (c5 : Nat) (A7 : Option Addr) (c7 : Nat) (A1 : Option Addr) (c1 : Nat) (l1 : List (List (List Int))) (A2 : Option Addr) (c2 : Nat) (l2 : List (List Int)) (w : World)
  (hx : k30.K w x (wv x A3 c3 A4 c4 A5 c5 A7 c7).toList) (hc : wcheck k x = some 0) (hn : (l1.length : Int) = x.f0.f1) (ho : (l2.length : Int) = x.f0.f1) (h1 : (Kd.slice 51 kD).C w A1 l1.length l1) (hm1 : l1.length < 9223372036854775807) (hany : l1.any (badRow x.f0.f1) = true) :
  Calls Try.prog 20 #[.agg (wv x A3 c3 A4 c4 A5 c5 A7 c7), .slice A1 l1.length c1, .slice A2 l2.length c2] w (ExchPost w [] [] z30 2) := by
 have hu30 := Try.underlying30
 have hu24 := Try.underlying24
 obtain ⟨_, _, _, _, _, _, _, _, heq, h3l, h3, h4l, h4, h5l, h5, h7l, h7⟩ := k30_open hx
 simp only [List.cons.injEq, Value.slice.injEq] at heq
 obtain ⟨-, -, -, ⟨rfl, -, rfl⟩, ⟨rfl, -, rfl⟩, ⟨rfl, -, rfl⟩, -, ⟨rfl, -, rfl⟩, -⟩ := heq
 have H3 := Qz.mk h3
 have H4 := Qz.mk h4
 have H5 := Qz.mk h5
 have H7 := Qz.mk h7
 have H3L := Qz.mk h3l
 have H4L := Qz.mk h4l
 have H5L := Qz.mk h5l
 have H7L := Qz.mk h7l
 clear hx h3 h4 h5 h7 h3l h4l h5l h7l
 have HC := Qz.mk hc
 have hn1 : ((l1.length : Int) != x.f0.f1) = false := by simpa using hn
 have hn2 : ((l1.length : Int) == x.f0.f1) = true := by simpa using hn
 have ho1 : ((l2.length : Int) != x.f0.f1) = false := by simpa using ho
 have ho2 : ((l2.length : Int) == x.f0.f1) = true := by simpa using ho
 have hmf : ∀ (fn : Fn) (first cap : Array Value) (w : World), (Instr.makeFunc fn first cap).run Try.prog w = .ok (.func fn first cap) w := fun _ _ _ _ => rfl
 have H1 := Qz.mk h1
 have HM1 := Qz.mk hm1
 have HANY := Qz.mk hany
 clear h1 hm1 hany
 clear hc hn ho
 go_enter Try.func20, Try.ntmps20
 go_wp2_with (first
  | ((with_reducible refine gdt (N := 3) rfl ?_); refine bxe ?hg (N := 3) ?hd (cs := wv x A3 c3 A4 c4 A5 c5 A7 c7) (t := 30) ?hr ?_; (case hd => rfl); (case hg => rfl); (case hr => first | (go_simp; done) | (go_simp; rfl)); intro g3 hg3 w3 hbox hb3; have BK3 := Qz.mk hbox; have HB3 := Qz.mk hb3; have GE3 := Qz.mk (show w.heap.size ≤ g3 from Nat.le_of_eq hg3.symm); clear hg3 hbox hb3)
  | ((with_reducible refine gdt (N := 8) rfl ?_); refine bxe ?hg (N := 8) ?hd (cs := #[.int .u64 0, .int .i64 0, .int .i64 0, .slice none 0 0, .slice none 0 0, .slice none 0 0, .int .i64 0, .slice none 0 0]) (t := 30) ?hr ?_; (case hd => rfl); (case hg => rfl); (case hr => first | (go_simp; done) | (go_simp; rfl)); intro g8 hg8 w8 hbox hb8; have BK8 := Qz.mk hbox; have GE8 := Qz.mk (show w.heap.size ≤ g8 from by rw [hg8]; exact HB3.out.size); have NE8 := Qz.mk (show g3 ≠ g8 from by rw [hg8]; exact Nat.ne_of_lt (blt BK3.out)); have BK3 := Qz.mk (bkb BK3.out hb8); have HB8 := Qz.mk (HB3.out.trans (hb8.mono HB3.out.size)); clear HB3; clear hg8 hbox hb8; have hx0 : w8.cell? ⟨g3, 0, none⟩ = some (.int .u64 x.f0.f0) := (bc_ BK3.out 0).trans rfl; have hx1 : w8.cell? ⟨g3, 1, none⟩ = some (.int .i64 x.f0.f1) := (bc_ BK3.out 1).trans rfl; have hx2 : w8.cell? ⟨g3, 2, none⟩ = some (.int .i64 x.f0.f2) := (bc_ BK3.out 2).trans rfl; have hx3 : w8.cell? ⟨g3, 3, none⟩ = some (.slice A3 x.f1.length c3) := (bc_ BK3.out 3).trans rfl; have hx4 : w8.cell? ⟨g3, 4, none⟩ = some (.slice A4 x.f2.length c4) := (bc_ BK3.out 4).trans rfl; have hx5 : w8.cell? ⟨g3, 5, none⟩ = some (.slice A5 x.f3.length c5) := (bc_ BK3.out 5).trans rfl; have hx6 : w8.cell? ⟨g3, 6, none⟩ = some (.int .i64 x.f4) := (bc_ BK3.out 6).trans rfl; have hx7 : w8.cell? ⟨g3, 7, none⟩ = some (.slice A7 x.f5.length c7) := (bc_ BK3.out 7).trans rfl)
  | (go_at_call 11; refine (net_Check.calls k x.f0.f0 x.f0.f1 x.f0.f2 A3 c3 x.f1 A4 c4 x.f2 A5 c5 x.f3 x.f4 A7 c7 x.f5 0 w8 (Kd.C_below H3.out HB8.out) H3L.out (Kd.C_below H4.out HB8.out) H4L.out (Kd.C_below H5.out HB8.out) H5L.out (Kd.C_below H7.out HB8.out) H7L.out HC.out).mono ?_; rintro e wc ⟨rfl, hbc⟩; have BK3 := Qz.mk (bkb BK3.out hbc); have BK8 := Qz.mk (bkb BK8.out hbc); have HBC := Qz.mk (HB8.out.trans (hbc.mono HB8.out.size)); clear HB8 hbc hx0 hx1 hx2 hx3 hx4 hx5 hx6 hx7; have hy0 : wc.cell? ⟨g3, 0, none⟩ = some (.int .u64 x.f0.f0) := (bc_ BK3.out 0).trans rfl; have hy1 : wc.cell? ⟨g3, 1, none⟩ = some (.int .i64 x.f0.f1) := (bc_ BK3.out 1).trans rfl; have hy2 : wc.cell? ⟨g3, 2, none⟩ = some (.int .i64 x.f0.f2) := (bc_ BK3.out 2).trans rfl; have hy3 : wc.cell? ⟨g3, 3, none⟩ = some (.slice A3 x.f1.length c3) := (bc_ BK3.out 3).trans rfl; have hy4 : wc.cell? ⟨g3, 4, none⟩ = some (.slice A4 x.f2.length c4) := (bc_ BK3.out 4).trans rfl; have hy5 : wc.cell? ⟨g3, 5, none⟩ = some (.slice A5 x.f3.length c5) := (bc_ BK3.out 5).trans rfl; have hy6 : wc.cell? ⟨g3, 6, none⟩ = some (.int .i64 x.f4) := (bc_ BK3.out 6).trans rfl; have hy7 : wc.cell? ⟨g3, 7, none⟩ = some (.slice A7 x.f5.length c7) := (bc_ BK3.out 7).trans rfl; have hz0 : wc.cell? ⟨g8, 0, none⟩ = some (.int .u64 0) := (bc_ BK8.out 0).trans rfl; have hz1 : wc.cell? ⟨g8, 1, none⟩ = some (.int .i64 0) := (bc_ BK8.out 1).trans rfl; have hz2 : wc.cell? ⟨g8, 2, none⟩ = some (.int .i64 0) := (bc_ BK8.out 2).trans rfl; have hz3 : wc.cell? ⟨g8, 3, none⟩ = some (.slice none 0 0) := (bc_ BK8.out 3).trans rfl; have hz4 : wc.cell? ⟨g8, 4, none⟩ = some (.slice none 0 0) := (bc_ BK8.out 4).trans rfl; have hz5 : wc.cell? ⟨g8, 5, none⟩ = some (.slice none 0 0) := (bc_ BK8.out 5).trans rfl; have hz6 : wc.cell? ⟨g8, 6, none⟩ = some (.int .i64 0) := (bc_ BK8.out 6).trans rfl; have hz7 : wc.cell? ⟨g8, 7, none⟩ = some (.slice none 0 0) := (bc_ BK8.out 7).trans rfl; have hf0 := bf_ BK8.out 0; have hf1 := bf_ BK8.out 1; have hf2 := bf_ BK8.out 2; have hf3 := bf_ BK8.out 3; have hf4 := bf_ BK8.out 4; have hf5 := bf_ BK8.out 5; have hf6 := bf_ BK8.out 6; have hf7 := bf_ BK8.out 7)
  | (go_at_call 49; refine (exchHas.calls x.f0.f1 g3 A1 c1 l1 _ (Kd.C_below H1.out HBC.out) HM1.out hy1).mono ?_; rintro e wd ⟨rfl, hbd⟩; rw [HANY.out]; have BK3 := Qz.mk (bkb BK3.out hbd); have BK8 := Qz.mk (bkb BK8.out hbd); have HBC := Qz.mk (HBC.out.trans (hbd.mono HBC.out.size)); clear hbd hy0 hy1 hy2 hy3 hy4 hy5 hy6 hy7 hz0 hz1 hz2 hz3 hz4 hz5 hz6 hz7 hf0 hf1 hf2 hf3 hf4 hf5 hf6 hf7; have hy0 : wd.cell? ⟨g3, 0, none⟩ = some (.int .u64 x.f0.f0) := (bc_ BK3.out 0).trans rfl; have hy1 : wd.cell? ⟨g3, 1, none⟩ = some (.int .i64 x.f0.f1) := (bc_ BK3.out 1).trans rfl; have hy2 : wd.cell? ⟨g3, 2, none⟩ = some (.int .i64 x.f0.f2) := (bc_ BK3.out 2).trans rfl; have hy3 : wd.cell? ⟨g3, 3, none⟩ = some (.slice A3 x.f1.length c3) := (bc_ BK3.out 3).trans rfl; have hy4 : wd.cell? ⟨g3, 4, none⟩ = some (.slice A4 x.f2.length c4) := (bc_ BK3.out 4).trans rfl; have hy5 : wd.cell? ⟨g3, 5, none⟩ = some (.slice A5 x.f3.length c5) := (bc_ BK3.out 5).trans rfl; have hy6 : wd.cell? ⟨g3, 6, none⟩ = some (.int .i64 x.f4) := (bc_ BK3.out 6).trans rfl; have hy7 : wd.cell? ⟨g3, 7, none⟩ = some (.slice A7 x.f5.length c7) := (bc_ BK3.out 7).trans rfl; have hz0 : wd.cell? ⟨g8, 0, none⟩ = some (.int .u64 0) := (bc_ BK8.out 0).trans rfl; have hz1 : wd.cell? ⟨g8, 1, none⟩ = some (.int .i64 0) := (bc_ BK8.out 1).trans rfl; have hz2 : wd.cell? ⟨g8, 2, none⟩ = some (.int .i64 0) := (bc_ BK8.out 2).trans rfl; have hz3 : wd.cell? ⟨g8, 3, none⟩ = some (.slice none 0 0) := (bc_ BK8.out 3).trans rfl; have hz4 : wd.cell? ⟨g8, 4, none⟩ = some (.slice none 0 0) := (bc_ BK8.out 4).trans rfl; have hz5 : wd.cell? ⟨g8, 5, none⟩ = some (.slice none 0 0) := (bc_ BK8.out 5).trans rfl; have hz6 : wd.cell? ⟨g8, 6, none⟩ = some (.int .i64 0) := (bc_ BK8.out 6).trans rfl; have hz7 : wd.cell? ⟨g8, 7, none⟩ = some (.slice none 0 0) := (bc_ BK8.out 7).trans rfl; have hf0 := bf_ BK8.out 0; have hf1 := bf_ BK8.out 1; have hf2 := bf_ BK8.out 2; have hf3 := bf_ BK8.out 3; have hf4 := bf_ BK8.out 4; have hf5 := bf_ BK8.out 5; have hf6 := bf_ BK8.out 6; have hf7 := bf_ BK8.out 7))
 refine bodyPost_ret (results_list (rs := [.tmp 6, .tmp 7, .cell 8 30, .tmp 9]) rfl (by simp) (.tmp (.tmp (.cell g8 30 #[.int .u64 0, .int .i64 0, .int .i64 0, .slice none 0 0, .slice none 0 0, .slice none 0 0, .int .i64 0, .slice none 0 0] (0, 0) _ rfl (by refine bkp (cs := #[.int .u64 0, .int .i64 0, .int .i64 0, .slice none 0 0, .slice none 0 0, .slice none 0 0, .int .i64 0, .slice none 0 0]) ?_ 7 _ rfl; refine bkp (cs := #[.int .u64 0, .int .i64 0, .int .i64 0, .slice none 0 0, .slice none 0 0, .slice none 0 0, .int .i64 0, .slice none 0 0]) ?_ 6 _ rfl; refine bkp (cs := #[.int .u64 0, .int .i64 0, .int .i64 0, .slice none 0 0, .slice none 0 0, .slice none 0 0, .int .i64 0, .slice none 0 0]) ?_ 5 _ rfl; refine bkp (cs := #[.int .u64 0, .int .i64 0, .int .i64 0, .slice none 0 0, .slice none 0 0, .slice none 0 0, .int .i64 0, .slice none 0 0]) ?_ 4 _ rfl; refine bkp (cs := #[.int .u64 0, .int .i64 0, .int .i64 0, .slice none 0 0, .slice none 0 0, .slice none 0 0, .int .i64 0, .slice none 0 0]) ?_ 3 _ rfl; refine bkp (cs := #[.int .u64 0, .int .i64 0, .int .i64 0, .slice none 0 0, .slice none 0 0, .slice none 0 0, .int .i64 0, .slice none 0 0]) ?_ 2 _ rfl; refine bkp (cs := #[.int .u64 0, .int .i64 0, .int .i64 0, .slice none 0 0, .slice none 0 0, .slice none 0 0, .int .i64 0, .slice none 0 0]) ?_ 1 _ rfl; refine bkp (cs := #[.int .u64 0, .int .i64 0, .int .i64 0, .slice none 0 0, .slice none 0 0, .slice none 0 0, .int .i64 0, .slice none 0 0]) ?_ 0 _ rfl; exact BK8.out) Try.underlying30 rfl (by kernel_rfl) (.tmp .nil))))) (by rfl) ?_
 refine ⟨none, 0, none, 0, none, 0, none, 0, none, 0, none, 0, rfl, Kd.F_nil _ _ _, Nat.le_refl _, Kd.F_nil _ _ _, Nat.le_refl _, exch_zero _ none none none none 0 0 0 0, ?_⟩
 (repeat (with_reducible first | exact HBC.out | refine bset ?_ GE8.out))
set_option maxHeartbeats 8000000 in
set_option maxRecDepth 100000 in
theorem exch_state (k : Nat) (x : S30) (A3 : Option Addr) (c3 : Nat) (A4 : Option Addr) (c4 : Nat) (A5 : Option Addr) (c5 : Nat) (A7 : Option Addr) (c7 : Nat) (A1 : Option Addr) (c1 : Nat) (l1 : List (List (List Int))) (A2 : Option Addr) (c2 : Nat) (l2 : List (List Int)) (w : World)
  (hx : k30.K w x (wv x A3 c3 A4 c4 A5 c5 A7 c7).toList) (hc : wcheck k x = some 0) (hn : (l1.length : Int) = x.f0.f1) (ho : (l2.length : Int) = x.f0.f1) (h1 : (Kd.slice 51 kD).C w A1 l1.length l1) (hm1 : l1.length < 9223372036854775807) (hany : l1.any (badRow x.f0.f1) = false) (hR : x.f4 = 1048576) :
  Calls Try.prog 20 #[.agg (wv x A3 c3 A4 c4 A5 c5 A7 c7), .slice A1 l1.length c1, .slice A2 l2.length c2] w (ExchPost w [] [] z30 8) := by
 have hu30 := Try.underlying30
 have hu24 := Try.underlying24
 obtain ⟨_, _, _, _, _, _, _, _, heq, h3l, h3, h4l, h4, h5l, h5, h7l, h7⟩ := k30_open hx
 simp only [List.cons.injEq, Value.slice.injEq] at heq
 obtain ⟨-, -, -, ⟨rfl, -, rfl⟩, ⟨rfl, -, rfl⟩, ⟨rfl, -, rfl⟩, -, ⟨rfl, -, rfl⟩, -⟩ := heq
 have H3 := Qz.mk h3
 have H4 := Qz.mk h4
 have H5 := Qz.mk h5
 have H7 := Qz.mk h7
 have H3L := Qz.mk h3l
 have H4L := Qz.mk h4l
 have H5L := Qz.mk h5l
 have H7L := Qz.mk h7l
 clear hx h3 h4 h5 h7 h3l h4l h5l h7l
 have HC := Qz.mk hc
 have hn1 : ((l1.length : Int) != x.f0.f1) = false := by simpa using hn
 have hn2 : ((l1.length : Int) == x.f0.f1) = true := by simpa using hn
 have ho1 : ((l2.length : Int) != x.f0.f1) = false := by simpa using ho
 have ho2 : ((l2.length : Int) == x.f0.f1) = true := by simpa using ho
 have hR1 : (x.f4 == 1048576) = true := by simpa using hR
 have hmf : ∀ (fn : Fn) (first cap : Array Value) (w : World), (Instr.makeFunc fn first cap).run Try.prog w = .ok (.func fn first cap) w := fun _ _ _ _ => rfl
 have H1 := Qz.mk h1
 have HM1 := Qz.mk hm1
 have HANY := Qz.mk hany
 clear h1 hm1 hany
 clear hc hn ho hR
 go_enter Try.func20, Try.ntmps20
 go_wp2_with (first
  | ((with_reducible refine gdt (N := 3) rfl ?_); refine bxe ?hg (N := 3) ?hd (cs := wv x A3 c3 A4 c4 A5 c5 A7 c7) (t := 30) ?hr ?_; (case hd => rfl); (case hg => rfl); (case hr => first | (go_simp; done) | (go_simp; rfl)); intro g3 hg3 w3 hbox hb3; have BK3 := Qz.mk hbox; have HB3 := Qz.mk hb3; have GE3 := Qz.mk (show w.heap.size ≤ g3 from Nat.le_of_eq hg3.symm); clear hg3 hbox hb3)
  | ((with_reducible refine gdt (N := 8) rfl ?_); refine bxe ?hg (N := 8) ?hd (cs := #[.int .u64 0, .int .i64 0, .int .i64 0, .slice none 0 0, .slice none 0 0, .slice none 0 0, .int .i64 0, .slice none 0 0]) (t := 30) ?hr ?_; (case hd => rfl); (case hg => rfl); (case hr => first | (go_simp; done) | (go_simp; rfl)); intro g8 hg8 w8 hbox hb8; have BK8 := Qz.mk hbox; have GE8 := Qz.mk (show w.heap.size ≤ g8 from by rw [hg8]; exact HB3.out.size); have NE8 := Qz.mk (show g3 ≠ g8 from by rw [hg8]; exact Nat.ne_of_lt (blt BK3.out)); have BK3 := Qz.mk (bkb BK3.out hb8); have HB8 := Qz.mk (HB3.out.trans (hb8.mono HB3.out.size)); clear HB3; clear hg8 hbox hb8; have hx0 : w8.cell? ⟨g3, 0, none⟩ = some (.int .u64 x.f0.f0) := (bc_ BK3.out 0).trans rfl; have hx1 : w8.cell? ⟨g3, 1, none⟩ = some (.int .i64 x.f0.f1) := (bc_ BK3.out 1).trans rfl; have hx2 : w8.cell? ⟨g3, 2, none⟩ = some (.int .i64 x.f0.f2) := (bc_ BK3.out 2).trans rfl; have hx3 : w8.cell? ⟨g3, 3, none⟩ = some (.slice A3 x.f1.length c3) := (bc_ BK3.out 3).trans rfl; have hx4 : w8.cell? ⟨g3, 4, none⟩ = some (.slice A4 x.f2.length c4) := (bc_ BK3.out 4).trans rfl; have hx5 : w8.cell? ⟨g3, 5, none⟩ = some (.slice A5 x.f3.length c5) := (bc_ BK3.out 5).trans rfl; have hx6 : w8.cell? ⟨g3, 6, none⟩ = some (.int .i64 x.f4) := (bc_ BK3.out 6).trans rfl; have hx7 : w8.cell? ⟨g3, 7, none⟩ = some (.slice A7 x.f5.length c7) := (bc_ BK3.out 7).trans rfl)
  | (go_at_call 11; refine (net_Check.calls k x.f0.f0 x.f0.f1 x.f0.f2 A3 c3 x.f1 A4 c4 x.f2 A5 c5 x.f3 x.f4 A7 c7 x.f5 0 w8 (Kd.C_below H3.out HB8.out) H3L.out (Kd.C_below H4.out HB8.out) H4L.out (Kd.C_below H5.out HB8.out) H5L.out (Kd.C_below H7.out HB8.out) H7L.out HC.out).mono ?_; rintro e wc ⟨rfl, hbc⟩; have BK3 := Qz.mk (bkb BK3.out hbc); have BK8 := Qz.mk (bkb BK8.out hbc); have HBC := Qz.mk (HB8.out.trans (hbc.mono HB8.out.size)); clear HB8 hbc hx0 hx1 hx2 hx3 hx4 hx5 hx6 hx7; have hy0 : wc.cell? ⟨g3, 0, none⟩ = some (.int .u64 x.f0.f0) := (bc_ BK3.out 0).trans rfl; have hy1 : wc.cell? ⟨g3, 1, none⟩ = some (.int .i64 x.f0.f1) := (bc_ BK3.out 1).trans rfl; have hy2 : wc.cell? ⟨g3, 2, none⟩ = some (.int .i64 x.f0.f2) := (bc_ BK3.out 2).trans rfl; have hy3 : wc.cell? ⟨g3, 3, none⟩ = some (.slice A3 x.f1.length c3) := (bc_ BK3.out 3).trans rfl; have hy4 : wc.cell? ⟨g3, 4, none⟩ = some (.slice A4 x.f2.length c4) := (bc_ BK3.out 4).trans rfl; have hy5 : wc.cell? ⟨g3, 5, none⟩ = some (.slice A5 x.f3.length c5) := (bc_ BK3.out 5).trans rfl; have hy6 : wc.cell? ⟨g3, 6, none⟩ = some (.int .i64 x.f4) := (bc_ BK3.out 6).trans rfl; have hy7 : wc.cell? ⟨g3, 7, none⟩ = some (.slice A7 x.f5.length c7) := (bc_ BK3.out 7).trans rfl; have hz0 : wc.cell? ⟨g8, 0, none⟩ = some (.int .u64 0) := (bc_ BK8.out 0).trans rfl; have hz1 : wc.cell? ⟨g8, 1, none⟩ = some (.int .i64 0) := (bc_ BK8.out 1).trans rfl; have hz2 : wc.cell? ⟨g8, 2, none⟩ = some (.int .i64 0) := (bc_ BK8.out 2).trans rfl; have hz3 : wc.cell? ⟨g8, 3, none⟩ = some (.slice none 0 0) := (bc_ BK8.out 3).trans rfl; have hz4 : wc.cell? ⟨g8, 4, none⟩ = some (.slice none 0 0) := (bc_ BK8.out 4).trans rfl; have hz5 : wc.cell? ⟨g8, 5, none⟩ = some (.slice none 0 0) := (bc_ BK8.out 5).trans rfl; have hz6 : wc.cell? ⟨g8, 6, none⟩ = some (.int .i64 0) := (bc_ BK8.out 6).trans rfl; have hz7 : wc.cell? ⟨g8, 7, none⟩ = some (.slice none 0 0) := (bc_ BK8.out 7).trans rfl; have hf0 := bf_ BK8.out 0; have hf1 := bf_ BK8.out 1; have hf2 := bf_ BK8.out 2; have hf3 := bf_ BK8.out 3; have hf4 := bf_ BK8.out 4; have hf5 := bf_ BK8.out 5; have hf6 := bf_ BK8.out 6; have hf7 := bf_ BK8.out 7)
  | (go_at_call 49; refine (exchHas.calls x.f0.f1 g3 A1 c1 l1 _ (Kd.C_below H1.out HBC.out) HM1.out hy1).mono ?_; rintro e wd ⟨rfl, hbd⟩; rw [HANY.out]; have BK3 := Qz.mk (bkb BK3.out hbd); have BK8 := Qz.mk (bkb BK8.out hbd); have HBC := Qz.mk (HBC.out.trans (hbd.mono HBC.out.size)); clear hbd hy0 hy1 hy2 hy3 hy4 hy5 hy6 hy7 hz0 hz1 hz2 hz3 hz4 hz5 hz6 hz7 hf0 hf1 hf2 hf3 hf4 hf5 hf6 hf7; have hy0 : wd.cell? ⟨g3, 0, none⟩ = some (.int .u64 x.f0.f0) := (bc_ BK3.out 0).trans rfl; have hy1 : wd.cell? ⟨g3, 1, none⟩ = some (.int .i64 x.f0.f1) := (bc_ BK3.out 1).trans rfl; have hy2 : wd.cell? ⟨g3, 2, none⟩ = some (.int .i64 x.f0.f2) := (bc_ BK3.out 2).trans rfl; have hy3 : wd.cell? ⟨g3, 3, none⟩ = some (.slice A3 x.f1.length c3) := (bc_ BK3.out 3).trans rfl; have hy4 : wd.cell? ⟨g3, 4, none⟩ = some (.slice A4 x.f2.length c4) := (bc_ BK3.out 4).trans rfl; have hy5 : wd.cell? ⟨g3, 5, none⟩ = some (.slice A5 x.f3.length c5) := (bc_ BK3.out 5).trans rfl; have hy6 : wd.cell? ⟨g3, 6, none⟩ = some (.int .i64 x.f4) := (bc_ BK3.out 6).trans rfl; have hy7 : wd.cell? ⟨g3, 7, none⟩ = some (.slice A7 x.f5.length c7) := (bc_ BK3.out 7).trans rfl; have hz0 : wd.cell? ⟨g8, 0, none⟩ = some (.int .u64 0) := (bc_ BK8.out 0).trans rfl; have hz1 : wd.cell? ⟨g8, 1, none⟩ = some (.int .i64 0) := (bc_ BK8.out 1).trans rfl; have hz2 : wd.cell? ⟨g8, 2, none⟩ = some (.int .i64 0) := (bc_ BK8.out 2).trans rfl; have hz3 : wd.cell? ⟨g8, 3, none⟩ = some (.slice none 0 0) := (bc_ BK8.out 3).trans rfl; have hz4 : wd.cell? ⟨g8, 4, none⟩ = some (.slice none 0 0) := (bc_ BK8.out 4).trans rfl; have hz5 : wd.cell? ⟨g8, 5, none⟩ = some (.slice none 0 0) := (bc_ BK8.out 5).trans rfl; have hz6 : wd.cell? ⟨g8, 6, none⟩ = some (.int .i64 0) := (bc_ BK8.out 6).trans rfl; have hz7 : wd.cell? ⟨g8, 7, none⟩ = some (.slice none 0 0) := (bc_ BK8.out 7).trans rfl; have hf0 := bf_ BK8.out 0; have hf1 := bf_ BK8.out 1; have hf2 := bf_ BK8.out 2; have hf3 := bf_ BK8.out 3; have hf4 := bf_ BK8.out 4; have hf5 := bf_ BK8.out 5; have hf6 := bf_ BK8.out 6; have hf7 := bf_ BK8.out 7))
 refine bodyPost_ret (results_list (rs := [.tmp 6, .tmp 7, .cell 8 30, .tmp 9]) rfl (by simp) (.tmp (.tmp (.cell g8 30 #[.int .u64 0, .int .i64 0, .int .i64 0, .slice none 0 0, .slice none 0 0, .slice none 0 0, .int .i64 0, .slice none 0 0] (0, 0) _ rfl (by refine bkp (cs := #[.int .u64 0, .int .i64 0, .int .i64 0, .slice none 0 0, .slice none 0 0, .slice none 0 0, .int .i64 0, .slice none 0 0]) ?_ 7 _ rfl; refine bkp (cs := #[.int .u64 0, .int .i64 0, .int .i64 0, .slice none 0 0, .slice none 0 0, .slice none 0 0, .int .i64 0, .slice none 0 0]) ?_ 6 _ rfl; refine bkp (cs := #[.int .u64 0, .int .i64 0, .int .i64 0, .slice none 0 0, .slice none 0 0, .slice none 0 0, .int .i64 0, .slice none 0 0]) ?_ 5 _ rfl; refine bkp (cs := #[.int .u64 0, .int .i64 0, .int .i64 0, .slice none 0 0, .slice none 0 0, .slice none 0 0, .int .i64 0, .slice none 0 0]) ?_ 4 _ rfl; refine bkp (cs := #[.int .u64 0, .int .i64 0, .int .i64 0, .slice none 0 0, .slice none 0 0, .slice none 0 0, .int .i64 0, .slice none 0 0]) ?_ 3 _ rfl; refine bkp (cs := #[.int .u64 0, .int .i64 0, .int .i64 0, .slice none 0 0, .slice none 0 0, .slice none 0 0, .int .i64 0, .slice none 0 0]) ?_ 2 _ rfl; refine bkp (cs := #[.int .u64 0, .int .i64 0, .int .i64 0, .slice none 0 0, .slice none 0 0, .slice none 0 0, .int .i64 0, .slice none 0 0]) ?_ 1 _ rfl; refine bkp (cs := #[.int .u64 0, .int .i64 0, .int .i64 0, .slice none 0 0, .slice none 0 0, .slice none 0 0, .int .i64 0, .slice none 0 0]) ?_ 0 _ rfl; exact BK8.out) Try.underlying30 rfl (by kernel_rfl) (.tmp .nil))))) (by rfl) ?_
 refine ⟨none, 0, none, 0, none, 0, none, 0, none, 0, none, 0, rfl, Kd.F_nil _ _ _, Nat.le_refl _, Kd.F_nil _ _ _, Nat.le_refl _, exch_zero _ none none none none 0 0 0 0, ?_⟩
 (repeat (with_reducible first | exact HBC.out | refine bset ?_ GE8.out))
def exch.T10 : Bool × List (List Nat × List Nat) := (true, [([], []), ([], []), ([], []), ([0, 0], [0]), ([1, 3, 0, 1, 3], [1]), ([2, 4, 0, 1, 2, 3, 4], [2]), ([5, 0, 1, 2, 3, 4, 5], [])])
def exch.B10 : List Nat := [0, 0, 0, 1, 11, 31, 63]
theorem exch.tab10 : rtab .any (opsOf Try.f20 10) = exch.T10 := by kernel_rfl
theorem exch.bits10 : waitsOk exch.T10.2 exch.B10 = true := by kernel_rfl
set_option maxHeartbeats 8000000 in
set_option maxRecDepth 100000 in
theorem exch_ok (k : Nat) (n : Nat) (P T R : Int) (co : List Int) (ac : List S72) (ta : List (List Int)) (se : List S77) (A3 : Option Addr) (c3 : Nat) (A4 : Option Addr) (c4 : Nat) (A5 : Option Addr) (c5 : Nat) (A7 : Option Addr) (c7 : Nat) (A1 : Option Addr) (c1 : Nat) (l1 : List (List (List Int))) (A2 : Option Addr) (c2 : Nat) (l2 : List (List Int)) (w : World)
  (hx : k30.K w (⟨⟨P, (n : Int), T⟩, co, ac, ta, R, se⟩ : S30) (wv (⟨⟨P, (n : Int), T⟩, co, ac, ta, R, se⟩ : S30) A3 c3 A4 c4 A5 c5 A7 c7).toList) (hc : wcheck k (⟨⟨P, (n : Int), T⟩, co, ac, ta, R, se⟩ : S30) = some 0) (hcl : Small co ac ta se)
  (h1 : (Kd.slice 51 kD).C w A1 l1.length l1) (h2 : kD.C w A2 l2.length l2) (hn1 : 1 ≤ n) (hn2 : n ≤ 1000) (hR : 0 ≤ R) (hR2 : R < 1048576) (hla : ac.length ≤ 65536) (hap : apart (now (R + 1) ac)) (hl1 : l1.length = n) (hl2 : l2.length = n) (hl3 : ∀ x ∈ l1, x.length = n) (hsl : se.length + n * (n + 1) < 4000000000000) (hdd : ∀ f t d, (d ∈ l2 ∨ ∃ x ∈ l1, d ∈ x) → (eff (now (R + 1) ac) f t d).length < 17592186044416) :
  Calls Try.prog 20 #[.agg (wv (⟨⟨P, (n : Int), T⟩, co, ac, ta, R, se⟩ : S30) A3 c3 A4 c4 A5 c5 A7 c7), .slice A1 l1.length c1, .slice A2 l2.length c2] w (ExchPost w (iRun (now (R + 1) ac) (R + 1) n l1 l2 se n).1 (iRun (now (R + 1) ac) (R + 1) n l1 l2 se n).2.1 (⟨⟨P, (n : Int), T⟩, co, ac, ta, R + 1, (iRun (now (R + 1) ac) (R + 1) n l1 l2 se n).2.2⟩ : S30) 0) := by
 have hu30 := Try.underlying30
 have hu24 := Try.underlying24
 obtain ⟨_, _, _, _, _, _, _, _, heq, h3l, h3, h4l, h4, h5l, h5, h7l, h7⟩ := k30_open hx
 simp only [List.cons.injEq, Value.slice.injEq] at heq
 obtain ⟨-, -, -, ⟨rfl, -, rfl⟩, ⟨rfl, -, rfl⟩, ⟨rfl, -, rfl⟩, -, ⟨rfl, -, rfl⟩, -⟩ := heq
 have H3 := Qz.mk h3
 have H4 := Qz.mk h4
 have H5 := Qz.mk h5
 have H7 := Qz.mk h7
 have H3L := Qz.mk h3l
 have H4L := Qz.mk h4l
 have H5L := Qz.mk h5l
 have H7L := Qz.mk h7l
 clear hx h3 h4 h5 h7 h3l h4l h5l h7l
 have HC := Qz.mk hc
 have hmf : ∀ (fn : Fn) (first cap : Array Value) (w : World), (Instr.makeFunc fn first cap).run Try.prog w = .ok (.func fn first cap) w := fun _ _ _ _ => rfl
 have HCL := Qz.mk hcl
 have H1 := Qz.mk h1
 have H2 := Qz.mk h2
 have HM1 := Qz.mk (show l1.length < 9223372036854775807 from by omega)
 have HANY := Qz.mk (show l1.any (badRow (n : Int)) = false from by
  rw [List.any_eq_false]
  intro r hr
  simp [badRow, hl3 r hr])
 have hn1a : ((l1.length : Int) != (n : Int)) = false := by simp [hl1]
 have hn1b : ((l1.length : Int) == (n : Int)) = true := by simp [hl1]
 have hn2a : ((l2.length : Int) != (n : Int)) = false := by simp [hl2]
 have hn2b : ((l2.length : Int) == (n : Int)) = true := by simp [hl2]
 have hR1 : (R == 1048576) = false := by simp; omega
 have HN1 := Qz.mk hn1
 have HN2 := Qz.mk hn2
 have HR0 := Qz.mk hR
 have HR2 := Qz.mk hR2
 have HLA := Qz.mk hla
 have HAP := Qz.mk hap
 have HL1 := Qz.mk hl1
 have HL2 := Qz.mk hl2
 have HL3 := Qz.mk hl3
 have HSL := Qz.mk hsl
 have HDD := Qz.mk hdd
 clear hc hcl h1 h2 hn1 hn2 hR hR2 hla hap hl1 hl2 hl3 hsl hdd
 go_enter Try.func20, Try.ntmps20
 go_upto_region 9 with (first
  | ((with_reducible refine gdt (N := 3) rfl ?_); refine bxe ?hg (N := 3) ?hd (cs := wv (⟨⟨P, (n : Int), T⟩, co, ac, ta, R, se⟩ : S30) A3 c3 A4 c4 A5 c5 A7 c7) (t := 30) ?hr ?_; (case hd => rfl); (case hg => rfl); (case hr => first | (go_simp; done) | (go_simp; rfl)); intro g3 hg3 w3 hbox hb3; have BK3 := Qz.mk hbox; have HB3 := Qz.mk hb3; have GE3 := Qz.mk (show w.heap.size ≤ g3 from Nat.le_of_eq hg3.symm); clear hg3 hbox hb3)
  | ((with_reducible refine gdt (N := 8) rfl ?_); refine bxe ?hg (N := 8) ?hd (cs := #[.int .u64 0, .int .i64 0, .int .i64 0, .slice none 0 0, .slice none 0 0, .slice none 0 0, .int .i64 0, .slice none 0 0]) (t := 30) ?hr ?_; (case hd => rfl); (case hg => rfl); (case hr => first | (go_simp; done) | (go_simp; rfl)); intro g8 hg8 w8 hbox hb8; have BK8 := Qz.mk hbox; have GE8 := Qz.mk (show w.heap.size ≤ g8 from by rw [hg8]; exact HB3.out.size); have NE8 := Qz.mk (show g3 ≠ g8 from by rw [hg8]; exact Nat.ne_of_lt (blt BK3.out)); have BK3 := Qz.mk (bkb BK3.out hb8); have HB8 := Qz.mk (HB3.out.trans (hb8.mono HB3.out.size)); clear HB3; clear hg8 hbox hb8; have hx0 : w8.cell? ⟨g3, 0, none⟩ = some (.int .u64 P) := (bc_ BK3.out 0).trans rfl; have hx1 : w8.cell? ⟨g3, 1, none⟩ = some (.int .i64 (n : Int)) := (bc_ BK3.out 1).trans rfl; have hx2 : w8.cell? ⟨g3, 2, none⟩ = some (.int .i64 T) := (bc_ BK3.out 2).trans rfl; have hx3 : w8.cell? ⟨g3, 3, none⟩ = some (.slice A3 co.length c3) := (bc_ BK3.out 3).trans rfl; have hx4 : w8.cell? ⟨g3, 4, none⟩ = some (.slice A4 ac.length c4) := (bc_ BK3.out 4).trans rfl; have hx5 : w8.cell? ⟨g3, 5, none⟩ = some (.slice A5 ta.length c5) := (bc_ BK3.out 5).trans rfl; have hx6 : w8.cell? ⟨g3, 6, none⟩ = some (.int .i64 R) := (bc_ BK3.out 6).trans rfl; have hx7 : w8.cell? ⟨g3, 7, none⟩ = some (.slice A7 se.length c7) := (bc_ BK3.out 7).trans rfl)
  | (go_at_call 11; refine (net_Check.calls k P (n : Int) T A3 c3 co A4 c4 ac A5 c5 ta R A7 c7 se 0 w8 (Kd.C_below H3.out HB8.out) H3L.out (Kd.C_below H4.out HB8.out) H4L.out (Kd.C_below H5.out HB8.out) H5L.out (Kd.C_below H7.out HB8.out) H7L.out HC.out).mono ?_; rintro e wc ⟨rfl, hbc⟩; have BK3 := Qz.mk (bkb BK3.out hbc); have BK8 := Qz.mk (bkb BK8.out hbc); have HBC := Qz.mk (HB8.out.trans (hbc.mono HB8.out.size)); clear HB8 hbc hx0 hx1 hx2 hx3 hx4 hx5 hx6 hx7; have hy0 : wc.cell? ⟨g3, 0, none⟩ = some (.int .u64 P) := (bc_ BK3.out 0).trans rfl; have hy1 : wc.cell? ⟨g3, 1, none⟩ = some (.int .i64 (n : Int)) := (bc_ BK3.out 1).trans rfl; have hy2 : wc.cell? ⟨g3, 2, none⟩ = some (.int .i64 T) := (bc_ BK3.out 2).trans rfl; have hy3 : wc.cell? ⟨g3, 3, none⟩ = some (.slice A3 co.length c3) := (bc_ BK3.out 3).trans rfl; have hy4 : wc.cell? ⟨g3, 4, none⟩ = some (.slice A4 ac.length c4) := (bc_ BK3.out 4).trans rfl; have hy5 : wc.cell? ⟨g3, 5, none⟩ = some (.slice A5 ta.length c5) := (bc_ BK3.out 5).trans rfl; have hy6 : wc.cell? ⟨g3, 6, none⟩ = some (.int .i64 R) := (bc_ BK3.out 6).trans rfl; have hy7 : wc.cell? ⟨g3, 7, none⟩ = some (.slice A7 se.length c7) := (bc_ BK3.out 7).trans rfl; have hz0 : wc.cell? ⟨g8, 0, none⟩ = some (.int .u64 0) := (bc_ BK8.out 0).trans rfl; have hz1 : wc.cell? ⟨g8, 1, none⟩ = some (.int .i64 0) := (bc_ BK8.out 1).trans rfl; have hz2 : wc.cell? ⟨g8, 2, none⟩ = some (.int .i64 0) := (bc_ BK8.out 2).trans rfl; have hz3 : wc.cell? ⟨g8, 3, none⟩ = some (.slice none 0 0) := (bc_ BK8.out 3).trans rfl; have hz4 : wc.cell? ⟨g8, 4, none⟩ = some (.slice none 0 0) := (bc_ BK8.out 4).trans rfl; have hz5 : wc.cell? ⟨g8, 5, none⟩ = some (.slice none 0 0) := (bc_ BK8.out 5).trans rfl; have hz6 : wc.cell? ⟨g8, 6, none⟩ = some (.int .i64 0) := (bc_ BK8.out 6).trans rfl; have hz7 : wc.cell? ⟨g8, 7, none⟩ = some (.slice none 0 0) := (bc_ BK8.out 7).trans rfl; have hf0 := bf_ BK8.out 0; have hf1 := bf_ BK8.out 1; have hf2 := bf_ BK8.out 2; have hf3 := bf_ BK8.out 3; have hf4 := bf_ BK8.out 4; have hf5 := bf_ BK8.out 5; have hf6 := bf_ BK8.out 6; have hf7 := bf_ BK8.out 7)
  | (go_at_call 49; refine (exchHas.calls (n : Int) g3 A1 c1 l1 _ (Kd.C_below H1.out HBC.out) HM1.out hy1).mono ?_; rintro e wd ⟨rfl, hbd⟩; rw [HANY.out]; have BK3 := Qz.mk (bkb BK3.out hbd); have BK8 := Qz.mk (bkb BK8.out hbd); have HBC := Qz.mk (HBC.out.trans (hbd.mono HBC.out.size)); clear hbd hy0 hy1 hy2 hy3 hy4 hy5 hy6 hy7 hz0 hz1 hz2 hz3 hz4 hz5 hz6 hz7 hf0 hf1 hf2 hf3 hf4 hf5 hf6 hf7; have hy0 : wd.cell? ⟨g3, 0, none⟩ = some (.int .u64 P) := (bc_ BK3.out 0).trans rfl; have hy1 : wd.cell? ⟨g3, 1, none⟩ = some (.int .i64 (n : Int)) := (bc_ BK3.out 1).trans rfl; have hy2 : wd.cell? ⟨g3, 2, none⟩ = some (.int .i64 T) := (bc_ BK3.out 2).trans rfl; have hy3 : wd.cell? ⟨g3, 3, none⟩ = some (.slice A3 co.length c3) := (bc_ BK3.out 3).trans rfl; have hy4 : wd.cell? ⟨g3, 4, none⟩ = some (.slice A4 ac.length c4) := (bc_ BK3.out 4).trans rfl; have hy5 : wd.cell? ⟨g3, 5, none⟩ = some (.slice A5 ta.length c5) := (bc_ BK3.out 5).trans rfl; have hy6 : wd.cell? ⟨g3, 6, none⟩ = some (.int .i64 R) := (bc_ BK3.out 6).trans rfl; have hy7 : wd.cell? ⟨g3, 7, none⟩ = some (.slice A7 se.length c7) := (bc_ BK3.out 7).trans rfl; have hz0 : wd.cell? ⟨g8, 0, none⟩ = some (.int .u64 0) := (bc_ BK8.out 0).trans rfl; have hz1 : wd.cell? ⟨g8, 1, none⟩ = some (.int .i64 0) := (bc_ BK8.out 1).trans rfl; have hz2 : wd.cell? ⟨g8, 2, none⟩ = some (.int .i64 0) := (bc_ BK8.out 2).trans rfl; have hz3 : wd.cell? ⟨g8, 3, none⟩ = some (.slice none 0 0) := (bc_ BK8.out 3).trans rfl; have hz4 : wd.cell? ⟨g8, 4, none⟩ = some (.slice none 0 0) := (bc_ BK8.out 4).trans rfl; have hz5 : wd.cell? ⟨g8, 5, none⟩ = some (.slice none 0 0) := (bc_ BK8.out 5).trans rfl; have hz6 : wd.cell? ⟨g8, 6, none⟩ = some (.int .i64 0) := (bc_ BK8.out 6).trans rfl; have hz7 : wd.cell? ⟨g8, 7, none⟩ = some (.slice none 0 0) := (bc_ BK8.out 7).trans rfl; have hf0 := bf_ BK8.out 0; have hf1 := bf_ BK8.out 1; have hf2 := bf_ BK8.out 2; have hf3 := bf_ BK8.out 3; have hf4 := bf_ BK8.out 4; have hf5 := bf_ BK8.out 5; have hf6 := bf_ BK8.out 6; have hf7 := bf_ BK8.out 7)
  | (go_at_call 46; refine (nCl.calls (⟨⟨P, (n : Int), T⟩, co, ac, ta, R, se⟩ : S30) HCL.out (fun k => k < w.heap.size) A3 c3 A4 c4 A5 c5 A7 c7 _ (XF.below (show XF w (fun k => k < w.heap.size) (⟨⟨P, (n : Int), T⟩, co, ac, ta, R, se⟩ : S30) A3 c3 A4 c4 A5 c5 A7 c7 from ⟨H3L.out, Kd.C_F (Kd.heap_int .i64) H3.out, H4L.out, Kd.C_F k72_heap H4.out, H5L.out, Kd.C_F (Kd.heap_slice 22 (Kd.heap_int .u64)) H5.out, H7L.out, Kd.C_F k77_heap H7.out⟩) HBC.out)).mono ?_; rintro e wk ⟨m4, m5, m7, B3, b3, B4, b4, B5, b5, B7, b7, rfl, hclo⟩; have hbk := hclo.bl; have GL3 := Qz.mk (blt BK3.out); have GL8 := Qz.mk (blt BK8.out); have HSZ := Qz.mk HBC.out.size; have NE3 := Qz.mk (show ∀ k, ((k < w.heap.size ∧ k < wd.heap.size) ∨ wd.heap.size ≤ k) → k ≠ g3 from fun k hk e => by have h1 := GE3.out; have h2 := GL3.out; omega); have NE38 := Qz.mk (show ∀ k, ((k < w.heap.size ∧ k < wd.heap.size) ∨ wd.heap.size ≤ k) → k ≠ g8 from fun k hk e => by have h1 := GE8.out; have h2 := GL8.out; omega); have hok3 : ∀ k, ((k < w.heap.size ∧ k < wd.heap.size) ∨ wd.heap.size ≤ k) → some k ≠ (Value.slice B7 se.length b7).ownBlock → (k ≠ g3 ∧ some k ≠ (Value.slice B7 se.length b7).ownBlock ∧ k ≠ g8) := fun k hk hn => ⟨NE3.out k hk, hn, NE38.out k hk⟩; have HF3 := Qz.mk (show Kd.F (Kd.int .i64) wk (fun k => k ≠ g3 ∧ some k ≠ (Value.slice B7 se.length b7).ownBlock ∧ k ≠ g8) B3 co.length co from hclo.f3 hok3); have HF4 := Qz.mk (show Kd.F k72 wk (fun k => k ≠ g3 ∧ some k ≠ (Value.slice B7 se.length b7).ownBlock ∧ k ≠ g8) B4 ac.length ac from hclo.f4 hok3); have HF5 := Qz.mk (show Kd.F kD wk (fun k => k ≠ g3 ∧ some k ≠ (Value.slice B7 se.length b7).ownBlock ∧ k ≠ g8) B5 ta.length ta from hclo.f5 hok3); have HLB3 := Qz.mk (show co.length ≤ b3 from hclo.l3); have HLB4 := Qz.mk (show ac.length ≤ b4 from hclo.l4); have HLB5 := Qz.mk (show ta.length ≤ b5 from hclo.l5); have HVB := Qz.mk (show ∀ k, some k = (Value.slice B7 se.length b7).ownBlock → wd.heap.size ≤ k from hclo.own7); have HN7 := Qz.mk (show Kd.N k77 77 wk w.heap.size (fun k => k ≠ g3 ∧ k ≠ g8) (.slice B7 se.length b7) se from Kd.N_lower (hclo.s7 (fun k hk => ⟨NE3.out k hk, NE38.out k hk⟩)) HSZ.out); clear hok3; have HWK := Qz.mk hbk.size; have BK3 := Qz.mk (bkb BK3.out hbk); have BK8 := Qz.mk (bkb BK8.out hbk); have HBC := Qz.mk (HBC.out.trans (hbk.mono HBC.out.size)); clear hclo hbk hy0 hy1 hy2 hy3 hy4 hy5 hy6 hy7 hz0 hz1 hz2 hz3 hz4 hz5 hz6 hz7 hf0 hf1 hf2 hf3 hf4 hf5 hf6 hf7; have hy0 : wk.cell? ⟨g3, 0, none⟩ = some (.int .u64 P) := (bc_ BK3.out 0).trans rfl; have hy1 : wk.cell? ⟨g3, 1, none⟩ = some (.int .i64 (n : Int)) := (bc_ BK3.out 1).trans rfl; have hy2 : wk.cell? ⟨g3, 2, none⟩ = some (.int .i64 T) := (bc_ BK3.out 2).trans rfl; have hy3 : wk.cell? ⟨g3, 3, none⟩ = some (.slice A3 co.length c3) := (bc_ BK3.out 3).trans rfl; have hy4 : wk.cell? ⟨g3, 4, none⟩ = some (.slice A4 ac.length c4) := (bc_ BK3.out 4).trans rfl; have hy5 : wk.cell? ⟨g3, 5, none⟩ = some (.slice A5 ta.length c5) := (bc_ BK3.out 5).trans rfl; have hy6 : wk.cell? ⟨g3, 6, none⟩ = some (.int .i64 R) := (bc_ BK3.out 6).trans rfl; have hy7 : wk.cell? ⟨g3, 7, none⟩ = some (.slice A7 se.length c7) := (bc_ BK3.out 7).trans rfl; have hf0 := bf_ BK3.out 0; have hf1 := bf_ BK3.out 1; have hf2 := bf_ BK3.out 2; have hf3 := bf_ BK3.out 3; have hf4 := bf_ BK3.out 4; have hf5 := bf_ BK3.out 5; have hf6 := bf_ BK3.out 6; have hf7 := bf_ BK3.out 7))
 have hKS := kept8 wk g3 (.int .u64 P) (.int .i64 (n : Int)) (.int .i64 T) (.slice B3 co.length b3) (.slice B4 ac.length b4) (.slice B5 ta.length b5) (.int .i64 R) (.slice B7 se.length b7)
 have hBS := below8 HBC.out GE3.out (.int .u64 P) (.int .i64 (n : Int)) (.int .i64 T) (.slice B3 co.length b3) (.slice B4 ac.length b4) (.slice B5 ta.length b5) (.int .i64 R) (.slice B7 se.length b7)
 have hCS := blk8 BK3.out (.int .u64 P) (.int .i64 (n : Int)) (.int .i64 T) (.slice B3 co.length b3) (.slice B4 ac.length b4) (.slice B5 ta.length b5) (.int .i64 R) (.slice B7 se.length b7)
 rw [show ((((((((wk.setCell ⟨g3, 0, none⟩ (.int .u64 P)).setCell ⟨g3, 1, none⟩ (.int .i64 (n : Int))).setCell ⟨g3, 2, none⟩ (.int .i64 T)).setCell ⟨g3, 3, none⟩ (.slice B3 co.length b3)).setCell ⟨g3, 4, none⟩ (.slice B4 ac.length b4)).setCell ⟨g3, 5, none⟩ (.slice B5 ta.length b5)).setCell ⟨g3, 6, none⟩ (.int .i64 R)).setCell ⟨g3, 7, none⟩ (.slice B7 se.length b7)) = put8 wk g3 (.int .u64 P) (.int .i64 (n : Int)) (.int .i64 T) (.slice B3 co.length b3) (.slice B4 ac.length b4) (.slice B5 ta.length b5) (.int .i64 R) (.slice B7 se.length b7) from rfl]
 have BK8 := Qz.mk (bkk BK8.out hKS (fun e => NE8.out e.symm))
 have BK3 := Qz.mk hCS
 have HBC := Qz.mk hBS
 have HF3 := Qz.mk (Kd.F_kept HF3.out hKS (fun k hk e => hk.1 e))
 have HF4 := Qz.mk (Kd.F_kept HF4.out hKS (fun k hk e => hk.1 e))
 have HF5 := Qz.mk (Kd.F_kept HF5.out hKS (fun k hk e => hk.1 e))
 have HN7 := Qz.mk (Kd.N_kept HN7.out hKS (fun k hk e => hk.1 e))
 clear hy0 hy1 hy2 hy3 hy4 hy5 hy6 hy7 hf0 hf1 hf2 hf3 hf4 hf5 hf6 hf7
 clear hKS hBS hCS
 generalize hwl : put8 wk g3 (.int .u64 P) (.int .i64 (n : Int)) (.int .i64 T) (.slice B3 co.length b3) (.slice B4 ac.length b4) (.slice B5 ta.length b5) (.int .i64 R) (.slice B7 se.length b7) = wl at BK8 BK3 HBC HF3 HF4 HF5 HN7 ⊢
 clear hwl
 go_upto_region 10 with (go_at_call 51; refine (swap.calls n P T R g3 w.heap.size (.slice B3 co.length b3) (.slice B5 ta.length b5) (.slice B7 se.length b7) B4 b4 ac se (fun k => k ≠ g3 ∧ k ≠ g8) _ A1 c1 l1 A2 c2 l2 wl HN1.out HN2.out HR0.out HR2.out HLA.out BK3.out (Kd.V_mk HLB4.out HF4.out) (fun k hk => ⟨hk.1, hk.2.1⟩) HN7.out (fun k hk => hk.1) GE3.out HBC.out.size HAP.out (fun k => k < w.heap.size) (Kd.F_below (Kd.C_F (Kd.heap_slice 51 (Kd.heap_slice 22 (Kd.heap_int .u64))) H1.out) HBC.out) (Kd.F_below (Kd.C_F (Kd.heap_slice 22 (Kd.heap_int .u64)) H2.out) HBC.out) (fun k hk => ⟨fun e => by have h1 := GE3.out; omega, fun e => by have h1 := HVB.out k e; have h2 := HSZ.out; omega⟩) HL1.out HL2.out HL3.out HSL.out HDD.out).mono ?_; rintro e ws ⟨G1, d1, G2, d2, vq, rfl, hC1, hd1, hC2, hd2, hbk3, hNq, hKq, hBq⟩; obtain ⟨B8, b8, rfl⟩ := Kd.N_slice hNq; have hg8t := bkk BK8.out hKq (fun e => e.elim (fun e => NE8.out e.symm) (fun e => by have h1 := HVB.out g8 e; have h2 := GL8.out; omega)); have HG1 := Qz.mk hC1; have HG2 := Qz.mk hC2; clear hg8t; have HD1 := Qz.mk hd1; have HD2 := Qz.mk hd2; have BK3 := Qz.mk hbk3; have hsl8 := blt BK8.out; have HNQ := Qz.mk (Kd.N_mono hNq (fun k hk => (by rcases hk with hk | hk; exact hk.2; intro e; omega : k ≠ g8))); clear hsl8; have BK8 := Qz.mk (bkk BK8.out hKq (fun e => e.elim (fun e => NE8.out e.symm) (fun e => by have h1 := HVB.out g8 e; have h2 := GL8.out; omega))); have HF3 := Qz.mk (Kd.F_kept HF3.out hKq (fun k hk e => e.elim hk.1 hk.2.1)); have HF4 := Qz.mk (Kd.F_kept HF4.out hKq (fun k hk e => e.elim hk.1 hk.2.1)); have HF5 := Qz.mk (Kd.F_kept HF5.out hKq (fun k hk e => e.elim hk.1 hk.2.1)); have HBC := Qz.mk (HBC.out.trans hBq); clear hC1 hC2 hd1 hd2 hbk3 hNq hKq hBq HN7)
 have BK3 := Qz.mk (bkd BK3.out)
 have BK8 := Qz.mk (bkd BK8.out)
 have HBC := Qz.mk (bd1 HBC.out)
 have HF3 := Qz.mk (Kd.F_drew HF3.out)
 have HF4 := Qz.mk (Kd.F_drew HF4.out)
 have HF5 := Qz.mk (Kd.F_drew HF5.out)
 have HNQ := Qz.mk (Kd.N_drew HNQ.out)
 have HG1 := Qz.mk (show Kd.F (Kd.slice 51 kD) ws.drew (Typ ws.drew) G1 n _ from Kd.F_drew HG1.out)
 have HG2 := Qz.mk (show Kd.F kD ws.drew (Typ ws.drew) G2 n _ from Kd.F_drew HG2.out)
 refine start_ (n := 7) (S := fun w' => w'.cell? ⟨g3, 0, none⟩ = some (.int .u64 P) ∧ w'.cell? ⟨g3, 1, none⟩ = some (.int .i64 (n : Int)) ∧ w'.cell? ⟨g3, 2, none⟩ = some (.int .i64 T) ∧ w'.cell? ⟨g3, 3, none⟩ = some (.slice B3 co.length b3) ∧ w'.cell? ⟨g3, 4, none⟩ = some (.slice B4 ac.length b4) ∧ w'.cell? ⟨g3, 5, none⟩ = some (.slice B5 ta.length b5) ∧ w'.cell? ⟨g3, 6, none⟩ = some (.int .i64 (R + 1)) ∧ w'.cell? ⟨g3, 7, none⟩ = some (.slice B8 (iRun (now (R + 1) ac) (R + 1) n l1 l2 se n).2.2.length b8)) (ds := [5]) #[false, false, false, false, false, false, false] (by kernel_rfl) rfl rfl ⟨(bc_ BK3.out 0).trans rfl, (bc_ BK3.out 1).trans rfl, (bc_ BK3.out 2).trans rfl, (bc_ BK3.out 3).trans rfl, (bc_ BK3.out 4).trans rfl, (bc_ BK3.out 5).trans rfl, (bc_ BK3.out 6).trans rfl, (bc_ BK3.out 7).trans rfl⟩ (fun hHeld => ?_)
 generalize ws.drew = wt at HG1 HG2 BK3 BK8 HBC HF3 HF4 HF5 HNQ hHeld ⊢
 refine with_tabW exch.tab10 exch.bits10 (fun HT_ HW_ => ?_)
 refine pure_ (i := 0) (N := some 51) (v := ?_) (a' := ?_) #[true, false, false, false, false, false, false] rfl rfl (any_of HT_.out (by kernel_rfl)) (fun _ _ _ h => h) (Or.inl ⟨by rfl, ?_⟩) ?_ ?_
 rotate_left
 ·intro w'
  go_simp
  with_reducible rfl
 rotate_left
 ·simp only [aw_]
  rfl
 refine pure_ (i := 1) (N := some 52) (v := ?_) (a' := ?_) #[true, true, false, false, false, false, false] rfl rfl (any_of HT_.out (by kernel_rfl)) (fun _ _ _ h => h) (Or.inl ⟨by rfl, ?_⟩) ?_ ?_
 rotate_left
 ·intro w'
  go_simp
  with_reducible rfl
 rotate_left
 ·simp only [aw_]
  rfl
 refine take_ (i := 2) (N := some 53) (v := ?_) (a' := ?_) #[true, true, true, false, false, false, false] rfl rfl (take_ofW HT_.out HW_.out (by kernel_rfl)) (fun _ _ _ h => h) (Or.inl ⟨by rfl, ?_⟩) hHeld ?_ ?_
 rotate_left
 ·rintro w' ⟨s0, s1, s2, s3, s4, s5, s6, s7⟩
  go_simp
  with_reducible rfl
 rotate_left
 ·simp only [aw_]
  rfl
 refine pure_ (i := 3) (N := some 6) (v := ?_) (a' := ?_) #[true, true, true, true, false, false, false] rfl rfl (any_of HT_.out (by kernel_rfl)) (fun _ _ _ h => h) (Or.inl ⟨by rfl, ?_⟩) ?_ ?_
 rotate_left
 ·intro w'
  go_simp
  with_reducible rfl
 rotate_left
 ·simp only [aw_]
  rfl
 refine pure_ (i := 4) (N := some 7) (v := ?_) (a' := ?_) #[true, true, true, true, true, false, false] rfl rfl (any_of HT_.out (by kernel_rfl)) (fun _ _ _ h => h) (Or.inl ⟨by rfl, ?_⟩) ?_ ?_
 rotate_left
 ·intro w'
  go_simp
  with_reducible rfl
 rotate_left
 ·simp only [aw_]
  rfl
 refine last_ (i := 5) (N := none) #[true, true, true, true, true, true, false] rfl rfl (one_of HT_.out (by kernel_rfl)) (by decide) (fun K hK => ?_)
 have hv0 : wt.cell? ⟨g8, 0, none⟩ = some (.int .u64 0) := (bc_ BK8.out 0).trans rfl
 have hw0 := bf_ BK8.out 0
 have hv1 : wt.cell? ⟨g8, 1, none⟩ = some (.int .i64 0) := (bc_ BK8.out 1).trans rfl
 have hw1 := bf_ BK8.out 1
 have hv2 : wt.cell? ⟨g8, 2, none⟩ = some (.int .i64 0) := (bc_ BK8.out 2).trans rfl
 have hw2 := bf_ BK8.out 2
 have hv3 : wt.cell? ⟨g8, 3, none⟩ = some (.slice none 0 0) := (bc_ BK8.out 3).trans rfl
 have hw3 := bf_ BK8.out 3
 have hv4 : wt.cell? ⟨g8, 4, none⟩ = some (.slice none 0 0) := (bc_ BK8.out 4).trans rfl
 have hw4 := bf_ BK8.out 4
 have hv5 : wt.cell? ⟨g8, 5, none⟩ = some (.slice none 0 0) := (bc_ BK8.out 5).trans rfl
 have hw5 := bf_ BK8.out 5
 have hv6 : wt.cell? ⟨g8, 6, none⟩ = some (.int .i64 0) := (bc_ BK8.out 6).trans rfl
 have hw6 := bf_ BK8.out 6
 have hv7 : wt.cell? ⟨g8, 7, none⟩ = some (.slice none 0 0) := (bc_ BK8.out 7).trans rfl
 have hw7 := bf_ BK8.out 7
 refine skip_ (w1 := ?_) (by rfl) rfl ?_ ?_
 rotate_left
 ·go_simp
  rfl
 refine hK.out _ _ ?_
 clear hK K
 refine pure_ (i := 6) (N := some 9) (v := ?_) (a' := ?_) #[true, true, true, true, true, true, true] rfl rfl (any_of HT_.out (by kernel_rfl)) (fun _ _ _ h => h) (Or.inl ⟨by rfl, ?_⟩) ?_ ?_
 rotate_left
 ·intro w'
  go_simp
  with_reducible rfl
 rotate_left
 ·simp only [aw_]
  rfl
 refine done_ (done_of HT_.out (by kernel_rfl)) ?_
 rw [show ((((((((wt.setCell ⟨g8, 0, none⟩ (.int .u64 P)).setCell ⟨g8, 1, none⟩ (.int .i64 (n : Int))).setCell ⟨g8, 2, none⟩ (.int .i64 T)).setCell ⟨g8, 3, none⟩ (.slice B3 co.length b3)).setCell ⟨g8, 4, none⟩ (.slice B4 ac.length b4)).setCell ⟨g8, 5, none⟩ (.slice B5 ta.length b5)).setCell ⟨g8, 6, none⟩ (.int .i64 (R + 1))).setCell ⟨g8, 7, none⟩ (.slice B8 (iRun (now (R + 1) ac) (R + 1) n l1 l2 se n).2.2.length b8)) = put8 wt g8 (.int .u64 P) (.int .i64 (n : Int)) (.int .i64 T) (.slice B3 co.length b3) (.slice B4 ac.length b4) (.slice B5 ta.length b5) (.int .i64 (R + 1)) (.slice B8 (iRun (now (R + 1) ac) (R + 1) n l1 l2 se n).2.2.length b8) from rfl]
 have hK8 := kept8 wt g8 (.int .u64 P) (.int .i64 (n : Int)) (.int .i64 T) (.slice B3 co.length b3) (.slice B4 ac.length b4) (.slice B5 ta.length b5) (.int .i64 (R + 1)) (.slice B8 (iRun (now (R + 1) ac) (R + 1) n l1 l2 se n).2.2.length b8)
 have hB8 := below8 HBC.out GE8.out (.int .u64 P) (.int .i64 (n : Int)) (.int .i64 T) (.slice B3 co.length b3) (.slice B4 ac.length b4) (.slice B5 ta.length b5) (.int .i64 (R + 1)) (.slice B8 (iRun (now (R + 1) ac) (R + 1) n l1 l2 se n).2.2.length b8)
 have hb8 := blk8 BK8.out (.int .u64 P) (.int .i64 (n : Int)) (.int .i64 T) (.slice B3 co.length b3) (.slice B4 ac.length b4) (.slice B5 ta.length b5) (.int .i64 (R + 1)) (.slice B8 (iRun (now (R + 1) ac) (R + 1) n l1 l2 se n).2.2.length b8)
 have HF3 := Qz.mk (Kd.F_now (Kd.F_kept HF3.out hK8 (fun k hk e => hk.2.2 e)))
 have HF4 := Qz.mk (Kd.F_now (Kd.F_kept HF4.out hK8 (fun k hk e => hk.2.2 e)))
 have HF5 := Qz.mk (Kd.F_now (Kd.F_kept HF5.out hK8 (fun k hk e => hk.2.2 e)))
 have HNQ := Qz.mk (Kd.N_reads' (Kd.N_kept HNQ.out hK8 (fun k hk e => hk e)))
 have HG1 := Qz.mk (typF_kept HG1.out hK8 BK8.out)
 have HG2 := Qz.mk (typF_kept HG2.out hK8 BK8.out)
 have hl := iRun_le (now (R + 1) ac) (R + 1) n l1 l2 se n
 have HL := Qz.mk hl.2
 clear hl hK8
 generalize hwz : put8 wt g8 (.int .u64 P) (.int .i64 (n : Int)) (.int .i64 T) (.slice B3 co.length b3) (.slice B4 ac.length b4) (.slice B5 ta.length b5) (.int .i64 (R + 1)) (.slice B8 (iRun (now (R + 1) ac) (R + 1) n l1 l2 se n).2.2.length b8) = wz at *
 clear hwz
 try go_wp2
 refine bodyPost_ret (results_list (rs := [.tmp 6, .tmp 7, .cell 8 30, .tmp 9]) rfl (by simp) (.tmp (.tmp (.cell g8 30 #[.int .u64 P, .int .i64 (n : Int), .int .i64 T, .slice B3 co.length b3, .slice B4 ac.length b4, .slice B5 ta.length b5, .int .i64 (R + 1), .slice B8 (iRun (now (R + 1) ac) (R + 1) n l1 l2 se n).2.2.length b8] (0, 0) _ rfl hb8 Try.underlying30 rfl (by kernel_rfl) (.tmp .nil))))) (by rfl) ?_
 refine ⟨G1, d1, G2, d2, B3, b3, B4, b4, B5, b5, B8, b8, ?_⟩
 rw [HL.out.1, HL.out.2]
 exact ⟨rfl, HG1.out, HD1.out, HG2.out, HD2.out, k30_mk wz (⟨⟨P, (n : Int), T⟩, co, ac, ta, R + 1, (iRun (now (R + 1) ac) (R + 1) n l1 l2 se n).2.2⟩ : S30) HLB3.out HF3.out HLB4.out HF4.out HLB5.out HF5.out HNQ.out.2.1 HNQ.out.2.2, hB8⟩
end
end Go.Proofs.Ytkaikgbcnmfppaa.Nb
