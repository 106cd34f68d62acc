/- The chapter's example: its values, and what the program's functions come to there. -/
import Derived.Test.YtkaikgbcnmfppaaNbNew
import Derived.Test.YtkaikgbcnmfppaaNbTie
import Derived.Test.YtkaikgbcnmfppaaNbFNetRead
import Derived.Test.YtkaikgbcnmfppaaNbNewA
namespace Go.Proofs.Ytkaikgbcnmfppaa.Nb
open Go Go.RowKit Go.Proofs.YtkaikgbcnmfppaaW.PrintWords Go.Proofs.YtkaikgbcnmfppaaW.PrintLast Go.Proofs.YtkaikgbcnmfppaaW.PrintMore
open Go.Proofs.Ytkaikgbcnmfppaa.Num Go.Proofs.Ytkaikgbcnmfppaa.Arith
set_option linter.unusedVariables false
set_option linter.unusedSimpArgs false
noncomputable section
def avActs : List S72 := [⟨1, 2, 3, false, [9]⟩, ⟨1, 2, 0, true, []⟩]
def avT : List (List Int) := [[], [], [], [], []]
def avX0 : S30 := ⟨⟨11, 5, 1⟩, [2], avActs, avT, 0, []⟩
def avP : List (List (List Int)) := [avT, [[], [], [4], [4], []], avT, avT, avT]
def avS : List (List Int) := [[], [7], [], [], []]
def avCame : List (List (List Int)) := [avT, avT, [[], [9], [], [], []], [[], [4], [], [], []], avT]
def avHeard : List (List Int) := [[], [], [], [], []]
def avSent : List S77 := [⟨1, 2, 3, [9]⟩, ⟨1, 2, 4, [4]⟩]
def avX1 : S30 := ⟨⟨11, 5, 1⟩, [2], avActs, avT, 1, avSent⟩
theorem av_prime : isP 11 = true := Ev.unique (field_Is_ev 11) (Ev.of (fun k => fIs.mono 11 k) (k := 60) (by decide +kernel))
theorem av_setup : setupV 11 5 1 = 0 := by
 unfold setupV
 rw [if_pos ⟨av_prime, by decide⟩]
theorem av_corr : corrV 11 5 1 [2] = 0 := by
 unfold corrV
 rw [if_pos av_setup]
 decide
theorem av_check : checkV 11 5 1 [2] avActs 5 0 = 0 := by
 unfold checkV
 rw [if_pos av_corr]
 decide +kernel
theorem av_run : iRun (now 1 avActs) 1 5 avP avS [] 5 = (avCame, avHeard, avSent) := by rfl
theorem av_small : Small [2] avActs avT [] := ⟨by decide, by decide, by decide, by decide, by decide, by decide, by decide⟩
theorem av_k : ∃ k, shS.f k 11 5 1 = some 0 ∧ net_Check.f k 11 5 1 [2] avActs avT 0 [] = some 0 := by
 obtain ⟨K1, h1⟩ := share_Setup_ev 11 5 1
 obtain ⟨K2, h2⟩ := net_Check_ev 11 5 1 [2] avActs avT 0 []
 refine ⟨max K1 K2, ?_, ?_⟩
 ·have h := h1 (max K1 K2) (by omega)
  rw [av_setup] at h
  exact h
 ·have h := h2 (max K1 K2) (by omega)
  rw [show avT.length = 5 from rfl, av_check] at h
  exact h
theorem av_read : net_Read.f 60 11 [12] 2 = some ([1, 0], 0) := by decide +kernel
theorem av_same1 : j1S.f 5 [9] [9] = some true := by decide +kernel
theorem av_same2 : j1S.f 5 [4] [4] = some true := by decide +kernel
theorem av_same3 : j1S.f 5 [1, 0] [1, 0] = some true := by decide +kernel
theorem av_apart : apart (now 1 avActs) := by
 show List.Pairwise _ [(⟨1, 2, 3, false, [9]⟩ : S72), ⟨1, 2, 0, true, []⟩]
 decide
theorem C_ints {k : IntKind} {t : TypeId} {w : World} {g : Nat} {xs : List Int} (h : w.heap[g]? = some (.cells (xs.map (Value.int k)).toArray t (0, 0))) (hm : xs.length ≤ 9223372036854775807) : (Kd.int k).C w (some ⟨g, 0, none⟩) xs.length xs :=
 ⟨rfl, hm, fun _ => ⟨_, rfl, fun j p hj => ⟨[.int k p], rfl, rfl, fun i u hu => by
  cases i with
  | succ i => simp at hu
  | zero =>
   simp at hu
   subst hu
   rw [add_at]
   show w.cell? ⟨g, 0 + (j * 1 + 0), none⟩ = _
   rw [show 0 + (j * 1 + 0) = j from by omega, bc_ h j]
   simp [hj]⟩⟩⟩
theorem av_actsC {w : World} {g9 g : Nat} (h9 : w.heap[g9]? = some (.cells #[.int .u64 9] 22 (0, 0))) (h : w.heap[g]? = some (.cells #[.int .i64 1, .int .i64 2, .int .i64 3, .bool false, .slice (some ⟨g9, 0, none⟩) 1 1, .int .i64 1, .int .i64 2, .int .i64 0, .bool true, .slice none 0 0] 72 (0, 0))) : k72.C w (some ⟨g, 0, none⟩) 2 avActs := by
 have h9C : (Kd.int .u64).C w (some ⟨g9, 0, none⟩) 1 [9] := C_ints (xs := [9]) h9 (by decide)
 refine ⟨rfl, by decide, fun _ => ⟨_, rfl, fun j p hj => ?_⟩⟩
 have hc : ∀ (m : Nat) (u : Value), (#[.int .i64 1, .int .i64 2, .int .i64 3, .bool false, .slice (some ⟨g9, 0, none⟩) 1 1, .int .i64 1, .int .i64 2, .int .i64 0, .bool true, .slice none 0 0] : Array Value)[m]? = some u → w.cell? ((⟨g, 0, none⟩ : Addr).add m) = some u := fun m u hm => by
  rw [add_at]
  show w.cell? ⟨g, 0 + m, none⟩ = _
  rw [Nat.zero_add, bc_ h m]
  exact hm
 rcases j with _ | _ | j
 ·simp [avActs] at hj
  subst hj
  refine ⟨_, rfl, k72_mk w ⟨1, 2, 3, false, [9]⟩ (Nat.le_refl 1) h9C, fun i u hu => hc (0 * 5 + i) u ?_⟩
  rcases i with _ | _ | _ | _ | _ | i
  ·exact hu
  ·exact hu
  ·exact hu
  ·exact hu
  ·exact hu
  ·simp at hu
 ·simp [avActs] at hj
  subst hj
  refine ⟨_, rfl, k72_mk w ⟨1, 2, 0, true, []⟩ (Nat.le_refl 0) (Kd.C_nil _ _), fun i u hu => hc (1 * 5 + i) u ?_⟩
  rcases i with _ | _ | _ | _ | _ | i
  ·exact hu
  ·exact hu
  ·exact hu
  ·exact hu
  ·exact hu
  ·simp at hu
 ·simp [avActs] at hj
/-- A new payload of one number, put into a row. -/
def litW (w : World) (b i : Nat) (x : Int) : World := (w.alloc (Obj.cells #[Value.int .u64 x] 22 (0, 0))).setCell ⟨b, i, none⟩ (.slice (some ⟨w.heap.size, 0, none⟩) 1 1)
theorem lit_R (w : World) (nr : Nat) (hle : nr ≤ w.heap.size) (x : Int) : Kd.R (Kd.int .u64) 22 (w.alloc (Obj.cells #[Value.int .u64 x] 22 (0, 0))) nr (Data (w.alloc (Obj.cells #[Value.int .u64 x] 22 (0, 0)))) (.slice (some ⟨w.heap.size, 0, none⟩) 1 1) [x] := by
 have h := own_lit_of (enc := Value.int .u64) w nr 22 [x] hle (by simp)
 refine Kd.R_of_own h (fun k hk => ?_)
 have hk2 : w.heap.size = k := by simpa [Value.ownBlock] using hk
 subst hk2
 exact ⟨_, blk_new w _⟩
theorem Data.lt {w : World} {k : Nat} (h : Data w k) : k < w.heap.size := by
 obtain ⟨cs, hc⟩ := h
 exact blt hc
theorem rows_lit {w : World} {nr n : Nat} {rbs : List (Nat × Nat)} {G : List (List (List Int))} (h : Rows w nr n (Data w) rbs G) (hle : nr ≤ w.heap.size) {j b c i : Nat} {L : List (List Int)} (hb : rbs[j]? = some (b, c)) (hL : G[j]? = some L) (hi : i < n) (x : Int) :
  Rows (litW w b i x) nr n (Data (litW w b i x)) rbs (G.set j (L.set i [x])) := by
 have hA : Below w.heap.size w (w.alloc (Obj.cells #[Value.int .u64 x] 22 (0, 0))) := ba1 (Below.refl _ _) _
 have h1 : Rows (w.alloc (Obj.cells #[Value.int .u64 x] 22 (0, 0))) nr n (Data (w.alloc (Obj.cells #[Value.int .u64 x] 22 (0, 0)))) rbs G := h.move (fun b hb => hA.block b (hb.elim h.lt Data.lt))
 exact Rows.put h1 hb hL hi (lit_R w nr hle x)
theorem row_lit {w : World} {nr b n c : Nat} {L : List (List Int)} (h : kD.N 51 w nr (fun k => k = b ∨ Data w k) (.slice (some ⟨b, 0, none⟩) n c) L) (hle : nr ≤ w.heap.size) {i : Nat} (hi : i < n) (x : Int) :
  kD.N 51 (litW w b i x) nr (fun k => k = b ∨ Data (litW w b i x) k) (.slice (some ⟨b, 0, none⟩) n c) (L.set i [x]) := by
 have hA : Below w.heap.size w (w.alloc (Obj.cells #[Value.int .u64 x] 22 (0, 0))) := ba1 (Below.refl _ _) _
 have hlt := Kd.N_lt h b (by simp [Value.ownBlock])
 have h1 := row_move h (w1 := w.alloc (Obj.cells #[Value.int .u64 x] 22 (0, 0))) (fun k hk => hA.block k (hk.elim (fun e => e ▸ hlt) Data.lt))
 exact row_put h1 hi (lit_R w nr hle x)
theorem lit_kept (w : World) (b i : Nat) (x : Int) : Kept w (litW w b i x) (fun k => k = b) := Kept.setCell (S := fun k => k = b) (p := ⟨b, i, none⟩) (Kept.alloc (Kept.refl w _) _) (.inl rfl) _
theorem lit_below {w0 w : World} {base b : Nat} (h : Below base w0 w) (hle : base ≤ w.heap.size) (hb : base ≤ b) (i : Nat) (x : Int) : Below base w0 (litW w b i x) := (h.alloc hle _).setCell (p := ⟨b, i, none⟩) hb _
theorem lit_size (w : World) (b i : Nat) (x : Int) : w.heap.size ≤ (litW w b i x).heap.size := (lit_kept w b i x).1
theorem lit_cell {w : World} {a : Addr} {v : Value} (x : Int) (h : w.cell? a = some v) : (w.alloc (Obj.cells #[Value.int .u64 x] 22 (0, 0))).cell? a = some v := ((ba1 (Below.refl w.heap.size w) (Obj.cells #[Value.int .u64 x] 22 (0, 0))).cell (World.block_lt_of_cell? w _ h)).trans h
theorem lit_frozen {w : World} {b i : Nat} (x : Int) (hb : b < w.heap.size) (h : w.frozen? ⟨b, i, none⟩ = false) : (w.alloc (Obj.cells #[Value.int .u64 x] 22 (0, 0))).frozen? ⟨b, i, none⟩ = false := ((ba1 (Below.refl w.heap.size w) (Obj.cells #[Value.int .u64 x] 22 (0, 0))).frozen (p := ⟨b, i, none⟩) hb).trans h
/-- The state while the example's messages are laid. -/
structure Av (w0 w : World) (nr nn g1 g c h2 ch : Nat) (rbs : List (Nat × Nat)) (cs : Array Value) (G : List (List (List Int))) (H : List (List Int)) (x : S30) (A3 : Option Addr) (c3 : Nat) (A4 : Option Addr) (c4 : Nat) (A5 : Option Addr) (c5 : Nat) (A7 : Option Addr) (c7 : Nat) : Prop where
 hb : Below w0.heap.size w0 w
 nr2 : nr ≤ w.heap.size
 nr0 : w0.heap.size ≤ nr
 hr : Rows w nr 5 (Data w) rbs G
 ho : (kO 5).R 27 w nr (fun _ => True) (.slice (some ⟨g, 0, none⟩) 5 c) (rbs.map some)
 hh : kD.N 51 w nr (fun k => k = h2 ∨ Data w k) (.slice (some ⟨h2, 0, none⟩) 5 ch) H
 hn : h2 ∉ rbs.map (·.1)
 b1 : w.heap[g1]? = some (.cells cs 30 (0, 0))
 gl : g1 < nr
 hx : XF w (fun k => k < nn) x A3 c3 A4 c4 A5 c5 A7 c7
 nn : nn ≤ nr
section
variable {w0 w : World} {nr nn g1 g c h2 ch : Nat} {rbs : List (Nat × Nat)} {cs : Array Value} {G : List (List (List Int))} {H : List (List Int)} {x : S30} {A3 : Option Addr} {c3 : Nat} {A4 : Option Addr} {c4 : Nat} {A5 : Option Addr} {c5 : Nat} {A7 : Option Addr} {c7 : Nat}
theorem Av.o_kept (h : Av w0 w nr nn g1 g c h2 ch rbs cs G H x A3 c3 A4 c4 A5 c5 A7 c7) {b : Nat} {w1 : World} (hk : Kept w w1 (fun k => k = b)) {cb : Array Value} (hb : w.heap[b]? = some (.cells cb 51 (0, 0))) : (kO 5).R 27 w1 nr (fun _ => True) (.slice (some ⟨g, 0, none⟩) 5 c) (rbs.map some) :=
 Kd.R_mono (Kd.R_step (Kd.R_bound h.ho) (fun k hk' hlt => hk.2 k hlt (fun e => by
  obtain ⟨_, _, _, q, hq, cs, hc⟩ := hk'
  have hq2 : q = 27 := by simpa [Kd.scalar] using hq
  subst hq2
  rw [e, hb] at hc
  injection hc with hc
  injection hc with _ hc
  exact absurd hc (by decide)))) (fun _ _ => trivial)
theorem Av.put1 (h : Av w0 w nr nn g1 g c h2 ch rbs cs G H x A3 c3 A4 c4 A5 c5 A7 c7) {j b cb i : Nat} {L : List (List Int)} (hb : rbs[j]? = some (b, cb)) (hL : G[j]? = some L) (hi : i < 5) (y : Int) :
  Av w0 (litW w b i y) nr nn g1 g c h2 ch rbs cs (G.set j (L.set i [y])) H x A3 c3 A4 c4 A5 c5 A7 c7 := by
 have hk := lit_kept w b i y
 have hrow := h.hr.row j b cb L hb hL
 have hkm : b ∈ rbs.map (·.1) := List.mem_map.2 ⟨(b, cb), List.mem_of_getElem? hb, rfl⟩
 obtain ⟨cb2, hty⟩ := Kd.N_typed hrow.2.2 b (by simp [Value.ownBlock])
 have hne : h2 ≠ b := fun e => h.hn (e ▸ hkm)
 have hd : ∀ k, Data w k → k ≠ b := fun k ⟨cs', hc⟩ e => by
  rw [e, hty] at hc
  injection hc with hc
  injection hc with _ hc
  exact absurd hc (by decide)
 have hlt := Kd.N_lt h.hh h2 (by simp [Value.ownBlock])
 exact ⟨lit_below h.hb (Nat.le_trans h.nr0 h.nr2) (Nat.le_trans h.nr0 hrow.1) i y, Nat.le_trans h.nr2 (lit_size w b i y), h.nr0, rows_lit h.hr h.nr2 hb hL hi y, h.o_kept hk hty,
  row_move h.hh (fun k hk' => hk.2 k (hk'.elim (fun e => e ▸ hlt) Data.lt) (hk'.elim (fun e => by rw [e]; exact hne) (hd k))), h.hn, bkk h.b1 hk (fun e => by have := h.gl; have := hrow.1; omega), h.gl, h.hx.kept hk (fun k hk e => by have := h.nn; have := hrow.1; omega), h.nn⟩
theorem Av.put2 (h : Av w0 w nr nn g1 g c h2 ch rbs cs G H x A3 c3 A4 c4 A5 c5 A7 c7) (hle : nr ≤ h2) {i : Nat} (hi : i < 5) (y : Int) :
  Av w0 (litW w h2 i y) nr nn g1 g c h2 ch rbs cs G (H.set i [y]) x A3 c3 A4 c4 A5 c5 A7 c7 := by
 have hk := lit_kept w h2 i y
 obtain ⟨cb2, hty⟩ := Kd.N_typed h.hh h2 (by simp [Value.ownBlock])
 have hd : ∀ k, Data w k → k ≠ h2 := fun k ⟨cs', hc⟩ e => by
  rw [e, hty] at hc
  injection hc with hc
  injection hc with _ hc
  exact absurd hc (by decide)
 exact ⟨lit_below h.hb (Nat.le_trans h.nr0 h.nr2) (Nat.le_trans h.nr0 hle) i y, Nat.le_trans h.nr2 (lit_size w h2 i y), h.nr0,
  h.hr.move (fun b hb => hk.2 b (hb.elim h.hr.lt Data.lt) (hb.elim (fun hm e => h.hn (e ▸ hm)) (hd b))), h.o_kept hk hty, row_lit h.hh h.nr2 hi y, h.hn, bkk h.b1 hk (fun e => by have := h.gl; omega), h.gl, h.hx.kept hk (fun k hk e => by have := h.nn; omega), h.nn⟩
theorem Av.cell1 (h : Av w0 w nr nn g1 g c h2 ch rbs cs G H x A3 c3 A4 c4 A5 c5 A7 c7) {j b cb : Nat} (hb : rbs[j]? = some (b, cb)) (hj : j < 5) : w.cell? ⟨g, j, none⟩ = some (.slice (some ⟨b, 0, none⟩) 5 cb) := by
 have hO1 := (Kd.R_celln none h.ho (j : Int) (by omega) (by omega)).1
 simp only [Int.toNat_natCast] at hO1
 rw [hO1]
 simp [rdOf, List.getD_eq_getElem?_getD, hb, encO]
end
theorem eff_lt {B : Nat} {l : List S72} {f t : Int} {d : List Int} (hl : ∀ a ∈ l, a.f4.length < B) (hd : d.length < B) : (eff l f t d).length < B := by
 unfold eff
 split
 ·rename_i a ha
  have := hl a (List.mem_of_find?_eq_some ha)
  split
  ·simp; omega
  ·exact this
 ·exact hd
theorem av_exch {w : World} {k : Nat} {A3 : Option Addr} {c3 : Nat} {A4 : Option Addr} {c4 : Nat} {A5 : Option Addr} {c5 : Nat} {A7 : Option Addr} {c7 : Nat} {A1 : Option Addr} {c1 : Nat} {A2 : Option Addr} {c2 : Nat}
  (hx : k30.K w avX0 (wv avX0 A3 c3 A4 c4 A5 c5 A7 c7).toList) (hc : net_Check.f k 11 5 1 [2] avActs avT 0 [] = some 0) (hcl : Small [2] avActs avT []) (h1 : (Kd.slice 51 kD).C w A1 5 avP) (h2 : kD.C w A2 5 avS) :
  Calls Try.prog 20 #[.agg #[.int .u64 11, .int .i64 5, .int .i64 1, .slice A3 1 c3, .slice A4 avActs.length c4, .slice A5 5 c5, .int .i64 0, .slice A7 0 c7], .slice A1 5 c1, .slice A2 5 c2] w (ExchPost w avCame avHeard avX1 0) := by
 have h := exch_ok k 5 11 1 0 [2] avActs avT [] A3 c3 A4 c4 A5 c5 A7 c7 A1 c1 avP A2 c2 avS w hx hc hcl h1 h2 (by decide) (by decide) (by decide) (by decide) (by decide) av_apart rfl rfl (by decide) (by decide)
  (fun f t d hd => eff_lt (by decide) (by
   rcases hd with hd | ⟨x, hx, hd⟩
   ·exact (show ∀ d ∈ avS, d.length < 17592186044416 from by decide) d hd
   ·exact (show ∀ x ∈ avP, ∀ d ∈ x, d.length < 17592186044416 from by decide) x hx d hd))
 have e := av_run
 simp only [show (0 : Int) + 1 = 1 from rfl] at h
 rw [e] at h
 exact h
theorem same_below {w w1 : World} {o : Obj} (h : Drawn0 (w.alloc o) w1) : Below w.heap.size w w1 := by
 obtain ⟨n, rfl⟩ := h.out
 exact bd_ (ba1 (Below.refl _ _) _) n
theorem lit_C (w : World) (x : Int) : (Kd.int .u64).C (w.alloc (Obj.cells #[Value.int .u64 x] 22 (0, 0))) (some ⟨w.heap.size, 0, none⟩) 1 [x] := C_ints (xs := [x]) (blk_new w _) (by simp)
theorem lit_C2 (w : World) (x y : Int) : (Kd.int .u64).C (w.alloc (Obj.cells #[Value.int .u64 x, Value.int .u64 y] 22 (0, 0))) (some ⟨w.heap.size, 0, none⟩) 2 [x, y] := C_ints (xs := [x, y]) (blk_new w _) (by simp)
end
end Go.Proofs.Ytkaikgbcnmfppaa.Nb
