/- net.swap: one round. Made by mk_swap.py. -/
import Derived.Test.YtkaikgbcnmfppaaNbSwapB
import Derived.Carry
namespace Go.Proofs.Ytkaikgbcnmfppaa.Nb
open Go Go.RowKit Go.Proofs.YtkaikgbcnmfppaaW.PrintWords Go.Proofs.YtkaikgbcnmfppaaW.PrintLast Go.Proofs.YtkaikgbcnmfppaaW.PrintMore
attribute [local go_sem] max2_int min2_int max_two min_two max_three min_three max_four min_four
set_option linter.unusedVariables false
set_option linter.unusedSimpArgs false
/-- The acts of a round. -/
def now (R : Int) (l : List S72) : List S72 := l.filter (fun a => a.f0 == R)
def apart (l : List S72) : Prop := l.Pairwise (fun a b => ¬ (b.f1 = a.f1 ∧ b.f2 = a.f2))
theorem now_take {R : Int} {la : List S72} {i : Nat} (h : i < la.length) (h0 : (r72 la (i : Int)).f0 = R) : now R (la.take (i + 1)) = now R (la.take i) ++ [r72 la (i : Int)] := by
 have he : r72 la (i : Int) = la[i] := by simp [r72, List.getD_eq_getElem?_getD, h]
 unfold now
 rw [List.take_succ_eq_append_getElem h, List.filter_append, he]
 rw [he] at h0
 simp [h0]
theorem now_skip {R : Int} {la : List S72} {i : Nat} (h : i < la.length) (h0 : (r72 la (i : Int)).f0 ≠ R) : now R (la.take (i + 1)) = now R (la.take i) := by
 have he : r72 la (i : Int) = la[i] := by simp [r72, List.getD_eq_getElem?_getD, h]
 unfold now
 rw [List.take_succ_eq_append_getElem h, List.filter_append]
 rw [he] at h0
 simp [h0]
theorem now_new {R : Int} {la : List S72} {i : Nat} (h : i < la.length) (h0 : (r72 la (i : Int)).f0 = R) (hp : apart (now R la)) : (now R (la.take i)).find? (fun b => (r72 la (i : Int)).f1 == b.f1 && (r72 la (i : Int)).f2 == b.f2) = none := by
 have h1 : apart (now R (la.take (i + 1))) := by
  have hs : List.Sublist (now R (la.take (i + 1))) (now R la) := List.Sublist.filter _ (List.take_sublist _ _)
  exact List.Pairwise.sublist hs hp
 rw [now_take h h0] at h1
 unfold apart at h1
 rw [List.pairwise_append] at h1
 rw [List.find?_eq_none]
 intro b hb hq
 simp only [Bool.and_eq_true, beq_iff_eq] at hq
 exact h1.2.2 b hb _ (by simp) hq
theorem mset_ne2 {w : World} {g b : Nat} {cs : Array Value} {t : TypeId} {f : Nat × Nat} {es : Array MapEntry} {c : Nat} (h : w.heap[g]? = some (.cells cs t f)) (h' : w.heap[b]? = some (.map es c)) : g ≠ b := by
 rintro rfl
 rw [h] at h'
 cases h'
def swap.T7 : Bool × List (List Nat × List Nat) := (true, [([], []), ([0], [0]), ([], []), ([2], [2]), ([3], [3]), ([4], [4]), ([1, 5], [1, 5])])
def swap.B7 : List Nat := [0, 1, 0, 4, 12, 28, 63]
theorem swap.tab7 : rtab .any (opsOf Try.f51 7) = swap.T7 := by kernel_rfl
theorem swap.bits7 : waitsOk swap.T7.2 swap.B7 = true := by kernel_rfl
def swap.T19 : Bool × List (List Nat × List Nat) := (true, [([], []), ([], []), ([0, 1], [0, 1]), ([2], [2]), ([], []), ([], []), ([], []), ([6], [6]), ([], []), ([8], [8]), ([], []), ([], []), ([10, 11], [10, 11]), ([12], [12]), ([], []), ([13, 14], [13, 14]), ([15], [15]), ([5, 7, 9, 16], [5, 7, 9, 16]), ([3, 4, 0, 1, 2, 3, 4, 5, 6, 7, 8, 9, 10, 11, 12, 13, 14, 15, 16, 17], [3, 4]), ([18, 17, 17, 0, 1, 2, 3, 4, 5, 6, 7, 8, 9, 10, 11, 12, 13, 14, 15, 16, 17], [17, 18])])
def swap.B19 : List Nat := [0, 0, 3, 7, 0, 0, 0, 64, 0, 256, 0, 0, 3072, 7168, 0, 31744, 64512, 131040, 262143, 524287]
theorem swap.tab19 : rtab .any (opsOf Try.f51 19) = swap.T19 := by kernel_rfl
theorem swap.bits19 : waitsOk swap.T19.2 swap.B19 = true := by kernel_rfl
set_option maxHeartbeats 8000000 in
set_option maxRecDepth 100000 in
theorem swap.calls (n : Nat) (P T R : Int) (gw base : Nat) (vc vt vs : Value) (Aa : Option Addr) (ca : Nat) (la : List S72) (ss : List S77) (ok okA : Nat → Prop) (A1 : Option Addr) (c1 : Nat) (l1 : List (List (List Int))) (A2 : Option Addr) (c2 : Nat) (l2 : List (List Int)) (w : World)
  (hn : 1 ≤ n) (hn2 : n ≤ 1000) (hR : 0 ≤ R) (hR2 : R < 1048576) (hla : la.length ≤ 65536)
  (hgw : w.heap[gw]? = some (.cells #[.int .u64 P, .int .i64 (n : Int), .int .i64 T, vc, .slice Aa la.length ca, vt, .int .i64 R, vs] 30 (0, 0))) (hA : Kd.V k72 72 w w.heap.size okA (.slice Aa la.length ca) la) (hokA : ∀ k, okA k → k ≠ gw ∧ some k ≠ vs.ownBlock)
  (hs : Kd.N k77 77 w base ok vs ss) (hokw : ∀ k, ok k → k ≠ gw) (hbw : base ≤ gw) (hbs : base ≤ w.heap.size) (hap : apart (now (R + 1) la)) (okC : Nat → Prop) (hp1 : Kd.F (Kd.slice 51 kD) w okC A1 l1.length l1) (hp2 : Kd.F kD w okC A2 l2.length l2) (hokC : ∀ k, okC k → k ≠ gw ∧ some k ≠ vs.ownBlock) (hl1 : l1.length = n) (hl2 : l2.length = n) (hl3 : ∀ x ∈ l1, x.length = n) (hsl : ss.length + n * (n + 1) < 4000000000000)
  (hdd : ∀ f t d, (d ∈ l2 ∨ ∃ x ∈ l1, d ∈ x) → (eff (now (R + 1) la) f t d).length < 17592186044416) :
  Calls Try.prog 51 #[.pointer (some ⟨gw, 0, none⟩), .slice A1 l1.length c1, .slice A2 l2.length c2] w fun e w' => ∃ G1 d1 G2 d2 vq, e = .returned (.tuple #[.slice G1 n d1, .slice G2 n d2]) ∧ Kd.F (Kd.slice 51 kD) w' (Typ w') G1 n (iRun (now (R + 1) la) (R + 1) n l1 l2 ss n).1 ∧ n ≤ d1 ∧ Kd.F kD w' (Typ w') G2 n (iRun (now (R + 1) la) (R + 1) n l1 l2 ss n).2.1 ∧ n ≤ d2 ∧ w'.heap[gw]? = some (.cells #[.int .u64 P, .int .i64 (n : Int), .int .i64 T, vc, .slice Aa la.length ca, vt, .int .i64 (R + 1), vq] 30 (0, 0)) ∧ (Kd.N k77 77 w' base (fun k => ok k ∨ w.heap.size ≤ k) vq (iRun (now (R + 1) la) (R + 1) n l1 l2 ss n).2.2) ∧ Kept w w' (fun k => k = gw ∨ some k = vs.ownBlock) ∧ Below base w w' := by
 have hu30 := Try.underlying30
 have hu24 := Try.underlying24
 have hu72 := Try.underlying72
 have hu77 := Try.underlying77
 have hu97 := und97
 have hmf : ∀ (fn : Fn) (first cap : Array Value) (w : World), (Instr.makeFunc fn first cap).run Try.prog w = .ok (.func fn first cap) w := fun _ _ _ _ => rfl
 have hmm := @run_makeMap Try.prog
 have GW := Qz.mk hgw
 have HA := Qz.mk (Kd.V_bound hA)
 have HS := Qz.mk hs
 have HOW := Qz.mk hokw
 have HOA := Qz.mk hokA
 have HBW := Qz.mk hbw
 have HBS := Qz.mk hbs
 have HR0 := Qz.mk hR
 have HR2 := Qz.mk hR2
 have HN1 := Qz.mk hn
 have HN2 := Qz.mk hn2
 have HLA := Qz.mk hla
 have HAP := Qz.mk hap
 have HP1 := Qz.mk (Kd.F_bound hp1)
 have HP2 := Qz.mk (Kd.F_bound hp2)
 have HOC := Qz.mk hokC
 have HL1 := Qz.mk hl1
 have HL2 := Qz.mk hl2
 have HL3 := Qz.mk hl3
 have HSL := Qz.mk hsl
 have HDD := Qz.mk hdd
 clear hp1 hp2 hokC hl1 hl2 hl3 hsl hdd
 have hwr : wrap64 (R + 1) = R + 1 := by unfold wrap64; omega
 have HWR := Qz.mk hwr
 obtain ⟨okA1, hok1⟩ : ∃ o : Nat → Prop, o = (fun k => okA k ∧ k < w.heap.size) := ⟨_, rfl⟩
 rw [← hok1] at HA
 have HO1 := Qz.mk hok1
 have hgl := blt hgw
 have HGL := Qz.mk hgl
 clear hgw hA hs hokw hokA hbw hbs hR hR2 hn hn2 hla hap hwr hok1 hgl
 have hc1 : w.cell? ⟨gw, 1, none⟩ = some (.int .i64 (n : Int)) := (bc_ GW.out 1).trans rfl
 have hc4 : w.cell? ⟨gw, 4, none⟩ = some (.slice Aa la.length ca) := (bc_ GW.out 4).trans rfl
 have hc6 : w.cell? ⟨gw, 6, none⟩ = some (.int .i64 R) := (bc_ GW.out 6).trans rfl
 have hf6 := bf_ GW.out 6
 go_enter Try.func51, Try.ntmps51
 go_upto_region 4 with (first
  | ((with_reducible refine gdt (N := 3) rfl ?_); refine bxe ?hg (N := 3) ?hd (cs := #[.pointer (some ⟨gw, 0, none⟩)]) (t := 83) ?hr ?_; (case hd => rfl); (case hg => rfl); (case hr => first | (go_simp; done) | (go_simp; rfl)); intro gp hg3 w3 hbox hb3; have BP := Qz.mk hbox; have GE3 := Qz.mk (show w.heap.size ≤ gp from Nat.le_of_eq hg3.symm); have HB3 := Qz.mk hb3; have hp3 : w3.cell? ⟨gp, 0, none⟩ = some (.pointer (some ⟨gw, 0, none⟩)) := (bc_ hbox 0).trans rfl; have hc31 := (hb3.cell (p := ⟨gw, 1, none⟩) HGL.out).trans hc1; have hc34 := (hb3.cell (p := ⟨gw, 4, none⟩) HGL.out).trans hc4; have hc36 := (hb3.cell (p := ⟨gw, 6, none⟩) HGL.out).trans hc6; have hf36 := (hb3.frozen (p := ⟨gw, 6, none⟩) HGL.out).trans hf6; have hne3 : gp ≠ gw := (fun e => Nat.lt_irrefl _ (Nat.lt_of_lt_of_le HGL.out (e ▸ GE3.out))); clear hg3 hb3 hbox; (first | rw [HWR.out] | skip)))
 have KS : Kept w (w3.setCell ⟨gw, 6, none⟩ (.int .i64 (R + 1))) (fun k => k = gw) := Kept.setCell (p := ⟨gw, 6, none⟩) (Kept.of_below HB3.out (fun k => k = gw)) (.inl rfl) _
 have BS : (w3.setCell ⟨gw, 6, none⟩ (.int .i64 (R + 1))).heap[gw]? = some (.cells #[.int .u64 P, .int .i64 (n : Int), .int .i64 T, vc, .slice Aa la.length ca, vt, .int .i64 (R + 1), vs] 30 (0, 0)) := (bks (bkb GW.out HB3.out) 6 _).trans rfl
 have BPS : (w3.setCell ⟨gw, 6, none⟩ (.int .i64 (R + 1))).heap[gp]? = some (.cells #[.pointer (some ⟨gw, 0, none⟩)] 83 (0, 0)) := bkf BP.out hne3 _
 have hsz : (w3.setCell ⟨gw, 6, none⟩ (.int .i64 (R + 1))).heap.size = w3.heap.size := by simp [World.setCell]
 have hsz2 : ((w3.setCell ⟨gw, 6, none⟩ (.int .i64 (R + 1))).alloc (Obj.map #[] 0)).heap.size = w3.heap.size + 1 := by rw [← hsz]; exact Array.size_push _
 obtain ⟨w4, hw4⟩ : ∃ w4, w4 = ((w3.setCell ⟨gw, 6, none⟩ (.int .i64 (R + 1))).alloc (Obj.map #[] 0)).alloc (Obj.cells #[Value.map (some w3.heap.size)] 96 (0, 0)) := ⟨_, rfl⟩
 have K0 := Qz.mk (show Kept w w4 (fun k => k = gw) from by rw [hw4]; exact Kept.alloc (Kept.alloc KS _) _)
 have BW := Qz.mk (show w4.heap[gw]? = some (.cells #[.int .u64 P, .int .i64 (n : Int), .int .i64 T, vc, .slice Aa la.length ca, vt, .int .i64 (R + 1), vs] 30 (0, 0)) from by rw [hw4]; exact bka (bka BS _) _)
 have BP := Qz.mk (show w4.heap[gp]? = some (.cells #[.pointer (some ⟨gw, 0, none⟩)] 83 (0, 0)) from by rw [hw4]; exact bka (bka BPS _) _)
 have BM := Qz.mk (show w4.heap[w3.heap.size + 1]? = some (.cells #[.map (some w3.heap.size)] 96 (0, 0)) from by
  have h := blk_new ((w3.setCell ⟨gw, 6, none⟩ (.int .i64 (R + 1))).alloc (Obj.map #[] 0)) (Obj.cells #[Value.map (some w3.heap.size)] 96 (0, 0))
  rw [hsz2] at h
  rw [hw4]
  exact h)
 have HM := Qz.mk (show MAct w4 okA1 w3.heap.size (now (R + 1) (la.take 0)) from by
  have h := MAct.made (w3.setCell ⟨gw, 6, none⟩ (.int .i64 (R + 1))) okA1
  rw [hsz] at h
  rw [hw4]
  exact MAct.below h (ba1 (Below.refl _ _) _))
 have HB := Qz.mk (show Below base w w4 from by
  rw [hw4]
  exact (((HB3.out.mono HBS.out).setCell (p := ⟨gw, 6, none⟩) HBW.out _).alloc (Nat.le_trans HBS.out (by rw [hsz]; exact HB3.out.size)) _).alloc (Nat.le_trans HBS.out (by rw [hsz2]; exact Nat.le_succ_of_le HB3.out.size)) _)
 rw [HWR.out, ← hw4]
 have GM := Qz.mk (show w.heap.size ≤ w3.heap.size from HB3.out.size)
 clear hw4 hsz hsz2 KS BS BPS hp3 hc31 hc34 hc36 hf36 HB3 hc1 hc4 hc6 hf6
 have hd1 : w4.cell? ⟨gp, 0, none⟩ = some (.pointer (some ⟨gw, 0, none⟩)) := (bc_ BP.out 0).trans rfl
 have hd2 : w4.cell? ⟨gw, 4, none⟩ = some (.slice Aa la.length ca) := (bc_ BW.out 4).trans rfl
 go_wp2
 go_loopg [35] la.length (fun kq v35 w' => ∃ i : Nat, v35 = .int .i64 (i : Int) ∧ Qz (i + kq = la.length) ∧ Qz (Kept w w' (fun k => k = gw)) ∧ Qz (w'.heap[gw]? = some (.cells #[.int .u64 P, .int .i64 (n : Int), .int .i64 T, vc, .slice Aa la.length ca, vt, .int .i64 (R + 1), vs] 30 (0, 0))) ∧ Qz (w'.heap[gp]? = some (.cells #[.pointer (some ⟨gw, 0, none⟩)] 83 (0, 0))) ∧
  Qz (w'.heap[w3.heap.size + 1]? = some (.cells #[.map (some w3.heap.size)] 96 (0, 0))) ∧ Qz (MAct w' okA1 w3.heap.size (now (R + 1) (la.take i))) ∧ Qz (Below base w w'))
 case atStart => exact ⟨0, rfl, ⟨by simp⟩, K0, BW, BP, BM, HM, HB⟩
 case round =>
  clear K0 BW BP BM HM HB hd1 hd2
  obtain ⟨i, rfl, HI, K0, BW, BP, BM, HM, HB⟩ := hrel
  cases gk with
  | zero =>
   have c1 : decide ((i : Int) < (la.length : Int)) = false := decide_eq_false (by have := HI.out; omega)
   have c2 : decide (i < la.length) = false := decide_eq_false (by have := HI.out; omega)
   have hil : la.take i = la := List.take_of_length_le (by have := HI.out; omega)
   have HM := Qz.mk (show MAct wr okA1 w3.heap.size (now (R + 1) la) from by have h := HM.out; rwa [hil] at h)
   have HWR2 := Qz.mk K0.out.1
   have HS := Qz.mk (Kd.N_kept HS.out K0.out (fun k hk e => HOW.out k hk e))
   clear hil HI
   go_wp2_with (go_at_call 66; refine (blank.calls n HN1.out (Nat.le_trans HN2.out (by omega)) _).mono ?_; rintro e w20 ⟨g, c, rbs, v2, rfl, hO, hR, ⟨h2, ch, rfl, hb2, hn2, hH⟩, hb⟩; have K1 := Qz.mk (K0.out.below hb); have BW1 := Qz.mk (bkb BW.out hb); have BP1 := Qz.mk (bkb BP.out hb); have BM1 := Qz.mk (bkb BM.out hb); have HM1 := Qz.mk (HM.out.below hb); have HS1 := Qz.mk (Kd.N_old HS.out hb); have HB1 := Qz.mk (HB.out.trans (hb.mono (Nat.le_trans HBS.out K0.out.1))); have HO1_ := Qz.mk hO; have HR1 := Qz.mk hR; have HH1 := Qz.mk hH; have HN21 := Qz.mk hn2; have HB21 := Qz.mk hb2; have HSZ := Qz.mk hb.size; clear hO hR hH hn2 hb2 hb K0 BW BP BM HM HS HB)
   generalize wr.heap.size = nr at HR1 HO1_ HH1 HS1 HWR2 HSZ HB21
   obtain ⟨ok2, hok2⟩ : ∃ o : Nat → Prop, o = (fun k => (ok k ∧ k < nr) ∨ w20.heap.size ≤ k) := ⟨_, rfl⟩
   have HK2 := Qz.mk hok2
   have SI := Qz.mk (show SInv w nr w20.heap.size n base gw gp (w3.heap.size + 1) w3.heap.size g c h2 ch okA1 ok2 (now (R + 1) la) rbs (fun q => #[.int .u64 P, .int .i64 (n : Int), .int .i64 T, vc, .slice Aa la.length ca, vt, .int .i64 (R + 1), q]) vs w20 vs (iRun (now (R + 1) la) (R + 1) n l1 l2 ss 0).1 (iRun (now (R + 1) la) (R + 1) n l1 l2 ss 0).2.1 (iRun (now (R + 1) la) (R + 1) n l1 l2 ss 0).2.2 from
    ⟨K1.out.mono (fun k e => .inl e), BW1.out, BP1.out, BM1.out, HM1.out, HO1_.out,
     ⟨HR1.out.len, HR1.out.once, fun j b c' L h1 h2' => by
      obtain ⟨g1, g2, g3⟩ := HR1.out.row j b c' L h1 h2'
      exact ⟨g1, g2, Kd.N_mono g3 (fun k hk => hk.imp id (fun h => h.elim))⟩⟩,
     Kd.N_mono HH1.out (fun k hk => .inl hk), Kd.N_mono HS1.out (fun k hk => by rw [HK2.out]; exact .inl hk), fun k e => .inl e.symm, HB1.out, Nat.le_refl _⟩)
   have HNW := Qz.mk (show w.heap.size ≤ nr from HWR2.out)
   have HHL := Qz.mk (show h2 < w20.heap.size from Kd.N_lt HH1.out h2 (by simp [Value.ownBlock]))
   clear K1 BW1 BP1 BM1 HM1 HO1_ HH1 HS1 HB1 hok2
   go_loopg [61] n (fun kq v61 w' => ∃ (i : Nat) (vq : Value), v61 = .int .i64 (i : Int) ∧ Qz (i + kq = n) ∧ Qz (SInv w nr w20.heap.size n base gw gp (w3.heap.size + 1) w3.heap.size g c h2 ch okA1 ok2 (now (R + 1) la) rbs (fun q => #[.int .u64 P, .int .i64 (n : Int), .int .i64 T, vc, .slice Aa la.length ca, vt, .int .i64 (R + 1), q]) vs w' vq (iRun (now (R + 1) la) (R + 1) n l1 l2 ss i).1 (iRun (now (R + 1) la) (R + 1) n l1 l2 ss i).2.1 (iRun (now (R + 1) la) (R + 1) n l1 l2 ss i).2.2))
   case atStart => exact ⟨0, vs, rfl, ⟨by simp⟩, SI⟩
   case round =>
    clear SI
    obtain ⟨i, vq, rfl, HI, SI⟩ := hrel
    cases gk with
    | zero =>
     have c1 : decide ((i : Int) < (n : Int)) = false := decide_eq_false (by have := HI.out; omega)
     have c2 : decide (i < n) = false := decide_eq_false (by have := HI.out; omega)
     have hin : i = n := by have := HI.out; omega
     subst hin
     go_wp2
     go_ret2
     obtain ⟨hC1, hC2, hC3⟩ := rows_C SI.out.hr SI.out.ho
     obtain ⟨hh1, hh2, hh3⟩ := Kd.N_reads' SI.out.hh
     exact ⟨_, c, _, ch, vq, rfl, rows_F SI.out.hr SI.out.ho, hC3, row_F SI.out.hh, hh2, SI.out.bw, Kd.N_mono SI.out.hs (fun k hk => by rw [HK2.out] at hk; rcases hk with hk | hk; exact .inl hk.1; exact .inr (Nat.le_trans HNW.out (Nat.le_trans HSZ.out hk))), SI.out.kept, SI.out.hb⟩
    | succ k1 =>
     have hin : i < n := by have := HI.out; omega
     have c1 : decide ((i : Int) < (n : Int)) = true := decide_eq_true (by omega)
     have c2 : decide (i < n) = true := decide_eq_true (by omega)
     have hw1 : wrap64 ((i : Int) + 1) = (i : Int) + 1 := by unfold wrap64; have := HN2.out; omega
     have HIN := Qz.mk hin
     have hoc : ∀ k, (okC k ∧ k < w.heap.size) → ¬ (k = gw ∨ some k = vq.ownBlock) := fun k hk e => by
      rcases e with e | e
      ·exact (HOC.out k hk.1).1 e
      ·rcases SI.out.hv k e.symm with e2 | e2
       ·exact (HOC.out k hk.1).2 e2
       ·have h1 := HNW.out; have h2 := HSZ.out; have h3 := hk.2; omega
     have hPo := Kd.F_kept HP2.out SI.out.kept (fun k hk e => e.elim (HOC.out k hk.1).1 (HOC.out k hk.1).2)
     obtain ⟨ad2, Ad, cd, e2, hx2, hdl, hF⟩ := F_row_at hPo (i := i) (by rw [HL2.out]; exact hin)
     subst e2
     obtain ⟨d, hd⟩ : ∃ d, d = l2.getD i [] := ⟨_, rfl⟩
     rw [← hd] at hx2 hdl hF
     have HD := Qz.mk hd
     have HDL := Qz.mk hdl
     have HDF := Qz.mk (show ∀ W_, Kept wr W_ (fun k => k = gw ∨ some k = vq.ownBlock) → Kd.C (Kd.int .u64) W_ Ad d.length d from fun W_ hk => Kd.F_now (Kd.F_kept hF hk hoc))
     have HOA2 := Qz.mk (show ∀ k, okA1 k → k ≠ gw ∧ some k ≠ vs.ownBlock ∧ k < w20.heap.size from fun k hk => by
      rw [HO1.out] at hk
      have h1 := HOA.out k hk.1
      have h2 := HNW.out
      have h3 := HSZ.out
      exact ⟨h1.1, h1.2, by have := hk.2; omega⟩)
     have HOK := Qz.mk (show ∀ k, ok2 k → k ≠ gw from fun k hk => by
      rw [HK2.out] at hk
      rcases hk with hk | hk
      ·exact HOW.out k hk.1
      ·have h1 := HGL.out; have h2 := HNW.out; have h3 := HSZ.out; omega)
     have HFR := Qz.mk (show ∀ k, w20.heap.size ≤ k → ok2 k from fun k hk => by rw [HK2.out]; exact .inr hk)
     have HBS2 := Qz.mk (show base ≤ wr.heap.size from Nat.le_trans HBS.out SI.out.kept.1)
     have HDN := Qz.mk (show (eff (now (R + 1) la) ((i : Int) + 1) 0 d).length < 17592186044416 from HDD.out _ _ _ (.inl (by
      have h1 : i < l2.length := by rw [HL2.out]; exact hin
      rw [HD.out, List.getD_eq_getElem?_getD, List.getElem?_eq_getElem h1]
      exact List.getElem_mem h1)))
     have HSN := Qz.mk (show (iRun (now (R + 1) la) (R + 1) n l1 l2 ss i).2.2.length < 4000000000000 from by
      have h1 := (iRun_le (now (R + 1) la) (R + 1) n l1 l2 ss i).1
      have h2 := HSL.out
      have h3 : i * (n + 1) ≤ n * (n + 1) := Nat.mul_le_mul_right _ (Nat.le_of_lt hin)
      omega)
     have p1 : ((0 : Int) ≤ (i : Int)) = True := eq_true (by omega)
     have q1 : ((i : Int) < (n : Int)) = True := eq_true (by omega)
     have q2 : ((i : Int) < (l2.length : Int)) = True := eq_true (by rw [HL2.out]; omega)
     have q3 : (i < n) = True := eq_true hin
     have q4 : (i < l2.length) = True := eq_true (by rw [HL2.out]; exact hin)
     clear hoc hPo hdl hF hd hin
     go_wp2_with (go_at_call 65; (try rw [hw1]); refine (comes.calls base ok2 okA1 ((i : Int) + 1) 0 Ad cd d (w3.heap.size + 1) gp gw w3.heap.size (now (R + 1) la) P (n : Int) T (R + 1) vc (.slice Aa la.length ca) vt vq (iRun (now (R + 1) la) (R + 1) n l1 l2 ss i).2.2 wr SI.out.bmm SI.out.ma (fun k hk => ⟨(HOA2.out k hk).1, fun e => by rcases SI.out.hv k e.symm with e2 | e2; exact (HOA2.out k hk).2.1 e2; have := (HOA2.out k hk).2.2; omega⟩) SI.out.bp SI.out.bw SI.out.hs HOK.out (fun k hk => HFR.out k (Nat.le_trans SI.out.sz hk)) HBW.out HBS2.out HDF.out HDL.out HDN.out HSN.out).mono ?_; rintro e wc ⟨v', vq', rfl, hR, hbw, hN, hK, hB, hat⟩; obtain ⟨Av, cv, hvs⟩ := Kd.R_slice hR; subst hvs; have SI2 := Qz.mk (SI.out.sent HOA2.out (Nat.le_trans HNW.out HSZ.out) hbw hN hK hB hat SI.out.not_map.1 SI.out.not_map.2); have HV := Qz.mk (fresh_data (base := nr) hR (Nat.le_trans HSZ.out SI.out.sz)); have hcf := row_cell SI2.out.hh HIN.out; obtain ⟨⟨uc, hcell⟩, hfroz⟩ := hcf; clear hR hbw hN hK hB hat)
     obtain ⟨cs51, h51⟩ := Kd.N_typed SI2.out.hh h2 (by simp [Value.ownBlock])
     have HNB := Qz.mk (show ∀ b ∈ rbs.map (·.1), nr ≤ b ∧ b < w20.heap.size from fun b hb => by
      obtain ⟨_, _, _, _, _, h3, _⟩ := HR1.out.at_ hb
      exact ⟨h3, HR1.out.lt hb⟩)
     have HOKB := Qz.mk (show ∀ k b, ok2 k → nr ≤ b → b < w20.heap.size → k ≠ b from fun k b hk h1 h2 e => by
      rw [HK2.out] at hk
      rcases hk with hk | hk
      ·have := hk.2; omega
      ·omega)
     have HAW := Qz.mk (show ∀ k, okA1 k → k < w.heap.size from fun k hk => by rw [HO1.out] at hk; exact hk.2)
     have SI3 := Qz.mk (SI2.out.store (b := h2) (i := i) (u := .slice Av (eff (now (R + 1) la) ((i : Int) + 1) 0 d).length cv) (G' := (iRun (now (R + 1) la) (R + 1) n l1 l2 ss i).1) (H' := (iRun (now (R + 1) la) (R + 1) n l1 l2 ss i).2.1.set i (eff (now (R + 1) la) ((i : Int) + 1) 0 d)) h51 (Nat.le_trans HNW.out HB21.out) (Nat.le_trans HBS.out (Nat.le_trans HNW.out HB21.out)) HHL.out (fun k hk => HOKB.out k h2 hk HB21.out HHL.out) HAW.out
      (SI2.out.hr.move (fun b hb => Below.heap_setCell _ _ _ _ (fun e => by
       have e3 : b = h2 := e
       rcases hb with hb | hb
       ·exact HN21.out (e3 ▸ hb)
       ·exact SI2.out.data_ne h51 (by decide) hb e3))) (row_put SI2.out.hh HIN.out HV.out))
     have HD2 := Qz.mk (show l2.getD i [] = d from HD.out.symm)
     clear h51 hcell hfroz SI SI2 HV HD HDL HDF HDN HSN hx2
     generalize hw21 : World.setCell wc ⟨h2, i, none⟩ (.slice Av (eff (now (R + 1) la) ((i : Int) + 1) 0 d).length cv) = w21 at SI3 ⊢
     clear hw21
     go_wp2
     go_loopg [76] n (fun kq v76 w' => ∃ (k : Nat) (vq : Value), v76 = .int .i64 (k : Int) ∧ Qz (k + kq = n) ∧ Qz (SInv w nr w20.heap.size n base gw gp (w3.heap.size + 1) w3.heap.size g c h2 ch okA1 ok2 (now (R + 1) la) rbs (fun q => #[.int .u64 P, .int .i64 (n : Int), .int .i64 T, vc, .slice Aa la.length ca, vt, .int .i64 (R + 1), q]) vs w' vq (kRun (now (R + 1) la) (R + 1) i (l1.getD i []) ((iRun (now (R + 1) la) (R + 1) n l1 l2 ss i).1, stowed (R + 1) ((i : Int) + 1) 0 (eff (now (R + 1) la) ((i : Int) + 1) 0 d) (iRun (now (R + 1) la) (R + 1) n l1 l2 ss i).2.2) k).1 ((iRun (now (R + 1) la) (R + 1) n l1 l2 ss i).2.1.set i (eff (now (R + 1) la) ((i : Int) + 1) 0 d)) (kRun (now (R + 1) la) (R + 1) i (l1.getD i []) ((iRun (now (R + 1) la) (R + 1) n l1 l2 ss i).1, stowed (R + 1) ((i : Int) + 1) 0 (eff (now (R + 1) la) ((i : Int) + 1) 0 d) (iRun (now (R + 1) la) (R + 1) n l1 l2 ss i).2.2) k).2))
     case atStart => exact ⟨0, vq', rfl, ⟨by simp⟩, SI3⟩
     case round =>
      clear SI3
      obtain ⟨k, vk, rfl, HI2, SK⟩ := hrel
      cases gk with
      | zero =>
       have hkn : k = n := by have := HI2.out; omega
       subst hkn
       have d1 : decide ((k : Int) < (k : Int)) = false := decide_eq_false (by omega)
       have d2 : decide (k < k) = false := decide_eq_false (by omega)
       have SK2 := Qz.mk (show SInv w nr w20.heap.size k base gw gp (w3.heap.size + 1) w3.heap.size g c h2 ch okA1 ok2 (now (R + 1) la) rbs (fun q => #[.int .u64 P, .int .i64 (k : Int), .int .i64 T, vc, .slice Aa la.length ca, vt, .int .i64 (R + 1), q]) vs wr vk (iRun (now (R + 1) la) (R + 1) k l1 l2 ss (i + 1)).1 (iRun (now (R + 1) la) (R + 1) k l1 l2 ss (i + 1)).2.1 (iRun (now (R + 1) la) (R + 1) k l1 l2 ss (i + 1)).2.2 from by
        have h := SK.out
        simp only [iRun, iStep]
        rw [HD2.out]
        exact h)
       go_wp2
       go_roundg k1
       case measure => exact Nat.lt_succ_self _
       case rel => exact ⟨i + 1, vk, by simp; unfold wrap64; have := HN2.out; have := HIN.out; omega, ⟨by have := HI.out; omega⟩, SK2⟩
      | succ k2 =>
       have hkn : k < n := by have := HI2.out; omega
       have HKN := Qz.mk hkn
       have d1 : decide ((k : Int) < (n : Int)) = true := decide_eq_true (by omega)
       have d2_ : decide (k < n) = true := decide_eq_true (by omega)
       have hw2 : wrap64 ((k : Int) + 1) = (k : Int) + 1 := by unfold wrap64; have := HN2.out; omega
       have hPi := Kd.F_kept HP1.out SK.out.kept (fun k hk e => e.elim (HOC.out k hk.1).1 (HOC.out k hk.1).2)
       obtain ⟨ad1, Arow, crow, e1, hs1, hrl, hFr, hi1⟩ := F_row_in hPi (i := i) (by rw [HL1.out]; exact HIN.out)
       subst e1
       obtain ⟨row, hrow⟩ : ∃ x, x = l1.getD i [] := ⟨_, rfl⟩
       rw [← hrow] at hs1 hrl hFr
       have hrn : row.length = n := by
        have h1 : i < l1.length := by rw [HL1.out]; exact HIN.out
        rw [hrow, List.getD_eq_getElem?_getD, List.getElem?_eq_getElem h1]
        exact HL3.out _ (List.getElem_mem h1)
       obtain ⟨adr, Ad2, cd2, e3, hs2, hdl2, hFd, hi2⟩ := F_row_in hFr (i := k) (by rw [hrn]; exact hkn)
       subst e3
       obtain ⟨d2, hd2⟩ : ∃ x, x = row.getD k [] := ⟨_, rfl⟩
       rw [← hd2] at hs2 hdl2 hFd
       have hrk : ∃ bk ck, rbs[k]? = some (bk, ck) := by
        have h1 : k < rbs.length := by rw [HR1.out.len]; simp; exact hkn
        exact ⟨rbs[k].1, rbs[k].2, by rw [List.getElem?_eq_getElem h1]⟩
       obtain ⟨bk, ck, hrk⟩ := hrk
       have hs0 : wr.cell? ⟨g, k, none⟩ = some (.slice (some ⟨bk, 0, none⟩) n ck) := by
        have hl : (rbs.map some).length = n := by rw [List.length_map, HR1.out.len]; simp
        have h := (Kd.R_cell none (show (kO n).R 27 wr nr (fun _ => True) (.slice (some ⟨g, 0, none⟩) (rbs.map some).length c) (rbs.map some) from by rw [hl]; exact SK.out.ho) (k : Int) (by omega) (by rw [hl]; omega)).1
        simp only [Int.toNat_natCast] at h
        rw [h]
        simp [rdOf, List.getD_eq_getElem?_getD, hrk, encO]
       have p3 : ((0 : Int) ≤ (k : Int)) = True := eq_true (by omega)
       have p4 : ((k : Int) < (n : Int)) = True := eq_true (by omega)
       have p5 : (k < n) = True := eq_true hkn
       have p6 : ((i : Int) < (l1.length : Int)) = True := eq_true (by rw [HL1.out]; have := HIN.out; omega)
       have p7 : (i < l1.length) = True := eq_true (by rw [HL1.out]; exact HIN.out)
       have p8 : ((k : Int) < (row.length : Int)) = True := eq_true (by rw [hrn]; omega)
       have p9 : (k < row.length) = True := eq_true (by rw [hrn]; exact hkn)
       have HROW := Qz.mk hrow
       have HD22 := Qz.mk hd2
       have HRN := Qz.mk hrn
       have HRK := Qz.mk hrk
       have HRL := Qz.mk hrl
       have HDL2 := Qz.mk hdl2
       have HFD := Qz.mk hFd
       have HI1 := Qz.mk hi1
       have HIR := Qz.mk hi2
       have SKD := Qz.mk SK.out.drew
       have HDF2 := Qz.mk (show ∀ W_, Kept wr.drew W_ (fun k => k = gw ∨ some k = vk.ownBlock) → Kd.C (Kd.int .u64) W_ Ad2 d2.length d2 from fun W_ hk => Kd.F_now (Kd.F_kept (Kd.F_drew hFd) hk (fun q hq e => by
        rcases e with e | e
        ·exact (HOC.out q hq.1).1 e
        ·rcases SKD.out.hv q e.symm with e2 | e2
         ·exact (HOC.out q hq.1).2 e2
         ·have h1 := HNW.out; have h2 := HSZ.out; have h3 := hq.2; omega)))
       have HOC2 := Qz.mk (show ∀ q, (okC q ∧ q < w.heap.size) → ¬ (q = gw ∨ some q = vk.ownBlock) from fun q hq e => by
        rcases e with e | e
        ·exact (HOC.out q hq.1).1 e
        ·rcases SKD.out.hv q e.symm with e2 | e2
         ·exact (HOC.out q hq.1).2 e2
         ·have h1 := HNW.out; have h2 := HSZ.out; have h3 := hq.2; omega)
       have HBS3 := Qz.mk (show base ≤ wr.drew.heap.size from Nat.le_trans HBS.out SKD.out.kept.1)
       have HDN2 := Qz.mk (show (eff (now (R + 1) la) ((i : Int) + 1) ((k : Int) + 1) d2).length < 17592186044416 from HDD.out _ _ _ (.inr (by
        have h1 : i < l1.length := by rw [HL1.out]; exact HIN.out
        have h2 : k < row.length := by rw [hrn]; exact hkn
        refine ⟨row, ?_, ?_⟩
        ·rw [hrow, List.getD_eq_getElem?_getD, List.getElem?_eq_getElem h1]
         exact List.getElem_mem h1
        ·rw [hd2, List.getD_eq_getElem?_getD, List.getElem?_eq_getElem h2]
         exact List.getElem_mem h2)))
       have HSN2 := Qz.mk (show (kRun (now (R + 1) la) (R + 1) i (l1.getD i []) ((iRun (now (R + 1) la) (R + 1) n l1 l2 ss i).1, stowed (R + 1) ((i : Int) + 1) 0 (eff (now (R + 1) la) ((i : Int) + 1) 0 d) (iRun (now (R + 1) la) (R + 1) n l1 l2 ss i).2.2) k).2.length < 4000000000000 from by
        have h1 := (iRun_le (now (R + 1) la) (R + 1) n l1 l2 ss i).1
        have h2 := (kRun_le (now (R + 1) la) (R + 1) i (l1.getD i []) ((iRun (now (R + 1) la) (R + 1) n l1 l2 ss i).1, stowed (R + 1) ((i : Int) + 1) 0 (eff (now (R + 1) la) ((i : Int) + 1) 0 d) (iRun (now (R + 1) la) (R + 1) n l1 l2 ss i).2.2) k).1
        have h3 := stowed_le (R + 1) ((i : Int) + 1) 0 (eff (now (R + 1) la) ((i : Int) + 1) 0 d) (iRun (now (R + 1) la) (R + 1) n l1 l2 ss i).2.2
        have h4 := HSL.out
        have h5 : (i + 1) * (n + 1) ≤ n * (n + 1) := Nat.mul_le_mul_right _ HIN.out
        rw [Nat.succ_mul] at h5
        simp only at h2
        omega)
       clear hrow hd2 hrn hrk hrl hdl2 hFd hi1 hi2 hPi hFr hkn
       have p10 : ((i : Int) < (n : Int)) = True := eq_true (by have := HIN.out; omega)
       go_wp2
       refine start_ (n := 20) (S := fun w' => w'.cell? ⟨g, k, none⟩ = some (.slice (some ⟨bk, 0, none⟩) n ck) ∧ w'.cell? (ad1.add i) = some (.slice (some adr) row.length crow) ∧ w'.cell? (adr.add k) = some (.slice Ad2 d2.length cd2)) (ds := [19]) (ba_ 20 0) (by kernel_rfl) rfl rfl ⟨hs0, hs1, hs2⟩ (fun hHeld => ?_)
       refine with_tabW swap.tab19 swap.bits19 (fun HT_ HW_ => ?_)
       refine pure_ (i := 0) (N := some 79) (v := ?_) (a' := ?_) (ba_ 20 1) rfl rfl (any_of HT_.out (by kernel_rfl)) (fun _ _ _ h => h) (Or.inl ⟨by rfl, ?_⟩) ?_ ?_
       rotate_left
       ·intro w'
        go_simp
        with_reducible rfl
       rotate_left
       ·simp only [aw_]
        rfl
       refine pure_ (i := 1) (N := some 80) (v := ?_) (a' := ?_) (ba_ 20 3) rfl rfl (any_of HT_.out (by kernel_rfl)) (fun _ _ _ h => h) (Or.inl ⟨by rfl, ?_⟩) ?_ ?_
       rotate_left
       ·intro w'
        go_simp
        with_reducible rfl
       rotate_left
       ·simp only [aw_]
        rfl
       refine pure_ (i := 4) (N := some 83) (v := ?_) (a' := ?_) (ba_ 20 19) rfl rfl (any_of HT_.out (by kernel_rfl)) (fun _ _ _ h => h) (Or.inl ⟨by rfl, ?_⟩) ?_ ?_
       rotate_left
       ·intro w'
        go_simp
        with_reducible rfl
       rotate_left
       ·simp only [aw_]
        rfl
       refine pure_ (i := 5) (N := some 84) (v := ?_) (a' := ?_) (ba_ 20 51) rfl rfl (any_of HT_.out (by kernel_rfl)) (fun _ _ _ h => h) (Or.inl ⟨by rfl, ?_⟩) ?_ ?_
       rotate_left
       ·intro w'
        go_simp
        with_reducible rfl
       rotate_left
       ·simp only [aw_]
        rfl
       refine pure_ (i := 6) (N := some 85) (v := ?_) (a' := ?_) (ba_ 20 115) rfl rfl (any_of HT_.out (by kernel_rfl)) (fun _ _ _ h => h) (Or.inl ⟨by rfl, ?_⟩) ?_ ?_
       rotate_left
       ·intro w'
        go_simp
        with_reducible rfl
       rotate_left
       ·simp only [aw_]
        rfl
       refine pure_ (i := 7) (N := some 86) (v := ?_) (a' := ?_) (ba_ 20 243) rfl rfl (any_of HT_.out (by kernel_rfl)) (fun _ _ _ h => h) (Or.inl ⟨by rfl, ?_⟩) ?_ ?_
       rotate_left
       ·intro w'
        go_simp
        with_reducible rfl
       rotate_left
       ·simp only [aw_]
        rfl
       refine pure_ (i := 8) (N := some 87) (v := ?_) (a' := ?_) (ba_ 20 499) rfl rfl (any_of HT_.out (by kernel_rfl)) (fun _ _ _ h => h) (Or.inl ⟨by rfl, ?_⟩) ?_ ?_
       rotate_left
       ·intro w'
        go_simp
        with_reducible rfl
       rotate_left
       ·simp only [aw_]
        rfl
       refine pure_ (i := 9) (N := some 88) (v := ?_) (a' := ?_) (ba_ 20 1011) rfl rfl (any_of HT_.out (by kernel_rfl)) (fun _ _ _ h => h) (Or.inl ⟨by rfl, ?_⟩) ?_ ?_
       rotate_left
       ·intro w'
        go_simp
        with_reducible rfl
       rotate_left
       ·simp only [aw_]
        rfl
       refine pure_ (i := 10) (N := some 89) (v := ?_) (a' := ?_) (ba_ 20 2035) rfl rfl (any_of HT_.out (by kernel_rfl)) (fun _ _ _ h => h) (Or.inl ⟨by rfl, ?_⟩) ?_ ?_
       rotate_left
       ·intro w'
        go_simp
        with_reducible rfl
       rotate_left
       ·simp only [aw_]
        rfl
       refine pure_ (i := 11) (N := some 90) (v := ?_) (a' := ?_) (ba_ 20 4083) rfl rfl (any_of HT_.out (by kernel_rfl)) (fun _ _ _ h => h) (Or.inl ⟨by rfl, ?_⟩) ?_ ?_
       rotate_left
       ·intro w'
        go_simp
        with_reducible rfl
       rotate_left
       ·simp only [aw_]
        rfl
       refine pure_ (i := 14) (N := some 93) (v := ?_) (a' := ?_) (ba_ 20 20467) rfl rfl (any_of HT_.out (by kernel_rfl)) (fun _ _ _ h => h) (Or.inl ⟨by rfl, ?_⟩) ?_ ?_
       rotate_left
       ·intro w'
        go_simp
        with_reducible rfl
       rotate_left
       ·simp only [aw_]
        rfl
       refine pure_ (i := 2) (N := some 81) (v := ?_) (a' := ?_) (ba_ 20 20471) rfl rfl (any_of HT_.out (by kernel_rfl)) (fun _ _ _ h => h) (Or.inl ⟨by rfl, ?_⟩) ?_ ?_
       rotate_left
       ·intro w'
        go_simp
        with_reducible rfl
       rotate_left
       ·simp only [aw_]
        rfl
       refine take_ (i := 3) (N := some 82) (v := ?_) (a' := ?_) (ba_ 20 20479) rfl rfl (take_ofW HT_.out HW_.out (by kernel_rfl)) (fun _ _ _ h => h) (Or.inl ⟨by rfl, ?_⟩) hHeld ?_ ?_
       rotate_left
       ·rintro w' ⟨s0, s1, s2⟩
        go_simp
        with_reducible rfl
       rotate_left
       ·simp only [aw_]
        rfl
       refine pure_ (i := 12) (N := some 91) (v := ?_) (a' := ?_) (ba_ 20 24575) rfl rfl (any_of HT_.out (by kernel_rfl)) (fun _ _ _ h => h) (Or.inl ⟨by rfl, ?_⟩) ?_ ?_
       rotate_left
       ·intro w'
        go_simp
        with_reducible rfl
       rotate_left
       ·simp only [aw_]
        rfl
       refine take_ (i := 13) (N := some 92) (v := ?_) (a' := ?_) (ba_ 20 32767) rfl rfl (take_ofW HT_.out HW_.out (by kernel_rfl)) (fun _ _ _ h => h) (Or.inl ⟨by rfl, ?_⟩) hHeld ?_ ?_
       rotate_left
       ·rintro w' ⟨s0, s1, s2⟩
        go_simp
        with_reducible rfl
       rotate_left
       ·simp only [aw_]
        rfl
       refine pure_ (i := 15) (N := some 94) (v := ?_) (a' := ?_) (ba_ 20 65535) rfl rfl (any_of HT_.out (by kernel_rfl)) (fun _ _ _ h => h) (Or.inl ⟨by rfl, ?_⟩) ?_ ?_
       rotate_left
       ·intro w'
        go_simp
        with_reducible rfl
       rotate_left
       ·simp only [aw_]
        rfl
       refine take_ (i := 16) (N := some 95) (v := ?_) (a' := ?_) (ba_ 20 131071) rfl rfl (take_ofW HT_.out HW_.out (by kernel_rfl)) (fun _ _ _ h => h) (Or.inl ⟨by rfl, ?_⟩) hHeld ?_ ?_
       rotate_left
       ·rintro w' ⟨s0, s1, s2⟩
        go_simp
        with_reducible rfl
       rotate_left
       ·simp only [aw_]
        rfl
       refine one_ (i := 17) (N := some 96) (ba_ 20 262143) rfl rfl (one_of HT_.out (by kernel_rfl)) (by decide) (fun K hK => ?_)
       refine call_ 65 #[.int .i64 ((i : Int) + 1), .int .i64 ((k : Int) + 1), .slice Ad2 d2.length cd2, .pointer (some ⟨w3.heap.size + 1, 0, none⟩), .pointer (some ⟨gp, 0, none⟩)] (by rfl) rfl ?hrun ?_
       case hrun =>
        have he := enters_ (P := Try.prog) Try.func65 (by kernel_rfl) rfl #[.int .i64 ((i : Int) + 1), .int .i64 ((k : Int) + 1), .slice Ad2 d2.length cd2, .pointer (some ⟨w3.heap.size + 1, 0, none⟩), .pointer (some ⟨gp, 0, none⟩)] wr.drew
        unfold execOp
        simp [resolve, Deferred.ofValue, invoke, Act.eval, he, i64_w, hw1, hw2]
       refine (comes.calls base ok2 okA1 ((i : Int) + 1) ((k : Int) + 1) Ad2 cd2 d2 (w3.heap.size + 1) gp gw w3.heap.size (now (R + 1) la) P (n : Int) T (R + 1) vc (.slice Aa la.length ca) vt vk (kRun (now (R + 1) la) (R + 1) i (l1.getD i []) ((iRun (now (R + 1) la) (R + 1) n l1 l2 ss i).1, stowed (R + 1) ((i : Int) + 1) 0 (eff (now (R + 1) la) ((i : Int) + 1) 0 d) (iRun (now (R + 1) la) (R + 1) n l1 l2 ss i).2.2) k).2 wr.drew SKD.out.bmm SKD.out.ma (fun k hk => ⟨(HOA2.out k hk).1, fun e => by rcases SKD.out.hv k e.symm with e2 | e2; exact (HOA2.out k hk).2.1 e2; have := (HOA2.out k hk).2.2; omega⟩) SKD.out.bp SKD.out.bw SKD.out.hs HOK.out (fun k hk => HFR.out k (Nat.le_trans SKD.out.sz hk)) HBW.out HBS3.out HDF2.out HDL2.out HDN2.out HSN2.out).mono ?_
       rintro e wc2 ⟨v2', vq2, rfl, hR, hbw, hN, hKp, hB, hat⟩
       obtain ⟨Av2, cv2, hvs⟩ := Kd.R_slice hR
       subst hvs
       refine ⟨_, rfl, ?_⟩
       have SK3 := Qz.mk (SKD.out.sent HOA2.out (Nat.le_trans HNW.out HSZ.out) hbw hN hKp hB hat SKD.out.not_map.1 SKD.out.not_map.2)
       have HV2 := Qz.mk (fresh_data (base := nr) hR (Nat.le_trans HSZ.out SKD.out.sz))
       have hs0b := SK3.out.cell0 HRK.out (by rw [HR1.out.len]; simp)
       have hs1b := cell_kept (W := wr.drew) (W2 := wc2) (a := ad1.add i) hs1 hKp (by rw [show (ad1.add i).block = ad1.block from by first | rfl | (cases ad1; rfl) | (unfold Addr.add; split <;> rfl) | simp [Addr.add]]; exact HOC2.out _ HI1.out)
       have hs2b := cell_kept (W := wr.drew) (W2 := wc2) (a := adr.add k) hs2 hKp (by rw [show (adr.add k).block = adr.block from by first | rfl | (cases adr; rfl) | (unfold Addr.add; split <;> rfl) | simp [Addr.add]]; exact HOC2.out _ HIR.out)
       clear hR hbw hN hKp hB hat
       refine hK.out _ _ ⟨hs0b, hs1b, hs2b⟩ (fun hHeld => ?_)
       clear hK K
       refine norm_ (a' := ?_) ?_ ?_
       rotate_left
       ·show Act.put _ (some 96) _ = _
        simp only [aw_]
        rfl
       refine pure_ (i := 18) (N := some 97) (v := ?_) (a' := ?_) (ba_ 20 524287) rfl rfl (any_of HT_.out (by kernel_rfl)) (fun _ _ _ h => h) (Or.inl ⟨by rfl, ?_⟩) ?_ ?_
       rotate_left
       ·intro w'
        go_simp
        with_reducible rfl
       rotate_left
       ·simp only [aw_]
        rfl
       refine last_ (i := 19) (N := none) (ba_ 20 1048575) rfl rfl (one_of HT_.out (by kernel_rfl)) (by decide) (fun K hK => ?_)
       have hGl : k < (kRun (now (R + 1) la) (R + 1) i (l1.getD i []) ((iRun (now (R + 1) la) (R + 1) n l1 l2 ss i).1, stowed (R + 1) ((i : Int) + 1) 0 (eff (now (R + 1) la) ((i : Int) + 1) 0 d) (iRun (now (R + 1) la) (R + 1) n l1 l2 ss i).2.2) k).1.length := by
        rw [(kRun_le _ _ _ _ _ _).2, (iRun_le _ _ _ _ _ _ _).2.1]
        exact HKN.out
       have hrw := SK3.out.hr.row k bk ck _ HRK.out (List.getElem?_eq_getElem hGl)
       obtain ⟨⟨ucc, hscell⟩, hsfroz⟩ := row_cell hrw.2.2 HIN.out
       refine skip_ (w1 := ?_) (by rfl) rfl ?_ ?_
       rotate_left
       ·go_simp
        rfl
       refine hK.out _ _ ?_
       clear hK K
       refine done_ (done_of HT_.out (by kernel_rfl)) ?_
       have h51k := Kd.N_typed hrw.2.2 bk (by simp [Value.ownBlock])
       obtain ⟨csk, h51k⟩ := h51k
       have hkm : bk ∈ rbs.map (·.1) := List.mem_map.2 ⟨(bk, ck), List.mem_of_getElem? HRK.out, rfl⟩
       have HNB2 := HNB.out bk hkm
       have hne2 : bk ≠ h2 := fun e => HN21.out (e ▸ hkm)
       have SK4 := Qz.mk (SK3.out.store (b := bk) (i := i) (u := .slice Av2 (eff (now (R + 1) la) ((i : Int) + 1) ((k : Int) + 1) d2).length cv2) h51k (Nat.le_trans HNW.out HNB2.1) (Nat.le_trans HBS.out (Nat.le_trans HNW.out HNB2.1)) HNB2.2 (fun q hq => HOKB.out q bk hq HNB2.1 HNB2.2) HAW.out
        (Rows.put SK3.out.hr HRK.out (List.getElem?_eq_getElem hGl) HIN.out HV2.out) (row_move SK3.out.hh (fun q hq => Below.heap_setCell _ _ _ _ (fun e => by
         have e3 : q = bk := e
         rcases hq with hq | hq
         ·exact hne2 (e3.symm.trans hq)
         ·exact SK3.out.data_ne h51k (by decide) hq e3))))
       have SK5 := Qz.mk (show SInv w nr w20.heap.size n base gw gp (w3.heap.size + 1) w3.heap.size g c h2 ch okA1 ok2 (now (R + 1) la) rbs (fun q => #[.int .u64 P, .int .i64 (n : Int), .int .i64 T, vc, .slice Aa la.length ca, vt, .int .i64 (R + 1), q]) vs _ vq2 (kRun (now (R + 1) la) (R + 1) i (l1.getD i []) ((iRun (now (R + 1) la) (R + 1) n l1 l2 ss i).1, stowed (R + 1) ((i : Int) + 1) 0 (eff (now (R + 1) la) ((i : Int) + 1) 0 d) (iRun (now (R + 1) la) (R + 1) n l1 l2 ss i).2.2) (k + 1)).1 ((iRun (now (R + 1) la) (R + 1) n l1 l2 ss i).2.1.set i (eff (now (R + 1) la) ((i : Int) + 1) 0 d)) (kRun (now (R + 1) la) (R + 1) i (l1.getD i []) ((iRun (now (R + 1) la) (R + 1) n l1 l2 ss i).1, stowed (R + 1) ((i : Int) + 1) 0 (eff (now (R + 1) la) ((i : Int) + 1) 0 d) (iRun (now (R + 1) la) (R + 1) n l1 l2 ss i).2.2) (k + 1)).2 from by
        rw [kRun_succ _ _ _ _ _ _ d2 hGl (by rw [HD22.out, HROW.out])]
        exact SK4.out)
       clear SK3 SK4 hrw hscell hsfroz h51k hGl
       try go_wp2
       go_roundg k2
       case measure => exact Nat.lt_succ_self _
       case rel => exact ⟨k + 1, vq2, by simp; unfold wrap64; have := HN2.out; have := HKN.out; omega, ⟨by have := HI2.out; omega⟩, SK5⟩
  | succ k1 =>
   have c1 : decide ((i : Int) < (la.length : Int)) = true := decide_eq_true (by have := HI.out; omega)
   have c2 : decide (i < la.length) = true := decide_eq_true (by have := HI.out; omega)
   have p1 : (0 : Int) ≤ (i : Int) := by omega
   have q1 : (i : Int) < (la.length : Int) := by have := HI.out; omega
   have hAr := Kd.V_kept HA.out K0.out (fun k hk e => by have h := HO1.out ▸ hk; exact (HOA.out k h.1).1 e)
   obtain ⟨ad, Ai, ci, e, hx0, hx1, hx2, hx3, hx4, hl4, hi4⟩ := at_T72 (Kd.V_reads' hAr).2.2 (i : Int) p1 q1
   subst e
   obtain ⟨ce, hce, hMe, hcc⟩ := Kd.V_get hAr z72 (i : Int) p1 q1
   obtain ⟨ua, uc, rfl, ul, ge⟩ := k72_openF hMe
   have hv := hcc 4 _ rfl
   rw [add_field _ _ 4 (by omega)] at hv
   replace hv := Option.some.inj (hv.symm.trans hx4)
   injection hv with hva_ hvn_ hvc_
   rw [hva_] at ge
   rw [hvc_] at ul
   have HFA := Qz.mk ge
   have HLA2 := Qz.mk ul
   clear hva_ hvn_ hvc_ ge ul hcc hce hMe hl4 hi4 hAr
   simp only [Int.toNat_natCast] at hx0 hx1 hx2 hx3 hx4
   replace p1 := eq_true p1
   replace q1 := eq_true q1
   go_upto_region 7 with (first | ((with_reducible refine gdt (N := 11) rfl ?_); refine bxe ?hg (N := 11) ?hd (cs := #[.int .i64 0, .int .i64 0, .int .i64 0, .bool false, .slice none 0 0]) (t := 72) ?hr ?_; (case hd => rfl); (case hg => rfl); (case hr => first | (go_simp; done) | (go_simp; rfl)); intro g11 hg11 w9 hbox hb9; have HG11 := Qz.mk (show wr.heap.size ≤ g11 from Nat.le_of_eq hg11.symm); clear hg11; have hz0 : w9.cell? ⟨g11, 0, none⟩ = some (.int .i64 0) := (bc_ hbox 0).trans rfl; have hz1 : w9.cell? ⟨g11, 1, none⟩ = some (.int .i64 0) := (bc_ hbox 1).trans rfl; have hz2 : w9.cell? ⟨g11, 2, none⟩ = some (.int .i64 0) := (bc_ hbox 2).trans rfl; have hz3 : w9.cell? ⟨g11, 3, none⟩ = some (.bool false) := (bc_ hbox 3).trans rfl; have hz4 : w9.cell? ⟨g11, 4, none⟩ = some (.slice none 0 0) := (bc_ hbox 4).trans rfl; have hy0 := bf_ hbox 0; have hy1 := bf_ hbox 1; have hy2 := bf_ hbox 2; have hy3 := bf_ hbox 3; have hy4 := bf_ hbox 4))
   have k0 : Kept wr (World.setCell (World.setCell (World.setCell (World.setCell (World.setCell w9 ⟨g11, 0, none⟩ (.int .i64 (r72 la (i : Int)).f0)) ⟨g11, 1, none⟩ (.int .i64 (r72 la (i : Int)).f1)) ⟨g11, 2, none⟩ (.int .i64 (r72 la (i : Int)).f2)) ⟨g11, 3, none⟩ (.bool (r72 la (i : Int)).f3)) ⟨g11, 4, none⟩ (.slice Ai (r72 la (i : Int)).f4.length ci)) (fun _ => False) := by
    have k1 := Kept.of_below hb9 (fun _ => False)
    repeat (first | exact k1 | refine Kept.setCell ?_ (.inr HG11.out) _)
   have k2 : Below base wr (World.setCell (World.setCell (World.setCell (World.setCell (World.setCell w9 ⟨g11, 0, none⟩ (.int .i64 (r72 la (i : Int)).f0)) ⟨g11, 1, none⟩ (.int .i64 (r72 la (i : Int)).f1)) ⟨g11, 2, none⟩ (.int .i64 (r72 la (i : Int)).f2)) ⟨g11, 3, none⟩ (.bool (r72 la (i : Int)).f3)) ⟨g11, 4, none⟩ (.slice Ai (r72 la (i : Int)).f4.length ci)) := by
    have hle : base ≤ wr.heap.size := Nat.le_trans HBS.out K0.out.1
    have k1 := hb9.mono hle
    have hq : base ≤ g11 := Nat.le_trans hle HG11.out
    repeat (first | exact k1 | refine Below.setCell ?_ hq _)
   have k3 : ((World.setCell (World.setCell (World.setCell (World.setCell (World.setCell w9 ⟨g11, 0, none⟩ (.int .i64 (r72 la (i : Int)).f0)) ⟨g11, 1, none⟩ (.int .i64 (r72 la (i : Int)).f1)) ⟨g11, 2, none⟩ (.int .i64 (r72 la (i : Int)).f2)) ⟨g11, 3, none⟩ (.bool (r72 la (i : Int)).f3)) ⟨g11, 4, none⟩ (.slice Ai (r72 la (i : Int)).f4.length ci))).heap[g11]? = some (.cells #[.int .i64 (r72 la (i : Int)).f0, .int .i64 (r72 la (i : Int)).f1, .int .i64 (r72 la (i : Int)).f2, .bool (r72 la (i : Int)).f3, .slice Ai (r72 la (i : Int)).f4.length ci] 72 (0, 0)) := (bks (bks (bks (bks (bks hbox 0 _) 1 _) 2 _) 3 _) 4 _).trans rfl
   clear hz0 hz1 hz2 hz3 hz4 hy0 hy1 hy2 hy3 hy4 hbox hb9 hx0 hx1 hx2 hx3 hx4
   generalize hw10 : (World.setCell (World.setCell (World.setCell (World.setCell (World.setCell w9 ⟨g11, 0, none⟩ (.int .i64 (r72 la (i : Int)).f0)) ⟨g11, 1, none⟩ (.int .i64 (r72 la (i : Int)).f1)) ⟨g11, 2, none⟩ (.int .i64 (r72 la (i : Int)).f2)) ⟨g11, 3, none⟩ (.bool (r72 la (i : Int)).f3)) ⟨g11, 4, none⟩ (.slice Ai (r72 la (i : Int)).f4.length ci)) = w10 at k0 k2 k3 ⊢
   clear hw10
   have K0 := Qz.mk (show Kept w w10 (fun k => k = gw) from K0.out.then_ k0 (fun _ h => h.elim))
   have BW := Qz.mk (bkk BW.out k0 (fun h => h))
   have BP := Qz.mk (bkk BP.out k0 (fun h => h))
   have BM := Qz.mk (bkk BM.out k0 (fun h => h))
   have BA := Qz.mk k3
   have HM := Qz.mk (HM.out.step (w1 := w10) (fun k _ hlt => k0.2 k hlt (fun h => h)) (k0.2 _ (by obtain ⟨_, _, h1, _⟩ := HM.out; exact blt h1) (fun h => h)))
   have HFA := Qz.mk (Kd.F_kept HFA.out k0 (fun _ _ h => h))
   have HB := Qz.mk (HB.out.trans k2)
   clear k0 k2 k3
   have K0 := Qz.mk (Kept.drew K0.out)
   have BW := Qz.mk (bkd BW.out)
   have BP := Qz.mk (bkd BP.out)
   have BM := Qz.mk (bkd BM.out)
   have BA := Qz.mk (bkd BA.out)
   have HM := Qz.mk (HM.out.step (w1 := w10.drew) (fun _ _ _ => rfl) rfl)
   have HFA := Qz.mk (Kd.F_drew HFA.out)
   have HB := Qz.mk (bd1 HB.out)
   refine start_ (n := 7) (S := fun w' => w'.cell? ⟨g11, 0, none⟩ = some (.int .i64 (r72 la (i : Int)).f0) ∧ w'.cell? ⟨gp, 0, none⟩ = some (.pointer (some ⟨gw, 0, none⟩)) ∧ w'.cell? ⟨gw, 6, none⟩ = some (.int .i64 (R + 1))) (ds := []) #[false, false, false, false, false, false, false] (by kernel_rfl) rfl rfl ⟨(bc_ BA.out 0).trans rfl, (bc_ BP.out 0).trans rfl, (bc_ BW.out 6).trans rfl⟩ (fun hHeld => ?_)
   refine with_tabW swap.tab7 swap.bits7 (fun HT_ HW_ => ?_)
   refine pure_ (i := 0) (N := some 39) (v := ?_) (a' := ?_) #[true, false, false, false, false, false, false] rfl rfl (any_of HT_.out (by kernel_rfl)) (fun _ _ _ h => h) (Or.inl ⟨by rfl, ?_⟩) ?_ ?_
   rotate_left
   ·intro w'
    go_simp
    with_reducible rfl
   rotate_left
   ·simp only [aw_]
    rfl
   refine take_ (i := 1) (N := some 40) (v := ?_) (a' := ?_) #[true, true, false, false, false, false, false] rfl rfl (take_ofW HT_.out HW_.out (by kernel_rfl)) (fun _ _ _ h => h) (Or.inl ⟨by rfl, ?_⟩) hHeld ?_ ?_
   rotate_left
   ·rintro w' ⟨s0, s1, s2⟩
    go_simp
    with_reducible rfl
   rotate_left
   ·simp only [aw_]
    rfl
   refine take_ (i := 2) (N := some 41) (v := ?_) (a' := ?_) #[true, true, true, false, false, false, false] rfl rfl (take_ofW HT_.out HW_.out (by kernel_rfl)) (fun _ _ _ h => h) (Or.inl ⟨by rfl, ?_⟩) hHeld ?_ ?_
   rotate_left
   ·rintro w' ⟨s0, s1, s2⟩
    go_simp
    with_reducible rfl
   rotate_left
   ·simp only [aw_]
    rfl
   refine pure_ (i := 3) (N := some 42) (v := ?_) (a' := ?_) #[true, true, true, true, false, false, false] rfl rfl (any_of HT_.out (by kernel_rfl)) (fun _ _ _ h => h) (Or.inl ⟨by rfl, ?_⟩) ?_ ?_
   rotate_left
   ·intro w'
    go_simp
    with_reducible rfl
   rotate_left
   ·simp only [aw_]
    rfl
   refine pure_ (i := 4) (N := some 43) (v := ?_) (a' := ?_) #[true, true, true, true, true, false, false] rfl rfl (any_of HT_.out (by kernel_rfl)) (fun _ _ _ h => h) (Or.inl ⟨by rfl, ?_⟩) ?_ ?_
   rotate_left
   ·intro w'
    go_simp
    with_reducible rfl
   rotate_left
   ·simp only [aw_]
    rfl
   refine take_ (i := 5) (N := some 44) (v := ?_) (a' := ?_) #[true, true, true, true, true, true, false] rfl rfl (take_ofW HT_.out HW_.out (by kernel_rfl)) (fun _ _ _ h => h) (Or.inl ⟨by rfl, ?_⟩) hHeld ?_ ?_
   rotate_left
   ·rintro w' ⟨s0, s1, s2⟩
    go_simp
    with_reducible rfl
   rotate_left
   ·simp only [aw_]
    rfl
   refine pure_ (i := 6) (N := some 45) (v := ?_) (a' := ?_) #[true, true, true, true, true, true, true] rfl rfl (any_of HT_.out (by kernel_rfl)) (fun _ _ _ h => h) (Or.inl ⟨by rfl, ?_⟩) ?_ ?_
   rotate_left
   ·intro w'
    go_simp
    with_reducible rfl
   rotate_left
   ·simp only [aw_]
    rfl
   refine done_ (done_of HT_.out (by kernel_rfl)) ?_
   generalize w10.drew = w11 at K0 BW BP BM BA HM HFA HB ⊢
   have he0 : w11.cell? ⟨g11, 0, none⟩ = some (.int .i64 (r72 la (i : Int)).f0) := (bc_ BA.out 0).trans rfl
   have he1 : w11.cell? ⟨g11, 1, none⟩ = some (.int .i64 (r72 la (i : Int)).f1) := (bc_ BA.out 1).trans rfl
   have he2 : w11.cell? ⟨g11, 2, none⟩ = some (.int .i64 (r72 la (i : Int)).f2) := (bc_ BA.out 2).trans rfl
   have he3 : w11.cell? ⟨g11, 3, none⟩ = some (.bool (r72 la (i : Int)).f3) := (bc_ BA.out 3).trans rfl
   have he4 : w11.cell? ⟨g11, 4, none⟩ = some (.slice Ai (r72 la (i : Int)).f4.length ci) := (bc_ BA.out 4).trans rfl
   have he5 : w11.cell? ⟨w3.heap.size + 1, 0, none⟩ = some (.map (some w3.heap.size)) := (bc_ BM.out 0).trans rfl
   by_cases ha : (r72 la (i : Int)).f0 = R + 1
   ·have hb1 : ((r72 la (i : Int)).f0 == R + 1) = true := beq_iff_eq.mpr ha
    have hnb : ¬ okA1 w3.heap.size := fun h => by have h2 := HO1.out ▸ h; have := GM.out; exact Nat.lt_irrefl _ (Nat.lt_of_lt_of_le h2.2 this)
    obtain ⟨w12, hp, hm2, hne, hsz2, hbel⟩ := MAct.put HM.out hnb (now_new (by have := HI.out; omega) ha HAP.out) HLA2.out HFA.out
    unfold actV at hp
    rw [← now_take (by have := HI.out; omega) ha] at hm2
    have HA2 := Qz.mk ha
    clear ha
    go_wp2
    go_roundg k1
    case measure => exact Nat.lt_succ_self _
    case rel =>
     obtain ⟨es_, cl_, hmm_, _⟩ := HM.out
     have hk : Kept w11 w12 (fun _ => False ) ∨ True := .inr trivial
     have hgm : ∀ k, k < w.heap.size → k ≠ w3.heap.size := fun k hk e => by have := GM.out; omega
     refine ⟨i + 1, by simp; unfold wrap64; have := HLA.out; have := HI.out; omega, ⟨by have := HI.out; omega⟩, ⟨⟨by rw [hsz2]; exact K0.out.1, fun k hk hn => (hne k (hgm k hk)).trans (K0.out.2 k hk hn)⟩⟩, ⟨(hne gw (mset_ne2 BW.out hmm_)).trans BW.out⟩, ⟨(hne gp (mset_ne2 BP.out hmm_)).trans BP.out⟩, ⟨(hne _ (mset_ne2 BM.out hmm_)).trans BM.out⟩, ⟨hm2⟩, ⟨HB.out.trans (hbel base (Nat.le_trans HBS.out GM.out))⟩⟩
   ·have hb1 : ((r72 la (i : Int)).f0 == R + 1) = false := beq_eq_false_iff_ne.mpr ha
    have hm2 := HM.out
    rw [← now_skip (by have := HI.out; omega) ha] at hm2
    have HM := Qz.mk hm2
    clear ha hm2
    go_wp2
    go_roundg k1
    case measure => exact Nat.lt_succ_self _
    case rel => exact ⟨i + 1, by simp; unfold wrap64; have := HLA.out; have := HI.out; omega, ⟨by have := HI.out; omega⟩, K0, BW, BP, BM, HM, HB⟩

end Go.Proofs.Ytkaikgbcnmfppaa.Nb
