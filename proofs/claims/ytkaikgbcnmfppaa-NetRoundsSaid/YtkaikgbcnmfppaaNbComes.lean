/- net.swap's closure: what a party's message becomes, and the record. Made by mk_comes.py. -/
import Derived.Test.YtkaikgbcnmfppaaNbWide
import Derived.Test.YtkaikgbcnmfppaaNbFSlicesCloneUint64Uint6461
import Derived.BigRegion
namespace Go.Proofs.Ytkaikgbcnmfppaa.Nb
open Go Go.RowKit Go.Proofs.YtkaikgbcnmfppaaW.PrintWords Go.Proofs.YtkaikgbcnmfppaaW.PrintLast Go.Proofs.YtkaikgbcnmfppaaW.PrintMore
attribute [local go_sem] max2_int min2_int max_two min_two max_three min_three max_four min_four
set_option linter.unusedVariables false
set_option linter.unusedSimpArgs false
/-- What is sent: the act's data (nothing, where it is silent), or the given data. -/
def eff (l : List S72) (f t : Int) (d : List Int) : List Int := match l.find? (fun a => f == a.f1 && t == a.f2) with
 | some a => if a.f3 = true then [] else a.f4
 | none => d
/-- The record behind it. -/
def stowed (R f t : Int) (d : List Int) (ss : List S77) : List S77 := if f ≠ t ∧ d ≠ [] then ss ++ [⟨R, f, t, d⟩] else ss
theorem cl61 {d : List Int} (h : d.length < 17592186044416) : sc61.f d = some d := by
 unfold sc61.f
 simp only [Option.bind_some, List.length_nil, Nat.zero_add, if_pos h, List.nil_append]
def comes.T7 : Bool × List (List Nat × List Nat) := (true, [([], []), ([], []), ([1], [1]), ([2], [2]), ([3], [3]), ([], []), ([5], [5]), ([6], [6]), ([7], [7]), ([], []), ([], []), ([], []), ([11], [11]), ([8, 9, 10, 12], [8, 9, 10, 12]), ([13], [13]), ([4, 14, 12], [4, 14]), ([0, 0, 1, 2, 3, 4, 5, 6, 7, 8, 9, 10, 11, 12, 13, 14, 15], [0]), ([16, 0, 1, 2, 3, 4, 5, 6, 7, 8, 9, 10, 11, 12, 13, 14, 15], [16]), ([17, 15, 15, 0, 1, 2, 3, 4, 5, 6, 7, 8, 9, 10, 11, 12, 13, 14, 15], [15, 17])])
def comes.B7 : List Nat := [0, 0, 2, 6, 14, 0, 32, 96, 224, 0, 0, 0, 2048, 8160, 16352, 32766, 65535, 131071, 262143]
theorem comes.tab7 : rtab .any (opsOf Try.f65 7) = comes.T7 := by kernel_rfl
theorem comes.bits7 : waitsOk comes.T7.2 comes.B7 = true := by kernel_rfl
set_option maxHeartbeats 8000000 in
set_option maxRecDepth 100000 in
theorem comes.calls (base : Nat) (ok okA : Nat → Prop) (from_ to_ : Int) (A : Option Addr) (c : Nat) (L : List Int) (gm gp gw bm : Nat) (l : List S72) (P N T R : Int) (vc va vt vs : Value) (ss : List S77) (w : World)
  (hgm : w.heap[gm]? = some (.cells #[.map (some bm)] 96 (0, 0))) (hM : MAct w okA bm l) (hokA : ∀ k, okA k → k ≠ gw ∧ some k ≠ vs.ownBlock)
  (hgp : w.heap[gp]? = some (.cells #[.pointer (some ⟨gw, 0, none⟩)] 83 (0, 0))) (hgw : w.heap[gw]? = some (.cells #[.int .u64 P, .int .i64 N, .int .i64 T, vc, va, vt, .int .i64 R, vs] 30 (0, 0)))
  (hs : Kd.N k77 77 w base ok vs ss) (hokw : ∀ k, ok k → k ≠ gw) (hfr : ∀ k, w.heap.size ≤ k → ok k) (hbw : base ≤ gw) (hbs : base ≤ w.heap.size)
  (hd : ∀ W_, Kept w W_ (fun k => k = gw ∨ some k = vs.ownBlock) → Kd.C (Kd.int .u64) W_ A L.length L) (hc : L.length ≤ c)
  (hdl : (eff l from_ to_ L).length < 17592186044416) (hsl : ss.length < 4000000000000) :
  Calls Try.prog 65 #[.int .i64 from_, .int .i64 to_, .slice A L.length c, .pointer (some ⟨gm, 0, none⟩), .pointer (some ⟨gp, 0, none⟩)] w fun e w' => ∃ v' vs', e = .returned v' ∧ Kd.R (Kd.int .u64) 22 w' w.heap.size (fun _ => True) v' (eff l from_ to_ L) ∧
   w'.heap[gw]? = some (.cells #[.int .u64 P, .int .i64 N, .int .i64 T, vc, va, vt, .int .i64 R, vs'] 30 (0, 0)) ∧ Kd.N k77 77 w' base ok vs' (stowed R from_ to_ (eff l from_ to_ L) ss) ∧ Kept w w' (fun k => k = gw ∨ some k = vs.ownBlock) ∧ Below base w w' ∧
   (vs'.ownBlock = vs.ownBlock ∨ ∃ b, vs'.ownBlock = some b ∧ w.heap.size ≤ b) := by
 have hu30 := Try.underlying30
 have hu72 := Try.underlying72
 have hu77 := Try.underlying77
 have hu97 := und97
 obtain ⟨As, cs_, rfl⟩ := Kd.N_slice hs
 have HGM := Qz.mk hgm
 have HGP := Qz.mk hgp
 have HGW := Qz.mk hgw
 have HS := Qz.mk hs
 have HOW := Qz.mk hokw
 have HFR := Qz.mk hfr
 have HBW := Qz.mk hbw
 have HBS := Qz.mk hbs
 have HSL := Qz.mk hsl
 have HOA := Qz.mk hokA
 have HMM := Qz.mk hM
 clear hgm hgp hgw hs hokw hfr hbw hbs hsl hokA hM
 cases hf : l.find? (fun a => from_ == a.f1 && to_ == a.f2) with
 | none =>
  have he : eff l from_ to_ L = L := by unfold eff; rw [hf]
  rw [he] at hdl ⊢
  have hl := MAct.absent HMM.out hf
  have HD := Qz.mk hd
  have HC := Qz.mk hc
  have HL := Qz.mk hdl
  clear hd hc hdl he hf
  unfold actV at hl
  simp only [show z72.f0 = 0 from rfl, show z72.f1 = 0 from rfl, show z72.f2 = 0 from rfl, show z72.f3 = false from rfl, show z72.f4 = [] from rfl, List.length_nil] at hl
  obtain ⟨st, hst⟩ : ∃ st, st = stowed R from_ to_ (L) ss := ⟨_, rfl⟩
  rw [← hst]
  have hcm : w.cell? ⟨gm, 0, none⟩ = some (.map (some bm)) := (bc_ HGM.out 0).trans rfl
  go_enter Try.func65, Try.ntmps65
  go_upto_region 6 with (first | ((with_reducible refine gdt (N := 9) rfl ?_); refine bxe ?hg (N := 9) ?hd (cs := #[.int .i64 0, .int .i64 0, .int .i64 0, .bool false, .slice none 0 0]) (t := 72) ?hr ?_; (case hd => rfl); (case hg => rfl); (case hr => first | (go_simp; done) | (go_simp; rfl)); intro g9 hg9 w9 hbox hb9; have HG9 := Qz.mk (show w.heap.size ≤ g9 from Nat.le_of_eq hg9.symm); clear hg9; have hcz9_0 : w9.cell? ⟨g9, 0, none⟩ = some (.int .i64 0) := (bc_ hbox 0).trans rfl; have hcz9_1 : w9.cell? ⟨g9, 1, none⟩ = some (.int .i64 0) := (bc_ hbox 1).trans rfl; have hcz9_2 : w9.cell? ⟨g9, 2, none⟩ = some (.int .i64 0) := (bc_ hbox 2).trans rfl; have hcz9_3 : w9.cell? ⟨g9, 3, none⟩ = some (.bool false) := (bc_ hbox 3).trans rfl; have hcz9_4 : w9.cell? ⟨g9, 4, none⟩ = some (.slice none 0 0) := (bc_ hbox 4).trans rfl; have hfz9_0 := bf_ hbox 0; have hfz9_1 := bf_ hbox 1; have hfz9_2 := bf_ hbox 2; have hfz9_3 := bf_ hbox 3; have hfz9_4 := bf_ hbox 4))
  have k0 : Kept w (World.setCell (World.setCell (World.setCell (World.setCell (World.setCell w9 ⟨g9, 0, none⟩ (.int .i64 0)) ⟨g9, 1, none⟩ (.int .i64 0)) ⟨g9, 2, none⟩ (.int .i64 0)) ⟨g9, 3, none⟩ (.bool false)) ⟨g9, 4, none⟩ (.slice none 0 0)) (fun _ => False) := by
   have k1 := Kept.of_below hb9 (fun _ => False)
   repeat (first | exact k1 | refine Kept.setCell ?_ (.inr HG9.out) _)
  have k2 : Below base w (World.setCell (World.setCell (World.setCell (World.setCell (World.setCell w9 ⟨g9, 0, none⟩ (.int .i64 0)) ⟨g9, 1, none⟩ (.int .i64 0)) ⟨g9, 2, none⟩ (.int .i64 0)) ⟨g9, 3, none⟩ (.bool false)) ⟨g9, 4, none⟩ (.slice none 0 0)) := by
   have k1 := hb9.mono HBS.out
   have hq : base ≤ g9 := Nat.le_trans HBS.out HG9.out
   repeat (first | exact k1 | refine Below.setCell ?_ hq _)
  clear hcm hl
  try clear hcz9_0 hcz9_1 hcz9_2 hcz9_3 hcz9_4 hfz9_0 hfz9_1 hfz9_2 hfz9_3 hfz9_4
  clear hb9 hbox
  generalize hw10 : (World.setCell (World.setCell (World.setCell (World.setCell (World.setCell w9 ⟨g9, 0, none⟩ (.int .i64 0)) ⟨g9, 1, none⟩ (.int .i64 0)) ⟨g9, 2, none⟩ (.int .i64 0)) ⟨g9, 3, none⟩ (.bool false)) ⟨g9, 4, none⟩ (.slice none 0 0)) = w10 at k0 k2 ⊢
  have HN := Qz.mk (Kd.N_kept HS.out k0 (fun _ _ h => h))
  have BW := Qz.mk (bkk HGW.out k0 (fun h => h))
  have BP := Qz.mk (bkk HGP.out k0 (fun h => h))
  have HK := Qz.mk (show Kept w w10 (fun k => k = gw ∨ some k = (Value.slice As ss.length cs_).ownBlock) from Kept.mono k0 (fun _ h => h.elim))
  have HB := Qz.mk k2
  clear k0 k2 hw10
  by_cases hft : from_ = to_
  ·have b1 : (from_ == to_) = true := beq_iff_eq.mpr hft
   have b2 : (from_ != to_) = false := bne_eq_false_iff_eq.mpr hft
   have e_ : ss = st := by rw [hst]; simp [stowed, hft]
   clear hst; subst e_
   clear hft
   skip
   go_wp2_with (first | ((with_reducible refine gcl (f := 61) rfl ?_); refine goesL_ (some 51) rfl rfl Try.func61 (by kernel_rfl) rfl #[.slice A (L).length c] rfl (by (try simp only [List.map_toArray, List.map_cons, List.map_nil]); first | done | rfl) ?_; refine ((sc61.calls _ _ L L _ (HD.out _ HK.out) HC.out (cl61 HL.out))).mono ?_; rintro e w29 ⟨v235, rfl, ho0, hb⟩; refine ⟨_, rfl, ?_⟩))
   have n0_ := Qz.mk (Kd.N_below HN.out hb)
   have n1_ := Qz.mk (bkb BW.out hb)
   have n2_ := Qz.mk (Kept.below HK.out hb)
   have n3_ := Qz.mk (HB.out.trans (hb.mono (Nat.le_trans HBS.out HK.out.1)))
   have n4_ := Qz.mk (show (Kd.int .u64).R 22 w29 w.heap.size (fun k_ => True) v235 (L) from Kd.R_lower ho0 HK.out.1)
   clear hb ho0
   go_ret
   exact ⟨v235, (.slice As ss.length cs_), rfl, n4_.out, n1_.out, n0_.out, n2_.out, n3_.out, .inl rfl⟩
  ·have b1 : (from_ == to_) = false := beq_eq_false_iff_ne.mpr hft
   have b2 : (from_ != to_) = true := bne_iff_ne.mpr hft
   by_cases hz : 0 < (L).length
   ·have b3 : decide (0 < ((L).length : Int)) = true := decide_eq_true (by omega)
    have b4 : decide (0 < (L).length) = true := decide_eq_true (by omega)
    have e_ : ss ++ [(⟨R, from_, to_, L⟩ : S77)] = st := by rw [hst]; simp [stowed, hft, List.length_pos_iff.1 hz]
    have E_ := Qz.mk e_
    clear hst e_
    clear hft hz
    go_wp2
    have HN := Qz.mk (Kd.N_drew HN.out)
    have BW := Qz.mk (bkd BW.out)
    have BP := Qz.mk (bkd BP.out)
    have HK := Qz.mk (Kept.drew HK.out)
    have HB := Qz.mk (bd1 HB.out)
    refine start_ (n := 19) (S := fun w' => w'.cell? ⟨gp, 0, none⟩ = some (.pointer (some ⟨gw, 0, none⟩)) ∧ w'.cell? ⟨gw, 6, none⟩ = some (.int .i64 R) ∧ w'.cell? ⟨gw, 7, none⟩ = some (.slice As ss.length cs_)) (ds := [18]) (ba_ 19 0) (by kernel_rfl) rfl rfl ⟨(bc_ BP.out 0).trans rfl, (bc_ BW.out 6).trans rfl, (bc_ BW.out 7).trans rfl⟩ (fun hHeld => ?_)
    refine with_tabW comes.tab7 comes.bits7 (fun HT_ HW_ => ?_)
    refine pure_ (i := 9) (N := some 41) (v := ?_) (a' := ?_) (ba_ 19 512) rfl rfl (any_of HT_.out (by kernel_rfl)) (fun _ _ _ h => h) (Or.inl ⟨by rfl, ?_⟩) ?_ ?_
    rotate_left
    ·intro w'
     go_simp
     with_reducible rfl
    rotate_left
    ·simp only [aw_]
     rfl
    refine pure_ (i := 10) (N := some 42) (v := ?_) (a' := ?_) (ba_ 19 1536) rfl rfl (any_of HT_.out (by kernel_rfl)) (fun _ _ _ h => h) (Or.inl ⟨by rfl, ?_⟩) ?_ ?_
    rotate_left
    ·intro w'
     go_simp
     with_reducible rfl
    rotate_left
    ·simp only [aw_]
     rfl
    refine pure_ (i := 11) (N := some 43) (v := ?_) (a' := ?_) (ba_ 19 3584) rfl rfl (any_of HT_.out (by kernel_rfl)) (fun _ _ _ h => h) (Or.inl ⟨by rfl, ?_⟩) ?_ ?_
    rotate_left
    ·intro w'
     go_simp
     with_reducible rfl
    rotate_left
    ·simp only [aw_]
     rfl
    refine take_ (i := 0) (N := some 32) (v := ?_) (a' := ?_) (ba_ 19 3585) rfl rfl (take_ofW HT_.out HW_.out (by kernel_rfl)) (fun _ _ _ h => h) (Or.inl ⟨by rfl, ?_⟩) hHeld ?_ ?_
    rotate_left
    ·rintro w' ⟨s0, s1, s2⟩
     go_simp
     with_reducible rfl
    rotate_left
    ·simp only [aw_]
     rfl
    refine take_ (i := 1) (N := some 33) (v := ?_) (a' := ?_) (ba_ 19 3587) rfl rfl (take_ofW HT_.out HW_.out (by kernel_rfl)) (fun _ _ _ h => h) (Or.inl ⟨by rfl, ?_⟩) hHeld ?_ ?_
    rotate_left
    ·rintro w' ⟨s0, s1, s2⟩
     go_simp
     with_reducible rfl
    rotate_left
    ·simp only [aw_]
     rfl
    refine take_ (i := 5) (N := some 37) (v := ?_) (a' := ?_) (ba_ 19 3619) rfl rfl (take_ofW HT_.out HW_.out (by kernel_rfl)) (fun _ _ _ h => h) (Or.inl ⟨by rfl, ?_⟩) hHeld ?_ ?_
    rotate_left
    ·rintro w' ⟨s0, s1, s2⟩
     go_simp
     with_reducible rfl
    rotate_left
    ·simp only [aw_]
     rfl
    refine pure_ (i := 2) (N := some 34) (v := ?_) (a' := ?_) (ba_ 19 3623) rfl rfl (any_of HT_.out (by kernel_rfl)) (fun _ _ _ h => h) (Or.inl ⟨by rfl, ?_⟩) ?_ ?_
    rotate_left
    ·intro w'
     go_simp
     with_reducible rfl
    rotate_left
    ·simp only [aw_]
     rfl
    refine pure_ (i := 3) (N := some 35) (v := ?_) (a' := ?_) (ba_ 19 3631) rfl rfl (any_of HT_.out (by kernel_rfl)) (fun _ _ _ h => h) (Or.inl ⟨by rfl, ?_⟩) ?_ ?_
    rotate_left
    ·intro w'
     go_simp
     with_reducible rfl
    rotate_left
    ·simp only [aw_]
     rfl
    refine pure_ (i := 6) (N := some 38) (v := ?_) (a' := ?_) (ba_ 19 3695) rfl rfl (any_of HT_.out (by kernel_rfl)) (fun _ _ _ h => h) (Or.inl ⟨by rfl, ?_⟩) ?_ ?_
    rotate_left
    ·intro w'
     go_simp
     with_reducible rfl
    rotate_left
    ·simp only [aw_]
     rfl
    refine pure_ (i := 7) (N := some 39) (v := ?_) (a' := ?_) (ba_ 19 3823) rfl rfl (any_of HT_.out (by kernel_rfl)) (fun _ _ _ h => h) (Or.inl ⟨by rfl, ?_⟩) ?_ ?_
    rotate_left
    ·intro w'
     go_simp
     with_reducible rfl
    rotate_left
    ·simp only [aw_]
     rfl
    refine take_ (i := 4) (N := some 36) (v := ?_) (a' := ?_) (ba_ 19 3839) rfl rfl (take_ofW HT_.out HW_.out (by kernel_rfl)) (fun _ _ _ h => h) (Or.inl ⟨by rfl, ?_⟩) hHeld ?_ ?_
    rotate_left
    ·rintro w' ⟨s0, s1, s2⟩
     go_simp
     with_reducible rfl
    rotate_left
    ·simp only [aw_]
     rfl
    refine take_ (i := 8) (N := some 40) (v := ?_) (a' := ?_) (ba_ 19 4095) rfl rfl (take_ofW HT_.out HW_.out (by kernel_rfl)) (fun _ _ _ h => h) (Or.inl ⟨by rfl, ?_⟩) hHeld ?_ ?_
    rotate_left
    ·rintro w' ⟨s0, s1, s2⟩
     go_simp
     with_reducible rfl
    rotate_left
    ·simp only [aw_]
     rfl
    refine one_ (i := 12) (N := some 44) (ba_ 19 8191) rfl rfl (one_of HT_.out (by kernel_rfl)) (by decide) (fun K hK => ?_)
    refine goes_ Try.func61 (by kernel_rfl) rfl #[.slice A (L).length c] (by rfl) rfl rfl (by (try simp only [List.map_toArray, List.map_cons, List.map_nil]); first | done | rfl | (simp only [List.length_drop, List.length_take]; rfl)) ?_
    refine ((sc61.calls _ _ L L _ (HD.out _ HK.out) HC.out (cl61 HL.out))).mono ?_
    rintro e w21 ⟨v229, rfl, ho0, hb⟩
    refine ⟨_, rfl, ?_⟩
    have n0_ := Qz.mk (Kd.N_elder' HN.out (Kd.R_base ho0) hb)
    have n1_ := Qz.mk (bkb (g := gw) (o := .cells #[.int .u64 P, .int .i64 N, .int .i64 T, vc, va, vt, .int .i64 R, .slice As ss.length cs_] 30 (0, 0)) BW.out hb)
    have n2_ := Qz.mk (bkb (g := gp) (o := .cells #[.pointer (some ⟨gw, 0, none⟩)] 83 (0, 0)) BP.out hb)
    have n3_ := Qz.mk (Kept.below HK.out hb)
    have n4_ := Qz.mk (HB.out.trans (hb.mono (Nat.le_trans HBS.out HK.out.1)))
    have n5_ := Qz.mk (show (Kd.int .u64).R 22 w21 w.heap.size (fun k_ => w.heap.size ≤ k_) v229 (L) from Kd.R_lower (Kd.R_mono (Kd.R_bound ho0) (fun k_ hk => Nat.le_trans HK.out.1 hk.2.1)) HK.out.1)
    clear HN BW BP HK HB ho0 hb
    have HN := n0_
    have BW := n1_
    have BP := n2_
    have HK := n3_
    have HB := n4_
    have HX := n5_
    clear n0_ n1_ n2_ n3_ n4_ n5_
    obtain ⟨Ao22, co22, eo22⟩ := Kd.R_slice HX.out
    subst eo22
    refine hK.out _ _ ⟨(bc_ BP.out 0).trans rfl, (bc_ BW.out 6).trans rfl, (bc_ BW.out 7).trans rfl⟩ (fun hHeld => ?_)
    clear hK K
    refine norm_ (a' := ?_) ?_ ?_
    rotate_left
    ·show Act.put _ (some 44) _ = _
     simp only [aw_]
     rfl
    refine pure_ (i := 13) (N := some 45) (v := ?_) (a' := ?_) (ba_ 19 16383) rfl rfl (any_of HT_.out (by kernel_rfl)) (fun _ _ _ h => h) (Or.inl ⟨by rfl, ?_⟩) ?_ ?_
    rotate_left
    ·intro w'
     go_simp
     with_reducible rfl
    rotate_left
    ·simp only [aw_]
     rfl
    refine one_ (i := 14) (N := some 46) (ba_ 19 32767) rfl rfl (one_of HT_.out (by kernel_rfl)) (by decide) (fun K hK => ?_)
    refine value_ (w1 := ?_) (v := ?_) (by rfl) rfl ?_ ?_
    rotate_left
    rotate_left
    ·go_simp
     constructor
     ·rfl
     ·rfl
    refine hK.out _ _ ⟨(bc_ (bka BP.out _) 0).trans rfl, (bc_ (bka BW.out _) 6).trans rfl, (bc_ (bka BW.out _) 7).trans rfl⟩ (fun hHeld => ?_)
    clear hK K
    refine norm_ (a' := ?_) ?_ ?_
    rotate_left
    ·show Act.put _ (some 46) _ = _
     simp only [aw_]
     rfl
    refine one_ (i := 15) (N := some 47) (ba_ 19 65535) rfl rfl (one_of HT_.out (by kernel_rfl)) (by decide) (fun K hK => ?_)
    refine N_append_step_wide k77 base rfl (.tmp 36) (.tmp 46) 28 77 (.agg #[(.int .i64 0), (.int .i64 0), (.int .i64 0), (.slice none 0 0)]) 48 rfl Try.underlying28 info77 rfl (by decide) (by omega) (.slice As ss.length cs_) ss (⟨R, from_, to_, L⟩ : S77) [.int .i64 R, .int .i64 from_, .int .i64 to_, .slice Ao22 (L).length co22] ok (fun k_ => ok k_ ∧ some k_ ≠ (.slice As ss.length cs_ : Value).ownBlock) rfl rfl ?aP (fun _ hk => hk) ?aF ?aO HB.out ?aS ?aM ?aL ?_
    (case aP => exact k77_mkF _ _ (⟨R, from_, to_, L⟩ : S77) (Kd.R_reads' HX.out).2.1 (Kd.R_F (Kd.R_mono (Kd.R_apart' HX.out (Kd.N_typed HN.out) (by decide)) (fun k_ hk => ⟨HFR.out k_ hk.1, hk.2⟩))))
    (case aF => exact fun k_ hk => HFR.out k_ (Nat.le_trans HK.out.1 hk))
    (case aO => exact Kd.N_drop HN.out)
    (case aS => exact Nat.le_trans HBS.out HK.out.1)
    (case aM => have := HSL.out; unfold maxLen; omega)
    (case aL => have := HSL.out; omega)
    intro v232 w23 ho hb hg hat
    rw [E_.out] at ho
    have n0_ := Qz.mk (blk_grown (g := gw) (o := .cells #[.int .u64 P, .int .i64 N, .int .i64 T, vc, va, vt, .int .i64 R, .slice As ss.length cs_] 30 (0, 0)) BW.out hg (Kd.N_ne HN.out BW.out (by decide)))
    have n1_ := Qz.mk (blk_grown (g := gp) (o := .cells #[.pointer (some ⟨gw, 0, none⟩)] 83 (0, 0)) BP.out hg (Kd.N_ne HN.out BP.out (by decide)))
    have n2_ := Qz.mk (Kept.of_grown hg HK.out (fun k_ e_ => .inl (.inr e_.symm)))
    have n3_ := Qz.mk hb
    have n4_ := Qz.mk ho
    have n5_ := Qz.mk (show v232.ownBlock = (Value.slice As ss.length cs_).ownBlock ∨ ∃ b, v232.ownBlock = some b ∧ w.heap.size ≤ b from hat.imp id (fun ⟨b, h1, h2⟩ => ⟨b, h1, Nat.le_trans HK.out.1 h2⟩))
    clear HN BW BP HK HB HX ho hb hg hat
    have BW := n0_
    have BP := n1_
    have HK := n2_
    have HB := n3_
    have HN := n4_
    have HAT := n5_
    clear n0_ n1_ n2_ n3_ n4_ n5_
    obtain ⟨Ao24, co24, eo24⟩ := Kd.N_slice HN.out
    subst eo24
    refine hK.out _ _ ⟨(bc_ BP.out 0).trans rfl, (bc_ BW.out 6).trans rfl, (bc_ BW.out 7).trans rfl⟩ (fun hHeld => ?_)
    clear hK K
    refine norm_ (a' := ?_) ?_ ?_
    rotate_left
    ·show Act.put _ (some 47) _ = _
     simp only [aw_]
     rfl
    refine pure_ (i := 16) (N := some 48) (v := ?_) (a' := ?_) (ba_ 19 131071) rfl rfl (any_of HT_.out (by kernel_rfl)) (fun _ _ _ h => h) (Or.inl ⟨by rfl, ?_⟩) ?_ ?_
    rotate_left
    ·intro w'
     go_simp
     with_reducible rfl
    rotate_left
    ·simp only [aw_]
     rfl
    refine pure_ (i := 17) (N := some 49) (v := ?_) (a' := ?_) (ba_ 19 262143) rfl rfl (any_of HT_.out (by kernel_rfl)) (fun _ _ _ h => h) (Or.inl ⟨by rfl, ?_⟩) ?_ ?_
    rotate_left
    ·intro w'
     go_simp
     with_reducible rfl
    rotate_left
    ·simp only [aw_]
     rfl
    refine last_ (i := 18) (N := none) (ba_ 19 524287) rfl rfl (one_of HT_.out (by kernel_rfl)) (by decide) (fun K hK => ?_)
    have hs25 : w23.cell? ⟨gw, 7, none⟩ = some (.slice As ss.length cs_) := (bc_ BW.out 7).trans rfl
    have hfs25 := bf_ BW.out 7
    refine skip_ (w1 := ?_) (by rfl) rfl ?_ ?_
    rotate_left
    ·go_simp
     rfl
    refine hK.out _ _ ?_
    clear hK K
    refine done_ (done_of HT_.out (by kernel_rfl)) ?_
    have n0_ := Qz.mk (show (w23.setCell ⟨gw, 7, none⟩ (.slice Ao24 st.length co24)).heap[gw]? = some (.cells #[.int .u64 P, .int .i64 N, .int .i64 T, vc, va, vt, .int .i64 R, .slice Ao24 st.length co24] 30 (0, 0)) from (bks BW.out 7 _).trans rfl)
    have n1_ := Qz.mk (Kd.N_mono (Kd.N_far (p := ⟨gw, 7, none⟩) (Kd.N_mono HN.out (fun k_ hk => (⟨hk, HOW.out k_ hk⟩ : ok k_ ∧ k_ ≠ gw))) (fun _ hk => hk.2) (.slice Ao24 st.length co24)) (fun k_ hk => hk.1))
    have n2_ := Qz.mk (Kept.setCell (p := ⟨gw, 7, none⟩) HK.out (.inl (.inl rfl)) (.slice Ao24 st.length co24))
    have n3_ := Qz.mk (HB.out.setCell (p := ⟨gw, 7, none⟩) HBW.out (.slice Ao24 st.length co24))
    clear BW HN HK HB BP hs25 hfs25
    have BW := n0_
    have HN := n1_
    have HK := n2_
    have HB := n3_
    clear n0_ n1_ n2_ n3_
    skip
    go_wp2_with (first | ((with_reducible refine gcl (f := 61) rfl ?_); refine goesL_ (some 51) rfl rfl Try.func61 (by kernel_rfl) rfl #[.slice A (L).length c] rfl (by (try simp only [List.map_toArray, List.map_cons, List.map_nil]); first | done | rfl) ?_; refine ((sc61.calls _ _ L L _ (HD.out _ HK.out) HC.out (cl61 HL.out))).mono ?_; rintro e w29 ⟨v235, rfl, ho0, hb⟩; refine ⟨_, rfl, ?_⟩))
    have n0_ := Qz.mk (Kd.N_below HN.out hb)
    have n1_ := Qz.mk (bkb BW.out hb)
    have n2_ := Qz.mk (Kept.below HK.out hb)
    have n3_ := Qz.mk (HB.out.trans (hb.mono (Nat.le_trans HBS.out HK.out.1)))
    have n4_ := Qz.mk (show (Kd.int .u64).R 22 w29 w.heap.size (fun k_ => True) v235 (L) from Kd.R_lower ho0 HK.out.1)
    clear hb ho0
    go_ret
    exact ⟨v235, (.slice Ao24 st.length co24), rfl, n4_.out, n1_.out, n0_.out, n2_.out, n3_.out, HAT.out⟩
   ·have b3 : decide (0 < ((L).length : Int)) = false := decide_eq_false (by omega)
    have b4 : decide (0 < (L).length) = false := decide_eq_false (by omega)
    have e_ : ss = st := by rw [hst]; simp [stowed, List.eq_nil_of_length_eq_zero (show (L).length = 0 by omega)]
    clear hst; subst e_
    clear hft hz
    skip
    go_wp2_with (first | ((with_reducible refine gcl (f := 61) rfl ?_); refine goesL_ (some 51) rfl rfl Try.func61 (by kernel_rfl) rfl #[.slice A (L).length c] rfl (by (try simp only [List.map_toArray, List.map_cons, List.map_nil]); first | done | rfl) ?_; refine ((sc61.calls _ _ L L _ (HD.out _ HK.out) HC.out (cl61 HL.out))).mono ?_; rintro e w29 ⟨v235, rfl, ho0, hb⟩; refine ⟨_, rfl, ?_⟩))
    have n0_ := Qz.mk (Kd.N_below HN.out hb)
    have n1_ := Qz.mk (bkb BW.out hb)
    have n2_ := Qz.mk (Kept.below HK.out hb)
    have n3_ := Qz.mk (HB.out.trans (hb.mono (Nat.le_trans HBS.out HK.out.1)))
    have n4_ := Qz.mk (show (Kd.int .u64).R 22 w29 w.heap.size (fun k_ => True) v235 (L) from Kd.R_lower ho0 HK.out.1)
    clear hb ho0
    go_ret
    exact ⟨v235, (.slice As ss.length cs_), rfl, n4_.out, n1_.out, n0_.out, n2_.out, n3_.out, .inl rfl⟩
 | some a =>
  obtain ⟨Aa, ca, hl, hca, hFa⟩ := MAct.found HMM.out hf
  have hK : ∀ W_, Kept w W_ (fun k => k = gw ∨ some k = (Value.slice As ss.length cs_).ownBlock) → Kd.C (Kd.int .u64) W_ Aa a.f4.length a.f4 := fun W_ hk => Kd.F_now (Kd.F_kept hFa hk (fun k h1 h2 => h2.elim (HOA.out k h1).1 (HOA.out k h1).2))
  clear hd hc
  unfold actV at hl
  cases h3 : a.f3 with
  | true =>
   have he : eff l from_ to_ L = [] := by unfold eff; rw [hf]; simp [h3]
   rw [he] at hdl ⊢
   rw [h3] at hl
   have HD := Qz.mk (show ∀ W_, Kept w W_ (fun k => k = gw ∨ some k = (Value.slice As ss.length cs_).ownBlock) → Kd.C (Kd.int .u64) W_ none ([] : List Int).length [] from fun W_ _ => Kd.C_nil _ _)
   have HC := Qz.mk (show ([] : List Int).length ≤ 0 from Nat.le_refl _)
   have HL := Qz.mk hdl
   clear hdl he hf h3 hK hca hFa
   skip
   obtain ⟨st, hst⟩ : ∃ st, st = stowed R from_ to_ (([] : List Int)) ss := ⟨_, rfl⟩
   rw [← hst]
   have hcm : w.cell? ⟨gm, 0, none⟩ = some (.map (some bm)) := (bc_ HGM.out 0).trans rfl
   go_enter Try.func65, Try.ntmps65
   go_upto_region 6 with (first | ((with_reducible refine gdt (N := 9) rfl ?_); refine bxe ?hg (N := 9) ?hd (cs := #[.int .i64 0, .int .i64 0, .int .i64 0, .bool false, .slice none 0 0]) (t := 72) ?hr ?_; (case hd => rfl); (case hg => rfl); (case hr => first | (go_simp; done) | (go_simp; rfl)); intro g9 hg9 w9 hbox hb9; have HG9 := Qz.mk (show w.heap.size ≤ g9 from Nat.le_of_eq hg9.symm); clear hg9; have hcz9_0 : w9.cell? ⟨g9, 0, none⟩ = some (.int .i64 0) := (bc_ hbox 0).trans rfl; have hcz9_1 : w9.cell? ⟨g9, 1, none⟩ = some (.int .i64 0) := (bc_ hbox 1).trans rfl; have hcz9_2 : w9.cell? ⟨g9, 2, none⟩ = some (.int .i64 0) := (bc_ hbox 2).trans rfl; have hcz9_3 : w9.cell? ⟨g9, 3, none⟩ = some (.bool false) := (bc_ hbox 3).trans rfl; have hcz9_4 : w9.cell? ⟨g9, 4, none⟩ = some (.slice none 0 0) := (bc_ hbox 4).trans rfl; have hfz9_0 := bf_ hbox 0; have hfz9_1 := bf_ hbox 1; have hfz9_2 := bf_ hbox 2; have hfz9_3 := bf_ hbox 3; have hfz9_4 := bf_ hbox 4))
   have k0 : Kept w (World.setCell (World.setCell (World.setCell (World.setCell (World.setCell w9 ⟨g9, 0, none⟩ (.int .i64 a.f0)) ⟨g9, 1, none⟩ (.int .i64 a.f1)) ⟨g9, 2, none⟩ (.int .i64 a.f2)) ⟨g9, 3, none⟩ (.bool true)) ⟨g9, 4, none⟩ (.slice Aa a.f4.length ca)) (fun _ => False) := by
    have k1 := Kept.of_below hb9 (fun _ => False)
    repeat (first | exact k1 | refine Kept.setCell ?_ (.inr HG9.out) _)
   have k2 : Below base w (World.setCell (World.setCell (World.setCell (World.setCell (World.setCell w9 ⟨g9, 0, none⟩ (.int .i64 a.f0)) ⟨g9, 1, none⟩ (.int .i64 a.f1)) ⟨g9, 2, none⟩ (.int .i64 a.f2)) ⟨g9, 3, none⟩ (.bool true)) ⟨g9, 4, none⟩ (.slice Aa a.f4.length ca)) := by
    have k1 := hb9.mono HBS.out
    have hq : base ≤ g9 := Nat.le_trans HBS.out HG9.out
    repeat (first | exact k1 | refine Below.setCell ?_ hq _)
   clear hcm hl
   try clear hcz9_0 hcz9_1 hcz9_2 hcz9_3 hcz9_4 hfz9_0 hfz9_1 hfz9_2 hfz9_3 hfz9_4
   clear hb9 hbox
   generalize hw10 : (World.setCell (World.setCell (World.setCell (World.setCell (World.setCell w9 ⟨g9, 0, none⟩ (.int .i64 a.f0)) ⟨g9, 1, none⟩ (.int .i64 a.f1)) ⟨g9, 2, none⟩ (.int .i64 a.f2)) ⟨g9, 3, none⟩ (.bool true)) ⟨g9, 4, none⟩ (.slice Aa a.f4.length ca)) = w10 at k0 k2 ⊢
   have HN := Qz.mk (Kd.N_kept HS.out k0 (fun _ _ h => h))
   have BW := Qz.mk (bkk HGW.out k0 (fun h => h))
   have BP := Qz.mk (bkk HGP.out k0 (fun h => h))
   have HK := Qz.mk (show Kept w w10 (fun k => k = gw ∨ some k = (Value.slice As ss.length cs_).ownBlock) from Kept.mono k0 (fun _ h => h.elim))
   have HB := Qz.mk k2
   clear k0 k2 hw10
   by_cases hft : from_ = to_
   ·have b1 : (from_ == to_) = true := beq_iff_eq.mpr hft
    have b2 : (from_ != to_) = false := bne_eq_false_iff_eq.mpr hft
    have e_ : ss = st := by rw [hst]; simp [stowed, hft]
    clear hst; subst e_
    clear hft
    skip
    go_wp2_with (first | ((with_reducible refine gcl (f := 61) rfl ?_); refine goesL_ (some 51) rfl rfl Try.func61 (by kernel_rfl) rfl #[.slice none (([] : List Int)).length 0] rfl (by (try simp only [List.map_toArray, List.map_cons, List.map_nil]); first | done | rfl) ?_; refine ((sc61.calls _ _ ([] : List Int) ([] : List Int) _ (HD.out _ HK.out) HC.out (cl61 HL.out))).mono ?_; rintro e w29 ⟨v235, rfl, ho0, hb⟩; refine ⟨_, rfl, ?_⟩))
    have n0_ := Qz.mk (Kd.N_below HN.out hb)
    have n1_ := Qz.mk (bkb BW.out hb)
    have n2_ := Qz.mk (Kept.below HK.out hb)
    have n3_ := Qz.mk (HB.out.trans (hb.mono (Nat.le_trans HBS.out HK.out.1)))
    have n4_ := Qz.mk (show (Kd.int .u64).R 22 w29 w.heap.size (fun k_ => True) v235 (([] : List Int)) from Kd.R_lower ho0 HK.out.1)
    clear hb ho0
    go_ret
    exact ⟨v235, (.slice As ss.length cs_), rfl, n4_.out, n1_.out, n0_.out, n2_.out, n3_.out, .inl rfl⟩
   ·have b1 : (from_ == to_) = false := beq_eq_false_iff_ne.mpr hft
    have b2 : (from_ != to_) = true := bne_iff_ne.mpr hft
    have e_ : ss = st := by rw [hst]; simp [stowed]
    clear hst; subst e_
    clear hft
    skip
    go_wp2_with (first | ((with_reducible refine gcl (f := 61) rfl ?_); refine goesL_ (some 51) rfl rfl Try.func61 (by kernel_rfl) rfl #[.slice none (([] : List Int)).length 0] rfl (by (try simp only [List.map_toArray, List.map_cons, List.map_nil]); first | done | rfl) ?_; refine ((sc61.calls _ _ ([] : List Int) ([] : List Int) _ (HD.out _ HK.out) HC.out (cl61 HL.out))).mono ?_; rintro e w29 ⟨v235, rfl, ho0, hb⟩; refine ⟨_, rfl, ?_⟩))
    have n0_ := Qz.mk (Kd.N_below HN.out hb)
    have n1_ := Qz.mk (bkb BW.out hb)
    have n2_ := Qz.mk (Kept.below HK.out hb)
    have n3_ := Qz.mk (HB.out.trans (hb.mono (Nat.le_trans HBS.out HK.out.1)))
    have n4_ := Qz.mk (show (Kd.int .u64).R 22 w29 w.heap.size (fun k_ => True) v235 (([] : List Int)) from Kd.R_lower ho0 HK.out.1)
    clear hb ho0
    go_ret
    exact ⟨v235, (.slice As ss.length cs_), rfl, n4_.out, n1_.out, n0_.out, n2_.out, n3_.out, .inl rfl⟩
  | false =>
   have he : eff l from_ to_ L = a.f4 := by unfold eff; rw [hf]; simp [h3]
   rw [he] at hdl ⊢
   rw [h3] at hl
   have HD := Qz.mk hK
   have HC := Qz.mk hca
   have HL := Qz.mk hdl
   clear hdl he hf h3 hK hca hFa
   skip
   obtain ⟨st, hst⟩ : ∃ st, st = stowed R from_ to_ (a.f4) ss := ⟨_, rfl⟩
   rw [← hst]
   have hcm : w.cell? ⟨gm, 0, none⟩ = some (.map (some bm)) := (bc_ HGM.out 0).trans rfl
   go_enter Try.func65, Try.ntmps65
   go_upto_region 6 with (first | ((with_reducible refine gdt (N := 9) rfl ?_); refine bxe ?hg (N := 9) ?hd (cs := #[.int .i64 0, .int .i64 0, .int .i64 0, .bool false, .slice none 0 0]) (t := 72) ?hr ?_; (case hd => rfl); (case hg => rfl); (case hr => first | (go_simp; done) | (go_simp; rfl)); intro g9 hg9 w9 hbox hb9; have HG9 := Qz.mk (show w.heap.size ≤ g9 from Nat.le_of_eq hg9.symm); clear hg9; have hcz9_0 : w9.cell? ⟨g9, 0, none⟩ = some (.int .i64 0) := (bc_ hbox 0).trans rfl; have hcz9_1 : w9.cell? ⟨g9, 1, none⟩ = some (.int .i64 0) := (bc_ hbox 1).trans rfl; have hcz9_2 : w9.cell? ⟨g9, 2, none⟩ = some (.int .i64 0) := (bc_ hbox 2).trans rfl; have hcz9_3 : w9.cell? ⟨g9, 3, none⟩ = some (.bool false) := (bc_ hbox 3).trans rfl; have hcz9_4 : w9.cell? ⟨g9, 4, none⟩ = some (.slice none 0 0) := (bc_ hbox 4).trans rfl; have hfz9_0 := bf_ hbox 0; have hfz9_1 := bf_ hbox 1; have hfz9_2 := bf_ hbox 2; have hfz9_3 := bf_ hbox 3; have hfz9_4 := bf_ hbox 4))
   have k0 : Kept w (World.setCell (World.setCell (World.setCell (World.setCell (World.setCell w9 ⟨g9, 0, none⟩ (.int .i64 a.f0)) ⟨g9, 1, none⟩ (.int .i64 a.f1)) ⟨g9, 2, none⟩ (.int .i64 a.f2)) ⟨g9, 3, none⟩ (.bool false)) ⟨g9, 4, none⟩ (.slice Aa a.f4.length ca)) (fun _ => False) := by
    have k1 := Kept.of_below hb9 (fun _ => False)
    repeat (first | exact k1 | refine Kept.setCell ?_ (.inr HG9.out) _)
   have k2 : Below base w (World.setCell (World.setCell (World.setCell (World.setCell (World.setCell w9 ⟨g9, 0, none⟩ (.int .i64 a.f0)) ⟨g9, 1, none⟩ (.int .i64 a.f1)) ⟨g9, 2, none⟩ (.int .i64 a.f2)) ⟨g9, 3, none⟩ (.bool false)) ⟨g9, 4, none⟩ (.slice Aa a.f4.length ca)) := by
    have k1 := hb9.mono HBS.out
    have hq : base ≤ g9 := Nat.le_trans HBS.out HG9.out
    repeat (first | exact k1 | refine Below.setCell ?_ hq _)
   clear hcm hl
   try clear hcz9_0 hcz9_1 hcz9_2 hcz9_3 hcz9_4 hfz9_0 hfz9_1 hfz9_2 hfz9_3 hfz9_4
   clear hb9 hbox
   generalize hw10 : (World.setCell (World.setCell (World.setCell (World.setCell (World.setCell w9 ⟨g9, 0, none⟩ (.int .i64 a.f0)) ⟨g9, 1, none⟩ (.int .i64 a.f1)) ⟨g9, 2, none⟩ (.int .i64 a.f2)) ⟨g9, 3, none⟩ (.bool false)) ⟨g9, 4, none⟩ (.slice Aa a.f4.length ca)) = w10 at k0 k2 ⊢
   have HN := Qz.mk (Kd.N_kept HS.out k0 (fun _ _ h => h))
   have BW := Qz.mk (bkk HGW.out k0 (fun h => h))
   have BP := Qz.mk (bkk HGP.out k0 (fun h => h))
   have HK := Qz.mk (show Kept w w10 (fun k => k = gw ∨ some k = (Value.slice As ss.length cs_).ownBlock) from Kept.mono k0 (fun _ h => h.elim))
   have HB := Qz.mk k2
   clear k0 k2 hw10
   by_cases hft : from_ = to_
   ·have b1 : (from_ == to_) = true := beq_iff_eq.mpr hft
    have b2 : (from_ != to_) = false := bne_eq_false_iff_eq.mpr hft
    have e_ : ss = st := by rw [hst]; simp [stowed, hft]
    clear hst; subst e_
    clear hft
    skip
    go_wp2_with (first | ((with_reducible refine gcl (f := 61) rfl ?_); refine goesL_ (some 51) rfl rfl Try.func61 (by kernel_rfl) rfl #[.slice Aa (a.f4).length ca] rfl (by (try simp only [List.map_toArray, List.map_cons, List.map_nil]); first | done | rfl) ?_; refine ((sc61.calls _ _ a.f4 a.f4 _ (HD.out _ HK.out) HC.out (cl61 HL.out))).mono ?_; rintro e w29 ⟨v235, rfl, ho0, hb⟩; refine ⟨_, rfl, ?_⟩))
    have n0_ := Qz.mk (Kd.N_below HN.out hb)
    have n1_ := Qz.mk (bkb BW.out hb)
    have n2_ := Qz.mk (Kept.below HK.out hb)
    have n3_ := Qz.mk (HB.out.trans (hb.mono (Nat.le_trans HBS.out HK.out.1)))
    have n4_ := Qz.mk (show (Kd.int .u64).R 22 w29 w.heap.size (fun k_ => True) v235 (a.f4) from Kd.R_lower ho0 HK.out.1)
    clear hb ho0
    go_ret
    exact ⟨v235, (.slice As ss.length cs_), rfl, n4_.out, n1_.out, n0_.out, n2_.out, n3_.out, .inl rfl⟩
   ·have b1 : (from_ == to_) = false := beq_eq_false_iff_ne.mpr hft
    have b2 : (from_ != to_) = true := bne_iff_ne.mpr hft
    by_cases hz : 0 < (a.f4).length
    ·have b3 : decide (0 < ((a.f4).length : Int)) = true := decide_eq_true (by omega)
     have b4 : decide (0 < (a.f4).length) = true := decide_eq_true (by omega)
     have e_ : ss ++ [(⟨R, from_, to_, a.f4⟩ : S77)] = st := by rw [hst]; simp [stowed, hft, List.length_pos_iff.1 hz]
     have E_ := Qz.mk e_
     clear hst e_
     clear hft hz
     go_wp2
     have HN := Qz.mk (Kd.N_drew HN.out)
     have BW := Qz.mk (bkd BW.out)
     have BP := Qz.mk (bkd BP.out)
     have HK := Qz.mk (Kept.drew HK.out)
     have HB := Qz.mk (bd1 HB.out)
     refine start_ (n := 19) (S := fun w' => w'.cell? ⟨gp, 0, none⟩ = some (.pointer (some ⟨gw, 0, none⟩)) ∧ w'.cell? ⟨gw, 6, none⟩ = some (.int .i64 R) ∧ w'.cell? ⟨gw, 7, none⟩ = some (.slice As ss.length cs_)) (ds := [18]) (ba_ 19 0) (by kernel_rfl) rfl rfl ⟨(bc_ BP.out 0).trans rfl, (bc_ BW.out 6).trans rfl, (bc_ BW.out 7).trans rfl⟩ (fun hHeld => ?_)
     refine with_tabW comes.tab7 comes.bits7 (fun HT_ HW_ => ?_)
     refine pure_ (i := 9) (N := some 41) (v := ?_) (a' := ?_) (ba_ 19 512) rfl rfl (any_of HT_.out (by kernel_rfl)) (fun _ _ _ h => h) (Or.inl ⟨by rfl, ?_⟩) ?_ ?_
     rotate_left
     ·intro w'
      go_simp
      with_reducible rfl
     rotate_left
     ·simp only [aw_]
      rfl
     refine pure_ (i := 10) (N := some 42) (v := ?_) (a' := ?_) (ba_ 19 1536) rfl rfl (any_of HT_.out (by kernel_rfl)) (fun _ _ _ h => h) (Or.inl ⟨by rfl, ?_⟩) ?_ ?_
     rotate_left
     ·intro w'
      go_simp
      with_reducible rfl
     rotate_left
     ·simp only [aw_]
      rfl
     refine pure_ (i := 11) (N := some 43) (v := ?_) (a' := ?_) (ba_ 19 3584) rfl rfl (any_of HT_.out (by kernel_rfl)) (fun _ _ _ h => h) (Or.inl ⟨by rfl, ?_⟩) ?_ ?_
     rotate_left
     ·intro w'
      go_simp
      with_reducible rfl
     rotate_left
     ·simp only [aw_]
      rfl
     refine take_ (i := 0) (N := some 32) (v := ?_) (a' := ?_) (ba_ 19 3585) rfl rfl (take_ofW HT_.out HW_.out (by kernel_rfl)) (fun _ _ _ h => h) (Or.inl ⟨by rfl, ?_⟩) hHeld ?_ ?_
     rotate_left
     ·rintro w' ⟨s0, s1, s2⟩
      go_simp
      with_reducible rfl
     rotate_left
     ·simp only [aw_]
      rfl
     refine take_ (i := 1) (N := some 33) (v := ?_) (a' := ?_) (ba_ 19 3587) rfl rfl (take_ofW HT_.out HW_.out (by kernel_rfl)) (fun _ _ _ h => h) (Or.inl ⟨by rfl, ?_⟩) hHeld ?_ ?_
     rotate_left
     ·rintro w' ⟨s0, s1, s2⟩
      go_simp
      with_reducible rfl
     rotate_left
     ·simp only [aw_]
      rfl
     refine take_ (i := 5) (N := some 37) (v := ?_) (a' := ?_) (ba_ 19 3619) rfl rfl (take_ofW HT_.out HW_.out (by kernel_rfl)) (fun _ _ _ h => h) (Or.inl ⟨by rfl, ?_⟩) hHeld ?_ ?_
     rotate_left
     ·rintro w' ⟨s0, s1, s2⟩
      go_simp
      with_reducible rfl
     rotate_left
     ·simp only [aw_]
      rfl
     refine pure_ (i := 2) (N := some 34) (v := ?_) (a' := ?_) (ba_ 19 3623) rfl rfl (any_of HT_.out (by kernel_rfl)) (fun _ _ _ h => h) (Or.inl ⟨by rfl, ?_⟩) ?_ ?_
     rotate_left
     ·intro w'
      go_simp
      with_reducible rfl
     rotate_left
     ·simp only [aw_]
      rfl
     refine pure_ (i := 3) (N := some 35) (v := ?_) (a' := ?_) (ba_ 19 3631) rfl rfl (any_of HT_.out (by kernel_rfl)) (fun _ _ _ h => h) (Or.inl ⟨by rfl, ?_⟩) ?_ ?_
     rotate_left
     ·intro w'
      go_simp
      with_reducible rfl
     rotate_left
     ·simp only [aw_]
      rfl
     refine pure_ (i := 6) (N := some 38) (v := ?_) (a' := ?_) (ba_ 19 3695) rfl rfl (any_of HT_.out (by kernel_rfl)) (fun _ _ _ h => h) (Or.inl ⟨by rfl, ?_⟩) ?_ ?_
     rotate_left
     ·intro w'
      go_simp
      with_reducible rfl
     rotate_left
     ·simp only [aw_]
      rfl
     refine pure_ (i := 7) (N := some 39) (v := ?_) (a' := ?_) (ba_ 19 3823) rfl rfl (any_of HT_.out (by kernel_rfl)) (fun _ _ _ h => h) (Or.inl ⟨by rfl, ?_⟩) ?_ ?_
     rotate_left
     ·intro w'
      go_simp
      with_reducible rfl
     rotate_left
     ·simp only [aw_]
      rfl
     refine take_ (i := 4) (N := some 36) (v := ?_) (a' := ?_) (ba_ 19 3839) rfl rfl (take_ofW HT_.out HW_.out (by kernel_rfl)) (fun _ _ _ h => h) (Or.inl ⟨by rfl, ?_⟩) hHeld ?_ ?_
     rotate_left
     ·rintro w' ⟨s0, s1, s2⟩
      go_simp
      with_reducible rfl
     rotate_left
     ·simp only [aw_]
      rfl
     refine take_ (i := 8) (N := some 40) (v := ?_) (a' := ?_) (ba_ 19 4095) rfl rfl (take_ofW HT_.out HW_.out (by kernel_rfl)) (fun _ _ _ h => h) (Or.inl ⟨by rfl, ?_⟩) hHeld ?_ ?_
     rotate_left
     ·rintro w' ⟨s0, s1, s2⟩
      go_simp
      with_reducible rfl
     rotate_left
     ·simp only [aw_]
      rfl
     refine one_ (i := 12) (N := some 44) (ba_ 19 8191) rfl rfl (one_of HT_.out (by kernel_rfl)) (by decide) (fun K hK => ?_)
     refine goes_ Try.func61 (by kernel_rfl) rfl #[.slice Aa (a.f4).length ca] (by rfl) rfl rfl (by (try simp only [List.map_toArray, List.map_cons, List.map_nil]); first | done | rfl | (simp only [List.length_drop, List.length_take]; rfl)) ?_
     refine ((sc61.calls _ _ a.f4 a.f4 _ (HD.out _ HK.out) HC.out (cl61 HL.out))).mono ?_
     rintro e w21 ⟨v229, rfl, ho0, hb⟩
     refine ⟨_, rfl, ?_⟩
     have n0_ := Qz.mk (Kd.N_elder' HN.out (Kd.R_base ho0) hb)
     have n1_ := Qz.mk (bkb (g := gw) (o := .cells #[.int .u64 P, .int .i64 N, .int .i64 T, vc, va, vt, .int .i64 R, .slice As ss.length cs_] 30 (0, 0)) BW.out hb)
     have n2_ := Qz.mk (bkb (g := gp) (o := .cells #[.pointer (some ⟨gw, 0, none⟩)] 83 (0, 0)) BP.out hb)
     have n3_ := Qz.mk (Kept.below HK.out hb)
     have n4_ := Qz.mk (HB.out.trans (hb.mono (Nat.le_trans HBS.out HK.out.1)))
     have n5_ := Qz.mk (show (Kd.int .u64).R 22 w21 w.heap.size (fun k_ => w.heap.size ≤ k_) v229 (a.f4) from Kd.R_lower (Kd.R_mono (Kd.R_bound ho0) (fun k_ hk => Nat.le_trans HK.out.1 hk.2.1)) HK.out.1)
     clear HN BW BP HK HB ho0 hb
     have HN := n0_
     have BW := n1_
     have BP := n2_
     have HK := n3_
     have HB := n4_
     have HX := n5_
     clear n0_ n1_ n2_ n3_ n4_ n5_
     obtain ⟨Ao22, co22, eo22⟩ := Kd.R_slice HX.out
     subst eo22
     refine hK.out _ _ ⟨(bc_ BP.out 0).trans rfl, (bc_ BW.out 6).trans rfl, (bc_ BW.out 7).trans rfl⟩ (fun hHeld => ?_)
     clear hK K
     refine norm_ (a' := ?_) ?_ ?_
     rotate_left
     ·show Act.put _ (some 44) _ = _
      simp only [aw_]
      rfl
     refine pure_ (i := 13) (N := some 45) (v := ?_) (a' := ?_) (ba_ 19 16383) rfl rfl (any_of HT_.out (by kernel_rfl)) (fun _ _ _ h => h) (Or.inl ⟨by rfl, ?_⟩) ?_ ?_
     rotate_left
     ·intro w'
      go_simp
      with_reducible rfl
     rotate_left
     ·simp only [aw_]
      rfl
     refine one_ (i := 14) (N := some 46) (ba_ 19 32767) rfl rfl (one_of HT_.out (by kernel_rfl)) (by decide) (fun K hK => ?_)
     refine value_ (w1 := ?_) (v := ?_) (by rfl) rfl ?_ ?_
     rotate_left
     rotate_left
     ·go_simp
      constructor
      ·rfl
      ·rfl
     refine hK.out _ _ ⟨(bc_ (bka BP.out _) 0).trans rfl, (bc_ (bka BW.out _) 6).trans rfl, (bc_ (bka BW.out _) 7).trans rfl⟩ (fun hHeld => ?_)
     clear hK K
     refine norm_ (a' := ?_) ?_ ?_
     rotate_left
     ·show Act.put _ (some 46) _ = _
      simp only [aw_]
      rfl
     refine one_ (i := 15) (N := some 47) (ba_ 19 65535) rfl rfl (one_of HT_.out (by kernel_rfl)) (by decide) (fun K hK => ?_)
     refine N_append_step_wide k77 base rfl (.tmp 36) (.tmp 46) 28 77 (.agg #[(.int .i64 0), (.int .i64 0), (.int .i64 0), (.slice none 0 0)]) 48 rfl Try.underlying28 info77 rfl (by decide) (by omega) (.slice As ss.length cs_) ss (⟨R, from_, to_, a.f4⟩ : S77) [.int .i64 R, .int .i64 from_, .int .i64 to_, .slice Ao22 (a.f4).length co22] ok (fun k_ => ok k_ ∧ some k_ ≠ (.slice As ss.length cs_ : Value).ownBlock) rfl rfl ?aP (fun _ hk => hk) ?aF ?aO HB.out ?aS ?aM ?aL ?_
     (case aP => exact k77_mkF _ _ (⟨R, from_, to_, a.f4⟩ : S77) (Kd.R_reads' HX.out).2.1 (Kd.R_F (Kd.R_mono (Kd.R_apart' HX.out (Kd.N_typed HN.out) (by decide)) (fun k_ hk => ⟨HFR.out k_ hk.1, hk.2⟩))))
     (case aF => exact fun k_ hk => HFR.out k_ (Nat.le_trans HK.out.1 hk))
     (case aO => exact Kd.N_drop HN.out)
     (case aS => exact Nat.le_trans HBS.out HK.out.1)
     (case aM => have := HSL.out; unfold maxLen; omega)
     (case aL => have := HSL.out; omega)
     intro v232 w23 ho hb hg hat
     rw [E_.out] at ho
     have n0_ := Qz.mk (blk_grown (g := gw) (o := .cells #[.int .u64 P, .int .i64 N, .int .i64 T, vc, va, vt, .int .i64 R, .slice As ss.length cs_] 30 (0, 0)) BW.out hg (Kd.N_ne HN.out BW.out (by decide)))
     have n1_ := Qz.mk (blk_grown (g := gp) (o := .cells #[.pointer (some ⟨gw, 0, none⟩)] 83 (0, 0)) BP.out hg (Kd.N_ne HN.out BP.out (by decide)))
     have n2_ := Qz.mk (Kept.of_grown hg HK.out (fun k_ e_ => .inl (.inr e_.symm)))
     have n3_ := Qz.mk hb
     have n4_ := Qz.mk ho
     have n5_ := Qz.mk (show v232.ownBlock = (Value.slice As ss.length cs_).ownBlock ∨ ∃ b, v232.ownBlock = some b ∧ w.heap.size ≤ b from hat.imp id (fun ⟨b, h1, h2⟩ => ⟨b, h1, Nat.le_trans HK.out.1 h2⟩))
     clear HN BW BP HK HB HX ho hb hg hat
     have BW := n0_
     have BP := n1_
     have HK := n2_
     have HB := n3_
     have HN := n4_
     have HAT := n5_
     clear n0_ n1_ n2_ n3_ n4_ n5_
     obtain ⟨Ao24, co24, eo24⟩ := Kd.N_slice HN.out
     subst eo24
     refine hK.out _ _ ⟨(bc_ BP.out 0).trans rfl, (bc_ BW.out 6).trans rfl, (bc_ BW.out 7).trans rfl⟩ (fun hHeld => ?_)
     clear hK K
     refine norm_ (a' := ?_) ?_ ?_
     rotate_left
     ·show Act.put _ (some 47) _ = _
      simp only [aw_]
      rfl
     refine pure_ (i := 16) (N := some 48) (v := ?_) (a' := ?_) (ba_ 19 131071) rfl rfl (any_of HT_.out (by kernel_rfl)) (fun _ _ _ h => h) (Or.inl ⟨by rfl, ?_⟩) ?_ ?_
     rotate_left
     ·intro w'
      go_simp
      with_reducible rfl
     rotate_left
     ·simp only [aw_]
      rfl
     refine pure_ (i := 17) (N := some 49) (v := ?_) (a' := ?_) (ba_ 19 262143) rfl rfl (any_of HT_.out (by kernel_rfl)) (fun _ _ _ h => h) (Or.inl ⟨by rfl, ?_⟩) ?_ ?_
     rotate_left
     ·intro w'
      go_simp
      with_reducible rfl
     rotate_left
     ·simp only [aw_]
      rfl
     refine last_ (i := 18) (N := none) (ba_ 19 524287) rfl rfl (one_of HT_.out (by kernel_rfl)) (by decide) (fun K hK => ?_)
     have hs25 : w23.cell? ⟨gw, 7, none⟩ = some (.slice As ss.length cs_) := (bc_ BW.out 7).trans rfl
     have hfs25 := bf_ BW.out 7
     refine skip_ (w1 := ?_) (by rfl) rfl ?_ ?_
     rotate_left
     ·go_simp
      rfl
     refine hK.out _ _ ?_
     clear hK K
     refine done_ (done_of HT_.out (by kernel_rfl)) ?_
     have n0_ := Qz.mk (show (w23.setCell ⟨gw, 7, none⟩ (.slice Ao24 st.length co24)).heap[gw]? = some (.cells #[.int .u64 P, .int .i64 N, .int .i64 T, vc, va, vt, .int .i64 R, .slice Ao24 st.length co24] 30 (0, 0)) from (bks BW.out 7 _).trans rfl)
     have n1_ := Qz.mk (Kd.N_mono (Kd.N_far (p := ⟨gw, 7, none⟩) (Kd.N_mono HN.out (fun k_ hk => (⟨hk, HOW.out k_ hk⟩ : ok k_ ∧ k_ ≠ gw))) (fun _ hk => hk.2) (.slice Ao24 st.length co24)) (fun k_ hk => hk.1))
     have n2_ := Qz.mk (Kept.setCell (p := ⟨gw, 7, none⟩) HK.out (.inl (.inl rfl)) (.slice Ao24 st.length co24))
     have n3_ := Qz.mk (HB.out.setCell (p := ⟨gw, 7, none⟩) HBW.out (.slice Ao24 st.length co24))
     clear BW HN HK HB BP hs25 hfs25
     have BW := n0_
     have HN := n1_
     have HK := n2_
     have HB := n3_
     clear n0_ n1_ n2_ n3_
     skip
     go_wp2_with (first | ((with_reducible refine gcl (f := 61) rfl ?_); refine goesL_ (some 51) rfl rfl Try.func61 (by kernel_rfl) rfl #[.slice Aa (a.f4).length ca] rfl (by (try simp only [List.map_toArray, List.map_cons, List.map_nil]); first | done | rfl) ?_; refine ((sc61.calls _ _ a.f4 a.f4 _ (HD.out _ HK.out) HC.out (cl61 HL.out))).mono ?_; rintro e w29 ⟨v235, rfl, ho0, hb⟩; refine ⟨_, rfl, ?_⟩))
     have n0_ := Qz.mk (Kd.N_below HN.out hb)
     have n1_ := Qz.mk (bkb BW.out hb)
     have n2_ := Qz.mk (Kept.below HK.out hb)
     have n3_ := Qz.mk (HB.out.trans (hb.mono (Nat.le_trans HBS.out HK.out.1)))
     have n4_ := Qz.mk (show (Kd.int .u64).R 22 w29 w.heap.size (fun k_ => True) v235 (a.f4) from Kd.R_lower ho0 HK.out.1)
     clear hb ho0
     go_ret
     exact ⟨v235, (.slice Ao24 st.length co24), rfl, n4_.out, n1_.out, n0_.out, n2_.out, n3_.out, HAT.out⟩
    ·have b3 : decide (0 < ((a.f4).length : Int)) = false := decide_eq_false (by omega)
     have b4 : decide (0 < (a.f4).length) = false := decide_eq_false (by omega)
     have e_ : ss = st := by rw [hst]; simp [stowed, List.eq_nil_of_length_eq_zero (show (a.f4).length = 0 by omega)]
     clear hst; subst e_
     clear hft hz
     skip
     go_wp2_with (first | ((with_reducible refine gcl (f := 61) rfl ?_); refine goesL_ (some 51) rfl rfl Try.func61 (by kernel_rfl) rfl #[.slice Aa (a.f4).length ca] rfl (by (try simp only [List.map_toArray, List.map_cons, List.map_nil]); first | done | rfl) ?_; refine ((sc61.calls _ _ a.f4 a.f4 _ (HD.out _ HK.out) HC.out (cl61 HL.out))).mono ?_; rintro e w29 ⟨v235, rfl, ho0, hb⟩; refine ⟨_, rfl, ?_⟩))
     have n0_ := Qz.mk (Kd.N_below HN.out hb)
     have n1_ := Qz.mk (bkb BW.out hb)
     have n2_ := Qz.mk (Kept.below HK.out hb)
     have n3_ := Qz.mk (HB.out.trans (hb.mono (Nat.le_trans HBS.out HK.out.1)))
     have n4_ := Qz.mk (show (Kd.int .u64).R 22 w29 w.heap.size (fun k_ => True) v235 (a.f4) from Kd.R_lower ho0 HK.out.1)
     clear hb ho0
     go_ret
     exact ⟨v235, (.slice As ss.length cs_), rfl, n4_.out, n1_.out, n0_.out, n2_.out, n3_.out, .inl rfl⟩
end Go.Proofs.Ytkaikgbcnmfppaa.Nb
