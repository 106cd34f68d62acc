/- A world's value with what its rows lie in; structs of eight cells stored; a row's slice field put anew. append of one element to a row of the call's own, with the wide bound on its size. -/
import Derived.Test.YtkaikgbcnmfppaaNbBlank
import Derived.Test.YtkaikgbcnmfppaaNb0
import Derived.Deep.DeepAppendWide
namespace Go.Proofs.Ytkaikgbcnmfppaa.Nb
open Go Go.RowKit Go.Proofs.YtkaikgbcnmfppaaW.PrintWords Go.Proofs.YtkaikgbcnmfppaaW.PrintLast Go.Proofs.YtkaikgbcnmfppaaW.PrintMore
set_option linter.unusedVariables false
set_option linter.unusedSimpArgs false
noncomputable section
abbrev wv (x : S30) (A3 : Option Addr) (c3 : Nat) (A4 : Option Addr) (c4 : Nat) (A5 : Option Addr) (c5 : Nat) (A7 : Option Addr) (c7 : Nat) : Array Value := #[.int .u64 x.f0.f0, .int .i64 x.f0.f1, .int .i64 x.f0.f2, .slice A3 x.f1.length c3, .slice A4 x.f2.length c4, .slice A5 x.f3.length c5, .int .i64 x.f4, .slice A7 x.f5.length c7]
/-- A world's value with what its rows lie in. -/
structure XF (w : World) (ok : Nat → Prop) (x : S30) (A3 : Option Addr) (c3 : Nat) (A4 : Option Addr) (c4 : Nat) (A5 : Option Addr) (c5 : Nat) (A7 : Option Addr) (c7 : Nat) : Prop where
 l3 : x.f1.length ≤ c3
 r3 : Kd.F (Kd.int .i64) w ok A3 x.f1.length x.f1
 l4 : x.f2.length ≤ c4
 r4 : Kd.F k72 w ok A4 x.f2.length x.f2
 l5 : x.f3.length ≤ c5
 r5 : Kd.F kD w ok A5 x.f3.length x.f3
 l7 : x.f5.length ≤ c7
 r7 : Kd.F k77 w ok A7 x.f5.length x.f5
section
variable {w w1 : World} {ok ok' : Nat → Prop} {x : S30} {A3 : Option Addr} {c3 : Nat} {A4 : Option Addr} {c4 : Nat} {A5 : Option Addr} {c5 : Nat} {A7 : Option Addr} {c7 : Nat}
theorem XF.of (hx : k30.K w x (wv x A3 c3 A4 c4 A5 c5 A7 c7).toList) : XF w (fun k => k < w.heap.size) x A3 c3 A4 c4 A5 c5 A7 c7 := by
 obtain ⟨_, _, _, _, _, _, _, _, heq, h3l, h3, h4l, h4, h5l, h5, h7l, h7⟩ := k30_open hx
 simp only [List.cons.injEq, Value.slice.injEq] at heq
 obtain ⟨-, -, -, ⟨rfl, -, rfl⟩, ⟨rfl, -, rfl⟩, ⟨rfl, -, rfl⟩, -, ⟨rfl, -, rfl⟩, -⟩ := heq
 exact ⟨h3l, Kd.C_F (Kd.heap_int .i64) h3, h4l, Kd.C_F k72_heap h4, h5l, Kd.C_F (Kd.heap_slice 22 (Kd.heap_int .u64)) h5, h7l, Kd.C_F k77_heap h7⟩
theorem XF.step (h : XF w ok x A3 c3 A4 c4 A5 c5 A7 c7) (hm : ∀ k, ok k → k < w.heap.size → w1.heap[k]? = w.heap[k]?) : XF w1 ok x A3 c3 A4 c4 A5 c5 A7 c7 :=
 ⟨h.l3, Kd.F_step h.r3 hm, h.l4, Kd.F_step h.r4 hm, h.l5, Kd.F_step h.r5 hm, h.l7, Kd.F_step h.r7 hm⟩
theorem XF.below (h : XF w ok x A3 c3 A4 c4 A5 c5 A7 c7) (hb : Below w.heap.size w w1) : XF w1 ok x A3 c3 A4 c4 A5 c5 A7 c7 := h.step (fun k _ hlt => hb.block k hlt)
theorem XF.kept {S : Nat → Prop} (h : XF w ok x A3 c3 A4 c4 A5 c5 A7 c7) (hk : Kept w w1 S) (hne : ∀ k, ok k → ¬ S k) : XF w1 ok x A3 c3 A4 c4 A5 c5 A7 c7 := h.step (fun k ho hlt => hk.2 k hlt (hne k ho))
theorem XF.mono (h : XF w ok x A3 c3 A4 c4 A5 c5 A7 c7) (hm : ∀ k, ok k → ok' k) : XF w ok' x A3 c3 A4 c4 A5 c5 A7 c7 :=
 ⟨h.l3, Kd.F_mono h.r3 hm, h.l4, Kd.F_mono h.r4 hm, h.l5, Kd.F_mono h.r5 hm, h.l7, Kd.F_mono h.r7 hm⟩
theorem XF.K (h : XF w ok x A3 c3 A4 c4 A5 c5 A7 c7) : k30.K w x (wv x A3 c3 A4 c4 A5 c5 A7 c7).toList :=
 k30_mk w x h.l3 (Kd.F_now h.r3) h.l4 (Kd.F_now h.r4) h.l5 (Kd.F_now h.r5) h.l7 (Kd.F_now h.r7)
end
theorem bcel {w w1 : World} (hb : Below w.heap.size w w1) {a : Addr} {v : Value} (h : w.cell? a = some v) : w1.cell? a = some v := (hb.cell (World.block_lt_of_cell? w _ h)).trans h
theorem setCells_one (w : World) (g i : Nat) (u : Value) : w.setCells g i [u] = w.setCell ⟨g, i, none⟩ u := by
 simp [World.setCells]
/-- A struct of eight cells stored. -/
def put8 (w : World) (g : Nat) (v0 v1 v2 v3 v4 v5 v6 v7 : Value) : World := ((((((((w.setCell ⟨g, 0, none⟩ (v0)).setCell ⟨g, 1, none⟩ (v1)).setCell ⟨g, 2, none⟩ (v2)).setCell ⟨g, 3, none⟩ (v3)).setCell ⟨g, 4, none⟩ (v4)).setCell ⟨g, 5, none⟩ (v5)).setCell ⟨g, 6, none⟩ (v6)).setCell ⟨g, 7, none⟩ (v7))
theorem kept8 (w : World) (g : Nat) (v0 v1 v2 v3 v4 v5 v6 v7 : Value) : Kept w (put8 w g v0 v1 v2 v3 v4 v5 v6 v7) (fun k => k = g) := by
 unfold put8
 exact Kept.setCell (S := fun k => k = g) (p := ⟨g, 7, none⟩) (Kept.setCell (S := fun k => k = g) (p := ⟨g, 6, none⟩) (Kept.setCell (S := fun k => k = g) (p := ⟨g, 5, none⟩) (Kept.setCell (S := fun k => k = g) (p := ⟨g, 4, none⟩) (Kept.setCell (S := fun k => k = g) (p := ⟨g, 3, none⟩) (Kept.setCell (S := fun k => k = g) (p := ⟨g, 2, none⟩) (Kept.setCell (S := fun k => k = g) (p := ⟨g, 1, none⟩) (Kept.setCell (S := fun k => k = g) (p := ⟨g, 0, none⟩) (Kept.refl _ _) (.inl rfl) v0) (.inl rfl) v1) (.inl rfl) v2) (.inl rfl) v3) (.inl rfl) v4) (.inl rfl) v5) (.inl rfl) v6) (.inl rfl) v7
theorem below8 {w0 w : World} {b g : Nat} (h : Below b w0 w) (hg : b ≤ g) (v0 v1 v2 v3 v4 v5 v6 v7 : Value) : Below b w0 (put8 w g v0 v1 v2 v3 v4 v5 v6 v7) := by
 unfold put8
 exact Below.setCell (p := ⟨g, 7, none⟩) (Below.setCell (p := ⟨g, 6, none⟩) (Below.setCell (p := ⟨g, 5, none⟩) (Below.setCell (p := ⟨g, 4, none⟩) (Below.setCell (p := ⟨g, 3, none⟩) (Below.setCell (p := ⟨g, 2, none⟩) (Below.setCell (p := ⟨g, 1, none⟩) (Below.setCell (p := ⟨g, 0, none⟩) (h) hg v0) hg v1) hg v2) hg v3) hg v4) hg v5) hg v6) hg v7
theorem blk8 {w : World} {g t : Nat} {u0 u1 u2 u3 u4 u5 u6 u7 : Value} (h : w.heap[g]? = some (.cells #[u0, u1, u2, u3, u4, u5, u6, u7] t (0, 0))) (v0 v1 v2 v3 v4 v5 v6 v7 : Value) : (put8 w g v0 v1 v2 v3 v4 v5 v6 v7).heap[g]? = some (.cells #[v0, v1, v2, v3, v4, v5, v6, v7] t (0, 0)) := by
 unfold put8
 refine bkp (cs := #[v0, v1, v2, v3, v4, v5, v6, u7]) ?_ 7 _ rfl; refine bkp (cs := #[v0, v1, v2, v3, v4, v5, u6, u7]) ?_ 6 _ rfl; refine bkp (cs := #[v0, v1, v2, v3, v4, u5, u6, u7]) ?_ 5 _ rfl; refine bkp (cs := #[v0, v1, v2, v3, u4, u5, u6, u7]) ?_ 4 _ rfl; refine bkp (cs := #[v0, v1, v2, u3, u4, u5, u6, u7]) ?_ 3 _ rfl; refine bkp (cs := #[v0, v1, u2, u3, u4, u5, u6, u7]) ?_ 2 _ rfl; refine bkp (cs := #[v0, u1, u2, u3, u4, u5, u6, u7]) ?_ 1 _ rfl; refine bkp (cs := #[u0, u1, u2, u3, u4, u5, u6, u7]) ?_ 0 _ rfl; exact h
theorem set_getD {α : Type} (l : List α) (i : Nat) (z : α) : l.set i (l.getD i z) = l := by
 apply List.ext_getElem?
 intro j
 rw [List.getElem?_set]
 by_cases h : i = j
 ·subst h
  by_cases h2 : i < l.length
  ·simp [h2]
  ·simp [h2]
 ·simp [h]
theorem row_put72 {w : World} {base g n cap : Nat} {ok : Nat → Prop} {L : List S72} (h : k72.N 72 w base ok (.slice (some ⟨g, 0, none⟩) n cap) L) {i : Nat} (hi : i < n) {A : Option Addr} {c : Nat} (hc : (L.getD i z72).f4.length ≤ c) (hv : Kd.F (Kd.int .u64) w (fun k => ok k ∧ k ≠ g) A (L.getD i z72).f4.length (L.getD i z72).f4) :
  k72.N 72 (w.setCell ⟨g, i * 5 + 4, none⟩ (.slice A (L.getD i z72).f4.length c)) base ok (.slice (some ⟨g, 0, none⟩) n cap) L := by
 obtain ⟨cs, hcl, hFK, hcc, _⟩ := Kd.N_elem h z72 (i : Int) (by omega) (by omega)
 have hp := (Kd.N_seg (okp := fun k => ok k ∧ k ≠ g) h (i : Int) (by omega) (by omega) (c := cs) (seg := [.slice A (L.getD i z72).f4.length c]) (j := 4) (x' := L.getD i z72) hcl hcc (by show 4 + 1 ≤ 5; decide) (fun W hW => by
  obtain ⟨A4, c4, e, _, _⟩ := k72_open (hFK W hW)
  subst e
  exact k72_mk W _ hc (hv W hW)) (fun k hk => hk)).1
 have e2 : (i : Int).toNat * k72.sz + 4 = i * 5 + 4 := by show (i : Int).toNat * 5 + 4 = i * 5 + 4; omega
 rw [e2, setCells_one] at hp
 simp only [Int.toNat_natCast, set_getD] at hp
 exact hp
theorem row_put77 {w : World} {base g n cap : Nat} {ok : Nat → Prop} {L : List S77} (h : k77.N 77 w base ok (.slice (some ⟨g, 0, none⟩) n cap) L) {i : Nat} (hi : i < n) {A : Option Addr} {c : Nat} (hc : (L.getD i z77).f3.length ≤ c) (hv : Kd.F (Kd.int .u64) w (fun k => ok k ∧ k ≠ g) A (L.getD i z77).f3.length (L.getD i z77).f3) :
  k77.N 77 (w.setCell ⟨g, i * 4 + 3, none⟩ (.slice A (L.getD i z77).f3.length c)) base ok (.slice (some ⟨g, 0, none⟩) n cap) L := by
 obtain ⟨cs, hcl, hFK, hcc, _⟩ := Kd.N_elem h z77 (i : Int) (by omega) (by omega)
 have hp := (Kd.N_seg (okp := fun k => ok k ∧ k ≠ g) h (i : Int) (by omega) (by omega) (c := cs) (seg := [.slice A (L.getD i z77).f3.length c]) (j := 3) (x' := L.getD i z77) hcl hcc (by show 3 + 1 ≤ 4; decide) (fun W hW => by
  obtain ⟨A4, c4, e, _, _⟩ := k77_open (hFK W hW)
  subst e
  exact k77_mk W _ hc (hv W hW)) (fun k hk => hk)).1
 have e2 : (i : Int).toNat * k77.sz + 3 = i * 4 + 3 := by show (i : Int).toNat * 4 + 3 = i * 4 + 3; omega
 rw [e2, setCells_one] at hp
 simp only [Int.toNat_natCast, set_getD] at hp
 exact hp
theorem row_put51 {w : World} {base g n cap : Nat} {ok : Nat → Prop} {L : List (List Int)} (h : kD.N 51 w base ok (.slice (some ⟨g, 0, none⟩) n cap) L) {i : Nat} (hi : i < n) {d : List Int} {A : Option Addr} {c : Nat} (hc : d.length ≤ c) (hv : Kd.F (Kd.int .u64) w (fun k => ok k ∧ k ≠ g) A d.length d) :
  kD.N 51 (w.setCell ⟨g, i, none⟩ (.slice A d.length c)) base ok (.slice (some ⟨g, 0, none⟩) n cap) (L.set i d) := by
 obtain ⟨cs, hcl, hFK, hcc, _⟩ := Kd.N_elem h [] (i : Int) (by omega) (by omega)
 have hcl1 : cs.length = 1 := hcl
 have hp := (Kd.N_seg (okp := fun k => ok k ∧ k ≠ g) h (i : Int) (by omega) (by omega) (c := cs) (seg := [.slice A d.length c]) (j := 0) (x' := d) hcl hcc (by show 0 + 1 ≤ 1; decide) (by
  have e : cs.take 0 ++ [Value.slice A d.length c] ++ cs.drop (0 + [Value.slice A d.length c].length) = [.slice A d.length c] := by
   simp [List.drop_eq_nil_of_le, hcl1]
  rw [e]
  exact fun W' hW => ⟨A, c, rfl, hc, hv W' hW⟩) (fun k hk => hk)).1
 have e2 : (i : Int).toNat * kD.sz + 0 = i := by show (i : Int).toNat * 1 + 0 = i; omega
 rw [e2, setCells_one] at hp
 simp only [Int.toNat_natCast] at hp
 exact hp
/-- What Clone asks of a world: sizes that no memory holds are out. -/
structure Small (co : List Int) (ac : List S72) (ta : List (List Int)) (se : List S77) : Prop where
 hco : co.length < 17592186044416
 hac : ac.length < 2513169434916
 had : ∀ x ∈ ac, x.f4.length < 17592186044416
 hta : ta.length < 5864062014805
 htd : ∀ x ∈ ta, x.length < 17592186044416
 hse : se.length < 2932031007402
 hsd : ∀ x ∈ se, x.f3.length < 17592186044416
end
end Go.Proofs.Ytkaikgbcnmfppaa.Nb
namespace Go.Proofs.Ytkaikgbcnmfppaa.Nb
open Go Go.RowKit Go.Proofs.YtkaikgbcnmfppaaW.PrintWords Go.Proofs.YtkaikgbcnmfppaaW.PrintLast Go.Proofs.YtkaikgbcnmfppaaW.PrintMore
set_option linter.unusedVariables false
set_option linter.unusedSimpArgs false
theorem append_at_wide {P : Program} (w : World) (base : Nat) (t ty e : TypeId) (i : TypeInfo) (z : Value) (size bytes : Nat) (ht : P.underlying t = some (.slice e)) (hi : P.info? e = some i) (hz : i.zero = some z)
  (hsize : i.size = size) (hby : i.bytes = bytes) (hzs : z.cells.size = size) (hsz : 0 < size)
  (v : Value) (n : Nat) (xs : List Value) (hown : w.ownsRow base e size v n xs)
  (a : Addr) (c : Nat) (news : List Value) (hl : news.length = 1 * size) (hnews : ∀ j u, news[j]? = some u → w.cell? (a.add j) = some u) (h1 : ∀ u ∈ news, u.oneCell' = true)
  (h63 : n + 1 ≤ maxLen) (hbytes : ((n + 1) + (n + 1) / 4 + 192) * bytes ≤ 281474976710656) (hb0 : bytes ≤ 281474976710656) (hbase : base ≤ w.heap.size) :
  ∃ v' w', (Builtin.append_ #[t, t] ty #[v, .slice (some a) 1 c]).run P w = .ok v' w' ∧ w'.ownsRow base e size v' (n + 1) (xs ++ news) ∧ w.grownBy w' v.ownBlock ∧ (v'.ownBlock = v.ownBlock ∨ v'.ownBlock = some w.heap.size) := by
 obtain ⟨v', w', hr, ho, hg, _⟩ := run_append_own_wide (P := P) w base t ty e i z size bytes ht hi hz hsize hby hzs hsz v n xs hown a 1 c news hl hnews h1 h63 hbytes hbase
 refine ⟨v', w', hr, ho, hg, ?_⟩
 have hmx : maxLen ≤ 9223372036854775807 := by decide
 subst hsize
 subst hby
 rcases hown.2 with ⟨rfl, rfl⟩ | ⟨g, cap, cur, rfl, hbg, hgc, hnc, hcm, hcs, htake⟩
 ·have h2 := run_append_nil (P := P) w t ty e i z ht hi hz a 1 c news hl hnews (by decide) (by decide) (by omega)
  rw [hr] at h2
  injection h2 with h2 _
  rw [h2]
  exact .inr (by simp [Value.ownBlock])
 ·by_cases hroom : n + 1 ≤ cap
  ·have h2 := run_append_room (P := P) w t ty e i ht hi g n cap cur hgc a 1 c news hl hnews h1 hroom (by rw [hl, hcs, ← Nat.add_mul]; exact Nat.mul_le_mul_right _ hroom)
   rw [hr] at h2
   injection h2 with h2 _
   rw [h2]
   exact .inl (by simp [Value.ownBlock])
  ·have holds : ∀ j u, xs[j]? = some u → w.cell? ((⟨g, 0, none⟩ : Addr).add j) = some u := hown.cells (g := g) rfl
   have h2 := run_append_grow (P := P) w t ty e i z ht hi hz ⟨g, 0, none⟩ n cap xs hown.1 holds a 1 c news hl hnews (by omega) (by omega) (growslice_fits_wide (by omega) hbytes)
   rw [hr] at h2
   injection h2 with h2 _
   rw [h2]
   exact .inr (by simp [Value.ownBlock])
section
variable {α : Type} {P : Program} {ops : Array Oper} {o : Oper} {a : Act} {Kc : Act → World → Prop} {Q : Exit → Act → World → Prop}
theorem N_append_step_wide (d : Kd α) {w0 W : World} (base : Nat) (hw : Region.wanted o (yielded ops a.tmps) = true) (s x : Operand) (t e : TypeId) (z : Value) (bytes : Nat)
  (ho : o.op = .call { callee := .builtin .append, args := #[s, x], argTypes := #[t, t] })
  (ht : P.underlying t = some (.slice e)) (hinfo : (P.info? e).map (fun i => (i.zero, i.size, i.bytes)) = some (some z, d.sz, bytes)) (hz : z.cells.size = d.sz) (hs0 : 0 < d.sz) (hb0 : bytes ≤ 281474976710656)
  (v : Value) (xs : List α) (p : α) (cs : List Value) (ok okp : Nat → Prop) (hs : a.eval s = v) (hx : a.eval x = .slice (some ⟨W.heap.size, 0, none⟩) 1 1) (hp : Kd.FK d W okp p cs) (hokp : ∀ k, okp k → ok k ∧ some k ≠ v.ownBlock) (hfresh : ∀ k, W.heap.size ≤ k → ok k)
  (HO : Kd.N d e W base ok v xs) (HB : Below base w0 W) (hbase : base ≤ W.heap.size) (hm : xs.length + 1 ≤ maxLen) (hl : ((xs.length + 1) + (xs.length + 1) / 4 + 192) * bytes ≤ 281474976710656)
  (h : ∀ v1 w1, Kd.N d e w1 base ok v1 (xs ++ [p]) → Below base w0 w1 → W.grownBy w1 v.ownBlock → (v1.ownBlock = v.ownBlock ∨ ∃ b, v1.ownBlock = some b ∧ W.heap.size ≤ b) → Kc (a.put o.dst v1) w1) :
  if Region.wanted o (yielded ops a.tmps) = true then Oper.wp P o a (W.alloc (.cells cs.toArray e)) Kc Q else Kc (a.put o.dst undef) (W.alloc (.cells cs.toArray e)) := by
 obtain ⟨h0, rows, hlr, hR, hf⟩ := HO
 obtain ⟨hr0, inner, hown, hr⟩ := Kd.raw_any hR
 obtain ⟨i0, hi, hzz⟩ := Option.map_eq_some_iff.1 hinfo
 simp only [Prod.mk.injEq] at hzz
 obtain ⟨hz0, hz1, hz2⟩ := hzz
 have hraw := Kd.FK_raw hp
 have hcl : cs.length = d.sz := d.K_len (Kd.FK_now hp)
 rw [if_pos hw]
 obtain ⟨v1, w1, hrun, hown1, hg, hat⟩ := append_at_wide (P := P) (W.alloc (.cells cs.toArray e)) base t o.type e i0 z d.sz bytes ht hi hz0 hz1 hz2 hz hs0 v rows.length inner (hown.alloc _) ⟨W.heap.size, 0, none⟩ 1 cs (by rw [hcl]; simp)
  (by simpa using World.news_of_block (cs := cs.toArray) (t := e) (fr := (0, 0)) (heap_alloc_new W (.cells cs.toArray e))) (d.K_one (Kd.FK_now hp)) (by omega) (by rw [hlr]; exact hl) hb0 (by simp; omega)
 unfold Oper.wp execOp
 simp only [ho, resolve, invoke, builtin, Sem.run_bind, Sem.run_pure, Result.andThen_ok, List.map_toArray, List.map_cons, List.map_nil, hs, hx, hrun]
 have hg2 := World.grownBy.trans (World.grownBy_alloc W (.cells cs.toArray e) v.ownBlock) hg
 have hat2 : v1.ownBlock = v.ownBlock ∨ ∃ b, v1.ownBlock = some b ∧ W.heap.size ≤ b := hat.imp id (fun q => ⟨_, q, by simp⟩)
 have hB1 : Below base w0 w1 := (HB.alloc hbase _).grown hg (by simp; omega) (own_base hown)
 have hR1 := Kd.R_appended (d := Kd.raw d.sz) (ok := fun _ => True) (okp := fun _ => False) (fun _ _ => trivial) hr hraw (fun _ hk => hk.elim) (fun _ _ => trivial) hown1 hg2 hat2
 exact h v1 w1 (Kd.N_appended h0 hlr hf (ys := [p]) (news := [cs]) rfl (fun j y c hy hc => by
  rcases j with _ | j
  ·simp only [List.getElem?_cons_zero, Option.some.injEq] at hy hc
   rw [← hy, ← hc]; exact hp
  ·simp at hy) hokp hfresh hR1 hg2 hat2) hB1 hg2 hat2
end
end Go.Proofs.Ytkaikgbcnmfppaa.Nb
