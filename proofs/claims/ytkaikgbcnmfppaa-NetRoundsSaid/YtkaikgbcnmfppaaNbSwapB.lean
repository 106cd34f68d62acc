/- The state of net.swap's loops, and how it moves. -/
import Derived.Test.YtkaikgbcnmfppaaNbSwapA
namespace Go.Proofs.Ytkaikgbcnmfppaa.Nb
open Go Go.RowKit Go.Proofs.YtkaikgbcnmfppaaW.PrintWords Go.Proofs.YtkaikgbcnmfppaaW.PrintLast Go.Proofs.YtkaikgbcnmfppaaW.PrintMore
set_option linter.unusedVariables false
set_option linter.unusedSimpArgs false
theorem F_row_at {α : Type} {d : Kd α} {e : Nat} {W : World} {ok : Nat → Prop} {A : Option Addr} {n : Nat} {xs : List (List α)} (h : Kd.F (Kd.slice e d) W ok A n xs) {i : Nat} (hi : i < n) :
  ∃ ad A' c', A = some ad ∧ W.cell? (ad.add i) = some (.slice A' (xs.getD i []).length c') ∧ (xs.getD i []).length ≤ c' ∧ Kd.F d W ok A' (xs.getD i []).length (xs.getD i []) := by
 obtain ⟨ad, c, rfl, hcl, hK, hcc, _⟩ := Kd.F_get h [] (i : Int) (by omega) (by omega)
 simp only [Int.toNat_natCast] at hK hcc
 obtain ⟨A', c', rfl, hl, hF⟩ := Kd.FK_slice_open hK
 have h2 := hcc 0 _ rfl
 have e2 : i * (Kd.slice e d).sz + 0 = i := by show i * 1 + 0 = i; omega
 rw [e2] at h2
 exact ⟨ad, A', c', rfl, h2, hl, hF⟩
theorem F_row_in {α : Type} {d : Kd α} {e : Nat} {W : World} {ok : Nat → Prop} {A : Option Addr} {n : Nat} {xs : List (List α)} (h : Kd.F (Kd.slice e d) W ok A n xs) {i : Nat} (hi : i < n) :
  ∃ ad A' c', A = some ad ∧ W.cell? (ad.add i) = some (.slice A' (xs.getD i []).length c') ∧ (xs.getD i []).length ≤ c' ∧ Kd.F d W ok A' (xs.getD i []).length (xs.getD i []) ∧ ok ad.block := by
 obtain ⟨ad, c, rfl, hcl, hK, hcc, hin⟩ := Kd.F_get h [] (i : Int) (by omega) (by omega)
 simp only [Int.toNat_natCast] at hK hcc
 obtain ⟨A', c', rfl, hl, hF⟩ := Kd.FK_slice_open hK
 have h2 := hcc 0 _ rfl
 have e2 : i * (Kd.slice e d).sz + 0 = i := by show i * 1 + 0 = i; omega
 rw [e2] at h2
 exact ⟨ad, A', c', rfl, h2, hl, hF, hin (by show 0 < 1; omega)⟩
theorem row_cell {w : World} {base b n c : Nat} {ok : Nat → Prop} {L : List (List Int)} (h : kD.N 51 w base ok (.slice (some ⟨b, 0, none⟩) n c) L) {i : Nat} (hi : i < n) : (∃ u, w.cell? ⟨b, i, none⟩ = some u) ∧ w.frozen? ⟨b, i, none⟩ = false := by
 obtain ⟨ce, hcl, hM, hcc, hf⟩ := Kd.N_elem h [] (i : Int) (by omega) (by omega)
 obtain ⟨A', c', rfl, _, _⟩ := Kd.FK_slice_open hM
 have h2 := hcc 0 _ rfl
 have h3 := hf 0
 have e2 : (i : Int).toNat * kD.sz + 0 = i := by show (i : Int).toNat * 1 + 0 = i; omega
 rw [e2] at h2 h3
 exact ⟨⟨_, h2⟩, h3⟩
/-- w: at the call; nr, nb: the sizes ahead of and behind Blank; v: now. -/
structure SInv (w : World) (nr nb : Nat) (n base gw gp gm bm g c h2 ch : Nat) (okA1 ok2 : Nat → Prop) (l : List S72) (rbs : List (Nat × Nat)) (cf : Value → Array Value) (vs : Value) (v : World) (vq : Value) (G : List (List (List Int))) (H : List (List Int)) (ss : List S77) : Prop where
 kept : Kept w v (fun k => k = gw ∨ some k = vs.ownBlock)
 bw : v.heap[gw]? = some (.cells (cf vq) 30 (0, 0))
 bp : v.heap[gp]? = some (.cells #[.pointer (some ⟨gw, 0, none⟩)] 83 (0, 0))
 bmm : v.heap[gm]? = some (.cells #[.map (some bm)] 96 (0, 0))
 ma : MAct v okA1 bm l
 ho : (kO n).R 27 v nr (fun _ => True) (.slice (some ⟨g, 0, none⟩) n c) (rbs.map some)
 hr : Rows v nr n (Data v) rbs G
 hh : kD.N 51 v nr (fun k => k = h2 ∨ Data v k) (.slice (some ⟨h2, 0, none⟩) n ch) H
 hs : k77.N 77 v base ok2 vq ss
 hv : ∀ k, vq.ownBlock = some k → some k = vs.ownBlock ∨ nb ≤ k
 hb : Below base w v
 sz : nb ≤ v.heap.size
section
variable {w : World} {nr nb n base gw gp gm bm g c h2 ch : Nat} {okA1 ok2 : Nat → Prop} {l : List S72} {rbs : List (Nat × Nat)} {cf : Value → Array Value} {vs : Value} {v v' : World} {vq : Value} {G : List (List (List Int))} {H : List (List Int)} {ss : List S77}
theorem SInv.data_ne (h : SInv w nr nb n base gw gp gm bm g c h2 ch okA1 ok2 l rbs cf vs v vq G H ss) {b t : Nat} {cs : Array Value} (hb : v.heap[b]? = some (.cells cs t (0, 0))) (ht : 22 ≠ t) {k : Nat} (hk : Data v k) : k ≠ b := fun e => by
 obtain ⟨cs', hc⟩ := hk
 rw [e, hb] at hc
 injection hc with hc
 injection hc with _ hc
 exact ht hc.symm
theorem SInv.not_map (h : SInv w nr nb n base gw gp gm bm g c h2 ch okA1 ok2 l rbs cf vs v vq G H ss) : (∀ k, some k = vq.ownBlock → k ≠ bm) ∧ bm ≠ gw := by
 obtain ⟨es, clock, h1, _⟩ := h.ma
 refine ⟨fun k e e2 => ?_, fun e => ?_⟩
 ·obtain ⟨cs, hc⟩ := Kd.N_typed h.hs k e.symm
  rw [e2, h1] at hc
  cases hc
 ·rw [e, h.bw] at h1
  cases h1
theorem SInv.drew (h : SInv w nr nb n base gw gp gm bm g c h2 ch okA1 ok2 l rbs cf vs v vq G H ss) : SInv w nr nb n base gw gp gm bm g c h2 ch okA1 ok2 l rbs cf vs v.drew vq G H ss :=
 ⟨h.kept.drew, bkd h.bw, bkd h.bp, bkd h.bmm, h.ma.step (fun _ _ _ => rfl) rfl, Kd.R_drew h.ho, h.hr.move (fun _ _ => rfl), row_move h.hh (fun _ _ => rfl), Kd.N_drew h.hs, h.hv, bd1 h.hb, h.sz⟩
theorem SInv.cell0 (h : SInv w nr nb n base gw gp gm bm g c h2 ch okA1 ok2 l rbs cf vs v vq G H ss) {k bk ck : Nat} (hk : rbs[k]? = some (bk, ck)) (hl : rbs.length = n) : v.cell? ⟨g, k, none⟩ = some (.slice (some ⟨bk, 0, none⟩) n ck) := by
 have hkl : k < rbs.length := (List.getElem?_eq_some_iff.1 hk).1
 have hl2 : (rbs.map some).length = n := by rw [List.length_map, hl]
 have h3 := (Kd.R_cell none (show (kO n).R 27 v nr (fun _ => True) (.slice (some ⟨g, 0, none⟩) (rbs.map some).length c) (rbs.map some) from by rw [hl2]; exact h.ho) (k : Int) (by omega) (by rw [hl2]; omega)).1
 simp only [Int.toNat_natCast] at h3
 rw [h3]
 simp [rdOf, List.getD_eq_getElem?_getD, hk, encO]
/-- Behind the closure. -/
theorem SInv.sent (h : SInv w nr nb n base gw gp gm bm g c h2 ch okA1 ok2 l rbs cf vs v vq G H ss) {vq' : Value} {ss' : List S77} (hA : ∀ k, okA1 k → k ≠ gw ∧ some k ≠ vs.ownBlock ∧ k < nb)
  (hw : w.heap.size ≤ nb) (bw' : v'.heap[gw]? = some (.cells (cf vq') 30 (0, 0))) (hs' : k77.N 77 v' base ok2 vq' ss') (hk : Kept v v' (fun k => k = gw ∨ some k = vq.ownBlock)) (hB : Below base v v') (hat : vq'.ownBlock = vq.ownBlock ∨ ∃ b, vq'.ownBlock = some b ∧ v.heap.size ≤ b)
  (hms : ∀ k, some k = vq.ownBlock → k ≠ bm) (hmw : bm ≠ gw) :
  SInv w nr nb n base gw gp gm bm g c h2 ch okA1 ok2 l rbs cf vs v' vq' G H ss' := by
 have hty : ∀ k, some k = vq.ownBlock → ∃ cells, v.heap[k]? = some (.cells cells 77 (0, 0)) := fun k e => Kd.N_typed h.hs k e.symm
 have stay : ∀ {k t : Nat} {cs : Array Value}, v.heap[k]? = some (.cells cs t (0, 0)) → k ≠ gw → 77 ≠ t → v'.heap[k]? = v.heap[k]? := fun {k t cs} hc hne ht => hk.2 k (blt hc) (fun e => e.elim hne (fun e => by
  obtain ⟨cs', hc'⟩ := hty k e
  rw [hc] at hc'
  injection hc' with hc'
  injection hc' with _ hc'
  exact ht hc'.symm))
 have hneg : ∀ {k t : Nat} {cs : Array Value}, v.heap[k]? = some (.cells cs t (0, 0)) → 30 ≠ t → k ≠ gw := fun {k t cs} hc ht e => by
  rw [e, h.bw] at hc
  injection hc with hc
  injection hc with _ hc
  exact ht hc
 have hdat : ∀ k, Data v k → v'.heap[k]? = v.heap[k]? := fun k ⟨cs, hc⟩ => stay hc (hneg hc (by decide)) (by decide)
 refine ⟨h.kept.then_ hk (fun k e => ?_), bw', (stay h.bp (hneg h.bp (by decide)) (by decide)).trans h.bp, (stay h.bmm (hneg h.bmm (by decide)) (by decide)).trans h.bmm, ?_, ?_, ?_, ?_, hs', ?_, h.hb.trans hB, Nat.le_trans h.sz hk.1⟩
 ·rcases e with e | e
  ·exact .inl (.inl e)
  ·rcases h.hv k e.symm with e2 | e2
   ·exact .inl (.inr e2)
   ·exact .inr (Nat.le_trans hw e2)
 ·refine h.ma.step (fun k hk' hlt => hk.2 k hlt (fun e => ?_)) ?_
  ·obtain ⟨h1, h2', h3⟩ := hA k hk'
   rcases e with e | e
   ·exact h1 e
   ·rcases h.hv k e.symm with e2 | e2
    ·exact h2' e2
    ·omega
  ·obtain ⟨es, clock, h1, _⟩ := h.ma
   exact hk.2 bm (blt h1) (fun e => e.elim hmw (fun e => hms bm e rfl))
 ·refine Kd.R_step (Kd.R_bound h.ho) (fun k hk' hlt => ?_) |> fun q => Kd.R_mono q (fun _ _ => trivial)
  obtain ⟨_, _, _, q, hq, cs, hc⟩ := hk'
  have hq2 : q = 27 := by simpa [Kd.scalar] using hq
  subst hq2
  exact stay hc (hneg hc (by decide)) (by decide)
 ·refine h.hr.move (fun b hb => ?_)
  rcases hb with hb | hb
  ·obtain ⟨_, c', _, _, _, _, _, h3⟩ := h.hr.at_ hb
   obtain ⟨cs, hc⟩ := Kd.N_typed h3 b (by simp [Value.ownBlock])
   exact stay hc (hneg hc (by decide)) (by decide)
  ·exact hdat b hb
 ·refine row_move h.hh (fun k hk' => ?_)
  rcases hk' with rfl | hk'
  ·obtain ⟨cs, hc⟩ := Kd.N_typed h.hh k (by simp [Value.ownBlock])
   exact stay hc (hneg hc (by decide)) (by decide)
  ·exact hdat k hk'
 ·intro k e
  rcases hat with e2 | ⟨b, e2, hle⟩
  ·exact h.hv k (e2.symm.trans e)
  ·rw [e2] at e
   injection e with e
   exact .inr (by have := h.sz; omega)
/-- A store into a block that is the call's own. -/
theorem SInv.store (h : SInv w nr nb n base gw gp gm bm g c h2 ch okA1 ok2 l rbs cf vs v vq G H ss) {b i : Nat} {u : Value} {G' : List (List (List Int))} {H' : List (List Int)} {cs : Array Value} (hcb : v.heap[b]? = some (.cells cs 51 (0, 0))) (hwb : w.heap.size ≤ b) (hbb : base ≤ b) (hbn : b < nb) (hok : ∀ k, ok2 k → k ≠ b) (hA : ∀ k, okA1 k → k < w.heap.size)
  (hr' : Rows (v.setCell ⟨b, i, none⟩ u) nr n (Data (v.setCell ⟨b, i, none⟩ u)) rbs G') (hh' : kD.N 51 (v.setCell ⟨b, i, none⟩ u) nr (fun k => k = h2 ∨ Data (v.setCell ⟨b, i, none⟩ u) k) (.slice (some ⟨h2, 0, none⟩) n ch) H') :
  SInv w nr nb n base gw gp gm bm g c h2 ch okA1 ok2 l rbs cf vs (v.setCell ⟨b, i, none⟩ u) vq G' H' ss := by
 have far : ∀ k, k ≠ b → (v.setCell ⟨b, i, none⟩ u).heap[k]? = v.heap[k]? := fun k hk => Below.heap_setCell _ _ _ _ hk
 have ne : ∀ {k t : Nat} {cs' : Array Value}, v.heap[k]? = some (.cells cs' t (0, 0)) → 51 ≠ t → k ≠ b := fun {k t cs'} hc ht e => by
  rw [e, hcb] at hc
  injection hc with hc
  injection hc with _ hc
  exact ht hc
 have hsz : (v.setCell ⟨b, i, none⟩ u).heap.size = v.heap.size := by simp [World.setCell]
 refine ⟨h.kept.setCell (p := ⟨b, i, none⟩) (.inr hwb) u, (far _ (ne h.bw (by decide))).trans h.bw, (far _ (ne h.bp (by decide))).trans h.bp, (far _ (ne h.bmm (by decide))).trans h.bmm, ?_, ?_, hr', hh', ?_, h.hv, h.hb.setCell (p := ⟨b, i, none⟩) hbb u, by rw [hsz]; exact h.sz⟩
 ·refine h.ma.step (fun k hk _ => far k (by have := hA k hk; omega)) (far bm (fun e => ?_))
  obtain ⟨es, clock, h1, _⟩ := h.ma
  rw [e, hcb] at h1
  cases h1
 ·exact Kd.R_mono (Kd.R_step (Kd.R_bound h.ho) (fun k hk' hlt => by
   obtain ⟨_, _, _, q, hq, cs', hc⟩ := hk'
   have hq2 : q = 27 := by simpa [Kd.scalar] using hq
   subst hq2
   exact far k (ne hc (by decide)))) (fun _ _ => trivial)
 ·exact Kd.N_step h.hs (fun k hk _ => far k (hok k hk))
end
/-- Rows by their blocks read as a row of rows. -/
theorem rows_C {w : World} {nr n g c : Nat} {D : Nat → Prop} {rbs : List (Nat × Nat)} {G : List (List (List Int))} (hR : Rows w nr n D rbs G) (hO : (kO n).R 27 w nr (fun _ => True) (.slice (some ⟨g, 0, none⟩) n c) (rbs.map some)) : (Kd.slice 51 kD).C w (some ⟨g, 0, none⟩) G.length G ∧ G.length = n ∧ n ≤ c := by
 obtain ⟨hn, hc, hC⟩ := Kd.R_reads' hO
 have hl : rbs.length = n := by simpa using hn.symm
 have hG : G.length = n := by rw [← hR.len, hl]
 refine ⟨⟨rfl, by rw [hG]; have := hC.2.1; simp at this; omega, fun hp => ⟨_, rfl, fun j p hj => ?_⟩⟩, hG, hc⟩
 have hjn : j < n := by rw [← hG]; exact (List.getElem?_eq_some_iff.1 hj).1
 have hjr : j < rbs.length := by omega
 obtain ⟨b, cb, hb⟩ : ∃ b cb, rbs[j]? = some (b, cb) := ⟨rbs[j].1, rbs[j].2, by rw [List.getElem?_eq_getElem hjr]⟩
 obtain ⟨_, h4, h5⟩ := hR.row j b cb p hb hj
 obtain ⟨h6, h7, h8⟩ := Kd.N_reads' h5
 have h9 := (Kd.R_celln none hO (j : Int) (by omega) (by omega)).1
 refine ⟨[.slice (some ⟨b, 0, none⟩) n cb], rfl, ⟨some ⟨b, 0, none⟩, cb, by rw [h4], by rw [h4]; exact h7, h8⟩, fun i u hu => ?_⟩
 cases i with
 | succ i => simp at hu
 | zero =>
  simp only [List.getElem?_cons_zero, Option.some.injEq] at hu
  subst hu
  simp only [Int.toNat_natCast] at h9
  rw [add_at]
  show w.cell? ⟨g, 0 + (j * 1 + 0), none⟩ = _
  rw [show 0 + (j * 1 + 0) = j from by omega, h9]
  simp [rdOf, List.getD_eq_getElem?_getD, hb, encO]
/-- A block of payloads, of rows of payloads, or of rows of these. -/
def Typ (w : World) (k : Nat) : Prop := ∃ cs q, w.heap[k]? = some (.cells cs q (0, 0)) ∧ (q = 27 ∨ q = 51 ∨ q = 22)
theorem Typ.ne {w : World} {k g : Nat} (h : Typ w k) {cs : Array Value} (hg : w.heap[g]? = some (.cells cs 30 (0, 0))) : k ≠ g := by
 rintro rfl
 obtain ⟨cs', q, h1, h2⟩ := h
 rw [hg] at h1
 injection h1 with h1
 injection h1 with _ h1
 rcases h2 with rfl | rfl | rfl <;> exact absurd h1 (by decide)
theorem typF_kept {α : Type} {d : Kd α} {w w1 : World} {g n : Nat} {A : Option Addr} {xs : List α} {cs : Array Value} (h : Kd.F d w (Typ w) A n xs) (hk : Kept w w1 (fun k => k = g)) (hg : w.heap[g]? = some (.cells cs 30 (0, 0))) : Kd.F d w1 (Typ w1) A n xs :=
 Kd.F_mono (Kd.F_kept h hk (fun k ho e => Typ.ne ho hg e)) (fun k ho => by
  have hne := Typ.ne ho hg
  obtain ⟨cs', q, h1, h2⟩ := ho
  exact ⟨cs', q, (hk.2 k (blt h1) hne).trans h1, h2⟩)
theorem rows_F {w : World} {nr n g c : Nat} {rbs : List (Nat × Nat)} {G : List (List (List Int))} (hR : Rows w nr n (Data w) rbs G) (hO : (kO n).R 27 w nr (fun _ => True) (.slice (some ⟨g, 0, none⟩) n c) (rbs.map some)) : Kd.F (Kd.slice 51 kD) w (Typ w) (some ⟨g, 0, none⟩) n G := fun W' hW => by
 have hO2 : (kO n).R 27 W' nr (fun _ => True) (.slice (some ⟨g, 0, none⟩) n c) (rbs.map some) := Kd.R_mono (Kd.R_step (Kd.R_bound hO) (fun k hk' hlt => by
  obtain ⟨_, _, _, q, hq, cs, hc⟩ := hk'
  have hq2 : q = 27 := by simpa [Kd.scalar] using hq
  exact hW k ⟨cs, q, hc, .inl hq2⟩ hlt)) (fun _ _ => trivial)
 have hR2 : Rows W' nr n (Data W') rbs G := hR.move (fun b hb => by
  rcases hb with hb | ⟨cs, hb⟩
  ·obtain ⟨_, c', _, _, _, _, _, h3⟩ := hR.at_ hb
   obtain ⟨cs, hc⟩ := Kd.N_typed h3 b (by simp [Value.ownBlock])
   exact hW b ⟨cs, 51, hc, .inr (.inl rfl)⟩ (blt hc)
  ·exact hW b ⟨cs, 22, hb, .inr (.inr rfl)⟩ (blt hb))
 obtain ⟨h1, h2, _⟩ := rows_C hR2 hO2
 rw [h2] at h1
 exact h1
theorem row_F {w : World} {nr n b c : Nat} {L : List (List Int)} (h : kD.N 51 w nr (fun k => k = b ∨ Data w k) (.slice (some ⟨b, 0, none⟩) n c) L) : Kd.F kD w (Typ w) (some ⟨b, 0, none⟩) n L := by
 have ht := Kd.N_typed h b (by simp [Value.ownBlock])
 refine Kd.F_mono (Kd.N_F h) (fun k hk => ?_)
 rcases hk with rfl | ⟨cs, hk⟩
 ·obtain ⟨cs, hc⟩ := ht
  exact ⟨cs, 51, hc, .inr (.inl rfl)⟩
 ·exact ⟨cs, 22, hk, .inr (.inr rfl)⟩
end Go.Proofs.Ytkaikgbcnmfppaa.Nb
