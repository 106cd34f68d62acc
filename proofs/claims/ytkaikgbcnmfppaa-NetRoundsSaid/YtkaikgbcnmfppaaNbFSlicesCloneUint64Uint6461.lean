/- The map of this round's acts (map[[2]int]api.Act), kept as a list of acts. A function of the program, with its walk: sc61. (Made by this session's own program out of what the kit's print wrote; no text of the print.) -/
import Derived.Test.YtkaikgbcnmfppaaNbMap
import Derived.Test.YtkaikgbcnmfppaaNb0
import Derived.BigRegion
import Derived.Lib.SliceRun
namespace Go.Proofs.Ytkaikgbcnmfppaa.Nb
open Go Go.RowKit Go.Proofs.YtkaikgbcnmfppaaW.PrintWords Go.Proofs.YtkaikgbcnmfppaaW.PrintLast Go.Proofs.YtkaikgbcnmfppaaW.PrintMore
set_option linter.unusedVariables false
set_option linter.unusedSimpArgs false
def key2 (a b : Int) : Value := .agg #[.int .i64 a, .int .i64 b]
theorem und96 : Try.prog.underlying 96 = some (.map 97 72) := by kernel_rfl
theorem und97 : Try.prog.underlying 97 = some (.array 2 3) := by kernel_rfl
theorem pu0 (a b : Int) (w : World) : (part 3 #[.int .i64 a, .int .i64 b] 0).run Try.prog w = .ok (.int .i64 a) w := by go_simp
theorem pu1 (a b : Int) (w : World) : (part 3 #[.int .i64 a, .int .i64 b] 1).run Try.prog w = .ok (.int .i64 b) w := by go_simp
theorem eq97 (w : World) (a b c d : Int) : (Op.equal 97 (key2 a b) (key2 c d)).run Try.prog w = .ok (a == c && b == d) w := by
 obtain ⟨i0, hi, hz0, hz1, hz2⟩ := info_parts inf3
 have hc : Try.prog.cellsOf 3 = 1 := by simp [Program.cellsOf, hi, hz1]
 unfold Op.equal Op.maxDepth key2
 rw [run_equalIn_array (P := Try.prog) (w := w) 9999 #[.int .i64 a, .int .i64 b] #[.int .i64 c, .int .i64 d] und97 hi, hc]
 have he : ∀ (a b : Int) (w : World), (Op.equalIn 9999 3 (.int .i64 a) (.int .i64 b)).run Try.prog w = .ok (a == b) w := fun a b w => by go_simp
 simp only [show List.range 2 = [0, 1] from rfl, Op.eqItems, Sem.run_bind, Nat.zero_mul, Nat.one_mul, pu0, he, Result.andThen_ok]
 by_cases h0 : a = c
 ·by_cases h1 : b = d <;> simp [h0, h1, pu1, he]
 ·simp [h0]
theorem chk97 (e : Bool) (w : World) (a b : Int) : (Instr.checkKey e 10000 97 (key2 a b)).run Try.prog w = .ok () w := by
 have hs : ∀ w : World, (sizeOf 3).run Try.prog w = .ok 1 w := fun w => by go_simp
 have h3 : ∀ (a : Int) (w : World), (Instr.checkKey e 9999 3 (.int .i64 a)).run Try.prog w = .ok () w := fun a w => by
  rw [show (9999 : Nat) = 9998 + 1 from rfl, Instr.checkKey]
  simp [run_underlying Try.underlying3]
 unfold key2
 rw [show (10000 : Nat) = 9999 + 1 from rfl, Instr.checkKey]
 simp [run_underlying und97, show List.range' 0 2 = [0, 1] from rfl, List.forIn_cons, hs, pu0, pu1, h3]
def actV (A : Option Addr) (c : Nat) (a : S72) : Value := .agg #[.int .i64 a.f0, .int .i64 a.f1, .int .i64 a.f2, .bool a.f3, .slice A a.f4.length c]
def RepA (w : World) (ok : Nat → Prop) : List MapEntry → List S72 → Prop
 | [], [] => True
 | e :: es, a :: l => e.key = key2 a.f1 a.f2 ∧ (∃ A c, e.val = actV A c a ∧ a.f4.length ≤ c ∧ Kd.F (Kd.int .u64) w ok A a.f4.length a.f4) ∧ RepA w ok es l
 | _, _ => False
theorem RepA.step {w w1 : World} {ok : Nat → Prop} (hm : ∀ k, ok k → k < w.heap.size → w1.heap[k]? = w.heap[k]?) : ∀ (es : List MapEntry) (l : List S72), RepA w ok es l → RepA w1 ok es l
 | [], [], _ => trivial
 | _ :: es, _ :: l, ⟨h1, ⟨A, c, h2, h3, h4⟩, h5⟩ => ⟨h1, ⟨A, c, h2, h3, Kd.F_step h4 hm⟩, RepA.step hm es l h5⟩
 | [], _ :: _, h => h.elim
 | _ :: _, [], h => h.elim
theorem RepA.push {w : World} {ok : Nat → Prop} {e : MapEntry} {a : S72} (h1 : e.key = key2 a.f1 a.f2) (h2 : ∃ A c, e.val = actV A c a ∧ a.f4.length ≤ c ∧ Kd.F (Kd.int .u64) w ok A a.f4.length a.f4) : ∀ (es : List MapEntry) (l : List S72), RepA w ok es l → RepA w ok (es ++ [e]) (l ++ [a])
 | [], [], _ => ⟨h1, h2, trivial⟩
 | _ :: es, _ :: l, ⟨g1, g2, g3⟩ => ⟨g1, g2, RepA.push h1 h2 es l g3⟩
 | [], _ :: _, h => h.elim
 | _ :: _, [], h => h.elim
/-- Block bm is a map that holds these acts by sender and receiver. -/
def MAct (w : World) (ok : Nat → Prop) (bm : Nat) (l : List S72) : Prop := ∃ es clock, w.heap[bm]? = some (.map es clock) ∧ RepA w ok es.toList l
theorem MAct.step {w w1 : World} {ok : Nat → Prop} {bm : Nat} {l : List S72} (h : MAct w ok bm l) (hm : ∀ k, ok k → k < w.heap.size → w1.heap[k]? = w.heap[k]?) (hb : w1.heap[bm]? = w.heap[bm]?) : MAct w1 ok bm l := by
 obtain ⟨es, clock, h1, h2⟩ := h
 exact ⟨es, clock, hb.trans h1, RepA.step hm _ _ h2⟩
theorem MAct.below {w w1 : World} {ok : Nat → Prop} {bm : Nat} {l : List S72} (h : MAct w ok bm l) (hb : Below w.heap.size w w1) : MAct w1 ok bm l :=
 h.step (fun k _ hk => hb.block k hk) (hb.block bm (by obtain ⟨_, _, h1, _⟩ := h; obtain ⟨q, _⟩ := Array.getElem?_eq_some_iff.1 h1; exact q))
theorem ask97 (w : World) (ok : Nat → Prop) (f t : Int) : ∀ (es : List MapEntry) (l : List S72) (i : Nat), RepA w ok es l →
  ∃ r, (Instr.findAsking 97 (key2 f t) es i).run Try.prog w = .ok r w ∧ (∀ a, l.find? (fun a => f == a.f1 && t == a.f2) = some a → ∃ j A c, r = some (j, actV A c a) ∧ a.f4.length ≤ c ∧ Kd.F (Kd.int .u64) w ok A a.f4.length a.f4) ∧ (l.find? (fun a => f == a.f1 && t == a.f2) = none → r = none)
 | [], [], i, _ => ⟨none, by simp [Instr.findAsking], fun a h => by simp at h, fun _ => rfl⟩
 | [], _ :: _, _, h => h.elim
 | _ :: _, [], _, h => h.elim
 | e :: es, a :: l, i, ⟨h1, ⟨A, c, h2, h3, h4⟩, h5⟩ => by
  obtain ⟨r, g1, g2, g3⟩ := ask97 w ok f t es l (i + 1) h5
  rw [Instr.findAsking]
  cases hq : (f == a.f1 && t == a.f2) with
  | true =>
   refine ⟨some (i, actV A c a), ?_, fun a' ha' => ?_, fun hn => ?_⟩
   ·rw [h1]
    simp only [Sem.run_bind, eq97, hq, Result.andThen_ok, h2]
    rfl
   ·rw [List.find?_cons_of_pos (by exact hq)] at ha'
    cases ha'
    exact ⟨i, A, c, rfl, h3, h4⟩
   ·rw [List.find?_cons_of_pos (by exact hq)] at hn
    cases hn
  | false =>
   refine ⟨r, ?_, fun a' ha' => ?_, fun hn => ?_⟩
   ·rw [h1]
    simp only [Sem.run_bind, eq97, hq, Result.andThen_ok]
    exact g1
   ·rw [List.find?_cons_of_neg (by simp [hq])] at ha'
    exact g2 a' ha'
   ·rw [List.find?_cons_of_neg (by simp [hq])] at hn
    exact g3 hn
theorem find97 (w : World) (ok : Nat → Prop) (f t : Int) (es : List MapEntry) (l : List S72) (h : RepA w ok es l) :
  ∃ r, (Instr.findKey 97 (key2 f t) es).run Try.prog w = .ok r w ∧ (∀ a, l.find? (fun a => f == a.f1 && t == a.f2) = some a → ∃ j A c, r = some (j, actV A c a) ∧ a.f4.length ≤ c ∧ Kd.F (Kd.int .u64) w ok A a.f4.length a.f4) ∧ (l.find? (fun a => f == a.f1 && t == a.f2) = none → r = none) := by
 unfold Instr.findKey
 cases es with
 | nil =>
  cases l with
  | nil => exact ⟨none, by simp [run_underlying und97, Instr.findNow], fun a h => by simp at h, fun _ => rfl⟩
  | cons _ _ => exact h.elim
 | cons e es =>
  obtain ⟨r, h1, h2⟩ := ask97 w ok f t (e :: es) l 0 h
  refine ⟨r, ?_, h2⟩
  have hn : Instr.findNow (.array 2 3) (key2 f t) (e :: es) 0 = none := by
   unfold Instr.findNow Instr.sameNow key2
   rfl
  simp [run_underlying und97, hn, h1]
theorem zero72 (w : World) : (zeroValue 72).run Try.prog w = .ok (actV none 0 z72) w := by go_simp; rfl
theorem MAct.found {w : World} {ok : Nat → Prop} {bm : Nat} {l : List S72} (h : MAct w ok bm l) {f t : Int} {a : S72} (hf : l.find? (fun a => f == a.f1 && t == a.f2) = some a) :
  ∃ A c, (Instr.lookup 96 (.map (some bm)) (.agg #[.int .i64 f, .int .i64 t]) true).run Try.prog w = .ok (.tuple #[actV A c a, .bool true]) w ∧ a.f4.length ≤ c ∧ Kd.F (Kd.int .u64) w ok A a.f4.length a.f4 := by
 obtain ⟨es, clock, h1, h2⟩ := h
 obtain ⟨r, g1, g2, g3⟩ := find97 w ok f t es.toList l h2
 obtain ⟨j, A, c, rfl, h3, h4⟩ := g2 a hf
 have hc := chk97 es.isEmpty w f t
 have hg : (getObj bm).run Try.prog w = .ok (.map es clock) w := MapKept.run_getObj_map h1
 unfold key2 at g1 hc
 refine ⟨A, c, ?_, h3, h4⟩
 unfold Instr.lookup
 simp [run_underlying und96, hg, hc, g1]
theorem MAct.absent {w : World} {ok : Nat → Prop} {bm : Nat} {l : List S72} (h : MAct w ok bm l) {f t : Int} (hf : l.find? (fun a => f == a.f1 && t == a.f2) = none) :
  (Instr.lookup 96 (.map (some bm)) (.agg #[.int .i64 f, .int .i64 t]) true).run Try.prog w = .ok (.tuple #[actV none 0 z72, .bool false]) w := by
 obtain ⟨es, clock, h1, h2⟩ := h
 obtain ⟨r, g1, g2, g3⟩ := find97 w ok f t es.toList l h2
 have := g3 hf
 subst this
 have hc := chk97 es.isEmpty w f t
 have hg : (getObj bm).run Try.prog w = .ok (.map es clock) w := MapKept.run_getObj_map h1
 unfold key2 at g1 hc
 unfold Instr.lookup
 simp [run_underlying und96, hg, hc, g1, zero72]
 rfl
theorem MAct.put {w : World} {ok : Nat → Prop} {bm : Nat} {l : List S72} (h : MAct w ok bm l) (hok : ¬ ok bm) {a : S72} (hf : l.find? (fun b => a.f1 == b.f1 && a.f2 == b.f2) = none) {A : Option Addr} {c : Nat} (hl : a.f4.length ≤ c) (hr : Kd.F (Kd.int .u64) w ok A a.f4.length a.f4) :
  ∃ w1, (Instr.mapUpdate 96 (.map (some bm)) (.agg #[.int .i64 a.f1, .int .i64 a.f2]) (actV A c a)).run Try.prog w = .ok () w1 ∧ MAct w1 ok bm (l ++ [a]) ∧ (∀ i, i ≠ bm → w1.heap[i]? = w.heap[i]?) ∧ w1.heap.size = w.heap.size ∧ (∀ base', base' ≤ bm → Below base' w w1) := by
 obtain ⟨es, clock, h1, h2⟩ := h
 obtain ⟨r, g1, g2, g3⟩ := find97 w ok a.f1 a.f2 es.toList l h2
 have := g3 hf
 subst this
 have hc := chk97 false w a.f1 a.f2
 have hg : (getObj bm).run Try.prog w = .ok (.map es clock) w := MapKept.run_getObj_map h1
 have hlt : bm < w.heap.size := by obtain ⟨q, _⟩ := Array.getElem?_eq_some_iff.1 h1; exact q
 have hst := MapKept.run_setObj_map (P := Try.prog) (Obj.map (es.push { key := key2 a.f1 a.f2, val := actV A c a, born := clock }) (clock + 1)) h1
 unfold key2 at g1 hc
 refine ⟨{ w with heap := w.heap.setIfInBounds bm (Obj.map (es.push { key := key2 a.f1 a.f2, val := actV A c a, born := clock }) (clock + 1)) }, ?_, ?_, ?_, ?_, ?_⟩
 ·unfold Instr.mapUpdate
  unfold key2 at hst ⊢
  simp [run_underlying und96, hg, hc, g1, hst]
 ·refine ⟨es.push { key := key2 a.f1 a.f2, val := actV A c a, born := clock }, clock + 1, by simp [hlt], ?_⟩
  rw [Array.toList_push]
  have hm : ∀ k, ok k → k < w.heap.size → (w.heap.setIfInBounds bm (Obj.map (es.push { key := key2 a.f1 a.f2, val := actV A c a, born := clock }) (clock + 1)))[k]? = w.heap[k]? := fun k hk _ => by
   have : bm ≠ k := fun e => hok (e ▸ hk)
   simp [Array.getElem?_setIfInBounds, this]
  exact RepA.push rfl ⟨A, c, rfl, hl, Kd.F_step hr hm⟩ _ _ (RepA.step hm _ _ h2)
 ·intro i hi
  simp [Array.getElem?_setIfInBounds, Ne.symm hi]
 ·simp
 ·intro base' hb'
  refine ⟨rfl, rfl, rfl, by simp, fun i hi => ?_⟩
  have : bm ≠ i := by omega
  simp [Array.getElem?_setIfInBounds, this]
theorem MAct.made (w : World) (ok : Nat → Prop) : MAct (w.alloc (Obj.map #[] 0)) ok w.heap.size [] := ⟨#[], 0, (MapKept.heap_alloc w _).1, trivial⟩
end Go.Proofs.Ytkaikgbcnmfppaa.Nb
namespace Go.Proofs.Ytkaikgbcnmfppaa.Nb
open Go.RowKit Go.Proofs.YtkaikgbcnmfppaaW.PrintWords Go.Proofs.YtkaikgbcnmfppaaW.PrintLast Go.Proofs.YtkaikgbcnmfppaaW.PrintMore
attribute [local go_sem] max2_int min2_int max_two min_two max_three min_three max_four min_four   -- for this text's walks alone
set_option linter.unusedVariables false
set_option linter.unusedSimpArgs false

noncomputable section
/-! ### sc61: function 61 -/
def sc61.f (l0 : List Int) : Option (List Int) := (some (([] : List Int) : List Int)).bind fun y150 => (if y150.length + l0.length < 17592186044416 then (some (y150 ++ l0)) else (none))
set_option maxHeartbeats 8000000 in
set_option maxRecDepth 100000 in
theorem sc61.calls (A0 : Option Addr) (c0 : Nat) (l0 : List Int) (r : List Int) (w : World) (hr0 : Kd.C (Kd.int .u64) w A0 l0.length l0) (hc0 : l0.length ≤ c0) (h : sc61.f l0 = some r) :
  Calls Try.prog 61 #[.slice A0 l0.length c0] w fun e w' => ∃ v0_ : Value, e = .returned (v0_) ∧ Kd.R (Kd.int .u64) 22 w' w.heap.size (fun _ => True) v0_ r ∧ Below w.heap.size w w' := by
 have HR0 := Qz.mk hr0
 have HC0 := Qz.mk hc0
 clear hr0 hc0
 have HB := Qz.mk (Below.refl w.heap.size w)
 have H : ((some (([] : List Int) : List Int)).bind fun y150 => (if y150.length + l0.length < 17592186044416 then (some (y150 ++ l0)) else (none))) = some r := h
 clear h
 obtain ⟨y150, hy150⟩ : ∃ y_ : List Int, y_ = (([] : List Int)) := ⟨_, rfl⟩
 replace H : (if y150.length + l0.length < 17592186044416 then (some (y150 ++ l0)) else (none)) = some r := by first | (rw [hy150]; with_reducible exact H) | (have H2_ := (Option.bind_some _ _).symm.trans H; rw [hy150]; with_reducible exact H2_) | (have H2_ := (Option.bind_some _ _).symm.trans H; with_reducible exact H2_) | with_reducible exact H | (rw [hy150]; exact H) | exact H
 have Ny150 := Qz.mk hy150
 clear hy150
 by_cases c2 : y150.length + l0.length < 17592186044416
 ·rw [if_pos c2] at H
  have LMc2 := Qz.mk c2
  clear c2
  obtain ⟨y153, hy153⟩ : ∃ y_ : List Int, y_ = (y150 ++ l0) := ⟨_, rfl⟩
  replace H : (some y153) = some r := by first | (rw [hy153]; with_reducible exact H) | (have H2_ := (Option.bind_some _ _).symm.trans H; rw [hy153]; with_reducible exact H2_) | (have H2_ := (Option.bind_some _ _).symm.trans H; with_reducible exact H2_) | with_reducible exact H | (rw [hy153]; exact H) | exact H
  have Ny153 := Qz.mk hy153
  clear hy153
  obtain rfl := Option.some.inj H
  have qeq : ∀ (w : World) (a : Option Addr) (n c n' c' : Nat), (binOp .eql 51 (.slice a n c) (.slice none n' c')).run Try.prog w = .ok (.bool a.isNone) w := fun w a n c n' c' => Lib.run_eql_slice_nil w _ _ a n c n' c' Try.underlying51
  rcases A0 with _ | ad0
  ·have hl0 : l0 = [] := by
    rcases Nat.eq_zero_or_pos l0.length with h | h
    ·exact List.eq_nil_of_length_eq_zero h
    ·obtain ⟨ad, h1, _⟩ := HR0.out.2.2 h
     cases h1
   subst hl0
   have e1 : y153 = [] := by rw [Ny153.out, Ny150.out]; rfl
   subst e1
   go_enter Try.func61, Try.ntmps61
   go_wp2
   go_ret
   exact ⟨_, rfl, Kd.R_nil _ _ _ _ _, Below.refl _ _⟩
  go_enter Try.func61, Try.ntmps61
  go_wp2_with (first | ((with_reducible refine gdt (N := 5) rfl ?_); refine Kd.R_lit (Kd.int .u64) _ 22 ?hg (N := 5) ?hd (xs := ([] : List Int)) (inner := []) (ok := fun _ => True) (okp := fun _ => True) ?hr ?hp (fun _ hk => hk) trivial (Below.refl _ _) (Nat.le_refl _) (by simp) ?_; (case hd => rfl); (case hg => rfl); (case hr => first | (go_simp; done) | (go_simp; rfl)); (case hp => exact (Reps.none _ _)); intro v151 w3 ho4 hb hg_ hnew_; clear hg_ hnew_; (first | rw [← Ny150.out] at ho4 | (simp only [Int.reduceToNat] at ho4; rw [← Ny150.out] at ho4)); have n0_ := Qz.mk (Kd.R_lower ho4 (bsz (by repeat (first | (with_reducible first | exact HB.out | apply ba1 | apply bd_ | apply bd1) | exact HB.out)))); have n1_ := Qz.mk (bst (by repeat (first | (with_reducible first | exact HB.out | apply ba1 | apply bd_ | apply bd1) | exact HB.out)) hb); clear HB; have HO152 := n0_; have HB := n1_; clear n0_ n1_; clear hb ho4) | ((with_reducible refine gbi (b := .append) (xs := #[.tmp 5, .tmp 6]) rfl ?_); at_builtin; refine Kd.R_append_rows (Kd.int .u64) (w0 := w) w.heap.size rfl (.tmp 5) (.tmp 6) 51 22 (.int .u64 0) 8 rfl Try.underlying51 info22 rfl (by decide) (by omega) v151 y150 l0 _ _ _ (fun _ => True) (fun _ => False) rfl rfl ?aO ?aR (fun _ _ h => h) (fun _ h => h.elim) ?aF ?aB ?aS ?aL ?_; (case aR => repeat (first | exact (Kd.C_below HR0.out HB.out) | (with_reducible refine Kd.C_alloc ?_ _) | (with_reducible refine Kd.C_drewN ?_ _) | (with_reducible refine Kd.C_drew ?_))); (case aB => exact (by repeat (first | (with_reducible first | exact HB.out | apply ba1 | apply bd_ | apply bd1) | exact HB.out))); (case aF => exact (fun _ _ => trivial)); (case aO => exact (by (with_reducible repeat (first | apply Kd.R_alloc | apply Kd.R_drewN | apply Kd.R_drew)); exact HO152.out)); (case aS => exact (bsz (by repeat (first | (with_reducible first | exact HB.out | apply ba1 | apply bd_ | apply bd1) | exact HB.out)))); (case aL => have := LMc2.out; omega); intro v154 w5 ho hb hg hat; rw [← Ny153.out] at ho; have n0_ := Qz.mk (hb); have n1_ := Qz.mk (ho); clear HB; clear HO152; have HB := n0_; have HO155 := n1_; clear n0_ n1_; clear ho hb hg hat))
  go_ret
  exact ⟨_, by first | rfl | (simp [ewn, ews] <;> rfl) | (simp [*, ewn, ews] <;> rfl), by (with_reducible repeat (first | apply Kd.R_alloc | apply Kd.R_drewN | apply Kd.R_drew)); exact HO155.out, by repeat (first | (with_reducible first | exact HB.out | apply ba1 | apply bd_ | apply bd1) | exact HB.out)⟩
 ·rw [if_neg c2] at H
  exact absurd H (by simp)

end
end Go.Proofs.Ytkaikgbcnmfppaa.Nb
