/- The map of this round's acts (map[[2]int]api.Act), kept as a list of acts. -/
import Derived.Test.YtkaikgbcnmfppaaNbMap
namespace Go.Proofs.Ytkaikgbcnmfppaa.Nb
open Go Go.RowKit Go.Proofs.YtkaikgbcnmfppaaW.PrintWords Go.Proofs.YtkaikgbcnmfppaaW.PrintLast Go.Proofs.YtkaikgbcnmfppaaW.PrintMore
set_option linter.unusedVariables false
set_option linter.unusedSimpArgs false
def key2 (a b : Int) : Value := .agg #[.int .i64 a, .int .i64 b]
theorem und96 : Try.prog.underlying 96 = some (.map 97 72) := by kernel_rfl
theorem und97 : Try.prog.underlying 97 = some (.array 2 3) := by kernel_rfl
theorem pu0 (a b : Int) (w : World) : (part 3 #[.int .i64 a, .int .i64 b] 0).run Try.prog w = .ok (.int .i64 a) w := by go_simp
theorem pu1 (a b : Int) (w : World) : (part 3 #[.int .i64 a, .int .i64 b] 1).run Try.prog w = .ok (.int .i64 b) w := by go_simp
theorem eq97 (w : World) (a b c d : Int) : (Op.equal 97 (key2 a b) (key2 c d)).run Try.prog w = .ok (a == c && b == d) w := by
 obtain ⟨i0, hi, hz0, hz1, hz2⟩ := info_parts inf3
 have hc : Try.prog.cellsOf 3 = 1 := by simp [Program.cellsOf, hi, hz1]
 unfold Op.equal Op.maxDepth key2
 rw [run_equalIn_array (P := Try.prog) (w := w) 9999 #[.int .i64 a, .int .i64 b] #[.int .i64 c, .int .i64 d] und97 hi, hc]
 have he : ∀ (a b : Int) (w : World), (Op.equalIn 9999 3 (.int .i64 a) (.int .i64 b)).run Try.prog w = .ok (a == b) w := fun a b w => by go_simp
 simp only [show List.range 2 = [0, 1] from rfl, Op.eqItems, Sem.run_bind, Nat.zero_mul, Nat.one_mul, pu0, he, Result.andThen_ok]
 by_cases h0 : a = c
 ·by_cases h1 : b = d <;> simp [h0, h1, pu1, he]
 ·simp [h0]
theorem chk97 (e : Bool) (w : World) (a b : Int) : (Instr.checkKey e 10000 97 (key2 a b)).run Try.prog w = .ok () w := by
 have hs : ∀ w : World, (sizeOf 3).run Try.prog w = .ok 1 w := fun w => by go_simp
 have h3 : ∀ (a : Int) (w : World), (Instr.checkKey e 9999 3 (.int .i64 a)).run Try.prog w = .ok () w := fun a w => by
  rw [show (9999 : Nat) = 9998 + 1 from rfl, Instr.checkKey]
  simp [run_underlying Try.underlying3]
 unfold key2
 rw [show (10000 : Nat) = 9999 + 1 from rfl, Instr.checkKey]
 simp [run_underlying und97, show List.range' 0 2 = [0, 1] from rfl, List.forIn_cons, hs, pu0, pu1, h3]
def actV (A : Option Addr) (c : Nat) (a : S72) : Value := .agg #[.int .i64 a.f0, .int .i64 a.f1, .int .i64 a.f2, .bool a.f3, .slice A a.f4.length c]
def RepA (w : World) (ok : Nat → Prop) : List MapEntry → List S72 → Prop
 | [], [] => True
 | e :: es, a :: l => e.key = key2 a.f1 a.f2 ∧ (∃ A c, e.val = actV A c a ∧ a.f4.length ≤ c ∧ Kd.F (Kd.int .u64) w ok A a.f4.length a.f4) ∧ RepA w ok es l
 | _, _ => False
theorem RepA.step {w w1 : World} {ok : Nat → Prop} (hm : ∀ k, ok k → k < w.heap.size → w1.heap[k]? = w.heap[k]?) : ∀ (es : List MapEntry) (l : List S72), RepA w ok es l → RepA w1 ok es l
 | [], [], _ => trivial
 | _ :: es, _ :: l, ⟨h1, ⟨A, c, h2, h3, h4⟩, h5⟩ => ⟨h1, ⟨A, c, h2, h3, Kd.F_step h4 hm⟩, RepA.step hm es l h5⟩
 | [], _ :: _, h => h.elim
 | _ :: _, [], h => h.elim
theorem RepA.push {w : World} {ok : Nat → Prop} {e : MapEntry} {a : S72} (h1 : e.key = key2 a.f1 a.f2) (h2 : ∃ A c, e.val = actV A c a ∧ a.f4.length ≤ c ∧ Kd.F (Kd.int .u64) w ok A a.f4.length a.f4) : ∀ (es : List MapEntry) (l : List S72), RepA w ok es l → RepA w ok (es ++ [e]) (l ++ [a])
 | [], [], _ => ⟨h1, h2, trivial⟩
 | _ :: es, _ :: l, ⟨g1, g2, g3⟩ => ⟨g1, g2, RepA.push h1 h2 es l g3⟩
 | [], _ :: _, h => h.elim
 | _ :: _, [], h => h.elim
/-- Block bm is a map that holds these acts by sender and receiver. -/
def MAct (w : World) (ok : Nat → Prop) (bm : Nat) (l : List S72) : Prop := ∃ es clock, w.heap[bm]? = some (.map es clock) ∧ RepA w ok es.toList l
theorem MAct.step {w w1 : World} {ok : Nat → Prop} {bm : Nat} {l : List S72} (h : MAct w ok bm l) (hm : ∀ k, ok k → k < w.heap.size → w1.heap[k]? = w.heap[k]?) (hb : w1.heap[bm]? = w.heap[bm]?) : MAct w1 ok bm l := by
 obtain ⟨es, clock, h1, h2⟩ := h
 exact ⟨es, clock, hb.trans h1, RepA.step hm _ _ h2⟩
theorem MAct.below {w w1 : World} {ok : Nat → Prop} {bm : Nat} {l : List S72} (h : MAct w ok bm l) (hb : Below w.heap.size w w1) : MAct w1 ok bm l :=
 h.step (fun k _ hk => hb.block k hk) (hb.block bm (by obtain ⟨_, _, h1, _⟩ := h; obtain ⟨q, _⟩ := Array.getElem?_eq_some_iff.1 h1; exact q))
theorem ask97 (w : World) (ok : Nat → Prop) (f t : Int) : ∀ (es : List MapEntry) (l : List S72) (i : Nat), RepA w ok es l →
  ∃ r, (Instr.findAsking 97 (key2 f t) es i).run Try.prog w = .ok r w ∧ (∀ a, l.find? (fun a => f == a.f1 && t == a.f2) = some a → ∃ j A c, r = some (j, actV A c a) ∧ a.f4.length ≤ c ∧ Kd.F (Kd.int .u64) w ok A a.f4.length a.f4) ∧ (l.find? (fun a => f == a.f1 && t == a.f2) = none → r = none)
 | [], [], i, _ => ⟨none, by simp [Instr.findAsking], fun a h => by simp at h, fun _ => rfl⟩
 | [], _ :: _, _, h => h.elim
 | _ :: _, [], _, h => h.elim
 | e :: es, a :: l, i, ⟨h1, ⟨A, c, h2, h3, h4⟩, h5⟩ => by
  obtain ⟨r, g1, g2, g3⟩ := ask97 w ok f t es l (i + 1) h5
  rw [Instr.findAsking]
  cases hq : (f == a.f1 && t == a.f2) with
  | true =>
   refine ⟨some (i, actV A c a), ?_, fun a' ha' => ?_, fun hn => ?_⟩
   ·rw [h1]
    simp only [Sem.run_bind, eq97, hq, Result.andThen_ok, h2]
    rfl
   ·rw [List.find?_cons_of_pos (by exact hq)] at ha'
    cases ha'
    exact ⟨i, A, c, rfl, h3, h4⟩
   ·rw [List.find?_cons_of_pos (by exact hq)] at hn
    cases hn
  | false =>
   refine ⟨r, ?_, fun a' ha' => ?_, fun hn => ?_⟩
   ·rw [h1]
    simp only [Sem.run_bind, eq97, hq, Result.andThen_ok]
    exact g1
   ·rw [List.find?_cons_of_neg (by simp [hq])] at ha'
    exact g2 a' ha'
   ·rw [List.find?_cons_of_neg (by simp [hq])] at hn
    exact g3 hn
theorem find97 (w : World) (ok : Nat → Prop) (f t : Int) (es : List MapEntry) (l : List S72) (h : RepA w ok es l) :
  ∃ r, (Instr.findKey 97 (key2 f t) es).run Try.prog w = .ok r w ∧ (∀ a, l.find? (fun a => f == a.f1 && t == a.f2) = some a → ∃ j A c, r = some (j, actV A c a) ∧ a.f4.length ≤ c ∧ Kd.F (Kd.int .u64) w ok A a.f4.length a.f4) ∧ (l.find? (fun a => f == a.f1 && t == a.f2) = none → r = none) := by
 unfold Instr.findKey
 cases es with
 | nil =>
  cases l with
  | nil => exact ⟨none, by simp [run_underlying und97, Instr.findNow], fun a h => by simp at h, fun _ => rfl⟩
  | cons _ _ => exact h.elim
 | cons e es =>
  obtain ⟨r, h1, h2⟩ := ask97 w ok f t (e :: es) l 0 h
  refine ⟨r, ?_, h2⟩
  have hn : Instr.findNow (.array 2 3) (key2 f t) (e :: es) 0 = none := by
   unfold Instr.findNow Instr.sameNow key2
   rfl
  simp [run_underlying und97, hn, h1]
theorem zero72 (w : World) : (zeroValue 72).run Try.prog w = .ok (actV none 0 z72) w := by go_simp; rfl
theorem MAct.found {w : World} {ok : Nat → Prop} {bm : Nat} {l : List S72} (h : MAct w ok bm l) {f t : Int} {a : S72} (hf : l.find? (fun a => f == a.f1 && t == a.f2) = some a) :
  ∃ A c, (Instr.lookup 96 (.map (some bm)) (.agg #[.int .i64 f, .int .i64 t]) true).run Try.prog w = .ok (.tuple #[actV A c a, .bool true]) w ∧ a.f4.length ≤ c ∧ Kd.F (Kd.int .u64) w ok A a.f4.length a.f4 := by
 obtain ⟨es, clock, h1, h2⟩ := h
 obtain ⟨r, g1, g2, g3⟩ := find97 w ok f t es.toList l h2
 obtain ⟨j, A, c, rfl, h3, h4⟩ := g2 a hf
 have hc := chk97 es.isEmpty w f t
 have hg : (getObj bm).run Try.prog w = .ok (.map es clock) w := MapKept.run_getObj_map h1
 unfold key2 at g1 hc
 refine ⟨A, c, ?_, h3, h4⟩
 unfold Instr.lookup
 simp [run_underlying und96, hg, hc, g1]
theorem MAct.absent {w : World} {ok : Nat → Prop} {bm : Nat} {l : List S72} (h : MAct w ok bm l) {f t : Int} (hf : l.find? (fun a => f == a.f1 && t == a.f2) = none) :
  (Instr.lookup 96 (.map (some bm)) (.agg #[.int .i64 f, .int .i64 t]) true).run Try.prog w = .ok (.tuple #[actV none 0 z72, .bool false]) w := by
 obtain ⟨es, clock, h1, h2⟩ := h
 obtain ⟨r, g1, g2, g3⟩ := find97 w ok f t es.toList l h2
 have := g3 hf
 subst this
 have hc := chk97 es.isEmpty w f t
 have hg : (getObj bm).run Try.prog w = .ok (.map es clock) w := MapKept.run_getObj_map h1
 unfold key2 at g1 hc
 unfold Instr.lookup
 simp [run_underlying und96, hg, hc, g1, zero72]
 rfl
theorem MAct.put {w : World} {ok : Nat → Prop} {bm : Nat} {l : List S72} (h : MAct w ok bm l) (hok : ¬ ok bm) {a : S72} (hf : l.find? (fun b => a.f1 == b.f1 && a.f2 == b.f2) = none) {A : Option Addr} {c : Nat} (hl : a.f4.length ≤ c) (hr : Kd.F (Kd.int .u64) w ok A a.f4.length a.f4) :
  ∃ w1, (Instr.mapUpdate 96 (.map (some bm)) (.agg #[.int .i64 a.f1, .int .i64 a.f2]) (actV A c a)).run Try.prog w = .ok () w1 ∧ MAct w1 ok bm (l ++ [a]) ∧ (∀ i, i ≠ bm → w1.heap[i]? = w.heap[i]?) ∧ w1.heap.size = w.heap.size ∧ (∀ base', base' ≤ bm → Below base' w w1) := by
 obtain ⟨es, clock, h1, h2⟩ := h
 obtain ⟨r, g1, g2, g3⟩ := find97 w ok a.f1 a.f2 es.toList l h2
 have := g3 hf
 subst this
 have hc := chk97 false w a.f1 a.f2
 have hg : (getObj bm).run Try.prog w = .ok (.map es clock) w := MapKept.run_getObj_map h1
 have hlt : bm < w.heap.size := by obtain ⟨q, _⟩ := Array.getElem?_eq_some_iff.1 h1; exact q
 have hst := MapKept.run_setObj_map (P := Try.prog) (Obj.map (es.push { key := key2 a.f1 a.f2, val := actV A c a, born := clock }) (clock + 1)) h1
 unfold key2 at g1 hc
 refine ⟨{ w with heap := w.heap.setIfInBounds bm (Obj.map (es.push { key := key2 a.f1 a.f2, val := actV A c a, born := clock }) (clock + 1)) }, ?_, ?_, ?_, ?_, ?_⟩
 ·unfold Instr.mapUpdate
  unfold key2 at hst ⊢
  simp [run_underlying und96, hg, hc, g1, hst]
 ·refine ⟨es.push { key := key2 a.f1 a.f2, val := actV A c a, born := clock }, clock + 1, by simp [hlt], ?_⟩
  rw [Array.toList_push]
  have hm : ∀ k, ok k → k < w.heap.size → (w.heap.setIfInBounds bm (Obj.map (es.push { key := key2 a.f1 a.f2, val := actV A c a, born := clock }) (clock + 1)))[k]? = w.heap[k]? := fun k hk _ => by
   have : bm ≠ k := fun e => hok (e ▸ hk)
   simp [Array.getElem?_setIfInBounds, this]
  exact RepA.push rfl ⟨A, c, rfl, hl, Kd.F_step hr hm⟩ _ _ (RepA.step hm _ _ h2)
 ·intro i hi
  simp [Array.getElem?_setIfInBounds, Ne.symm hi]
 ·simp
 ·intro base' hb'
  refine ⟨rfl, rfl, rfl, by simp, fun i hi => ?_⟩
  have : bm ≠ i := by omega
  simp [Array.getElem?_setIfInBounds, this]
theorem MAct.made (w : World) (ok : Nat → Prop) : MAct (w.alloc (Obj.map #[] 0)) ok w.heap.size [] := ⟨#[], 0, (MapKept.heap_alloc w _).1, trivial⟩
end Go.Proofs.Ytkaikgbcnmfppaa.Nb
