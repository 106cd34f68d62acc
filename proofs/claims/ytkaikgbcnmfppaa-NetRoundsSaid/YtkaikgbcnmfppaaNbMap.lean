/- A map whose keys are three whole numbers, kept as a set. -/
import Derived.Test.YtkaikgbcnmfppaaNb0
import Derived.Maps.Own
namespace Go.Proofs.Ytkaikgbcnmfppaa.Nb
open Go Go.RowKit Go.Proofs.YtkaikgbcnmfppaaW.PrintWords Go.Proofs.YtkaikgbcnmfppaaW.PrintLast Go.Proofs.YtkaikgbcnmfppaaW.PrintMore
set_option linter.unusedVariables false
set_option linter.unusedSimpArgs false
def key3 (x : S90) : Value := .agg #[.int .i64 x.f0, .int .i64 x.f1, .int .i64 x.f2]
theorem und89 : Try.prog.underlying 89 = some (.map 90 4) := by kernel_rfl
theorem und90 : Try.prog.underlying 90 = some (.array 3 3) := by kernel_rfl
theorem inf3 : (Try.prog.info? 3).map (fun i => (i.zero, i.size, i.bytes)) = some (some (.int .i64 0), 1, 8) := by kernel_rfl
theorem pt0 (a b c : Int) (w : World) : (part 3 #[.int .i64 a, .int .i64 b, .int .i64 c] 0).run Try.prog w = .ok (.int .i64 a) w := by go_simp
theorem pt1 (a b c : Int) (w : World) : (part 3 #[.int .i64 a, .int .i64 b, .int .i64 c] 1).run Try.prog w = .ok (.int .i64 b) w := by go_simp
theorem pt2 (a b c : Int) (w : World) : (part 3 #[.int .i64 a, .int .i64 b, .int .i64 c] 2).run Try.prog w = .ok (.int .i64 c) w := by go_simp
theorem eq90 (w : World) (x y : S90) : (Op.equal 90 (key3 x) (key3 y)).run Try.prog w = .ok (x.f0 == y.f0 && (x.f1 == y.f1 && x.f2 == y.f2)) w := by
 obtain ⟨i0, hi, hz0, hz1, hz2⟩ := info_parts inf3
 have hc : Try.prog.cellsOf 3 = 1 := by simp [Program.cellsOf, hi, hz1]
 unfold Op.equal Op.maxDepth key3
 rw [run_equalIn_array (P := Try.prog) (w := w) 9999 #[.int .i64 x.f0, .int .i64 x.f1, .int .i64 x.f2] #[.int .i64 y.f0, .int .i64 y.f1, .int .i64 y.f2] und90 hi, hc]
 have he : ∀ (a b : Int) (w : World), (Op.equalIn 9999 3 (.int .i64 a) (.int .i64 b)).run Try.prog w = .ok (a == b) w := fun a b w => by go_simp
 simp only [show List.range 3 = [0, 1, 2] from rfl, Op.eqItems, Sem.run_bind, Nat.zero_mul, Nat.one_mul, pt0, he, Result.andThen_ok]
 by_cases h0 : x.f0 = y.f0
 ·by_cases h1 : x.f1 = y.f1
  ·by_cases h2 : x.f2 = y.f2 <;> simp [h0, h1, h2, pt1, pt2, he]
  ·simp [h0, h1, pt1, he]
 ·simp [h0]
theorem eq90' (w : World) (x y : S90) : (Op.equal 90 (key3 x) (key3 y)).run Try.prog w = .ok (@decide (x = y) (Classical.propDecidable _)) w := by
 rw [eq90]
 congr 1
 rw [Bool.eq_iff_iff, @decide_eq_true_iff _ (Classical.propDecidable _)]
 cases x; cases y
 simp [and_assoc]
theorem chk90 (e : Bool) (w : World) (x : S90) : (Instr.checkKey e 10000 90 (key3 x)).run Try.prog w = .ok () w := by
 obtain ⟨i0, hi, hz0, hz1, hz2⟩ := info_parts inf3
 have hs : ∀ w : World, (sizeOf 3).run Try.prog w = .ok 1 w := fun w => by go_simp
 have h3 : ∀ (a : Int) (w : World), (Instr.checkKey e 9999 3 (.int .i64 a)).run Try.prog w = .ok () w := fun a w => by
  rw [show (9999 : Nat) = 9998 + 1 from rfl, Instr.checkKey]
  simp [run_underlying Try.underlying3]
 unfold key3
 rw [show (10000 : Nat) = 9999 + 1 from rfl, Instr.checkKey]
 simp [run_underlying und90, show List.range' 0 3 = [0, 1, 2] from rfl, List.forIn_cons, hs, pt0, pt1, pt2, h3]
/-- The map has these keys, each with 'true'. -/
def MSet (w : World) (base : Nat) (v : Value) (xs : List S90) : Prop := ∃ b es clock, v = .map (some b) ∧ base ≤ b ∧ w.heap[b]? = some (.map es clock) ∧ es.toList.map (·.key) = xs.map key3 ∧ ∀ e ∈ es.toList, e.val = .bool true
theorem MSet.made {w : World} {base : Nat} (h : base ≤ w.heap.size) : MSet (w.alloc (Obj.map #[] 0)) base (Value.map (some w.heap.size)) [] :=
 ⟨w.heap.size, #[], 0, rfl, h, (MapKept.heap_alloc w _).1, rfl, fun e he => by simp at he⟩
theorem MSet.move {w w1 : World} {base : Nat} {v : Value} {xs : List S90} (h : MSet w base v xs) (hm : ∀ (b : Nat) (es : Array MapEntry) (clock : Nat), w.heap[b]? = some (Obj.map es clock) → w1.heap[b]? = some (Obj.map es clock)) : MSet w1 base v xs := by
 obtain ⟨b, es, clock, h1, h2, h3, h4, h5⟩ := h
 exact ⟨b, es, clock, h1, h2, hm b es clock h3, h4, h5⟩
theorem MSet.below {w w1 : World} {base : Nat} {v : Value} {xs : List S90} (h : MSet w base v xs) (hb : Below w.heap.size w w1) : MSet w1 base v xs :=
 h.move fun b es clock hh => (hb.block b (by obtain ⟨q, _⟩ := Array.getElem?_eq_some_iff.1 hh; exact q)).trans hh
theorem MSet.alloc {w : World} {o : Obj} {base : Nat} {v : Value} {xs : List S90} (h : MSet w base v xs) : MSet (w.alloc o) base v xs := h.move fun b es clock hh => ((MapKept.heap_alloc w _).2 b (by obtain ⟨q, _⟩ := Array.getElem?_eq_some_iff.1 hh; exact q)).trans hh
theorem MSet.drew {w : World} {base : Nat} {v : Value} {xs : List S90} (h : MSet w base v xs) : MSet w.drew base v xs := h
theorem MSet.drewN {w : World} {n : Nat} {base : Nat} {v : Value} {xs : List S90} (h : MSet w base v xs) : MSet (w.drewN n) base v xs := h
theorem MSet.set {w : World} {a : Addr} {u : Value} {base : Nat} {v : Value} {xs : List S90} (h : MSet w base v xs) : MSet (w.setCell a u) base v xs :=
 h.move fun b es clock hh => by
  simp only [World.setCell, Array.getElem?_modify]
  split
  ·rw [hh]; rfl
  ·exact hh
theorem ask90 (w : World) (x : S90) : ∀ (es : List MapEntry) (xs : List S90) (i : Nat), es.map (·.key) = xs.map key3 → (∀ e ∈ es, e.val = .bool true) →
  ∃ r, (Instr.findAsking 90 (key3 x) es i).run Try.prog w = .ok r w ∧ (x ∈ xs → ∃ j, r = some (j, .bool true)) ∧ (x ∉ xs → r = none)
 | [], [], i, _, _ => ⟨none, by simp [Instr.findAsking], fun h => (by cases h), fun _ => rfl⟩
 | [], _ :: _, _, h, _ => by simp at h
 | _ :: _, [], _, h, _ => by simp at h
 | e :: es, y :: xs, i, h, hv => by
  simp only [List.map_cons, List.cons.injEq] at h
  obtain ⟨r, h1, h2, h3⟩ := ask90 w x es xs (i + 1) h.2 (fun e he => hv e (List.mem_cons_of_mem _ he))
  rw [Instr.findAsking]
  by_cases hxy : x = y
  ·subst hxy
   refine ⟨some (i, .bool true), ?_, fun _ => ⟨i, rfl⟩, fun hn => absurd List.mem_cons_self hn⟩
   rw [h.1]
   simp [eq90', hv e List.mem_cons_self]
  ·refine ⟨r, ?_, fun hm => h2 ((List.mem_cons.1 hm).resolve_left hxy), fun hn => h3 (fun hm => hn (List.mem_cons_of_mem _ hm))⟩
   rw [h.1]
   simp [eq90', hxy, h1]
theorem find90 (w : World) (x : S90) (es : List MapEntry) (xs : List S90) (h : es.map (·.key) = xs.map key3) (hv : ∀ e ∈ es, e.val = .bool true) :
  ∃ r, (Instr.findKey 90 (key3 x) es).run Try.prog w = .ok r w ∧ (x ∈ xs → ∃ j, r = some (j, .bool true)) ∧ (x ∉ xs → r = none) := by
 unfold Instr.findKey
 cases es with
 | nil =>
  refine ⟨none, by simp [run_underlying und90, Instr.findNow], fun hm => ?_, fun _ => rfl⟩
  cases xs with
  | nil => cases hm
  | cons y ys => simp at h
 | cons e es =>
  obtain ⟨r, h1, h2⟩ := ask90 w x (e :: es) xs 0 h hv
  refine ⟨r, ?_, h2⟩
  have hk : e.key = key3 (xs.getD 0 x) := by
   cases xs with
   | nil => simp at h
   | cons y ys => simp only [List.map_cons, List.cons.injEq] at h; exact h.1
  have hn : Instr.findNow (.array 3 3) (key3 x) (e :: es) 0 = none := by
   unfold Instr.findNow Instr.sameNow key3
   rfl
  simp [run_underlying und90, hn, h1]
noncomputable def net_has.f (xs : List S90) (a b c : Int) : Option Bool := some (@decide ((⟨a, b, c⟩ : S90) ∈ xs) (Classical.propDecidable _))
theorem zero4 (w : World) : (zeroValue 4).run Try.prog w = .ok (.bool false) w := by go_simp
theorem MSet.look {w : World} {base b : Nat} {xs : List S90} (h : MSet w base (.map (some b)) xs) {x0 x1 x2 : Int} {r : Bool} (hr : net_has.f xs x0 x1 x2 = some r) :
  (Instr.lookup 89 (.map (some b)) (.agg #[.int .i64 x0, .int .i64 x1, .int .i64 x2]) false).run Try.prog w = .ok (.bool r) w := by
 obtain ⟨b', es, clock, h1, h2, h3, h4, h5⟩ := h
 injection h1 with h1
 injection h1 with h1
 subst h1
 obtain ⟨q, f1, f2, f3⟩ := find90 w ⟨x0, x1, x2⟩ es.toList xs h4 h5
 have hc := chk90 es.isEmpty w ⟨x0, x1, x2⟩
 have hr' := Option.some.inj hr
 have hg : (getObj b).run Try.prog w = .ok (.map es clock) w := MapKept.run_getObj_map h3
 unfold key3 at f1 hc
 unfold Instr.lookup
 by_cases hm : (⟨x0, x1, x2⟩ : S90) ∈ xs
 ·obtain ⟨j, rfl⟩ := f2 hm
  have : r = true := by rw [← hr']; exact @decide_eq_true _ (Classical.propDecidable _) hm
  subst this
  simp [run_underlying und89, hg, hc, f1]
 ·have := f3 hm
  subst this
  have : r = false := by rw [← hr']; exact @decide_eq_false _ (Classical.propDecidable _) hm
  subst this
  simp [run_underlying und89, hg, hc, f1, zero4]
theorem MSet.put {w : World} {base b : Nat} {xs : List S90} (h : MSet w base (.map (some b)) xs) {x0 x1 x2 : Int} (hr : net_has.f xs x0 x1 x2 = some false) :
  ∃ w1, (Instr.mapUpdate 89 (.map (some b)) (.agg #[.int .i64 x0, .int .i64 x1, .int .i64 x2]) (.bool true)).run Try.prog w = .ok () w1 ∧ MSet w1 base (.map (some b)) (xs ++ [⟨x0, x1, x2⟩]) ∧ w1.heap.size = w.heap.size ∧ (∀ i, i ≠ b → w1.heap[i]? = w.heap[i]?) ∧ base ≤ b ∧ (∃ es clock, w.heap[b]? = some (.map es clock)) ∧ (∀ base', base' ≤ b → Below base' w w1) := by
 obtain ⟨b', es, clock, h1, h2, h3, h4, h5⟩ := h
 injection h1 with h1
 injection h1 with h1
 subst h1
 obtain ⟨q, f1, f2, f3⟩ := find90 w ⟨x0, x1, x2⟩ es.toList xs h4 h5
 have hc := chk90 false w ⟨x0, x1, x2⟩
 have hn : (⟨x0, x1, x2⟩ : S90) ∉ xs := fun hm => by
  have hr' := Option.some.inj hr
  rw [@decide_eq_true _ (Classical.propDecidable _) hm] at hr'
  cases hr'
 have := f3 hn
 subst this
 have hg : (getObj b).run Try.prog w = .ok (.map es clock) w := MapKept.run_getObj_map h3
 have hlt : b < w.heap.size := by obtain ⟨q, _⟩ := Array.getElem?_eq_some_iff.1 h3; exact q
 unfold key3 at f1 hc
 have hst := MapKept.run_setObj_map (P := Try.prog) (Obj.map (es.push { key := key3 ⟨x0, x1, x2⟩, val := .bool true, born := clock }) (clock + 1)) h3
 refine ⟨{ w with heap := w.heap.setIfInBounds b (Obj.map (es.push { key := key3 ⟨x0, x1, x2⟩, val := .bool true, born := clock }) (clock + 1)) }, ?_, ?_, ?_, ?_, h2, ⟨es, clock, h3⟩, ?_⟩
 ·unfold Instr.mapUpdate
  unfold key3 at hst ⊢
  simp [run_underlying und89, hg, hc, f1, hst]
 ·refine ⟨b, es.push { key := key3 ⟨x0, x1, x2⟩, val := .bool true, born := clock }, clock + 1, rfl, h2, by simp [hlt], ?_, ?_⟩
  ·simp [h4]
  ·intro e he
   simp only [Array.toList_push, List.mem_append, List.mem_singleton] at he
   rcases he with he | rfl
   ·exact h5 e he
   ·rfl
 ·simp
 ·intro i hi
  simp [Array.getElem?_setIfInBounds, Ne.symm hi]
 ·intro base' hb'
  refine ⟨rfl, rfl, rfl, by simp, fun i hi => ?_⟩
  have : b ≠ i := by omega
  simp [Array.getElem?_setIfInBounds, this]
end Go.Proofs.Ytkaikgbcnmfppaa.Nb
