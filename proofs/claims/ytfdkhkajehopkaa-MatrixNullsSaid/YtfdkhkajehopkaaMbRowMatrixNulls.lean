/- The row of MatrixNulls: for every input the law returns true and leaves its arguments as they were. -/
import Derived.Test.YtfdkhkajehopkaaRows
import Derived.Test.YtfdkhkajehopkaaMbLMatrixNulls
import Derived.Test.YtfdkhkajehopkaaMbPureMatrixNulls
import Derived.ChangeSame
import Derived.WideKeyArr2
import Derived.Test.YtfdkhkajehopkaaWAll
import Derived.Test.YtfdkhkajehopkaaMbRows
import Derived.WalkKit
import Derived.ProofKit
import Derived.OpenShut
import Derived.ShutString
import Derived.ChangeOld
import Derived.Below
import Derived.SizedLaws
namespace Go.Proofs.Ytfdkhkajehopkaa.matrixNulls
open Go.ChangeShapes Go.WideShapes Go.ChangeAt Go.RowKit Go.Proofs.YtfdkhkajehopkaaW.PrintWords Go.Proofs.YtfdkhkajehopkaaW.PrintLast
set_option linter.unusedVariables false
theorem own : ownKnob Try.prog.godebug = none := by kernel_rfl
theorem laidOut : laidOutB Try.prog = true := by kernel_rfl
set_option maxRecDepth 100000 in
theorem lifted (os : Os) (started : os.Started) (H : Type) (enc : TypeId × Value → H) :
    ReturnsInHanded {} Try.checked os 11 .any (Rows.matrixNullsSpec.pre6 enc Try.prog Try.f11 Rows.matrixNullsRow.domain false) (Rows.matrixNullsSpec.post enc Try.prog Try.f11 false true false false) := by
  refine returnsInHanded_of_change_sized (C := Try.checked) own started (by kernel_rfl) Try.func11
    (ChangeSpec.witness6 (enc := enc) (C := Try.checked) false ⟨#[], #[.int .u64 0, .slice none 0 0], []⟩ 8 (by kernel_rfl) (by kernel_rfl) (by kernel_rfl) (by kernel_rfl)) ?_
  intro W base args ds gs before hval0 hW hcnd hsz0 _
  have hsz : (DataW.weightsEach Try.prog (Try.f11.params.toList ++ Rows.matrixNullsSpec.plain.varTypes Try.prog) (ds ++ gs)).all (· ≤ reachBytes) = true := hsz0
  have hval : ∀ (j : Nat) t v, Try.f11.params[j]? = some t → args[j]? = some v → Value.okWide Try.prog W .any base t v := hval0
  have hW' := hW
  obtain ⟨p, q, hA0, hV, rfl, hfz, hnd⟩ := hW
  have hA : DataW.TrodAll enc Try.prog W 0 (fun _ => true) true Try.f11.params.toList args.toList ds p := hA0
  rw [Try.params11] at hA hval hsz
  obtain ⟨v0, vs0, d0, ds0, p0, q0, hargs, rfl, rfl, h0, r0⟩ := trodAll_cons hA
  obtain ⟨v1, vs1, d1, ds1, p1, q1, rfl, rfl, rfl, h1, r1⟩ := trodAll_cons r0
  obtain ⟨rfl, rfl, rfl⟩ := trodAll_nil r1
  obtain rfl : args = #[v0, v1] := by cases args; simp_all
  obtain ⟨rfl, rfl⟩ := trodVars_none hV
  obtain ⟨a0, rfl, rfl, rfl, w0⟩ := open_int Try.underlying22 (hval 0 22 v0 rfl rfl) h0
  obtain ⟨a1, len1, cap1, rfl⟩ := okWide_slice Try.underlying23 (hval 1 23 v1 rfl rfl)
  have k1 := h1
  have lt1 : ∀ x ∈ p1, x.block < W.heap.size := by obtain ⟨m, hm⟩ := k1; exact DataW.trod_lt m _ _ _ hm
  obtain ⟨l1, yl1, hm1, hcc1, hC1, hw1⟩ : ∃ l : List (List Int), l.length = len1 ∧ l.length ≤ maxLen ∧ l.length ≤ cap1 ∧ Kd.C Mb.k2 W a1 l.length l ∧ ∀ r ∈ l, r.length ≤ maxLen ∧ ∀ n ∈ r, (Lit.int .u64 n).wf = true := by
    obtain ⟨fuel, hf⟩ := h1
    obtain ⟨A_, n_, c_, hcs, hl, hm, l, yl, hC, hw⟩ := Mb.open_rows Try.underlying23 Try.underlying33 Try.underlying22 (by kernel_rfl) (by kernel_rfl) hf
    simp [Value.cells] at hcs
    obtain ⟨rfl, rfl, rfl⟩ := hcs
    subst yl
    exact ⟨l, rfl, by omega, hl, hC, hw⟩
  subst yl1
  clear hA0 hval0 hsz0 hsz
  obtain ⟨k, h⟩ := Mb.Pure_MatrixNulls a0 l1 w0 ⟨hm1, hw1⟩
  refine (Mb.juntolaw03_MatrixNulls.calls k a0 _ _ l1 true W hC1 hcc1 h).mono fun e W' ⟨he, bel⟩ => ?_
  subst he
  exact ⟨_, rfl, _, _, _, [], _, [], hW', trodAll_mk1 (shut_bool Try.underlying4 _), (trodAll_cons_mk (shut_int Try.underlying22 w0) (trodAll_cons_mk (Below.trod laidOut (by kernel_rfl) (of_decide_eq_true (by kernel_rfl)) k1 bel lt1) trodAll_mk0)), rfl, bel.frame _, fun h => by cases h⟩
theorem over : Rows.matrixNullsRow.holds Try.pinned (OpenSpec.ofChange Rows.matrixNullsSpec) :=
  OpenClaim.holds_of_wide 11 Try.f11 rfl rfl rfl rfl rfl rfl rfl ⟨rfl, rfl, rfl, rfl, rfl⟩ rfl rfl rfl rfl rfl (by kernel_rfl) Try.func11 (by kernel_rfl)
    (of_decide_eq_true (by kernel_rfl)) (by unfold Func.isWrapper; first | (rw [if_pos (by decide +kernel)]; kernel_rfl) | (rw [if_neg (by decide +kernel)]; exact ⟨rfl, rfl⟩))
    (fun os started H enc _ => lifted os started H enc)
theorem proved : Rows.MatrixNullsSaid := over
#print axioms proved
end Go.Proofs.Ytfdkhkajehopkaa.matrixNulls
namespace Go.Proofs.Ytfdkhkajehopkaa
/-- The row, under a short name, for the claim. -/
theorem matrixNulls_holds : Rows.MatrixNullsSaid := matrixNulls.proved
end Go.Proofs.Ytfdkhkajehopkaa
