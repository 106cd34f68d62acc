/- copy(out[i+1:], out[i:]): a row of one's own moved on by one place. -/
import Derived.Test.YtmgjohlaoflebaaSb0
import Derived.Laws.CopyOwn
namespace Go.Proofs.Ytmgjohlaoflebaa.Sb
open Go.RowKit Go.Proofs.YtmgjohlaoflebaaW.PrintWords Go.Proofs.YtmgjohlaoflebaaW.PrintLast Go.Proofs.YtmgjohlaoflebaaW.PrintMore
set_option linter.unusedVariables false
theorem w64_small {x : Int} (h0 : -9223372036854775808 ≤ x) (h1 : x < 9223372036854775808) : wrap64 x = x := by
  unfold wrap64; omega
theorem size47 : (Try.prog.info? 47).map (·.size) = some 1 := by kernel_rfl
def shiftR (xs : List Int) (i : Nat) : List Int := xs.take (i + 1) ++ (xs.drop i).take (xs.length - (i + 1))
theorem shiftR_length (xs : List Int) (i : Nat) (h : i < xs.length) : (shiftR xs i).length = xs.length := by
  simp [shiftR]; omega
theorem step_shift {P : Program} {ops : Array Oper} {o : Oper} {a : Act} {w : World} {K : Act → World → Prop} {Q : Exit → Act → World → Prop} {E : Prop} (hgd : o.guard = none) (d s : Operand) (dT sT : TypeId)
    (ho : o.op = .call { callee := .builtin .copy, args := #[d, s], argTypes := #[dT, sT] }) (elem : TypeId) (hu : P.underlying dT = some (.slice elem)) (hsz : (P.info? elem).map (·.size) = some 1)
    (k : IntKind) (base g cap i : Nat) (ok : Nat → Prop) (xs : List Int) (dp : Option Addr) (dcap scap : Nat)
    (hd : a.eval d = .slice dp (xs.length - (i + 1)) dcap) (hs : a.eval s = .slice (some ⟨g, i, none⟩) (xs.length - i) scap)
    (hdp : (if cap = i + 1 then some (⟨g, 0, none⟩ : Addr) else some ⟨g, i + 1, none⟩) = dp)
    (w0 : World) (HO : Kd.R (Kd.int k) elem w base ok (.slice (some ⟨g, 0, none⟩) xs.length cap) xs) (hi : i < xs.length) (HB : Below base w0 w)
    (h : ∀ w' v, Aside0 (Kd.R (Kd.int k) elem w' base ok (.slice (some ⟨g, 0, none⟩) xs.length cap) (shiftR xs i)) → Aside0 (Below base w0 w') → K (a.put o.dst v) w') :
    if Region.wanted o (yielded ops a.tmps) = true then Oper.wp P o a w K Q else E := by
  have hown := Kd.own_of_R HO
  rcases hown.2 with ⟨hv, _⟩ | ⟨g', cap', cur, hv, hb, hh, hnc, hcm, hcs, htake⟩
  · cases hv
  cases hv
  rw [Nat.mul_one] at htake hcs
  have hcl : cur.toList.length = cap := by simpa using hcs
  have hel : (encs (Value.int k) xs).length = xs.length := encs_length ..
  have hget : ∀ j, j < xs.length → w.cell? ⟨g, j, none⟩ = (encs (Value.int k) xs)[j]? := by
    intro j hj
    rw [cell_of_row w g j cur elem (0, 0) hh, ← htake, List.getElem?_take_of_lt hj]
    simp
  have hcsl : (encs (Value.int k) ((xs.drop i).take (xs.length - (i + 1)))).length = xs.length - (i + 1) := by
    rw [encs_length]; simp; omega
  refine step_copy_splice hgd d s dT sT ho elem hu hsz dp (some ⟨g, i, none⟩) (xs.length - (i + 1)) dcap (xs.length - i) scap hd hs g (i + 1) cur.toList elem (by simpa using hh)
    (encs (Value.int k) ((xs.drop i).take (xs.length - (i + 1)))) (by rw [hcsl]; exact (Nat.min_eq_right (by omega)).symm) ?_ (by rw [hcsl, hcl]; omega) (by intro u hu; simp only [encs, List.mem_map] at hu; obtain ⟨q, _, rfl⟩ := hu; rfl) base w0 HB hb ?_
  · intro hp
    rw [hcsl] at hp
    refine ⟨by rw [← hdp, if_neg (by omega)], _, rfl, fun j v hj => ?_⟩
    have hjl : j < xs.length - (i + 1) := by
      rcases Nat.lt_or_ge j (xs.length - (i + 1)) with h | h
      · exact h
      · rw [List.getElem?_eq_none (by rw [hcsl]; exact h)] at hj; cases hj
    rw [Addr.add_lit, hget _ (by omega), ← hj]
    simp [encs, hjl]
  · intro w' hw' hB'
    refine h w' _ ⟨?_⟩ ⟨hB'⟩
    refine Kd.R_of_own ⟨by rw [encs_length]; omega, .inr ⟨g, cap, _, by rw [shiftR_length xs i hi], hb, hw'.out, by rw [shiftR_length xs i hi]; exact hnc, hcm, ?_, ?_⟩⟩ HO.1
    · rw [Nat.mul_one, List.size_toArray, length_splice _ _ _ (by rw [hcsl, hcl]; omega), hcl]
    · rw [Nat.mul_one, shiftR_length xs i hi]
      unfold splice
      have e1 : cur.toList.take (i + 1) = (encs (Value.int k) xs).take (i + 1) := by rw [← htake, List.take_take, Nat.min_eq_left (by omega)]
      rw [e1, ← List.append_assoc, List.take_left' (by rw [List.length_append, List.length_take, hcsl, hel]; omega)]
      simp [shiftR, encs]
end Go.Proofs.Ytmgjohlaoflebaa.Sb
