/- The law FieldSums as a Lean function, and its walk. (Made by this session's own program out of what the kit's print wrote; no text of the print.) -/
import Derived.Test.YtpdlbiahfmidoaaFb0
import Derived.Test.YtpdlbiahfmidoaaFb6
import Derived.Test.YtpdlbiahfmidoaaFb7
import Derived.Test.YtpdlbiahfmidoaaFb8
import Derived.Test.YtpdlbiahfmidoaaFb10
import Derived.Test.YtpdlbiahfmidoaaFb11
namespace Go.Proofs.Ytpdlbiahfmidoaa.Fb
open Go.RowKit Go.Proofs.YtpdlbiahfmidoaaW.PrintWords Go.Proofs.YtpdlbiahfmidoaaW.PrintLast Go.Proofs.YtpdlbiahfmidoaaW.PrintMore
attribute [local go_sem] max2_int min2_int max_two min_two max_three min_three max_four min_four   -- for this text's walks alone
set_option linter.unusedVariables false
set_option linter.unusedSimpArgs false

/-! ### juntolaw01_FieldSums: function 10 -/
def juntolaw01_FieldSums.f (k : Nat) (a0 : Int) (a1 : Int) (a2 : Int) : Option (Bool) := (juntoref01_Right.f k a0 (([a1, a2] : List Int))).bind fun t205 => ((field_Add.f k a0 a1 a2).bind fun bt206 => ((field_Sub.f k a0 a1 a2).bind fun bt208 => ((field_Mul.f k a0 a1 a2).bind fun bt210 => (if t205 = 0 then ((juntoref01_Add.f a0 a1 a2).bind fun t216 => ((juntolaw01_is.f bt206.1 bt206.2 t216 t205).bind fun t217 => (if t217 = true then ((juntoref01_Sub.f a0 a1 a2).bind fun t218 => ((juntolaw01_is.f bt208.1 bt208.2 t218 t205).bind fun t219 => (if t219 = true then ((juntoref01_Mul.f a0 a1 a2).bind fun t220 => ((juntolaw01_is.f bt210.1 bt210.2 t220 t205).bind fun t221 => (some t221))) else (none)))) else (none)))) else ((juntolaw01_is.f bt206.1 bt206.2 0 t205).bind fun t212 => (if t212 = true then ((juntolaw01_is.f bt208.1 bt208.2 0 t205).bind fun t213 => (if t213 = true then ((juntolaw01_is.f bt210.1 bt210.2 0 t205).bind fun t214 => (if t214 = true then ((juntolaw01_alive.f k).bind fun t215 => (some t215)) else (none))) else (none))) else (none)))))))
theorem juntolaw01_FieldSums.mono : ∀ a0 a1 a2 k, LeO (juntolaw01_FieldSums.f k a0 a1 a2) (juntolaw01_FieldSums.f (k + 1) a0 a1 a2) := by
  intro a0 a1 a2 k
  unfold juntolaw01_FieldSums.f
  repeat' first
      | (with_reducible exact field_Add.mono _ _ _ _)
      | (with_reducible exact field_Mul.mono _ _ _ _)
      | (with_reducible exact field_Sub.mono _ _ _ _)
      | (with_reducible exact juntolaw01_alive.mono _)
      | (with_reducible exact juntoref01_Right.mono _ _ _)
      | (with_reducible exact LeO.refl _)
      | (with_reducible exact LeO.none _)
      | (with_reducible refine LeO.ite ?_ ?_)
      | (with_reducible refine LeO.bind ?_ (fun _ => ?_))
      | exact field_Add.mono _ _ _ _
      | exact field_Mul.mono _ _ _ _
      | exact field_Sub.mono _ _ _ _
      | exact juntolaw01_alive.mono _
      | exact juntoref01_Right.mono _ _ _
      | exact LeO.none _
      | refine LeO.ite ?_ ?_
      | refine LeO.bind ?_ (fun _ => ?_)
set_option maxHeartbeats 8000000 in
set_option maxRecDepth 100000 in
theorem juntolaw01_FieldSums.calls (k : Nat) (a0 : Int) (a1 : Int) (a2 : Int) (r : Bool) (w : World) (h : juntolaw01_FieldSums.f k a0 a1 a2 = some r) :
    Calls Try.prog 10 #[.int .u64 a0, .int .u64 a1, .int .u64 a2] w fun e w' => e = .returned (.bool r) ∧ Below w.heap.size w w' := by
  have HB := Aside0.mk (Below.refl w.heap.size w)
  have H : ((juntoref01_Right.f k a0 (([a1, a2] : List Int))).bind fun t205 => ((field_Add.f k a0 a1 a2).bind fun bt206 => ((field_Sub.f k a0 a1 a2).bind fun bt208 => ((field_Mul.f k a0 a1 a2).bind fun bt210 => (if t205 = 0 then ((juntoref01_Add.f a0 a1 a2).bind fun t216 => ((juntolaw01_is.f bt206.1 bt206.2 t216 t205).bind fun t217 => (if t217 = true then ((juntoref01_Sub.f a0 a1 a2).bind fun t218 => ((juntolaw01_is.f bt208.1 bt208.2 t218 t205).bind fun t219 => (if t219 = true then ((juntoref01_Mul.f a0 a1 a2).bind fun t220 => ((juntolaw01_is.f bt210.1 bt210.2 t220 t205).bind fun t221 => (some t221))) else (none)))) else (none)))) else ((juntolaw01_is.f bt206.1 bt206.2 0 t205).bind fun t212 => (if t212 = true then ((juntolaw01_is.f bt208.1 bt208.2 0 t205).bind fun t213 => (if t213 = true then ((juntolaw01_is.f bt210.1 bt210.2 0 t205).bind fun t214 => (if t214 = true then ((juntolaw01_alive.f k).bind fun t215 => (some t215)) else (none))) else (none))) else (none)))))))) = some r := h
  clear h
  obtain ⟨y202, hy202⟩ : ∃ y_ : List Int, y_ = (([a1, a2] : List Int)) := ⟨_, rfl⟩
  replace H : ((juntoref01_Right.f k a0 y202).bind fun t205 => ((field_Add.f k a0 a1 a2).bind fun bt206 => ((field_Sub.f k a0 a1 a2).bind fun bt208 => ((field_Mul.f k a0 a1 a2).bind fun bt210 => (if t205 = 0 then ((juntoref01_Add.f a0 a1 a2).bind fun t216 => ((juntolaw01_is.f bt206.1 bt206.2 t216 t205).bind fun t217 => (if t217 = true then ((juntoref01_Sub.f a0 a1 a2).bind fun t218 => ((juntolaw01_is.f bt208.1 bt208.2 t218 t205).bind fun t219 => (if t219 = true then ((juntoref01_Mul.f a0 a1 a2).bind fun t220 => ((juntolaw01_is.f bt210.1 bt210.2 t220 t205).bind fun t221 => (some t221))) else (none)))) else (none)))) else ((juntolaw01_is.f bt206.1 bt206.2 0 t205).bind fun t212 => (if t212 = true then ((juntolaw01_is.f bt208.1 bt208.2 0 t205).bind fun t213 => (if t213 = true then ((juntolaw01_is.f bt210.1 bt210.2 0 t205).bind fun t214 => (if t214 = true then ((juntolaw01_alive.f k).bind fun t215 => (some t215)) else (none))) else (none))) else (none)))))))) = some r := by first | (rw [hy202]; with_reducible exact H) | (have H2_ := (Option.bind_some _ _).symm.trans H; rw [hy202]; with_reducible exact H2_) | (have H2_ := (Option.bind_some _ _).symm.trans H; with_reducible exact H2_) | with_reducible exact H | (rw [hy202]; exact H) | exact H
  have Ny202 := Aside0.mk hy202
  clear hy202
  replace H := Option.bind_eq_some_iff.mp H
  obtain ⟨t205, A40, H⟩ := H
  replace H : ((field_Add.f k a0 a1 a2).bind fun bt206 => ((field_Sub.f k a0 a1 a2).bind fun bt208 => ((field_Mul.f k a0 a1 a2).bind fun bt210 => (if t205 = 0 then ((juntoref01_Add.f a0 a1 a2).bind fun t216 => ((juntolaw01_is.f bt206.1 bt206.2 t216 t205).bind fun t217 => (if t217 = true then ((juntoref01_Sub.f a0 a1 a2).bind fun t218 => ((juntolaw01_is.f bt208.1 bt208.2 t218 t205).bind fun t219 => (if t219 = true then ((juntoref01_Mul.f a0 a1 a2).bind fun t220 => ((juntolaw01_is.f bt210.1 bt210.2 t220 t205).bind fun t221 => (some t221))) else (none)))) else (none)))) else ((juntolaw01_is.f bt206.1 bt206.2 0 t205).bind fun t212 => (if t212 = true then ((juntolaw01_is.f bt208.1 bt208.2 0 t205).bind fun t213 => (if t213 = true then ((juntolaw01_is.f bt210.1 bt210.2 0 t205).bind fun t214 => (if t214 = true then ((juntolaw01_alive.f k).bind fun t215 => (some t215)) else (none))) else (none))) else (none))))))) = some r := H
  have A4 := Aside0.mk A40
  clear A40
  replace H := Option.bind_eq_some_iff.mp H
  obtain ⟨⟨t206, t207⟩, A50, H⟩ := H
  replace H : ((field_Sub.f k a0 a1 a2).bind fun bt208 => ((field_Mul.f k a0 a1 a2).bind fun bt210 => (if t205 = 0 then ((juntoref01_Add.f a0 a1 a2).bind fun t216 => ((juntolaw01_is.f t206 t207 t216 t205).bind fun t217 => (if t217 = true then ((juntoref01_Sub.f a0 a1 a2).bind fun t218 => ((juntolaw01_is.f bt208.1 bt208.2 t218 t205).bind fun t219 => (if t219 = true then ((juntoref01_Mul.f a0 a1 a2).bind fun t220 => ((juntolaw01_is.f bt210.1 bt210.2 t220 t205).bind fun t221 => (some t221))) else (none)))) else (none)))) else ((juntolaw01_is.f t206 t207 0 t205).bind fun t212 => (if t212 = true then ((juntolaw01_is.f bt208.1 bt208.2 0 t205).bind fun t213 => (if t213 = true then ((juntolaw01_is.f bt210.1 bt210.2 0 t205).bind fun t214 => (if t214 = true then ((juntolaw01_alive.f k).bind fun t215 => (some t215)) else (none))) else (none))) else (none)))))) = some r := H
  have A5 := Aside0.mk A50
  clear A50
  replace H := Option.bind_eq_some_iff.mp H
  obtain ⟨⟨t208, t209⟩, A60, H⟩ := H
  replace H : ((field_Mul.f k a0 a1 a2).bind fun bt210 => (if t205 = 0 then ((juntoref01_Add.f a0 a1 a2).bind fun t216 => ((juntolaw01_is.f t206 t207 t216 t205).bind fun t217 => (if t217 = true then ((juntoref01_Sub.f a0 a1 a2).bind fun t218 => ((juntolaw01_is.f t208 t209 t218 t205).bind fun t219 => (if t219 = true then ((juntoref01_Mul.f a0 a1 a2).bind fun t220 => ((juntolaw01_is.f bt210.1 bt210.2 t220 t205).bind fun t221 => (some t221))) else (none)))) else (none)))) else ((juntolaw01_is.f t206 t207 0 t205).bind fun t212 => (if t212 = true then ((juntolaw01_is.f t208 t209 0 t205).bind fun t213 => (if t213 = true then ((juntolaw01_is.f bt210.1 bt210.2 0 t205).bind fun t214 => (if t214 = true then ((juntolaw01_alive.f k).bind fun t215 => (some t215)) else (none))) else (none))) else (none))))) = some r := H
  have A6 := Aside0.mk A60
  clear A60
  replace H := Option.bind_eq_some_iff.mp H
  obtain ⟨⟨t210, t211⟩, A70, H⟩ := H
  replace H : (if t205 = 0 then ((juntoref01_Add.f a0 a1 a2).bind fun t216 => ((juntolaw01_is.f t206 t207 t216 t205).bind fun t217 => (if t217 = true then ((juntoref01_Sub.f a0 a1 a2).bind fun t218 => ((juntolaw01_is.f t208 t209 t218 t205).bind fun t219 => (if t219 = true then ((juntoref01_Mul.f a0 a1 a2).bind fun t220 => ((juntolaw01_is.f t210 t211 t220 t205).bind fun t221 => (some t221))) else (none)))) else (none)))) else ((juntolaw01_is.f t206 t207 0 t205).bind fun t212 => (if t212 = true then ((juntolaw01_is.f t208 t209 0 t205).bind fun t213 => (if t213 = true then ((juntolaw01_is.f t210 t211 0 t205).bind fun t214 => (if t214 = true then ((juntolaw01_alive.f k).bind fun t215 => (some t215)) else (none))) else (none))) else (none)))) = some r := H
  have A7 := Aside0.mk A70
  clear A70
  by_cases c8 : t205 = 0
  · rw [if_pos c8] at H
    have c8b0 : (t205 == 0) = true := beq_iff_eq.mpr c8
    have c8b1 : (t205 != 0) = false := bne_eq_false_iff_eq.mpr c8
    clear c8
    replace H := Option.bind_eq_some_iff.mp H
    obtain ⟨t216, A90, H⟩ := H
    replace H : ((juntolaw01_is.f t206 t207 t216 t205).bind fun t217 => (if t217 = true then ((juntoref01_Sub.f a0 a1 a2).bind fun t218 => ((juntolaw01_is.f t208 t209 t218 t205).bind fun t219 => (if t219 = true then ((juntoref01_Mul.f a0 a1 a2).bind fun t220 => ((juntolaw01_is.f t210 t211 t220 t205).bind fun t221 => (some t221))) else (none)))) else (none))) = some r := H
    have A9 := Aside0.mk A90
    clear A90
    replace H := Option.bind_eq_some_iff.mp H
    obtain ⟨t217, A100, H⟩ := H
    replace H : (if t217 = true then ((juntoref01_Sub.f a0 a1 a2).bind fun t218 => ((juntolaw01_is.f t208 t209 t218 t205).bind fun t219 => (if t219 = true then ((juntoref01_Mul.f a0 a1 a2).bind fun t220 => ((juntolaw01_is.f t210 t211 t220 t205).bind fun t221 => (some t221))) else (none)))) else (none)) = some r := H
    have A10 := Aside0.mk A100
    clear A100
    by_cases c11 : t217 = true
    · subst c11
      have H1 : ((juntoref01_Sub.f a0 a1 a2).bind fun t218 => ((juntolaw01_is.f t208 t209 t218 t205).bind fun t219 => (if t219 = true then ((juntoref01_Mul.f a0 a1 a2).bind fun t220 => ((juntolaw01_is.f t210 t211 t220 t205).bind fun t221 => (some t221))) else (none)))) = some r := by rw [if_pos rfl] at H; exact H
      clear H
      have H := H1
      clear H1
      replace H := Option.bind_eq_some_iff.mp H
      obtain ⟨t218, A120, H⟩ := H
      replace H : ((juntolaw01_is.f t208 t209 t218 t205).bind fun t219 => (if t219 = true then ((juntoref01_Mul.f a0 a1 a2).bind fun t220 => ((juntolaw01_is.f t210 t211 t220 t205).bind fun t221 => (some t221))) else (none))) = some r := H
      have A12 := Aside0.mk A120
      clear A120
      replace H := Option.bind_eq_some_iff.mp H
      obtain ⟨t219, A130, H⟩ := H
      replace H : (if t219 = true then ((juntoref01_Mul.f a0 a1 a2).bind fun t220 => ((juntolaw01_is.f t210 t211 t220 t205).bind fun t221 => (some t221))) else (none)) = some r := H
      have A13 := Aside0.mk A130
      clear A130
      by_cases c14 : t219 = true
      · subst c14
        have H1 : ((juntoref01_Mul.f a0 a1 a2).bind fun t220 => ((juntolaw01_is.f t210 t211 t220 t205).bind fun t221 => (some t221))) = some r := by rw [if_pos rfl] at H; exact H
        clear H
        have H := H1
        clear H1
        replace H := Option.bind_eq_some_iff.mp H
        obtain ⟨t220, A150, H⟩ := H
        replace H : ((juntolaw01_is.f t210 t211 t220 t205).bind fun t221 => (some t221)) = some r := H
        have A15 := Aside0.mk A150
        clear A150
        replace H := Option.bind_eq_some_iff.mp H
        obtain ⟨t221, A160, H⟩ := H
        replace H : (some t221) = some r := H
        have A16 := Aside0.mk A160
        clear A160
        obtain rfl := Option.some.inj H
        go_enter Try.func10, Try.ntmps10
        go_wp2_with (first | ((with_reducible refine gate_dst (N := 17) rfl ?_); refine Kd.R_lit (Kd.int .u64) _ 22 ?hg (N := 17) ?hd (xs := ([a1, a2] : List Int)) (inner := [.int .u64 a1, .int .u64 a2]) (ok := fun _ => True) (okp := fun _ => True) ?hr ?hp (fun _ hk => hk) trivial (Below.refl _ _) (Nat.le_refl _) (by simp) ?_; (case hd => rfl); (case hg => rfl); (case hr => first | (go_simp; done) | (go_simp; rfl)); (case hp => exact (Reps.one (show Kd.M (Kd.int .u64) _ _ _ a1 [.int .u64 a1] from rfl) (Reps.one (show Kd.M (Kd.int .u64) _ _ _ a2 [.int .u64 a2] from rfl) (Reps.none _ _)))); intro v203 w17 ho18 hb hg_ hnew_; clear hg_ hnew_; (first | rw [← Ny202.out] at ho18 | (simp only [Int.reduceToNat] at ho18; rw [← Ny202.out] at ho18)); have n0_ := Aside0.mk (Kd.R_lower ho18 (below_size (by repeat (first | (with_reducible first | exact HB.out | apply below_alloc | apply pw_below_drewN | apply below_drew1) | exact HB.out)))); have n1_ := Aside0.mk (below_step (by repeat (first | (with_reducible first | exact HB.out | apply below_alloc | apply pw_below_drewN | apply below_drew1) | exact HB.out)) hb); clear HB; have HO204 := n0_; have HB := n1_; clear n0_ n1_; clear hb ho18; obtain ⟨Ao19, co19, eo19⟩ := Kd.R_slice HO204.out; subst eo19) | ((with_reducible refine gate_callee (f := 25) rfl ?_); refine goesL_ (some 18) rfl rfl Try.func25 (by kernel_rfl) rfl #[.int .u64 a0, .slice Ao19 y202.length co19] rfl (by (try simp only [List.map_toArray, List.map_cons, List.map_nil]); first | done | rfl | (simp only [List.length_drop, List.length_take]; rfl)) ?_; (with_reducible refine (juntoref01_Right.calls k a0 _ _ y202 t205 _ ?side1 ?side2 A4.out).mono ?_); (case side1 => repeat (first | exact (Kd.R_reads' HO204.out).2.2 | (with_reducible refine Kd.C_alloc ?_ _) | (with_reducible refine Kd.C_drewN ?_ _) | (with_reducible refine Kd.C_drew ?_))); (case side2 => exact (Kd.R_reads' HO204.out).2.1); rintro e w' ⟨rfl, ⟨nd, rfl⟩⟩; refine ⟨_, rfl, ?_⟩) | ((with_reducible refine gate_callee (f := 34) rfl ?_); refine goesL_ (some 23) rfl rfl Try.func34 (by kernel_rfl) rfl #[.int .u64 a0, .int .u64 a1, .int .u64 a2] rfl (by (try simp only [List.map_toArray, List.map_cons, List.map_nil]); first | done | rfl | (simp only [List.length_drop, List.length_take]; rfl)) ?_; (with_reducible refine (field_Add.calls k a0 a1 a2 t206 t207 _ A5.out).mono ?_); rintro e w20 ⟨rfl, hb⟩; refine ⟨_, rfl, ?_⟩; have n0_ := Aside0.mk (Kd.R_below (by (with_reducible repeat (first | apply Kd.R_alloc | apply Kd.R_drewN | apply Kd.R_drew)); exact HO204.out) hb); have n1_ := Aside0.mk (below_step (by repeat (first | (with_reducible first | exact HB.out | apply below_alloc | apply pw_below_drewN | apply below_drew1) | exact HB.out)) hb); clear HO204; clear HB; have HO204 := n0_; have HB := n1_; clear n0_ n1_; (try clear hb); (try clear hb2); (try clear hk); (try clear hi)) | ((with_reducible refine gate_callee (f := 35) rfl ?_); refine goesL_ (some 30) rfl rfl Try.func35 (by kernel_rfl) rfl #[.int .u64 a0, .int .u64 a1, .int .u64 a2] rfl (by (try simp only [List.map_toArray, List.map_cons, List.map_nil]); first | done | rfl | (simp only [List.length_drop, List.length_take]; rfl)) ?_; (with_reducible refine (field_Sub.calls k a0 a1 a2 t208 t209 _ A6.out).mono ?_); rintro e w21 ⟨rfl, hb⟩; refine ⟨_, rfl, ?_⟩; have n0_ := Aside0.mk (Kd.R_below (by (with_reducible repeat (first | apply Kd.R_alloc | apply Kd.R_drewN | apply Kd.R_drew)); exact HO204.out) hb); have n1_ := Aside0.mk (below_step (by repeat (first | (with_reducible first | exact HB.out | apply below_alloc | apply pw_below_drewN | apply below_drew1) | exact HB.out)) hb); clear HO204; clear HB; have HO204 := n0_; have HB := n1_; clear n0_ n1_; (try clear hb); (try clear hb2); (try clear hk); (try clear hi)) | ((with_reducible refine gate_callee (f := 36) rfl ?_); refine goesL_ (some 37) rfl rfl Try.func36 (by kernel_rfl) rfl #[.int .u64 a0, .int .u64 a1, .int .u64 a2] rfl (by (try simp only [List.map_toArray, List.map_cons, List.map_nil]); first | done | rfl | (simp only [List.length_drop, List.length_take]; rfl)) ?_; (with_reducible refine (field_Mul.calls k a0 a1 a2 t210 t211 _ A7.out).mono ?_); rintro e w22 ⟨rfl, hb⟩; refine ⟨_, rfl, ?_⟩; have n0_ := Aside0.mk (Kd.R_below (by (with_reducible repeat (first | apply Kd.R_alloc | apply Kd.R_drewN | apply Kd.R_drew)); exact HO204.out) hb); have n1_ := Aside0.mk (below_step (by repeat (first | (with_reducible first | exact HB.out | apply below_alloc | apply pw_below_drewN | apply below_drew1) | exact HB.out)) hb); clear HO204; clear HB; have HO204 := n0_; have HB := n1_; clear n0_ n1_; (try clear hb); (try clear hb2); (try clear hk); (try clear hi)) | ((with_reducible refine gate_callee (f := 37) rfl ?_); refine goesL_ (some 66) rfl rfl Try.func37 (by kernel_rfl) rfl #[.int .u64 a0, .int .u64 a1, .int .u64 a2] rfl (by (try simp only [List.map_toArray, List.map_cons, List.map_nil]); first | done | rfl | (simp only [List.length_drop, List.length_take]; rfl)) ?_; (with_reducible refine (juntoref01_Add.calls a0 a1 a2 t216 _ A9.out).mono ?_); rintro e w' ⟨rfl, ⟨nd, rfl⟩⟩; refine ⟨_, rfl, ?_⟩) | ((with_reducible refine gate_callee (f := 19) rfl ?_); refine goesL_ (some 68) rfl rfl Try.func19 (by kernel_rfl) rfl #[.int .u64 t206, .int .i64 t207, .int .u64 t216, .int .i64 t205] rfl (by (try simp only [List.map_toArray, List.map_cons, List.map_nil]); first | done | rfl | (simp only [List.length_drop, List.length_take]; rfl)) ?_; (with_reducible refine (juntolaw01_is.calls t206 t207 t216 t205 true _ A10.out).mono ?_); rintro e w' ⟨rfl, ⟨nd, rfl⟩⟩; refine ⟨_, rfl, ?_⟩) | (go_at_call 38; (with_reducible refine (juntoref01_Sub.calls a0 a1 a2 t218 _ A12.out).mono ?_); rintro e w' ⟨rfl, ⟨nd, rfl⟩⟩) | (go_at_call 19; (with_reducible refine (juntolaw01_is.calls t208 t209 t218 t205 true _ A13.out).mono ?_); rintro e w' ⟨rfl, ⟨nd, rfl⟩⟩) | (go_at_call 33; (with_reducible refine (juntoref01_Mul.calls a0 a1 a2 t220 _ A15.out).mono ?_); rintro e w' ⟨rfl, ⟨nd, rfl⟩⟩) | (go_at_call 19; (with_reducible refine (juntolaw01_is.calls t210 t211 t220 t205 t221 _ A16.out).mono ?_); rintro e w' ⟨rfl, ⟨nd, rfl⟩⟩))
        go_ret
        exact ⟨by first | rfl | (simp [errW_none, errW_some] <;> rfl) | (simp [*, errW_none, errW_some] <;> rfl), by repeat (first | (with_reducible first | exact HB.out | apply below_alloc | apply pw_below_drewN | apply below_drew1) | exact HB.out)⟩
      · replace c14 := Bool.eq_false_iff.mpr c14
        subst c14
        have H1 : (none) = some r := by rw [if_neg (show ¬ (false = true) by decide)] at H; exact H
        clear H
        have H := H1
        clear H1
        exact absurd H (by simp)
    · replace c11 := Bool.eq_false_iff.mpr c11
      subst c11
      have H1 : (none) = some r := by rw [if_neg (show ¬ (false = true) by decide)] at H; exact H
      clear H
      have H := H1
      clear H1
      exact absurd H (by simp)
  · rw [if_neg c8] at H
    have c8b0 : (t205 == 0) = false := beq_eq_false_iff_ne.mpr c8
    have c8b1 : (t205 != 0) = true := bne_iff_ne.mpr c8
    replace H := Option.bind_eq_some_iff.mp H
    obtain ⟨t212, A230, H⟩ := H
    replace H : (if t212 = true then ((juntolaw01_is.f t208 t209 0 t205).bind fun t213 => (if t213 = true then ((juntolaw01_is.f t210 t211 0 t205).bind fun t214 => (if t214 = true then ((juntolaw01_alive.f k).bind fun t215 => (some t215)) else (none))) else (none))) else (none)) = some r := H
    have A23 := Aside0.mk A230
    clear A230
    by_cases c24 : t212 = true
    · subst c24
      have H1 : ((juntolaw01_is.f t208 t209 0 t205).bind fun t213 => (if t213 = true then ((juntolaw01_is.f t210 t211 0 t205).bind fun t214 => (if t214 = true then ((juntolaw01_alive.f k).bind fun t215 => (some t215)) else (none))) else (none))) = some r := by rw [if_pos rfl] at H; exact H
      clear H
      have H := H1
      clear H1
      replace H := Option.bind_eq_some_iff.mp H
      obtain ⟨t213, A250, H⟩ := H
      replace H : (if t213 = true then ((juntolaw01_is.f t210 t211 0 t205).bind fun t214 => (if t214 = true then ((juntolaw01_alive.f k).bind fun t215 => (some t215)) else (none))) else (none)) = some r := H
      have A25 := Aside0.mk A250
      clear A250
      by_cases c26 : t213 = true
      · subst c26
        have H1 : ((juntolaw01_is.f t210 t211 0 t205).bind fun t214 => (if t214 = true then ((juntolaw01_alive.f k).bind fun t215 => (some t215)) else (none))) = some r := by rw [if_pos rfl] at H; exact H
        clear H
        have H := H1
        clear H1
        replace H := Option.bind_eq_some_iff.mp H
        obtain ⟨t214, A270, H⟩ := H
        replace H : (if t214 = true then ((juntolaw01_alive.f k).bind fun t215 => (some t215)) else (none)) = some r := H
        have A27 := Aside0.mk A270
        clear A270
        by_cases c28 : t214 = true
        · subst c28
          have H1 : ((juntolaw01_alive.f k).bind fun t215 => (some t215)) = some r := by rw [if_pos rfl] at H; exact H
          clear H
          have H := H1
          clear H1
          replace H := Option.bind_eq_some_iff.mp H
          obtain ⟨t215, A290, H⟩ := H
          replace H : (some t215) = some r := H
          have A29 := Aside0.mk A290
          clear A290
          obtain rfl := Option.some.inj H
          go_enter Try.func10, Try.ntmps10
          go_wp2_with (first | ((with_reducible refine gate_dst (N := 17) rfl ?_); refine Kd.R_lit (Kd.int .u64) _ 22 ?hg (N := 17) ?hd (xs := ([a1, a2] : List Int)) (inner := [.int .u64 a1, .int .u64 a2]) (ok := fun _ => True) (okp := fun _ => True) ?hr ?hp (fun _ hk => hk) trivial (Below.refl _ _) (Nat.le_refl _) (by simp) ?_; (case hd => rfl); (case hg => rfl); (case hr => first | (go_simp; done) | (go_simp; rfl)); (case hp => exact (Reps.one (show Kd.M (Kd.int .u64) _ _ _ a1 [.int .u64 a1] from rfl) (Reps.one (show Kd.M (Kd.int .u64) _ _ _ a2 [.int .u64 a2] from rfl) (Reps.none _ _)))); intro v203 w30 ho31 hb hg_ hnew_; clear hg_ hnew_; (first | rw [← Ny202.out] at ho31 | (simp only [Int.reduceToNat] at ho31; rw [← Ny202.out] at ho31)); have n0_ := Aside0.mk (Kd.R_lower ho31 (below_size (by repeat (first | (with_reducible first | exact HB.out | apply below_alloc | apply pw_below_drewN | apply below_drew1) | exact HB.out)))); have n1_ := Aside0.mk (below_step (by repeat (first | (with_reducible first | exact HB.out | apply below_alloc | apply pw_below_drewN | apply below_drew1) | exact HB.out)) hb); clear HB; have HO204 := n0_; have HB := n1_; clear n0_ n1_; clear hb ho31; obtain ⟨Ao32, co32, eo32⟩ := Kd.R_slice HO204.out; subst eo32) | ((with_reducible refine gate_callee (f := 25) rfl ?_); refine goesL_ (some 18) rfl rfl Try.func25 (by kernel_rfl) rfl #[.int .u64 a0, .slice Ao32 y202.length co32] rfl (by (try simp only [List.map_toArray, List.map_cons, List.map_nil]); first | done | rfl | (simp only [List.length_drop, List.length_take]; rfl)) ?_; (with_reducible refine (juntoref01_Right.calls k a0 _ _ y202 t205 _ ?side1 ?side2 A4.out).mono ?_); (case side1 => repeat (first | exact (Kd.R_reads' HO204.out).2.2 | (with_reducible refine Kd.C_alloc ?_ _) | (with_reducible refine Kd.C_drewN ?_ _) | (with_reducible refine Kd.C_drew ?_))); (case side2 => exact (Kd.R_reads' HO204.out).2.1); rintro e w' ⟨rfl, ⟨nd, rfl⟩⟩; refine ⟨_, rfl, ?_⟩) | ((with_reducible refine gate_callee (f := 34) rfl ?_); refine goesL_ (some 23) rfl rfl Try.func34 (by kernel_rfl) rfl #[.int .u64 a0, .int .u64 a1, .int .u64 a2] rfl (by (try simp only [List.map_toArray, List.map_cons, List.map_nil]); first | done | rfl | (simp only [List.length_drop, List.length_take]; rfl)) ?_; (with_reducible refine (field_Add.calls k a0 a1 a2 t206 t207 _ A5.out).mono ?_); rintro e w33 ⟨rfl, hb⟩; refine ⟨_, rfl, ?_⟩; have n0_ := Aside0.mk (Kd.R_below (by (with_reducible repeat (first | apply Kd.R_alloc | apply Kd.R_drewN | apply Kd.R_drew)); exact HO204.out) hb); have n1_ := Aside0.mk (below_step (by repeat (first | (with_reducible first | exact HB.out | apply below_alloc | apply pw_below_drewN | apply below_drew1) | exact HB.out)) hb); clear HO204; clear HB; have HO204 := n0_; have HB := n1_; clear n0_ n1_; (try clear hb); (try clear hb2); (try clear hk); (try clear hi)) | ((with_reducible refine gate_callee (f := 35) rfl ?_); refine goesL_ (some 30) rfl rfl Try.func35 (by kernel_rfl) rfl #[.int .u64 a0, .int .u64 a1, .int .u64 a2] rfl (by (try simp only [List.map_toArray, List.map_cons, List.map_nil]); first | done | rfl | (simp only [List.length_drop, List.length_take]; rfl)) ?_; (with_reducible refine (field_Sub.calls k a0 a1 a2 t208 t209 _ A6.out).mono ?_); rintro e w34 ⟨rfl, hb⟩; refine ⟨_, rfl, ?_⟩; have n0_ := Aside0.mk (Kd.R_below (by (with_reducible repeat (first | apply Kd.R_alloc | apply Kd.R_drewN | apply Kd.R_drew)); exact HO204.out) hb); have n1_ := Aside0.mk (below_step (by repeat (first | (with_reducible first | exact HB.out | apply below_alloc | apply pw_below_drewN | apply below_drew1) | exact HB.out)) hb); clear HO204; clear HB; have HO204 := n0_; have HB := n1_; clear n0_ n1_; (try clear hb); (try clear hb2); (try clear hk); (try clear hi)) | ((with_reducible refine gate_callee (f := 36) rfl ?_); refine goesL_ (some 37) rfl rfl Try.func36 (by kernel_rfl) rfl #[.int .u64 a0, .int .u64 a1, .int .u64 a2] rfl (by (try simp only [List.map_toArray, List.map_cons, List.map_nil]); first | done | rfl | (simp only [List.length_drop, List.length_take]; rfl)) ?_; (with_reducible refine (field_Mul.calls k a0 a1 a2 t210 t211 _ A7.out).mono ?_); rintro e w35 ⟨rfl, hb⟩; refine ⟨_, rfl, ?_⟩; have n0_ := Aside0.mk (Kd.R_below (by (with_reducible repeat (first | apply Kd.R_alloc | apply Kd.R_drewN | apply Kd.R_drew)); exact HO204.out) hb); have n1_ := Aside0.mk (below_step (by repeat (first | (with_reducible first | exact HB.out | apply below_alloc | apply pw_below_drewN | apply below_drew1) | exact HB.out)) hb); clear HO204; clear HB; have HO204 := n0_; have HB := n1_; clear n0_ n1_; (try clear hb); (try clear hb2); (try clear hk); (try clear hi)) | ((with_reducible refine gate_callee (f := 19) rfl ?_); refine goesL_ (some 45) rfl rfl Try.func19 (by kernel_rfl) rfl #[.int .u64 t206, .int .i64 t207, .int .u64 0, .int .i64 t205] rfl (by (try simp only [List.map_toArray, List.map_cons, List.map_nil]); first | done | rfl | (simp only [List.length_drop, List.length_take]; rfl)) ?_; (with_reducible refine (juntolaw01_is.calls t206 t207 0 t205 true _ A23.out).mono ?_); rintro e w' ⟨rfl, ⟨nd, rfl⟩⟩; refine ⟨_, rfl, ?_⟩) | (go_at_call 19; (with_reducible refine (juntolaw01_is.calls t208 t209 0 t205 true _ A25.out).mono ?_); rintro e w' ⟨rfl, ⟨nd, rfl⟩⟩) | (go_at_call 19; (with_reducible refine (juntolaw01_is.calls t210 t211 0 t205 true _ A27.out).mono ?_); rintro e w' ⟨rfl, ⟨nd, rfl⟩⟩) | (go_at_call 17; (with_reducible refine (juntolaw01_alive.calls k  t215 _ A29.out).mono ?_); rintro e w36 ⟨rfl, hb⟩; have n0_ := Aside0.mk (Kd.R_below (by (with_reducible repeat (first | apply Kd.R_alloc | apply Kd.R_drewN | apply Kd.R_drew)); exact HO204.out) hb); have n1_ := Aside0.mk (below_step (by repeat (first | (with_reducible first | exact HB.out | apply below_alloc | apply pw_below_drewN | apply below_drew1) | exact HB.out)) hb); clear HO204; clear HB; have HO204 := n0_; have HB := n1_; clear n0_ n1_; (try clear hb); (try clear hb2); (try clear hk); (try clear hi)))
          go_ret
          exact ⟨by first | rfl | (simp [errW_none, errW_some] <;> rfl) | (simp [*, errW_none, errW_some] <;> rfl), by repeat (first | (with_reducible first | exact HB.out | apply below_alloc | apply pw_below_drewN | apply below_drew1) | exact HB.out)⟩
        · replace c28 := Bool.eq_false_iff.mpr c28
          subst c28
          have H1 : (none) = some r := by rw [if_neg (show ¬ (false = true) by decide)] at H; exact H
          clear H
          have H := H1
          clear H1
          exact absurd H (by simp)
      · replace c26 := Bool.eq_false_iff.mpr c26
        subst c26
        have H1 : (none) = some r := by rw [if_neg (show ¬ (false = true) by decide)] at H; exact H
        clear H
        have H := H1
        clear H1
        exact absurd H (by simp)
    · replace c24 := Bool.eq_false_iff.mpr c24
      subst c24
      have H1 : (none) = some r := by rw [if_neg (show ¬ (false = true) by decide)] at H; exact H
      clear H
      have H := H1
      clear H1
      exact absurd H (by simp)

/-- THE ONE PURE STATEMENT of juntolaw01_FieldSums: yours. -/
def juntolaw01_FieldSums.Pure : Prop := ∀ (a0 : Int) (a1 : Int) (a2 : Int), (Lit.int .u64 a0).wf = true → (Lit.int .u64 a1).wf = true → (Lit.int .u64 a2).wf = true → ∃ k, juntolaw01_FieldSums.f k a0 a1 a2 = some true
theorem juntolaw01_FieldSums.walk (P : juntolaw01_FieldSums.Pure) (a0 : Int) (a1 : Int) (a2 : Int) (w : World) (w0 : (Lit.int .u64 a0).wf = true) (w1 : (Lit.int .u64 a1).wf = true) (w2 : (Lit.int .u64 a2).wf = true) :
    Calls Try.prog 10 #[.int .u64 a0, .int .u64 a1, .int .u64 a2] w fun e w' => e = .returned (.bool true) ∧ Below w.heap.size w w' := by
  obtain ⟨k, h⟩ := P a0 a1 a2 w0 w1 w2
  refine (juntolaw01_FieldSums.calls k a0 a1 a2 true w h).mono ?_
  rintro e w' ⟨rfl, hd⟩
  exact ⟨rfl, hd⟩

end Go.Proofs.Ytpdlbiahfmidoaa.Fb
