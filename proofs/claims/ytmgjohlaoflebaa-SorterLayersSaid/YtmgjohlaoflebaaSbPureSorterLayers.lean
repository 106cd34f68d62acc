/- SorterLayers: the plain law. -/
import Derived.Test.YtmgjohlaoflebaaSbTie7
import Derived.Test.YtmgjohlaoflebaaSbLSorterLayers
namespace Go.Proofs.Ytmgjohlaoflebaa.Sb
open Go.RowKit Go.Proofs.YtmgjohlaoflebaaW.PrintWords Go.Proofs.YtmgjohlaoflebaaW.PrintMore Go.Proofs.Ytmgjohlaoflebaa.Arith
set_option linter.unusedVariables false
set_option linter.unusedSectionVars false
theorem rdOf_set_ne {bs : List Bool} {i : Nat} {j : Int} {b : Bool} (h : i ≠ j.toNat) : rdOf false (bs.set i b) j = rdOf false bs j := by
  show (bs.set i b).getD j.toNat false = bs.getD j.toNat false
  rw [List.getD_eq_getElem?_getD, List.getElem?_set_ne h, ← List.getD_eq_getElem?_getD]
theorem back_ix {i n : Nat} (h : i < n) (hn : n ≤ 4096) : wrap64 ((wrap64 ((n : Int) - 1)) - (i : Int)) = ((n - 1 - i : Nat) : Int) := by
  rw [w64_in (x := (n : Int) - 1) (by omega) (by omega), w64_in (by omega) (by omega)]; omega
theorem rev_ix {i n : Nat} (h : i < n) : n - 1 - i < n := by omega
theorem app_len {a b r : Nat} (h : a + r ≤ 4096) (hb : b ≤ r) : a + b < 8796093022208 := by omega
theorem lt_of_sub {d i n : Nat} (h : n - i = d + 1) : i < n := by omega
theorem sub_next {d i n : Nat} (h : n - i = d + 1) : n - (i + 1) = d := by omega
section
variable {net : List S53} {l : List Int} {rounds : List (List S53)} {n : Nat} (hl : l.length = n) (hn : n ≤ 32) (hr : rounds.length ≤ 4096) (hf : rounds.flatten.length ≤ 4096)
  (hv : ∀ r ∈ rounds, ∀ q ∈ r, Within n q) (hd : ∀ r ∈ rounds, r.Pairwise Disj)
include hl hn hr hf hv hd
theorem layers_l1 {r : List S53} (hrm : r ∈ rounds) {all back : List S53} {x : Int} (ha : all.length + r.length ≤ 4096) (hbk : back.length + r.length ≤ 4096)
    (K : Ev (fun k => juntolaw14_SorterLayers.l0 k net l (all ++ r) (back ++ r.reverse) rounds (rounds.length : Int) (wrap64 (x + 1))) true) :
    ∀ (d i : Nat) (met : List Bool), r.length - i = d → i ≤ r.length → met.length = n → (∀ j (h : j < r.length), i ≤ j → rdOf false met r[j].f0 = false ∧ rdOf false met r[j].f1 = false) →
      Ev (fun k => juntolaw14_SorterLayers.l1 k net l (all ++ r.take i) (back ++ r.reverse.take i) r met rounds (rounds.length : Int) x r (r.length : Int) (i : Int)) true := by
  intro d
  induction d with
  | zero =>
    intro i met hd' hi hm hmet
    obtain rfl : i = r.length := Nat.le_antisymm hi (Nat.le_of_sub_eq_zero hd')
    refine Ev.step (fun k => by simp only [juntolaw14_SorterLayers.l1]; rfl) ?_
    have e1 : r.reverse.take r.length = r.reverse := List.take_of_length_le (by simp)
    rw [List.take_length, e1]
    exact Ev.neg (Int.lt_irrefl _) K
  | succ d ih =>
    intro i met hd' hi hm hmet
    have hlt : i < r.length := lt_of_sub hd'
    have hrl : r.length ≤ 4096 := Nat.le_trans (Nat.le_add_left _ _) ha
    obtain ⟨g0, g1, g2⟩ := hv r hrm r[i] (List.getElem_mem hlt)
    obtain ⟨t0, t1⟩ := hmet i hlt (Nat.le_refl _)
    have key := ih (i + 1) ((met.set r[i].f0.toNat true).set r[i].f1.toNat true) (sub_next hd') hlt (by rw [List.length_set, List.length_set, hm]) (fun j h hij => by
      obtain ⟨d0, d1, d2, d3⟩ := List.pairwise_iff_getElem.1 (hd r hrm) i j hlt h hij
      obtain ⟨s0, s1⟩ := hmet j h (Nat.le_of_lt hij)
      rw [rdOf_set_ne d2, rdOf_set_ne d0, rdOf_set_ne d3, rdOf_set_ne d1]
      exact ⟨s0, s1⟩)
    have w := w_succ hlt hrl
    have hb := rev_ix hlt
    have wb := back_ix hlt hrl
    have e1 : all ++ r.take (i + 1) = all ++ r.take i ++ [r[i]] := by rw [List.take_succ_eq_append_getElem hlt, List.append_assoc]
    have e2 : back ++ r.reverse.take (i + 1) = back ++ r.reverse.take i ++ [r[r.length - 1 - i]] := by
      rw [List.take_succ_eq_append_getElem (by rw [List.length_reverse]; exact hlt), List.append_assoc, List.getElem_reverse]
    rw [e1, e2] at key
    refine Ev.step (fun k => by simp only [juntolaw14_SorterLayers.l1]; rfl) ?_
    rw [w, rd53_eq hlt, wb, rd53_eq hb]
    have m0 : (met.length : Int) = n := by rw [hm]
    refine Ev.pos (Int.ofNat_lt.2 hlt) (Ev.pos (Int.natCast_nonneg i) (Ev.pos (Int.ofNat_lt.2 hlt) (Ev.neg (Int.not_lt.2 g0) (Ev.neg (by rw [hl]; exact Int.not_le.2 g2) (Ev.neg (Int.not_le.2 g1) (Ev.pos g0 (Ev.pos (by rw [m0]; exact Int.lt_trans g1 g2) (Ev.neg (by rw [t0]; exact Bool.false_ne_true) (Ev.pos (Int.le_of_lt (Int.lt_of_le_of_lt g0 g1)) (Ev.pos (by rw [m0]; exact g2) (Ev.neg (by rw [t1]; exact Bool.false_ne_true) (Ev.pos (by rw [hm]; exact Nat.lt_of_le_of_lt hn (by decide)) ?_))))))))))))
    refine Ev.pos (by rw [List.length_append]; exact app_len ha (by rw [List.length_take]; exact Nat.min_le_right _ _)) (Ev.pos (Int.natCast_nonneg _) (Ev.pos (Int.ofNat_lt.2 hb) (Ev.pos (by rw [List.length_append]; exact app_len hbk (by rw [List.length_take, List.length_reverse]; exact Nat.min_le_right _ _)) key)))
theorem layers_l0 {R : Bool} (K : Ev (fun k => (sorter_Run.f k net l).bind fun bt212 => ((sorter_Run.f k rounds.flatten l).bind fun bt216 => ((sorter_Run.f k (rounds.map List.reverse).flatten l).bind fun bt220 => (if bt212.2 = 0 then (if bt216.2 = 0 then (if bt220.2 = 0 then (if (rounds.flatten.length : Int) = (net.length : Int) then ((juntoref01_Same.f k bt216.1 bt212.1).bind fun t224 => (if t224 = true then ((juntoref01_Same.f k bt220.1 bt212.1).bind fun t225 => (if t225 = true then ((juntolaw14_alive.f k).bind fun t226 => (some t226)) else (none))) else (none))) else (none)) else (none)) else (none)) else (none))))) true) :
    ∀ (d i : Nat), rounds.length - i = d → i ≤ rounds.length →
      Ev (fun k => juntolaw14_SorterLayers.l0 k net l (rounds.take i).flatten ((rounds.take i).map List.reverse).flatten rounds (rounds.length : Int) (i : Int)) true := by
  intro d
  induction d with
  | zero =>
    intro i hd' hi
    obtain rfl : i = rounds.length := Nat.le_antisymm hi (Nat.le_of_sub_eq_zero hd')
    refine Ev.step (fun k => by simp only [juntolaw14_SorterLayers.l0]; rfl) ?_
    rw [List.take_length]
    exact Ev.neg (Int.lt_irrefl _) K
  | succ d ih =>
    intro i hd' hi
    have hlt : i < rounds.length := lt_of_sub hd'
    have key := ih (i + 1) (sub_next hd') hlt
    have w := w_succ hlt hr
    have e1 : (rounds.take (i + 1)).flatten = (rounds.take i).flatten ++ rounds[i] := by rw [List.take_succ_eq_append_getElem hlt, List.flatten_append]; simp
    have e2 : ((rounds.take (i + 1)).map List.reverse).flatten = ((rounds.take i).map List.reverse).flatten ++ rounds[i].reverse := by rw [List.take_succ_eq_append_getElem hlt, List.map_append, List.flatten_append]; simp
    have hrev : ∀ (m : List (List S53)), (m.map List.reverse).flatten.length = m.flatten.length := by
      intro m
      induction m with
      | nil => rfl
      | cons a m ihm => simp only [List.map_cons, List.flatten_cons, List.length_append, List.length_reverse, ihm]
    have hle : (rounds.take i).flatten.length + rounds[i].length ≤ 4096 := by
      have e3 : rounds.flatten = (rounds.take (i + 1)).flatten ++ (rounds.drop (i + 1)).flatten := by rw [← List.flatten_append, List.take_append_drop]
      have e4 := congrArg List.length e3
      rw [e1, List.length_append, List.length_append] at e4
      exact Nat.le_trans (Nat.le_trans (Nat.le_add_right _ _) (Nat.le_of_eq e4.symm)) hf
    rw [e1, e2, ← w] at key
    refine Ev.step (fun k => by simp only [juntolaw14_SorterLayers.l0]; rfl) ?_
    rw [rd_L2_eq hlt]
    refine Ev.pos (Int.ofNat_lt.2 hlt) (Ev.pos (Int.natCast_nonneg i) (Ev.pos (Int.ofNat_lt.2 hlt) (Ev.pos (Int.natCast_nonneg _) (Ev.pos (by rw [hl]; exact Nat.le_trans (show (n : Int).toNat ≤ 32 from hn) (by decide)) ?_))))
    have := layers_l1 (net := net) hl hn hr hf hv hd (List.getElem_mem hlt) (x := (i : Int)) hle (by rw [hrev]; exact hle) key rounds[i].length 0 (List.replicate (l.length : Int).toNat false) rfl (Nat.zero_le _) (by rw [List.length_replicate, hl]; rfl) (fun j h _ => by
      constructor <;> (show (List.replicate _ false).getD _ false = false; rw [List.getD_eq_getElem?_getD, List.getElem?_replicate]; split <;> rfl))
    rw [List.take_zero, List.take_zero, List.append_nil, List.append_nil] at this
    exact this
end
theorem Pure_SorterLayers (net : List S53) (l : List Int) (hm : net.length ≤ maxLen) (_ : ∀ p ∈ net, (Lit.int .i64 p.f0).wf = true ∧ (Lit.int .i64 p.f1).wf = true) (y : l.length * 8 ≤ 140737488351232) (_ : ∀ n ∈ l, (Lit.int .u64 n).wf = true) :
    ∃ k, juntolaw14_SorterLayers.f k net l = some true := by
  refine Ev.rounds (g := fun k => juntolaw14_SorterLayers.f k net l) ?_
  unfold juntolaw14_SorterLayers.f
  by_cases h : checkW (l.length : Int) net = 0
  · obtain ⟨_, hn, hl, hq⟩ := check_zero h
    have hn' : l.length ≤ 32 := by clear h hq; omega
    obtain ⟨r1, r2, r3, r4⟩ := lay_rounds hq
    have hb := inv_rounds hq
    have c1 : checkW (l.length : Int) (roundsOf l.length net).flatten = 0 := check_of hn' (by rw [r2]; exact hl) (fun q hm => by
      obtain ⟨r, hr, hqr⟩ := List.mem_flatten.1 hm
      exact r3 r hr q hqr)
    have hrev : ((roundsOf l.length net).map List.reverse).flatten.length = (roundsOf l.length net).flatten.length := by
      generalize roundsOf l.length net = m
      induction m with
      | nil => rfl
      | cons a m ihm => simp only [List.map_cons, List.flatten_cons, List.length_append, List.length_reverse, ihm]
    have c2 : checkW (l.length : Int) ((roundsOf l.length net).map List.reverse).flatten = 0 := check_of hn' (by rw [hrev, r2]; exact hl) (fun q hm => by
      obtain ⟨r, hr, hqr⟩ := List.mem_flatten.1 hm
      obtain ⟨r', hr', rfl⟩ := List.mem_map.1 hr
      exact r3 r' hr' q (List.mem_reverse.1 hqr))
    have R0 := Run_okV h
    have R1 := Run_okV c1
    have R2 := Run_okV c2
    rw [r1 l] at R1
    rw [fold_back _ l r4, r1 l] at R2
    have hs := Same_ev (net.foldl stepV l) (by rw [foldV_length]; clear h hq c1 c2; omega)
    refine (Rounds_ok h).bind (Ev.pos rfl ?_)
    refine layers_l0 (n := l.length) rfl hn' (Nat.le_trans hb.1 hl) (by rw [r2]; exact hl) r3 r4 (R := true) ?_ _ 0 rfl (Nat.zero_le _)
    exact R0.bind (R1.bind (R2.bind (Ev.pos rfl (Ev.pos rfl (Ev.pos rfl (Ev.pos (by rw [r2]) (hs.bind (Ev.pos rfl (hs.bind (Ev.pos rfl (alive_ev.bind (Ev.now _))))))))))))
  · exact (Rounds_bad h).bind (Ev.neg h (Ev.pos rfl (alive_ev.bind (Ev.now _))))
end Go.Proofs.Ytmgjohlaoflebaa.Sb
