/- What the runs of a network come to. -/
import Derived.Test.YtmgjohlaoflebaaSbTie
import Derived.Test.YtmgjohlaoflebaaSb4
import Derived.Test.YtmgjohlaoflebaaSb5
import Derived.Test.YtmgjohlaoflebaaSb9
import Derived.Test.YtmgjohlaoflebaaSb11
namespace Go.Proofs.Ytmgjohlaoflebaa.Sb
open Go.RowKit Go.Proofs.YtmgjohlaoflebaaW.PrintWords Go.Proofs.YtmgjohlaoflebaaW.PrintMore Go.Proofs.Ytmgjohlaoflebaa.Num Go.Proofs.Ytmgjohlaoflebaa.Arith
set_option linter.unusedVariables false
set_option linter.unusedSectionVars false

theorem check_zero {n : Int} {l : List S53} (h : checkW n l = 0) : 0 ≤ n ∧ n ≤ 32 ∧ l.length ≤ 4096 ∧ ∀ q ∈ l, 0 ≤ q.f0 ∧ q.f0 < q.f1 ∧ q.f1 < n := by
  unfold checkW at h
  by_cases h0 : n < 0
  · rw [if_pos h0] at h; exact absurd h (by decide)
  rw [if_neg h0] at h
  by_cases h1 : n > 32
  · rw [if_pos h1] at h; exact absurd h (by decide)
  rw [if_neg h1] at h
  by_cases h2 : (l.length : Int) > 4096
  · rw [if_pos h2] at h; exact absurd h (by decide)
  rw [if_neg h2] at h
  by_cases h3 : l.any (badPair n) = true
  · rw [if_pos h3] at h; exact absurd h (by decide)
  refine ⟨by omega, by omega, by omega, fun q hq => ?_⟩
  have hb : badPair n q = false := by
    cases hc : badPair n q with
    | false => rfl
    | true => exact absurd (List.any_eq_true.2 ⟨q, hq, hc⟩) h3
  simp [badPair] at hb
  omega

def stepI (l : List S61) (q : S53) : List S61 := if (rd_T61 l q.f0).f0 > (rd_T61 l q.f1).f0 then ((l.set q.f0.toNat (⟨(rd_T61 l q.f1).f0, (rd_T61 l q.f1).f1⟩ : S61)).set q.f1.toNat (⟨(rd_T61 l q.f0).f0, (rd_T61 l q.f0).f1⟩ : S61)) else l
def stepR (s : List Int × List Int) (q : S53) : List Int × List Int := if rd s.1 q.f0 > rd s.1 q.f1 then ((s.1.set q.f0.toNat (rd s.1 q.f1)).set q.f1.toNat (rd s.1 q.f0), (s.2.set q.f0.toNat (rd s.2 q.f1)).set q.f1.toNat (rd s.2 q.f0)) else s
theorem stepI_length (l : List S61) (q : S53) : (stepI l q).length = l.length := by
  unfold stepI; split <;> simp
theorem stepR_length (s : List Int × List Int) (q : S53) : (stepR s q).1.length = s.1.length ∧ (stepR s q).2.length = s.2.length := by
  unfold stepR; split <;> simp
theorem foldI_length (net : List S53) (l : List S61) : (net.foldl stepI l).length = l.length := by
  induction net generalizing l with
  | nil => rfl
  | cons q net ih => rw [List.foldl_cons, ih, stepI_length]
theorem rd_map0 (l : List S61) (i : Int) : rd (l.map (·.f0)) i = (rd_T61 l i).f0 := by
  show (l.map (·.f0)).getD i.toNat 0 = (l.getD i.toNat z61).f0
  rw [List.getD_eq_getElem?_getD, List.getD_eq_getElem?_getD, List.getElem?_map]
  cases l[i.toNat]? <;> rfl
theorem rd_map1 (l : List S61) (i : Int) : rd (l.map (·.f1)) i = (rd_T61 l i).f1 := by
  show (l.map (·.f1)).getD i.toNat 0 = (l.getD i.toNat z61).f1
  rw [List.getD_eq_getElem?_getD, List.getD_eq_getElem?_getD, List.getElem?_map]
  cases l[i.toNat]? <;> rfl
theorem step_same (l : List S61) (q : S53) : stepR (l.map (·.f0), l.map (·.f1)) q = ((stepI l q).map (·.f0), (stepI l q).map (·.f1)) := by
  unfold stepR stepI
  simp only [rd_map0, rd_map1]
  split <;> simp [List.map_set]
theorem fold_same (net : List S53) (l : List S61) : net.foldl stepR (l.map (·.f0), l.map (·.f1)) = ((net.foldl stepI l).map (·.f0), (net.foldl stepI l).map (·.f1)) := by
  induction net generalizing l with
  | nil => rfl
  | cons q net ih => rw [List.foldl_cons, List.foldl_cons, step_same, ih]

def items (l : List Int) : List S61 := (List.range l.length).map fun (i : Nat) => ⟨rd l (i : Int), (i : Int)⟩
theorem items0 (l : List Int) : (items l).map (·.f0) = l := by
  refine List.ext_getElem (by simp [items]) fun i h1 h2 => ?_
  simp only [items, List.getElem_map, List.getElem_range]
  show l.getD i 0 = _
  rw [List.getD_eq_getElem?_getD, List.getElem?_eq_getElem h2]; rfl
def iota (n : Nat) : List Int := (List.range n).map fun (i : Nat) => (i : Int)
theorem items1 (l : List Int) : (items l).map (·.f1) = iota l.length := by
  simp [items, iota]

section
variable {net : List S53} {n : Nat} (hn : n ≤ 32) (hl : net.length ≤ 4096) (hq : ∀ q ∈ net, 0 ≤ q.f0 ∧ q.f0 < q.f1 ∧ q.f1 < n)
include hn hl hq
theorem run_l1 : ∀ (d i : Nat) (x : List S61), net.length - i = d → i ≤ net.length → x.length = n →
    Ev (fun k => sorter_run.l1 k x net (net.length : Int) (i : Int)) ((net.drop i).foldl stepI x, 0) := by
  intro d
  induction d with
  | zero =>
    intro i x hd hi hx
    obtain rfl : i = net.length := by omega
    refine Ev.step (fun k => by simp only [sorter_run.l1]; rfl) ?_
    refine Ev.neg (by omega) (Ev_some ?_)
    simp
  | succ d ih =>
    intro i x hd hi hx
    have hlt : i < net.length := by omega
    have hm := hq net[i] (List.getElem_mem hlt)
    refine Ev.step (fun k => by simp only [sorter_run.l1]; rfl) ?_
    rw [rd53_eq hlt, List.drop_eq_getElem_cons hlt, List.foldl_cons]
    refine Ev.pos (by omega) (Ev.pos (by omega) (Ev.pos (by omega) (Ev.pos (by omega) (Ev.pos (by omega) (Ev.pos (by omega) (Ev.pos (by omega) ?_))))))
    have w : wrap64 ((i : Int) + 1) = ((i + 1 : Nat) : Int) := by rw [w64_in (by omega) (by omega)]; rfl
    rw [w]
    by_cases hc : (rd_T61 x net[i].f0).f0 > (rd_T61 x net[i].f1).f0
    · refine Ev.pos hc ?_
      rw [show stepI x net[i] = _ from if_pos hc]
      exact ih (i + 1) _ (by omega) (by omega) (by simpa using hx)
    · refine Ev.neg hc ?_
      rw [show stepI x net[i] = x from if_neg hc]
      exact ih (i + 1) x (by omega) (by omega) hx
theorem refRun_l1 : ∀ (d i : Nat) (x y : List Int), net.length - i = d → i ≤ net.length → x.length = n → y.length = n →
    Ev (fun k => juntoref14_Run.l1 k x y net (net.length : Int) (i : Int)) ((net.drop i).foldl stepR (x, y)) := by
  intro d
  induction d with
  | zero =>
    intro i x y hd hi hx hy
    obtain rfl : i = net.length := by omega
    refine Ev.step (fun k => by simp only [juntoref14_Run.l1]; rfl) ?_
    refine Ev.neg (by omega) (Ev_some ?_)
    simp
  | succ d ih =>
    intro i x y hd hi hx hy
    have hlt : i < net.length := by omega
    have hm := hq net[i] (List.getElem_mem hlt)
    refine Ev.step (fun k => by simp only [juntoref14_Run.l1]; rfl) ?_
    rw [rd53_eq hlt, List.drop_eq_getElem_cons hlt, List.foldl_cons]
    refine Ev.pos (by omega) (Ev.pos (by omega) (Ev.pos (by omega) (Ev.pos (by omega) (Ev.pos (by omega) (Ev.pos (by omega) (Ev.pos (by omega) ?_))))))
    have w : wrap64 ((i : Int) + 1) = ((i + 1 : Nat) : Int) := by rw [w64_in (by omega) (by omega)]; rfl
    rw [w]
    by_cases hc : rd x net[i].f0 > rd x net[i].f1
    · refine Ev.pos hc (Ev.pos (by omega) (Ev.pos (by omega) ?_))
      rw [show stepR (x, y) net[i] = _ from if_pos hc]
      exact ih (i + 1) _ _ (by omega) (by omega) (by simpa using hx) (by simpa using hy)
    · refine Ev.neg hc ?_
      rw [show stepR (x, y) net[i] = (x, y) from if_neg hc]
      exact ih (i + 1) x y (by omega) (by omega) hx hy
theorem run_l0 {l : List Int} (hll : l.length = n) : ∀ (d i : Nat) (x : List S61), l.length - i = d → i ≤ l.length → x.length = n → (∀ j, j < i → x[j]? = (items l)[j]?) →
    Ev (fun k => sorter_run.l0 k net x l (l.length : Int) (i : Int)) (net.foldl stepI (items l), 0) := by
  intro d
  induction d with
  | zero =>
    intro i x hd hi hx hj
    obtain rfl : i = l.length := by omega
    refine Ev.step (fun k => by simp only [sorter_run.l0]; rfl) ?_
    refine Ev.neg (by omega) ?_
    have : x = items l := by
      refine List.ext_getElem? fun j => ?_
      by_cases h : j < l.length
      · exact hj j h
      · rw [List.getElem?_eq_none (by omega), List.getElem?_eq_none (by simp [items]; omega)]
    rw [this]
    exact run_l1 hn hl hq net.length 0 (items l) rfl (Nat.zero_le _) (by simp [items, hll])
  | succ d ih =>
    intro i x hd hi hx hj
    refine Ev.step (fun k => by simp only [sorter_run.l0]; rfl) ?_
    refine Ev.pos (by omega) (Ev.pos (by omega) (Ev.pos (by omega) (Ev.pos (by omega) ?_)))
    have w : wrap64 ((i : Int) + 1) = ((i + 1 : Nat) : Int) := by rw [w64_in (by omega) (by omega)]; rfl
    rw [w]
    refine ih (i + 1) _ (by omega) (by omega) (by simpa using hx) fun j hji => ?_
    rw [List.getElem?_set]
    by_cases h : (i : Int).toNat = j
    · obtain rfl : i = j := by omega
      rw [if_pos h, if_pos (by omega)]
      simp only [items]
      rw [List.getElem?_map, List.getElem?_range (by omega)]
      rfl
    · rw [if_neg h]
      exact hj j (by omega)
theorem refRun_l0 {x : List Int} (hx : x.length = n) : ∀ (d i : Nat) (y : List Int), y.length - i = d → i ≤ y.length → y.length = n → (∀ j, j < i → y[j]? = (iota n)[j]?) →
    Ev (fun k => juntoref14_Run.l0 k net x y (y.length : Int) (i : Int)) (net.foldl stepR (x, iota n)) := by
  intro d
  induction d with
  | zero =>
    intro i y hd hi hy hj
    obtain rfl : i = y.length := by omega
    refine Ev.step (fun k => by simp only [juntoref14_Run.l0]; rfl) ?_
    refine Ev.neg (by omega) ?_
    have : y = iota n := by
      refine List.ext_getElem? fun j => ?_
      by_cases h : j < y.length
      · exact hj j h
      · rw [List.getElem?_eq_none (by omega), List.getElem?_eq_none (by simp [iota]; omega)]
    rw [this]
    exact refRun_l1 hn hl hq net.length 0 x (iota n) rfl (Nat.zero_le _) hx (by simp [iota])
  | succ d ih =>
    intro i y hd hi hy hj
    refine Ev.step (fun k => by simp only [juntoref14_Run.l0]; rfl) ?_
    refine Ev.pos (by omega) (Ev.pos (by omega) (Ev.pos (by omega) ?_))
    have w : wrap64 ((i : Int) + 1) = ((i + 1 : Nat) : Int) := by rw [w64_in (by omega) (by omega)]; rfl
    rw [w]
    have := ih (i + 1) (y.set (i : Int).toNat (i : Int)) (by simp; omega) (by simp; omega) (by simpa using hy) fun j hji => ?_
    · simpa only [List.length_set] using this
    rw [List.getElem?_set]
    by_cases h : (i : Int).toNat = j
    · obtain rfl : i = j := by omega
      rw [if_pos h, if_pos (by omega)]
      simp only [iota]
      rw [List.getElem?_map, List.getElem?_range (by omega)]
      rfl
    · rw [if_neg h]
      exact hj j (by omega)
end

theorem run_ok {net : List S53} {l : List Int} (h : checkW (l.length : Int) net = 0) : Ev (fun k => sorter_run.f k net l) (net.foldl stepI (items l), 0) := by
  obtain ⟨_, hn, hl, hq⟩ := check_zero h
  unfold sorter_run.f
  refine Ev.bind0 (sorterCheck_eq _ _) (Ev.pos h (Ev.pos (by omega) (Ev.pos (by omega) ?_)))
  exact run_l0 (n := l.length) (by omega) hl hq rfl l.length 0 _ rfl (Nat.zero_le _) (by simp) (fun j hj => absurd hj (Nat.not_lt_zero _))
theorem run_bad {net : List S53} {l : List Int} (h : checkW (l.length : Int) net ≠ 0) : Ev (fun k => sorter_run.f k net l) ([], checkW (l.length : Int) net) := by
  unfold sorter_run.f
  exact Ev.bind0 (sorterCheck_eq _ _) (Ev.neg h (Ev.now _))
theorem refRun_ok {net : List S53} {l : List Int} (h : checkW (l.length : Int) net = 0) : Ev (fun k => juntoref14_Run.f k net l) (net.foldl stepR (l, iota l.length)) := by
  obtain ⟨_, hn, hl, hq⟩ := check_zero h
  unfold juntoref14_Run.f
  refine Ev.bind0 rfl (Ev.pos (by simp; omega) (Ev.pos (by omega) (Ev.pos (by omega) (Ev.bind0 rfl ?_))))
  have := refRun_l0 (n := l.length) (by omega) hl hq (x := ([] ++ l : List Int)) (by simp) (List.replicate (l.length : Int).toNat (0 : Int)).length 0 (List.replicate (l.length : Int).toNat (0 : Int)) rfl (Nat.zero_le _) (by simp) (fun j hj => absurd hj (Nat.not_lt_zero _))
  exact this

theorem eachRun_l0 (l : List S61) (e : Int) (hm : l.length ≤ 32) : ∀ (d i : Nat) (x : List Int), l.length - i = d → i ≤ l.length → x.length = i →
    Ev (fun k => sorter_each_Run.l0 k e x l (l.length : Int) (i : Int)) (x ++ (l.drop i).map (·.f0), e) := by
  intro d
  induction d with
  | zero =>
    intro i x hd hi hx
    obtain rfl : i = l.length := by omega
    refine Ev.step (fun k => by simp only [sorter_each_Run.l0]; rfl) ?_
    exact Ev.neg (by omega) (Ev_some (by simp))
  | succ d ih =>
    intro i x hd hi hx
    have hlt : i < l.length := by omega
    refine Ev.step (fun k => by simp only [sorter_each_Run.l0]; rfl) ?_
    refine Ev.pos (by omega) (Ev.pos (by omega) (Ev.pos (by omega) (Ev.bind0 rfl (Ev.pos (by omega) ?_))))
    have w : wrap64 ((i : Int) + 1) = ((i + 1 : Nat) : Int) := by rw [w64_in (by omega) (by omega)]; rfl
    rw [w, List.drop_eq_getElem_cons hlt, List.map_cons]
    have e : rd_T61 l (i : Int) = l[i] := by
      show l.getD i z61 = _
      rw [List.getD_eq_getElem?_getD, List.getElem?_eq_getElem hlt]; rfl
    rw [e]
    refine Ev.same (ih (i + 1) _ (by omega) (by omega) (by simp [hx])) ?_
    simp
theorem eachMoves_l0 (l : List S61) (e : Int) (hm : l.length ≤ 32) : ∀ (d i : Nat) (x : List Int), l.length - i = d → i ≤ l.length → x.length = i →
    Ev (fun k => sorter_each_Moves.l0 k e x l (l.length : Int) (i : Int)) (x ++ (l.drop i).map (·.f1), e) := by
  intro d
  induction d with
  | zero =>
    intro i x hd hi hx
    obtain rfl : i = l.length := by omega
    refine Ev.step (fun k => by simp only [sorter_each_Moves.l0]; rfl) ?_
    exact Ev.neg (by omega) (Ev_some (by simp))
  | succ d ih =>
    intro i x hd hi hx
    have hlt : i < l.length := by omega
    refine Ev.step (fun k => by simp only [sorter_each_Moves.l0]; rfl) ?_
    refine Ev.pos (by omega) (Ev.pos (by omega) (Ev.pos (by omega) (Ev.bind0 rfl (Ev.pos (by omega) ?_))))
    have w : wrap64 ((i : Int) + 1) = ((i + 1 : Nat) : Int) := by rw [w64_in (by omega) (by omega)]; rfl
    rw [w, List.drop_eq_getElem_cons hlt, List.map_cons]
    have e : rd_T61 l (i : Int) = l[i] := by
      show l.getD i z61 = _
      rw [List.getD_eq_getElem?_getD, List.getElem?_eq_getElem hlt]; rfl
    rw [e]
    refine Ev.same (ih (i + 1) _ (by omega) (by omega) (by simp [hx])) ?_
    simp
theorem eachRun_ev (l : List S61) (e : Int) (hm : l.length ≤ 32) : Ev (fun k => sorter_each_Run.f k l e) (l.map (·.f0), e) := by
  have := eachRun_l0 l e hm l.length 0 [] rfl (Nat.zero_le _) rfl
  exact this
theorem eachMoves_ev (l : List S61) (e : Int) (hm : l.length ≤ 32) : Ev (fun k => sorter_each_Moves.f k l e) (l.map (·.f1), e) := by
  have := eachMoves_l0 l e hm l.length 0 [] rfl (Nat.zero_le _) rfl
  exact this
theorem Run_ok {net : List S53} {l : List Int} (h : checkW (l.length : Int) net = 0) : Ev (fun k => sorter_Run.f k net l) ((net.foldl stepI (items l)).map (·.f0), 0) := by
  have hn := (check_zero h).2.1
  unfold sorter_Run.f
  exact (run_ok h).bind ((eachRun_ev _ _ (by rw [foldI_length]; simp [items]; omega)).bind (Ev.now _))
theorem Moves_ok {net : List S53} {l : List Int} (h : checkW (l.length : Int) net = 0) : Ev (fun k => sorter_Moves.f k net l) ((net.foldl stepI (items l)).map (·.f1), 0) := by
  have hn := (check_zero h).2.1
  unfold sorter_Moves.f
  exact (run_ok h).bind ((eachMoves_ev _ _ (by rw [foldI_length]; simp [items]; omega)).bind (Ev.now _))
theorem Run_bad {net : List S53} {l : List Int} (h : checkW (l.length : Int) net ≠ 0) : Ev (fun k => sorter_Run.f k net l) ([], checkW (l.length : Int) net) := by
  unfold sorter_Run.f
  exact (run_bad h).bind ((eachRun_ev _ _ (by simp)).bind (Ev.now _))
theorem Moves_bad {net : List S53} {l : List Int} (h : checkW (l.length : Int) net ≠ 0) : Ev (fun k => sorter_Moves.f k net l) ([], checkW (l.length : Int) net) := by
  unfold sorter_Moves.f
  exact (run_bad h).bind ((eachMoves_ev _ _ (by simp)).bind (Ev.now _))

theorem Same_l0 (l : List Int) (hm : l.length ≤ 9223372036854775807) : ∀ (d i : Nat), l.length - i = d → i ≤ l.length → Ev (fun k => juntoref01_Same.l0 k l l (l.length : Int) (i : Int)) true := by
  intro d
  induction d with
  | zero =>
    intro i hd hi
    refine Ev.step (fun k => by simp only [juntoref01_Same.l0]; rfl) ?_
    exact Ev.neg (by omega) (Ev.now _)
  | succ d ih =>
    intro i hd hi
    refine Ev.step (fun k => by simp only [juntoref01_Same.l0]; rfl) ?_
    refine Ev.pos (by omega) (Ev.pos (by omega) (Ev.pos (by omega) (Ev.pos (by omega) (Ev.pos (by first | trivial | rfl) ?_))))
    have w : wrap64 ((i : Int) + 1) = ((i + 1 : Nat) : Int) := by rw [w64_in (by omega) (by omega)]; rfl
    rw [w]
    exact ih (i + 1) (by omega) (by omega)
theorem Same_ev (l : List Int) (hm : l.length ≤ 9223372036854775807) : Ev (fun k => juntoref01_Same.f k l l) true := by
  unfold juntoref01_Same.f
  exact Ev.pos rfl (Same_l0 l hm l.length 0 rfl (Nat.zero_le _))
theorem ints_l0 (l : List Int) (hm : l.length ≤ 9223372036854775807) : ∀ (d i : Nat), l.length - i = d → i ≤ l.length → Ev (fun k => juntolaw14_ints.l0 k l l (l.length : Int) (i : Int)) true := by
  intro d
  induction d with
  | zero =>
    intro i hd hi
    refine Ev.step (fun k => by simp only [juntolaw14_ints.l0]; rfl) ?_
    exact Ev.neg (by omega) (Ev.now _)
  | succ d ih =>
    intro i hd hi
    refine Ev.step (fun k => by simp only [juntolaw14_ints.l0]; rfl) ?_
    refine Ev.pos (by omega) (Ev.pos (by omega) (Ev.pos (by omega) (Ev.pos (by omega) (Ev.pos (by first | trivial | rfl) ?_))))
    have w : wrap64 ((i : Int) + 1) = ((i + 1 : Nat) : Int) := by rw [w64_in (by omega) (by omega)]; rfl
    rw [w]
    exact ih (i + 1) (by omega) (by omega)
theorem ints_ev (l : List Int) (hm : l.length ≤ 9223372036854775807) : Ev (fun k => juntolaw14_ints.f k l l) true := by
  unfold juntolaw14_ints.f
  exact Ev.pos rfl (ints_l0 l hm l.length 0 rfl (Nat.zero_le _))
end Go.Proofs.Ytmgjohlaoflebaa.Sb
