/- What the sorting test comes to: whole numbers as rows of bits. -/
import Derived.Test.YtmgjohlaoflebaaSbTie2
import Derived.Test.YtmgjohlaoflebaaSb3
import Derived.Test.YtmgjohlaoflebaaSb10
namespace Go.Proofs.Ytmgjohlaoflebaa.Sb
open Go.RowKit Go.Proofs.YtmgjohlaoflebaaW.PrintWords Go.Proofs.YtmgjohlaoflebaaW.PrintMore Go.Proofs.Ytmgjohlaoflebaa.Num Go.Proofs.Ytmgjohlaoflebaa.Arith
set_option linter.unusedVariables false
set_option linter.unusedSectionVars false

def val : List Bool → Nat
  | [] => 0
  | b :: bs => b.toNat + 2 * val bs
theorem val_lt : ∀ bs : List Bool, val bs < 2 ^ bs.length
  | [] => by decide
  | b :: bs => by
    have := val_lt bs
    have hb : b.toNat ≤ 1 := by cases b <;> decide
    simp only [val, List.length_cons, Nat.pow_succ]
    omega
theorem val_get : ∀ (bs : List Bool) (i : Nat), val bs / 2 ^ i % 2 = (bs.getD i false).toNat
  | [], i => by simp [val]
  | b :: bs, 0 => by
    have hb : b.toNat ≤ 1 := by cases b <;> decide
    simp only [val, Nat.pow_zero, Nat.div_one, List.getD_cons_zero]
    omega
  | b :: bs, i + 1 => by
    have hb : b.toNat ≤ 1 := by cases b <;> decide
    have e : (b.toNat + 2 * val bs) / 2 = val bs := by omega
    rw [List.getD_cons_succ, ← val_get bs i, val, show 2 ^ (i + 1) = 2 * 2 ^ i by rw [Nat.pow_succ, Nat.mul_comm], ← Nat.div_div_eq_div_mul, e]
theorem val_one : ∀ (bs : List Bool) (i : Nat), i < bs.length → bs.getD i false = false → val (bs.set i true) = val bs + 2 ^ i
  | [], i, h, _ => absurd h (Nat.not_lt_zero _)
  | b :: bs, 0, _, h => by
    simp only [List.getD_cons_zero] at h
    subst h
    simp [val]; omega
  | b :: bs, i + 1, h, hb => by
    rw [List.getD_cons_succ] at hb
    simp only [List.length_cons] at h
    rw [List.set_cons_succ, val, val, val_one bs i (by omega) hb, Nat.pow_succ]
    omega
theorem val_nought : ∀ (bs : List Bool) (i : Nat), i < bs.length → bs.getD i false = true → val (bs.set i false) + 2 ^ i = val bs
  | [], i, h, _ => absurd h (Nat.not_lt_zero _)
  | b :: bs, 0, _, h => by
    simp only [List.getD_cons_zero] at h
    subst h
    simp [val]; omega
  | b :: bs, i + 1, h, hb => by
    rw [List.getD_cons_succ] at hb
    simp only [List.length_cons] at h
    have := val_nought bs i (by omega) hb
    rw [List.set_cons_succ, val, val, Nat.pow_succ]
    omega
def bitsOf : Nat → Nat → List Bool
  | 0, _ => []
  | n + 1, m => decide (m % 2 = 1) :: bitsOf n (m / 2)
theorem bitsOf_length : ∀ n m, (bitsOf n m).length = n
  | 0, _ => rfl
  | n + 1, m => by rw [bitsOf, List.length_cons, bitsOf_length]
theorem val_bitsOf : ∀ n m, m < 2 ^ n → val (bitsOf n m) = m
  | 0, m, h => by simp at h; subst h; rfl
  | n + 1, m, h => by
    rw [Nat.pow_succ] at h
    rw [bitsOf, val, val_bitsOf n (m / 2) (by omega)]
    by_cases hm : m % 2 = 1
    · rw [decide_eq_true hm]; simp; omega
    · rw [decide_eq_false hm]; simp; omega

def chk : Bool → List Bool → Bool
  | _, [] => true
  | s, b :: bs => if s && !b then false else chk (s || b) bs
def stepB (bs : List Bool) (q : S53) : List Bool := if bs.getD q.f0.toNat false && !bs.getD q.f1.toNat false then (bs.set q.f0.toNat false).set q.f1.toNat true else bs
theorem stepB_length (bs : List Bool) (q : S53) : (stepB bs q).length = bs.length := by unfold stepB; split <;> simp
theorem foldB_length : ∀ (net : List S53) (bs : List Bool), (net.foldl stepB bs).length = bs.length
  | [], _ => rfl
  | q :: net, bs => by rw [List.foldl_cons, foldB_length net, stepB_length]
def good (n : Nat) (net : List S53) (m : Nat) : Bool := chk false (net.foldl stepB (bitsOf n m))
def V (bs : List Bool) : List Int := bs.map fun b => (b.toNat : Int)
theorem rd_V (bs : List Bool) (i : Int) : rd (V bs) i = ((bs.getD i.toNat false).toNat : Int) := by
  show (V bs).getD i.toNat 0 = _
  rw [List.getD_eq_getElem?_getD, List.getD_eq_getElem?_getD, V, List.getElem?_map]
  cases bs[i.toNat]? <;> rfl
theorem step_V (bs : List Bool) (y : List Int) (q : S53) : (stepR (V bs, y) q).1 = V (stepB bs q) := by
  unfold stepR stepB
  simp only [rd_V]
  cases h0 : bs.getD q.f0.toNat false <;> cases h1 : bs.getD q.f1.toNat false <;> simp [V, List.map_set]
theorem fold_V : ∀ (net : List S53) (bs : List Bool) (y : List Int), (net.foldl stepR (V bs, y)).1 = V (net.foldl stepB bs)
  | [], _, _ => rfl
  | q :: net, bs, y => by
    rw [List.foldl_cons, List.foldl_cons, ← fold_V net (stepB bs q) (stepR (V bs, y) q).2, ← step_V bs y q]

theorem bit_at {bs : List Bool} (h16 : bs.length ≤ 16) {i : Int} (h0 : 0 ≤ i) (h1 : i < bs.length) : Go.bits .and .i64 (shr .i64 ((val bs : Nat) : Int) i) 1 = ((bs.getD i.toNat false).toNat : Int) := by
  have hv := val_lt bs
  have hp : 2 ^ bs.length ≤ 2 ^ 16 := Nat.pow_le_pow_right (by decide) h16
  have e : shr .i64 ((val bs : Nat) : Int) i = ((val bs / 2 ^ i.toNat : Nat) : Int) := by
    unfold shr
    rw [Nat.min_eq_left (show i.toNat ≤ IntKind.i64.bits from by show i.toNat ≤ 64; omega)]
    simp
  have hle : val bs / 2 ^ i.toNat ≤ val bs := Nat.div_le_self _ _
  have hk : ∀ n : Int, 0 ≤ n → n < 2 ^ 63 → IntKind.i64.wrap n = n := fun n h0 h1 => by rw [IntKind.wrap_i64]; omega
  rw [e, ← val_get]
  generalize val bs / 2 ^ i.toNat = c at hle ⊢
  have hm := bits_mask .i64 63 (by decide) hk 1 (by decide) (c : Int) (by omega) (by omega)
  rw [show ((2 : Int) ^ 1 - 1) = 1 from rfl] at hm
  rw [hm]
  simp
theorem shl_one {i : Int} (h0 : 0 ≤ i) (h1 : i ≤ 16) : shl .i64 1 i = ((2 ^ i.toNat : Nat) : Int) := by
  have hp : 2 ^ i.toNat ≤ 2 ^ 16 := Nat.pow_le_pow_right (by decide) (by omega)
  unfold shl
  rw [Nat.min_eq_left (show i.toNat ≤ IntKind.i64.bits from by show i.toNat ≤ 64; omega), Int.one_mul, IntKind.wrap_i64]
  have : ((2 : Int) ^ i.toNat) = ((2 ^ i.toNat : Nat) : Int) := by simp
  rw [this]
  generalize 2 ^ i.toNat = c at hp ⊢
  omega

section
variable {net : List S53} {n : Nat} (hn : n ≤ 16) (hl : net.length ≤ 4096) (hq : ∀ q ∈ net, 0 ≤ q.f0 ∧ q.f0 < q.f1 ∧ q.f1 < n)
include hn hl hq
theorem sorts_l2 {m hi : Int} {bs : List Bool} (hb : bs.length = n) {R : Bool × Int} (K : Ev (fun k => sorter_Sorts.l0 k (n : Int) net hi (wrap64 (m + 1))) R) :
    ∀ (d i : Nat) (o : Int) (s : Bool), n - i = d → i ≤ n → 0 ≤ o → o ≤ i → s = decide (o > 0) →
      Ev (fun k => sorter_Sorts.l2 k (n : Int) net ((val bs : Nat) : Int) o hi m (n : Int) (i : Int)) (if chk s (bs.drop i) = true then R else (false, 0)) := by
  intro d
  induction d with
  | zero =>
    intro i o s hd hi' h0 h1 hs
    obtain rfl : i = n := by omega
    refine Ev.step (fun k => by simp only [sorter_Sorts.l2]; rfl) ?_
    refine Ev.neg (by omega) (Ev.same K ?_)
    rw [List.drop_eq_nil_of_le (by omega)]
    rfl
  | succ d ih =>
    intro i o s hd hi' h0 h1 hs
    have hlt : i < bs.length := by omega
    have hbit := bit_at (bs := bs) (by omega) (i := (i : Int)) (by omega) (by omega)
    have hget : bs.getD (i : Int).toNat false = bs[i] := by
      show bs.getD i false = _
      rw [List.getD_eq_getElem?_getD, List.getElem?_eq_getElem hlt]; rfl
    rw [hget] at hbit
    refine Ev.step (fun k => by simp only [sorter_Sorts.l2]; rfl) ?_
    rw [List.drop_eq_getElem_cons hlt, chk, hbit]
    refine Ev.pos (by omega) ?_
    have w : wrap64 ((i : Int) + 1) = ((i + 1 : Nat) : Int) := by rw [w64_in (by omega) (by omega)]; rfl
    have hbl : bs[i].toNat ≤ 1 := by cases bs[i] <;> decide
    have wo : wrap64 (o + (bs[i].toNat : Int)) = o + (bs[i].toNat : Int) := w64_in (by omega) (by omega)
    rw [w, wo]
    by_cases hc : o > 0
    · refine Ev.pos hc (Ev.pos (by omega) ?_)
      obtain rfl : s = true := by rw [hs, decide_eq_true hc]
      cases hbi : bs[i] with
      | false => exact Ev.pos (by simp) (Ev_some (by simp))
      | true =>
        refine Ev.neg (by simp) ?_
        refine Ev.same (ih (i + 1) (o + ((true : Bool).toNat : Int)) true (by omega) (by omega) (by simp; omega) (by simp; omega) (by simp; omega)) ?_
        simp
    · refine Ev.neg hc (Ev.pos (by omega) ?_)
      obtain rfl : s = false := by rw [hs, decide_eq_false hc]
      refine Ev.same (ih (i + 1) (o + (bs[i].toNat : Int)) bs[i] (by omega) (by omega) (by omega) (by omega) ?_) ?_
      · cases hbi : bs[i] with
        | false => simp; omega
        | true => simp; omega
      · simp
theorem sorts_l1 {m hi : Int} {R : Bool × Int} (K : Ev (fun k => sorter_Sorts.l0 k (n : Int) net hi (wrap64 (m + 1))) R) :
    ∀ (d i : Nat) (bs : List Bool), net.length - i = d → i ≤ net.length → bs.length = n →
      Ev (fun k => sorter_Sorts.l1 k (n : Int) net ((val bs : Nat) : Int) hi m net (net.length : Int) (i : Int)) (if chk false ((net.drop i).foldl stepB bs) = true then R else (false, 0)) := by
  intro d
  induction d with
  | zero =>
    intro i bs hd hi' hb
    obtain rfl : i = net.length := by omega
    refine Ev.step (fun k => by simp only [sorter_Sorts.l1]; rfl) ?_
    refine Ev.neg (by omega) ?_
    rw [List.drop_length]
    exact sorts_l2 hn hl hq hb K n 0 0 false rfl (Nat.zero_le _) (by decide) (by decide) rfl
  | succ d ih =>
    intro i bs hd hi' hb
    have hlt : i < net.length := by omega
    have hm := hq net[i] (List.getElem_mem hlt)
    refine Ev.step (fun k => by simp only [sorter_Sorts.l1]; rfl) ?_
    rw [rd53_eq hlt, List.drop_eq_getElem_cons hlt, List.foldl_cons]
    rw [bit_at (bs := bs) (by omega) (i := net[i].f0) (by omega) (by omega), bit_at (bs := bs) (by omega) (i := net[i].f1) (by omega) (by omega)]
    refine Ev.pos (by omega) (Ev.pos (by omega) (Ev.pos (by omega) (Ev.pos (by omega) ?_)))
    have w : wrap64 ((i : Int) + 1) = ((i + 1 : Nat) : Int) := by rw [w64_in (by omega) (by omega)]; rfl
    rw [w]
    cases h0 : bs.getD net[i].f0.toNat false with
    | false =>
      refine Ev.neg (by simp) ?_
      rw [show stepB bs net[i] = bs by simp only [stepB, h0]; rfl]
      exact ih (i + 1) bs (by omega) (by omega) hb
    | true =>
      refine Ev.pos (by simp) (Ev.pos (by omega) ?_)
      cases h1 : bs.getD net[i].f1.toNat false with
      | true =>
        refine Ev.neg (by simp) ?_
        rw [show stepB bs net[i] = bs by simp only [stepB, h0, h1]; rfl]
        exact ih (i + 1) bs (by omega) (by omega) hb
      | false =>
        refine Ev.pos (by simp) ?_
        rw [show stepB bs net[i] = (bs.set net[i].f0.toNat false).set net[i].f1.toNat true by simp only [stepB, h0, h1]; rfl]
        have v0 := val_nought bs net[i].f0.toNat (by omega) h0
        have v1 := val_one (bs.set net[i].f0.toNat false) net[i].f1.toNat (by simp; omega) (by
          rw [List.getD_eq_getElem?_getD, List.getElem?_set_ne (by omega), ← List.getD_eq_getElem?_getD, h1])
        have hlt2 := val_lt bs
        have hp : 2 ^ bs.length ≤ 2 ^ 16 := Nat.pow_le_pow_right (by decide) (by omega)
        have hp1 : 2 ^ net[i].f1.toNat ≤ 2 ^ 16 := Nat.pow_le_pow_right (by decide) (by omega)
        have e : wrap64 (((val bs : Nat) : Int) + (wrap64 ((shl .i64 1 net[i].f1) - (shl .i64 1 net[i].f0)))) = ((val ((bs.set net[i].f0.toNat false).set net[i].f1.toNat true) : Nat) : Int) := by
          rw [shl_one (by omega) (by omega), shl_one (by omega) (by omega)]
          have hp0 : 2 ^ net[i].f0.toNat ≤ 2 ^ 16 := Nat.pow_le_pow_right (by decide) (by omega)
          generalize 2 ^ net[i].f0.toNat = P0 at v0 hp0 ⊢
          generalize 2 ^ net[i].f1.toNat = P1 at v1 hp1 ⊢
          generalize val ((bs.set net[i].f0.toNat false).set net[i].f1.toNat true) = c at v1 ⊢
          generalize val (bs.set net[i].f0.toNat false) = b at v0 v1
          generalize val bs = a at v0 hlt2 ⊢
          generalize 2 ^ bs.length = L at hlt2 hp
          rw [w64_in (x := (P1 : Int) - (P0 : Int)) (by omega) (by omega), w64_in (by omega) (by omega)]
          omega
        rw [e]
        exact ih (i + 1) _ (by omega) (by omega) (by simpa using hb)
theorem sorts_l0 : ∀ (d m : Nat), 2 ^ n - m = d → m ≤ 2 ^ n → Ev (fun k => sorter_Sorts.l0 k (n : Int) net ((2 ^ n : Nat) : Int) (m : Int)) ((List.range' m d).all (good n net), 0) := by
  have hp : 2 ^ n ≤ 2 ^ 16 := Nat.pow_le_pow_right (by decide) hn
  intro d
  induction d with
  | zero =>
    intro m hd hm
    refine Ev.step (fun k => by simp only [sorter_Sorts.l0]; rfl) ?_
    exact Ev.neg (by omega) (Ev_some (by simp))
  | succ d ih =>
    intro m hd hm
    refine Ev.step (fun k => by simp only [sorter_Sorts.l0]; rfl) ?_
    refine Ev.pos (by omega) ?_
    have w : wrap64 ((m : Int) + 1) = ((m + 1 : Nat) : Int) := by rw [w64_in (by omega) (by omega)]; rfl
    have := sorts_l1 hn hl hq (m := (m : Int)) (hi := ((2 ^ n : Nat) : Int)) (R := ((List.range' (m + 1) d).all (good n net), 0)) (by rw [w]; exact ih (m + 1) (by omega) (by omega)) net.length 0 (bitsOf n m) rfl (Nat.zero_le _) (bitsOf_length n m)
    rw [val_bitsOf n m (by omega)] at this
    refine Ev.same this ?_
    rw [List.range'_succ, List.all_cons, List.drop_zero]
    unfold good
    cases chk false (net.foldl stepB (bitsOf n m)) <;> simp

theorem rising_l0 {bs : List Bool} (hb : bs.length = n) : ∀ (d i : Nat) (s : Bool), n - i = d → 1 ≤ i → i ≤ n → bs.getD (i - 1) false = s → Ev (fun k => juntoref14_Rising.l0 k (V bs) (i : Int)) (chk s (bs.drop i)) := by
  have hV : (V bs).length = n := by simp [V, hb]
  intro d
  induction d with
  | zero =>
    intro i s hd h1 hi' hs
    refine Ev.step (fun k => by simp only [juntoref14_Rising.l0]; rfl) ?_
    refine Ev.neg (by omega) (Ev_some ?_)
    rw [List.drop_eq_nil_of_le (by omega)]
    rfl
  | succ d ih =>
    intro i s hd h1 hi' hs
    have hlt : i < bs.length := by omega
    have hget : bs.getD i false = bs[i] := by rw [List.getD_eq_getElem?_getD, List.getElem?_eq_getElem hlt]; rfl
    refine Ev.step (fun k => by simp only [juntoref14_Rising.l0]; rfl) ?_
    have w0 : wrap64 ((i : Int) - 1) = ((i - 1 : Nat) : Int) := by rw [w64_in (by omega) (by omega)]; omega
    have w : wrap64 ((i : Int) + 1) = ((i + 1 : Nat) : Int) := by rw [w64_in (by omega) (by omega)]; rfl
    rw [w0, w, rd_V, rd_V, List.drop_eq_getElem_cons hlt, chk]
    rw [show ((i - 1 : Nat) : Int).toNat = i - 1 from rfl, show (i : Int).toNat = i from rfl, hs, hget]
    refine Ev.pos (by omega) (Ev.pos (by omega) (Ev.pos (by omega) (Ev.pos (by omega) ?_)))
    have hnext : Ev (fun k => juntoref14_Rising.l0 k (V bs) ((i + 1 : Nat) : Int)) (chk bs[i] (bs.drop (i + 1))) := ih (i + 1) bs[i] (by omega) (by omega) (by omega) hget
    cases s <;> cases hbi : bs[i]
    all_goals rw [hbi] at hnext
    · exact Ev.neg (by simp) hnext
    · exact Ev.neg (by simp) hnext
    · exact Ev.pos (by simp) (Ev.now _)
    · exact Ev.neg (by simp) hnext
theorem rising_ev {bs : List Bool} (hb : bs.length = n) : Ev (fun k => juntoref14_Rising.f k (V bs)) (chk false bs) := by
  unfold juntoref14_Rising.f
  cases bs with
  | nil =>
    refine Ev.step (fun k => by simp only [juntoref14_Rising.l0]; rfl) ?_
    exact Ev.neg (by simp [V]) (Ev.now _)
  | cons b bs =>
    have hb' : bs.length + 1 = n := by simpa using hb
    have := rising_l0 hn hl hq hb (n - 1) 1 b rfl (Nat.le_refl _) (by omega) rfl
    refine Ev.same this ?_
    simp [chk]

theorem refSorts_l1 {m hi : Int} {bs : List Bool} (hb : bs.length = n) {R : Bool} (K : Ev (fun k => juntoref14_Sorts.l0 k (n : Int) net hi (wrap64 (m + 1))) R) (hv : m = ((val bs : Nat) : Int)) (hc : checkW (n : Int) net = 0) :
    ∀ (d i : Nat) (x : List Int), n - i = d → i ≤ n → x.length = n → (∀ j, j < i → x[j]? = (V bs)[j]?) →
      Ev (fun k => juntoref14_Sorts.l1 k (n : Int) net m x hi m (n : Int) (i : Int)) (if chk false (net.foldl stepB bs) = true then R else false) := by
  have hV : (V bs).length = n := by simp [V, hb]
  intro d
  induction d with
  | zero =>
    intro i x hd hi' hx hj
    obtain rfl : i = n := by omega
    have : x = V bs := by
      refine List.ext_getElem? fun j => ?_
      by_cases h : j < i
      · exact hj j h
      · rw [List.getElem?_eq_none (by omega), List.getElem?_eq_none (by omega)]
    subst this
    refine Ev.step (fun k => by simp only [juntoref14_Sorts.l1]; rfl) ?_
    refine Ev.neg (by omega) ((refRun_ok (l := V bs) (net := net) (by rw [hV]; exact hc)).bind ?_)
    rw [fold_V]
    have hfl : (net.foldl stepB bs).length = i := (foldB_length net bs).trans hb
    refine (rising_ev hn hl hq hfl).bind ?_
    cases chk false (net.foldl stepB bs) with
    | false => exact Ev.neg (by simp) (Ev_some (by simp))
    | true => exact Ev.pos rfl (Ev.same K (by simp))
  | succ d ih =>
    intro i x hd hi' hx hj
    clear hc
    have h1 : n - (i + 1) = d := by rw [Nat.sub_add_eq, hd]; rfl
    have h2 : i + 1 ≤ n := Nat.succ_le_of_lt (Nat.lt_of_sub_eq_succ hd)
    have hlt : i < bs.length := by rw [hb]; exact h2
    replace hv := Aside0.mk hv
    replace hV := Aside0.mk hV
    refine Ev.step (fun k => by simp only [juntoref14_Sorts.l1]; rfl) ?_
    refine Ev.pos (by omega) (Ev.pos (by omega) (Ev.pos (by omega) ?_))
    have w : wrap64 ((i : Int) + 1) = ((i + 1 : Nat) : Int) := by rw [w64_in (by omega) (by omega)]; rfl
    rw [w]
    have hx' : (x.set (i : Int).toNat (IntKind.u64.wrap (Go.bits .and .i64 (shr .i64 m (i : Int)) 1))).length = n := by rw [List.length_set]; exact hx
    have key := ih (i + 1) (x.set (i : Int).toNat (IntKind.u64.wrap (Go.bits .and .i64 (shr .i64 m (i : Int)) 1))) h1 h2 hx'
    refine key fun j hji => ?_
    rw [List.getElem?_set]
    by_cases h : (i : Int).toNat = j
    · have h3 : i = j := h
      subst h3
      have hbl : bs[i].toNat ≤ 1 := by cases bs[i] <;> decide
      rw [if_pos h, if_pos (show (i : Int).toNat < x.length by rw [hx]; exact h2), V, List.getElem?_map, List.getElem?_eq_getElem hlt, hv.out, bit_at (by rw [hb]; exact hn) (Int.natCast_nonneg i) (Int.ofNat_lt.2 hlt)]
      rw [show bs.getD (i : Int).toNat false = bs[i] by show bs.getD i false = _; rw [List.getD_eq_getElem?_getD, List.getElem?_eq_getElem hlt]; rfl]
      rw [u64_in (by omega) (by omega)]
      rfl
    · rw [if_neg h]
      exact hj j (by have : i ≠ j := h; omega)
theorem refSorts_l0 (hc_ : checkW (n : Int) net = 0) : ∀ (d m : Nat), 2 ^ n - m = d → m ≤ 2 ^ n → Ev (fun k => juntoref14_Sorts.l0 k (n : Int) net ((2 ^ n : Nat) : Int) (m : Int)) ((List.range' m d).all (good n net)) := by
  have hp : 2 ^ n ≤ 2 ^ 16 := Nat.pow_le_pow_right (by decide) hn
  intro d
  induction d with
  | zero =>
    intro m hd hm
    refine Ev.step (fun k => by simp only [juntoref14_Sorts.l0]; rfl) ?_
    exact Ev.neg (by omega) (Ev_some (by simp))
  | succ d ih =>
    intro m hd hm
    have hc := Aside0.mk hc_
    clear hc_
    refine Ev.step (fun k => by simp only [juntoref14_Sorts.l0]; rfl) ?_
    refine Ev.pos (by omega) (Ev.pos (by omega) (Ev.pos (by omega) (Ev.bind0 rfl ?_)))
    have w : wrap64 ((m : Int) + 1) = ((m + 1 : Nat) : Int) := by rw [w64_in (by omega) (by omega)]; rfl
    have := refSorts_l1 hn hl hq (m := (m : Int)) (hi := ((2 ^ n : Nat) : Int)) (bitsOf_length n m) (R := (List.range' (m + 1) d).all (good n net)) (by rw [w]; exact ih (m + 1) (by omega) (by omega)) (by rw [val_bitsOf n m (by omega)]) hc.out n 0 (List.replicate (n : Int).toNat 0) rfl (Nat.zero_le _) (by simp) (fun j hj => absurd hj (Nat.not_lt_zero _))
    refine Ev.same (Ev.congr (fun k => ?_) this) ?_
    · rw [List.length_replicate]; rfl
    rw [List.range'_succ, List.all_cons]
    unfold good
    cases chk false (net.foldl stepB (bitsOf n m)) <;> simp
end

def allGood (n : Nat) (net : List S53) : Bool := (List.range' 0 (2 ^ n)).all (good n net)
theorem Sorts_bad {n : Int} {net : List S53} (h : checkW n net ≠ 0) : Ev (fun k => sorter_Sorts.f k n net) (false, checkW n net) := by
  unfold sorter_Sorts.f
  exact Ev.bind0 (sorterCheck_eq _ _) (Ev.neg h (Ev.now _))
theorem Sorts_big {n : Int} {net : List S53} (h : checkW n net = 0) (h16 : n > 16) : Ev (fun k => sorter_Sorts.f k n net) (false, 3) := by
  unfold sorter_Sorts.f
  exact Ev.bind0 (sorterCheck_eq _ _) (Ev.pos h (Ev.pos h16 (Ev.now _)))
theorem Sorts_ok {n : Nat} {net : List S53} (h : checkW (n : Int) net = 0) (h16 : n ≤ 16) : Ev (fun k => sorter_Sorts.f k (n : Int) net) (allGood n net, 0) := by
  obtain ⟨_, hn, hl, hq⟩ := check_zero h
  unfold sorter_Sorts.f
  refine Ev.bind0 (sorterCheck_eq _ _) (Ev.pos h (Ev.neg (by omega) (Ev.pos (by omega) ?_)))
  rw [shl_one (by omega) (by omega)]
  exact sorts_l0 h16 hl hq (2 ^ n) 0 rfl (Nat.zero_le _)
theorem refSorts_ok {n : Nat} {net : List S53} (h : checkW (n : Int) net = 0) (h16 : n ≤ 16) : Ev (fun k => juntoref14_Sorts.f k (n : Int) net) (allGood n net) := by
  obtain ⟨_, hn, hl, hq⟩ := check_zero h
  unfold juntoref14_Sorts.f
  refine Ev.pos (by omega) ?_
  rw [shl_one (by omega) (by omega)]
  exact refSorts_l0 h16 hl hq h (2 ^ n) 0 rfl (Nat.zero_le _)
end Go.Proofs.Ytmgjohlaoflebaa.Sb
