/- Determinants of lists of rows of whole numbers, by expansion along the first column; what row operations do to them. -/
import Derived.Test.YtfdkhkajehopkaaNum
namespace Go.Proofs.Ytfdkhkajehopkaa.Lin
set_option linter.unusedVariables false
set_option linter.unusedSimpArgs false

def lap (f : List (List Int) → Int) : List (List Int) → List (List Int) → Int
 | _, [] => 0
 | pre, r :: post => r.headD 0 * f (pre ++ post) - lap f (pre ++ [r]) post
def D : Nat → List (List Int) → Int
 | 0, [] => 1
 | 0, _ :: _ => 0
 | n + 1, rows => lap (fun l => D n (l.map List.tail)) [] rows
theorem D_succ (n : Nat) (rows : List (List Int)) : D (n + 1) rows = lap (fun l => D n (l.map List.tail)) [] rows := by rw [D]

/-! ### two rows that change places -/
theorem lap_swap_pre {f : List (List Int) → Int} (hf : ∀ a b r s, f (a ++ r :: s :: b) = - f (a ++ s :: r :: b)) : ∀ (post a b : List (List Int)) (r s : List Int), lap f (a ++ r :: s :: b) post = - lap f (a ++ s :: r :: b) post
 | [], a, b, r, s => by simp [lap]
 | x :: post, a, b, r, s => by
  have ih := lap_swap_pre hf post a (b ++ [x]) r s
  have h := hf a (b ++ post) r s
  simp only [lap, List.append_assoc, List.cons_append] at ih h ⊢
  rw [ih, h]
  grind
theorem lap_swap {f : List (List Int) → Int} (hf : ∀ a b r s, f (a ++ r :: s :: b) = - f (a ++ s :: r :: b)) : ∀ (a pre b : List (List Int)) (r s : List Int), lap f pre (a ++ r :: s :: b) = - lap f pre (a ++ s :: r :: b)
 | [], pre, b, r, s => by
  have h := lap_swap_pre hf b pre [] r s
  simp only [lap, List.nil_append, List.append_assoc, List.cons_append] at h ⊢
  rw [h]
  grind
 | x :: a, pre, b, r, s => by
  have ih := lap_swap hf a (pre ++ [x]) b r s
  have h := hf (pre ++ a) b r s
  simp only [lap, List.append_assoc, List.cons_append] at ih h ⊢
  rw [ih, h]
  grind
theorem D_swap : ∀ (n : Nat) (a b : List (List Int)) (r s : List Int), D n (a ++ r :: s :: b) = - D n (a ++ s :: r :: b)
 | 0, a, b, r, s => by cases a <;> simp [D]
 | n + 1, a, b, r, s => by
  rw [D_succ, D_succ]
  refine lap_swap (fun a b r s => ?_) a [] b r s
  have := D_swap n (a.map List.tail) (b.map List.tail) r.tail s.tail
  simpa using this
theorem D_same (n : Nat) (r : List Int) : ∀ (mid a b : List (List Int)), D n (a ++ r :: (mid ++ r :: b)) = 0
 | [], a, b => by have := D_swap n a b r r; simp only [List.nil_append]; omega
 | m :: mid, a, b => by
  have ih := D_same n r mid (a ++ [m]) b
  have := D_swap n a (mid ++ r :: b) r m
  simp only [List.append_assoc, List.cons_append, List.nil_append] at ih this ⊢
  omega
theorem D_far (n : Nat) (r s : List Int) : ∀ (mid a b : List (List Int)), D n (a ++ r :: (mid ++ s :: b)) = - D n (a ++ s :: (mid ++ r :: b))
 | [], a, b => D_swap n a b r s
 | m :: mid, a, b => by
  have ih := D_far n r s mid (a ++ [m]) b
  have h1 := D_swap n a (mid ++ s :: b) r m
  have h2 := D_swap n a (mid ++ r :: b) s m
  simp only [List.append_assoc, List.cons_append, List.nil_append] at ih h1 h2 ⊢
  omega

/-! ### a multiple of a row beside a row -/
def addk (k : Int) (r s : List Int) : List Int := List.zipWith (fun x y => x + k * y) r s
theorem addk_tail (k : Int) (r s : List Int) : (addk k r s).tail = addk k r.tail s.tail := by
 cases r <;> cases s <;> simp [addk]
theorem addk_head {k : Int} {r s : List Int} (h : r.length = s.length) : (addk k r s).headD 0 = r.headD 0 + k * s.headD 0 := by
 cases r <;> cases s <;> simp [addk] at h ⊢
theorem lap_lin_pre {k : Int} {f : List (List Int) → Int} (hf : ∀ a b r s, r.length = s.length → f (a ++ addk k r s :: b) = f (a ++ r :: b) + k * f (a ++ s :: b)) : ∀ (post a b : List (List Int)) (r s : List Int), r.length = s.length → lap f (a ++ addk k r s :: b) post = lap f (a ++ r :: b) post + k * lap f (a ++ s :: b) post
 | [], a, b, r, s, _ => by simp [lap]
 | x :: post, a, b, r, s, hl => by
  have ih := lap_lin_pre hf post a (b ++ [x]) r s hl
  have h := hf a (b ++ post) r s hl
  simp only [lap, List.append_assoc, List.cons_append] at ih h ⊢
  rw [ih, h]
  grind
theorem lap_lin {k : Int} {f : List (List Int) → Int} (hf : ∀ a b r s, r.length = s.length → f (a ++ addk k r s :: b) = f (a ++ r :: b) + k * f (a ++ s :: b)) : ∀ (a pre b : List (List Int)) (r s : List Int), r.length = s.length → lap f pre (a ++ addk k r s :: b) = lap f pre (a ++ r :: b) + k * lap f pre (a ++ s :: b)
 | [], pre, b, r, s, hl => by
  have h := lap_lin_pre hf b pre [] r s hl
  simp only [lap, List.nil_append, List.append_assoc, List.cons_append] at h ⊢
  rw [h, addk_head hl]
  grind
 | x :: a, pre, b, r, s, hl => by
  have ih := lap_lin hf a (pre ++ [x]) b r s hl
  have h := hf (pre ++ a) b r s hl
  simp only [lap, List.append_assoc, List.cons_append] at ih h ⊢
  rw [ih, h]
  grind
theorem D_lin (k : Int) : ∀ (n : Nat) (a b : List (List Int)) (r s : List Int), r.length = s.length → D n (a ++ addk k r s :: b) = D n (a ++ r :: b) + k * D n (a ++ s :: b)
 | 0, a, b, r, s, _ => by cases a <;> simp [D]
 | n + 1, a, b, r, s, hl => by
  rw [D_succ, D_succ, D_succ]
  refine lap_lin (fun a b r s hl => ?_) a [] b r s hl
  have := D_lin k n (a.map List.tail) (b.map List.tail) r.tail s.tail (by rw [List.length_tail, List.length_tail, hl])
  simpa [addk_tail] using this
/-- A row of noughts. -/
theorem D_zero (n : Nat) (a b : List (List Int)) (w : Nat) : D n (a ++ List.replicate w 0 :: b) = 0 := by
 have h := D_lin 1 n a b (List.replicate w 0) (List.replicate w 0) rfl
 have e : addk 1 (List.replicate w 0) (List.replicate w 0) = List.replicate w 0 := by
  clear h
  induction w with
  | zero => rfl
  | succ w ih => simp [addk, List.replicate_succ]
 rw [e] at h
 omega
theorem D_scale (k : Int) (n : Nat) (a b : List (List Int)) (r : List Int) : D n (a ++ r.map (k * ·) :: b) = k * D n (a ++ r :: b) := by
 have h := D_lin k n a b (List.replicate r.length 0) r (by simp)
 have e : addk k (List.replicate r.length 0) r = r.map (k * ·) := by
  clear h
  induction r with
  | nil => rfl
  | cons x r ih => simpa [addk, List.replicate_succ] using ih
 rw [e, D_zero] at h
 omega
theorem D_addk_below (k : Int) (n : Nat) (a mid b : List (List Int)) (r s : List Int) (h : r.length = s.length) : D n (a ++ addk k r s :: (mid ++ s :: b)) = D n (a ++ r :: (mid ++ s :: b)) := by
 rw [D_lin k n a _ r s h, D_same, Int.mul_zero, Int.add_zero]
theorem D_addk_above (k : Int) (n : Nat) (a mid b : List (List Int)) (r s : List Int) (h : r.length = s.length) : D n (a ++ s :: (mid ++ addk k r s :: b)) = D n (a ++ s :: (mid ++ r :: b)) := by
 have h1 := D_lin k n (a ++ s :: mid) b r s h
 have h2 := D_same n s mid a b
 simp only [List.append_assoc, List.cons_append] at h1
 rw [h1, h2, Int.mul_zero, Int.add_zero]

/-! ### modulo a number -/
def redp (p : Int) (r : List Int) : List Int := r.map (· % p)
theorem lap_red {p : Int} {f : List (List Int) → Int} (hf : ∀ l, f (l.map (redp p)) % p = f l % p) : ∀ (post pre : List (List Int)), lap f (pre.map (redp p)) (post.map (redp p)) % p = lap f pre post % p
 | [], pre => rfl
 | x :: post, pre => by
  have ih := lap_red hf post (pre ++ [x])
  have h := hf (pre ++ post)
  have hh : (redp p x).headD 0 = x.headD 0 % p := by cases x <;> simp [redp]
  simp only [lap, List.map_cons, List.map_append, List.map_nil] at ih h ⊢
  rw [hh, Int.sub_emod, ih, Int.mul_emod, h, Int.emod_emod, ← Int.mul_emod, ← Int.sub_emod]
theorem D_red (p : Int) : ∀ (n : Nat) (rows : List (List Int)), D n (rows.map (redp p)) % p = D n rows % p
 | 0, [] => rfl
 | 0, _ :: _ => by simp [D]
 | n + 1, rows => by
  rw [D_succ, D_succ]
  refine lap_red (fun l => ?_) rows []
  have ih := D_red p n (l.map List.tail)
  have : List.tail ∘ redp p = redp p ∘ List.tail := by
   funext r; cases r <;> simp [redp]
  rw [← ih, List.map_map, List.map_map, this]

/-! ### the identity -/
def unit (n i : Nat) : List Int := (List.range n).map fun j => if j = i then 1 else 0
def ident (n : Nat) : List (List Int) := (List.range n).map (unit n)
theorem unit_succ_zero (n : Nat) : unit (n + 1) 0 = 1 :: List.replicate n 0 := by
 unfold unit
 rw [List.range_succ_eq_map]
 simp only [List.map_cons, List.map_map, if_pos]
 congr 1
 rw [List.eq_replicate_iff]
 simp
theorem unit_succ_succ (n i : Nat) : unit (n + 1) (i + 1) = 0 :: unit n i := by
 unfold unit
 rw [List.range_succ_eq_map]
 simp only [List.map_cons, List.map_map]
 congr 1
 refine List.map_congr_left fun j _ => ?_
 simp
theorem ident_succ (n : Nat) : ident (n + 1) = (1 :: List.replicate n 0) :: (ident n).map (0 :: ·) := by
 unfold ident
 rw [List.range_succ_eq_map, List.map_cons, unit_succ_zero, List.map_map, List.map_map]
 congr 1
 refine List.map_congr_left fun i hi => ?_
 show unit (n + 1) (i + 1) = 0 :: unit n i
 rw [unit_succ_succ]
theorem lap_heads {f : List (List Int) → Int} : ∀ (post pre : List (List Int)), (∀ r ∈ post, r.headD 0 = 0) → lap f pre post = 0
 | [], _, _ => rfl
 | x :: post, pre, h => by
  rw [lap, h x List.mem_cons_self, lap_heads post _ (fun r hr => h r (List.mem_cons_of_mem _ hr))]
  simp
theorem D_ident : ∀ n : Nat, D n (ident n) = 1
 | 0 => rfl
 | n + 1 => by
  rw [D_succ, ident_succ, lap, lap_heads]
  ·have : ((ident n).map (0 :: ·)).map List.tail = ident n := by rw [List.map_map]; simp [Function.comp_def]
   simp only [List.nil_append, List.headD_cons, this, D_ident n]
   rfl
  ·intro r hr
   obtain ⟨x, _, rfl⟩ := List.mem_map.1 hr
   rfl
end Go.Proofs.Ytfdkhkajehopkaa.Lin
