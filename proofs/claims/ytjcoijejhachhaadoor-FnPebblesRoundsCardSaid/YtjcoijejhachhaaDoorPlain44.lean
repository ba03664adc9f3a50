/-
  LISTS OF BOOLS: rows, the first place of a value, equality; the loops of a turn. No program in sight.
-/
import Derived.Test.YtjcoijejhachhaaDoorPlain43
import Derived.Test.YtjcoijejhachhaaDoorPlain30
namespace Go.Wk
open Go.RowKit
def idxB (bs : List Bool) (y : Bool) : Int := if y ∈ bs then ((bs.findIdx (fun z => y == z) : Nat) : Int) else -1
theorem idxB_at {bs : List Bool} {y : Bool} {k : Nat} (hk : k < bs.length) (h : ∀ i : Nat, i < k → (y == bs.getD i false) = false) (hq : (y == bs.getD k false) = true) : idxB bs y = k := by
  rw [getD_at hk] at hq
  unfold idxB
  rw [if_pos (by rw [eq_of_beq hq]; exact List.getElem_mem _)]
  congr 1
  rw [List.findIdx_eq hk]
  refine ⟨hq, fun j hj => ?_⟩
  have := h j hj
  rwa [getD_at (by omega)] at this
theorem idxB_none {bs : List Bool} {y : Bool} (h : ∀ i : Nat, i < bs.length → (y == bs.getD i false) = false) : idxB bs y = -1 := by
  unfold idxB
  rw [if_neg fun hm => ?_]
  obtain ⟨i, hi, e⟩ := List.getElem_of_mem hm
  have := h i hi
  rw [getD_at hi, e] at this
  simp at this
theorem idxB_has (bs : List Bool) (y : Bool) : decide (0 ≤ idxB bs y) = decide (y ∈ bs) := by
  unfold idxB
  by_cases h : y ∈ bs
  · rw [if_pos h]; simp [h]
  · rw [if_neg h]; simp [h]
theorem bools_same {xs ys : List Bool} (hl : xs.length = ys.length) (h : ∀ i : Nat, i < xs.length → xs.getD i false = ys.getD i false) : xs = ys := by
  refine List.ext_getElem hl fun i h1 h2 => ?_
  have := h i h1
  rwa [getD_at h1, getD_at h2] at this
theorem set_at {l : List Bool} {i j : Nat} {b : Bool} (hi : i < l.length) : (l.set i b).getD j false = if i = j then b else l.getD j false := by
  rw [List.getD_eq_getElem?_getD, List.getElem?_set, List.getD_eq_getElem?_getD]
  by_cases e : i = j
  · subst e; simp [hi]
  · simp [e]
theorem all_in {l : List Bool} : decide (false ∈ l) = false ↔ ∀ i : Nat, i < l.length → l.getD i false = true := by
  rw [decide_eq_false_iff_not]
  constructor
  · intro h i hi
    rw [getD_at hi]
    cases e : l[i] with
    | true => rfl
    | false => exact absurd (by rw [← e]; exact List.getElem_mem _) h
  · intro h hm
    obtain ⟨i, hi, e⟩ := List.getElem_of_mem hm
    have := h i hi
    rw [getD_at hi, e] at this
    cases this
/-! ### answers: rows and columns marked -/
structure Marks (f : Nat → Nat → Bool) (na nb x y : Nat) (R C : List Bool) : Prop where
  rl : R.length = na
  cl : C.length = nb
  rows : ∀ i : Nat, i < na → (R.getD i false = true ↔ ∃ j : Nat, j < nb ∧ (i < x ∨ i = x ∧ j < y) ∧ f i j = true)
  cols : ∀ j : Nat, j < nb → (C.getD j false = true ↔ ∃ i : Nat, i < na ∧ (i < x ∨ i = x ∧ j < y) ∧ f i j = true)
theorem marks_zero (f : Nat → Nat → Bool) (na nb : Nat) : Marks f na nb 0 0 (List.replicate na false) (List.replicate nb false) := by
  refine ⟨by simp, by simp, fun i hi => ?_, fun j hj => ?_⟩
  · rw [getD_at (by simpa using hi)]
    simp
  · rw [getD_at (by simpa using hj)]
    simp
theorem marks_next {f : Nat → Nat → Bool} {na nb x : Nat} {R C : List Bool} (h : Marks f na nb x nb R C) : Marks f na nb (x + 1) 0 R C := by
  refine ⟨h.rl, h.cl, fun i hi => (h.rows i hi).trans ?_, fun j hj => (h.cols j hj).trans ?_⟩
  · refine exists_congr fun j => and_congr_right fun hj => and_congr_left fun _ => ?_
    omega
  · refine exists_congr fun i => and_congr_right fun hi => and_congr_left fun _ => ?_
    omega
theorem marks_no {f : Nat → Nat → Bool} {na nb x y : Nat} {R C : List Bool} (h : Marks f na nb x y R C) (hf : f x y = false) : Marks f na nb x (y + 1) R C := by
  refine ⟨h.rl, h.cl, fun i hi => (h.rows i hi).trans ?_, fun j hj => (h.cols j hj).trans ?_⟩
  · refine exists_congr fun j => and_congr_right fun hj => ?_
    constructor
    · rintro ⟨h1, h2⟩; exact ⟨by omega, h2⟩
    · rintro ⟨h1, h2⟩
      refine ⟨?_, h2⟩
      rcases h1 with h1 | ⟨h1, h3⟩
      · exact .inl h1
      · by_cases e : j = y
        · subst e; subst h1; rw [hf] at h2; cases h2
        · exact .inr ⟨h1, by omega⟩
  · refine exists_congr fun i => and_congr_right fun hi => ?_
    constructor
    · rintro ⟨h1, h2⟩; exact ⟨by omega, h2⟩
    · rintro ⟨h1, h2⟩
      refine ⟨?_, h2⟩
      rcases h1 with h1 | ⟨h1, h3⟩
      · exact .inl h1
      · by_cases e : j = y
        · subst e; subst h1; rw [hf] at h2; cases h2
        · exact .inr ⟨h1, by omega⟩
theorem marks_yes {f : Nat → Nat → Bool} {na nb x y : Nat} {R C : List Bool} (h : Marks f na nb x y R C) (hx : x < na) (hy : y < nb) (hf : f x y = true) : Marks f na nb x (y + 1) (R.set x true) (C.set y true) := by
  refine ⟨by rw [List.length_set]; exact h.rl, by rw [List.length_set]; exact h.cl, fun i hi => ?_, fun j hj => ?_⟩
  · rw [set_at (by rw [h.rl]; exact hx)]
    by_cases e : x = i
    · subst e
      rw [if_pos rfl]
      exact ⟨fun _ => ⟨y, hy, by omega, hf⟩, fun _ => rfl⟩
    · rw [if_neg e, h.rows i hi]
      refine exists_congr fun j => and_congr_right fun hj => and_congr_left fun _ => ?_
      omega
  · rw [set_at (by rw [h.cl]; exact hy)]
    by_cases e : y = j
    · subst e
      rw [if_pos rfl]
      exact ⟨fun _ => ⟨x, hx, by omega, hf⟩, fun _ => rfl⟩
    · rw [if_neg e, h.cols j hj]
      refine exists_congr fun i => and_congr_right fun hi => and_congr_left fun _ => ?_
      omega
open Classical in
noncomputable def ansB (W : Nat → Bool) (na nb rest step : Nat) : Bool := decide (Ans W na nb rest step)
open Classical in
theorem ansB_true {W : Nat → Bool} {na nb rest step : Nat} : ansB W na nb rest step = true ↔ Ans W na nb rest step := by
  unfold ansB; exact decide_eq_true_iff
theorem marks_end {W : Nat → Bool} {na nb rest step : Nat} {R C : List Bool} (h : Marks (fun x y => W (rest + step * (1 + x * nb + y))) na nb na 0 R C) : (!decide (false ∈ R) && !decide (false ∈ C)) = ansB W na nb rest step := by
  rw [Bool.eq_iff_iff, ansB_true, Bool.and_eq_true, Bool.not_eq_true', Bool.not_eq_true', all_in, all_in, h.rl, h.cl]
  unfold Ans
  refine and_congr ?_ ?_
  · refine forall_congr' fun x => imp_congr_right fun hx => (h.rows x hx).trans (exists_congr fun y => and_congr_right fun hy => ?_)
    exact ⟨fun e => e.2, fun e => ⟨.inl hx, e⟩⟩
  · refine forall_congr' fun y => imp_congr_right fun hy => (h.cols y hy).trans (exists_congr fun x => and_congr_right fun hx => ?_)
    exact ⟨fun e => e.2, fun e => ⟨.inl hx, e⟩⟩
end Go.Wk
namespace Go.Wk
open Go.RowKit
theorem mul65 {x p : Nat} (hx : x ≤ 274625) (hp : p ≤ 65) : 0 ≤ (x : Int) * (p : Int) ∧ (x : Int) * (p : Int) ≤ 17850625 := by
  have := Nat.mul_le_mul hx hp
  rw [← Int.natCast_mul]; omega
theorem mul8 {x y : Int} (hx : 0 ≤ x) (hx8 : x < 8) (hy : 0 ≤ y) (hy8 : y ≤ 8) : 0 ≤ x * y ∧ x * y ≤ 64 :=
  ⟨Int.mul_nonneg hx hy, Int.le_trans (Int.mul_le_mul_of_nonneg_right (show x ≤ 8 by omega) hy) (by omega)⟩
theorem stU_pos {b : St} {pr k j : Nat} {xs ys : List Int} (h : 0 ≤ xs.getD (k - 1 - j) 0) (hy : 0 ≤ ys.getD (k - 1 - j) 0) (hb : 0 ≤ b.n) : ((stU b.n.toNat pr xs ys k (j + 1) : Nat) : Int) = ((stU b.n.toNat pr xs ys k j : Nat) : Int) * (pr : Int) + ((1 + xs.getD (k - 1 - j) 0 * b.n) + ys.getD (k - 1 - j) 0) := by
  rw [stU, code, if_pos h, Int.natCast_add, Int.natCast_mul, Int.natCast_add, Int.natCast_add, Int.natCast_mul, Int.toNat_of_nonneg h, Int.toNat_of_nonneg hy, Int.toNat_of_nonneg hb]
  rfl
theorem stU_neg {nb pr k j : Nat} {xs ys : List Int} (h : ¬ 0 ≤ xs.getD (k - 1 - j) 0) : ((stU nb pr xs ys k (j + 1) : Nat) : Int) = ((stU nb pr xs ys k j : Nat) : Int) * (pr : Int) := by
  rw [stU, code, if_neg h, Nat.add_zero, Int.natCast_mul]
end Go.Wk
namespace Go.Wk
theorem beq_no {xs ys : List Bool} (h : xs ≠ ys) : (xs == ys) = false := by simpa using h
end Go.Wk
