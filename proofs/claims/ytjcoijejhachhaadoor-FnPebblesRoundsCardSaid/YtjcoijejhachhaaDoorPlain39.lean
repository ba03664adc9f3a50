/-
  PEBBLES BY NUMBERS: steps of the loops. No program in sight.
-/
import Derived.Test.YtjcoijejhachhaaDoorPlain38
namespace Go.Wk
open Go.RowKit
theorem idx_take {size : Nat} {xs : List Int} {k : Nat} (hk : k < xs.length) (h : -1 ≤ xs.getD k 0) : ((idxP size (xs.take (k + 1)) : Nat) : Int) = (((idxP size (xs.take k) : Nat) : Int) * ((size : Int) + 1) + xs.getD k 0) + 1 := by
  rw [List.take_succ_eq_append_getElem hk, show xs[k] = xs.getD k 0 from (getD_at hk).symm, idxP_snoc, Int.natCast_add, Int.natCast_mul, Int.toNat_of_nonneg (by omega), show ((size + 1 : Nat) : Int) = (size : Int) + 1 from by omega]
  omega
theorem peb_take {size k m : Nat} {xs : List Int} (h : Peb size k xs) (hm : m ≤ k) : Peb size m (xs.take m) := ⟨by rw [List.length_take, h.1]; omega, fun x hx => h.2 x (List.mem_of_mem_take hx)⟩
theorem peb_at {size k i : Nat} {xs : List Int} (h : Peb size k xs) (hi : i < k) : -1 ≤ xs.getD i 0 ∧ xs.getD i 0 < (size : Int) := by
  have hl := h.1
  rw [getD_at (by omega)]; exact h.2 _ (List.getElem_mem _)
theorem pow9 {size k : Nat} (h : size ≤ 8) (hk : k ≤ 3) : (size + 1) ^ k ≤ 729 := Nat.le_trans (Nat.pow_le_pow_left (show size + 1 ≤ 9 by omega) k) (Nat.le_trans (Nat.pow_le_pow_right (by decide) hk) (by decide))
theorem idx_small {size k : Nat} {xs : List Int} (h : Peb size k xs) (h8 : size ≤ 8) (hk : k ≤ 3) : idxP size xs < 729 := Nat.lt_of_lt_of_le (idxP_lt h) (pow9 h8 hk)
theorem mul9 {n : Nat} {x : Int} (hn : n ≤ 729) (h0 : 0 ≤ x) (h9 : x ≤ 9) : 0 ≤ (n : Int) * x ∧ (n : Int) * x ≤ 6561 :=
  ⟨Int.mul_nonneg (by omega) h0, Int.le_trans (Int.mul_le_mul_of_nonneg_right (show (n : Int) ≤ 729 by omega) h0) (by omega)⟩
theorem pow_cast1 {a : Int} (h : 0 ≤ a) {k : Nat} : (((a.toNat + 1) ^ (k + 1) : Nat) : Int) = (((a.toNat + 1) ^ k : Nat) : Int) * (a + 1) := by
  rw [Nat.pow_succ, Int.natCast_mul, show (((a.toNat + 1 : Nat)) : Int) = a + 1 from by omega]
theorem atP_step {size j N : Nat} (h : 0 < j) : atP size j N = atP size (j - 1) (N / (size + 1)) ++ [((N % (size + 1) : Nat) : Int) - 1] := by
  obtain ⟨i, rfl⟩ : ∃ i, j = i + 1 := ⟨j - 1, by omega⟩
  rfl
theorem row_full {T : List Int} {k : Nat} (h : T.length = k) : ((ints (List.replicate 0 0 ++ T)).toArray).toList.take (k * 1) = ints T := by
  show (ints T).take (k * 1) = ints T
  exact List.take_of_length_le (by rw [ints_length]; omega)
theorem row_full_size {T : List Int} {k : Nat} (h : T.length = k) : ((ints (List.replicate 0 0 ++ T)).toArray).size = k * 1 := by
  show (ints T).length = _
  rw [ints_length]; omega
end Go.Wk
namespace Go.Wk
open Go.RowKit
/-- numbers of descriptions, as far as they are told -/
def NumTo (T : List (List UInt8)) (text : Nat → List UInt8) (R : List Int) (N k : Nat) : Prop := R.length = N ∧ ∀ i : Nat, i < k → ∃ m : Nat, R.getD i 0 = (m : Int) ∧ T[m]? = some (text i)
theorem NumTo.zero (T : List (List UInt8)) (text : Nat → List UInt8) (N : Nat) : NumTo T text (List.replicate N 0) N 0 := ⟨by simp, fun i hi => absurd hi (by omega)⟩
theorem NumTo.step {T T' : List (List UInt8)} {text : Nat → List UInt8} {R : List Int} {N k m : Nat} (h : NumTo T text R N k) (hp : T <+: T') (hm : T'[m]? = some (text k)) (hk : k < N) : NumTo T' text (R.set k (m : Int)) N (k + 1) := by
  refine ⟨by rw [List.length_set]; exact h.1, fun i hi => ?_⟩
  by_cases e : i = k
  · subst e
    exact ⟨m, by rw [List.getD_eq_getElem?_getD, List.getElem?_set_self (by rw [h.1]; exact hk)]; rfl, hm⟩
  · obtain ⟨p, h1, h2⟩ := h.2 i (by omega)
    exact ⟨p, by rw [List.getD_eq_getElem?_getD, List.getElem?_set_ne (fun e' => e e'.symm), ← List.getD_eq_getElem?_getD]; exact h1, prefix_get hp h2⟩
theorem NumTo.all {T : List (List UInt8)} {text : Nat → List UInt8} {R : List Int} {N : Nat} (h : NumTo T text R N N) : NumOf T text R N := h
theorem NumOf.small {T : List (List UInt8)} {text : Nat → List UInt8} {R : List Int} {N : Nat} (h : NumOf T text R N) (hT : T.length ≤ 1000000) : ∀ i : Nat, 0 ≤ R.getD i 0 ∧ R.getD i 0 < 1000000 := fun i => by
  rcases Nat.lt_or_ge i N with h1 | h1
  · obtain ⟨m, e, h2⟩ := h.2 i h1
    have := (List.getElem?_eq_some_iff.1 h2).1
    rw [e]; omega
  · rw [List.getD_eq_getElem?_getD, List.getElem?_eq_none (by rw [h.1]; exact h1)]; exact ⟨Int.le_refl 0, by decide⟩
theorem peb_pebbles {a : St} (hv : validB a = true) {k : Nat} (h1 : 1 ≤ k) (h3 : k ≤ 3) (n : Nat) : Pebbles a (atP a.n.toNat k n) := by
  have ha := validB_fine hv
  refine ⟨hv, ha, fun x hx => ?_, by rw [atP_len]; exact h1, by rw [atP_len]; exact h3⟩
  have := ((atP_peb a.n.toNat k n).2 x hx).2
  have := ha.lo
  omega
theorem num_at {size k n : Nat} {R : List Int} (h : n < (size + 1) ^ k) : numP size R (atP size k n) = R.getD n 0 := by unfold numP; rw [idx_at _ _ _ h]
theorem descM_len {size : Nat} {R xs : List Int} (h8 : size ≤ 8) (hR : ∀ i : Nat, 0 ≤ R.getD i 0 ∧ R.getD i 0 < 1000000) : ∀ i : Nat, (descM size R xs i).length ≤ 105 * i
  | 0 => Nat.le_refl _
  | i + 1 => by
    have ih := descM_len (xs := xs) h8 hR i
    have h1 := moves_le size R xs i size
    have h2 := commas_len (L := movesTo size R xs i size) fun m hm => by
      obtain ⟨x, _, rfl⟩ := moves_mem.1 hm
      have := hR (idxP size (xs.set i (x : Int)))
      unfold numP; omega
    simp only [descM, List.length_append, List.length_cons, List.length_nil]
    omega
theorem moves_small {size : Nat} {R xs : List Int} {i m : Nat} (hR : ∀ i : Nat, 0 ≤ R.getD i 0 ∧ R.getD i 0 < 1000000) : ∀ z ∈ movesTo size R xs i m, 0 ≤ z ∧ z < 1000000000000 := fun z hz => by
  obtain ⟨x, _, rfl⟩ := moves_mem.1 hz
  have := hR (idxP size (xs.set i (x : Int)))
  unfold numP; omega
end Go.Wk
