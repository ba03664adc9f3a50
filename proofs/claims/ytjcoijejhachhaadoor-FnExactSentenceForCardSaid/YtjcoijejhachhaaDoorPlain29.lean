/-
  LAWS OF DRAWN LISTS: answers. No program in sight.
-/
import Derived.Test.YtjcoijejhachhaaDoorPlain27
namespace Go.Wk
open Go.RowKit
def ansL (a : St) (xs : List Int) (b : St) (ys : List Int) (x : Int) : List Int := if ansOk a xs b ys x then ansTo a xs b ys x b.n.toNat else []
theorem mem_ansTo {a b : St} {xs ys : List Int} {x z : Int} : ∀ k : Nat, z ∈ ansTo a xs b ys x k ↔ ∃ y : Nat, y < k ∧ z = y ∧ stillB a xs b ys x y = true
  | 0 => by simp [ansTo]
  | k + 1 => by
    have ih := mem_ansTo (a := a) (b := b) (xs := xs) (ys := ys) (x := x) (z := z) k
    cases h : stillB a xs b ys x k with
    | true =>
      rw [ansTo_yes h, List.mem_append, ih, List.mem_singleton]
      constructor
      · rintro (⟨y, h1, h2, h3⟩ | h1)
        · exact ⟨y, by omega, h2, h3⟩
        · exact ⟨k, by omega, h1, h⟩
      · rintro ⟨y, h1, h2, h3⟩
        rcases Nat.lt_or_ge y k with h4 | h4
        · exact .inl ⟨y, h4, h2, h3⟩
        · obtain rfl : y = k := by omega
          exact .inr h2
    | false =>
      rw [ansTo_no h, ih]
      constructor
      · rintro ⟨y, h1, h2, h3⟩; exact ⟨y, by omega, h2, h3⟩
      · rintro ⟨y, h1, h2, h3⟩
        refine ⟨y, ?_, h2, h3⟩
        rcases Nat.lt_or_ge y k with h4 | h4
        · exact h4
        · obtain rfl : y = k := by omega
          rw [h3] at h; cases h
theorem ansL_le (a : St) (xs : List Int) (b : St) (ys : List Int) (x : Int) : (ansL a xs b ys x).length ≤ 8 := by
  unfold ansL
  split
  · rename_i h
    have h1 := ansTo_le a xs b ys x b.n.toNat
    have h2 := (listsB_true (ansOk_true h).1).2.1.fine.hi
    omega
  · exact Nat.zero_le _
theorem ansL_has {a b : St} {xs ys : List Int} {x : Int} {y : Nat} (h : ansOk a xs b ys x = true) (hy : y < b.n.toNat) : decide ((y : Int) ∈ ansL a xs b ys x) = stillB a xs b ys x y := by
  unfold ansL
  rw [if_pos h, Bool.eq_iff_iff, decide_eq_true_iff, mem_ansTo]
  constructor
  · rintro ⟨z, h1, h2, h3⟩
    obtain rfl : y = z := by omega
    exact h3
  · exact fun h3 => ⟨y, hy, rfl, h3⟩
theorem still_comm {a b : St} {xs ys : List Int} {x y : Int} (hl : xs.length = ys.length) (hs : sameB a xs b ys = true) : stillB a xs b ys x y = stillB b ys a xs y x := by
  have h1 := same_more (a := a) (b := b) (x := x) (y := y) hl
  have h2 := same_more (a := b) (b := a) (x := y) (y := x) hl.symm
  rw [hs, Bool.true_and] at h1
  rw [sameB_comm hl.symm, hs, Bool.true_and] at h2
  rw [← h1, ← h2, sameB_comm (by simp [hl])]
theorem way_more {a b : St} {xs ys : List Int} {x y : Nat} (h : listsB a xs b ys = true) (h3 : xs.length ≤ 3) (hs : sameB a xs b ys = true) (hx : x < a.n.toNat) (hy : y < b.n.toNat) :
    wayB a (xs ++ [(x : Int)]) b (ys ++ [(y : Int)]) = stillB a xs b ys x y := by
  unfold wayB
  rw [lists_more h h3 hx hy, same_more (listsB_true h).2.2, hs]; rfl
theorem pairOk_comm (a b : St) (x y v u : Int) : pairOk a b x y v u = pairOk a b v u x y := by
  unfold pairOk
  rw [show decide (v = x) = decide (x = v) from by simp [eq_comm], show decide (u = y) = decide (y = u) from by simp [eq_comm], Bool.and_assoc, Bool.and_assoc]
  congr 1
  exact Bool.and_comm _ _
theorem same_at {a b : St} {xs ys : List Int} {i : Nat} (hl : xs.length = ys.length) (hs : sameB a xs b ys = true) (hi : i < xs.length) :
    a.inSet (xs.getD i 0) = b.inSet (ys.getD i 0) ∧ a.inRel (xs.getD i 0) (xs.getD i 0) = b.inRel (ys.getD i 0) (ys.getD i 0) ∧ ∀ k : Nat, k < i → pairOk a b (xs.getD i 0) (ys.getD i 0) (xs.getD k 0) (ys.getD k 0) = true := by
  unfold sameB at hs
  have h1 := List.all_eq_true.1 hs i (List.mem_range.2 hi)
  unfold stillAt at h1
  obtain ⟨h2, h3, h4⟩ := (stillB_true (by simp [hl])).1 h1
  refine ⟨h2, h3, fun k hk => ?_⟩
  have h5 := h4 k (by rw [List.length_take]; omega)
  rwa [take_getD hk, take_getD hk] at h5
theorem same_pairs {a b : St} {xs ys : List Int} {i k : Nat} (hl : xs.length = ys.length) (hs : sameB a xs b ys = true) (hi : i < xs.length) (hk : k < xs.length) : pairOk a b (xs.getD i 0) (ys.getD i 0) (xs.getD k 0) (ys.getD k 0) = true := by
  rcases Nat.lt_trichotomy k i with h | h | h
  · exact (same_at hl hs hi).2.2 k h
  · subst h
    have h1 := (same_at hl hs hi).2.1
    exact pairOk_true.2 ⟨by simp, h1, h1⟩
  · rw [pairOk_comm]; exact (same_at hl hs hk).2.2 i h
theorem still_at {a b : St} {xs ys : List Int} {i : Nat} {y : Int} (hl : xs.length = ys.length) (hs : sameB a xs b ys = true) (hi : i < xs.length) : stillB a xs b ys (xs.getD i 0) y = decide (y = ys.getD i 0) := by
  rw [Bool.eq_iff_iff, decide_eq_true_iff]
  constructor
  · intro h
    have h1 := ((stillB_true hl).1 h).2.2 i hi
    have h2 := (pairOk_true.1 h1).1
    simp only [decide_true] at h2
    have h3 : decide (ys.getD i 0 = y) = true := h2.symm
    exact (of_decide_eq_true h3).symm
  · rintro rfl
    have h1 := same_at hl hs hi
    exact (stillB_true hl).2 ⟨h1.1, h1.2.1, fun k hk => same_pairs hl hs hi hk⟩
theorem ansTo_point {a b : St} {xs ys : List Int} {x c : Int} (h : ∀ y : Int, stillB a xs b ys x y = decide (y = c)) (h0 : 0 ≤ c) : ∀ k : Nat, ansTo a xs b ys x k = if c < k then [c] else []
  | 0 => by rw [if_neg (by omega)]; rfl
  | k + 1 => by
    have ih := ansTo_point h h0 k
    by_cases hk : c = k
    · rw [ansTo_yes (by rw [h]; exact decide_eq_true hk.symm), ih, if_neg (by omega), if_pos (by omega), hk]; rfl
    · rw [ansTo_no (by rw [h]; exact decide_eq_false (fun e => hk e.symm)), ih]
      by_cases h1 : c < k
      · rw [if_pos h1, if_pos (by omega)]
      · rw [if_neg h1, if_neg (by omega)]
theorem ansL_at {a b : St} {xs ys : List Int} {x : Int} {i : Nat} (h : ansOk a xs b ys x = true) (hi : i < xs.length) (hx : xs.getD i 0 = x) : ansL a xs b ys x = [ys.getD i 0] := by
  obtain ⟨hLL, hel, hs⟩ := ansOk_true h
  obtain ⟨LA, LB, hl⟩ := listsB_true hLL
  have hy : b.El (ys.getD i 0) := by
    have := LB.els.at (i := (i : Int)) (by omega) (by omega)
    simpa using this
  obtain ⟨y0, y1⟩ := hy
  unfold ansL
  rw [if_pos h, ← hx, ansTo_point (c := ys.getD i 0) (fun y => still_at hl hs hi) y0, if_pos (by omega)]
theorem ansOk_of {a b : St} {xs ys : List Int} {x : Int} (h : wayB a xs b ys = true) (h0 : 0 ≤ x) (h1 : x < a.n) : ansOk a xs b ys x = true := by
  unfold wayB at h
  unfold ansOk
  rw [Bool.and_eq_true] at h
  rw [h.1, h.2, elB_true.2 ⟨h0, h1⟩]; rfl
theorem ansOk_comm {a b : St} {xs ys : List Int} {x : Int} {y : Nat} (h : ansOk a xs b ys x = true) (hy : y < b.n.toNat) : ansOk b ys a xs y = true := by
  obtain ⟨hLL, hel, hs⟩ := ansOk_true h
  obtain ⟨LA, LB, hl⟩ := listsB_true hLL
  have e : listB b ys = true ∧ listB a xs = true := by
    unfold listsB at hLL; simp only [Bool.and_eq_true] at hLL; exact ⟨hLL.1.2, hLL.1.1⟩
  unfold ansOk
  rw [listsB_of e.1 e.2 hl.symm, elB_true.2 ⟨by omega, by omega⟩, sameB_comm hl.symm, hs]; rfl
theorem ans_swap {a b : St} {xs ys : List Int} {x : Int} {y : Nat} (h : ansOk a xs b ys x = true) (hy : y < b.n.toNat) :
    decide ((y : Int) ∈ ansL a xs b ys x) = decide (x ∈ ansTo b ys a xs y a.n.toNat) := by
  obtain ⟨hLL, hel, hs⟩ := ansOk_true h
  obtain ⟨LA, LB, hl⟩ := listsB_true hLL
  obtain ⟨x0, x1⟩ := elB_true.1 hel
  rw [ansL_has h hy, still_comm hl hs, Bool.eq_iff_iff, decide_eq_true_iff, mem_ansTo]
  constructor
  · exact fun h3 => ⟨x.toNat, by omega, by omega, by rw [Int.toNat_of_nonneg x0]; exact h3⟩
  · rintro ⟨z, h1, h2, h3⟩
    rw [h2]; exact h3
theorem ans_way {a b : St} {xs ys : List Int} {x : Int} {k : Nat} (h : ansOk a xs b ys x = true) (h3 : xs.length ≤ 3) (h0 : 0 ≤ x) (hk : (k : Int) < b.n) : ¬ ((decide ((k : Int) ∈ ansL a xs b ys x)) != wayB a (xs ++ [x]) b (ys ++ [(k : Int)])) = true := by
  obtain ⟨hLL, hel, hs⟩ := ansOk_true h
  have h1 := elB_true.1 hel
  obtain ⟨m, rfl⟩ : ∃ m : Nat, x = m := ⟨x.toNat, by omega⟩
  rw [ansL_has h (by omega), way_more hLL h3 hs (by have := h1.2; omega) (by omega)]
  simp
theorem ans_back {a b : St} {xs ys : List Int} {x : Int} {k : Nat} (h : ansOk a xs b ys x = true) (hk : (k : Int) < b.n) : ¬ ((decide ((k : Int) ∈ ansL a xs b ys x)) != (decide (x ∈ ansTo b ys a xs k a.n.toNat))) = true := by
  rw [ans_swap h (by omega)]
  simp
theorem not_mem_of {xs : List Int} {y : Int} (h : ∀ i : Nat, i < xs.length → ¬ xs.getD i 0 = y) : decide (y ∈ xs) = false := by
  refine decide_eq_false fun hm => ?_
  obtain ⟨i, hi, e⟩ := List.mem_iff_getElem.1 hm
  exact h i hi (by rw [getD_at hi]; exact e)
theorem mem_of_at {xs : List Int} {y : Int} {i : Nat} (hi : i < xs.length) (h : xs.getD i 0 = y) : decide (y ∈ xs) = true := by
  refine decide_eq_true ?_
  rw [← h, getD_at hi]
  exact List.getElem_mem _
theorem same_list {xs ys : List Int} (hl : xs.length = ys.length) (h : ∀ i : Nat, i < xs.length → xs.getD i 0 = ys.getD i 0) : (xs == ys) = true := by
  rw [beq_iff_eq]
  refine List.ext_getElem hl fun i h1 h2 => ?_
  have := h i h1
  rwa [getD_at h1, getD_at h2] at this
theorem other_list {xs ys : List Int} {i : Nat} (h : ¬ xs.getD i 0 = ys.getD i 0) : (xs == ys) = false := by
  rw [beq_eq_false_iff_ne]
  intro e; exact h (by rw [e])
end Go.Wk
