/-
  LAWS OF DRAWN LISTS: beginnings. No program in sight.
-/
import Derived.Test.YtjcoijejhachhaaDoorCore2
namespace Go.Wk
open Go.RowKit
theorem St.Tame.small {a : St} (h : a.Tame) : a.Small := ⟨by have := h.set; omega, by have := h.rel; omega⟩
theorem longI_listed {a b : St} {xs ys : List Int} (h : ¬ longI a xs b ys < 0) : listsB a xs b ys = true := by
  cases hl : listsB a xs b ys with
  | true => rfl
  | false => unfold longI at h; rw [hl, if_neg (by decide)] at h; omega
theorem longI_le {a b : St} {xs ys : List Int} (h : listsB a xs b ys = true) : longI a xs b ys ≤ xs.length := by
  unfold longI
  rw [if_pos h]
  have := List.findIdx_le_length (p := fun i => !stillAt a xs b ys i) (xs := List.range xs.length)
  rw [List.length_range] at this
  omega
theorem listB_take {a : St} {xs : List Int} (h : listB a xs = true) (k : Nat) : listB a (xs.take k) = true := by
  have hL := listB_true h
  unfold listB
  simp only [Bool.and_eq_true, decide_eq_true_eq]
  refine ⟨⟨hL.valid, ?_⟩, ?_⟩
  · have := hL.len; rw [List.length_take]; omega
  · rw [List.all_eq_true]; exact fun x hx => elB_true.2 (hL.els x (List.mem_of_mem_take hx))
theorem listsB_take {a b : St} {xs ys : List Int} (h : listsB a xs b ys = true) (k : Nat) : listsB a (xs.take k) b (ys.take k) = true := by
  unfold listsB at h ⊢
  simp only [Bool.and_eq_true, decide_eq_true_eq] at h ⊢
  exact ⟨⟨listB_take h.1.1 k, listB_take h.1.2 k⟩, by have := h.2; rw [List.length_take, List.length_take]; omega⟩
theorem long_way {a b : St} {xs ys : List Int} {k : Nat} (h : listsB a xs b ys = true) (hk : k ≤ xs.length) : wayB a (xs.take k) b (ys.take k) = decide ((k : Int) ≤ longI a xs b ys) := by
  unfold wayB longI
  rw [listsB_take h, if_pos h, Bool.true_and, Bool.eq_iff_iff, decide_eq_true_iff]
  have e : (xs.take k).length = k := by rw [List.length_take]; omega
  unfold sameB
  rw [e, List.all_eq_true]
  constructor
  · intro h1
    have : k ≤ (List.range xs.length).findIdx fun i => !stillAt a xs b ys i := by
      rcases Nat.lt_or_ge ((List.range xs.length).findIdx fun i => !stillAt a xs b ys i) k with h2 | h2
      · have h3 : ((List.range xs.length).findIdx fun i => !stillAt a xs b ys i) < (List.range xs.length).length := by rw [List.length_range]; omega
        have h4 := List.findIdx_getElem (w := h3)
        rw [List.getElem_range] at h4
        have h5 := h1 _ (List.mem_range.2 h2)
        rw [stillAt_take h2] at h5
        rw [h5] at h4
        cases h4
      · exact h2
    omega
  · intro h1 i hi
    have hi' := List.mem_range.1 hi
    rw [stillAt_take hi']
    have h2 : i < (List.range xs.length).findIdx fun i => !stillAt a xs b ys i := by omega
    have h3 := List.not_of_lt_findIdx h2
    rw [List.getElem_range] at h3
    simpa using h3
end Go.Wk
