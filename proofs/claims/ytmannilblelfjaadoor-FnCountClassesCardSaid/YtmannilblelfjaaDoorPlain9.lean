/-
  FACTS JOINED: the formula of all atoms. No program in sight.
-/
import Derived.Test.YtmannilblelfjaaDoorPlain8
namespace Go.Wk
open Go.RowKit

/-- the first k texts, an operator before each -/
def preJ (op : List UInt8) (l : List (List UInt8)) : Nat → List UInt8
  | 0 => []
  | k + 1 => preJ op l k ++ (op ++ l.getD k [])
def joinB (op : List UInt8) (l : List (List UInt8)) : List UInt8 := if l.length = 0 then [116] else preJ op l (l.length - 1) ++ l.getD (l.length - 1) []
def specJ (op : List UInt8) (l : List (List UInt8)) (k : Nat) : List UInt8 := if k < l.length then preJ op l k else preJ op l (l.length - 1) ++ l.getD (l.length - 1) []
theorem preJ_len {op : List UInt8} {l : List (List UInt8)} (ho : op.length ≤ 1) (hl : ∀ s ∈ l, s.length ≤ 8) : ∀ k, (preJ op l k).length ≤ 9 * k
  | 0 => by simp [preJ]
  | k + 1 => by
    have h1 := preJ_len ho hl k
    have h2 : (l.getD k []).length ≤ 8 := by
      rw [List.getD_eq_getElem?_getD]
      rcases Nat.lt_or_ge k l.length with h | h
      · rw [List.getElem?_eq_getElem h]; exact hl _ (List.getElem_mem h)
      · rw [List.getElem?_eq_none h]; simp
    simp only [preJ, List.length_append]
    omega
theorem get_len {l : List (List UInt8)} (hl : ∀ s ∈ l, s.length ≤ 8) (k : Nat) : (l.getD k []).length ≤ 8 := by
  rw [List.getD_eq_getElem?_getD]
  rcases Nat.lt_or_ge k l.length with h | h
  · rw [List.getElem?_eq_getElem h]; exact hl _ (List.getElem_mem h)
  · rw [List.getElem?_eq_none h]; simp
theorem specJ_more {op : List UInt8} {l : List (List UInt8)} {k : Nat} (h : k + 1 < l.length) : specJ op l (k + 1) = (specJ op l k ++ op) ++ l.getD k [] := by
  unfold specJ
  rw [if_pos h, if_pos (by omega), preJ, List.append_assoc]
theorem specJ_last {op : List UInt8} {l : List (List UInt8)} {k : Nat} (h : k < l.length) (h2 : ¬ k + 1 < l.length) : specJ op l (k + 1) = specJ op l k ++ l.getD k [] := by
  obtain h3 : l.length - 1 = k := by omega
  unfold specJ
  rw [if_neg h2, if_pos h, h3]
theorem specJ_zero {op : List UInt8} {l : List (List UInt8)} (h : 0 < l.length) : specJ op l 0 = [] := by unfold specJ; rw [if_pos h]; rfl
theorem specJ_end {op : List UInt8} {l : List (List UInt8)} {k : Nat} (h : l.length ≤ k) (h0 : l.length ≠ 0) : specJ op l k = joinB op l := by
  unfold specJ joinB; rw [if_neg (by omega), if_neg h0]
theorem specJ_len {op : List UInt8} {l : List (List UInt8)} (ho : op.length ≤ 1) (hl : ∀ s ∈ l, s.length ≤ 8) (k : Nat) : (specJ op l k).length ≤ 9 * k + 9 * l.length + 8 := by
  have h1 := preJ_len ho hl k
  have h2 := preJ_len ho hl (l.length - 1)
  have h3 := get_len hl (l.length - 1)
  unfold specJ
  split
  · omega
  · rw [List.length_append]; omega
theorem joinB_len {op : List UInt8} {l : List (List UInt8)} (ho : op.length ≤ 1) (hl : ∀ s ∈ l, s.length ≤ 8) : (joinB op l).length ≤ 9 * l.length + 8 := by
  have h2 := preJ_len ho hl (l.length - 1)
  have h3 := get_len hl (l.length - 1)
  unfold joinB
  split
  · simp
  · rw [List.length_append]; omega
theorem name_le (i : Nat) : (nameS i).length ≤ 1 := by unfold nameS; rw [List.length_take]; omega
theorem signed_le {a : St} {xs : List Int} : ∀ n, ∀ s ∈ (factsL a xs n).map signed, s.length ≤ 8 := by
  have sg : ∀ f : List UInt8 × Bool, f.1.length ≤ 3 → (signed f).length ≤ 8 := fun f h => by
    unfold signed signS; split
    · omega
    · simp; omega
  have hm : ∀ i k, ∀ f ∈ moreL a xs i k, f.1.length ≤ 3 := fun i k => by
    induction k with
    | zero => simp [moreL]
    | succ k ih =>
      intro f hf
      have h1 := name_le i
      have h2 := name_le k
      simp only [moreL, List.mem_append, List.mem_cons, List.not_mem_nil, or_false] at hf
      rcases hf with hf | rfl | rfl | rfl
      · exact ih f hf
      all_goals simp; omega
  have all : ∀ n, ∀ f ∈ factsL a xs n, f.1.length ≤ 3 := fun n => by
    induction n with
    | zero => simp [factsL]
    | succ n ih =>
      intro f hf
      rw [factsL, factL] at hf
      rcases List.mem_append.1 hf with h | h
      · exact ih f h
      · rcases List.mem_append.1 h with h | h
        · have h1 := name_le n
          simp only [headL, List.mem_cons, List.not_mem_nil, or_false] at h
          rcases h with rfl | rfl <;> (simp; omega)
        · exact hm n n f h
  intro n s hs
  obtain ⟨f, hf, rfl⟩ := List.mem_map.1 hs
  exact sg f (all n f hf)
theorem take_getS {l : List (List UInt8)} {k m : Nat} (h : k < m) : (l.take m).getD k [] = l.getD k [] := by
  rw [List.getD_eq_getElem?_getD, List.getD_eq_getElem?_getD, List.getElem?_take, if_pos h]
def findS (s : List UInt8) (c : Int) : Int := if (s.findIdx fun b => decide ((b.toNat : Int) = c)) < s.length then ((s.findIdx fun b => decide ((b.toNat : Int) = c) : Nat) : Int) else -1
theorem findS_at {s : List UInt8} {c : Int} {k : Nat} (hk : k < s.length) (h : ∀ i : Nat, i < k → ¬ ((s.getD i 0).toNat : Int) = c) (hq : ((s.getD k 0).toNat : Int) = c) : findS s c = k := by
  have e : (s.findIdx fun b => decide ((b.toNat : Int) = c)) = k := by
    rw [List.findIdx_eq hk]
    rw [getD_at hk] at hq
    refine ⟨by simpa using hq, fun j hj => ?_⟩
    have := h j hj
    rw [getD_at (by omega)] at this
    simpa using this
  unfold findS
  rw [e, if_pos hk]
theorem findS_none {s : List UInt8} {c : Int} (h : ∀ i : Nat, i < s.length → ¬ ((s.getD i 0).toNat : Int) = c) : findS s c = -1 := by
  have e : (s.findIdx fun b => decide ((b.toNat : Int) = c)) = s.length := by
    rw [List.findIdx_eq_length]
    intro x hx
    obtain ⟨i, hi, rfl⟩ := List.getElem_of_mem hx
    have := h i hi
    rw [getD_at hi] at this
    simpa using this
  unfold findS
  rw [e, if_neg (by omega)]
def formB (a : St) (xs : List Int) : List UInt8 := joinB [38] ((factsL a xs xs.length).map signed)
def formOut (a : St) (xs : List Int) : List UInt8 := if listB a xs then formB a xs else []
theorem formOut_no {a : St} {xs : List Int} (h : listB a xs = false) : formOut a xs = [] := by unfold formOut; rw [h]; rfl
theorem formOut_yes {a : St} {xs : List Int} (h : listB a xs = true) : formOut a xs = formB a xs := by unfold formOut; rw [h]; rfl
theorem facts_step {a : St} {xs : List Int} {k : Nat} : (factsL a xs (k + 1)).map signed = (factsL a xs k).map signed ++ (factL a xs k).map signed := by rw [factsL, List.map_append]
/-- the facts, the first k of them signed -/
def mixL (l : List (List UInt8 × Bool)) (k : Nat) : List (List UInt8) := (l.take k).map signed ++ (l.drop k).map Prod.fst
theorem mixL_zero (l : List (List UInt8 × Bool)) : mixL l 0 = l.map Prod.fst := by simp [mixL]
theorem mixL_all {l : List (List UInt8 × Bool)} {k : Nat} (h : l.length ≤ k) : mixL l k = l.map signed := by
  unfold mixL; rw [List.take_of_length_le h, List.drop_of_length_le h]; simp
@[simp] theorem mixL_length (l : List (List UInt8 × Bool)) (k : Nat) : (mixL l k).length = l.length := by
  simp [mixL]; omega
theorem mixL_at {l : List (List UInt8 × Bool)} {k : Nat} (h : k < l.length) : (mixL l k).getD k [] = l[k].1 := by
  have h1 : ((l.take k).map signed).length = k := by simp; omega
  unfold mixL
  rw [List.getD_eq_getElem?_getD, List.getElem?_append_right (by omega), h1, Nat.sub_self, List.getElem?_map, List.getElem?_drop, Nat.add_zero, List.getElem?_eq_getElem h]
  rfl
theorem mixL_step {l : List (List UInt8 × Bool)} {k : Nat} (h : k < l.length) : (mixL l k).set k (signS ((l.map Prod.snd).getD k false) ((mixL l k).getD k [])) = mixL l (k + 1) := by
  rw [mixL_at h, map_getD Prod.snd ([], false) false h, getD_at h]
  have h1 : ((l.take k).map signed).length = k := by simp; omega
  unfold mixL
  rw [List.set_append_right _ _ (by omega), h1, Nat.sub_self, List.drop_eq_getElem_cons h, List.map_cons, List.set_cons_zero, List.take_succ_eq_append_getElem h, List.map_append, List.append_assoc]
  rfl
theorem mixL_le {a : St} {xs : List Int} {n k : Nat} (h : k < (factsL a xs n).length) : ((mixL (factsL a xs n) k).getD k []).length ≤ 8 := by
  rw [mixL_at h]
  have h1 := signed_le (a := a) (xs := xs) n (signed (factsL a xs n)[k]) (List.mem_map.2 ⟨_, List.getElem_mem h, rfl⟩)
  unfold signed signS at h1
  split at h1
  · exact h1
  · rw [List.length_append] at h1; omega
theorem set_take {cur : Array Value} {n off : Nat} {xs : List (List UInt8)} {x : List UInt8} (ht : cur.toList.take n = strs xs) : (cur.setIfInBounds off (str x)).toList.take n = strs (xs.set off x) := by
  rw [Array.toList_setIfInBounds, List.take_set, ht]
  simp [strs, List.map_set]
end Go.Wk
