/-
  PLAIN NOTIONS OF CHAPTER 4: lists of elements, in the same way; how far two lists are. No program in sight.
-/
import Derived.Test.YtmannilblelfjaaDoorPlain
namespace Go.Wk
open Go.RowKit

theorem OpQ.cast {P : Program} {n : Nat} {C : World → Prop} {e : List (Nat × Value)} {o : Oper} {v v' : Value} (h : v = v') (k : OpQ P n C e o v) : OpQ P n C e o v' := h ▸ k
def idxI (xs : List Int) (q : Int → Bool) : Int := if xs.any q then ((xs.findIdx q : Nat) : Int) else -1
theorem idxI_any (xs : List Int) (q : Int → Bool) : decide (0 ≤ idxI xs q) = xs.any q := by
  unfold idxI
  cases h : xs.any q <;> simp
theorem idxI_at {xs : List Int} {q : Int → Bool} {k : Nat} (hk : k < xs.length) (h : ∀ i : Nat, i < k → q (xs.getD i 0) = false) (hq : q (xs.getD k 0) = true) : idxI xs q = k := by
  have e : xs.getD k 0 = xs[k] := by rw [List.getD_eq_getElem?_getD, List.getElem?_eq_getElem hk]; rfl
  rw [e] at hq
  unfold idxI
  rw [if_pos (List.any_eq_true.2 ⟨_, List.getElem_mem hk, hq⟩)]
  congr 1
  rw [List.findIdx_eq hk]
  refine ⟨hq, fun j hj => ?_⟩
  have := h j hj
  rw [List.getD_eq_getElem?_getD, List.getElem?_eq_getElem (by omega)] at this
  exact this
theorem any_none {xs : List Int} {q : Int → Bool} (h : ∀ i : Nat, i < xs.length → q (xs.getD i 0) = false) : xs.any q = false := by
  rw [List.any_eq_false]
  intro x hx
  obtain ⟨i, hi, rfl⟩ := List.getElem_of_mem hx
  have := h i hi
  rw [List.getD_eq_getElem?_getD, List.getElem?_eq_getElem hi] at this
  simpa using this
theorem idxI_none {xs : List Int} {q : Int → Bool} (h : ∀ i : Nat, i < xs.length → q (xs.getD i 0) = false) : idxI xs q = -1 := by
  unfold idxI
  rw [any_none h]; rfl
theorem all_some {xs : List Int} {q : Int → Bool} (h : ∀ i : Nat, i < xs.length → q (xs.getD i 0) = true) : xs.all q = true := by
  rw [List.all_eq_true]
  intro x hx
  obtain ⟨i, hi, rfl⟩ := List.getElem_of_mem hx
  have := h i hi
  rwa [List.getD_eq_getElem?_getD, List.getElem?_eq_getElem hi] at this
theorem all_not {xs : List Int} {q : Int → Bool} {i : Nat} (hi : i < xs.length) (h : q (xs.getD i 0) = false) : xs.all q = false := by
  rw [List.all_eq_false]
  refine ⟨_, List.getElem_mem hi, ?_⟩
  rw [List.getD_eq_getElem?_getD, List.getElem?_eq_getElem hi] at h
  simpa using h
def elB (a : St) (x : Int) : Bool := decide (0 ≤ x) && decide (x < a.n)
theorem elB_true {a : St} {x : Int} : elB a x = true ↔ a.El x := by simp [elB, St.El]
theorem not_any_elB (a : St) (xs : List Int) : (!(xs.any fun x => !elB a x)) = xs.all (elB a) := by
  rw [List.all_eq_not_any_not]
def listB (a : St) (xs : List Int) : Bool := validB a && decide ((xs.length : Int) ≤ 4) && xs.all (elB a)
def listsB (a : St) (xs : List Int) (b : St) (ys : List Int) : Bool := listB a xs && listB b ys && decide ((xs.length : Int) = ys.length)
structure Listed (a : St) (xs : List Int) : Prop where
  valid : validB a = true
  fine : a.Fine
  els : a.Els xs
  len : xs.length ≤ 4
theorem listB_true {a : St} {xs : List Int} (h : listB a xs = true) : Listed a xs := by
  unfold listB at h
  simp only [Bool.and_eq_true, decide_eq_true_eq] at h
  exact ⟨h.1.1, validB_fine h.1.1, fun x hx => elB_true.1 (List.all_eq_true.1 h.2 x hx), by have := h.1.2; omega⟩
theorem listsB_true {a b : St} {xs ys : List Int} (h : listsB a xs b ys = true) : Listed a xs ∧ Listed b ys ∧ xs.length = ys.length := by
  unfold listsB at h
  simp only [Bool.and_eq_true, decide_eq_true_eq] at h
  exact ⟨listB_true h.1.1, listB_true h.1.2, by have := h.2; omega⟩
theorem St.Els.take {a : St} {xs : List Int} (h : a.Els xs) (k : Nat) : a.Els (xs.take k) := fun x hx => h x (List.mem_of_mem_take hx)
/-- are the elements at i to those ahead of them as the others are? -/
def stillAt (a : St) (xs : List Int) (b : St) (ys : List Int) (i : Nat) : Bool := stillB a (xs.take i) b (ys.take i) (xs.getD i 0) (ys.getD i 0)
def sameB (a : St) (xs : List Int) (b : St) (ys : List Int) : Bool := (List.range xs.length).all fun i => stillAt a xs b ys i
theorem sameB_true {a b : St} {xs ys : List Int} {k : Nat} (hk : xs.length ≤ k) (h : ∀ i : Nat, i < k → stillAt a xs b ys i = true) : sameB a xs b ys = true := by
  unfold sameB
  rw [List.all_eq_true]
  intro i hi
  exact h i (by have := List.mem_range.1 hi; omega)
theorem sameB_false {a b : St} {xs ys : List Int} {k : Nat} (hk : k < xs.length) (h : stillAt a xs b ys k = false) : sameB a xs b ys = false := by
  unfold sameB
  rw [List.all_eq_false]
  exact ⟨k, List.mem_range.2 hk, by simp [h]⟩
def wayB (a : St) (xs : List Int) (b : St) (ys : List Int) : Bool := listsB a xs b ys && sameB a xs b ys
def longI (a : St) (xs : List Int) (b : St) (ys : List Int) : Int := if listsB a xs b ys then (((List.range xs.length).findIdx fun i => !stillAt a xs b ys i : Nat) : Int) else -1
theorem longI_at {a b : St} {xs ys : List Int} {k : Nat} (hl : listsB a xs b ys = true) (hk : k < xs.length) (h : ∀ i : Nat, i < k → stillAt a xs b ys i = true) (hn : stillAt a xs b ys k = false) : longI a xs b ys = k := by
  unfold longI
  rw [if_pos hl]
  congr 1
  rw [List.findIdx_eq (by simpa using hk)]
  simp only [List.getElem_range, hn, Bool.not_false, true_and]
  intro j hj
  simp [h j hj]
theorem longI_all {a b : St} {xs ys : List Int} (hl : listsB a xs b ys = true) (h : ∀ i : Nat, i < xs.length → stillAt a xs b ys i = true) : longI a xs b ys = xs.length := by
  unfold longI
  rw [if_pos hl]
  congr 1
  have := List.findIdx_eq_length (p := fun i => !stillAt a xs b ys i) (xs := List.range xs.length)
  rw [List.length_range] at this
  rw [this]
  intro x hx
  simp [h x (List.mem_range.1 hx)]
theorem take_len {xs : List Int} {k m : Nat} (h : k ≤ m) : (xs.take m).take k = xs.take k := by rw [List.take_take, Nat.min_eq_left h]
theorem take_getD {xs : List Int} {k m : Nat} (h : k < m) : (xs.take m).getD k 0 = xs.getD k 0 := by
  rw [List.getD_eq_getElem?_getD, List.getD_eq_getElem?_getD, List.getElem?_take, if_pos h]
theorem stillAt_take {a b : St} {xs ys : List Int} {i m : Nat} (h : i < m) : stillAt a (xs.take m) b (ys.take m) i = stillAt a xs b ys i := by
  unfold stillAt
  rw [take_len (by omega), take_len (by omega), take_getD h, take_getD h]
/-- the same, said by all elements up to the last one -/
theorem fits_true {a b : St} {xs ys : List Int} {m : Nat} (h1 : xs.length = m + 1) (h2 : ys.length = m + 1) : stillAt a xs b ys m = true ↔
    a.inSet (xs.getD m 0) = b.inSet (ys.getD m 0) ∧ ∀ k : Nat, k ≤ m → pairOk a b (xs.getD m 0) (ys.getD m 0) (xs.getD k 0) (ys.getD k 0) = true := by
  unfold stillAt
  rw [stillB_true (by simp [h1, h2])]
  have hl : (xs.take m).length = m := by simp [h1]
  rw [hl]
  constructor
  · rintro ⟨e1, e2, e3⟩
    refine ⟨e1, fun k hk => ?_⟩
    rcases Nat.lt_or_ge k m with h | h
    · have := e3 k h
      rwa [take_getD h, take_getD h] at this
    · obtain rfl : k = m := by omega
      exact pairOk_true.2 ⟨by simp, e2, e2⟩
  · rintro ⟨e1, e3⟩
    refine ⟨e1, (pairOk_true.1 (e3 m (Nat.le_refl _))).2.1, fun k hk => ?_⟩
    rw [take_getD hk, take_getD hk]
    exact e3 k (by omega)
theorem bneT {x : Bool} : (x != x) = true → False := by simp
theorem rep_set {xs : List Int} {k : Nat} (hk : k < xs.length) : (xs.take k ++ List.replicate (xs.length - k) 0).set k (xs.getD k 0) = xs.take (k + 1) ++ List.replicate (xs.length - (k + 1)) 0 := by
  have e : xs.length - k = (xs.length - (k + 1)) + 1 := by omega
  rw [e, List.replicate_succ, List.set_append_right _ _ (by rw [List.length_take]; omega)]
  rw [List.take_succ_eq_append_getElem hk, List.append_assoc]
  congr 1
  have h0 : k - (xs.take k).length = 0 := by simp; omega
  rw [h0, List.set_cons_zero, List.getD_eq_getElem?_getD, List.getElem?_eq_getElem hk]
  rfl
theorem el_neg {a : St} {x : Int} (h : x < 0) : true = !elB a x := by
  unfold elB; rw [show decide (0 ≤ x) = false from decide_eq_false (by omega)]; rfl
theorem el_geq {a : St} {x : Int} (h : ¬ x < 0) : decide (a.n ≤ x) = !elB a x := by
  unfold elB; rw [show decide (0 ≤ x) = true from decide_eq_true (by omega), Bool.true_and, ← decide_not]
  congr 1; exact propext (by omega)
theorem el_inB {a : St} {x : Int} (h : inB x 0 (a.n - 1) = true) : elB a x = true := by
  unfold inB at h; unfold elB; simp only [Bool.and_eq_true, decide_eq_true_eq] at *; omega
theorem el_not_inB {a : St} {x : Int} (h : inB x 0 (a.n - 1) = false) : elB a x = false := by
  cases hx : elB a x with
  | false => rfl
  | true =>
    have : inB x 0 (a.n - 1) = true := by
      unfold elB at hx; unfold inB; simp only [Bool.and_eq_true, decide_eq_true_eq] at *; omega
    rw [this] at h; cases h
def pred64 (n : Int) : Int := if n = -9223372036854775808 then 9223372036854775807 else n - 1
theorem OpQ.pred {P : Program} {n : Nat} {C : World → Prop} {e : List (Nat × Value)} {o : Oper} {t t' : TypeId} {x y : Operand} {i : Int} (h : o.op = .binOp .sub t x y t') (hx : opd e x = some (.int .i64 i)) (hy : opd e y = some (.int .i64 1)) (h1 : -9223372036854775808 ≤ i) (h2 : i ≤ 9223372036854775807) : OpQ P n C e o (.int .i64 (pred64 i)) := OpQ.val fun a hf w => by
  unfold execOp; rw [h]; simp only [hf.opd hx, hf.opd hy]; simp [go_sem]
  unfold pred64
  split
  · subst i; decide
  · exact IntWalk.i64_in _ (by omega)
theorem list_no {a : St} {xs : List Int} {i : Nat} (hi : i < xs.length) (h : inB (xs.getD i 0) 0 (pred64 a.n) = false) : listB a xs = false := by
  unfold listB
  cases hv : validB a with
  | false => rfl
  | true =>
    have hf := validB_fine hv
    have : pred64 a.n = a.n - 1 := by unfold pred64; rw [if_neg (by have := hf.lo; omega)]
    rw [this] at h
    rw [all_not hi (el_not_inB h)]; simp
theorem list_yes {a : St} {xs : List Int} (h : ∀ i : Nat, i < xs.length → inB (xs.getD i 0) 0 (pred64 a.n) = true) : listB a xs = (validB a && decide ((xs.length : Int) ≤ 4)) := by
  unfold listB
  cases hv : validB a with
  | false => rfl
  | true =>
    have hf := validB_fine hv
    have : pred64 a.n = a.n - 1 := by unfold pred64; rw [if_neg (by have := hf.lo; omega)]
    rw [this] at h
    rw [all_some (fun i hi => el_inB (h i hi))]; simp
theorem at_box {w0 w : World} {hs : List (Nat × Obj)} {g T : Nat} {cs : Array Value} {v : Value} (hg : w0.heap[g]? = some (.cells cs T (0, 0))) (hw : Own w0.heap.size w0 hs w) (off : Nat) (hv : cs[off]? = some v) : w.cell? ⟨g, off, none⟩ = some v := by
  have hlt : g < w0.heap.size := by
    rcases Nat.lt_or_ge g w0.heap.size with h | h
    · exact h
    · rw [Array.getElem?_eq_none h] at hg; cases hg
  refine hw.arg hlt ?_
  simp only [World.cell?, hg]
  exact hv
end Go.Wk
