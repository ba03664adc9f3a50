/-
  LAWS OF DRAWN PEBBLES: those that lie. No program in sight.
-/
import Derived.Test.YtjcoijejhachhaaDoorPlain29
namespace Go.Wk
open Go.RowKit
/-- the numbers that are not -1, of the first k -/
def offTo (xs : List Int) : Nat → List Int
  | 0 => []
  | k + 1 => if xs.getD k 0 = -1 then offTo xs k else offTo xs k ++ [xs.getD k 0]
def sameTo (xs ys : List Int) : Nat → Bool
  | 0 => true
  | k + 1 => sameTo xs ys k && (decide (xs.getD k 0 = -1) == decide (ys.getD k 0 = -1))
theorem off_no {xs : List Int} {k : Nat} (h : xs.getD k 0 = -1) : offTo xs (k + 1) = offTo xs k := by rw [offTo, if_pos h]
theorem off_yes {xs : List Int} {k : Nat} (h : ¬ xs.getD k 0 = -1) : offTo xs (k + 1) = offTo xs k ++ [xs.getD k 0] := by rw [offTo, if_neg h]
theorem sameTo_no {xs ys : List Int} {k : Nat} (h : sameTo xs ys k = false) : sameTo xs ys (k + 1) = false := by rw [sameTo, h]; rfl
theorem sameTo_yes {xs ys : List Int} {k : Nat} (h : sameTo xs ys k = true) : sameTo xs ys (k + 1) = (decide (xs.getD k 0 = -1) == decide (ys.getD k 0 = -1)) := by rw [sameTo, h, Bool.true_and]
theorem off_le (xs : List Int) : ∀ k, (offTo xs k).length ≤ k
  | 0 => Nat.le_refl _
  | k + 1 => by
    have := off_le xs k
    rw [offTo]
    split
    · omega
    · simp; omega
theorem mem_off {xs : List Int} : ∀ {k i : Nat}, i < k → ¬ xs.getD i 0 = -1 → xs.getD i 0 ∈ offTo xs k
  | 0, i, hi, _ => by omega
  | k + 1, i, hi, h => by
    rcases Nat.lt_or_ge i k with h1 | h1
    · have := mem_off h1 h
      rw [offTo]
      split
      · exact this
      · exact List.mem_append_left _ this
    · obtain rfl : i = k := by omega
      rw [off_yes h]; simp
theorem off_placed {xs : List Int} (h : ∀ x ∈ xs, -1 ≤ x) : ∀ k : Nat, k ≤ xs.length → offTo xs k = placed xs k
  | 0, _ => rfl
  | k + 1, hk => by
    have ih := off_placed h k (by omega)
    have h1 : -1 ≤ xs.getD k 0 := by rw [getD_at (by omega)]; exact h _ (List.getElem_mem _)
    rw [offTo, placed, ih]
    by_cases e : xs.getD k 0 = -1
    · rw [if_pos e, if_pos (by omega)]
    · rw [if_neg e, if_neg (by omega)]
theorem sameTo_true {xs ys : List Int} : ∀ {k : Nat}, sameTo xs ys k = true ↔ ∀ i : Nat, i < k → (xs.getD i 0 = -1 ↔ ys.getD i 0 = -1)
  | 0 => by simp [sameTo]
  | k + 1 => by
    rw [sameTo, Bool.and_eq_true, sameTo_true, beq_iff_eq, decide_eq_decide]
    constructor
    · intro h i hi
      rcases Nat.lt_or_ge i k with h1 | h1
      · exact h.1 i h1
      · rw [show i = k from by omega]; exact h.2
    · intro h; exact ⟨fun i hi => h i (by omega), h k (by omega)⟩
theorem off_len {xs ys : List Int} : ∀ {k : Nat}, sameTo xs ys k = true → (offTo xs k).length = (offTo ys k).length
  | 0, _ => rfl
  | k + 1, h => by
    rw [sameTo, Bool.and_eq_true, beq_iff_eq, decide_eq_decide] at h
    have ih := off_len h.1
    by_cases e : xs.getD k 0 = -1
    · rw [off_no e, off_no (h.2.1 e)]; exact ih
    · rw [off_yes e, off_yes (fun e' => e (h.2.2 e'))]; simp [ih]
theorem peb_not {a : St} {xs : List Int} (hv : validB a = true) (h1 : 1 ≤ xs.length) (h3 : xs.length ≤ 3) (h : pebB a xs = false) : listB a (offTo xs xs.length) = false := by
  have h2 : ¬ ∀ x ∈ xs, inB x (-1) (a.n - 1) = true := fun hall => by
    unfold pebB at h
    rw [hv, List.all_eq_true.2 hall] at h
    simp [inB] at h
    omega
  cases hl : listB a (offTo xs xs.length) with
  | false => rfl
  | true =>
    refine absurd (fun x hx => ?_) h2
    obtain ⟨i, hi, e⟩ := List.mem_iff_getElem.1 hx
    have e' : xs.getD i 0 = x := by rw [getD_at hi]; exact e
    have hlo := (listB_true hl).fine.lo
    unfold inB
    simp only [Bool.and_eq_true, decide_eq_true_eq]
    by_cases hm : x = -1
    · omega
    · have hel := (listB_true hl).els x (by rw [← e']; exact mem_off hi (by rw [e']; exact hm))
      exact ⟨by have := hel.1; omega, by have := hel.2; omega⟩
theorem peb_el {a : St} {xs : List Int} (h : pebB a xs = true) : ∀ x ∈ xs, -1 ≤ x := fun x hx => by
  unfold pebB at h
  simp only [Bool.and_eq_true, List.all_eq_true] at h
  have := h.2 x hx
  unfold inB at this
  simp only [Bool.and_eq_true, decide_eq_true_eq] at this
  exact this.1
theorem fit_pre {a b : St} {xs ys : List Int} (h : fitB a xs b ys = true) : validB a = true ∧ validB b = true ∧ xs.length = ys.length ∧ 1 ≤ xs.length ∧ xs.length ≤ 3 := by
  unfold fitB at h
  rw [Bool.and_eq_true] at h
  obtain ⟨h1, h2, h3, _⟩ := readyB_true h.1
  exact ⟨h1.valid, h2.valid, h3, h1.lo, h1.hi⟩
/-- PEBBLES FIT exactly if the same ones lie beside and the others are in the same way. -/
theorem peb_law {a b : St} {xs ys : List Int} (h : validB a = true ∧ validB b = true ∧ xs.length = ys.length ∧ 1 ≤ xs.length ∧ xs.length ≤ 3) :
    fitB a xs b ys = (sameTo xs ys xs.length && wayB a (offTo xs xs.length) b (offTo ys xs.length)) := by
  obtain ⟨va, vb, hl, h1, h3⟩ := h
  have no : ∀ {p : Bool}, (readyB a xs b ys = false) → p = false → fitB a xs b ys = p := fun h e => by unfold fitB; rw [h, e]; rfl
  cases hpa : pebB a xs with
  | false =>
    refine no (by unfold readyB; rw [hpa]; rfl) ?_
    unfold wayB listsB
    rw [peb_not va h1 h3 hpa]; simp
  | true =>
    cases hpb : pebB b ys with
    | false =>
      refine no (by unfold readyB; rw [hpb]; simp) ?_
      unfold wayB listsB
      rw [hl, peb_not vb (by omega) (by omega) hpb]; simp
    | true =>
      have ea := peb_el hpa
      have eb := peb_el hpb
      have sg : signsB xs ys = sameTo xs ys xs.length := by
        rw [Bool.eq_iff_iff, sameTo_true]
        unfold signsB
        rw [List.all_eq_true]
        have key : ∀ i : Nat, i < xs.length → -1 ≤ xs.getD i 0 ∧ -1 ≤ ys.getD i 0 := fun i hi => by
          rw [getD_at hi, getD_at (by omega : i < ys.length)]
          exact ⟨ea _ (List.getElem_mem _), eb _ (List.getElem_mem _)⟩
        constructor
        · intro h i hi
          have h2 := h i (List.mem_range.2 hi)
          rw [beq_iff_eq, decide_eq_decide] at h2
          have := key i hi
          omega
        · intro h i hi
          have hi' := List.mem_range.1 hi
          rw [beq_iff_eq, decide_eq_decide]
          have := key i hi'
          have := h i hi'
          omega
      unfold fitB readyB wayB
      rw [hpa, hpb, sg, off_placed ea _ (Nat.le_refl _), show offTo ys xs.length = placed ys ys.length from by rw [hl]; exact off_placed eb _ (Nat.le_refl _)]
      cases hs : sameTo xs ys xs.length with
      | false => simp
      | true =>
        have hlen := off_len hs
        rw [off_placed ea _ (Nat.le_refl _), show offTo ys xs.length = placed ys ys.length from by rw [hl]; exact off_placed eb _ (Nat.le_refl _)] at hlen
        have els : ∀ {c : St} {zs : List Int}, validB c = true → pebB c zs = true → zs.length ≤ 3 → listB c (placed zs zs.length) = true := fun {c zs} hv hp hz => by
          have hP := pebB_true hp
          refine listB_of hv (placed_els (Nat.le_refl _) hP.top) ?_
          have := placed_le zs zs.length
          omega
        rw [listsB_of (els va hpa h3) (els vb hpb (by omega)) hlen]
        simp [hl]
theorem fit_comm (a : St) (xs : List Int) (b : St) (ys : List Int) : fitB b ys a xs = fitB a xs b ys := by
  have key : ∀ {a b : St} {xs ys : List Int}, fitB a xs b ys = true → fitB b ys a xs = true := fun {a b xs ys} h => by
    have hp := fit_pre h
    obtain ⟨va, vb, hl, h1, h3⟩ := hp
    rw [peb_law ⟨va, vb, hl, h1, h3⟩, Bool.and_eq_true] at h
    rw [peb_law ⟨vb, va, hl.symm, by omega, by omega⟩, Bool.and_eq_true, ← hl]
    refine ⟨sameTo_true.2 fun i hi => (sameTo_true.1 h.1 i hi).symm, ?_⟩
    have hlen := off_len h.1
    have h2 := h.2
    unfold wayB at h2 ⊢
    rw [Bool.and_eq_true] at h2 ⊢
    refine ⟨?_, by rw [sameB_comm hlen.symm]; exact h2.2⟩
    have h4 := h2.1
    unfold listsB at h4 ⊢
    simp only [Bool.and_eq_true, decide_eq_true_eq] at h4 ⊢
    exact ⟨⟨h4.1.2, h4.1.1⟩, h4.2.symm⟩
  rw [Bool.eq_iff_iff]
  exact ⟨key, key⟩
end Go.Wk
