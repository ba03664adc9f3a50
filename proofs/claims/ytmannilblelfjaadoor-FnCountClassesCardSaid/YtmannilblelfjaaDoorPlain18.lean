/-
  CLASSES, numbered in order. No program in sight.
-/
import Derived.Test.YtmannilblelfjaaDoorPlain17
namespace Go.Wk
open Go.RowKit

/-- the classes of the first things, and how many there are -/
def clsN (q : Nat → Nat → Bool) : Nat → List Int × Nat
  | 0 => ([], 0)
  | x + 1 => match (List.range x).find? (fun y => q y x) with
    | some y => ((clsN q x).1 ++ [(clsN q x).1.getD y 0], (clsN q x).2)
    | none => ((clsN q x).1 ++ [((clsN q x).2 : Int)], (clsN q x).2 + 1)
section
variable {q : Nat → Nat → Bool}
theorem cls_old {x y : Nat} (hy : y < x) (hall : ∀ i, i < y → q i x = false) (h : q y x = true) : clsN q (x + 1) = ((clsN q x).1 ++ [(clsN q x).1.getD y 0], (clsN q x).2) := by
  rw [clsN, find_at (f := fun y => q y x) hy hall h]
theorem cls_new {x : Nat} (hall : ∀ i, i < x → q i x = false) : clsN q (x + 1) = ((clsN q x).1 ++ [((clsN q x).2 : Int)], (clsN q x).2 + 1) := by
  have : (List.range x).find? (fun y => q y x) = none := by rw [List.find?_eq_none]; intro i hi; rw [hall i (List.mem_range.1 hi)]; simp
  rw [clsN, this]
theorem cls_cases (q : Nat → Nat → Bool) (x : Nat) : (∃ y, y < x ∧ (∀ i, i < y → q i x = false) ∧ q y x = true) ∨ ∀ i, i < x → q i x = false := by
  cases h : (List.range x).find? (fun y => q y x) with
  | none => exact .inr fun i hi => by simpa using List.find?_eq_none.1 h i (List.mem_range.2 hi)
  | some y =>
    rw [List.find?_range_eq_some] at h
    exact .inl ⟨y, List.mem_range.1 h.2.1, fun i hi => by simpa using h.2.2 i hi, h.1⟩
theorem cls_length (q : Nat → Nat → Bool) : ∀ x, (clsN q x).1.length = x
  | 0 => rfl
  | x + 1 => by
    rcases cls_cases q x with ⟨y, h1, h2, h3⟩ | h
    · rw [cls_old h1 h2 h3]; simp [cls_length q x]
    · rw [cls_new h]; simp [cls_length q x]
theorem cls_small (q : Nat → Nat → Bool) : ∀ x, (clsN q x).2 ≤ x ∧ ∀ m ∈ (clsN q x).1, 0 ≤ m ∧ m < ((clsN q x).2 : Int)
  | 0 => ⟨Nat.le_refl _, fun m hm => by cases hm⟩
  | x + 1 => by
    obtain ⟨i1, i2⟩ := cls_small q x
    rcases cls_cases q x with ⟨y, h1, h2, h3⟩ | h
    · rw [cls_old h1 h2 h3]
      refine ⟨by dsimp only; omega, fun m hm => ?_⟩
      rcases List.mem_append.1 hm with h4 | h4
      · exact i2 m h4
      · rw [List.mem_singleton.1 h4]
        have hl := cls_length q x
        rw [getD_at (by omega)]; exact i2 _ (List.getElem_mem _)
    · rw [cls_new h]
      refine ⟨by dsimp only; omega, fun m hm => ?_⟩
      rcases List.mem_append.1 hm with h4 | h4
      · have := i2 m h4; dsimp only; omega
      · rw [List.mem_singleton.1 h4]; dsimp only; omega
theorem cls_at {x y : Nat} (hy : y < x) : 0 ≤ (clsN q x).1.getD y 0 ∧ (clsN q x).1.getD y 0 < x := by
  have hl := cls_length q x
  have hs := cls_small q x
  rw [getD_at (by omega)]
  have := hs.2 _ (List.getElem_mem (l := (clsN q x).1) (n := y) (by omega))
  omega
end
/-- what the reference has seen: the numbers, in order of their coming -/
structure SeenL (T : List (List UInt8)) (n : Nat) (a : St) (x : Nat) (S O : List Int) : Prop where
  cls : clsN (fun y x => winB n a [(y : Int)] a [(x : Int)]) x = (O, S.length)
  nodup : S.Nodup
  out : ∀ y : Nat, y < x → ∃ m k : Nat, Means T n a [(y : Int)] m ∧ O.getD y 0 = (k : Int) ∧ S[k]? = some (m : Int)
  seen : ∀ s ∈ S, ∃ m y : Nat, s = (m : Int) ∧ y < x ∧ Means T n a [(y : Int)] m
theorem SeenL.zero {T : List (List UInt8)} {n : Nat} {a : St} : SeenL T n a 0 [] [] := ⟨rfl, List.nodup_nil, fun y hy => absurd hy (by omega), fun s hs => by cases hs⟩
theorem SeenL.len {T : List (List UInt8)} {n : Nat} {a : St} {x : Nat} {S O : List Int} (h : SeenL T n a x S O) : O.length = x ∧ S.length ≤ x := by
  have h1 := cls_length (fun y x => winB n a [(y : Int)] a [(x : Int)]) x
  have h2 := (cls_small (fun y x => winB n a [(y : Int)] a [(x : Int)]) x).1
  rw [h.cls] at h1 h2
  exact ⟨h1, h2⟩
theorem getD_app1 {l r : List Int} {i : Nat} (h : i < l.length) : (l ++ r).getD i 0 = l.getD i 0 := by
  rw [List.getD_eq_getElem?_getD, List.getElem?_append_left h, ← List.getD_eq_getElem?_getD]
theorem getD_app2 {l : List Int} {z : Int} : (l ++ [z]).getD l.length 0 = z := by
  rw [List.getD_eq_getElem?_getD]; simp
theorem nodup_at {S : List Int} (h : S.Nodup) {i j : Nat} {m : Int} (hi : S[i]? = some m) (hj : S[j]? = some m) : i = j :=
  (List.getElem?_inj (List.getElem?_eq_some_iff.1 hi).1 h).1 (hi.trans hj.symm)
theorem SeenL.old {T T' : List (List UInt8)} {n : Nat} {a : St} {x : Nat} {S O : List Int} (h : SeenL T n a x S O) (hp : T <+: T') (hT : T'.Nodup) {m k : Nat} (hm : Means T' n a [(x : Int)] m) (hk : S[k]? = some (m : Int)) : SeenL T' n a (x + 1) S (O ++ [(k : Int)]) := by
  obtain ⟨hOl, hSl⟩ := h.len
  have heq : ∀ (y : Nat) (m' : Nat), Means T' n a [(y : Int)] m' → (m' = m ↔ winB n a [(y : Int)] a [(x : Int)] = true) := fun y m' hm' => by
    rw [means_win hT n a [(y : Int)] a [(x : Int)] m' m rfl hm' hm, win_iff n a [(y : Int)] a [(x : Int)] rfl]
  refine ⟨?_, h.nodup, fun y hy => ?_, fun s hs => ?_⟩
  · rcases cls_cases (fun y x => winB n a [(y : Int)] a [(x : Int)]) x with ⟨y, h1, h2, h3⟩ | hno
    · rw [cls_old h1 h2 h3, h.cls]
      obtain ⟨m', k', e1, e2, e3⟩ := h.out y h1
      have e4 := (heq y m' (e1.mono hp _ _ _ _)).2 h3
      subst e4
      rw [e2, nodup_at h.nodup e3 hk]
    · exfalso
      obtain ⟨m', y, e1, e2, e3⟩ := h.seen _ (List.mem_of_getElem? hk)
      have e4 : m' = m := by omega
      have := hno y e2
      rw [(heq y m' (e3.mono hp _ _ _ _)).1 e4] at this
      cases this
  · rcases Nat.lt_or_ge y x with h1 | h1
    · obtain ⟨m', k', e1, e2, e3⟩ := h.out y h1
      exact ⟨m', k', e1.mono hp _ _ _ _, by rw [getD_app1 (by omega)]; exact e2, e3⟩
    · obtain rfl : y = x := by omega
      exact ⟨m, k, hm, by rw [← hOl, getD_app2], hk⟩
  · obtain ⟨m', y, e1, e2, e3⟩ := h.seen s hs
    exact ⟨m', y, e1, by omega, e3.mono hp _ _ _ _⟩
theorem SeenL.new {T T' : List (List UInt8)} {n : Nat} {a : St} {x : Nat} {S O : List Int} (h : SeenL T n a x S O) (hp : T <+: T') (hT : T'.Nodup) {m : Nat} (hm : Means T' n a [(x : Int)] m) (hk : ¬ (m : Int) ∈ S) : SeenL T' n a (x + 1) (S ++ [(m : Int)]) (O ++ [(S.length : Int)]) := by
  obtain ⟨hOl, hSl⟩ := h.len
  have heq : ∀ (y : Nat) (m' : Nat), Means T' n a [(y : Int)] m' → (m' = m ↔ winB n a [(y : Int)] a [(x : Int)] = true) := fun y m' hm' => by
    rw [means_win hT n a [(y : Int)] a [(x : Int)] m' m rfl hm' hm, win_iff n a [(y : Int)] a [(x : Int)] rfl]
  refine ⟨?_, ?_, fun y hy => ?_, fun s hs => ?_⟩
  · rw [cls_new fun y hy => ?_, h.cls]
    · simp
    · obtain ⟨m', k', e1, e2, e3⟩ := h.out y hy
      cases hq : winB n a [(y : Int)] a [(x : Int)] with
      | false => rfl
      | true =>
        have e4 := (heq y m' (e1.mono hp _ _ _ _)).2 hq
        subst e4
        exact absurd (List.mem_of_getElem? e3) hk
  · rw [List.nodup_append]
    exact ⟨h.nodup, by simp, fun z hz y hy e => hk (by rw [List.mem_singleton.1 hy] at e; exact e ▸ hz)⟩
  · rcases Nat.lt_or_ge y x with h1 | h1
    · obtain ⟨m', k', e1, e2, e3⟩ := h.out y h1
      refine ⟨m', k', e1.mono hp _ _ _ _, by rw [getD_app1 (by omega)]; exact e2, ?_⟩
      rw [List.getElem?_append_left (List.getElem?_eq_some_iff.1 e3).1]; exact e3
    · obtain rfl : y = x := by omega
      exact ⟨m, S.length, hm, by rw [← hOl, getD_app2], by simp⟩
  · rcases List.mem_append.1 hs with h1 | h1
    · obtain ⟨m', y, e1, e2, e3⟩ := h.seen s h1
      exact ⟨m', y, e1, by omega, e3.mono hp _ _ _ _⟩
    · exact ⟨m, x, List.mem_singleton.1 h1, by omega, hm⟩
/-- .. either way: the place that the number has -/
theorem SeenL.step_old {T T' : List (List UInt8)} {n : Nat} {a : St} {x : Nat} {S O : List Int} (h : SeenL T n a x S O) (hp : T <+: T') (hT : T'.Nodup) {m : Nat} (hm : Means T' n a [(x : Int)] m) (hk : (m : Int) ∈ S) :
    ∃ kk : Nat, kk < S.length ∧ (∀ k : Nat, k < S.length → (S.getD k 0 = (m : Int) ↔ k = kk)) ∧ SeenL T' n a (x + 1) S (O ++ [(kk : Int)]) := by
  obtain ⟨kk, hkk⟩ := List.mem_iff_getElem?.1 hk
  refine ⟨kk, (List.getElem?_eq_some_iff.1 hkk).1, fun k hk => ⟨fun e => ?_, fun e => ?_⟩, h.old hp hT hm hkk⟩
  · refine nodup_at h.nodup ?_ hkk
    rw [getD_at hk] at e; rw [List.getElem?_eq_getElem hk, e]
  · subst e; rw [List.getD_eq_getElem?_getD, hkk]; rfl
theorem SeenL.step_new {T T' : List (List UInt8)} {n : Nat} {a : St} {x : Nat} {S O : List Int} (h : SeenL T n a x S O) (hp : T <+: T') (hT : T'.Nodup) {m : Nat} (hm : Means T' n a [(x : Int)] m) (hk : ¬ (m : Int) ∈ S) :
    ∃ kk : Nat, kk < (S ++ [(m : Int)]).length ∧ (∀ k : Nat, k < (S ++ [(m : Int)]).length → ((S ++ [(m : Int)]).getD k 0 = (m : Int) ↔ k = kk)) ∧ SeenL T' n a (x + 1) (S ++ [(m : Int)]) (O ++ [(kk : Int)]) := by
  have h2 := h.new hp hT hm hk
  have hkk : (S ++ [(m : Int)])[S.length]? = some (m : Int) := by simp
  refine ⟨S.length, by simp, fun k hk => ⟨fun e => ?_, fun e => ?_⟩, h2⟩
  · refine nodup_at h2.nodup ?_ hkk
    rw [getD_at hk] at e; rw [List.getElem?_eq_getElem hk, e]
  · subst e; rw [List.getD_eq_getElem?_getD, hkk]; rfl
def outAt (O : List Int) (kk k : Nat) : List Int := if kk < k then O ++ [(kk : Int)] else O
theorem outAt_zero (O : List Int) (kk : Nat) : outAt O kk 0 = O := by unfold outAt; rw [if_neg (by omega)]
theorem outAt_yes {O : List Int} {kk k : Nat} (h : k = kk) : outAt O kk (k + 1) = outAt O kk k ++ [(k : Int)] := by unfold outAt; rw [if_pos (by omega), if_neg (by omega), h]
theorem outAt_no {O : List Int} {kk k : Nat} (h : ¬ k = kk) : outAt O kk (k + 1) = outAt O kk k := by
  unfold outAt
  rcases Nat.lt_or_ge kk k with h1 | h1
  · rw [if_pos (by omega), if_pos h1]
  · rw [if_neg (by omega), if_neg (by omega)]
theorem outAt_end {O : List Int} {kk k : Nat} (h : kk < k) : outAt O kk k = O ++ [(kk : Int)] := by unfold outAt; rw [if_pos h]
theorem outAt_le (O : List Int) (kk k : Nat) : (outAt O kk k).length ≤ O.length + 1 := by unfold outAt; split <;> simp
def clsOk (a : St) (r : Int) : Bool := validB a && inB r 0 3
theorem clsOk_true {a : St} {r : Int} (h : clsOk a r = true) : validB a = true ∧ 0 ≤ r ∧ r ≤ 3 := by unfold clsOk inB at h; simpa using h
def clsOf (a : St) (r : Int) : List Int := (clsN (fun y x => winB r.toNat a [(y : Int)] a [(x : Int)]) a.n.toNat).1
theorem box_cells {w w1 : World} {g : Nat} {cs : Array Value} {T : TypeId} {fr : Nat × Nat} {hs : List (Nat × Obj)} (hg : w.heap[g]? = some (.cells cs T fr)) (hw : Own w.heap.size w hs w1) (j : Nat) (v : Value) (hj : cs.toList[j]? = some v) : w1.cell? ((⟨g, 0, none⟩ : Addr).add j) = some v := by
  have hlt : g < w.heap.size := by
    rcases Nat.lt_or_ge g w.heap.size with h | h
    · exact h
    · rw [Array.getElem?_eq_none h] at hg; cases hg
  rw [Addr.add_lit, Nat.zero_add]
  unfold World.cell?
  rw [hw.below.block g hlt, hg]
  simpa using hj
theorem has_at {xs : List Int} {m : Int} {k : Nat} (hk : k < xs.length) (h : xs.getD k 0 = m) : decide (m ∈ xs) = true := by
  rw [decide_eq_true_eq, ← h, getD_at hk]; exact List.getElem_mem _
theorem has_no {xs : List Int} {m : Int} (h : ∀ i : Nat, i < xs.length → ¬ xs.getD i 0 = m) : decide (m ∈ xs) = false := by
  rw [decide_eq_false_iff_not]; intro hm
  obtain ⟨i, hi, e⟩ := List.mem_iff_getElem.1 hm
  exact h i hi (by rw [getD_at hi]; exact e)
theorem els_one {a : St} {x : Int} (h : a.El x) : a.Els [x] := fun y hy => by rw [List.mem_singleton.1 hy]; exact h
end Go.Wk
