/-
  WHAT A GAME CAN COME TO: the numbers found so far. No program in sight.
-/
import Derived.Test.YtmannilblelfjaaDoorPlain15
namespace Go.Wk
open Go.RowKit

theorem Means.lt {T : List (List UInt8)} : ∀ {n : Nat} {a : St} {xs : List Int} {i : Nat}, Means T n a xs i → i < T.length := by
  have key : ∀ {i : Nat} {s : List UInt8}, T[i]? = some s → i < T.length := fun h => (List.getElem?_eq_some_iff.1 h).1
  intro n a xs i h
  cases n with
  | zero => exact key h
  | succ n => obtain ⟨L, _, _, _, h⟩ := h; exact key h
/-- the numbers of what can come of the first k choices -/
structure FoundL (T : List (List UInt8)) (n : Nat) (a : St) (xs L : List Int) (k : Nat) : Prop where
  sorted : L.Pairwise (· < ·)
  len : L.length ≤ k
  all : ∀ x : Nat, x < k → ∃ i : Nat, (i : Int) ∈ L ∧ Means T n a (xs ++ [(x : Int)]) i
  only : ∀ m ∈ L, ∃ i x : Nat, m = i ∧ x < k ∧ Means T n a (xs ++ [(x : Int)]) i
theorem FoundL.zero {T : List (List UInt8)} {n : Nat} {a : St} {xs : List Int} : FoundL T n a xs [] 0 := ⟨List.Pairwise.nil, Nat.le_refl _, fun x hx => absurd hx (by omega), fun m hm => by cases hm⟩
theorem FoundL.step {T T' : List (List UInt8)} {n : Nat} {a : St} {xs L : List Int} {k i : Nat} (h : FoundL T n a xs L k) (hp : T <+: T') (hm : Means T' n a (xs ++ [(k : Int)]) i) : FoundL T' n a xs (insS L (i : Int)) (k + 1) := by
  refine ⟨sorted_insS h.sorted, Nat.le_trans insS_length (by have := h.len; omega), fun x hx => ?_, fun m hmem => ?_⟩
  · rcases Nat.lt_or_ge x k with h1 | h1
    · obtain ⟨j, hj, hM⟩ := h.all x h1
      exact ⟨j, mem_insS.2 (.inr hj), hM.mono hp _ _ _ _⟩
    · obtain rfl : x = k := by omega
      exact ⟨i, mem_insS.2 (.inl rfl), hm⟩
  · rcases mem_insS.1 hmem with h1 | h1
    · exact ⟨i, k, h1, by omega, hm⟩
    · obtain ⟨j, x, e, hx, hM⟩ := h.only m h1
      exact ⟨j, x, e, by omega, hM.mono hp _ _ _ _⟩
theorem FoundL.small {T : List (List UInt8)} {n : Nat} {a : St} {xs L : List Int} {k : Nat} (h : FoundL T n a xs L k) (hT : T.length ≤ 1000000) : ∀ m ∈ L, 0 ≤ m ∧ m < 1000000000000 := fun m hm => by
  obtain ⟨j, x, e, hx, hM⟩ := h.only m hm
  have := hM.lt
  omega
theorem FoundL.means {T T' : List (List UInt8)} {n : Nat} {a : St} {xs L : List Int} {m : Nat} (h : FoundL T n a xs L a.n.toNat) (hp : T <+: T') (hd : T'[m]? = some ((decS (n + 1) ++ [58]) ++ (atomBits a xs ++ commas L))) : Means T' (n + 1) a xs m :=
  ⟨L, h.sorted, fun x hx => (h.all x hx).elim fun i hi => ⟨i, hi.1, hi.2.mono hp _ _ _ _⟩, fun m hm => by
    obtain ⟨i, x, e, hx, hM⟩ := h.only m hm; exact ⟨i, x, e, hx, hM.mono hp _ _ _ _⟩, hd⟩
theorem TabTo.trans {T T1 T2 : List (List UInt8)} {b1 b2 : List Bkt} {m n k : Nat} (h : TabTo T b1 T1 m) (h2 : TabTo T1 b2 T2 n) (hk : m + n ≤ k) : TabTo T b2 T2 k := ⟨h2.ok, h.pre.trans h2.pre, by have := h.len; have := h2.len; omega⟩
theorem cnt_succ (n : Nat) : cnt (n + 1) = 1 + 8 * cnt n := rfl
theorem cnt_small {n : Nat} (h : n ≤ 3) : cnt n ≤ 585 := by
  match n, h with
  | 0, _ => decide
  | 1, _ => decide
  | 2, _ => decide
  | 3, _ => decide
theorem cnt_le (k n : Nat) (h : k ≤ 8) : k * cnt n ≤ 8 * cnt n := Nat.mul_le_mul_right _ h
theorem at_small {L : List Int} (h : ∀ m ∈ L, 0 ≤ m ∧ m < 1000000000000) {i : Nat} (hi : i < L.length) : 0 ≤ L.getD i 0 ∧ L.getD i 0 < 1000000000000 := by
  rw [getD_at hi]; exact h _ (List.getElem_mem _)
theorem winB_eq {n : Nat} {a b : St} {xs ys : List Int} {T : List (List UInt8)} (hT : T.Nodup) (hl : xs.length = ys.length) {i j : Nat} (hi : Means T n a xs i) (hj : Means T n b ys j) : decide ((i : Int) = j) = winB n a xs b ys := by
  rw [Bool.eq_iff_iff, decide_eq_true_eq, win_iff n a xs b ys hl, ← means_win hT n a xs b ys i j hl hi hj]; omega
end Go.Wk
