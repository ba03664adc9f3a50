/-
  PEBBLES: when they are ready, the atoms of elements as bits, and that equal bits say: in the same way. No program in sight.
-/
import Derived.Test.YtmannilblelfjaaDoorPlain9
namespace Go.Wk
open Go.RowKit

/-- the bits of the pairs of element i with the first k -/
def pairBits (a : St) (xs : List Int) (i : Nat) : Nat → List UInt8
  | 0 => []
  | k + 1 => ((pairBits a xs i k ++ bitS (decide (xs.getD i 0 = xs.getD k 0))) ++ bitS (a.inRel (xs.getD i 0) (xs.getD k 0))) ++ bitS (a.inRel (xs.getD k 0) (xs.getD i 0))
def bitsTo (a : St) (xs : List Int) : Nat → List UInt8
  | 0 => []
  | i + 1 => (bitsTo a xs i ++ bitS (a.inSet (xs.getD i 0))) ++ pairBits a xs i (i + 1)
def atomBits (a : St) (xs : List Int) : List UInt8 := bitsTo a xs xs.length
@[simp] theorem bitS_length (b : Bool) : (bitS b).length = 1 := by cases b <;> rfl
theorem bitS_inj {b c : Bool} : bitS b = bitS c ↔ b = c := by cases b <;> cases c <;> simp [bitS]
@[simp] theorem pairBits_length (a : St) (xs : List Int) (i : Nat) : ∀ k, (pairBits a xs i k).length = 3 * k
  | 0 => rfl
  | k + 1 => by simp [pairBits, pairBits_length a xs i k]; omega
theorem bitsTo_length (a : St) (xs : List Int) (b : St) (ys : List Int) : ∀ i, (bitsTo a xs i).length = (bitsTo b ys i).length
  | 0 => rfl
  | i + 1 => by simp [bitsTo, bitsTo_length a xs b ys i]
theorem bitsTo_le (a : St) (xs : List Int) : ∀ i, (bitsTo a xs i).length ≤ i * (3 * i + 4)
  | 0 => by simp [bitsTo]
  | i + 1 => by
    have h := bitsTo_le a xs i
    have h2 : i * (3 * i + 4) ≤ i * (3 * (i + 1) + 4) := Nat.mul_le_mul_left _ (by omega)
    simp only [bitsTo, List.length_append, bitS_length, pairBits_length, Nat.add_mul i 1, Nat.one_mul]
    omega
theorem pairBits_eq {a b : St} {xs ys : List Int} {i : Nat} : ∀ k, pairBits a xs i k = pairBits b ys i k ↔ ∀ j : Nat, j < k → pairOk a b (xs.getD i 0) (ys.getD i 0) (xs.getD j 0) (ys.getD j 0) = true
  | 0 => by simp [pairBits]
  | k + 1 => by
    have ih := pairBits_eq (a := a) (b := b) (xs := xs) (ys := ys) (i := i) k
    constructor
    · intro h j hj
      simp only [pairBits] at h
      obtain ⟨h1, h2⟩ := List.append_inj h (by simp)
      obtain ⟨h3, h4⟩ := List.append_inj h1 (by simp)
      obtain ⟨h5, h6⟩ := List.append_inj h3 (by simp)
      rcases Nat.lt_or_ge j k with hjk | hjk
      · exact ih.1 h5 j hjk
      · obtain rfl : j = k := by omega
        refine pairOk_true.2 ⟨?_, bitS_inj.1 h2, bitS_inj.1 h4⟩
        have := bitS_inj.1 h6
        rw [decide_eq_decide] at this ⊢
        exact ⟨fun e => (this.1 e.symm).symm, fun e => (this.2 e.symm).symm⟩
    · intro h
      obtain ⟨e1, e2, e3⟩ := pairOk_true.1 (h k (by omega))
      have e4 : decide (xs.getD i 0 = xs.getD k 0) = decide (ys.getD i 0 = ys.getD k 0) := by
        rw [decide_eq_decide] at e1 ⊢
        exact ⟨fun e => (e1.1 e.symm).symm, fun e => (e1.2 e.symm).symm⟩
      simp only [pairBits]
      rw [ih.2 (fun j hj => h j (by omega)), e2, e3, e4]
theorem bitsTo_eq {a b : St} {xs ys : List Int} (hl : xs.length = ys.length) : ∀ i, i ≤ xs.length → (bitsTo a xs i = bitsTo b ys i ↔ ∀ j : Nat, j < i → stillAt a xs b ys j = true)
  | 0, _ => by simp [bitsTo]
  | i + 1, hi => by
    have ih := bitsTo_eq (a := a) (b := b) hl i (by omega)
    have hf : stillAt a xs b ys i = true ↔ a.inSet (xs.getD i 0) = b.inSet (ys.getD i 0) ∧ ∀ k : Nat, k ≤ i → pairOk a b (xs.getD i 0) (ys.getD i 0) (xs.getD k 0) (ys.getD k 0) = true := by
      have h1 := fits_true (a := a) (b := b) (xs := xs.take (i + 1)) (ys := ys.take (i + 1)) (m := i) (by simp; omega) (by simp; omega)
      rw [stillAt_take (by omega), take_getD (by omega), take_getD (by omega)] at h1
      rw [h1]
      refine and_congr_right fun _ => ⟨fun h k hk => ?_, fun h k hk => ?_⟩
      · have := h k hk; rwa [take_getD (by omega), take_getD (by omega)] at this
      · rw [take_getD (by omega), take_getD (by omega)]; exact h k hk
    constructor
    · intro h j hj
      simp only [bitsTo] at h
      obtain ⟨h1, h2⟩ := List.append_inj h (by simp [bitsTo_length a xs b ys i])
      obtain ⟨h3, h4⟩ := List.append_inj h1 (bitsTo_length a xs b ys i)
      rcases Nat.lt_or_ge j i with hji | hji
      · exact ih.1 h3 j hji
      · obtain rfl : j = i := by omega
        exact hf.2 ⟨bitS_inj.1 h4, fun k hk => (pairBits_eq (j + 1)).1 h2 k (by omega)⟩
    · intro h
      obtain ⟨e1, e2⟩ := hf.1 (h i (by omega))
      simp only [bitsTo]
      rw [ih.2 (fun j hj => h j (by omega)), e1, (pairBits_eq (a := a) (b := b) (xs := xs) (ys := ys) (i := i) (i + 1)).2 (fun k hk => e2 k (by omega))]
/-- EQUAL BITS: IN THE SAME WAY. -/
theorem atomBits_same {a b : St} {xs ys : List Int} (hl : xs.length = ys.length) : (atomBits a xs == atomBits b ys) = sameB a xs b ys := by
  rw [Bool.eq_iff_iff, beq_iff_eq]
  unfold atomBits
  rw [← hl, bitsTo_eq hl _ (Nat.le_refl _)]
  unfold sameB
  rw [List.all_eq_true]
  exact ⟨fun h i hi => h i (List.mem_range.1 hi), fun h i hi => h i (List.mem_range.2 hi)⟩
/-! ### pebbles -/
def pebB (a : St) (xs : List Int) : Bool := validB a && inB xs.length 1 3 && xs.all fun x => inB x (-1) (a.n - 1)
def signsB (xs ys : List Int) : Bool := (List.range xs.length).all fun i => decide (xs.getD i 0 < 0) == decide (ys.getD i 0 < 0)
def readyB (a : St) (xs : List Int) (b : St) (ys : List Int) : Bool := pebB a xs && pebB b ys && decide ((xs.length : Int) = ys.length) && signsB xs ys
def signT (xs : List Int) : Nat → List UInt8
  | 0 => []
  | i + 1 => signT xs i ++ (if xs.getD i 0 < 0 then [45] else [43])
def placed (xs : List Int) : Nat → List Int
  | 0 => []
  | i + 1 => if xs.getD i 0 < 0 then placed xs i else placed xs i ++ [xs.getD i 0]
@[simp] theorem placed_zero (xs : List Int) : placed xs 0 = [] := rfl
theorem signsB_true {xs ys : List Int} (h : signsB xs ys = true) : ∀ i : Nat, i < xs.length → (xs.getD i 0 < 0 ↔ ys.getD i 0 < 0) := fun i hi => by
  have := List.all_eq_true.1 h i (List.mem_range.2 hi)
  simpa using this
theorem signT_eq {xs ys : List Int} : ∀ n, (∀ i : Nat, i < n → (xs.getD i 0 < 0 ↔ ys.getD i 0 < 0)) → signT xs n = signT ys n
  | 0, _ => rfl
  | n + 1, h => by
    rw [signT, signT, signT_eq n (fun i hi => h i (by omega))]
    congr 1
    simp only [h n (by omega)]
theorem placed_len {xs ys : List Int} : ∀ n, (∀ i : Nat, i < n → (xs.getD i 0 < 0 ↔ ys.getD i 0 < 0)) → (placed xs n).length = (placed ys n).length
  | 0, _ => rfl
  | n + 1, h => by
    have ih := placed_len n (fun i hi => h i (by omega))
    have := h n (by omega)
    rw [placed, placed]
    split <;> split <;> first | omega | (simp [ih]; done) | (exact ih) | skip
    all_goals (exfalso; omega)
theorem placed_le (xs : List Int) : ∀ n, (placed xs n).length ≤ n
  | 0 => by simp [placed]
  | n + 1 => by
    have := placed_le xs n
    rw [placed]; split
    · omega
    · simp; omega
theorem placed_mem {xs : List Int} : ∀ n, n ≤ xs.length → ∀ x ∈ placed xs n, x ∈ xs ∧ 0 ≤ x
  | 0, _ => by simp [placed]
  | n + 1, h => by
    intro x hx
    rw [placed] at hx
    split at hx
    · exact placed_mem n (by omega) x hx
    · rcases List.mem_append.1 hx with h1 | h1
      · exact placed_mem n (by omega) x h1
      · rename_i hneg
        rw [List.mem_singleton.1 h1, getD_at (by omega)]
        rw [getD_at (by omega)] at hneg
        exact ⟨List.getElem_mem _, by omega⟩
theorem bits_small {a : St} {xs : List Int} {i : Nat} (h : i ≤ 7) : (bitsTo a xs i).length ≤ 175 :=
  Nat.le_trans (bitsTo_le a xs i) (Nat.mul_le_mul h (show 3 * i + 4 ≤ 25 by omega))
theorem pair_step (a : St) (xs : List Int) (i k : Nat) (B : List UInt8) : B ++ pairBits a xs i (k + 1) =
    (((B ++ pairBits a xs i k) ++ bitS (decide (xs.getD i 0 = xs.getD k 0))) ++ bitS (a.inRel (xs.getD i 0) (xs.getD k 0))) ++ bitS (a.inRel (xs.getD k 0) (xs.getD i 0)) := by
  simp [pairBits, List.append_assoc]
theorem peb_no {a : St} {xs : List Int} {i : Nat} (hi : i < xs.length) (h : inB (xs.getD i 0) (-1) (pred64 a.n) = false) : pebB a xs = false := by
  unfold pebB
  cases hv : validB a with
  | false => rfl
  | true =>
    have hf := validB_fine hv
    have : pred64 a.n = a.n - 1 := by unfold pred64; rw [if_neg (by have := hf.lo; omega)]
    rw [this] at h
    rw [all_not (q := fun x => inB x (-1) (a.n - 1)) hi h]; simp
theorem peb_yes {a : St} {xs : List Int} (h : ∀ i : Nat, i < xs.length → inB (xs.getD i 0) (-1) (pred64 a.n) = true) : pebB a xs = (validB a && inB xs.length 1 3) := by
  unfold pebB
  cases hv : validB a with
  | false => rfl
  | true =>
    have hf := validB_fine hv
    have : pred64 a.n = a.n - 1 := by unfold pred64; rw [if_neg (by have := hf.lo; omega)]
    rw [this] at h
    rw [all_some (q := fun x => inB x (-1) (a.n - 1)) h]; simp
theorem signs_yes {xs ys : List Int} {k : Nat} (hk : xs.length ≤ k) (h : ∀ i : Nat, i < k → (decide (xs.getD i 0 < 0) == decide (ys.getD i 0 < 0)) = true) : signsB xs ys = true := by
  unfold signsB
  rw [List.all_eq_true]
  intro i hi
  exact h i (by have := List.mem_range.1 hi; omega)
theorem signs_no {xs ys : List Int} {k : Nat} (hk : k < xs.length) (h : (decide (xs.getD k 0 < 0) == decide (ys.getD k 0 < 0)) = false) : signsB xs ys = false := by
  unfold signsB
  rw [List.all_eq_false]
  exact ⟨k, List.mem_range.2 hk, by simp only [h]; exact Bool.false_ne_true⟩
theorem beq_of_bne {x y : Bool} (h : (x != y) = false) : (x == y) = true := by simpa using h
theorem beq_of_bneT {x y : Bool} (h : (x != y) = true) : (x == y) = false := by simpa using h
theorem signT_neg {xs : List Int} {k : Nat} (h : xs.getD k 0 < 0) : signT xs (k + 1) = signT xs k ++ [45] := by rw [signT, if_pos h]
theorem signT_pos {xs : List Int} {k : Nat} (h : ¬ xs.getD k 0 < 0) : signT xs (k + 1) = signT xs k ++ [43] := by rw [signT, if_neg h]
theorem placed_neg {xs : List Int} {k : Nat} (h : xs.getD k 0 < 0) : placed xs (k + 1) = placed xs k := by rw [placed, if_pos h]
theorem placed_pos {xs : List Int} {k : Nat} (h : ¬ xs.getD k 0 < 0) : placed xs (k + 1) = placed xs k ++ [xs.getD k 0] := by rw [placed, if_neg h]
@[simp] theorem signT_length (xs : List Int) : ∀ n, (signT xs n).length = n
  | 0 => rfl
  | n + 1 => by rw [signT, List.length_append, signT_length xs n]; split <;> rfl
theorem placed_els {a : St} {xs : List Int} {n : Nat} (hn : n ≤ xs.length) (h : ∀ x ∈ xs, x < a.n) : a.Els (placed xs n) := fun x hx => by
  obtain ⟨h1, h2⟩ := placed_mem n hn x hx
  exact ⟨h2, h x h1⟩
structure Pebbles (a : St) (xs : List Int) : Prop where
  valid : validB a = true
  fine : a.Fine
  top : ∀ x ∈ xs, x < a.n
  lo : 1 ≤ xs.length
  hi : xs.length ≤ 3
theorem pebB_true {a : St} {xs : List Int} (h : pebB a xs = true) : Pebbles a xs := by
  unfold pebB inB at h
  simp only [Bool.and_eq_true, decide_eq_true_eq] at h
  refine ⟨h.1.1, validB_fine h.1.1, fun x hx => ?_, by omega, by omega⟩
  have := List.all_eq_true.1 h.2 x hx
  simp only [Bool.and_eq_true, decide_eq_true_eq] at this
  omega
theorem readyB_true {a b : St} {xs ys : List Int} (h : readyB a xs b ys = true) : Pebbles a xs ∧ Pebbles b ys ∧ xs.length = ys.length ∧ signsB xs ys = true := by
  unfold readyB at h
  simp only [Bool.and_eq_true, decide_eq_true_eq] at h
  exact ⟨pebB_true h.1.1.1, pebB_true h.1.1.2, by have := h.1.2; omega, h.2⟩
def fitB (a : St) (xs : List Int) (b : St) (ys : List Int) : Bool := readyB a xs b ys && sameB a (placed xs xs.length) b (placed ys ys.length)
/-- equal atoms of pebbles that are ready: those that lie are in the same way -/
theorem pebAtoms_same {a b : St} {xs ys : List Int} (h : readyB a xs b ys = true) :
    ((signT xs xs.length ++ atomBits a (placed xs xs.length)) == (signT ys ys.length ++ atomBits b (placed ys ys.length))) = sameB a (placed xs xs.length) b (placed ys ys.length) := by
  obtain ⟨_, _, hl, hs⟩ := readyB_true h
  have hsg := signsB_true hs
  have e1 : signT xs xs.length = signT ys ys.length := by rw [← hl]; exact signT_eq _ hsg
  have e2 : (placed xs xs.length).length = (placed ys ys.length).length := by rw [← hl]; exact placed_len _ hsg
  rw [← atomBits_same e2, e1, Bool.eq_iff_iff, beq_iff_eq, beq_iff_eq, List.append_right_inj]
theorem pel_neg {a : St} {x : Int} (h : x < -1) : true = !inB x (-1) (a.n - 1) := by
  unfold inB; rw [show decide (-1 ≤ x) = false from decide_eq_false (by omega)]; rfl
theorem pel_geq {a : St} {x : Int} (h : ¬ x < -1) : decide (a.n ≤ x) = !inB x (-1) (a.n - 1) := by
  unfold inB; rw [show decide (-1 ≤ x) = true from decide_eq_true (by omega), Bool.true_and, ← decide_not]
  congr 1; exact propext (by omega)
def pebL (a : St) (xs : List Int) : Bool := (decide (1 ≤ (xs.length : Int)) && decide ((xs.length : Int) ≤ 3)) && xs.all fun x => inB x (-1) (a.n - 1)
theorem pebB_eq (a : St) (xs : List Int) : pebB a xs = (validB a && pebL a xs) := by unfold pebB pebL inB; rw [Bool.and_assoc]
theorem not_any_pel (a : St) (xs : List Int) : (!(xs.any fun x => !inB x (-1) (a.n - 1))) = xs.all fun x => inB x (-1) (a.n - 1) := by rw [List.all_eq_not_any_not]
end Go.Wk
