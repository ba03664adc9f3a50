/-
  PLAIN NOTIONS: structures as data, their values, the atoms. No program in sight.
-/
import Derived.Test.YtmannilblelfjaaDoorWk
import Derived.Lib.SlTrimSet
namespace Go.Wk
open Go.RowKit

/-- A structure as data. -/
structure St where
  n : Int
  set : List UInt8
  rel : List UInt8
def vS (a : St) : Value := .agg #[.int .i64 a.n, str a.set, str a.rel]
/-- What 'valid' says of the sizes. -/
structure St.Fine (a : St) : Prop where
  lo : 1 ≤ a.n
  hi : a.n ≤ 8
  set : (a.set.length : Int) = a.n
  rel : (a.rel.length : Int) = a.n * a.n
def byteAt (s : List UInt8) (x : Int) : Int := ((s.getD x.toNat 0).toNat : Int)
def bitAt (s : List UInt8) (x : Int) : Bool := decide (byteAt s x = 49)
def St.inSet (a : St) (x : Int) : Bool := bitAt a.set x
def St.inRel (a : St) (x y : Int) : Bool := bitAt a.rel (x * a.n + y)
def St.El (a : St) (x : Int) : Prop := 0 ≤ x ∧ x < a.n
def St.Els (a : St) (xs : List Int) : Prop := ∀ x ∈ xs, a.El x
theorem St.Fine.relLt {a : St} (h : a.Fine) {x y : Int} (hx : a.El x) (hy : a.El y) : 0 ≤ x * a.n ∧ 0 ≤ x * a.n + y ∧ x * a.n + y < a.rel.length ∧ x * a.n + y < 64 ∧ x * a.n < 64 := by
  obtain ⟨x0, x1⟩ := hx
  obtain ⟨y0, y1⟩ := hy
  have h1 : x * a.n ≤ (a.n - 1) * a.n := Int.mul_le_mul_of_nonneg_right (by omega) (by have := h.lo; omega)
  have h2 : 0 ≤ x * a.n := Int.mul_nonneg x0 (by have := h.lo; omega)
  have h3 : (a.n - 1) * a.n = a.n * a.n - a.n := by rw [Int.sub_mul, Int.one_mul]
  have h4 : a.n * a.n ≤ 8 * 8 := Int.mul_le_mul h.hi h.hi (by have := h.lo; omega) (by decide)
  have h5 := h.rel
  omega
def ints (xs : List Int) : List Value := xs.map (.int .i64)
@[simp] theorem ints_length (xs : List Int) : (ints xs).length = xs.length := by simp [ints]
theorem ints_getD {xs : List Int} {i : Int} (h0 : 0 ≤ i) (h1 : i < xs.length) : (ints xs).getD i.toNat undef = .int .i64 (xs.getD i.toNat 0) := by
  have : i.toNat < xs.length := by omega
  simp [ints, List.getD_eq_getElem?_getD, this]
def Ints (w : World) (v : Value) (xs : List Int) : Prop := Row w v (ints xs)
theorem Ints.cell {w : World} {v : Value} {xs : List Int} (h : Ints w v xs) {i : Int} (h0 : 0 ≤ i) (h1 : i < xs.length) : w.cell? (sAt v i) = some (.int .i64 (xs.getD i.toNat 0)) := by
  rw [← ints_getD h0 h1]; exact Row.cell h h0 (by simpa using h1)
theorem Ints.nil {w : World} : Ints w (.slice none 0 0) [] := ⟨none, 0, rfl, Nat.le_refl _, fun _ => rfl, fun _ h => by cases h⟩
theorem Ints.take {w : World} {v : Value} {xs : List Int} (h : Ints w v xs) (k : Nat) (hk : k ≤ xs.length) : Ints w (sTake v k) (xs.take k) := by
  have := Row.take h k (by simpa using hk)
  unfold Ints ints at *
  rwa [List.map_take]
/-- two lists, one more element behind each: still in the same way? (the program's own order of tests) -/
def pairOk (a b : St) (x y v u : Int) : Bool := (decide (v = x) == decide (u = y)) && (a.inRel v x == b.inRel u y) && (a.inRel x v == b.inRel y u)
def stillB (a : St) (as_ : List Int) (b : St) (bs : List Int) (x y : Int) : Bool :=
  (a.inSet x == b.inSet y) && (a.inRel x x == b.inRel y y) && (List.zipWith (pairOk a b x y) as_ bs).all id
theorem St.Els.at {a : St} {xs : List Int} (h : a.Els xs) {i : Int} (h0 : 0 ≤ i) (h1 : i < xs.length) : a.El (xs.getD i.toNat 0) := by
  have : i.toNat < xs.length := by omega
  rw [List.getD_eq_getElem?_getD, List.getElem?_eq_getElem this]
  exact h _ (List.getElem_mem _)
theorem pairs_all {α β : Type} (f : α → β → Bool) (da : α) (db : β) : ∀ (xs : List α) (ys : List β), xs.length = ys.length → ((List.zipWith f xs ys).all id = true ↔ ∀ k : Nat, k < xs.length → f (xs.getD k da) (ys.getD k db) = true)
  | [], [], _ => by simp
  | x :: xs, y :: ys, h => by
    have ih := pairs_all f da db xs ys (by simpa using h)
    simp only [List.zipWith_cons_cons, List.all_cons, id_eq, Bool.and_eq_true, ih]
    constructor
    · rintro ⟨h1, h2⟩ k hk
      cases k with
      | zero => exact h1
      | succ k => simpa using h2 k (by simpa using hk)
    · intro h3
      exact ⟨h3 0 (by simp), fun k hk => by simpa using h3 (k + 1) (by simpa using hk)⟩
theorem stillB_true {a b : St} {xs ys : List Int} {x y : Int} (hl : xs.length = ys.length) : stillB a xs b ys x y = true ↔ a.inSet x = b.inSet y ∧ a.inRel x x = b.inRel y y ∧ ∀ k : Nat, k < xs.length → pairOk a b x y (xs.getD k 0) (ys.getD k 0) = true := by
  unfold stillB
  rw [Bool.and_eq_true, Bool.and_eq_true, pairs_all _ 0 0 xs ys hl, and_assoc]
  simp
theorem pairOk_true {a b : St} {x y v u : Int} : pairOk a b x y v u = true ↔ decide (v = x) = decide (u = y) ∧ a.inRel v x = b.inRel u y ∧ a.inRel x v = b.inRel y u := by
  unfold pairOk
  simp [and_assoc]
theorem bne_false {a b : Bool} (h : (a != b) = false) : a = b := by simpa using h
theorem bne_true {a b : Bool} (h : (a != b) = true) : a ≠ b := by simpa using h
theorem ret_b {x y : Bool} (h : x = y) : Ending.returned (.bool x) = .returned (.bool y) := by rw [h]
theorem ret_i {k : IntKind} {x y : Int} (h : x = y) : Ending.returned (.int k x) = .returned (.int k y) := by rw [h]
theorem ret_s {x y : List UInt8} (h : x = y) : Ending.returned (str x) = .returned (str y) := by rw [h]
/-! ### is a structure valid? -/
def inB (n lo hi : Int) : Bool := decide (lo ≤ n) && decide (n ≤ hi)
def isBit (c : UInt8) : Bool := decide ((c.toNat : Int) = 48) || decide ((c.toNat : Int) = 49)
def bitsB (s : List UInt8) (n : Int) : Bool := s.all isBit && decide ((s.length : Int) = n)
def validB (a : St) : Bool := inB a.n 1 8 && bitsB a.set a.n && bitsB a.rel (a.n * a.n)
structure St.Small (a : St) : Prop where
  set : a.set.length ≤ 1048576
  rel : a.rel.length ≤ 1048576
theorem validB_fine {a : St} (h : validB a = true) : a.Fine := by
  unfold validB inB bitsB at h
  simp only [Bool.and_eq_true, decide_eq_true_eq] at h
  exact ⟨h.1.1.1, h.1.1.2, h.1.2.2, h.2.2⟩
theorem St.Fine.small {a : St} (h : a.Fine) : a.Small := by
  have h4 : a.n * a.n ≤ 8 * 8 := Int.mul_le_mul h.hi h.hi (by have := h.lo; omega) (by decide)
  exact ⟨by have := h.set; have := h.hi; omega, by have := h.rel; omega⟩
theorem sq_le {n : Int} (h0 : 1 ≤ n) (h1 : n ≤ 8) : 0 ≤ n * n ∧ n * n ≤ 64 := by
  have h4 : n * n ≤ 8 * 8 := Int.mul_le_mul h1 h1 (by omega) (by decide)
  have h5 : 0 ≤ n * n := Int.mul_nonneg (by omega) (by omega)
  omega
theorem all_take {s : List UInt8} {k : Nat} (hk : k < s.length) (h : (s.take k).all isBit = true) (hb : isBit (s.getD k 0) = true) : (s.take (k + 1)).all isBit = true := by
  rw [List.take_succ_eq_append_getElem hk, List.all_append, h]
  rw [List.getD_eq_getElem?_getD, List.getElem?_eq_getElem hk] at hb
  simpa using hb
theorem all_false {s : List UInt8} {k : Nat} (hk : k < s.length) (hb : isBit (s.getD k 0) = false) : s.all isBit = false := by
  rw [List.all_eq_false]
  refine ⟨s[k], List.getElem_mem hk, ?_⟩
  rw [List.getD_eq_getElem?_getD, List.getElem?_eq_getElem hk] at hb
  simpa using hb
theorem isBit_mem (c : UInt8) : [48, 49].contains c = isBit c := by
  have h : ∀ d : UInt8, (c == d) = decide ((c.toNat : Int) = d.toNat) := fun d => by
    rw [Bool.eq_iff_iff, beq_iff_eq, decide_eq_true_eq]
    exact ⟨fun h => by rw [h], fun h => UInt8.toNat_inj.1 (by omega)⟩
  unfold isBit
  simp only [List.contains, List.elem, h]
  show (match decide ((c.toNat : Int) = 48) with | true => true | false => (match decide ((c.toNat : Int) = 49) with | true => true | false => false)) = _
  cases decide ((c.toNat : Int) = 48) <;> cases decide ((c.toNat : Int) = 49) <;> rfl
theorem dw_nil {α : Type} (p : α → Bool) : ∀ l : List α, l.dropWhile p = [] ↔ l.all p = true
  | [] => by simp
  | x :: xs => by
    have := dw_nil p xs
    rw [List.dropWhile_cons]
    cases h : p x
    · simp [h]
    · simp [h, this]
theorem dw_head {α : Type} (p : α → Bool) {x : α} {xs : List α} : ∀ l : List α, l.dropWhile p = x :: xs → p x = false
  | [], h => by cases h
  | y :: ys, h => by
    rw [List.dropWhile_cons] at h
    cases h2 : p y
    · simp only [h2, Bool.false_eq_true, if_false, List.cons.injEq] at h; rw [← h.1]; exact h2
    · simp only [h2, if_true] at h; exact dw_head p ys h
theorem trim_nil (s : List UInt8) : (Lib.trimS s [48, 49] == []) = s.all isBit := by
  have h1 : ∀ l : List UInt8, l.dropWhile (fun c => [48, 49].contains c) = [] ↔ l.all isBit = true := fun l => by
    rw [dw_nil]
    simp only [isBit_mem]
  rw [Bool.eq_iff_iff, beq_iff_eq]
  unfold Lib.trimS Lib.trimLeftS Lib.trimRightS
  constructor
  · intro h
    have h2 := (h1 _).1 h
    rw [List.all_reverse] at h2
    have h3 : s.reverse.dropWhile (fun c => [48, 49].contains c) = [] := by
      cases h4 : s.reverse.dropWhile (fun c => [48, 49].contains c) with
      | nil => rfl
      | cons x xs =>
        rw [h4] at h2
        have h5 := dw_head _ _ h4
        simp only [isBit_mem] at h5
        simp [h5] at h2
    have := (h1 _).1 h3
    rwa [List.all_reverse] at this
  · intro h
    have h3 : s.reverse.dropWhile (fun c => [48, 49].contains c) = [] := (h1 _).2 (by rw [List.all_reverse]; exact h)
    rw [h3]; rfl
/-! ### rows of integers -/
theorem ints_at {c : List Int} {off : Nat} (h : off < c.length) : (ints c).toArray.toList[off]? = some (.int .i64 (c.getD off 0)) := by
  simp [ints, List.getD_eq_getElem?_getD, h]
theorem cur_at {cur : Array Value} {n off : Nat} {vs : List Value} {v : Value} (ht : cur.toList.take n = vs) (hv : vs[off]? = some v) : cur.toList[off]? = some v := by
  rw [← ht, List.getElem?_take] at hv
  split at hv
  · exact hv
  · cases hv
theorem ints_set (c : List Int) (off : Nat) (x : Int) : (ints c).toArray.setIfInBounds off (.int .i64 x) = (ints (c.set off x)).toArray := by
  simp [ints, List.map_set]
theorem list_set (c : List Value) (off : Nat) (x : Value) : c.toArray.setIfInBounds off x = (c.set off x).toArray := by simp
theorem made_list (z : Value) (k : Nat) (h : z.cells = #[z]) : madeCells z.cells (k * 1) = (List.replicate k z).toArray := by
  rw [h, Nat.mul_one]
  apply Array.ext'
  rw [toList_madeCells_one]
theorem made_ints (k : Nat) : madeCells (Value.cells (.int .i64 0)) (k * 1) = (ints (List.replicate k 0)).toArray := by
  rw [made_list _ _ rfl]; simp [ints]
/-! ### what the statements' own helpers compute -/
def szB (a : St) (left : Int) : Int :=
  if left - a.set.length < 0 then -1 else if left - a.set.length - a.rel.length < 0 then -1 else left - a.set.length - a.rel.length
theorem szB_small {a : St} {left : Int} (hl : left ≤ 1048576) (h : ¬ szB a left < 0) : a.Small ∧ 0 ≤ szB a left ∧ szB a left ≤ left := by
  unfold szB at *
  split at h
  · omega
  · split at h
    · omega
    · rename_i h1 h2; rw [if_neg h1, if_neg h2]; exact ⟨⟨by omega, by omega⟩, by omega, by omega⟩
def heldV : List Int → Int → Int
  | [], k => k
  | x :: xs, k => if x = k then heldV xs (k + 1) else -1
theorem heldV_drop {xs : List Int} {k : Int} {i : Nat} (hi : i < xs.length) : heldV (xs.drop i) k = if xs.getD i 0 = k then heldV (xs.drop (i + 1)) (k + 1) else -1 := by
  rw [List.drop_eq_getElem_cons hi, heldV, List.getD_eq_getElem?_getD, List.getElem?_eq_getElem hi]
  rfl
def markA (cur : Array Value) (k : Int) : Nat → Array Value
  | 0 => cur
  | i + 1 => (markA cur k i).setIfInBounds i (.int .i64 (k + i))
@[simp] theorem markA_size (cur : Array Value) (k : Int) : ∀ i, (markA cur k i).size = cur.size
  | 0 => rfl
  | i + 1 => by simp [markA, markA_size cur k i]
def marks (k : Int) : Nat → List Int
  | 0 => []
  | i + 1 => marks k i ++ [k + i]
@[simp] theorem marks_length (k : Int) : ∀ i, (marks k i).length = i
  | 0 => rfl
  | i + 1 => by simp [marks, marks_length k i]
theorem markA_take (cur : Array Value) (k : Int) : ∀ i, i ≤ cur.size → (markA cur k i).toList.take i = ints (marks k i)
  | 0, _ => by simp [marks, ints]
  | i + 1, h => by
    have ih := markA_take cur k i (by omega)
    have hl : i < (markA cur k (i + 1)).toList.length := by simp; omega
    rw [List.take_succ_eq_append_getElem hl]
    have h1 : (markA cur k (i + 1)).toList.take i = (markA cur k i).toList.take i := by
      simp only [markA, Array.toList_setIfInBounds]
      rw [List.take_set_of_le (Nat.le_refl _)]
    rw [h1, ih]
    have h2 : (markA cur k (i + 1)).toList[i]'hl = .int .i64 (k + i) := by simp [markA]
    rw [h2]; simp [marks, ints]
theorem heldV_marks (k : Int) : ∀ (i : Nat) (xs : List Int), heldV (marks k i ++ xs) k = heldV xs (k + i)
  | 0, xs => by simp [marks]
  | i + 1, xs => by
    rw [marks, List.append_assoc, heldV_marks k i, List.singleton_append, heldV, if_pos rfl]
    congr 1; omega
theorem held_all (k : Int) (i : Nat) : heldV (marks k i) k = k + i := by
  have := heldV_marks k i []
  simpa [heldV] using this
theorem eq_take {α : Type} {xs ys : List α} {d : α} {k : Nat} (h1 : k < xs.length) (h2 : k < ys.length) (h : xs.take k = ys.take k) (he : xs.getD k d = ys.getD k d) : xs.take (k + 1) = ys.take (k + 1) := by
  rw [List.take_succ_eq_append_getElem h1, List.take_succ_eq_append_getElem h2, h]
  rw [List.getD_eq_getElem?_getD, List.getElem?_eq_getElem h1, List.getD_eq_getElem?_getD, List.getElem?_eq_getElem h2] at he
  simp only [Option.getD_some] at he
  rw [he]
theorem known_b {P : Program} {f : FuncId} {args : Array Value} {w : World} {x y : Bool} (h : x = y) (H : Calls P f args w fun en w' => en = .returned (.bool x) ∧ Below w.heap.size w w') : Calls P f args w fun en w' => en = .returned (.bool y) ∧ Below w.heap.size w w' := h ▸ H
/-! ### chapter 4 -/
def kindN (a : St) (x : Int) : Nat := (if a.inSet x then 1 else 0) + (if a.inRel x x then 2 else 0)
theorem kind_toNat (a : St) (x : Int) : ((if a.inSet x = true then (1 : Int) else 0) + 2 * (if a.inRel x x = true then (1 : Int) else 0)).toNat = kindN a x := by
  unfold kindN; split <;> split <;> rfl
def spreadTo (a : St) : Nat → List Int
  | 0 => [0, 0, 0, 0]
  | k + 1 => (spreadTo a k).set (kindN a k) ((spreadTo a k).getD (kindN a k) 0 + 1)
@[simp] theorem spreadTo_length (a : St) : ∀ k, (spreadTo a k).length = 4
  | 0 => rfl
  | k + 1 => by simp [spreadTo, spreadTo_length a k]
theorem spread_bd (a : St) : ∀ (k j : Nat), 0 ≤ (spreadTo a k).getD j 0 ∧ (spreadTo a k).getD j 0 ≤ k
  | 0, j => by
    match j with
    | 0 => exact ⟨Int.le_refl _, Int.le_refl _⟩
    | 1 => exact ⟨Int.le_refl _, Int.le_refl _⟩
    | 2 => exact ⟨Int.le_refl _, Int.le_refl _⟩
    | 3 => exact ⟨Int.le_refl _, Int.le_refl _⟩
    | j + 4 => exact ⟨Int.le_refl _, Int.le_refl _⟩
  | k + 1, j => by
    have h1 := spread_bd a k j
    have h2 := spread_bd a k (kindN a k)
    simp only [spreadTo, List.getD_eq_getElem?_getD, List.getElem?_set] at h1 h2 ⊢
    split
    · split
      · simp only [Option.getD_some]; omega
      · simp only [Option.getD_none]; omega
    · omega
theorem bd_lo {x : Int} {k : Nat} (h : 0 ≤ x ∧ x ≤ k) : -9223372036854775808 ≤ x + 1 := by omega
theorem bd_hi {x : Int} {k : Nat} (h : 0 ≤ x ∧ x ≤ k) (hk : k ≤ 1000) : x + 1 < 9223372036854775808 := by omega
end Go.Wk
