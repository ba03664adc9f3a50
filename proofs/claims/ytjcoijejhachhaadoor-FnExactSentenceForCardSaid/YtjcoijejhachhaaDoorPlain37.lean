/-
  FORMULAS AS TEXTS: joined, each once; the formula of a list's type; the formula that tells lists apart. No program in sight.
-/
import Derived.Test.YtjcoijejhachhaaDoorPlain30
import Derived.Test.YtjcoijejhachhaaDoorCore4
namespace Go.Wk
open Go.RowKit
/-! ### joined texts -/
def joinN (op : List UInt8) (l : List (List UInt8)) : List UInt8 := preJ op l (l.length - 1) ++ l.getD (l.length - 1) []
theorem getM_len {l : List (List UInt8)} {M : Nat} (hl : ∀ s ∈ l, s.length ≤ M) (k : Nat) : (l.getD k []).length ≤ M := by
  rw [List.getD_eq_getElem?_getD]
  rcases Nat.lt_or_ge k l.length with h | h
  · rw [List.getElem?_eq_getElem h]; exact hl _ (List.getElem_mem _)
  · rw [List.getElem?_eq_none h]; simp
theorem preJ_lenM {op : List UInt8} {l : List (List UInt8)} {M : Nat} (ho : op.length ≤ 1) (hl : ∀ s ∈ l, s.length ≤ M) : ∀ k, (preJ op l k).length ≤ (M + 1) * k
  | 0 => by simp [preJ]
  | k + 1 => by
    have h1 := preJ_lenM ho hl k
    have h2 := getM_len hl k
    simp only [preJ, List.length_append]
    rw [Nat.mul_succ]; omega
theorem specJ_end' {op : List UInt8} {l : List (List UInt8)} {k : Nat} (h : l.length ≤ k) : specJ op l k = joinN op l := by
  unfold specJ joinN; rw [if_neg (by omega)]
theorem specJ_lenM {op : List UInt8} {l : List (List UInt8)} {M : Nat} (ho : op.length ≤ 1) (hl : ∀ s ∈ l, s.length ≤ M) (k : Nat) : (specJ op l k).length ≤ (M + 1) * k + (M + 1) * l.length + M := by
  have h1 := preJ_lenM ho hl k
  have h2 := preJ_lenM ho hl (l.length - 1)
  have h3 := getM_len hl (l.length - 1)
  have h4 : (M + 1) * (l.length - 1) ≤ (M + 1) * l.length := Nat.mul_le_mul_left _ (by omega)
  unfold specJ
  split
  · omega
  · rw [List.length_append]; omega
theorem joinN_len {op : List UInt8} {l : List (List UInt8)} {M : Nat} (ho : op.length ≤ 1) (hl : ∀ s ∈ l, s.length ≤ M) (h0 : l.length ≠ 0) : (joinN op l).length ≤ (M + 1) * l.length := by
  have h2 := preJ_lenM ho hl (l.length - 1)
  have h3 := getM_len hl (l.length - 1)
  have e : (M + 1) * l.length = (M + 1) * (l.length - 1) + (M + 1) := by
    rw [show l.length = (l.length - 1) + 1 from by omega, Nat.mul_succ]; simp
  unfold joinN
  rw [List.length_append]; omega
theorem mulM {M k n : Nat} (hM : M ≤ 100000) (hk : k ≤ n) (hn : n ≤ 1000) : (M + 1) * k ≤ 100001000 := Nat.le_trans (Nat.mul_le_mul (show M + 1 ≤ 100001 by omega) (show k ≤ 1000 by omega)) (by decide)
/-! ### a text, if it is not too long -/
def shortS (s : List UInt8) : List UInt8 := if s.length ≤ 4000 then s else []
def shortB (s : List UInt8) : Bool := decide (s.length ≤ 4000)
theorem dedup_memL {l : List (List UInt8)} {M : Nat} (h : ∀ s ∈ l, s.length ≤ M) : ∀ s ∈ dedup l, s.length ≤ M := fun s hs => by
  have key : ∀ (l ks : List (List UInt8)), (∀ t, t ∈ l.foldl addK ks → t ∈ ks ∨ t ∈ l) := fun l => by
    induction l with
    | nil => exact fun ks t ht => .inl ht
    | cons s l ih =>
      intro ks t ht
      rcases ih (addK ks s) t ht with h1 | h1
      · unfold addK at h1
        split at h1
        · exact .inl h1
        · rcases List.mem_append.1 h1 with h2 | h2
          · exact .inl h2
          · exact .inr (by rw [List.mem_singleton.1 h2]; simp)
      · exact .inr (by simp [h1])
  rcases key l [] s hs with h1 | h1
  · cases h1
  · exact h s h1
theorem dedup_le (l : List (List UInt8)) : (dedup l).length ≤ l.length := by
  have := dedup_len l []
  simpa [dedup] using this
theorem dedup_pos {l : List (List UInt8)} (h : l.length ≠ 0) : (dedup l).length ≠ 0 := by
  have key : ∀ (l ks : List (List UInt8)), ks.length ≤ (l.foldl addK ks).length := fun l => by
    induction l with
    | nil => exact fun ks => Nat.le_refl _
    | cons s l ih =>
      intro ks
      refine Nat.le_trans ?_ (ih _)
      unfold addK; split <;> simp
  cases l with
  | nil => simp at h
  | cons s l =>
    have := key l (addK [] s)
    unfold dedup
    rw [List.foldl_cons]
    have e : (addK [] s).length = 1 := by simp [addK]
    omega
/-! ### the formula of a type -/
/-- the formulas of the first k choices, up to the first one that is too long -/
def allS (f : Nat → Option (List UInt8)) : Nat → Option (List (List UInt8))
  | 0 => some []
  | k + 1 => match allS f k, f k with
    | some l, some s => some (l ++ [s])
    | _, _ => none
theorem allS_len {f : Nat → Option (List UInt8)} : ∀ {k : Nat} {l : List (List UInt8)}, allS f k = some l → l.length = k
  | 0, l, h => by simp [allS] at h; subst h; rfl
  | k + 1, l, h => by
    unfold allS at h
    split at h
    · rename_i l' s h1 h2
      injection h with h; subst h
      simp [allS_len h1]
    · cases h
theorem allS_mem {f : Nat → Option (List UInt8)} {M : Nat} (hf : ∀ i s, f i = some s → s.length ≤ M) : ∀ {k : Nat} {l : List (List UInt8)}, allS f k = some l → ∀ s ∈ l, s.length ≤ M
  | 0, l, h => by simp [allS] at h; subst h; simp
  | k + 1, l, h => by
    unfold allS at h
    split at h
    · rename_i l' s h1 h2
      injection h with h; subst h
      intro t ht
      rcases List.mem_append.1 ht with h3 | h3
      · exact allS_mem hf h1 t h3
      · rw [List.mem_singleton.1 h3]; exact hf _ _ h2
    · cases h
theorem allS_yes {f : Nat → Option (List UInt8)} {k : Nat} {l : List (List UInt8)} {s : List UInt8} (h : allS f k = some l) (hs : f k = some s) : allS f (k + 1) = some (l ++ [s]) := by unfold allS; rw [h, hs]
theorem allS_no {f : Nat → Option (List UInt8)} {k : Nat} (h : f k = none) : ∀ n, k < n → allS f n = none
  | 0, hn => by omega
  | n + 1, hn => by
    unfold allS
    rcases Nat.lt_or_ge k n with h1 | h1
    · rw [allS_no h n h1]
    · rw [show n = k from by omega, h]
      split
      · rename_i h2; cases h2
      · rfl
/-- the quantified parts -/
def somePart (v : List UInt8) (p : List UInt8) : List UInt8 := ([83] ++ v) ++ p
def typeAll (facts v : List UInt8) (parts : List (List UInt8)) : List (List UInt8) := ([facts] ++ parts.map (somePart v)) ++ [([65] ++ v) ++ joinN [124] parts]
def typeJ (facts v : List UInt8) (parts : List (List UInt8)) : List UInt8 := joinN [38] (typeAll facts v parts)
def tyF (a : St) : Nat → List Int → Option (List UInt8)
  | 0, xs => some (formB a xs)
  | r + 1, xs => match allS (fun x => tyF a r (xs ++ [(x : Int)])) a.n.toNat with
    | none => none
    | some fs => if (typeJ (formB a xs) (nameS xs.length) (dedup fs)).length ≤ 4000 then some (typeJ (formB a xs) (nameS xs.length) (dedup fs)) else none
theorem formB_len {a : St} {xs : List Int} (h : xs.length ≤ 4) : (formB a xs).length ≤ 4000 := by
  have hfl := factsL_length a xs xs.length h
  exact Nat.le_trans (joinB_len (by decide) (signed_le _)) (by simp; omega)
theorem tyF_len {a : St} : ∀ {r : Nat} {xs : List Int} {s : List UInt8}, xs.length + r ≤ 4 → tyF a r xs = some s → s.length ≤ 4000
  | 0, xs, s, hl, h => by
    injection h with h; subst h
    exact formB_len (by omega)
  | r + 1, xs, s, hl, h => by
    unfold tyF at h
    split at h
    · cases h
    · split at h
      · injection h with h; subst h; assumption
      · cases h
theorem tyF_none {a : St} {r : Nat} {xs : List Int} {k : Nat} (hk : k < a.n.toNat) (h : tyF a r (xs ++ [(k : Int)]) = none) : tyF a (r + 1) xs = none := by
  unfold tyF
  rw [allS_no (f := fun x => tyF a r (xs ++ [(x : Int)])) h _ hk]
theorem tyF_some {a : St} {r : Nat} {xs : List Int} {fs : List (List UInt8)} (h : allS (fun x => tyF a r (xs ++ [(x : Int)])) a.n.toNat = some fs) :
    tyF a (r + 1) xs = if (typeJ (formB a xs) (nameS xs.length) (dedup fs)).length ≤ 4000 then some (typeJ (formB a xs) (nameS xs.length) (dedup fs)) else none := by
  rw [tyF, h]
def optS (o : Option (List UInt8)) : List UInt8 := o.getD []
def tyOut (a : St) (xs : List Int) (r : Int) : Option (List UInt8) := if listB a xs && inB r 0 3 && decide ((xs.length : Int) + r ≤ 4) then tyF a r.toNat xs else none
/-! ### what tells lists apart -/
def diffO : List (List UInt8 × Bool) → List (List UInt8 × Bool) → List UInt8
  | f :: l, g :: m => if f.2 = g.2 then diffO l m else signed f
  | _, _ => []
theorem diffO_len : ∀ (l m : List (List UInt8 × Bool)), (∀ f ∈ l, f.1.length ≤ 3) → (diffO l m).length ≤ 4
  | [], _, _ => by simp [diffO]
  | _ :: _, [], _ => by simp [diffO]
  | f :: l, g :: m, h => by
    unfold diffO
    split
    · exact diffO_len l m fun x hx => h x (by simp [hx])
    · have := h f (by simp)
      unfold signed signS
      split
      · omega
      · simp; omega
theorem diffO_at : ∀ {l m : List (List UInt8 × Bool)} {k : Nat}, k < l.length → k < m.length → (∀ i : Nat, i < k → (l.getD i ([], false)).2 = (m.getD i ([], false)).2) → (l.getD k ([], false)).2 ≠ (m.getD k ([], false)).2 → diffO l m = signed (l.getD k ([], false))
  | [], _, _, h, _, _, _ => by simp at h
  | _ :: _, [], _, _, h, _, _ => by simp at h
  | f :: l, g :: m, 0, _, _, _, h => by
    simp at h
    unfold diffO; rw [if_neg h]; rfl
  | f :: l, g :: m, k + 1, h1, h2, h3, h4 => by
    have h0 := h3 0 (by omega)
    simp at h0
    unfold diffO
    rw [if_pos h0]
    exact diffO_at (by simpa using h1) (by simpa using h2) (fun i hi => by simpa using h3 (i + 1) (by omega)) (by simpa using h4)
def apart (v : List UInt8) (turned : Bool) (l : List (List UInt8)) : List UInt8 := ((if turned then [33, 83] else [83]) ++ v) ++ joinN [38] (dedup l)
def tellF : Nat → St → List Int → St → List Int → List UInt8
  | 0, a, xs, b, ys => diffO (factsL a xs xs.length) (factsL b ys ys.length)
  | r + 1, a, xs, b, ys => if sameB a xs b ys then
      (match moveO r a xs b ys with
      | some (true, x) => apart (nameS xs.length) false ((List.range b.n.toNat).map fun y : Nat => tellF r a (xs ++ [(x : Int)]) b (ys ++ [(y : Int)]))
      | some (false, y) => apart (nameS xs.length) true ((List.range a.n.toNat).map fun x : Nat => tellF r b (ys ++ [(y : Int)]) a (xs ++ [(x : Int)]))
      | none => [])
    else diffO (factsL a xs xs.length) (factsL b ys ys.length)
end Go.Wk
