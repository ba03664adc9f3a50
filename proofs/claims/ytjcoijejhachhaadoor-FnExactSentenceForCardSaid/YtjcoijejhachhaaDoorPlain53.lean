/-
  FORMULAS AS TEXTS: steps of the loops, lengths. No program in sight.
-/
import Derived.Test.YtjcoijejhachhaaDoorPlain37
namespace Go.Wk
open Go.RowKit
theorem beqS_comm (x y : List UInt8) : (x == y) = (y == x) := by
  rw [Bool.eq_iff_iff, beq_iff_eq, beq_iff_eq]; exact eq_comm
theorem seenI_mem {l : List (List UInt8)} {s : List UInt8} : decide (0 ≤ seenI l s) = decide (s ∈ l) := by
  unfold seenI
  by_cases h : s ∈ l
  · rw [if_pos h]; exact decide_eq_decide.2 ⟨fun _ => h, fun _ => by omega⟩
  · rw [if_neg h]; exact decide_eq_decide.2 ⟨fun e => absurd e (by decide), fun e => absurd e h⟩
theorem dedup_old {l : List (List UInt8)} {k : Nat} (hk : k < l.length) (h : l.getD k [] ∈ dedup (l.take k)) : dedup (l.take (k + 1)) = dedup (l.take k) := by
  rw [dedup_step hk]; exact addK_old (fun e => e h)
theorem dedup_new {l : List (List UInt8)} {k : Nat} (hk : k < l.length) (h : ¬ l.getD k [] ∈ dedup (l.take k)) : dedup (l.take (k + 1)) = dedup (l.take k) ++ [l.getD k []] := by
  rw [dedup_step hk]; exact addK_new h
theorem shortS_of {s : List UInt8} (h : s.length ≤ 4000) : shortS s = s := if_pos h
theorem optS_some {o : Option (List UInt8)} (h : o.isSome = true) : o = some (optS o) := by
  cases o with
  | none => cases h
  | some s => rfl
theorem some_step {f v : List UInt8} {l : List (List UInt8)} {k : Nat} (hk : k < l.length) : [f] ++ (l.take (k + 1)).map (somePart v) = ([f] ++ (l.take k).map (somePart v)) ++ [([83] ++ v) ++ l.getD k []] := by
  rw [List.take_succ_eq_append_getElem hk, List.map_append, List.append_assoc, getD_at hk]; rfl
theorem typeAll_len {f v : List UInt8} {l : List (List UInt8)} (hf : f.length ≤ 4000) (hv : v.length ≤ 1) (hl : ∀ s ∈ l, s.length ≤ 4000) (h8 : l.length ≤ 8) (h0 : l.length ≠ 0) : ∀ s ∈ typeAll f v l, s.length ≤ 40000 := fun s hs => by
  unfold typeAll at hs
  rcases List.mem_append.1 hs with h1 | h1
  · rcases List.mem_append.1 h1 with h2 | h2
    · rw [List.mem_singleton.1 h2]; omega
    · obtain ⟨p, hp, rfl⟩ := List.mem_map.1 h2
      have := hl p hp
      unfold somePart
      simp only [List.length_append, List.length_cons, List.length_nil]
      omega
  · rw [List.mem_singleton.1 h1]
    have := joinN_len (op := [124]) (by decide) hl h0
    simp only [List.length_append, List.length_cons, List.length_nil]
    omega
theorem typeAll_count (f v : List UInt8) (l : List (List UInt8)) : (typeAll f v l).length = l.length + 2 := by
  unfold typeAll
  simp only [List.length_append, List.length_map, List.length_cons, List.length_nil]
  omega
/-- what the reference says: the text, and whether it is short enough -/
def tySp (a : St) : Nat → List Int → List UInt8 × Bool
  | 0, xs => (formB a xs, true)
  | r + 1, xs => match allS (fun x => tyF a r (xs ++ [(x : Int)])) a.n.toNat with
    | none => ([], false)
    | some fs => (typeJ (formB a xs) (nameS xs.length) (dedup fs), decide ((typeJ (formB a xs) (nameS xs.length) (dedup fs)).length ≤ 4000))
theorem tySp_some {a : St} {r : Nat} {xs : List Int} {fs : List (List UInt8)} (h : allS (fun x => tyF a r (xs ++ [(x : Int)])) a.n.toNat = some fs) :
    tySp a (r + 1) xs = (typeJ (formB a xs) (nameS xs.length) (dedup fs), decide ((typeJ (formB a xs) (nameS xs.length) (dedup fs)).length ≤ 4000)) := by rw [tySp, h]
theorem tySp_none {a : St} {r : Nat} {xs : List Int} {k : Nat} (hk : k < a.n.toNat) (h : tyF a r (xs ++ [(k : Int)]) = none) : tySp a (r + 1) xs = ([], false) := by
  rw [tySp, allS_no (f := fun x => tyF a r (xs ++ [(x : Int)])) h _ hk]
theorem tySp_is {a : St} : ∀ {r : Nat} {xs : List Int}, (tySp a r xs).2 = (tyF a r xs).isSome
  | 0, _ => rfl
  | r + 1, xs => by
    rw [tySp, tyF]
    cases allS (fun x => tyF a r (xs ++ [(x : Int)])) a.n.toNat with
    | none => rfl
    | some fs =>
      dsimp only
      split
      · rename_i h; rw [decide_eq_true h]; rfl
      · rename_i h; rw [decide_eq_false h]; rfl
theorem tySp_at {a : St} : ∀ {r : Nat} {xs : List Int}, (tySp a r xs).2 = true → tyF a r xs = some (tySp a r xs).1
  | 0, _, _ => rfl
  | r + 1, xs, h => by
    rw [tySp] at h ⊢
    rw [tyF]
    cases e : allS (fun x => tyF a r (xs ++ [(x : Int)])) a.n.toNat with
    | none => rw [e] at h; cases h
    | some fs =>
      rw [e] at h
      dsimp only at h ⊢
      rw [if_pos (of_decide_eq_true h)]
theorem tySp_no {a : St} {r : Nat} {xs : List Int} (h : (tySp a r xs).2 = false) : tyF a r xs = none := by
  rw [tySp_is] at h
  cases e : tyF a r xs with
  | none => rfl
  | some s => rw [e] at h; cases h
theorem none_of {o : Option (List UInt8)} (h : o.isSome = false) : o = none := by
  cases o with
  | none => rfl
  | some s => cases h
theorem parts_len {a : St} {r : Nat} {xs : List Int} {fs : List (List UInt8)} {k : Nat} (hl : xs.length + (r + 1) ≤ 4) (h : allS (fun x => tyF a r (xs ++ [(x : Int)])) k = some fs) : (∀ s ∈ dedup fs, s.length ≤ 4000) ∧ (dedup fs).length ≤ k ∧ fs.length = k := by
  refine ⟨dedup_memL (allS_mem (fun i s hs => tyF_len (by rw [List.length_append, List.length_singleton]; omega) hs) h), ?_, allS_len h⟩
  have := dedup_le fs
  rw [allS_len h] at this
  exact this
theorem short_ty {s : List UInt8} {o : Option (List UInt8)} (h : o = if s.length ≤ 4000 then some s else none) : shortS s = optS o ∧ shortB s = o.isSome := by
  subst h
  unfold shortS shortB
  split
  · rename_i h; exact ⟨rfl, by rw [decide_eq_true h]; rfl⟩
  · rename_i h; exact ⟨rfl, by rw [decide_eq_false h]; rfl⟩
end Go.Wk
