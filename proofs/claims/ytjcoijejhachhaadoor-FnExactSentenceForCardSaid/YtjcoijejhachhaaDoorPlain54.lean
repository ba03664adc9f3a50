/-
  WHAT TELLS LISTS APART: the first fact that differs, the first player's move. No program in sight.
-/
import Derived.Test.YtjcoijejhachhaaDoorPlain53
namespace Go.Wk
open Go.RowKit
/-! ### facts -/
theorem more_names (a b : St) (xs ys : List Int) (i : Nat) : ∀ k : Nat, (moreL a xs i k).map Prod.fst = (moreL b ys i k).map Prod.fst
  | 0 => rfl
  | k + 1 => by
    unfold moreL
    rw [List.map_append, List.map_append, more_names a b xs ys i k]; rfl
theorem fact_names (a b : St) (xs ys : List Int) (i : Nat) : (factL a xs i).map Prod.fst = (factL b ys i).map Prod.fst := by
  unfold factL
  rw [List.map_append, List.map_append, more_names a b xs ys]; rfl
theorem facts_names (a b : St) (xs ys : List Int) : ∀ i : Nat, (factsL a xs i).map Prod.fst = (factsL b ys i).map Prod.fst
  | 0 => rfl
  | i + 1 => by unfold factsL; rw [List.map_append, List.map_append, facts_names a b xs ys i, fact_names a b xs ys]
theorem facts_len (a b : St) (xs ys : List Int) (i : Nat) : (factsL a xs i).length = (factsL b ys i).length := by
  have := congrArg List.length (facts_names a b xs ys i)
  simpa using this
theorem diffO_none : ∀ {l m : List (List UInt8 × Bool)}, (∀ i : Nat, i < l.length → (l.getD i ([], false)).2 = (m.getD i ([], false)).2) → diffO l m = []
  | [], _, _ => by cases ‹List (List UInt8 × Bool)› <;> rfl
  | _ :: _, [], _ => rfl
  | f :: l, g :: m, h => by
    have h0 := h 0 (by simp)
    simp at h0
    unfold diffO
    rw [if_pos h0]
    exact diffO_none fun i hi => by simpa using h (i + 1) (by simpa using hi)
/-- the first text that differs -/
def diffS : List (List UInt8) → List (List UInt8) → List UInt8
  | f :: l, g :: m => if f = g then diffS l m else f
  | _, _ => []
theorem diffS_same : ∀ l : List (List UInt8), diffS l l = []
  | [] => rfl
  | f :: l => by unfold diffS; rw [if_pos rfl, diffS_same l]
theorem diffS_app : ∀ {l m l' m' : List (List UInt8)}, l.length = m.length → diffS (l ++ l') (m ++ m') = if l = m then diffS l' m' else diffS l m
  | [], [], _, _, _ => by simp
  | [], _ :: _, _, _, h => by simp at h
  | _ :: _, [], _, _, h => by simp at h
  | f :: l, g :: m, l', m', h => by
    have ih := diffS_app (l := l) (m := m) (l' := l') (m' := m') (by simpa using h)
    by_cases e : f = g
    · subst e
      by_cases e2 : l = m
      · subst e2
        rw [if_pos rfl] at ih ⊢
        show (if f = f then diffS (l ++ l') (l ++ m') else f) = diffS l' m'
        rw [if_pos rfl, ih]
      · rw [if_neg e2] at ih
        rw [if_neg (fun h => e2 (by injection h))]
        show (if f = f then diffS (l ++ l') (m ++ m') else f) = (if f = f then diffS l m else f)
        rw [if_pos rfl, if_pos rfl, ih]
    · rw [if_neg (fun h => e (by injection h))]
      show (if f = g then diffS (l ++ l') (m ++ m') else f) = (if f = g then diffS l m else f)
      rw [if_neg e, if_neg e]
theorem diffS_at : ∀ {l m : List (List UInt8)} {k : Nat}, k < l.length → k < m.length → (∀ i : Nat, i < k → l.getD i [] = m.getD i []) → l.getD k [] ≠ m.getD k [] → diffS l m = l.getD k []
  | [], _, _, h, _, _, _ => by simp at h
  | _ :: _, [], _, _, h, _, _ => by simp at h
  | f :: l, g :: m, 0, _, _, _, h => by
    simp at h
    unfold diffS; rw [if_neg h]; rfl
  | f :: l, g :: m, k + 1, h1, h2, h3, h4 => by
    have h0 := h3 0 (by omega)
    simp at h0
    unfold diffS
    rw [if_pos h0]
    exact diffS_at (by simpa using h1) (by simpa using h2) (fun i hi => by simpa using h3 (i + 1) (by omega)) (by simpa using h4)
theorem signS_inj {b c : Bool} {s : List UInt8} (h : signS b s = signS c s) : b = c := by
  have h1 := congrArg List.length h
  cases b <;> cases c <;> simp [signS] at h1 ⊢
theorem diffO_S : ∀ {l m : List (List UInt8 × Bool)}, l.map Prod.fst = m.map Prod.fst → diffO l m = diffS (l.map signed) (m.map signed)
  | [], [], _ => rfl
  | [], _ :: _, h => by simp at h
  | _ :: _, [], h => by simp at h
  | f :: l, g :: m, h => by
    obtain ⟨f1, f2⟩ := f
    obtain ⟨g1, g2⟩ := g
    rw [List.map_cons, List.map_cons] at h
    injection h with h1 h2
    obtain rfl : f1 = g1 := h1
    have ih := diffO_S h2
    unfold diffO
    rw [List.map_cons, List.map_cons]
    unfold diffS
    by_cases e : f2 = g2
    · rw [if_pos e, if_pos (show signed (f1, f2) = signed (f1, g2) by rw [e]), ih]
    · have hne : ¬ signed (f1, f2) = signed (f1, g2) := fun h => e (signS_inj h)
      rw [if_neg e, if_neg hne]
/-- all facts of the first i elements are alike -/
theorem differ_at {a b : St} {xs ys : List Int} {n i k : Nat} (hi : i < n) (hk : k < (factL a xs i).length) (hall : (factsL a xs i).map signed = (factsL b ys i).map signed) (hal : ∀ j : Nat, j < k → ((factL a xs i).map signed).getD j [] = ((factL b ys i).map signed).getD j []) (hne : ((factL a xs i).map signed).getD k [] ≠ ((factL b ys i).map signed).getD k []) :
    diffO (factsL a xs n) (factsL b ys n) = ((factL a xs i).map signed).getD k [] := by
  rw [diffO_S (facts_names a b xs ys n)]
  have step : diffS ((factsL a xs (i + 1)).map signed) ((factsL b ys (i + 1)).map signed) = ((factL a xs i).map signed).getD k [] ∧ ¬ (factsL a xs (i + 1)).map signed = (factsL b ys (i + 1)).map signed := by
    have hlen : ((factsL a xs i).map signed).length = ((factsL b ys i).map signed).length := by rw [hall]
    have hlf : (factL a xs i).length = (factL b ys i).length := by simp
    rw [facts_step, facts_step, diffS_app hlen, if_pos hall]
    refine ⟨diffS_at (by simpa using hk) (by rw [List.length_map, ← hlf]; exact hk) hal hne, fun e => ?_⟩
    rw [hall] at e
    have := List.append_cancel_left e
    exact hne (by rw [this])
  have go : ∀ m : Nat, diffS ((factsL a xs (i + 1 + m)).map signed) ((factsL b ys (i + 1 + m)).map signed) = ((factL a xs i).map signed).getD k [] ∧ ¬ (factsL a xs (i + 1 + m)).map signed = (factsL b ys (i + 1 + m)).map signed := fun m => by
    induction m with
    | zero => exact step
    | succ m ih =>
      have hlen : ((factsL a xs (i + 1 + m)).map signed).length = ((factsL b ys (i + 1 + m)).map signed).length := by
        rw [List.length_map, List.length_map]; exact facts_len a b xs ys _
      rw [← Nat.add_assoc, facts_step, facts_step, diffS_app hlen, if_neg ih.2]
      refine ⟨ih.1, fun e => ih.2 (List.append_inj_left e hlen)⟩
  have := (go (n - (i + 1))).1
  rwa [show i + 1 + (n - (i + 1)) = n from by omega] at this
theorem differ_none {a b : St} {xs ys : List Int} {n : Nat} (hall : (factsL a xs n).map signed = (factsL b ys n).map signed) : diffO (factsL a xs n) (factsL b ys n) = [] := by
  rw [diffO_S (facts_names a b xs ys n), hall, diffS_same]
theorem list_extS {l m : List (List UInt8)} (hl : l.length = m.length) (h : ∀ i : Nat, i < l.length → l.getD i [] = m.getD i []) : l = m := by
  refine List.ext_getElem hl fun i h1 h2 => ?_
  have := h i h1
  rwa [getD_at h1, getD_at h2] at this
/-! ### the first player's move -/
theorem rep_not {n : Nat} {a b : St} {xs ys : List Int} {x : Int} (hl : xs.length = ys.length) (h : (rep (goB n) a xs b ys x).isSome = false) {y : Nat} (hy : y < b.n.toNat) : winB n a (xs ++ [x]) b (ys ++ [(y : Int)]) = false := by
  cases e : winB n a (xs ++ [x]) b (ys ++ [(y : Int)]) with
  | false => rfl
  | true => rw [(rep_some (g := goB n) (x := x) hl).2 ⟨y, hy, e⟩] at h; cases h
theorem move_at1 {n x : Nat} {a b : St} {xs ys : List Int} (hl : xs.length = ys.length) (h : moveO n a xs b ys = some (true, x)) : x < a.n.toNat ∧ ∀ y : Nat, y < b.n.toNat → winB n a (xs ++ [(x : Int)]) b (ys ++ [(y : Int)]) = false := by
  unfold moveO at h
  split at h
  · rename_i z hz
    injection h with h
    injection h with _ h
    subst h
    exact ⟨List.mem_range.1 (List.mem_of_find?_eq_some hz), fun y hy => rep_not hl (by have := List.find?_some hz; simpa using this) hy⟩
  · split at h
    · injection h with h; injection h with h; cases h
    · cases h
theorem move_at2 {n y : Nat} {a b : St} {xs ys : List Int} (hl : xs.length = ys.length) (h : moveO n a xs b ys = some (false, y)) : y < b.n.toNat ∧ ∀ x : Nat, x < a.n.toNat → winB n b (ys ++ [(y : Int)]) a (xs ++ [(x : Int)]) = false := by
  unfold moveO at h
  split at h
  · injection h with h; injection h with h; cases h
  · split at h
    · rename_i z hz
      injection h with h
      injection h with _ h
      subst h
      exact ⟨List.mem_range.1 (List.mem_of_find?_eq_some hz), fun x hx => rep_not hl.symm (by have := List.find?_some hz; simpa using this) hx⟩
    · cases h
theorem isSome_of {o : Option Nat} (h : ¬ (!o.isSome) = true) : o.isSome = true := by
  cases e : o.isSome with
  | true => rfl
  | false => rw [e] at h; exact absurd rfl h
theorem move_ex {n : Nat} {a b : St} {xs ys : List Int} (hs : sameB a xs b ys = true) (hw : winB (n + 1) a xs b ys = false) : ∃ (sd : Bool) (x : Nat), moveO n a xs b ys = some (sd, x) := by
  cases e : moveO n a xs b ys with
  | some p => exact ⟨p.1, p.2, rfl⟩
  | none =>
    exfalso
    unfold moveO at e
    split at e
    · cases e
    · rename_i h1
      split at e
      · cases e
      · rename_i h2
        rw [List.find?_eq_none] at h1 h2
        unfold winB at hw
        rw [hs, go_yes (fun i hi => isSome_of (h1 i (List.mem_range.2 hi))) (fun i hi => isSome_of (h2 i (List.mem_range.2 hi)))] at hw
        cases hw
/-! ### parts -/
def tlL (F : Nat → List UInt8) (k : Nat) : List (List UInt8) := (List.range k).map F
@[simp] theorem tlL_len (F : Nat → List UInt8) (k : Nat) : (tlL F k).length = k := by simp [tlL]
theorem tlL_step (F : Nat → List UInt8) (k : Nat) : tlL F (k + 1) = tlL F k ++ [F k] := by simp [tlL, List.range_succ]
def LT : Nat → Nat
  | 0 => 4
  | n + 1 => 8 * LT n + 11
theorem LT_mono (n : Nat) : 4 ≤ LT n := by
  cases n with
  | zero => exact Nat.le_refl _
  | succ n => unfold LT; omega
theorem LT3 {n : Nat} (h : n ≤ 3) : LT n ≤ 2851 := by
  rcases (by omega : n = 0 ∨ n = 1 ∨ n = 2 ∨ n = 3) with e | e | e | e <;> subst e <;> decide
theorem more_small (a : St) (xs : List Int) (i : Nat) : ∀ k : Nat, ∀ f ∈ moreL a xs i k, f.1.length ≤ 3
  | 0, f, hf => by cases hf
  | k + 1, f, hf => by
    have h1 := name_le i
    have h2 := name_le k
    unfold moreL at hf
    rcases List.mem_append.1 hf with h | h
    · exact more_small a xs i k f h
    · simp only [List.mem_cons, List.not_mem_nil, or_false] at h
      rcases h with rfl | rfl | rfl <;> simp only [List.length_append, List.length_cons, List.length_nil] <;> omega
theorem facts_small (a : St) (xs : List Int) : ∀ i : Nat, ∀ f ∈ factsL a xs i, f.1.length ≤ 3
  | 0, f, hf => by cases hf
  | i + 1, f, hf => by
    have h1 := name_le i
    unfold factsL at hf
    rcases List.mem_append.1 hf with h | h
    · exact facts_small a xs i f h
    · unfold factL headL at h
      rcases List.mem_append.1 h with h | h
      · simp only [List.mem_cons, List.not_mem_nil, or_false] at h
        rcases h with rfl | rfl <;> simp only [List.length_append, List.length_cons, List.length_nil] <;> omega
      · exact more_small a xs i i f h
theorem apart_len {v : List UInt8} {turned : Bool} {F : Nat → List UInt8} {m M : Nat} (hv : v.length ≤ 1) (h1 : 1 ≤ m) (h8 : m ≤ 8) (hF : ∀ i : Nat, i < m → (F i).length ≤ M) : (apart v turned (tlL F m)).length ≤ 8 * M + 11 := by
  have hl : ∀ s ∈ tlL F m, s.length ≤ M := fun s hs => by
    obtain ⟨i, hi, rfl⟩ := List.mem_map.1 hs
    exact hF i (List.mem_range.1 hi)
  have hd := dedup_le (tlL F m)
  rw [tlL_len] at hd
  have hj := joinN_len (op := [38]) (by decide) (dedup_memL hl) (dedup_pos (l := tlL F m) (by rw [tlL_len]; omega))
  have hm : (M + 1) * (dedup (tlL F m)).length ≤ (M + 1) * 8 := Nat.mul_le_mul_left _ (by omega)
  unfold apart
  cases turned <;> simp only [List.length_append, List.length_cons, List.length_nil, if_true, Bool.false_eq_true, if_false] <;> omega
theorem tell_some1 {r x : Nat} {a b : St} {xs ys : List Int} (hs : sameB a xs b ys = true) (h : moveO r a xs b ys = some (true, x)) : tellF (r + 1) a xs b ys = apart (nameS xs.length) false (tlL (fun y : Nat => tellF r a (xs ++ [(x : Int)]) b (ys ++ [(y : Int)])) b.n.toNat) := by
  rw [tellF, if_pos hs, h]; rfl
theorem tell_some2 {r y : Nat} {a b : St} {xs ys : List Int} (hs : sameB a xs b ys = true) (h : moveO r a xs b ys = some (false, y)) : tellF (r + 1) a xs b ys = apart (nameS xs.length) true (tlL (fun x : Nat => tellF r b (ys ++ [(y : Int)]) a (xs ++ [(x : Int)])) a.n.toNat) := by
  rw [tellF, if_pos hs, h]; rfl
theorem tell_diff {r : Nat} {a b : St} {xs ys : List Int} (hs : sameB a xs b ys = false) : tellF r a xs b ys = diffO (factsL a xs xs.length) (factsL b ys ys.length) := by
  cases r with
  | zero => rfl
  | succ r => rw [tellF, if_neg (by rw [hs]; decide)]
theorem tell_len : ∀ (n : Nat) {a b : St} {xs ys : List Int}, a.n.toNat ≤ 8 → b.n.toNat ≤ 8 → 1 ≤ a.n.toNat → 1 ≤ b.n.toNat → (tellF n a xs b ys).length ≤ LT n
  | 0, a, b, xs, ys, _, _, _, _ => diffO_len _ _ (facts_small a xs _)
  | n + 1, a, b, xs, ys, ha, hb, ha1, hb1 => by
    have hLT := LT_mono (n + 1)
    cases hs : sameB a xs b ys with
    | false => rw [tell_diff hs]; exact Nat.le_trans (diffO_len _ _ (facts_small a xs _)) hLT
    | true =>
      cases hm : moveO n a xs b ys with
      | none => rw [tellF, if_pos hs, hm]; exact Nat.zero_le _
      | some p =>
        obtain ⟨sd, x⟩ := p
        cases sd with
        | true => rw [tell_some1 hs hm]; exact apart_len (name_le _) hb1 hb fun i _ => tell_len n ha hb ha1 hb1
        | false => rw [tell_some2 hs hm]; exact apart_len (name_le _) ha1 ha fun i _ => tell_len n hb ha hb1 ha1
def telOut (a : St) (xs : List Int) (b : St) (ys : List Int) (r : Int) : List UInt8 × Bool := if gameB a xs b ys r && decide ((xs.length : Int) + r ≤ 4) && !winB r.toNat a xs b ys then (tellF r.toNat a xs b ys, true) else ([], false)
theorem telOut_yes {a b : St} {xs ys : List Int} {r : Int} (hg : gameB a xs b ys r = true) (h4 : (xs.length : Int) + r ≤ 4) (hw : winB r.toNat a xs b ys = false) : telOut a xs b ys r = (tellF r.toNat a xs b ys, true) := by
  unfold telOut; rw [if_pos (by rw [hg, hw, decide_eq_true h4]; rfl)]
theorem telOut_no {a b : St} {xs ys : List Int} {r : Int} (h : gameB a xs b ys r = false ∨ 4 < (xs.length : Int) + r ∨ winB r.toNat a xs b ys = true) : telOut a xs b ys r = ([], false) := by
  unfold telOut
  rw [if_neg]
  intro e
  simp only [Bool.and_eq_true, decide_eq_true_eq, Bool.not_eq_true'] at e
  rcases h with h | h | h
  · rw [h] at e; exact absurd e.1.1 (by decide)
  · omega
  · rw [h] at e; exact absurd e.2 (by decide)
theorem tell_short {a b : St} {xs ys : List Int} {n : Nat} (h3 : n ≤ 3) (ha : a.Fine) (hb : b.Fine) : (tellF n a xs b ys).length ≤ 4000 := by
  have h1 := ha.lo
  have h2 := ha.hi
  have h4 := hb.lo
  have h5 := hb.hi
  exact Nat.le_trans (tell_len n (by omega) (by omega) (by omega) (by omega)) (Nat.le_trans (LT3 h3) (by decide))
def sentO (a b : St) : List UInt8 × Int × Bool :=
  if validB a && validB b then (match (List.range 3).find? (fun i : Nat => !winB (i + 1) a [] b []) with
    | some i => (tellF (i + 1) a [] b [], ((i : Int) + 1), true)
    | none => ([], 0, false)) else ([], 0, false)
theorem sent_at {a b : St} {k : Nat} (hVa : validB a = true) (hVb : validB b = true) (hk : k < 3) (hall : ∀ i : Nat, i < k → winB (i + 1) a [] b [] = true) (h : winB (k + 1) a [] b [] = false) : sentO a b = (tellF (k + 1) a [] b [], ((k : Int) + 1), true) := by
  unfold sentO
  rw [if_pos (by rw [hVa, hVb]; rfl), find_at (f := fun i : Nat => !winB (i + 1) a [] b []) hk (fun i hi => by rw [hall i hi]; rfl) (by rw [h]; rfl)]
theorem sent_none {a b : St} (hall : ∀ i : Nat, i < 3 → winB (i + 1) a [] b [] = true) : sentO a b = ([], 0, false) := by
  unfold sentO
  split
  · rw [show (List.range 3).find? (fun i : Nat => !winB (i + 1) a [] b []) = none from by rw [List.find?_eq_none]; intro i hi; rw [hall i (List.mem_range.1 hi)]; decide]
  · rfl
theorem sent_bad {a b : St} (h : ¬ (validB a && validB b) = true) : sentO a b = ([], 0, false) := by unfold sentO; rw [if_neg h]
theorem sec_nil2 {a b : St} {i : Nat} (hVa : validB a = true) (hVb : validB b = true) (hi : i < 3) : secB a [] b [] ((i : Int) + 1) = winB (i + 1) a [] b [] := by
  unfold secB gameB listsB listB inB
  rw [hVa, hVb, decide_eq_true (show (0 : Int) ≤ (i : Int) + 1 by omega), decide_eq_true (show (i : Int) + 1 ≤ 3 by omega), show ((i : Int) + 1).toNat = i + 1 from by omega]
  simp
theorem sec_no {a b : St} {i : Nat} (hVa : validB a = true) (hVb : validB b = true) (hi : i < 3) (h : secB a [] b [] ((i : Int) + 1) = false) : winB (i + 1) a [] b [] = false := by rw [← sec_nil2 hVa hVb hi]; exact h
theorem telOut_nil {a b : St} {i : Nat} (hVa : validB a = true) (hVb : validB b = true) (hi : i < 3) (h : winB (i + 1) a [] b [] = false) : telOut a [] b [] ((i : Int) + 1) = (tellF (i + 1) a [] b [], true) := by
  have e : ((i : Int) + 1).toNat = i + 1 := by omega
  rw [telOut_yes (by
    unfold gameB listsB listB inB
    rw [hVa, hVb, decide_eq_true (show (0 : Int) ≤ (i : Int) + 1 by omega), decide_eq_true (show (i : Int) + 1 ≤ 3 by omega)]
    simp) (by simp; omega) (by rw [e]; exact h), e]
end Go.Wk
