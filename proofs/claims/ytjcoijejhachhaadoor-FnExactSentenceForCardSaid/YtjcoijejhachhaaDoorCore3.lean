/-
  WHAT A GAME CAN COME TO: the numbers found so far. No program in sight.
-/
import Derived.Test.YtjcoijejhachhaaDoorCore2
namespace Go.Wk
open Go.RowKit

theorem Means.lt {T : List (List UInt8)} : ∀ {n : Nat} {a : St} {xs : List Int} {i : Nat}, Means T n a xs i → i < T.length := by
  have key : ∀ {i : Nat} {s : List UInt8}, T[i]? = some s → i < T.length := fun h => (List.getElem?_eq_some_iff.1 h).1
  intro n a xs i h
  cases n with
  | zero => exact key h
  | succ n => obtain ⟨L, _, _, _, h⟩ := h; exact key h
/-- the numbers of what can come of the first k choices -/
structure FoundL (T : List (List UInt8)) (n : Nat) (a : St) (xs L : List Int) (k : Nat) : Prop where
  sorted : L.Pairwise (· < ·)
  len : L.length ≤ k
  all : ∀ x : Nat, x < k → ∃ i : Nat, (i : Int) ∈ L ∧ Means T n a (xs ++ [(x : Int)]) i
  only : ∀ m ∈ L, ∃ i x : Nat, m = i ∧ x < k ∧ Means T n a (xs ++ [(x : Int)]) i
theorem FoundL.zero {T : List (List UInt8)} {n : Nat} {a : St} {xs : List Int} : FoundL T n a xs [] 0 := ⟨List.Pairwise.nil, Nat.le_refl _, fun x hx => absurd hx (by omega), fun m hm => by cases hm⟩
theorem FoundL.step {T T' : List (List UInt8)} {n : Nat} {a : St} {xs L : List Int} {k i : Nat} (h : FoundL T n a xs L k) (hp : T <+: T') (hm : Means T' n a (xs ++ [(k : Int)]) i) : FoundL T' n a xs (insS L (i : Int)) (k + 1) := by
  refine ⟨sorted_insS h.sorted, Nat.le_trans insS_length (by have := h.len; omega), fun x hx => ?_, fun m hmem => ?_⟩
  · rcases Nat.lt_or_ge x k with h1 | h1
    · obtain ⟨j, hj, hM⟩ := h.all x h1
      exact ⟨j, mem_insS.2 (.inr hj), hM.mono hp _ _ _ _⟩
    · obtain rfl : x = k := by omega
      exact ⟨i, mem_insS.2 (.inl rfl), hm⟩
  · rcases mem_insS.1 hmem with h1 | h1
    · exact ⟨i, k, h1, by omega, hm⟩
    · obtain ⟨j, x, e, hx, hM⟩ := h.only m h1
      exact ⟨j, x, e, by omega, hM.mono hp _ _ _ _⟩
theorem FoundL.small {T : List (List UInt8)} {n : Nat} {a : St} {xs L : List Int} {k : Nat} (h : FoundL T n a xs L k) (hT : T.length ≤ 1000000) : ∀ m ∈ L, 0 ≤ m ∧ m < 1000000000000 := fun m hm => by
  obtain ⟨j, x, e, hx, hM⟩ := h.only m hm
  have := hM.lt
  omega
theorem FoundL.means {T T' : List (List UInt8)} {n : Nat} {a : St} {xs L : List Int} {m : Nat} (h : FoundL T n a xs L a.n.toNat) (hp : T <+: T') (hd : T'[m]? = some ((decS (n + 1) ++ [58]) ++ (atomBits a xs ++ commas L))) : Means T' (n + 1) a xs m :=
  ⟨L, h.sorted, fun x hx => (h.all x hx).elim fun i hi => ⟨i, hi.1, hi.2.mono hp _ _ _ _⟩, fun m hm => by
    obtain ⟨i, x, e, hx, hM⟩ := h.only m hm; exact ⟨i, x, e, hx, hM.mono hp _ _ _ _⟩, hd⟩
theorem TabTo.trans {T T1 T2 : List (List UInt8)} {b1 b2 : List Bkt} {m n k : Nat} (h : TabTo T b1 T1 m) (h2 : TabTo T1 b2 T2 n) (hk : m + n ≤ k) : TabTo T b2 T2 k := ⟨h2.ok, h.pre.trans h2.pre, by have := h.len; have := h2.len; omega⟩
theorem cnt_succ (n : Nat) : cnt (n + 1) = 1 + 8 * cnt n := rfl
theorem cnt_small {n : Nat} (h : n ≤ 3) : cnt n ≤ 585 := by
  match n, h with
  | 0, _ => decide
  | 1, _ => decide
  | 2, _ => decide
  | 3, _ => decide
theorem cnt_le (k n : Nat) (h : k ≤ 8) : k * cnt n ≤ 8 * cnt n := Nat.mul_le_mul_right _ h
theorem at_small {L : List Int} (h : ∀ m ∈ L, 0 ≤ m ∧ m < 1000000000000) {i : Nat} (hi : i < L.length) : 0 ≤ L.getD i 0 ∧ L.getD i 0 < 1000000000000 := by
  rw [getD_at hi]; exact h _ (List.getElem_mem _)
theorem winB_eq {n : Nat} {a b : St} {xs ys : List Int} {T : List (List UInt8)} (hT : T.Nodup) (hl : xs.length = ys.length) {i j : Nat} (hi : Means T n a xs i) (hj : Means T n b ys j) : decide ((i : Int) = j) = winB n a xs b ys := by
  rw [Bool.eq_iff_iff, decide_eq_true_eq, win_iff n a xs b ys hl, ← means_win hT n a xs b ys i j hl hi hj]; omega
end Go.Wk
/-
  FIRST MOVES AND REPLIES, as both sides tell them. No program in sight.
-/
namespace Go.Wk
open Go.RowKit

theorem find_congr {f g : Nat → Bool} : ∀ {l : List Nat}, (∀ i ∈ l, f i = g i) → l.find? f = l.find? g
  | [], _ => rfl
  | x :: l, h => by
    rw [List.find?_cons, List.find?_cons, h x (by simp), find_congr (l := l) (fun i hi => h i (by simp [hi]))]
/-- the least winning reply -/
theorem rep_win {n : Nat} {a b : St} {xs ys : List Int} {x : Int} (hl : xs.length = ys.length) : rep (goB n) a xs b ys x = (List.range b.n.toNat).find? (fun y : Nat => winB n a (xs ++ [x]) b (ys ++ [(y : Int)])) := by
  unfold rep winB
  cases hs : sameB a xs b ys with
  | false =>
    rw [if_neg (by simp)]
    symm
    rw [List.find?_eq_none]
    intro y _
    simp [same_more hl, hs]
  | true =>
    rw [if_pos rfl]
    exact find_congr fun y _ => by simp [same_more hl, hs]
def repI (o : Option Nat) : Int := match o with | some y => (y : Int) | none => -1
theorem repI_at {n : Nat} {a b : St} {xs ys : List Int} {x : Int} (hl : xs.length = ys.length) {k : Nat} (hk : k < b.n.toNat) (hall : ∀ i : Nat, i < k → winB n a (xs ++ [x]) b (ys ++ [(i : Int)]) = false) (h : winB n a (xs ++ [x]) b (ys ++ [(k : Int)]) = true) :
    repI (rep (goB n) a xs b ys x) = k := by
  rw [rep_win hl, find_at (f := fun y : Nat => winB n a (xs ++ [x]) b (ys ++ [(y : Int)])) hk hall h]; rfl
theorem repI_no {n : Nat} {a b : St} {xs ys : List Int} {x : Int} (hl : xs.length = ys.length) (hall : ∀ i : Nat, i < b.n.toNat → winB n a (xs ++ [x]) b (ys ++ [(i : Int)]) = false) : repI (rep (goB n) a xs b ys x) = -1 := by
  rw [rep_win hl]
  have : (List.range b.n.toNat).find? (fun y : Nat => winB n a (xs ++ [x]) b (ys ++ [(y : Int)])) = none := by
    rw [List.find?_eq_none]; intro y hy; rw [hall y (List.mem_range.1 hy)]; simp
  rw [this]; rfl
theorem repI_neg {o : Option Nat} : repI o < 0 ↔ o.isSome = false := by cases o <;> simp [repI]
theorem repI_some {o : Option Nat} (h : ¬ repI o < 0) : o.isSome = true ∧ repI o = ((o.getD 0 : Nat) : Int) := by
  cases o with
  | none => simp [repI] at h
  | some y => simp [repI]
/-- the first winning choice: whether it is on the first side, the element -/
def moveO (n : Nat) (a : St) (xs : List Int) (b : St) (ys : List Int) : Option (Bool × Nat) :=
  match (List.range a.n.toNat).find? (fun x : Nat => !(rep (goB n) a xs b ys x).isSome) with
  | some x => some (true, x)
  | none => match (List.range b.n.toNat).find? (fun y : Nat => !(rep (goB n) b ys a xs y).isSome) with
    | some y => some (false, y)
    | none => none
def sideS (o : Option (Bool × Nat)) : List UInt8 := match o with | some (true, _) => [97] | some (false, _) => [98] | none => []
def moveI (o : Option (Bool × Nat)) : Int := match o with | some (_, x) => (x : Int) | none => 0
section
variable {n : Nat} {a b : St} {xs ys : List Int}
theorem move_1 {k : Nat} (hk : k < a.n.toNat) (hall : ∀ i : Nat, i < k → (rep (goB n) a xs b ys i).isSome = true) (h : (rep (goB n) a xs b ys k).isSome = false) : moveO n a xs b ys = some (true, k) := by
  unfold moveO
  rw [find_at (f := fun x : Nat => !(rep (goB n) a xs b ys x).isSome) hk (fun i hi => by simp [hall i hi]) (by simp [h])]
theorem move_none1 (hall : ∀ i : Nat, i < a.n.toNat → (rep (goB n) a xs b ys i).isSome = true) : (List.range a.n.toNat).find? (fun x : Nat => !(rep (goB n) a xs b ys x).isSome) = none := by
  rw [List.find?_eq_none]; intro i hi; simp [hall i (List.mem_range.1 hi)]
theorem move_2 {k : Nat} (hall1 : ∀ i : Nat, i < a.n.toNat → (rep (goB n) a xs b ys i).isSome = true) (hk : k < b.n.toNat) (hall : ∀ i : Nat, i < k → (rep (goB n) b ys a xs i).isSome = true) (h : (rep (goB n) b ys a xs k).isSome = false) : moveO n a xs b ys = some (false, k) := by
  unfold moveO
  rw [move_none1 hall1, find_at (f := fun x : Nat => !(rep (goB n) b ys a xs x).isSome) hk (fun i hi => by simp [hall i hi]) (by simp [h])]
theorem move_none (hall1 : ∀ i : Nat, i < a.n.toNat → (rep (goB n) a xs b ys i).isSome = true) (hall : ∀ i : Nat, i < b.n.toNat → (rep (goB n) b ys a xs i).isSome = true) : moveO n a xs b ys = none := by
  unfold moveO
  rw [move_none1 hall1]
  have : (List.range b.n.toNat).find? (fun y : Nat => !(rep (goB n) b ys a xs y).isSome) = none := by rw [List.find?_eq_none]; intro i hi; simp [hall i (List.mem_range.1 hi)]
  rw [this]
end
def fmO (a : St) (xs : List Int) (b : St) (ys : List Int) (r : Int) : Option (Bool × Nat) := if gameB a xs b ys r && sameB a xs b ys && decide (1 ≤ r) then moveO (r - 1).toNat a xs b ys else none
def srA (a : St) (xs : List Int) (b : St) (ys : List Int) (r x : Int) : Option Nat := if gameB a xs b ys r && decide (1 ≤ r) && elB a x then rep (goB (r - 1).toNat) a xs b ys x else none
def srO (a : St) (xs : List Int) (b : St) (ys : List Int) (r : Int) (s : List UInt8) (x : Int) : Option Nat := if s = [98] then srA b ys a xs r x else if s = [97] then srA a xs b ys r x else none
theorem gameB_comm (a : St) (xs : List Int) (b : St) (ys : List Int) (r : Int) : gameB a xs b ys r = gameB b ys a xs r := by
  unfold gameB listsB
  have : decide ((xs.length : Int) = ys.length) = decide ((ys.length : Int) = xs.length) := by rw [decide_eq_decide]; exact eq_comm
  rw [this, Bool.and_comm (listB a xs)]
theorem srA_yes {a b : St} {xs ys : List Int} {r x : Int} (h1 : gameB a xs b ys r = true) (h2 : 1 ≤ r) (h3 : elB a x = true) : srA a xs b ys r x = rep (goB (r - 1).toNat) a xs b ys x := by unfold srA; rw [h1, h3]; simp [h2]
theorem srO_b {a b : St} {xs ys : List Int} {r x : Int} {s : List UInt8} (h : (s == [98]) = true) : srO a xs b ys r s x = srA b ys a xs r x := by unfold srO; rw [if_pos (by simpa using h)]
theorem srO_a {a b : St} {xs ys : List Int} {r x : Int} {s : List UInt8} (h : (s == [97]) = true) : srO a xs b ys r s x = srA a xs b ys r x := by
  have h' : s = [97] := by simpa using h
  subst h'
  unfold srO; rw [if_neg (by decide), if_pos rfl]
theorem srO_no {a b : St} {xs ys : List Int} {r x : Int} {s : List UInt8} (h : ((gameB a xs b ys r = false ∨ r < 1) ∨ ((s == [98]) = false ∧ (s == [97]) = false)) ∨ ((s == [98]) = true ∧ elB b x = false) ∨ ((s == [98]) = false ∧ elB a x = false)) : srO a xs b ys r s x = none := by
  unfold srO srA
  rw [gameB_comm b ys a xs r]
  rcases h with ((h | h) | ⟨h1, h2⟩) | ⟨h1, h2⟩ | ⟨h1, h2⟩
  · simp [h]
  · simp [show ¬ 1 ≤ r from by omega]
  · rw [if_neg (by simpa using h1), if_neg (by simpa using h2)]
  · rw [if_pos (by simpa using h1), h2]; simp
  · rw [if_neg (by simpa using h1), h2]; simp
theorem srA_no {a b : St} {xs ys : List Int} {r x : Int} (h : gameB a xs b ys r = false ∨ r < 1 ∨ elB a x = false) : srA a xs b ys r x = none := by
  unfold srA
  rcases h with h | h | h
  · simp [h]
  · simp [show ¬ 1 ≤ r from by omega]
  · simp [h]
section
variable {P : Program} {n : Nat} {C : World → Prop} {e : Env}
theorem results_tmp3 {fn : Func} {t u s : Nat} (hr : fn.results = #[.tmp t, .tmp u, .tmp s]) (w : World) (ts : Array Value) : (results fn ts).run P w = .ok (.tuple #[ts.getD t undef, ts.getD u undef, ts.getD s undef]) w := by
  unfold results; rw [hr]; simp [go_sem]
theorem Kt.end3 {fn : Func} {R : Ending → World → Prop} {t u s : Nat} {v x y : Value} (hr : fn.results = #[.tmp t, .tmp u, .tmp s]) (he : e.lookup t = some v) (he' : e.lookup u = some x) (he2 : e.lookup s = some y) (h : ∀ w, C w → R (.returned (.tuple #[v, x, y])) w) : Kt n C e (Ends P fn R) := by
  unfold Kt Wk.Ends
  exact fun a w hf hc => ⟨hf.defers, _, by rw [results_tmp3 hr]; rw [Array.getD_eq_getD_getElem?, hf.slot t v he, Array.getD_eq_getD_getElem?, hf.slot u x he', Array.getD_eq_getD_getElem?, hf.slot s y he2]; rfl, h w hc⟩
end
end Go.Wk
