/-
  FIRST MOVES AND REPLIES, as both sides tell them. No program in sight.
-/
import Derived.Test.YtmannilblelfjaaDoorPlain16
namespace Go.Wk
open Go.RowKit

theorem find_congr {f g : Nat → Bool} : ∀ {l : List Nat}, (∀ i ∈ l, f i = g i) → l.find? f = l.find? g
  | [], _ => rfl
  | x :: l, h => by
    rw [List.find?_cons, List.find?_cons, h x (by simp), find_congr (l := l) (fun i hi => h i (by simp [hi]))]
/-- the least winning reply -/
theorem rep_win {n : Nat} {a b : St} {xs ys : List Int} {x : Int} (hl : xs.length = ys.length) : rep (goB n) a xs b ys x = (List.range b.n.toNat).find? (fun y : Nat => winB n a (xs ++ [x]) b (ys ++ [(y : Int)])) := by
  unfold rep winB
  cases hs : sameB a xs b ys with
  | false =>
    rw [if_neg (by simp)]
    symm
    rw [List.find?_eq_none]
    intro y _
    simp [same_more hl, hs]
  | true =>
    rw [if_pos rfl]
    exact find_congr fun y _ => by simp [same_more hl, hs]
def repI (o : Option Nat) : Int := match o with | some y => (y : Int) | none => -1
theorem repI_at {n : Nat} {a b : St} {xs ys : List Int} {x : Int} (hl : xs.length = ys.length) {k : Nat} (hk : k < b.n.toNat) (hall : ∀ i : Nat, i < k → winB n a (xs ++ [x]) b (ys ++ [(i : Int)]) = false) (h : winB n a (xs ++ [x]) b (ys ++ [(k : Int)]) = true) :
    repI (rep (goB n) a xs b ys x) = k := by
  rw [rep_win hl, find_at (f := fun y : Nat => winB n a (xs ++ [x]) b (ys ++ [(y : Int)])) hk hall h]; rfl
theorem repI_no {n : Nat} {a b : St} {xs ys : List Int} {x : Int} (hl : xs.length = ys.length) (hall : ∀ i : Nat, i < b.n.toNat → winB n a (xs ++ [x]) b (ys ++ [(i : Int)]) = false) : repI (rep (goB n) a xs b ys x) = -1 := by
  rw [rep_win hl]
  have : (List.range b.n.toNat).find? (fun y : Nat => winB n a (xs ++ [x]) b (ys ++ [(y : Int)])) = none := by
    rw [List.find?_eq_none]; intro y hy; rw [hall y (List.mem_range.1 hy)]; simp
  rw [this]; rfl
theorem repI_neg {o : Option Nat} : repI o < 0 ↔ o.isSome = false := by cases o <;> simp [repI]
theorem repI_some {o : Option Nat} (h : ¬ repI o < 0) : o.isSome = true ∧ repI o = ((o.getD 0 : Nat) : Int) := by
  cases o with
  | none => simp [repI] at h
  | some y => simp [repI]
/-- the first winning choice: whether it is on the first side, the element -/
def moveO (n : Nat) (a : St) (xs : List Int) (b : St) (ys : List Int) : Option (Bool × Nat) :=
  match (List.range a.n.toNat).find? (fun x : Nat => !(rep (goB n) a xs b ys x).isSome) with
  | some x => some (true, x)
  | none => match (List.range b.n.toNat).find? (fun y : Nat => !(rep (goB n) b ys a xs y).isSome) with
    | some y => some (false, y)
    | none => none
def sideS (o : Option (Bool × Nat)) : List UInt8 := match o with | some (true, _) => [97] | some (false, _) => [98] | none => []
def moveI (o : Option (Bool × Nat)) : Int := match o with | some (_, x) => (x : Int) | none => 0
section
variable {n : Nat} {a b : St} {xs ys : List Int}
theorem move_1 {k : Nat} (hk : k < a.n.toNat) (hall : ∀ i : Nat, i < k → (rep (goB n) a xs b ys i).isSome = true) (h : (rep (goB n) a xs b ys k).isSome = false) : moveO n a xs b ys = some (true, k) := by
  unfold moveO
  rw [find_at (f := fun x : Nat => !(rep (goB n) a xs b ys x).isSome) hk (fun i hi => by simp [hall i hi]) (by simp [h])]
theorem move_none1 (hall : ∀ i : Nat, i < a.n.toNat → (rep (goB n) a xs b ys i).isSome = true) : (List.range a.n.toNat).find? (fun x : Nat => !(rep (goB n) a xs b ys x).isSome) = none := by
  rw [List.find?_eq_none]; intro i hi; simp [hall i (List.mem_range.1 hi)]
theorem move_2 {k : Nat} (hall1 : ∀ i : Nat, i < a.n.toNat → (rep (goB n) a xs b ys i).isSome = true) (hk : k < b.n.toNat) (hall : ∀ i : Nat, i < k → (rep (goB n) b ys a xs i).isSome = true) (h : (rep (goB n) b ys a xs k).isSome = false) : moveO n a xs b ys = some (false, k) := by
  unfold moveO
  rw [move_none1 hall1, find_at (f := fun x : Nat => !(rep (goB n) b ys a xs x).isSome) hk (fun i hi => by simp [hall i hi]) (by simp [h])]
theorem move_none (hall1 : ∀ i : Nat, i < a.n.toNat → (rep (goB n) a xs b ys i).isSome = true) (hall : ∀ i : Nat, i < b.n.toNat → (rep (goB n) b ys a xs i).isSome = true) : moveO n a xs b ys = none := by
  unfold moveO
  rw [move_none1 hall1]
  have : (List.range b.n.toNat).find? (fun y : Nat => !(rep (goB n) b ys a xs y).isSome) = none := by rw [List.find?_eq_none]; intro i hi; simp [hall i (List.mem_range.1 hi)]
  rw [this]
end
def fmO (a : St) (xs : List Int) (b : St) (ys : List Int) (r : Int) : Option (Bool × Nat) := if gameB a xs b ys r && sameB a xs b ys && decide (1 ≤ r) then moveO (r - 1).toNat a xs b ys else none
def srA (a : St) (xs : List Int) (b : St) (ys : List Int) (r x : Int) : Option Nat := if gameB a xs b ys r && decide (1 ≤ r) && elB a x then rep (goB (r - 1).toNat) a xs b ys x else none
def srO (a : St) (xs : List Int) (b : St) (ys : List Int) (r : Int) (s : List UInt8) (x : Int) : Option Nat := if s = [98] then srA b ys a xs r x else if s = [97] then srA a xs b ys r x else none
theorem gameB_comm (a : St) (xs : List Int) (b : St) (ys : List Int) (r : Int) : gameB a xs b ys r = gameB b ys a xs r := by
  unfold gameB listsB
  have : decide ((xs.length : Int) = ys.length) = decide ((ys.length : Int) = xs.length) := by rw [decide_eq_decide]; exact eq_comm
  rw [this, Bool.and_comm (listB a xs)]
theorem srA_yes {a b : St} {xs ys : List Int} {r x : Int} (h1 : gameB a xs b ys r = true) (h2 : 1 ≤ r) (h3 : elB a x = true) : srA a xs b ys r x = rep (goB (r - 1).toNat) a xs b ys x := by unfold srA; rw [h1, h3]; simp [h2]
theorem srO_b {a b : St} {xs ys : List Int} {r x : Int} {s : List UInt8} (h : (s == [98]) = true) : srO a xs b ys r s x = srA b ys a xs r x := by unfold srO; rw [if_pos (by simpa using h)]
theorem srO_a {a b : St} {xs ys : List Int} {r x : Int} {s : List UInt8} (h : (s == [97]) = true) : srO a xs b ys r s x = srA a xs b ys r x := by
  have h' : s = [97] := by simpa using h
  subst h'
  unfold srO; rw [if_neg (by decide), if_pos rfl]
theorem srO_no {a b : St} {xs ys : List Int} {r x : Int} {s : List UInt8} (h : ((gameB a xs b ys r = false ∨ r < 1) ∨ ((s == [98]) = false ∧ (s == [97]) = false)) ∨ ((s == [98]) = true ∧ elB b x = false) ∨ ((s == [98]) = false ∧ elB a x = false)) : srO a xs b ys r s x = none := by
  unfold srO srA
  rw [gameB_comm b ys a xs r]
  rcases h with ((h | h) | ⟨h1, h2⟩) | ⟨h1, h2⟩ | ⟨h1, h2⟩
  · simp [h]
  · simp [show ¬ 1 ≤ r from by omega]
  · rw [if_neg (by simpa using h1), if_neg (by simpa using h2)]
  · rw [if_pos (by simpa using h1), h2]; simp
  · rw [if_neg (by simpa using h1), h2]; simp
theorem srA_no {a b : St} {xs ys : List Int} {r x : Int} (h : gameB a xs b ys r = false ∨ r < 1 ∨ elB a x = false) : srA a xs b ys r x = none := by
  unfold srA
  rcases h with h | h | h
  · simp [h]
  · simp [show ¬ 1 ≤ r from by omega]
  · simp [h]
section
variable {P : Program} {n : Nat} {C : World → Prop} {e : Env}
theorem results_tmp3 {fn : Func} {t u s : Nat} (hr : fn.results = #[.tmp t, .tmp u, .tmp s]) (w : World) (ts : Array Value) : (results fn ts).run P w = .ok (.tuple #[ts.getD t undef, ts.getD u undef, ts.getD s undef]) w := by
  unfold results; rw [hr]; simp [go_sem]
theorem Kt.end3 {fn : Func} {R : Ending → World → Prop} {t u s : Nat} {v x y : Value} (hr : fn.results = #[.tmp t, .tmp u, .tmp s]) (he : e.lookup t = some v) (he' : e.lookup u = some x) (he2 : e.lookup s = some y) (h : ∀ w, C w → R (.returned (.tuple #[v, x, y])) w) : Kt n C e (Ends P fn R) := by
  unfold Kt Wk.Ends
  exact fun a w hf hc => ⟨hf.defers, _, by rw [results_tmp3 hr]; rw [Array.getD_eq_getD_getElem?, hf.slot t v he, Array.getD_eq_getD_getElem?, hf.slot u x he', Array.getD_eq_getD_getElem?, hf.slot s y he2]; rfl, h w hc⟩
end
end Go.Wk
