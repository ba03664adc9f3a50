/-
  LAWS OF DRAWN LISTS: one round of a game. No program in sight.
-/
import Derived.Test.YtjcoijejhachhaaDoorPlain26
import Derived.Test.YtjcoijejhachhaaDoorCore2
namespace Go.Wk
open Go.RowKit
def someW (f : Nat → Nat → Bool) (x m : Nat) : Bool := (List.range m).any (f x)
def allW (f : Nat → Nat → Bool) (n m : Nat) : Bool := (List.range n).all fun x => someW f x m
theorem someW_succ (f : Nat → Nat → Bool) (x m : Nat) : someW f x (m + 1) = (someW f x m || f x m) := by simp [someW, List.range_succ]
theorem allW_succ (f : Nat → Nat → Bool) (n m : Nat) : allW f (n + 1) m = (allW f n m && someW f n m) := by simp [allW, List.range_succ]
theorem allW_true {f : Nat → Nat → Bool} {n m : Nat} : allW f n m = true ↔ ∀ x : Nat, x < n → ∃ y : Nat, y < m ∧ f x y = true := by
  unfold allW someW
  rw [List.all_eq_true]
  constructor
  · intro h x hx
    obtain ⟨y, hy, hf⟩ := List.any_eq_true.1 (h x (List.mem_range.2 hx))
    exact ⟨y, List.mem_range.1 hy, hf⟩
  · intro h x hx
    obtain ⟨y, hy, hf⟩ := h x (List.mem_range.1 hx)
    exact List.any_eq_true.2 ⟨y, List.mem_range.2 hy, hf⟩
def secF (a : St) (xs : List Int) (b : St) (ys : List Int) (r : Int) (x y : Nat) : Bool := secB a (xs ++ [(x : Int)]) b (ys ++ [(y : Int)]) (r - 1)
def secG (a : St) (xs : List Int) (b : St) (ys : List Int) (r : Int) (y x : Nat) : Bool := secB a (xs ++ [(x : Int)]) b (ys ++ [(y : Int)]) (r - 1)
theorem listB_of {a : St} {xs : List Int} (hv : validB a = true) (he : a.Els xs) (hl : xs.length ≤ 4) : listB a xs = true := by
  unfold listB
  simp only [Bool.and_eq_true, decide_eq_true_eq]
  exact ⟨⟨hv, by omega⟩, List.all_eq_true.2 fun x hx => elB_true.2 (he x hx)⟩
theorem listsB_of {a b : St} {xs ys : List Int} (ha : listB a xs = true) (hb : listB b ys = true) (hl : xs.length = ys.length) : listsB a xs b ys = true := by
  unfold listsB
  simp only [Bool.and_eq_true, decide_eq_true_eq]
  exact ⟨⟨ha, hb⟩, by omega⟩
theorem els_snoc {a : St} {xs : List Int} (h : a.Els xs) {x : Nat} (hx : x < a.n.toNat) : a.Els (xs ++ [(x : Int)]) := fun y hy => by
  rcases List.mem_append.1 hy with h1 | h1
  · exact h y h1
  · rw [List.mem_singleton.1 h1]; exact ⟨by omega, by omega⟩
theorem lists_more {a b : St} {xs ys : List Int} (h : listsB a xs b ys = true) (h3 : xs.length ≤ 3) {x y : Nat} (hx : x < a.n.toNat) (hy : y < b.n.toNat) : listsB a (xs ++ [(x : Int)]) b (ys ++ [(y : Int)]) = true := by
  obtain ⟨LA, LB, hl⟩ := listsB_true h
  exact listsB_of (listB_of LA.valid (els_snoc LA.els hx) (by simp; omega)) (listB_of LB.valid (els_snoc LB.els hy) (by simp; omega)) (by simp; omega)
theorem secB_true {a b : St} {xs ys : List Int} {r : Int} (h : listsB a xs b ys = true) (h0 : 0 ≤ r) (h3 : r ≤ 3) : secB a xs b ys r = winB r.toNat a xs b ys := by
  unfold secB gameB inB
  simp [h, h0, h3]
theorem sec_rounds {a b : St} {xs ys : List Int} {r : Int} (h : listsB a xs b ys = true) (h1 : 1 ≤ r) (h3 : r ≤ 3) (hl3 : xs.length ≤ 3) :
    secB a xs b ys r = (allW (secF a xs b ys r) a.n.toNat b.n.toNat && allW (secG a xs b ys r) b.n.toNat a.n.toNat) := by
  obtain ⟨LA, LB, hl⟩ := listsB_true h
  have hlo := LA.fine.lo
  have key : ∀ x y : Nat, x < a.n.toNat → y < b.n.toNat → (secB a (xs ++ [(x : Int)]) b (ys ++ [(y : Int)]) (r - 1) = true ↔ winP (r - 1).toNat a (xs ++ [(x : Int)]) b (ys ++ [(y : Int)])) := fun x y hx hy => by
    rw [secB_true (lists_more h hl3 hx hy) (by omega) (by omega), win_iff _ _ _ _ _ (by simp; omega)]
  rw [Bool.eq_iff_iff, secB_true h (by omega) h3, win_iff _ _ _ _ _ hl, Bool.and_eq_true, allW_true, allW_true]
  have e : r.toNat = (r - 1).toNat + 1 := by omega
  rw [e]
  constructor
  · intro hw
    refine ⟨fun x hx => ?_, fun y hy => ?_⟩
    · obtain ⟨y, hy, h2⟩ := hw.2.1 x hx
      exact ⟨y, hy, (key x y hx hy).2 h2⟩
    · obtain ⟨x, hx, h2⟩ := hw.2.2 y hy
      exact ⟨x, hx, (key x y hx hy).2 h2⟩
  · intro hw
    refine ⟨?_, fun x hx => ?_, fun y hy => ?_⟩
    · obtain ⟨y, hy, h2⟩ := hw.1 0 (by omega)
      have h4 := winP_same _ ((key 0 y (by omega) hy).1 h2)
      rw [same_more hl, Bool.and_eq_true] at h4
      exact h4.1
    · obtain ⟨y, hy, h2⟩ := hw.1 x hx
      exact ⟨y, hy, (key x y hx hy).1 h2⟩
    · obtain ⟨x, hx, h2⟩ := hw.2 y hy
      exact ⟨x, hx, (key x y hx hy).1 h2⟩
theorem sec_zero {a b : St} {xs ys : List Int} (h : listsB a xs b ys = true) : secB a xs b ys 0 = wayB a xs b ys := by
  rw [secB_true h (by decide) (by decide)]
  unfold winB wayB
  rw [h]
  simp [goB]
theorem sec_zero_eq {a b : St} {xs ys : List Int} {r : Int} (h : listsB a xs b ys = true) (hr : r = 0) : (secB a xs b ys r == wayB a xs b ys) = true := by
  subst hr
  rw [sec_zero h]
  exact beq_self_eq_true _
end Go.Wk
