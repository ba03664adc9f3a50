/-
  ROWS THAT GROW, and what AnswersTo computes. No program in sight.
-/
import Derived.Test.YtmannilblelfjaaDoorWkD
namespace Go.Wk
open Go.RowKit

theorem ints_inj {xs ys : List Int} (h : ints xs = ints ys) : xs = ys := by
  unfold ints at h
  exact (List.map_inj_right (fun a b hab => by injection hab)).1 h
section
variable {P : Program} {n : Nat} {B : Nat} {w0 : World} {hs : List (Nat × Obj)} {N R : Act → World → Prop} {X : List (Nat × (Act → World → Prop))} {e : Env} {ops : Array Oper} {l : List Oper} {o : Oper}
/-- append to a row of the call's own: what is appended is any row of integers -/
theorem Ll.appendInts {t el d : Nat} {x y : Operand} {g len cap : Nat} {cur : Array Value} {vy : Value} {xs ys : List Int} (E : Elem P t el 1) (i : Nat) (hd : Nat.blt d n = true) (hdst : o.dst = some d) (hg : wantE ops e o.guard = some true)
    (h : o.op = .call ⟨.builtin .append, #[x, y], #[t, t]⟩) (hx : opd e x = some (.slice (some ⟨g, 0, none⟩) len cap)) (hy : opd e y = some vy) (hi : hs[i]? = some (g, .cells cur el (0, 0))) (hcap : cur.size = cap * 1) (hlen : len ≤ cap)
    (ht : cur.toList.take len = ints xs) (hr : ∀ w, Own B w0 hs w → Ints w vy ys) (M : Nat) (hM : len + ys.length = M) (hb : M ≤ 2199023255552)
    (k : ∀ g' cap' cur', B ≤ g' → cur'.size = cap' * 1 → M ≤ cap' → cur'.toList.take (M * 1) = ints (xs ++ ys) →
      Ll P n (Own B w0 (hs.set i (g', .cells cur' el (0, 0)))) ops l ((d, .slice (some ⟨g', 0, none⟩) M cap') :: e) N R X) : Ll P n (Own B w0 hs) ops (o :: l) e N R X := by
  subst hM
  unfold Ll
  intro a w hf hc
  obtain ⟨src, c, hv, hle, hn, hcell⟩ := hr w hc
  rw [ints_length] at hv
  have := Ll.append (N := N) (R := R) (X := X) (l := l) E i (ints ys) hd hdst hg h hx (by rw [hy, hv]) hi hcap hlen (by simp) (fun h0 => by have := hn h0; have h1 := congrArg List.length this; simpa using h1)
    (fun w1 hw1 ad had j u hj => by
      subst had
      obtain ⟨src', c', hv', _, _, hcell'⟩ := hr w1 hw1
      rw [hv] at hv'
      injection hv' with hv'
      obtain ⟨h1, h2⟩ := hcell' ad hv'.symm
      have h3 := h2 j u hj
      obtain ⟨b, off, sp⟩ := ad
      simp only at h1
      subst h1
      by_cases hj0 : j = 0
      · subst hj0; simpa [Addr.add] using h3
      · simpa [Addr.add, hj0] using h3)
    (fun u hu => by unfold ints at hu; obtain ⟨z, _, rfl⟩ := List.mem_map.1 hu; rfl) hb
    (fun g' cap' cur' h1 h2 h3 h4 => k g' cap' cur' h1 h2 h3 (by
      rw [h4, Nat.mul_one, ht]; simp [ints]))
  unfold Ll at this
  exact this a w hf hc
end
def ansTo (a : St) (xs : List Int) (b : St) (ys : List Int) (x : Int) : Nat → List Int
  | 0 => []
  | k + 1 => if stillB a xs b ys x k then ansTo a xs b ys x k ++ [(k : Int)] else ansTo a xs b ys x k
@[simp] theorem ansTo_zero (a : St) (xs : List Int) (b : St) (ys : List Int) (x : Int) : ansTo a xs b ys x 0 = [] := rfl
theorem ansTo_le (a : St) (xs : List Int) (b : St) (ys : List Int) (x : Int) : ∀ k, (ansTo a xs b ys x k).length ≤ k
  | 0 => by simp [ansTo]
  | k + 1 => by
    have := ansTo_le a xs b ys x k
    unfold ansTo
    split
    · simp; omega
    · omega
theorem ansTo_yes {a : St} {xs : List Int} {b : St} {ys : List Int} {x : Int} {k : Nat} (h : stillB a xs b ys x k = true) : ansTo a xs b ys x (k + 1) = ansTo a xs b ys x k ++ [(k : Int)] := by
  rw [ansTo, if_pos h]
theorem ansTo_no {a : St} {xs : List Int} {b : St} {ys : List Int} {x : Int} {k : Nat} (h : stillB a xs b ys x k = false) : ansTo a xs b ys x (k + 1) = ansTo a xs b ys x k := by
  rw [ansTo, if_neg (by rw [h]; exact Bool.false_ne_true)]
def ansOk (a : St) (xs : List Int) (b : St) (ys : List Int) (x : Int) : Bool := listsB a xs b ys && elB a x && sameB a xs b ys
theorem ansOk_true {a b : St} {xs ys : List Int} {x : Int} (h : ansOk a xs b ys x = true) : listsB a xs b ys = true ∧ elB a x = true ∧ sameB a xs b ys = true := by
  unfold ansOk at h; simpa [and_assoc] using h
theorem inB_el {a : St} {x : Int} : inB x 0 (a.n - 1) = elB a x := by
  cases h : inB x 0 (a.n - 1) with
  | true => exact (el_inB h).symm
  | false => exact (el_not_inB h).symm
theorem still_more {a b : St} {xs ys : List Int} {x y : Int} (h : xs.length = ys.length) : stillAt a (xs ++ [x]) b (ys ++ [y]) xs.length = stillB a xs b ys x y := by
  unfold stillAt
  rw [List.take_append_of_le_length (Nat.le_refl _), List.take_length, List.take_append_of_le_length (by omega), h, List.take_length]
  congr 1
  · rw [List.getD_eq_getElem?_getD, List.getElem?_append_right (by omega)]; simp [h]
  · simp
theorem St.Els.snoc {a : St} {xs : List Int} {x : Int} (h : a.Els xs) (hx : a.El x) : a.Els (xs ++ [x]) := fun y hy => by
  rcases List.mem_append.1 hy with h1 | h1
  · exact h y h1
  · rw [List.mem_singleton.1 h1]; exact hx
end Go.Wk
