/-
  ROWS OF TEXTS AND ROWS OF BOOLS, and a call that hands back two new rows. No program in sight.
-/
import Derived.Test.YtmannilblelfjaaDoorPlain5
namespace Go.Wk
open Go.RowKit

def strs (xs : List (List UInt8)) : List Value := xs.map str
@[simp] theorem strs_length (xs : List (List UInt8)) : (strs xs).length = xs.length := by simp [strs]
theorem strs_getD {xs : List (List UInt8)} {i : Int} (h0 : 0 ≤ i) (h1 : i < xs.length) : (strs xs).getD i.toNat undef = str (xs.getD i.toNat []) := by
  have : i.toNat < xs.length := by omega
  simp [strs, List.getD_eq_getElem?_getD, this]
def Strs (w : World) (v : Value) (xs : List (List UInt8)) : Prop := Row w v (strs xs)
theorem Strs.cell {w : World} {v : Value} {xs : List (List UInt8)} (h : Strs w v xs) {i : Int} (h0 : 0 ≤ i) (h1 : i < xs.length) : w.cell? (sAt v i) = some (str (xs.getD i.toNat [])) := by
  rw [← strs_getD h0 h1]; exact Row.cell h h0 (by simpa using h1)
theorem Strs.nil {w : World} : Strs w (.slice none 0 0) [] := ⟨none, 0, rfl, Nat.le_refl _, fun _ => rfl, fun _ h => by cases h⟩
theorem Strs.take {w : World} {v : Value} {xs : List (List UInt8)} (h : Strs w v xs) (k : Nat) (hk : k ≤ xs.length) : Strs w (sTake v k) (xs.take k) := by
  have := Row.take h k (by simpa using hk)
  unfold Strs strs at *
  rwa [List.map_take]
theorem strs_at {c : List (List UInt8)} {off : Nat} (h : off < c.length) : (strs c)[off]? = some (str (c.getD off [])) := by
  simp [strs, List.getD_eq_getElem?_getD, h]
section
variable {P : Program} {n : Nat} {B : Nat} {w0 : World} {hs : List (Nat × Obj)} {N R : Act → World → Prop} {X : List (Nat × (Act → World → Prop))} {e : Env} {ops : Array Oper} {l : List Oper} {o : Oper}
theorem Ll.appendStrs {t el d : Nat} {x y : Operand} {g len cap : Nat} {cur : Array Value} {vy : Value} {xs ys : List (List UInt8)} (E : Elem P t el 1) (i : Nat) (hd : Nat.blt d n = true) (hdst : o.dst = some d) (hg : wantE ops e o.guard = some true)
    (h : o.op = .call ⟨.builtin .append, #[x, y], #[t, t]⟩) (hx : opd e x = some (.slice (some ⟨g, 0, none⟩) len cap)) (hy : opd e y = some vy) (hi : hs[i]? = some (g, .cells cur el (0, 0))) (hcap : cur.size = cap * 1) (hlen : len ≤ cap)
    (ht : cur.toList.take len = strs xs) (hr : ∀ w, Own B w0 hs w → Strs w vy ys) (M : Nat) (hM : len + ys.length = M) (hb : M ≤ 2199023255552)
    (k : ∀ g' cap' cur', B ≤ g' → cur'.size = cap' * 1 → M ≤ cap' → cur'.toList.take (M * 1) = strs (xs ++ ys) →
      Ll P n (Own B w0 (hs.set i (g', .cells cur' el (0, 0)))) ops l ((d, .slice (some ⟨g', 0, none⟩) M cap') :: e) N R X) : Ll P n (Own B w0 hs) ops (o :: l) e N R X := by
  subst hM
  unfold Ll
  intro a w hf hc
  obtain ⟨src, c, hv, hle, hn, hcell⟩ := hr w hc
  rw [strs_length] at hv
  have := Ll.append (N := N) (R := R) (X := X) (l := l) E i (strs ys) hd hdst hg h hx (by rw [hy, hv]) hi hcap hlen (by simp) (fun h0 => by have := hn h0; have h1 := congrArg List.length this; simpa using h1)
    (fun w1 hw1 ad had j u hj => by
      subst had
      obtain ⟨src', c', hv', _, _, hcell'⟩ := hr w1 hw1
      rw [hv] at hv'
      injection hv' with hv'
      obtain ⟨h1, h2⟩ := hcell' ad hv'.symm
      have h3 := h2 j u hj
      obtain ⟨b, off, sp⟩ := ad
      simp only at h1
      subst h1
      by_cases hj0 : j = 0
      · subst hj0; simpa [Addr.add] using h3
      · simpa [Addr.add, hj0] using h3)
    (fun u hu => by unfold strs at hu; obtain ⟨z, _, rfl⟩ := List.mem_map.1 hu; rfl) hb
    (fun g' cap' cur' h1 h2 h3 h4 => k g' cap' cur' h1 h2 h3 (by
      rw [h4, Nat.mul_one, ht]; simp [strs]))
  unfold Ll at this
  exact this a w hf hc
end
def bools (xs : List (Bool)) : List Value := xs.map .bool
@[simp] theorem bools_length (xs : List (Bool)) : (bools xs).length = xs.length := by simp [bools]
theorem bools_getD {xs : List (Bool)} {i : Int} (h0 : 0 ≤ i) (h1 : i < xs.length) : (bools xs).getD i.toNat undef = .bool (xs.getD i.toNat false) := by
  have : i.toNat < xs.length := by omega
  simp [bools, List.getD_eq_getElem?_getD, this]
def Bools (w : World) (v : Value) (xs : List (Bool)) : Prop := Row w v (bools xs)
theorem Bools.cell {w : World} {v : Value} {xs : List (Bool)} (h : Bools w v xs) {i : Int} (h0 : 0 ≤ i) (h1 : i < xs.length) : w.cell? (sAt v i) = some (.bool (xs.getD i.toNat false)) := by
  rw [← bools_getD h0 h1]; exact Row.cell h h0 (by simpa using h1)
theorem Bools.nil {w : World} : Bools w (.slice none 0 0) [] := ⟨none, 0, rfl, Nat.le_refl _, fun _ => rfl, fun _ h => by cases h⟩
theorem Bools.take {w : World} {v : Value} {xs : List (Bool)} (h : Bools w v xs) (k : Nat) (hk : k ≤ xs.length) : Bools w (sTake v k) (xs.take k) := by
  have := Row.take h k (by simpa using hk)
  unfold Bools bools at *
  rwa [List.map_take]
theorem bools_at {c : List (Bool)} {off : Nat} (h : off < c.length) : (bools c)[off]? = some (.bool (c.getD off false)) := by
  simp [bools, List.getD_eq_getElem?_getD, h]
section
variable {P : Program} {n : Nat} {B : Nat} {w0 : World} {hs : List (Nat × Obj)} {N R : Act → World → Prop} {X : List (Nat × (Act → World → Prop))} {e : Env} {ops : Array Oper} {l : List Oper} {o : Oper}
theorem Ll.appendBools {t el d : Nat} {x y : Operand} {g len cap : Nat} {cur : Array Value} {vy : Value} {xs ys : List (Bool)} (E : Elem P t el 1) (i : Nat) (hd : Nat.blt d n = true) (hdst : o.dst = some d) (hg : wantE ops e o.guard = some true)
    (h : o.op = .call ⟨.builtin .append, #[x, y], #[t, t]⟩) (hx : opd e x = some (.slice (some ⟨g, 0, none⟩) len cap)) (hy : opd e y = some vy) (hi : hs[i]? = some (g, .cells cur el (0, 0))) (hcap : cur.size = cap * 1) (hlen : len ≤ cap)
    (ht : cur.toList.take len = bools xs) (hr : ∀ w, Own B w0 hs w → Bools w vy ys) (M : Nat) (hM : len + ys.length = M) (hb : M ≤ 2199023255552)
    (k : ∀ g' cap' cur', B ≤ g' → cur'.size = cap' * 1 → M ≤ cap' → cur'.toList.take (M * 1) = bools (xs ++ ys) →
      Ll P n (Own B w0 (hs.set i (g', .cells cur' el (0, 0)))) ops l ((d, .slice (some ⟨g', 0, none⟩) M cap') :: e) N R X) : Ll P n (Own B w0 hs) ops (o :: l) e N R X := by
  subst hM
  unfold Ll
  intro a w hf hc
  obtain ⟨src, c, hv, hle, hn, hcell⟩ := hr w hc
  rw [bools_length] at hv
  have := Ll.append (N := N) (R := R) (X := X) (l := l) E i (bools ys) hd hdst hg h hx (by rw [hy, hv]) hi hcap hlen (by simp) (fun h0 => by have := hn h0; have h1 := congrArg List.length this; simpa using h1)
    (fun w1 hw1 ad had j u hj => by
      subst had
      obtain ⟨src', c', hv', _, _, hcell'⟩ := hr w1 hw1
      rw [hv] at hv'
      injection hv' with hv'
      obtain ⟨h1, h2⟩ := hcell' ad hv'.symm
      have h3 := h2 j u hj
      obtain ⟨b, off, sp⟩ := ad
      simp only at h1
      subst h1
      by_cases hj0 : j = 0
      · subst hj0; simpa [Addr.add] using h3
      · simpa [Addr.add, hj0] using h3)
    (fun u hu => by unfold bools at hu; obtain ⟨z, _, rfl⟩ := List.mem_map.1 hu; rfl) hb
    (fun g' cap' cur' h1 h2 h3 h4 => k g' cap' cur' h1 h2 h3 (by
      rw [h4, Nat.mul_one, ht]; simp [bools]))
  unfold Ll at this
  exact this a w hf hc
end
section
variable {P : Program} {n : Nat} {B : Nat} {w0 : World} {hs : List (Nat × Obj)} {N R : Act → World → Prop} {X : List (Nat × (Act → World → Prop))} {e : Env} {ops : Array Oper} {l : List Oper} {o : Oper}
/-- two new rows, in blocks of their own -/
def NewRows (B el1 el2 : Nat) (w : World) (v : Value) (n1 : Nat) (vs1 : List Value) (n2 : Nat) (vs2 : List Value) : Prop :=
  ∃ (g1 c1 : Nat) (u1 : Array Value) (g2 c2 : Nat) (u2 : Array Value), v = .tuple #[.slice (some ⟨g1, 0, none⟩) n1 c1, .slice (some ⟨g2, 0, none⟩) n2 c2] ∧ g1 ≠ g2 ∧
    B ≤ g1 ∧ w.heap[g1]? = some (.cells u1 el1 (0, 0)) ∧ u1.size = c1 * 1 ∧ n1 ≤ c1 ∧ u1.toList.take (n1 * 1) = vs1 ∧
    B ≤ g2 ∧ w.heap[g2]? = some (.cells u2 el2 (0, 0)) ∧ u2.size = c2 * 1 ∧ n2 ≤ c2 ∧ u2.toList.take (n2 * 1) = vs2
theorem Own.newRows {w : World} (h : Own B w0 hs w) {i j g1 c1 g2 c2 el1 el2 : Nat} {u1 u2 : Array Value} (hi : hs[i]? = some (g1, .cells u1 el1 (0, 0))) (hj : hs[j]? = some (g2, .cells u2 el2 (0, 0))) (hij : i ≠ j) {n1 n2 : Nat} {vs1 vs2 : List Value}
    (a1 : u1.size = c1 * 1) (a2 : n1 ≤ c1) (a3 : u1.toList.take (n1 * 1) = vs1) (b1 : u2.size = c2 * 1) (b2 : n2 ≤ c2) (b3 : u2.toList.take (n2 * 1) = vs2) :
    NewRows B el1 el2 w (.tuple #[.slice (some ⟨g1, 0, none⟩) n1 c1, .slice (some ⟨g2, 0, none⟩) n2 c2]) n1 vs1 n2 vs2 :=
  ⟨g1, c1, u1, g2, c2, u2, rfl, h.apart i j g1 _ g2 _ hi hj hij, (h.has i g1 _ hi).1, (h.has i g1 _ hi).2, a1, a2, a3, (h.has j g2 _ hj).1, (h.has j g2 _ hj).2, b1, b2, b3⟩
theorem Own.learn2 {w w' : World} (h : Own B w0 hs w) (hb : Below w.heap.size w w') {g1 g2 : Nat} {u1 u2 : Obj} (hne : g1 ≠ g2) (h1 : w.heap.size ≤ g1) (k1 : w'.heap[g1]? = some u1) (h2 : w.heap.size ≤ g2) (k2 : w'.heap[g2]? = some u2) : Own B w0 ((g1, u1) :: (g2, u2) :: hs) w' := by
  have a := h.learn hb h2 k2
  have hlt : ∀ (i p : Nat) (o : Obj), hs[i]? = some (p, o) → p < w.heap.size := fun i p o hi => by
    have := (h.has i p o hi).2
    rcases Nat.lt_or_ge p w.heap.size with h3 | h3
    · exact h3
    · rw [Array.getElem?_eq_none h3] at this; cases this
  have hlt2 : ∀ (i p : Nat) (o : Obj), ((g2, u2) :: hs)[i]? = some (p, o) → p ≠ g1 := fun i p o hi => by
    cases i with
    | zero => simp at hi; obtain ⟨rfl, _⟩ := hi; exact fun e => hne e.symm
    | succ i => have := hlt i p o (by simpa using hi); omega
  refine ⟨a.below, a.base, fun i p o hi => ?_, fun i j p o q u hi hj hij => ?_⟩
  · cases i with
    | zero => simp at hi; obtain ⟨rfl, rfl⟩ := hi; exact ⟨Nat.le_trans h.base h1, k1⟩
    | succ i => exact a.has i p o (by simpa using hi)
  · cases i with
    | zero =>
      cases j with
      | zero => exact absurd rfl hij
      | succ j => simp at hi; obtain ⟨rfl, _⟩ := hi; exact fun e => hlt2 j q u (by simpa using hj) e.symm
    | succ i =>
      cases j with
      | zero => simp at hj; obtain ⟨rfl, _⟩ := hj; exact hlt2 i p o (by simpa using hi)
      | succ j => exact a.apart i j p o q u (by simpa using hi) (by simpa using hj) (by omega)
theorem Ll.callRows {d f el1 el2 m1 m2 : Nat} {xs : List Operand} {ts : Array TypeId} {us vs1 vs2 : List Value} (hd : Nat.blt d n = true) (hdst : o.dst = some d) (hg : wantE ops e o.guard = some true) (h : o.op = .call ⟨.value (.func f), xs.toArray, ts⟩)
    (hcf : ∀ args w, (callFunc f args).run P w = .ok (.enter f args) w) (hx : opds e xs = some us)
    (hc : ∀ w, Own B w0 hs w → Calls P f us.toArray w fun en w' => ∃ v, en = .returned v ∧ Below w.heap.size w w' ∧ NewRows w.heap.size el1 el2 w' v m1 vs1 m2 vs2)
    (k : ∀ g1 c1 u1 g2 c2 u2, B ≤ g1 → u1.size = c1 * 1 → m1 ≤ c1 → u1.toList.take (m1 * 1) = vs1 → B ≤ g2 → u2.size = c2 * 1 → m2 ≤ c2 → u2.toList.take (m2 * 1) = vs2 →
      Ll P n (Own B w0 ((g1, .cells u1 el1 (0, 0)) :: (g2, .cells u2 el2 (0, 0)) :: hs)) ops l ((d, .tuple #[.slice (some ⟨g1, 0, none⟩) m1 c1, .slice (some ⟨g2, 0, none⟩) m2 c2]) :: e) N R X) : Ll P n (Own B w0 hs) ops (o :: l) e N R X :=
  Ll.call hd hdst hg h hcf hx fun w hw => (hc w hw).mono fun en w' ⟨v, h1, h2, g1, c1, u1, g2, c2, u2, h3, hne, a1, a2, a3, a4, a5, b1, b2, b3, b4, b5⟩ => ⟨v, h1, fun a' ha => by
    subst h3
    have := k g1 c1 u1 g2 c2 u2 (Nat.le_trans hw.base a1) a3 a4 a5 (Nat.le_trans hw.base b1) b3 b4 b5
    unfold Ll at this
    exact this a' w' ha (hw.learn2 h2 hne a1 a2 b1 b2)⟩
end
end Go.Wk
