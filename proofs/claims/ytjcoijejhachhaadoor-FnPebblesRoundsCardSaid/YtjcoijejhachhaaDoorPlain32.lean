/-
  THE SEARCH FOR ORDERS that turn one structure into another one: what a round of it does to a state that somebody else keeps. No program in sight.
-/
import Derived.Test.YtjcoijejhachhaaDoorCore2
import Derived.Laws.Cover3
namespace Go.Wk
open Go.RowKit
section
variable {τ : Type}
/-- rounds 0 .. k-1, until one says stop -/
def shLoop (f : Nat → τ → τ × Bool) : Nat → τ → τ × Bool
  | 0, t => (t, true)
  | k + 1, t => if (shLoop f k t).2 then f k (shLoop f k t).1 else shLoop f k t
def shF (a b : St) (go : List Int → τ → τ × Bool) (os : List Int) (x : Nat) (t : τ) : τ × Bool :=
  if stillB a os b (upto os.length) (x : Int) os.length then go (os ++ [(x : Int)]) t else (t, true)
def shS (a b : St) (step : List Int → τ → τ × Bool) : Nat → List Int → τ → τ × Bool
  | 0, os, t => step os t
  | m + 1, os, t => shLoop (shF a b (shS a b step m) os) a.n.toNat t
theorem shLoop_stop {f : Nat → τ → τ × Bool} {k : Nat} {t : τ} (h : (shLoop f k t).2 = false) : ∀ n, k ≤ n → shLoop f n t = shLoop f k t := fun n => by
  induction n with
  | zero => intro hn; rw [show k = 0 from by omega]
  | succ n ih =>
    intro hn
    rcases Nat.lt_or_ge n k with h1 | h1
    · rw [show k = n + 1 from by omega]
    · have := ih h1
      rw [shLoop, this, h]; rfl
theorem shLoop_step {f : Nat → τ → τ × Bool} {k : Nat} {t u : τ} (h : shLoop f k t = (u, true)) : shLoop f (k + 1) t = f k u := by
  rw [shLoop, h]; rfl
end
def placedB (a b : St) (os : List Int) (x : Int) : Bool :=
  ((a.inSet x == b.inSet os.length) && (a.inRel x x == b.inRel os.length os.length)) && (List.range os.length).all fun k => (a.inRel x (os.getD k 0) == b.inRel os.length k) && (a.inRel (os.getD k 0) x == b.inRel k os.length)
theorem upto_at {n k : Nat} (h : k < n) : (upto n).getD k 0 = k := by
  unfold upto
  rw [List.getD_eq_getElem?_getD, List.getElem?_map, List.getElem?_range h]; rfl
theorem still_placed (a b : St) (os : List Int) (x : Int) : stillB a os b (upto os.length) x os.length = (!decide (x ∈ os) && placedB a b os x) := by
  rw [Bool.eq_iff_iff, stillB_true (by simp), Bool.and_eq_true, Bool.not_eq_true', decide_eq_false_iff_not]
  unfold placedB
  rw [Bool.and_eq_true, Bool.and_eq_true, beq_iff_eq, beq_iff_eq, List.all_eq_true]
  constructor
  · rintro ⟨h1, h2, h3⟩
    refine ⟨fun hx => ?_, ⟨h1, h2⟩, fun k hk => ?_⟩
    · obtain ⟨k, hk, e⟩ := List.mem_iff_getElem.1 hx
      have h4 := (pairOk_true.1 (h3 k hk)).1
      rw [upto_at hk, decide_eq_decide, getD_at hk] at h4
      have := h4.1 e
      omega
    · have hk' := List.mem_range.1 hk
      have h4 := pairOk_true.1 (h3 k hk')
      rw [upto_at hk'] at h4
      rw [Bool.and_eq_true, beq_iff_eq, beq_iff_eq]
      exact ⟨h4.2.2, h4.2.1⟩
  · rintro ⟨h0, ⟨h1, h2⟩, h3⟩
    refine ⟨h1, h2, fun k hk => pairOk_true.2 ?_⟩
    have h4 := h3 k (List.mem_range.2 hk)
    rw [Bool.and_eq_true, beq_iff_eq, beq_iff_eq] at h4
    rw [upto_at hk]
    refine ⟨decide_eq_decide.2 ⟨fun e => ?_, fun e => by omega⟩, h4.2, h4.1⟩
    exact absurd (by rw [← e, getD_at hk]; exact List.getElem_mem _) h0
theorem placed_no {a b : St} {os : List Int} {x : Int} {k : Nat} (hk : k < os.length) (h : (a.inRel x (os.getD k 0) != b.inRel os.length k) = true ∨ (a.inRel (os.getD k 0) x != b.inRel k os.length) = true) : placedB a b os x = false := by
  cases hp : placedB a b os x with
  | false => rfl
  | true =>
    unfold placedB at hp
    rw [Bool.and_eq_true, List.all_eq_true] at hp
    have h4 := hp.2 k (List.mem_range.2 hk)
    rw [Bool.and_eq_true, beq_iff_eq, beq_iff_eq] at h4
    rcases h with h | h
    · rw [h4.1] at h; simp at h
    · rw [h4.2] at h; simp at h
theorem placed_head {a b : St} {os : List Int} {x : Int} (h : (a.inSet x != b.inSet os.length) = true ∨ (a.inRel x x != b.inRel os.length os.length) = true) : placedB a b os x = false := by
  unfold placedB
  rcases h with h | h
  · rw [show (a.inSet x == b.inSet os.length) = false from by simpa using h]; rfl
  · rw [show (a.inRel x x == b.inRel os.length os.length) = false from by simpa using h]; simp
theorem placed_yes {a b : St} {os : List Int} {x : Int} (h1 : (a.inSet x != b.inSet os.length) = false) (h2 : (a.inRel x x != b.inRel os.length os.length) = false)
    (h3 : ∀ k : Nat, k < os.length → (a.inRel x (os.getD k 0) != b.inRel os.length k) = false ∧ (a.inRel (os.getD k 0) x != b.inRel k os.length) = false) : placedB a b os x = true := by
  unfold placedB
  rw [Bool.and_eq_true, Bool.and_eq_true, List.all_eq_true]
  refine ⟨⟨by simpa using h1, by simpa using h2⟩, fun k hk => ?_⟩
  have := h3 k (List.mem_range.1 hk)
  rw [Bool.and_eq_true]
  exact ⟨by simpa using this.1, by simpa using this.2⟩
/-- an order that is grown by one element -/
theorem same_grown {a b : St} {os : List Int} {x : Int} (h : sameB a os b (upto os.length) = true) (h2 : stillB a os b (upto os.length) x os.length = true) : sameB a (os ++ [x]) b (upto (os ++ [x]).length) = true := by
  rw [List.length_append, List.length_singleton, upto_succ, same_more (by simp), h, h2]; rfl
theorem has_idx (xs : List Int) (y : Int) : decide (0 ≤ idxI xs fun z => decide (y = z)) = decide (y ∈ xs) := by
  rw [idxI_any, Bool.eq_iff_iff, decide_eq_true_iff, List.any_eq_true]
  constructor
  · rintro ⟨z, hz, e⟩; rw [of_decide_eq_true e]; exact hz
  · exact fun h => ⟨y, h, decide_eq_true rfl⟩
section
variable {P : Program} {n : Nat} {B : Nat} {w0 : World} {hs : List (Nat × Obj)} {N R : Act → World → Prop} {X : List (Nat × (Act → World → Prop))} {e : Env} {ops : Array Oper} {l : List Oper} {o : Oper}
/-- a call of a closure: its value and the blocks behind it as a letter says -/
theorem Ll.callFnGet {σ : Type} {ok : σ → Prop} {v : σ → Value} {hs' : σ → List (Nat × Obj)} {d : Nat} {f : FuncId} {c : Operand} {captured : Array Value} {xs : List Operand} {ts : Array TypeId} {vs : List Value} (hd : Nat.blt d n = true) (hdst : o.dst = some d) (hg : wantE ops e o.guard = some true) (h : o.op = .call ⟨.value c, xs.toArray, ts⟩)
    (hcl : opd e c = some (.func (.func f) #[] captured)) (hcf : ∀ args w, (callFunc f args).run P w = .ok (.enter f args) w) (hx : opds e xs = some vs)
    (hc : ∀ w, Own B w0 hs w → Calls P f (vs.toArray ++ captured) w fun en w' => ∃ s, en = .returned (v s) ∧ ok s ∧ Own B w0 (hs' s) w')
    (k : ∀ s, ok s → Ll P n (Own B w0 (hs' s)) ops l ((d, v s) :: e) N R X) : Ll P n (Own B w0 hs) ops (o :: l) e N R X :=
  Ll.callFn hd hdst hg h hcl hcf hx fun w hw => (hc w hw).mono fun en w' ⟨s, h1, h2, h3⟩ => ⟨v s, h1, fun a' ha => by
    have := k s h2
    unfold Ll at this
    exact this a' w' ha h3⟩
end
/-- what somebody who is told of the orders does to what they keep (the blocks D, in one of their ways al), whatever stands before it -/
def Tells (P : Program) (tf : FuncId) (tcap : Array Value) (a b : St) (B : Nat) (w0 : World) {τ α : Type} (D : τ → α → List (Nat × Obj)) (okD : τ → α → Prop) (step : List Int → τ → τ × Bool) : Prop :=
  ∀ (fr : List (Nat × Obj)) (v : Value) (os : List Int) (t : τ) (al : α) (w : World), okD t al → (∀ w, Own B w0 fr w → Ints w v os) → (os.length : Int) = a.n → sameB a os b (upto os.length) = true → a.Els os → Own B w0 (fr ++ D t al) w →
    Calls P tf (#[v] ++ tcap) w fun en w' => ∃ al' : α, en = .returned (.bool (step os t).2) ∧ okD (step os t).1 al' ∧ Own B w0 (fr ++ D (step os t).1 al') w'
section
variable {P : Program} {n : Nat} {C : World → Prop} {e : Env} {o : Oper}
theorem OpQ.neNilS {t t' el : TypeId} {x y : Operand} {a : Option Addr} {l c : Nat} (h : o.op = .binOp .neq t x y t') (hu : P.underlying t = some (.slice el)) (hx : opd e x = some (.slice a l c)) (hy : opd e y = some (.slice none 0 0)) : OpQ P n C e o (.bool (!a.isNone)) := OpQ.val fun A hf w => by
  unfold execOp; rw [h]; simp only [hf.opd hx, hf.opd hy]
  rw [show eqGuard .neq t x y (Value.slice a l c) (Value.slice none 0 0) = pure () from rfl]
  simp only [Sem.run_bind, run_neq_slice_nil w t el a l c hu, Sem.run_pure, Result.andThen]
end
/-- the first order, if there is one: a slice or nil -/
def fndV (o : Option (List Int)) (al : Nat × Nat) : Value := .slice (o.map fun _ => (⟨al.1, 0, none⟩ : Addr)) ((o.map List.length).getD 0) ((o.map fun _ => al.2).getD 0)
def keepStep (os : List Int) (_ : Option (List Int)) : Option (List Int) × Bool := (some os, false)
/-- an order of all elements of a that turns a into b -/
def Shaped (a b : St) : Prop := a.n = b.n ∧ a.Fine ∧ b.Fine ∧ ∃ os : List Int, (os.length : Int) = a.n ∧ a.Els os ∧ sameB a os b (upto os.length) = true
theorem keep_some {a b : St} (ha : a.Fine) : ∀ (m : Nat) (os : List Int), os.length + m = a.n.toNat → a.Els os → sameB a os b (upto os.length) = true →
    shS a b keepStep m os none = (none, true) ∨ ∃ zs : List Int, shS a b keepStep m os none = (some zs, false) ∧ (zs.length : Int) = a.n ∧ a.Els zs ∧ sameB a zs b (upto zs.length) = true
  | 0, os, h, hA, hs => .inr ⟨os, rfl, by have := ha.lo; omega, hA, hs⟩
  | m + 1, os, h, hA, hs => by
    have key : ∀ k : Nat, k ≤ a.n.toNat → shLoop (shF a b (shS a b keepStep m) os) k none = (none, true) ∨ ∃ zs : List Int, shLoop (shF a b (shS a b keepStep m) os) k none = (some zs, false) ∧ (zs.length : Int) = a.n ∧ a.Els zs ∧ sameB a zs b (upto zs.length) = true := fun k => by
      induction k with
      | zero => exact fun _ => .inl rfl
      | succ k ih =>
        intro hk
        rcases ih (by omega) with h1 | ⟨zs, h1, h2⟩
        · rw [shLoop_step h1]
          unfold shF
          split
          · rename_i hst
            exact keep_some ha m (os ++ [(k : Int)]) (by simp; omega) (els_more hA ⟨by omega, by omega⟩) (same_grown hs hst)
          · exact .inl rfl
        · refine .inr ⟨zs, ?_, h2⟩
          rw [shLoop_stop (k := k) (by rw [h1]) (k + 1) (by omega), h1]
    exact key a.n.toNat (Nat.le_refl _)
theorem keep_shaped {a b : St} (ha : a.Fine) (hb : b.Fine) {al : Nat × Nat} (h : (!((shS a b keepStep a.n.toNat [] none).1.map fun _ => (⟨al.1, 0, none⟩ : Addr)).isNone) = true) (hn : a.n = b.n) : Shaped a b := by
  rcases keep_some (b := b) ha a.n.toNat [] (by simp) (fun x hx => by cases hx) rfl with h1 | ⟨zs, _, h2, h3, h4⟩
  · rw [h1] at h; simp at h
  · exact ⟨hn, ha, hb, zs, h2, h3, h4⟩
theorem nodup_le : ∀ (m : Nat) (l : List Int), l.Nodup → (∀ x ∈ l, 0 ≤ x ∧ x < (m : Int)) → l.length ≤ m
  | 0, l, _, h => by
    cases l with
    | nil => exact Nat.le_refl _
    | cons x l => have := h x (by simp); omega
  | m + 1, l, hd, h => by
    by_cases hm : (m : Int) ∈ l
    · have h1 := nodup_le m (l.erase (m : Int)) (hd.erase _) fun x hx => by
        obtain ⟨h2, h3⟩ := (hd.mem_erase_iff).1 hx
        have := h x h3
        omega
      rw [List.length_erase_of_mem hm] at h1
      omega
    · have := nodup_le m l hd fun x hx => by
        have h1 := h x hx
        have h2 : x ≠ (m : Int) := fun e => hm (e ▸ hx)
        omega
      omega
/-- what an order that turns a into b says of its places -/
theorem shaped_at {a b : St} {os : List Int} (h : sameB a os b (upto os.length) = true) {i j : Nat} (hi : i < os.length) (hj : j < os.length) :
    a.inSet (os.getD i 0) = b.inSet i ∧ (os.getD i 0 = os.getD j 0 ↔ i = j) ∧ a.inRel (os.getD i 0) (os.getD j 0) = b.inRel i j := by
  have key : ∀ {i : Nat}, i < os.length → a.inSet (os.getD i 0) = b.inSet i ∧ a.inRel (os.getD i 0) (os.getD i 0) = b.inRel i i ∧ ∀ k : Nat, k < i → pairOk a b (os.getD i 0) i (os.getD k 0) k = true := fun {i} hi => by
    unfold sameB at h
    have h1 := List.all_eq_true.1 h i (List.mem_range.2 hi)
    unfold stillAt at h1
    obtain ⟨h2, h3, h4⟩ := (stillB_true (by simp)).1 h1
    rw [upto_at hi] at h2 h3
    refine ⟨h2, h3, fun k hk => ?_⟩
    have h5 := h4 k (by rw [List.length_take]; omega)
    rw [upto_at hi] at h5
    rw [show ((os.take i).getD k 0) = os.getD k 0 from take_getD hk, show ((upto os.length).take i).getD k 0 = (upto os.length).getD k 0 from take_getD hk, upto_at (by omega)] at h5
    exact h5
  refine ⟨(key hi).1, ?_, ?_⟩
  · rcases Nat.lt_trichotomy i j with h1 | h1 | h1
    · have := (pairOk_true.1 ((key hj).2.2 i h1)).1
      rw [decide_eq_decide] at this
      rw [this]; omega
    · subst h1; simp
    · have := (pairOk_true.1 ((key hi).2.2 j h1)).1
      rw [decide_eq_decide] at this
      rw [eq_comm, this]; omega
  · rcases Nat.lt_trichotomy i j with h1 | h1 | h1
    · exact (pairOk_true.1 ((key hj).2.2 i h1)).2.1
    · subst h1; exact (key hi).2.1
    · exact (pairOk_true.1 ((key hi).2.2 j h1)).2.2
theorem shaped_onto {a b : St} {os : List Int} (hl : (os.length : Int) = a.n) (hA : a.Els os) (h : sameB a os b (upto os.length) = true) {x : Int} (hx : a.El x) : ∃ i : Nat, i < os.length ∧ os.getD i 0 = x := by
  by_cases hm : x ∈ os
  · obtain ⟨i, hi, e⟩ := List.mem_iff_getElem.1 hm
    exact ⟨i, hi, by rw [getD_at hi]; exact e⟩
  · exfalso
    have hd : os.Nodup := by
      rw [List.nodup_iff_pairwise_ne, List.pairwise_iff_getElem]
      intro i j hi hj hij e
      have := (shaped_at h hi hj).2.1.1 (by rw [getD_at hi, getD_at hj]; exact e)
      omega
    have := nodup_le os.length (x :: os) (List.nodup_cons.2 ⟨hm, hd⟩) fun y hy => by
      rcases List.mem_cons.1 hy with rfl | hy
      · exact ⟨hx.1, by have := hx.2; omega⟩
      · exact ⟨(hA y hy).1, by have := (hA y hy).2; omega⟩
    rw [List.length_cons] at this; omega
end Go.Wk
