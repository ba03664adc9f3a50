/-
  CLEARING THE TAIL of a row of the call's own; slices from a place on. No program in sight.
-/
import Derived.Test.YtmannilblelfjaaDoorPlain10
import Derived.Lib.SliceRun
namespace Go.Wk
open Go.RowKit

section
variable {P : Program} {n : Nat} {B : Nat} {w0 : World} {hs : List (Nat × Obj)} {N R : Act → World → Prop} {X : List (Nat × (Act → World → Prop))} {e : Env} {ops : Array Oper} {l : List Oper} {o : Oper} {C : World → Prop}
theorem Own.setCells {p : Nat} {T : TypeId} {fr : Nat × Nat} {i : Nat} : ∀ (zs : List Value) (off : Nat) (cs : Array Value) (hs : List (Nat × Obj)) (w : World), Own B w0 hs w → hs[i]? = some (p, .cells cs T fr) →
    ∃ cs' : Array Value, cs'.size = cs.size ∧ cs'.toList.take off = cs.toList.take off ∧ Own B w0 (hs.set i (p, .cells cs' T fr)) (w.setCells p off zs)
  | [], off, cs, hs, w, h, hi => by
    refine ⟨cs, rfl, rfl, ?_⟩
    have hlt : i < hs.length := by
      rcases Nat.lt_or_ge i hs.length with h1 | h1
      · exact h1
      · rw [List.getElem?_eq_none h1] at hi; cases hi
    have e1 : hs.set i (p, .cells cs T fr) = hs := by
      rw [List.getElem?_eq_getElem hlt] at hi
      injection hi with hi
      rw [← hi, List.set_getElem_self]
    rw [e1]; exact h
  | z :: zs, off, cs, hs, w, h, hi => by
    have hlt : i < hs.length := by
      rcases Nat.lt_or_ge i hs.length with h1 | h1
      · exact h1
      · rw [List.getElem?_eq_none h1] at hi; cases hi
    have h1 := h.set hi off z
    obtain ⟨cs', h2, h3, h4⟩ := Own.setCells zs (off + 1) (cs.setIfInBounds off z) _ _ h1 (by rw [List.getElem?_set_self hlt])
    refine ⟨cs', by rw [h2, Array.size_setIfInBounds], ?_, by rw [List.set_set] at h4; exact h4⟩
    have h5 := congrArg (List.take off) h3
    rw [List.take_take, List.take_take, Nat.min_eq_left (by omega), Array.toList_setIfInBounds, List.take_set_of_le (Nat.le_refl _)] at h5
    exact h5
theorem Ll.turnV {v : Value} (hdst : o.dst = none) (hg : wantE ops e o.guard = some true)
    (k : ∀ a w, Fits n a e → C w → ∃ w', (execOp a.eval o).run P w = .ok (.value v) w' ∧ (∀ a', Fits n a' e → wpList P ops (post N R X) l a' w')) : Ll P n C ops (o :: l) e N R X := by
  unfold Ll
  exact fun a w hf hc => wpList_step fun K hK => by
    rw [if_pos (wantE_spec hf hg)]
    obtain ⟨w', h1, h2⟩ := k a w hf hc
    unfold Oper.wp
    rw [h1]
    exact hK _ _ (by rw [hdst]; exact h2 _ hf)
/-- 'clear' of the tail of a row of the call's own -/
theorem Ll.clearTail {t el : TypeId} {x : Operand} {g off m c : Nat} {cur : Array Value} {z : Value} (i : Nat) (hdst : o.dst = none) (hg : wantE ops e o.guard = some true) (h : o.op = .call ⟨.builtin .clear, #[x], #[t]⟩)
    (ht : P.underlying t = some (.slice el)) (hv : ∀ w, (zeroValue el).run P w = .ok z w) (hz : z.cells = #[z]) (h1 : z.oneCell' = true) (hx : opd e x = some (.slice (some ⟨g, off, none⟩) m c)) (hi : hs[i]? = some (g, .cells cur el (0, 0))) (hm : 0 < m) (hb : off + m ≤ cur.size)
    (k : ∀ cur' : Array Value, cur'.size = cur.size → cur'.toList.take off = cur.toList.take off → Ll P n (Own B w0 (hs.set i (g, .cells cur' el (0, 0)))) ops l e N R X) : Ll P n (Own B w0 hs) ops (o :: l) e N R X :=
  Ll.turnV (v := .tuple #[]) hdst hg fun a w hF hw => by
    obtain ⟨cur', h2, h3, h4⟩ := Own.setCells (B := B) (w0 := w0) (List.replicate m z) off cur hs w hw hi
    refine ⟨w.setCells g off (List.replicate m z), ?_, fun a' ha => ?_⟩
    · unfold execOp; rw [h]
      simp only [resolve, invoke, BigFrame.builtin_clear, List.map_toArray, List.map_cons, List.map_nil, hF.opd hx, Sem.run_bind, Sem.run_pure, Result.andThen]
      rw [Lib.run_clear_slice w t el _ z ht hv hz h1 g off m c hm (fun j hj => by rw [hw.cell hi, Array.getElem?_eq_getElem (by omega)]; rfl) (fun j hj => ?_)]
      have hh := (hw.has i g _ hi).2
      simp [World.frozen?, hh]
    · have := k cur' h2 h3
      unfold Ll at this
      exact this a' _ ha h4
theorem OpQ.takeS {t el : TypeId} {x y : Operand} {g len cap : Nat} {i : Int} {k : IntKind} (h : o.op = .slice t x none (some y) none) {sz : Nat} (hu : ∀ w, (underlying t).run P w = .ok (.slice el) w) (hz : ∀ w, (sizeOf el).run P w = .ok sz w) (hx : opd e x = some (.slice (some ⟨g, 0, none⟩) len cap)) (hy : opd e y = some (.int k i))
    (h0 : 0 ≤ i) (h1 : i ≤ cap) : OpQ P n C e o (.slice (some ⟨g, 0, none⟩) i.toNat cap) := OpQ.val fun a hF w => by
  unfold execOp; rw [h]; simp only [hF.opd hx, Option.map_some, Option.map_none, hF.opd hy]
  have hi : 0 ≤ i ∧ i ≤ (cap : Int) := ⟨h0, h1⟩
  simp only [Instr.sliceAt, Instr.slice, Instr.sliceBounds, Instr.sliceBound, asIntOf, Sem.run_bind, Sem.run_pure, hu, hz, Result.andThen, if_pos hi]
  have : (if cap = 0 then some (⟨g, 0, none⟩ : Addr) else (some (⟨g, 0, none⟩ : Addr)).map (·.add (0 * sz))) = some ⟨g, 0, none⟩ := by
    split
    · rfl
    · simp [Addr.add]
  simp only [this, Nat.sub_zero]
/-- a slice of a row of the call's own, from a place on -/
theorem OpQ.dropS {t el : TypeId} {x y : Operand} {g len cap : Nat} {i : Int} {k : IntKind} (h : o.op = .slice t x (some y) none none) (hu : ∀ w, (underlying t).run P w = .ok (.slice el) w) (hz : ∀ w, (sizeOf el).run P w = .ok 1 w) (hx : opd e x = some (.slice (some ⟨g, 0, none⟩) len cap)) (hy : opd e y = some (.int k i))
    (h0 : 0 ≤ i) (h1 : i ≤ len) (h3 : i < cap) : OpQ P n C e o (.slice (some ⟨g, i.toNat, none⟩) (len - i.toNat) (cap - i.toNat)) := OpQ.val fun a hF w => by
  unfold execOp; rw [h]; simp only [hF.opd hx, Option.map_some, Option.map_none, hF.opd hy]
  have hi : 0 ≤ i ∧ i ≤ (len : Int) := ⟨h0, h1⟩
  simp only [Instr.sliceAt, Instr.slice, Instr.sliceBounds, Instr.sliceBound, asIntOf, Sem.run_bind, Sem.run_pure, hu, hz, Result.andThen, if_pos hi]
  rw [if_neg (by omega)]
  simp only [Option.map_some, Nat.mul_one]
  unfold Addr.add
  split
  · rename_i h4; rw [h4]
  · simp
end
theorem set_takeI {cur : Array Value} {n off : Nat} {xs : List Int} {x : Int} (ht : cur.toList.take n = ints xs) : (cur.setIfInBounds off (.int .i64 x)).toList.take n = ints (xs.set off x) := by
  rw [Array.toList_setIfInBounds, List.take_set, ht]
  simp [ints, List.map_set]
/-- what DeleteFunc holds when it has looked at the first j: those that stay, then whatever, then those not yet looked at -/
structure Swept (xs M : List Int) (j : Nat) : Prop where
  jl : j ≤ xs.length
  lt : (placed xs j).length < j
  len : M.length = xs.length
  head : M.take (placed xs j).length = placed xs j
  tail : M.drop j = xs.drop j
theorem Swept.at {xs M : List Int} {j : Nat} (h : Swept xs M j) : M.getD j 0 = xs.getD j 0 := by
  have h1 := congrArg (fun l : List Int => l.getD 0 0) h.tail
  simpa [List.getD_eq_getElem?_getD, List.getElem?_drop] using h1
theorem Swept.skip {xs M : List Int} {j : Nat} (h : Swept xs M j) (hj : j < xs.length) (hn : xs.getD j 0 < 0) : Swept xs M (j + 1) := by
  have e := placed_neg hn
  refine ⟨by omega, by rw [e]; have := h.lt; omega, h.len, by rw [e]; exact h.head, ?_⟩
  have := congrArg (List.drop 1) h.tail
  rwa [List.drop_drop, List.drop_drop] at this
theorem Swept.keep {xs M : List Int} {j : Nat} (h : Swept xs M j) (hj : j < xs.length) (hn : ¬ xs.getD j 0 < 0) : Swept xs (M.set (placed xs j).length (xs.getD j 0)) (j + 1) := by
  have e := placed_pos hn
  have hl := h.lt
  have hM := h.len
  refine ⟨by omega, by rw [e, List.length_append]; simp; omega, by rw [List.length_set]; exact h.len, ?_, ?_⟩
  · have hlt : (placed xs j).length < (M.set (placed xs j).length (xs.getD j 0)).length := by rw [List.length_set]; omega
    rw [e, List.length_append, List.length_singleton, List.take_succ_eq_append_getElem hlt, List.take_set_of_le (Nat.le_refl _), h.head, List.getElem_set_self]
  · rw [List.drop_set_of_lt (by omega)]
    have := congrArg (List.drop 1) h.tail
    rwa [List.drop_drop, List.drop_drop] at this
theorem placed_first {xs : List Int} : ∀ n, (∀ i : Nat, i < n → ¬ xs.getD i 0 < 0) → n ≤ xs.length → placed xs n = xs.take n
  | 0, _, _ => by simp [placed]
  | n + 1, h, hn => by
    rw [placed_pos (h n (by omega)), placed_first n (fun i hi => h i (by omega)) (by omega), List.take_succ_eq_append_getElem (by omega), getD_at (by omega)]
theorem swept_start {xs : List Int} {k : Nat} (hk : k < xs.length) (h : ∀ i : Nat, i < k → ¬ xs.getD i 0 < 0) (hn : xs.getD k 0 < 0) : Swept xs xs (k + 1) ∧ (placed xs (k + 1)).length = k := by
  have e := placed_first k h (by omega)
  have e2 := placed_neg hn
  have hl : (xs.take k).length = k := by rw [List.length_take]; omega
  exact ⟨⟨by omega, by rw [e2, e, hl]; omega, rfl, by rw [e2, e, hl], rfl⟩, by rw [e2, e, hl]⟩
theorem ints_at2 {c : List Int} {off : Nat} (h : off < c.length) : (ints c)[off]? = some (.int .i64 (c.getD off 0)) := by
  simp [ints, List.getD_eq_getElem?_getD, h]
def negB (x : Int) : Bool := decide (x < 0)
theorem idx_neg {xs : List Int} (h : ¬ idxI xs negB = -1) : ∃ k : Nat, idxI xs negB = k ∧ k < xs.length ∧ (∀ i : Nat, i < k → ¬ xs.getD i 0 < 0) ∧ xs.getD k 0 < 0 := by
  unfold idxI at h ⊢
  cases ha : xs.any negB with
  | false => rw [ha] at h; exact absurd rfl h
  | true =>
    have hlt : xs.findIdx negB < xs.length := List.findIdx_lt_length_of_exists (by simpa using ha)
    refine ⟨xs.findIdx negB, rfl, hlt, fun i hi => ?_, ?_⟩
    · have := List.not_of_lt_findIdx hi
      rw [getD_at (by omega)]
      simpa [negB] using this
    · have := List.findIdx_getElem (w := hlt)
      rw [getD_at hlt]
      simpa [negB] using this
theorem idx_none {xs : List Int} (h : idxI xs negB = -1) : placed xs xs.length = xs := by
  have hall : ∀ i : Nat, i < xs.length → ¬ xs.getD i 0 < 0 := fun i hi hn => by
    unfold idxI at h
    have : xs.any negB = true := List.any_eq_true.2 ⟨xs[i], List.getElem_mem hi, by rw [getD_at hi] at hn; simpa [negB] using hn⟩
    rw [this] at h
    simp only [if_true] at h
    omega
  rw [placed_first _ hall (Nat.le_refl _), List.take_length]
section
variable {P : Program} {n : Nat} {B : Nat} {w0 : World} {hs : List (Nat × Obj)} {N R : Act → World → Prop} {X : List (Nat × (Act → World → Prop))} {e : Env} {ops : Array Oper} {l : List Oper} {o : Oper}
theorem Ll.callTo {σ : Type} {ok : σ → Prop} {hs' : σ → List (Nat × Obj)} {d : Nat} {f : FuncId} {xs : List Operand} {ts : Array TypeId} {vs : List Value} {v : Value} (hd : Nat.blt d n = true) (hdst : o.dst = some d) (hg : wantE ops e o.guard = some true) (h : o.op = .call ⟨.value (.func f), xs.toArray, ts⟩)
    (hcf : ∀ args w, (callFunc f args).run P w = .ok (.enter f args) w) (hx : opds e xs = some vs)
    (hc : ∀ w, Own B w0 hs w → Calls P f vs.toArray w fun en w' => ∃ s, en = .returned v ∧ ok s ∧ Own B w0 (hs' s) w')
    (k : ∀ s, ok s → Ll P n (Own B w0 (hs' s)) ops l ((d, v) :: e) N R X) : Ll P n (Own B w0 hs) ops (o :: l) e N R X :=
  Ll.call hd hdst hg h hcf hx fun w hw => (hc w hw).mono fun en w' ⟨s, h1, h2, h3⟩ => ⟨v, h1, fun a' ha => by
    have := k s h2
    unfold Ll at this
    exact this a' w' ha h3⟩
theorem Ll.callFnRow {d f el size m : Nat} {c : Operand} {captured : Array Value} {xs : List Operand} {ts : Array TypeId} {us vs : List Value} (hd : Nat.blt d n = true) (hdst : o.dst = some d) (hg : wantE ops e o.guard = some true) (h : o.op = .call ⟨.value c, xs.toArray, ts⟩)
    (hcl : opd e c = some (.func (.func f) #[] captured)) (hcf : ∀ args w, (callFunc f args).run P w = .ok (.enter f args) w) (hx : opds e xs = some us)
    (hc : ∀ w, Own B w0 hs w → Calls P f (us.toArray ++ captured) w fun en w' => ∃ v, en = .returned v ∧ Below w.heap.size w w' ∧ NewRow w.heap.size el size w' v m vs)
    (k : ∀ g cap cur, B ≤ g → cur.size = cap * size → m ≤ cap → cur.toList.take (m * size) = vs → Ll P n (Own B w0 ((g, .cells cur el (0, 0)) :: hs)) ops l ((d, .slice (some ⟨g, 0, none⟩) m cap) :: e) N R X) : Ll P n (Own B w0 hs) ops (o :: l) e N R X :=
  Ll.callFn hd hdst hg h hcl hcf hx fun w hw => (hc w hw).mono fun en w' ⟨v, h1, h2, g, cap, cur, h3, h4, h5, h6, h7, h8⟩ => ⟨v, h1, fun a' ha => by
    subst h3
    have := k g cap cur (Nat.le_trans hw.base h4) h6 h7 h8
    unfold Ll at this
    exact this a' w' ha (hw.learn h2 h4 h5)⟩
end
end Go.Wk
