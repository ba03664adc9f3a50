/-
  CLASSES, numbered in order. No program in sight.
-/
import Derived.Test.YtjcoijejhachhaaDoorCore3
import Derived.MapKept
namespace Go.Wk
open Go.RowKit

/-- the classes of the first things, and how many there are -/
def clsN (q : Nat → Nat → Bool) : Nat → List Int × Nat
  | 0 => ([], 0)
  | x + 1 => match (List.range x).find? (fun y => q y x) with
    | some y => ((clsN q x).1 ++ [(clsN q x).1.getD y 0], (clsN q x).2)
    | none => ((clsN q x).1 ++ [((clsN q x).2 : Int)], (clsN q x).2 + 1)
section
variable {q : Nat → Nat → Bool}
theorem cls_old {x y : Nat} (hy : y < x) (hall : ∀ i, i < y → q i x = false) (h : q y x = true) : clsN q (x + 1) = ((clsN q x).1 ++ [(clsN q x).1.getD y 0], (clsN q x).2) := by
  rw [clsN, find_at (f := fun y => q y x) hy hall h]
theorem cls_new {x : Nat} (hall : ∀ i, i < x → q i x = false) : clsN q (x + 1) = ((clsN q x).1 ++ [((clsN q x).2 : Int)], (clsN q x).2 + 1) := by
  have : (List.range x).find? (fun y => q y x) = none := by rw [List.find?_eq_none]; intro i hi; rw [hall i (List.mem_range.1 hi)]; simp
  rw [clsN, this]
theorem cls_cases (q : Nat → Nat → Bool) (x : Nat) : (∃ y, y < x ∧ (∀ i, i < y → q i x = false) ∧ q y x = true) ∨ ∀ i, i < x → q i x = false := by
  cases h : (List.range x).find? (fun y => q y x) with
  | none => exact .inr fun i hi => by simpa using List.find?_eq_none.1 h i (List.mem_range.2 hi)
  | some y =>
    rw [List.find?_range_eq_some] at h
    exact .inl ⟨y, List.mem_range.1 h.2.1, fun i hi => by simpa using h.2.2 i hi, h.1⟩
theorem cls_length (q : Nat → Nat → Bool) : ∀ x, (clsN q x).1.length = x
  | 0 => rfl
  | x + 1 => by
    rcases cls_cases q x with ⟨y, h1, h2, h3⟩ | h
    · rw [cls_old h1 h2 h3]; simp [cls_length q x]
    · rw [cls_new h]; simp [cls_length q x]
theorem cls_small (q : Nat → Nat → Bool) : ∀ x, (clsN q x).2 ≤ x ∧ ∀ m ∈ (clsN q x).1, 0 ≤ m ∧ m < ((clsN q x).2 : Int)
  | 0 => ⟨Nat.le_refl _, fun m hm => by cases hm⟩
  | x + 1 => by
    obtain ⟨i1, i2⟩ := cls_small q x
    rcases cls_cases q x with ⟨y, h1, h2, h3⟩ | h
    · rw [cls_old h1 h2 h3]
      refine ⟨by dsimp only; omega, fun m hm => ?_⟩
      rcases List.mem_append.1 hm with h4 | h4
      · exact i2 m h4
      · rw [List.mem_singleton.1 h4]
        have hl := cls_length q x
        rw [getD_at (by omega)]; exact i2 _ (List.getElem_mem _)
    · rw [cls_new h]
      refine ⟨by dsimp only; omega, fun m hm => ?_⟩
      rcases List.mem_append.1 hm with h4 | h4
      · have := i2 m h4; dsimp only; omega
      · rw [List.mem_singleton.1 h4]; dsimp only; omega
theorem cls_at {x y : Nat} (hy : y < x) : 0 ≤ (clsN q x).1.getD y 0 ∧ (clsN q x).1.getD y 0 < x := by
  have hl := cls_length q x
  have hs := cls_small q x
  rw [getD_at (by omega)]
  have := hs.2 _ (List.getElem_mem (l := (clsN q x).1) (n := y) (by omega))
  omega
end
/-- what the reference has seen: the numbers, in order of their coming -/
structure SeenL (T : List (List UInt8)) (n : Nat) (a : St) (x : Nat) (S O : List Int) : Prop where
  cls : clsN (fun y x => winB n a [(y : Int)] a [(x : Int)]) x = (O, S.length)
  nodup : S.Nodup
  out : ∀ y : Nat, y < x → ∃ m k : Nat, Means T n a [(y : Int)] m ∧ O.getD y 0 = (k : Int) ∧ S[k]? = some (m : Int)
  seen : ∀ s ∈ S, ∃ m y : Nat, s = (m : Int) ∧ y < x ∧ Means T n a [(y : Int)] m
theorem SeenL.zero {T : List (List UInt8)} {n : Nat} {a : St} : SeenL T n a 0 [] [] := ⟨rfl, List.nodup_nil, fun y hy => absurd hy (by omega), fun s hs => by cases hs⟩
theorem SeenL.len {T : List (List UInt8)} {n : Nat} {a : St} {x : Nat} {S O : List Int} (h : SeenL T n a x S O) : O.length = x ∧ S.length ≤ x := by
  have h1 := cls_length (fun y x => winB n a [(y : Int)] a [(x : Int)]) x
  have h2 := (cls_small (fun y x => winB n a [(y : Int)] a [(x : Int)]) x).1
  rw [h.cls] at h1 h2
  exact ⟨h1, h2⟩
theorem getD_app1 {l r : List Int} {i : Nat} (h : i < l.length) : (l ++ r).getD i 0 = l.getD i 0 := by
  rw [List.getD_eq_getElem?_getD, List.getElem?_append_left h, ← List.getD_eq_getElem?_getD]
theorem getD_app2 {l : List Int} {z : Int} : (l ++ [z]).getD l.length 0 = z := by
  rw [List.getD_eq_getElem?_getD]; simp
theorem nodup_at {S : List Int} (h : S.Nodup) {i j : Nat} {m : Int} (hi : S[i]? = some m) (hj : S[j]? = some m) : i = j :=
  (List.getElem?_inj (List.getElem?_eq_some_iff.1 hi).1 h).1 (hi.trans hj.symm)
theorem SeenL.old {T T' : List (List UInt8)} {n : Nat} {a : St} {x : Nat} {S O : List Int} (h : SeenL T n a x S O) (hp : T <+: T') (hT : T'.Nodup) {m k : Nat} (hm : Means T' n a [(x : Int)] m) (hk : S[k]? = some (m : Int)) : SeenL T' n a (x + 1) S (O ++ [(k : Int)]) := by
  obtain ⟨hOl, hSl⟩ := h.len
  have heq : ∀ (y : Nat) (m' : Nat), Means T' n a [(y : Int)] m' → (m' = m ↔ winB n a [(y : Int)] a [(x : Int)] = true) := fun y m' hm' => by
    rw [means_win hT n a [(y : Int)] a [(x : Int)] m' m rfl hm' hm, win_iff n a [(y : Int)] a [(x : Int)] rfl]
  refine ⟨?_, h.nodup, fun y hy => ?_, fun s hs => ?_⟩
  · rcases cls_cases (fun y x => winB n a [(y : Int)] a [(x : Int)]) x with ⟨y, h1, h2, h3⟩ | hno
    · rw [cls_old h1 h2 h3, h.cls]
      obtain ⟨m', k', e1, e2, e3⟩ := h.out y h1
      have e4 := (heq y m' (e1.mono hp _ _ _ _)).2 h3
      subst e4
      rw [e2, nodup_at h.nodup e3 hk]
    · exfalso
      obtain ⟨m', y, e1, e2, e3⟩ := h.seen _ (List.mem_of_getElem? hk)
      have e4 : m' = m := by omega
      have := hno y e2
      rw [(heq y m' (e3.mono hp _ _ _ _)).1 e4] at this
      cases this
  · rcases Nat.lt_or_ge y x with h1 | h1
    · obtain ⟨m', k', e1, e2, e3⟩ := h.out y h1
      exact ⟨m', k', e1.mono hp _ _ _ _, by rw [getD_app1 (by omega)]; exact e2, e3⟩
    · obtain rfl : y = x := by omega
      exact ⟨m, k, hm, by rw [← hOl, getD_app2], hk⟩
  · obtain ⟨m', y, e1, e2, e3⟩ := h.seen s hs
    exact ⟨m', y, e1, by omega, e3.mono hp _ _ _ _⟩
theorem SeenL.new {T T' : List (List UInt8)} {n : Nat} {a : St} {x : Nat} {S O : List Int} (h : SeenL T n a x S O) (hp : T <+: T') (hT : T'.Nodup) {m : Nat} (hm : Means T' n a [(x : Int)] m) (hk : ¬ (m : Int) ∈ S) : SeenL T' n a (x + 1) (S ++ [(m : Int)]) (O ++ [(S.length : Int)]) := by
  obtain ⟨hOl, hSl⟩ := h.len
  have heq : ∀ (y : Nat) (m' : Nat), Means T' n a [(y : Int)] m' → (m' = m ↔ winB n a [(y : Int)] a [(x : Int)] = true) := fun y m' hm' => by
    rw [means_win hT n a [(y : Int)] a [(x : Int)] m' m rfl hm' hm, win_iff n a [(y : Int)] a [(x : Int)] rfl]
  refine ⟨?_, ?_, fun y hy => ?_, fun s hs => ?_⟩
  · rw [cls_new fun y hy => ?_, h.cls]
    · simp
    · obtain ⟨m', k', e1, e2, e3⟩ := h.out y hy
      cases hq : winB n a [(y : Int)] a [(x : Int)] with
      | false => rfl
      | true =>
        have e4 := (heq y m' (e1.mono hp _ _ _ _)).2 hq
        subst e4
        exact absurd (List.mem_of_getElem? e3) hk
  · rw [List.nodup_append]
    exact ⟨h.nodup, by simp, fun z hz y hy e => hk (by rw [List.mem_singleton.1 hy] at e; exact e ▸ hz)⟩
  · rcases Nat.lt_or_ge y x with h1 | h1
    · obtain ⟨m', k', e1, e2, e3⟩ := h.out y h1
      refine ⟨m', k', e1.mono hp _ _ _ _, by rw [getD_app1 (by omega)]; exact e2, ?_⟩
      rw [List.getElem?_append_left (List.getElem?_eq_some_iff.1 e3).1]; exact e3
    · obtain rfl : y = x := by omega
      exact ⟨m, S.length, hm, by rw [← hOl, getD_app2], by simp⟩
  · rcases List.mem_append.1 hs with h1 | h1
    · obtain ⟨m', y, e1, e2, e3⟩ := h.seen s h1
      exact ⟨m', y, e1, by omega, e3.mono hp _ _ _ _⟩
    · exact ⟨m, x, List.mem_singleton.1 h1, by omega, hm⟩
/-- .. either way: the place that the number has -/
theorem SeenL.step_old {T T' : List (List UInt8)} {n : Nat} {a : St} {x : Nat} {S O : List Int} (h : SeenL T n a x S O) (hp : T <+: T') (hT : T'.Nodup) {m : Nat} (hm : Means T' n a [(x : Int)] m) (hk : (m : Int) ∈ S) :
    ∃ kk : Nat, kk < S.length ∧ (∀ k : Nat, k < S.length → (S.getD k 0 = (m : Int) ↔ k = kk)) ∧ SeenL T' n a (x + 1) S (O ++ [(kk : Int)]) := by
  obtain ⟨kk, hkk⟩ := List.mem_iff_getElem?.1 hk
  refine ⟨kk, (List.getElem?_eq_some_iff.1 hkk).1, fun k hk => ⟨fun e => ?_, fun e => ?_⟩, h.old hp hT hm hkk⟩
  · refine nodup_at h.nodup ?_ hkk
    rw [getD_at hk] at e; rw [List.getElem?_eq_getElem hk, e]
  · subst e; rw [List.getD_eq_getElem?_getD, hkk]; rfl
theorem SeenL.step_new {T T' : List (List UInt8)} {n : Nat} {a : St} {x : Nat} {S O : List Int} (h : SeenL T n a x S O) (hp : T <+: T') (hT : T'.Nodup) {m : Nat} (hm : Means T' n a [(x : Int)] m) (hk : ¬ (m : Int) ∈ S) :
    ∃ kk : Nat, kk < (S ++ [(m : Int)]).length ∧ (∀ k : Nat, k < (S ++ [(m : Int)]).length → ((S ++ [(m : Int)]).getD k 0 = (m : Int) ↔ k = kk)) ∧ SeenL T' n a (x + 1) (S ++ [(m : Int)]) (O ++ [(kk : Int)]) := by
  have h2 := h.new hp hT hm hk
  have hkk : (S ++ [(m : Int)])[S.length]? = some (m : Int) := by simp
  refine ⟨S.length, by simp, fun k hk => ⟨fun e => ?_, fun e => ?_⟩, h2⟩
  · refine nodup_at h2.nodup ?_ hkk
    rw [getD_at hk] at e; rw [List.getElem?_eq_getElem hk, e]
  · subst e; rw [List.getD_eq_getElem?_getD, hkk]; rfl
def outAt (O : List Int) (kk k : Nat) : List Int := if kk < k then O ++ [(kk : Int)] else O
theorem outAt_zero (O : List Int) (kk : Nat) : outAt O kk 0 = O := by unfold outAt; rw [if_neg (by omega)]
theorem outAt_yes {O : List Int} {kk k : Nat} (h : k = kk) : outAt O kk (k + 1) = outAt O kk k ++ [(k : Int)] := by unfold outAt; rw [if_pos (by omega), if_neg (by omega), h]
theorem outAt_no {O : List Int} {kk k : Nat} (h : ¬ k = kk) : outAt O kk (k + 1) = outAt O kk k := by
  unfold outAt
  rcases Nat.lt_or_ge kk k with h1 | h1
  · rw [if_pos (by omega), if_pos h1]
  · rw [if_neg (by omega), if_neg (by omega)]
theorem outAt_end {O : List Int} {kk k : Nat} (h : kk < k) : outAt O kk k = O ++ [(kk : Int)] := by unfold outAt; rw [if_pos h]
theorem outAt_le (O : List Int) (kk k : Nat) : (outAt O kk k).length ≤ O.length + 1 := by unfold outAt; split <;> simp
def clsOk (a : St) (r : Int) : Bool := validB a && inB r 0 3
theorem clsOk_true {a : St} {r : Int} (h : clsOk a r = true) : validB a = true ∧ 0 ≤ r ∧ r ≤ 3 := by unfold clsOk inB at h; simpa using h
def clsOf (a : St) (r : Int) : List Int := (clsN (fun y x => winB r.toNat a [(y : Int)] a [(x : Int)]) a.n.toNat).1
theorem box_cells {w w1 : World} {g : Nat} {cs : Array Value} {T : TypeId} {fr : Nat × Nat} {hs : List (Nat × Obj)} (hg : w.heap[g]? = some (.cells cs T fr)) (hw : Own w.heap.size w hs w1) (j : Nat) (v : Value) (hj : cs.toList[j]? = some v) : w1.cell? ((⟨g, 0, none⟩ : Addr).add j) = some v := by
  have hlt : g < w.heap.size := by
    rcases Nat.lt_or_ge g w.heap.size with h | h
    · exact h
    · rw [Array.getElem?_eq_none h] at hg; cases hg
  rw [Addr.add_lit, Nat.zero_add]
  unfold World.cell?
  rw [hw.below.block g hlt, hg]
  simpa using hj
theorem has_at {xs : List Int} {m : Int} {k : Nat} (hk : k < xs.length) (h : xs.getD k 0 = m) : decide (m ∈ xs) = true := by
  rw [decide_eq_true_eq, ← h, getD_at hk]; exact List.getElem_mem _
theorem has_no {xs : List Int} {m : Int} (h : ∀ i : Nat, i < xs.length → ¬ xs.getD i 0 = m) : decide (m ∈ xs) = false := by
  rw [decide_eq_false_iff_not]; intro hm
  obtain ⟨i, hi, e⟩ := List.mem_iff_getElem.1 hm
  exact h i hi (by rw [getD_at hi]; exact e)
theorem els_one {a : St} {x : Int} (h : a.El x) : a.Els [x] := fun y hy => by rw [List.mem_singleton.1 hy]; exact h
end Go.Wk
/-
  ARRAYS, MAPS OF TEXTS, ROWS OF ROWS, all lists of elements. No program in sight.
-/
namespace Go.Wk
open Go.RowKit

section
variable {P : Program} {n : Nat} {C : World → Prop} {B : Nat} {w0 : World} {hs hs' : List (Nat × Obj)} {N R : Act → World → Prop} {X : List (Nat × (Act → World → Prop))} {e : Env} {ops : Array Oper} {l : List Oper} {o : Oper}
theorem OpQ.indexArr {t el : TypeId} {m : Nat} {x y : Operand} {b : Nat} {k : IntKind} {i : Int} (h : o.op = .indexAddr t x y) (hu : ∀ w, (underlying t).run P w = .ok (.array m el) w) (hz : ∀ w, (sizeOf el).run P w = .ok 1 w)
    (hx : opd e x = some (.pointer (some ⟨b, 0, none⟩))) (hy : opd e y = some (.int k i)) (h0 : 0 ≤ i) (h1 : i < m) : OpQ P n C e o (.pointer (some ⟨b, i.toNat, none⟩)) := OpQ.val fun A hF w => by
  unfold execOp; rw [h]; simp only [hF.opd hx, hF.opd hy]
  simp only [Instr.indexAt, Instr.sureAddr, asIntOf, Sem.run_bind, Sem.run_pure, hu, Result.andThen, hz, if_pos (And.intro h0 h1), Addr.add_lit, Nat.mul_one, Nat.zero_add]
theorem OpQ.sliceArr {t el : TypeId} {m : Nat} {x y : Operand} {b : Nat} {k : IntKind} {i : Int} (h : o.op = .slice t x none (some y) none) (hu : ∀ w, (underlying t).run P w = .ok (.array m el) w) (hz : ∀ w, (sizeOf el).run P w = .ok 1 w)
    (hx : opd e x = some (.pointer (some ⟨b, 0, none⟩))) (hy : opd e y = some (.int k i)) (h0 : 0 ≤ i) (h1 : i ≤ m) (hm : 0 < m) : OpQ P n C e o (.slice (some ⟨b, 0, none⟩) i.toNat m) := OpQ.val fun A hF w => by
  unfold execOp; rw [h]; simp only [hF.opd hx, Option.map_some, Option.map_none, hF.opd hy]
  have hi : 0 ≤ i ∧ i ≤ (m : Int) := ⟨h0, h1⟩
  simp only [Instr.sliceAt, Instr.sureAddr, Instr.sliceBounds, Instr.sliceBound, asIntOf, Sem.run_bind, Sem.run_pure, hu, hz, Result.andThen, if_pos hi]
  rw [if_neg (by omega)]
  simp [Addr.add]
theorem OpQ.max2 {x y : Operand} {ts : Array TypeId} {i j : Int} (h : o.op = .call ⟨.builtin .max, #[x, y], ts⟩) (hx : opd e x = some (.int .i64 i)) (hy : opd e y = some (.int .i64 j)) : OpQ P n C e o (.int .i64 (if j > i then j else i)) := OpQ.val fun A hF w => by
  unfold execOp; rw [h]
  simp only [resolve, invoke, BigFrame.builtin_max, List.map_toArray, List.map_cons, List.map_nil, hF.opd hx, hF.opd hy, Sem.run_bind, Sem.run_pure, Result.andThen, Builtin.max_, List.foldlM_cons, List.foldlM_nil, Builtin.max2]
/-! ### a map whose keys are texts, in the order of their coming -/
def entM (x : List UInt8 × Nat) : MapEntry := { key := str x.1, val := .bool true, born := x.2 }
def mapO (ks : List (List UInt8)) : Obj := .map ((ks.zipIdx.map entM).toArray) ks.length
def addK (ks : List (List UInt8)) (s : List UInt8) : List (List UInt8) := if s ∈ ks then ks else ks ++ [s]
theorem mapO_add (ks : List (List UInt8)) (s : List UInt8) : ((ks.zipIdx.map entM).toArray).push { key := str s, val := .bool true, born := ks.length } = (((ks ++ [s]).zipIdx.map entM).toArray) := by
  rw [List.zipIdx_append, List.map_append, List.push_toArray]
  simp [entM]
theorem str_inj {s t : List UInt8} (h : str s = str t) : s = t := by
  unfold str at h
  simp only [Value.string.injEq, ByteArray.mk.injEq, Array.mk.injEq] at h
  exact h
theorem Own.setObj {w : World} (h : Own B w0 hs w) {i p : Nat} {u : Obj} (hi : hs[i]? = some (p, u)) (u' : Obj) : Own B w0 (hs.set i (p, u')) { w with heap := w.heap.setIfInBounds p u' } := by
  obtain ⟨hB, hp⟩ := h.has i p u hi
  obtain ⟨hh, hne⟩ := MapKept.heap_set (o' := u') hp
  have hil : i < hs.length := (List.getElem?_eq_some_iff.1 hi).1
  refine Own.of_mem ⟨h.below.os, h.below.tape, h.below.output, by have := h.below.size; simpa using this, fun k hk => ?_⟩ (by have := h.base; simpa using this) (fun x hx => ?_) ?_
  · have := h.below.block k hk
    rw [← this]; exact hne k (by omega)
  · obtain ⟨j, hj⟩ := List.mem_iff_getElem?.1 hx
    rw [List.getElem?_set] at hj
    split at hj
    · rename_i e1; subst e1
      injection hj with hj; subst hj
      exact ⟨hB, hh⟩
    · rename_i e1
      obtain ⟨h1, h2⟩ := h.has j x.1 x.2 hj
      exact ⟨h1, by rw [← h2]; exact hne _ (fun e2 => h.apart j i x.1 x.2 p u hj hi (fun e3 => e1 e3.symm) e2)⟩
  · have : (hs.set i (p, u')).map Prod.fst = hs.map Prod.fst := by
      rw [List.map_set]
      refine set_same ?_
      rw [List.getElem?_map, hi]; rfl
    rw [this]; exact h.nodup
theorem Ll.makeMap {d t : Nat} (hd : Nat.blt d n = true) (hdst : o.dst = some d) (hg : wantE ops e o.guard = some true) (h : o.op = .makeMap t none)
    (k : ∀ p, B ≤ p → Ll P n (Own B w0 ((p, mapO []) :: hs)) ops l ((d, .map (some p)) :: e) N R X) : Ll P n (Own B w0 hs) ops (o :: l) e N R X :=
  Ll.turn hd hdst hg fun a w hF hw => ⟨.map (some w.heap.size), w.alloc (mapO []), by
    unfold execOp; rw [h]; rfl, fun a' ha => by
    have := k _ hw.base
    unfold Ll at this
    exact this a' _ ha (hw.alloc _)⟩
theorem run_mapSet_old {w : World} {t kt et r j clock : Nat} {es : Array MapEntry} {s : List UInt8} {v : Value} {e : MapEntry} (hm : P.underlying t = some (.map kt et)) (hkt : P.underlying kt = some .string) (hb : w.heap[r]? = some (.map es clock))
    (h1 : Instr.findNow .string (str s) es.toList 0 = some (some (0 + j, e.val))) (hj : es[j]? = some e) (h3 : e.key = str s) :
    (Instr.mapUpdate t (.map (some r)) (str s) v).run P w = .ok () { w with heap := w.heap.setIfInBounds r (.map (es.modify j fun e => { e with key := str s, val := v }) clock) } := by
  have hk : MapKept.IsKey .string (str s) := trivial
  simp [Instr.mapUpdate, run_underlying hm, MapKept.run_getObj_map hb, MapKept.run_checkKey hkt hk, MapKept.run_findKey hkt h1, hj, h3, MapKept.run_keyThatStays hk, MapKept.run_setObj_map _ hb, Result.andThen]
theorem Ll.mapSet {t kt et r : Nat} {x y z : Operand} {ks : List (List UInt8)} {s : List UInt8} (i : Nat) (hdst : o.dst = none) (hg : wantE ops e o.guard = some true) (h : o.op = .mapUpdate t x y z) (hm : P.underlying t = some (.map kt et)) (hkt : P.underlying kt = some .string)
    (hx : opd e x = some (.map (some r))) (hy : opd e y = some (str s)) (hz : opd e z = some (.bool true)) (hi : hs[i]? = some (r, mapO ks)) (k : Ll P n (Own B w0 (hs.set i (r, mapO (addK ks s)))) ops l e N R X) : Ll P n (Own B w0 hs) ops (o :: l) e N R X :=
  Ll.turnN hdst hg fun a w hF hw => by
    have hb : w.heap[r]? = some (.map ((ks.zipIdx.map entM).toArray) ks.length) := (hw.has i r _ hi).2
    have hk : MapKept.IsKey .string (str s) := trivial
    have hkey : ∀ x ∈ ((ks.zipIdx.map entM).toArray).toList, MapKept.IsKey .string x.key := fun x hx => by
      obtain ⟨y, _, rfl⟩ := List.mem_map.1 (show x ∈ ks.zipIdx.map entM from hx)
      trivial
    refine ⟨{ w with heap := w.heap.setIfInBounds r (mapO (addK ks s)) }, ?_, fun a' ha => ?_⟩
    · unfold execOp; rw [h]; simp only [hF.opd hx, hF.opd hy, hF.opd hz]
      have run : (Instr.mapUpdate t (.map (some r)) (str s) (.bool true)).run P w = .ok () { w with heap := w.heap.setIfInBounds r (mapO (addK ks s)) } := by
        rcases MapKept.findNow_spec hk ((ks.zipIdx.map entM).toArray).toList 0 hkey with ⟨h1, h2⟩ | ⟨j, e, h1, h2, h3⟩
        · have hns : s ∉ ks := fun hmem => by
            obtain ⟨j, hj⟩ := List.mem_iff_getElem?.1 hmem
            refine h2 (entM (s, j)) ?_ rfl
            simp only [List.mem_map]
            exact ⟨(s, j), List.mem_zipIdx_iff_getElem?.2 hj, rfl⟩
          have e1 : mapO (addK ks s) = .map (((ks.zipIdx.map entM).toArray).push { key := str s, val := .bool true, born := ks.length }) (ks.length + 1) := by
            unfold addK; rw [if_neg hns]; unfold mapO; rw [mapO_add]; simp
          rw [e1]
          simp [Instr.mapUpdate, run_underlying hm, MapKept.run_getObj_map hb, MapKept.run_checkKey hkt hk, MapKept.run_findKey hkt h1, MapKept.run_setObj_map _ hb, Result.andThen]
        · have hj : ((ks.zipIdx.map entM).toArray)[j]? = some e := by simpa using h2
          have h2' : (ks.zipIdx.map entM)[j]? = some e := by simpa using h2
          rw [List.getElem?_map] at h2'
          obtain ⟨y, hy1, hy2⟩ := Option.map_eq_some_iff.1 h2'
          have hys : y.1 = s := by rw [← hy2] at h3; exact str_inj h3
          have hs : s ∈ ks := by
            have := List.mem_zipIdx_iff_getElem?.1 (List.mem_of_getElem? hy1 : (y.1, y.2) ∈ _)
            rw [hys] at this; exact List.mem_of_getElem? this
          have hval : e.val = .bool true := by rw [← hy2]; rfl
          have e1 : mapO (addK ks s) = .map (((ks.zipIdx.map entM).toArray).modify j fun e => { e with key := str s, val := .bool true }) ks.length := by
            unfold addK; rw [if_pos hs]; unfold mapO
            congr 1
            apply Array.ext
            · simp
            · intro q hq1 hq2
              rw [Array.getElem_modify]
              split
              · rename_i ejq; subst ejq
                have hje : ((ks.zipIdx.map entM).toArray)[j] = e := by
                  rw [Array.getElem?_eq_getElem hq1] at hj; exact Option.some.inj hj
                rw [hje, ← h3, ← hval]
              · rfl
          rw [e1]
          exact run_mapSet_old hm hkt hb h1 hj h3
      simp only [Sem.run_bind, run, Result.andThen]
      rfl
    · unfold Ll at k
      exact k a' _ ha (hw.setObj hi _)
theorem OpQ.lenMap {t kt et r : Nat} {x : Operand} {ks : List (List UInt8)} (i : Nat) (h : o.op = .call ⟨.builtin .len, #[x], #[t]⟩) (hm : P.underlying t = some (.map kt et)) (hx : opd e x = some (.map (some r))) (hi : hs[i]? = some (r, mapO ks)) : OpQ P n (Own B w0 hs) e o (.int .i64 (ks.length : Int)) := by
  unfold OpQ
  intro a hF w hw
  have hb : w.heap[r]? = some (.map ((ks.zipIdx.map entM).toArray) ks.length) := (hw.has i r _ hi).2
  unfold Oper.quietAt execOp; rw [h]
  simp only [resolve, invoke, BigFrame.builtin_len, List.map_toArray, List.map_cons, List.map_nil, hF.opd hx, Sem.run_bind, Sem.run_pure, Result.andThen, Builtin.len_, run_underlying hm, List.getElem?_toArray, List.getElem?_cons_zero, MapKept.run_getObj_map hb]
  refine ⟨rfl, ?_⟩
  show Value.int .i64 _ = Value.int .i64 _
  simp
end
/-! ### rows of rows -/
structure RR where
  g : Nat
  cap : Nat
  cur : Array Value
  xs : List Int
def rd : RR := ⟨0, 0, #[], []⟩
def rv (r : RR) : Value := .slice (some ⟨r.g, 0, none⟩) r.xs.length r.cap
structure RR.Ok (r : RR) : Prop where
  size : r.cur.size = r.cap * 1
  len : r.xs.length ≤ r.cap
  vals : r.cur.toList.take r.xs.length = ints r.xs
def rowsB (I : TypeId) (rr : List RR) : List (Nat × Obj) := rr.map fun r => (r.g, .cells r.cur I (0, 0))
def rvs (rr : List RR) : List Value := rr.map rv
@[simp] theorem rvs_length (rr : List RR) : (rvs rr).length = rr.length := by simp [rvs]
theorem rvs_at {rr : List RR} {i : Nat} (h : i < rr.length) : (rvs rr)[i]? = some (rv (rr.getD i rd)) := by
  rw [rvs, List.getElem?_map, List.getElem?_eq_getElem h, getD_at h]; rfl
section
variable {B : Nat} {w0 : World} {hs : List (Nat × Obj)}
theorem Own.ofRows {w : World} {I : TypeId} {rr : List RR} (h : Own B w0 (rowsB I rr ++ hs) w) (hok : ∀ r ∈ rr, r.Ok) {i : Nat} (hi : i < rr.length) : Ints w (rv (rr.getD i rd)) (rr.getD i rd).xs := by
  have hm : rr.getD i rd ∈ rr := by rw [getD_at hi]; exact List.getElem_mem _
  have hk := hok _ hm
  have hb := h.mem (x := ((rr.getD i rd).g, .cells (rr.getD i rd).cur I (0, 0))) (List.mem_append_left _ (List.mem_map.2 ⟨_, hm, rfl⟩))
  refine ⟨_, (rr.getD i rd).cap, by rw [ints_length]; rfl, by rw [ints_length]; exact hk.len, fun h => (by cases h), fun ad had => ?_⟩
  injection had with had
  subst had
  refine ⟨rfl, fun j u hj => ?_⟩
  show w.cell? ⟨(rr.getD i rd).g, 0 + j, none⟩ = some u
  rw [Nat.zero_add]
  unfold World.cell?
  rw [hb.2]
  rw [← hk.vals, List.getElem?_take] at hj
  split at hj
  · simpa using hj
  · cases hj
theorem rows_more {w : World} {I : TypeId} {rr : List RR} {g cap : Nat} {cur : Array Value} {xs : List Int} {f R : List (Nat × Obj)} (h : Own B w0 ((g, .cells cur I (0, 0)) :: (f ++ (rowsB I rr ++ R))) w) : Own B w0 (f ++ (rowsB I (rr ++ [⟨g, cap, cur, xs⟩]) ++ R)) w := by
  refine h.perm ?_
  unfold rowsB
  rw [List.map_append, List.append_assoc]
  have h1 := perm_back [(g, Obj.cells cur I (0, 0))] f (rr.map (fun r => (r.g, Obj.cells r.cur I (0, 0))) ++ R)
  have h2 := perm_back [(g, Obj.cells cur I (0, 0))] (rr.map (fun r => (r.g, Obj.cells r.cur I (0, 0)))) R
  exact h1.trans (h2.append_left f)
end
structure RowsOk (rr : List RR) (u : Array Value) (c : Nat) : Prop where
  size : u.size = c * 1
  len : rr.length ≤ c
  vals : u.toList.take rr.length = rvs rr
  ok : ∀ r ∈ rr, r.Ok
theorem RowsOk.nil : RowsOk [] #[] 0 := ⟨rfl, Nat.le_refl 0, rfl, fun r hr => by cases hr⟩
theorem RowsOk.one (p : Nat) : RowsOk [⟨p, 0, #[], []⟩] #[.slice (some ⟨p, 0, none⟩) 0 0] 1 := ⟨rfl, Nat.le_refl 1, rfl, fun r hr => by rw [List.mem_singleton.1 hr]; exact ⟨rfl, Nat.le_refl 0, rfl⟩⟩
theorem RowsOk.add {rr : List RR} {u u' : Array Value} {c c' : Nat} {r : RR} (h : RowsOk rr u c) (hr : r.Ok) (hs : u'.size = c' * 1) (hl : rr.length + 1 ≤ c') (hv : u'.toList.take ((rr.length + 1) * 1) = u.toList.take (rr.length * 1) ++ [rv r]) : RowsOk (rr ++ [r]) u' c' := by
  refine ⟨hs, by simpa using hl, ?_, fun x hx => ?_⟩
  · have h1 := h.vals
    rw [Nat.mul_one, Nat.mul_one, h1] at hv
    rw [List.length_append, List.length_singleton, hv]; simp [rvs]
  · rcases List.mem_append.1 hx with h1 | h1
    · exact h.ok x h1
    · rw [List.mem_singleton.1 h1]; exact hr
theorem rows_forget {B : Nat} {w0 w : World} {I : TypeId} {nn rr : List RR} {x y : Nat × Obj} {hs : List (Nat × Obj)} (h : Own B w0 (x :: y :: (rowsB I nn ++ (rowsB I rr ++ hs))) w) : Own B w0 (x :: (rowsB I nn ++ hs)) w :=
  h.sub (List.Sublist.cons_cons _ (List.Sublist.cons _ ((List.Sublist.refl _).append (List.sublist_append_right _ _))))
/-! ### all lists -/
def nextL (size : Nat) (Ls : List (List Int)) : List (List Int) := Ls.flatMap fun l => (List.range size).map fun x : Nat => l ++ [(x : Int)]
def listsL (size : Nat) : Nat → List (List Int)
  | 0 => [[]]
  | w + 1 => nextL size (listsL size w)
def nextTo (size : Nat) (Ls : List (List Int)) (i k : Nat) : List (List Int) := nextL size (Ls.take i) ++ (List.range k).map fun x : Nat => (Ls.getD i []) ++ [(x : Int)]
theorem nextTo_zero (size : Nat) (Ls : List (List Int)) (i : Nat) : nextTo size Ls i 0 = nextL size (Ls.take i) := by simp [nextTo]
theorem nextTo_step (size : Nat) (Ls : List (List Int)) (i k : Nat) : nextTo size Ls i (k + 1) = nextTo size Ls i k ++ [(Ls.getD i []) ++ [(k : Int)]] := by
  simp [nextTo, List.range_succ, List.append_assoc]
theorem nextTo_end {size : Nat} {Ls : List (List Int)} {i : Nat} (h : i < Ls.length) : nextTo size Ls i size = nextL size (Ls.take (i + 1)) := by
  unfold nextTo nextL
  rw [List.take_succ_eq_append_getElem h, List.flatMap_append, getD_at h]
  simp
theorem nextL_length (size : Nat) : ∀ Ls : List (List Int), (nextL size Ls).length = Ls.length * size
  | [] => by simp [nextL]
  | l :: Ls => by
    have := nextL_length size Ls
    simp only [nextL, List.flatMap_cons, List.length_append, List.length_map, List.length_range, List.length_cons] at this ⊢
    rw [this, Nat.add_mul, Nat.one_mul]; omega
theorem listsL_length (size : Nat) : ∀ w, (listsL size w).length = size ^ w
  | 0 => rfl
  | w + 1 => by rw [listsL, nextL_length, listsL_length size w, Nat.pow_succ]
theorem pow8 {size w : Nat} (h : size ≤ 8) (hw : w ≤ 3) : size ^ w ≤ 512 :=
  Nat.le_trans (Nat.pow_le_pow_left h w) (Nat.le_trans (Nat.pow_le_pow_right (by decide) hw) (by decide))
def pointL (size : Nat) : Nat → Nat → List Int
  | 0, _ => []
  | w + 1, k => pointL size w (k / size) ++ [((k % size : Nat) : Int)]
@[simp] theorem pointL_length (size : Nat) : ∀ w k, (pointL size w k).length = w
  | 0, _ => rfl
  | w + 1, k => by simp [pointL, pointL_length size w]
theorem nextL_at {size : Nat} (h0 : 0 < size) : ∀ {Ls : List (List Int)} {k : Nat}, k < Ls.length * size → (nextL size Ls).getD k [] = Ls.getD (k / size) [] ++ [((k % size : Nat) : Int)]
  | [], k, h => by simp at h
  | l :: Ls, k, h => by
    have key : nextL size (l :: Ls) = ((List.range size).map fun x : Nat => l ++ [(x : Int)]) ++ nextL size Ls := rfl
    rw [key]
    rcases Nat.lt_or_ge k size with h1 | h1
    · rw [List.getD_eq_getElem?_getD, List.getElem?_append_left (by simpa using h1), List.getElem?_map, List.getElem?_range h1, Nat.div_eq_of_lt h1, Nat.mod_eq_of_lt h1]
      rfl
    · have h2 : k - size < Ls.length * size := by
        rw [List.length_cons, Nat.add_mul, Nat.one_mul] at h; omega
      have ih := nextL_at h0 h2
      rw [List.getD_eq_getElem?_getD, List.getElem?_append_right (by simpa using h1), ← List.getD_eq_getElem?_getD]
      simp only [List.length_map, List.length_range]
      rw [ih, Nat.div_eq_sub_div h0 h1, Nat.mod_eq_sub_mod h1]
      rfl
theorem lists_point {size : Nat} (h0 : 0 < size) : ∀ {w k : Nat}, k < size ^ w → (listsL size w).getD k [] = pointL size w k
  | 0, k, h => by obtain rfl : k = 0 := by simpa using h
                  rfl
  | w + 1, k, h => by
    rw [listsL, nextL_at h0 (by rw [listsL_length, ← Nat.pow_succ]; exact h), lists_point h0 (by rw [Nat.pow_succ] at h; exact Nat.div_lt_of_lt_mul (by rw [Nat.mul_comm]; exact h)), pointL]
theorem point_els {a : St} (h : a.Fine) : ∀ (w k : Nat), a.Els (pointL a.n.toNat w k)
  | 0, _ => fun x hx => by cases hx
  | w + 1, k => fun x hx => by
    have h1 := h.lo
    rcases List.mem_append.1 hx with h2 | h2
    · exact point_els h w _ x h2
    · rw [List.mem_singleton.1 h2]
      have := Nat.mod_lt k (show 0 < a.n.toNat by omega)
      exact ⟨by omega, by omega⟩
/-- the array: the point, and noughts -/
def pArr (size w k : Nat) : List Int := pointL size w k ++ List.replicate (4 - w) 0
theorem pArr_length {size w k : Nat} (h : w ≤ 4) : (pArr size w k).length = 4 := by simp [pArr]; omega
theorem pArr_take {size w k : Nat} : (pArr size w k).take w = pointL size w k := List.take_left' (pointL_length size w k)
/-- texts, each once -/
def dedup (l : List (List UInt8)) : List (List UInt8) := l.foldl addK []
theorem dedup_step {l : List (List UInt8)} {i : Nat} (h : i < l.length) : dedup (l.take (i + 1)) = addK (dedup (l.take i)) (l.getD i []) := by
  rw [List.take_succ_eq_append_getElem h, dedup, List.foldl_append, getD_at h]; rfl
theorem addK_len (ks : List (List UInt8)) (s : List UInt8) : (addK ks s).length ≤ ks.length + 1 := by unfold addK; split <;> simp
theorem dedup_len : ∀ (l : List (List UInt8)) (ks : List (List UInt8)), (l.foldl addK ks).length ≤ ks.length + l.length
  | [], ks => by simp
  | s :: l, ks => by
    have h1 := dedup_len l (addK ks s)
    have h2 := addK_len ks s
    rw [List.foldl_cons, List.length_cons]; omega
end Go.Wk
/-
  ROWS AS LISTS. No program in sight.
-/
namespace Go.Wk
open Go.RowKit

theorem map_xs {rr : List RR} {i : Nat} (h : i < rr.length) : (rr.map RR.xs).getD i [] = (rr.getD i rd).xs := by
  rw [getD_at (by simpa using h), getD_at h, List.getElem_map]
theorem listsL_len {size : Nat} : ∀ {w : Nat} {l : List Int}, l ∈ listsL size w → l.length = w
  | 0, l, h => by rw [List.mem_singleton.1 h]; rfl
  | w + 1, l, h => by
    obtain ⟨m, hm, h2⟩ := List.mem_flatMap.1 h
    obtain ⟨x, _, rfl⟩ := List.mem_map.1 h2
    rw [List.length_append, listsL_len hm]; rfl
theorem xs_len {rr : List RR} {size r : Nat} (h : rr.map RR.xs = listsL size r) {i : Nat} : (rr.getD i rd).xs.length ≤ r := by
  rcases Nat.lt_or_ge i rr.length with h1 | h1
  · rw [← map_xs h1, h, getD_at (by rw [← h]; simpa using h1)]
    exact Nat.le_of_eq (listsL_len (List.getElem_mem _))
  · rw [List.getD_eq_getElem?_getD, List.getElem?_eq_none h1]; exact Nat.zero_le _
theorem next_len {nm : List RR} {size i k : Nat} {Ls : List (List Int)} (h : nm.map RR.xs = nextTo size Ls i k) (hL : Ls.length ≤ 512) (hk : k ≤ 8) (h8 : size ≤ 8) : nm.length ≤ 4104 := by
  have h1 := congrArg List.length h
  unfold nextTo at h1
  rw [List.length_map, List.length_append, nextL_length, List.length_map, List.length_range, List.length_take] at h1
  have h2 : min i Ls.length * size ≤ 512 * 8 := Nat.mul_le_mul (by omega) h8
  omega
theorem rows_behind (f : List (Nat × Obj)) (x : Nat × Obj) (r : List (Nat × Obj)) : (x :: (r ++ f)).Perm (f ++ (x :: (r ++ []))) := by
  have := List.perm_append_comm (l₁ := x :: r) (l₂ := f)
  rw [List.append_nil]
  exact this
theorem pow_mul_small {n k : Nat} {x : Int} (h0 : 0 ≤ x) (h8 : x ≤ 8) (h : n ^ k ≤ 512) : 0 ≤ ((n ^ k : Nat) : Int) * x ∧ ((n ^ k : Nat) : Int) * x ≤ 4096 :=
  ⟨Int.mul_nonneg (by omega) h0, Int.le_trans (Int.mul_le_mul_of_nonneg_right (show ((n ^ k : Nat) : Int) ≤ 512 by omega) h0) (by omega)⟩
theorem rep_set2 {j : Nat} {T : List Int} {v : Int} (h : 0 < j) : (List.replicate j 0 ++ T).set (j - 1) v = List.replicate (j - 1) 0 ++ (v :: T) := by
  obtain ⟨i, rfl⟩ : ∃ i, j = i + 1 := ⟨j - 1, by omega⟩
  rw [Nat.add_sub_cancel, List.replicate_succ', List.append_assoc, List.set_append_right _ _ (by simp)]
  simp
theorem point_step {size j K : Nat} (h : 0 < j) : pointL size j K = pointL size (j - 1) (K / size) ++ [((K % size : Nat) : Int)] := by
  obtain ⟨i, rfl⟩ : ∃ i, j = i + 1 := ⟨j - 1, by omega⟩
  rfl
def seenI (l : List (List UInt8)) (s : List UInt8) : Int := if s ∈ l then ((l.findIdx fun t => t == s : Nat) : Int) else -1
theorem seenI_at {l : List (List UInt8)} {s : List UInt8} {k : Nat} (hk : k < l.length) (hall : ∀ i : Nat, i < k → (l.getD i [] == s) = false) (h : (l.getD k [] == s) = true) : seenI l s = k := by
  have hm : s ∈ l := by
    have : l.getD k [] = s := by simpa using h
    rw [← this, getD_at hk]; exact List.getElem_mem _
  unfold seenI
  rw [if_pos hm]
  congr 1
  refine List.findIdx_eq hk |>.2 ⟨by rw [getD_at hk] at h; exact h, fun j hj => ?_⟩
  have := hall j hj
  rw [getD_at (by omega)] at this; exact this
theorem seenI_no {l : List (List UInt8)} {s : List UInt8} (hall : ∀ i : Nat, i < l.length → (l.getD i [] == s) = false) : seenI l s = -1 := by
  unfold seenI
  rw [if_neg fun hm => ?_]
  obtain ⟨i, hi, e⟩ := List.mem_iff_getElem.1 hm
  have := hall i hi
  rw [getD_at hi, e] at this
  simp at this
theorem seenI_neg {l : List (List UInt8)} {s : List UInt8} : seenI l s < 0 ↔ s ∉ l := by
  unfold seenI
  split
  · rename_i h; simp [h]
  · rename_i h; simp [h]
def kindsL (a : St) (w : Nat) : List (List UInt8) := (listsL a.n.toNat w).map fun l => atomsT (factsL a l l.length)
theorem kindsL_length (a : St) (w : Nat) : (kindsL a w).length = a.n.toNat ^ w := by rw [kindsL, List.length_map, listsL_length]
theorem kinds_at {a : St} (ha : a.Fine) {w k : Nat} (h : k < a.n.toNat ^ w) : (kindsL a w).getD k [] = atomsT (factsL a (pointL a.n.toNat w k) (pointL a.n.toNat w k).length) := by
  have hl : k < (listsL a.n.toNat w).length := by rw [listsL_length]; exact h
  rw [getD_at (by rw [kindsL_length]; exact h)]
  unfold kindsL
  rw [List.getElem_map, ← getD_at (d := []) hl, lists_point (by have := ha.lo; omega) h]
theorem atoms_point {a : St} (hv : validB a = true) {w k : Nat} (hw : w ≤ 4) : atomsOut a (pointL a.n.toNat w k) = atomsT (factsL a (pointL a.n.toNat w k) (pointL a.n.toNat w k).length) := by
  refine atomsOut_yes ?_
  unfold listB
  rw [hv]
  have := point_els (validB_fine hv) w k
  simp only [Bool.true_and, Bool.and_eq_true, decide_eq_true_eq, List.all_eq_true, pointL_length]
  exact ⟨by omega, fun x hx => elB_true.2 (this x hx)⟩
theorem listB_point {a : St} (hv : validB a = true) {w k : Nat} (hw : w ≤ 4) : listB a (pointL a.n.toNat w k) = true := by
  unfold listB
  rw [hv]
  have := point_els (validB_fine hv) w k
  simp only [Bool.true_and, Bool.and_eq_true, decide_eq_true_eq, List.all_eq_true, pointL_length]
  exact ⟨by omega, fun x hx => elB_true.2 (this x hx)⟩
theorem Own.rowPt {B : Nat} {w0 w : World} {hs : List (Nat × Obj)} (h : Own B w0 hs w) {i p size wd k : Nat} {T : TypeId} {fr : Nat × Nat} (hi : hs[i]? = some (p, .cells (ints (pArr size wd k)).toArray T fr)) (hw : wd ≤ 4) : Ints w (.slice (some ⟨p, 0, none⟩) wd 4) (pointL size wd k) := by
  have hl := pArr_length (size := size) (k := k) hw
  have := Own.rowTake h hi (xs := pArr size wd k) (L := 4) (k := wd) (cap := 4) (by
    show List.take 4 (ints (pArr size wd k)) = _
    rw [List.take_of_length_le (by rw [ints_length]; omega)]) (by omega) (by omega)
  rwa [pArr_take] at this
theorem addK_new {ks : List (List UInt8)} {s : List UInt8} (h : s ∉ ks) : addK ks s = ks ++ [s] := by unfold addK; rw [if_neg h]
theorem addK_old {ks : List (List UInt8)} {s : List UInt8} (h : ¬ s ∉ ks) : addK ks s = ks := by unfold addK; rw [if_pos (by simpa using h)]
def kindsI (a : St) (W : Int) : Int := if validB a && inB W 0 3 then ((dedup (kindsL a W.toNat)).length : Int) else -1
theorem dedup_take (l : List (List UInt8)) (k : Nat) : (dedup (l.take k)).length ≤ k := by
  have := dedup_len (l.take k) []
  rw [List.length_take, List.length_nil] at this
  unfold dedup; omega
theorem rows_point {rr : List RR} {size w k : Nat} (h0 : 0 < size) (h : rr.map RR.xs = listsL size w) (hk : k < rr.length) : (rr.getD k rd).xs = pointL size w k := by
  rw [← map_xs hk, h, lists_point h0 (by rw [← listsL_length size w, ← h]; simpa using hk)]
end Go.Wk
/-
  HOW MANY CLASSES. No program in sight.
-/
namespace Go.Wk
open Go.RowKit

theorem insS_mem {l : List Int} {n : Int} (h : l.Pairwise (· < ·)) (hn : n ∈ l) : insS l n = l :=
  sorted_ext (sorted_insS h) h fun x => by rw [mem_insS]; constructor; rintro (rfl | h1); exact hn; exact h1; exact .inr
theorem insS_new {n : Int} : ∀ {l : List Int}, n ∉ l → (insS l n).length = l.length + 1
  | [], _ => rfl
  | x :: l, h => by
    have h1 : x ≠ n := fun e => h (by simp [e])
    have h2 : n ∉ l := fun e => h (by simp [e])
    unfold insS
    rw [if_neg h1]
    split
    · rfl
    · rw [List.length_cons, insS_new h2, List.length_cons]
theorem cls_same {q : Nat → Nat → Bool} {k y : Nat} (hy : y < k) (h : q y k = true) : (clsN q (k + 1)).2 = (clsN q k).2 := by
  rcases cls_cases q k with ⟨z, h1, h2, h3⟩ | hno
  · rw [cls_old h1 h2 h3]
  · rw [hno y hy] at h; cases h
theorem cls_more {q : Nat → Nat → Bool} {k : Nat} (h : ∀ y, y < k → q y k = false) : (clsN q (k + 1)).2 = (clsN q k).2 + 1 := by rw [cls_new h]
def qP (a : St) (r w : Nat) (y x : Nat) : Bool := winB r a (pointL a.n.toNat w y) a (pointL a.n.toNat w x)
structure CountL (T : List (List UInt8)) (r : Nat) (a : St) (w k : Nat) (S : List Int) : Prop where
  cls : (clsN (qP a r w) k).2 = S.length
  sorted : S.Pairwise (· < ·)
  all : ∀ y : Nat, y < k → ∃ i : Nat, (i : Int) ∈ S ∧ Means T r a (pointL a.n.toNat w y) i
  only : ∀ m ∈ S, ∃ i y : Nat, m = i ∧ y < k ∧ Means T r a (pointL a.n.toNat w y) i
theorem CountL.zero {T : List (List UInt8)} {r : Nat} {a : St} {w : Nat} : CountL T r a w 0 [] := ⟨rfl, List.Pairwise.nil, fun y hy => absurd hy (by omega), fun m hm => by cases hm⟩
theorem CountL.len {T : List (List UInt8)} {r : Nat} {a : St} {w k : Nat} {S : List Int} (h : CountL T r a w k S) : S.length ≤ k := by rw [← h.cls]; exact (cls_small _ k).1
theorem CountL.step {T T' : List (List UInt8)} {r : Nat} {a : St} {w k i : Nat} {S : List Int} (h : CountL T r a w k S) (hp : T <+: T') (hT : T'.Nodup) (hm : Means T' r a (pointL a.n.toNat w k) i) : CountL T' r a w (k + 1) (insS S (i : Int)) := by
  have heq : ∀ (y j : Nat), Means T' r a (pointL a.n.toNat w y) j → (j = i ↔ qP a r w y k = true) := fun y j hj => by
    unfold qP
    rw [means_win hT r a (pointL a.n.toNat w y) a (pointL a.n.toNat w k) j i (by simp) hj hm, win_iff r a (pointL a.n.toNat w y) a (pointL a.n.toNat w k) (by simp)]
  refine ⟨?_, sorted_insS h.sorted, fun y hy => ?_, fun m hmem => ?_⟩
  · by_cases hi : (i : Int) ∈ S
    · rw [insS_mem h.sorted hi, ← h.cls]
      obtain ⟨j, y, e, hy, hM⟩ := h.only _ hi
      obtain rfl : i = j := by omega
      exact cls_same hy ((heq y i (hM.mono hp _ _ _ _)).1 rfl)
    · rw [insS_new hi, ← h.cls]
      refine cls_more fun y hy => ?_
      cases hq : qP a r w y k with
      | false => rfl
      | true =>
        obtain ⟨j, hj, hM⟩ := h.all y hy
        have := (heq y j (hM.mono hp _ _ _ _)).2 hq
        subst this
        exact absurd hj hi
  · rcases Nat.lt_or_ge y k with h1 | h1
    · obtain ⟨j, hj, hM⟩ := h.all y h1
      exact ⟨j, mem_insS.2 (.inr hj), hM.mono hp _ _ _ _⟩
    · obtain rfl : y = k := by omega
      exact ⟨i, mem_insS.2 (.inl rfl), hm⟩
  · rcases mem_insS.1 hmem with h1 | h1
    · exact ⟨i, k, h1, by omega, hm⟩
    · obtain ⟨j, y, e, hy, hM⟩ := h.only m h1
      exact ⟨j, y, e, by omega, hM.mono hp _ _ _ _⟩
def countC (a : St) (W R : Int) : Int := if validB a && inB W 0 2 && inB R 0 2 then ((clsN (qP a R.toNat W.toNat) (a.n.toNat ^ W.toNat)).2 : Int) else -1
theorem cls_congr {q q' : Nat → Nat → Bool} : ∀ {N : Nat}, (∀ y x, y < x → x < N → q y x = q' y x) → clsN q N = clsN q' N
  | 0, _ => rfl
  | N + 1, h => by
    have ih := cls_congr (N := N) (fun y x h1 h2 => h y x h1 (by omega))
    have : (List.range N).find? (fun y => q y N) = (List.range N).find? (fun y => q' y N) := find_congr fun y hy => h y N (List.mem_range.1 hy) (by omega)
    rw [clsN, clsN, this, ih]
/-! ### the greatest number -/
def maxTo (xs : List Int) : Nat → Int
  | 0 => xs.getD 0 0
  | k + 1 => if xs.getD (k + 1) 0 > maxTo xs k then xs.getD (k + 1) 0 else maxTo xs k
theorem maxTo_spec (xs : List Int) : ∀ k, (∀ i, i ≤ k → xs.getD i 0 ≤ maxTo xs k) ∧ ∃ i, i ≤ k ∧ maxTo xs k = xs.getD i 0
  | 0 => ⟨fun i hi => by obtain rfl : i = 0 := by omega
                         exact Int.le_refl _, 0, Nat.le_refl _, rfl⟩
  | k + 1 => by
    obtain ⟨h1, j, hj, h2⟩ := maxTo_spec xs k
    unfold maxTo
    split
    · refine ⟨fun i hi => ?_, k + 1, Nat.le_refl _, rfl⟩
      rcases Nat.lt_or_ge i (k + 1) with h3 | h3
      · have := h1 i (by omega); omega
      · obtain rfl : i = k + 1 := by omega
        exact Int.le_refl _
    · refine ⟨fun i hi => ?_, j, by omega, h2⟩
      rcases Nat.lt_or_ge i (k + 1) with h3 | h3
      · exact h1 i (by omega)
      · obtain rfl : i = k + 1 := by omega
        omega
theorem cls_has (q : Nat → Nat → Bool) : ∀ N, 0 < N → ∃ i, i < N ∧ (clsN q N).1.getD i 0 = ((clsN q N).2 : Int) - 1
  | 0, h => absurd h (by omega)
  | N + 1, _ => by
    have hl := cls_length q N
    rcases cls_cases q N with ⟨y, h1, h2, h3⟩ | hno
    · obtain ⟨i, hi, e⟩ := cls_has q N (by omega)
      refine ⟨i, by omega, ?_⟩
      rw [cls_old h1 h2 h3]
      dsimp only
      rw [getD_app1 (by omega)]; exact e
    · refine ⟨N, by omega, ?_⟩
      rw [cls_new hno]
      dsimp only
      have e := getD_app2 (l := (clsN q N).1) (z := ((clsN q N).2 : Int))
      rw [hl] at e
      rw [e]; omega
theorem max_cls (q : Nat → Nat → Bool) {N : Nat} (h : 0 < N) : maxTo (clsN q N).1 (N - 1) = ((clsN q N).2 : Int) - 1 := by
  obtain ⟨h1, j, hj, h2⟩ := maxTo_spec (clsN q N).1 (N - 1)
  obtain ⟨i, hi, e⟩ := cls_has q N h
  have h3 := h1 i (by omega)
  have hs := (cls_small q N).2 _ (show (clsN q N).1.getD j 0 ∈ (clsN q N).1 by rw [getD_at (by rw [cls_length]; omega)]; exact List.getElem_mem _)
  omega
theorem row_in {w : World} {I : TypeId} {rr : List RR} (hok : ∀ r ∈ rr, r.Ok) (hrow : ∀ r ∈ rr, w.heap[r.g]? = some (.cells r.cur I (0, 0))) {i : Nat} (hi : i < rr.length) : Ints w (rv (rr.getD i rd)) (rr.getD i rd).xs := by
  have hm : rr.getD i rd ∈ rr := by rw [getD_at hi]; exact List.getElem_mem _
  have hk := hok _ hm
  have hb := hrow _ hm
  refine ⟨_, (rr.getD i rd).cap, by rw [ints_length]; rfl, by rw [ints_length]; exact hk.len, fun h => (by cases h), fun ad had => ?_⟩
  injection had with had
  subst had
  refine ⟨rfl, fun j u hj => ?_⟩
  show w.cell? ⟨(rr.getD i rd).g, 0 + j, none⟩ = some u
  rw [Nat.zero_add]
  unfold World.cell?
  rw [hb]
  rw [← hk.vals, List.getElem?_take] at hj
  split at hj
  · simpa using hj
  · cases hj
theorem Own.rowsHas {B : Nat} {w0 w : World} {I : TypeId} {rr : List RR} {f hs : List (Nat × Obj)} (h : Own B w0 (f ++ (rowsB I rr ++ hs)) w) : ∀ r ∈ rr, w.heap[r.g]? = some (.cells r.cur I (0, 0)) := fun r hr =>
  (h.mem (x := (r.g, .cells r.cur I (0, 0))) (List.mem_append_right _ (List.mem_append_left _ (List.mem_map.2 ⟨r, hr, rfl⟩)))).2
end Go.Wk
