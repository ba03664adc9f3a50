/-
  BLOCKS IN ANY ORDER, an append to nothing, quotients and remainders, bytes and texts, a table of descriptions. No program in sight.
-/
import Derived.Test.YtmannilblelfjaaDoorPlain12
import Derived.Laws.IdiomStrings
import Derived.Laws.Tables
import Derived.Great.BuildSlice
import Derived.IntWalk
namespace Go.Wk
open Go.RowKit

section
variable {P : Program} {n : Nat} {C : World → Prop} {B : Nat} {w0 : World} {hs hs' : List (Nat × Obj)} {N R : Act → World → Prop} {X : List (Nat × (Act → World → Prop))} {e : Env} {ops : Array Oper} {l : List Oper} {o : Oper}
theorem Own.nodup {w : World} (h : Own B w0 hs w) : (hs.map Prod.fst).Nodup := by
  rw [List.Nodup, List.pairwise_iff_getElem]
  intro i j hi hj hij
  rw [List.getElem_map, List.getElem_map]
  rw [List.length_map] at hi hj
  exact h.apart i j _ _ _ _ (List.getElem?_eq_getElem hi) (List.getElem?_eq_getElem hj) (by omega)
theorem Own.of_mem {w : World} (hb : Below B w0 w) (hB : B ≤ w.heap.size) (h : ∀ x ∈ hs, B ≤ x.1 ∧ w.heap[x.1]? = some x.2) (hn : (hs.map Prod.fst).Nodup) : Own B w0 hs w := by
  refine ⟨hb, hB, fun i p o hi => h (p, o) (List.mem_of_getElem? hi), fun i j p o q u hi hj hij hpq => ?_⟩
  obtain ⟨li, ei⟩ := List.getElem?_eq_some_iff.1 hi
  obtain ⟨lj, ej⟩ := List.getElem?_eq_some_iff.1 hj
  have hn' := List.pairwise_iff_getElem.1 hn
  rcases Nat.lt_trichotomy i j with h1 | h1 | h1
  · have := hn' i j (by simpa using li) (by simpa using lj) h1
    rw [List.getElem_map, List.getElem_map, ei, ej] at this
    exact this hpq
  · exact hij h1
  · have := hn' j i (by simpa using lj) (by simpa using li) h1
    rw [List.getElem_map, List.getElem_map, ei, ej] at this
    exact this hpq.symm
theorem Own.mem {w : World} (h : Own B w0 hs w) {x : Nat × Obj} (hx : x ∈ hs) : B ≤ x.1 ∧ w.heap[x.1]? = some x.2 := by
  obtain ⟨i, hi⟩ := List.mem_iff_getElem?.1 hx
  exact h.has i x.1 x.2 hi
theorem Own.perm {w : World} (h : Own B w0 hs w) (p : hs.Perm hs') : Own B w0 hs' w :=
  Own.of_mem h.below h.base (fun _ hx => h.mem (p.mem_iff.2 hx)) ((p.map Prod.fst).nodup_iff.1 h.nodup)
theorem Own.drop {w : World} {f : List (Nat × Obj)} (h : Own B w0 (f ++ hs) w) : Own B w0 hs w :=
  Own.of_mem h.below h.base (fun _ hx => h.mem (List.mem_append_right f hx)) (List.Pairwise.sublist ((List.sublist_append_right f hs).map Prod.fst) h.nodup)
/-- blocks go behind others -/
theorem perm_back (f g r : List (Nat × Obj)) : (f ++ (g ++ r)).Perm (g ++ (f ++ r)) := by
  rw [← List.append_assoc, ← List.append_assoc]
  exact List.Perm.append_right r List.perm_append_comm
/-- append to nothing -/
theorem Ll.appendNil {t el size d : Nat} {x y : Operand} {src : Option Addr} {m c : Nat} (E : Elem P t el size) (news : List Value) (hd : Nat.blt d n = true) (hdst : o.dst = some d) (hg : wantE ops e o.guard = some true)
    (h : o.op = .call ⟨.builtin .append, #[x, y], #[t, t]⟩) (hx : opd e x = some (.slice none 0 0)) (hy : opd e y = some (.slice src m c)) (hm : 0 < m) (hsrc : src ≠ none)
    (hl : news.length = m * size) (hnews : ∀ w, Own B w0 hs w → ∀ ad, src = some ad → ∀ j u, news[j]? = some u → w.cell? (ad.add j) = some u) (hb : m ≤ 2199023255552)
    (k : ∀ g' cap' cur', B ≤ g' → cur'.size = cap' * size → m ≤ cap' → cur'.toList.take (m * size) = news →
      Ll P n (Own B w0 ((g', .cells cur' el (0, 0)) :: hs)) ops l ((d, .slice (some ⟨g', 0, none⟩) m cap') :: e) N R X) : Ll P n (Own B w0 hs) ops (o :: l) e N R X :=
  Ll.turn hd hdst hg fun a w hF hw => by
    obtain ⟨ti, z, hinfo, hz, rfl, hby, hzs, h0⟩ := E.info
    cases src with
    | none => exact absurd rfl hsrc
    | some ad =>
      have h63' : ¬ (9223372036854775807 < (m : Int)) := by omega
      have h48' : ¬ (281474976710656 < Builtin.nextslicecap m 0 * ti.bytes) := by have := nextcap (need := m) (old := 0) (by omega) hby hb; omega
      have hc := run_firstCells_some (P := P) w.drew ti.size m ad m c news hl (by simpa using hnews w hw ad rfl)
      have h00 : (Builtin.firstCells ti.size 0 (.slice none 0 0)).run P w.drew = .ok #[] w.drew := by simp [Builtin.firstCells]
      have hr : (Builtin.append_ #[t, t] o.type #[.slice none 0 0, .slice (some ad) m c]).run P w = .ok (.slice (some ⟨w.heap.size, 0, none⟩) m (grownCap w m 0 el))
          (w.drew.alloc (.cells (news.toArray ++ Builtin.zeroCells z.cells (grownCap w m 0 el - m)) el)) := by
        simp [Builtin.append_, run_underlying E.slice, sizeOf, typeInfo, zeroValue, hinfo, hz, Builtin.lenOf, h63', h48', Question.forced, hc, h00, newRow, grownCap]
        exact fun h => absurd h (by omega)
      have hge := grownCap_ge w m 0 el
      refine ⟨.slice (some ⟨w.heap.size, 0, none⟩) m (grownCap w m 0 el), w.drew.alloc (.cells (news.toArray ++ Builtin.zeroCells z.cells (grownCap w m 0 el - m)) el (0, 0)), ?_, fun a' ha => ?_⟩
      · unfold execOp; rw [h]
        simp only [resolve, invoke, BigFrame.builtin_append, List.map_toArray, List.map_cons, List.map_nil, hF.opd hx, hF.opd hy, Sem.run_bind, Sem.run_pure, Result.andThen, hr]
      · have := k w.heap.size (grownCap w m 0 el) (news.toArray ++ Builtin.zeroCells z.cells (grownCap w m 0 el - m)) hw.base (by
          simp only [Array.size_append, List.size_toArray, size_zeroCells, hzs, hl, ← Nat.add_mul]; congr 1; omega) hge (by
          rw [Array.toList_append]; exact List.take_left' hl)
        unfold Ll at this
        exact this a' _ ha (hw.drew.alloc _)
/-! ### quotients, remainders, conversions -/
theorem OpQ.quo {t t' : TypeId} {x y : Operand} {i j : Int} (h : o.op = .binOp .quo t x y t') (hx : opd e x = some (.int .i64 i)) (hy : opd e y = some (.int .i64 j)) (h0 : 0 ≤ i) (h1 : i < 9223372036854775808) (hj : 0 < j) : OpQ P n C e o (.int .i64 (i / j)) := OpQ.val fun a hf w => by
  have hq : 0 ≤ i / j := Int.ediv_nonneg h0 (by omega)
  have hq2 : i / j ≤ i := Int.ediv_le_self _ h0
  unfold execOp; rw [h]; simp only [hf.opd hx, hf.opd hy]
  simp only [go_sem, Op.intDiv, if_neg (show ¬ j = 0 by omega), Sem.run_bind, Sem.run_pure, Result.andThen, Int.tdiv_eq_ediv_of_nonneg h0]
  rw [IntWalk.i64_in _ (by omega)]
theorem OpQ.rem {t t' : TypeId} {x y : Operand} {i j : Int} (h : o.op = .binOp .rem t x y t') (hx : opd e x = some (.int .i64 i)) (hy : opd e y = some (.int .i64 j)) (h0 : 0 ≤ i) (hj : 0 < j) : OpQ P n C e o (.int .i64 (i % j)) := OpQ.val fun a hf w => by
  unfold execOp; rw [h]; simp only [hf.opd hx, hf.opd hy]
  simp only [go_sem, Op.intDiv, if_neg (show ¬ j = 0 by omega), Sem.run_bind, Sem.run_pure, Result.andThen, Int.tmod_eq_emod_of_nonneg h0]
theorem OpQ.convInt {src dst : TypeId} {x : Operand} {k : IntKind} {i j : Int} (kd : IntKind) (h : o.op = .convert src dst x) {ds : TypeDesc} (hs : P.underlying src = some ds) (hd : P.underlying dst = some (.int kd)) (hx : opd e x = some (.int k i)) (hw : kd.wrap i = j) :
    OpQ P n C e o (.int kd j) := OpQ.val fun a hf w => by
  have hk : P.intKind dst = kd := by unfold Program.intKind; rw [hd]
  unfold execOp; rw [h]; simp only [hf.opd hx, Sem.run_bind]
  rw [run_convert_int (P := P) w src dst k i (by rw [hs]; rfl) (by rw [hk]; exact hd), hk, hw]
  rfl
theorem OpQ.byteStr {src dst el p : Nat} {x : Operand} {b : UInt8} {v : Int} {T : TypeId} (i : Nat) (h : o.op = .convert src dst x) (hs : P.underlying src = some (.slice el)) (he : P.underlying el = some (.int .u8)) (hd : P.underlying dst = some .string)
    (hx : opd e x = some (.slice (some ⟨p, 0, none⟩) 1 1)) (hi : hs'[i]? = some (p, .cells #[.int .u8 v] T (0, 0))) (hv : v = (b.toNat : Int)) : OpQ P n (Own B w0 hs') e o (str [b]) := by
  unfold OpQ
  intro a hF w hw
  subst hv
  unfold Oper.quietAt execOp; rw [h]; simp only [hF.opd hx, Sem.run_bind]
  have hb := run_convert_bytes_back (P := P) w src dst el ⟨p, 0, none⟩ 1 [b] hs he hd (fun j hj => by
    obtain rfl : j = 0 := by simpa using hj
    rw [Addr.add_zero', hw.cell hi]; rfl)
  simp only [List.length_singleton] at hb
  rw [hb]
  exact ⟨rfl, rfl⟩
theorem OpQ.build {t : TypeId} {xs : List Operand} {vs : List Value} {cells : Array Value} (h : o.op = .build t (idx 0 xs).toArray) (hx : opds e xs = some vs) (hb : P.built t (idx 0 vs) = some cells) : OpQ P n C e o (.agg cells) := OpQ.val fun a hF w => by
  have hmap : List.map (fun x => (x.1, a.eval x.2)) (idx 0 xs) = idx 0 vs := by
    rw [← opds_spec hF xs vs hx]
    exact idx_map a.eval 0 xs
  unfold execOp; rw [h]
  simp only [List.map_toArray, hmap, Sem.run_bind]
  rw [run_build w t _ cells hb]
  rfl
theorem fill2 (arr : Array Value) (h : arr.size = 2) {u v : Value} : Instr.fill (fun i => some (i * 2, 2)) arr [(0, .agg #[u, v])] = some #[u, v] := by
  obtain ⟨l⟩ := arr
  match l, h with
  | [x, y], _ => rfl
/-- a slice of one struct of two cells -/
theorem Ll.slice2 {t el d : Nat} {x : Operand} {u v : Value} (E : Elem P t el 2) (hd : Nat.blt d n = true) (hdst : o.dst = some d) (hg : wantE ops e o.guard = some true)
    (h : o.op = .buildSlice t 1 #[(0, x)]) (hx : opd e x = some (.agg #[u, v]))
    (kk : ∀ g, B ≤ g → Ll P n (Own B w0 ((g, .cells #[u, v] el (0, 0)) :: hs)) ops l ((d, .slice (some ⟨g, 0, none⟩) 1 1) :: e) N R X) : Ll P n (Own B w0 hs) ops (o :: l) e N R X :=
  Ll.turn hd hdst hg fun a w hF hw => by
    obtain ⟨ti, z, hinfo, hz, hsz, hby, hzs, h0⟩ := E.info
    refine ⟨_, w.alloc (.cells #[u, v] el (0, 0)), ?_, fun a' ha => by
      have := kk _ hw.base
      unfold Ll at this
      exact this a' _ ha (hw.alloc _)⟩
    have := run_buildSlice (P := P) w t el 1 #[(0, .agg #[u, v])] #[u, v] ti z E.slice hinfo hz (by rw [hsz]; decide) (by rw [hsz]; decide) (by rw [hsz]; exact fill2 _ (by simp))
    unfold execOp; rw [h]
    simp only [List.map_toArray, List.map_cons, List.map_nil, hF.opd hx, Sem.run_bind]
    rw [this]
    rfl
/-- a call that turns the blocks of the call's own; its value hangs on the letter, too -/
theorem Ll.callGet {σ : Type} {ok : σ → Prop} {hs' : σ → List (Nat × Obj)} {v : σ → Value} {d : Nat} {f : FuncId} {xs : List Operand} {ts : Array TypeId} {vs : List Value} (hd : Nat.blt d n = true) (hdst : o.dst = some d) (hg : wantE ops e o.guard = some true) (h : o.op = .call ⟨.value (.func f), xs.toArray, ts⟩)
    (hcf : ∀ args w, (callFunc f args).run P w = .ok (.enter f args) w) (hx : opds e xs = some vs)
    (hc : ∀ w, Own B w0 hs w → Calls P f vs.toArray w fun en w' => ∃ s, en = .returned (v s) ∧ ok s ∧ Own B w0 (hs' s) w')
    (k : ∀ s, ok s → Ll P n (Own B w0 (hs' s)) ops l ((d, v s) :: e) N R X) : Ll P n (Own B w0 hs) ops (o :: l) e N R X :=
  Ll.call hd hdst hg h hcf hx fun w hw => (hc w hw).mono fun en w' ⟨s, h1, h2, h3⟩ => ⟨v s, h1, fun a' ha => by
    have := k s h2
    unfold Ll at this
    exact this a' w' ha h3⟩
end
/-! ### the table -/
abbrev Bkt := Option (Nat × Nat × Nat × Array Value)
def bktV : Bkt → Value
  | none => .slice none 0 0
  | some (g, m, cap, _) => .slice (some ⟨g, 0, none⟩) m cap
def bktB (E : TypeId) : Bkt → Option (Nat × Obj)
  | none => none
  | some (g, _, _, cur) => some (g, .cells cur E (0, 0))
def blks (E : TypeId) (bs : List Bkt) : List (Nat × Obj) := bs.filterMap (bktB E)
theorem blks_put {E : TypeId} {g m cap : Nat} {cur : Array Value} : ∀ {bs : List Bkt} {k : Nat}, k < bs.length → (blks E (bs.set k (some (g, m, cap, cur)))).Perm ((g, .cells cur E (0, 0)) :: blks E (bs.set k none))
  | [], k, h => by simp at h
  | b :: bs, 0, _ => by simp only [List.set_cons_zero, blks, List.filterMap_cons, bktB]; exact List.Perm.refl _
  | b :: bs, k + 1, h => by
    have ih := blks_put (E := E) (g := g) (m := m) (cap := cap) (cur := cur) (bs := bs) (k := k) (by simpa using h)
    simp only [List.set_cons_succ, blks, List.filterMap_cons] at ih ⊢
    cases bktB E b with
    | none => exact ih
    | some z => exact (ih.cons z).trans (List.Perm.swap _ _ _)
theorem blks_take {E : TypeId} {g m cap : Nat} {cur : Array Value} {bs : List Bkt} {k : Nat} (hk : k < bs.length) (h : bs.getD k none = some (g, m, cap, cur)) : (blks E bs).Perm ((g, .cells cur E (0, 0)) :: blks E (bs.set k none)) := by
  have := blks_put (E := E) (g := g) (m := m) (cap := cap) (cur := cur) hk
  rw [getD_at hk] at h
  rwa [← h, List.set_getElem_self] at this
theorem blks_none {bs : List Bkt} {k : Nat} (hk : k < bs.length) (h : bs.getD k none = none) : bs.set k none = bs := by
  rw [getD_at hk] at h
  rw [← h, List.set_getElem_self]
structure TabOk (bs : List Bkt) (T : List (List UInt8)) : Prop where
  len : bs.length = 997
  nodup : T.Nodup
  no : ∀ k, k < 997 → bs.getD k none = none → ents T k = []
  yes : ∀ k, k < 997 → ∀ g m cap cur, bs.getD k none = some (g, m, cap, cur) → m = (ents T k).length ∧ cur.size = cap * 2 ∧ m ≤ cap ∧ cur.toList.take (m * 2) = flatE (ents T k)
theorem TabOk.new : TabOk (List.replicate 997 none) [] := by
  refine ⟨List.length_replicate, List.nodup_nil, fun k hk h => rfl, fun k hk g m cap cur h => ?_⟩
  have hl : k < (List.replicate 997 (none : Bkt)).length := by rw [List.length_replicate]; exact hk
  rw [getD_at hl, List.getElem_replicate] at h; cases h
theorem flatE_add (es : List (List UInt8 × Nat)) (x : List UInt8 × Nat) : flatE (es ++ [x]) = flatE es ++ entC x := by simp [flatE]
theorem flatE_length (es : List (List UInt8 × Nat)) : (flatE es).length = es.length * 2 := by
  induction es with
  | nil => rfl
  | cons x es ih => simp only [flatE, List.flatMap_cons, List.length_append, List.length_cons] at ih ⊢; simp only [ih, entC, List.length_cons, List.length_nil]; omega
theorem flatE_at : ∀ {es : List (List UInt8 × Nat)} {j : Nat}, j < es.length → (flatE es)[j * 2]? = some (str (es.getD j ([], 0)).1) ∧ (flatE es)[j * 2 + 1]? = some (.int .i64 ((es.getD j ([], 0)).2 : Int))
  | [], j, h => by simp at h
  | x :: es, 0, _ => ⟨rfl, rfl⟩
  | x :: es, j + 1, h => by
    have ih := flatE_at (es := es) (j := j) (by simpa using h)
    have e1 : (j + 1) * 2 = (j * 2) + 1 + 1 := by omega
    simp only [flatE, List.flatMap_cons, entC, List.cons_append, List.nil_append] at ih ⊢
    rw [e1]
    simpa using ih
theorem TabOk.add {bs : List Bkt} {T : List (List UInt8)} (h : TabOk bs T) {s : List UInt8} (hs : s ∉ T) {g m cap : Nat} {cur : Array Value} (hm : m = (ents T (hashS s)).length + 1) (hc : cur.size = cap * 2) (hle : m ≤ cap)
    (ht : cur.toList.take (m * 2) = flatE (ents T (hashS s)) ++ entC (s, T.length)) : TabOk (bs.set (hashS s) (some (g, m, cap, cur))) (T ++ [s]) := by
  have hk := hash_lt s
  have hl := h.len
  refine ⟨by simp [hl], ?_, fun k hk' hn => ?_, fun k hk' g' m' cap' cur' hy => ?_⟩
  · rw [List.nodup_append]
    exact ⟨h.nodup, by simp, fun x hx y hy e => hs (by rw [List.mem_singleton.1 hy] at e; exact e ▸ hx)⟩
  · rw [List.getD_eq_getElem?_getD, List.getElem?_set] at hn
    split at hn
    · rw [if_pos (by omega)] at hn; cases hn
    · rename_i hne
      rw [ents_add, if_neg hne, List.append_nil]
      exact h.no k hk' (by rw [List.getD_eq_getElem?_getD]; exact hn)
  · rw [List.getD_eq_getElem?_getD, List.getElem?_set] at hy
    split at hy
    · rename_i he
      subst he
      rw [if_pos (by omega)] at hy
      simp only [Option.getD_some, Option.some.injEq, Prod.mk.injEq] at hy
      obtain ⟨rfl, rfl, rfl, rfl⟩ := hy
      rw [ents_add, if_pos rfl]
      exact ⟨by rw [hm]; simp, hc, hle, by rw [ht, flatE_add]⟩
    · rename_i hne
      rw [ents_add, if_neg hne, List.append_nil]
      exact h.yes k hk' _ _ _ _ (by rw [List.getD_eq_getElem?_getD]; exact hy)
theorem bkt_at {bs : List Bkt} {b : Bkt} {k : Nat} (h : k < bs.length) (hb : bs.getD k none = b) : (bs.map bktV)[k]? = some (bktV b) := by
  rw [List.getElem?_map, List.getElem?_eq_getElem h, ← hb, getD_at h]; rfl
theorem ent_at {cur : Array Value} {m j : Nat} {es : List (List UInt8 × Nat)} (ht : cur.toList.take (m * 2) = flatE es) (hm : m = es.length) (hj : j < m) :
    cur.toList[j * 2]? = some (str (es.getD j ([], 0)).1) ∧ cur.toList[j * 2 + 1]? = some (.int .i64 ((es.getD j ([], 0)).2 : Int)) := by
  have h := flatE_at (es := es) (j := j) (by omega)
  rw [← ht, List.getElem?_take, List.getElem?_take, if_pos (by omega), if_pos (by omega)] at h
  exact h
theorem set_bkt {bs : List Bkt} {k : Nat} {b : Bkt} : (bs.map bktV).toArray.setIfInBounds k (bktV b) = ((bs.set k b).map bktV).toArray := by
  rw [List.setIfInBounds_toArray, List.map_set]
theorem new_bkts : List.replicate 997 (Value.slice none 0 0) = (List.replicate 997 (none : Bkt)).map bktV := by rw [List.map_replicate]; rfl
end Go.Wk
