/-
  ARRAYS, MAPS OF TEXTS, ROWS OF ROWS, all lists of elements. No program in sight.
-/
import Derived.Test.YtmannilblelfjaaDoorPlain18
import Derived.MapKept
namespace Go.Wk
open Go.RowKit

section
variable {P : Program} {n : Nat} {C : World → Prop} {B : Nat} {w0 : World} {hs hs' : List (Nat × Obj)} {N R : Act → World → Prop} {X : List (Nat × (Act → World → Prop))} {e : Env} {ops : Array Oper} {l : List Oper} {o : Oper}
theorem OpQ.indexArr {t el : TypeId} {m : Nat} {x y : Operand} {b : Nat} {k : IntKind} {i : Int} (h : o.op = .indexAddr t x y) (hu : ∀ w, (underlying t).run P w = .ok (.array m el) w) (hz : ∀ w, (sizeOf el).run P w = .ok 1 w)
    (hx : opd e x = some (.pointer (some ⟨b, 0, none⟩))) (hy : opd e y = some (.int k i)) (h0 : 0 ≤ i) (h1 : i < m) : OpQ P n C e o (.pointer (some ⟨b, i.toNat, none⟩)) := OpQ.val fun A hF w => by
  unfold execOp; rw [h]; simp only [hF.opd hx, hF.opd hy]
  simp only [Instr.indexAt, Instr.sureAddr, asIntOf, Sem.run_bind, Sem.run_pure, hu, Result.andThen, hz, if_pos (And.intro h0 h1), Addr.add_lit, Nat.mul_one, Nat.zero_add]
theorem OpQ.sliceArr {t el : TypeId} {m : Nat} {x y : Operand} {b : Nat} {k : IntKind} {i : Int} (h : o.op = .slice t x none (some y) none) (hu : ∀ w, (underlying t).run P w = .ok (.array m el) w) (hz : ∀ w, (sizeOf el).run P w = .ok 1 w)
    (hx : opd e x = some (.pointer (some ⟨b, 0, none⟩))) (hy : opd e y = some (.int k i)) (h0 : 0 ≤ i) (h1 : i ≤ m) (hm : 0 < m) : OpQ P n C e o (.slice (some ⟨b, 0, none⟩) i.toNat m) := OpQ.val fun A hF w => by
  unfold execOp; rw [h]; simp only [hF.opd hx, Option.map_some, Option.map_none, hF.opd hy]
  have hi : 0 ≤ i ∧ i ≤ (m : Int) := ⟨h0, h1⟩
  simp only [Instr.sliceAt, Instr.sureAddr, Instr.sliceBounds, Instr.sliceBound, asIntOf, Sem.run_bind, Sem.run_pure, hu, hz, Result.andThen, if_pos hi]
  rw [if_neg (by omega)]
  simp [Addr.add]
theorem OpQ.max2 {x y : Operand} {ts : Array TypeId} {i j : Int} (h : o.op = .call ⟨.builtin .max, #[x, y], ts⟩) (hx : opd e x = some (.int .i64 i)) (hy : opd e y = some (.int .i64 j)) : OpQ P n C e o (.int .i64 (if j > i then j else i)) := OpQ.val fun A hF w => by
  unfold execOp; rw [h]
  simp only [resolve, invoke, BigFrame.builtin_max, List.map_toArray, List.map_cons, List.map_nil, hF.opd hx, hF.opd hy, Sem.run_bind, Sem.run_pure, Result.andThen, Builtin.max_, List.foldlM_cons, List.foldlM_nil, Builtin.max2]
/-! ### a map whose keys are texts, in the order of their coming -/
def entM (x : List UInt8 × Nat) : MapEntry := { key := str x.1, val := .bool true, born := x.2 }
def mapO (ks : List (List UInt8)) : Obj := .map ((ks.zipIdx.map entM).toArray) ks.length
def addK (ks : List (List UInt8)) (s : List UInt8) : List (List UInt8) := if s ∈ ks then ks else ks ++ [s]
theorem mapO_add (ks : List (List UInt8)) (s : List UInt8) : ((ks.zipIdx.map entM).toArray).push { key := str s, val := .bool true, born := ks.length } = (((ks ++ [s]).zipIdx.map entM).toArray) := by
  rw [List.zipIdx_append, List.map_append, List.push_toArray]
  simp [entM]
theorem str_inj {s t : List UInt8} (h : str s = str t) : s = t := by
  unfold str at h
  simp only [Value.string.injEq, ByteArray.mk.injEq, Array.mk.injEq] at h
  exact h
theorem Own.setObj {w : World} (h : Own B w0 hs w) {i p : Nat} {u : Obj} (hi : hs[i]? = some (p, u)) (u' : Obj) : Own B w0 (hs.set i (p, u')) { w with heap := w.heap.setIfInBounds p u' } := by
  obtain ⟨hB, hp⟩ := h.has i p u hi
  obtain ⟨hh, hne⟩ := MapKept.heap_set (o' := u') hp
  have hil : i < hs.length := (List.getElem?_eq_some_iff.1 hi).1
  refine Own.of_mem ⟨h.below.os, h.below.tape, h.below.output, by have := h.below.size; simpa using this, fun k hk => ?_⟩ (by have := h.base; simpa using this) (fun x hx => ?_) ?_
  · have := h.below.block k hk
    rw [← this]; exact hne k (by omega)
  · obtain ⟨j, hj⟩ := List.mem_iff_getElem?.1 hx
    rw [List.getElem?_set] at hj
    split at hj
    · rename_i e1; subst e1
      injection hj with hj; subst hj
      exact ⟨hB, hh⟩
    · rename_i e1
      obtain ⟨h1, h2⟩ := h.has j x.1 x.2 hj
      exact ⟨h1, by rw [← h2]; exact hne _ (fun e2 => h.apart j i x.1 x.2 p u hj hi (fun e3 => e1 e3.symm) e2)⟩
  · have : (hs.set i (p, u')).map Prod.fst = hs.map Prod.fst := by
      rw [List.map_set]
      refine set_same ?_
      rw [List.getElem?_map, hi]; rfl
    rw [this]; exact h.nodup
theorem Ll.makeMap {d t : Nat} (hd : Nat.blt d n = true) (hdst : o.dst = some d) (hg : wantE ops e o.guard = some true) (h : o.op = .makeMap t none)
    (k : ∀ p, B ≤ p → Ll P n (Own B w0 ((p, mapO []) :: hs)) ops l ((d, .map (some p)) :: e) N R X) : Ll P n (Own B w0 hs) ops (o :: l) e N R X :=
  Ll.turn hd hdst hg fun a w hF hw => ⟨.map (some w.heap.size), w.alloc (mapO []), by
    unfold execOp; rw [h]; rfl, fun a' ha => by
    have := k _ hw.base
    unfold Ll at this
    exact this a' _ ha (hw.alloc _)⟩
theorem run_mapSet_old {w : World} {t kt et r j clock : Nat} {es : Array MapEntry} {s : List UInt8} {v : Value} {e : MapEntry} (hm : P.underlying t = some (.map kt et)) (hkt : P.underlying kt = some .string) (hb : w.heap[r]? = some (.map es clock))
    (h1 : Instr.findNow .string (str s) es.toList 0 = some (some (0 + j, e.val))) (hj : es[j]? = some e) (h3 : e.key = str s) :
    (Instr.mapUpdate t (.map (some r)) (str s) v).run P w = .ok () { w with heap := w.heap.setIfInBounds r (.map (es.modify j fun e => { e with key := str s, val := v }) clock) } := by
  have hk : MapKept.IsKey .string (str s) := trivial
  simp [Instr.mapUpdate, run_underlying hm, MapKept.run_getObj_map hb, MapKept.run_checkKey hkt hk, MapKept.run_findKey hkt h1, hj, h3, MapKept.run_keyThatStays hk, MapKept.run_setObj_map _ hb, Result.andThen]
theorem Ll.mapSet {t kt et r : Nat} {x y z : Operand} {ks : List (List UInt8)} {s : List UInt8} (i : Nat) (hdst : o.dst = none) (hg : wantE ops e o.guard = some true) (h : o.op = .mapUpdate t x y z) (hm : P.underlying t = some (.map kt et)) (hkt : P.underlying kt = some .string)
    (hx : opd e x = some (.map (some r))) (hy : opd e y = some (str s)) (hz : opd e z = some (.bool true)) (hi : hs[i]? = some (r, mapO ks)) (k : Ll P n (Own B w0 (hs.set i (r, mapO (addK ks s)))) ops l e N R X) : Ll P n (Own B w0 hs) ops (o :: l) e N R X :=
  Ll.turnN hdst hg fun a w hF hw => by
    have hb : w.heap[r]? = some (.map ((ks.zipIdx.map entM).toArray) ks.length) := (hw.has i r _ hi).2
    have hk : MapKept.IsKey .string (str s) := trivial
    have hkey : ∀ x ∈ ((ks.zipIdx.map entM).toArray).toList, MapKept.IsKey .string x.key := fun x hx => by
      obtain ⟨y, _, rfl⟩ := List.mem_map.1 (show x ∈ ks.zipIdx.map entM from hx)
      trivial
    refine ⟨{ w with heap := w.heap.setIfInBounds r (mapO (addK ks s)) }, ?_, fun a' ha => ?_⟩
    · unfold execOp; rw [h]; simp only [hF.opd hx, hF.opd hy, hF.opd hz]
      have run : (Instr.mapUpdate t (.map (some r)) (str s) (.bool true)).run P w = .ok () { w with heap := w.heap.setIfInBounds r (mapO (addK ks s)) } := by
        rcases MapKept.findNow_spec hk ((ks.zipIdx.map entM).toArray).toList 0 hkey with ⟨h1, h2⟩ | ⟨j, e, h1, h2, h3⟩
        · have hns : s ∉ ks := fun hmem => by
            obtain ⟨j, hj⟩ := List.mem_iff_getElem?.1 hmem
            refine h2 (entM (s, j)) ?_ rfl
            simp only [List.mem_map]
            exact ⟨(s, j), List.mem_zipIdx_iff_getElem?.2 hj, rfl⟩
          have e1 : mapO (addK ks s) = .map (((ks.zipIdx.map entM).toArray).push { key := str s, val := .bool true, born := ks.length }) (ks.length + 1) := by
            unfold addK; rw [if_neg hns]; unfold mapO; rw [mapO_add]; simp
          rw [e1]
          simp [Instr.mapUpdate, run_underlying hm, MapKept.run_getObj_map hb, MapKept.run_checkKey hkt hk, MapKept.run_findKey hkt h1, MapKept.run_setObj_map _ hb, Result.andThen]
        · have hj : ((ks.zipIdx.map entM).toArray)[j]? = some e := by simpa using h2
          have h2' : (ks.zipIdx.map entM)[j]? = some e := by simpa using h2
          rw [List.getElem?_map] at h2'
          obtain ⟨y, hy1, hy2⟩ := Option.map_eq_some_iff.1 h2'
          have hys : y.1 = s := by rw [← hy2] at h3; exact str_inj h3
          have hs : s ∈ ks := by
            have := List.mem_zipIdx_iff_getElem?.1 (List.mem_of_getElem? hy1 : (y.1, y.2) ∈ _)
            rw [hys] at this; exact List.mem_of_getElem? this
          have hval : e.val = .bool true := by rw [← hy2]; rfl
          have e1 : mapO (addK ks s) = .map (((ks.zipIdx.map entM).toArray).modify j fun e => { e with key := str s, val := .bool true }) ks.length := by
            unfold addK; rw [if_pos hs]; unfold mapO
            congr 1
            apply Array.ext
            · simp
            · intro q hq1 hq2
              rw [Array.getElem_modify]
              split
              · rename_i ejq; subst ejq
                have hje : ((ks.zipIdx.map entM).toArray)[j] = e := by
                  rw [Array.getElem?_eq_getElem hq1] at hj; exact Option.some.inj hj
                rw [hje, ← h3, ← hval]
              · rfl
          rw [e1]
          exact run_mapSet_old hm hkt hb h1 hj h3
      simp only [Sem.run_bind, run, Result.andThen]
      rfl
    · unfold Ll at k
      exact k a' _ ha (hw.setObj hi _)
theorem OpQ.lenMap {t kt et r : Nat} {x : Operand} {ks : List (List UInt8)} (i : Nat) (h : o.op = .call ⟨.builtin .len, #[x], #[t]⟩) (hm : P.underlying t = some (.map kt et)) (hx : opd e x = some (.map (some r))) (hi : hs[i]? = some (r, mapO ks)) : OpQ P n (Own B w0 hs) e o (.int .i64 (ks.length : Int)) := by
  unfold OpQ
  intro a hF w hw
  have hb : w.heap[r]? = some (.map ((ks.zipIdx.map entM).toArray) ks.length) := (hw.has i r _ hi).2
  unfold Oper.quietAt execOp; rw [h]
  simp only [resolve, invoke, BigFrame.builtin_len, List.map_toArray, List.map_cons, List.map_nil, hF.opd hx, Sem.run_bind, Sem.run_pure, Result.andThen, Builtin.len_, run_underlying hm, List.getElem?_toArray, List.getElem?_cons_zero, MapKept.run_getObj_map hb]
  refine ⟨rfl, ?_⟩
  show Value.int .i64 _ = Value.int .i64 _
  simp
end
/-! ### rows of rows -/
structure RR where
  g : Nat
  cap : Nat
  cur : Array Value
  xs : List Int
def rd : RR := ⟨0, 0, #[], []⟩
def rv (r : RR) : Value := .slice (some ⟨r.g, 0, none⟩) r.xs.length r.cap
structure RR.Ok (r : RR) : Prop where
  size : r.cur.size = r.cap * 1
  len : r.xs.length ≤ r.cap
  vals : r.cur.toList.take r.xs.length = ints r.xs
def rowsB (I : TypeId) (rr : List RR) : List (Nat × Obj) := rr.map fun r => (r.g, .cells r.cur I (0, 0))
def rvs (rr : List RR) : List Value := rr.map rv
@[simp] theorem rvs_length (rr : List RR) : (rvs rr).length = rr.length := by simp [rvs]
theorem rvs_at {rr : List RR} {i : Nat} (h : i < rr.length) : (rvs rr)[i]? = some (rv (rr.getD i rd)) := by
  rw [rvs, List.getElem?_map, List.getElem?_eq_getElem h, getD_at h]; rfl
section
variable {B : Nat} {w0 : World} {hs : List (Nat × Obj)}
theorem Own.ofRows {w : World} {I : TypeId} {rr : List RR} (h : Own B w0 (rowsB I rr ++ hs) w) (hok : ∀ r ∈ rr, r.Ok) {i : Nat} (hi : i < rr.length) : Ints w (rv (rr.getD i rd)) (rr.getD i rd).xs := by
  have hm : rr.getD i rd ∈ rr := by rw [getD_at hi]; exact List.getElem_mem _
  have hk := hok _ hm
  have hb := h.mem (x := ((rr.getD i rd).g, .cells (rr.getD i rd).cur I (0, 0))) (List.mem_append_left _ (List.mem_map.2 ⟨_, hm, rfl⟩))
  refine ⟨_, (rr.getD i rd).cap, by rw [ints_length]; rfl, by rw [ints_length]; exact hk.len, fun h => (by cases h), fun ad had => ?_⟩
  injection had with had
  subst had
  refine ⟨rfl, fun j u hj => ?_⟩
  show w.cell? ⟨(rr.getD i rd).g, 0 + j, none⟩ = some u
  rw [Nat.zero_add]
  unfold World.cell?
  rw [hb.2]
  rw [← hk.vals, List.getElem?_take] at hj
  split at hj
  · simpa using hj
  · cases hj
theorem rows_more {w : World} {I : TypeId} {rr : List RR} {g cap : Nat} {cur : Array Value} {xs : List Int} {f R : List (Nat × Obj)} (h : Own B w0 ((g, .cells cur I (0, 0)) :: (f ++ (rowsB I rr ++ R))) w) : Own B w0 (f ++ (rowsB I (rr ++ [⟨g, cap, cur, xs⟩]) ++ R)) w := by
  refine h.perm ?_
  unfold rowsB
  rw [List.map_append, List.append_assoc]
  have h1 := perm_back [(g, Obj.cells cur I (0, 0))] f (rr.map (fun r => (r.g, Obj.cells r.cur I (0, 0))) ++ R)
  have h2 := perm_back [(g, Obj.cells cur I (0, 0))] (rr.map (fun r => (r.g, Obj.cells r.cur I (0, 0)))) R
  exact h1.trans (h2.append_left f)
end
structure RowsOk (rr : List RR) (u : Array Value) (c : Nat) : Prop where
  size : u.size = c * 1
  len : rr.length ≤ c
  vals : u.toList.take rr.length = rvs rr
  ok : ∀ r ∈ rr, r.Ok
theorem RowsOk.nil : RowsOk [] #[] 0 := ⟨rfl, Nat.le_refl 0, rfl, fun r hr => by cases hr⟩
theorem RowsOk.one (p : Nat) : RowsOk [⟨p, 0, #[], []⟩] #[.slice (some ⟨p, 0, none⟩) 0 0] 1 := ⟨rfl, Nat.le_refl 1, rfl, fun r hr => by rw [List.mem_singleton.1 hr]; exact ⟨rfl, Nat.le_refl 0, rfl⟩⟩
theorem RowsOk.add {rr : List RR} {u u' : Array Value} {c c' : Nat} {r : RR} (h : RowsOk rr u c) (hr : r.Ok) (hs : u'.size = c' * 1) (hl : rr.length + 1 ≤ c') (hv : u'.toList.take ((rr.length + 1) * 1) = u.toList.take (rr.length * 1) ++ [rv r]) : RowsOk (rr ++ [r]) u' c' := by
  refine ⟨hs, by simpa using hl, ?_, fun x hx => ?_⟩
  · have h1 := h.vals
    rw [Nat.mul_one, Nat.mul_one, h1] at hv
    rw [List.length_append, List.length_singleton, hv]; simp [rvs]
  · rcases List.mem_append.1 hx with h1 | h1
    · exact h.ok x h1
    · rw [List.mem_singleton.1 h1]; exact hr
theorem rows_forget {B : Nat} {w0 w : World} {I : TypeId} {nn rr : List RR} {x y : Nat × Obj} {hs : List (Nat × Obj)} (h : Own B w0 (x :: y :: (rowsB I nn ++ (rowsB I rr ++ hs))) w) : Own B w0 (x :: (rowsB I nn ++ hs)) w :=
  h.sub (List.Sublist.cons_cons _ (List.Sublist.cons _ ((List.Sublist.refl _).append (List.sublist_append_right _ _))))
/-! ### all lists -/
def nextL (size : Nat) (Ls : List (List Int)) : List (List Int) := Ls.flatMap fun l => (List.range size).map fun x : Nat => l ++ [(x : Int)]
def listsL (size : Nat) : Nat → List (List Int)
  | 0 => [[]]
  | w + 1 => nextL size (listsL size w)
def nextTo (size : Nat) (Ls : List (List Int)) (i k : Nat) : List (List Int) := nextL size (Ls.take i) ++ (List.range k).map fun x : Nat => (Ls.getD i []) ++ [(x : Int)]
theorem nextTo_zero (size : Nat) (Ls : List (List Int)) (i : Nat) : nextTo size Ls i 0 = nextL size (Ls.take i) := by simp [nextTo]
theorem nextTo_step (size : Nat) (Ls : List (List Int)) (i k : Nat) : nextTo size Ls i (k + 1) = nextTo size Ls i k ++ [(Ls.getD i []) ++ [(k : Int)]] := by
  simp [nextTo, List.range_succ, List.append_assoc]
theorem nextTo_end {size : Nat} {Ls : List (List Int)} {i : Nat} (h : i < Ls.length) : nextTo size Ls i size = nextL size (Ls.take (i + 1)) := by
  unfold nextTo nextL
  rw [List.take_succ_eq_append_getElem h, List.flatMap_append, getD_at h]
  simp
theorem nextL_length (size : Nat) : ∀ Ls : List (List Int), (nextL size Ls).length = Ls.length * size
  | [] => by simp [nextL]
  | l :: Ls => by
    have := nextL_length size Ls
    simp only [nextL, List.flatMap_cons, List.length_append, List.length_map, List.length_range, List.length_cons] at this ⊢
    rw [this, Nat.add_mul, Nat.one_mul]; omega
theorem listsL_length (size : Nat) : ∀ w, (listsL size w).length = size ^ w
  | 0 => rfl
  | w + 1 => by rw [listsL, nextL_length, listsL_length size w, Nat.pow_succ]
theorem pow8 {size w : Nat} (h : size ≤ 8) (hw : w ≤ 3) : size ^ w ≤ 512 :=
  Nat.le_trans (Nat.pow_le_pow_left h w) (Nat.le_trans (Nat.pow_le_pow_right (by decide) hw) (by decide))
def pointL (size : Nat) : Nat → Nat → List Int
  | 0, _ => []
  | w + 1, k => pointL size w (k / size) ++ [((k % size : Nat) : Int)]
@[simp] theorem pointL_length (size : Nat) : ∀ w k, (pointL size w k).length = w
  | 0, _ => rfl
  | w + 1, k => by simp [pointL, pointL_length size w]
theorem nextL_at {size : Nat} (h0 : 0 < size) : ∀ {Ls : List (List Int)} {k : Nat}, k < Ls.length * size → (nextL size Ls).getD k [] = Ls.getD (k / size) [] ++ [((k % size : Nat) : Int)]
  | [], k, h => by simp at h
  | l :: Ls, k, h => by
    have key : nextL size (l :: Ls) = ((List.range size).map fun x : Nat => l ++ [(x : Int)]) ++ nextL size Ls := rfl
    rw [key]
    rcases Nat.lt_or_ge k size with h1 | h1
    · rw [List.getD_eq_getElem?_getD, List.getElem?_append_left (by simpa using h1), List.getElem?_map, List.getElem?_range h1, Nat.div_eq_of_lt h1, Nat.mod_eq_of_lt h1]
      rfl
    · have h2 : k - size < Ls.length * size := by
        rw [List.length_cons, Nat.add_mul, Nat.one_mul] at h; omega
      have ih := nextL_at h0 h2
      rw [List.getD_eq_getElem?_getD, List.getElem?_append_right (by simpa using h1), ← List.getD_eq_getElem?_getD]
      simp only [List.length_map, List.length_range]
      rw [ih, Nat.div_eq_sub_div h0 h1, Nat.mod_eq_sub_mod h1]
      rfl
theorem lists_point {size : Nat} (h0 : 0 < size) : ∀ {w k : Nat}, k < size ^ w → (listsL size w).getD k [] = pointL size w k
  | 0, k, h => by obtain rfl : k = 0 := by simpa using h
                  rfl
  | w + 1, k, h => by
    rw [listsL, nextL_at h0 (by rw [listsL_length, ← Nat.pow_succ]; exact h), lists_point h0 (by rw [Nat.pow_succ] at h; exact Nat.div_lt_of_lt_mul (by rw [Nat.mul_comm]; exact h)), pointL]
theorem point_els {a : St} (h : a.Fine) : ∀ (w k : Nat), a.Els (pointL a.n.toNat w k)
  | 0, _ => fun x hx => by cases hx
  | w + 1, k => fun x hx => by
    have h1 := h.lo
    rcases List.mem_append.1 hx with h2 | h2
    · exact point_els h w _ x h2
    · rw [List.mem_singleton.1 h2]
      have := Nat.mod_lt k (show 0 < a.n.toNat by omega)
      exact ⟨by omega, by omega⟩
/-- the array: the point, and noughts -/
def pArr (size w k : Nat) : List Int := pointL size w k ++ List.replicate (4 - w) 0
theorem pArr_length {size w k : Nat} (h : w ≤ 4) : (pArr size w k).length = 4 := by simp [pArr]; omega
theorem pArr_take {size w k : Nat} : (pArr size w k).take w = pointL size w k := List.take_left' (pointL_length size w k)
/-- texts, each once -/
def dedup (l : List (List UInt8)) : List (List UInt8) := l.foldl addK []
theorem dedup_step {l : List (List UInt8)} {i : Nat} (h : i < l.length) : dedup (l.take (i + 1)) = addK (dedup (l.take i)) (l.getD i []) := by
  rw [List.take_succ_eq_append_getElem h, dedup, List.foldl_append, getD_at h]; rfl
theorem addK_len (ks : List (List UInt8)) (s : List UInt8) : (addK ks s).length ≤ ks.length + 1 := by unfold addK; split <;> simp
theorem dedup_len : ∀ (l : List (List UInt8)) (ks : List (List UInt8)), (l.foldl addK ks).length ≤ ks.length + l.length
  | [], ks => by simp
  | s :: l, ks => by
    have h1 := dedup_len l (addK ks s)
    have h2 := addK_len ks s
    rw [List.foldl_cons, List.length_cons]; omega
end Go.Wk
