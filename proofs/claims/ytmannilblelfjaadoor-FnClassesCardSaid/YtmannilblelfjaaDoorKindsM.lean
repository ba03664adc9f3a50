/-
  Walks: ways counted.
-/
import Derived.Test.YtmannilblelfjaaDoorCore4
import Derived.Test.YtmannilblelfjaaDoorDrawsA
import Derived.Test.YtmannilblelfjaaDoorBase
namespace Go.Proofs.YtmannilblelfjaaDoor
open Go.RowKit Go.Wk
set_option linter.unusedSimpArgs false

set_option maxHeartbeats 400000 in
/-- impl.bitOf -/
theorem bitOf_ok (b : Bool) (w : World) :
    Calls Tryd.prog 141 [bo_ b].toArray w fun en w' => en = .returned (str (if b then [49] else [48])) ∧ Below w.heap.size w w' := by
 refine fnStart (n := 4) (e := [(0, bo_ b)]) Tryd.func141 rfl rfl rfl rfl Ends.both ?_
 refine Wk.seq ?_
 refine Wk.regionQ ?_
 refine Lq.op (v := str ([])) rfl rfl rfl (OpQ.assign rfl rfl) ?_
 refine Lq.nil ?_
 refine Kt.sel [0] [_] rfl ?_
 refine Wk.seq ?_
 refine Wk.seq ?_
 refine Wk.regionQ ?_
 refine Lq.run 1 rfl ?_
 refine Lq.nil ?_
 refine Kt.sel [3] [_] rfl ?_
 refine Wk.cond (b := b) rfl (fun h3 => ?_) (fun h3 => ?_)
 ·
  refine Wk.seq ?_
  refine Wk.regionQ ?_
  refine Lq.op (v := str ([49])) rfl rfl rfl (OpQ.assign rfl rfl) ?_
  refine Lq.nil ?_
  refine Kt.sel [2] [_] rfl ?_
  refine Wk.ret (Kt.end1 rfl rfl fun w' hw => ?_)
  -- ret 0: str ([49])
  exact ⟨by rw [‹b = _›]; rfl, hw.below⟩
 ·
  refine Wk.skip ?_
  refine Kt.sel [] [] rfl ?_
  refine Wk.seq ?_
  refine Wk.regionQ ?_
  refine Lq.op (v := str ([48])) rfl rfl rfl (OpQ.assign rfl rfl) ?_
  refine Lq.nil ?_
  refine Kt.sel [2] [_] rfl ?_
  refine Wk.ret (Kt.end1 rfl rfl fun w' hw => ?_)
  -- ret 1: str ([48])
  exact ⟨by rw [‹b = _›]; rfl, hw.below⟩

set_option maxHeartbeats 400000 in
/-- impl.nameOf -/
theorem nameOf_ok (i : Nat) (w : World) (hi : i < 4) :
    Calls Tryd.prog 167 [i6_ ((i : Int))].toArray w fun en w' => en = .returned (str (nameS i)) ∧ Below w.heap.size w w' := by
 refine fnStart (n := 7) (e := [(0, i6_ ((i : Int)))]) Tryd.func167 rfl rfl rfl rfl Ends.both ?_
 refine Wk.seq ?_
 refine Wk.regionQ ?_
 refine Lq.op (v := str ([])) rfl rfl rfl (OpQ.assign rfl rfl) ?_
 refine Lq.nil ?_
 refine Kt.sel [0] [_] rfl ?_
 refine Wk.seq ?_
 refine Wk.regionQ ?_
 refine Lq.run 2 rfl ?_
 refine Lq.op rfl rfl rfl (OpQ.add rfl rfl rfl (by omega) (by omega)) ?_
 refine Lq.op (v := str (nameS i)) rfl rfl rfl (OpQ.cast (congrArg str (slice_name i)) (OpQ.sliceStr rfl Tryd.underlying9 rfl rfl rfl (by omega) (by omega) (by first | omega | (simp; omega)))) ?_
 refine Lq.run 1 rfl ?_
 refine Lq.nil ?_
 refine Kt.sel [2] [_] rfl ?_
 refine Wk.ret (Kt.end1 rfl rfl fun w' hw => ?_)
 -- ret 0: str (nameS i)
 exact ⟨ret_s (by first | rfl | (simp_all; done) | (simp_all; omega)), hw.below⟩

set_option maxHeartbeats 400000 in
/-- spec.l3Atom -/
theorem l3Atom_ok (b : Bool) (s : List UInt8) (w : World) (hs : s.length ≤ 1048576) :
    Calls Tryd.prog 168 [bo_ b, str s].toArray w fun en w' => en = .returned (str (signS b s)) ∧ Below w.heap.size w w' := by
 refine fnStart (n := 9) (e := [(0, bo_ b), (1, str s)]) Tryd.func168 rfl rfl rfl rfl Ends.both ?_
 refine Wk.seq ?_
 refine Wk.regionQ ?_
 refine Lq.op (v := str ([])) rfl rfl rfl (OpQ.assign rfl rfl) ?_
 refine Lq.nil ?_
 refine Kt.sel [0, 1] [_, _] rfl ?_
 refine Wk.seq ?_
 refine Wk.seq ?_
 refine Wk.regionQ ?_
 refine Lq.run 1 rfl ?_
 refine Lq.nil ?_
 refine Kt.sel [1, 5] [_, _] rfl ?_
 refine Wk.cond (b := b) rfl (fun h5 => ?_) (fun h5 => ?_)
 ·
  refine Wk.seq ?_
  refine Wk.regionQ ?_
  refine Lq.run 2 rfl ?_
  refine Lq.nil ?_
  refine Kt.sel [4] [_] rfl ?_
  refine Wk.ret (Kt.end1 rfl rfl fun w' hw => ?_)
  -- ret 0: str s
  exact ⟨by rw [‹b = _›]; rfl, hw.below⟩
 ·
  refine Wk.skip ?_
  refine Kt.sel [1] [_] rfl ?_
  refine Wk.seq ?_
  refine Wk.regionQ ?_
  refine Lq.run 1 rfl ?_
  refine Lq.op rfl rfl rfl (OpQ.sadd rfl rfl rfl (by first | omega | (simp only [List.length_append, List.length_cons, List.length_nil]; omega))) ?_
  refine Lq.run 1 rfl ?_
  refine Lq.nil ?_
  refine Kt.sel [4] [_] rfl ?_
  refine Wk.ret (Kt.end1 rfl rfl fun w' hw => ?_)
  -- ret 1: str (([33]) ++ s)
  exact ⟨by rw [‹b = _›]; rfl, hw.below⟩

set_option maxHeartbeats 400000 in
/-- spec.l3Facts -/
theorem l3Facts_ok (a : St) (va : Value) (xs : List Int) (m : Nat) (fs : List (List UInt8)) (w : World) (ha : a.Fine) (hva : Ints w va xs) (hA : a.Els xs) (hm : xs.length = m + 1) (hm4 : m < 4) (hfs : (factL a xs m).map signed = fs) :
    Calls Tryd.prog 143 [vS a, va].toArray w fun en w' => ∃ v, en = .returned v ∧ Below w.heap.size w w' ∧ NewRow w.heap.size 9 1 w' v fs.length (strs fs) := by
 refine fnStart (n := 99) (e := [(0, vS a), (1, va)]) Tryd.func143 rfl rfl rfl rfl Ends.both ?_
 have hnm := nameS_length hm4
 refine Wk.seq ?_
 refine Wk.region ?_
 refine Ll.box (v := vS a) rfl rfl rfl rfl rfl fun p2 hp2 => ?_
 show Ll _ _ (Own _ _ [_]) _ _ ((2, pt_ p2) :: _) _ _ _
 refine Ll.run 1 rfl ?_
 refine Ll.nil ?_
 refine Kt.sel [1, 2] [_, _] rfl ?_
 refine Wk.seq ?_
 refine Wk.regionQ ?_
 refine Lq.run 1 rfl ?_
 refine Lq.op (v := i6_ (((m + 1) : Int))) rfl rfl rfl (OpQ.lenRow rfl Tryd.runUnderlying25 rfl ((ints_length _).trans hm) (fun w1 hw1 => Row.own hva hw1)) ?_
 refine Lq.op (v := i6_ ((m : Int))) rfl rfl rfl (OpQ.cast (by simp) (OpQ.sub rfl rfl rfl (by omega) (by omega))) ?_
 refine Lq.run 1 rfl ?_
 refine Lq.nil ?_
 refine Kt.sel [1, 2, 5] [_, _, _] rfl ?_
 refine Wk.seq ?_
 refine Wk.regionQ ?_
 refine Lq.run 2 rfl ?_
 refine Lq.op rfl rfl rfl (OpQ.add rfl rfl rfl (by omega) (by omega)) ?_
 refine Lq.op (v := str (nameS m)) rfl rfl rfl (OpQ.cast (congrArg str (slice_name m)) (OpQ.sliceStr rfl Tryd.underlying9 rfl rfl rfl (by omega) (by omega) (by first | omega | (simp; omega)))) ?_
 refine Lq.run 1 rfl ?_
 refine Lq.nil ?_
 refine Kt.sel [1, 2, 5, 6] [_, _, _, _] rfl ?_
 refine Wk.seq ?_
 refine Wk.regionO [(0, true), (1, true), (2, true), (3, true), (4, true), (6, true), (7, true), (9, true), (10, true), (11, true), (12, true), (13, true), (14, true), (15, true), (16, true), (17, true), (19, true), (20, true), (21, true), (22, true), (5, false), (8, false), (18, false), (23, false), (24, false), (25, true)] Base.mixed (fun _ h => h.drawn) (by kernel_rfl) ?_
 refine Ld.take rfl rfl rfl rfl rfl (OpQ.loadBox (cs := #[i6_ a.n, str a.set, str a.rel]) 0 rfl Tryd.isAgg24 rfl rfl Tryd.sizeOf24) (fun _ h => h) ?_
 refine Ld.run 2 rfl (fun _ h => h) ?_
 refine Ld.take (v := .pointer (some (sAt va ((m : Int))))) rfl rfl rfl rfl rfl (OpQ.atRow rfl Tryd.runUnderlying25 Tryd.sizeOf3 rfl rfl (by omega) (by rw [ints_length]; omega) (fun w1 hw1 => Row.own hva hw1)) (fun _ h => h) ?_
 refine Ld.take (v := i6_ (xs.getD (((m : Int)).toNat) 0)) rfl rfl rfl rfl rfl (OpQ.load1 rfl Tryd.isAgg3 rfl (fun w1 hw1 => Ints.cell (Row.own hva hw1) (by omega) (by omega))) (fun _ h => h) ?_
 refine Ld.run 1 rfl (fun _ h => h) ?_
 refine Ld.take rfl rfl rfl rfl rfl (OpQ.sadd rfl rfl rfl (by first | omega | (simp only [List.length_append, List.length_cons, List.length_nil]; omega))) (fun _ h => h) ?_
 refine Ld.take rfl rfl rfl rfl rfl (OpQ.loadBox (cs := #[i6_ a.n, str a.set, str a.rel]) 0 rfl Tryd.isAgg24 rfl rfl Tryd.sizeOf24) (fun _ h => h) ?_
 refine Ld.run 2 rfl (fun _ h => h) ?_
 refine Ld.take (v := .pointer (some (sAt va ((m : Int))))) rfl rfl rfl rfl rfl (OpQ.atRow rfl Tryd.runUnderlying25 Tryd.sizeOf3 rfl rfl (by omega) (by rw [ints_length]; omega) (fun w1 hw1 => Row.own hva hw1)) (fun _ h => h) ?_
 refine Ld.take (v := i6_ (xs.getD (((m : Int)).toNat) 0)) rfl rfl rfl rfl rfl (OpQ.load1 rfl Tryd.isAgg3 rfl (fun w1 hw1 => Ints.cell (Row.own hva hw1) (by omega) (by omega))) (fun _ h => h) ?_
 refine Ld.run 2 rfl (fun _ h => h) ?_
 refine Ld.take (v := .pointer (some (sAt va ((m : Int))))) rfl rfl rfl rfl rfl (OpQ.atRow rfl Tryd.runUnderlying25 Tryd.sizeOf3 rfl rfl (by omega) (by rw [ints_length]; omega) (fun w1 hw1 => Row.own hva hw1)) (fun _ h => h) ?_
 refine Ld.take (v := i6_ (xs.getD (((m : Int)).toNat) 0)) rfl rfl rfl rfl rfl (OpQ.load1 rfl Tryd.isAgg3 rfl (fun w1 hw1 => Ints.cell (Row.own hva hw1) (by omega) (by omega))) (fun _ h => h) ?_
 refine Ld.run 1 rfl (fun _ h => h) ?_
 refine Ld.take rfl rfl rfl rfl rfl (OpQ.sadd rfl rfl rfl (by first | omega | (simp only [List.length_append, List.length_cons, List.length_nil]; omega))) (fun _ h => h) ?_
 refine Ld.run 1 rfl (fun _ h => h) ?_
 refine Ld.take rfl rfl rfl rfl rfl (OpQ.sadd rfl rfl rfl (by first | omega | (simp only [List.length_append, List.length_cons, List.length_nil]; omega))) (fun _ h => h) ?_
 refine Ld.loud rfl ?_
 refine Ll.op (v := bo_ (a.inSet (xs.getD (((m : Int)).toNat) 0))) rfl rfl rfl (OpQ.call rfl Tryd.call136 rfl Own.stable (fun w1 hw1 => l1Set_ok a (xs.getD (((m : Int)).toNat) 0) w1 ha (by first | assumption | exact St.Els.at (by assumption) (by omega) (by omega)))) ?_
 refine Ll.nil (Ld.joint (fun _ h => h) ?_)
 refine Ld.loud rfl ?_
 refine Ll.op (v := str (signS (a.inSet (xs.getD (((m : Int)).toNat) 0)) (([80]) ++ (nameS m)))) rfl rfl rfl (OpQ.call rfl Tryd.call168 rfl Own.stable (fun w1 hw1 => l3Atom_ok (a.inSet (xs.getD (((m : Int)).toNat) 0)) (([80]) ++ (nameS m)) w1 (by simp [nameS_length, *]))) ?_
 refine Ll.nil (Ld.joint (fun _ h => h) ?_)
 refine Ld.loud rfl ?_
 refine Ll.op (v := bo_ (a.inRel (xs.getD (((m : Int)).toNat) 0) (xs.getD (((m : Int)).toNat) 0))) rfl rfl rfl (OpQ.call rfl Tryd.call137 rfl Own.stable (fun w1 hw1 => l1Rel_ok a (xs.getD (((m : Int)).toNat) 0) (xs.getD (((m : Int)).toNat) 0) w1 ha (by first | assumption | exact St.Els.at (by assumption) (by omega) (by omega)) (by first | assumption | exact St.Els.at (by assumption) (by omega) (by omega)))) ?_
 refine Ll.nil (Ld.joint (fun _ h => h) ?_)
 refine Ld.loud rfl ?_
 refine Ll.op (v := str (signS (a.inRel (xs.getD (((m : Int)).toNat) 0) (xs.getD (((m : Int)).toNat) 0)) ((([69]) ++ (nameS m)) ++ (nameS m)))) rfl rfl rfl (OpQ.call rfl Tryd.call168 rfl Own.stable (fun w1 hw1 => l3Atom_ok (a.inRel (xs.getD (((m : Int)).toNat) 0) (xs.getD (((m : Int)).toNat) 0)) ((([69]) ++ (nameS m)) ++ (nameS m)) w1 (by simp [nameS_length, *]))) ?_
 refine Ll.nil (Ld.joint (fun _ h => h) ?_)
 refine Ld.loud rfl ?_
 refine Ll.slice (xs := [.tmp 25, .tmp 40]) (vs := [str (signS (a.inSet (xs.getD (((m : Int)).toNat) 0)) (([80]) ++ (nameS m))), str (signS (a.inRel (xs.getD (((m : Int)).toNat) 0) (xs.getD (((m : Int)).toNat) 0)) ((([69]) ++ (nameS m)) ++ (nameS m)))]) Base.elem52 rfl rfl rfl rfl rfl rfl (by decide) rfl fun p41 hp41 => ?_
 refine Ll.nil (Ld.joint (fun _ h => h.tail) ?_)
 refine Ld.run 1 rfl (fun _ h => h.tail) ?_
 refine Ld.nil ?_
 refine Kt.sel [1, 2, 5, 6, 7] [_, _, _, _, _] rfl ?_
 refine Wk.seq ?_
 refine Wk.seq ?_
 refine Wk.regionQ ?_
 refine Lq.run 1 rfl ?_
 refine Lq.nil ?_
 refine Kt.sel [1, 2, 5, 6, 7, 8] [_, _, _, _, _, _] rfl ?_
 refine Wk.block ?_
 refine Wk.loop (σ := Nat × Nat × Nat × Array Value) (fun ⟨k, g, c, cur⟩ => (k ≤ m) ∧ w.heap.size ≤ g ∧ cur.size = c * 1 ∧ ((headL a xs m ++ moreL a xs m k).map signed).length ≤ c ∧ cur.toList.take (((headL a xs m ++ moreL a xs m k).map signed).length * 1) = strs ((headL a xs m ++ moreL a xs m k).map signed)) (fun ⟨k, g, c, cur⟩ => [(1, va), (2, pt_ p2), (5, i6_ ((m : Int))), (6, str (nameS m)), (7, sl_ g (((headL a xs m ++ moreL a xs m k).map signed).length) c), (8, i6_ ((k : Int)))]) (fun ⟨k, g, c, cur⟩ => Own w.heap.size w [bk_ g cur 9, bk_ p2 #[i6_ a.n, str a.set, str a.rel] 24]) (fun ⟨k, g, c, cur⟩ => m - k) ((0, p41, 2, #[str (signS (a.inSet (xs.getD ((m : Int)).toNat 0)) ([80] ++ nameS m)), str (signS (a.inRel (xs.getD ((m : Int)).toNat 0) (xs.getD ((m : Int)).toNat 0)) (([69] ++ nameS m) ++ nameS m))])) ⟨by omega, hp41, rfl, Nat.le_refl 2, rfl⟩ (Sub.sel [1, 2, 5, 6, 7, 8] rfl) (fun _ h => h) ?_
 rintro ⟨k, g, c, cur⟩ ⟨hk, hg, hc, hl, ht⟩
 dsimp only
 refine Wk.seq ?_
 refine Wk.seq ?_
 refine Wk.regionQ ?_
 refine Lq.run 3 rfl ?_
 refine Lq.nil ?_
 refine Kt.sel [1, 2, 5, 6, 7, 8, 44] [_, _, _, _, _, _, _] rfl ?_
 refine Wk.cond (b := decide (((k : Int)) < ((m : Int)))) rfl (fun h44 => ?_) (fun h44 => ?_)
 ·
  replace h44 := of_decide_eq_true h44
  have hnk : (nameS k).length = 1 := nameS_length (by omega)
  refine Wk.skip ?_
  refine Kt.sel [1, 2, 5, 6, 7, 8] [_, _, _, _, _, _] rfl ?_
  refine Wk.seq ?_
  refine Wk.block ?_
  refine Wk.seq ?_
  refine Wk.regionQ ?_
  refine Lq.run 2 rfl ?_
  refine Lq.op rfl rfl rfl (OpQ.add rfl rfl rfl (by omega) (by omega)) ?_
  refine Lq.op (v := str (nameS k)) rfl rfl rfl (OpQ.cast (congrArg str (slice_name k)) (OpQ.sliceStr rfl Tryd.underlying9 rfl rfl rfl (by omega) (by omega) (by first | omega | (simp; omega)))) ?_
  refine Lq.run 1 rfl ?_
  refine Lq.nil ?_
  refine Kt.sel [1, 2, 5, 6, 7, 8, 9] [_, _, _, _, _, _, _] rfl ?_
  refine Wk.regionS (S := Own w.heap.size w [bk_ p2 #[i6_ a.n, str a.set, str a.rel] 24]) [(0, true), (1, true), (2, true), (3, true), (4, true), (5, true), (6, true), (7, true), (8, true), (9, true), (10, true), (11, true), (12, true), (13, true), (15, true), (16, true), (17, true), (18, true), (19, true), (20, true), (21, true), (22, true), (23, true), (25, true), (26, true), (27, true), (28, true), (30, true), (31, true), (32, true), (33, true), (34, true), (35, true), (36, true), (37, true), (38, true), (40, true), (41, true), (42, true), (43, true), (14, false), (24, false), (29, false), (39, false), (44, false), (45, false), (46, false), (47, true)] Base.mixed (fun _ h => h.drawn) (by kernel_rfl) ?_
  refine Ld.run 3 rfl (fun _ h => h.tail) ?_
  refine Ld.take (v := .pointer (some (sAt va ((k : Int))))) rfl rfl rfl rfl rfl (OpQ.atRow rfl Tryd.runUnderlying25 Tryd.sizeOf3 rfl rfl (by omega) (by rw [ints_length]; omega) (fun w1 hw1 => Row.own hva hw1)) (fun _ h => h.tail) ?_
  refine Ld.take (v := i6_ (xs.getD (((k : Int)).toNat) 0)) rfl rfl rfl rfl rfl (OpQ.load1 rfl Tryd.isAgg3 rfl (fun w1 hw1 => Ints.cell (Row.own hva hw1) (by omega) (by omega))) (fun _ h => h.tail) ?_
  refine Ld.run 2 rfl (fun _ h => h.tail) ?_
  refine Ld.take (v := .pointer (some (sAt va ((m : Int))))) rfl rfl rfl rfl rfl (OpQ.atRow rfl Tryd.runUnderlying25 Tryd.sizeOf3 rfl rfl (by omega) (by rw [ints_length]; omega) (fun w1 hw1 => Row.own hva hw1)) (fun _ h => h.tail) ?_
  refine Ld.take (v := i6_ (xs.getD (((m : Int)).toNat) 0)) rfl rfl rfl rfl rfl (OpQ.load1 rfl Tryd.isAgg3 rfl (fun w1 hw1 => Ints.cell (Row.own hva hw1) (by omega) (by omega))) (fun _ h => h.tail) ?_
  refine Ld.run 2 rfl (fun _ h => h.tail) ?_
  refine Ld.take rfl rfl rfl rfl rfl (OpQ.sadd rfl rfl rfl (by first | omega | (simp only [List.length_append, List.length_cons, List.length_nil]; omega))) (fun _ h => h.tail) ?_
  refine Ld.run 1 rfl (fun _ h => h.tail) ?_
  refine Ld.take rfl rfl rfl rfl rfl (OpQ.sadd rfl rfl rfl (by first | omega | (simp only [List.length_append, List.length_cons, List.length_nil]; omega))) (fun _ h => h.tail) ?_
  refine Ld.take rfl rfl rfl rfl rfl (OpQ.loadBox (cs := #[i6_ a.n, str a.set, str a.rel]) 0 rfl Tryd.isAgg24 rfl rfl Tryd.sizeOf24) (fun _ h => h.tail) ?_
  refine Ld.run 2 rfl (fun _ h => h.tail) ?_
  refine Ld.take (v := .pointer (some (sAt va ((k : Int))))) rfl rfl rfl rfl rfl (OpQ.atRow rfl Tryd.runUnderlying25 Tryd.sizeOf3 rfl rfl (by omega) (by rw [ints_length]; omega) (fun w1 hw1 => Row.own hva hw1)) (fun _ h => h.tail) ?_
  refine Ld.take (v := i6_ (xs.getD (((k : Int)).toNat) 0)) rfl rfl rfl rfl rfl (OpQ.load1 rfl Tryd.isAgg3 rfl (fun w1 hw1 => Ints.cell (Row.own hva hw1) (by omega) (by omega))) (fun _ h => h.tail) ?_
  refine Ld.run 2 rfl (fun _ h => h.tail) ?_
  refine Ld.take (v := .pointer (some (sAt va ((m : Int))))) rfl rfl rfl rfl rfl (OpQ.atRow rfl Tryd.runUnderlying25 Tryd.sizeOf3 rfl rfl (by omega) (by rw [ints_length]; omega) (fun w1 hw1 => Row.own hva hw1)) (fun _ h => h.tail) ?_
  refine Ld.take (v := i6_ (xs.getD (((m : Int)).toNat) 0)) rfl rfl rfl rfl rfl (OpQ.load1 rfl Tryd.isAgg3 rfl (fun w1 hw1 => Ints.cell (Row.own hva hw1) (by omega) (by omega))) (fun _ h => h.tail) ?_
  refine Ld.run 1 rfl (fun _ h => h.tail) ?_
  refine Ld.take rfl rfl rfl rfl rfl (OpQ.sadd rfl rfl rfl (by first | omega | (simp only [List.length_append, List.length_cons, List.length_nil]; omega))) (fun _ h => h.tail) ?_
  refine Ld.run 1 rfl (fun _ h => h.tail) ?_
  refine Ld.take rfl rfl rfl rfl rfl (OpQ.sadd rfl rfl rfl (by first | omega | (simp only [List.length_append, List.length_cons, List.length_nil]; omega))) (fun _ h => h.tail) ?_
  refine Ld.take rfl rfl rfl rfl rfl (OpQ.loadBox (cs := #[i6_ a.n, str a.set, str a.rel]) 0 rfl Tryd.isAgg24 rfl rfl Tryd.sizeOf24) (fun _ h => h.tail) ?_
  refine Ld.run 2 rfl (fun _ h => h.tail) ?_
  refine Ld.take (v := .pointer (some (sAt va ((m : Int))))) rfl rfl rfl rfl rfl (OpQ.atRow rfl Tryd.runUnderlying25 Tryd.sizeOf3 rfl rfl (by omega) (by rw [ints_length]; omega) (fun w1 hw1 => Row.own hva hw1)) (fun _ h => h.tail) ?_
  refine Ld.take (v := i6_ (xs.getD (((m : Int)).toNat) 0)) rfl rfl rfl rfl rfl (OpQ.load1 rfl Tryd.isAgg3 rfl (fun w1 hw1 => Ints.cell (Row.own hva hw1) (by omega) (by omega))) (fun _ h => h.tail) ?_
  refine Ld.run 2 rfl (fun _ h => h.tail) ?_
  refine Ld.take (v := .pointer (some (sAt va ((k : Int))))) rfl rfl rfl rfl rfl (OpQ.atRow rfl Tryd.runUnderlying25 Tryd.sizeOf3 rfl rfl (by omega) (by rw [ints_length]; omega) (fun w1 hw1 => Row.own hva hw1)) (fun _ h => h.tail) ?_
  refine Ld.take (v := i6_ (xs.getD (((k : Int)).toNat) 0)) rfl rfl rfl rfl rfl (OpQ.load1 rfl Tryd.isAgg3 rfl (fun w1 hw1 => Ints.cell (Row.own hva hw1) (by omega) (by omega))) (fun _ h => h.tail) ?_
  refine Ld.run 1 rfl (fun _ h => h.tail) ?_
  refine Ld.take rfl rfl rfl rfl rfl (OpQ.sadd rfl rfl rfl (by first | omega | (simp only [List.length_append, List.length_cons, List.length_nil]; omega))) (fun _ h => h.tail) ?_
  refine Ld.run 1 rfl (fun _ h => h.tail) ?_
  refine Ld.take rfl rfl rfl rfl rfl (OpQ.sadd rfl rfl rfl (by first | omega | (simp only [List.length_append, List.length_cons, List.length_nil]; omega))) (fun _ h => h.tail) ?_
  refine Ld.loud rfl ?_
  refine Ll.op (v := str (signS (decide ((xs.getD (((k : Int)).toNat) 0) = (xs.getD (((m : Int)).toNat) 0))) ((([61]) ++ (nameS k)) ++ (nameS m)))) rfl rfl rfl (OpQ.call rfl Tryd.call168 rfl Own.stable (fun w1 hw1 => l3Atom_ok (decide ((xs.getD (((k : Int)).toNat) 0) = (xs.getD (((m : Int)).toNat) 0))) ((([61]) ++ (nameS k)) ++ (nameS m)) w1 (by simp [nameS_length, *]))) ?_
  refine Ll.nil (Ld.joint (fun _ h => h.tail) ?_)
  refine Ld.loud rfl ?_
  refine Ll.op (v := bo_ (a.inRel (xs.getD (((k : Int)).toNat) 0) (xs.getD (((m : Int)).toNat) 0))) rfl rfl rfl (OpQ.call rfl Tryd.call137 rfl Own.stable (fun w1 hw1 => l1Rel_ok a (xs.getD (((k : Int)).toNat) 0) (xs.getD (((m : Int)).toNat) 0) w1 ha (by first | assumption | exact St.Els.at (by assumption) (by omega) (by omega)) (by first | assumption | exact St.Els.at (by assumption) (by omega) (by omega)))) ?_
  refine Ll.nil (Ld.joint (fun _ h => h.tail) ?_)
  refine Ld.loud rfl ?_
  refine Ll.op (v := str (signS (a.inRel (xs.getD (((k : Int)).toNat) 0) (xs.getD (((m : Int)).toNat) 0)) ((([69]) ++ (nameS k)) ++ (nameS m)))) rfl rfl rfl (OpQ.call rfl Tryd.call168 rfl Own.stable (fun w1 hw1 => l3Atom_ok (a.inRel (xs.getD (((k : Int)).toNat) 0) (xs.getD (((m : Int)).toNat) 0)) ((([69]) ++ (nameS k)) ++ (nameS m)) w1 (by simp [nameS_length, *]))) ?_
  refine Ll.nil (Ld.joint (fun _ h => h.tail) ?_)
  refine Ld.loud rfl ?_
  refine Ll.op (v := bo_ (a.inRel (xs.getD (((m : Int)).toNat) 0) (xs.getD (((k : Int)).toNat) 0))) rfl rfl rfl (OpQ.call rfl Tryd.call137 rfl Own.stable (fun w1 hw1 => l1Rel_ok a (xs.getD (((m : Int)).toNat) 0) (xs.getD (((k : Int)).toNat) 0) w1 ha (by first | assumption | exact St.Els.at (by assumption) (by omega) (by omega)) (by first | assumption | exact St.Els.at (by assumption) (by omega) (by omega)))) ?_
  refine Ll.nil (Ld.joint (fun _ h => h.tail) ?_)
  refine Ld.loud rfl ?_
  refine Ll.op (v := str (signS (a.inRel (xs.getD (((m : Int)).toNat) 0) (xs.getD (((k : Int)).toNat) 0)) ((([69]) ++ (nameS m)) ++ (nameS k)))) rfl rfl rfl (OpQ.call rfl Tryd.call168 rfl Own.stable (fun w1 hw1 => l3Atom_ok (a.inRel (xs.getD (((m : Int)).toNat) 0) (xs.getD (((k : Int)).toNat) 0)) ((([69]) ++ (nameS m)) ++ (nameS k)) w1 (by simp [nameS_length, *]))) ?_
  refine Ll.nil (Ld.joint (fun _ h => h.tail) ?_)
  refine Ld.loud rfl ?_
  refine Ll.slice (xs := [.tmp 65, .tmp 80, .tmp 95]) (vs := [str (signS (decide ((xs.getD (((k : Int)).toNat) 0) = (xs.getD (((m : Int)).toNat) 0))) ((([61]) ++ (nameS k)) ++ (nameS m))), str (signS (a.inRel (xs.getD (((k : Int)).toNat) 0) (xs.getD (((m : Int)).toNat) 0)) ((([69]) ++ (nameS k)) ++ (nameS m))), str (signS (a.inRel (xs.getD (((m : Int)).toNat) 0) (xs.getD (((k : Int)).toNat) 0)) ((([69]) ++ (nameS m)) ++ (nameS k)))]) Base.elem52 rfl rfl rfl rfl rfl rfl (by decide) rfl fun p96 hp96 => ?_
  refine Ll.nil (Ld.joint (fun _ h => h.tail.tail) ?_)
  refine Ld.loud rfl ?_
  refine Ll.appendStrs (xs := (headL a xs m ++ moreL a xs m k).map signed) (ys := ([signS (decide ((xs.getD (((k : Int)).toNat) 0) = (xs.getD (((m : Int)).toNat) 0))) ((([61]) ++ (nameS k)) ++ (nameS m)), signS (a.inRel (xs.getD (((k : Int)).toNat) 0) (xs.getD (((m : Int)).toNat) 0)) ((([69]) ++ (nameS k)) ++ (nameS m)), signS (a.inRel (xs.getD (((m : Int)).toNat) 0) (xs.getD (((k : Int)).toNat) 0)) ((([69]) ++ (nameS m)) ++ (nameS k))] : List (List UInt8))) Base.elem52 1 rfl rfl rfl rfl rfl rfl rfl hc hl (by simpa using ht) (fun w1 hw1 => (Own.row hw1 (i := 0) rfl (n := 3) (cap := 3) (vs := strs ([signS (decide ((xs.getD (((k : Int)).toNat) 0) = (xs.getD (((m : Int)).toNat) 0))) ((([61]) ++ (nameS k)) ++ (nameS m)), signS (a.inRel (xs.getD (((k : Int)).toNat) 0) (xs.getD (((m : Int)).toNat) 0)) ((([69]) ++ (nameS k)) ++ (nameS m)), signS (a.inRel (xs.getD (((m : Int)).toNat) 0) (xs.getD (((k : Int)).toNat) 0)) ((([69]) ++ (nameS m)) ++ (nameS k))] : List (List UInt8))) rfl rfl (by decide))) ((((headL a xs m ++ moreL a xs m k).map signed) ++ (([signS (decide ((xs.getD (((k : Int)).toNat) 0) = (xs.getD (((m : Int)).toNat) 0))) ((([61]) ++ (nameS k)) ++ (nameS m)), signS (a.inRel (xs.getD (((k : Int)).toNat) 0) (xs.getD (((m : Int)).toNat) 0)) ((([69]) ++ (nameS k)) ++ (nameS m)), signS (a.inRel (xs.getD (((m : Int)).toNat) 0) (xs.getD (((k : Int)).toNat) 0)) ((([69]) ++ (nameS m)) ++ (nameS k))] : List (List UInt8)))).length) (by first | (simp; done) | (simp; omega)) (by first | (simp; done) | (simp; omega) | omega) fun p97 cap97 cur97 hp97 hcp97 hlp97 htp97 => ?_
  show Ll _ _ (Own _ _ [_, _, _]) _ _ ((97, sl_ p97 (((((headL a xs m ++ moreL a xs m k).map signed) ++ (([signS (decide ((xs.getD (((k : Int)).toNat) 0) = (xs.getD (((m : Int)).toNat) 0))) ((([61]) ++ (nameS k)) ++ (nameS m)), signS (a.inRel (xs.getD (((k : Int)).toNat) 0) (xs.getD (((m : Int)).toNat) 0)) ((([69]) ++ (nameS k)) ++ (nameS m)), signS (a.inRel (xs.getD (((m : Int)).toNat) 0) (xs.getD (((k : Int)).toNat) 0)) ((([69]) ++ (nameS m)) ++ (nameS k))] : List (List UInt8)))).length)) cap97) :: _) _ _ _
  refine Ll.nil (Ld.joint (fun _ h => h.tail.tail) ?_)
  refine Ld.run 1 rfl (fun _ h => h.tail.tail) ?_
  refine Ld.nil ?_
  refine Kt.sel [1, 2, 5, 6, 7, 8] [_, _, _, _, _, _] rfl ?_
  refine Wk.regionQ ?_
  refine Lq.run 1 rfl ?_
  refine Lq.op rfl rfl rfl (OpQ.add rfl rfl rfl (by omega) (by omega)) ?_
  refine Lq.run 1 rfl ?_
  refine Lq.nil ?_
  refine Kt.again ((k + 1, p97, cap97, cur97)) ⟨(by omega), (by omega), hcp97, (by rw [more_step]; exact hlp97), (by rw [more_step]; exact htp97)⟩ (by omega) (Sub.cons rfl (Sub.cons rfl (Sub.cons rfl (Sub.cons rfl (Sub.cons (by rw [more_step]; rfl) (Sub.sel [8] rfl)))))) (fun _ h => h.tail)
 ·
  replace h44 := of_decide_eq_false h44
  refine Wk.exit rfl ?_
  refine Kt.sel [7] [_] rfl ?_
  refine Wk.seq ?_
  refine Wk.regionQ ?_
  refine Lq.run 2 rfl ?_
  refine Lq.nil ?_
  refine Kt.sel [4] [_] rfl ?_
  refine Wk.ret (Kt.end1 rfl rfl fun w' hw => ?_)
  -- ret 0: sl_ g (((headL a xs m ++ moreL a xs m k).map signed).length) c
  obtain rfl : k = m := by omega
  subst hfs
  exact ⟨_, rfl, hw.below, hw.newRow (i := 0) (n := _) rfl hc hl ht⟩

set_option maxHeartbeats 400000 in
/-- spec.AtomsOf -/
theorem sAtoms_ok (a : St) (va : Value) (xs : List Int) (w : World) (hsa : a.Small) (hva : Ints w va xs) (hs : xs.length ≤ 140737488355328) (loa : -9223372036854775808 ≤ a.n) (hia : a.n ≤ 9223372036854775807) :
    Calls Tryd.prog 91 [vS a, va].toArray w fun en w' => en = .returned (.tuple #[str (atomsOut a xs), .bool (listB a xs)]) ∧ Below w.heap.size w w' := by
 refine fnStart (n := 41) (e := [(0, vS a), (1, va)]) Tryd.func91 rfl rfl rfl rfl Ends.both ?_
 refine Wk.seq ?_
 refine Wk.region ?_
 refine Ll.box (v := vS a) rfl rfl rfl rfl rfl fun p2 hp2 => ?_
 show Ll _ _ (Own _ _ [_]) _ _ ((2, pt_ p2) :: _) _ _ _
 refine Ll.op (v := str ([])) rfl rfl rfl (OpQ.assign rfl rfl) ?_
 refine Ll.run 1 rfl ?_
 refine Ll.nil ?_
 refine Kt.sel [1, 2] [_, _] rfl ?_
 refine Wk.seq ?_
 refine Wk.regionQ ?_
 refine Lq.op (v := str ([])) rfl rfl rfl (OpQ.assign rfl rfl) ?_
 refine Lq.nil ?_
 refine Kt.sel [1, 2, 6] [_, _, _] rfl ?_
 refine Wk.seq ?_
 refine Wk.seq ?_
 refine Wk.regionQ ?_
 refine Lq.op rfl rfl rfl (OpQ.loadBox (cs := #[i6_ a.n, str a.set, str a.rel]) 0 rfl Tryd.isAgg24 rfl rfl Tryd.sizeOf24) ?_
 refine Lq.run 1 rfl ?_
 refine Lq.op (v := bo_ (listB a xs)) rfl rfl rfl (OpQ.call rfl Tryd.call135 rfl Own.stable (fun w1 hw1 => l4List_ok a va xs w1 hsa (Row.own hva hw1) (by first | (simp; done) | (simp; omega) | omega) loa hia)) ?_
 refine Lq.run 1 rfl ?_
 refine Lq.nil ?_
 refine Kt.sel [1, 2, 6, 13] [_, _, _, _] rfl ?_
 refine Wk.cond (b := !(listB a xs)) rfl (fun h13 => ?_) (fun h13 => ?_)
 ·
  replace h13 := not_true h13
  refine Wk.seq ?_
  refine Wk.regionQ ?_
  refine Lq.op (v := str ([])) rfl rfl rfl (OpQ.assign rfl rfl) ?_
  refine Lq.run 1 rfl ?_
  refine Lq.nil ?_
  refine Kt.sel [4, 5] [_, _] rfl ?_
  refine Wk.ret (Kt.end2 rfl rfl rfl fun w' hw => ?_)
  -- ret 0: str ([]); bo_ false
  exact ⟨by rw [show listB a xs = false from by simpa using h13, atomsOut_no (by simpa using h13)], hw.below⟩
 ·
  replace h13 := not_false h13
  replace h13 : listB a xs = true := by simpa using h13
  obtain ⟨_, ha, hA, hl4⟩ := listB_true h13
  refine Wk.skip ?_
  refine Kt.sel [1, 2, 6] [_, _, _] rfl ?_
  refine Wk.seq ?_
  refine Wk.seq ?_
  refine Wk.regionQ ?_
  refine Lq.run 1 rfl ?_
  refine Lq.nil ?_
  refine Kt.sel [1, 2, 6, 7] [_, _, _, _] rfl ?_
  refine Wk.block ?_
  refine Wk.loop (σ := Nat) (fun k => k ≤ xs.length) (fun k => [(1, va), (2, pt_ p2), (6, str (atomsT (factsL a xs k))), (7, i6_ ((k : Int) + 1))]) (fun k => Own w.heap.size w [bk_ p2 #[i6_ a.n, str a.set, str a.rel] 24]) (fun k => xs.length - k) (0) (by omega) (Sub.cons rfl (Sub.cons rfl (Sub.cons rfl (Sub.cons (by simp [List.lookup]) Sub.nil)))) (fun _ h => h) ?_
  rintro k hk
  refine Wk.seq ?_
  refine Wk.seq ?_
  refine Wk.regionQ ?_
  refine Lq.run 2 rfl ?_
  refine Lq.op (v := i6_ ((xs.length : Int))) rfl rfl rfl (OpQ.lenRow rfl Tryd.runUnderlying25 rfl (ints_length _) (fun w1 hw1 => Row.own hva hw1)) ?_
  refine Lq.run 1 rfl ?_
  refine Lq.nil ?_
  refine Kt.sel [1, 2, 6, 7, 17] [_, _, _, _, _] rfl ?_
  refine Wk.cond (b := decide (((k : Int) + 1) ≤ ((xs.length : Int)))) rfl (fun h17 => ?_) (fun h17 => ?_)
  ·
   replace h17 := of_decide_eq_true h17
   have hk4 : k < 4 := by omega
   refine Wk.skip ?_
   refine Kt.sel [1, 2, 6, 7] [_, _, _, _] rfl ?_
   refine Wk.seq ?_
   refine Wk.block ?_
   refine Wk.seq ?_
   refine Wk.regionO [(0, true), (1, true), (2, true), (3, true), (4, false), (5, true)] Base.mixed (fun _ h => h.drawn) (by kernel_rfl) ?_
   refine Ld.take rfl rfl rfl rfl rfl (OpQ.loadBox (cs := #[i6_ a.n, str a.set, str a.rel]) 0 rfl Tryd.isAgg24 rfl rfl Tryd.sizeOf24) (fun _ h => h) ?_
   refine Ld.run 1 rfl (fun _ h => h) ?_
   refine Ld.take (v := i6_ (((k + 1 : Nat) : Int))) rfl rfl rfl rfl rfl (OpQ.cast (by simp) (OpQ.move rfl rfl)) (fun _ h => h) ?_
   refine Ld.take (v := sTake va ((k + 1))) rfl rfl rfl rfl rfl (OpQ.takeRow (i := ((k + 1 : Nat) : Int)) rfl Tryd.runUnderlying25 Tryd.sizeOf3 rfl rfl (by omega) (by rw [ints_length]; omega) (fun w1 hw1 => Row.own hva hw1)) (fun _ h => h) ?_
   refine Ld.loud rfl ?_
   refine Ll.callRow (xs := [.tmp 20, .tmp 23]) (m := ((factL a xs k).map signed).length) (vs := strs ((factL a xs k).map signed)) (el := 9) (size := 1) rfl rfl rfl rfl Tryd.call143 rfl (fun w1 hw1 => l3Facts_ok a (sTake va ((k + 1))) (xs.take ((k + 1))) k ((factL a xs k).map signed) w1 ha (Ints.take (Row.own hva hw1) ((k + 1)) (by omega)) (hA.take _) (by simp; omega) (by omega) (by rw [fact_take (by omega)])) fun p24 cap24 cur24 hp24 hcp24 hlp24 htp24 => ?_
   refine Ll.nil (Ld.joint (fun _ h => h.tail) ?_)
   refine Ld.run 1 rfl (fun _ h => h.tail) ?_
   refine Ld.nil ?_
   refine Kt.sel [1, 2, 6, 7, 8] [_, _, _, _, _] rfl ?_
   refine Wk.seq ?_
   refine Wk.regionQ ?_
   refine Lq.run 1 rfl ?_
   refine Lq.nil ?_
   refine Kt.sel [1, 2, 6, 7, 8, 9] [_, _, _, _, _, _] rfl ?_
   refine Wk.block ?_
   refine Wk.loop (σ := Nat) (fun j => j ≤ (factL a xs k).length) (fun j => [(1, va), (2, pt_ p2), (6, str (atomsT (factsL a xs k) ++ atomsT ((factL a xs k).take j))), (7, i6_ ((k : Int) + 1)), (8, sl_ p24 (((factL a xs k).map signed).length) cap24), (9, i6_ ((j : Int)))]) (fun j => Own w.heap.size w [bk_ p24 cur24 9, bk_ p2 #[i6_ a.n, str a.set, str a.rel] 24]) (fun j => (factL a xs k).length - j) (0) (by omega) (Sub.cons rfl (Sub.cons rfl (Sub.cons (by simp [List.lookup, atomsT]) (Sub.sel [7, 8, 9] rfl)))) (fun _ h => h) ?_
   rintro j hj
   refine Wk.seq ?_
   refine Wk.seq ?_
   refine Wk.regionQ ?_
   refine Lq.run 2 rfl ?_
   refine Lq.op rfl rfl rfl (OpQ.lenS rfl Tryd.runUnderlying52 rfl) ?_
   refine Lq.run 1 rfl ?_
   refine Lq.nil ?_
   refine Kt.sel [1, 2, 6, 7, 8, 9, 28] [_, _, _, _, _, _, _] rfl ?_
   refine Wk.cond (b := decide (((j : Int)) < ((((factL a xs k).map signed).length : Int)))) rfl (fun h28 => ?_) (fun h28 => ?_)
   ·
    replace h28 := of_decide_eq_true h28
    have hj2 : j < (factL a xs k).length := by rw [List.length_map] at h28; omega
    have hsl := sign_len (l := factL a xs k) (j := j) hj2 plainly_fact
    have hfl := factsL_length a xs k (by omega)
    have hfl2 := factL_length a xs k
    refine Wk.skip ?_
    refine Kt.sel [1, 2, 6, 7, 8, 9] [_, _, _, _, _, _] rfl ?_
    refine Wk.seq ?_
    refine Wk.block ?_
    refine Wk.regionQ ?_
    refine Lq.run 3 rfl ?_
    refine Lq.op (v := pf_ p24 (((j : Int)).toNat)) rfl rfl rfl (OpQ.cast (by rw [Nat.zero_add]) (OpQ.indexAddr1 (i := (j : Int)) rfl Tryd.runUnderlying52 Tryd.sizeOf9 rfl rfl (by omega) (by omega))) ?_
    refine Lq.op (v := str (((factL a xs k).map signed).getD (((j : Int)).toNat) [])) rfl rfl rfl (OpQ.loadAt 0 rfl Tryd.isAgg9 rfl rfl (cur_at (by simpa using htp24) (strs_at (c := (factL a xs k).map signed) (off := ((j : Int)).toNat) (by first | (simp; done) | (simp; omega) | omega)))) ?_
    refine Lq.op (v := .int .u8 ((((((factL a xs k).map signed).getD (((j : Int)).toNat) []).getD ((0 : Int).toNat) 0).toNat : Int))) rfl rfl rfl (OpQ.indexStr rfl Tryd.runUnderlying9 rfl rfl (by omega) (by simpa using hsl)) ?_
    refine Lq.run 1 rfl ?_
    refine Lq.op (v := str ((if !(decide (((((((factL a xs k).map signed).getD (((j : Int)).toNat) []).getD ((0 : Int).toNat) 0).toNat : Int)) = (33 : Int))) then [49] else [48]))) rfl rfl rfl (OpQ.call rfl Tryd.call144 rfl Own.stable (fun w1 hw1 => bitD_ok (!(decide (((((((factL a xs k).map signed).getD (((j : Int)).toNat) []).getD ((0 : Int).toNat) 0).toNat : Int)) = (33 : Int)))) w1 )) ?_
    refine Lq.op rfl rfl rfl (OpQ.sadd rfl rfl rfl (by rw [bit_len]; simp; omega)) ?_
    refine Lq.run 1 rfl ?_
    refine Lq.nil ?_
    refine Kt.sel [1, 2, 6, 7, 8, 9] [_, _, _, _, _, _] rfl ?_
    refine Wk.regionQ ?_
    refine Lq.run 1 rfl ?_
    refine Lq.op rfl rfl rfl (OpQ.add rfl rfl rfl (by omega) (by omega)) ?_
    refine Lq.run 1 rfl ?_
    refine Lq.nil ?_
    refine Kt.again (j + 1) (by omega) (by omega) (Sub.cons rfl (Sub.cons rfl (Sub.cons (by rw [atoms_step hj2 plainly_fact, ← List.append_assoc]; rfl) (Sub.sel [7, 8, 9] rfl)))) (fun _ h => h)
   ·
    replace h28 := of_decide_eq_false h28
    refine Wk.exit rfl ?_
    refine Kt.sel [1, 2, 6, 7] [_, _, _, _] rfl ?_
    refine Wk.regionQ ?_
    refine Lq.run 1 rfl ?_
    refine Lq.op rfl rfl rfl (OpQ.add rfl rfl rfl (by omega) (by omega)) ?_
    refine Lq.run 1 rfl ?_
    refine Lq.nil ?_
    refine Kt.again (k + 1) (by omega) (by omega) (Sub.cons rfl (Sub.cons rfl (Sub.cons (by rw [facts_done (j := j) (by rw [List.length_map] at h28; omega)]; rfl) (Sub.cons (by simp [List.lookup]) Sub.nil)))) (fun _ h => h.tail)
  ·
   replace h17 := of_decide_eq_false h17
   refine Wk.exit rfl ?_
   refine Kt.sel [6] [_] rfl ?_
   refine Wk.seq ?_
   refine Wk.regionQ ?_
   refine Lq.run 3 rfl ?_
   refine Lq.nil ?_
   refine Kt.sel [4, 5] [_, _] rfl ?_
   refine Wk.ret (Kt.end2 rfl rfl rfl fun w' hw => ?_)
   -- ret 1: str (atomsT (factsL a xs k)); bo_ true
   exact ⟨by rw [h13, atomsOut_yes h13, show k = xs.length from by omega], hw.below⟩

set_option maxHeartbeats 400000 in
/-- impl.factsOf$1 -/
theorem tell_ok (B : Nat) (w0 : World) (p7 p6 p2 : Nat) (a2 : Array Value) (s : Boxed) (F : List (List UInt8)) (H : List Bool) (f : List UInt8) (b : Bool) (w : World) (hs : s.Ok B F H) (hF : F.length ≤ 1000) (hH : H.length ≤ 1000) (hw : Own B w0 [bk_ p7 #[sl_ s.q2 ((H : List Bool).length) s.c2] 108, bk_ p6 #[sl_ s.q1 ((F : List (List UInt8)).length) s.c1] 52, bk_ s.q2 s.u2 4, bk_ s.q1 s.u1 9, bk_ p2 a2 24] w) :
    Calls Tryd.prog 166 [str f, bo_ b, pt_ p6, pt_ p7].toArray w fun en w' => en = .returned (.tuple #[]) ∧ ∃ t : Boxed, t.Ok B (F ++ [f]) (H ++ [b]) ∧ Own B w0 [bk_ p7 #[sl_ t.q2 ((H ++ [b] : List Bool).length) t.c2] 108, bk_ p6 #[sl_ t.q1 ((F ++ [f] : List (List UInt8)).length) t.c1] 52, bk_ t.q2 t.u2 4, bk_ t.q1 t.u1 9, bk_ p2 a2 24] w' := by
 refine fnStartC (Own B w0 [bk_ p7 #[sl_ s.q2 ((H : List Bool).length) s.c2] 108, bk_ p6 #[sl_ s.q1 ((F : List (List UInt8)).length) s.c1] 52, bk_ s.q2 s.u2 4, bk_ s.q1 s.u1 9, bk_ p2 a2 24]) (n := 14) (e := [(0, str f), (1, bo_ b), (2, pt_ p6), (3, pt_ p7)]) Tryd.func166 rfl rfl rfl rfl Ends.both hw ?_
 refine Wk.seq ?_
 refine Wk.region ?_
 refine Ll.op rfl rfl rfl (OpQ.loadOwn 1 rfl Tryd.isAgg52 rfl rfl rfl) ?_
 refine Ll.run 1 rfl ?_
 refine Ll.slice (xs := [.tmp 7]) (vs := [str f]) Base.elem52 rfl rfl rfl rfl rfl rfl (by decide) rfl fun p8 hp8 => ?_
 refine Ll.appendStrs (xs := F) (ys := ([f] : List (List UInt8))) Base.elem52 4 rfl rfl rfl rfl rfl rfl rfl hs.s1 hs.l1 (by simpa using hs.t1) (fun w1 hw1 => (Own.row hw1 (i := 0) rfl (n := 1) (cap := 1) (vs := strs ([f] : List (List UInt8))) rfl rfl (by decide))) ((F ++ (([f] : List (List UInt8)))).length) (by first | (simp; done) | (simp; omega)) (by first | (simp; done) | (simp; omega) | omega) fun p9 cap9 cur9 hp9 hcp9 hlp9 htp9 => ?_
 show Ll _ _ (Own _ _ [_, _, _, _, _, _]) _ _ ((9, sl_ p9 (((F ++ (([f] : List (List UInt8)))).length)) cap9) :: _) _ _ _
 refine Ll.store1 (v := sl_ p9 (((F ++ (([f] : List (List UInt8)))).length)) cap9) (hs' := [_, _, bk_ p6 #[sl_ p9 (((F ++ (([f] : List (List UInt8)))).length)) cap9] 52, _, _, _]) 2 rfl rfl rfl rfl rfl rfl Tryd.sizeOf52 rfl (by simp) rfl ?_
 refine Ll.nil ?_
 refine Kt.sel [1, 3] [_, _] rfl ?_
 refine Wk.region ?_
 refine Ll.op rfl rfl rfl (OpQ.loadOwn 1 rfl Tryd.isAgg108 rfl rfl rfl) ?_
 refine Ll.run 1 rfl ?_
 refine Ll.slice (xs := [.tmp 11]) (vs := [bo_ b]) Base.elem108 rfl rfl rfl rfl rfl rfl (by decide) rfl fun p12 hp12 => ?_
 refine Ll.appendBools (xs := H) (ys := ([b] : List Bool)) Base.elem108 4 rfl rfl rfl rfl rfl rfl rfl hs.s2 hs.l2 (by simpa using hs.t2) (fun w1 hw1 => (Own.row hw1 (i := 0) rfl (n := 1) (cap := 1) (vs := bools ([b] : List Bool)) rfl rfl (by decide))) ((H ++ (([b] : List Bool))).length) (by first | (simp; done) | (simp; omega)) (by first | (simp; done) | (simp; omega) | omega) fun p13 cap13 cur13 hp13 hcp13 hlp13 htp13 => ?_
 show Ll _ _ (Own _ _ [_, _, _, _, _, _, _]) _ _ ((13, sl_ p13 (((H ++ (([b] : List Bool))).length)) cap13) :: _) _ _ _
 refine Ll.store1 (v := sl_ p13 (((H ++ (([b] : List Bool))).length)) cap13) (hs' := [_, _, bk_ p7 #[sl_ p13 (((H ++ (([b] : List Bool))).length)) cap13] 108, _, _, _, _]) 2 rfl rfl rfl rfl rfl rfl Tryd.sizeOf108 rfl (by simp) rfl ?_
 refine Ll.nil ?_
 refine (Kt.end0 rfl fun w' hw => ?_)
 exact ⟨rfl, ⟨p9, cap9, cur9, p13, cap13, cur13⟩, ⟨hp9, hcp9, by simpa using hlp9, by simpa using htp9, hp13, hcp13, by simpa using hlp13, by simpa using htp13⟩, by simpa using hw.tail.tail⟩

set_option maxHeartbeats 400000 in
/-- impl.factsOf -/
theorem factsOf_ok (a : St) (va : Value) (xs : List Int) (w : World) (ha : a.Fine) (hva : Ints w va xs) (hA : a.Els xs) (hl4 : xs.length ≤ 4) :
    Calls Tryd.prog 140 [vS a, va].toArray w fun en w' => ∃ v, en = .returned v ∧ Below w.heap.size w w' ∧ NewRows w.heap.size 9 4 w' v ((factsL a xs xs.length).map Prod.fst).length (strs ((factsL a xs xs.length).map Prod.fst)) ((factsL a xs xs.length).map Prod.snd).length (bools ((factsL a xs xs.length).map Prod.snd)) := by
 refine fnStart (n := 92) (e := [(0, vS a), (1, va)]) Tryd.func140 rfl rfl rfl rfl Ends.both ?_
 refine Wk.seq ?_
 refine Wk.region ?_
 refine Ll.box (v := vS a) rfl rfl rfl rfl rfl fun p2 hp2 => ?_
 show Ll _ _ (Own _ _ [_]) _ _ ((2, pt_ p2) :: _) _ _ _
 refine Ll.run 2 rfl ?_
 refine Ll.nil ?_
 refine Kt.sel [1, 2] [_, _] rfl ?_
 refine Wk.seq ?_
 refine Wk.region ?_
 refine Ll.slice (xs := []) (vs := []) Base.elem52 rfl rfl rfl rfl rfl rfl (by decide) rfl fun p15 hp15 => ?_
 refine Ll.slice (xs := []) (vs := []) Base.elem108 rfl rfl rfl rfl rfl rfl (by decide) rfl fun p16 hp16 => ?_
 refine Ll.alloc rfl rfl rfl rfl Tryd.zeroValue52 fun p6 hp6 => ?_
 show Ll _ _ (Own _ _ [bk_ p6 #[.slice none 0 0] 52, _, _, _]) _ _ ((6, pt_ p6) :: _) _ _ _
 refine Ll.alloc rfl rfl rfl rfl Tryd.zeroValue108 fun p7 hp7 => ?_
 show Ll _ _ (Own _ _ [bk_ p7 #[.slice none 0 0] 108, _, _, _, _]) _ _ ((7, pt_ p7) :: _) _ _ _
 refine Ll.store1 (v := sl_ p15 0 0) (hs' := [_, bk_ p6 #[sl_ p15 0 0] 52, _, _, _]) 1 rfl rfl rfl rfl rfl rfl Tryd.sizeOf52 rfl (by simp) rfl ?_
 refine Ll.store1 (v := sl_ p16 0 0) (hs' := [bk_ p7 #[sl_ p16 0 0] 108, _, _, _, _]) 0 rfl rfl rfl rfl rfl rfl Tryd.sizeOf108 rfl (by simp) rfl ?_
 refine Ll.nil ?_
 refine Kt.sel [1, 2, 6, 7] [_, _, _, _] rfl ?_
 refine Wk.seq ?_
 refine Wk.regionQ ?_
 refine Lq.op (v := .func (.func 166) #[] #[pt_ p6, pt_ p7]) rfl rfl rfl (OpQ.func' (cap := [.tmp 6, .tmp 7]) rfl rfl) ?_
 refine Lq.run 1 rfl ?_
 refine Lq.nil ?_
 refine Kt.sel [1, 2, 6, 7, 8] [_, _, _, _, _] rfl ?_
 refine Wk.seq ?_
 refine Wk.seq ?_
 refine Wk.regionQ ?_
 refine Lq.run 1 rfl ?_
 refine Lq.op (v := i6_ ((xs.length : Int))) rfl rfl rfl (OpQ.lenRow rfl Tryd.runUnderlying25 rfl (ints_length _) (fun w1 hw1 => Row.own hva hw1)) ?_
 refine Lq.run 1 rfl ?_
 refine Lq.nil ?_
 refine Kt.sel [1, 2, 6, 7, 8, 18, 19, 20] [_, _, _, _, _, _, _, _] rfl ?_
 refine Wk.block ?_
 refine Wk.loop (σ := Nat × Boxed) (fun ⟨k, s⟩ => k ≤ xs.length ∧ s.Ok w.heap.size ((factsL a xs k).map Prod.fst) ((factsL a xs k).map Prod.snd)) (fun ⟨k, s⟩ => [(1, va), (2, pt_ p2), (6, pt_ p6), (7, pt_ p7), (8, .func (.func 166) #[] #[pt_ p6, pt_ p7]), (18, va), (19, i6_ ((xs.length : Int))), (20, i6_ ((k : Int)))]) (fun ⟨k, s⟩ => Own w.heap.size w [bk_ p7 #[sl_ s.q2 (((factsL a xs k).map Prod.snd : List Bool).length) s.c2] 108, bk_ p6 #[sl_ s.q1 (((factsL a xs k).map Prod.fst : List (List UInt8)).length) s.c1] 52, bk_ s.q2 s.u2 4, bk_ s.q1 s.u1 9, bk_ p2 #[i6_ a.n, str a.set, str a.rel] 24]) (fun ⟨k, s⟩ => xs.length - k) ((0, ⟨p15, 0, #[], p16, 0, #[]⟩)) ⟨by omega, ⟨hp15, rfl, by simp [factsL], rfl, hp16, rfl, by simp [factsL], rfl⟩⟩ (Sub.sel [1, 2, 6, 7, 8, 18, 19, 20] rfl) (fun _ h => h) ?_
 rintro ⟨k, s⟩ ⟨hk, hs⟩
 dsimp only
 refine Wk.seq ?_
 refine Wk.regionQ ?_
 refine Lq.run 1 rfl ?_
 refine Lq.nil ?_
 refine Kt.sel [1, 2, 6, 7, 8, 18, 19, 20, 21] [_, _, _, _, _, _, _, _, _] rfl ?_
 refine Wk.seq ?_
 refine Wk.cond (b := decide (((k : Int)) < ((xs.length : Int)))) rfl (fun h21 => ?_) (fun h21 => ?_)
 ·
  replace h21 := of_decide_eq_true h21
  have hk4 : k < 4 := by omega
  have hfl := factsL_length a xs k (by omega)
  have hnk := nameS_length hk4
  refine Wk.skip ?_
  refine Kt.sel [1, 2, 6, 7, 8, 18, 19, 20] [_, _, _, _, _, _, _, _] rfl ?_
  refine Wk.seq ?_
  refine Wk.block ?_
  refine Wk.seq ?_
  refine Wk.regionQ ?_
  refine Lq.run 1 rfl ?_
  refine Lq.op (v := .pointer (some (sAt va ((k : Int))))) rfl rfl rfl (OpQ.atRow rfl Tryd.runUnderlying25 Tryd.sizeOf3 rfl rfl (by omega) (by rw [ints_length]; omega) (fun w1 hw1 => Row.own hva hw1)) ?_
  refine Lq.op (v := i6_ (xs.getD (((k : Int)).toNat) 0)) rfl rfl rfl (OpQ.load1 rfl Tryd.isAgg3 rfl (fun w1 hw1 => Ints.cell (Row.own hva hw1) (by omega) (by omega))) ?_
  refine Lq.run 2 rfl ?_
  refine Lq.nil ?_
  refine Kt.sel [1, 2, 6, 7, 8, 9, 10, 18, 19, 20] [_, _, _, _, _, _, _, _, _, _] rfl ?_
  refine Wk.seq ?_
  refine Wk.regionQ ?_
  refine Lq.op (v := str ([63])) rfl rfl rfl (OpQ.assign rfl rfl) ?_
  refine Lq.nil ?_
  refine Kt.sel [1, 2, 6, 7, 8, 9, 10, 11, 18, 19, 20] [_, _, _, _, _, _, _, _, _, _, _] rfl ?_
  refine Wk.seq ?_
  refine Wk.seq ?_
  refine Wk.regionQ ?_
  refine Lq.run 2 rfl ?_
  refine Lq.nil ?_
  refine Kt.sel [1, 2, 6, 7, 8, 9, 10, 11, 18, 19, 20, 26] [_, _, _, _, _, _, _, _, _, _, _, _] rfl ?_
  refine Wk.cond (b := decide (((k : Int)) < (4 : Int))) rfl (fun h26 => ?_) (fun h26 => ?_)
  ·
   replace h26 := of_decide_eq_true h26
   refine Wk.regionQ ?_
   refine Lq.run 1 rfl ?_
   refine Lq.op (v := str (nameS k)) rfl rfl rfl (OpQ.call rfl Tryd.call167 rfl Own.stable (fun w1 hw1 => nameOf_ok k w1 (by omega))) ?_
   refine Lq.run 1 rfl ?_
   refine Lq.nil ?_
   refine Kt.sel [1, 2, 6, 7, 8, 9, 10, 11, 18, 19, 20] [_, _, _, _, _, _, _, _, _, _, _] rfl ?_
   refine Wk.seq ?_
   refine Wk.region ?_
   refine Ll.run 2 rfl ?_
   refine Ll.op rfl rfl rfl (OpQ.sadd rfl rfl rfl (by first | omega | (simp only [List.length_append, List.length_cons, List.length_nil]; omega))) ?_
   refine Ll.op rfl rfl rfl (OpQ.loadBox (cs := #[i6_ a.n, str a.set, str a.rel]) 4 rfl Tryd.isAgg24 rfl rfl Tryd.sizeOf24) ?_
   refine Ll.run 1 rfl ?_
   refine Ll.op (v := bo_ (a.inSet (xs.getD (((k : Int)).toNat) 0))) rfl rfl rfl (OpQ.call rfl Tryd.call95 rfl Own.stable (fun w1 hw1 => inSet_ok a (xs.getD (((k : Int)).toNat) 0) w1 ha (by first | assumption | exact St.Els.at (by assumption) (by omega) (by omega)))) ?_
   refine Ll.callFnTo (v := .tuple #[]) (xs := [.tmp 31, .tmp 34]) (vs := [str (([80]) ++ (nameS k)), bo_ (a.inSet (xs.getD (((k : Int)).toNat) 0))]) (ok := fun t : Boxed => t.Ok w.heap.size (((factsL a xs k).map Prod.fst) ++ [([80]) ++ (nameS k)]) (((factsL a xs k).map Prod.snd) ++ [a.inSet (xs.getD (((k : Int)).toNat) 0)])) (hs' := fun t : Boxed => [bk_ p7 #[sl_ t.q2 ((((factsL a xs k).map Prod.snd) ++ [a.inSet (xs.getD (((k : Int)).toNat) 0)] : List Bool).length) t.c2] 108, bk_ p6 #[sl_ t.q1 ((((factsL a xs k).map Prod.fst) ++ [([80]) ++ (nameS k)] : List (List UInt8)).length) t.c1] 52, bk_ t.q2 t.u2 4, bk_ t.q1 t.u1 9, bk_ p2 #[i6_ a.n, str a.set, str a.rel] 24]) rfl rfl rfl rfl rfl Tryd.call166 rfl (fun w1 hw1 => tell_ok _ _ _ _ _ _ s ((factsL a xs k).map Prod.fst) ((factsL a xs k).map Prod.snd) (([80]) ++ (nameS k)) (a.inSet (xs.getD (((k : Int)).toNat) 0)) w1 hs (by first | (simp; done) | (simp; omega)) (by first | (simp; done) | (simp; omega)) hw1) fun s35 hs35 => ?_
   show Ll _ _ (Own _ _ [_, _, _, _, _]) _ _ _ _ _ _
   refine Ll.nil ?_
   refine Kt.sel [1, 2, 6, 7, 8, 9, 10, 11, 18, 19, 20] [_, _, _, _, _, _, _, _, _, _, _] rfl ?_
   refine Wk.seq ?_
   refine Wk.region ?_
   refine Ll.run 2 rfl ?_
   refine Ll.op rfl rfl rfl (OpQ.sadd rfl rfl rfl (by first | omega | (simp only [List.length_append, List.length_cons, List.length_nil]; omega))) ?_
   refine Ll.run 1 rfl ?_
   refine Ll.op rfl rfl rfl (OpQ.sadd rfl rfl rfl (by first | omega | (simp only [List.length_append, List.length_cons, List.length_nil]; omega))) ?_
   refine Ll.op rfl rfl rfl (OpQ.loadBox (cs := #[i6_ a.n, str a.set, str a.rel]) 4 rfl Tryd.isAgg24 rfl rfl Tryd.sizeOf24) ?_
   refine Ll.run 2 rfl ?_
   refine Ll.op (v := bo_ (a.inRel (xs.getD (((k : Int)).toNat) 0) (xs.getD (((k : Int)).toNat) 0))) rfl rfl rfl (OpQ.call rfl Tryd.call97 rfl Own.stable (fun w1 hw1 => inRel_ok a (xs.getD (((k : Int)).toNat) 0) (xs.getD (((k : Int)).toNat) 0) w1 ha (by first | assumption | exact St.Els.at (by assumption) (by omega) (by omega)) (by first | assumption | exact St.Els.at (by assumption) (by omega) (by omega)))) ?_
   refine Ll.callFnTo (v := .tuple #[]) (xs := [.tmp 40, .tmp 44]) (vs := [str ((([69]) ++ (nameS k)) ++ (nameS k)), bo_ (a.inRel (xs.getD (((k : Int)).toNat) 0) (xs.getD (((k : Int)).toNat) 0))]) (ok := fun t : Boxed => t.Ok w.heap.size ((((factsL a xs k).map Prod.fst) ++ [([80]) ++ (nameS k)]) ++ [(([69]) ++ (nameS k)) ++ (nameS k)]) ((((factsL a xs k).map Prod.snd) ++ [a.inSet (xs.getD (((k : Int)).toNat) 0)]) ++ [a.inRel (xs.getD (((k : Int)).toNat) 0) (xs.getD (((k : Int)).toNat) 0)])) (hs' := fun t : Boxed => [bk_ p7 #[sl_ t.q2 (((((factsL a xs k).map Prod.snd) ++ [a.inSet (xs.getD (((k : Int)).toNat) 0)]) ++ [a.inRel (xs.getD (((k : Int)).toNat) 0) (xs.getD (((k : Int)).toNat) 0)] : List Bool).length) t.c2] 108, bk_ p6 #[sl_ t.q1 (((((factsL a xs k).map Prod.fst) ++ [([80]) ++ (nameS k)]) ++ [(([69]) ++ (nameS k)) ++ (nameS k)] : List (List UInt8)).length) t.c1] 52, bk_ t.q2 t.u2 4, bk_ t.q1 t.u1 9, bk_ p2 #[i6_ a.n, str a.set, str a.rel] 24]) rfl rfl rfl rfl rfl Tryd.call166 rfl (fun w1 hw1 => tell_ok _ _ _ _ _ _ s35 (((factsL a xs k).map Prod.fst) ++ [([80]) ++ (nameS k)]) (((factsL a xs k).map Prod.snd) ++ [a.inSet (xs.getD (((k : Int)).toNat) 0)]) ((([69]) ++ (nameS k)) ++ (nameS k)) (a.inRel (xs.getD (((k : Int)).toNat) 0) (xs.getD (((k : Int)).toNat) 0)) w1 hs35 (by first | (simp; done) | (simp; omega)) (by first | (simp; done) | (simp; omega)) hw1) fun s45 hs45 => ?_
   show Ll _ _ (Own _ _ [_, _, _, _, _]) _ _ _ _ _ _
   refine Ll.nil ?_
   refine Kt.sel [1, 2, 6, 7, 8, 9, 10, 11, 18, 19, 20] [_, _, _, _, _, _, _, _, _, _, _] rfl ?_
   refine Wk.seq ?_
   refine Wk.regionQ ?_
   refine Lq.run 2 rfl ?_
   refine Lq.op (v := sTake va k) rfl rfl rfl (OpQ.takeRow (i := (k : Int)) rfl Tryd.runUnderlying25 Tryd.sizeOf3 rfl rfl (by omega) (by rw [ints_length]; omega) (fun w1 hw1 => Row.own hva hw1)) ?_
   refine Lq.op (v := i6_ ((k : Int))) rfl rfl rfl (OpQ.lenRow rfl Tryd.runUnderlying25 rfl (by rw [ints_length, List.length_take]; omega) (fun w1 hw1 => Ints.take (Row.own hva hw1) k (by omega))) ?_
   refine Lq.run 1 rfl ?_
   refine Lq.nil ?_
   refine Kt.sel [1, 2, 6, 7, 8, 10, 11, 18, 19, 20, 48, 49, 50] [_, _, _, _, _, _, _, _, _, _, _, _, _] rfl ?_
   refine Wk.block ?_
   refine Wk.loop (σ := Nat × Boxed) (fun ⟨j, t⟩ => j ≤ k ∧ t.Ok w.heap.size ((factsL a xs k ++ (headL a xs k ++ moreL a xs k j)).map Prod.fst) ((factsL a xs k ++ (headL a xs k ++ moreL a xs k j)).map Prod.snd)) (fun ⟨j, t⟩ => [(1, va), (2, pt_ p2), (6, pt_ p6), (7, pt_ p7), (8, .func (.func 166) #[] #[pt_ p6, pt_ p7]), (10, i6_ (xs.getD (((k : Int)).toNat) 0)), (11, str (nameS k)), (18, va), (19, i6_ ((xs.length : Int))), (20, i6_ ((k : Int))), (48, sTake va k), (49, i6_ ((k : Int))), (50, i6_ ((j : Int)))]) (fun ⟨j, t⟩ => Own w.heap.size w [bk_ p7 #[sl_ t.q2 (((factsL a xs k ++ (headL a xs k ++ moreL a xs k j)).map Prod.snd : List Bool).length) t.c2] 108, bk_ p6 #[sl_ t.q1 (((factsL a xs k ++ (headL a xs k ++ moreL a xs k j)).map Prod.fst : List (List UInt8)).length) t.c1] 52, bk_ t.q2 t.u2 4, bk_ t.q1 t.u1 9, bk_ p2 #[i6_ a.n, str a.set, str a.rel] 24]) (fun ⟨j, t⟩ => k - j) ((0, s45)) ⟨by omega, by rw [tell_head1, tell_head2]; exact hs45⟩ (Sub.sel [1, 2, 6, 7, 8, 10, 11, 18, 19, 20, 48, 49, 50] rfl) (fun _ h => by dsimp only; rw [tell_head1, tell_head2]; exact h) ?_
   rintro ⟨j, t⟩ ⟨hj, ht⟩
   dsimp only
   refine Wk.seq ?_
   refine Wk.regionQ ?_
   refine Lq.run 1 rfl ?_
   refine Lq.nil ?_
   refine Kt.sel [1, 2, 6, 7, 8, 10, 11, 18, 19, 20, 48, 49, 50, 51] [_, _, _, _, _, _, _, _, _, _, _, _, _, _] rfl ?_
   refine Wk.seq ?_
   refine Wk.cond (b := decide (((j : Int)) < ((k : Int)))) rfl (fun h51 => ?_) (fun h51 => ?_)
   ·
    replace h51 := of_decide_eq_true h51
    have hlk : (xs.take k).length = k := by rw [List.length_take]; omega
    have hjk : j < k := by omega
    have hnj := nameS_length (show j < 4 by omega)
    refine Wk.skip ?_
    refine Kt.sel [1, 2, 6, 7, 8, 10, 11, 18, 19, 20, 48, 49, 50] [_, _, _, _, _, _, _, _, _, _, _, _, _] rfl ?_
    refine Wk.seq ?_
    refine Wk.block ?_
    refine Wk.seq ?_
    refine Wk.regionQ ?_
    refine Lq.run 1 rfl ?_
    refine Lq.op (v := .pointer (some (sAt (sTake va k) ((j : Int))))) rfl rfl rfl (OpQ.atRow rfl Tryd.runUnderlying25 Tryd.sizeOf3 rfl rfl (by omega) (by rw [ints_length, List.length_take]; omega) (fun w1 hw1 => Ints.take (Row.own hva hw1) k (by omega))) ?_
    refine Lq.op (v := i6_ (xs.getD ((j : Int)).toNat 0)) rfl rfl rfl (OpQ.cast (by rw [Int.toNat_natCast, take_getD hjk]) (OpQ.load1 rfl Tryd.isAgg3 rfl (fun w1 hw1 => Ints.cell (Ints.take (Row.own hva hw1) k (by omega)) (by omega) (by omega)))) ?_
    refine Lq.run 2 rfl ?_
    refine Lq.nil ?_
    refine Kt.sel [1, 2, 6, 7, 8, 10, 11, 12, 13, 18, 19, 20, 48, 49, 50] [_, _, _, _, _, _, _, _, _, _, _, _, _, _, _] rfl ?_
    refine Wk.seq ?_
    refine Wk.regionQ ?_
    refine Lq.op (v := str ([63])) rfl rfl rfl (OpQ.assign rfl rfl) ?_
    refine Lq.nil ?_
    refine Kt.sel [1, 2, 6, 7, 8, 10, 11, 12, 13, 14, 18, 19, 20, 48, 49, 50] [_, _, _, _, _, _, _, _, _, _, _, _, _, _, _, _] rfl ?_
    refine Wk.seq ?_
    refine Wk.seq ?_
    refine Wk.regionQ ?_
    refine Lq.run 2 rfl ?_
    refine Lq.nil ?_
    refine Kt.sel [1, 2, 6, 7, 8, 10, 11, 12, 13, 14, 18, 19, 20, 48, 49, 50, 56] [_, _, _, _, _, _, _, _, _, _, _, _, _, _, _, _, _] rfl ?_
    refine Wk.cond (b := decide (((j : Int)) < (4 : Int))) rfl (fun h56 => ?_) (fun h56 => ?_)
    ·
     replace h56 := of_decide_eq_true h56
     refine Wk.regionQ ?_
     refine Lq.run 1 rfl ?_
     refine Lq.op (v := str (nameS j)) rfl rfl rfl (OpQ.call rfl Tryd.call167 rfl Own.stable (fun w1 hw1 => nameOf_ok j w1 (by omega))) ?_
     refine Lq.run 1 rfl ?_
     refine Lq.nil ?_
     refine Kt.sel [1, 2, 6, 7, 8, 10, 11, 13, 14, 18, 19, 20, 48, 49, 50] [_, _, _, _, _, _, _, _, _, _, _, _, _, _, _] rfl ?_
     refine Wk.seq ?_
     refine Wk.region ?_
     refine Ll.run 2 rfl ?_
     refine Ll.op rfl rfl rfl (OpQ.sadd rfl rfl rfl (by first | omega | (simp only [List.length_append, List.length_cons, List.length_nil]; omega))) ?_
     refine Ll.run 1 rfl ?_
     refine Ll.op rfl rfl rfl (OpQ.sadd rfl rfl rfl (by first | omega | (simp only [List.length_append, List.length_cons, List.length_nil]; omega))) ?_
     refine Ll.run 3 rfl ?_
     refine Ll.callFnTo (v := .tuple #[]) (xs := [.tmp 63, .tmp 66]) (vs := [str ((([61]) ++ (nameS j)) ++ (nameS k)), bo_ (decide ((xs.getD (((k : Int)).toNat) 0) = (xs.getD ((j : Int)).toNat 0)))]) (ok := fun t : Boxed => t.Ok w.heap.size (((factsL a xs k ++ (headL a xs k ++ moreL a xs k j)).map Prod.fst) ++ [(([61]) ++ (nameS j)) ++ (nameS k)]) (((factsL a xs k ++ (headL a xs k ++ moreL a xs k j)).map Prod.snd) ++ [decide ((xs.getD (((k : Int)).toNat) 0) = (xs.getD ((j : Int)).toNat 0))])) (hs' := fun t : Boxed => [bk_ p7 #[sl_ t.q2 ((((factsL a xs k ++ (headL a xs k ++ moreL a xs k j)).map Prod.snd) ++ [decide ((xs.getD (((k : Int)).toNat) 0) = (xs.getD ((j : Int)).toNat 0))] : List Bool).length) t.c2] 108, bk_ p6 #[sl_ t.q1 ((((factsL a xs k ++ (headL a xs k ++ moreL a xs k j)).map Prod.fst) ++ [(([61]) ++ (nameS j)) ++ (nameS k)] : List (List UInt8)).length) t.c1] 52, bk_ t.q2 t.u2 4, bk_ t.q1 t.u1 9, bk_ p2 #[i6_ a.n, str a.set, str a.rel] 24]) rfl rfl rfl rfl rfl Tryd.call166 rfl (fun w1 hw1 => tell_ok _ _ _ _ _ _ t ((factsL a xs k ++ (headL a xs k ++ moreL a xs k j)).map Prod.fst) ((factsL a xs k ++ (headL a xs k ++ moreL a xs k j)).map Prod.snd) ((([61]) ++ (nameS j)) ++ (nameS k)) (decide ((xs.getD (((k : Int)).toNat) 0) = (xs.getD ((j : Int)).toNat 0))) w1 ht (by first | (simp; done) | (simp; omega)) (by first | (simp; done) | (simp; omega)) hw1) fun s67 hs67 => ?_
     show Ll _ _ (Own _ _ [_, _, _, _, _]) _ _ _ _ _ _
     refine Ll.nil ?_
     refine Kt.sel [1, 2, 6, 7, 8, 10, 11, 13, 14, 18, 19, 20, 48, 49, 50] [_, _, _, _, _, _, _, _, _, _, _, _, _, _, _] rfl ?_
     refine Wk.seq ?_
     refine Wk.region ?_
     refine Ll.run 2 rfl ?_
     refine Ll.op rfl rfl rfl (OpQ.sadd rfl rfl rfl (by first | omega | (simp only [List.length_append, List.length_cons, List.length_nil]; omega))) ?_
     refine Ll.run 1 rfl ?_
     refine Ll.op rfl rfl rfl (OpQ.sadd rfl rfl rfl (by first | omega | (simp only [List.length_append, List.length_cons, List.length_nil]; omega))) ?_
     refine Ll.op rfl rfl rfl (OpQ.loadBox (cs := #[i6_ a.n, str a.set, str a.rel]) 4 rfl Tryd.isAgg24 rfl rfl Tryd.sizeOf24) ?_
     refine Ll.run 2 rfl ?_
     refine Ll.op (v := bo_ (a.inRel (xs.getD ((j : Int)).toNat 0) (xs.getD (((k : Int)).toNat) 0))) rfl rfl rfl (OpQ.call rfl Tryd.call97 rfl Own.stable (fun w1 hw1 => inRel_ok a (xs.getD ((j : Int)).toNat 0) (xs.getD (((k : Int)).toNat) 0) w1 ha (by first | assumption | exact St.Els.at (by assumption) (by omega) (by omega)) (by first | assumption | exact St.Els.at (by assumption) (by omega) (by omega)))) ?_
     refine Ll.callFnTo (v := .tuple #[]) (xs := [.tmp 72, .tmp 76]) (vs := [str ((([69]) ++ (nameS j)) ++ (nameS k)), bo_ (a.inRel (xs.getD ((j : Int)).toNat 0) (xs.getD (((k : Int)).toNat) 0))]) (ok := fun t : Boxed => t.Ok w.heap.size ((((factsL a xs k ++ (headL a xs k ++ moreL a xs k j)).map Prod.fst) ++ [(([61]) ++ (nameS j)) ++ (nameS k)]) ++ [(([69]) ++ (nameS j)) ++ (nameS k)]) ((((factsL a xs k ++ (headL a xs k ++ moreL a xs k j)).map Prod.snd) ++ [decide ((xs.getD (((k : Int)).toNat) 0) = (xs.getD ((j : Int)).toNat 0))]) ++ [a.inRel (xs.getD ((j : Int)).toNat 0) (xs.getD (((k : Int)).toNat) 0)])) (hs' := fun t : Boxed => [bk_ p7 #[sl_ t.q2 (((((factsL a xs k ++ (headL a xs k ++ moreL a xs k j)).map Prod.snd) ++ [decide ((xs.getD (((k : Int)).toNat) 0) = (xs.getD ((j : Int)).toNat 0))]) ++ [a.inRel (xs.getD ((j : Int)).toNat 0) (xs.getD (((k : Int)).toNat) 0)] : List Bool).length) t.c2] 108, bk_ p6 #[sl_ t.q1 (((((factsL a xs k ++ (headL a xs k ++ moreL a xs k j)).map Prod.fst) ++ [(([61]) ++ (nameS j)) ++ (nameS k)]) ++ [(([69]) ++ (nameS j)) ++ (nameS k)] : List (List UInt8)).length) t.c1] 52, bk_ t.q2 t.u2 4, bk_ t.q1 t.u1 9, bk_ p2 #[i6_ a.n, str a.set, str a.rel] 24]) rfl rfl rfl rfl rfl Tryd.call166 rfl (fun w1 hw1 => tell_ok _ _ _ _ _ _ s67 (((factsL a xs k ++ (headL a xs k ++ moreL a xs k j)).map Prod.fst) ++ [(([61]) ++ (nameS j)) ++ (nameS k)]) (((factsL a xs k ++ (headL a xs k ++ moreL a xs k j)).map Prod.snd) ++ [decide ((xs.getD (((k : Int)).toNat) 0) = (xs.getD ((j : Int)).toNat 0))]) ((([69]) ++ (nameS j)) ++ (nameS k)) (a.inRel (xs.getD ((j : Int)).toNat 0) (xs.getD (((k : Int)).toNat) 0)) w1 hs67 (by first | (simp; done) | (simp; omega)) (by first | (simp; done) | (simp; omega)) hw1) fun s77 hs77 => ?_
     show Ll _ _ (Own _ _ [_, _, _, _, _]) _ _ _ _ _ _
     refine Ll.nil ?_
     refine Kt.sel [1, 2, 6, 7, 8, 10, 11, 13, 14, 18, 19, 20, 48, 49, 50] [_, _, _, _, _, _, _, _, _, _, _, _, _, _, _] rfl ?_
     refine Wk.region ?_
     refine Ll.run 2 rfl ?_
     refine Ll.op rfl rfl rfl (OpQ.sadd rfl rfl rfl (by first | omega | (simp only [List.length_append, List.length_cons, List.length_nil]; omega))) ?_
     refine Ll.run 1 rfl ?_
     refine Ll.op rfl rfl rfl (OpQ.sadd rfl rfl rfl (by first | omega | (simp only [List.length_append, List.length_cons, List.length_nil]; omega))) ?_
     refine Ll.op rfl rfl rfl (OpQ.loadBox (cs := #[i6_ a.n, str a.set, str a.rel]) 4 rfl Tryd.isAgg24 rfl rfl Tryd.sizeOf24) ?_
     refine Ll.run 2 rfl ?_
     refine Ll.op (v := bo_ (a.inRel (xs.getD (((k : Int)).toNat) 0) (xs.getD ((j : Int)).toNat 0))) rfl rfl rfl (OpQ.call rfl Tryd.call97 rfl Own.stable (fun w1 hw1 => inRel_ok a (xs.getD (((k : Int)).toNat) 0) (xs.getD ((j : Int)).toNat 0) w1 ha (by first | assumption | exact St.Els.at (by assumption) (by omega) (by omega)) (by first | assumption | exact St.Els.at (by assumption) (by omega) (by omega)))) ?_
     refine Ll.callFnTo (v := .tuple #[]) (xs := [.tmp 82, .tmp 86]) (vs := [str ((([69]) ++ (nameS k)) ++ (nameS j)), bo_ (a.inRel (xs.getD (((k : Int)).toNat) 0) (xs.getD ((j : Int)).toNat 0))]) (ok := fun t : Boxed => t.Ok w.heap.size (((((factsL a xs k ++ (headL a xs k ++ moreL a xs k j)).map Prod.fst) ++ [(([61]) ++ (nameS j)) ++ (nameS k)]) ++ [(([69]) ++ (nameS j)) ++ (nameS k)]) ++ [(([69]) ++ (nameS k)) ++ (nameS j)]) (((((factsL a xs k ++ (headL a xs k ++ moreL a xs k j)).map Prod.snd) ++ [decide ((xs.getD (((k : Int)).toNat) 0) = (xs.getD ((j : Int)).toNat 0))]) ++ [a.inRel (xs.getD ((j : Int)).toNat 0) (xs.getD (((k : Int)).toNat) 0)]) ++ [a.inRel (xs.getD (((k : Int)).toNat) 0) (xs.getD ((j : Int)).toNat 0)])) (hs' := fun t : Boxed => [bk_ p7 #[sl_ t.q2 ((((((factsL a xs k ++ (headL a xs k ++ moreL a xs k j)).map Prod.snd) ++ [decide ((xs.getD (((k : Int)).toNat) 0) = (xs.getD ((j : Int)).toNat 0))]) ++ [a.inRel (xs.getD ((j : Int)).toNat 0) (xs.getD (((k : Int)).toNat) 0)]) ++ [a.inRel (xs.getD (((k : Int)).toNat) 0) (xs.getD ((j : Int)).toNat 0)] : List Bool).length) t.c2] 108, bk_ p6 #[sl_ t.q1 ((((((factsL a xs k ++ (headL a xs k ++ moreL a xs k j)).map Prod.fst) ++ [(([61]) ++ (nameS j)) ++ (nameS k)]) ++ [(([69]) ++ (nameS j)) ++ (nameS k)]) ++ [(([69]) ++ (nameS k)) ++ (nameS j)] : List (List UInt8)).length) t.c1] 52, bk_ t.q2 t.u2 4, bk_ t.q1 t.u1 9, bk_ p2 #[i6_ a.n, str a.set, str a.rel] 24]) rfl rfl rfl rfl rfl Tryd.call166 rfl (fun w1 hw1 => tell_ok _ _ _ _ _ _ s77 ((((factsL a xs k ++ (headL a xs k ++ moreL a xs k j)).map Prod.fst) ++ [(([61]) ++ (nameS j)) ++ (nameS k)]) ++ [(([69]) ++ (nameS j)) ++ (nameS k)]) ((((factsL a xs k ++ (headL a xs k ++ moreL a xs k j)).map Prod.snd) ++ [decide ((xs.getD (((k : Int)).toNat) 0) = (xs.getD ((j : Int)).toNat 0))]) ++ [a.inRel (xs.getD ((j : Int)).toNat 0) (xs.getD (((k : Int)).toNat) 0)]) ((([69]) ++ (nameS k)) ++ (nameS j)) (a.inRel (xs.getD (((k : Int)).toNat) 0) (xs.getD ((j : Int)).toNat 0)) w1 hs77 (by first | (simp; done) | (simp; omega)) (by first | (simp; done) | (simp; omega)) hw1) fun s87 hs87 => ?_
     show Ll _ _ (Own _ _ [_, _, _, _, _]) _ _ _ _ _ _
     refine Ll.nil ?_
     refine Kt.sel [1, 2, 6, 7, 8, 10, 11, 18, 19, 20, 48, 49, 50] [_, _, _, _, _, _, _, _, _, _, _, _, _] rfl ?_
     refine Wk.regionQ ?_
     refine Lq.op rfl rfl rfl (OpQ.add rfl rfl rfl (by omega) (by omega)) ?_
     refine Lq.run 1 rfl ?_
     refine Lq.nil ?_
     refine Kt.again ((j + 1, s87)) ⟨by omega, by rw [tell_step1, tell_step2]; exact hs87⟩ (by omega) (Sub.sel [1, 2, 6, 7, 8, 10, 11, 18, 19, 20, 48, 49, 50] rfl) (fun _ h => by dsimp only; rw [tell_step1, tell_step2]; exact h)
    ·
     replace h56 := of_decide_eq_false h56
     omega
   ·
    replace h51 := of_decide_eq_false h51
    refine Wk.exit rfl ?_
    refine Kt.sel [1, 2, 6, 7, 8, 18, 19, 20] [_, _, _, _, _, _, _, _] rfl ?_
    refine Wk.regionQ ?_
    refine Lq.op rfl rfl rfl (OpQ.add rfl rfl rfl (by omega) (by omega)) ?_
    refine Lq.run 1 rfl ?_
    refine Lq.nil ?_
    refine Kt.again ((k + 1, t)) ⟨by omega, by rw [facts_end1 (j := j) (by omega), facts_end2 (j := j) (by omega)]; exact ht⟩ (by omega) (Sub.sel [1, 2, 6, 7, 8, 18, 19, 20] rfl) (fun _ h => by dsimp only; rw [facts_end1 (j := j) (by omega), facts_end2 (j := j) (by omega)]; exact h)
  ·
   replace h26 := of_decide_eq_false h26
   omega
 ·
  replace h21 := of_decide_eq_false h21
  refine Wk.exit rfl ?_
  refine Kt.sel [6, 7] [_, _] rfl ?_
  refine Wk.seq ?_
  refine Wk.regionD Base.mixed (fun _ h => h.drawn) (by kernel_rfl) ?_
  refine Lq.op rfl rfl rfl (OpQ.loadOwn 1 rfl Tryd.isAgg52 rfl rfl rfl) ?_
  refine Lq.op rfl rfl rfl (OpQ.loadOwn 0 rfl Tryd.isAgg108 rfl rfl rfl) ?_
  refine Lq.run 2 rfl ?_
  refine Lq.nil ?_
  refine Kt.sel [4, 5] [_, _] rfl ?_
  refine Wk.ret (Kt.end2 rfl rfl rfl fun w' hw => ?_)
  -- ret 0: sl_ s.q1 (((factsL a xs k).map Prod.fst : List (List UInt8)).length) s.c1; sl_ s.q2 (((factsL a xs k).map Prod.snd : List Bool).length) s.c2
  obtain rfl : k = xs.length := by omega
  exact ⟨_, rfl, hw.below, hw.newRows (i := 3) (j := 2) rfl rfl (by decide) hs.s1 hs.l1 hs.t1 hs.s2 hs.l2 hs.t2⟩

set_option maxHeartbeats 400000 in
/-- impl.atomsOf -/
theorem atomsOf_ok (a : St) (va : Value) (xs : List Int) (w : World) (ha : a.Fine) (hva : Ints w va xs) (hA : a.Els xs) (hl4 : xs.length ≤ 4) :
    Calls Tryd.prog 87 [vS a, va].toArray w fun en w' => en = .returned (str (atomsT (factsL a xs xs.length))) ∧ Below w.heap.size w w' := by
 refine fnStart (n := 28) (e := [(0, vS a), (1, va)]) Tryd.func87 rfl rfl rfl rfl Ends.both ?_
 have hfl := factsL_length a xs xs.length hl4
 refine Wk.seq ?_
 refine Wk.region ?_
 refine Ll.box (v := vS a) rfl rfl rfl rfl rfl fun p2 hp2 => ?_
 show Ll _ _ (Own _ _ [_]) _ _ ((2, pt_ p2) :: _) _ _ _
 refine Ll.op (v := str ([])) rfl rfl rfl (OpQ.assign rfl rfl) ?_
 refine Ll.nil ?_
 refine Kt.sel [1, 2] [_, _] rfl ?_
 refine Wk.seq ?_
 refine Wk.region ?_
 refine Ll.op rfl rfl rfl (OpQ.loadBox (cs := #[i6_ a.n, str a.set, str a.rel]) 0 rfl Tryd.isAgg24 rfl rfl Tryd.sizeOf24) ?_
 refine Ll.run 1 rfl ?_
 refine Ll.callRows (xs := [.tmp 11, .tmp 12]) (m1 := ((factsL a xs xs.length).map Prod.fst).length) (vs1 := strs ((factsL a xs xs.length).map Prod.fst)) (el1 := 9) (m2 := ((factsL a xs xs.length).map Prod.snd).length) (vs2 := bools ((factsL a xs xs.length).map Prod.snd)) (el2 := 4) rfl rfl rfl rfl Tryd.call140 rfl (fun w1 hw1 => factsOf_ok a va xs w1 ha (Row.own hva hw1) hA hl4) fun p13a cap13a cur13a p13b cap13b cur13b hp13a hcp13a hlp13a htp13a hp13b hcp13b hlp13b htp13b => ?_
 refine Ll.run 1 rfl ?_
 refine Ll.op (v := sl_ p13a (((factsL a xs xs.length).map Prod.fst).length) cap13a) rfl rfl rfl (OpQ.extract rfl rfl rfl) ?_
 refine Ll.op (v := sl_ p13b (((factsL a xs xs.length).map Prod.snd).length) cap13b) rfl rfl rfl (OpQ.extract rfl rfl rfl) ?_
 refine Ll.run 2 rfl ?_
 refine Ll.nil ?_
 refine Kt.sel [6] [_] rfl ?_
 refine Wk.seq ?_
 refine Wk.regionQ ?_
 refine Lq.op (v := str ([])) rfl rfl rfl (OpQ.assign rfl rfl) ?_
 refine Lq.nil ?_
 refine Kt.sel [6, 7] [_, _] rfl ?_
 refine Wk.seq ?_
 refine Wk.seq ?_
 refine Wk.regionQ ?_
 refine Lq.run 1 rfl ?_
 refine Lq.op rfl rfl rfl (OpQ.lenS rfl Tryd.runUnderlying108 rfl) ?_
 refine Lq.run 1 rfl ?_
 refine Lq.nil ?_
 refine Kt.sel [7, 16, 17, 18] [_, _, _, _] rfl ?_
 refine Wk.block ?_
 refine Wk.loop (σ := Nat) (fun j => j ≤ (factsL a xs xs.length).length) (fun j => [(7, str (atomsT ((factsL a xs xs.length).take j))), (16, sl_ p13b (((factsL a xs xs.length).map Prod.snd).length) cap13b), (17, i6_ ((((factsL a xs xs.length).map Prod.snd).length : Int))), (18, i6_ ((j : Int)))]) (fun j => Own w.heap.size w [bk_ p13a cur13a 9, bk_ p13b cur13b 4, bk_ p2 #[i6_ a.n, str a.set, str a.rel] 24]) (fun j => (factsL a xs xs.length).length - j) (0) (by omega) (Sub.cons rfl (Sub.sel [16, 17, 18] rfl)) (fun _ h => h) ?_
 rintro j hj
 refine Wk.seq ?_
 refine Wk.regionQ ?_
 refine Lq.run 1 rfl ?_
 refine Lq.nil ?_
 refine Kt.sel [7, 16, 17, 18, 19] [_, _, _, _, _] rfl ?_
 refine Wk.seq ?_
 refine Wk.cond (b := decide (((j : Int)) < ((((factsL a xs xs.length).map Prod.snd).length : Int)))) rfl (fun h19 => ?_) (fun h19 => ?_)
 ·
  replace h19 := of_decide_eq_true h19
  have hj2 : j < (factsL a xs xs.length).length := by rw [List.length_map] at h19; omega
  refine Wk.skip ?_
  refine Kt.sel [7, 16, 17, 18] [_, _, _, _] rfl ?_
  refine Wk.seq ?_
  refine Wk.block ?_
  refine Wk.seq ?_
  refine Wk.regionQ ?_
  refine Lq.op (v := pf_ p13b (((j : Int)).toNat)) rfl rfl rfl (OpQ.cast (by rw [Nat.zero_add]) (OpQ.indexAddr1 (i := (j : Int)) rfl Tryd.runUnderlying108 Tryd.sizeOf4 rfl rfl (by omega) (by omega))) ?_
  refine Lq.op (v := bo_ (((factsL a xs xs.length).map Prod.snd).getD (((j : Int)).toNat) false)) rfl rfl rfl (OpQ.loadAt 1 rfl Tryd.isAgg4 rfl rfl (cur_at (by simpa using htp13b) (bools_at (c := (factsL a xs xs.length).map Prod.snd) (off := ((j : Int)).toNat) (by first | (simp; done) | (simp; omega) | omega)))) ?_
  refine Lq.run 1 rfl ?_
  refine Lq.nil ?_
  refine Kt.sel [7, 9, 16, 17, 18] [_, _, _, _, _] rfl ?_
  refine Wk.regionQ ?_
  refine Lq.run 2 rfl ?_
  refine Lq.op (v := str ((if ((factsL a xs xs.length).map Prod.snd).getD (((j : Int)).toNat) false then [49] else [48]))) rfl rfl rfl (OpQ.call rfl Tryd.call141 rfl Own.stable (fun w1 hw1 => bitOf_ok (((factsL a xs xs.length).map Prod.snd).getD (((j : Int)).toNat) false) w1 )) ?_
  refine Lq.op rfl rfl rfl (OpQ.sadd rfl rfl rfl (by rw [bit_len]; simp; omega)) ?_
  refine Lq.run 1 rfl ?_
  refine Lq.nil ?_
  refine Kt.sel [7, 16, 17, 18] [_, _, _, _] rfl ?_
  refine Wk.regionQ ?_
  refine Lq.op rfl rfl rfl (OpQ.add rfl rfl rfl (by omega) (by omega)) ?_
  refine Lq.run 1 rfl ?_
  refine Lq.nil ?_
  refine Kt.again (j + 1) (by omega) (by omega) (Sub.cons (by rw [atoms_step2 hj2]; rfl) (Sub.sel [16, 17, 18] rfl)) (fun _ h => h)
 ·
  replace h19 := of_decide_eq_false h19
  refine Wk.exit rfl ?_
  refine Kt.sel [7] [_] rfl ?_
  refine Wk.seq ?_
  refine Wk.regionQ ?_
  refine Lq.run 2 rfl ?_
  refine Lq.nil ?_
  refine Kt.sel [4] [_] rfl ?_
  refine Wk.ret (Kt.end1 rfl rfl fun w' hw => ?_)
  -- ret 0: str (atomsT ((factsL a xs xs.length).take j))
  exact ⟨ret_s (by rw [List.take_of_length_le (by rw [List.length_map] at h19; omega)]), hw.below⟩

set_option maxHeartbeats 400000 in
/-- impl.listsOf -/
theorem listsOf_ok (B : Nat) (w0 : World) (hs : List (Nat × Obj)) (N W : Int) (w : World) (hN0 : 0 ≤ N) (hN8 : N ≤ 8) (hW0 : 0 ≤ W) (hW3 : W ≤ 3) (hw : Own B w0 hs w) :
    Calls Tryd.prog 86 [i6_ N, i6_ W].toArray w fun en w' => ∃ (g cap : Nat) (cur : Array Value) (rr : List RR), en = .returned (.slice (some ⟨g, 0, none⟩) rr.length cap) ∧ (RowsOk rr cur cap ∧ rr.map RR.xs = listsL N.toNat W.toNat) ∧ Own B w0 ((g, .cells cur 25 (0, 0)) :: (rowsB 3 rr ++ hs)) w' := by
 refine fnStartC (Own B w0 hs) (n := 40) (e := [(0, i6_ N), (1, i6_ W)]) Tryd.func86 rfl rfl rfl rfl Ends.both hw ?_
 refine Wk.seq ?_
 refine Wk.regionQ ?_
 refine Lq.run 1 rfl ?_
 refine Lq.nil ?_
 refine Kt.sel [0, 1] [_, _] rfl ?_
 refine Wk.seq ?_
 refine Wk.region ?_
 refine Ll.slice (xs := []) (vs := []) Base.elem25 rfl rfl rfl rfl rfl rfl (by decide) rfl fun p10 hp10 => ?_
 refine Ll.slice (xs := [.tmp 10]) (vs := [sl_ p10 0 0]) Base.elem79 rfl rfl rfl rfl rfl rfl (by decide) rfl fun p11 hp11 => ?_
 refine Ll.run 1 rfl ?_
 refine Ll.nil ?_
 refine Kt.sel [0, 1, 5] [_, _, _] rfl ?_
 refine Wk.seq ?_
 refine Wk.seq ?_
 refine Wk.regionQ ?_
 refine Lq.run 2 rfl ?_
 refine Lq.nil ?_
 refine Kt.sel [0, 5, 12, 13] [_, _, _, _] rfl ?_
 refine Wk.block ?_
 refine Wk.loop (σ := Nat × Nat × Nat × Array Value × List RR) (fun ⟨r, gO, cO, uO, rr⟩ => r ≤ W.toNat ∧ RowsOk rr uO cO ∧ rr.map RR.xs = listsL N.toNat r) (fun ⟨r, gO, cO, uO, rr⟩ => [(0, i6_ N), (5, sl_ gO rr.length cO), (12, i6_ W), (13, i6_ ((r : Int)))]) (fun ⟨r, gO, cO, uO, rr⟩ => Own B w0 (bk_ gO uO 25 :: ((rowsB 3 rr ++ hs)))) (fun ⟨r, gO, cO, uO, rr⟩ => W.toNat - r) ((0, p11, 1, _, [⟨p10, 0, #[], []⟩])) ⟨by omega, RowsOk.one p10, rfl⟩ (Sub.sel [0, 5, 12, 13] rfl) (fun _ h => h) ?_
 rintro ⟨r, gO, cO, uO, rr⟩ ⟨hr, hR, hXr⟩
 dsimp only
 have hrl : rr.length = N.toNat ^ r := by rw [← listsL_length N.toNat r, ← hXr, List.length_map]
 have h512 := pow8 (size := N.toNat) (w := r) (by omega) (by omega)
 refine Wk.seq ?_
 refine Wk.regionQ ?_
 refine Lq.run 1 rfl ?_
 refine Lq.nil ?_
 refine Kt.sel [0, 5, 12, 13, 14] [_, _, _, _, _] rfl ?_
 refine Wk.seq ?_
 refine Wk.cond (b := decide (((r : Int)) < W)) rfl (fun h14 => ?_) (fun h14 => ?_)
 ·
  replace h14 := of_decide_eq_true h14
  refine Wk.skip ?_
  refine Kt.sel [0, 5, 12, 13] [_, _, _, _] rfl ?_
  refine Wk.seq ?_
  refine Wk.block ?_
  refine Wk.seq ?_
  refine Wk.region ?_
  refine Ll.slice (xs := []) (vs := []) Base.elem79 rfl rfl rfl rfl rfl rfl (by decide) rfl fun p15 hp15 => ?_
  refine Ll.run 1 rfl ?_
  refine Ll.nil ?_
  refine Kt.sel [0, 5, 6, 12, 13] [_, _, _, _, _] rfl ?_
  refine Wk.seq ?_
  refine Wk.seq ?_
  refine Wk.regionQ ?_
  refine Lq.run 1 rfl ?_
  refine Lq.op rfl rfl rfl (OpQ.lenS rfl Tryd.runUnderlying79 rfl) ?_
  refine Lq.run 1 rfl ?_
  refine Lq.nil ?_
  refine Kt.sel [0, 6, 12, 13, 16, 17, 18] [_, _, _, _, _, _, _] rfl ?_
  refine Wk.block ?_
  refine Wk.loop (σ := Nat × Nat × Nat × Array Value × List RR) (fun ⟨i, gN, cN, uN, nn⟩ => i ≤ rr.length ∧ RowsOk nn uN cN ∧ nn.map RR.xs = nextL N.toNat ((listsL N.toNat r).take i)) (fun ⟨i, gN, cN, uN, nn⟩ => [(0, i6_ N), (6, sl_ gN nn.length cN), (12, i6_ W), (13, i6_ ((r : Int))), (16, sl_ gO rr.length cO), (17, i6_ ((rr.length : Int))), (18, i6_ ((i : Int)))]) (fun ⟨i, gN, cN, uN, nn⟩ => Own B w0 (bk_ gN uN 25 :: bk_ gO uO 25 :: ((rowsB 3 nn ++ (rowsB 3 rr ++ hs))))) (fun ⟨i, gN, cN, uN, nn⟩ => rr.length - i) ((0, p15, 0, #[], [])) ⟨by omega, RowsOk.nil, rfl⟩ (Sub.sel [0, 6, 12, 13, 16, 17, 18] rfl) (fun _ h => h) ?_
  rintro ⟨i, gN, cN, uN, nn⟩ ⟨hi, hN, hX⟩
  dsimp only
  refine Wk.seq ?_
  refine Wk.regionQ ?_
  refine Lq.run 1 rfl ?_
  refine Lq.nil ?_
  refine Kt.sel [0, 6, 12, 13, 16, 17, 18, 19] [_, _, _, _, _, _, _, _] rfl ?_
  refine Wk.seq ?_
  refine Wk.cond (b := decide (((i : Int)) < ((rr.length : Int)))) rfl (fun h19 => ?_) (fun h19 => ?_)
  ·
   replace h19 := of_decide_eq_true h19
   refine Wk.skip ?_
   refine Kt.sel [0, 6, 12, 13, 16, 17, 18] [_, _, _, _, _, _, _] rfl ?_
   refine Wk.seq ?_
   refine Wk.block ?_
   refine Wk.seq ?_
   refine Wk.regionQ ?_
   refine Lq.op (v := pf_ gO i) rfl rfl rfl (OpQ.cast (v' := pf_ gO i) (by simp) (OpQ.indexAddr1 (i := (i : Int)) rfl Tryd.runUnderlying79 Tryd.sizeOf25 rfl rfl (by omega) (by omega))) ?_
   refine Lq.op (v := rv (rr.getD i rd)) rfl rfl rfl (OpQ.loadAt (v := rv (rr.getD i rd)) 1 rfl Tryd.isAgg25 rfl rfl (by have := rvs_at (rr := rr) (i := i) (by omega); rw [← hR.vals, List.getElem?_take, if_pos (by omega)] at this; simpa using this)) ?_
   refine Lq.run 1 rfl ?_
   refine Lq.nil ?_
   refine Kt.sel [0, 6, 8, 12, 13, 16, 17, 18] [_, _, _, _, _, _, _, _] rfl ?_
   refine Wk.seq ?_
   refine Wk.regionQ ?_
   refine Lq.run 2 rfl ?_
   refine Lq.nil ?_
   refine Kt.sel [0, 6, 8, 12, 13, 16, 17, 18, 22, 23] [_, _, _, _, _, _, _, _, _, _] rfl ?_
   refine Wk.block ?_
   refine Wk.loop (σ := Nat × Nat × Nat × Array Value × List RR) (fun ⟨k, gM, cM, uM, nm⟩ => k ≤ N.toNat ∧ RowsOk nm uM cM ∧ nm.map RR.xs = nextTo N.toNat (listsL N.toNat r) i k) (fun ⟨k, gM, cM, uM, nm⟩ => [(0, i6_ N), (6, sl_ gM nm.length cM), (8, rv (rr.getD i rd)), (12, i6_ W), (13, i6_ ((r : Int))), (16, sl_ gO rr.length cO), (17, i6_ ((rr.length : Int))), (18, i6_ ((i : Int))), (22, i6_ N), (23, i6_ ((k : Int)))]) (fun ⟨k, gM, cM, uM, nm⟩ => Own B w0 (bk_ gM uM 25 :: bk_ gO uO 25 :: ((rowsB 3 nm ++ (rowsB 3 rr ++ hs))))) (fun ⟨k, gM, cM, uM, nm⟩ => N.toNat - k) ((0, gN, cN, uN, nn)) ⟨by omega, hN, by rw [nextTo_zero]; exact hX⟩ (Sub.sel [0, 6, 8, 12, 13, 16, 17, 18, 22, 23] rfl) (fun _ h => h) ?_
   rintro ⟨k, gM, cM, uM, nm⟩ ⟨hk, hN, hXm⟩
   dsimp only
   have hxl := xs_len hXr (i := i)
   have hnl := next_len hXm (by rw [listsL_length]; omega) (by omega) (by omega)
   refine Wk.seq ?_
   refine Wk.regionQ ?_
   refine Lq.run 1 rfl ?_
   refine Lq.nil ?_
   refine Kt.sel [0, 6, 8, 12, 13, 16, 17, 18, 22, 23, 24] [_, _, _, _, _, _, _, _, _, _, _] rfl ?_
   refine Wk.seq ?_
   refine Wk.cond (b := decide (((k : Int)) < N)) rfl (fun h24 => ?_) (fun h24 => ?_)
   ·
    replace h24 := of_decide_eq_true h24
    have hkn : k < N.toNat := by omega
    refine Wk.skip ?_
    refine Kt.sel [0, 6, 8, 12, 13, 16, 17, 18, 22, 23] [_, _, _, _, _, _, _, _, _, _] rfl ?_
    refine Wk.seq ?_
    refine Wk.block ?_
    refine Wk.seq ?_
    refine Wk.regionQ ?_
    refine Lq.run 2 rfl ?_
    refine Lq.nil ?_
    refine Kt.sel [0, 6, 8, 9, 12, 13, 16, 17, 18, 22, 23] [_, _, _, _, _, _, _, _, _, _, _] rfl ?_
    refine Wk.region ?_
    refine Ll.run 1 rfl ?_
    refine Ll.slice (xs := []) (vs := []) Base.elem25 rfl rfl rfl rfl rfl rfl (by decide) rfl fun p27 hp27 => ?_
    refine Ll.run 1 rfl ?_
    refine Ll.appendInts (xs := []) (ys := (rr.getD i rd).xs) Base.elem25 0 rfl rfl rfl rfl rfl rfl rfl rfl (by decide) rfl (fun w1 hw1 => (Own.ofRows (Own.drop (f := bk_ p27 #[] 3 :: bk_ gM uM 25 :: bk_ gO uO 25 :: (rowsB 3 nm)) hw1) hR.ok (i := i) (by omega))) (((rr.getD i rd).xs).length) (by first | (simp; done) | (simp; omega)) (by first | (simp; done) | (simp; omega) | omega) fun p29 cap29 cur29 hp29 hcp29 hlp29 htp29 => ?_
    show Ll _ _ (Own _ _ (_ :: _ :: _ :: ((rowsB 3 nm ++ (rowsB 3 rr ++ hs))))) _ _ ((29, sl_ p29 ((((rr.getD i rd).xs).length)) cap29) :: _) _ _ _
    refine Ll.run 1 rfl ?_
    refine Ll.slice (xs := [.tmp 30]) (vs := [i6_ ((k : Int))]) Base.elem25 rfl rfl rfl rfl rfl rfl (by decide) rfl fun p31 hp31 => ?_
    refine Ll.appendInts (xs := (rr.getD i rd).xs) (ys := [(k : Int)]) Base.elem25 1 rfl rfl rfl rfl rfl rfl rfl hcp29 hlp29 (by simpa using htp29) (fun w1 hw1 => (Own.row hw1 (i := 0) rfl (n := 1) (cap := 1) (vs := ints [(k : Int)]) rfl rfl (by decide))) ((((rr.getD i rd).xs) ++ ([(k : Int)])).length) (by first | (simp; done) | (simp; omega)) (by rw [List.length_append, List.length_singleton]; omega) fun p32 cap32 cur32 hp32 hcp32 hlp32 htp32 => ?_
    show Ll _ _ (Own _ _ (_ :: _ :: _ :: _ :: ((rowsB 3 nm ++ (rowsB 3 rr ++ hs))))) _ _ ((32, sl_ p32 (((((rr.getD i rd).xs) ++ ([(k : Int)])).length)) cap32) :: _) _ _ _
    refine Ll.slice (xs := [.tmp 32]) (vs := [sl_ p32 (((((rr.getD i rd).xs) ++ ([(k : Int)])).length)) cap32]) Base.elem79 rfl rfl rfl rfl rfl rfl (by decide) rfl fun p33 hp33 => ?_
    refine Ll.append Base.elem79 3 [sl_ p32 (((((rr.getD i rd).xs) ++ ([(k : Int)])).length)) cap32] rfl rfl rfl rfl rfl rfl rfl hN.size hN.len rfl (fun h => by cases h) (fun w1 hw1 ad had j u hj => by injection had with had; subst had; rw [Addr.add_lit, Nat.zero_add, hw1.cell (i := 0) rfl]; simpa using hj) (by simp [Value.oneCell']) (by omega) fun gq capq curq hgq hcgq hlgq htgq => ?_
    show Ll _ _ (Own _ _ (_ :: _ :: _ :: _ :: _ :: ((rowsB 3 nm ++ (rowsB 3 rr ++ hs))))) _ _ ((34, sl_ gq ((nm.length + 1)) capq) :: _) _ _ _
    refine Ll.run 1 rfl ?_
    refine Ll.nil ?_
    refine Kt.sel [0, 6, 8, 12, 13, 16, 17, 18, 22, 23] [_, _, _, _, _, _, _, _, _, _] rfl ?_
    refine Wk.regionQ ?_
    refine Lq.op rfl rfl rfl (OpQ.add rfl rfl rfl (by omega) (by omega)) ?_
    refine Lq.run 1 rfl ?_
    refine Lq.nil ?_
    refine Kt.again ((k + 1, gq, capq, curq, nm ++ [(RR.mk p32 cap32 cur32 ((rr.getD i rd).xs ++ [(k : Int)]))])) ⟨by omega, hN.add (r := (RR.mk p32 cap32 cur32 ((rr.getD i rd).xs ++ [(k : Int)]))) ⟨hcp32, hlp32, by simpa using htp32⟩ hcgq hlgq htgq, by rw [List.map_append, hXm, nextTo_step, ← hXr, map_xs (by omega)]; rfl⟩ (by omega) (Sub.cons rfl (Sub.cons (by rw [List.length_append]; rfl) (Sub.sel [8, 12, 13, 16, 17, 18, 22, 23] rfl))) (fun _ h => rows_more (cap := cap32) (xs := (rr.getD i rd).xs ++ [(k : Int)]) (f := [_, _]) (h.sub (List.Sublist.cons _ (List.Sublist.cons _ (List.Sublist.cons_cons _ (List.Sublist.cons_cons _ (List.Sublist.cons_cons _ (List.Sublist.refl _))))))))
   ·
    replace h24 := of_decide_eq_false h24
    refine Wk.exit rfl ?_
    refine Kt.sel [0, 6, 12, 13, 16, 17, 18] [_, _, _, _, _, _, _] rfl ?_
    refine Wk.regionQ ?_
    refine Lq.op rfl rfl rfl (OpQ.add rfl rfl rfl (by omega) (by omega)) ?_
    refine Lq.run 1 rfl ?_
    refine Lq.nil ?_
    refine Kt.again ((i + 1, gM, cM, uM, nm)) ⟨by omega, hN, by rw [hXm, show k = N.toNat from by omega, nextTo_end (by rw [listsL_length]; omega)]⟩ (by omega) (Sub.sel [0, 6, 12, 13, 16, 17, 18] rfl) (fun _ h => h)
  ·
   replace h19 := of_decide_eq_false h19
   have hend : nextL N.toNat ((listsL N.toNat r).take i) = nextL N.toNat (listsL N.toNat r) := by rw [List.take_of_length_le (by rw [listsL_length]; omega)]
   refine Wk.exit rfl ?_
   refine Kt.sel [0, 6, 12, 13] [_, _, _, _] rfl ?_
   refine Wk.regionQ ?_
   refine Lq.run 2 rfl ?_
   refine Lq.nil ?_
   refine Kt.sel [0, 5, 12, 13] [_, _, _, _] rfl ?_
   refine Wk.regionQ ?_
   refine Lq.op rfl rfl rfl (OpQ.add rfl rfl rfl (by omega) (by omega)) ?_
   refine Lq.run 1 rfl ?_
   refine Lq.nil ?_
   refine Kt.again ((r + 1, gN, cN, uN, nn)) ⟨by omega, hN, by rw [hX, hend]; rfl⟩ (by omega) (Sub.sel [0, 5, 12, 13] rfl) (fun _ h => rows_forget h)
 ·
  replace h14 := of_decide_eq_false h14
  refine Wk.exit rfl ?_
  refine Kt.sel [5] [_] rfl ?_
  refine Wk.seq ?_
  refine Wk.regionQ ?_
  refine Lq.run 2 rfl ?_
  refine Lq.nil ?_
  refine Kt.sel [4] [_] rfl ?_
  refine Wk.ret (Kt.end1 rfl rfl fun w' hw => ?_)
  -- ret 0: sl_ gO rr.length cO
  obtain rfl : r = W.toNat := by omega
  exact ⟨_, _, _, rr, rfl, ⟨hR, hXr⟩, hw⟩

set_option maxHeartbeats 400000 in
/-- spec.l3Power -/
theorem l3Power_ok (a : St) (W : Int) (w : World) (ha : a.Fine) (h0 : 0 ≤ W) (h3 : W ≤ 3) :
    Calls Tryd.prog 89 [vS a, i6_ W].toArray w fun en w' => en = .returned (.int .i64 ((a.n.toNat ^ W.toNat : Nat) : Int)) ∧ Below w.heap.size w w' := by
 refine fnStart (n := 17) (e := [(0, vS a), (1, i6_ W)]) Tryd.func89 rfl rfl rfl rfl Ends.both ?_
 have hm8 := ha.hi
 have hm1 := ha.lo
 refine Wk.seq ?_
 refine Wk.region ?_
 refine Ll.box (v := vS a) rfl rfl rfl rfl rfl fun p2 hp2 => ?_
 show Ll _ _ (Own _ _ [_]) _ _ ((2, pt_ p2) :: _) _ _ _
 refine Ll.run 1 rfl ?_
 refine Ll.nil ?_
 refine Kt.sel [1, 2] [_, _] rfl ?_
 refine Wk.seq ?_
 refine Wk.regionQ ?_
 refine Lq.run 1 rfl ?_
 refine Lq.nil ?_
 refine Kt.sel [1, 2, 5] [_, _, _] rfl ?_
 refine Wk.seq ?_
 refine Wk.seq ?_
 refine Wk.regionQ ?_
 refine Lq.run 1 rfl ?_
 refine Lq.nil ?_
 refine Kt.sel [1, 2, 5, 6] [_, _, _, _] rfl ?_
 refine Wk.block ?_
 refine Wk.loop (σ := Nat) (fun k => k ≤ W.toNat) (fun k => [(1, i6_ W), (2, pt_ p2), (5, i6_ (((a.n.toNat ^ k : Nat) : Int))), (6, i6_ ((k : Int)))]) (fun k => Own w.heap.size w [bk_ p2 #[i6_ a.n, str a.set, str a.rel] 24]) (fun k => W.toNat - k) (0) (by omega) (Sub.cons rfl (Sub.cons rfl (Sub.cons rfl (Sub.sel [6] rfl)))) (fun _ h => h) ?_
 rintro k hk
 have h512 := pow8 (size := a.n.toNat) (w := k) (by omega) (by omega)
 have hps := pow_mul_small (n := a.n.toNat) (k := k) (x := a.n) (by omega) hm8 h512
 refine Wk.seq ?_
 refine Wk.seq ?_
 refine Wk.regionQ ?_
 refine Lq.run 3 rfl ?_
 refine Lq.nil ?_
 refine Kt.sel [1, 2, 5, 6, 9] [_, _, _, _, _] rfl ?_
 refine Wk.cond (b := decide (((k : Int)) < W)) rfl (fun h9 => ?_) (fun h9 => ?_)
 ·
  replace h9 := of_decide_eq_true h9
  refine Wk.skip ?_
  refine Kt.sel [1, 2, 5, 6] [_, _, _, _] rfl ?_
  refine Wk.seq ?_
  refine Wk.block ?_
  refine Wk.regionQ ?_
  refine Lq.run 1 rfl ?_
  refine Lq.op rfl rfl rfl (OpQ.fieldAddr rfl Tryd.runUnderlying24 rfl Tryd.sizeOf3 rfl rfl) ?_
  refine Lq.op rfl rfl rfl (OpQ.loadOwn 0 rfl Tryd.isAgg3 rfl rfl rfl) ?_
  refine Lq.op (v := i6_ (((a.n.toNat ^ (k + 1) : Nat) : Int))) rfl rfl rfl (OpQ.cast (by rw [Nat.pow_succ, Int.natCast_mul, show ((a.n.toNat : Nat) : Int) = a.n from by omega]) (OpQ.mul rfl rfl rfl (by omega) (by omega))) ?_
  refine Lq.run 1 rfl ?_
  refine Lq.nil ?_
  refine Kt.sel [1, 2, 5, 6] [_, _, _, _] rfl ?_
  refine Wk.regionQ ?_
  refine Lq.run 1 rfl ?_
  refine Lq.op rfl rfl rfl (OpQ.add rfl rfl rfl (by omega) (by omega)) ?_
  refine Lq.run 1 rfl ?_
  refine Lq.nil ?_
  refine Kt.again (k + 1) (by omega) (by omega) (Sub.sel [1, 2, 5, 6] rfl) (fun _ h => h)
 ·
  replace h9 := of_decide_eq_false h9
  refine Wk.exit rfl ?_
  refine Kt.sel [5] [_] rfl ?_
  refine Wk.seq ?_
  refine Wk.regionQ ?_
  refine Lq.run 2 rfl ?_
  refine Lq.nil ?_
  refine Kt.sel [4] [_] rfl ?_
  refine Wk.ret (Kt.end1 rfl rfl fun w' hw => ?_)
  -- ret 0: i6_ (((a.n.toNat ^ k : Nat) : Int))
  exact ⟨ret_i (by rw [show k = W.toNat from by omega]), hw.below⟩

set_option maxHeartbeats 400000 in
/-- spec.l3Point -/
theorem l3Point_ok (a : St) (k0 W : Int) (w : World) (ha : a.Fine) (hk0 : 0 ≤ k0) (hk9 : k0 ≤ 1000000) (h0 : 0 ≤ W) (h3 : W ≤ 3) :
    Calls Tryd.prog 90 [vS a, i6_ k0, i6_ W].toArray w fun en w' => en = .returned (.agg (ints (pArr a.n.toNat W.toNat k0.toNat)).toArray) ∧ Below w.heap.size w w' := by
 refine fnStart (n := 27) (e := [(0, vS a), (1, i6_ k0), (2, i6_ W)]) Tryd.func90 rfl rfl rfl rfl Ends.both ?_
 have hm8 := ha.hi
 have hm1 := ha.lo
 refine Wk.seq ?_
 refine Wk.region ?_
 refine Ll.box (v := vS a) rfl rfl rfl rfl rfl fun p3 hp3 => ?_
 show Ll _ _ (Own _ _ [_]) _ _ ((3, pt_ p3) :: _) _ _ _
 refine Ll.alloc rfl rfl rfl rfl Tryd.zeroValue82 fun p6 hp6 => ?_
 show Ll _ _ (Own _ _ [bk_ p6 #[i6_ 0, i6_ 0, i6_ 0, i6_ 0] 82, _]) _ _ ((6, pt_ p6) :: _) _ _ _
 refine Ll.nil ?_
 refine Kt.sel [1, 2, 3, 6] [_, _, _, _] rfl ?_
 refine Wk.seq ?_
 refine Wk.region ?_
 refine Ll.op (v := .agg #[i6_ 0, i6_ 0, i6_ 0, i6_ 0]) rfl rfl rfl (OpQ.build (xs := []) (vs := []) rfl rfl (by kernel_rfl)) ?_
 refine Ll.alloc rfl rfl rfl rfl Tryd.zeroValue82 fun p7 hp7 => ?_
 show Ll _ _ (Own _ _ [bk_ p7 #[i6_ 0, i6_ 0, i6_ 0, i6_ 0] 82, _, _]) _ _ ((7, pt_ p7) :: _) _ _ _
 refine Ll.storeBox (cs' := #[i6_ 0, i6_ 0, i6_ 0, i6_ 0]) (hs' := [bk_ p7 #[i6_ 0, i6_ 0, i6_ 0, i6_ 0] 82, _, _]) 0 rfl rfl rfl rfl rfl (by kernel_rfl : _ = some Tryd.t82) rfl rfl rfl rfl rfl ?_
 refine Ll.nil ?_
 refine Kt.sel [1, 2, 3, 6, 7] [_, _, _, _, _] rfl ?_
 refine Wk.seq ?_
 refine Wk.seq ?_
 refine Wk.regionQ ?_
 refine Lq.run 1 rfl ?_
 refine Lq.op rfl rfl rfl (OpQ.sub rfl rfl rfl (by omega) (by omega)) ?_
 refine Lq.run 1 rfl ?_
 refine Lq.nil ?_
 refine Kt.sel [1, 3, 6, 7, 8] [_, _, _, _, _] rfl ?_
 refine Wk.block ?_
 refine Wk.loop (σ := Nat × Nat × List Int) (fun ⟨j, K, T⟩ => j ≤ W.toNat ∧ (K : Int) ≤ k0 ∧ T.length + j = 4 ∧ pointL a.n.toNat j K ++ T = pArr a.n.toNat W.toNat k0.toNat) (fun ⟨j, K, T⟩ => [(1, i6_ ((K : Int))), (3, pt_ p3), (6, pt_ p6), (7, pt_ p7), (8, i6_ ((j : Int) - 1))]) (fun ⟨j, K, T⟩ => Own w.heap.size w [bk_ p7 ((ints (List.replicate j 0 ++ T)).toArray) 82, bk_ p6 #[i6_ 0, i6_ 0, i6_ 0, i6_ 0] 82, bk_ p3 #[i6_ a.n, str a.set, str a.rel] 24]) (fun ⟨j, K, T⟩ => j) ((W.toNat, k0.toNat, List.replicate (4 - W.toNat) 0)) ⟨Nat.le_refl _, by omega, by simp; omega, rfl⟩ (Sub.cons (by simp [List.lookup]; omega) (Sub.cons rfl (Sub.cons rfl (Sub.cons rfl (Sub.cons (by simp [List.lookup]; omega) Sub.nil))))) (fun _ h => by dsimp only; rw [List.replicate_append_replicate, show W.toNat + (4 - W.toNat) = 4 from by omega]; exact h) ?_
 rintro ⟨j, K, T⟩ ⟨hj, hK, hT, hP⟩
 dsimp only
 refine Wk.seq ?_
 refine Wk.seq ?_
 refine Wk.regionQ ?_
 refine Lq.run 2 rfl ?_
 refine Lq.nil ?_
 refine Kt.sel [1, 3, 6, 7, 8, 13] [_, _, _, _, _, _] rfl ?_
 refine Wk.cond (b := decide ((0 : Int) ≤ ((j : Int) - 1))) rfl (fun h13 => ?_) (fun h13 => ?_)
 ·
  replace h13 := of_decide_eq_true h13
  have hj1 : 0 < j := by omega
  have hmc : ((a.n.toNat : Nat) : Int) = a.n := by omega
  refine Wk.skip ?_
  refine Kt.sel [1, 3, 6, 7, 8] [_, _, _, _, _] rfl ?_
  refine Wk.seq ?_
  refine Wk.block ?_
  refine Wk.seq ?_
  refine Wk.region ?_
  refine Ll.run 2 rfl ?_
  refine Ll.op rfl rfl rfl (OpQ.fieldAddr rfl Tryd.runUnderlying24 rfl Tryd.sizeOf3 rfl rfl) ?_
  refine Ll.op rfl rfl rfl (OpQ.loadOwn 2 rfl Tryd.isAgg3 rfl rfl rfl) ?_
  refine Ll.op (v := i6_ (((K % a.n.toNat : Nat) : Int))) rfl rfl rfl (OpQ.cast (by rw [Int.natCast_emod, hmc]) (OpQ.rem rfl rfl rfl (by omega) (by omega))) ?_
  refine Ll.op (v := pf_ p7 ((j - 1))) rfl rfl rfl (OpQ.cast (v' := pf_ p7 ((j - 1))) (by congr 3; omega) (OpQ.indexArr (i := (j : Int) - 1) rfl Tryd.runUnderlying82 Tryd.sizeOf3 rfl rfl (by omega) (by omega))) ?_
  refine Ll.store1 (v := i6_ (((K % a.n.toNat : Nat) : Int))) (hs' := [bk_ p7 ((ints ((List.replicate j 0 ++ T).set ((j - 1)) (((K % a.n.toNat : Nat) : Int)))).toArray) 82, _, _]) 0 rfl rfl rfl rfl rfl rfl Tryd.sizeOf3 rfl (by simp; omega) (by first | (rw [ints_set]; rfl) | (simp only [Nat.zero_add]; rw [ints_set]; rfl)) ?_
  refine Ll.nil ?_
  refine Kt.sel [1, 3, 6, 7, 8] [_, _, _, _, _] rfl ?_
  refine Wk.regionQ ?_
  refine Lq.run 1 rfl ?_
  refine Lq.op rfl rfl rfl (OpQ.fieldAddr rfl Tryd.runUnderlying24 rfl Tryd.sizeOf3 rfl rfl) ?_
  refine Lq.op rfl rfl rfl (OpQ.loadOwn 2 rfl Tryd.isAgg3 rfl rfl rfl) ?_
  refine Lq.op (v := i6_ (((K / a.n.toNat : Nat) : Int))) rfl rfl rfl (OpQ.cast (by rw [Int.natCast_ediv, hmc]) (OpQ.quo rfl rfl rfl (by omega) (by omega) (by omega))) ?_
  refine Lq.run 1 rfl ?_
  refine Lq.nil ?_
  refine Kt.sel [1, 3, 6, 7, 8] [_, _, _, _, _] rfl ?_
  refine Wk.regionQ ?_
  refine Lq.run 1 rfl ?_
  refine Lq.op rfl rfl rfl (OpQ.sub rfl rfl rfl (by omega) (by omega)) ?_
  refine Lq.run 1 rfl ?_
  refine Lq.nil ?_
  refine Kt.again ((j - 1, K / a.n.toNat, ((K % a.n.toNat : Nat) : Int) :: T)) ⟨by omega, by have := Nat.div_le_self K a.n.toNat; dsimp only; omega, by simp; omega, by rw [← hP, point_step hj1, List.append_assoc]; rfl⟩ (by omega) (Sub.cons rfl (Sub.cons rfl (Sub.cons rfl (Sub.cons rfl (Sub.cons (by simp [List.lookup]; omega) Sub.nil))))) (fun _ h => by dsimp only; rw [← rep_set2 hj1]; exact h)
 ·
  replace h13 := of_decide_eq_false h13
  have hj0 : j = 0 := by omega
  have hPe : List.replicate j 0 ++ T = pArr a.n.toNat W.toNat k0.toNat := by rw [← hP, hj0]; rfl
  refine Wk.exit rfl ?_
  refine Kt.sel [6, 7] [_, _] rfl ?_
  refine Wk.seq ?_
  refine Wk.region ?_
  refine Ll.op rfl rfl rfl (OpQ.loadBox (cs := (ints (List.replicate j 0 ++ T)).toArray) 0 rfl Tryd.isAgg82 rfl rfl (by intro w; rw [show (ints (List.replicate j 0 ++ T)).toArray.size = 4 from by simp; omega]; exact Tryd.sizeOf82 w)) ?_
  refine Ll.storeBox (cs' := (ints (List.replicate j 0 ++ T)).toArray) (hs' := [_, bk_ p6 ((ints (List.replicate j 0 ++ T)).toArray) 82, _]) 1 rfl rfl rfl rfl rfl (by kernel_rfl : _ = some Tryd.t82) (by rw [show (ints (List.replicate j 0 ++ T)).toArray.size = 4 from by simp; omega]; rfl) rfl (by rw [show (ints (List.replicate j 0 ++ T)).toArray.size = 4 from by simp; omega]; rfl) (by simp [ints, Value.oneCell']) rfl ?_
  refine Ll.nil ?_
  refine Kt.sel [6] [_] rfl ?_
  refine Wk.ret (Kt.endBox (cs := (ints (List.replicate j 0 ++ T)).toArray) 1 rfl rfl rfl Tryd.isAgg82 (by intro w; rw [show (ints (List.replicate j 0 ++ T)).toArray.size = 4 from by simp; omega]; exact Tryd.sizeOf82 w) fun w' hw => ?_)
  -- ret 0: pt_ p6
  exact ⟨by rw [← hPe], hw.below⟩

set_option maxHeartbeats 400000 in
/-- spec.l4Seen -/
theorem l4Seen_ok (va : Value) (l : List (List UInt8)) (s : List UInt8) (w : World) (hva : Strs w va l) (hs : l.length ≤ 100000) :
    Calls Tryd.prog 92 [va, str s].toArray w fun en w' => en = .returned (.int .i64 (seenI l s)) ∧ Below w.heap.size w w' := by
 refine fnStart (n := 19) (e := [(0, va), (1, str s)]) Tryd.func92 rfl rfl rfl rfl Ends.both ?_
 refine Wk.seq ?_
 refine Wk.regionQ ?_
 refine Lq.run 1 rfl ?_
 refine Lq.nil ?_
 refine Kt.sel [0, 1] [_, _] rfl ?_
 refine Wk.seq ?_
 refine Wk.seq ?_
 refine Wk.regionQ ?_
 refine Lq.run 1 rfl ?_
 refine Lq.nil ?_
 refine Kt.sel [0, 1, 5] [_, _, _] rfl ?_
 refine Wk.block ?_
 refine Wk.loop (σ := Nat) (fun k => k ≤ l.length ∧ ∀ i : Nat, i < k → (l.getD i [] == s) = false) (fun k => [(0, va), (1, str s), (5, i6_ ((k : Int)))]) (fun k => Own w.heap.size w []) (fun k => l.length - k) (0) ⟨by omega, fun i hi => absurd hi (by omega)⟩ (Sub.sel [0, 1, 5] rfl) (fun _ h => h) ?_
 rintro k ⟨hk, hall⟩
 refine Wk.seq ?_
 refine Wk.seq ?_
 refine Wk.regionQ ?_
 refine Lq.run 2 rfl ?_
 refine Lq.op (v := i6_ ((l.length : Int))) rfl rfl rfl (OpQ.lenRow rfl Tryd.runUnderlying52 rfl (strs_length _) (fun w1 hw1 => Row.own hva hw1)) ?_
 refine Lq.run 1 rfl ?_
 refine Lq.nil ?_
 refine Kt.sel [0, 1, 5, 9] [_, _, _, _] rfl ?_
 refine Wk.cond (b := decide (((k : Int)) < ((l.length : Int)))) rfl (fun h9 => ?_) (fun h9 => ?_)
 ·
  replace h9 := of_decide_eq_true h9
  refine Wk.skip ?_
  refine Kt.sel [0, 1, 5] [_, _, _] rfl ?_
  refine Wk.seq ?_
  refine Wk.block ?_
  refine Wk.seq ?_
  refine Wk.regionQ ?_
  refine Lq.run 2 rfl ?_
  refine Lq.op (v := .pointer (some (sAt va ((k : Int))))) rfl rfl rfl (OpQ.atRow rfl Tryd.runUnderlying52 Tryd.sizeOf9 rfl rfl (by omega) (by rw [strs_length]; omega) (fun w1 hw1 => Row.own hva hw1)) ?_
  refine Lq.op (v := str (l.getD (((k : Int)).toNat) [])) rfl rfl rfl (OpQ.load1 rfl Tryd.isAgg9 rfl (fun w1 hw1 => Strs.cell (Row.own hva hw1) (by omega) (by omega))) ?_
  refine Lq.run 1 rfl ?_
  refine Lq.op rfl rfl rfl (OpQ.seql rfl rfl rfl) ?_
  refine Lq.nil ?_
  refine Kt.sel [0, 1, 5, 17] [_, _, _, _] rfl ?_
  refine Wk.cond (b := (l.getD (((k : Int)).toNat) []) == s) rfl (fun h17 => ?_) (fun h17 => ?_)
  ·
   refine Wk.seq ?_
   refine Wk.regionQ ?_
   refine Lq.run 2 rfl ?_
   refine Lq.nil ?_
   refine Kt.sel [4] [_] rfl ?_
   refine Wk.ret (Kt.end1 rfl rfl fun w' hw => ?_)
   -- ret 0: i6_ ((k : Int))
   exact ⟨ret_i (seenI_at (k := k) (by omega) hall (by simpa using h17)).symm, hw.below⟩
  ·
   refine Wk.skip ?_
   refine Kt.sel [0, 1, 5] [_, _, _] rfl ?_
   refine Wk.regionQ ?_
   refine Lq.run 1 rfl ?_
   refine Lq.op rfl rfl rfl (OpQ.add rfl rfl rfl (by omega) (by omega)) ?_
   refine Lq.run 1 rfl ?_
   refine Lq.nil ?_
   refine Kt.again (k + 1) ⟨by omega, fun i hi => (Nat.lt_succ_iff_lt_or_eq.1 hi).elim (hall i) (fun e => by subst e; simpa using h17)⟩ (by omega) (Sub.sel [0, 1, 5] rfl) (fun _ h => h)
 ·
  replace h9 := of_decide_eq_false h9
  refine Wk.exit rfl ?_
  refine Kt.sel [] [] rfl ?_
  refine Wk.seq ?_
  refine Wk.regionQ ?_
  refine Lq.run 1 rfl ?_
  refine Lq.nil ?_
  refine Kt.sel [4] [_] rfl ?_
  refine Wk.ret (Kt.end1 rfl rfl fun w' hw => ?_)
  -- ret 1: i6_ (-1)
  exact ⟨ret_i (seenI_no (fun i hi => hall i (by omega))).symm, hw.below⟩

set_option maxHeartbeats 400000 in
/-- spec.CountKinds -/
theorem sKinds_ok (a : St) (W : Int) (w : World) (hsa : a.Small) (loa : -9223372036854775808 ≤ a.n) (hia : a.n ≤ 9223372036854775807) :
    Calls Tryd.prog 31 [vS a, i6_ W].toArray w fun en w' => en = .returned (.int .i64 (kindsI a W)) ∧ Below w.heap.size w w' := by
 refine fnStart (n := 47) (e := [(0, vS a), (1, i6_ W)]) Tryd.func31 rfl rfl rfl rfl Ends.both ?_
 refine Wk.seq ?_
 refine Wk.region ?_
 refine Ll.box (v := vS a) rfl rfl rfl rfl rfl fun p2 hp2 => ?_
 show Ll _ _ (Own _ _ [_]) _ _ ((2, pt_ p2) :: _) _ _ _
 refine Ll.run 1 rfl ?_
 refine Ll.nil ?_
 refine Kt.sel [1, 2] [_, _] rfl ?_
 refine Wk.seq ?_
 refine Wk.region ?_
 refine Ll.slice (xs := []) (vs := []) Base.elem52 rfl rfl rfl rfl rfl rfl (by decide) rfl fun p10 hp10 => ?_
 refine Ll.run 1 rfl ?_
 refine Ll.nil ?_
 refine Kt.sel [1, 2, 5] [_, _, _] rfl ?_
 refine Wk.seq ?_
 refine Wk.seq ?_
 refine Wk.regionQ ?_
 refine Lq.op rfl rfl rfl (OpQ.loadBox (cs := #[i6_ a.n, str a.set, str a.rel]) 1 rfl Tryd.isAgg24 rfl rfl Tryd.sizeOf24) ?_
 refine Lq.op (v := bo_ (validB a)) rfl rfl rfl (OpQ.call rfl Tryd.call88 rfl Own.stable (fun w1 hw1 => sValid_ok a w1 hsa)) ?_
 refine Lq.run 2 rfl ?_
 refine Lq.bool fun b14 hg14 => ?_
 cases b14
 ·
  replace hg14 := not_false hg14
  refine Lq.run 1 rfl ?_
  refine Lq.op (v := bo_ (inB W 0 3)) rfl rfl rfl (OpQ.call rfl Tryd.call75 rfl Own.stable (fun w1 hw1 => l1In_ok W 0 3 w1 )) ?_
  refine Lq.run 2 rfl ?_
  refine Lq.nil ?_
  refine Kt.sel [1, 2, 5, 18] [_, _, _, _] rfl ?_
  refine Wk.cond (b := !(inB W 0 3)) rfl (fun h18 => ?_) (fun h18 => ?_)
  ·
   replace h18 := not_true h18
   refine Wk.seq ?_
   refine Wk.regionQ ?_
   refine Lq.run 1 rfl ?_
   refine Lq.nil ?_
   refine Kt.sel [4] [_] rfl ?_
   refine Wk.ret (Kt.end1 rfl rfl fun w' hw => ?_)
   -- ret 0: i6_ (-1)
   exact ⟨ret_i (by unfold kindsI; first | (rw [if_neg (by simp_all)]; done) | (rw [if_pos (by unfold inB; simp [hV, h0, h3]), List.take_of_length_le (by rw [kindsL_length]; omega)])), hw.below⟩
  ·
   replace h18 := not_false h18
   have hV : validB a = true := by simp_all
   have ha := validB_fine hV
   have hm8 := ha.hi
   have hm1 := ha.lo
   have hW : 0 ≤ W ∧ W ≤ 3 := by unfold inB at *; simp_all
   obtain ⟨h0, h3⟩ := hW
   have h512 := pow8 (size := a.n.toNat) (w := W.toNat) (by omega) (by omega)
   refine Wk.skip ?_
   refine Kt.sel [1, 2, 5] [_, _, _] rfl ?_
   refine Wk.seq ?_
   refine Wk.seq ?_
   refine Wk.regionQ ?_
   refine Lq.run 1 rfl ?_
   refine Lq.nil ?_
   refine Kt.sel [1, 2, 5, 6] [_, _, _, _] rfl ?_
   refine Wk.block ?_
   refine Wk.loop (σ := Nat × Nat × Nat × Array Value) (fun ⟨k, g, c, cur⟩ => (k ≤ a.n.toNat ^ W.toNat) ∧ w.heap.size ≤ g ∧ cur.size = c * 1 ∧ ((dedup ((kindsL a W.toNat).take k))).length ≤ c ∧ cur.toList.take (((dedup ((kindsL a W.toNat).take k))).length * 1) = strs ((dedup ((kindsL a W.toNat).take k)))) (fun ⟨k, g, c, cur⟩ => [(1, i6_ W), (2, pt_ p2), (5, sl_ g (((dedup ((kindsL a W.toNat).take k))).length) c), (6, i6_ ((k : Int)))]) (fun ⟨k, g, c, cur⟩ => Own w.heap.size w [bk_ g cur 9, bk_ p2 #[i6_ a.n, str a.set, str a.rel] 24]) (fun ⟨k, g, c, cur⟩ => (a.n.toNat ^ W.toNat) - k) ((0, p10, 0, #[])) ⟨by omega, hp10, rfl, Nat.le_refl 0, rfl⟩ (Sub.sel [1, 2, 5, 6] rfl) (fun _ h => h) ?_
   rintro ⟨k, g, c, cur⟩ ⟨hk, hg, hc, hl, ht⟩
   dsimp only
   have hdl := dedup_take (kindsL a W.toNat) k
   refine Wk.seq ?_
   refine Wk.seq ?_
   refine Wk.regionQ ?_
   refine Lq.run 1 rfl ?_
   refine Lq.op rfl rfl rfl (OpQ.loadBox (cs := #[i6_ a.n, str a.set, str a.rel]) 1 rfl Tryd.isAgg24 rfl rfl Tryd.sizeOf24) ?_
   refine Lq.run 1 rfl ?_
   refine Lq.op (v := i6_ (((a.n.toNat ^ W.toNat : Nat) : Int))) rfl rfl rfl (OpQ.call rfl Tryd.call89 rfl Own.stable (fun w1 hw1 => l3Power_ok a W w1 ha h0 h3)) ?_
   refine Lq.run 1 rfl ?_
   refine Lq.nil ?_
   refine Kt.sel [1, 2, 5, 6, 23] [_, _, _, _, _] rfl ?_
   refine Wk.cond (b := decide (((k : Int)) < (((a.n.toNat ^ W.toNat : Nat) : Int)))) rfl (fun h23 => ?_) (fun h23 => ?_)
   ·
    replace h23 := of_decide_eq_true h23
    have hkp : k < a.n.toNat ^ W.toNat := by omega
    have hkl : k < (kindsL a W.toNat).length := by rw [kindsL_length]; exact hkp
    refine Wk.skip ?_
    refine Kt.sel [1, 2, 5, 6] [_, _, _, _] rfl ?_
    refine Wk.seq ?_
    refine Wk.block ?_
    refine Wk.seq ?_
    refine Wk.region ?_
    refine Ll.op rfl rfl rfl (OpQ.loadBox (cs := #[i6_ a.n, str a.set, str a.rel]) 1 rfl Tryd.isAgg24 rfl rfl Tryd.sizeOf24) ?_
    refine Ll.run 2 rfl ?_
    refine Ll.op (v := .agg ((ints (pArr a.n.toNat W.toNat ((k : Int)).toNat)).toArray)) rfl rfl rfl (OpQ.call rfl Tryd.call90 rfl Own.stable (fun w1 hw1 => l3Point_ok a ((k : Int)) W w1 ha (by omega) (by omega) h0 h3)) ?_
    refine Ll.alloc rfl rfl rfl rfl Tryd.zeroValue82 fun p7 hp7 => ?_
    show Ll _ _ (Own _ _ [bk_ p7 #[i6_ 0, i6_ 0, i6_ 0, i6_ 0] 82, _, _]) _ _ ((7, pt_ p7) :: _) _ _ _
    refine Ll.storeBox (cs' := (ints (pArr a.n.toNat W.toNat ((k : Int)).toNat)).toArray) (hs' := [bk_ p7 ((ints (pArr a.n.toNat W.toNat ((k : Int)).toNat)).toArray) 82, _, _]) 0 rfl rfl rfl rfl rfl (by kernel_rfl : _ = some Tryd.t82) (by rw [show (ints (pArr a.n.toNat W.toNat ((k : Int)).toNat)).toArray.size = 4 from by simp [pArr]; omega]; rfl) rfl (by rw [show (ints (pArr a.n.toNat W.toNat ((k : Int)).toNat)).toArray.size = 4 from by simp [pArr]; omega]; rfl) (by simp [ints, Value.oneCell']) rfl ?_
    refine Ll.nil ?_
    refine Kt.sel [1, 2, 5, 6, 7] [_, _, _, _, _] rfl ?_
    refine Wk.seq ?_
    refine Wk.regionD Base.mixed (fun _ h => h.drawn) (by kernel_rfl) ?_
    refine Lq.op rfl rfl rfl (OpQ.loadBox (cs := #[i6_ a.n, str a.set, str a.rel]) 2 rfl Tryd.isAgg24 rfl rfl Tryd.sizeOf24) ?_
    refine Lq.run 1 rfl ?_
    refine Lq.op (v := sl_ p7 W.toNat 4) rfl rfl rfl (OpQ.sliceArr (i := W) rfl Tryd.runUnderlying82 Tryd.sizeOf3 rfl rfl (by omega) (by omega) (by decide)) ?_
    refine Lq.op (v := .tuple #[str ((kindsL a W.toNat).getD k []), bo_ true]) rfl rfl rfl (OpQ.cast (by rw [atoms_point hV (by omega), ← kinds_at ha hkp, listB_point hV (by omega)]) (OpQ.call rfl Tryd.call91 rfl Own.stable (fun w1 hw1 => sAtoms_ok a (sl_ p7 W.toNat 4) (pointL a.n.toNat W.toNat k) w1 hsa (Own.rowPt hw1 (i := 0) (k := k) rfl (by omega)) (by simp; omega) loa hia))) ?_
    refine Lq.run 1 rfl ?_
    refine Lq.op (v := str ((kindsL a W.toNat).getD k [])) rfl rfl rfl (OpQ.extract rfl rfl rfl) ?_
    refine Lq.op (v := bo_ true) rfl rfl rfl (OpQ.extract rfl rfl rfl) ?_
    refine Lq.run 2 rfl ?_
    refine Lq.nil ?_
    refine Kt.sel [1, 2, 5, 6, 8] [_, _, _, _, _] rfl ?_
    refine Wk.seq ?_
    refine Wk.regionQ ?_
    refine Lq.run 2 rfl ?_
    refine Lq.op (v := i6_ (seenI ((dedup ((kindsL a W.toNat).take k))) ((kindsL a W.toNat).getD k []))) rfl rfl rfl (OpQ.call rfl Tryd.call92 rfl Own.stable (fun w1 hw1 => l4Seen_ok (sl_ g (((dedup ((kindsL a W.toNat).take k))).length) c) ((dedup ((kindsL a W.toNat).take k))) ((kindsL a W.toNat).getD k []) w1 (Own.row hw1 (i := 1) rfl (by simpa using ht) (by simp) hl) (by omega))) ?_
    refine Lq.run 1 rfl ?_
    refine Lq.nil ?_
    refine Kt.sel [1, 2, 5, 6, 8, 40] [_, _, _, _, _, _] rfl ?_
    refine Wk.cond (b := decide ((seenI ((dedup ((kindsL a W.toNat).take k))) ((kindsL a W.toNat).getD k [])) < (0 : Int))) rfl (fun h40 => ?_) (fun h40 => ?_)
    ·
     replace h40 := of_decide_eq_true h40
     have hnew := (dedup_step hkl).trans (addK_new (seenI_neg.1 h40))
     refine Wk.region ?_
     refine Ll.run 2 rfl ?_
     refine Ll.slice (xs := [.tmp 42]) (vs := [str ((kindsL a W.toNat).getD k [])]) Base.elem52 rfl rfl rfl rfl rfl rfl (by decide) rfl fun p43 hp43 => ?_
     refine Ll.appendStrs (xs := (dedup ((kindsL a W.toNat).take k))) (ys := ([(kindsL a W.toNat).getD k []] : List (List UInt8))) Base.elem52 2 rfl rfl rfl rfl rfl rfl rfl hc hl (by simpa using ht) (fun w1 hw1 => (Own.row hw1 (i := 0) rfl (n := 1) (cap := 1) (vs := strs ([(kindsL a W.toNat).getD k []] : List (List UInt8))) rfl rfl (by decide))) ((((dedup ((kindsL a W.toNat).take k))) ++ (([(kindsL a W.toNat).getD k []] : List (List UInt8)))).length) (by first | (simp; done) | (simp; omega)) (by first | (simp; done) | (simp; omega) | omega) fun p44 cap44 cur44 hp44 hcp44 hlp44 htp44 => ?_
     show Ll _ _ (Own _ _ [_, _, _, _]) _ _ ((44, sl_ p44 (((((dedup ((kindsL a W.toNat).take k))) ++ (([(kindsL a W.toNat).getD k []] : List (List UInt8)))).length)) cap44) :: _) _ _ _
     refine Ll.run 1 rfl ?_
     refine Ll.nil ?_
     refine Kt.sel [1, 2, 5, 6] [_, _, _, _] rfl ?_
     refine Wk.regionQ ?_
     refine Lq.run 1 rfl ?_
     refine Lq.op rfl rfl rfl (OpQ.add rfl rfl rfl (by omega) (by omega)) ?_
     refine Lq.run 1 rfl ?_
     refine Lq.nil ?_
     refine Kt.again ((k + 1, p44, cap44, cur44)) ⟨by omega, by omega, hcp44, by rw [hnew]; exact hlp44, by rw [hnew]; exact htp44⟩ (by omega) (Sub.cons rfl (Sub.cons rfl (Sub.cons (by rw [hnew]; rfl) (Sub.sel [6] rfl)))) (fun _ h => h.tail.tail)
    ·
     replace h40 := of_decide_eq_false h40
     have hold := (dedup_step hkl).trans (addK_old (fun h => h40 (seenI_neg.2 h)))
     refine Wk.skip ?_
     refine Kt.sel [1, 2, 5, 6] [_, _, _, _] rfl ?_
     refine Wk.regionQ ?_
     refine Lq.run 1 rfl ?_
     refine Lq.op rfl rfl rfl (OpQ.add rfl rfl rfl (by omega) (by omega)) ?_
     refine Lq.run 1 rfl ?_
     refine Lq.nil ?_
     refine Kt.again ((k + 1, g, c, cur)) ⟨by omega, hg, hc, by rw [hold]; exact hl, by rw [hold]; exact ht⟩ (by omega) (Sub.cons rfl (Sub.cons rfl (Sub.cons (by rw [hold]; rfl) (Sub.sel [6] rfl)))) (fun _ h => h.tail)
   ·
    replace h23 := of_decide_eq_false h23
    refine Wk.exit rfl ?_
    refine Kt.sel [5] [_] rfl ?_
    refine Wk.seq ?_
    refine Wk.regionQ ?_
    refine Lq.run 1 rfl ?_
    refine Lq.op rfl rfl rfl (OpQ.lenS rfl Tryd.runUnderlying52 rfl) ?_
    refine Lq.run 1 rfl ?_
    refine Lq.nil ?_
    refine Kt.sel [4] [_] rfl ?_
    refine Wk.ret (Kt.end1 rfl rfl fun w' hw => ?_)
    -- ret 1: i6_ ((((dedup ((kindsL a W.toNat).take k))).length : Int))
    exact ⟨ret_i (by unfold kindsI; first | (rw [if_neg (by simp_all)]; done) | (rw [if_pos (by unfold inB; simp [hV, h0, h3]), List.take_of_length_le (by rw [kindsL_length]; omega)])), hw.below⟩
 ·
  replace hg14 := not_true hg14
  refine Lq.pass rfl rfl rfl ?_
  refine Lq.pass rfl rfl rfl ?_
  refine Lq.pass rfl rfl rfl ?_
  refine Lq.run 1 rfl ?_
  refine Lq.nil ?_
  refine Kt.sel [1, 2, 5, 18] [_, _, _, _] rfl ?_
  refine Wk.condT rfl ?_
  refine Wk.seq ?_
  refine Wk.regionQ ?_
  refine Lq.run 1 rfl ?_
  refine Lq.nil ?_
  refine Kt.sel [4] [_] rfl ?_
  refine Wk.ret (Kt.end1 rfl rfl fun w' hw => ?_)
  -- ret 2: i6_ (-1)
  exact ⟨ret_i (by unfold kindsI; first | (rw [if_neg (by simp_all)]; done) | (rw [if_pos (by unfold inB; simp [hV, h0, h3]), List.take_of_length_le (by rw [kindsL_length]; omega)])), hw.below⟩

set_option maxHeartbeats 400000 in
/-- impl.CountKinds -/
theorem iKinds_ok (a : St) (W : Int) (w : World) (hsa : a.Small) :
    Calls Tryd.prog 30 [vS a, i6_ W].toArray w fun en w' => en = .returned (.int .i64 (kindsI a W)) ∧ Below w.heap.size w w' := by
 refine fnStart (n := 36) (e := [(0, vS a), (1, i6_ W)]) Tryd.func30 rfl rfl rfl rfl Ends.both ?_
 refine Wk.seq ?_
 refine Wk.region ?_
 refine Ll.box (v := vS a) rfl rfl rfl rfl rfl fun p2 hp2 => ?_
 show Ll _ _ (Own _ _ [_]) _ _ ((2, pt_ p2) :: _) _ _ _
 refine Ll.run 1 rfl ?_
 refine Ll.nil ?_
 refine Kt.sel [1, 2] [_, _] rfl ?_
 refine Wk.seq ?_
 refine Wk.seq ?_
 refine Wk.regionQ ?_
 refine Lq.op rfl rfl rfl (OpQ.loadBox (cs := #[i6_ a.n, str a.set, str a.rel]) 0 rfl Tryd.isAgg24 rfl rfl Tryd.sizeOf24) ?_
 refine Lq.op (v := bo_ (validB a)) rfl rfl rfl (OpQ.call rfl Tryd.call68 rfl Own.stable (fun w1 hw1 => isStructure_ok a w1 hsa)) ?_
 refine Lq.run 2 rfl ?_
 refine Lq.bool fun b11 hg11 => ?_
 cases b11
 ·
  replace hg11 := not_false hg11
  refine Lq.run 4 rfl ?_
  refine Lq.bool fun b15 hg15 => ?_
  cases b15
  ·
   replace hg15 := of_decide_eq_false hg15
   refine Lq.run 3 rfl ?_
   refine Lq.nil ?_
   refine Kt.sel [1, 2, 18] [_, _, _] rfl ?_
   refine Wk.cond (b := decide ((3 : Int) < W)) rfl (fun h18 => ?_) (fun h18 => ?_)
   ·
    replace h18 := of_decide_eq_true h18
    refine Wk.seq ?_
    refine Wk.regionQ ?_
    refine Lq.run 1 rfl ?_
    refine Lq.nil ?_
    refine Kt.sel [4] [_] rfl ?_
    refine Wk.ret (Kt.end1 rfl rfl fun w' hw => ?_)
    -- ret 0: i6_ (-1)
    exact ⟨ret_i (by unfold kindsI; first | (rw [if_neg (by unfold inB; first | (simp_all; done) | (simp_all; omega))]; done) | (rw [if_pos (by unfold inB; simp [hV, h0, h3]), List.take_of_length_le (by rw [kindsL_length]; omega)])), hw.below⟩
   ·
    replace h18 := of_decide_eq_false h18
    have hV : validB a = true := by simp_all
    have ha := validB_fine hV
    have hm8 := ha.hi
    have hm1 := ha.lo
    have h0 : 0 ≤ W := by omega
    have h3 : W ≤ 3 := by omega
    have h512 := pow8 (size := a.n.toNat) (w := W.toNat) (by omega) (by omega)
    refine Wk.skip ?_
    refine Kt.sel [1, 2] [_, _] rfl ?_
    refine Wk.seq ?_
    refine Wk.region ?_
    refine Ll.makeMap rfl rfl rfl rfl fun p19 hp19 => ?_
    refine Ll.run 1 rfl ?_
    refine Ll.nil ?_
    refine Kt.sel [1, 2, 5] [_, _, _] rfl ?_
    refine Wk.seq ?_
    refine Wk.seq ?_
    refine Wk.region ?_
    refine Ll.op rfl rfl rfl (OpQ.fieldAddr rfl Tryd.runUnderlying24 rfl Tryd.sizeOf3 rfl rfl) ?_
    refine Ll.op rfl rfl rfl (OpQ.loadOwn 1 rfl Tryd.isAgg3 rfl rfl rfl) ?_
    refine Ll.run 1 rfl ?_
    refine Ll.callGet (σ := Nat × Nat × Array Value × List RR) (ok := fun (g, c', u, rr) => RowsOk rr u c' ∧ rr.map RR.xs = listsL (a.n).toNat (W).toNat) (v := fun (g, c', u, rr) => .slice (some ⟨g, 0, none⟩) rr.length c') (xs := [.tmp 21, .tmp 22]) (vs := [i6_ a.n, i6_ W]) (hs' := fun (g, c', u, rr) => [(p19, mapO ([])), bk_ p2 #[i6_ a.n, str a.set, str a.rel] 24] ++ ((g, .cells u 25 (0, 0)) :: (rowsB 3 rr ++ []))) rfl rfl rfl rfl Tryd.call86 rfl (fun w1 hw1 => (listsOf_ok _ _ _ a.n W w1 (by omega) hm8 h0 h3 hw1).mono fun en w' ⟨g, c', u, rr, h1, h2, h3⟩ => ⟨(g, c', u, rr), h1, h2, h3.perm (rows_behind _ _ _)⟩) fun ⟨gL, cL, uL, rrL⟩ ⟨hL, hLX⟩ => ?_
    show Ll _ _ (Own _ _ (_ :: _ :: _ :: ((rowsB 3 rrL ++ [])))) _ _ ((23, sl_ gL rrL.length cL) :: _) _ _ _
    refine Ll.op rfl rfl rfl (OpQ.lenS rfl Tryd.runUnderlying79 rfl) ?_
    refine Ll.run 1 rfl ?_
    refine Ll.nil ?_
    refine Kt.sel [2, 5, 23, 24, 25] [_, _, _, _, _] rfl ?_
    refine Wk.block ?_
    refine Wk.loop (σ := Nat) (fun k => k ≤ rrL.length) (fun k => [(2, pt_ p2), (5, .map (some p19)), (23, sl_ gL rrL.length cL), (24, i6_ ((rrL.length : Int))), (25, i6_ ((k : Int)))]) (fun k => Own w.heap.size w ((p19, mapO ((dedup ((kindsL a W.toNat).take k)))) :: bk_ p2 #[i6_ a.n, str a.set, str a.rel] 24 :: bk_ gL uL 25 :: ((rowsB 3 rrL ++ [])))) (fun k => rrL.length - k) (0) (by omega) (Sub.sel [2, 5, 23, 24, 25] rfl) (fun _ h => h) ?_
    rintro k hk
    refine Wk.seq ?_
    refine Wk.regionQ ?_
    refine Lq.run 1 rfl ?_
    refine Lq.nil ?_
    refine Kt.sel [2, 5, 23, 24, 25, 26] [_, _, _, _, _, _] rfl ?_
    refine Wk.seq ?_
    refine Wk.cond (b := decide (((k : Int)) < ((rrL.length : Int)))) rfl (fun h26 => ?_) (fun h26 => ?_)
    ·
     replace h26 := of_decide_eq_true h26
     have hkr : k < rrL.length := by omega
     have hrl : rrL.length = a.n.toNat ^ W.toNat := by rw [← listsL_length a.n.toNat W.toNat, ← hLX, List.length_map]
     have hkp : k < a.n.toNat ^ W.toNat := by omega
     have hkl : k < (kindsL a W.toNat).length := by rw [kindsL_length]; exact hkp
     have hxp := rows_point (by omega) hLX hkr
     have hA : a.Els (rrL.getD k rd).xs := by rw [hxp]; exact point_els ha _ _
     have hl4 : (rrL.getD k rd).xs.length ≤ 4 := by rw [hxp, pointL_length]; omega
     refine Wk.skip ?_
     refine Kt.sel [2, 5, 23, 24, 25] [_, _, _, _, _] rfl ?_
     refine Wk.seq ?_
     refine Wk.block ?_
     refine Wk.seq ?_
     refine Wk.regionQ ?_
     refine Lq.op (v := pf_ gL k) rfl rfl rfl (OpQ.cast (v' := pf_ gL k) (by simp) (OpQ.indexAddr1 (i := (k : Int)) rfl Tryd.runUnderlying79 Tryd.sizeOf25 rfl rfl (by omega) (by omega))) ?_
     refine Lq.op (v := rv (rrL.getD k rd)) rfl rfl rfl (OpQ.loadAt (v := rv (rrL.getD k rd)) 2 rfl Tryd.isAgg25 rfl rfl (by have := rvs_at (rr := rrL) (i := k) (by omega); rw [← hL.vals, List.getElem?_take, if_pos (by omega)] at this; simpa using this)) ?_
     refine Lq.run 1 rfl ?_
     refine Lq.nil ?_
     refine Kt.sel [2, 5, 7, 23, 24, 25] [_, _, _, _, _, _] rfl ?_
     refine Wk.region ?_
     refine Ll.run 1 rfl ?_
     refine Ll.op rfl rfl rfl (OpQ.loadBox (cs := #[i6_ a.n, str a.set, str a.rel]) 1 rfl Tryd.isAgg24 rfl rfl Tryd.sizeOf24) ?_
     refine Ll.run 1 rfl ?_
     refine Ll.op (v := str ((kindsL a W.toNat).getD k [])) rfl rfl rfl (OpQ.cast (by rw [kinds_at ha hkp, ← hxp]) (OpQ.call rfl Tryd.call87 rfl Own.stable (fun w1 hw1 => atomsOf_ok a (rv (rrL.getD k rd)) ((rrL.getD k rd).xs) w1 ha (Own.ofRows (Own.drop (f := [(p19, mapO ((dedup ((kindsL a W.toNat).take k)))), bk_ p2 #[i6_ a.n, str a.set, str a.rel] 24, bk_ gL uL 25]) hw1) hL.ok (i := k) (by omega)) hA hl4))) ?_
     refine Ll.mapSet 0 rfl rfl rfl Tryd.underlying78 Tryd.underlying9 rfl rfl rfl rfl ?_
     show Ll _ _ (Own _ _ (_ :: _ :: _ :: ((rowsB 3 rrL ++ [])))) _ _ _ _ _ _
     refine Ll.nil ?_
     refine Kt.sel [2, 5, 23, 24, 25] [_, _, _, _, _] rfl ?_
     refine Wk.regionQ ?_
     refine Lq.op rfl rfl rfl (OpQ.add rfl rfl rfl (by omega) (by omega)) ?_
     refine Lq.run 1 rfl ?_
     refine Lq.nil ?_
     refine Kt.again (k + 1) (by omega) (by omega) (Sub.sel [2, 5, 23, 24, 25] rfl) (fun _ h => by rw [dedup_step hkl]; exact h)
    ·
     replace h26 := of_decide_eq_false h26
     have hrl : rrL.length = a.n.toNat ^ W.toNat := by rw [← listsL_length a.n.toNat W.toNat, ← hLX, List.length_map]
     refine Wk.exit rfl ?_
     refine Kt.sel [5] [_] rfl ?_
     refine Wk.seq ?_
     refine Wk.regionQ ?_
     refine Lq.run 1 rfl ?_
     refine Lq.op (v := i6_ ((((dedup ((kindsL a W.toNat).take k))).length : Int))) rfl rfl rfl (OpQ.lenMap 0 rfl Tryd.underlying78 rfl rfl) ?_
     refine Lq.run 1 rfl ?_
     refine Lq.nil ?_
     refine Kt.sel [4] [_] rfl ?_
     refine Wk.ret (Kt.end1 rfl rfl fun w' hw => ?_)
     -- ret 1: i6_ ((((dedup ((kindsL a W.toNat).take k))).length : Int))
     exact ⟨ret_i (by unfold kindsI; first | (rw [if_neg (by unfold inB; first | (simp_all; done) | (simp_all; omega))]; done) | (rw [if_pos (by unfold inB; simp [hV, h0, h3]), List.take_of_length_le (by rw [kindsL_length]; omega)])), hw.below⟩
  ·
   replace hg15 := of_decide_eq_true hg15
   refine Lq.pass rfl rfl rfl ?_
   refine Lq.pass rfl rfl rfl ?_
   refine Lq.run 1 rfl ?_
   refine Lq.nil ?_
   refine Kt.sel [1, 2, 18] [_, _, _] rfl ?_
   refine Wk.condT rfl ?_
   refine Wk.seq ?_
   refine Wk.regionQ ?_
   refine Lq.run 1 rfl ?_
   refine Lq.nil ?_
   refine Kt.sel [4] [_] rfl ?_
   refine Wk.ret (Kt.end1 rfl rfl fun w' hw => ?_)
   -- ret 2: i6_ (-1)
   exact ⟨ret_i (by unfold kindsI; first | (rw [if_neg (by unfold inB; first | (simp_all; done) | (simp_all; omega))]; done) | (rw [if_pos (by unfold inB; simp [hV, h0, h3]), List.take_of_length_le (by rw [kindsL_length]; omega)])), hw.below⟩
 ·
  replace hg11 := not_true hg11
  refine Lq.pass rfl rfl rfl ?_
  refine Lq.pass rfl rfl rfl ?_
  refine Lq.run 2 rfl ?_
  refine Lq.pass rfl rfl rfl ?_
  refine Lq.pass rfl rfl rfl ?_
  refine Lq.run 1 rfl ?_
  refine Lq.nil ?_
  refine Kt.sel [1, 2, 18] [_, _, _] rfl ?_
  refine Wk.condT rfl ?_
  refine Wk.seq ?_
  refine Wk.regionQ ?_
  refine Lq.run 1 rfl ?_
  refine Lq.nil ?_
  refine Kt.sel [4] [_] rfl ?_
  refine Wk.ret (Kt.end1 rfl rfl fun w' hw => ?_)
  -- ret 3: i6_ (-1)
  exact ⟨ret_i (by unfold kindsI; first | (rw [if_neg (by unfold inB; first | (simp_all; done) | (simp_all; omega))]; done) | (rw [if_pos (by unfold inB; simp [hV, h0, h3]), List.take_of_length_le (by rw [kindsL_length]; omega)])), hw.below⟩

end Go.Proofs.YtmannilblelfjaaDoor
