/-
  Walks: ways counted.
-/
import Derived.Test.YtjcoijejhachhaaDoorCore4
import Derived.Test.YtjcoijejhachhaaDoorDrawsA
import Derived.Test.YtjcoijejhachhaaDoorBase
namespace Go.Proofs.YtjcoijejhachhaaDoor
open Go.RowKit Go.Wk
set_option linter.unusedSimpArgs false

set_option maxHeartbeats 400000 in
/-- impl.nameOf -/
theorem nameOf_ok (i : Nat) (w : World) (hi : i < 4) :
    Calls Tryd.prog 93 [i6_ ((i : Int))].toArray w fun en w' => en = .returned (str (nameS i)) ∧ Below w.heap.size w w' := by
 refine fnStart (n := 7) (e := [(0, i6_ ((i : Int)))]) Tryd.func93 rfl rfl rfl rfl Ends.both ?_
 refine Wk.seq ?_
 refine Wk.regionQ ?_
 refine Lq.op (v := str ([])) rfl rfl rfl (OpQ.assign rfl rfl) ?_
 refine Lq.nil ?_
 refine Kt.sel [0] [_] rfl ?_
 refine Wk.seq ?_
 refine Wk.regionQ ?_
 refine Lq.run 2 rfl ?_
 refine Lq.op rfl rfl rfl (OpQ.add rfl rfl rfl (by omega) (by omega)) ?_
 refine Lq.op (v := str (nameS i)) rfl rfl rfl (OpQ.cast (congrArg str (slice_name i)) (OpQ.sliceStr rfl Tryd.underlying9 rfl rfl rfl (by omega) (by omega) (by first | omega | (simp; omega)))) ?_
 refine Lq.run 1 rfl ?_
 refine Lq.nil ?_
 refine Kt.sel [2] [_] rfl ?_
 refine Wk.ret (Kt.end1 rfl rfl fun w' hw => ?_)
 -- ret 0: str (nameS i)
 exact ⟨ret_s (by first | rfl | (simp_all; done) | (simp_all; omega)), hw.below⟩

set_option maxHeartbeats 400000 in
/-- spec.l3Atom -/
theorem l3Atom_ok (b : Bool) (s : List UInt8) (w : World) (hs : s.length ≤ 1048576) :
    Calls Tryd.prog 154 [bo_ b, str s].toArray w fun en w' => en = .returned (str (signS b s)) ∧ Below w.heap.size w w' := by
 refine fnStart (n := 9) (e := [(0, bo_ b), (1, str s)]) Tryd.func154 rfl rfl rfl rfl Ends.both ?_
 refine Wk.seq ?_
 refine Wk.regionQ ?_
 refine Lq.op (v := str ([])) rfl rfl rfl (OpQ.assign rfl rfl) ?_
 refine Lq.nil ?_
 refine Kt.sel [0, 1] [_, _] rfl ?_
 refine Wk.seq ?_
 refine Wk.seq ?_
 refine Wk.regionQ ?_
 refine Lq.run 1 rfl ?_
 refine Lq.nil ?_
 refine Kt.sel [1, 5] [_, _] rfl ?_
 refine Wk.cond (b := b) rfl (fun h5 => ?_) (fun h5 => ?_)
 ·
  refine Wk.seq ?_
  refine Wk.regionQ ?_
  refine Lq.run 2 rfl ?_
  refine Lq.nil ?_
  refine Kt.sel [4] [_] rfl ?_
  refine Wk.ret (Kt.end1 rfl rfl fun w' hw => ?_)
  -- ret 0: str s
  exact ⟨by rw [‹b = _›]; rfl, hw.below⟩
 ·
  refine Wk.skip ?_
  refine Kt.sel [1] [_] rfl ?_
  refine Wk.seq ?_
  refine Wk.regionQ ?_
  refine Lq.run 1 rfl ?_
  refine Lq.op rfl rfl rfl (OpQ.sadd rfl rfl rfl (by first | omega | (simp only [List.length_append, List.length_cons, List.length_nil]; omega))) ?_
  refine Lq.run 1 rfl ?_
  refine Lq.nil ?_
  refine Kt.sel [4] [_] rfl ?_
  refine Wk.ret (Kt.end1 rfl rfl fun w' hw => ?_)
  -- ret 1: str (([33]) ++ s)
  exact ⟨by rw [‹b = _›]; rfl, hw.below⟩

set_option maxHeartbeats 400000 in
/-- spec.l3Facts -/
theorem l3Facts_ok (a : St) (va : Value) (xs : List Int) (m : Nat) (fs : List (List UInt8)) (w : World) (ha : a.Fine) (hva : Ints w va xs) (hA : a.Els xs) (hm : xs.length = m + 1) (hm4 : m < 4) (hfs : (factL a xs m).map signed = fs) :
    Calls Tryd.prog 127 [vS a, va].toArray w fun en w' => ∃ v, en = .returned v ∧ Below w.heap.size w w' ∧ NewRow w.heap.size 9 1 w' v fs.length (strs fs) := by
 refine fnStart (n := 99) (e := [(0, vS a), (1, va)]) Tryd.func127 rfl rfl rfl rfl Ends.both ?_
 have hnm := nameS_length hm4
 refine Wk.seq ?_
 refine Wk.region ?_
 refine Ll.box (v := vS a) rfl rfl rfl rfl rfl fun p2 hp2 => ?_
 show Ll _ _ (Own _ _ [_]) _ _ ((2, pt_ p2) :: _) _ _ _
 refine Ll.run 1 rfl ?_
 refine Ll.nil ?_
 refine Kt.sel [1, 2] [_, _] rfl ?_
 refine Wk.seq ?_
 refine Wk.regionQ ?_
 refine Lq.run 1 rfl ?_
 refine Lq.op (v := i6_ (((m + 1) : Int))) rfl rfl rfl (OpQ.lenRow rfl Tryd.runUnderlying24 rfl ((ints_length _).trans hm) (fun w1 hw1 => Row.own hva hw1)) ?_
 refine Lq.op (v := i6_ ((m : Int))) rfl rfl rfl (OpQ.cast (by simp) (OpQ.sub rfl rfl rfl (by omega) (by omega))) ?_
 refine Lq.run 1 rfl ?_
 refine Lq.nil ?_
 refine Kt.sel [1, 2, 5] [_, _, _] rfl ?_
 refine Wk.seq ?_
 refine Wk.regionQ ?_
 refine Lq.run 2 rfl ?_
 refine Lq.op rfl rfl rfl (OpQ.add rfl rfl rfl (by omega) (by omega)) ?_
 refine Lq.op (v := str (nameS m)) rfl rfl rfl (OpQ.cast (congrArg str (slice_name m)) (OpQ.sliceStr rfl Tryd.underlying9 rfl rfl rfl (by omega) (by omega) (by first | omega | (simp; omega)))) ?_
 refine Lq.run 1 rfl ?_
 refine Lq.nil ?_
 refine Kt.sel [1, 2, 5, 6] [_, _, _, _] rfl ?_
 refine Wk.seq ?_
 refine Wk.regionO [(0, true), (1, true), (2, true), (3, true), (4, true), (6, true), (7, true), (9, true), (10, true), (11, true), (12, true), (13, true), (14, true), (15, true), (16, true), (17, true), (19, true), (20, true), (21, true), (22, true), (5, false), (8, false), (18, false), (23, false), (24, false), (25, true)] Base.mixed (fun _ h => h.drawn) (by kernel_rfl) ?_
 refine Ld.take rfl rfl rfl rfl rfl (OpQ.loadBox (cs := #[i6_ a.n, str a.set, str a.rel]) 0 rfl Tryd.isAgg28 rfl rfl Tryd.sizeOf28) (fun _ h => h) ?_
 refine Ld.run 2 rfl (fun _ h => h) ?_
 refine Ld.take (v := .pointer (some (sAt va ((m : Int))))) rfl rfl rfl rfl rfl (OpQ.atRow rfl Tryd.runUnderlying24 Tryd.sizeOf3 rfl rfl (by omega) (by rw [ints_length]; omega) (fun w1 hw1 => Row.own hva hw1)) (fun _ h => h) ?_
 refine Ld.take (v := i6_ (xs.getD (((m : Int)).toNat) 0)) rfl rfl rfl rfl rfl (OpQ.load1 rfl Tryd.isAgg3 rfl (fun w1 hw1 => Ints.cell (Row.own hva hw1) (by omega) (by omega))) (fun _ h => h) ?_
 refine Ld.run 1 rfl (fun _ h => h) ?_
 refine Ld.take rfl rfl rfl rfl rfl (OpQ.sadd rfl rfl rfl (by first | omega | (simp only [List.length_append, List.length_cons, List.length_nil]; omega))) (fun _ h => h) ?_
 refine Ld.take rfl rfl rfl rfl rfl (OpQ.loadBox (cs := #[i6_ a.n, str a.set, str a.rel]) 0 rfl Tryd.isAgg28 rfl rfl Tryd.sizeOf28) (fun _ h => h) ?_
 refine Ld.run 2 rfl (fun _ h => h) ?_
 refine Ld.take (v := .pointer (some (sAt va ((m : Int))))) rfl rfl rfl rfl rfl (OpQ.atRow rfl Tryd.runUnderlying24 Tryd.sizeOf3 rfl rfl (by omega) (by rw [ints_length]; omega) (fun w1 hw1 => Row.own hva hw1)) (fun _ h => h) ?_
 refine Ld.take (v := i6_ (xs.getD (((m : Int)).toNat) 0)) rfl rfl rfl rfl rfl (OpQ.load1 rfl Tryd.isAgg3 rfl (fun w1 hw1 => Ints.cell (Row.own hva hw1) (by omega) (by omega))) (fun _ h => h) ?_
 refine Ld.run 2 rfl (fun _ h => h) ?_
 refine Ld.take (v := .pointer (some (sAt va ((m : Int))))) rfl rfl rfl rfl rfl (OpQ.atRow rfl Tryd.runUnderlying24 Tryd.sizeOf3 rfl rfl (by omega) (by rw [ints_length]; omega) (fun w1 hw1 => Row.own hva hw1)) (fun _ h => h) ?_
 refine Ld.take (v := i6_ (xs.getD (((m : Int)).toNat) 0)) rfl rfl rfl rfl rfl (OpQ.load1 rfl Tryd.isAgg3 rfl (fun w1 hw1 => Ints.cell (Row.own hva hw1) (by omega) (by omega))) (fun _ h => h) ?_
 refine Ld.run 1 rfl (fun _ h => h) ?_
 refine Ld.take rfl rfl rfl rfl rfl (OpQ.sadd rfl rfl rfl (by first | omega | (simp only [List.length_append, List.length_cons, List.length_nil]; omega))) (fun _ h => h) ?_
 refine Ld.run 1 rfl (fun _ h => h) ?_
 refine Ld.take rfl rfl rfl rfl rfl (OpQ.sadd rfl rfl rfl (by first | omega | (simp only [List.length_append, List.length_cons, List.length_nil]; omega))) (fun _ h => h) ?_
 refine Ld.loud rfl ?_
 refine Ll.op (v := bo_ (a.inSet (xs.getD (((m : Int)).toNat) 0))) rfl rfl rfl (OpQ.call rfl Tryd.call148 rfl Own.stable (fun w1 hw1 => l1Set_ok a (xs.getD (((m : Int)).toNat) 0) w1 ha (by first | assumption | exact St.Els.at (by assumption) (by omega) (by omega)))) ?_
 refine Ll.nil (Ld.joint (fun _ h => h) ?_)
 refine Ld.loud rfl ?_
 refine Ll.op (v := str (signS (a.inSet (xs.getD (((m : Int)).toNat) 0)) (([80]) ++ (nameS m)))) rfl rfl rfl (OpQ.call rfl Tryd.call154 rfl Own.stable (fun w1 hw1 => l3Atom_ok (a.inSet (xs.getD (((m : Int)).toNat) 0)) (([80]) ++ (nameS m)) w1 (by simp [nameS_length, *]))) ?_
 refine Ll.nil (Ld.joint (fun _ h => h) ?_)
 refine Ld.loud rfl ?_
 refine Ll.op (v := bo_ (a.inRel (xs.getD (((m : Int)).toNat) 0) (xs.getD (((m : Int)).toNat) 0))) rfl rfl rfl (OpQ.call rfl Tryd.call149 rfl Own.stable (fun w1 hw1 => l1Rel_ok a (xs.getD (((m : Int)).toNat) 0) (xs.getD (((m : Int)).toNat) 0) w1 ha (by first | assumption | exact St.Els.at (by assumption) (by omega) (by omega)) (by first | assumption | exact St.Els.at (by assumption) (by omega) (by omega)))) ?_
 refine Ll.nil (Ld.joint (fun _ h => h) ?_)
 refine Ld.loud rfl ?_
 refine Ll.op (v := str (signS (a.inRel (xs.getD (((m : Int)).toNat) 0) (xs.getD (((m : Int)).toNat) 0)) ((([69]) ++ (nameS m)) ++ (nameS m)))) rfl rfl rfl (OpQ.call rfl Tryd.call154 rfl Own.stable (fun w1 hw1 => l3Atom_ok (a.inRel (xs.getD (((m : Int)).toNat) 0) (xs.getD (((m : Int)).toNat) 0)) ((([69]) ++ (nameS m)) ++ (nameS m)) w1 (by simp [nameS_length, *]))) ?_
 refine Ll.nil (Ld.joint (fun _ h => h) ?_)
 refine Ld.loud rfl ?_
 refine Ll.slice (xs := [.tmp 25, .tmp 40]) (vs := [str (signS (a.inSet (xs.getD (((m : Int)).toNat) 0)) (([80]) ++ (nameS m))), str (signS (a.inRel (xs.getD (((m : Int)).toNat) 0) (xs.getD (((m : Int)).toNat) 0)) ((([69]) ++ (nameS m)) ++ (nameS m)))]) Base.elem91 rfl rfl rfl rfl rfl rfl (by decide) rfl fun p41 hp41 => ?_
 refine Ll.nil (Ld.joint (fun _ h => h.tail) ?_)
 refine Ld.run 1 rfl (fun _ h => h.tail) ?_
 refine Ld.nil ?_
 refine Kt.sel [1, 2, 5, 6, 7] [_, _, _, _, _] rfl ?_
 refine Wk.seq ?_
 refine Wk.seq ?_
 refine Wk.regionQ ?_
 refine Lq.run 1 rfl ?_
 refine Lq.nil ?_
 refine Kt.sel [1, 2, 5, 6, 7, 8] [_, _, _, _, _, _] rfl ?_
 refine Wk.block ?_
 refine Wk.loop (σ := Nat × Nat × Nat × Array Value) (fun ⟨k, g, c, cur⟩ => (k ≤ m) ∧ w.heap.size ≤ g ∧ cur.size = c * 1 ∧ ((headL a xs m ++ moreL a xs m k).map signed).length ≤ c ∧ cur.toList.take (((headL a xs m ++ moreL a xs m k).map signed).length * 1) = strs ((headL a xs m ++ moreL a xs m k).map signed)) (fun ⟨k, g, c, cur⟩ => [(1, va), (2, pt_ p2), (5, i6_ ((m : Int))), (6, str (nameS m)), (7, sl_ g (((headL a xs m ++ moreL a xs m k).map signed).length) c), (8, i6_ ((k : Int)))]) (fun ⟨k, g, c, cur⟩ => Own w.heap.size w [bk_ g cur 9, bk_ p2 #[i6_ a.n, str a.set, str a.rel] 28]) (fun ⟨k, g, c, cur⟩ => m - k) ((0, p41, 2, #[str (signS (a.inSet (xs.getD ((m : Int)).toNat 0)) ([80] ++ nameS m)), str (signS (a.inRel (xs.getD ((m : Int)).toNat 0) (xs.getD ((m : Int)).toNat 0)) (([69] ++ nameS m) ++ nameS m))])) ⟨by omega, hp41, rfl, Nat.le_refl 2, rfl⟩ (Sub.sel [1, 2, 5, 6, 7, 8] rfl) (fun _ h => h) ?_
 rintro ⟨k, g, c, cur⟩ ⟨hk, hg, hc, hl, ht⟩
 dsimp only
 refine Wk.seq ?_
 refine Wk.seq ?_
 refine Wk.regionQ ?_
 refine Lq.run 3 rfl ?_
 refine Lq.nil ?_
 refine Kt.sel [1, 2, 5, 6, 7, 8, 44] [_, _, _, _, _, _, _] rfl ?_
 refine Wk.cond (b := decide (((k : Int)) < ((m : Int)))) rfl (fun h44 => ?_) (fun h44 => ?_)
 ·
  replace h44 := of_decide_eq_true h44
  have hnk : (nameS k).length = 1 := nameS_length (by omega)
  refine Wk.skip ?_
  refine Kt.sel [1, 2, 5, 6, 7, 8] [_, _, _, _, _, _] rfl ?_
  refine Wk.seq ?_
  refine Wk.block ?_
  refine Wk.seq ?_
  refine Wk.regionQ ?_
  refine Lq.run 2 rfl ?_
  refine Lq.op rfl rfl rfl (OpQ.add rfl rfl rfl (by omega) (by omega)) ?_
  refine Lq.op (v := str (nameS k)) rfl rfl rfl (OpQ.cast (congrArg str (slice_name k)) (OpQ.sliceStr rfl Tryd.underlying9 rfl rfl rfl (by omega) (by omega) (by first | omega | (simp; omega)))) ?_
  refine Lq.run 1 rfl ?_
  refine Lq.nil ?_
  refine Kt.sel [1, 2, 5, 6, 7, 8, 9] [_, _, _, _, _, _, _] rfl ?_
  refine Wk.regionS (S := Own w.heap.size w [bk_ p2 #[i6_ a.n, str a.set, str a.rel] 28]) [(0, true), (1, true), (2, true), (3, true), (4, true), (5, true), (6, true), (7, true), (8, true), (9, true), (10, true), (11, true), (12, true), (13, true), (15, true), (16, true), (17, true), (18, true), (19, true), (20, true), (21, true), (22, true), (23, true), (25, true), (26, true), (27, true), (28, true), (30, true), (31, true), (32, true), (33, true), (34, true), (35, true), (36, true), (37, true), (38, true), (40, true), (41, true), (42, true), (43, true), (14, false), (24, false), (29, false), (39, false), (44, false), (45, false), (46, false), (47, true)] Base.mixed (fun _ h => h.drawn) (by kernel_rfl) ?_
  refine Ld.run 3 rfl (fun _ h => h.tail) ?_
  refine Ld.take (v := .pointer (some (sAt va ((k : Int))))) rfl rfl rfl rfl rfl (OpQ.atRow rfl Tryd.runUnderlying24 Tryd.sizeOf3 rfl rfl (by omega) (by rw [ints_length]; omega) (fun w1 hw1 => Row.own hva hw1)) (fun _ h => h.tail) ?_
  refine Ld.take (v := i6_ (xs.getD (((k : Int)).toNat) 0)) rfl rfl rfl rfl rfl (OpQ.load1 rfl Tryd.isAgg3 rfl (fun w1 hw1 => Ints.cell (Row.own hva hw1) (by omega) (by omega))) (fun _ h => h.tail) ?_
  refine Ld.run 2 rfl (fun _ h => h.tail) ?_
  refine Ld.take (v := .pointer (some (sAt va ((m : Int))))) rfl rfl rfl rfl rfl (OpQ.atRow rfl Tryd.runUnderlying24 Tryd.sizeOf3 rfl rfl (by omega) (by rw [ints_length]; omega) (fun w1 hw1 => Row.own hva hw1)) (fun _ h => h.tail) ?_
  refine Ld.take (v := i6_ (xs.getD (((m : Int)).toNat) 0)) rfl rfl rfl rfl rfl (OpQ.load1 rfl Tryd.isAgg3 rfl (fun w1 hw1 => Ints.cell (Row.own hva hw1) (by omega) (by omega))) (fun _ h => h.tail) ?_
  refine Ld.run 2 rfl (fun _ h => h.tail) ?_
  refine Ld.take rfl rfl rfl rfl rfl (OpQ.sadd rfl rfl rfl (by first | omega | (simp only [List.length_append, List.length_cons, List.length_nil]; omega))) (fun _ h => h.tail) ?_
  refine Ld.run 1 rfl (fun _ h => h.tail) ?_
  refine Ld.take rfl rfl rfl rfl rfl (OpQ.sadd rfl rfl rfl (by first | omega | (simp only [List.length_append, List.length_cons, List.length_nil]; omega))) (fun _ h => h.tail) ?_
  refine Ld.take rfl rfl rfl rfl rfl (OpQ.loadBox (cs := #[i6_ a.n, str a.set, str a.rel]) 0 rfl Tryd.isAgg28 rfl rfl Tryd.sizeOf28) (fun _ h => h.tail) ?_
  refine Ld.run 2 rfl (fun _ h => h.tail) ?_
  refine Ld.take (v := .pointer (some (sAt va ((k : Int))))) rfl rfl rfl rfl rfl (OpQ.atRow rfl Tryd.runUnderlying24 Tryd.sizeOf3 rfl rfl (by omega) (by rw [ints_length]; omega) (fun w1 hw1 => Row.own hva hw1)) (fun _ h => h.tail) ?_
  refine Ld.take (v := i6_ (xs.getD (((k : Int)).toNat) 0)) rfl rfl rfl rfl rfl (OpQ.load1 rfl Tryd.isAgg3 rfl (fun w1 hw1 => Ints.cell (Row.own hva hw1) (by omega) (by omega))) (fun _ h => h.tail) ?_
  refine Ld.run 2 rfl (fun _ h => h.tail) ?_
  refine Ld.take (v := .pointer (some (sAt va ((m : Int))))) rfl rfl rfl rfl rfl (OpQ.atRow rfl Tryd.runUnderlying24 Tryd.sizeOf3 rfl rfl (by omega) (by rw [ints_length]; omega) (fun w1 hw1 => Row.own hva hw1)) (fun _ h => h.tail) ?_
  refine Ld.take (v := i6_ (xs.getD (((m : Int)).toNat) 0)) rfl rfl rfl rfl rfl (OpQ.load1 rfl Tryd.isAgg3 rfl (fun w1 hw1 => Ints.cell (Row.own hva hw1) (by omega) (by omega))) (fun _ h => h.tail) ?_
  refine Ld.run 1 rfl (fun _ h => h.tail) ?_
  refine Ld.take rfl rfl rfl rfl rfl (OpQ.sadd rfl rfl rfl (by first | omega | (simp only [List.length_append, List.length_cons, List.length_nil]; omega))) (fun _ h => h.tail) ?_
  refine Ld.run 1 rfl (fun _ h => h.tail) ?_
  refine Ld.take rfl rfl rfl rfl rfl (OpQ.sadd rfl rfl rfl (by first | omega | (simp only [List.length_append, List.length_cons, List.length_nil]; omega))) (fun _ h => h.tail) ?_
  refine Ld.take rfl rfl rfl rfl rfl (OpQ.loadBox (cs := #[i6_ a.n, str a.set, str a.rel]) 0 rfl Tryd.isAgg28 rfl rfl Tryd.sizeOf28) (fun _ h => h.tail) ?_
  refine Ld.run 2 rfl (fun _ h => h.tail) ?_
  refine Ld.take (v := .pointer (some (sAt va ((m : Int))))) rfl rfl rfl rfl rfl (OpQ.atRow rfl Tryd.runUnderlying24 Tryd.sizeOf3 rfl rfl (by omega) (by rw [ints_length]; omega) (fun w1 hw1 => Row.own hva hw1)) (fun _ h => h.tail) ?_
  refine Ld.take (v := i6_ (xs.getD (((m : Int)).toNat) 0)) rfl rfl rfl rfl rfl (OpQ.load1 rfl Tryd.isAgg3 rfl (fun w1 hw1 => Ints.cell (Row.own hva hw1) (by omega) (by omega))) (fun _ h => h.tail) ?_
  refine Ld.run 2 rfl (fun _ h => h.tail) ?_
  refine Ld.take (v := .pointer (some (sAt va ((k : Int))))) rfl rfl rfl rfl rfl (OpQ.atRow rfl Tryd.runUnderlying24 Tryd.sizeOf3 rfl rfl (by omega) (by rw [ints_length]; omega) (fun w1 hw1 => Row.own hva hw1)) (fun _ h => h.tail) ?_
  refine Ld.take (v := i6_ (xs.getD (((k : Int)).toNat) 0)) rfl rfl rfl rfl rfl (OpQ.load1 rfl Tryd.isAgg3 rfl (fun w1 hw1 => Ints.cell (Row.own hva hw1) (by omega) (by omega))) (fun _ h => h.tail) ?_
  refine Ld.run 1 rfl (fun _ h => h.tail) ?_
  refine Ld.take rfl rfl rfl rfl rfl (OpQ.sadd rfl rfl rfl (by first | omega | (simp only [List.length_append, List.length_cons, List.length_nil]; omega))) (fun _ h => h.tail) ?_
  refine Ld.run 1 rfl (fun _ h => h.tail) ?_
  refine Ld.take rfl rfl rfl rfl rfl (OpQ.sadd rfl rfl rfl (by first | omega | (simp only [List.length_append, List.length_cons, List.length_nil]; omega))) (fun _ h => h.tail) ?_
  refine Ld.loud rfl ?_
  refine Ll.op (v := str (signS (decide ((xs.getD (((k : Int)).toNat) 0) = (xs.getD (((m : Int)).toNat) 0))) ((([61]) ++ (nameS k)) ++ (nameS m)))) rfl rfl rfl (OpQ.call rfl Tryd.call154 rfl Own.stable (fun w1 hw1 => l3Atom_ok (decide ((xs.getD (((k : Int)).toNat) 0) = (xs.getD (((m : Int)).toNat) 0))) ((([61]) ++ (nameS k)) ++ (nameS m)) w1 (by simp [nameS_length, *]))) ?_
  refine Ll.nil (Ld.joint (fun _ h => h.tail) ?_)
  refine Ld.loud rfl ?_
  refine Ll.op (v := bo_ (a.inRel (xs.getD (((k : Int)).toNat) 0) (xs.getD (((m : Int)).toNat) 0))) rfl rfl rfl (OpQ.call rfl Tryd.call149 rfl Own.stable (fun w1 hw1 => l1Rel_ok a (xs.getD (((k : Int)).toNat) 0) (xs.getD (((m : Int)).toNat) 0) w1 ha (by first | assumption | exact St.Els.at (by assumption) (by omega) (by omega)) (by first | assumption | exact St.Els.at (by assumption) (by omega) (by omega)))) ?_
  refine Ll.nil (Ld.joint (fun _ h => h.tail) ?_)
  refine Ld.loud rfl ?_
  refine Ll.op (v := str (signS (a.inRel (xs.getD (((k : Int)).toNat) 0) (xs.getD (((m : Int)).toNat) 0)) ((([69]) ++ (nameS k)) ++ (nameS m)))) rfl rfl rfl (OpQ.call rfl Tryd.call154 rfl Own.stable (fun w1 hw1 => l3Atom_ok (a.inRel (xs.getD (((k : Int)).toNat) 0) (xs.getD (((m : Int)).toNat) 0)) ((([69]) ++ (nameS k)) ++ (nameS m)) w1 (by simp [nameS_length, *]))) ?_
  refine Ll.nil (Ld.joint (fun _ h => h.tail) ?_)
  refine Ld.loud rfl ?_
  refine Ll.op (v := bo_ (a.inRel (xs.getD (((m : Int)).toNat) 0) (xs.getD (((k : Int)).toNat) 0))) rfl rfl rfl (OpQ.call rfl Tryd.call149 rfl Own.stable (fun w1 hw1 => l1Rel_ok a (xs.getD (((m : Int)).toNat) 0) (xs.getD (((k : Int)).toNat) 0) w1 ha (by first | assumption | exact St.Els.at (by assumption) (by omega) (by omega)) (by first | assumption | exact St.Els.at (by assumption) (by omega) (by omega)))) ?_
  refine Ll.nil (Ld.joint (fun _ h => h.tail) ?_)
  refine Ld.loud rfl ?_
  refine Ll.op (v := str (signS (a.inRel (xs.getD (((m : Int)).toNat) 0) (xs.getD (((k : Int)).toNat) 0)) ((([69]) ++ (nameS m)) ++ (nameS k)))) rfl rfl rfl (OpQ.call rfl Tryd.call154 rfl Own.stable (fun w1 hw1 => l3Atom_ok (a.inRel (xs.getD (((m : Int)).toNat) 0) (xs.getD (((k : Int)).toNat) 0)) ((([69]) ++ (nameS m)) ++ (nameS k)) w1 (by simp [nameS_length, *]))) ?_
  refine Ll.nil (Ld.joint (fun _ h => h.tail) ?_)
  refine Ld.loud rfl ?_
  refine Ll.slice (xs := [.tmp 65, .tmp 80, .tmp 95]) (vs := [str (signS (decide ((xs.getD (((k : Int)).toNat) 0) = (xs.getD (((m : Int)).toNat) 0))) ((([61]) ++ (nameS k)) ++ (nameS m))), str (signS (a.inRel (xs.getD (((k : Int)).toNat) 0) (xs.getD (((m : Int)).toNat) 0)) ((([69]) ++ (nameS k)) ++ (nameS m))), str (signS (a.inRel (xs.getD (((m : Int)).toNat) 0) (xs.getD (((k : Int)).toNat) 0)) ((([69]) ++ (nameS m)) ++ (nameS k)))]) Base.elem91 rfl rfl rfl rfl rfl rfl (by decide) rfl fun p96 hp96 => ?_
  refine Ll.nil (Ld.joint (fun _ h => h.tail.tail) ?_)
  refine Ld.loud rfl ?_
  refine Ll.appendStrs (xs := (headL a xs m ++ moreL a xs m k).map signed) (ys := ([signS (decide ((xs.getD (((k : Int)).toNat) 0) = (xs.getD (((m : Int)).toNat) 0))) ((([61]) ++ (nameS k)) ++ (nameS m)), signS (a.inRel (xs.getD (((k : Int)).toNat) 0) (xs.getD (((m : Int)).toNat) 0)) ((([69]) ++ (nameS k)) ++ (nameS m)), signS (a.inRel (xs.getD (((m : Int)).toNat) 0) (xs.getD (((k : Int)).toNat) 0)) ((([69]) ++ (nameS m)) ++ (nameS k))] : List (List UInt8))) Base.elem91 1 rfl rfl rfl rfl rfl rfl rfl hc hl (by simpa using ht) (fun w1 hw1 => (Own.row hw1 (i := 0) rfl (n := 3) (cap := 3) (vs := strs ([signS (decide ((xs.getD (((k : Int)).toNat) 0) = (xs.getD (((m : Int)).toNat) 0))) ((([61]) ++ (nameS k)) ++ (nameS m)), signS (a.inRel (xs.getD (((k : Int)).toNat) 0) (xs.getD (((m : Int)).toNat) 0)) ((([69]) ++ (nameS k)) ++ (nameS m)), signS (a.inRel (xs.getD (((m : Int)).toNat) 0) (xs.getD (((k : Int)).toNat) 0)) ((([69]) ++ (nameS m)) ++ (nameS k))] : List (List UInt8))) rfl rfl (by decide))) ((((headL a xs m ++ moreL a xs m k).map signed) ++ (([signS (decide ((xs.getD (((k : Int)).toNat) 0) = (xs.getD (((m : Int)).toNat) 0))) ((([61]) ++ (nameS k)) ++ (nameS m)), signS (a.inRel (xs.getD (((k : Int)).toNat) 0) (xs.getD (((m : Int)).toNat) 0)) ((([69]) ++ (nameS k)) ++ (nameS m)), signS (a.inRel (xs.getD (((m : Int)).toNat) 0) (xs.getD (((k : Int)).toNat) 0)) ((([69]) ++ (nameS m)) ++ (nameS k))] : List (List UInt8)))).length) (by first | (simp; done) | (simp; omega)) (by first | (simp; done) | (simp; omega) | omega) fun p97 cap97 cur97 hp97 hcp97 hlp97 htp97 => ?_
  show Ll _ _ (Own _ _ [_, _, _]) _ _ ((97, sl_ p97 (((((headL a xs m ++ moreL a xs m k).map signed) ++ (([signS (decide ((xs.getD (((k : Int)).toNat) 0) = (xs.getD (((m : Int)).toNat) 0))) ((([61]) ++ (nameS k)) ++ (nameS m)), signS (a.inRel (xs.getD (((k : Int)).toNat) 0) (xs.getD (((m : Int)).toNat) 0)) ((([69]) ++ (nameS k)) ++ (nameS m)), signS (a.inRel (xs.getD (((m : Int)).toNat) 0) (xs.getD (((k : Int)).toNat) 0)) ((([69]) ++ (nameS m)) ++ (nameS k))] : List (List UInt8)))).length)) cap97) :: _) _ _ _
  refine Ll.nil (Ld.joint (fun _ h => h.tail.tail) ?_)
  refine Ld.run 1 rfl (fun _ h => h.tail.tail) ?_
  refine Ld.nil ?_
  refine Kt.sel [1, 2, 5, 6, 7, 8] [_, _, _, _, _, _] rfl ?_
  refine Wk.regionQ ?_
  refine Lq.run 1 rfl ?_
  refine Lq.op rfl rfl rfl (OpQ.add rfl rfl rfl (by omega) (by omega)) ?_
  refine Lq.run 1 rfl ?_
  refine Lq.nil ?_
  refine Kt.again ((k + 1, p97, cap97, cur97)) ⟨(by omega), (by omega), hcp97, (by rw [more_step]; exact hlp97), (by rw [more_step]; exact htp97)⟩ (by omega) (Sub.cons rfl (Sub.cons rfl (Sub.cons rfl (Sub.cons rfl (Sub.cons (by rw [more_step]; rfl) (Sub.sel [8] rfl)))))) (fun _ h => h.tail)
 ·
  replace h44 := of_decide_eq_false h44
  refine Wk.exit rfl ?_
  refine Kt.sel [7] [_] rfl ?_
  refine Wk.seq ?_
  refine Wk.regionQ ?_
  refine Lq.run 2 rfl ?_
  refine Lq.nil ?_
  refine Kt.sel [4] [_] rfl ?_
  refine Wk.ret (Kt.end1 rfl rfl fun w' hw => ?_)
  -- ret 0: sl_ g (((headL a xs m ++ moreL a xs m k).map signed).length) c
  obtain rfl : k = m := by omega
  subst hfs
  exact ⟨_, rfl, hw.below, hw.newRow (i := 0) (n := _) rfl hc hl ht⟩

set_option maxHeartbeats 400000 in
/-- impl.factsOf$1 -/
theorem tell_ok (B : Nat) (w0 : World) (p7 p6 p2 : Nat) (a2 : Array Value) (s : Boxed) (F : List (List UInt8)) (H : List Bool) (f : List UInt8) (b : Bool) (w : World) (hs : s.Ok B F H) (hF : F.length ≤ 1000) (hH : H.length ≤ 1000) (hw : Own B w0 [bk_ p7 #[sl_ s.q2 ((H : List Bool).length) s.c2] 64, bk_ p6 #[sl_ s.q1 ((F : List (List UInt8)).length) s.c1] 91, bk_ s.q2 s.u2 4, bk_ s.q1 s.u1 9, bk_ p2 a2 28] w) :
    Calls Tryd.prog 155 [str f, bo_ b, pt_ p6, pt_ p7].toArray w fun en w' => en = .returned (.tuple #[]) ∧ ∃ t : Boxed, t.Ok B (F ++ [f]) (H ++ [b]) ∧ Own B w0 [bk_ p7 #[sl_ t.q2 ((H ++ [b] : List Bool).length) t.c2] 64, bk_ p6 #[sl_ t.q1 ((F ++ [f] : List (List UInt8)).length) t.c1] 91, bk_ t.q2 t.u2 4, bk_ t.q1 t.u1 9, bk_ p2 a2 28] w' := by
 refine fnStartC (Own B w0 [bk_ p7 #[sl_ s.q2 ((H : List Bool).length) s.c2] 64, bk_ p6 #[sl_ s.q1 ((F : List (List UInt8)).length) s.c1] 91, bk_ s.q2 s.u2 4, bk_ s.q1 s.u1 9, bk_ p2 a2 28]) (n := 14) (e := [(0, str f), (1, bo_ b), (2, pt_ p6), (3, pt_ p7)]) Tryd.func155 rfl rfl rfl rfl Ends.both hw ?_
 refine Wk.seq ?_
 refine Wk.region ?_
 refine Ll.op rfl rfl rfl (OpQ.loadOwn 1 rfl Tryd.isAgg91 rfl rfl rfl) ?_
 refine Ll.run 1 rfl ?_
 refine Ll.slice (xs := [.tmp 7]) (vs := [str f]) Base.elem91 rfl rfl rfl rfl rfl rfl (by decide) rfl fun p8 hp8 => ?_
 refine Ll.appendStrs (xs := F) (ys := ([f] : List (List UInt8))) Base.elem91 4 rfl rfl rfl rfl rfl rfl rfl hs.s1 hs.l1 (by simpa using hs.t1) (fun w1 hw1 => (Own.row hw1 (i := 0) rfl (n := 1) (cap := 1) (vs := strs ([f] : List (List UInt8))) rfl rfl (by decide))) ((F ++ (([f] : List (List UInt8)))).length) (by first | (simp; done) | (simp; omega)) (by first | (simp; done) | (simp; omega) | omega) fun p9 cap9 cur9 hp9 hcp9 hlp9 htp9 => ?_
 show Ll _ _ (Own _ _ [_, _, _, _, _, _]) _ _ ((9, sl_ p9 (((F ++ (([f] : List (List UInt8)))).length)) cap9) :: _) _ _ _
 refine Ll.store1 (v := sl_ p9 (((F ++ (([f] : List (List UInt8)))).length)) cap9) (hs' := [_, _, bk_ p6 #[sl_ p9 (((F ++ (([f] : List (List UInt8)))).length)) cap9] 91, _, _, _]) 2 rfl rfl rfl rfl rfl rfl Tryd.sizeOf91 rfl (by simp) rfl ?_
 refine Ll.nil ?_
 refine Kt.sel [1, 3] [_, _] rfl ?_
 refine Wk.region ?_
 refine Ll.op rfl rfl rfl (OpQ.loadOwn 1 rfl Tryd.isAgg64 rfl rfl rfl) ?_
 refine Ll.run 1 rfl ?_
 refine Ll.slice (xs := [.tmp 11]) (vs := [bo_ b]) Base.elem64 rfl rfl rfl rfl rfl rfl (by decide) rfl fun p12 hp12 => ?_
 refine Ll.appendBools (xs := H) (ys := ([b] : List Bool)) Base.elem64 4 rfl rfl rfl rfl rfl rfl rfl hs.s2 hs.l2 (by simpa using hs.t2) (fun w1 hw1 => (Own.row hw1 (i := 0) rfl (n := 1) (cap := 1) (vs := bools ([b] : List Bool)) rfl rfl (by decide))) ((H ++ (([b] : List Bool))).length) (by first | (simp; done) | (simp; omega)) (by first | (simp; done) | (simp; omega) | omega) fun p13 cap13 cur13 hp13 hcp13 hlp13 htp13 => ?_
 show Ll _ _ (Own _ _ [_, _, _, _, _, _, _]) _ _ ((13, sl_ p13 (((H ++ (([b] : List Bool))).length)) cap13) :: _) _ _ _
 refine Ll.store1 (v := sl_ p13 (((H ++ (([b] : List Bool))).length)) cap13) (hs' := [_, _, bk_ p7 #[sl_ p13 (((H ++ (([b] : List Bool))).length)) cap13] 64, _, _, _, _]) 2 rfl rfl rfl rfl rfl rfl Tryd.sizeOf64 rfl (by simp) rfl ?_
 refine Ll.nil ?_
 refine (Kt.end0 rfl fun w' hw => ?_)
 exact ⟨rfl, ⟨p9, cap9, cur9, p13, cap13, cur13⟩, ⟨hp9, hcp9, by simpa using hlp9, by simpa using htp9, hp13, hcp13, by simpa using hlp13, by simpa using htp13⟩, by simpa using hw.tail.tail⟩

set_option maxHeartbeats 400000 in
/-- impl.factsOf -/
theorem factsOf_ok (a : St) (va : Value) (xs : List Int) (w : World) (ha : a.Fine) (hva : Ints w va xs) (hA : a.Els xs) (hl4 : xs.length ≤ 4) :
    Calls Tryd.prog 132 [vS a, va].toArray w fun en w' => ∃ v, en = .returned v ∧ Below w.heap.size w w' ∧ NewRows w.heap.size 9 4 w' v ((factsL a xs xs.length).map Prod.fst).length (strs ((factsL a xs xs.length).map Prod.fst)) ((factsL a xs xs.length).map Prod.snd).length (bools ((factsL a xs xs.length).map Prod.snd)) := by
 refine fnStart (n := 92) (e := [(0, vS a), (1, va)]) Tryd.func132 rfl rfl rfl rfl Ends.both ?_
 refine Wk.seq ?_
 refine Wk.region ?_
 refine Ll.box (v := vS a) rfl rfl rfl rfl rfl fun p2 hp2 => ?_
 show Ll _ _ (Own _ _ [_]) _ _ ((2, pt_ p2) :: _) _ _ _
 refine Ll.run 2 rfl ?_
 refine Ll.nil ?_
 refine Kt.sel [1, 2] [_, _] rfl ?_
 refine Wk.seq ?_
 refine Wk.region ?_
 refine Ll.slice (xs := []) (vs := []) Base.elem91 rfl rfl rfl rfl rfl rfl (by decide) rfl fun p15 hp15 => ?_
 refine Ll.slice (xs := []) (vs := []) Base.elem64 rfl rfl rfl rfl rfl rfl (by decide) rfl fun p16 hp16 => ?_
 refine Ll.alloc rfl rfl rfl rfl Tryd.zeroValue91 fun p6 hp6 => ?_
 show Ll _ _ (Own _ _ [bk_ p6 #[.slice none 0 0] 91, _, _, _]) _ _ ((6, pt_ p6) :: _) _ _ _
 refine Ll.alloc rfl rfl rfl rfl Tryd.zeroValue64 fun p7 hp7 => ?_
 show Ll _ _ (Own _ _ [bk_ p7 #[.slice none 0 0] 64, _, _, _, _]) _ _ ((7, pt_ p7) :: _) _ _ _
 refine Ll.store1 (v := sl_ p15 0 0) (hs' := [_, bk_ p6 #[sl_ p15 0 0] 91, _, _, _]) 1 rfl rfl rfl rfl rfl rfl Tryd.sizeOf91 rfl (by simp) rfl ?_
 refine Ll.store1 (v := sl_ p16 0 0) (hs' := [bk_ p7 #[sl_ p16 0 0] 64, _, _, _, _]) 0 rfl rfl rfl rfl rfl rfl Tryd.sizeOf64 rfl (by simp) rfl ?_
 refine Ll.nil ?_
 refine Kt.sel [1, 2, 6, 7] [_, _, _, _] rfl ?_
 refine Wk.seq ?_
 refine Wk.regionQ ?_
 refine Lq.op (v := .func (.func 155) #[] #[pt_ p6, pt_ p7]) rfl rfl rfl (OpQ.func' (cap := [.tmp 6, .tmp 7]) rfl rfl) ?_
 refine Lq.run 1 rfl ?_
 refine Lq.nil ?_
 refine Kt.sel [1, 2, 6, 7, 8] [_, _, _, _, _] rfl ?_
 refine Wk.seq ?_
 refine Wk.seq ?_
 refine Wk.regionQ ?_
 refine Lq.run 1 rfl ?_
 refine Lq.op (v := i6_ ((xs.length : Int))) rfl rfl rfl (OpQ.lenRow rfl Tryd.runUnderlying24 rfl (ints_length _) (fun w1 hw1 => Row.own hva hw1)) ?_
 refine Lq.run 1 rfl ?_
 refine Lq.nil ?_
 refine Kt.sel [1, 2, 6, 7, 8, 18, 19, 20] [_, _, _, _, _, _, _, _] rfl ?_
 refine Wk.block ?_
 refine Wk.loop (σ := Nat × Boxed) (fun ⟨k, s⟩ => k ≤ xs.length ∧ s.Ok w.heap.size ((factsL a xs k).map Prod.fst) ((factsL a xs k).map Prod.snd)) (fun ⟨k, s⟩ => [(1, va), (2, pt_ p2), (6, pt_ p6), (7, pt_ p7), (8, .func (.func 155) #[] #[pt_ p6, pt_ p7]), (18, va), (19, i6_ ((xs.length : Int))), (20, i6_ ((k : Int)))]) (fun ⟨k, s⟩ => Own w.heap.size w [bk_ p7 #[sl_ s.q2 (((factsL a xs k).map Prod.snd : List Bool).length) s.c2] 64, bk_ p6 #[sl_ s.q1 (((factsL a xs k).map Prod.fst : List (List UInt8)).length) s.c1] 91, bk_ s.q2 s.u2 4, bk_ s.q1 s.u1 9, bk_ p2 #[i6_ a.n, str a.set, str a.rel] 28]) (fun ⟨k, s⟩ => xs.length - k) ((0, ⟨p15, 0, #[], p16, 0, #[]⟩)) ⟨by omega, ⟨hp15, rfl, by simp [factsL], rfl, hp16, rfl, by simp [factsL], rfl⟩⟩ (Sub.sel [1, 2, 6, 7, 8, 18, 19, 20] rfl) (fun _ h => h) ?_
 rintro ⟨k, s⟩ ⟨hk, hs⟩
 dsimp only
 refine Wk.seq ?_
 refine Wk.regionQ ?_
 refine Lq.run 1 rfl ?_
 refine Lq.nil ?_
 refine Kt.sel [1, 2, 6, 7, 8, 18, 19, 20, 21] [_, _, _, _, _, _, _, _, _] rfl ?_
 refine Wk.seq ?_
 refine Wk.cond (b := decide (((k : Int)) < ((xs.length : Int)))) rfl (fun h21 => ?_) (fun h21 => ?_)
 ·
  replace h21 := of_decide_eq_true h21
  have hk4 : k < 4 := by omega
  have hfl := factsL_length a xs k (by omega)
  have hnk := nameS_length hk4
  refine Wk.skip ?_
  refine Kt.sel [1, 2, 6, 7, 8, 18, 19, 20] [_, _, _, _, _, _, _, _] rfl ?_
  refine Wk.seq ?_
  refine Wk.block ?_
  refine Wk.seq ?_
  refine Wk.regionQ ?_
  refine Lq.run 1 rfl ?_
  refine Lq.op (v := .pointer (some (sAt va ((k : Int))))) rfl rfl rfl (OpQ.atRow rfl Tryd.runUnderlying24 Tryd.sizeOf3 rfl rfl (by omega) (by rw [ints_length]; omega) (fun w1 hw1 => Row.own hva hw1)) ?_
  refine Lq.op (v := i6_ (xs.getD (((k : Int)).toNat) 0)) rfl rfl rfl (OpQ.load1 rfl Tryd.isAgg3 rfl (fun w1 hw1 => Ints.cell (Row.own hva hw1) (by omega) (by omega))) ?_
  refine Lq.run 2 rfl ?_
  refine Lq.nil ?_
  refine Kt.sel [1, 2, 6, 7, 8, 9, 10, 18, 19, 20] [_, _, _, _, _, _, _, _, _, _] rfl ?_
  refine Wk.seq ?_
  refine Wk.regionQ ?_
  refine Lq.op (v := str ([63])) rfl rfl rfl (OpQ.assign rfl rfl) ?_
  refine Lq.nil ?_
  refine Kt.sel [1, 2, 6, 7, 8, 9, 10, 11, 18, 19, 20] [_, _, _, _, _, _, _, _, _, _, _] rfl ?_
  refine Wk.seq ?_
  refine Wk.seq ?_
  refine Wk.regionQ ?_
  refine Lq.run 2 rfl ?_
  refine Lq.nil ?_
  refine Kt.sel [1, 2, 6, 7, 8, 9, 10, 11, 18, 19, 20, 26] [_, _, _, _, _, _, _, _, _, _, _, _] rfl ?_
  refine Wk.cond (b := decide (((k : Int)) < (4 : Int))) rfl (fun h26 => ?_) (fun h26 => ?_)
  ·
   replace h26 := of_decide_eq_true h26
   refine Wk.regionQ ?_
   refine Lq.run 1 rfl ?_
   refine Lq.op (v := str (nameS k)) rfl rfl rfl (OpQ.call rfl Tryd.call93 rfl Own.stable (fun w1 hw1 => nameOf_ok k w1 (by omega))) ?_
   refine Lq.run 1 rfl ?_
   refine Lq.nil ?_
   refine Kt.sel [1, 2, 6, 7, 8, 9, 10, 11, 18, 19, 20] [_, _, _, _, _, _, _, _, _, _, _] rfl ?_
   refine Wk.seq ?_
   refine Wk.region ?_
   refine Ll.run 2 rfl ?_
   refine Ll.op rfl rfl rfl (OpQ.sadd rfl rfl rfl (by first | omega | (simp only [List.length_append, List.length_cons, List.length_nil]; omega))) ?_
   refine Ll.op rfl rfl rfl (OpQ.loadBox (cs := #[i6_ a.n, str a.set, str a.rel]) 4 rfl Tryd.isAgg28 rfl rfl Tryd.sizeOf28) ?_
   refine Ll.run 1 rfl ?_
   refine Ll.op (v := bo_ (a.inSet (xs.getD (((k : Int)).toNat) 0))) rfl rfl rfl (OpQ.call rfl Tryd.call151 rfl Own.stable (fun w1 hw1 => inSet_ok a (xs.getD (((k : Int)).toNat) 0) w1 ha (by first | assumption | exact St.Els.at (by assumption) (by omega) (by omega)))) ?_
   refine Ll.callFnTo (v := .tuple #[]) (xs := [.tmp 31, .tmp 34]) (vs := [str (([80]) ++ (nameS k)), bo_ (a.inSet (xs.getD (((k : Int)).toNat) 0))]) (ok := fun t : Boxed => t.Ok w.heap.size (((factsL a xs k).map Prod.fst) ++ [([80]) ++ (nameS k)]) (((factsL a xs k).map Prod.snd) ++ [a.inSet (xs.getD (((k : Int)).toNat) 0)])) (hs' := fun t : Boxed => [bk_ p7 #[sl_ t.q2 ((((factsL a xs k).map Prod.snd) ++ [a.inSet (xs.getD (((k : Int)).toNat) 0)] : List Bool).length) t.c2] 64, bk_ p6 #[sl_ t.q1 ((((factsL a xs k).map Prod.fst) ++ [([80]) ++ (nameS k)] : List (List UInt8)).length) t.c1] 91, bk_ t.q2 t.u2 4, bk_ t.q1 t.u1 9, bk_ p2 #[i6_ a.n, str a.set, str a.rel] 28]) rfl rfl rfl rfl rfl Tryd.call155 rfl (fun w1 hw1 => tell_ok _ _ _ _ _ _ s ((factsL a xs k).map Prod.fst) ((factsL a xs k).map Prod.snd) (([80]) ++ (nameS k)) (a.inSet (xs.getD (((k : Int)).toNat) 0)) w1 hs (by first | (simp; done) | (simp; omega)) (by first | (simp; done) | (simp; omega)) hw1) fun s35 hs35 => ?_
   show Ll _ _ (Own _ _ [_, _, _, _, _]) _ _ _ _ _ _
   refine Ll.nil ?_
   refine Kt.sel [1, 2, 6, 7, 8, 9, 10, 11, 18, 19, 20] [_, _, _, _, _, _, _, _, _, _, _] rfl ?_
   refine Wk.seq ?_
   refine Wk.region ?_
   refine Ll.run 2 rfl ?_
   refine Ll.op rfl rfl rfl (OpQ.sadd rfl rfl rfl (by first | omega | (simp only [List.length_append, List.length_cons, List.length_nil]; omega))) ?_
   refine Ll.run 1 rfl ?_
   refine Ll.op rfl rfl rfl (OpQ.sadd rfl rfl rfl (by first | omega | (simp only [List.length_append, List.length_cons, List.length_nil]; omega))) ?_
   refine Ll.op rfl rfl rfl (OpQ.loadBox (cs := #[i6_ a.n, str a.set, str a.rel]) 4 rfl Tryd.isAgg28 rfl rfl Tryd.sizeOf28) ?_
   refine Ll.run 2 rfl ?_
   refine Ll.op (v := bo_ (a.inRel (xs.getD (((k : Int)).toNat) 0) (xs.getD (((k : Int)).toNat) 0))) rfl rfl rfl (OpQ.call rfl Tryd.call152 rfl Own.stable (fun w1 hw1 => inRel_ok a (xs.getD (((k : Int)).toNat) 0) (xs.getD (((k : Int)).toNat) 0) w1 ha (by first | assumption | exact St.Els.at (by assumption) (by omega) (by omega)) (by first | assumption | exact St.Els.at (by assumption) (by omega) (by omega)))) ?_
   refine Ll.callFnTo (v := .tuple #[]) (xs := [.tmp 40, .tmp 44]) (vs := [str ((([69]) ++ (nameS k)) ++ (nameS k)), bo_ (a.inRel (xs.getD (((k : Int)).toNat) 0) (xs.getD (((k : Int)).toNat) 0))]) (ok := fun t : Boxed => t.Ok w.heap.size ((((factsL a xs k).map Prod.fst) ++ [([80]) ++ (nameS k)]) ++ [(([69]) ++ (nameS k)) ++ (nameS k)]) ((((factsL a xs k).map Prod.snd) ++ [a.inSet (xs.getD (((k : Int)).toNat) 0)]) ++ [a.inRel (xs.getD (((k : Int)).toNat) 0) (xs.getD (((k : Int)).toNat) 0)])) (hs' := fun t : Boxed => [bk_ p7 #[sl_ t.q2 (((((factsL a xs k).map Prod.snd) ++ [a.inSet (xs.getD (((k : Int)).toNat) 0)]) ++ [a.inRel (xs.getD (((k : Int)).toNat) 0) (xs.getD (((k : Int)).toNat) 0)] : List Bool).length) t.c2] 64, bk_ p6 #[sl_ t.q1 (((((factsL a xs k).map Prod.fst) ++ [([80]) ++ (nameS k)]) ++ [(([69]) ++ (nameS k)) ++ (nameS k)] : List (List UInt8)).length) t.c1] 91, bk_ t.q2 t.u2 4, bk_ t.q1 t.u1 9, bk_ p2 #[i6_ a.n, str a.set, str a.rel] 28]) rfl rfl rfl rfl rfl Tryd.call155 rfl (fun w1 hw1 => tell_ok _ _ _ _ _ _ s35 (((factsL a xs k).map Prod.fst) ++ [([80]) ++ (nameS k)]) (((factsL a xs k).map Prod.snd) ++ [a.inSet (xs.getD (((k : Int)).toNat) 0)]) ((([69]) ++ (nameS k)) ++ (nameS k)) (a.inRel (xs.getD (((k : Int)).toNat) 0) (xs.getD (((k : Int)).toNat) 0)) w1 hs35 (by first | (simp; done) | (simp; omega)) (by first | (simp; done) | (simp; omega)) hw1) fun s45 hs45 => ?_
   show Ll _ _ (Own _ _ [_, _, _, _, _]) _ _ _ _ _ _
   refine Ll.nil ?_
   refine Kt.sel [1, 2, 6, 7, 8, 9, 10, 11, 18, 19, 20] [_, _, _, _, _, _, _, _, _, _, _] rfl ?_
   refine Wk.seq ?_
   refine Wk.regionQ ?_
   refine Lq.run 2 rfl ?_
   refine Lq.op (v := sTake va k) rfl rfl rfl (OpQ.takeRow (i := (k : Int)) rfl Tryd.runUnderlying24 Tryd.sizeOf3 rfl rfl (by omega) (by rw [ints_length]; omega) (fun w1 hw1 => Row.own hva hw1)) ?_
   refine Lq.op (v := i6_ ((k : Int))) rfl rfl rfl (OpQ.lenRow rfl Tryd.runUnderlying24 rfl (by rw [ints_length, List.length_take]; omega) (fun w1 hw1 => Ints.take (Row.own hva hw1) k (by omega))) ?_
   refine Lq.run 1 rfl ?_
   refine Lq.nil ?_
   refine Kt.sel [1, 2, 6, 7, 8, 10, 11, 18, 19, 20, 48, 49, 50] [_, _, _, _, _, _, _, _, _, _, _, _, _] rfl ?_
   refine Wk.block ?_
   refine Wk.loop (σ := Nat × Boxed) (fun ⟨j, t⟩ => j ≤ k ∧ t.Ok w.heap.size ((factsL a xs k ++ (headL a xs k ++ moreL a xs k j)).map Prod.fst) ((factsL a xs k ++ (headL a xs k ++ moreL a xs k j)).map Prod.snd)) (fun ⟨j, t⟩ => [(1, va), (2, pt_ p2), (6, pt_ p6), (7, pt_ p7), (8, .func (.func 155) #[] #[pt_ p6, pt_ p7]), (10, i6_ (xs.getD (((k : Int)).toNat) 0)), (11, str (nameS k)), (18, va), (19, i6_ ((xs.length : Int))), (20, i6_ ((k : Int))), (48, sTake va k), (49, i6_ ((k : Int))), (50, i6_ ((j : Int)))]) (fun ⟨j, t⟩ => Own w.heap.size w [bk_ p7 #[sl_ t.q2 (((factsL a xs k ++ (headL a xs k ++ moreL a xs k j)).map Prod.snd : List Bool).length) t.c2] 64, bk_ p6 #[sl_ t.q1 (((factsL a xs k ++ (headL a xs k ++ moreL a xs k j)).map Prod.fst : List (List UInt8)).length) t.c1] 91, bk_ t.q2 t.u2 4, bk_ t.q1 t.u1 9, bk_ p2 #[i6_ a.n, str a.set, str a.rel] 28]) (fun ⟨j, t⟩ => k - j) ((0, s45)) ⟨by omega, by rw [tell_head1, tell_head2]; exact hs45⟩ (Sub.sel [1, 2, 6, 7, 8, 10, 11, 18, 19, 20, 48, 49, 50] rfl) (fun _ h => by dsimp only; rw [tell_head1, tell_head2]; exact h) ?_
   rintro ⟨j, t⟩ ⟨hj, ht⟩
   dsimp only
   refine Wk.seq ?_
   refine Wk.regionQ ?_
   refine Lq.run 1 rfl ?_
   refine Lq.nil ?_
   refine Kt.sel [1, 2, 6, 7, 8, 10, 11, 18, 19, 20, 48, 49, 50, 51] [_, _, _, _, _, _, _, _, _, _, _, _, _, _] rfl ?_
   refine Wk.seq ?_
   refine Wk.cond (b := decide (((j : Int)) < ((k : Int)))) rfl (fun h51 => ?_) (fun h51 => ?_)
   ·
    replace h51 := of_decide_eq_true h51
    have hlk : (xs.take k).length = k := by rw [List.length_take]; omega
    have hjk : j < k := by omega
    have hnj := nameS_length (show j < 4 by omega)
    refine Wk.skip ?_
    refine Kt.sel [1, 2, 6, 7, 8, 10, 11, 18, 19, 20, 48, 49, 50] [_, _, _, _, _, _, _, _, _, _, _, _, _] rfl ?_
    refine Wk.seq ?_
    refine Wk.block ?_
    refine Wk.seq ?_
    refine Wk.regionQ ?_
    refine Lq.run 1 rfl ?_
    refine Lq.op (v := .pointer (some (sAt (sTake va k) ((j : Int))))) rfl rfl rfl (OpQ.atRow rfl Tryd.runUnderlying24 Tryd.sizeOf3 rfl rfl (by omega) (by rw [ints_length, List.length_take]; omega) (fun w1 hw1 => Ints.take (Row.own hva hw1) k (by omega))) ?_
    refine Lq.op (v := i6_ (xs.getD ((j : Int)).toNat 0)) rfl rfl rfl (OpQ.cast (by rw [Int.toNat_natCast, take_getD hjk]) (OpQ.load1 rfl Tryd.isAgg3 rfl (fun w1 hw1 => Ints.cell (Ints.take (Row.own hva hw1) k (by omega)) (by omega) (by omega)))) ?_
    refine Lq.run 2 rfl ?_
    refine Lq.nil ?_
    refine Kt.sel [1, 2, 6, 7, 8, 10, 11, 12, 13, 18, 19, 20, 48, 49, 50] [_, _, _, _, _, _, _, _, _, _, _, _, _, _, _] rfl ?_
    refine Wk.seq ?_
    refine Wk.regionQ ?_
    refine Lq.op (v := str ([63])) rfl rfl rfl (OpQ.assign rfl rfl) ?_
    refine Lq.nil ?_
    refine Kt.sel [1, 2, 6, 7, 8, 10, 11, 12, 13, 14, 18, 19, 20, 48, 49, 50] [_, _, _, _, _, _, _, _, _, _, _, _, _, _, _, _] rfl ?_
    refine Wk.seq ?_
    refine Wk.seq ?_
    refine Wk.regionQ ?_
    refine Lq.run 2 rfl ?_
    refine Lq.nil ?_
    refine Kt.sel [1, 2, 6, 7, 8, 10, 11, 12, 13, 14, 18, 19, 20, 48, 49, 50, 56] [_, _, _, _, _, _, _, _, _, _, _, _, _, _, _, _, _] rfl ?_
    refine Wk.cond (b := decide (((j : Int)) < (4 : Int))) rfl (fun h56 => ?_) (fun h56 => ?_)
    ·
     replace h56 := of_decide_eq_true h56
     refine Wk.regionQ ?_
     refine Lq.run 1 rfl ?_
     refine Lq.op (v := str (nameS j)) rfl rfl rfl (OpQ.call rfl Tryd.call93 rfl Own.stable (fun w1 hw1 => nameOf_ok j w1 (by omega))) ?_
     refine Lq.run 1 rfl ?_
     refine Lq.nil ?_
     refine Kt.sel [1, 2, 6, 7, 8, 10, 11, 13, 14, 18, 19, 20, 48, 49, 50] [_, _, _, _, _, _, _, _, _, _, _, _, _, _, _] rfl ?_
     refine Wk.seq ?_
     refine Wk.region ?_
     refine Ll.run 2 rfl ?_
     refine Ll.op rfl rfl rfl (OpQ.sadd rfl rfl rfl (by first | omega | (simp only [List.length_append, List.length_cons, List.length_nil]; omega))) ?_
     refine Ll.run 1 rfl ?_
     refine Ll.op rfl rfl rfl (OpQ.sadd rfl rfl rfl (by first | omega | (simp only [List.length_append, List.length_cons, List.length_nil]; omega))) ?_
     refine Ll.run 3 rfl ?_
     refine Ll.callFnTo (v := .tuple #[]) (xs := [.tmp 63, .tmp 66]) (vs := [str ((([61]) ++ (nameS j)) ++ (nameS k)), bo_ (decide ((xs.getD (((k : Int)).toNat) 0) = (xs.getD ((j : Int)).toNat 0)))]) (ok := fun t : Boxed => t.Ok w.heap.size (((factsL a xs k ++ (headL a xs k ++ moreL a xs k j)).map Prod.fst) ++ [(([61]) ++ (nameS j)) ++ (nameS k)]) (((factsL a xs k ++ (headL a xs k ++ moreL a xs k j)).map Prod.snd) ++ [decide ((xs.getD (((k : Int)).toNat) 0) = (xs.getD ((j : Int)).toNat 0))])) (hs' := fun t : Boxed => [bk_ p7 #[sl_ t.q2 ((((factsL a xs k ++ (headL a xs k ++ moreL a xs k j)).map Prod.snd) ++ [decide ((xs.getD (((k : Int)).toNat) 0) = (xs.getD ((j : Int)).toNat 0))] : List Bool).length) t.c2] 64, bk_ p6 #[sl_ t.q1 ((((factsL a xs k ++ (headL a xs k ++ moreL a xs k j)).map Prod.fst) ++ [(([61]) ++ (nameS j)) ++ (nameS k)] : List (List UInt8)).length) t.c1] 91, bk_ t.q2 t.u2 4, bk_ t.q1 t.u1 9, bk_ p2 #[i6_ a.n, str a.set, str a.rel] 28]) rfl rfl rfl rfl rfl Tryd.call155 rfl (fun w1 hw1 => tell_ok _ _ _ _ _ _ t ((factsL a xs k ++ (headL a xs k ++ moreL a xs k j)).map Prod.fst) ((factsL a xs k ++ (headL a xs k ++ moreL a xs k j)).map Prod.snd) ((([61]) ++ (nameS j)) ++ (nameS k)) (decide ((xs.getD (((k : Int)).toNat) 0) = (xs.getD ((j : Int)).toNat 0))) w1 ht (by first | (simp; done) | (simp; omega)) (by first | (simp; done) | (simp; omega)) hw1) fun s67 hs67 => ?_
     show Ll _ _ (Own _ _ [_, _, _, _, _]) _ _ _ _ _ _
     refine Ll.nil ?_
     refine Kt.sel [1, 2, 6, 7, 8, 10, 11, 13, 14, 18, 19, 20, 48, 49, 50] [_, _, _, _, _, _, _, _, _, _, _, _, _, _, _] rfl ?_
     refine Wk.seq ?_
     refine Wk.region ?_
     refine Ll.run 2 rfl ?_
     refine Ll.op rfl rfl rfl (OpQ.sadd rfl rfl rfl (by first | omega | (simp only [List.length_append, List.length_cons, List.length_nil]; omega))) ?_
     refine Ll.run 1 rfl ?_
     refine Ll.op rfl rfl rfl (OpQ.sadd rfl rfl rfl (by first | omega | (simp only [List.length_append, List.length_cons, List.length_nil]; omega))) ?_
     refine Ll.op rfl rfl rfl (OpQ.loadBox (cs := #[i6_ a.n, str a.set, str a.rel]) 4 rfl Tryd.isAgg28 rfl rfl Tryd.sizeOf28) ?_
     refine Ll.run 2 rfl ?_
     refine Ll.op (v := bo_ (a.inRel (xs.getD ((j : Int)).toNat 0) (xs.getD (((k : Int)).toNat) 0))) rfl rfl rfl (OpQ.call rfl Tryd.call152 rfl Own.stable (fun w1 hw1 => inRel_ok a (xs.getD ((j : Int)).toNat 0) (xs.getD (((k : Int)).toNat) 0) w1 ha (by first | assumption | exact St.Els.at (by assumption) (by omega) (by omega)) (by first | assumption | exact St.Els.at (by assumption) (by omega) (by omega)))) ?_
     refine Ll.callFnTo (v := .tuple #[]) (xs := [.tmp 72, .tmp 76]) (vs := [str ((([69]) ++ (nameS j)) ++ (nameS k)), bo_ (a.inRel (xs.getD ((j : Int)).toNat 0) (xs.getD (((k : Int)).toNat) 0))]) (ok := fun t : Boxed => t.Ok w.heap.size ((((factsL a xs k ++ (headL a xs k ++ moreL a xs k j)).map Prod.fst) ++ [(([61]) ++ (nameS j)) ++ (nameS k)]) ++ [(([69]) ++ (nameS j)) ++ (nameS k)]) ((((factsL a xs k ++ (headL a xs k ++ moreL a xs k j)).map Prod.snd) ++ [decide ((xs.getD (((k : Int)).toNat) 0) = (xs.getD ((j : Int)).toNat 0))]) ++ [a.inRel (xs.getD ((j : Int)).toNat 0) (xs.getD (((k : Int)).toNat) 0)])) (hs' := fun t : Boxed => [bk_ p7 #[sl_ t.q2 (((((factsL a xs k ++ (headL a xs k ++ moreL a xs k j)).map Prod.snd) ++ [decide ((xs.getD (((k : Int)).toNat) 0) = (xs.getD ((j : Int)).toNat 0))]) ++ [a.inRel (xs.getD ((j : Int)).toNat 0) (xs.getD (((k : Int)).toNat) 0)] : List Bool).length) t.c2] 64, bk_ p6 #[sl_ t.q1 (((((factsL a xs k ++ (headL a xs k ++ moreL a xs k j)).map Prod.fst) ++ [(([61]) ++ (nameS j)) ++ (nameS k)]) ++ [(([69]) ++ (nameS j)) ++ (nameS k)] : List (List UInt8)).length) t.c1] 91, bk_ t.q2 t.u2 4, bk_ t.q1 t.u1 9, bk_ p2 #[i6_ a.n, str a.set, str a.rel] 28]) rfl rfl rfl rfl rfl Tryd.call155 rfl (fun w1 hw1 => tell_ok _ _ _ _ _ _ s67 (((factsL a xs k ++ (headL a xs k ++ moreL a xs k j)).map Prod.fst) ++ [(([61]) ++ (nameS j)) ++ (nameS k)]) (((factsL a xs k ++ (headL a xs k ++ moreL a xs k j)).map Prod.snd) ++ [decide ((xs.getD (((k : Int)).toNat) 0) = (xs.getD ((j : Int)).toNat 0))]) ((([69]) ++ (nameS j)) ++ (nameS k)) (a.inRel (xs.getD ((j : Int)).toNat 0) (xs.getD (((k : Int)).toNat) 0)) w1 hs67 (by first | (simp; done) | (simp; omega)) (by first | (simp; done) | (simp; omega)) hw1) fun s77 hs77 => ?_
     show Ll _ _ (Own _ _ [_, _, _, _, _]) _ _ _ _ _ _
     refine Ll.nil ?_
     refine Kt.sel [1, 2, 6, 7, 8, 10, 11, 13, 14, 18, 19, 20, 48, 49, 50] [_, _, _, _, _, _, _, _, _, _, _, _, _, _, _] rfl ?_
     refine Wk.region ?_
     refine Ll.run 2 rfl ?_
     refine Ll.op rfl rfl rfl (OpQ.sadd rfl rfl rfl (by first | omega | (simp only [List.length_append, List.length_cons, List.length_nil]; omega))) ?_
     refine Ll.run 1 rfl ?_
     refine Ll.op rfl rfl rfl (OpQ.sadd rfl rfl rfl (by first | omega | (simp only [List.length_append, List.length_cons, List.length_nil]; omega))) ?_
     refine Ll.op rfl rfl rfl (OpQ.loadBox (cs := #[i6_ a.n, str a.set, str a.rel]) 4 rfl Tryd.isAgg28 rfl rfl Tryd.sizeOf28) ?_
     refine Ll.run 2 rfl ?_
     refine Ll.op (v := bo_ (a.inRel (xs.getD (((k : Int)).toNat) 0) (xs.getD ((j : Int)).toNat 0))) rfl rfl rfl (OpQ.call rfl Tryd.call152 rfl Own.stable (fun w1 hw1 => inRel_ok a (xs.getD (((k : Int)).toNat) 0) (xs.getD ((j : Int)).toNat 0) w1 ha (by first | assumption | exact St.Els.at (by assumption) (by omega) (by omega)) (by first | assumption | exact St.Els.at (by assumption) (by omega) (by omega)))) ?_
     refine Ll.callFnTo (v := .tuple #[]) (xs := [.tmp 82, .tmp 86]) (vs := [str ((([69]) ++ (nameS k)) ++ (nameS j)), bo_ (a.inRel (xs.getD (((k : Int)).toNat) 0) (xs.getD ((j : Int)).toNat 0))]) (ok := fun t : Boxed => t.Ok w.heap.size (((((factsL a xs k ++ (headL a xs k ++ moreL a xs k j)).map Prod.fst) ++ [(([61]) ++ (nameS j)) ++ (nameS k)]) ++ [(([69]) ++ (nameS j)) ++ (nameS k)]) ++ [(([69]) ++ (nameS k)) ++ (nameS j)]) (((((factsL a xs k ++ (headL a xs k ++ moreL a xs k j)).map Prod.snd) ++ [decide ((xs.getD (((k : Int)).toNat) 0) = (xs.getD ((j : Int)).toNat 0))]) ++ [a.inRel (xs.getD ((j : Int)).toNat 0) (xs.getD (((k : Int)).toNat) 0)]) ++ [a.inRel (xs.getD (((k : Int)).toNat) 0) (xs.getD ((j : Int)).toNat 0)])) (hs' := fun t : Boxed => [bk_ p7 #[sl_ t.q2 ((((((factsL a xs k ++ (headL a xs k ++ moreL a xs k j)).map Prod.snd) ++ [decide ((xs.getD (((k : Int)).toNat) 0) = (xs.getD ((j : Int)).toNat 0))]) ++ [a.inRel (xs.getD ((j : Int)).toNat 0) (xs.getD (((k : Int)).toNat) 0)]) ++ [a.inRel (xs.getD (((k : Int)).toNat) 0) (xs.getD ((j : Int)).toNat 0)] : List Bool).length) t.c2] 64, bk_ p6 #[sl_ t.q1 ((((((factsL a xs k ++ (headL a xs k ++ moreL a xs k j)).map Prod.fst) ++ [(([61]) ++ (nameS j)) ++ (nameS k)]) ++ [(([69]) ++ (nameS j)) ++ (nameS k)]) ++ [(([69]) ++ (nameS k)) ++ (nameS j)] : List (List UInt8)).length) t.c1] 91, bk_ t.q2 t.u2 4, bk_ t.q1 t.u1 9, bk_ p2 #[i6_ a.n, str a.set, str a.rel] 28]) rfl rfl rfl rfl rfl Tryd.call155 rfl (fun w1 hw1 => tell_ok _ _ _ _ _ _ s77 ((((factsL a xs k ++ (headL a xs k ++ moreL a xs k j)).map Prod.fst) ++ [(([61]) ++ (nameS j)) ++ (nameS k)]) ++ [(([69]) ++ (nameS j)) ++ (nameS k)]) ((((factsL a xs k ++ (headL a xs k ++ moreL a xs k j)).map Prod.snd) ++ [decide ((xs.getD (((k : Int)).toNat) 0) = (xs.getD ((j : Int)).toNat 0))]) ++ [a.inRel (xs.getD ((j : Int)).toNat 0) (xs.getD (((k : Int)).toNat) 0)]) ((([69]) ++ (nameS k)) ++ (nameS j)) (a.inRel (xs.getD (((k : Int)).toNat) 0) (xs.getD ((j : Int)).toNat 0)) w1 hs77 (by first | (simp; done) | (simp; omega)) (by first | (simp; done) | (simp; omega)) hw1) fun s87 hs87 => ?_
     show Ll _ _ (Own _ _ [_, _, _, _, _]) _ _ _ _ _ _
     refine Ll.nil ?_
     refine Kt.sel [1, 2, 6, 7, 8, 10, 11, 18, 19, 20, 48, 49, 50] [_, _, _, _, _, _, _, _, _, _, _, _, _] rfl ?_
     refine Wk.regionQ ?_
     refine Lq.op rfl rfl rfl (OpQ.add rfl rfl rfl (by omega) (by omega)) ?_
     refine Lq.run 1 rfl ?_
     refine Lq.nil ?_
     refine Kt.again ((j + 1, s87)) ⟨by omega, by rw [tell_step1, tell_step2]; exact hs87⟩ (by omega) (Sub.sel [1, 2, 6, 7, 8, 10, 11, 18, 19, 20, 48, 49, 50] rfl) (fun _ h => by dsimp only; rw [tell_step1, tell_step2]; exact h)
    ·
     replace h56 := of_decide_eq_false h56
     omega
   ·
    replace h51 := of_decide_eq_false h51
    refine Wk.exit rfl ?_
    refine Kt.sel [1, 2, 6, 7, 8, 18, 19, 20] [_, _, _, _, _, _, _, _] rfl ?_
    refine Wk.regionQ ?_
    refine Lq.op rfl rfl rfl (OpQ.add rfl rfl rfl (by omega) (by omega)) ?_
    refine Lq.run 1 rfl ?_
    refine Lq.nil ?_
    refine Kt.again ((k + 1, t)) ⟨by omega, by rw [facts_end1 (j := j) (by omega), facts_end2 (j := j) (by omega)]; exact ht⟩ (by omega) (Sub.sel [1, 2, 6, 7, 8, 18, 19, 20] rfl) (fun _ h => by dsimp only; rw [facts_end1 (j := j) (by omega), facts_end2 (j := j) (by omega)]; exact h)
  ·
   replace h26 := of_decide_eq_false h26
   omega
 ·
  replace h21 := of_decide_eq_false h21
  refine Wk.exit rfl ?_
  refine Kt.sel [6, 7] [_, _] rfl ?_
  refine Wk.seq ?_
  refine Wk.regionD Base.mixed (fun _ h => h.drawn) (by kernel_rfl) ?_
  refine Lq.op rfl rfl rfl (OpQ.loadOwn 1 rfl Tryd.isAgg91 rfl rfl rfl) ?_
  refine Lq.op rfl rfl rfl (OpQ.loadOwn 0 rfl Tryd.isAgg64 rfl rfl rfl) ?_
  refine Lq.run 2 rfl ?_
  refine Lq.nil ?_
  refine Kt.sel [4, 5] [_, _] rfl ?_
  refine Wk.ret (Kt.end2 rfl rfl rfl fun w' hw => ?_)
  -- ret 0: sl_ s.q1 (((factsL a xs k).map Prod.fst : List (List UInt8)).length) s.c1; sl_ s.q2 (((factsL a xs k).map Prod.snd : List Bool).length) s.c2
  obtain rfl : k = xs.length := by omega
  exact ⟨_, rfl, hw.below, hw.newRows (i := 3) (j := 2) rfl rfl (by decide) hs.s1 hs.l1 hs.t1 hs.s2 hs.l2 hs.t2⟩

set_option maxHeartbeats 400000 in
/-- spec.l4Seen -/
theorem l4Seen_ok (va : Value) (l : List (List UInt8)) (s : List UInt8) (w : World) (hva : Strs w va l) (hs : l.length ≤ 100000) :
    Calls Tryd.prog 128 [va, str s].toArray w fun en w' => en = .returned (.int .i64 (seenI l s)) ∧ Below w.heap.size w w' := by
 refine fnStart (n := 19) (e := [(0, va), (1, str s)]) Tryd.func128 rfl rfl rfl rfl Ends.both ?_
 refine Wk.seq ?_
 refine Wk.regionQ ?_
 refine Lq.run 1 rfl ?_
 refine Lq.nil ?_
 refine Kt.sel [0, 1] [_, _] rfl ?_
 refine Wk.seq ?_
 refine Wk.seq ?_
 refine Wk.regionQ ?_
 refine Lq.run 1 rfl ?_
 refine Lq.nil ?_
 refine Kt.sel [0, 1, 5] [_, _, _] rfl ?_
 refine Wk.block ?_
 refine Wk.loop (σ := Nat) (fun k => k ≤ l.length ∧ ∀ i : Nat, i < k → (l.getD i [] == s) = false) (fun k => [(0, va), (1, str s), (5, i6_ ((k : Int)))]) (fun k => Own w.heap.size w []) (fun k => l.length - k) (0) ⟨by omega, fun i hi => absurd hi (by omega)⟩ (Sub.sel [0, 1, 5] rfl) (fun _ h => h) ?_
 rintro k ⟨hk, hall⟩
 refine Wk.seq ?_
 refine Wk.seq ?_
 refine Wk.regionQ ?_
 refine Lq.run 2 rfl ?_
 refine Lq.op (v := i6_ ((l.length : Int))) rfl rfl rfl (OpQ.lenRow rfl Tryd.runUnderlying91 rfl (strs_length _) (fun w1 hw1 => Row.own hva hw1)) ?_
 refine Lq.run 1 rfl ?_
 refine Lq.nil ?_
 refine Kt.sel [0, 1, 5, 9] [_, _, _, _] rfl ?_
 refine Wk.cond (b := decide (((k : Int)) < ((l.length : Int)))) rfl (fun h9 => ?_) (fun h9 => ?_)
 ·
  replace h9 := of_decide_eq_true h9
  refine Wk.skip ?_
  refine Kt.sel [0, 1, 5] [_, _, _] rfl ?_
  refine Wk.seq ?_
  refine Wk.block ?_
  refine Wk.seq ?_
  refine Wk.regionQ ?_
  refine Lq.run 2 rfl ?_
  refine Lq.op (v := .pointer (some (sAt va ((k : Int))))) rfl rfl rfl (OpQ.atRow rfl Tryd.runUnderlying91 Tryd.sizeOf9 rfl rfl (by omega) (by rw [strs_length]; omega) (fun w1 hw1 => Row.own hva hw1)) ?_
  refine Lq.op (v := str (l.getD (((k : Int)).toNat) [])) rfl rfl rfl (OpQ.load1 rfl Tryd.isAgg9 rfl (fun w1 hw1 => Strs.cell (Row.own hva hw1) (by omega) (by omega))) ?_
  refine Lq.run 1 rfl ?_
  refine Lq.op rfl rfl rfl (OpQ.seql rfl rfl rfl) ?_
  refine Lq.nil ?_
  refine Kt.sel [0, 1, 5, 17] [_, _, _, _] rfl ?_
  refine Wk.cond (b := (l.getD (((k : Int)).toNat) []) == s) rfl (fun h17 => ?_) (fun h17 => ?_)
  ·
   refine Wk.seq ?_
   refine Wk.regionQ ?_
   refine Lq.run 2 rfl ?_
   refine Lq.nil ?_
   refine Kt.sel [4] [_] rfl ?_
   refine Wk.ret (Kt.end1 rfl rfl fun w' hw => ?_)
   -- ret 0: i6_ ((k : Int))
   exact ⟨ret_i (seenI_at (k := k) (by omega) hall (by simpa using h17)).symm, hw.below⟩
  ·
   refine Wk.skip ?_
   refine Kt.sel [0, 1, 5] [_, _, _] rfl ?_
   refine Wk.regionQ ?_
   refine Lq.run 1 rfl ?_
   refine Lq.op rfl rfl rfl (OpQ.add rfl rfl rfl (by omega) (by omega)) ?_
   refine Lq.run 1 rfl ?_
   refine Lq.nil ?_
   refine Kt.again (k + 1) ⟨by omega, fun i hi => (Nat.lt_succ_iff_lt_or_eq.1 hi).elim (hall i) (fun e => by subst e; simpa using h17)⟩ (by omega) (Sub.sel [0, 1, 5] rfl) (fun _ h => h)
 ·
  replace h9 := of_decide_eq_false h9
  refine Wk.exit rfl ?_
  refine Kt.sel [] [] rfl ?_
  refine Wk.seq ?_
  refine Wk.regionQ ?_
  refine Lq.run 1 rfl ?_
  refine Lq.nil ?_
  refine Kt.sel [4] [_] rfl ?_
  refine Wk.ret (Kt.end1 rfl rfl fun w' hw => ?_)
  -- ret 1: i6_ (-1)
  exact ⟨ret_i (seenI_no (fun i hi => hall i (by omega))).symm, hw.below⟩

end Go.Proofs.YtjcoijejhachhaaDoor
