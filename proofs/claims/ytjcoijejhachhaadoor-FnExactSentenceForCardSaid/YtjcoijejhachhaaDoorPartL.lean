/-
  Walks: lists, their ways.
-/
import Derived.Test.YtjcoijejhachhaaDoorPartM
import Derived.Test.YtjcoijejhachhaaDoorBase
namespace Go.Proofs.YtjcoijejhachhaaDoor
open Go.RowKit Go.Wk
set_option linter.unusedSimpArgs false

set_option maxHeartbeats 400000 in
/-- impl.areElements -/
theorem areElements_ok (a : St) (va : Value) (xs : List Int) (w : World) (hva : Ints w va xs) (hs : xs.length ≤ 140737488355328) :
    Calls Tryd.prog 88 [vS a, va].toArray w fun en w' => en = .returned (.bool (xs.all (elB a))) ∧ Below w.heap.size w w' := by
 refine fnStart (n := 9) (e := [(0, vS a), (1, va)]) Tryd.func88 rfl rfl rfl rfl Ends.both ?_
 refine Wk.seq ?_
 refine Wk.region ?_
 refine Ll.box (v := vS a) rfl rfl rfl rfl rfl fun p2 hp2 => ?_
 show Ll _ _ (Own _ _ [_]) _ _ ((2, pt_ p2) :: _) _ _ _
 refine Ll.run 1 rfl ?_
 refine Ll.nil ?_
 refine Kt.sel [1, 2] [_, _] rfl ?_
 refine Wk.seq ?_
 refine Wk.regionQ ?_
 refine Lq.run 1 rfl ?_
 refine Lq.op (v := .func (.func 131) #[] #[pt_ p2]) rfl rfl rfl (OpQ.func' (cap := [.tmp 2]) rfl rfl) ?_
 refine Lq.op (v := bo_ (xs.any fun x => !elB a x)) rfl rfl rfl (OpQ.call rfl Tryd.call130 rfl Own.stable (fun w1 hw1 => containsFunc_ok va xs w1 (Row.own hva hw1) hs 131 #[.pointer (some ⟨p2, 0, none⟩)] (fun x => !elB a x) Tryd.call131 (fun w2 hb x => noEl_ok a p2 _ x w2 ((hw1.stable _ _ hb).has 0 _ _ rfl).2))) ?_
 refine Lq.run 2 rfl ?_
 refine Lq.nil ?_
 refine Kt.sel [4] [_] rfl ?_
 refine Wk.ret (Kt.end1 rfl rfl fun w' hw => ?_)
 -- ret 0: bo_ (!(xs.any fun x => !elB a x))
 exact ⟨ret_b (not_any_elB a xs), hw.below⟩

set_option maxHeartbeats 400000 in
/-- impl.isList -/
theorem isList_ok (a : St) (va : Value) (xs : List Int) (w : World) (hsa : a.Small) (hva : Ints w va xs) (hs : xs.length ≤ 140737488355328) :
    Calls Tryd.prog 44 [vS a, va].toArray w fun en w' => en = .returned (.bool (listB a xs)) ∧ Below w.heap.size w w' := by
 refine fnStart (n := 17) (e := [(0, vS a), (1, va)]) Tryd.func44 rfl rfl rfl rfl Ends.both ?_
 refine Wk.seq ?_
 refine Wk.region ?_
 refine Ll.box (v := vS a) rfl rfl rfl rfl rfl fun p2 hp2 => ?_
 show Ll _ _ (Own _ _ [_]) _ _ ((2, pt_ p2) :: _) _ _ _
 refine Ll.run 1 rfl ?_
 refine Ll.nil ?_
 refine Kt.sel [1, 2] [_, _] rfl ?_
 refine Wk.seq ?_
 refine Wk.regionQ ?_
 refine Lq.op rfl rfl rfl (OpQ.loadBox (cs := #[i6_ a.n, str a.set, str a.rel]) 0 rfl Tryd.isAgg28 rfl rfl Tryd.sizeOf28) ?_
 refine Lq.op (v := bo_ (validB a)) rfl rfl rfl (OpQ.call rfl Tryd.call53 rfl Own.stable (fun w1 hw1 => isStructure_ok a w1 hsa)) ?_
 refine Lq.run 1 rfl ?_
 refine Lq.bool fun b7 hg7 => ?_
 cases b7
 ·
  refine Lq.pass rfl rfl rfl ?_
  refine Lq.pass rfl rfl rfl ?_
  refine Lq.pass rfl rfl rfl ?_
  refine Lq.run 2 rfl ?_
  refine Lq.pass rfl rfl rfl ?_
  refine Lq.pass rfl rfl rfl ?_
  refine Lq.pass rfl rfl rfl ?_
  refine Lq.run 2 rfl ?_
  refine Lq.nil ?_
  refine Kt.sel [4] [_] rfl ?_
  refine Wk.ret (Kt.end1 rfl rfl fun w' hw => ?_)
  -- ret 0: bo_ false
  exact ⟨ret_b (by unfold listB; simp [*]), hw.below⟩
 ·
  refine Lq.run 1 rfl ?_
  refine Lq.op (v := i6_ ((xs.length : Int))) rfl rfl rfl (OpQ.lenRow rfl Tryd.runUnderlying24 rfl (ints_length _) (fun w1 hw1 => Row.own hva hw1)) ?_
  refine Lq.run 3 rfl ?_
  refine Lq.bool fun b12 hg12 => ?_
  cases b12
  ·
   replace hg12 := of_decide_eq_false hg12
   refine Lq.pass rfl rfl rfl ?_
   refine Lq.pass rfl rfl rfl ?_
   refine Lq.pass rfl rfl rfl ?_
   refine Lq.run 2 rfl ?_
   refine Lq.nil ?_
   refine Kt.sel [4] [_] rfl ?_
   refine Wk.ret (Kt.end1 rfl rfl fun w' hw => ?_)
   -- ret 1: bo_ false
   exact ⟨ret_b (by unfold listB; simp [*]), hw.below⟩
  ·
   replace hg12 := of_decide_eq_true hg12
   refine Lq.op rfl rfl rfl (OpQ.loadBox (cs := #[i6_ a.n, str a.set, str a.rel]) 0 rfl Tryd.isAgg28 rfl rfl Tryd.sizeOf28) ?_
   refine Lq.run 1 rfl ?_
   refine Lq.op (v := bo_ (xs.all (elB a))) rfl rfl rfl (OpQ.call rfl Tryd.call88 rfl Own.stable (fun w1 hw1 => areElements_ok a va xs w1 (Row.own hva hw1) (by first | (simp; done) | (simp; omega) | omega))) ?_
   refine Lq.run 2 rfl ?_
   refine Lq.nil ?_
   refine Kt.sel [4] [_] rfl ?_
   refine Wk.ret (Kt.end1 rfl rfl fun w' hw => ?_)
   -- ret 2: bo_ (xs.all (elB a))
   exact ⟨ret_b (by unfold listB; simp [*]), hw.below⟩

set_option maxHeartbeats 400000 in
/-- spec.l4List -/
theorem l4List_ok (a : St) (va : Value) (xs : List Int) (w : World) (hsa : a.Small) (hva : Ints w va xs) (hs : xs.length ≤ 140737488355328) (hn : -9223372036854775808 ≤ a.n) (hn1 : a.n ≤ 9223372036854775807) :
    Calls Tryd.prog 41 [vS a, va].toArray w fun en w' => en = .returned (.bool (listB a xs)) ∧ Below w.heap.size w w' := by
 refine fnStart (n := 28) (e := [(0, vS a), (1, va)]) Tryd.func41 rfl rfl rfl rfl Ends.both ?_
 refine Wk.seq ?_
 refine Wk.region ?_
 refine Ll.box (v := vS a) rfl rfl rfl rfl rfl fun p2 hp2 => ?_
 show Ll _ _ (Own _ _ [_]) _ _ ((2, pt_ p2) :: _) _ _ _
 refine Ll.run 1 rfl ?_
 refine Ll.nil ?_
 refine Kt.sel [1, 2] [_, _] rfl ?_
 refine Wk.seq ?_
 refine Wk.seq ?_
 refine Wk.regionQ ?_
 refine Lq.run 1 rfl ?_
 refine Lq.nil ?_
 refine Kt.sel [1, 2, 5] [_, _, _] rfl ?_
 refine Wk.block ?_
 refine Wk.loop (σ := Nat) (fun k => k ≤ xs.length ∧ ∀ i : Nat, i < k → inB (xs.getD i 0) 0 (pred64 a.n) = true) (fun k => [(1, va), (2, pt_ p2), (5, i6_ ((k : Int)))]) (fun k => Own w.heap.size w [bk_ p2 #[i6_ a.n, str a.set, str a.rel] 28]) (fun k => xs.length - k) (0) ⟨by omega, fun i hi => absurd hi (by omega)⟩ (Sub.sel [1, 2, 5] rfl) (fun _ h => h) ?_
 rintro k ⟨hk, hall⟩
 refine Wk.seq ?_
 refine Wk.seq ?_
 refine Wk.regionQ ?_
 refine Lq.run 2 rfl ?_
 refine Lq.op (v := i6_ ((xs.length : Int))) rfl rfl rfl (OpQ.lenRow rfl Tryd.runUnderlying24 rfl (ints_length _) (fun w1 hw1 => Row.own hva hw1)) ?_
 refine Lq.run 1 rfl ?_
 refine Lq.nil ?_
 refine Kt.sel [1, 2, 5, 9] [_, _, _, _] rfl ?_
 refine Wk.cond (b := decide (((k : Int)) < ((xs.length : Int)))) rfl (fun h9 => ?_) (fun h9 => ?_)
 ·
  replace h9 := of_decide_eq_true h9
  refine Wk.skip ?_
  refine Kt.sel [1, 2, 5] [_, _, _] rfl ?_
  refine Wk.seq ?_
  refine Wk.block ?_
  refine Wk.seq ?_
  refine Wk.regionD Base.mixed (fun _ h => h.drawn) (by kernel_rfl) ?_
  refine Lq.run 2 rfl ?_
  refine Lq.op (v := .pointer (some (sAt va ((k : Int))))) rfl rfl rfl (OpQ.atRow rfl Tryd.runUnderlying24 Tryd.sizeOf3 rfl rfl (by omega) (by rw [ints_length]; omega) (fun w1 hw1 => Row.own hva hw1)) ?_
  refine Lq.op (v := i6_ (xs.getD (((k : Int)).toNat) 0)) rfl rfl rfl (OpQ.load1 rfl Tryd.isAgg3 rfl (fun w1 hw1 => Ints.cell (Row.own hva hw1) (by omega) (by omega))) ?_
  refine Lq.op rfl rfl rfl (OpQ.fieldAddr rfl Tryd.runUnderlying28 rfl Tryd.sizeOf3 rfl rfl) ?_
  refine Lq.op rfl rfl rfl (OpQ.loadOwn 0 rfl Tryd.isAgg3 rfl rfl rfl) ?_
  refine Lq.op (v := i6_ (pred64 a.n)) rfl rfl rfl (OpQ.pred rfl rfl rfl (by omega) (by omega)) ?_
  refine Lq.op (v := bo_ (inB (xs.getD (((k : Int)).toNat) 0) 0 (pred64 a.n))) rfl rfl rfl (OpQ.call rfl Tryd.call42 rfl Own.stable (fun w1 hw1 => l1In_ok (xs.getD (((k : Int)).toNat) 0) 0 (pred64 a.n) w1 )) ?_
  refine Lq.run 1 rfl ?_
  refine Lq.nil ?_
  refine Kt.sel [1, 2, 5, 20] [_, _, _, _] rfl ?_
  refine Wk.cond (b := !(inB (xs.getD (((k : Int)).toNat) 0) 0 (pred64 a.n))) rfl (fun h20 => ?_) (fun h20 => ?_)
  ·
   replace h20 := not_true h20
   refine Wk.seq ?_
   refine Wk.regionQ ?_
   refine Lq.run 1 rfl ?_
   refine Lq.nil ?_
   refine Kt.sel [4] [_] rfl ?_
   refine Wk.ret (Kt.end1 rfl rfl fun w' hw => ?_)
   -- ret 0: bo_ false
   exact ⟨ret_b (list_no (i := k) (by omega) (by simpa using h20)).symm, hw.below⟩
  ·
   replace h20 := not_false h20
   refine Wk.skip ?_
   refine Kt.sel [1, 2, 5] [_, _, _] rfl ?_
   refine Wk.regionQ ?_
   refine Lq.run 1 rfl ?_
   refine Lq.op rfl rfl rfl (OpQ.add rfl rfl rfl (by omega) (by omega)) ?_
   refine Lq.run 1 rfl ?_
   refine Lq.nil ?_
   refine Kt.again (k + 1) ⟨by omega, fun i hi => (Nat.lt_succ_iff_lt_or_eq.1 hi).elim (hall i) (fun e => by subst e; simpa using h20)⟩ (by omega) (Sub.sel [1, 2, 5] rfl) (fun _ h => h)
 ·
  replace h9 := of_decide_eq_false h9
  refine Wk.exit rfl ?_
  refine Kt.sel [1, 2] [_, _] rfl ?_
  refine Wk.seq ?_
  refine Wk.regionQ ?_
  refine Lq.op rfl rfl rfl (OpQ.loadBox (cs := #[i6_ a.n, str a.set, str a.rel]) 0 rfl Tryd.isAgg28 rfl rfl Tryd.sizeOf28) ?_
  refine Lq.op (v := bo_ (validB a)) rfl rfl rfl (OpQ.call rfl Tryd.call52 rfl Own.stable (fun w1 hw1 => sValid_ok a w1 hsa)) ?_
  refine Lq.run 1 rfl ?_
  refine Lq.bool fun b23 hg23 => ?_
  cases b23
  ·
   refine Lq.pass rfl rfl rfl ?_
   refine Lq.pass rfl rfl rfl ?_
   refine Lq.pass rfl rfl rfl ?_
   refine Lq.run 2 rfl ?_
   refine Lq.nil ?_
   refine Kt.sel [4] [_] rfl ?_
   refine Wk.ret (Kt.end1 rfl rfl fun w' hw => ?_)
   -- ret 1: bo_ false
   exact ⟨ret_b (by rw [list_yes (fun i hi => hall i (by omega))]; simp [*]), hw.below⟩
  ·
   refine Lq.run 1 rfl ?_
   refine Lq.op (v := i6_ ((xs.length : Int))) rfl rfl rfl (OpQ.lenRow rfl Tryd.runUnderlying24 rfl (ints_length _) (fun w1 hw1 => Row.own hva hw1)) ?_
   refine Lq.run 3 rfl ?_
   refine Lq.nil ?_
   refine Kt.sel [4] [_] rfl ?_
   refine Wk.ret (Kt.end1 rfl rfl fun w' hw => ?_)
   -- ret 2: bo_ (decide (((xs.length : Int)) ≤ (4 : Int)))
   exact ⟨ret_b (by rw [list_yes (fun i hi => hall i (by omega))]; simp [*]), hw.below⟩

set_option maxHeartbeats 400000 in
/-- impl.areLists -/
theorem areLists_ok (a b : St) (xs ys : List Int) (va vb : Value) (w : World) (hsa : a.Small) (hsb : b.Small) (hva : Ints w va xs) (hvb : Ints w vb ys) (hs1 : xs.length ≤ 140737488355328) (hs2 : ys.length ≤ 140737488355328) :
    Calls Tryd.prog 101 [vS a, va, vS b, vb].toArray w fun en w' => en = .returned (.bool (listsB a xs b ys)) ∧ Below w.heap.size w w' := by
 refine fnStart (n := 24) (e := [(0, vS a), (1, va), (2, vS b), (3, vb)]) Tryd.func101 rfl rfl rfl rfl Ends.both ?_
 refine Wk.seq ?_
 refine Wk.region ?_
 refine Ll.box (v := vS a) rfl rfl rfl rfl rfl fun p4 hp4 => ?_
 show Ll _ _ (Own _ _ [_]) _ _ ((4, pt_ p4) :: _) _ _ _
 refine Ll.box (v := vS b) rfl rfl rfl rfl rfl fun p6 hp6 => ?_
 show Ll _ _ (Own _ _ [_, _]) _ _ ((6, pt_ p6) :: _) _ _ _
 refine Ll.run 1 rfl ?_
 refine Ll.nil ?_
 refine Kt.sel [1, 3, 4, 6] [_, _, _, _] rfl ?_
 refine Wk.seq ?_
 refine Wk.regionQ ?_
 refine Lq.op rfl rfl rfl (OpQ.loadBox (cs := #[i6_ a.n, str a.set, str a.rel]) 1 rfl Tryd.isAgg28 rfl rfl Tryd.sizeOf28) ?_
 refine Lq.run 1 rfl ?_
 refine Lq.op (v := bo_ (listB a xs)) rfl rfl rfl (OpQ.call rfl Tryd.call44 rfl Own.stable (fun w1 hw1 => isList_ok a va xs w1 hsa (Row.own hva hw1) (by first | (simp; done) | (simp; omega) | omega))) ?_
 refine Lq.run 1 rfl ?_
 refine Lq.bool fun b12 hg12 => ?_
 cases b12
 ·
  refine Lq.pass rfl rfl rfl ?_
  refine Lq.pass rfl rfl rfl ?_
  refine Lq.pass rfl rfl rfl ?_
  refine Lq.run 2 rfl ?_
  refine Lq.pass rfl rfl rfl ?_
  refine Lq.pass rfl rfl rfl ?_
  refine Lq.pass rfl rfl rfl ?_
  refine Lq.pass rfl rfl rfl ?_
  refine Lq.pass rfl rfl rfl ?_
  refine Lq.run 2 rfl ?_
  refine Lq.nil ?_
  refine Kt.sel [8] [_] rfl ?_
  refine Wk.ret (Kt.end1 rfl rfl fun w' hw => ?_)
  -- ret 0: bo_ false
  exact ⟨ret_b (by unfold listsB; simp [*]), hw.below⟩
 ·
  refine Lq.op rfl rfl rfl (OpQ.loadBox (cs := #[i6_ b.n, str b.set, str b.rel]) 0 rfl Tryd.isAgg28 rfl rfl Tryd.sizeOf28) ?_
  refine Lq.run 1 rfl ?_
  refine Lq.op (v := bo_ (listB b ys)) rfl rfl rfl (OpQ.call rfl Tryd.call44 rfl Own.stable (fun w1 hw1 => isList_ok b vb ys w1 hsb (Row.own hvb hw1) (by first | (simp; done) | (simp; omega) | omega))) ?_
  refine Lq.run 2 rfl ?_
  refine Lq.bool fun b17 hg17 => ?_
  cases b17
  ·
   refine Lq.pass rfl rfl rfl ?_
   refine Lq.pass rfl rfl rfl ?_
   refine Lq.pass rfl rfl rfl ?_
   refine Lq.pass rfl rfl rfl ?_
   refine Lq.pass rfl rfl rfl ?_
   refine Lq.run 2 rfl ?_
   refine Lq.nil ?_
   refine Kt.sel [8] [_] rfl ?_
   refine Wk.ret (Kt.end1 rfl rfl fun w' hw => ?_)
   -- ret 1: bo_ false
   exact ⟨ret_b (by unfold listsB; simp [*]), hw.below⟩
  ·
   refine Lq.run 1 rfl ?_
   refine Lq.op (v := i6_ ((xs.length : Int))) rfl rfl rfl (OpQ.lenRow rfl Tryd.runUnderlying24 rfl (ints_length _) (fun w1 hw1 => Row.own hva hw1)) ?_
   refine Lq.run 1 rfl ?_
   refine Lq.op (v := i6_ ((ys.length : Int))) rfl rfl rfl (OpQ.lenRow rfl Tryd.runUnderlying24 rfl (ints_length _) (fun w1 hw1 => Row.own hvb hw1)) ?_
   refine Lq.run 3 rfl ?_
   refine Lq.nil ?_
   refine Kt.sel [8] [_] rfl ?_
   refine Wk.ret (Kt.end1 rfl rfl fun w' hw => ?_)
   -- ret 2: bo_ (decide (((xs.length : Int)) = ((ys.length : Int))))
   exact ⟨ret_b (by unfold listsB; simp [*]), hw.below⟩

set_option maxHeartbeats 400000 in
/-- spec.l4Lists -/
theorem l4Lists_ok (a b : St) (xs ys : List Int) (va vb : Value) (w : World) (hsa : a.Small) (hsb : b.Small) (hva : Ints w va xs) (hvb : Ints w vb ys) (hs1 : xs.length ≤ 140737488355328) (hs2 : ys.length ≤ 140737488355328) (loa : -9223372036854775808 ≤ a.n) (hia : a.n ≤ 9223372036854775807) (lob : -9223372036854775808 ≤ b.n) (hib : b.n ≤ 9223372036854775807) :
    Calls Tryd.prog 95 [vS a, va, vS b, vb].toArray w fun en w' => en = .returned (.bool (listsB a xs b ys)) ∧ Below w.heap.size w w' := by
 refine fnStart (n := 24) (e := [(0, vS a), (1, va), (2, vS b), (3, vb)]) Tryd.func95 rfl rfl rfl rfl Ends.both ?_
 refine Wk.seq ?_
 refine Wk.region ?_
 refine Ll.box (v := vS a) rfl rfl rfl rfl rfl fun p4 hp4 => ?_
 show Ll _ _ (Own _ _ [_]) _ _ ((4, pt_ p4) :: _) _ _ _
 refine Ll.box (v := vS b) rfl rfl rfl rfl rfl fun p6 hp6 => ?_
 show Ll _ _ (Own _ _ [_, _]) _ _ ((6, pt_ p6) :: _) _ _ _
 refine Ll.run 1 rfl ?_
 refine Ll.nil ?_
 refine Kt.sel [1, 3, 4, 6] [_, _, _, _] rfl ?_
 refine Wk.seq ?_
 refine Wk.regionQ ?_
 refine Lq.op rfl rfl rfl (OpQ.loadBox (cs := #[i6_ a.n, str a.set, str a.rel]) 1 rfl Tryd.isAgg28 rfl rfl Tryd.sizeOf28) ?_
 refine Lq.run 1 rfl ?_
 refine Lq.op (v := bo_ (listB a xs)) rfl rfl rfl (OpQ.call rfl Tryd.call41 rfl Own.stable (fun w1 hw1 => l4List_ok a va xs w1 hsa (Row.own hva hw1) (by first | (simp; done) | (simp; omega) | omega) loa hia)) ?_
 refine Lq.run 1 rfl ?_
 refine Lq.bool fun b12 hg12 => ?_
 cases b12
 ·
  refine Lq.pass rfl rfl rfl ?_
  refine Lq.pass rfl rfl rfl ?_
  refine Lq.pass rfl rfl rfl ?_
  refine Lq.run 2 rfl ?_
  refine Lq.pass rfl rfl rfl ?_
  refine Lq.pass rfl rfl rfl ?_
  refine Lq.pass rfl rfl rfl ?_
  refine Lq.pass rfl rfl rfl ?_
  refine Lq.pass rfl rfl rfl ?_
  refine Lq.run 2 rfl ?_
  refine Lq.nil ?_
  refine Kt.sel [8] [_] rfl ?_
  refine Wk.ret (Kt.end1 rfl rfl fun w' hw => ?_)
  -- ret 0: bo_ false
  exact ⟨ret_b (by unfold listsB; simp [*]), hw.below⟩
 ·
  refine Lq.op rfl rfl rfl (OpQ.loadBox (cs := #[i6_ b.n, str b.set, str b.rel]) 0 rfl Tryd.isAgg28 rfl rfl Tryd.sizeOf28) ?_
  refine Lq.run 1 rfl ?_
  refine Lq.op (v := bo_ (listB b ys)) rfl rfl rfl (OpQ.call rfl Tryd.call41 rfl Own.stable (fun w1 hw1 => l4List_ok b vb ys w1 hsb (Row.own hvb hw1) (by first | (simp; done) | (simp; omega) | omega) lob hib)) ?_
  refine Lq.run 2 rfl ?_
  refine Lq.bool fun b17 hg17 => ?_
  cases b17
  ·
   refine Lq.pass rfl rfl rfl ?_
   refine Lq.pass rfl rfl rfl ?_
   refine Lq.pass rfl rfl rfl ?_
   refine Lq.pass rfl rfl rfl ?_
   refine Lq.pass rfl rfl rfl ?_
   refine Lq.run 2 rfl ?_
   refine Lq.nil ?_
   refine Kt.sel [8] [_] rfl ?_
   refine Wk.ret (Kt.end1 rfl rfl fun w' hw => ?_)
   -- ret 1: bo_ false
   exact ⟨ret_b (by unfold listsB; simp [*]), hw.below⟩
  ·
   refine Lq.run 1 rfl ?_
   refine Lq.op (v := i6_ ((xs.length : Int))) rfl rfl rfl (OpQ.lenRow rfl Tryd.runUnderlying24 rfl (ints_length _) (fun w1 hw1 => Row.own hva hw1)) ?_
   refine Lq.run 1 rfl ?_
   refine Lq.op (v := i6_ ((ys.length : Int))) rfl rfl rfl (OpQ.lenRow rfl Tryd.runUnderlying24 rfl (ints_length _) (fun w1 hw1 => Row.own hvb hw1)) ?_
   refine Lq.run 3 rfl ?_
   refine Lq.nil ?_
   refine Kt.sel [8] [_] rfl ?_
   refine Wk.ret (Kt.end1 rfl rfl fun w' hw => ?_)
   -- ret 2: bo_ (decide (((xs.length : Int)) = ((ys.length : Int))))
   exact ⟨ret_b (by unfold listsB; simp [*]), hw.below⟩

set_option maxHeartbeats 400000 in
/-- spec.l1Fits -/
theorem fits_ok (a b : St) (xs ys : List Int) (va vb : Value) (m : Nat) (w : World) (ha : a.Fine) (hb : b.Fine) (hva : Ints w va xs) (hvb : Ints w vb ys) (hA : a.Els xs) (hB : b.Els ys) (hm : xs.length = m + 1) (hm2 : ys.length = m + 1) (hsmall : m ≤ 1000000) :
    Calls Tryd.prog 138 [vS a, va, vS b, vb].toArray w fun en w' => en = .returned (.bool (stillAt a xs b ys m)) ∧ Below w.heap.size w w' := by
 refine fnStart (n := 97) (e := [(0, vS a), (1, va), (2, vS b), (3, vb)]) Tryd.func138 rfl rfl rfl rfl Ends.both ?_
 have hT := fits_true (a := a) (b := b) hm hm2
 refine Wk.seq ?_
 refine Wk.region ?_
 refine Ll.box (v := vS a) rfl rfl rfl rfl rfl fun p4 hp4 => ?_
 show Ll _ _ (Own _ _ [_]) _ _ ((4, pt_ p4) :: _) _ _ _
 refine Ll.box (v := vS b) rfl rfl rfl rfl rfl fun p6 hp6 => ?_
 show Ll _ _ (Own _ _ [_, _]) _ _ ((6, pt_ p6) :: _) _ _ _
 refine Ll.run 1 rfl ?_
 refine Ll.nil ?_
 refine Kt.sel [1, 3, 4, 6] [_, _, _, _] rfl ?_
 refine Wk.seq ?_
 refine Wk.regionQ ?_
 refine Lq.run 1 rfl ?_
 refine Lq.op (v := i6_ (((m + 1) : Int))) rfl rfl rfl (OpQ.lenRow rfl Tryd.runUnderlying24 rfl ((ints_length _).trans hm) (fun w1 hw1 => Row.own hva hw1)) ?_
 refine Lq.op (v := i6_ ((m : Int))) rfl rfl rfl (OpQ.cast (by simp) (OpQ.sub rfl rfl rfl (by omega) (by omega))) ?_
 refine Lq.run 1 rfl ?_
 refine Lq.nil ?_
 refine Kt.sel [1, 3, 4, 6, 9] [_, _, _, _, _] rfl ?_
 refine Wk.seq ?_
 refine Wk.seq ?_
 refine Wk.regionD Base.mixed (fun _ h => h.drawn) (by kernel_rfl) ?_
 refine Lq.op rfl rfl rfl (OpQ.loadBox (cs := #[i6_ a.n, str a.set, str a.rel]) 1 rfl Tryd.isAgg28 rfl rfl Tryd.sizeOf28) ?_
 refine Lq.run 2 rfl ?_
 refine Lq.op (v := .pointer (some (sAt va ((m : Int))))) rfl rfl rfl (OpQ.atRow rfl Tryd.runUnderlying24 Tryd.sizeOf3 rfl rfl (by omega) (by rw [ints_length]; omega) (fun w1 hw1 => Row.own hva hw1)) ?_
 refine Lq.op (v := i6_ (xs.getD (((m : Int)).toNat) 0)) rfl rfl rfl (OpQ.load1 rfl Tryd.isAgg3 rfl (fun w1 hw1 => Ints.cell (Row.own hva hw1) (by omega) (by omega))) ?_
 refine Lq.op (v := bo_ (a.inSet (xs.getD (((m : Int)).toNat) 0))) rfl rfl rfl (OpQ.call rfl Tryd.call148 rfl Own.stable (fun w1 hw1 => l1Set_ok a (xs.getD (((m : Int)).toNat) 0) w1 ha (by first | assumption | exact St.Els.at (by assumption) (by omega) (by omega)))) ?_
 refine Lq.op rfl rfl rfl (OpQ.loadBox (cs := #[i6_ b.n, str b.set, str b.rel]) 0 rfl Tryd.isAgg28 rfl rfl Tryd.sizeOf28) ?_
 refine Lq.run 2 rfl ?_
 refine Lq.op (v := .pointer (some (sAt vb ((m : Int))))) rfl rfl rfl (OpQ.atRow rfl Tryd.runUnderlying24 Tryd.sizeOf3 rfl rfl (by omega) (by rw [ints_length]; omega) (fun w1 hw1 => Row.own hvb hw1)) ?_
 refine Lq.op (v := i6_ (ys.getD (((m : Int)).toNat) 0)) rfl rfl rfl (OpQ.load1 rfl Tryd.isAgg3 rfl (fun w1 hw1 => Ints.cell (Row.own hvb hw1) (by omega) (by omega))) ?_
 refine Lq.op (v := bo_ (b.inSet (ys.getD (((m : Int)).toNat) 0))) rfl rfl rfl (OpQ.call rfl Tryd.call148 rfl Own.stable (fun w1 hw1 => l1Set_ok b (ys.getD (((m : Int)).toNat) 0) w1 hb (by first | assumption | exact St.Els.at (by assumption) (by omega) (by omega)))) ?_
 refine Lq.op rfl rfl rfl (OpQ.bne rfl Tryd.runUnderlying4 rfl rfl) ?_
 refine Lq.nil ?_
 refine Kt.sel [1, 3, 4, 6, 9, 26] [_, _, _, _, _, _] rfl ?_
 refine Wk.cond (b := (a.inSet (xs.getD (((m : Int)).toNat) 0)) != (b.inSet (ys.getD (((m : Int)).toNat) 0))) rfl (fun h26 => ?_) (fun h26 => ?_)
 ·
  refine Wk.seq ?_
  refine Wk.regionQ ?_
  refine Lq.run 1 rfl ?_
  refine Lq.nil ?_
  refine Kt.sel [8] [_] rfl ?_
  refine Wk.ret (Kt.end1 rfl rfl fun w' hw => ?_)
  -- ret 0: bo_ false
  have hf : stillAt a xs b ys m = false := by
   cases hs : stillAt a xs b ys m with
   | false => rfl
   | true =>
    obtain ⟨e1, e3⟩ := hT.1 hs
    simp_all
  exact ⟨ret_b hf.symm, hw.below⟩
 ·
  refine Wk.skip ?_
  refine Kt.sel [1, 3, 4, 6, 9] [_, _, _, _, _] rfl ?_
  refine Wk.seq ?_
  refine Wk.seq ?_
  refine Wk.regionQ ?_
  refine Lq.run 1 rfl ?_
  refine Lq.nil ?_
  refine Kt.sel [1, 3, 4, 6, 9, 10] [_, _, _, _, _, _] rfl ?_
  refine Wk.block ?_
  refine Wk.loop (σ := Nat) (fun k => k ≤ m + 1 ∧ ∀ i : Nat, i < k → pairOk a b (xs.getD m 0) (ys.getD m 0) (xs.getD i 0) (ys.getD i 0) = true) (fun k => [(1, va), (3, vb), (4, pt_ p4), (6, pt_ p6), (9, i6_ ((m : Int))), (10, i6_ ((k : Int)))]) (fun k => Own w.heap.size w [bk_ p6 #[i6_ b.n, str b.set, str b.rel] 28, bk_ p4 #[i6_ a.n, str a.set, str a.rel] 28]) (fun k => m + 1 - k) (0) ⟨by omega, fun i hi => absurd hi (by omega)⟩ (Sub.sel [1, 3, 4, 6, 9, 10] rfl) (fun _ h => h) ?_
  rintro k ⟨hk, hall⟩
  refine Wk.seq ?_
  refine Wk.seq ?_
  refine Wk.regionQ ?_
  refine Lq.run 3 rfl ?_
  refine Lq.nil ?_
  refine Kt.sel [1, 3, 4, 6, 9, 10, 29] [_, _, _, _, _, _, _] rfl ?_
  refine Wk.cond (b := decide (((k : Int)) ≤ ((m : Int)))) rfl (fun h29 => ?_) (fun h29 => ?_)
  ·
   replace h29 := of_decide_eq_true h29
   refine Wk.skip ?_
   refine Kt.sel [1, 3, 4, 6, 9, 10] [_, _, _, _, _, _] rfl ?_
   refine Wk.seq ?_
   refine Wk.block ?_
   refine Wk.seq ?_
   refine Wk.regionD Base.mixed (fun _ h => h.drawn) (by kernel_rfl) ?_
   refine Lq.run 2 rfl ?_
   refine Lq.op (v := .pointer (some (sAt va ((k : Int))))) rfl rfl rfl (OpQ.atRow rfl Tryd.runUnderlying24 Tryd.sizeOf3 rfl rfl (by omega) (by rw [ints_length]; omega) (fun w1 hw1 => Row.own hva hw1)) ?_
   refine Lq.op (v := i6_ (xs.getD (((k : Int)).toNat) 0)) rfl rfl rfl (OpQ.load1 rfl Tryd.isAgg3 rfl (fun w1 hw1 => Ints.cell (Row.own hva hw1) (by omega) (by omega))) ?_
   refine Lq.run 2 rfl ?_
   refine Lq.op (v := .pointer (some (sAt va ((m : Int))))) rfl rfl rfl (OpQ.atRow rfl Tryd.runUnderlying24 Tryd.sizeOf3 rfl rfl (by omega) (by rw [ints_length]; omega) (fun w1 hw1 => Row.own hva hw1)) ?_
   refine Lq.op (v := i6_ (xs.getD (((m : Int)).toNat) 0)) rfl rfl rfl (OpQ.load1 rfl Tryd.isAgg3 rfl (fun w1 hw1 => Ints.cell (Row.own hva hw1) (by omega) (by omega))) ?_
   refine Lq.run 3 rfl ?_
   refine Lq.op (v := .pointer (some (sAt vb ((k : Int))))) rfl rfl rfl (OpQ.atRow rfl Tryd.runUnderlying24 Tryd.sizeOf3 rfl rfl (by omega) (by rw [ints_length]; omega) (fun w1 hw1 => Row.own hvb hw1)) ?_
   refine Lq.op (v := i6_ (ys.getD (((k : Int)).toNat) 0)) rfl rfl rfl (OpQ.load1 rfl Tryd.isAgg3 rfl (fun w1 hw1 => Ints.cell (Row.own hvb hw1) (by omega) (by omega))) ?_
   refine Lq.run 2 rfl ?_
   refine Lq.op (v := .pointer (some (sAt vb ((m : Int))))) rfl rfl rfl (OpQ.atRow rfl Tryd.runUnderlying24 Tryd.sizeOf3 rfl rfl (by omega) (by rw [ints_length]; omega) (fun w1 hw1 => Row.own hvb hw1)) ?_
   refine Lq.op (v := i6_ (ys.getD (((m : Int)).toNat) 0)) rfl rfl rfl (OpQ.load1 rfl Tryd.isAgg3 rfl (fun w1 hw1 => Ints.cell (Row.own hvb hw1) (by omega) (by omega))) ?_
   refine Lq.run 1 rfl ?_
   refine Lq.op rfl rfl rfl (OpQ.bne rfl Tryd.runUnderlying4 rfl rfl) ?_
   refine Lq.run 1 rfl ?_
   refine Lq.bool fun b51 hg51 => ?_
   cases b51
   ·
    refine Lq.op rfl rfl rfl (OpQ.loadBox (cs := #[i6_ a.n, str a.set, str a.rel]) 1 rfl Tryd.isAgg28 rfl rfl Tryd.sizeOf28) ?_
    refine Lq.run 2 rfl ?_
    refine Lq.op (v := .pointer (some (sAt va ((k : Int))))) rfl rfl rfl (OpQ.atRow rfl Tryd.runUnderlying24 Tryd.sizeOf3 rfl rfl (by omega) (by rw [ints_length]; omega) (fun w1 hw1 => Row.own hva hw1)) ?_
    refine Lq.op (v := i6_ (xs.getD (((k : Int)).toNat) 0)) rfl rfl rfl (OpQ.load1 rfl Tryd.isAgg3 rfl (fun w1 hw1 => Ints.cell (Row.own hva hw1) (by omega) (by omega))) ?_
    refine Lq.run 2 rfl ?_
    refine Lq.op (v := .pointer (some (sAt va ((m : Int))))) rfl rfl rfl (OpQ.atRow rfl Tryd.runUnderlying24 Tryd.sizeOf3 rfl rfl (by omega) (by rw [ints_length]; omega) (fun w1 hw1 => Row.own hva hw1)) ?_
    refine Lq.op (v := i6_ (xs.getD (((m : Int)).toNat) 0)) rfl rfl rfl (OpQ.load1 rfl Tryd.isAgg3 rfl (fun w1 hw1 => Ints.cell (Row.own hva hw1) (by omega) (by omega))) ?_
    refine Lq.op (v := bo_ (a.inRel (xs.getD (((k : Int)).toNat) 0) (xs.getD (((m : Int)).toNat) 0))) rfl rfl rfl (OpQ.call rfl Tryd.call149 rfl Own.stable (fun w1 hw1 => l1Rel_ok a (xs.getD (((k : Int)).toNat) 0) (xs.getD (((m : Int)).toNat) 0) w1 ha (by first | assumption | exact St.Els.at (by assumption) (by omega) (by omega)) (by first | assumption | exact St.Els.at (by assumption) (by omega) (by omega)))) ?_
    refine Lq.op rfl rfl rfl (OpQ.loadBox (cs := #[i6_ b.n, str b.set, str b.rel]) 0 rfl Tryd.isAgg28 rfl rfl Tryd.sizeOf28) ?_
    refine Lq.run 2 rfl ?_
    refine Lq.op (v := .pointer (some (sAt vb ((k : Int))))) rfl rfl rfl (OpQ.atRow rfl Tryd.runUnderlying24 Tryd.sizeOf3 rfl rfl (by omega) (by rw [ints_length]; omega) (fun w1 hw1 => Row.own hvb hw1)) ?_
    refine Lq.op (v := i6_ (ys.getD (((k : Int)).toNat) 0)) rfl rfl rfl (OpQ.load1 rfl Tryd.isAgg3 rfl (fun w1 hw1 => Ints.cell (Row.own hvb hw1) (by omega) (by omega))) ?_
    refine Lq.run 2 rfl ?_
    refine Lq.op (v := .pointer (some (sAt vb ((m : Int))))) rfl rfl rfl (OpQ.atRow rfl Tryd.runUnderlying24 Tryd.sizeOf3 rfl rfl (by omega) (by rw [ints_length]; omega) (fun w1 hw1 => Row.own hvb hw1)) ?_
    refine Lq.op (v := i6_ (ys.getD (((m : Int)).toNat) 0)) rfl rfl rfl (OpQ.load1 rfl Tryd.isAgg3 rfl (fun w1 hw1 => Ints.cell (Row.own hvb hw1) (by omega) (by omega))) ?_
    refine Lq.op (v := bo_ (b.inRel (ys.getD (((k : Int)).toNat) 0) (ys.getD (((m : Int)).toNat) 0))) rfl rfl rfl (OpQ.call rfl Tryd.call149 rfl Own.stable (fun w1 hw1 => l1Rel_ok b (ys.getD (((k : Int)).toNat) 0) (ys.getD (((m : Int)).toNat) 0) w1 hb (by first | assumption | exact St.Els.at (by assumption) (by omega) (by omega)) (by first | assumption | exact St.Els.at (by assumption) (by omega) (by omega)))) ?_
    refine Lq.op rfl rfl rfl (OpQ.bne rfl Tryd.runUnderlying4 rfl rfl) ?_
    refine Lq.run 2 rfl ?_
    refine Lq.bool fun b74 hg74 => ?_
    cases b74
    ·
     refine Lq.op rfl rfl rfl (OpQ.loadBox (cs := #[i6_ a.n, str a.set, str a.rel]) 1 rfl Tryd.isAgg28 rfl rfl Tryd.sizeOf28) ?_
     refine Lq.run 2 rfl ?_
     refine Lq.op (v := .pointer (some (sAt va ((m : Int))))) rfl rfl rfl (OpQ.atRow rfl Tryd.runUnderlying24 Tryd.sizeOf3 rfl rfl (by omega) (by rw [ints_length]; omega) (fun w1 hw1 => Row.own hva hw1)) ?_
     refine Lq.op (v := i6_ (xs.getD (((m : Int)).toNat) 0)) rfl rfl rfl (OpQ.load1 rfl Tryd.isAgg3 rfl (fun w1 hw1 => Ints.cell (Row.own hva hw1) (by omega) (by omega))) ?_
     refine Lq.run 2 rfl ?_
     refine Lq.op (v := .pointer (some (sAt va ((k : Int))))) rfl rfl rfl (OpQ.atRow rfl Tryd.runUnderlying24 Tryd.sizeOf3 rfl rfl (by omega) (by rw [ints_length]; omega) (fun w1 hw1 => Row.own hva hw1)) ?_
     refine Lq.op (v := i6_ (xs.getD (((k : Int)).toNat) 0)) rfl rfl rfl (OpQ.load1 rfl Tryd.isAgg3 rfl (fun w1 hw1 => Ints.cell (Row.own hva hw1) (by omega) (by omega))) ?_
     refine Lq.op (v := bo_ (a.inRel (xs.getD (((m : Int)).toNat) 0) (xs.getD (((k : Int)).toNat) 0))) rfl rfl rfl (OpQ.call rfl Tryd.call149 rfl Own.stable (fun w1 hw1 => l1Rel_ok a (xs.getD (((m : Int)).toNat) 0) (xs.getD (((k : Int)).toNat) 0) w1 ha (by first | assumption | exact St.Els.at (by assumption) (by omega) (by omega)) (by first | assumption | exact St.Els.at (by assumption) (by omega) (by omega)))) ?_
     refine Lq.op rfl rfl rfl (OpQ.loadBox (cs := #[i6_ b.n, str b.set, str b.rel]) 0 rfl Tryd.isAgg28 rfl rfl Tryd.sizeOf28) ?_
     refine Lq.run 2 rfl ?_
     refine Lq.op (v := .pointer (some (sAt vb ((m : Int))))) rfl rfl rfl (OpQ.atRow rfl Tryd.runUnderlying24 Tryd.sizeOf3 rfl rfl (by omega) (by rw [ints_length]; omega) (fun w1 hw1 => Row.own hvb hw1)) ?_
     refine Lq.op (v := i6_ (ys.getD (((m : Int)).toNat) 0)) rfl rfl rfl (OpQ.load1 rfl Tryd.isAgg3 rfl (fun w1 hw1 => Ints.cell (Row.own hvb hw1) (by omega) (by omega))) ?_
     refine Lq.run 2 rfl ?_
     refine Lq.op (v := .pointer (some (sAt vb ((k : Int))))) rfl rfl rfl (OpQ.atRow rfl Tryd.runUnderlying24 Tryd.sizeOf3 rfl rfl (by omega) (by rw [ints_length]; omega) (fun w1 hw1 => Row.own hvb hw1)) ?_
     refine Lq.op (v := i6_ (ys.getD (((k : Int)).toNat) 0)) rfl rfl rfl (OpQ.load1 rfl Tryd.isAgg3 rfl (fun w1 hw1 => Ints.cell (Row.own hvb hw1) (by omega) (by omega))) ?_
     refine Lq.op (v := bo_ (b.inRel (ys.getD (((m : Int)).toNat) 0) (ys.getD (((k : Int)).toNat) 0))) rfl rfl rfl (OpQ.call rfl Tryd.call149 rfl Own.stable (fun w1 hw1 => l1Rel_ok b (ys.getD (((m : Int)).toNat) 0) (ys.getD (((k : Int)).toNat) 0) w1 hb (by first | assumption | exact St.Els.at (by assumption) (by omega) (by omega)) (by first | assumption | exact St.Els.at (by assumption) (by omega) (by omega)))) ?_
     refine Lq.op rfl rfl rfl (OpQ.bne rfl Tryd.runUnderlying4 rfl rfl) ?_
     refine Lq.run 1 rfl ?_
     refine Lq.nil ?_
     refine Kt.sel [1, 3, 4, 6, 9, 10, 96] [_, _, _, _, _, _, _] rfl ?_
     refine Wk.cond (b := (a.inRel (xs.getD (((m : Int)).toNat) 0) (xs.getD (((k : Int)).toNat) 0)) != (b.inRel (ys.getD (((m : Int)).toNat) 0) (ys.getD (((k : Int)).toNat) 0))) rfl (fun h96 => ?_) (fun h96 => ?_)
     ·
      refine Wk.seq ?_
      refine Wk.regionQ ?_
      refine Lq.run 1 rfl ?_
      refine Lq.nil ?_
      refine Kt.sel [8] [_] rfl ?_
      refine Wk.ret (Kt.end1 rfl rfl fun w' hw => ?_)
      -- ret 1: bo_ false
      have hf : stillAt a xs b ys m = false := by
       cases hs : stillAt a xs b ys m with
       | false => rfl
       | true =>
        obtain ⟨e1, e3⟩ := hT.1 hs
        obtain ⟨e4, e5, e6⟩ := pairOk_true.1 (e3 k (by omega))
        simp only [Int.toNat_natCast] at *
        simp_all
      exact ⟨ret_b hf.symm, hw.below⟩
     ·
      refine Wk.skip ?_
      refine Kt.sel [1, 3, 4, 6, 9, 10] [_, _, _, _, _, _] rfl ?_
      refine Wk.regionQ ?_
      refine Lq.run 1 rfl ?_
      refine Lq.op rfl rfl rfl (OpQ.add rfl rfl rfl (by omega) (by omega)) ?_
      refine Lq.run 1 rfl ?_
      refine Lq.nil ?_
      refine Kt.again (k + 1) ⟨by omega, fun i hi => (Nat.lt_succ_iff_lt_or_eq.1 hi).elim (hall i) (fun e => by subst e; exact pairOk_true.2 ⟨by simpa using hg51, by simpa using hg74, by simpa using h96⟩)⟩ (by omega) (Sub.sel [1, 3, 4, 6, 9, 10] rfl) (fun _ h => h)
    ·
     refine Lq.pass rfl rfl rfl ?_
     refine Lq.pass rfl rfl rfl ?_
     refine Lq.pass rfl rfl rfl ?_
     refine Lq.pass rfl rfl rfl ?_
     refine Lq.pass rfl rfl rfl ?_
     refine Lq.pass rfl rfl rfl ?_
     refine Lq.pass rfl rfl rfl ?_
     refine Lq.pass rfl rfl rfl ?_
     refine Lq.pass rfl rfl rfl ?_
     refine Lq.pass rfl rfl rfl ?_
     refine Lq.pass rfl rfl rfl ?_
     refine Lq.pass rfl rfl rfl ?_
     refine Lq.pass rfl rfl rfl ?_
     refine Lq.pass rfl rfl rfl ?_
     refine Lq.pass rfl rfl rfl ?_
     refine Lq.pass rfl rfl rfl ?_
     refine Lq.pass rfl rfl rfl ?_
     refine Lq.pass rfl rfl rfl ?_
     refine Lq.pass rfl rfl rfl ?_
     refine Lq.pass rfl rfl rfl ?_
     refine Lq.pass rfl rfl rfl ?_
     refine Lq.run 1 rfl ?_
     refine Lq.nil ?_
     refine Kt.sel [1, 3, 4, 6, 9, 10, 96] [_, _, _, _, _, _, _] rfl ?_
     refine Wk.condT rfl ?_
     refine Wk.seq ?_
     refine Wk.regionQ ?_
     refine Lq.run 1 rfl ?_
     refine Lq.nil ?_
     refine Kt.sel [8] [_] rfl ?_
     refine Wk.ret (Kt.end1 rfl rfl fun w' hw => ?_)
     -- ret 2: bo_ false
     have hf : stillAt a xs b ys m = false := by
      cases hs : stillAt a xs b ys m with
      | false => rfl
      | true =>
       obtain ⟨e1, e3⟩ := hT.1 hs
       obtain ⟨e4, e5, e6⟩ := pairOk_true.1 (e3 k (by omega))
       simp only [Int.toNat_natCast] at *
       simp_all
     exact ⟨ret_b hf.symm, hw.below⟩
   ·
    refine Lq.pass rfl rfl rfl ?_
    refine Lq.pass rfl rfl rfl ?_
    refine Lq.pass rfl rfl rfl ?_
    refine Lq.pass rfl rfl rfl ?_
    refine Lq.pass rfl rfl rfl ?_
    refine Lq.pass rfl rfl rfl ?_
    refine Lq.pass rfl rfl rfl ?_
    refine Lq.pass rfl rfl rfl ?_
    refine Lq.pass rfl rfl rfl ?_
    refine Lq.pass rfl rfl rfl ?_
    refine Lq.pass rfl rfl rfl ?_
    refine Lq.pass rfl rfl rfl ?_
    refine Lq.pass rfl rfl rfl ?_
    refine Lq.pass rfl rfl rfl ?_
    refine Lq.pass rfl rfl rfl ?_
    refine Lq.pass rfl rfl rfl ?_
    refine Lq.pass rfl rfl rfl ?_
    refine Lq.pass rfl rfl rfl ?_
    refine Lq.pass rfl rfl rfl ?_
    refine Lq.pass rfl rfl rfl ?_
    refine Lq.pass rfl rfl rfl ?_
    refine Lq.run 2 rfl ?_
    refine Lq.pass rfl rfl rfl ?_
    refine Lq.pass rfl rfl rfl ?_
    refine Lq.pass rfl rfl rfl ?_
    refine Lq.pass rfl rfl rfl ?_
    refine Lq.pass rfl rfl rfl ?_
    refine Lq.pass rfl rfl rfl ?_
    refine Lq.pass rfl rfl rfl ?_
    refine Lq.pass rfl rfl rfl ?_
    refine Lq.pass rfl rfl rfl ?_
    refine Lq.pass rfl rfl rfl ?_
    refine Lq.pass rfl rfl rfl ?_
    refine Lq.pass rfl rfl rfl ?_
    refine Lq.pass rfl rfl rfl ?_
    refine Lq.pass rfl rfl rfl ?_
    refine Lq.pass rfl rfl rfl ?_
    refine Lq.pass rfl rfl rfl ?_
    refine Lq.pass rfl rfl rfl ?_
    refine Lq.pass rfl rfl rfl ?_
    refine Lq.pass rfl rfl rfl ?_
    refine Lq.pass rfl rfl rfl ?_
    refine Lq.pass rfl rfl rfl ?_
    refine Lq.run 1 rfl ?_
    refine Lq.nil ?_
    refine Kt.sel [1, 3, 4, 6, 9, 10, 96] [_, _, _, _, _, _, _] rfl ?_
    refine Wk.condT rfl ?_
    refine Wk.seq ?_
    refine Wk.regionQ ?_
    refine Lq.run 1 rfl ?_
    refine Lq.nil ?_
    refine Kt.sel [8] [_] rfl ?_
    refine Wk.ret (Kt.end1 rfl rfl fun w' hw => ?_)
    -- ret 3: bo_ false
    have hf : stillAt a xs b ys m = false := by
     cases hs : stillAt a xs b ys m with
     | false => rfl
     | true =>
      obtain ⟨e1, e3⟩ := hT.1 hs
      obtain ⟨e4, e5, e6⟩ := pairOk_true.1 (e3 k (by omega))
      simp only [Int.toNat_natCast] at *
      simp_all
    exact ⟨ret_b hf.symm, hw.below⟩
  ·
   replace h29 := of_decide_eq_false h29
   refine Wk.exit rfl ?_
   refine Kt.sel [] [] rfl ?_
   refine Wk.seq ?_
   refine Wk.regionQ ?_
   refine Lq.run 1 rfl ?_
   refine Lq.nil ?_
   refine Kt.sel [8] [_] rfl ?_
   refine Wk.ret (Kt.end1 rfl rfl fun w' hw => ?_)
   -- ret 4: bo_ true
   exact ⟨ret_b (hT.2 ⟨bne_false ‹_›, fun i hi => hall i (by omega)⟩).symm, hw.below⟩

set_option maxHeartbeats 400000 in
/-- spec.l4Partial -/
theorem l4Partial_ok (a b : St) (xs ys : List Int) (va vb : Value) (w : World) (ha : a.Fine) (hb : b.Fine) (hva : Ints w va xs) (hvb : Ints w vb ys) (hA : a.Els xs) (hB : b.Els ys) (hlen : xs.length = ys.length) (hsmall : xs.length ≤ 1000000) :
    Calls Tryd.prog 98 [vS a, va, vS b, vb].toArray w fun en w' => en = .returned (.bool (sameB a xs b ys)) ∧ Below w.heap.size w w' := by
 refine fnStart (n := 26) (e := [(0, vS a), (1, va), (2, vS b), (3, vb)]) Tryd.func98 rfl rfl rfl rfl Ends.both ?_
 refine Wk.seq ?_
 refine Wk.region ?_
 refine Ll.box (v := vS a) rfl rfl rfl rfl rfl fun p4 hp4 => ?_
 show Ll _ _ (Own _ _ [_]) _ _ ((4, pt_ p4) :: _) _ _ _
 refine Ll.box (v := vS b) rfl rfl rfl rfl rfl fun p6 hp6 => ?_
 show Ll _ _ (Own _ _ [_, _]) _ _ ((6, pt_ p6) :: _) _ _ _
 refine Ll.run 1 rfl ?_
 refine Ll.nil ?_
 refine Kt.sel [1, 3, 4, 6] [_, _, _, _] rfl ?_
 refine Wk.seq ?_
 refine Wk.seq ?_
 refine Wk.regionQ ?_
 refine Lq.run 1 rfl ?_
 refine Lq.nil ?_
 refine Kt.sel [1, 3, 4, 6, 9] [_, _, _, _, _] rfl ?_
 refine Wk.block ?_
 refine Wk.loop (σ := Nat) (fun k => k ≤ xs.length ∧ ∀ i : Nat, i < k → stillAt a xs b ys i = true) (fun k => [(1, va), (3, vb), (4, pt_ p4), (6, pt_ p6), (9, i6_ ((k : Int) + 1))]) (fun k => Own w.heap.size w [bk_ p6 #[i6_ b.n, str b.set, str b.rel] 28, bk_ p4 #[i6_ a.n, str a.set, str a.rel] 28]) (fun k => xs.length - k) (0) ⟨by omega, fun i hi => absurd hi (by omega)⟩ (Sub.cons rfl (Sub.cons rfl (Sub.cons rfl (Sub.cons rfl (Sub.cons (by simp [List.lookup]) Sub.nil))))) (fun _ h => h) ?_
 rintro k ⟨hk, hall⟩
 refine Wk.seq ?_
 refine Wk.seq ?_
 refine Wk.regionQ ?_
 refine Lq.run 2 rfl ?_
 refine Lq.op (v := i6_ ((xs.length : Int))) rfl rfl rfl (OpQ.lenRow rfl Tryd.runUnderlying24 rfl (ints_length _) (fun w1 hw1 => Row.own hva hw1)) ?_
 refine Lq.run 1 rfl ?_
 refine Lq.nil ?_
 refine Kt.sel [1, 3, 4, 6, 9, 13] [_, _, _, _, _, _] rfl ?_
 refine Wk.cond (b := decide (((k : Int) + 1) ≤ ((xs.length : Int)))) rfl (fun h13 => ?_) (fun h13 => ?_)
 ·
  replace h13 := of_decide_eq_true h13
  refine Wk.skip ?_
  refine Kt.sel [1, 3, 4, 6, 9] [_, _, _, _, _] rfl ?_
  refine Wk.seq ?_
  refine Wk.block ?_
  refine Wk.seq ?_
  refine Wk.regionD Base.mixed (fun _ h => h.drawn) (by kernel_rfl) ?_
  refine Lq.op rfl rfl rfl (OpQ.loadBox (cs := #[i6_ a.n, str a.set, str a.rel]) 1 rfl Tryd.isAgg28 rfl rfl Tryd.sizeOf28) ?_
  refine Lq.run 1 rfl ?_
  refine Lq.op (v := i6_ (((k + 1 : Nat) : Int))) rfl rfl rfl (OpQ.cast (by simp) (OpQ.move rfl rfl)) ?_
  refine Lq.op (v := sTake va ((k + 1))) rfl rfl rfl (OpQ.takeRow (i := ((k + 1 : Nat) : Int)) rfl Tryd.runUnderlying24 Tryd.sizeOf3 rfl rfl (by omega) (by rw [ints_length]; omega) (fun w1 hw1 => Row.own hva hw1)) ?_
  refine Lq.op rfl rfl rfl (OpQ.loadBox (cs := #[i6_ b.n, str b.set, str b.rel]) 0 rfl Tryd.isAgg28 rfl rfl Tryd.sizeOf28) ?_
  refine Lq.run 1 rfl ?_
  refine Lq.op (v := i6_ (((k + 1 : Nat) : Int))) rfl rfl rfl (OpQ.cast (by simp) (OpQ.move rfl rfl)) ?_
  refine Lq.op (v := sTake vb ((k + 1))) rfl rfl rfl (OpQ.takeRow (i := ((k + 1 : Nat) : Int)) rfl Tryd.runUnderlying24 Tryd.sizeOf3 rfl rfl (by omega) (by rw [ints_length]; omega) (fun w1 hw1 => Row.own hvb hw1)) ?_
  refine Lq.op (v := bo_ (stillAt a xs b ys k)) rfl rfl rfl (OpQ.call rfl Tryd.call138 rfl Own.stable (fun w1 hw1 => known_b (stillAt_take (by omega)) (fits_ok a b (xs.take ((k + 1))) (ys.take ((k + 1))) (sTake va ((k + 1))) (sTake vb ((k + 1))) k w1 ha hb (Ints.take (Row.own hva hw1) ((k + 1)) (by omega)) (Ints.take (Row.own hvb hw1) ((k + 1)) (by omega)) (hA.take _) (hB.take _) (by simp; omega) (by simp; omega) (by omega)))) ?_
  refine Lq.run 1 rfl ?_
  refine Lq.nil ?_
  refine Kt.sel [1, 3, 4, 6, 9, 25] [_, _, _, _, _, _] rfl ?_
  refine Wk.cond (b := !(stillAt a xs b ys k)) rfl (fun h25 => ?_) (fun h25 => ?_)
  ·
   replace h25 := not_true h25
   refine Wk.seq ?_
   refine Wk.regionQ ?_
   refine Lq.run 1 rfl ?_
   refine Lq.nil ?_
   refine Kt.sel [8] [_] rfl ?_
   refine Wk.ret (Kt.end1 rfl rfl fun w' hw => ?_)
   -- ret 0: bo_ false
   exact ⟨ret_b (sameB_false (k := k) (by omega) (by simpa using h25)).symm, hw.below⟩
  ·
   replace h25 := not_false h25
   refine Wk.skip ?_
   refine Kt.sel [1, 3, 4, 6, 9] [_, _, _, _, _] rfl ?_
   refine Wk.regionQ ?_
   refine Lq.run 1 rfl ?_
   refine Lq.op rfl rfl rfl (OpQ.add rfl rfl rfl (by omega) (by omega)) ?_
   refine Lq.run 1 rfl ?_
   refine Lq.nil ?_
   refine Kt.again (k + 1) ⟨by omega, fun i hi => (Nat.lt_succ_iff_lt_or_eq.1 hi).elim (hall i) (fun e => by subst e; simpa using h25)⟩ (by omega) (Sub.cons rfl (Sub.cons rfl (Sub.cons rfl (Sub.cons rfl (Sub.cons (by simp [List.lookup]) Sub.nil))))) (fun _ h => h)
 ·
  replace h13 := of_decide_eq_false h13
  refine Wk.exit rfl ?_
  refine Kt.sel [] [] rfl ?_
  refine Wk.seq ?_
  refine Wk.regionQ ?_
  refine Lq.run 1 rfl ?_
  refine Lq.nil ?_
  refine Kt.sel [8] [_] rfl ?_
  refine Wk.ret (Kt.end1 rfl rfl fun w' hw => ?_)
  -- ret 1: bo_ true
  exact ⟨ret_b (sameB_true (k := k) (by omega) hall).symm, hw.below⟩

end Go.Proofs.YtjcoijejhachhaaDoor
