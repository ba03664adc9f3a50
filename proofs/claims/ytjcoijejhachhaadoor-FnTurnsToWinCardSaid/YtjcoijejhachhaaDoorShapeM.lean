/-
  Walks: the search for orders; structures of one shape.
-/
import Derived.Test.YtjcoijejhachhaaDoorPlain32
import Derived.Test.YtjcoijejhachhaaDoorPartM
import Derived.Test.YtjcoijejhachhaaDoorBase
namespace Go.Proofs.YtjcoijejhachhaaDoor
open Go.RowKit Go.Wk
set_option linter.unusedSimpArgs false

set_option maxHeartbeats 400000 in
/-- slices.Index[[]int,int] -/
theorem index_ok (va : Value) (xs : List Int) (y : Int) (w : World) (hva : Ints w va xs) (hs1 : xs.length ≤ 1000000) :
    Calls Tryd.prog 153 [va, i6_ y].toArray w fun en w' => en = .returned (.int .i64 (idxI xs fun z => decide (y = z))) ∧ Below w.heap.size w w' := by
 refine fnStart (n := 19) (e := [(0, va), (1, i6_ y)]) Tryd.func153 rfl rfl rfl rfl Ends.both ?_
 refine Wk.seq ?_
 refine Wk.regionQ ?_
 refine Lq.run 1 rfl ?_
 refine Lq.nil ?_
 refine Kt.sel [0, 1] [_, _] rfl ?_
 refine Wk.seq ?_
 refine Wk.seq ?_
 refine Wk.regionQ ?_
 refine Lq.run 1 rfl ?_
 refine Lq.op (v := i6_ ((xs.length : Int))) rfl rfl rfl (OpQ.lenRow rfl Tryd.runUnderlying24 rfl (ints_length _) (fun w1 hw1 => Row.own hva hw1)) ?_
 refine Lq.run 1 rfl ?_
 refine Lq.nil ?_
 refine Kt.sel [0, 1, 7, 8] [_, _, _, _] rfl ?_
 refine Wk.block ?_
 refine Wk.loop (σ := Nat) (fun k => k ≤ xs.length ∧ ∀ i : Nat, i < k → (fun z => decide (y = z)) (xs.getD i 0) = false) (fun k => [(0, va), (1, i6_ y), (7, i6_ ((xs.length : Int))), (8, i6_ ((k : Int)))]) (fun k => Own w.heap.size w []) (fun k => xs.length - k) (0) ⟨by omega, fun i hi => absurd hi (by omega)⟩ (Sub.sel [0, 1, 7, 8] rfl) (fun _ h => h) ?_
 rintro k ⟨hk, hall⟩
 refine Wk.seq ?_
 refine Wk.regionQ ?_
 refine Lq.run 1 rfl ?_
 refine Lq.nil ?_
 refine Kt.sel [0, 1, 7, 8, 9] [_, _, _, _, _] rfl ?_
 refine Wk.seq ?_
 refine Wk.cond (b := decide (((k : Int)) < ((xs.length : Int)))) rfl (fun h9 => ?_) (fun h9 => ?_)
 ·
  replace h9 := of_decide_eq_true h9
  refine Wk.skip ?_
  refine Kt.sel [0, 1, 7, 8] [_, _, _, _] rfl ?_
  refine Wk.seq ?_
  refine Wk.block ?_
  refine Wk.seq ?_
  refine Wk.regionQ ?_
  refine Lq.run 2 rfl ?_
  refine Lq.nil ?_
  refine Kt.sel [0, 1, 5, 7, 8] [_, _, _, _, _] rfl ?_
  refine Wk.seq ?_
  refine Wk.regionQ ?_
  refine Lq.run 3 rfl ?_
  refine Lq.op (v := .pointer (some (sAt va ((k : Int))))) rfl rfl rfl (OpQ.atRow rfl Tryd.runUnderlying24 Tryd.sizeOf3 rfl rfl (by omega) (by rw [ints_length]; omega) (fun w1 hw1 => Row.own hva hw1)) ?_
  refine Lq.op (v := i6_ (xs.getD (((k : Int)).toNat) 0)) rfl rfl rfl (OpQ.load1 rfl Tryd.isAgg3 rfl (fun w1 hw1 => Ints.cell (Row.own hva hw1) (by omega) (by omega))) ?_
  refine Lq.run 1 rfl ?_
  refine Lq.nil ?_
  refine Kt.sel [0, 1, 5, 7, 8, 16] [_, _, _, _, _, _] rfl ?_
  refine Wk.cond (b := decide (y = (xs.getD (((k : Int)).toNat) 0))) rfl (fun h16 => ?_) (fun h16 => ?_)
  ·
   replace h16 := of_decide_eq_true h16
   refine Wk.seq ?_
   refine Wk.regionQ ?_
   refine Lq.run 2 rfl ?_
   refine Lq.nil ?_
   refine Kt.sel [4] [_] rfl ?_
   refine Wk.ret (Kt.end1 rfl rfl fun w' hw => ?_)
   -- ret 0: i6_ ((k : Int))
   exact ⟨ret_i (idxI_at (by omega) hall (by simpa using h16)).symm, hw.below⟩
  ·
   replace h16 := of_decide_eq_false h16
   refine Wk.skip ?_
   refine Kt.sel [0, 1, 7, 8] [_, _, _, _] rfl ?_
   refine Wk.regionQ ?_
   refine Lq.op rfl rfl rfl (OpQ.add rfl rfl rfl (by omega) (by omega)) ?_
   refine Lq.run 1 rfl ?_
   refine Lq.nil ?_
   refine Kt.again (k + 1) ⟨by omega, fun i hi => (Nat.lt_succ_iff_lt_or_eq.1 hi).elim (hall i) (fun e => by subst e; simpa using h16)⟩ (by omega) (Sub.sel [0, 1, 7, 8] rfl) (fun _ h => h)
 ·
  replace h9 := of_decide_eq_false h9
  refine Wk.exit rfl ?_
  refine Kt.sel [] [] rfl ?_
  refine Wk.seq ?_
  refine Wk.regionQ ?_
  refine Lq.run 1 rfl ?_
  refine Lq.nil ?_
  refine Kt.sel [4] [_] rfl ?_
  refine Wk.ret (Kt.end1 rfl rfl fun w' hw => ?_)
  -- ret 1: i6_ (-1)
  exact ⟨ret_i (idxI_none (fun i hi => hall i (by omega))).symm, hw.below⟩

set_option maxHeartbeats 400000 in
/-- slices.Contains[[]int,int] -/
theorem contains_ok (va : Value) (xs : List Int) (y : Int) (w : World) (hva : Ints w va xs) (hs1 : xs.length ≤ 1000000) :
    Calls Tryd.prog 119 [va, i6_ y].toArray w fun en w' => en = .returned (.bool (decide (y ∈ xs))) ∧ Below w.heap.size w w' := by
 refine fnStart (n := 9) (e := [(0, va), (1, i6_ y)]) Tryd.func119 rfl rfl rfl rfl Ends.both ?_
 refine Wk.seq ?_
 refine Wk.regionQ ?_
 refine Lq.run 1 rfl ?_
 refine Lq.nil ?_
 refine Kt.sel [0, 1] [_, _] rfl ?_
 refine Wk.seq ?_
 refine Wk.regionQ ?_
 refine Lq.run 2 rfl ?_
 refine Lq.op (v := i6_ (idxI xs fun z => decide (y = z))) rfl rfl rfl (OpQ.call rfl Tryd.call153 rfl Own.stable (fun w1 hw1 => index_ok va xs y w1 (Row.own hva hw1) (by omega))) ?_
 refine Lq.run 2 rfl ?_
 refine Lq.nil ?_
 refine Kt.sel [4] [_] rfl ?_
 refine Wk.ret (Kt.end1 rfl rfl fun w' hw => ?_)
 -- ret 0: bo_ (decide ((0 : Int) ≤ (idxI xs fun z => decide (y = z))))
 exact ⟨ret_b (has_idx xs y), hw.below⟩

set_option maxHeartbeats 400000 in
/-- impl.placed -/
theorem placed_ok (a b : St) (va : Value) (os : List Int) (x : Int) (w : World) (ha : a.Fine) (hb : b.Fine) (hva : Ints w va os) (hs : os.length ≤ 8) (hA : a.Els os) (hx : a.El x) (hbi : b.El os.length) :
    Calls Tryd.prog 120 [vS a, vS b, va, i6_ x].toArray w fun en w' => en = .returned (.bool (placedB a b os x)) ∧ Below w.heap.size w w' := by
 refine fnStart (n := 60) (e := [(0, vS a), (1, vS b), (2, va), (3, i6_ x)]) Tryd.func120 rfl rfl rfl rfl Ends.both ?_
 refine Wk.seq ?_
 refine Wk.region ?_
 refine Ll.box (v := vS a) rfl rfl rfl rfl rfl fun p4 hp4 => ?_
 show Ll _ _ (Own _ _ [_]) _ _ ((4, pt_ p4) :: _) _ _ _
 refine Ll.box (v := vS b) rfl rfl rfl rfl rfl fun p5 hp5 => ?_
 show Ll _ _ (Own _ _ [_, _]) _ _ ((5, pt_ p5) :: _) _ _ _
 refine Ll.run 1 rfl ?_
 refine Ll.nil ?_
 refine Kt.sel [2, 3, 4, 5] [_, _, _, _] rfl ?_
 refine Wk.seq ?_
 refine Wk.regionQ ?_
 refine Lq.run 1 rfl ?_
 refine Lq.op (v := i6_ ((os.length : Int))) rfl rfl rfl (OpQ.lenRow rfl Tryd.runUnderlying24 rfl (ints_length _) (fun w1 hw1 => Row.own hva hw1)) ?_
 refine Lq.run 1 rfl ?_
 refine Lq.nil ?_
 refine Kt.sel [2, 3, 4, 5, 9] [_, _, _, _, _] rfl ?_
 refine Wk.seq ?_
 refine Wk.seq ?_
 refine Wk.regionD Base.mixed (fun _ h => h.drawn) (by kernel_rfl) ?_
 refine Lq.op rfl rfl rfl (OpQ.loadBox (cs := #[i6_ a.n, str a.set, str a.rel]) 1 rfl Tryd.isAgg28 rfl rfl Tryd.sizeOf28) ?_
 refine Lq.run 1 rfl ?_
 refine Lq.op (v := bo_ (a.inSet x)) rfl rfl rfl (OpQ.call rfl Tryd.call151 rfl Own.stable (fun w1 hw1 => inSet_ok a x w1 ha (by first | assumption | exact St.Els.at (by assumption) (by omega) (by omega)))) ?_
 refine Lq.op rfl rfl rfl (OpQ.loadBox (cs := #[i6_ b.n, str b.set, str b.rel]) 0 rfl Tryd.isAgg28 rfl rfl Tryd.sizeOf28) ?_
 refine Lq.run 1 rfl ?_
 refine Lq.op (v := bo_ (b.inSet ((os.length : Int)))) rfl rfl rfl (OpQ.call rfl Tryd.call151 rfl Own.stable (fun w1 hw1 => inSet_ok b ((os.length : Int)) w1 hb (by first | assumption | exact St.Els.at (by assumption) (by omega) (by omega)))) ?_
 refine Lq.op rfl rfl rfl (OpQ.bne rfl Tryd.runUnderlying4 rfl rfl) ?_
 refine Lq.run 1 rfl ?_
 refine Lq.bool fun b21 hg21 => ?_
 cases b21
 ·
  refine Lq.op rfl rfl rfl (OpQ.loadBox (cs := #[i6_ a.n, str a.set, str a.rel]) 1 rfl Tryd.isAgg28 rfl rfl Tryd.sizeOf28) ?_
  refine Lq.run 2 rfl ?_
  refine Lq.op (v := bo_ (a.inRel x x)) rfl rfl rfl (OpQ.call rfl Tryd.call152 rfl Own.stable (fun w1 hw1 => inRel_ok a x x w1 ha (by first | assumption | exact St.Els.at (by assumption) (by omega) (by omega)) (by first | assumption | exact St.Els.at (by assumption) (by omega) (by omega)))) ?_
  refine Lq.op rfl rfl rfl (OpQ.loadBox (cs := #[i6_ b.n, str b.set, str b.rel]) 0 rfl Tryd.isAgg28 rfl rfl Tryd.sizeOf28) ?_
  refine Lq.run 2 rfl ?_
  refine Lq.op (v := bo_ (b.inRel ((os.length : Int)) ((os.length : Int)))) rfl rfl rfl (OpQ.call rfl Tryd.call152 rfl Own.stable (fun w1 hw1 => inRel_ok b ((os.length : Int)) ((os.length : Int)) w1 hb (by first | assumption | exact St.Els.at (by assumption) (by omega) (by omega)) (by first | assumption | exact St.Els.at (by assumption) (by omega) (by omega)))) ?_
  refine Lq.op rfl rfl rfl (OpQ.bne rfl Tryd.runUnderlying4 rfl rfl) ?_
  refine Lq.run 1 rfl ?_
  refine Lq.nil ?_
  refine Kt.sel [2, 3, 4, 5, 9, 31] [_, _, _, _, _, _] rfl ?_
  refine Wk.cond (b := (a.inRel x x) != (b.inRel ((os.length : Int)) ((os.length : Int)))) rfl (fun h31 => ?_) (fun h31 => ?_)
  ·
   refine Wk.seq ?_
   refine Wk.regionQ ?_
   refine Lq.run 1 rfl ?_
   refine Lq.nil ?_
   refine Kt.sel [8] [_] rfl ?_
   refine Wk.ret (Kt.end1 rfl rfl fun w' hw => ?_)
   -- ret 0: bo_ false
   first | exact ⟨ret_b (placed_head (.inl (by assumption))).symm, hw.below⟩ | exact ⟨ret_b (placed_head (.inr (by assumption))).symm, hw.below⟩ | exact ⟨ret_b (placed_no (k := k) (by omega) (.inl (by simpa using hg48))).symm, hw.below⟩ | exact ⟨ret_b (placed_no (k := k) (by omega) (.inr (by simpa using h58))).symm, hw.below⟩ | exact ⟨ret_b (placed_yes (by assumption) (by assumption) (fun i hi => hall i (by omega))).symm, hw.below⟩
  ·
   refine Wk.skip ?_
   refine Kt.sel [2, 3, 4, 5, 9] [_, _, _, _, _] rfl ?_
   refine Wk.seq ?_
   refine Wk.seq ?_
   refine Wk.regionQ ?_
   refine Lq.run 1 rfl ?_
   refine Lq.op (v := i6_ ((os.length : Int))) rfl rfl rfl (OpQ.lenRow rfl Tryd.runUnderlying24 rfl (ints_length _) (fun w1 hw1 => Row.own hva hw1)) ?_
   refine Lq.run 1 rfl ?_
   refine Lq.nil ?_
   refine Kt.sel [3, 4, 5, 9, 32, 33, 34] [_, _, _, _, _, _, _] rfl ?_
   refine Wk.block ?_
   refine Wk.loop (σ := Nat) (fun k => k ≤ os.length ∧ ∀ i : Nat, i < k → (a.inRel x (os.getD i 0) != b.inRel os.length i) = false ∧ (a.inRel (os.getD i 0) x != b.inRel i os.length) = false) (fun k => [(3, i6_ x), (4, pt_ p4), (5, pt_ p5), (9, i6_ ((os.length : Int))), (32, va), (33, i6_ ((os.length : Int))), (34, i6_ ((k : Int)))]) (fun k => Own w.heap.size w [bk_ p5 #[i6_ b.n, str b.set, str b.rel] 28, bk_ p4 #[i6_ a.n, str a.set, str a.rel] 28]) (fun k => os.length - k) (0) ⟨by omega, fun i hi => absurd hi (by omega)⟩ (Sub.sel [3, 4, 5, 9, 32, 33, 34] rfl) (fun _ h => h) ?_
   rintro k ⟨hk, hall⟩
   refine Wk.seq ?_
   refine Wk.regionQ ?_
   refine Lq.run 1 rfl ?_
   refine Lq.nil ?_
   refine Kt.sel [3, 4, 5, 9, 32, 33, 34, 35] [_, _, _, _, _, _, _, _] rfl ?_
   refine Wk.seq ?_
   refine Wk.cond (b := decide (((k : Int)) < ((os.length : Int)))) rfl (fun h35 => ?_) (fun h35 => ?_)
   ·
    replace h35 := of_decide_eq_true h35
    have hbk : b.El (k : Int) := ⟨by omega, by have := hbi.2; omega⟩
    refine Wk.skip ?_
    refine Kt.sel [3, 4, 5, 9, 32, 33, 34] [_, _, _, _, _, _, _] rfl ?_
    refine Wk.seq ?_
    refine Wk.block ?_
    refine Wk.seq ?_
    refine Wk.regionQ ?_
    refine Lq.run 1 rfl ?_
    refine Lq.op (v := .pointer (some (sAt va ((k : Int))))) rfl rfl rfl (OpQ.atRow rfl Tryd.runUnderlying24 Tryd.sizeOf3 rfl rfl (by omega) (by rw [ints_length]; omega) (fun w1 hw1 => Row.own hva hw1)) ?_
    refine Lq.op (v := i6_ (os.getD (((k : Int)).toNat) 0)) rfl rfl rfl (OpQ.load1 rfl Tryd.isAgg3 rfl (fun w1 hw1 => Ints.cell (Row.own hva hw1) (by omega) (by omega))) ?_
    refine Lq.run 2 rfl ?_
    refine Lq.nil ?_
    refine Kt.sel [3, 4, 5, 9, 10, 11, 32, 33, 34] [_, _, _, _, _, _, _, _, _] rfl ?_
    refine Wk.seq ?_
    refine Wk.regionD Base.mixed (fun _ h => h.drawn) (by kernel_rfl) ?_
    refine Lq.op rfl rfl rfl (OpQ.loadBox (cs := #[i6_ a.n, str a.set, str a.rel]) 1 rfl Tryd.isAgg28 rfl rfl Tryd.sizeOf28) ?_
    refine Lq.run 2 rfl ?_
    refine Lq.op (v := bo_ (a.inRel x (os.getD (((k : Int)).toNat) 0))) rfl rfl rfl (OpQ.call rfl Tryd.call152 rfl Own.stable (fun w1 hw1 => inRel_ok a x (os.getD (((k : Int)).toNat) 0) w1 ha (by first | assumption | exact St.Els.at (by assumption) (by omega) (by omega)) (by first | assumption | exact St.Els.at (by assumption) (by omega) (by omega)))) ?_
    refine Lq.op rfl rfl rfl (OpQ.loadBox (cs := #[i6_ b.n, str b.set, str b.rel]) 0 rfl Tryd.isAgg28 rfl rfl Tryd.sizeOf28) ?_
    refine Lq.run 2 rfl ?_
    refine Lq.op (v := bo_ (b.inRel ((os.length : Int)) ((k : Int)))) rfl rfl rfl (OpQ.call rfl Tryd.call152 rfl Own.stable (fun w1 hw1 => inRel_ok b ((os.length : Int)) ((k : Int)) w1 hb (by first | assumption | exact St.Els.at (by assumption) (by omega) (by omega)) (by first | assumption | exact St.Els.at (by assumption) (by omega) (by omega)))) ?_
    refine Lq.op rfl rfl rfl (OpQ.bne rfl Tryd.runUnderlying4 rfl rfl) ?_
    refine Lq.run 1 rfl ?_
    refine Lq.bool fun b48 hg48 => ?_
    cases b48
    ·
     refine Lq.op rfl rfl rfl (OpQ.loadBox (cs := #[i6_ a.n, str a.set, str a.rel]) 1 rfl Tryd.isAgg28 rfl rfl Tryd.sizeOf28) ?_
     refine Lq.run 2 rfl ?_
     refine Lq.op (v := bo_ (a.inRel (os.getD (((k : Int)).toNat) 0) x)) rfl rfl rfl (OpQ.call rfl Tryd.call152 rfl Own.stable (fun w1 hw1 => inRel_ok a (os.getD (((k : Int)).toNat) 0) x w1 ha (by first | assumption | exact St.Els.at (by assumption) (by omega) (by omega)) (by first | assumption | exact St.Els.at (by assumption) (by omega) (by omega)))) ?_
     refine Lq.op rfl rfl rfl (OpQ.loadBox (cs := #[i6_ b.n, str b.set, str b.rel]) 0 rfl Tryd.isAgg28 rfl rfl Tryd.sizeOf28) ?_
     refine Lq.run 2 rfl ?_
     refine Lq.op (v := bo_ (b.inRel ((k : Int)) ((os.length : Int)))) rfl rfl rfl (OpQ.call rfl Tryd.call152 rfl Own.stable (fun w1 hw1 => inRel_ok b ((k : Int)) ((os.length : Int)) w1 hb (by first | assumption | exact St.Els.at (by assumption) (by omega) (by omega)) (by first | assumption | exact St.Els.at (by assumption) (by omega) (by omega)))) ?_
     refine Lq.op rfl rfl rfl (OpQ.bne rfl Tryd.runUnderlying4 rfl rfl) ?_
     refine Lq.run 1 rfl ?_
     refine Lq.nil ?_
     refine Kt.sel [3, 4, 5, 9, 32, 33, 34, 58] [_, _, _, _, _, _, _, _] rfl ?_
     refine Wk.cond (b := (a.inRel (os.getD (((k : Int)).toNat) 0) x) != (b.inRel ((k : Int)) ((os.length : Int)))) rfl (fun h58 => ?_) (fun h58 => ?_)
     ·
      refine Wk.seq ?_
      refine Wk.regionQ ?_
      refine Lq.run 1 rfl ?_
      refine Lq.nil ?_
      refine Kt.sel [8] [_] rfl ?_
      refine Wk.ret (Kt.end1 rfl rfl fun w' hw => ?_)
      -- ret 1: bo_ false
      first | exact ⟨ret_b (placed_head (.inl (by assumption))).symm, hw.below⟩ | exact ⟨ret_b (placed_head (.inr (by assumption))).symm, hw.below⟩ | exact ⟨ret_b (placed_no (k := k) (by omega) (.inl (by simpa using hg48))).symm, hw.below⟩ | exact ⟨ret_b (placed_no (k := k) (by omega) (.inr (by simpa using h58))).symm, hw.below⟩ | exact ⟨ret_b (placed_yes (by assumption) (by assumption) (fun i hi => hall i (by omega))).symm, hw.below⟩
     ·
      refine Wk.skip ?_
      refine Kt.sel [3, 4, 5, 9, 32, 33, 34] [_, _, _, _, _, _, _] rfl ?_
      refine Wk.regionQ ?_
      refine Lq.op rfl rfl rfl (OpQ.add rfl rfl rfl (by omega) (by omega)) ?_
      refine Lq.run 1 rfl ?_
      refine Lq.nil ?_
      refine Kt.again (k + 1) ⟨by omega, fun i hi => (Nat.lt_succ_iff_lt_or_eq.1 hi).elim (hall i) (fun e => by subst e; exact ⟨by simpa using hg48, by simpa using h58⟩)⟩ (by omega) (Sub.sel [3, 4, 5, 9, 32, 33, 34] rfl) (fun _ h => h)
    ·
     refine Lq.pass rfl rfl rfl ?_
     refine Lq.pass rfl rfl rfl ?_
     refine Lq.pass rfl rfl rfl ?_
     refine Lq.pass rfl rfl rfl ?_
     refine Lq.pass rfl rfl rfl ?_
     refine Lq.pass rfl rfl rfl ?_
     refine Lq.pass rfl rfl rfl ?_
     refine Lq.pass rfl rfl rfl ?_
     refine Lq.pass rfl rfl rfl ?_
     refine Lq.run 1 rfl ?_
     refine Lq.nil ?_
     refine Kt.sel [3, 4, 5, 9, 32, 33, 34, 58] [_, _, _, _, _, _, _, _] rfl ?_
     refine Wk.condT rfl ?_
     refine Wk.seq ?_
     refine Wk.regionQ ?_
     refine Lq.run 1 rfl ?_
     refine Lq.nil ?_
     refine Kt.sel [8] [_] rfl ?_
     refine Wk.ret (Kt.end1 rfl rfl fun w' hw => ?_)
     -- ret 2: bo_ false
     first | exact ⟨ret_b (placed_head (.inl (by assumption))).symm, hw.below⟩ | exact ⟨ret_b (placed_head (.inr (by assumption))).symm, hw.below⟩ | exact ⟨ret_b (placed_no (k := k) (by omega) (.inl (by simpa using hg48))).symm, hw.below⟩ | exact ⟨ret_b (placed_no (k := k) (by omega) (.inr (by simpa using h58))).symm, hw.below⟩ | exact ⟨ret_b (placed_yes (by assumption) (by assumption) (fun i hi => hall i (by omega))).symm, hw.below⟩
   ·
    replace h35 := of_decide_eq_false h35
    refine Wk.exit rfl ?_
    refine Kt.sel [] [] rfl ?_
    refine Wk.seq ?_
    refine Wk.regionQ ?_
    refine Lq.run 1 rfl ?_
    refine Lq.nil ?_
    refine Kt.sel [8] [_] rfl ?_
    refine Wk.ret (Kt.end1 rfl rfl fun w' hw => ?_)
    -- ret 3: bo_ true
    first | exact ⟨ret_b (placed_head (.inl (by assumption))).symm, hw.below⟩ | exact ⟨ret_b (placed_head (.inr (by assumption))).symm, hw.below⟩ | exact ⟨ret_b (placed_no (k := k) (by omega) (.inl (by simpa using hg48))).symm, hw.below⟩ | exact ⟨ret_b (placed_no (k := k) (by omega) (.inr (by simpa using h58))).symm, hw.below⟩ | exact ⟨ret_b (placed_yes (by assumption) (by assumption) (fun i hi => hall i (by omega))).symm, hw.below⟩
 ·
  refine Lq.pass rfl rfl rfl ?_
  refine Lq.pass rfl rfl rfl ?_
  refine Lq.pass rfl rfl rfl ?_
  refine Lq.pass rfl rfl rfl ?_
  refine Lq.pass rfl rfl rfl ?_
  refine Lq.pass rfl rfl rfl ?_
  refine Lq.pass rfl rfl rfl ?_
  refine Lq.pass rfl rfl rfl ?_
  refine Lq.pass rfl rfl rfl ?_
  refine Lq.run 1 rfl ?_
  refine Lq.nil ?_
  refine Kt.sel [2, 3, 4, 5, 9, 31] [_, _, _, _, _, _] rfl ?_
  refine Wk.condT rfl ?_
  refine Wk.seq ?_
  refine Wk.regionQ ?_
  refine Lq.run 1 rfl ?_
  refine Lq.nil ?_
  refine Kt.sel [8] [_] rfl ?_
  refine Wk.ret (Kt.end1 rfl rfl fun w' hw => ?_)
  -- ret 4: bo_ false
  first | exact ⟨ret_b (placed_head (.inl (by assumption))).symm, hw.below⟩ | exact ⟨ret_b (placed_head (.inr (by assumption))).symm, hw.below⟩ | exact ⟨ret_b (placed_no (k := k) (by omega) (.inl (by simpa using hg48))).symm, hw.below⟩ | exact ⟨ret_b (placed_no (k := k) (by omega) (.inr (by simpa using h58))).symm, hw.below⟩ | exact ⟨ret_b (placed_yes (by assumption) (by assumption) (fun i hi => hall i (by omega))).symm, hw.below⟩

set_option maxHeartbeats 400000 in
/-- impl.eachShape$1|0 -/
theorem place_zero (a b : St) {τ α : Type} (D : τ → α → List (Nat × Obj)) (okD : τ → α → Prop) (step : List Int → τ → τ × Bool) (tf : FuncId) (tcap : Array Value) (B : Nat) (w0 : World) (hcf : ∀ args w, (callFunc tf args).run Tryd.prog w = .ok (.enter tf args) w) (hT : Tells Tryd.prog tf tcap a b B w0 D okD step) (ha : a.Fine) (_hb : b.Fine) (hn : a.n = b.n) (pp po pt pb pa : Nat) (os : List Int) (t : τ) (al : α) (g cap : Nat) (cur : Array Value) (w : World) (hm : os.length + 0 = a.n.toNat) (hA : a.Els os) (hsm : sameB a os b (upto os.length) = true) (hok : okD t al) (hcg : cur.size = cap * 1) (hlg : os.length ≤ cap) (htg : cur.toList.take os.length = ints os) (hw : Own B w0 (bk_ pp #[.func (.func 118) #[] #[pt_ po, pt_ pa, pt_ pt, pt_ pb, pt_ pp]] 72 :: bk_ po #[sl_ g os.length cap] 24 :: bk_ g cur 3 :: bk_ pt #[.func (.func tf) #[] tcap] 85 :: bk_ pb #[i6_ b.n, str b.set, str b.rel] 28 :: bk_ pa #[i6_ a.n, str a.set, str a.rel] 28 :: (D t al)) w) :
    Calls Tryd.prog 118 [pt_ po, pt_ pa, pt_ pt, pt_ pb, pt_ pp].toArray w fun en w' => ∃ (os' : List Int) (g' cap' : Nat) (cur' : Array Value) (al' : α), en = .returned (.bool (shS a b step 0 os t).2) ∧ okD (shS a b step 0 os t).1 al' ∧ ((shS a b step 0 os t).2 = true → os' = os) ∧ (cur'.size = cap' * 1 ∧ os'.length ≤ cap' ∧ cur'.toList.take os'.length = ints os') ∧ Own B w0 (bk_ pp #[.func (.func 118) #[] #[pt_ po, pt_ pa, pt_ pt, pt_ pb, pt_ pp]] 72 :: bk_ po #[sl_ g' os'.length cap'] 24 :: bk_ g' cur' 3 :: bk_ pt #[.func (.func tf) #[] tcap] 85 :: bk_ pb #[i6_ b.n, str b.set, str b.rel] 28 :: bk_ pa #[i6_ a.n, str a.set, str a.rel] 28 :: (D (shS a b step 0 os t).1 al')) w' := by
 refine fnStartC (Own B w0 (bk_ pp #[.func (.func 118) #[] #[pt_ po, pt_ pa, pt_ pt, pt_ pb, pt_ pp]] 72 :: bk_ po #[sl_ g os.length cap] 24 :: bk_ g cur 3 :: bk_ pt #[.func (.func tf) #[] tcap] 85 :: bk_ pb #[i6_ b.n, str b.set, str b.rel] 28 :: bk_ pa #[i6_ a.n, str a.set, str a.rel] 28 :: (D t al))) (n := 44) (e := [(0, pt_ po), (1, pt_ pa), (2, pt_ pt), (3, pt_ pb), (4, pt_ pp)]) Tryd.func118 rfl rfl rfl rfl Ends.both hw ?_
 have hm8 := ha.hi
 have hm1 := ha.lo
 refine Wk.seq ?_
 refine Wk.regionQ ?_
 refine Lq.run 1 rfl ?_
 refine Lq.nil ?_
 refine Kt.sel [0, 1, 2, 3, 4] [_, _, _, _, _] rfl ?_
 refine Wk.seq ?_
 refine Wk.regionQ ?_
 refine Lq.op rfl rfl rfl (OpQ.loadOwn 1 rfl Tryd.isAgg24 rfl rfl rfl) ?_
 refine Lq.op rfl rfl rfl (OpQ.lenS rfl Tryd.runUnderlying24 rfl) ?_
 refine Lq.run 1 rfl ?_
 refine Lq.nil ?_
 refine Kt.sel [0, 1, 2, 3, 4, 6] [_, _, _, _, _, _] rfl ?_
 refine Wk.seq ?_
 refine Wk.seq ?_
 refine Wk.regionQ ?_
 refine Lq.run 1 rfl ?_
 refine Lq.op rfl rfl rfl (OpQ.fieldAddr rfl Tryd.runUnderlying28 rfl Tryd.sizeOf3 rfl rfl) ?_
 refine Lq.op rfl rfl rfl (OpQ.loadOwn 5 rfl Tryd.isAgg3 rfl rfl rfl) ?_
 refine Lq.run 1 rfl ?_
 refine Lq.nil ?_
 refine Kt.sel [0, 1, 2, 3, 4, 6, 13] [_, _, _, _, _, _, _] rfl ?_
 refine Wk.cond (b := decide (((os.length : Int)) = a.n)) rfl (fun h13 => ?_) (fun h13 => ?_)
 ·
  replace h13 := of_decide_eq_true h13
  refine Wk.seq ?_
  refine Wk.region ?_
  refine Ll.op rfl rfl rfl (OpQ.loadOwn 3 rfl Tryd.isAgg85 rfl rfl rfl) ?_
  refine Ll.op rfl rfl rfl (OpQ.loadOwn 1 rfl Tryd.isAgg24 rfl rfl rfl) ?_
  refine Ll.callFnGet (ok := fun al' => okD (step os t).1 al') (v := fun _ => .bool (step os t).2) (hs' := fun al' => ([bk_ pp #[.func (.func 118) #[] #[pt_ po, pt_ pa, pt_ pt, pt_ pb, pt_ pp]] 72, bk_ po #[sl_ g os.length cap] 24, bk_ g cur 3, bk_ pt #[.func (.func tf) #[] tcap] 85, bk_ pb #[i6_ b.n, str b.set, str b.rel] 28, bk_ pa #[i6_ a.n, str a.set, str a.rel] 28] : List (Nat × Obj)) ++ D (step os t).1 al') (xs := [.tmp 15]) (vs := [sl_ g os.length cap]) rfl rfl rfl rfl rfl hcf rfl (fun w1 hw1 => hT ([bk_ pp #[.func (.func 118) #[] #[pt_ po, pt_ pa, pt_ pt, pt_ pb, pt_ pp]] 72, bk_ po #[sl_ g os.length cap] 24, bk_ g cur 3, bk_ pt #[.func (.func tf) #[] tcap] 85, bk_ pb #[i6_ b.n, str b.set, str b.rel] 28, bk_ pa #[i6_ a.n, str a.set, str a.rel] 28] : List (Nat × Obj)) (sl_ g os.length cap) os t al w1 hok (fun w2 hw2 => (Own.row hw2 (i := 2) rfl htg (by simp) hlg)) (by omega) hsm hA hw1) fun al16 hok2 => ?_
  show Ll _ _ (Own _ _ (_ :: _ :: _ :: _ :: _ :: _ :: ((D (step os t).1 al16)))) _ _ ((16, bo_ ((step os t).2)) :: _) _ _ _
  refine Ll.run 1 rfl ?_
  refine Ll.nil ?_
  refine Kt.sel [5] [_] rfl ?_
  refine Wk.ret (Kt.end1 rfl rfl fun w' hw => ?_)
  -- ret 0: bo_ ((step os t).2)
  exact ⟨os, g, cap, cur, al16, rfl, hok2, fun _ => rfl, ⟨hcg, hlg, htg⟩, hw⟩
 ·
  replace h13 := of_decide_eq_false h13
  exact absurd (by omega) h13

set_option maxHeartbeats 1000000 in
/-- impl.eachShape$1 -/
theorem place_of (a b : St) {τ α : Type} (D : τ → α → List (Nat × Obj)) (okD : τ → α → Prop) (step : List Int → τ → τ × Bool) (tf : FuncId) (tcap : Array Value) (B : Nat) (w0 : World) (_hcf : ∀ args w, (callFunc tf args).run Tryd.prog w = .ok (.enter tf args) w) (_hT : Tells Tryd.prog tf tcap a b B w0 D okD step) (ha : a.Fine) (hb : b.Fine) (hn : a.n = b.n) (pp po pt pb pa : Nat) (m : Nat) (ih : ∀ (os : List Int) (t : τ) (al : α) (g cap : Nat) (cur : Array Value) (w : World) (_ : os.length + m = a.n.toNat) (_ : a.Els os) (_ : sameB a os b (upto os.length) = true) (_ : okD t al) (_ : cur.size = cap * 1) (_ : os.length ≤ cap) (_ : cur.toList.take os.length = ints os), Own B w0 (bk_ pp #[.func (.func 118) #[] #[pt_ po, pt_ pa, pt_ pt, pt_ pb, pt_ pp]] 72 :: bk_ po #[sl_ g os.length cap] 24 :: bk_ g cur 3 :: bk_ pt #[.func (.func tf) #[] tcap] 85 :: bk_ pb #[i6_ b.n, str b.set, str b.rel] 28 :: bk_ pa #[i6_ a.n, str a.set, str a.rel] 28 :: (D t al)) w → Calls Tryd.prog 118 #[pt_ po, pt_ pa, pt_ pt, pt_ pb, pt_ pp] w fun en w' => ∃ (os' : List Int) (g' cap' : Nat) (cur' : Array Value) (al' : α), en = .returned (.bool (shS a b step m os t).2) ∧ okD (shS a b step m os t).1 al' ∧ ((shS a b step m os t).2 = true → os' = os) ∧ (cur'.size = cap' * 1 ∧ os'.length ≤ cap' ∧ cur'.toList.take os'.length = ints os') ∧ Own B w0 (bk_ pp #[.func (.func 118) #[] #[pt_ po, pt_ pa, pt_ pt, pt_ pb, pt_ pp]] 72 :: bk_ po #[sl_ g' os'.length cap'] 24 :: bk_ g' cur' 3 :: bk_ pt #[.func (.func tf) #[] tcap] 85 :: bk_ pb #[i6_ b.n, str b.set, str b.rel] 28 :: bk_ pa #[i6_ a.n, str a.set, str a.rel] 28 :: (D (shS a b step m os t).1 al')) w') (os : List Int) (t : τ) (al : α) (g cap : Nat) (cur : Array Value) (w : World) (hm : os.length + (m + 1) = a.n.toNat) (hA : a.Els os) (hsm : sameB a os b (upto os.length) = true) (hok : okD t al) (hcg : cur.size = cap * 1) (hlg : os.length ≤ cap) (htg : cur.toList.take os.length = ints os) (hw : Own B w0 (bk_ pp #[.func (.func 118) #[] #[pt_ po, pt_ pa, pt_ pt, pt_ pb, pt_ pp]] 72 :: bk_ po #[sl_ g os.length cap] 24 :: bk_ g cur 3 :: bk_ pt #[.func (.func tf) #[] tcap] 85 :: bk_ pb #[i6_ b.n, str b.set, str b.rel] 28 :: bk_ pa #[i6_ a.n, str a.set, str a.rel] 28 :: (D t al)) w) :
    Calls Tryd.prog 118 [pt_ po, pt_ pa, pt_ pt, pt_ pb, pt_ pp].toArray w fun en w' => ∃ (os' : List Int) (g' cap' : Nat) (cur' : Array Value) (al' : α), en = .returned (.bool (shS a b step (m + 1) os t).2) ∧ okD (shS a b step (m + 1) os t).1 al' ∧ ((shS a b step (m + 1) os t).2 = true → os' = os) ∧ (cur'.size = cap' * 1 ∧ os'.length ≤ cap' ∧ cur'.toList.take os'.length = ints os') ∧ Own B w0 (bk_ pp #[.func (.func 118) #[] #[pt_ po, pt_ pa, pt_ pt, pt_ pb, pt_ pp]] 72 :: bk_ po #[sl_ g' os'.length cap'] 24 :: bk_ g' cur' 3 :: bk_ pt #[.func (.func tf) #[] tcap] 85 :: bk_ pb #[i6_ b.n, str b.set, str b.rel] 28 :: bk_ pa #[i6_ a.n, str a.set, str a.rel] 28 :: (D (shS a b step (m + 1) os t).1 al')) w' := by
 refine fnStartC (Own B w0 (bk_ pp #[.func (.func 118) #[] #[pt_ po, pt_ pa, pt_ pt, pt_ pb, pt_ pp]] 72 :: bk_ po #[sl_ g os.length cap] 24 :: bk_ g cur 3 :: bk_ pt #[.func (.func tf) #[] tcap] 85 :: bk_ pb #[i6_ b.n, str b.set, str b.rel] 28 :: bk_ pa #[i6_ a.n, str a.set, str a.rel] 28 :: (D t al))) (n := 44) (e := [(0, pt_ po), (1, pt_ pa), (2, pt_ pt), (3, pt_ pb), (4, pt_ pp)]) Tryd.func118 rfl rfl rfl rfl Ends.both hw ?_
 have hm8 := ha.hi
 have hm1 := ha.lo
 refine Wk.seq ?_
 refine Wk.regionQ ?_
 refine Lq.run 1 rfl ?_
 refine Lq.nil ?_
 refine Kt.sel [0, 1, 2, 3, 4] [_, _, _, _, _] rfl ?_
 refine Wk.seq ?_
 refine Wk.regionQ ?_
 refine Lq.op rfl rfl rfl (OpQ.loadOwn 1 rfl Tryd.isAgg24 rfl rfl rfl) ?_
 refine Lq.op rfl rfl rfl (OpQ.lenS rfl Tryd.runUnderlying24 rfl) ?_
 refine Lq.run 1 rfl ?_
 refine Lq.nil ?_
 refine Kt.sel [0, 1, 2, 3, 4, 6] [_, _, _, _, _, _] rfl ?_
 refine Wk.seq ?_
 refine Wk.seq ?_
 refine Wk.regionQ ?_
 refine Lq.run 1 rfl ?_
 refine Lq.op rfl rfl rfl (OpQ.fieldAddr rfl Tryd.runUnderlying28 rfl Tryd.sizeOf3 rfl rfl) ?_
 refine Lq.op rfl rfl rfl (OpQ.loadOwn 5 rfl Tryd.isAgg3 rfl rfl rfl) ?_
 refine Lq.run 1 rfl ?_
 refine Lq.nil ?_
 refine Kt.sel [0, 1, 2, 3, 4, 6, 13] [_, _, _, _, _, _, _] rfl ?_
 refine Wk.cond (b := decide (((os.length : Int)) = a.n)) rfl (fun h13 => ?_) (fun h13 => ?_)
 ·
  replace h13 := of_decide_eq_true h13
  exact absurd h13 (by omega)
 ·
  replace h13 := of_decide_eq_false h13
  refine Wk.skip ?_
  refine Kt.sel [0, 1, 3, 4, 6] [_, _, _, _, _] rfl ?_
  refine Wk.seq ?_
  refine Wk.seq ?_
  refine Wk.regionQ ?_
  refine Lq.op rfl rfl rfl (OpQ.fieldAddr rfl Tryd.runUnderlying28 rfl Tryd.sizeOf3 rfl rfl) ?_
  refine Lq.op rfl rfl rfl (OpQ.loadOwn 5 rfl Tryd.isAgg3 rfl rfl rfl) ?_
  refine Lq.run 1 rfl ?_
  refine Lq.nil ?_
  refine Kt.sel [0, 1, 3, 4, 6, 18, 19] [_, _, _, _, _, _, _] rfl ?_
  refine Wk.block ?_
  refine Wk.loop (σ := Nat × Nat × Nat × Array Value × τ × α) (fun ⟨k, g1, cap1, cur1, t1, al1⟩ => (k : Int) ≤ a.n ∧ shLoop (shF a b (shS a b step m) os) k t = (t1, true) ∧ okD t1 al1 ∧ (cur1.size = cap1 * 1 ∧ os.length ≤ cap1 ∧ cur1.toList.take os.length = ints os)) (fun ⟨k, g1, cap1, cur1, t1, al1⟩ => [(0, pt_ po), (1, pt_ pa), (3, pt_ pb), (4, pt_ pp), (6, i6_ ((os.length : Int))), (18, i6_ a.n), (19, i6_ ((k : Int)))]) (fun ⟨k, g1, cap1, cur1, t1, al1⟩ => Own B w0 (bk_ pp #[.func (.func 118) #[] #[pt_ po, pt_ pa, pt_ pt, pt_ pb, pt_ pp]] 72 :: bk_ po #[sl_ g1 os.length cap1] 24 :: bk_ g1 cur1 3 :: bk_ pt #[.func (.func tf) #[] tcap] 85 :: bk_ pb #[i6_ b.n, str b.set, str b.rel] 28 :: bk_ pa #[i6_ a.n, str a.set, str a.rel] 28 :: ((D t1 al1)))) (fun ⟨k, g1, cap1, cur1, t1, al1⟩ => (a.n - k).toNat) ((0, g, cap, cur, t, al)) ⟨by omega, rfl, hok, ⟨hcg, hlg, htg⟩⟩ (Sub.sel [0, 1, 3, 4, 6, 18, 19] rfl) (fun _ h => h) ?_
  rintro ⟨k, g1, cap1, cur1, t1, al1⟩ ⟨hk, hlp, hok1, ⟨hcg1, hlg1, htg1⟩⟩
  dsimp only
  refine Wk.seq ?_
  refine Wk.regionQ ?_
  refine Lq.run 1 rfl ?_
  refine Lq.nil ?_
  refine Kt.sel [0, 1, 3, 4, 6, 18, 19, 20] [_, _, _, _, _, _, _, _] rfl ?_
  refine Wk.seq ?_
  refine Wk.cond (b := decide (((k : Int)) < a.n)) rfl (fun h20 => ?_) (fun h20 => ?_)
  ·
   replace h20 := of_decide_eq_true h20
   have hx : a.El (k : Int) := ⟨by omega, by omega⟩
   have hbi : b.El (os.length : Int) := ⟨by omega, by omega⟩
   refine Wk.skip ?_
   refine Kt.sel [0, 1, 3, 4, 6, 18, 19] [_, _, _, _, _, _, _] rfl ?_
   refine Wk.seq ?_
   refine Wk.block ?_
   refine Wk.seq ?_
   refine Wk.regionQ ?_
   refine Lq.run 2 rfl ?_
   refine Lq.nil ?_
   refine Kt.sel [0, 1, 3, 4, 6, 7, 18, 19] [_, _, _, _, _, _, _, _] rfl ?_
   refine Wk.seq ?_
   refine Wk.seq ?_
   refine Wk.regionQ ?_
   refine Lq.op rfl rfl rfl (OpQ.loadOwn 1 rfl Tryd.isAgg24 rfl rfl rfl) ?_
   refine Lq.run 1 rfl ?_
   refine Lq.op (v := bo_ (decide (((k : Int)) ∈ os))) rfl rfl rfl (OpQ.call rfl Tryd.call119 rfl Own.stable (fun w1 hw1 => contains_ok (sl_ g1 os.length cap1) os ((k : Int)) w1 (Own.row hw1 (i := 2) rfl htg1 (by simp) hlg1) (by omega))) ?_
   refine Lq.run 1 rfl ?_
   refine Lq.bool fun b25 hg25 => ?_
   cases b25
   ·
    replace hg25 := of_decide_eq_false hg25
    refine Lq.op rfl rfl rfl (OpQ.loadBox (cs := #[i6_ a.n, str a.set, str a.rel]) 5 rfl Tryd.isAgg28 rfl rfl Tryd.sizeOf28) ?_
    refine Lq.op rfl rfl rfl (OpQ.loadBox (cs := #[i6_ b.n, str b.set, str b.rel]) 4 rfl Tryd.isAgg28 rfl rfl Tryd.sizeOf28) ?_
    refine Lq.op rfl rfl rfl (OpQ.loadOwn 1 rfl Tryd.isAgg24 rfl rfl rfl) ?_
    refine Lq.run 1 rfl ?_
    refine Lq.op (v := bo_ (placedB a b os ((k : Int)))) rfl rfl rfl (OpQ.call rfl Tryd.call120 rfl Own.stable (fun w1 hw1 => placed_ok a b (sl_ g1 os.length cap1) os ((k : Int)) w1 ha hb (Own.row hw1 (i := 2) rfl htg1 (by simp) hlg1) (by omega) hA hx hbi)) ?_
    refine Lq.run 2 rfl ?_
    refine Lq.nil ?_
    refine Kt.sel [0, 1, 3, 4, 6, 7, 18, 19, 32] [_, _, _, _, _, _, _, _, _] rfl ?_
    refine Wk.cond (b := !(placedB a b os ((k : Int)))) rfl (fun h32 => ?_) (fun h32 => ?_)
    ·
     replace h32 := not_true h32
     have hno : ¬ stillB a os b (upto os.length) (k : Int) os.length = true := by
      rw [still_placed]; simp_all
     refine Wk.exit rfl ?_
     refine Kt.sel [0, 1, 3, 4, 6, 18, 19] [_, _, _, _, _, _, _] rfl ?_
     refine Wk.regionQ ?_
     refine Lq.op rfl rfl rfl (OpQ.add rfl rfl rfl (by omega) (by omega)) ?_
     refine Lq.run 1 rfl ?_
     refine Lq.nil ?_
     refine Kt.again ((k + 1, g1, cap1, cur1, t1, al1)) ⟨by omega, by rw [shLoop_step hlp, shF, if_neg hno], hok1, ⟨hcg1, hlg1, htg1⟩⟩ (by omega) (Sub.sel [0, 1, 3, 4, 6, 18, 19] rfl) (fun _ h => h)
    ·
     replace h32 := not_false h32
     have hst : stillB a os b (upto os.length) (k : Int) os.length = true := by
      rw [still_placed]; simp_all
     refine Wk.skip ?_
     refine Kt.sel [0, 1, 3, 4, 6, 7, 18, 19] [_, _, _, _, _, _, _, _] rfl ?_
     refine Wk.seq ?_
     refine Wk.region ?_
     refine Ll.op rfl rfl rfl (OpQ.loadOwn 1 rfl Tryd.isAgg24 rfl rfl rfl) ?_
     refine Ll.run 1 rfl ?_
     refine Ll.slice (xs := [.tmp 34]) (vs := [i6_ ((k : Int))]) Base.elem24 rfl rfl rfl rfl rfl rfl (by decide) rfl fun p35 hp35 => ?_
     refine Ll.appendInts (xs := os) (ys := [(k : Int)]) Base.elem24 3 rfl rfl rfl rfl rfl rfl rfl hcg1 hlg1 htg1 (fun w1 hw1 => (Own.row hw1 (i := 0) rfl (n := 1) (cap := 1) (vs := ints [(k : Int)]) rfl rfl (by decide))) ((os ++ ([(k : Int)])).length) (by first | (simp; done) | (simp; omega)) (by first | (simp; done) | (simp; omega) | omega) fun p36 cap36 cur36 hp36 hcp36 hlp36 htp36 => ?_
     show Ll _ _ (Own _ _ (_ :: _ :: _ :: _ :: _ :: _ :: _ :: ((D t1 al1)))) _ _ ((36, sl_ p36 (((os ++ ([(k : Int)])).length)) cap36) :: _) _ _ _
     refine Ll.store1 (v := sl_ p36 (((os ++ ([(k : Int)])).length)) cap36) (hs' := (_ :: _ :: bk_ po #[sl_ p36 (((os ++ ([(k : Int)])).length)) cap36] 24 :: _ :: _ :: _ :: _ :: ((D t1 al1)))) 2 rfl rfl rfl rfl rfl rfl Tryd.sizeOf24 rfl (by simp) rfl ?_
     refine Ll.nil ?_
     refine Kt.sel [0, 1, 3, 4, 6, 18, 19] [_, _, _, _, _, _, _] rfl ?_
     refine Wk.seq ?_
     refine Wk.seq ?_
     refine Wk.region ?_
     refine Ll.op rfl rfl rfl (OpQ.loadOwn 1 rfl Tryd.isAgg72 rfl rfl rfl) ?_
     refine Ll.callFnGet (σ := List Int × Nat × Nat × Array Value × α) (ok := fun (os', _, cap', cur', al') => okD (shS a b step m (os ++ [(k : Int)]) t1).1 al' ∧ ((shS a b step m (os ++ [(k : Int)]) t1).2 = true → os' = os ++ [(k : Int)]) ∧ (cur'.size = cap' * 1 ∧ os'.length ≤ cap' ∧ cur'.toList.take os'.length = ints os')) (v := fun _ => .bool (shS a b step m (os ++ [(k : Int)]) t1).2) (hs' := fun (os', g', cap', cur', al') => (bk_ pp #[.func (.func 118) #[] #[pt_ po, pt_ pa, pt_ pt, pt_ pb, pt_ pp]] 72 :: bk_ po #[sl_ g' os'.length cap'] 24 :: bk_ g' cur' 3 :: bk_ pt #[.func (.func tf) #[] tcap] 85 :: bk_ pb #[i6_ b.n, str b.set, str b.rel] 28 :: bk_ pa #[i6_ a.n, str a.set, str a.rel] 28 :: (D (shS a b step m (os ++ [(k : Int)]) t1).1 al'))) (xs := []) (vs := []) rfl rfl rfl rfl rfl Tryd.call118 rfl (fun w1 hw1 => (ih (os ++ [(k : Int)]) t1 al1 p36 cap36 cur36 w1 (by simp; omega) (els_more hA hx) (same_grown hsm hst) hok1 hcp36 hlp36 (by simpa using (by simpa using htp36)) (hw1.sub (List.Sublist.cons _ (List.Sublist.cons_cons _ (List.Sublist.cons_cons _ (List.Sublist.cons_cons _ (List.Sublist.cons_cons _ (List.Sublist.cons_cons _ (List.Sublist.cons_cons _ (List.Sublist.refl _)))))))))).mono fun en w' ⟨os', g', cap', cur', al', h1, h2, h3, h4, h5⟩ => ⟨(os', g', cap', cur', al'), h1, ⟨h2, h3, h4⟩, h5⟩) fun ⟨os38, g38, cap38, cur38, al38⟩ ⟨hok2, hos2, hcg2, hlg2, htg2⟩ => ?_
     show Ll _ _ (Own _ _ (_ :: _ :: _ :: _ :: _ :: _ :: ((D (shS a b step m (os ++ [(k : Int)]) t1).1 al38)))) _ _ ((38, bo_ ((shS a b step m (os ++ [(k : Int)]) t1).2)) :: _) _ _ _
     refine Ll.run 1 rfl ?_
     refine Ll.nil ?_
     refine Kt.sel [0, 1, 3, 4, 6, 18, 19, 39] [_, _, _, _, _, _, _, _] rfl ?_
     refine Wk.cond (b := !((shS a b step m (os ++ [(k : Int)]) t1).2)) rfl (fun h39 => ?_) (fun h39 => ?_)
     ·
      replace h39 := not_true h39
      refine Wk.seq ?_
      refine Wk.regionQ ?_
      refine Lq.run 1 rfl ?_
      refine Lq.nil ?_
      refine Kt.sel [5] [_] rfl ?_
      refine Wk.ret (Kt.end1 rfl rfl fun w' hw => ?_)
      -- ret 0: bo_ false
      have hfin : shS a b step (m + 1) os t = shS a b step m (os ++ [(k : Int)]) t1 := by
       show shLoop _ a.n.toNat t = _
       have h8 : shLoop (shF a b (shS a b step m) os) (k + 1) t = shS a b step m (os ++ [(k : Int)]) t1 := by rw [shLoop_step hlp, shF, if_pos hst]
       rw [shLoop_stop (k := k + 1) (by rw [h8]; assumption) _ (by omega), h8]
      refine ⟨os38, g38, cap38, cur38, al38, ?_, ?_, ?_, ⟨hcg2, hlg2, htg2⟩, ?_⟩
      · rw [hfin]; congr 2; exact (by assumption : _ = false).symm
      · rw [hfin]; exact hok2
      · rw [hfin]; intro h; simp_all
      · rw [hfin]; exact hw
     ·
      replace h39 := not_false h39
      have hose := hos2 (by first | assumption | (simp_all; done))
      have hosl : os38.length = os.length + 1 := by rw [hose]; simp
      refine Wk.skip ?_
      refine Kt.sel [0, 1, 3, 4, 6, 18, 19] [_, _, _, _, _, _, _] rfl ?_
      refine Wk.region ?_
      refine Ll.op rfl rfl rfl (OpQ.loadOwn 1 rfl Tryd.isAgg24 rfl rfl rfl) ?_
      refine Ll.run 1 rfl ?_
      refine Ll.op (v := sl_ g38 (((os.length : Int)).toNat) cap38) rfl rfl rfl (OpQ.takeS (i := (os.length : Int)) rfl Tryd.runUnderlying24 Tryd.sizeOf3 rfl rfl (by omega) (by omega)) ?_
      refine Ll.store1 (v := sl_ g38 (((os.length : Int)).toNat) cap38) (hs' := (_ :: bk_ po #[sl_ g38 (((os.length : Int)).toNat) cap38] 24 :: _ :: _ :: _ :: _ :: ((D (shS a b step m (os ++ [(k : Int)]) t1).1 al38)))) 1 rfl rfl rfl rfl rfl rfl Tryd.sizeOf24 rfl (by simp) rfl ?_
      refine Ll.nil ?_
      refine Kt.sel [0, 1, 3, 4, 6, 18, 19] [_, _, _, _, _, _, _] rfl ?_
      refine Wk.regionQ ?_
      refine Lq.op rfl rfl rfl (OpQ.add rfl rfl rfl (by omega) (by omega)) ?_
      refine Lq.run 1 rfl ?_
      refine Lq.nil ?_
      refine Kt.again ((k + 1, g38, cap38, cur38, (shS a b step m (os ++ [(k : Int)]) t1).1, al38)) ⟨by omega, by rw [shLoop_step hlp, shF, if_pos hst]; exact Prod.ext rfl (by assumption), hok2, ⟨by simpa using hcg2, by have := hlg2; rw [hose] at this; simp at this; dsimp only; omega, by dsimp only; have h9 := congrArg (List.take os.length) htg2; rw [hose, List.take_take, List.length_append, Nat.min_eq_left (by omega)] at h9; rw [h9]; simp [ints]⟩⟩ (by omega) (Sub.sel [0, 1, 3, 4, 6, 18, 19] rfl) (fun _ h => by simpa using h)
   ·
    replace hg25 := of_decide_eq_true hg25
    have hno : ¬ stillB a os b (upto os.length) (k : Int) os.length = true := by
     rw [still_placed]; simp_all
    refine Lq.pass rfl rfl rfl ?_
    refine Lq.pass rfl rfl rfl ?_
    refine Lq.pass rfl rfl rfl ?_
    refine Lq.pass rfl rfl rfl ?_
    refine Lq.pass rfl rfl rfl ?_
    refine Lq.pass rfl rfl rfl ?_
    refine Lq.run 1 rfl ?_
    refine Lq.nil ?_
    refine Kt.sel [0, 1, 3, 4, 6, 7, 18, 19, 32] [_, _, _, _, _, _, _, _, _] rfl ?_
    refine Wk.condT rfl ?_
    refine Wk.exit rfl ?_
    refine Kt.sel [0, 1, 3, 4, 6, 18, 19] [_, _, _, _, _, _, _] rfl ?_
    refine Wk.regionQ ?_
    refine Lq.op rfl rfl rfl (OpQ.add rfl rfl rfl (by omega) (by omega)) ?_
    refine Lq.run 1 rfl ?_
    refine Lq.nil ?_
    refine Kt.again ((k + 1, g1, cap1, cur1, t1, al1)) ⟨by omega, by rw [shLoop_step hlp, shF, if_neg hno], hok1, ⟨hcg1, hlg1, htg1⟩⟩ (by omega) (Sub.sel [0, 1, 3, 4, 6, 18, 19] rfl) (fun _ h => h)
  ·
   replace h20 := of_decide_eq_false h20
   refine Wk.exit rfl ?_
   refine Kt.sel [] [] rfl ?_
   refine Wk.seq ?_
   refine Wk.regionQ ?_
   refine Lq.run 1 rfl ?_
   refine Lq.nil ?_
   refine Kt.sel [5] [_] rfl ?_
   refine Wk.ret (Kt.end1 rfl rfl fun w' hw => ?_)
   -- ret 1: bo_ true
   have hfin : shS a b step (m + 1) os t = (t1, true) := by
    show shLoop _ a.n.toNat t = _
    rw [show a.n.toNat = k from by omega]; exact hlp
   exact ⟨os, g1, cap1, cur1, al1, by rw [hfin], by rw [hfin]; exact hok1, fun _ => rfl, ⟨hcg1, hlg1, htg1⟩, by rw [hfin]; exact hw⟩

theorem place_ok (a b : St) {τ α : Type} (D : τ → α → List (Nat × Obj)) (okD : τ → α → Prop) (step : List Int → τ → τ × Bool) (tf : FuncId) (tcap : Array Value) (B : Nat) (w0 : World) (hcf : ∀ args w, (callFunc tf args).run Tryd.prog w = .ok (.enter tf args) w) (hT : Tells Tryd.prog tf tcap a b B w0 D okD step) (ha : a.Fine) (hb : b.Fine) (hn : a.n = b.n) (pp po pt pb pa : Nat) : ∀ m : Nat, ∀ (os : List Int) (t : τ) (al : α) (g cap : Nat) (cur : Array Value) (w : World) (_ : os.length + m = a.n.toNat) (_ : a.Els os) (_ : sameB a os b (upto os.length) = true) (_ : okD t al) (_ : cur.size = cap * 1) (_ : os.length ≤ cap) (_ : cur.toList.take os.length = ints os), Own B w0 (bk_ pp #[.func (.func 118) #[] #[pt_ po, pt_ pa, pt_ pt, pt_ pb, pt_ pp]] 72 :: bk_ po #[sl_ g os.length cap] 24 :: bk_ g cur 3 :: bk_ pt #[.func (.func tf) #[] tcap] 85 :: bk_ pb #[i6_ b.n, str b.set, str b.rel] 28 :: bk_ pa #[i6_ a.n, str a.set, str a.rel] 28 :: (D t al)) w → Calls Tryd.prog 118 #[pt_ po, pt_ pa, pt_ pt, pt_ pb, pt_ pp] w fun en w' => ∃ (os' : List Int) (g' cap' : Nat) (cur' : Array Value) (al' : α), en = .returned (.bool (shS a b step m os t).2) ∧ okD (shS a b step m os t).1 al' ∧ ((shS a b step m os t).2 = true → os' = os) ∧ (cur'.size = cap' * 1 ∧ os'.length ≤ cap' ∧ cur'.toList.take os'.length = ints os') ∧ Own B w0 (bk_ pp #[.func (.func 118) #[] #[pt_ po, pt_ pa, pt_ pt, pt_ pb, pt_ pp]] 72 :: bk_ po #[sl_ g' os'.length cap'] 24 :: bk_ g' cur' 3 :: bk_ pt #[.func (.func tf) #[] tcap] 85 :: bk_ pb #[i6_ b.n, str b.set, str b.rel] 28 :: bk_ pa #[i6_ a.n, str a.set, str a.rel] 28 :: (D (shS a b step m os t).1 al')) w'
  | 0, os, t, al, g, cap, cur, w, h1, h2, h3, h4, h5, h6, h7, hw => place_zero a b D okD step tf tcap B w0 hcf hT ha hb hn pp po pt pb pa os t al g cap cur w h1 h2 h3 h4 h5 h6 h7 hw
  | m + 1, os, t, al, g, cap, cur, w, h1, h2, h3, h4, h5, h6, h7, hw => place_of a b D okD step tf tcap B w0 hcf hT ha hb hn pp po pt pb pa m (place_ok a b D okD step tf tcap B w0 hcf hT ha hb hn pp po pt pb pa m) os t al g cap cur w h1 h2 h3 h4 h5 h6 h7 hw

set_option maxHeartbeats 400000 in
/-- impl.eachShape -/
theorem eachShape_ok (a b : St) {τ α : Type} (D : τ → α → List (Nat × Obj)) (okD : τ → α → Prop) (step : List Int → τ → τ × Bool) (tf : FuncId) (tcap : Array Value) (B : Nat) (w0 : World) (hcf : ∀ args w, (callFunc tf args).run Tryd.prog w = .ok (.enter tf args) w) (hT : Tells Tryd.prog tf tcap a b B w0 D okD step) (ha : a.Fine) (hb : b.Fine) (hn : a.n = b.n) (t : τ) (al : α) (w : World) (hok : okD t al) (hw : Own B w0 (D t al) w) :
    Calls Tryd.prog 77 [vS a, vS b, .func (.func tf) #[] tcap].toArray w fun en w' => ∃ al' : α, en = .returned (.tuple #[]) ∧ okD (shS a b step a.n.toNat [] t).1 al' ∧ Own B w0 (D (shS a b step a.n.toNat [] t).1 al') w' := by
 refine fnStartC (Own B w0 (D t al)) (n := 12) (e := [(0, vS a), (1, vS b), (2, .func (.func tf) #[] tcap)]) Tryd.func77 rfl rfl rfl rfl Ends.both hw ?_
 refine Wk.seq ?_
 refine Wk.region ?_
 refine Ll.box (v := vS a) rfl rfl rfl rfl rfl fun p3 hp3 => ?_
 show Ll _ _ (Own _ _ (_ :: ((D t al)))) _ _ ((3, pt_ p3) :: _) _ _ _
 refine Ll.box (v := vS b) rfl rfl rfl rfl rfl fun p4 hp4 => ?_
 show Ll _ _ (Own _ _ (_ :: _ :: ((D t al)))) _ _ ((4, pt_ p4) :: _) _ _ _
 refine Ll.box (v := .func (.func tf) #[] tcap) rfl rfl rfl rfl rfl fun p5 hp5 => ?_
 show Ll _ _ (Own _ _ (_ :: _ :: _ :: ((D t al)))) _ _ ((5, pt_ p5) :: _) _ _ _
 refine Ll.nil ?_
 refine Kt.sel [3, 4, 5] [_, _, _] rfl ?_
 refine Wk.seq ?_
 refine Wk.region ?_
 refine Ll.slice (xs := []) (vs := []) Base.elem24 rfl rfl rfl rfl rfl rfl (by decide) rfl fun p8 hp8 => ?_
 refine Ll.alloc rfl rfl rfl rfl Tryd.zeroValue24 fun p6 hp6 => ?_
 show Ll _ _ (Own _ _ (bk_ p6 #[.slice none 0 0] 24 :: _ :: _ :: _ :: _ :: ((D t al)))) _ _ ((6, pt_ p6) :: _) _ _ _
 refine Ll.store1 (v := sl_ p8 0 0) (hs' := (bk_ p6 #[sl_ p8 0 0] 24 :: _ :: _ :: _ :: _ :: ((D t al)))) 0 rfl rfl rfl rfl rfl rfl Tryd.sizeOf24 rfl (by simp) rfl ?_
 refine Ll.nil ?_
 refine Kt.sel [3, 4, 5, 6] [_, _, _, _] rfl ?_
 refine Wk.seq ?_
 refine Wk.region ?_
 refine Ll.alloc rfl rfl rfl rfl Tryd.zeroValue72 fun p7 hp7 => ?_
 show Ll _ _ (Own _ _ (bk_ p7 #[.nilFunc] 72 :: _ :: _ :: _ :: _ :: _ :: ((D t al)))) _ _ ((7, pt_ p7) :: _) _ _ _
 refine Ll.nil ?_
 refine Kt.sel [3, 4, 5, 6, 7] [_, _, _, _, _] rfl ?_
 refine Wk.seq ?_
 refine Wk.region ?_
 refine Ll.op (v := .func (.func 118) #[] #[pt_ p6, pt_ p3, pt_ p5, pt_ p4, pt_ p7]) rfl rfl rfl (OpQ.func' (cap := [.tmp 6, .tmp 3, .tmp 5, .tmp 4, .tmp 7]) rfl rfl) ?_
 refine Ll.store1 (v := .func (.func 118) #[] #[pt_ p6, pt_ p3, pt_ p5, pt_ p4, pt_ p7]) (hs' := (bk_ p7 #[.func (.func 118) #[] #[pt_ p6, pt_ p3, pt_ p5, pt_ p4, pt_ p7]] 72 :: _ :: _ :: _ :: _ :: _ :: ((D t al)))) 0 rfl rfl rfl rfl rfl rfl Tryd.sizeOf72 rfl (by simp) rfl ?_
 refine Ll.nil ?_
 refine Kt.sel [7] [_] rfl ?_
 refine Wk.region ?_
 refine Ll.op rfl rfl rfl (OpQ.loadOwn 0 rfl Tryd.isAgg72 rfl rfl rfl) ?_
 refine Ll.callFnGet (σ := List Int × Nat × Nat × Array Value × α) (ok := fun (os', _, cap', cur', al') => okD (shS a b step a.n.toNat [] t).1 al') (v := fun _ => .bool (shS a b step a.n.toNat [] t).2) (hs' := fun (os', g', cap', cur', al') => (bk_ p7 #[.func (.func 118) #[] #[pt_ p6, pt_ p3, pt_ p5, pt_ p4, pt_ p7]] 72 :: bk_ p6 #[sl_ g' os'.length cap'] 24 :: bk_ g' cur' 3 :: bk_ p5 #[.func (.func tf) #[] tcap] 85 :: bk_ p4 #[i6_ b.n, str b.set, str b.rel] 28 :: bk_ p3 #[i6_ a.n, str a.set, str a.rel] 28 :: (D (shS a b step a.n.toNat [] t).1 al'))) (xs := []) (vs := []) rfl rfl rfl rfl rfl Tryd.call118 rfl (fun w1 hw1 => (place_ok a b D okD step tf tcap B w0 hcf hT ha hb hn p7 p6 p5 p4 p3 a.n.toNat [] t al p8 0 #[] w1 (by simp) (fun x hx => by cases hx) rfl hok rfl (Nat.le_refl 0) rfl hw1).mono fun en w' ⟨os', g', cap', cur', al', h1, h2, h3, h4, h5⟩ => ⟨(os', g', cap', cur', al'), h1, h2, h5⟩) fun ⟨os9, g9, cap9, cur9, al11⟩ hok9 => ?_
 show Ll _ _ (Own _ _ (_ :: _ :: _ :: _ :: _ :: _ :: ((D (shS a b step a.n.toNat [] t).1 al11)))) _ _ ((11, bo_ ((shS a b step a.n.toNat [] t).2)) :: _) _ _ _
 refine Ll.nil ?_
 refine (Kt.end0 rfl fun w' hw => ?_)
 exact ⟨al11, rfl, hok9, Own.drop (f := [_, _, _, _, _, _]) hw⟩

set_option maxHeartbeats 400000 in
/-- impl.SameShape$1 -/
theorem keepFirst_ok (B : Nat) (w0 : World) (pf : Nat) (fv : Value) (fr : List (Nat × Obj)) (v : Value) (os : List Int) (w : World) (hva : ∀ w, Own B w0 ((pf, .cells #[fv] 24 (0, 0)) :: fr) w → Ints w v os) (hs : os.length ≤ 8) (hw : Own B w0 ((pf, .cells #[fv] 24 (0, 0)) :: fr) w) :
    Calls Tryd.prog 78 [v, pt_ pf].toArray w fun en w' => ∃ g c : Nat, en = .returned (.bool false) ∧ Own B w0 ((pf, .cells #[.slice (some ⟨g, 0, none⟩) os.length c] 24 (0, 0)) :: fr) w' := by
 refine fnStartC (Own B w0 ((pf, .cells #[fv] 24 (0, 0)) :: fr)) (n := 7) (e := [(0, v), (1, pt_ pf)]) Tryd.func78 rfl rfl rfl rfl Ends.both hw ?_
 refine Wk.seq ?_
 refine Wk.regionQ ?_
 refine Lq.run 1 rfl ?_
 refine Lq.nil ?_
 refine Kt.sel [0, 1] [_, _] rfl ?_
 refine Wk.seq ?_
 refine Wk.region ?_
 refine Ll.slice (xs := []) (vs := []) Base.elem24 rfl rfl rfl rfl rfl rfl (by decide) rfl fun p4 hp4 => ?_
 refine Ll.run 1 rfl ?_
 refine Ll.appendInts (xs := []) (ys := os) Base.elem24 0 rfl rfl rfl rfl rfl rfl rfl rfl (by decide) rfl (fun w1 hw1 => (hva _ (Own.drop (f := [_]) hw1))) ((os).length) (by first | (simp; done) | (simp; omega)) (by first | (simp; done) | (simp; omega) | omega) fun p6 cap6 cur6 hp6 hcp6 hlp6 htp6 => ?_
 show Ll _ _ (Own _ _ (_ :: _ :: fr)) _ _ ((6, sl_ p6 (((os).length)) cap6) :: _) _ _ _
 refine Ll.store1 (v := sl_ p6 (((os).length)) cap6) (hs' := (_ :: bk_ pf #[sl_ p6 (((os).length)) cap6] 24 :: fr)) 1 rfl rfl rfl rfl rfl rfl Tryd.sizeOf24 rfl (by simp) rfl ?_
 refine Ll.nil ?_
 refine Kt.sel [] [] rfl ?_
 refine Wk.seq ?_
 refine Wk.regionQ ?_
 refine Lq.run 1 rfl ?_
 refine Lq.nil ?_
 refine Kt.sel [3] [_] rfl ?_
 refine Wk.ret (Kt.end1 rfl rfl fun w' hw => ?_)
 -- ret 0: bo_ false
 exact ⟨p6, cap6, rfl, hw.sub (List.Sublist.cons _ (List.Sublist.cons_cons _ (List.Sublist.refl _)))⟩

theorem keepTells (a b : St) (B : Nat) (w0 : World) (pf : Nat) (rest : List (Nat × Obj)) (hn : a.n ≤ 8) : Tells Tryd.prog 78 #[.pointer (some ⟨pf, 0, none⟩)] a b B w0 (fun (o : Option (List Int)) (al : Nat × Nat) => (pf, .cells #[fndV o al] 24 (0, 0)) :: rest) (fun _ _ => True) keepStep := by
  intro fr v os t al w _ hv hl _ _ hw
  refine (keepFirst_ok B w0 pf (fndV t al) (fr ++ rest) v os w (fun w h => hv w (Own.dropR (Own.drop (f := [_]) h))) (by omega) (hw.perm List.perm_middle)).mono fun en w' ⟨g, c, h1, h2⟩ => ?_
  exact ⟨(g, c), h1, trivial, h2.perm List.perm_middle.symm⟩

set_option maxHeartbeats 400000 in
/-- impl.SameShape -/
theorem iShape_ok (a b : St) (w : World) (hsa : a.Small) (hsb : b.Small) :
    Calls Tryd.prog 36 [vS a, vS b].toArray w fun en w' => ∃ (v : Value) (y : Bool), en = .returned (.tuple #[v, .bool y]) ∧ (y = true → Shaped a b) ∧ Below w.heap.size w w' := by
 refine fnStart (n := 29) (e := [(0, vS a), (1, vS b)]) Tryd.func36 rfl rfl rfl rfl Ends.both ?_
 refine Wk.seq ?_
 refine Wk.region ?_
 refine Ll.box (v := vS a) rfl rfl rfl rfl rfl fun p2 hp2 => ?_
 show Ll _ _ (Own _ _ [_]) _ _ ((2, pt_ p2) :: _) _ _ _
 refine Ll.box (v := vS b) rfl rfl rfl rfl rfl fun p3 hp3 => ?_
 show Ll _ _ (Own _ _ [_, _]) _ _ ((3, pt_ p3) :: _) _ _ _
 refine Ll.run 2 rfl ?_
 refine Ll.nil ?_
 refine Kt.sel [2, 3] [_, _] rfl ?_
 refine Wk.seq ?_
 refine Wk.seq ?_
 refine Wk.regionQ ?_
 refine Lq.op rfl rfl rfl (OpQ.loadBox (cs := #[i6_ a.n, str a.set, str a.rel]) 1 rfl Tryd.isAgg28 rfl rfl Tryd.sizeOf28) ?_
 refine Lq.op (v := bo_ (validB a)) rfl rfl rfl (OpQ.call rfl Tryd.call53 rfl Own.stable (fun w1 hw1 => isStructure_ok a w1 hsa)) ?_
 refine Lq.run 2 rfl ?_
 refine Lq.bool fun b10 hg10 => ?_
 cases b10
 ·
  replace hg10 := not_false hg10
  refine Lq.op rfl rfl rfl (OpQ.loadBox (cs := #[i6_ b.n, str b.set, str b.rel]) 0 rfl Tryd.isAgg28 rfl rfl Tryd.sizeOf28) ?_
  refine Lq.op (v := bo_ (validB b)) rfl rfl rfl (OpQ.call rfl Tryd.call53 rfl Own.stable (fun w1 hw1 => isStructure_ok b w1 hsb)) ?_
  refine Lq.run 3 rfl ?_
  refine Lq.bool fun b15 hg15 => ?_
  cases b15
  ·
   replace hg15 := not_false hg15
   refine Lq.op rfl rfl rfl (OpQ.fieldAddr rfl Tryd.runUnderlying28 rfl Tryd.sizeOf3 rfl rfl) ?_
   refine Lq.op rfl rfl rfl (OpQ.loadOwn 1 rfl Tryd.isAgg3 rfl rfl rfl) ?_
   refine Lq.op rfl rfl rfl (OpQ.fieldAddr rfl Tryd.runUnderlying28 rfl Tryd.sizeOf3 rfl rfl) ?_
   refine Lq.op rfl rfl rfl (OpQ.loadOwn 0 rfl Tryd.isAgg3 rfl rfl rfl) ?_
   refine Lq.run 2 rfl ?_
   refine Lq.nil ?_
   refine Kt.sel [2, 3, 21] [_, _, _] rfl ?_
   refine Wk.cond (b := !(decide (a.n = b.n))) rfl (fun h21 => ?_) (fun h21 => ?_)
   ·
    replace h21 := not_true h21
    replace h21 := of_decide_eq_false h21
    refine Wk.seq ?_
    refine Wk.regionQ ?_
    refine Lq.run 2 rfl ?_
    refine Lq.nil ?_
    refine Kt.sel [4, 5] [_, _] rfl ?_
    refine Wk.ret (Kt.end2 rfl rfl rfl fun w' hw => ?_)
    -- ret 0: .slice none 0 0; bo_ false
    exact ⟨_, false, rfl, (fun (h : false = true) => nomatch h), hw.below⟩
   ·
    replace h21 := not_false h21
    replace h21 := of_decide_eq_true h21
    have hva : validB a = true := by simp_all
    have hvb : validB b = true := by simp_all
    have ha := validB_fine hva
    have hb := validB_fine hvb
    have hn : a.n = b.n := by omega
    refine Wk.skip ?_
    refine Kt.sel [2, 3] [_, _] rfl ?_
    refine Wk.seq ?_
    refine Wk.region ?_
    refine Ll.alloc rfl rfl rfl rfl Tryd.zeroValue24 fun p6 hp6 => ?_
    show Ll _ _ (Own _ _ [bk_ p6 #[.slice none 0 0] 24, _, _]) _ _ ((6, pt_ p6) :: _) _ _ _
    refine Ll.nil ?_
    refine Kt.sel [2, 3, 6] [_, _, _] rfl ?_
    refine Wk.seq ?_
    refine Wk.region ?_
    refine Ll.op rfl rfl rfl (OpQ.loadBox (cs := #[i6_ a.n, str a.set, str a.rel]) 2 rfl Tryd.isAgg28 rfl rfl Tryd.sizeOf28) ?_
    refine Ll.op rfl rfl rfl (OpQ.loadBox (cs := #[i6_ b.n, str b.set, str b.rel]) 1 rfl Tryd.isAgg28 rfl rfl Tryd.sizeOf28) ?_
    refine Ll.op (v := .func (.func 78) #[] #[pt_ p6]) rfl rfl rfl (OpQ.func' (cap := [.tmp 6]) rfl rfl) ?_
    refine Ll.callGet (σ := Nat × Nat) (ok := fun _ => True) (v := fun _ => .tuple #[]) (hs' := fun al => (p6, .cells #[fndV (shS a b keepStep a.n.toNat [] none).1 al] 24 (0, 0)) :: ([bk_ p3 #[i6_ b.n, str b.set, str b.rel] 28, bk_ p2 #[i6_ a.n, str a.set, str a.rel] 28] : List (Nat × Obj))) (xs := [.tmp 22, .tmp 23, .tmp 24]) (vs := [vS a, vS b, .func (.func 78) #[] #[pt_ p6]]) rfl rfl rfl rfl Tryd.call77 rfl (fun w1 hw1 => (eachShape_ok a b (fun (o : Option (List Int)) (al : Nat × Nat) => (p6, .cells #[fndV o al] 24 (0, 0)) :: ([bk_ p3 #[i6_ b.n, str b.set, str b.rel] 28, bk_ p2 #[i6_ a.n, str a.set, str a.rel] 28] : List (Nat × Obj))) (fun _ _ => True) keepStep 78 #[.pointer (some ⟨p6, 0, none⟩)] _ _ Tryd.call78 (keepTells a b _ _ p6 ([bk_ p3 #[i6_ b.n, str b.set, str b.rel] 28, bk_ p2 #[i6_ a.n, str a.set, str a.rel] 28] : List (Nat × Obj)) ha.hi) ha hb hn none (0, 0) w1 trivial hw1).mono fun en w' ⟨al, h1, _, h2⟩ => ⟨al, h1, trivial, h2⟩) fun al _ => ?_
    show Ll _ _ (Own _ _ [_, _, _]) _ _ _ _ _ _
    refine Ll.nil ?_
    refine Kt.sel [6] [_] rfl ?_
    refine Wk.seq ?_
    refine Wk.regionD Base.mixed (fun _ h => h.drawn) (by kernel_rfl) ?_
    refine Lq.op rfl rfl rfl (OpQ.loadOwn 0 rfl Tryd.isAgg24 rfl rfl rfl) ?_
    refine Lq.op rfl rfl rfl (OpQ.loadOwn 0 rfl Tryd.isAgg24 rfl rfl rfl) ?_
    refine Lq.op (v := bo_ (!((shS a b keepStep a.n.toNat [] none).1.map fun _ => (⟨al.1, 0, none⟩ : Addr)).isNone)) rfl rfl rfl (OpQ.neNilS rfl Tryd.underlying24 rfl rfl) ?_
    refine Lq.run 2 rfl ?_
    refine Lq.nil ?_
    refine Kt.sel [4, 5] [_, _] rfl ?_
    refine Wk.ret (Kt.end2 rfl rfl rfl fun w' hw => ?_)
    -- ret 1: fndV (shS a b keepStep a.n.toNat [] none).1 al; bo_ (!((shS a b keepStep a.n.toNat [] none).1.map fun _ => (⟨al.1, 0, none⟩ : Addr)).isNone)
    exact ⟨_, (!((shS a b keepStep a.n.toNat [] none).1.map fun _ => (⟨al.1, 0, none⟩ : Addr)).isNone), rfl, fun h => keep_shaped ha hb h hn, hw.below⟩
  ·
   replace hg15 := not_true hg15
   refine Lq.pass rfl rfl rfl ?_
   refine Lq.pass rfl rfl rfl ?_
   refine Lq.pass rfl rfl rfl ?_
   refine Lq.pass rfl rfl rfl ?_
   refine Lq.pass rfl rfl rfl ?_
   refine Lq.run 1 rfl ?_
   refine Lq.nil ?_
   refine Kt.sel [2, 3, 21] [_, _, _] rfl ?_
   refine Wk.condT rfl ?_
   refine Wk.seq ?_
   refine Wk.regionQ ?_
   refine Lq.run 2 rfl ?_
   refine Lq.nil ?_
   refine Kt.sel [4, 5] [_, _] rfl ?_
   refine Wk.ret (Kt.end2 rfl rfl rfl fun w' hw => ?_)
   -- ret 2: .slice none 0 0; bo_ false
   exact ⟨_, false, rfl, (fun (h : false = true) => nomatch h), hw.below⟩
 ·
  replace hg10 := not_true hg10
  refine Lq.pass rfl rfl rfl ?_
  refine Lq.pass rfl rfl rfl ?_
  refine Lq.pass rfl rfl rfl ?_
  refine Lq.run 2 rfl ?_
  refine Lq.pass rfl rfl rfl ?_
  refine Lq.pass rfl rfl rfl ?_
  refine Lq.pass rfl rfl rfl ?_
  refine Lq.pass rfl rfl rfl ?_
  refine Lq.pass rfl rfl rfl ?_
  refine Lq.run 1 rfl ?_
  refine Lq.nil ?_
  refine Kt.sel [2, 3, 21] [_, _, _] rfl ?_
  refine Wk.condT rfl ?_
  refine Wk.seq ?_
  refine Wk.regionQ ?_
  refine Lq.run 2 rfl ?_
  refine Lq.nil ?_
  refine Kt.sel [4, 5] [_, _] rfl ?_
  refine Wk.ret (Kt.end2 rfl rfl rfl fun w' hw => ?_)
  -- ret 3: .slice none 0 0; bo_ false
  exact ⟨_, false, rfl, (fun (h : false = true) => nomatch h), hw.below⟩

end Go.Proofs.YtjcoijejhachhaaDoor
