/-
  Walks: structures, lists, ways; those that draws ask for.
-/
import Derived.Test.YtjcoijejhachhaaDoorCore1
import Derived.Test.YtjcoijejhachhaaDoorCore2
import Derived.Test.YtjcoijejhachhaaDoorBase
namespace Go.Proofs.YtjcoijejhachhaaDoor
open Go.RowKit Go.Wk
set_option linter.unusedSimpArgs false

set_option maxHeartbeats 400000 in
/-- spec.l1In -/
theorem l1In_ok (n lo hi : Int) (w : World) :
    Calls Tryd.prog 42 [i6_ n, i6_ lo, i6_ hi].toArray w fun en w' => en = .returned (.bool (inB n lo hi)) ∧ Below w.heap.size w w' := by
 refine fnStart (n := 15) (e := [(0, i6_ n), (1, i6_ lo), (2, i6_ hi)]) Tryd.func42 rfl rfl rfl rfl Ends.both ?_
 refine Wk.seq ?_
 refine Wk.regionQ ?_
 refine Lq.run 1 rfl ?_
 refine Lq.nil ?_
 refine Kt.sel [0, 1, 2] [_, _, _] rfl ?_
 refine Wk.seq ?_
 refine Wk.regionQ ?_
 refine Lq.run 4 rfl ?_
 refine Lq.bool fun b10 hg10 => ?_
 cases b10
 ·
  replace hg10 := of_decide_eq_false hg10
  refine Lq.pass rfl rfl rfl ?_
  refine Lq.pass rfl rfl rfl ?_
  refine Lq.pass rfl rfl rfl ?_
  refine Lq.run 2 rfl ?_
  refine Lq.nil ?_
  refine Kt.sel [6] [_] rfl ?_
  refine Wk.ret (Kt.end1 rfl rfl fun w' hw => ?_)
  -- ret 0: bo_ false
  exact ⟨ret_b (by first | rfl | (simp_all [inB]; done) | (simp_all [inB]; omega)), hw.below⟩
 ·
  replace hg10 := of_decide_eq_true hg10
  refine Lq.run 5 rfl ?_
  refine Lq.nil ?_
  refine Kt.sel [6] [_] rfl ?_
  refine Wk.ret (Kt.end1 rfl rfl fun w' hw => ?_)
  -- ret 1: bo_ (decide (n ≤ hi))
  exact ⟨ret_b (by first | rfl | (simp_all [inB]; done) | (simp_all [inB]; omega)), hw.below⟩

set_option maxHeartbeats 400000 in
/-- spec.l1Bits -/
theorem l1Bits_ok (s : List UInt8) (n : Int) (w : World) (hs : s.length ≤ 1048576) :
    Calls Tryd.prog 105 [str s, i6_ n].toArray w fun en w' => en = .returned (.bool (bitsB s n)) ∧ Below w.heap.size w w' := by
 refine fnStart (n := 26) (e := [(0, str s), (1, i6_ n)]) Tryd.func105 rfl rfl rfl rfl Ends.both ?_
 refine Wk.seq ?_
 refine Wk.regionQ ?_
 refine Lq.run 1 rfl ?_
 refine Lq.nil ?_
 refine Kt.sel [0, 1] [_, _] rfl ?_
 refine Wk.seq ?_
 refine Wk.seq ?_
 refine Wk.regionQ ?_
 refine Lq.run 1 rfl ?_
 refine Lq.nil ?_
 refine Kt.sel [0, 1, 5] [_, _, _] rfl ?_
 refine Wk.block ?_
 refine Wk.loop (σ := Nat) (fun k => k ≤ s.length ∧ (s.take k).all isBit = true) (fun k => [(0, str s), (1, i6_ n), (5, i6_ ((k : Int)))]) (fun k => Own w.heap.size w []) (fun k => s.length - k) (0) ⟨by omega, rfl⟩ (Sub.sel [0, 1, 5] rfl) (fun _ h => h) ?_
 rintro k ⟨hk, hall⟩
 refine Wk.seq ?_
 refine Wk.seq ?_
 refine Wk.regionQ ?_
 refine Lq.run 2 rfl ?_
 refine Lq.op (v := i6_ ((s.length : Int))) rfl rfl rfl (OpQ.lenStr rfl Tryd.runUnderlying9 rfl) ?_
 refine Lq.run 1 rfl ?_
 refine Lq.nil ?_
 refine Kt.sel [0, 1, 5, 9] [_, _, _, _] rfl ?_
 refine Wk.cond (b := decide (((k : Int)) < ((s.length : Int)))) rfl (fun h9 => ?_) (fun h9 => ?_)
 ·
  replace h9 := of_decide_eq_true h9
  refine Wk.skip ?_
  refine Kt.sel [0, 1, 5] [_, _, _] rfl ?_
  refine Wk.seq ?_
  refine Wk.block ?_
  refine Wk.seq ?_
  refine Wk.regionQ ?_
  refine Lq.run 2 rfl ?_
  refine Lq.op (v := .int .u8 (((s.getD (((k : Int)).toNat) 0).toNat : Int))) rfl rfl rfl (OpQ.indexStr rfl Tryd.runUnderlying9 rfl rfl (by omega) (by omega)) ?_
  refine Lq.run 2 rfl ?_
  refine Lq.bool fun b16 hg16 => ?_
  cases b16
  ·
   replace hg16 := not_false hg16
   replace hg16 := of_decide_eq_true hg16
   refine Lq.pass rfl rfl rfl ?_
   refine Lq.pass rfl rfl rfl ?_
   refine Lq.pass rfl rfl rfl ?_
   refine Lq.pass rfl rfl rfl ?_
   refine Lq.run 1 rfl ?_
   refine Lq.nil ?_
   refine Kt.sel [0, 1, 5, 21] [_, _, _, _] rfl ?_
   refine Wk.condF rfl ?_
   refine Wk.skip ?_
   refine Kt.sel [0, 1, 5] [_, _, _] rfl ?_
   refine Wk.regionQ ?_
   refine Lq.run 1 rfl ?_
   refine Lq.op rfl rfl rfl (OpQ.add rfl rfl rfl (by omega) (by omega)) ?_
   refine Lq.run 1 rfl ?_
   refine Lq.nil ?_
   refine Kt.again (k + 1) ⟨by omega, all_take (by omega) hall (by unfold isBit; simp_all)⟩ (by omega) (Sub.sel [0, 1, 5] rfl) (fun _ h => h)
  ·
   replace hg16 := not_true hg16
   replace hg16 := of_decide_eq_false hg16
   refine Lq.run 2 rfl ?_
   refine Lq.op (v := .int .u8 (((s.getD (((k : Int)).toNat) 0).toNat : Int))) rfl rfl rfl (OpQ.indexStr rfl Tryd.runUnderlying9 rfl rfl (by omega) (by omega)) ?_
   refine Lq.run 2 rfl ?_
   refine Lq.nil ?_
   refine Kt.sel [0, 1, 5, 21] [_, _, _, _] rfl ?_
   refine Wk.cond (b := !(decide ((((s.getD (((k : Int)).toNat) 0).toNat : Int)) = (49 : Int)))) rfl (fun h21 => ?_) (fun h21 => ?_)
   ·
    replace h21 := not_true h21
    replace h21 := of_decide_eq_false h21
    refine Wk.seq ?_
    refine Wk.regionQ ?_
    refine Lq.run 1 rfl ?_
    refine Lq.nil ?_
    refine Kt.sel [4] [_] rfl ?_
    refine Wk.ret (Kt.end1 rfl rfl fun w' hw => ?_)
    -- ret 0: bo_ false
    exact ⟨ret_b (by unfold bitsB; rw [all_false (k := k) (by omega) (by unfold isBit; simp_all)]; rfl), hw.below⟩
   ·
    replace h21 := not_false h21
    replace h21 := of_decide_eq_true h21
    refine Wk.skip ?_
    refine Kt.sel [0, 1, 5] [_, _, _] rfl ?_
    refine Wk.regionQ ?_
    refine Lq.run 1 rfl ?_
    refine Lq.op rfl rfl rfl (OpQ.add rfl rfl rfl (by omega) (by omega)) ?_
    refine Lq.run 1 rfl ?_
    refine Lq.nil ?_
    refine Kt.again (k + 1) ⟨by omega, all_take (by omega) hall (by unfold isBit; simp_all)⟩ (by omega) (Sub.sel [0, 1, 5] rfl) (fun _ h => h)
 ·
  replace h9 := of_decide_eq_false h9
  refine Wk.exit rfl ?_
  refine Kt.sel [0, 1] [_, _] rfl ?_
  refine Wk.seq ?_
  refine Wk.regionQ ?_
  refine Lq.run 1 rfl ?_
  refine Lq.op (v := i6_ ((s.length : Int))) rfl rfl rfl (OpQ.lenStr rfl Tryd.runUnderlying9 rfl) ?_
  refine Lq.run 3 rfl ?_
  refine Lq.nil ?_
  refine Kt.sel [4] [_] rfl ?_
  refine Wk.ret (Kt.end1 rfl rfl fun w' hw => ?_)
  -- ret 1: bo_ (decide (((s.length : Int)) = n))
  exact ⟨ret_b (by unfold bitsB; rw [show s.all isBit = true from by rw [← List.take_of_length_le (show s.length ≤ k by omega)]; exact hall]; rfl), hw.below⟩

set_option maxHeartbeats 400000 in
/-- spec.StructureValid -/
theorem sValid_ok (a : St) (w : World) (ha : a.Small) :
    Calls Tryd.prog 52 [vS a].toArray w fun en w' => en = .returned (.bool (validB a)) ∧ Below w.heap.size w w' := by
 refine fnStart (n := 23) (e := [(0, vS a)]) Tryd.func52 rfl rfl rfl rfl Ends.both ?_
 have h1 := ha.set
 have h2 := ha.rel
 refine Wk.seq ?_
 refine Wk.region ?_
 refine Ll.box (v := vS a) rfl rfl rfl rfl rfl fun p1 hp1 => ?_
 show Ll _ _ (Own _ _ [_]) _ _ ((1, pt_ p1) :: _) _ _ _
 refine Ll.run 1 rfl ?_
 refine Ll.nil ?_
 refine Kt.sel [1] [_] rfl ?_
 refine Wk.seq ?_
 refine Wk.regionQ ?_
 refine Lq.op rfl rfl rfl (OpQ.fieldAddr rfl Tryd.runUnderlying28 rfl Tryd.sizeOf3 rfl rfl) ?_
 refine Lq.op rfl rfl rfl (OpQ.loadOwn 0 rfl Tryd.isAgg3 rfl rfl rfl) ?_
 refine Lq.op (v := bo_ (inB a.n 1 8)) rfl rfl rfl (OpQ.call rfl Tryd.call42 rfl Own.stable (fun w1 hw1 => l1In_ok a.n 1 8 w1 )) ?_
 refine Lq.run 1 rfl ?_
 refine Lq.bool fun b6 hg6 => ?_
 cases b6
 ·
  refine Lq.pass rfl rfl rfl ?_
  refine Lq.pass rfl rfl rfl ?_
  refine Lq.pass rfl rfl rfl ?_
  refine Lq.pass rfl rfl rfl ?_
  refine Lq.pass rfl rfl rfl ?_
  refine Lq.run 2 rfl ?_
  refine Lq.pass rfl rfl rfl ?_
  refine Lq.pass rfl rfl rfl ?_
  refine Lq.pass rfl rfl rfl ?_
  refine Lq.pass rfl rfl rfl ?_
  refine Lq.pass rfl rfl rfl ?_
  refine Lq.pass rfl rfl rfl ?_
  refine Lq.pass rfl rfl rfl ?_
  refine Lq.pass rfl rfl rfl ?_
  refine Lq.run 2 rfl ?_
  refine Lq.nil ?_
  refine Kt.sel [2] [_] rfl ?_
  refine Wk.ret (Kt.end1 rfl rfl fun w' hw => ?_)
  -- ret 0: bo_ false
  exact ⟨ret_b (by first | (simp [validB, *]; done) | (simp [validB, *]; omega)), hw.below⟩
 ·
  have hn : 1 ≤ a.n ∧ a.n ≤ 8 := by unfold inB at hg6; simpa using hg6
  have hq := sq_le hn.1 hn.2
  refine Lq.op rfl rfl rfl (OpQ.fieldAddr rfl Tryd.runUnderlying28 rfl Tryd.sizeOf9 rfl rfl) ?_
  refine Lq.op rfl rfl rfl (OpQ.loadOwn 0 rfl Tryd.isAgg9 rfl rfl rfl) ?_
  refine Lq.op rfl rfl rfl (OpQ.fieldAddr rfl Tryd.runUnderlying28 rfl Tryd.sizeOf3 rfl rfl) ?_
  refine Lq.op rfl rfl rfl (OpQ.loadOwn 0 rfl Tryd.isAgg3 rfl rfl rfl) ?_
  refine Lq.op (v := bo_ (bitsB a.set a.n)) rfl rfl rfl (OpQ.call rfl Tryd.call105 rfl Own.stable (fun w1 hw1 => l1Bits_ok a.set a.n w1 (by omega))) ?_
  refine Lq.run 2 rfl ?_
  refine Lq.bool fun b13 hg13 => ?_
  cases b13
  ·
   refine Lq.pass rfl rfl rfl ?_
   refine Lq.pass rfl rfl rfl ?_
   refine Lq.pass rfl rfl rfl ?_
   refine Lq.pass rfl rfl rfl ?_
   refine Lq.pass rfl rfl rfl ?_
   refine Lq.pass rfl rfl rfl ?_
   refine Lq.pass rfl rfl rfl ?_
   refine Lq.pass rfl rfl rfl ?_
   refine Lq.run 2 rfl ?_
   refine Lq.nil ?_
   refine Kt.sel [2] [_] rfl ?_
   refine Wk.ret (Kt.end1 rfl rfl fun w' hw => ?_)
   -- ret 1: bo_ false
   exact ⟨ret_b (by first | (simp [validB, *]; done) | (simp [validB, *]; omega)), hw.below⟩
  ·
   refine Lq.op rfl rfl rfl (OpQ.fieldAddr rfl Tryd.runUnderlying28 rfl Tryd.sizeOf9 rfl rfl) ?_
   refine Lq.op rfl rfl rfl (OpQ.loadOwn 0 rfl Tryd.isAgg9 rfl rfl rfl) ?_
   refine Lq.op rfl rfl rfl (OpQ.fieldAddr rfl Tryd.runUnderlying28 rfl Tryd.sizeOf3 rfl rfl) ?_
   refine Lq.op rfl rfl rfl (OpQ.loadOwn 0 rfl Tryd.isAgg3 rfl rfl rfl) ?_
   refine Lq.op rfl rfl rfl (OpQ.fieldAddr rfl Tryd.runUnderlying28 rfl Tryd.sizeOf3 rfl rfl) ?_
   refine Lq.op rfl rfl rfl (OpQ.loadOwn 0 rfl Tryd.isAgg3 rfl rfl rfl) ?_
   refine Lq.op rfl rfl rfl (OpQ.mul rfl rfl rfl (by omega) (by omega)) ?_
   refine Lq.op (v := bo_ (bitsB a.rel (a.n * a.n))) rfl rfl rfl (OpQ.call rfl Tryd.call105 rfl Own.stable (fun w1 hw1 => l1Bits_ok a.rel (a.n * a.n) w1 (by omega))) ?_
   refine Lq.run 2 rfl ?_
   refine Lq.nil ?_
   refine Kt.sel [2] [_] rfl ?_
   refine Wk.ret (Kt.end1 rfl rfl fun w' hw => ?_)
   -- ret 2: bo_ (bitsB a.rel (a.n * a.n))
   exact ⟨ret_b (by first | (simp [validB, *]; done) | (simp [validB, *]; omega)), hw.below⟩

set_option maxHeartbeats 400000 in
/-- spec.l1Set -/
theorem l1Set_ok (a : St) (x : Int) (w : World) (ha : a.Fine) (hx : a.El x) :
    Calls Tryd.prog 148 [vS a, i6_ x].toArray w fun en w' => en = .returned (.bool (a.inSet x)) ∧ Below w.heap.size w w' := by
 refine fnStart (n := 10) (e := [(0, vS a), (1, i6_ x)]) Tryd.func148 rfl rfl rfl rfl Ends.both ?_
 have hs := ha.set
 obtain ⟨h0, h1⟩ := hx
 refine Wk.seq ?_
 refine Wk.region ?_
 refine Ll.box (v := vS a) rfl rfl rfl rfl rfl fun p2 hp2 => ?_
 show Ll _ _ (Own _ _ [_]) _ _ ((2, pt_ p2) :: _) _ _ _
 refine Ll.run 1 rfl ?_
 refine Ll.nil ?_
 refine Kt.sel [1, 2] [_, _] rfl ?_
 refine Wk.seq ?_
 refine Wk.regionQ ?_
 refine Lq.op rfl rfl rfl (OpQ.fieldAddr rfl Tryd.runUnderlying28 rfl Tryd.sizeOf9 rfl rfl) ?_
 refine Lq.op rfl rfl rfl (OpQ.loadOwn 0 rfl Tryd.isAgg9 rfl rfl rfl) ?_
 refine Lq.run 1 rfl ?_
 refine Lq.op (v := .int .u8 (((a.set.getD ((x).toNat) 0).toNat : Int))) rfl rfl rfl (OpQ.indexStr rfl Tryd.runUnderlying9 rfl rfl (by omega) (by omega)) ?_
 refine Lq.run 2 rfl ?_
 refine Lq.nil ?_
 refine Kt.sel [4] [_] rfl ?_
 refine Wk.ret (Kt.end1 rfl rfl fun w' hw => ?_)
 -- ret 0: bo_ (decide ((((a.set.getD ((x).toNat) 0).toNat : Int)) = (49 : Int)))
 exact ⟨ret_b (by first | rfl | (simp_all; done) | (simp_all; omega)), hw.below⟩

set_option maxHeartbeats 400000 in
/-- spec.l1Rel -/
theorem l1Rel_ok (a : St) (x y : Int) (w : World) (ha : a.Fine) (hx : a.El x) (hy : a.El y) :
    Calls Tryd.prog 149 [vS a, i6_ x, i6_ y].toArray w fun en w' => en = .returned (.bool (a.inRel x y)) ∧ Below w.heap.size w w' := by
 refine fnStart (n := 17) (e := [(0, vS a), (1, i6_ x), (2, i6_ y)]) Tryd.func149 rfl rfl rfl rfl Ends.both ?_
 obtain ⟨k0, k1, k2, k3, k4⟩ := ha.relLt hx hy
 refine Wk.seq ?_
 refine Wk.region ?_
 refine Ll.box (v := vS a) rfl rfl rfl rfl rfl fun p3 hp3 => ?_
 show Ll _ _ (Own _ _ [_]) _ _ ((3, pt_ p3) :: _) _ _ _
 refine Ll.run 1 rfl ?_
 refine Ll.nil ?_
 refine Kt.sel [1, 2, 3] [_, _, _] rfl ?_
 refine Wk.seq ?_
 refine Wk.regionQ ?_
 refine Lq.op rfl rfl rfl (OpQ.fieldAddr rfl Tryd.runUnderlying28 rfl Tryd.sizeOf9 rfl rfl) ?_
 refine Lq.op rfl rfl rfl (OpQ.loadOwn 0 rfl Tryd.isAgg9 rfl rfl rfl) ?_
 refine Lq.run 1 rfl ?_
 refine Lq.op rfl rfl rfl (OpQ.fieldAddr rfl Tryd.runUnderlying28 rfl Tryd.sizeOf3 rfl rfl) ?_
 refine Lq.op rfl rfl rfl (OpQ.loadOwn 0 rfl Tryd.isAgg3 rfl rfl rfl) ?_
 refine Lq.op rfl rfl rfl (OpQ.mul rfl rfl rfl (by omega) (by omega)) ?_
 refine Lq.run 1 rfl ?_
 refine Lq.op rfl rfl rfl (OpQ.add rfl rfl rfl (by omega) (by omega)) ?_
 refine Lq.op (v := .int .u8 (((a.rel.getD (((x * a.n) + y).toNat) 0).toNat : Int))) rfl rfl rfl (OpQ.indexStr rfl Tryd.runUnderlying9 rfl rfl (by omega) (by omega)) ?_
 refine Lq.run 2 rfl ?_
 refine Lq.nil ?_
 refine Kt.sel [6] [_] rfl ?_
 refine Wk.ret (Kt.end1 rfl rfl fun w' hw => ?_)
 -- ret 0: bo_ (decide ((((a.rel.getD (((x * a.n) + y).toNat) 0).toNat : Int)) = (49 : Int)))
 exact ⟨ret_b (by first | rfl | (simp_all; done) | (simp_all; omega)), hw.below⟩

set_option maxHeartbeats 400000 in
/-- impl.areBits -/
theorem areBits_ok (s : List UInt8) (n : Int) (w : World) (hs : s.length ≤ 1048576) :
    Calls Tryd.prog 106 [str s, i6_ n].toArray w fun en w' => en = .returned (.bool (bitsB s n)) ∧ Below w.heap.size w w' := by
 refine fnStart (n := 14) (e := [(0, str s), (1, i6_ n)]) Tryd.func106 rfl rfl rfl rfl Ends.both ?_
 refine Wk.seq ?_
 refine Wk.regionQ ?_
 refine Lq.run 1 rfl ?_
 refine Lq.nil ?_
 refine Kt.sel [0, 1] [_, _] rfl ?_
 refine Wk.seq ?_
 refine Wk.regionQ ?_
 refine Lq.run 1 rfl ?_
 refine Lq.op (v := i6_ ((s.length : Int))) rfl rfl rfl (OpQ.lenStr rfl Tryd.runUnderlying9 rfl) ?_
 refine Lq.run 3 rfl ?_
 refine Lq.bool fun b9 hg9 => ?_
 cases b9
 ·
  replace hg9 := of_decide_eq_false hg9
  refine Lq.pass rfl rfl rfl ?_
  refine Lq.pass rfl rfl rfl ?_
  refine Lq.pass rfl rfl rfl ?_
  refine Lq.run 2 rfl ?_
  refine Lq.nil ?_
  refine Kt.sel [4] [_] rfl ?_
  refine Wk.ret (Kt.end1 rfl rfl fun w' hw => ?_)
  -- ret 0: bo_ false
  exact ⟨ret_b (by unfold bitsB; simp [*]), hw.below⟩
 ·
  replace hg9 := of_decide_eq_true hg9
  refine Lq.run 1 rfl ?_
  refine Lq.op (v := str (Lib.trimS s [48, 49])) rfl rfl rfl (OpQ.call rfl Tryd.call141 rfl Own.stable (fun w1 hw1 => trim_ok s w1 (by omega))) ?_
  refine Lq.op rfl rfl rfl (OpQ.seql rfl rfl rfl) ?_
  refine Lq.run 2 rfl ?_
  refine Lq.nil ?_
  refine Kt.sel [4] [_] rfl ?_
  refine Wk.ret (Kt.end1 rfl rfl fun w' hw => ?_)
  -- ret 1: bo_ ((Lib.trimS s [48, 49]) == ([]))
  exact ⟨ret_b (by unfold bitsB; rw [trim_nil]; simp [*]), hw.below⟩

set_option maxHeartbeats 400000 in
/-- impl.isStructure -/
theorem isStructure_ok (a : St) (w : World) (ha : a.Small) :
    Calls Tryd.prog 53 [vS a].toArray w fun en w' => en = .returned (.bool (validB a)) ∧ Below w.heap.size w w' := by
 refine fnStart (n := 28) (e := [(0, vS a)]) Tryd.func53 rfl rfl rfl rfl Ends.both ?_
 have h1 := ha.set
 have h2 := ha.rel
 refine Wk.seq ?_
 refine Wk.region ?_
 refine Ll.box (v := vS a) rfl rfl rfl rfl rfl fun p1 hp1 => ?_
 show Ll _ _ (Own _ _ [_]) _ _ ((1, pt_ p1) :: _) _ _ _
 refine Ll.run 1 rfl ?_
 refine Ll.nil ?_
 refine Kt.sel [1] [_] rfl ?_
 refine Wk.seq ?_
 refine Wk.regionQ ?_
 refine Lq.op rfl rfl rfl (OpQ.fieldAddr rfl Tryd.runUnderlying28 rfl Tryd.sizeOf3 rfl rfl) ?_
 refine Lq.op rfl rfl rfl (OpQ.loadOwn 0 rfl Tryd.isAgg3 rfl rfl rfl) ?_
 refine Lq.run 2 rfl ?_
 refine Lq.bool fun b6 hg6 => ?_
 cases b6
 ·
  replace hg6 := of_decide_eq_false hg6
  refine Lq.pass rfl rfl rfl ?_
  refine Lq.pass rfl rfl rfl ?_
  refine Lq.pass rfl rfl rfl ?_
  refine Lq.run 2 rfl ?_
  refine Lq.pass rfl rfl rfl ?_
  refine Lq.pass rfl rfl rfl ?_
  refine Lq.pass rfl rfl rfl ?_
  refine Lq.pass rfl rfl rfl ?_
  refine Lq.pass rfl rfl rfl ?_
  refine Lq.run 2 rfl ?_
  refine Lq.pass rfl rfl rfl ?_
  refine Lq.pass rfl rfl rfl ?_
  refine Lq.pass rfl rfl rfl ?_
  refine Lq.pass rfl rfl rfl ?_
  refine Lq.pass rfl rfl rfl ?_
  refine Lq.pass rfl rfl rfl ?_
  refine Lq.pass rfl rfl rfl ?_
  refine Lq.pass rfl rfl rfl ?_
  refine Lq.run 2 rfl ?_
  refine Lq.nil ?_
  refine Kt.sel [2] [_] rfl ?_
  refine Wk.ret (Kt.end1 rfl rfl fun w' hw => ?_)
  -- ret 0: bo_ false
  exact ⟨ret_b (by first | (simp [validB, inB, *]; done) | (simp [validB, inB, *]; omega)), hw.below⟩
 ·
  replace hg6 := of_decide_eq_true hg6
  refine Lq.op rfl rfl rfl (OpQ.fieldAddr rfl Tryd.runUnderlying28 rfl Tryd.sizeOf3 rfl rfl) ?_
  refine Lq.op rfl rfl rfl (OpQ.loadOwn 0 rfl Tryd.isAgg3 rfl rfl rfl) ?_
  refine Lq.run 3 rfl ?_
  refine Lq.bool fun b11 hg11 => ?_
  cases b11
  ·
   replace hg11 := of_decide_eq_false hg11
   refine Lq.pass rfl rfl rfl ?_
   refine Lq.pass rfl rfl rfl ?_
   refine Lq.pass rfl rfl rfl ?_
   refine Lq.pass rfl rfl rfl ?_
   refine Lq.pass rfl rfl rfl ?_
   refine Lq.run 2 rfl ?_
   refine Lq.pass rfl rfl rfl ?_
   refine Lq.pass rfl rfl rfl ?_
   refine Lq.pass rfl rfl rfl ?_
   refine Lq.pass rfl rfl rfl ?_
   refine Lq.pass rfl rfl rfl ?_
   refine Lq.pass rfl rfl rfl ?_
   refine Lq.pass rfl rfl rfl ?_
   refine Lq.pass rfl rfl rfl ?_
   refine Lq.run 2 rfl ?_
   refine Lq.nil ?_
   refine Kt.sel [2] [_] rfl ?_
   refine Wk.ret (Kt.end1 rfl rfl fun w' hw => ?_)
   -- ret 1: bo_ false
   exact ⟨ret_b (by first | (simp [validB, inB, *]; done) | (simp [validB, inB, *]; omega)), hw.below⟩
  ·
   replace hg11 := of_decide_eq_true hg11
   have hq := sq_le hg6 hg11
   refine Lq.op rfl rfl rfl (OpQ.fieldAddr rfl Tryd.runUnderlying28 rfl Tryd.sizeOf9 rfl rfl) ?_
   refine Lq.op rfl rfl rfl (OpQ.loadOwn 0 rfl Tryd.isAgg9 rfl rfl rfl) ?_
   refine Lq.op rfl rfl rfl (OpQ.fieldAddr rfl Tryd.runUnderlying28 rfl Tryd.sizeOf3 rfl rfl) ?_
   refine Lq.op rfl rfl rfl (OpQ.loadOwn 0 rfl Tryd.isAgg3 rfl rfl rfl) ?_
   refine Lq.op (v := bo_ (bitsB a.set a.n)) rfl rfl rfl (OpQ.call rfl Tryd.call106 rfl Own.stable (fun w1 hw1 => areBits_ok a.set a.n w1 (by omega))) ?_
   refine Lq.run 2 rfl ?_
   refine Lq.bool fun b18 hg18 => ?_
   cases b18
   ·
    refine Lq.pass rfl rfl rfl ?_
    refine Lq.pass rfl rfl rfl ?_
    refine Lq.pass rfl rfl rfl ?_
    refine Lq.pass rfl rfl rfl ?_
    refine Lq.pass rfl rfl rfl ?_
    refine Lq.pass rfl rfl rfl ?_
    refine Lq.pass rfl rfl rfl ?_
    refine Lq.pass rfl rfl rfl ?_
    refine Lq.run 2 rfl ?_
    refine Lq.nil ?_
    refine Kt.sel [2] [_] rfl ?_
    refine Wk.ret (Kt.end1 rfl rfl fun w' hw => ?_)
    -- ret 2: bo_ false
    exact ⟨ret_b (by first | (simp [validB, inB, *]; done) | (simp [validB, inB, *]; omega)), hw.below⟩
   ·
    refine Lq.op rfl rfl rfl (OpQ.fieldAddr rfl Tryd.runUnderlying28 rfl Tryd.sizeOf9 rfl rfl) ?_
    refine Lq.op rfl rfl rfl (OpQ.loadOwn 0 rfl Tryd.isAgg9 rfl rfl rfl) ?_
    refine Lq.op rfl rfl rfl (OpQ.fieldAddr rfl Tryd.runUnderlying28 rfl Tryd.sizeOf3 rfl rfl) ?_
    refine Lq.op rfl rfl rfl (OpQ.loadOwn 0 rfl Tryd.isAgg3 rfl rfl rfl) ?_
    refine Lq.op rfl rfl rfl (OpQ.fieldAddr rfl Tryd.runUnderlying28 rfl Tryd.sizeOf3 rfl rfl) ?_
    refine Lq.op rfl rfl rfl (OpQ.loadOwn 0 rfl Tryd.isAgg3 rfl rfl rfl) ?_
    refine Lq.op rfl rfl rfl (OpQ.mul rfl rfl rfl (by omega) (by omega)) ?_
    refine Lq.op (v := bo_ (bitsB a.rel (a.n * a.n))) rfl rfl rfl (OpQ.call rfl Tryd.call106 rfl Own.stable (fun w1 hw1 => areBits_ok a.rel (a.n * a.n) w1 (by omega))) ?_
    refine Lq.run 2 rfl ?_
    refine Lq.nil ?_
    refine Kt.sel [2] [_] rfl ?_
    refine Wk.ret (Kt.end1 rfl rfl fun w' hw => ?_)
    -- ret 3: bo_ (bitsB a.rel (a.n * a.n))
    exact ⟨ret_b (by first | (simp [validB, inB, *]; done) | (simp [validB, inB, *]; omega)), hw.below⟩

set_option maxHeartbeats 400000 in
/-- impl.Structure.inSet -/
theorem inSet_ok (a : St) (x : Int) (w : World) (ha : a.Fine) (hx : a.El x) :
    Calls Tryd.prog 151 [vS a, i6_ x].toArray w fun en w' => en = .returned (.bool (a.inSet x)) ∧ Below w.heap.size w w' := by
 refine fnStart (n := 10) (e := [(0, vS a), (1, i6_ x)]) Tryd.func151 rfl rfl rfl rfl Ends.both ?_
 have hs := ha.set
 obtain ⟨h0, h1⟩ := hx
 refine Wk.seq ?_
 refine Wk.region ?_
 refine Ll.box (v := vS a) rfl rfl rfl rfl rfl fun p2 hp2 => ?_
 show Ll _ _ (Own _ _ [_]) _ _ ((2, pt_ p2) :: _) _ _ _
 refine Ll.run 1 rfl ?_
 refine Ll.nil ?_
 refine Kt.sel [1, 2] [_, _] rfl ?_
 refine Wk.seq ?_
 refine Wk.regionQ ?_
 refine Lq.op rfl rfl rfl (OpQ.fieldAddr rfl Tryd.runUnderlying28 rfl Tryd.sizeOf9 rfl rfl) ?_
 refine Lq.op rfl rfl rfl (OpQ.loadOwn 0 rfl Tryd.isAgg9 rfl rfl rfl) ?_
 refine Lq.run 1 rfl ?_
 refine Lq.op (v := .int .u8 (((a.set.getD ((x).toNat) 0).toNat : Int))) rfl rfl rfl (OpQ.indexStr rfl Tryd.runUnderlying9 rfl rfl (by omega) (by omega)) ?_
 refine Lq.run 2 rfl ?_
 refine Lq.nil ?_
 refine Kt.sel [4] [_] rfl ?_
 refine Wk.ret (Kt.end1 rfl rfl fun w' hw => ?_)
 -- ret 0: bo_ (decide ((((a.set.getD ((x).toNat) 0).toNat : Int)) = (49 : Int)))
 exact ⟨ret_b (by first | rfl | (simp_all; done) | (simp_all; omega)), hw.below⟩

set_option maxHeartbeats 400000 in
/-- impl.Structure.inRel -/
theorem inRel_ok (a : St) (x y : Int) (w : World) (ha : a.Fine) (hx : a.El x) (hy : a.El y) :
    Calls Tryd.prog 152 [vS a, i6_ x, i6_ y].toArray w fun en w' => en = .returned (.bool (a.inRel x y)) ∧ Below w.heap.size w w' := by
 refine fnStart (n := 17) (e := [(0, vS a), (1, i6_ x), (2, i6_ y)]) Tryd.func152 rfl rfl rfl rfl Ends.both ?_
 obtain ⟨k0, k1, k2, k3, k4⟩ := ha.relLt hx hy
 refine Wk.seq ?_
 refine Wk.region ?_
 refine Ll.box (v := vS a) rfl rfl rfl rfl rfl fun p3 hp3 => ?_
 show Ll _ _ (Own _ _ [_]) _ _ ((3, pt_ p3) :: _) _ _ _
 refine Ll.run 1 rfl ?_
 refine Ll.nil ?_
 refine Kt.sel [1, 2, 3] [_, _, _] rfl ?_
 refine Wk.seq ?_
 refine Wk.regionQ ?_
 refine Lq.op rfl rfl rfl (OpQ.fieldAddr rfl Tryd.runUnderlying28 rfl Tryd.sizeOf9 rfl rfl) ?_
 refine Lq.op rfl rfl rfl (OpQ.loadOwn 0 rfl Tryd.isAgg9 rfl rfl rfl) ?_
 refine Lq.run 1 rfl ?_
 refine Lq.op rfl rfl rfl (OpQ.fieldAddr rfl Tryd.runUnderlying28 rfl Tryd.sizeOf3 rfl rfl) ?_
 refine Lq.op rfl rfl rfl (OpQ.loadOwn 0 rfl Tryd.isAgg3 rfl rfl rfl) ?_
 refine Lq.op rfl rfl rfl (OpQ.mul rfl rfl rfl (by omega) (by omega)) ?_
 refine Lq.run 1 rfl ?_
 refine Lq.op rfl rfl rfl (OpQ.add rfl rfl rfl (by omega) (by omega)) ?_
 refine Lq.op (v := .int .u8 (((a.rel.getD (((x * a.n) + y).toNat) 0).toNat : Int))) rfl rfl rfl (OpQ.indexStr rfl Tryd.runUnderlying9 rfl rfl (by omega) (by omega)) ?_
 refine Lq.run 2 rfl ?_
 refine Lq.nil ?_
 refine Kt.sel [6] [_] rfl ?_
 refine Wk.ret (Kt.end1 rfl rfl fun w' hw => ?_)
 -- ret 0: bo_ (decide ((((a.rel.getD (((x * a.n) + y).toNat) 0).toNat : Int)) = (49 : Int)))
 exact ⟨ret_b (by first | rfl | (simp_all; done) | (simp_all; omega)), hw.below⟩

set_option maxHeartbeats 400000 in
/-- impl.areElements$1 -/
theorem noEl_ok (a : St) (g T : Nat) (x : Int) (w : World) (hg : w.heap[g]? = some (.cells #[.int .i64 a.n, str a.set, str a.rel] T (0, 0))) :
    Calls Tryd.prog 131 [i6_ x, .pointer (some ⟨g, 0, none⟩)].toArray w fun en w' => en = .returned (.bool (!elB a x)) ∧ Below w.heap.size w w' := by
 refine fnStart (n := 12) (e := [(0, i6_ x), (1, .pointer (some ⟨g, 0, none⟩))]) Tryd.func131 rfl rfl rfl rfl Ends.both ?_
 refine Wk.seq ?_
 refine Wk.regionQ ?_
 refine Lq.run 1 rfl ?_
 refine Lq.nil ?_
 refine Kt.sel [0, 1] [_, _] rfl ?_
 refine Wk.seq ?_
 refine Wk.regionQ ?_
 refine Lq.run 3 rfl ?_
 refine Lq.bool fun b6 hg6 => ?_
 cases b6
 ·
  replace hg6 := of_decide_eq_false hg6
  refine Lq.run 1 rfl ?_
  refine Lq.op rfl rfl rfl (OpQ.fieldAddr rfl Tryd.runUnderlying28 rfl Tryd.sizeOf3 rfl rfl) ?_
  refine Lq.op (v := i6_ a.n) rfl rfl rfl (OpQ.load1 rfl Tryd.isAgg3 rfl (fun w1 hw1 => at_box hg hw1 0 rfl)) ?_
  refine Lq.run 3 rfl ?_
  refine Lq.nil ?_
  refine Kt.sel [3] [_] rfl ?_
  refine Wk.ret (Kt.end1 rfl rfl fun w' hw => ?_)
  -- ret 0: bo_ (decide (a.n ≤ x))
  exact ⟨ret_b (by first | exact el_neg (by assumption) | exact el_geq (by assumption)), hw.below⟩
 ·
  replace hg6 := of_decide_eq_true hg6
  refine Lq.pass rfl rfl rfl ?_
  refine Lq.pass rfl rfl rfl ?_
  refine Lq.pass rfl rfl rfl ?_
  refine Lq.pass rfl rfl rfl ?_
  refine Lq.run 2 rfl ?_
  refine Lq.nil ?_
  refine Kt.sel [3] [_] rfl ?_
  refine Wk.ret (Kt.end1 rfl rfl fun w' hw => ?_)
  -- ret 1: bo_ true
  exact ⟨ret_b (by first | exact el_neg (by assumption) | exact el_geq (by assumption)), hw.below⟩

set_option maxHeartbeats 400000 in
/-- slices.IndexFunc[[]int,int] -/
theorem indexFunc_ok (va : Value) (xs : List Int) (w : World) (hva : Ints w va xs) (hs : xs.length ≤ 140737488355328) (F : FuncId) (caps : Array Value) (q : Int → Bool) (hF : ∀ args w, (callFunc F args).run Tryd.prog w = .ok (.enter F args) w) (hq : ∀ w1, Below w.heap.size w w1 → ∀ x, Calls Tryd.prog F (#[.int .i64 x] ++ caps) w1 fun en w' => en = .returned (.bool (q x)) ∧ Below w1.heap.size w1 w') :
    Calls Tryd.prog 116 [va, .func (.func F) #[] caps].toArray w fun en w' => en = .returned (.int .i64 (idxI xs q)) ∧ Below w.heap.size w w' := by
 refine fnStart (n := 19) (e := [(0, va), (1, .func (.func F) #[] caps)]) Tryd.func116 rfl rfl rfl rfl Ends.both ?_
 refine Wk.seq ?_
 refine Wk.regionQ ?_
 refine Lq.run 1 rfl ?_
 refine Lq.nil ?_
 refine Kt.sel [0, 1] [_, _] rfl ?_
 refine Wk.seq ?_
 refine Wk.seq ?_
 refine Wk.regionQ ?_
 refine Lq.run 1 rfl ?_
 refine Lq.op (v := i6_ ((xs.length : Int))) rfl rfl rfl (OpQ.lenRow rfl Tryd.runUnderlying24 rfl (ints_length _) (fun w1 hw1 => Row.own hva hw1)) ?_
 refine Lq.run 1 rfl ?_
 refine Lq.nil ?_
 refine Kt.sel [0, 1, 7, 8] [_, _, _, _] rfl ?_
 refine Wk.block ?_
 refine Wk.loop (σ := Nat) (fun k => k ≤ xs.length ∧ ∀ i : Nat, i < k → q (xs.getD i 0) = false) (fun k => [(0, va), (1, .func (.func F) #[] caps), (7, i6_ ((xs.length : Int))), (8, i6_ ((k : Int)))]) (fun k => Own w.heap.size w []) (fun k => xs.length - k) (0) ⟨by omega, fun i hi => absurd hi (by omega)⟩ (Sub.sel [0, 1, 7, 8] rfl) (fun _ h => h) ?_
 rintro k ⟨hk, hall⟩
 refine Wk.seq ?_
 refine Wk.regionQ ?_
 refine Lq.run 1 rfl ?_
 refine Lq.nil ?_
 refine Kt.sel [0, 1, 7, 8, 9] [_, _, _, _, _] rfl ?_
 refine Wk.seq ?_
 refine Wk.cond (b := decide (((k : Int)) < ((xs.length : Int)))) rfl (fun h9 => ?_) (fun h9 => ?_)
 ·
  replace h9 := of_decide_eq_true h9
  refine Wk.skip ?_
  refine Kt.sel [0, 1, 7, 8] [_, _, _, _] rfl ?_
  refine Wk.seq ?_
  refine Wk.block ?_
  refine Wk.seq ?_
  refine Wk.regionQ ?_
  refine Lq.run 2 rfl ?_
  refine Lq.nil ?_
  refine Kt.sel [0, 1, 5, 7, 8] [_, _, _, _, _] rfl ?_
  refine Wk.seq ?_
  refine Wk.regionQ ?_
  refine Lq.run 3 rfl ?_
  refine Lq.op (v := .pointer (some (sAt va ((k : Int))))) rfl rfl rfl (OpQ.atRow rfl Tryd.runUnderlying24 Tryd.sizeOf3 rfl rfl (by omega) (by rw [ints_length]; omega) (fun w1 hw1 => Row.own hva hw1)) ?_
  refine Lq.op (v := i6_ (xs.getD (((k : Int)).toNat) 0)) rfl rfl rfl (OpQ.load1 rfl Tryd.isAgg3 rfl (fun w1 hw1 => Ints.cell (Row.own hva hw1) (by omega) (by omega))) ?_
  refine Lq.op (v := bo_ (q (xs.getD (((k : Int)).toNat) 0))) rfl rfl rfl (OpQ.callFn rfl rfl hF rfl Own.stable (fun w1 hw1 => hq w1 hw1.below (xs.getD (((k : Int)).toNat) 0))) ?_
  refine Lq.nil ?_
  refine Kt.sel [0, 1, 5, 7, 8, 16] [_, _, _, _, _, _] rfl ?_
  refine Wk.cond (b := q (xs.getD (((k : Int)).toNat) 0)) rfl (fun h16 => ?_) (fun h16 => ?_)
  ·
   refine Wk.seq ?_
   refine Wk.regionQ ?_
   refine Lq.run 2 rfl ?_
   refine Lq.nil ?_
   refine Kt.sel [4] [_] rfl ?_
   refine Wk.ret (Kt.end1 rfl rfl fun w' hw => ?_)
   -- ret 0: i6_ ((k : Int))
   exact ⟨ret_i (idxI_at (by omega) hall (by simpa using h16)).symm, hw.below⟩
  ·
   refine Wk.skip ?_
   refine Kt.sel [0, 1, 7, 8] [_, _, _, _] rfl ?_
   refine Wk.regionQ ?_
   refine Lq.op rfl rfl rfl (OpQ.add rfl rfl rfl (by omega) (by omega)) ?_
   refine Lq.run 1 rfl ?_
   refine Lq.nil ?_
   refine Kt.again (k + 1) ⟨by omega, fun i hi => (Nat.lt_succ_iff_lt_or_eq.1 hi).elim (hall i) (fun e => by subst e; simpa using h16)⟩ (by omega) (Sub.sel [0, 1, 7, 8] rfl) (fun _ h => h)
 ·
  replace h9 := of_decide_eq_false h9
  refine Wk.exit rfl ?_
  refine Kt.sel [] [] rfl ?_
  refine Wk.seq ?_
  refine Wk.regionQ ?_
  refine Lq.run 1 rfl ?_
  refine Lq.nil ?_
  refine Kt.sel [4] [_] rfl ?_
  refine Wk.ret (Kt.end1 rfl rfl fun w' hw => ?_)
  -- ret 1: i6_ (-1)
  exact ⟨ret_i (idxI_none (fun i hi => hall i (by omega))).symm, hw.below⟩

set_option maxHeartbeats 400000 in
/-- slices.ContainsFunc[[]int,int] -/
theorem containsFunc_ok (va : Value) (xs : List Int) (w : World) (hva : Ints w va xs) (hs : xs.length ≤ 140737488355328) (F : FuncId) (caps : Array Value) (q : Int → Bool) (hF : ∀ args w, (callFunc F args).run Tryd.prog w = .ok (.enter F args) w) (hq : ∀ w1, Below w.heap.size w w1 → ∀ x, Calls Tryd.prog F (#[.int .i64 x] ++ caps) w1 fun en w' => en = .returned (.bool (q x)) ∧ Below w1.heap.size w1 w') :
    Calls Tryd.prog 130 [va, .func (.func F) #[] caps].toArray w fun en w' => en = .returned (.bool (xs.any q)) ∧ Below w.heap.size w w' := by
 refine fnStart (n := 9) (e := [(0, va), (1, .func (.func F) #[] caps)]) Tryd.func130 rfl rfl rfl rfl Ends.both ?_
 refine Wk.seq ?_
 refine Wk.regionQ ?_
 refine Lq.run 1 rfl ?_
 refine Lq.nil ?_
 refine Kt.sel [0, 1] [_, _] rfl ?_
 refine Wk.seq ?_
 refine Wk.regionQ ?_
 refine Lq.run 2 rfl ?_
 refine Lq.op (v := i6_ (idxI xs q)) rfl rfl rfl (OpQ.call rfl Tryd.call116 rfl Own.stable (fun w1 hw1 => indexFunc_ok va xs w1 (Row.own hva hw1) hs F caps q hF (fun w2 hb x => hq w2 (hw1.below.trans (hb.mono hw1.base)) x))) ?_
 refine Lq.run 2 rfl ?_
 refine Lq.nil ?_
 refine Kt.sel [4] [_] rfl ?_
 refine Wk.ret (Kt.end1 rfl rfl fun w' hw => ?_)
 -- ret 0: bo_ (decide ((0 : Int) ≤ (idxI xs q)))
 exact ⟨ret_b (idxI_any xs q), hw.below⟩

set_option maxHeartbeats 400000 in
/-- impl.stillSame -/
theorem stillSame_ok (a b : St) (xs ys : List Int) (va vb : Value) (x y : Int) (w : World) (ha : a.Fine) (hb : b.Fine) (hva : Ints w va xs) (hvb : Ints w vb ys) (hA : a.Els xs) (hB : b.Els ys) (hlen : xs.length = ys.length) (hsmall : xs.length ≤ 1000000) (hx : a.El x) (hy : b.El y) :
    Calls Tryd.prog 117 [vS a, va, vS b, vb, i6_ x, i6_ y].toArray w fun en w' => en = .returned (.bool (stillB a xs b ys x y)) ∧ Below w.heap.size w w' := by
 refine fnStart (n := 75) (e := [(0, vS a), (1, va), (2, vS b), (3, vb), (4, i6_ x), (5, i6_ y)]) Tryd.func117 rfl rfl rfl rfl Ends.both ?_
 have hT := stillB_true (a := a) (b := b) (x := x) (y := y) hlen
 refine Wk.seq ?_
 refine Wk.region ?_
 refine Ll.box (v := vS a) rfl rfl rfl rfl rfl fun p6 hp6 => ?_
 show Ll _ _ (Own _ _ [_]) _ _ ((6, pt_ p6) :: _) _ _ _
 refine Ll.box (v := vS b) rfl rfl rfl rfl rfl fun p8 hp8 => ?_
 show Ll _ _ (Own _ _ [_, _]) _ _ ((8, pt_ p8) :: _) _ _ _
 refine Ll.run 1 rfl ?_
 refine Ll.nil ?_
 refine Kt.sel [1, 3, 4, 5, 6, 8] [_, _, _, _, _, _] rfl ?_
 refine Wk.seq ?_
 refine Wk.seq ?_
 refine Wk.regionD Base.mixed (fun _ h => h.drawn) (by kernel_rfl) ?_
 refine Lq.op rfl rfl rfl (OpQ.loadBox (cs := #[i6_ a.n, str a.set, str a.rel]) 1 rfl Tryd.isAgg28 rfl rfl Tryd.sizeOf28) ?_
 refine Lq.run 1 rfl ?_
 refine Lq.op (v := bo_ (a.inSet x)) rfl rfl rfl (OpQ.call rfl Tryd.call151 rfl Own.stable (fun w1 hw1 => inSet_ok a x w1 ha (by first | assumption | exact St.Els.at (by assumption) (by omega) (by omega)))) ?_
 refine Lq.op rfl rfl rfl (OpQ.loadBox (cs := #[i6_ b.n, str b.set, str b.rel]) 0 rfl Tryd.isAgg28 rfl rfl Tryd.sizeOf28) ?_
 refine Lq.run 1 rfl ?_
 refine Lq.op (v := bo_ (b.inSet y)) rfl rfl rfl (OpQ.call rfl Tryd.call151 rfl Own.stable (fun w1 hw1 => inSet_ok b y w1 hb (by first | assumption | exact St.Els.at (by assumption) (by omega) (by omega)))) ?_
 refine Lq.op rfl rfl rfl (OpQ.bne rfl Tryd.runUnderlying4 rfl rfl) ?_
 refine Lq.run 1 rfl ?_
 refine Lq.bool fun b23 hg23 => ?_
 cases b23
 ·
  refine Lq.op rfl rfl rfl (OpQ.loadBox (cs := #[i6_ a.n, str a.set, str a.rel]) 1 rfl Tryd.isAgg28 rfl rfl Tryd.sizeOf28) ?_
  refine Lq.run 2 rfl ?_
  refine Lq.op (v := bo_ (a.inRel x x)) rfl rfl rfl (OpQ.call rfl Tryd.call152 rfl Own.stable (fun w1 hw1 => inRel_ok a x x w1 ha (by first | assumption | exact St.Els.at (by assumption) (by omega) (by omega)) (by first | assumption | exact St.Els.at (by assumption) (by omega) (by omega)))) ?_
  refine Lq.op rfl rfl rfl (OpQ.loadBox (cs := #[i6_ b.n, str b.set, str b.rel]) 0 rfl Tryd.isAgg28 rfl rfl Tryd.sizeOf28) ?_
  refine Lq.run 2 rfl ?_
  refine Lq.op (v := bo_ (b.inRel y y)) rfl rfl rfl (OpQ.call rfl Tryd.call152 rfl Own.stable (fun w1 hw1 => inRel_ok b y y w1 hb (by first | assumption | exact St.Els.at (by assumption) (by omega) (by omega)) (by first | assumption | exact St.Els.at (by assumption) (by omega) (by omega)))) ?_
  refine Lq.op rfl rfl rfl (OpQ.bne rfl Tryd.runUnderlying4 rfl rfl) ?_
  refine Lq.run 1 rfl ?_
  refine Lq.nil ?_
  refine Kt.sel [1, 3, 4, 5, 6, 8, 33] [_, _, _, _, _, _, _] rfl ?_
  refine Wk.cond (b := (a.inRel x x) != (b.inRel y y)) rfl (fun h33 => ?_) (fun h33 => ?_)
  ·
   refine Wk.seq ?_
   refine Wk.regionQ ?_
   refine Lq.run 1 rfl ?_
   refine Lq.nil ?_
   refine Kt.sel [12] [_] rfl ?_
   refine Wk.ret (Kt.end1 rfl rfl fun w' hw => ?_)
   -- ret 0: bo_ false
   have hf : stillB a xs b ys x y = false := by
    cases hs : stillB a xs b ys x y with
    | false => rfl
    | true => obtain ⟨e1, e2, e3⟩ := hT.1 hs; simp_all
   exact ⟨by rw [hf], hw.below⟩
  ·
   refine Wk.skip ?_
   refine Kt.sel [1, 3, 4, 5, 6, 8] [_, _, _, _, _, _] rfl ?_
   refine Wk.seq ?_
   refine Wk.seq ?_
   refine Wk.regionQ ?_
   refine Lq.run 1 rfl ?_
   refine Lq.op (v := i6_ ((xs.length : Int))) rfl rfl rfl (OpQ.lenRow rfl Tryd.runUnderlying24 rfl (ints_length _) (fun w1 hw1 => Row.own hva hw1)) ?_
   refine Lq.run 1 rfl ?_
   refine Lq.nil ?_
   refine Kt.sel [3, 4, 5, 6, 8, 34, 35, 36] [_, _, _, _, _, _, _, _] rfl ?_
   refine Wk.block ?_
   refine Wk.loop (σ := Nat) (fun k => k ≤ xs.length ∧ ∀ i : Nat, i < k → pairOk a b x y (xs.getD i 0) (ys.getD i 0) = true) (fun k => [(3, vb), (4, i6_ x), (5, i6_ y), (6, pt_ p6), (8, pt_ p8), (34, va), (35, i6_ ((xs.length : Int))), (36, i6_ ((k : Int)))]) (fun k => Own w.heap.size w [bk_ p8 #[i6_ b.n, str b.set, str b.rel] 28, bk_ p6 #[i6_ a.n, str a.set, str a.rel] 28]) (fun k => xs.length - k) (0) ⟨by omega, fun i hi => absurd hi (by omega)⟩ (Sub.sel [3, 4, 5, 6, 8, 34, 35, 36] rfl) (fun _ h => h) ?_
   rintro k ⟨hk, hall⟩
   refine Wk.seq ?_
   refine Wk.regionQ ?_
   refine Lq.run 1 rfl ?_
   refine Lq.nil ?_
   refine Kt.sel [3, 4, 5, 6, 8, 34, 35, 36, 37] [_, _, _, _, _, _, _, _, _] rfl ?_
   refine Wk.seq ?_
   refine Wk.cond (b := decide (((k : Int)) < ((xs.length : Int)))) rfl (fun h37 => ?_) (fun h37 => ?_)
   ·
    replace h37 := of_decide_eq_true h37
    refine Wk.skip ?_
    refine Kt.sel [3, 4, 5, 6, 8, 34, 35, 36] [_, _, _, _, _, _, _, _] rfl ?_
    refine Wk.seq ?_
    refine Wk.block ?_
    refine Wk.seq ?_
    refine Wk.regionQ ?_
    refine Lq.run 1 rfl ?_
    refine Lq.op (v := .pointer (some (sAt va ((k : Int))))) rfl rfl rfl (OpQ.atRow rfl Tryd.runUnderlying24 Tryd.sizeOf3 rfl rfl (by omega) (by rw [ints_length]; omega) (fun w1 hw1 => Row.own hva hw1)) ?_
    refine Lq.op (v := i6_ (xs.getD (((k : Int)).toNat) 0)) rfl rfl rfl (OpQ.load1 rfl Tryd.isAgg3 rfl (fun w1 hw1 => Ints.cell (Row.own hva hw1) (by omega) (by omega))) ?_
    refine Lq.run 2 rfl ?_
    refine Lq.nil ?_
    refine Kt.sel [3, 4, 5, 6, 8, 13, 14, 34, 35, 36] [_, _, _, _, _, _, _, _, _, _] rfl ?_
    refine Wk.seq ?_
    refine Wk.regionQ ?_
    refine Lq.run 2 rfl ?_
    refine Lq.op (v := .pointer (some (sAt vb ((k : Int))))) rfl rfl rfl (OpQ.atRow rfl Tryd.runUnderlying24 Tryd.sizeOf3 rfl rfl (by omega) (by rw [ints_length]; omega) (fun w1 hw1 => Row.own hvb hw1)) ?_
    refine Lq.op (v := i6_ (ys.getD (((k : Int)).toNat) 0)) rfl rfl rfl (OpQ.load1 rfl Tryd.isAgg3 rfl (fun w1 hw1 => Ints.cell (Row.own hvb hw1) (by omega) (by omega))) ?_
    refine Lq.run 1 rfl ?_
    refine Lq.nil ?_
    refine Kt.sel [3, 4, 5, 6, 8, 14, 15, 34, 35, 36] [_, _, _, _, _, _, _, _, _, _] rfl ?_
    refine Wk.seq ?_
    refine Wk.regionD Base.mixed (fun _ h => h.drawn) (by kernel_rfl) ?_
    refine Lq.run 6 rfl ?_
    refine Lq.op rfl rfl rfl (OpQ.bne rfl Tryd.runUnderlying4 rfl rfl) ?_
    refine Lq.run 1 rfl ?_
    refine Lq.bool fun b52 hg52 => ?_
    cases b52
    ·
     refine Lq.op rfl rfl rfl (OpQ.loadBox (cs := #[i6_ a.n, str a.set, str a.rel]) 1 rfl Tryd.isAgg28 rfl rfl Tryd.sizeOf28) ?_
     refine Lq.run 2 rfl ?_
     refine Lq.op (v := bo_ (a.inRel (xs.getD (((k : Int)).toNat) 0) x)) rfl rfl rfl (OpQ.call rfl Tryd.call152 rfl Own.stable (fun w1 hw1 => inRel_ok a (xs.getD (((k : Int)).toNat) 0) x w1 ha (by first | assumption | exact St.Els.at (by assumption) (by omega) (by omega)) (by first | assumption | exact St.Els.at (by assumption) (by omega) (by omega)))) ?_
     refine Lq.op rfl rfl rfl (OpQ.loadBox (cs := #[i6_ b.n, str b.set, str b.rel]) 0 rfl Tryd.isAgg28 rfl rfl Tryd.sizeOf28) ?_
     refine Lq.run 2 rfl ?_
     refine Lq.op (v := bo_ (b.inRel (ys.getD (((k : Int)).toNat) 0) y)) rfl rfl rfl (OpQ.call rfl Tryd.call152 rfl Own.stable (fun w1 hw1 => inRel_ok b (ys.getD (((k : Int)).toNat) 0) y w1 hb (by first | assumption | exact St.Els.at (by assumption) (by omega) (by omega)) (by first | assumption | exact St.Els.at (by assumption) (by omega) (by omega)))) ?_
     refine Lq.op rfl rfl rfl (OpQ.bne rfl Tryd.runUnderlying4 rfl rfl) ?_
     refine Lq.run 2 rfl ?_
     refine Lq.bool fun b63 hg63 => ?_
     cases b63
     ·
      refine Lq.op rfl rfl rfl (OpQ.loadBox (cs := #[i6_ a.n, str a.set, str a.rel]) 1 rfl Tryd.isAgg28 rfl rfl Tryd.sizeOf28) ?_
      refine Lq.run 2 rfl ?_
      refine Lq.op (v := bo_ (a.inRel x (xs.getD (((k : Int)).toNat) 0))) rfl rfl rfl (OpQ.call rfl Tryd.call152 rfl Own.stable (fun w1 hw1 => inRel_ok a x (xs.getD (((k : Int)).toNat) 0) w1 ha (by first | assumption | exact St.Els.at (by assumption) (by omega) (by omega)) (by first | assumption | exact St.Els.at (by assumption) (by omega) (by omega)))) ?_
      refine Lq.op rfl rfl rfl (OpQ.loadBox (cs := #[i6_ b.n, str b.set, str b.rel]) 0 rfl Tryd.isAgg28 rfl rfl Tryd.sizeOf28) ?_
      refine Lq.run 2 rfl ?_
      refine Lq.op (v := bo_ (b.inRel y (ys.getD (((k : Int)).toNat) 0))) rfl rfl rfl (OpQ.call rfl Tryd.call152 rfl Own.stable (fun w1 hw1 => inRel_ok b y (ys.getD (((k : Int)).toNat) 0) w1 hb (by first | assumption | exact St.Els.at (by assumption) (by omega) (by omega)) (by first | assumption | exact St.Els.at (by assumption) (by omega) (by omega)))) ?_
      refine Lq.op rfl rfl rfl (OpQ.bne rfl Tryd.runUnderlying4 rfl rfl) ?_
      refine Lq.run 1 rfl ?_
      refine Lq.nil ?_
      refine Kt.sel [3, 4, 5, 6, 8, 34, 35, 36, 73] [_, _, _, _, _, _, _, _, _] rfl ?_
      refine Wk.cond (b := (a.inRel x (xs.getD (((k : Int)).toNat) 0)) != (b.inRel y (ys.getD (((k : Int)).toNat) 0))) rfl (fun h73 => ?_) (fun h73 => ?_)
      ·
       refine Wk.seq ?_
       refine Wk.regionQ ?_
       refine Lq.run 1 rfl ?_
       refine Lq.nil ?_
       refine Kt.sel [12] [_] rfl ?_
       refine Wk.ret (Kt.end1 rfl rfl fun w' hw => ?_)
       -- ret 1: bo_ false
       have hf : stillB a xs b ys x y = false := by
        cases hs : stillB a xs b ys x y with
        | false => rfl
        | true =>
         obtain ⟨e1, e2, e3⟩ := hT.1 hs
         obtain ⟨e4, e5, e6⟩ := pairOk_true.1 (e3 k (by omega))
         simp only [Int.toNat_natCast] at *
         simp_all
       exact ⟨by rw [hf], hw.below⟩
      ·
       refine Wk.skip ?_
       refine Kt.sel [3, 4, 5, 6, 8, 34, 35, 36] [_, _, _, _, _, _, _, _] rfl ?_
       refine Wk.regionQ ?_
       refine Lq.op rfl rfl rfl (OpQ.add rfl rfl rfl (by omega) (by omega)) ?_
       refine Lq.run 1 rfl ?_
       refine Lq.nil ?_
       refine Kt.again (k + 1) ⟨by omega, fun i hi => (Nat.lt_succ_iff_lt_or_eq.1 hi).elim (hall i) (fun e => by subst e; exact pairOk_true.2 ⟨by simpa using hg52, by simpa using hg63, by simpa using h73⟩)⟩ (by omega) (Sub.sel [3, 4, 5, 6, 8, 34, 35, 36] rfl) (fun _ h => h)
     ·
      refine Lq.pass rfl rfl rfl ?_
      refine Lq.pass rfl rfl rfl ?_
      refine Lq.pass rfl rfl rfl ?_
      refine Lq.pass rfl rfl rfl ?_
      refine Lq.pass rfl rfl rfl ?_
      refine Lq.pass rfl rfl rfl ?_
      refine Lq.pass rfl rfl rfl ?_
      refine Lq.pass rfl rfl rfl ?_
      refine Lq.pass rfl rfl rfl ?_
      refine Lq.run 1 rfl ?_
      refine Lq.nil ?_
      refine Kt.sel [3, 4, 5, 6, 8, 34, 35, 36, 73] [_, _, _, _, _, _, _, _, _] rfl ?_
      refine Wk.condT rfl ?_
      refine Wk.seq ?_
      refine Wk.regionQ ?_
      refine Lq.run 1 rfl ?_
      refine Lq.nil ?_
      refine Kt.sel [12] [_] rfl ?_
      refine Wk.ret (Kt.end1 rfl rfl fun w' hw => ?_)
      -- ret 2: bo_ false
      have hf : stillB a xs b ys x y = false := by
       cases hs : stillB a xs b ys x y with
       | false => rfl
       | true =>
        obtain ⟨e1, e2, e3⟩ := hT.1 hs
        obtain ⟨e4, e5, e6⟩ := pairOk_true.1 (e3 k (by omega))
        simp only [Int.toNat_natCast] at *
        simp_all
      exact ⟨by rw [hf], hw.below⟩
    ·
     refine Lq.pass rfl rfl rfl ?_
     refine Lq.pass rfl rfl rfl ?_
     refine Lq.pass rfl rfl rfl ?_
     refine Lq.pass rfl rfl rfl ?_
     refine Lq.pass rfl rfl rfl ?_
     refine Lq.pass rfl rfl rfl ?_
     refine Lq.pass rfl rfl rfl ?_
     refine Lq.pass rfl rfl rfl ?_
     refine Lq.pass rfl rfl rfl ?_
     refine Lq.run 2 rfl ?_
     refine Lq.pass rfl rfl rfl ?_
     refine Lq.pass rfl rfl rfl ?_
     refine Lq.pass rfl rfl rfl ?_
     refine Lq.pass rfl rfl rfl ?_
     refine Lq.pass rfl rfl rfl ?_
     refine Lq.pass rfl rfl rfl ?_
     refine Lq.pass rfl rfl rfl ?_
     refine Lq.pass rfl rfl rfl ?_
     refine Lq.pass rfl rfl rfl ?_
     refine Lq.run 1 rfl ?_
     refine Lq.nil ?_
     refine Kt.sel [3, 4, 5, 6, 8, 34, 35, 36, 73] [_, _, _, _, _, _, _, _, _] rfl ?_
     refine Wk.condT rfl ?_
     refine Wk.seq ?_
     refine Wk.regionQ ?_
     refine Lq.run 1 rfl ?_
     refine Lq.nil ?_
     refine Kt.sel [12] [_] rfl ?_
     refine Wk.ret (Kt.end1 rfl rfl fun w' hw => ?_)
     -- ret 3: bo_ false
     have hf : stillB a xs b ys x y = false := by
      cases hs : stillB a xs b ys x y with
      | false => rfl
      | true =>
       obtain ⟨e1, e2, e3⟩ := hT.1 hs
       obtain ⟨e4, e5, e6⟩ := pairOk_true.1 (e3 k (by omega))
       simp only [Int.toNat_natCast] at *
       simp_all
     exact ⟨by rw [hf], hw.below⟩
   ·
    replace h37 := of_decide_eq_false h37
    refine Wk.exit rfl ?_
    refine Kt.sel [] [] rfl ?_
    refine Wk.seq ?_
    refine Wk.regionQ ?_
    refine Lq.run 1 rfl ?_
    refine Lq.nil ?_
    refine Kt.sel [12] [_] rfl ?_
    refine Wk.ret (Kt.end1 rfl rfl fun w' hw => ?_)
    -- ret 4: bo_ true
    exact ⟨by rw [hT.2 ⟨bne_false ‹_›, bne_false ‹_›, fun i hi => hall i (by omega)⟩], hw.below⟩
 ·
  refine Lq.pass rfl rfl rfl ?_
  refine Lq.pass rfl rfl rfl ?_
  refine Lq.pass rfl rfl rfl ?_
  refine Lq.pass rfl rfl rfl ?_
  refine Lq.pass rfl rfl rfl ?_
  refine Lq.pass rfl rfl rfl ?_
  refine Lq.pass rfl rfl rfl ?_
  refine Lq.pass rfl rfl rfl ?_
  refine Lq.pass rfl rfl rfl ?_
  refine Lq.run 1 rfl ?_
  refine Lq.nil ?_
  refine Kt.sel [1, 3, 4, 5, 6, 8, 33] [_, _, _, _, _, _, _] rfl ?_
  refine Wk.condT rfl ?_
  refine Wk.seq ?_
  refine Wk.regionQ ?_
  refine Lq.run 1 rfl ?_
  refine Lq.nil ?_
  refine Kt.sel [12] [_] rfl ?_
  refine Wk.ret (Kt.end1 rfl rfl fun w' hw => ?_)
  -- ret 5: bo_ false
  have hf : stillB a xs b ys x y = false := by
   cases hs : stillB a xs b ys x y with
   | false => rfl
   | true => obtain ⟨e1, e2, e3⟩ := hT.1 hs; simp_all
  exact ⟨by rw [hf], hw.below⟩

set_option maxHeartbeats 400000 in
/-- impl.sameWay -/
theorem sameWay_ok (a b : St) (xs ys : List Int) (va vb : Value) (w : World) (ha : a.Fine) (hb : b.Fine) (hva : Ints w va xs) (hvb : Ints w vb ys) (hA : a.Els xs) (hB : b.Els ys) (hlen : xs.length = ys.length) (hsmall : xs.length ≤ 1000000) :
    Calls Tryd.prog 76 [vS a, va, vS b, vb].toArray w fun en w' => en = .returned (.bool (sameB a xs b ys)) ∧ Below w.heap.size w w' := by
 refine fnStart (n := 34) (e := [(0, vS a), (1, va), (2, vS b), (3, vb)]) Tryd.func76 rfl rfl rfl rfl Ends.both ?_
 refine Wk.seq ?_
 refine Wk.region ?_
 refine Ll.box (v := vS a) rfl rfl rfl rfl rfl fun p4 hp4 => ?_
 show Ll _ _ (Own _ _ [_]) _ _ ((4, pt_ p4) :: _) _ _ _
 refine Ll.box (v := vS b) rfl rfl rfl rfl rfl fun p6 hp6 => ?_
 show Ll _ _ (Own _ _ [_, _]) _ _ ((6, pt_ p6) :: _) _ _ _
 refine Ll.run 1 rfl ?_
 refine Ll.nil ?_
 refine Kt.sel [1, 3, 4, 6] [_, _, _, _] rfl ?_
 refine Wk.seq ?_
 refine Wk.seq ?_
 refine Wk.regionQ ?_
 refine Lq.run 1 rfl ?_
 refine Lq.op (v := i6_ ((xs.length : Int))) rfl rfl rfl (OpQ.lenRow rfl Tryd.runUnderlying24 rfl (ints_length _) (fun w1 hw1 => Row.own hva hw1)) ?_
 refine Lq.run 1 rfl ?_
 refine Lq.nil ?_
 refine Kt.sel [1, 3, 4, 6, 11, 12] [_, _, _, _, _, _] rfl ?_
 refine Wk.block ?_
 refine Wk.loop (σ := Nat) (fun k => k ≤ xs.length ∧ ∀ i : Nat, i < k → stillAt a xs b ys i = true) (fun k => [(1, va), (3, vb), (4, pt_ p4), (6, pt_ p6), (11, i6_ ((xs.length : Int))), (12, i6_ ((k : Int)))]) (fun k => Own w.heap.size w [bk_ p6 #[i6_ b.n, str b.set, str b.rel] 28, bk_ p4 #[i6_ a.n, str a.set, str a.rel] 28]) (fun k => xs.length - k) (0) ⟨by omega, fun i hi => absurd hi (by omega)⟩ (Sub.sel [1, 3, 4, 6, 11, 12] rfl) (fun _ h => h) ?_
 rintro k ⟨hk, hall⟩
 refine Wk.seq ?_
 refine Wk.regionQ ?_
 refine Lq.run 1 rfl ?_
 refine Lq.nil ?_
 refine Kt.sel [1, 3, 4, 6, 11, 12, 13] [_, _, _, _, _, _, _] rfl ?_
 refine Wk.seq ?_
 refine Wk.cond (b := decide (((k : Int)) < ((xs.length : Int)))) rfl (fun h13 => ?_) (fun h13 => ?_)
 ·
  replace h13 := of_decide_eq_true h13
  refine Wk.skip ?_
  refine Kt.sel [1, 3, 4, 6, 11, 12] [_, _, _, _, _, _] rfl ?_
  refine Wk.seq ?_
  refine Wk.block ?_
  refine Wk.seq ?_
  refine Wk.regionQ ?_
  refine Lq.run 2 rfl ?_
  refine Lq.nil ?_
  refine Kt.sel [1, 3, 4, 6, 9, 11, 12] [_, _, _, _, _, _, _] rfl ?_
  refine Wk.seq ?_
  refine Wk.regionD Base.mixed (fun _ h => h.drawn) (by kernel_rfl) ?_
  refine Lq.op rfl rfl rfl (OpQ.loadBox (cs := #[i6_ a.n, str a.set, str a.rel]) 1 rfl Tryd.isAgg28 rfl rfl Tryd.sizeOf28) ?_
  refine Lq.run 2 rfl ?_
  refine Lq.op (v := sTake va k) rfl rfl rfl (OpQ.takeRow (i := (k : Int)) rfl Tryd.runUnderlying24 Tryd.sizeOf3 rfl rfl (by omega) (by rw [ints_length]; omega) (fun w1 hw1 => Row.own hva hw1)) ?_
  refine Lq.op rfl rfl rfl (OpQ.loadBox (cs := #[i6_ b.n, str b.set, str b.rel]) 0 rfl Tryd.isAgg28 rfl rfl Tryd.sizeOf28) ?_
  refine Lq.run 2 rfl ?_
  refine Lq.op (v := sTake vb k) rfl rfl rfl (OpQ.takeRow (i := (k : Int)) rfl Tryd.runUnderlying24 Tryd.sizeOf3 rfl rfl (by omega) (by rw [ints_length]; omega) (fun w1 hw1 => Row.own hvb hw1)) ?_
  refine Lq.run 2 rfl ?_
  refine Lq.op (v := .pointer (some (sAt va ((k : Int))))) rfl rfl rfl (OpQ.atRow rfl Tryd.runUnderlying24 Tryd.sizeOf3 rfl rfl (by omega) (by rw [ints_length]; omega) (fun w1 hw1 => Row.own hva hw1)) ?_
  refine Lq.op (v := i6_ (xs.getD (((k : Int)).toNat) 0)) rfl rfl rfl (OpQ.load1 rfl Tryd.isAgg3 rfl (fun w1 hw1 => Ints.cell (Row.own hva hw1) (by omega) (by omega))) ?_
  refine Lq.run 2 rfl ?_
  refine Lq.op (v := .pointer (some (sAt vb ((k : Int))))) rfl rfl rfl (OpQ.atRow rfl Tryd.runUnderlying24 Tryd.sizeOf3 rfl rfl (by omega) (by rw [ints_length]; omega) (fun w1 hw1 => Row.own hvb hw1)) ?_
  refine Lq.op (v := i6_ (ys.getD (((k : Int)).toNat) 0)) rfl rfl rfl (OpQ.load1 rfl Tryd.isAgg3 rfl (fun w1 hw1 => Ints.cell (Row.own hvb hw1) (by omega) (by omega))) ?_
  refine Lq.op (v := bo_ (stillB a (xs.take k) b (ys.take k) (xs.getD (((k : Int)).toNat) 0) (ys.getD (((k : Int)).toNat) 0))) rfl rfl rfl (OpQ.call rfl Tryd.call117 rfl Own.stable (fun w1 hw1 => stillSame_ok a b (xs.take k) (ys.take k) (sTake va k) (sTake vb k) (xs.getD (((k : Int)).toNat) 0) (ys.getD (((k : Int)).toNat) 0) w1 (ha) (hb) ((Ints.take (Row.own hva hw1) k (by omega))) ((Ints.take (Row.own hvb hw1) k (by omega))) ((hA.take _)) ((hB.take _)) ((by first | (simp; done) | (simp; omega) | omega)) ((by first | (simp; done) | (simp; omega) | omega)) ((by first | assumption | exact St.Els.at (by assumption) (by omega) (by omega))) ((by first | assumption | exact St.Els.at (by assumption) (by omega) (by omega))))) ?_
  refine Lq.run 1 rfl ?_
  refine Lq.nil ?_
  refine Kt.sel [1, 3, 4, 6, 11, 12, 32] [_, _, _, _, _, _, _] rfl ?_
  refine Wk.cond (b := !(stillB a (xs.take k) b (ys.take k) (xs.getD (((k : Int)).toNat) 0) (ys.getD (((k : Int)).toNat) 0))) rfl (fun h32 => ?_) (fun h32 => ?_)
  ·
   replace h32 := not_true h32
   refine Wk.seq ?_
   refine Wk.regionQ ?_
   refine Lq.run 1 rfl ?_
   refine Lq.nil ?_
   refine Kt.sel [8] [_] rfl ?_
   refine Wk.ret (Kt.end1 rfl rfl fun w' hw => ?_)
   -- ret 0: bo_ false
   exact ⟨ret_b (sameB_false (k := k) (by omega) (by simpa [stillAt] using h32)).symm, hw.below⟩
  ·
   replace h32 := not_false h32
   refine Wk.skip ?_
   refine Kt.sel [1, 3, 4, 6, 11, 12] [_, _, _, _, _, _] rfl ?_
   refine Wk.regionQ ?_
   refine Lq.op rfl rfl rfl (OpQ.add rfl rfl rfl (by omega) (by omega)) ?_
   refine Lq.run 1 rfl ?_
   refine Lq.nil ?_
   refine Kt.again (k + 1) ⟨by omega, fun i hi => (Nat.lt_succ_iff_lt_or_eq.1 hi).elim (hall i) (fun e => by subst e; simpa [stillAt] using h32)⟩ (by omega) (Sub.sel [1, 3, 4, 6, 11, 12] rfl) (fun _ h => h)
 ·
  replace h13 := of_decide_eq_false h13
  refine Wk.exit rfl ?_
  refine Kt.sel [] [] rfl ?_
  refine Wk.seq ?_
  refine Wk.regionQ ?_
  refine Lq.run 1 rfl ?_
  refine Lq.nil ?_
  refine Kt.sel [8] [_] rfl ?_
  refine Wk.ret (Kt.end1 rfl rfl fun w' hw => ?_)
  -- ret 1: bo_ true
  exact ⟨ret_b (sameB_true (k := k) (by omega) hall).symm, hw.below⟩

end Go.Proofs.YtjcoijejhachhaaDoor
