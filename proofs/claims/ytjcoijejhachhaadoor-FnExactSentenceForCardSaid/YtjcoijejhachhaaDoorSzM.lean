/-
  Walks: arguments copied, compared.
-/
import Derived.Test.YtjcoijejhachhaaDoorPartM
import Derived.Test.YtjcoijejhachhaaDoorBase
namespace Go.Proofs.YtjcoijejhachhaaDoor
open Go.RowKit Go.Wk
set_option linter.unusedSimpArgs false

set_option maxHeartbeats 400000 in
/-- laws.szStructure -/
theorem sz_ok (a : St) (left : Int) (w : World) (hl0 : 0 ≤ left) (hl : left ≤ 1048576) (h1 : a.set.length ≤ 9223372036854775807) (h2 : a.rel.length ≤ 9223372036854775807) :
    Calls Tryd.prog 14 [vS a, i6_ left].toArray w fun en w' => en = .returned (.int .i64 (szB a left)) ∧ Below w.heap.size w w' := by
 refine fnStart (n := 20) (e := [(0, vS a), (1, i6_ left)]) Tryd.func14 rfl rfl rfl rfl Ends.both ?_
 refine Wk.seq ?_
 refine Wk.region ?_
 refine Ll.box (v := vS a) rfl rfl rfl rfl rfl fun p2 hp2 => ?_
 show Ll _ _ (Own _ _ [_]) _ _ ((2, pt_ p2) :: _) _ _ _
 refine Ll.run 1 rfl ?_
 refine Ll.nil ?_
 refine Kt.sel [1, 2] [_, _] rfl ?_
 refine Wk.seq ?_
 refine Wk.regionQ ?_
 refine Lq.run 1 rfl ?_
 refine Lq.op rfl rfl rfl (OpQ.fieldAddr rfl Tryd.runUnderlying23 rfl Tryd.sizeOf9 rfl rfl) ?_
 refine Lq.op rfl rfl rfl (OpQ.loadOwn 0 rfl Tryd.isAgg9 rfl rfl rfl) ?_
 refine Lq.op (v := i6_ ((a.set.length : Int))) rfl rfl rfl (OpQ.lenStr rfl Tryd.runUnderlying9 rfl) ?_
 refine Lq.op rfl rfl rfl (OpQ.sub rfl rfl rfl (by omega) (by omega)) ?_
 refine Lq.run 1 rfl ?_
 refine Lq.nil ?_
 refine Kt.sel [1, 2] [_, _] rfl ?_
 refine Wk.seq ?_
 refine Wk.seq ?_
 refine Wk.regionQ ?_
 refine Lq.run 2 rfl ?_
 refine Lq.nil ?_
 refine Kt.sel [1, 2, 11] [_, _, _] rfl ?_
 refine Wk.cond (b := decide ((left - ((a.set.length : Int))) < (0 : Int))) rfl (fun h11 => ?_) (fun h11 => ?_)
 ·
  replace h11 := of_decide_eq_true h11
  refine Wk.seq ?_
  refine Wk.regionQ ?_
  refine Lq.run 1 rfl ?_
  refine Lq.nil ?_
  refine Kt.sel [4] [_] rfl ?_
  refine Wk.ret (Kt.end1 rfl rfl fun w' hw => ?_)
  -- ret 0: i6_ (-1)
  exact ⟨ret_i (by unfold szB; simp [*]), hw.below⟩
 ·
  replace h11 := of_decide_eq_false h11
  refine Wk.skip ?_
  refine Kt.sel [1, 2] [_, _] rfl ?_
  refine Wk.seq ?_
  refine Wk.regionQ ?_
  refine Lq.run 1 rfl ?_
  refine Lq.op rfl rfl rfl (OpQ.fieldAddr rfl Tryd.runUnderlying23 rfl Tryd.sizeOf9 rfl rfl) ?_
  refine Lq.op rfl rfl rfl (OpQ.loadOwn 0 rfl Tryd.isAgg9 rfl rfl rfl) ?_
  refine Lq.op (v := i6_ ((a.rel.length : Int))) rfl rfl rfl (OpQ.lenStr rfl Tryd.runUnderlying9 rfl) ?_
  refine Lq.op rfl rfl rfl (OpQ.sub rfl rfl rfl (by omega) (by omega)) ?_
  refine Lq.run 1 rfl ?_
  refine Lq.nil ?_
  refine Kt.sel [1] [_] rfl ?_
  refine Wk.seq ?_
  refine Wk.seq ?_
  refine Wk.regionQ ?_
  refine Lq.run 2 rfl ?_
  refine Lq.nil ?_
  refine Kt.sel [1, 18] [_, _] rfl ?_
  refine Wk.cond (b := decide (((left - ((a.set.length : Int))) - ((a.rel.length : Int))) < (0 : Int))) rfl (fun h18 => ?_) (fun h18 => ?_)
  ·
   replace h18 := of_decide_eq_true h18
   refine Wk.seq ?_
   refine Wk.regionQ ?_
   refine Lq.run 1 rfl ?_
   refine Lq.nil ?_
   refine Kt.sel [4] [_] rfl ?_
   refine Wk.ret (Kt.end1 rfl rfl fun w' hw => ?_)
   -- ret 1: i6_ (-1)
   exact ⟨ret_i (by unfold szB; simp [*]), hw.below⟩
  ·
   replace h18 := of_decide_eq_false h18
   refine Wk.skip ?_
   refine Kt.sel [1] [_] rfl ?_
   refine Wk.seq ?_
   refine Wk.regionQ ?_
   refine Lq.run 2 rfl ?_
   refine Lq.nil ?_
   refine Kt.sel [4] [_] rfl ?_
   refine Wk.ret (Kt.end1 rfl rfl fun w' hw => ?_)
   -- ret 2: i6_ ((left - ((a.set.length : Int))) - ((a.rel.length : Int)))
   exact ⟨ret_i (by unfold szB; simp [*]), hw.below⟩

set_option maxHeartbeats 400000 in
/-- laws.toStructure -/
theorem toSt_ok (a : St) (w : World) :
    Calls Tryd.prog 16 [vS a].toArray w fun en w' => en = .returned (vS a) ∧ Below w.heap.size w w' := by
 refine fnStart (n := 14) (e := [(0, vS a)]) Tryd.func16 rfl rfl rfl rfl Ends.both ?_
 refine Wk.seq ?_
 refine Wk.region ?_
 refine Ll.box (v := vS a) rfl rfl rfl rfl rfl fun p1 hp1 => ?_
 show Ll _ _ (Own _ _ [_]) _ _ ((1, pt_ p1) :: _) _ _ _
 refine Ll.alloc rfl rfl rfl rfl Tryd.zeroValue28 fun p2 hp2 => ?_
 show Ll _ _ (Own _ _ [bk_ p2 #[i6_ 0, str ([]), str ([])] 28, _]) _ _ ((2, pt_ p2) :: _) _ _ _
 refine Ll.nil ?_
 refine Kt.sel [1, 2] [_, _] rfl ?_
 refine Wk.seq ?_
 refine Wk.region ?_
 refine Ll.alloc rfl rfl rfl rfl Tryd.zeroValue28 fun p3 hp3 => ?_
 show Ll _ _ (Own _ _ [bk_ p3 #[i6_ 0, str ([]), str ([])] 28, _, _]) _ _ ((3, pt_ p3) :: _) _ _ _
 refine Ll.nil ?_
 refine Kt.sel [1, 2, 3] [_, _, _] rfl ?_
 refine Wk.seq ?_
 refine Wk.region ?_
 refine Ll.op rfl rfl rfl (OpQ.fieldAddr rfl Tryd.runUnderlying23 rfl Tryd.sizeOf3 rfl rfl) ?_
 refine Ll.op rfl rfl rfl (OpQ.loadOwn 2 rfl Tryd.isAgg3 rfl rfl rfl) ?_
 refine Ll.op rfl rfl rfl (OpQ.fieldAddr rfl Tryd.runUnderlying28 rfl Tryd.sizeOf3 rfl rfl) ?_
 refine Ll.store1 (v := i6_ a.n) (hs' := [bk_ p3 #[i6_ a.n, str ([]), str ([])] 28, _, _]) 0 rfl rfl rfl rfl rfl rfl Tryd.sizeOf3 rfl (by simp) rfl ?_
 refine Ll.nil ?_
 refine Kt.sel [1, 2, 3] [_, _, _] rfl ?_
 refine Wk.seq ?_
 refine Wk.region ?_
 refine Ll.op rfl rfl rfl (OpQ.fieldAddr rfl Tryd.runUnderlying23 rfl Tryd.sizeOf9 rfl rfl) ?_
 refine Ll.op rfl rfl rfl (OpQ.loadOwn 2 rfl Tryd.isAgg9 rfl rfl rfl) ?_
 refine Ll.op rfl rfl rfl (OpQ.fieldAddr rfl Tryd.runUnderlying28 rfl Tryd.sizeOf9 rfl rfl) ?_
 refine Ll.store1 (v := str a.set) (hs' := [bk_ p3 #[i6_ a.n, str a.set, str ([])] 28, _, _]) 0 rfl rfl rfl rfl rfl rfl Tryd.sizeOf9 rfl (by simp) rfl ?_
 refine Ll.nil ?_
 refine Kt.sel [1, 2, 3] [_, _, _] rfl ?_
 refine Wk.seq ?_
 refine Wk.region ?_
 refine Ll.op rfl rfl rfl (OpQ.fieldAddr rfl Tryd.runUnderlying23 rfl Tryd.sizeOf9 rfl rfl) ?_
 refine Ll.op rfl rfl rfl (OpQ.loadOwn 2 rfl Tryd.isAgg9 rfl rfl rfl) ?_
 refine Ll.op rfl rfl rfl (OpQ.fieldAddr rfl Tryd.runUnderlying28 rfl Tryd.sizeOf9 rfl rfl) ?_
 refine Ll.store1 (v := str a.rel) (hs' := [bk_ p3 #[i6_ a.n, str a.set, str a.rel] 28, _, _]) 0 rfl rfl rfl rfl rfl rfl Tryd.sizeOf9 rfl (by simp) rfl ?_
 refine Ll.nil ?_
 refine Kt.sel [2, 3] [_, _] rfl ?_
 refine Wk.seq ?_
 refine Wk.region ?_
 refine Ll.op rfl rfl rfl (OpQ.loadBox (cs := #[i6_ a.n, str a.set, str a.rel]) 0 rfl Tryd.isAgg28 rfl rfl Tryd.sizeOf28) ?_
 refine Ll.storeBox (cs' := #[i6_ a.n, str a.set, str a.rel]) (hs' := [_, bk_ p2 #[i6_ a.n, str a.set, str a.rel] 28, _]) 1 rfl rfl rfl rfl rfl (by kernel_rfl : _ = some Tryd.t28) rfl rfl rfl rfl rfl ?_
 refine Ll.nil ?_
 refine Kt.sel [2] [_] rfl ?_
 refine Wk.ret (Kt.endBox (cs := #[i6_ a.n, str a.set, str a.rel]) 1 rfl rfl rfl Tryd.isAgg28 Tryd.sizeOf28 fun w' hw => ?_)
 -- ret 0: pt_ p2
 exact ⟨rfl, hw.below⟩

set_option maxHeartbeats 400000 in
/-- laws.eqIntS -/
theorem eqInt_ok (va vb : Value) (xs ys : List Int) (w : World) (hva : Ints w va xs) (hvb : Ints w vb ys) (hs : xs.length ≤ 140737488355328) :
    Calls Tryd.prog 19 [va, vb].toArray w fun en w' => en = .returned (.bool (xs == ys)) ∧ Below w.heap.size w w' := by
 refine fnStart (n := 26) (e := [(0, va), (1, vb)]) Tryd.func19 rfl rfl rfl rfl Ends.both ?_
 refine Wk.seq ?_
 refine Wk.regionQ ?_
 refine Lq.run 1 rfl ?_
 refine Lq.nil ?_
 refine Kt.sel [0, 1] [_, _] rfl ?_
 refine Wk.seq ?_
 refine Wk.seq ?_
 refine Wk.regionQ ?_
 refine Lq.run 1 rfl ?_
 refine Lq.op (v := i6_ ((xs.length : Int))) rfl rfl rfl (OpQ.lenRow rfl Tryd.runUnderlying24 rfl (ints_length _) (fun w1 hw1 => Row.own hva hw1)) ?_
 refine Lq.run 1 rfl ?_
 refine Lq.op (v := i6_ ((ys.length : Int))) rfl rfl rfl (OpQ.lenRow rfl Tryd.runUnderlying24 rfl (ints_length _) (fun w1 hw1 => Row.own hvb hw1)) ?_
 refine Lq.run 1 rfl ?_
 refine Lq.nil ?_
 refine Kt.sel [0, 1, 10] [_, _, _] rfl ?_
 refine Wk.cond (b := !(decide (((xs.length : Int)) = ((ys.length : Int))))) rfl (fun h10 => ?_) (fun h10 => ?_)
 ·
  replace h10 := not_true h10
  replace h10 := of_decide_eq_false h10
  refine Wk.seq ?_
  refine Wk.regionQ ?_
  refine Lq.run 1 rfl ?_
  refine Lq.nil ?_
  refine Kt.sel [4] [_] rfl ?_
  refine Wk.ret (Kt.end1 rfl rfl fun w' hw => ?_)
  -- ret 0: bo_ false
  have hf : (xs == ys) = false := by
   rw [beq_eq_false_iff_ne]; rintro rfl; simp_all
  exact ⟨ret_b hf.symm, hw.below⟩
 ·
  replace h10 := not_false h10
  replace h10 := of_decide_eq_true h10
  have hlen : xs.length = ys.length := by omega
  refine Wk.skip ?_
  refine Kt.sel [0, 1] [_, _] rfl ?_
  refine Wk.seq ?_
  refine Wk.seq ?_
  refine Wk.regionQ ?_
  refine Lq.run 1 rfl ?_
  refine Lq.nil ?_
  refine Kt.sel [0, 1, 5] [_, _, _] rfl ?_
  refine Wk.block ?_
  refine Wk.loop (σ := Nat) (fun k => k ≤ xs.length ∧ xs.take k = ys.take k) (fun k => [(0, va), (1, vb), (5, i6_ ((k : Int)))]) (fun k => Own w.heap.size w []) (fun k => xs.length - k) (0) ⟨by omega, rfl⟩ (Sub.sel [0, 1, 5] rfl) (fun _ h => h) ?_
  rintro k ⟨hk, hall⟩
  refine Wk.seq ?_
  refine Wk.seq ?_
  refine Wk.regionQ ?_
  refine Lq.run 2 rfl ?_
  refine Lq.op (v := i6_ ((xs.length : Int))) rfl rfl rfl (OpQ.lenRow rfl Tryd.runUnderlying24 rfl (ints_length _) (fun w1 hw1 => Row.own hva hw1)) ?_
  refine Lq.run 1 rfl ?_
  refine Lq.nil ?_
  refine Kt.sel [0, 1, 5, 14] [_, _, _, _] rfl ?_
  refine Wk.cond (b := decide (((k : Int)) < ((xs.length : Int)))) rfl (fun h14 => ?_) (fun h14 => ?_)
  ·
   replace h14 := of_decide_eq_true h14
   refine Wk.skip ?_
   refine Kt.sel [0, 1, 5] [_, _, _] rfl ?_
   refine Wk.seq ?_
   refine Wk.block ?_
   refine Wk.seq ?_
   refine Wk.regionD Base.mixed (fun _ h => h.drawn) (by kernel_rfl) ?_
   refine Lq.run 2 rfl ?_
   refine Lq.op (v := .pointer (some (sAt va ((k : Int))))) rfl rfl rfl (OpQ.atRow rfl Tryd.runUnderlying24 Tryd.sizeOf3 rfl rfl (by omega) (by rw [ints_length]; omega) (fun w1 hw1 => Row.own hva hw1)) ?_
   refine Lq.op (v := i6_ (xs.getD (((k : Int)).toNat) 0)) rfl rfl rfl (OpQ.load1 rfl Tryd.isAgg3 rfl (fun w1 hw1 => Ints.cell (Row.own hva hw1) (by omega) (by omega))) ?_
   refine Lq.run 2 rfl ?_
   refine Lq.op (v := .pointer (some (sAt vb ((k : Int))))) rfl rfl rfl (OpQ.atRow rfl Tryd.runUnderlying24 Tryd.sizeOf3 rfl rfl (by omega) (by rw [ints_length]; omega) (fun w1 hw1 => Row.own hvb hw1)) ?_
   refine Lq.op (v := i6_ (ys.getD (((k : Int)).toNat) 0)) rfl rfl rfl (OpQ.load1 rfl Tryd.isAgg3 rfl (fun w1 hw1 => Ints.cell (Row.own hvb hw1) (by omega) (by omega))) ?_
   refine Lq.run 1 rfl ?_
   refine Lq.nil ?_
   refine Kt.sel [0, 1, 5, 25] [_, _, _, _] rfl ?_
   refine Wk.cond (b := !(decide ((xs.getD (((k : Int)).toNat) 0) = (ys.getD (((k : Int)).toNat) 0)))) rfl (fun h25 => ?_) (fun h25 => ?_)
   ·
    replace h25 := not_true h25
    replace h25 := of_decide_eq_false h25
    refine Wk.seq ?_
    refine Wk.regionQ ?_
    refine Lq.run 1 rfl ?_
    refine Lq.nil ?_
    refine Kt.sel [4] [_] rfl ?_
    refine Wk.ret (Kt.end1 rfl rfl fun w' hw => ?_)
    -- ret 1: bo_ false
    have hf : (xs == ys) = false := by
     rw [beq_eq_false_iff_ne]; rintro rfl; simp_all
    exact ⟨ret_b hf.symm, hw.below⟩
   ·
    replace h25 := not_false h25
    replace h25 := of_decide_eq_true h25
    refine Wk.skip ?_
    refine Kt.sel [0, 1, 5] [_, _, _] rfl ?_
    refine Wk.regionQ ?_
    refine Lq.run 1 rfl ?_
    refine Lq.op rfl rfl rfl (OpQ.add rfl rfl rfl (by omega) (by omega)) ?_
    refine Lq.run 1 rfl ?_
    refine Lq.nil ?_
    refine Kt.again (k + 1) ⟨by omega, eq_take (by omega) (by omega) hall (by simpa using h25)⟩ (by omega) (Sub.sel [0, 1, 5] rfl) (fun _ h => h)
  ·
   replace h14 := of_decide_eq_false h14
   refine Wk.exit rfl ?_
   refine Kt.sel [] [] rfl ?_
   refine Wk.seq ?_
   refine Wk.regionQ ?_
   refine Lq.run 1 rfl ?_
   refine Lq.nil ?_
   refine Kt.sel [4] [_] rfl ?_
   refine Wk.ret (Kt.end1 rfl rfl fun w' hw => ?_)
   -- ret 2: bo_ true
   exact ⟨ret_b (by rw [List.take_of_length_le (by omega), List.take_of_length_le (by omega)] at hall; simp [hall]), hw.below⟩

set_option maxHeartbeats 400000 in
/-- laws.toIntS -/
theorem toInt_ok (va : Value) (xs : List Int) (w : World) (hva : Ints w va xs) (hs : xs.length ≤ 1048576) :
    Calls Tryd.prog 17 [va].toArray w fun en w' => ∃ v, en = .returned v ∧ Below w.heap.size w w' ∧ NewRow w.heap.size 3 1 w' v xs.length (ints xs) := by
 refine fnStart (n := 22) (e := [(0, va)]) Tryd.func17 rfl rfl rfl rfl Ends.both ?_
 refine Wk.seq ?_
 refine Wk.regionQ ?_
 refine Lq.run 1 rfl ?_
 refine Lq.nil ?_
 refine Kt.sel [0] [_] rfl ?_
 refine Wk.seq ?_
 refine Wk.region ?_
 refine Ll.run 1 rfl ?_
 refine Ll.op (v := i6_ ((xs.length : Int))) rfl rfl rfl (OpQ.lenRow rfl Tryd.runUnderlying24 rfl (ints_length _) (fun w1 hw1 => Row.own hva hw1)) ?_
 refine Ll.make (k := xs.length) Base.elem24 Tryd.zeroValue3 rfl rfl rfl rfl rfl (by omega) fun p7 hp7 => ?_
 rw [show madeCells (Value.cells (i6_ 0)) (xs.length * 1) = (ints (List.replicate xs.length 0)).toArray from made_ints _]
 refine Ll.run 1 rfl ?_
 refine Ll.nil ?_
 refine Kt.sel [0, 3] [_, _] rfl ?_
 refine Wk.seq ?_
 refine Wk.seq ?_
 refine Wk.regionQ ?_
 refine Lq.run 1 rfl ?_
 refine Lq.nil ?_
 refine Kt.sel [0, 3, 4] [_, _, _] rfl ?_
 refine Wk.block ?_
 refine Wk.loop (σ := Nat) (fun k => k ≤ xs.length) (fun k => [(0, va), (3, sl_ p7 xs.length xs.length), (4, i6_ ((k : Int)))]) (fun k => Own w.heap.size w [bk_ p7 ((ints (xs.take k ++ List.replicate (xs.length - k) 0)).toArray) 3]) (fun k => xs.length - k) (0) (by omega) (Sub.sel [0, 3, 4] rfl) (fun _ h => by simpa using h) ?_
 rintro k hk
 refine Wk.seq ?_
 refine Wk.seq ?_
 refine Wk.regionQ ?_
 refine Lq.run 2 rfl ?_
 refine Lq.op (v := i6_ ((xs.length : Int))) rfl rfl rfl (OpQ.lenRow rfl Tryd.runUnderlying24 rfl (ints_length _) (fun w1 hw1 => Row.own hva hw1)) ?_
 refine Lq.run 1 rfl ?_
 refine Lq.nil ?_
 refine Kt.sel [0, 3, 4, 11] [_, _, _, _] rfl ?_
 refine Wk.cond (b := decide (((k : Int)) < ((xs.length : Int)))) rfl (fun h11 => ?_) (fun h11 => ?_)
 ·
  replace h11 := of_decide_eq_true h11
  refine Wk.skip ?_
  refine Kt.sel [0, 3, 4] [_, _, _] rfl ?_
  refine Wk.seq ?_
  refine Wk.block ?_
  refine Wk.region ?_
  refine Ll.run 4 rfl ?_
  refine Ll.op (v := .pointer (some (sAt va ((k : Int))))) rfl rfl rfl (OpQ.atRow rfl Tryd.runUnderlying24 Tryd.sizeOf3 rfl rfl (by omega) (by rw [ints_length]; omega) (fun w1 hw1 => Row.own hva hw1)) ?_
  refine Ll.op (v := i6_ (xs.getD (((k : Int)).toNat) 0)) rfl rfl rfl (OpQ.load1 rfl Tryd.isAgg3 rfl (fun w1 hw1 => Ints.cell (Row.own hva hw1) (by omega) (by omega))) ?_
  refine Ll.op (v := pf_ p7 (0 + ((k : Int)).toNat)) rfl rfl rfl (OpQ.indexAddr1 rfl Tryd.runUnderlying24 Tryd.sizeOf3 rfl rfl (by omega) (by omega)) ?_
  refine Ll.store1 (v := i6_ (xs.getD (((k : Int)).toNat) 0)) (hs' := [bk_ p7 ((ints ((xs.take k ++ List.replicate (xs.length - k) 0).set (((k : Int)).toNat) (xs.getD (((k : Int)).toNat) 0))).toArray) 3]) 0 rfl rfl rfl rfl rfl rfl Tryd.sizeOf3 rfl (by first | (simp; done) | (simp; omega) | omega) (by first | (rw [ints_set]; rfl) | (simp only [Nat.zero_add]; rw [ints_set]; rfl)) ?_
  refine Ll.nil ?_
  refine Kt.sel [0, 3, 4] [_, _, _] rfl ?_
  refine Wk.regionQ ?_
  refine Lq.run 1 rfl ?_
  refine Lq.op rfl rfl rfl (OpQ.add rfl rfl rfl (by omega) (by omega)) ?_
  refine Lq.run 1 rfl ?_
  refine Lq.nil ?_
  refine Kt.again (k + 1) (by omega) (by omega) (Sub.sel [0, 3, 4] rfl) (fun _ h => by rw [show xs.take (k + 1) ++ List.replicate (xs.length - (k + 1)) 0 = (xs.take k ++ List.replicate (xs.length - k) 0).set (((k : Int)).toNat) (xs.getD (((k : Int)).toNat) 0) from (by simp only [Int.toNat_natCast]; exact (rep_set (by omega)).symm)]; exact h)
 ·
  replace h11 := of_decide_eq_false h11
  refine Wk.exit rfl ?_
  refine Kt.sel [3] [_] rfl ?_
  refine Wk.seq ?_
  refine Wk.regionQ ?_
  refine Lq.run 2 rfl ?_
  refine Lq.nil ?_
  refine Kt.sel [2] [_] rfl ?_
  refine Wk.ret (Kt.end1 rfl rfl fun w' hw => ?_)
  -- ret 0: sl_ p7 xs.length xs.length
  obtain rfl : k = xs.length := by omega
  exact ⟨_, rfl, hw.below, hw.newRow (i := 0) (n := xs.length) rfl (by simp) (by omega) (by simp [List.take_of_length_le])⟩

end Go.Proofs.YtjcoijejhachhaaDoor
