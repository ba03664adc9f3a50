/-
  Walks: classes of elements.
-/
import Derived.Test.YtmannilblelfjaaDoorPlain36
import Derived.Test.YtmannilblelfjaaDoorCountsM
import Derived.Test.YtmannilblelfjaaDoorBase
namespace Go.Proofs.YtmannilblelfjaaDoor
open Go.RowKit Go.Wk
set_option linter.unusedSimpArgs false

set_option maxHeartbeats 400000 in
/-- impl.ClassesOf$1 -/
theorem cls1_ok (a : St) (g h T1 T2 : Nat) (r x y : Int) (w : World) (hg : w.heap[g]? = some (.cells #[.int .i64 a.n, str a.set, str a.rel] T1 (0, 0))) (hh : w.heap[h]? = some (.cells #[.int .i64 r] T2 (0, 0))) (ha : a.Fine) (h0 : 0 ≤ r) (h3 : r ≤ 3) (hx : a.El x) (hy : a.El y) :
    Calls Tryd.prog 104 [i6_ x, i6_ y, .pointer (some ⟨g, 0, none⟩), .pointer (some ⟨h, 0, none⟩)].toArray w fun en w' => en = .returned (.bool (winB r.toNat a [x] a [y])) ∧ Below w.heap.size w w' := by
 refine fnStart (n := 15) (e := [(0, i6_ x), (1, i6_ y), (2, .pointer (some ⟨g, 0, none⟩)), (3, .pointer (some ⟨h, 0, none⟩))]) Tryd.func104 rfl rfl rfl rfl Ends.both ?_
 refine Wk.seq ?_
 refine Wk.regionQ ?_
 refine Lq.run 1 rfl ?_
 refine Lq.nil ?_
 refine Kt.sel [0, 1, 2, 3] [_, _, _, _] rfl ?_
 refine Wk.seq ?_
 refine Wk.region ?_
 refine Ll.op (v := vS a) rfl rfl rfl (OpQ.loadN (cs := #[i6_ a.n, str a.set, str a.rel]) rfl Tryd.isAgg24 Tryd.sizeOf24 rfl (fun w1 hw1 j v hj => box_cells hg hw1 j v hj)) ?_
 refine Ll.run 1 rfl ?_
 refine Ll.slice (xs := [.tmp 8]) (vs := [i6_ x]) Base.elem25 rfl rfl rfl rfl rfl rfl (by decide) rfl fun p9 hp9 => ?_
 refine Ll.op (v := vS a) rfl rfl rfl (OpQ.loadN (cs := #[i6_ a.n, str a.set, str a.rel]) rfl Tryd.isAgg24 Tryd.sizeOf24 rfl (fun w1 hw1 j v hj => box_cells hg hw1 j v hj)) ?_
 refine Ll.run 1 rfl ?_
 refine Ll.slice (xs := [.tmp 11]) (vs := [i6_ y]) Base.elem25 rfl rfl rfl rfl rfl rfl (by decide) rfl fun p12 hp12 => ?_
 refine Ll.op (v := i6_ r) rfl rfl rfl (OpQ.load1 rfl Tryd.isAgg3 rfl (fun w1 hw1 => by have := box_cells hh hw1 0 (i6_ r) rfl; rwa [Addr.add_lit] at this)) ?_
 refine Ll.op (v := bo_ (winB r.toNat a ([x]) a ([y]))) rfl rfl rfl (OpQ.call rfl Tryd.call81 rfl Own.stable (fun w1 hw1 => wins_ok a a ([x]) ([y]) (sl_ p9 1 1) (sl_ p12 1 1) w1 ha ha (Own.row hw1 (i := 1) rfl (n := 1) (cap := 1) (vs := ints [x]) rfl rfl (by decide)) (Own.row hw1 (i := 0) rfl (n := 1) (cap := 1) (vs := ints [y]) rfl rfl (by decide)) (els_one hx) (els_one hy) rfl (by simp) r (by omega) (by omega))) ?_
 refine Ll.run 1 rfl ?_
 refine Ll.nil ?_
 refine Kt.sel [6] [_] rfl ?_
 refine Wk.ret (Kt.end1 rfl rfl fun w' hw => ?_)
 -- ret 0: bo_ (winB r.toNat a ([x]) a ([y]))
 exact ⟨rfl, hw.below⟩

set_option maxHeartbeats 400000 in
/-- impl.ClassesOf|yes -/
theorem iCls_yes (a : St) (r : Int) (w : World) (hsa : a.Small) (hv : clsOk a r = true) :
    Calls Tryd.prog 38 [vS a, i6_ r].toArray w fun en w' => ∃ v, en = .returned v ∧ Below w.heap.size w w' ∧ NewRow w.heap.size 3 1 w' v (clsOf a r).length (ints (clsOf a r)) := by
 refine fnStart (n := 20) (e := [(0, vS a), (1, i6_ r)]) Tryd.func38 rfl rfl rfl rfl Ends.both ?_
 obtain ⟨hV, h0, h3⟩ := clsOk_true hv
 have ha := validB_fine hV
 have hm8 := ha.hi
 have hm1 := ha.lo
 refine Wk.seq ?_
 refine Wk.region ?_
 refine Ll.box (v := vS a) rfl rfl rfl rfl rfl fun p2 hp2 => ?_
 show Ll _ _ (Own _ _ [_]) _ _ ((2, pt_ p2) :: _) _ _ _
 refine Ll.box (v := i6_ r) rfl rfl rfl rfl rfl fun p3 hp3 => ?_
 show Ll _ _ (Own _ _ [_, _]) _ _ ((3, pt_ p3) :: _) _ _ _
 refine Ll.run 1 rfl ?_
 refine Ll.nil ?_
 refine Kt.sel [2, 3] [_, _] rfl ?_
 refine Wk.seq ?_
 refine Wk.seq ?_
 refine Wk.regionQ ?_
 refine Lq.op rfl rfl rfl (OpQ.loadBox (cs := #[i6_ a.n, str a.set, str a.rel]) 1 rfl Tryd.isAgg24 rfl rfl Tryd.sizeOf24) ?_
 refine Lq.op (v := bo_ true) rfl rfl rfl (OpQ.call rfl Tryd.call68 rfl Own.stable (fun w1 hw1 => known_b hV (isStructure_ok a w1 hsa))) ?_
 refine Lq.run 2 rfl ?_
 refine Lq.op rfl rfl rfl (OpQ.loadOwn 0 rfl Tryd.isAgg3 rfl rfl rfl) ?_
 refine Lq.run 3 rfl ?_
 refine Lq.bool fun b12 hg12 => ?_
 cases b12
 ·
  replace hg12 := of_decide_eq_false hg12
  refine Lq.op rfl rfl rfl (OpQ.loadOwn 0 rfl Tryd.isAgg3 rfl rfl rfl) ?_
  refine Lq.run 2 rfl ?_
  refine Lq.nil ?_
  refine Kt.sel [2, 3, 15] [_, _, _] rfl ?_
  refine Wk.cond (b := decide ((3 : Int) < r)) rfl (fun h15 => ?_) (fun h15 => ?_)
  ·
   replace h15 := of_decide_eq_true h15
   omega
  ·
   replace h15 := of_decide_eq_false h15
   refine Wk.skip ?_
   refine Kt.sel [2, 3] [_, _] rfl ?_
   refine Wk.seq ?_
   refine Wk.region ?_
   refine Ll.op rfl rfl rfl (OpQ.fieldAddr rfl Tryd.runUnderlying24 rfl Tryd.sizeOf3 rfl rfl) ?_
   refine Ll.op rfl rfl rfl (OpQ.loadOwn 1 rfl Tryd.isAgg3 rfl rfl rfl) ?_
   refine Ll.op (v := .func (.func 104) #[] #[pt_ p2, pt_ p3]) rfl rfl rfl (OpQ.func' (cap := [.tmp 2, .tmp 3]) rfl rfl) ?_
   refine Ll.callRow (xs := [.tmp 17, .tmp 18]) (m := (clsOf a r).length) (vs := ints (clsOf a r)) (el := 3) (size := 1) rfl rfl rfl rfl Tryd.call99 rfl (fun w1 hw1 => classesBy_ok a.n w1 (by omega) 104 #[pt_ p2, pt_ p3] (fun y x => winB r.toNat a [(y : Int)] a [(x : Int)]) Tryd.call104 (fun w2 hb y x hy hx => cls1_ok a p2 p3 _ _ r y x w2 ((hw1.stable _ _ hb).has 1 _ _ rfl).2 ((hw1.stable _ _ hb).has 0 _ _ rfl).2 ha h0 h3 ⟨by omega, by omega⟩ ⟨by omega, by omega⟩)) fun p19 cap19 cur19 hp19 hcp19 hlp19 htp19 => ?_
   refine Ll.run 1 rfl ?_
   refine Ll.nil ?_
   refine Kt.sel [4] [_] rfl ?_
   refine Wk.ret (Kt.end1 rfl rfl fun w' hw => ?_)
   -- ret 0: sl_ p19 ((clsOf a r).length) cap19
   exact ⟨_, rfl, hw.below, hw.newRow (i := 0) (n := _) rfl hcp19 hlp19 (by simpa using htp19)⟩
 ·
  replace hg12 := of_decide_eq_true hg12
  omega

set_option maxHeartbeats 400000 in
/-- impl.ClassesOf|no -/
theorem iCls_no (a : St) (r : Int) (w : World) (hsa : a.Small) (hv : clsOk a r = false) :
    Calls Tryd.prog 38 [vS a, i6_ r].toArray w fun en w' => en = .returned (.slice none 0 0) ∧ Below w.heap.size w w' := by
 refine fnStart (n := 20) (e := [(0, vS a), (1, i6_ r)]) Tryd.func38 rfl rfl rfl rfl Ends.both ?_
 refine Wk.seq ?_
 refine Wk.region ?_
 refine Ll.box (v := vS a) rfl rfl rfl rfl rfl fun p2 hp2 => ?_
 show Ll _ _ (Own _ _ [_]) _ _ ((2, pt_ p2) :: _) _ _ _
 refine Ll.box (v := i6_ r) rfl rfl rfl rfl rfl fun p3 hp3 => ?_
 show Ll _ _ (Own _ _ [_, _]) _ _ ((3, pt_ p3) :: _) _ _ _
 refine Ll.run 1 rfl ?_
 refine Ll.nil ?_
 refine Kt.sel [2, 3] [_, _] rfl ?_
 refine Wk.seq ?_
 refine Wk.seq ?_
 refine Wk.regionQ ?_
 refine Lq.op rfl rfl rfl (OpQ.loadBox (cs := #[i6_ a.n, str a.set, str a.rel]) 1 rfl Tryd.isAgg24 rfl rfl Tryd.sizeOf24) ?_
 refine Lq.op (v := bo_ (validB a)) rfl rfl rfl (OpQ.call rfl Tryd.call68 rfl Own.stable (fun w1 hw1 => isStructure_ok a w1 hsa)) ?_
 refine Lq.run 2 rfl ?_
 refine Lq.bool fun b8 hg8 => ?_
 cases b8
 ·
  replace hg8 := not_false hg8
  refine Lq.op rfl rfl rfl (OpQ.loadOwn 0 rfl Tryd.isAgg3 rfl rfl rfl) ?_
  refine Lq.run 3 rfl ?_
  refine Lq.bool fun b12 hg12 => ?_
  cases b12
  ·
   replace hg12 := of_decide_eq_false hg12
   refine Lq.op rfl rfl rfl (OpQ.loadOwn 0 rfl Tryd.isAgg3 rfl rfl rfl) ?_
   refine Lq.run 2 rfl ?_
   refine Lq.nil ?_
   refine Kt.sel [2, 3, 15] [_, _, _] rfl ?_
   refine Wk.cond (b := decide ((3 : Int) < r)) rfl (fun h15 => ?_) (fun h15 => ?_)
   ·
    replace h15 := of_decide_eq_true h15
    refine Wk.seq ?_
    refine Wk.regionQ ?_
    refine Lq.run 1 rfl ?_
    refine Lq.nil ?_
    refine Kt.sel [4] [_] rfl ?_
    refine Wk.ret (Kt.end1 rfl rfl fun w' hw => ?_)
    -- ret 0: .slice none 0 0
    exact ⟨rfl, hw.below⟩
   ·
    replace h15 := of_decide_eq_false h15
    exact absurd hv (by unfold clsOk inB; first | (simp_all; done) | (simp_all; omega))
  ·
   replace hg12 := of_decide_eq_true hg12
   refine Lq.pass rfl rfl rfl ?_
   refine Lq.pass rfl rfl rfl ?_
   refine Lq.run 1 rfl ?_
   refine Lq.nil ?_
   refine Kt.sel [2, 3, 15] [_, _, _] rfl ?_
   refine Wk.condT rfl ?_
   refine Wk.seq ?_
   refine Wk.regionQ ?_
   refine Lq.run 1 rfl ?_
   refine Lq.nil ?_
   refine Kt.sel [4] [_] rfl ?_
   refine Wk.ret (Kt.end1 rfl rfl fun w' hw => ?_)
   -- ret 1: .slice none 0 0
   exact ⟨rfl, hw.below⟩
 ·
  replace hg8 := not_true hg8
  refine Lq.pass rfl rfl rfl ?_
  refine Lq.pass rfl rfl rfl ?_
  refine Lq.run 2 rfl ?_
  refine Lq.pass rfl rfl rfl ?_
  refine Lq.pass rfl rfl rfl ?_
  refine Lq.run 1 rfl ?_
  refine Lq.nil ?_
  refine Kt.sel [2, 3, 15] [_, _, _] rfl ?_
  refine Wk.condT rfl ?_
  refine Wk.seq ?_
  refine Wk.regionQ ?_
  refine Lq.run 1 rfl ?_
  refine Lq.nil ?_
  refine Kt.sel [4] [_] rfl ?_
  refine Wk.ret (Kt.end1 rfl rfl fun w' hw => ?_)
  -- ret 2: .slice none 0 0
  exact ⟨rfl, hw.below⟩

set_option maxHeartbeats 400000 in
/-- spec.l1Has -/
theorem l1Has_ok (va : Value) (xs : List Int) (m : Int) (w : World) (hva : Ints w va xs) (hs : xs.length ≤ 140737488355328) :
    Calls Tryd.prog 105 [va, i6_ m].toArray w fun en w' => en = .returned (.bool (decide (m ∈ xs))) ∧ Below w.heap.size w w' := by
 refine fnStart (n := 18) (e := [(0, va), (1, i6_ m)]) Tryd.func105 rfl rfl rfl rfl Ends.both ?_
 refine Wk.seq ?_
 refine Wk.regionQ ?_
 refine Lq.run 1 rfl ?_
 refine Lq.nil ?_
 refine Kt.sel [0, 1] [_, _] rfl ?_
 refine Wk.seq ?_
 refine Wk.seq ?_
 refine Wk.regionQ ?_
 refine Lq.run 1 rfl ?_
 refine Lq.nil ?_
 refine Kt.sel [0, 1, 5] [_, _, _] rfl ?_
 refine Wk.block ?_
 refine Wk.loop (σ := Nat) (fun k => k ≤ xs.length ∧ ∀ i : Nat, i < k → ¬ xs.getD i 0 = m) (fun k => [(0, va), (1, i6_ m), (5, i6_ ((k : Int)))]) (fun k => Own w.heap.size w []) (fun k => xs.length - k) (0) ⟨by omega, fun i hi => absurd hi (by omega)⟩ (Sub.sel [0, 1, 5] rfl) (fun _ h => h) ?_
 rintro k ⟨hk, hall⟩
 refine Wk.seq ?_
 refine Wk.seq ?_
 refine Wk.regionQ ?_
 refine Lq.run 2 rfl ?_
 refine Lq.op (v := i6_ ((xs.length : Int))) rfl rfl rfl (OpQ.lenRow rfl Tryd.runUnderlying25 rfl (ints_length _) (fun w1 hw1 => Row.own hva hw1)) ?_
 refine Lq.run 1 rfl ?_
 refine Lq.nil ?_
 refine Kt.sel [0, 1, 5, 9] [_, _, _, _] rfl ?_
 refine Wk.cond (b := decide (((k : Int)) < ((xs.length : Int)))) rfl (fun h9 => ?_) (fun h9 => ?_)
 ·
  replace h9 := of_decide_eq_true h9
  refine Wk.skip ?_
  refine Kt.sel [0, 1, 5] [_, _, _] rfl ?_
  refine Wk.seq ?_
  refine Wk.block ?_
  refine Wk.seq ?_
  refine Wk.regionQ ?_
  refine Lq.run 2 rfl ?_
  refine Lq.op (v := .pointer (some (sAt va ((k : Int))))) rfl rfl rfl (OpQ.atRow rfl Tryd.runUnderlying25 Tryd.sizeOf3 rfl rfl (by omega) (by rw [ints_length]; omega) (fun w1 hw1 => Row.own hva hw1)) ?_
  refine Lq.op (v := i6_ (xs.getD (((k : Int)).toNat) 0)) rfl rfl rfl (OpQ.load1 rfl Tryd.isAgg3 rfl (fun w1 hw1 => Ints.cell (Row.own hva hw1) (by omega) (by omega))) ?_
  refine Lq.run 2 rfl ?_
  refine Lq.nil ?_
  refine Kt.sel [0, 1, 5, 17] [_, _, _, _] rfl ?_
  refine Wk.cond (b := decide ((xs.getD (((k : Int)).toNat) 0) = m)) rfl (fun h17 => ?_) (fun h17 => ?_)
  ·
   replace h17 := of_decide_eq_true h17
   refine Wk.seq ?_
   refine Wk.regionQ ?_
   refine Lq.run 1 rfl ?_
   refine Lq.nil ?_
   refine Kt.sel [4] [_] rfl ?_
   refine Wk.ret (Kt.end1 rfl rfl fun w' hw => ?_)
   -- ret 0: bo_ true
   exact ⟨ret_b (has_at (k := k) (by omega) (by simpa using h17)).symm, hw.below⟩
  ·
   replace h17 := of_decide_eq_false h17
   refine Wk.skip ?_
   refine Kt.sel [0, 1, 5] [_, _, _] rfl ?_
   refine Wk.regionQ ?_
   refine Lq.run 1 rfl ?_
   refine Lq.op rfl rfl rfl (OpQ.add rfl rfl rfl (by omega) (by omega)) ?_
   refine Lq.run 1 rfl ?_
   refine Lq.nil ?_
   refine Kt.again (k + 1) ⟨by omega, fun i hi => (Nat.lt_succ_iff_lt_or_eq.1 hi).elim (hall i) (fun e => by subst e; simpa using h17)⟩ (by omega) (Sub.sel [0, 1, 5] rfl) (fun _ h => h)
 ·
  replace h9 := of_decide_eq_false h9
  refine Wk.exit rfl ?_
  refine Kt.sel [] [] rfl ?_
  refine Wk.seq ?_
  refine Wk.regionQ ?_
  refine Lq.run 1 rfl ?_
  refine Lq.nil ?_
  refine Kt.sel [4] [_] rfl ?_
  refine Wk.ret (Kt.end1 rfl rfl fun w' hw => ?_)
  -- ret 1: bo_ false
  exact ⟨ret_b (has_no (fun i hi => hall i (by omega))).symm, hw.below⟩

set_option maxHeartbeats 400000 in
/-- spec.ClassesOf|yes -/
theorem sCls_yes (a : St) (r : Int) (w : World) (hsa : a.Small) (hv : clsOk a r = true) :
    Calls Tryd.prog 39 [vS a, i6_ r].toArray w fun en w' => ∃ v, en = .returned v ∧ Below w.heap.size w w' ∧ NewRow w.heap.size 3 1 w' v (clsOf a r).length (ints (clsOf a r)) := by
 refine fnStart (n := 60) (e := [(0, vS a), (1, i6_ r)]) Tryd.func39 rfl rfl rfl rfl Ends.both ?_
 obtain ⟨hV, h0, h3⟩ := clsOk_true hv
 have ha := validB_fine hV
 have hm8 := ha.hi
 have hm1 := ha.lo
 have hcn := cnt_small (n := r.toNat) (by omega)
 refine Wk.seq ?_
 refine Wk.region ?_
 refine Ll.box (v := vS a) rfl rfl rfl rfl rfl fun p2 hp2 => ?_
 show Ll _ _ (Own _ _ [_]) _ _ ((2, pt_ p2) :: _) _ _ _
 refine Ll.run 1 rfl ?_
 refine Ll.nil ?_
 refine Kt.sel [1, 2] [_, _] rfl ?_
 refine Wk.seq ?_
 refine Wk.region ?_
 refine Ll.slice (xs := []) (vs := []) Base.elem25 rfl rfl rfl rfl rfl rfl (by decide) rfl fun p11 hp11 => ?_
 refine Ll.run 1 rfl ?_
 refine Ll.nil ?_
 refine Kt.sel [1, 2, 5] [_, _, _] rfl ?_
 refine Wk.seq ?_
 refine Wk.region ?_
 refine Ll.slice (xs := []) (vs := []) Base.elem25 rfl rfl rfl rfl rfl rfl (by decide) rfl fun p12 hp12 => ?_
 refine Ll.run 1 rfl ?_
 refine Ll.nil ?_
 refine Kt.sel [1, 2, 5, 6] [_, _, _, _] rfl ?_
 refine Wk.seq ?_
 refine Wk.seq ?_
 refine Wk.regionQ ?_
 refine Lq.op rfl rfl rfl (OpQ.loadBox (cs := #[i6_ a.n, str a.set, str a.rel]) 2 rfl Tryd.isAgg24 rfl rfl Tryd.sizeOf24) ?_
 refine Lq.op (v := bo_ true) rfl rfl rfl (OpQ.call rfl Tryd.call88 rfl Own.stable (fun w1 hw1 => known_b hV (sValid_ok a w1 hsa))) ?_
 refine Lq.run 3 rfl ?_
 refine Lq.op (v := bo_ true) rfl rfl rfl (OpQ.call rfl Tryd.call75 rfl Own.stable (fun w1 hw1 => known_b (by unfold inB; simp [h0, h3]) (l1In_ok r 0 3 w1 ))) ?_
 refine Lq.run 2 rfl ?_
 refine Lq.nil ?_
 refine Kt.sel [1, 2, 5, 6, 20] [_, _, _, _, _] rfl ?_
 refine Wk.condF rfl ?_
 refine Wk.skip ?_
 refine Kt.sel [1, 2, 5, 6] [_, _, _, _] rfl ?_
 refine Wk.seq ?_
 refine Wk.region ?_
 refine Ll.callGet (σ := Nat × Nat × List Bkt) (ok := fun s => TabOk s.2.2 []) (v := fun s => .agg #[.slice (some ⟨s.1, 0, none⟩) 997 997, .slice (some ⟨s.2.1, 0, none⟩) 1 1]) (xs := []) (vs := []) (hs' := fun s => [bk_ p12 #[] 3, bk_ p11 #[] 3, bk_ p2 #[i6_ a.n, str a.set, str a.rel] 24] ++ (tabL 145 3 147 s.1 s.2.1 s.2.2 [] ++ [])) rfl rfl rfl rfl Tryd.call101 rfl (fun w1 hw1 => (l5New_ok _ _ _ w1 hw1).mono fun en w' ⟨q, c, h1, h2⟩ => ⟨(q, c, _), h1, TabOk.new, by dsimp only; rw [List.append_nil]; exact h2.perm perm_front⟩) fun ⟨q, c, bs0⟩ hT0 => ?_
 show Ll _ _ (Own _ _ (_ :: _ :: _ :: _ :: _ :: ((blks 147 bs0 ++ [])))) _ _ ((22, .agg #[sl_ q 997 997, sl_ c 1 1]) :: _) _ _ _
 refine Ll.alloc rfl rfl rfl rfl Tryd.zeroValue93 fun p7 hp7 => ?_
 show Ll _ _ (Own _ _ (bk_ p7 #[.slice none 0 0, .slice none 0 0] 93 :: _ :: _ :: _ :: _ :: _ :: ((blks 147 bs0 ++ [])))) _ _ ((7, pt_ p7) :: _) _ _ _
 refine Ll.storeBox (cs' := #[sl_ q 997 997, sl_ c 1 1]) (hs' := (bk_ p7 #[sl_ q 997 997, sl_ c 1 1] 93 :: _ :: _ :: _ :: _ :: _ :: ((blks 147 bs0 ++ [])))) 0 rfl rfl rfl rfl rfl (by kernel_rfl : _ = some Tryd.t93) rfl rfl rfl rfl rfl ?_
 refine Ll.nil ?_
 refine Kt.sel [1, 2, 5, 6, 7] [_, _, _, _, _] rfl ?_
 refine Wk.seq ?_
 refine Wk.seq ?_
 refine Wk.regionQ ?_
 refine Lq.run 1 rfl ?_
 refine Lq.nil ?_
 refine Kt.sel [1, 2, 5, 6, 7, 8] [_, _, _, _, _, _] rfl ?_
 refine Wk.block ?_
 refine Wk.loop (σ := Nat × List Bkt × List (List UInt8) × Nat × Nat × Array Value × Nat × Nat × Array Value × List Int × List Int) (fun ⟨k, bs1, T1, gs, cs, us, go, co, uo, S, O⟩ => (k : Int) ≤ a.n ∧ TabTo ([] : List (List UInt8)) bs1 T1 (k * cnt r.toNat) ∧ SeenL T1 r.toNat a k S O ∧ us.size = cs * 1 ∧ S.length ≤ cs ∧ us.toList.take S.length = ints S ∧ uo.size = co * 1 ∧ O.length ≤ co ∧ uo.toList.take O.length = ints O) (fun ⟨k, bs1, T1, gs, cs, us, go, co, uo, S, O⟩ => [(1, i6_ r), (2, pt_ p2), (5, sl_ go O.length co), (6, sl_ gs S.length cs), (7, pt_ p7), (8, i6_ ((k : Int)))]) (fun ⟨k, bs1, T1, gs, cs, us, go, co, uo, S, O⟩ => Own w.heap.size w (bk_ p7 #[sl_ q 997 997, sl_ c 1 1] 93 :: bk_ gs us 3 :: bk_ go uo 3 :: bk_ p2 #[i6_ a.n, str a.set, str a.rel] 24 :: bk_ q ((bs1.map bktV).toArray) 145 :: bk_ c #[i6_ ((T1.length : Int))] 3 :: ((blks 147 bs1 ++ [])))) (fun ⟨k, bs1, T1, gs, cs, us, go, co, uo, S, O⟩ => (a.n - k).toNat) ((0, bs0, [], p12, 0, #[], p11, 0, #[], [], [])) ⟨by omega, ⟨hT0, List.prefix_refl _, by omega⟩, SeenL.zero, rfl, Nat.le_refl 0, rfl, rfl, Nat.le_refl 0, rfl⟩ (Sub.sel [1, 2, 5, 6, 7, 8] rfl) (fun _ h => h) ?_
 rintro ⟨k, bs1, T1, gs, cs, us, go, co, uo, S, O⟩ ⟨hk, hTT, hSn, hcs, hls, hts, hco, hlo, hto⟩
 dsimp only
 obtain ⟨hOl, hSl⟩ := hSn.len
 have hTl := hTT.len
 simp only [List.length_nil] at hTl
 have hk8 := cnt_le k r.toNat (by omega)
 refine Wk.seq ?_
 refine Wk.seq ?_
 refine Wk.regionQ ?_
 refine Lq.run 1 rfl ?_
 refine Lq.op rfl rfl rfl (OpQ.fieldAddr rfl Tryd.runUnderlying24 rfl Tryd.sizeOf3 rfl rfl) ?_
 refine Lq.op rfl rfl rfl (OpQ.loadOwn 3 rfl Tryd.isAgg3 rfl rfl rfl) ?_
 refine Lq.run 1 rfl ?_
 refine Lq.nil ?_
 refine Kt.sel [1, 2, 5, 6, 7, 8, 26] [_, _, _, _, _, _, _] rfl ?_
 refine Wk.cond (b := decide (((k : Int)) < a.n)) rfl (fun h26 => ?_) (fun h26 => ?_)
 ·
  replace h26 := of_decide_eq_true h26
  have hx : a.El k := ⟨by omega, by omega⟩
  refine Wk.skip ?_
  refine Kt.sel [1, 2, 5, 6, 7, 8] [_, _, _, _, _, _] rfl ?_
  refine Wk.seq ?_
  refine Wk.block ?_
  refine Wk.seq ?_
  refine Wk.region ?_
  refine Ll.op rfl rfl rfl (OpQ.loadBox (cs := #[sl_ q 997 997, sl_ c 1 1]) 0 rfl Tryd.isAgg93 rfl rfl Tryd.sizeOf93) ?_
  refine Ll.op rfl rfl rfl (OpQ.loadBox (cs := #[i6_ a.n, str a.set, str a.rel]) 3 rfl Tryd.isAgg24 rfl rfl Tryd.sizeOf24) ?_
  refine Ll.run 1 rfl ?_
  refine Ll.slice (xs := [.tmp 31]) (vs := [i6_ ((k : Int))]) Base.elem25 rfl rfl rfl rfl rfl rfl (by decide) rfl fun p32 hp32 => ?_
  refine Ll.run 1 rfl ?_
  refine Ll.callTab (S := 145) (I := 3) (E := 147) (q := q) (c := c) (bs := bs1) (T := T1) (hs := []) (ok := fun m bs' T' => TabTo T1 bs' T' (cnt r.toNat) ∧ Means T' r.toNat a ([(k : Int)]) m) (xs := [.tmp 29, .tmp 30, .tmp 32, .tmp 33]) (vs := [.agg #[sl_ q 997 997, sl_ c 1 1], vS a, sl_ p32 1 1, i6_ r]) [bk_ p32 #[i6_ ((k : Int))] 3, bk_ p7 #[sl_ q 997 997, sl_ c 1 1] 93, bk_ gs us 3, bk_ go uo 3, bk_ p2 #[i6_ a.n, str a.set, str a.rel] 24] rfl rfl rfl rfl Tryd.call103 rfl (fun w1 hw1 => type_at r h0 w.heap.size w ([bk_ p32 #[i6_ ((k : Int))] 3, bk_ p7 #[sl_ q 997 997, sl_ c 1 1] 93, bk_ gs us 3, bk_ go uo 3, bk_ p2 #[i6_ a.n, str a.set, str a.rel] 24] ++ []) q c bs1 T1 a (sl_ p32 1 1) ([(k : Int)]) w1 hTT.ok ha (fun w2 hw2 => (Own.row hw2 (i := 0) rfl (n := 1) (cap := 1) (vs := ints [(k : Int)]) rfl rfl (by decide))) (els_one hx) (by simp; omega) (by omega) hw1) fun m bs_ T_ hKm => ?_
  show Ll _ _ (Own _ _ (_ :: _ :: _ :: _ :: _ :: _ :: _ :: ((blks 147 bs_ ++ [])))) _ _ ((34, i6_ ((m : Int))) :: _) _ _ _
  refine Ll.run 1 rfl ?_
  refine Ll.nil ?_
  refine Kt.sel [1, 2, 5, 6, 7, 8, 9] [_, _, _, _, _, _, _] rfl ?_
  refine Wk.seq ?_
  refine Wk.seq ?_
  refine Wk.regionQ ?_
  refine Lq.run 2 rfl ?_
  refine Lq.op (v := bo_ (decide (((m : Int)) ∈ S))) rfl rfl rfl (OpQ.call rfl Tryd.call105 rfl Own.stable (fun w1 hw1 => l1Has_ok (sl_ gs S.length cs) S ((m : Int)) w1 (Own.row hw1 (i := 2) rfl hts (by simp) hls) (by first | (simp; done) | (simp; omega) | omega))) ?_
  refine Lq.run 1 rfl ?_
  refine Lq.nil ?_
  refine Kt.sel [1, 2, 5, 6, 7, 8, 9, 38] [_, _, _, _, _, _, _, _] rfl ?_
  refine Wk.cond (b := !(decide (((m : Int)) ∈ S))) rfl (fun h38 => ?_) (fun h38 => ?_)
  ·
   replace h38 := not_true h38
   replace h38 := of_decide_eq_false h38
   obtain ⟨kk, hkk, hix, hSN⟩ := hSn.step_new hKm.1.pre hKm.1.ok.nodup hKm.2 (by simpa using h38)
   have hS2 : (S ++ [(m : Int)]).length ≤ 9 := by simp; omega
   refine Wk.region ?_
   refine Ll.run 2 rfl ?_
   refine Ll.slice (xs := [.tmp 40]) (vs := [i6_ ((m : Int))]) Base.elem25 rfl rfl rfl rfl rfl rfl (by decide) rfl fun p41 hp41 => ?_
   refine Ll.appendInts (xs := S) (ys := [(m : Int)]) Base.elem25 3 rfl rfl rfl rfl rfl rfl rfl hcs hls hts (fun w1 hw1 => (Own.row hw1 (i := 0) rfl (n := 1) (cap := 1) (vs := ints [(m : Int)]) rfl rfl (by decide))) ((S ++ ([(m : Int)])).length) (by first | (simp; done) | (simp; omega)) (by first | (simp; done) | (simp; omega) | omega) fun p42 cap42 cur42 hp42 hcp42 hlp42 htp42 => ?_
   show Ll _ _ (Own _ _ (_ :: _ :: _ :: _ :: _ :: _ :: _ :: _ :: ((blks 147 bs_ ++ [])))) _ _ ((42, sl_ p42 (((S ++ ([(m : Int)])).length)) cap42) :: _) _ _ _
   refine Ll.run 1 rfl ?_
   refine Ll.nil ?_
   refine Kt.sel [1, 2, 5, 6, 7, 8, 9] [_, _, _, _, _, _, _] rfl ?_
   refine Wk.seq ?_
   refine Wk.regionQ ?_
   refine Lq.run 1 rfl ?_
   refine Lq.nil ?_
   refine Kt.sel [1, 2, 5, 6, 7, 8, 9, 10] [_, _, _, _, _, _, _, _] rfl ?_
   refine Wk.block ?_
   refine Wk.loop (σ := Nat × Nat × Nat × Array Value) (fun ⟨j, g3, c3, u3⟩ => j ≤ ((S ++ ([(m : Int)])).length) ∧ u3.size = c3 * 1 ∧ (outAt O kk j).length ≤ c3 ∧ u3.toList.take (outAt O kk j).length = ints (outAt O kk j)) (fun ⟨j, g3, c3, u3⟩ => [(1, i6_ r), (2, pt_ p2), (5, sl_ g3 ((outAt O kk j).length) c3), (6, sl_ p42 (((S ++ ([(m : Int)])).length)) cap42), (7, pt_ p7), (8, i6_ ((k : Int))), (9, i6_ ((m : Int))), (10, i6_ ((j : Int)))]) (fun ⟨j, g3, c3, u3⟩ => Own w.heap.size w (bk_ p41 #[i6_ ((m : Int))] 3 :: bk_ p32 #[i6_ ((k : Int))] 3 :: bk_ p7 #[sl_ q 997 997, sl_ c 1 1] 93 :: bk_ p42 cur42 3 :: bk_ g3 u3 3 :: bk_ p2 #[i6_ a.n, str a.set, str a.rel] 24 :: bk_ q ((bs_.map bktV).toArray) 145 :: bk_ c #[i6_ ((T_.length : Int))] 3 :: ((blks 147 bs_ ++ [])))) (fun ⟨j, g3, c3, u3⟩ => ((S ++ ([(m : Int)])).length) - j) ((0, go, co, uo)) ⟨by omega, hco, by rw [outAt_zero]; exact hlo, by rw [outAt_zero]; exact hto⟩ (Sub.cons rfl (Sub.cons rfl (Sub.cons (by rw [outAt_zero]; rfl) (Sub.sel [6, 7, 8, 9, 10] rfl)))) (fun _ h => h) ?_
   rintro ⟨j, g3, c3, u3⟩ ⟨hj, hcg, hlg, htg⟩
   dsimp only
   have hol := outAt_le O kk j
   refine Wk.seq ?_
   refine Wk.seq ?_
   refine Wk.regionQ ?_
   refine Lq.run 2 rfl ?_
   refine Lq.op rfl rfl rfl (OpQ.lenS rfl Tryd.runUnderlying25 rfl) ?_
   refine Lq.run 1 rfl ?_
   refine Lq.nil ?_
   refine Kt.sel [1, 2, 5, 6, 7, 8, 9, 10, 46] [_, _, _, _, _, _, _, _, _] rfl ?_
   refine Wk.cond (b := decide (((j : Int)) < ((((S ++ ([(m : Int)])).length) : Int)))) rfl (fun h46 => ?_) (fun h46 => ?_)
   ·
    replace h46 := of_decide_eq_true h46
    refine Wk.skip ?_
    refine Kt.sel [1, 2, 5, 6, 7, 8, 9, 10] [_, _, _, _, _, _, _, _] rfl ?_
    refine Wk.seq ?_
    refine Wk.block ?_
    refine Wk.seq ?_
    refine Wk.regionQ ?_
    refine Lq.run 2 rfl ?_
    refine Lq.op (v := pf_ p42 j) rfl rfl rfl (OpQ.cast (v' := pf_ p42 j) (by simp) (OpQ.indexAddr1 (i := (j : Int)) rfl Tryd.runUnderlying25 Tryd.sizeOf3 rfl rfl (by omega) (by omega))) ?_
    refine Lq.op (v := i6_ ((S ++ ([(m : Int)])).getD (j) 0)) rfl rfl rfl (OpQ.loadAt 3 rfl Tryd.isAgg3 rfl rfl (cur_at (by simpa using htp42) (ints_at2 (by omega)))) ?_
    refine Lq.run 2 rfl ?_
    refine Lq.nil ?_
    refine Kt.sel [1, 2, 5, 6, 7, 8, 9, 10, 54] [_, _, _, _, _, _, _, _, _] rfl ?_
    refine Wk.cond (b := decide (((S ++ ([(m : Int)])).getD (j) 0) = ((m : Int)))) rfl (fun h54 => ?_) (fun h54 => ?_)
    ·
     replace h54 := of_decide_eq_true h54
     have hjk := (hix j (by omega)).1 h54
     refine Wk.region ?_
     refine Ll.run 2 rfl ?_
     refine Ll.slice (xs := [.tmp 56]) (vs := [i6_ ((j : Int))]) Base.elem25 rfl rfl rfl rfl rfl rfl (by decide) rfl fun p57 hp57 => ?_
     refine Ll.appendInts (xs := outAt O kk j) (ys := [(j : Int)]) Base.elem25 5 rfl rfl rfl rfl rfl rfl rfl hcg hlg htg (fun w1 hw1 => (Own.row hw1 (i := 0) rfl (n := 1) (cap := 1) (vs := ints [(j : Int)]) rfl rfl (by decide))) (((outAt O kk j) ++ ([(j : Int)])).length) (by first | (simp; done) | (simp; omega)) (by first | (simp; done) | (simp; omega) | omega) fun p58 cap58 cur58 hp58 hcp58 hlp58 htp58 => ?_
     show Ll _ _ (Own _ _ (_ :: _ :: _ :: _ :: _ :: _ :: _ :: _ :: _ :: ((blks 147 bs_ ++ [])))) _ _ ((58, sl_ p58 ((((outAt O kk j) ++ ([(j : Int)])).length)) cap58) :: _) _ _ _
     refine Ll.run 1 rfl ?_
     refine Ll.nil ?_
     refine Kt.sel [1, 2, 5, 6, 7, 8, 9, 10] [_, _, _, _, _, _, _, _] rfl ?_
     refine Wk.regionQ ?_
     refine Lq.run 1 rfl ?_
     refine Lq.op rfl rfl rfl (OpQ.add rfl rfl rfl (by omega) (by omega)) ?_
     refine Lq.run 1 rfl ?_
     refine Lq.nil ?_
     refine Kt.again ((j + 1, p58, cap58, cur58)) ⟨by omega, hcp58, by rw [outAt_yes hjk]; exact hlp58, by rw [outAt_yes hjk]; simpa using htp58⟩ (by omega) (Sub.cons rfl (Sub.cons rfl (Sub.cons (by rw [outAt_yes hjk]; rfl) (Sub.sel [6, 7, 8, 9, 10] rfl)))) (fun _ h => h.tail)
    ·
     replace h54 := of_decide_eq_false h54
     have hjk : ¬ j = kk := fun e => h54 ((hix j (by omega)).2 e)
     refine Wk.skip ?_
     refine Kt.sel [1, 2, 5, 6, 7, 8, 9, 10] [_, _, _, _, _, _, _, _] rfl ?_
     refine Wk.regionQ ?_
     refine Lq.run 1 rfl ?_
     refine Lq.op rfl rfl rfl (OpQ.add rfl rfl rfl (by omega) (by omega)) ?_
     refine Lq.run 1 rfl ?_
     refine Lq.nil ?_
     refine Kt.again ((j + 1, g3, c3, u3)) ⟨by omega, hcg, by rw [outAt_no hjk]; exact hlg, by rw [outAt_no hjk]; exact htg⟩ (by omega) (Sub.cons rfl (Sub.cons rfl (Sub.cons (by rw [outAt_no hjk]; rfl) (Sub.sel [6, 7, 8, 9, 10] rfl)))) (fun _ h => h)
   ·
    replace h46 := of_decide_eq_false h46
    have hO := outAt_end (O := O) (kk := kk) (k := j) (by omega)
    refine Wk.exit rfl ?_
    refine Kt.sel [1, 2, 5, 6, 7, 8] [_, _, _, _, _, _] rfl ?_
    refine Wk.regionQ ?_
    refine Lq.run 1 rfl ?_
    refine Lq.op rfl rfl rfl (OpQ.add rfl rfl rfl (by omega) (by omega)) ?_
    refine Lq.run 1 rfl ?_
    refine Lq.nil ?_
    refine Kt.again ((k + 1, bs_, T_, p42, cap42, cur42, g3, c3, u3, S ++ ([(m : Int)]), O ++ [(kk : Int)])) ⟨by omega, hTT.trans hKm.1 (by rw [Nat.add_mul, Nat.one_mul]; exact Nat.le_refl _), hSN, hcp42, hlp42, by simpa using htp42, hcg, by rw [← hO]; exact hlg, by rw [← hO]; exact htg⟩ (by omega) (Sub.cons rfl (Sub.cons rfl (Sub.cons (by rw [← hO]; rfl) (Sub.sel [6, 7, 8] rfl)))) (fun _ h => h.tail.tail)
  ·
   replace h38 := not_false h38
   replace h38 := of_decide_eq_true h38
   obtain ⟨kk, hkk, hix, hSN⟩ := hSn.step_old hKm.1.pre hKm.1.ok.nodup hKm.2 (by simpa using h38)
   refine Wk.skip ?_
   refine Kt.sel [1, 2, 5, 6, 7, 8, 9] [_, _, _, _, _, _, _] rfl ?_
   refine Wk.seq ?_
   refine Wk.regionQ ?_
   refine Lq.run 1 rfl ?_
   refine Lq.nil ?_
   refine Kt.sel [1, 2, 5, 6, 7, 8, 9, 10] [_, _, _, _, _, _, _, _] rfl ?_
   refine Wk.block ?_
   refine Wk.loop (σ := Nat × Nat × Nat × Array Value) (fun ⟨j, g3, c3, u3⟩ => j ≤ S.length ∧ u3.size = c3 * 1 ∧ (outAt O kk j).length ≤ c3 ∧ u3.toList.take (outAt O kk j).length = ints (outAt O kk j)) (fun ⟨j, g3, c3, u3⟩ => [(1, i6_ r), (2, pt_ p2), (5, sl_ g3 ((outAt O kk j).length) c3), (6, sl_ gs S.length cs), (7, pt_ p7), (8, i6_ ((k : Int))), (9, i6_ ((m : Int))), (10, i6_ ((j : Int)))]) (fun ⟨j, g3, c3, u3⟩ => Own w.heap.size w (bk_ p32 #[i6_ ((k : Int))] 3 :: bk_ p7 #[sl_ q 997 997, sl_ c 1 1] 93 :: bk_ gs us 3 :: bk_ g3 u3 3 :: bk_ p2 #[i6_ a.n, str a.set, str a.rel] 24 :: bk_ q ((bs_.map bktV).toArray) 145 :: bk_ c #[i6_ ((T_.length : Int))] 3 :: ((blks 147 bs_ ++ [])))) (fun ⟨j, g3, c3, u3⟩ => S.length - j) ((0, go, co, uo)) ⟨by omega, hco, by rw [outAt_zero]; exact hlo, by rw [outAt_zero]; exact hto⟩ (Sub.cons rfl (Sub.cons rfl (Sub.cons (by rw [outAt_zero]; rfl) (Sub.sel [6, 7, 8, 9, 10] rfl)))) (fun _ h => h) ?_
   rintro ⟨j, g3, c3, u3⟩ ⟨hj, hcg, hlg, htg⟩
   dsimp only
   have hol := outAt_le O kk j
   refine Wk.seq ?_
   refine Wk.seq ?_
   refine Wk.regionQ ?_
   refine Lq.run 2 rfl ?_
   refine Lq.op rfl rfl rfl (OpQ.lenS rfl Tryd.runUnderlying25 rfl) ?_
   refine Lq.run 1 rfl ?_
   refine Lq.nil ?_
   refine Kt.sel [1, 2, 5, 6, 7, 8, 9, 10, 46] [_, _, _, _, _, _, _, _, _] rfl ?_
   refine Wk.cond (b := decide (((j : Int)) < ((S.length : Int)))) rfl (fun h46_1 => ?_) (fun h46_1 => ?_)
   ·
    replace h46_1 := of_decide_eq_true h46_1
    refine Wk.skip ?_
    refine Kt.sel [1, 2, 5, 6, 7, 8, 9, 10] [_, _, _, _, _, _, _, _] rfl ?_
    refine Wk.seq ?_
    refine Wk.block ?_
    refine Wk.seq ?_
    refine Wk.regionQ ?_
    refine Lq.run 2 rfl ?_
    refine Lq.op (v := pf_ gs j) rfl rfl rfl (OpQ.cast (v' := pf_ gs j) (by simp) (OpQ.indexAddr1 (i := (j : Int)) rfl Tryd.runUnderlying25 Tryd.sizeOf3 rfl rfl (by omega) (by omega))) ?_
    refine Lq.op (v := i6_ ((S).getD (j) 0)) rfl rfl rfl (OpQ.loadAt 2 rfl Tryd.isAgg3 rfl rfl (cur_at hts (ints_at2 (by omega)))) ?_
    refine Lq.run 2 rfl ?_
    refine Lq.nil ?_
    refine Kt.sel [1, 2, 5, 6, 7, 8, 9, 10, 54] [_, _, _, _, _, _, _, _, _] rfl ?_
    refine Wk.cond (b := decide (((S).getD (j) 0) = ((m : Int)))) rfl (fun h54_1 => ?_) (fun h54_1 => ?_)
    ·
     replace h54_1 := of_decide_eq_true h54_1
     have hjk := (hix j (by omega)).1 h54_1
     refine Wk.region ?_
     refine Ll.run 2 rfl ?_
     refine Ll.slice (xs := [.tmp 56]) (vs := [i6_ ((j : Int))]) Base.elem25 rfl rfl rfl rfl rfl rfl (by decide) rfl fun p57_1 hp57_1 => ?_
     refine Ll.appendInts (xs := outAt O kk j) (ys := [(j : Int)]) Base.elem25 4 rfl rfl rfl rfl rfl rfl rfl hcg hlg htg (fun w1 hw1 => (Own.row hw1 (i := 0) rfl (n := 1) (cap := 1) (vs := ints [(j : Int)]) rfl rfl (by decide))) (((outAt O kk j) ++ ([(j : Int)])).length) (by first | (simp; done) | (simp; omega)) (by first | (simp; done) | (simp; omega) | omega) fun p58_1 cap58_1 cur58_1 hp58_1 hcp58_1 hlp58_1 htp58_1 => ?_
     show Ll _ _ (Own _ _ (_ :: _ :: _ :: _ :: _ :: _ :: _ :: _ :: ((blks 147 bs_ ++ [])))) _ _ ((58, sl_ p58_1 ((((outAt O kk j) ++ ([(j : Int)])).length)) cap58_1) :: _) _ _ _
     refine Ll.run 1 rfl ?_
     refine Ll.nil ?_
     refine Kt.sel [1, 2, 5, 6, 7, 8, 9, 10] [_, _, _, _, _, _, _, _] rfl ?_
     refine Wk.regionQ ?_
     refine Lq.run 1 rfl ?_
     refine Lq.op rfl rfl rfl (OpQ.add rfl rfl rfl (by omega) (by omega)) ?_
     refine Lq.run 1 rfl ?_
     refine Lq.nil ?_
     refine Kt.again ((j + 1, p58_1, cap58_1, cur58_1)) ⟨by omega, hcp58_1, by rw [outAt_yes hjk]; exact hlp58_1, by rw [outAt_yes hjk]; simpa using htp58_1⟩ (by omega) (Sub.cons rfl (Sub.cons rfl (Sub.cons (by rw [outAt_yes hjk]; rfl) (Sub.sel [6, 7, 8, 9, 10] rfl)))) (fun _ h => h.tail)
    ·
     replace h54_1 := of_decide_eq_false h54_1
     have hjk : ¬ j = kk := fun e => h54_1 ((hix j (by omega)).2 e)
     refine Wk.skip ?_
     refine Kt.sel [1, 2, 5, 6, 7, 8, 9, 10] [_, _, _, _, _, _, _, _] rfl ?_
     refine Wk.regionQ ?_
     refine Lq.run 1 rfl ?_
     refine Lq.op rfl rfl rfl (OpQ.add rfl rfl rfl (by omega) (by omega)) ?_
     refine Lq.run 1 rfl ?_
     refine Lq.nil ?_
     refine Kt.again ((j + 1, g3, c3, u3)) ⟨by omega, hcg, by rw [outAt_no hjk]; exact hlg, by rw [outAt_no hjk]; exact htg⟩ (by omega) (Sub.cons rfl (Sub.cons rfl (Sub.cons (by rw [outAt_no hjk]; rfl) (Sub.sel [6, 7, 8, 9, 10] rfl)))) (fun _ h => h)
   ·
    replace h46_1 := of_decide_eq_false h46_1
    have hO := outAt_end (O := O) (kk := kk) (k := j) (by omega)
    refine Wk.exit rfl ?_
    refine Kt.sel [1, 2, 5, 6, 7, 8] [_, _, _, _, _, _] rfl ?_
    refine Wk.regionQ ?_
    refine Lq.run 1 rfl ?_
    refine Lq.op rfl rfl rfl (OpQ.add rfl rfl rfl (by omega) (by omega)) ?_
    refine Lq.run 1 rfl ?_
    refine Lq.nil ?_
    refine Kt.again ((k + 1, bs_, T_, gs, cs, us, g3, c3, u3, S, O ++ [(kk : Int)])) ⟨by omega, hTT.trans hKm.1 (by rw [Nat.add_mul, Nat.one_mul]; exact Nat.le_refl _), hSN, hcs, hls, hts, hcg, by rw [← hO]; exact hlg, by rw [← hO]; exact htg⟩ (by omega) (Sub.cons rfl (Sub.cons rfl (Sub.cons (by rw [← hO]; rfl) (Sub.sel [6, 7, 8] rfl)))) (fun _ h => h.tail)
 ·
  replace h26 := of_decide_eq_false h26
  refine Wk.exit rfl ?_
  refine Kt.sel [5] [_] rfl ?_
  refine Wk.seq ?_
  refine Wk.regionQ ?_
  refine Lq.run 2 rfl ?_
  refine Lq.nil ?_
  refine Kt.sel [4] [_] rfl ?_
  refine Wk.ret (Kt.end1 rfl rfl fun w' hw => ?_)
  -- ret 0: sl_ go O.length co
  obtain rfl : k = a.n.toNat := by omega
  have hcl : clsOf a r = O := congrArg Prod.fst hSn.cls
  subst hcl
  exact ⟨_, rfl, hw.below, hw.newRow (i := 2) (n := _) rfl hco hlo (by simpa using hto)⟩

set_option maxHeartbeats 400000 in
/-- spec.ClassesOf|no -/
theorem sCls_no (a : St) (r : Int) (w : World) (hsa : a.Small) (hv : clsOk a r = false) :
    Calls Tryd.prog 39 [vS a, i6_ r].toArray w fun en w' => ∃ v, en = .returned v ∧ Below w.heap.size w w' ∧ NewRow w.heap.size 3 1 w' v 0 (ints []) := by
 refine fnStart (n := 60) (e := [(0, vS a), (1, i6_ r)]) Tryd.func39 rfl rfl rfl rfl Ends.both ?_
 refine Wk.seq ?_
 refine Wk.region ?_
 refine Ll.box (v := vS a) rfl rfl rfl rfl rfl fun p2 hp2 => ?_
 show Ll _ _ (Own _ _ [_]) _ _ ((2, pt_ p2) :: _) _ _ _
 refine Ll.run 1 rfl ?_
 refine Ll.nil ?_
 refine Kt.sel [1, 2] [_, _] rfl ?_
 refine Wk.seq ?_
 refine Wk.region ?_
 refine Ll.slice (xs := []) (vs := []) Base.elem25 rfl rfl rfl rfl rfl rfl (by decide) rfl fun p11 hp11 => ?_
 refine Ll.run 1 rfl ?_
 refine Ll.nil ?_
 refine Kt.sel [1, 2, 5] [_, _, _] rfl ?_
 refine Wk.seq ?_
 refine Wk.region ?_
 refine Ll.slice (xs := []) (vs := []) Base.elem25 rfl rfl rfl rfl rfl rfl (by decide) rfl fun p12 hp12 => ?_
 refine Ll.run 1 rfl ?_
 refine Ll.nil ?_
 refine Kt.sel [1, 2, 5, 6] [_, _, _, _] rfl ?_
 refine Wk.seq ?_
 refine Wk.seq ?_
 refine Wk.regionQ ?_
 refine Lq.op rfl rfl rfl (OpQ.loadBox (cs := #[i6_ a.n, str a.set, str a.rel]) 2 rfl Tryd.isAgg24 rfl rfl Tryd.sizeOf24) ?_
 refine Lq.op (v := bo_ (validB a)) rfl rfl rfl (OpQ.call rfl Tryd.call88 rfl Own.stable (fun w1 hw1 => sValid_ok a w1 hsa)) ?_
 refine Lq.run 2 rfl ?_
 refine Lq.bool fun b16 hg16 => ?_
 cases b16
 ·
  replace hg16 := not_false hg16
  refine Lq.run 1 rfl ?_
  refine Lq.op (v := bo_ (inB r 0 3)) rfl rfl rfl (OpQ.call rfl Tryd.call75 rfl Own.stable (fun w1 hw1 => l1In_ok r 0 3 w1 )) ?_
  refine Lq.run 2 rfl ?_
  refine Lq.nil ?_
  refine Kt.sel [1, 2, 5, 6, 20] [_, _, _, _, _] rfl ?_
  refine Wk.cond (b := !(inB r 0 3)) rfl (fun h20 => ?_) (fun h20 => ?_)
  ·
   replace h20 := not_true h20
   refine Wk.seq ?_
   refine Wk.regionQ ?_
   refine Lq.run 2 rfl ?_
   refine Lq.nil ?_
   refine Kt.sel [4] [_] rfl ?_
   refine Wk.ret (Kt.end1 rfl rfl fun w' hw => ?_)
   -- ret 0: sl_ p11 0 0
   exact ⟨_, rfl, hw.below, hw.newRow (i := 1) (n := 0) rfl (by simp) (by omega) (by simp [ints])⟩
  ·
   replace h20 := not_false h20
   exact absurd hv (by unfold clsOk; simp_all)
 ·
  replace hg16 := not_true hg16
  refine Lq.pass rfl rfl rfl ?_
  refine Lq.pass rfl rfl rfl ?_
  refine Lq.pass rfl rfl rfl ?_
  refine Lq.run 1 rfl ?_
  refine Lq.nil ?_
  refine Kt.sel [1, 2, 5, 6, 20] [_, _, _, _, _] rfl ?_
  refine Wk.condT rfl ?_
  refine Wk.seq ?_
  refine Wk.regionQ ?_
  refine Lq.run 2 rfl ?_
  refine Lq.nil ?_
  refine Kt.sel [4] [_] rfl ?_
  refine Wk.ret (Kt.end1 rfl rfl fun w' hw => ?_)
  -- ret 1: sl_ p11 0 0
  exact ⟨_, rfl, hw.below, hw.newRow (i := 1) (n := 0) rfl (by simp) (by omega) (by simp [ints])⟩

theorem iCls_all (a : St) (r : Int) (B : Nat) (w0 : World) (hs : List (Nat × Obj)) (w : World) (hsa : a.Small) (hw : Own B w0 hs w) :
    Calls Tryd.prog 38 [vS a, .int .i64 r].toArray w fun en w' => ∃ (v : Value) (new : List (Nat × Obj)), en = .returned v ∧ (∀ w1, Own B w0 new w1 → Ints w1 v (clsL a r)) ∧ Own B w0 (new ++ hs) w' := by
  cases hv : clsOk a r with
  | true =>
    refine (iCls_yes a r w hsa hv).mono fun en w' ⟨v, h1, h2, g, cap, cur, h3, h4, h5, h6, h7, h8⟩ => ?_
    subst h3
    exact ⟨_, [(g, .cells cur 3 (0, 0))], h1, fun w1 h => by rw [clsL, if_pos hv]; exact Own.row h (i := 0) rfl (by simpa using h8) (by simp) h7, hw.learn h2 h4 h5⟩
  | false =>
    refine (iCls_no a r w hsa hv).mono fun en w' ⟨h1, h2⟩ => ?_
    exact ⟨_, [], h1, fun w1 h => by rw [clsL, if_neg (by rw [hv]; decide)]; exact Ints.nil, hw.calls h2⟩
theorem sCls_all (a : St) (r : Int) (B : Nat) (w0 : World) (hs : List (Nat × Obj)) (w : World) (hsa : a.Small) (hw : Own B w0 hs w) :
    Calls Tryd.prog 39 [vS a, .int .i64 r].toArray w fun en w' => ∃ (v : Value) (new : List (Nat × Obj)), en = .returned v ∧ (∀ w1, Own B w0 new w1 → Ints w1 v (clsL a r)) ∧ Own B w0 (new ++ hs) w' := by
  cases hv : clsOk a r with
  | true =>
    refine (sCls_yes a r w hsa hv).mono fun en w' ⟨v, h1, h2, g, cap, cur, h3, h4, h5, h6, h7, h8⟩ => ?_
    subst h3
    exact ⟨_, [(g, .cells cur 3 (0, 0))], h1, fun w1 h => by rw [clsL, if_pos hv]; exact Own.row h (i := 0) rfl (by simpa using h8) (by simp) h7, hw.learn h2 h4 h5⟩
  | false =>
    refine (sCls_no a r w hsa hv).mono fun en w' ⟨v, h1, h2, g, cap, cur, h3, h4, h5, h6, h7, h8⟩ => ?_
    subst h3
    exact ⟨_, [(g, .cells cur 3 (0, 0))], h1, fun w1 h => by rw [clsL, if_neg (by rw [hv]; decide)]; exact Own.row h (i := 0) rfl (by simpa using h8) (by simp) h7, hw.learn h2 h4 h5⟩

end Go.Proofs.YtmannilblelfjaaDoor
