/-
  FnExactTheoryOf: all that its proof names (part 5)
-/
import Derived.Test.YtnfkmfdhmlombaaDoorKFnExactTheoryOfd
import Derived.Test.YtnfkmfdhmlombaaDoorKFnExactTheoryOfb
import Derived.Test.YtnfkmfdhmlombaaDoorKFnExactTheoryOfa
namespace Go.Proofs.YtnfkmfdhmlombaaDoor
open Go.RowKit Go.Wk
set_option linter.unusedSimpArgs false
set_option maxHeartbeats 400000 in
/-- spec.TheoryOf -/
theorem sTheo_ok (a : St) (vl : Value) (l : List (List UInt8)) (w : World) (hsa : a.Small) (hvl : Strs w vl l) (hl : l.length ≤ 1048576) (hls : ∀ s ∈ l, s.length ≤ 1048576) :
    Calls Tryd.prog 32 [vS a, vl].toArray w fun en w' => en = .returned (.tuple #[str (theoO a l).1, .bool (theoO a l).2]) ∧ Below w.heap.size w w' := by
 refine fnStart (n := 34) (e := [(0, vS a), (1, vl)]) Tryd.func32 rfl rfl rfl rfl Ends.both ?_
 refine Wk.seq ?_
 refine Wk.region ?_
 refine Ll.box (v := vS a) rfl rfl rfl rfl rfl fun p2 hp2 => ?_
 show Ll _ _ (Own _ _ [_]) _ _ ((2, pt_ p2) :: _) _ _ _
 refine Ll.op (v := str ([])) rfl rfl rfl (OpQ.assign rfl rfl) ?_
 refine Ll.run 1 rfl ?_
 refine Ll.nil ?_
 refine Kt.sel [1, 2] [_, _] rfl ?_
 refine Wk.seq ?_
 refine Wk.regionQ ?_
 refine Lq.op (v := str ([])) rfl rfl rfl (OpQ.assign rfl rfl) ?_
 refine Lq.nil ?_
 refine Kt.sel [1, 2, 6] [_, _, _] rfl ?_
 refine Wk.seq ?_
 refine Wk.seq ?_
 refine Wk.regionQ ?_
 refine Lq.run 1 rfl ?_
 refine Lq.nil ?_
 refine Kt.sel [1, 2, 6, 7] [_, _, _, _] rfl ?_
 refine Wk.block ?_
 refine Wk.loop (σ := Nat) (fun k => k ≤ l.length ∧ ∀ i : Nat, i < k → holdK a (l.getD i []) [] = true) (fun k => [(1, vl), (2, pt_ p2), (6, str (theoS a (l.take k))), (7, i6_ ((k : Int)))]) (fun k => Own w.heap.size w [bk_ p2 #[i6_ a.n, str a.set, str a.rel] 28]) (fun k => l.length - k) (0) ⟨by omega, fun i hi => absurd hi (by omega)⟩ (Sub.cons rfl (Sub.cons rfl (Sub.cons (by rfl) (Sub.sel [7] rfl)))) (fun _ h => h) ?_
 rintro k ⟨hk, hall⟩
 refine Wk.seq ?_
 refine Wk.seq ?_
 refine Wk.regionQ ?_
 refine Lq.run 2 rfl ?_
 refine Lq.op (v := i6_ ((l.length : Int))) rfl rfl rfl (OpQ.lenRow rfl Tryd.runUnderlying45 rfl (strs_length _) (fun w1 hw1 => Row.own hvl hw1)) ?_
 refine Lq.run 1 rfl ?_
 refine Lq.nil ?_
 refine Kt.sel [1, 2, 6, 7, 13] [_, _, _, _, _] rfl ?_
 refine Wk.cond (b := decide (((k : Int)) < ((l.length : Int)))) rfl (fun h13 => ?_) (fun h13 => ?_)
 ·
  replace h13 := of_decide_eq_true h13
  have hkl : k < l.length := by omega
  have hfk : (l.getD ((k : Int)).toNat []).length ≤ 1048576 := hls _ (mem_getD (l := l) hkl)
  have htl := theoS_len a (l.take k)
  rw [List.length_take] at htl
  have hbl := bitS_len (holdV a (l.getD ((k : Int)).toNat []) [])
  refine Wk.skip ?_
  refine Kt.sel [1, 2, 6, 7] [_, _, _, _] rfl ?_
  refine Wk.seq ?_
  refine Wk.block ?_
  refine Wk.seq ?_
  refine Wk.regionD Base.mixed (fun _ h => h.drawn) (by kernel_rfl) ?_
  refine Lq.op rfl rfl rfl (OpQ.loadBox (cs := #[i6_ a.n, str a.set, str a.rel]) 0 rfl Tryd.isAgg28 rfl rfl Tryd.sizeOf28) ?_
  refine Lq.run 2 rfl ?_
  refine Lq.op (v := .pointer (some (sAt vl ((k : Int))))) rfl rfl rfl (OpQ.atRow rfl Tryd.runUnderlying45 Tryd.sizeOf9 rfl rfl (by omega) (by rw [strs_length]; omega) (fun w1 hw1 => Row.own hvl hw1)) ?_
  refine Lq.op (v := str (l.getD (((k : Int)).toNat) [])) rfl rfl rfl (OpQ.load1 rfl Tryd.isAgg9 rfl (fun w1 hw1 => Strs.cell (Row.own hvl hw1) (by omega) (by omega))) ?_
  refine Lq.op (v := .tuple #[bo_ (holdV a (l.getD (((k : Int)).toNat) []) []), bo_ (holdK a (l.getD (((k : Int)).toNat) []) [])]) rfl rfl rfl (OpQ.call rfl Tryd.call81 rfl Own.stable (fun w1 hw1 => sIn_ok a (l.getD (((k : Int)).toNat) []) w1 hsa hfk)) ?_
  refine Lq.run 1 rfl ?_
  refine Lq.op (v := bo_ (holdV a (l.getD (((k : Int)).toNat) []) [])) rfl rfl rfl (OpQ.extract rfl rfl rfl) ?_
  refine Lq.op (v := bo_ (holdK a (l.getD (((k : Int)).toNat) []) [])) rfl rfl rfl (OpQ.extract rfl rfl rfl) ?_
  refine Lq.run 2 rfl ?_
  refine Lq.nil ?_
  refine Kt.sel [1, 2, 6, 7, 8, 9] [_, _, _, _, _, _] rfl ?_
  refine Wk.seq ?_
  refine Wk.seq ?_
  refine Wk.regionQ ?_
  refine Lq.run 2 rfl ?_
  refine Lq.nil ?_
  refine Kt.sel [1, 2, 6, 7, 8, 26] [_, _, _, _, _, _] rfl ?_
  refine Wk.cond (b := !(holdK a (l.getD (((k : Int)).toNat) []) [])) rfl (fun h26 => ?_) (fun h26 => ?_)
  ·
   replace h26 := not_true h26
   refine Wk.seq ?_
   refine Wk.regionQ ?_
   refine Lq.op (v := str ([])) rfl rfl rfl (OpQ.assign rfl rfl) ?_
   refine Lq.run 1 rfl ?_
   refine Lq.nil ?_
   refine Kt.sel [4, 5] [_, _] rfl ?_
   refine Wk.ret (Kt.end2 rfl rfl rfl fun w' hw => ?_)
   exact ⟨by rw [theoO_no (.inr (theoB_at hkl (by simpa using h26)))], hw.below⟩
  ·
   replace h26 := not_false h26
   have hkk : holdK a (l.getD k []) [] = true := by simpa using h26
   refine Wk.skip ?_
   refine Kt.sel [1, 2, 6, 7, 8] [_, _, _, _, _] rfl ?_
   refine Wk.regionQ ?_
   refine Lq.run 2 rfl ?_
   refine Lq.op (v := str ((if holdV a (l.getD (((k : Int)).toNat) []) [] then [49] else [48]))) rfl rfl rfl (OpQ.call rfl Tryd.call82 rfl Own.stable (fun w1 hw1 => bitD_ok (holdV a (l.getD (((k : Int)).toNat) []) []) w1 )) ?_
   refine Lq.op rfl rfl rfl (OpQ.sadd rfl rfl rfl (by first | omega | (simp only [List.length_append, List.length_cons, List.length_nil]; omega))) ?_
   refine Lq.run 1 rfl ?_
   refine Lq.nil ?_
   refine Kt.sel [1, 2, 6, 7] [_, _, _, _] rfl ?_
   refine Wk.regionQ ?_
   refine Lq.run 1 rfl ?_
   refine Lq.op rfl rfl rfl (OpQ.add rfl rfl rfl (by omega) (by omega)) ?_
   refine Lq.run 1 rfl ?_
   refine Lq.nil ?_
   refine Kt.again (k + 1) ⟨by omega, fun i hi => (Nat.lt_succ_iff_lt_or_eq.1 hi).elim (hall i) (fun e => by subst e; exact hkk)⟩ (by omega) (Sub.cons rfl (Sub.cons rfl (Sub.cons (by rw [theoS_step a (by omega)]; rfl) (Sub.sel [7] rfl)))) (fun _ h => h)
 ·
  replace h13 := of_decide_eq_false h13
  refine Wk.exit rfl ?_
  refine Kt.sel [2, 6] [_, _] rfl ?_
  refine Wk.seq ?_
  refine Wk.regionQ ?_
  refine Lq.run 1 rfl ?_
  refine Lq.op rfl rfl rfl (OpQ.loadBox (cs := #[i6_ a.n, str a.set, str a.rel]) 0 rfl Tryd.isAgg28 rfl rfl Tryd.sizeOf28) ?_
  refine Lq.op (v := bo_ (validB a)) rfl rfl rfl (OpQ.call rfl Tryd.call55 rfl Own.stable (fun w1 hw1 => sValid_ok a w1 hsa)) ?_
  refine Lq.run 2 rfl ?_
  refine Lq.nil ?_
  refine Kt.sel [4, 5] [_, _] rfl ?_
  refine Wk.ret (Kt.end2 rfl rfl rfl fun w' hw => ?_)
  have hke : k = l.length := by omega
  exact ⟨by rw [← theo_nil (theoB_all fun i hi => hall i (by omega)), hke, List.take_length], hw.below⟩
set_option maxHeartbeats 400000 in
/-- impl.TheoryOf -/
theorem iTheo_ok (a : St) (vl : Value) (l : List (List UInt8)) (w : World) (hsa : a.Small) (hvl : Strs w vl l) (hl : l.length ≤ 1048576) (_hls : ∀ s ∈ l, s.length ≤ 1048576) :
    Calls Tryd.prog 34 [vS a, vl].toArray w fun en w' => en = .returned (.tuple #[str (theoO a l).1, .bool (theoO a l).2]) ∧ Below w.heap.size w w' := by
 refine fnStart (n := 34) (e := [(0, vS a), (1, vl)]) Tryd.func34 rfl rfl rfl rfl Ends.both ?_
 refine Wk.seq ?_
 refine Wk.region ?_
 refine Ll.box (v := vS a) rfl rfl rfl rfl rfl fun p2 hp2 => ?_
 show Ll _ _ (Own _ _ [_]) _ _ ((2, pt_ p2) :: _) _ _ _
 refine Ll.op (v := str ([])) rfl rfl rfl (OpQ.assign rfl rfl) ?_
 refine Ll.run 1 rfl ?_
 refine Ll.nil ?_
 refine Kt.sel [1, 2] [_, _] rfl ?_
 refine Wk.seq ?_
 refine Wk.seq ?_
 refine Wk.regionQ ?_
 refine Lq.op rfl rfl rfl (OpQ.loadBox (cs := #[i6_ a.n, str a.set, str a.rel]) 0 rfl Tryd.isAgg28 rfl rfl Tryd.sizeOf28) ?_
 refine Lq.op (v := bo_ (validB a)) rfl rfl rfl (OpQ.call rfl Tryd.call59 rfl Own.stable (fun w1 hw1 => isStructure_ok a w1 hsa)) ?_
 refine Lq.run 1 rfl ?_
 refine Lq.nil ?_
 refine Kt.sel [1, 2, 13] [_, _, _] rfl ?_
 refine Wk.cond (b := !(validB a)) rfl (fun h13 => ?_) (fun h13 => ?_)
 ·
  replace h13 := not_true h13
  refine Wk.seq ?_
  refine Wk.regionQ ?_
  refine Lq.op (v := str ([])) rfl rfl rfl (OpQ.assign rfl rfl) ?_
  refine Lq.run 1 rfl ?_
  refine Lq.nil ?_
  refine Kt.sel [4, 5] [_, _] rfl ?_
  refine Wk.ret (Kt.end2 rfl rfl rfl fun w' hw => ?_)
  exact ⟨by rw [theoO_no (.inl (by simp_all))], hw.below⟩
 ·
  replace h13 := not_false h13
  refine Wk.skip ?_
  refine Kt.sel [1, 2] [_, _] rfl ?_
  refine Wk.seq ?_
  refine Wk.regionQ ?_
  refine Lq.op (v := str ([])) rfl rfl rfl (OpQ.assign rfl rfl) ?_
  refine Lq.nil ?_
  refine Kt.sel [1, 2, 6] [_, _, _] rfl ?_
  refine Wk.seq ?_
  refine Wk.seq ?_
  refine Wk.regionQ ?_
  refine Lq.run 1 rfl ?_
  refine Lq.op (v := i6_ ((l.length : Int))) rfl rfl rfl (OpQ.lenRow rfl Tryd.runUnderlying45 rfl (strs_length _) (fun w1 hw1 => Row.own hvl hw1)) ?_
  refine Lq.run 1 rfl ?_
  refine Lq.nil ?_
  refine Kt.sel [2, 6, 14, 15, 16] [_, _, _, _, _] rfl ?_
  refine Wk.block ?_
  refine Wk.loop (σ := Nat) (fun k => k ≤ l.length ∧ ∀ i : Nat, i < k → holdK a (l.getD i []) [] = true) (fun k => [(2, pt_ p2), (6, str (theoS a (l.take k))), (14, vl), (15, i6_ ((l.length : Int))), (16, i6_ ((k : Int)))]) (fun k => Own w.heap.size w [bk_ p2 #[i6_ a.n, str a.set, str a.rel] 28]) (fun k => l.length - k) (0) ⟨by omega, fun i hi => absurd hi (by omega)⟩ (Sub.cons rfl (Sub.cons (by rfl) (Sub.sel [14, 15, 16] rfl))) (fun _ h => h) ?_
  rintro k ⟨hk, hall⟩
  refine Wk.seq ?_
  refine Wk.regionQ ?_
  refine Lq.run 1 rfl ?_
  refine Lq.nil ?_
  refine Kt.sel [2, 6, 14, 15, 16, 17] [_, _, _, _, _, _] rfl ?_
  refine Wk.seq ?_
  refine Wk.cond (b := decide (((k : Int)) < ((l.length : Int)))) rfl (fun h17 => ?_) (fun h17 => ?_)
  ·
   replace h17 := of_decide_eq_true h17
   have hkl : k < l.length := by omega
   have htl := theoS_len a (l.take k)
   rw [List.length_take] at htl
   have hbl := bitS_len (holdV a (l.getD ((k : Int)).toNat []) [])
   refine Wk.skip ?_
   refine Kt.sel [2, 6, 14, 15, 16] [_, _, _, _, _] rfl ?_
   refine Wk.seq ?_
   refine Wk.block ?_
   refine Wk.seq ?_
   refine Wk.regionQ ?_
   refine Lq.op (v := .pointer (some (sAt vl ((k : Int))))) rfl rfl rfl (OpQ.atRow rfl Tryd.runUnderlying45 Tryd.sizeOf9 rfl rfl (by omega) (by rw [strs_length]; omega) (fun w1 hw1 => Row.own hvl hw1)) ?_
   refine Lq.op (v := str (l.getD (((k : Int)).toNat) [])) rfl rfl rfl (OpQ.load1 rfl Tryd.isAgg9 rfl (fun w1 hw1 => Strs.cell (Row.own hvl hw1) (by omega) (by omega))) ?_
   refine Lq.run 1 rfl ?_
   refine Lq.nil ?_
   refine Kt.sel [2, 6, 8, 14, 15, 16] [_, _, _, _, _, _] rfl ?_
   refine Wk.seq ?_
   refine Wk.regionQ ?_
   refine Lq.op rfl rfl rfl (OpQ.loadBox (cs := #[i6_ a.n, str a.set, str a.rel]) 0 rfl Tryd.isAgg28 rfl rfl Tryd.sizeOf28) ?_
   refine Lq.run 1 rfl ?_
   refine Lq.op (v := .tuple #[bo_ (holdV a (l.getD (((k : Int)).toNat) []) []), bo_ (holdK a (l.getD (((k : Int)).toNat) []) [])]) rfl rfl rfl (OpQ.call rfl Tryd.call83 rfl Own.stable (fun w1 hw1 => iIn_ok a (l.getD (((k : Int)).toNat) []) w1 hsa)) ?_
   refine Lq.run 1 rfl ?_
   refine Lq.op (v := bo_ (holdV a (l.getD (((k : Int)).toNat) []) [])) rfl rfl rfl (OpQ.extract rfl rfl rfl) ?_
   refine Lq.op (v := bo_ (holdK a (l.getD (((k : Int)).toNat) []) [])) rfl rfl rfl (OpQ.extract rfl rfl rfl) ?_
   refine Lq.run 2 rfl ?_
   refine Lq.nil ?_
   refine Kt.sel [2, 6, 9, 10, 14, 15, 16] [_, _, _, _, _, _, _] rfl ?_
   refine Wk.seq ?_
   refine Wk.seq ?_
   refine Wk.regionQ ?_
   refine Lq.run 2 rfl ?_
   refine Lq.nil ?_
   refine Kt.sel [2, 6, 9, 14, 15, 16, 27] [_, _, _, _, _, _, _] rfl ?_
   refine Wk.cond (b := !(holdK a (l.getD (((k : Int)).toNat) []) [])) rfl (fun h27 => ?_) (fun h27 => ?_)
   ·
    replace h27 := not_true h27
    refine Wk.seq ?_
    refine Wk.regionQ ?_
    refine Lq.op (v := str ([])) rfl rfl rfl (OpQ.assign rfl rfl) ?_
    refine Lq.run 1 rfl ?_
    refine Lq.nil ?_
    refine Kt.sel [4, 5] [_, _] rfl ?_
    refine Wk.ret (Kt.end2 rfl rfl rfl fun w' hw => ?_)
    exact ⟨by rw [theoO_no (.inr (theoB_at hkl (by simpa using h27)))], hw.below⟩
   ·
    replace h27 := not_false h27
    have hkk : holdK a (l.getD k []) [] = true := by simpa using h27
    refine Wk.skip ?_
    refine Kt.sel [2, 6, 9, 14, 15, 16] [_, _, _, _, _, _] rfl ?_
    refine Wk.regionQ ?_
    refine Lq.run 2 rfl ?_
    refine Lq.op (v := str ((if holdV a (l.getD (((k : Int)).toNat) []) [] then [49] else [48]))) rfl rfl rfl (OpQ.call rfl Tryd.call84 rfl Own.stable (fun w1 hw1 => bitOf_ok (holdV a (l.getD (((k : Int)).toNat) []) []) w1 )) ?_
    refine Lq.op rfl rfl rfl (OpQ.sadd rfl rfl rfl (by first | omega | (simp only [List.length_append, List.length_cons, List.length_nil]; omega))) ?_
    refine Lq.run 1 rfl ?_
    refine Lq.nil ?_
    refine Kt.sel [2, 6, 14, 15, 16] [_, _, _, _, _] rfl ?_
    refine Wk.regionQ ?_
    refine Lq.op rfl rfl rfl (OpQ.add rfl rfl rfl (by omega) (by omega)) ?_
    refine Lq.run 1 rfl ?_
    refine Lq.nil ?_
    refine Kt.again (k + 1) ⟨by omega, fun i hi => (Nat.lt_succ_iff_lt_or_eq.1 hi).elim (hall i) (fun e => by subst e; exact hkk)⟩ (by omega) (Sub.cons rfl (Sub.cons (by rw [theoS_step a (by omega)]; rfl) (Sub.sel [14, 15, 16] rfl))) (fun _ h => h)
  ·
   replace h17 := of_decide_eq_false h17
   refine Wk.exit rfl ?_
   refine Kt.sel [6] [_] rfl ?_
   refine Wk.seq ?_
   refine Wk.regionQ ?_
   refine Lq.run 3 rfl ?_
   refine Lq.nil ?_
   refine Kt.sel [4, 5] [_, _] rfl ?_
   refine Wk.ret (Kt.end2 rfl rfl rfl fun w' hw => ?_)
   have hke : k = l.length := by omega
   exact ⟨by rw [theoO_yes (by simp_all) (theoB_all fun i hi => hall i (by omega)), hke, List.take_length], hw.below⟩
set_option maxHeartbeats 400000 in
/-- laws.FnExactTheoryOf -/
theorem lawTheo (a : St) (vl : Value) (l : List (List UInt8)) (w : World) (h1a : a.set.length ≤ 9223372036854775807) (h2a : a.rel.length ≤ 9223372036854775807) (hvl : Strs w vl l) (len_l : l.length ≤ 9223372036854775807) (fit_l : ∀ s ∈ l, s.length ≤ 9223372036854775807) :
    Calls Tryd.prog 8 [vS a, vl].toArray w fun en w' => en = .returned (.bool true) ∧ Below w.heap.size w w' := by
 refine fnStart (n := 51) (e := [(0, vS a), (1, vl)]) Tryd.func8 rfl rfl rfl rfl Ends.both ?_
 refine Wk.seq ?_
 refine Wk.region ?_
 refine Ll.box (v := vS a) rfl rfl rfl rfl rfl fun p2 hp2 => ?_
 show Ll _ _ (Own _ _ [_]) _ _ ((2, pt_ p2) :: _) _ _ _
 refine Ll.run 1 rfl ?_
 refine Ll.nil ?_
 refine Kt.sel [1, 2] [_, _] rfl ?_
 refine Wk.seq ?_
 refine Wk.regionQ ?_
 refine Lq.run 1 rfl ?_
 refine Lq.nil ?_
 refine Kt.sel [1, 2, 5] [_, _, _] rfl ?_
 refine Wk.seq ?_
 refine Wk.regionQ ?_
 refine Lq.op rfl rfl rfl (OpQ.loadBox (cs := #[i6_ a.n, str a.set, str a.rel]) 0 rfl Tryd.isAgg23 rfl rfl Tryd.sizeOf23) ?_
 refine Lq.run 1 rfl ?_
 refine Lq.op (v := i6_ (szB a 1048576)) rfl rfl rfl (OpQ.call rfl Tryd.call13 rfl Own.stable (fun w1 hw1 => sz_ok a 1048576 w1 (by omega) (by omega) h1a h2a)) ?_
 refine Lq.run 1 rfl ?_
 refine Lq.nil ?_
 refine Kt.sel [1, 2, 5] [_, _, _] rfl ?_
 refine Wk.seq ?_
 refine Wk.seq ?_
 refine Wk.regionQ ?_
 refine Lq.run 2 rfl ?_
 refine Lq.nil ?_
 refine Kt.sel [1, 2, 5, 15] [_, _, _, _] rfl ?_
 refine Wk.cond (b := decide ((szB a 1048576) < (0 : Int))) rfl (fun h15 => ?_) (fun h15 => ?_)
 ·
  replace h15 := of_decide_eq_true h15
  refine Wk.seq ?_
  refine Wk.regionQ ?_
  refine Lq.run 1 rfl ?_
  refine Lq.nil ?_
  refine Kt.sel [4] [_] rfl ?_
  refine Wk.ret (Kt.end1 rfl rfl fun w' hw => ?_)
  exact ⟨ret_b (by first | rfl | (simp_all; done) | (simp_all; omega)), hw.below⟩
 ·
  replace h15 := of_decide_eq_false h15
  obtain ⟨hsa, hz0a, hz1a⟩ := szB_small (by omega) h15
  refine Wk.skip ?_
  refine Kt.sel [1, 2, 5] [_, _, _] rfl ?_
  refine Wk.seq ?_
  refine Wk.regionQ ?_
  refine Lq.run 2 rfl ?_
  refine Lq.op (v := i6_ (szZ l (szB a 1048576))) rfl rfl rfl (OpQ.call rfl Tryd.call31 rfl Own.stable (fun w1 hw1 => szZ_ok vl l (szB a 1048576) w1 (Row.own hvl hw1) (by omega) (by omega) len_l fit_l)) ?_
  refine Lq.run 1 rfl ?_
  refine Lq.nil ?_
  refine Kt.sel [1, 2, 5] [_, _, _] rfl ?_
  refine Wk.seq ?_
  refine Wk.seq ?_
  refine Wk.regionQ ?_
  refine Lq.run 2 rfl ?_
  refine Lq.nil ?_
  refine Kt.sel [1, 2, 20] [_, _, _] rfl ?_
  refine Wk.cond (b := decide ((szZ l (szB a 1048576)) < (0 : Int))) rfl (fun h20 => ?_) (fun h20 => ?_)
  ·
   replace h20 := of_decide_eq_true h20
   refine Wk.seq ?_
   refine Wk.regionQ ?_
   refine Lq.run 1 rfl ?_
   refine Lq.nil ?_
   refine Kt.sel [4] [_] rfl ?_
   refine Wk.ret (Kt.end1 rfl rfl fun w' hw => ?_)
   exact ⟨ret_b (by first | rfl | (simp_all; done) | (simp_all; omega)), hw.below⟩
  ·
   replace h20 := of_decide_eq_false h20
   have hlz := szZ_small (by omega) h20
   refine Wk.skip ?_
   refine Kt.sel [1, 2] [_, _] rfl ?_
   refine Wk.seq ?_
   refine Wk.region ?_
   refine Ll.op rfl rfl rfl (OpQ.loadBox (cs := #[i6_ a.n, str a.set, str a.rel]) 0 rfl Tryd.isAgg23 rfl rfl Tryd.sizeOf23) ?_
   refine Ll.op (v := vS a) rfl rfl rfl (OpQ.call rfl Tryd.call15 rfl Own.stable (fun w1 hw1 => toSt_ok a w1 )) ?_
   refine Ll.run 1 rfl ?_
   refine Ll.callRow (xs := [.tmp 24]) (m := l.length) (vs := strs l) (el := 9) (size := 1) rfl rfl rfl rfl Tryd.call33 rfl (fun w1 hw1 => toStr_ok vl l w1 (Row.own hvl hw1) (by omega)) fun p25 cap25 cur25 hp25 hcp25 hlp25 htp25 => ?_
   refine Ll.op (v := .tuple #[str ((theoO a l).1), bo_ ((theoO a l).2)]) rfl rfl rfl (OpQ.call rfl Tryd.call32 rfl Own.stable (fun w1 hw1 => sTheo_ok a (sl_ p25 l.length cap25) l w1 hsa (Own.row hw1 (i := 0) rfl (by simpa using htp25) (by simp) hlp25) (hlz.1) (hlz.2))) ?_
   refine Ll.run 1 rfl ?_
   refine Ll.op (v := str ((theoO a l).1)) rfl rfl rfl (OpQ.extract rfl rfl rfl) ?_
   refine Ll.op (v := bo_ ((theoO a l).2)) rfl rfl rfl (OpQ.extract rfl rfl rfl) ?_
   refine Ll.run 2 rfl ?_
   refine Ll.nil ?_
   refine Kt.sel [1, 2, 6, 7] [_, _, _, _] rfl ?_
   refine Wk.seq ?_
   refine Wk.region ?_
   refine Ll.run 1 rfl ?_
   refine Ll.callRow (xs := [.tmp 29]) (m := l.length) (vs := strs l) (el := 9) (size := 1) rfl rfl rfl rfl Tryd.call33 rfl (fun w1 hw1 => toStr_ok vl l w1 (Row.own hvl hw1) (by omega)) fun p30 cap30 cur30 hp30 hcp30 hlp30 htp30 => ?_
   refine Ll.run 1 rfl ?_
   refine Ll.nil ?_
   refine Kt.sel [1, 2, 6, 7, 8] [_, _, _, _, _] rfl ?_
   refine Wk.seq ?_
   refine Wk.regionQ ?_
   refine Lq.op rfl rfl rfl (OpQ.loadBox (cs := #[i6_ a.n, str a.set, str a.rel]) 2 rfl Tryd.isAgg23 rfl rfl Tryd.sizeOf23) ?_
   refine Lq.op (v := vS a) rfl rfl rfl (OpQ.call rfl Tryd.call15 rfl Own.stable (fun w1 hw1 => toSt_ok a w1 )) ?_
   refine Lq.run 1 rfl ?_
   refine Lq.op (v := .tuple #[str ((theoO a l).1), bo_ ((theoO a l).2)]) rfl rfl rfl (OpQ.call rfl Tryd.call34 rfl Own.stable (fun w1 hw1 => iTheo_ok a (sl_ p30 l.length cap30) l w1 hsa (Own.row hw1 (i := 0) rfl (by simpa using htp30) (by simp) hlp30) (hlz.1) (hlz.2))) ?_
   refine Lq.run 1 rfl ?_
   refine Lq.op (v := str ((theoO a l).1)) rfl rfl rfl (OpQ.extract rfl rfl rfl) ?_
   refine Lq.op (v := bo_ ((theoO a l).2)) rfl rfl rfl (OpQ.extract rfl rfl rfl) ?_
   refine Lq.run 2 rfl ?_
   refine Lq.nil ?_
   refine Kt.sel [1, 6, 7, 8, 9, 10] [_, _, _, _, _, _] rfl ?_
   refine Wk.seq ?_
   refine Wk.seq ?_
   refine Wk.regionQ ?_
   refine Lq.run 2 rfl ?_
   refine Lq.op rfl rfl rfl (OpQ.sneq rfl rfl rfl) ?_
   refine Lq.run 1 rfl ?_
   refine Lq.bool fun b41 hg41 => ?_
   cases b41
   ·
    replace hg41 := not_false hg41
    refine Lq.run 2 rfl ?_
    refine Lq.op rfl rfl rfl (OpQ.bne rfl Tryd.runUnderlying4 rfl rfl) ?_
    refine Lq.run 1 rfl ?_
    refine Lq.nil ?_
    refine Kt.sel [1, 8, 45] [_, _, _] rfl ?_
    refine Wk.cond (b := ((theoO a l).2) != ((theoO a l).2)) rfl (fun h45 => ?_) (fun h45 => ?_)
    ·
     exact absurd h45 (by simp)
    ·
     refine Wk.skip ?_
     refine Kt.sel [1, 8] [_, _] rfl ?_
     refine Wk.seq ?_
     refine Wk.seq ?_
     refine Wk.region ?_
     refine Ll.run 2 rfl ?_
     refine Ll.callRow (xs := [.tmp 47]) (m := l.length) (vs := strs l) (el := 9) (size := 1) rfl rfl rfl rfl Tryd.call33 rfl (fun w1 hw1 => toStr_ok vl l w1 (Row.own hvl hw1) (by omega)) fun p48 cap48 cur48 hp48 hcp48 hlp48 htp48 => ?_
     refine Ll.op (v := bo_ true) rfl rfl rfl (OpQ.call rfl Tryd.call35 rfl Own.stable (fun w1 hw1 => known_b (beq_self_eq_true _) (eqStr_ok (sl_ p30 l.length cap30) (sl_ p48 l.length cap48) l l w1 (Own.row hw1 (i := 1) rfl (by simpa using htp30) (by simp) hlp30) (Own.row hw1 (i := 0) rfl (by simpa using htp48) (by simp) hlp48) (by first | (simp; done) | (simp; omega) | omega)))) ?_
     refine Ll.run 1 rfl ?_
     refine Ll.nil ?_
     refine Kt.sel [50] [_] rfl ?_
     refine Wk.condF rfl ?_
     refine Wk.skip ?_
     refine Kt.sel [] [] rfl ?_
     refine Wk.seq ?_
     refine Wk.regionQ ?_
     refine Lq.run 1 rfl ?_
     refine Lq.nil ?_
     refine Kt.sel [4] [_] rfl ?_
     refine Wk.ret (Kt.end1 rfl rfl fun w' hw => ?_)
     exact ⟨ret_b (by first | rfl | (simp_all; done) | (simp_all; omega)), hw.below⟩
   ·
    replace hg41 := not_true hg41
    exact absurd hg41 (by simp)
end Go.Proofs.YtnfkmfdhmlombaaDoor
namespace Go.Proofs.YtnfkmfdhmlombaaDoor
open Go.ChangeShapes Go.WideShapes Go.ChangeAt Go.RowKit Go.Wk
namespace FnExactTheoryOf
def W0 : Array Value := #[vS ⟨0, [], []⟩, .slice none 0 0]
set_option maxRecDepth 100000 in
/-- The contract of the row, at every world and every argument. -/
theorem contract (H : Type) (enc : TypeId × Value → H) (W : World) (base : Nat) (args : Array Value) (ds gs : List (DataW H)) (before : List MemPlace)
    (hval : ∀ (j : Nat) t v, Tryd.f8.params[j]? = some t → args[j]? = some v → Value.okWide Tryd.prog W .any base t v)
    (hW : DataW.Whole enc Tryd.prog Tryd.f8.params.toList Rows.fnExactTheoryOfSpec.vars false W args.toList ds gs before) :
    Calls Tryd.prog 8 args W fun e W' => ∃ v, e = .returned v ∧ Rows.fnExactTheoryOfSpec.post enc Tryd.prog Tryd.f8 false true false false W args v W' := by
  have hW' := hW
  obtain ⟨p, q, hA0, hV, rfl, hfz, hnd⟩ := hW
  have hA : DataW.TrodAll enc Tryd.prog W 0 (fun _ => true) true Tryd.f8.params.toList args.toList ds p := hA0
  rw [Tryd.params8] at hA hval
  obtain ⟨v0, vs0, d0, ds0, p0, q0, hargs0, rfl, rfl, h0, r0⟩ := trodAll_cons hA
  obtain ⟨v1, vs1, d1, ds1, p1, q1, hargs1, rfl, rfl, h1, r1⟩ := trodAll_cons r0
  obtain ⟨rfl, rfl, rfl⟩ := trodAll_nil r1
  obtain rfl : args = #[v0, v1] := by cases args; simp_all
  obtain ⟨a0, rfl, s0, t0, lo0, hi0⟩ := open_St Tryd.underlying23 (by kernel_rfl) (by kernel_rfl) rfl rfl rfl Tryd.underlying3 Tryd.underlying9 (hval 0 23 v0 rfl rfl) h0
  obtain ⟨l1, row1, len1, fit1⟩ := open_Z Tryd.underlying45 Tryd.underlying9 (by kernel_rfl) (hval 1 45 v1 rfl rfl) h1
  have walk : Calls Tryd.prog 8 #[vS a0, v1] W fun e w' => e = .returned (.bool true) ∧ Below W.heap.size W w' := by
    exact lawTheo a0 v1 l1 W s0 t0 row1 len1 fit1
  refine walk.mono fun e W' ⟨he, hb⟩ => ⟨_, he, ?_⟩
  exact post_true laidOut (by rw [Tryd.params8]; intro t ht; simp only [List.mem_cons, List.not_mem_nil, or_false] at ht; rcases ht with rfl | rfl <;> exact ⟨by kernel_rfl, of_decide_eq_true (by kernel_rfl)⟩) rfl hW' rfl (by kernel_rfl) Tryd.underlying4 hb
theorem reads (os : Os) {H : Type} (enc : TypeId × Value → H) : ∃ places, DataW.whole enc Tryd.prog ((laidWorld os).forCall (fun _ _ => 0) ⟨#[], W0, []⟩).memory Tryd.f8.params.toList Rows.fnExactTheoryOfSpec.vars false W0.toList 8 = some ([.agg [.lit (.int .i64 0), .lit (.string []), .lit (.string [])], .nil], [], places) :=
  ⟨[], by kernel_rfl⟩
set_option maxRecDepth 100000 in
theorem lifted (os : Os) (started : os.Started) (H : Type) (enc : TypeId × Value → H) (F : Stop.Interp) :
    ReturnsInHanded {} Tryd.checked os 8 .any ((OpenSpec.ofChange Rows.fnExactTheoryOfSpec).preRow enc Tryd.prog Tryd.f8 Rows.fnExactTheoryOfRow.domain false Rows.fnExactTheoryOfRow.laid) (((OpenSpec.ofChange Rows.fnExactTheoryOfSpec).at F).post enc Tryd.prog Tryd.f8 false true false false) := by
  obtain ⟨places, hx⟩ := reads os enc
  refine returnsInHanded_of_row (C := Tryd.checked) (s := OpenSpec.ofChange Rows.fnExactTheoryOfSpec) own started (by kernel_rfl) Tryd.func8
    (witness_row_at (enc := enc) (C := Tryd.checked) false (laidWorld os) W0 rfl (by kernel_rfl) (by kernel_rfl) (by kernel_rfl)
      (OpenSpec.preRow_of_cond 8 hx (by kernel_rfl) (fun k hk => by cases hk) (by kernel_rfl) (laid_met os W0))) ?_
  intro W base args ds gs before hval hW _ _ _ hL _ _
  exact contract H enc W base args ds gs before hval hW
theorem k0 : (Rows.fnExactTheoryOfRow.wf (OpenSpec.ofChange (OpenSpec.ofChange Rows.fnExactTheoryOfSpec).bare)) = true := by kernel_rfl
theorem k3 : (Tryd.f8.params.all (Tryd.pinned.checked.prog.readableRec ·)) = true := by kernel_rfl
theorem k4 : (namedTie Tryd.pinned.checked.prog Rows.fnExactTheoryOfRow.named (OpenSpec.ofChange Rows.fnExactTheoryOfSpec).bare.vars) = true := by kernel_rfl
theorem k9 : ((Rows.fnExactTheoryOfRow.inPlace == Tryd.pinned.checked.prog.inPlace 8)) = true := by kernel_rfl
theorem k10 : ((Rows.fnExactTheoryOfRow.unfollowed == Tryd.pinned.checked.prog.unfollowed 8)) = true := by kernel_rfl
theorem k11 : ((Rows.fnExactTheoryOfRow.recurses == Tryd.pinned.checked.prog.recurses 8)) = true := by kernel_rfl
theorem k12 : ((Rows.fnExactTheoryOfRow.named == Tryd.pinned.checked.prog.varsNamed 8)) = true := by kernel_rfl
theorem k13 : ((Rows.fnExactTheoryOfRow.maps == (Tryd.f8.params.toList ++ (OpenSpec.ofChange Rows.fnExactTheoryOfSpec).bare.plain.varTypes Tryd.pinned.checked.prog).any (Tryd.pinned.checked.prog.mapsRec ·))) = true := by kernel_rfl
theorem k14 : ((Rows.fnExactTheoryOfRow.ifaces == (Tryd.f8.params.toList ++ (OpenSpec.ofChange Rows.fnExactTheoryOfSpec).bare.plain.varTypes Tryd.pinned.checked.prog).any (Tryd.pinned.checked.prog.ifacesRec ·))) = true := by kernel_rfl
theorem k15 : ((Rows.fnExactTheoryOfRow.mapsOut == Tryd.pinned.checked.prog.mapsAmong Tryd.f8.resultTypes.toList)) = true := by kernel_rfl
theorem k16 : ((Rows.fnExactTheoryOfRow.loops == (Tryd.f8.params.toList ++ (OpenSpec.ofChange Rows.fnExactTheoryOfSpec).bare.plain.varTypes Tryd.pinned.checked.prog).any (Tryd.pinned.checked.prog.loopsFrom ·))) = true := by kernel_rfl
theorem k17 : ((Rows.fnExactTheoryOfRow.wideKeys == (Tryd.f8.params.toList ++ (OpenSpec.ofChange Rows.fnExactTheoryOfSpec).bare.plain.varTypes Tryd.pinned.checked.prog ++ Tryd.f8.resultTypes.toList).any (Tryd.pinned.checked.prog.wideKeysFrom ·))) = true := by kernel_rfl
theorem k19 : (Tryd.f8.resultTypes.all (fun t => Tryd.pinned.checked.prog.readableRec t && decide (t < Tryd.pinned.checked.prog.types.size))) = true := by kernel_rfl
theorem k20 : ((Rows.fnExactTheoryOfRow.ifacesOut == Tryd.f8.resultTypes.toList.any (Tryd.pinned.checked.prog.ifacesRec ·))) = true := by kernel_rfl
theorem k21 : ((Rows.fnExactTheoryOfRow.loopsOut == Tryd.f8.resultTypes.toList.any (Tryd.pinned.checked.prog.loopsFrom ·))) = true := by kernel_rfl
theorem k30 : ((Rows.fnExactTheoryOfRow.veiled == (Tryd.f8.params.toList ++ (OpenSpec.ofChange Rows.fnExactTheoryOfSpec).bare.plain.varTypes Tryd.pinned.checked.prog ++ Tryd.f8.resultTypes.toList).any (Tryd.pinned.checked.prog.veiledRec ·))) = true := by kernel_rfl
theorem k31 : (Rows.fnExactTheoryOfRow.veiledFits Tryd.pinned.checked.prog Tryd.f8.params.toList (Tryd.f8.params.toList ++ (OpenSpec.ofChange Rows.fnExactTheoryOfSpec).bare.plain.varTypes Tryd.pinned.checked.prog ++ Tryd.f8.resultTypes.toList)) = true := by kernel_rfl
theorem closed : joinedFacts Tryd.pinned.checked.prog 8 Tryd.f8 (OpenSpec.ofChange Rows.fnExactTheoryOfSpec).bare Rows.fnExactTheoryOfRow = true :=
  facts_of k0 Laid1 Laid2 k3 k4 (by kernel_rfl) Laid6 (by kernel_rfl) Laid8 k9 k10 k11 k12 k13 k14 k15 k16 k17 (by kernel_rfl) k19 k20 k21 Laid22 (by kernel_rfl) Laid24 Laid25 Laid26 Laid27 (by kernel_rfl) (by kernel_rfl) k30 k31
theorem said : Rows.FnExactTheoryOfSaid :=
  OpenClaim.holds_of_cond 8 Tryd.f8 rfl rfl rfl rfl rfl rfl rfl ⟨rfl, rfl, rfl, rfl, rfl⟩ rfl rfl rfl rfl rfl (by kernel_rfl) Tryd.func8 closed
    (of_decide_eq_true (by kernel_rfl)) (by unfold Func.isWrapper; first | (rw [if_pos (by decide +kernel)]; kernel_rfl) | (rw [if_neg (by decide +kernel)]; exact ⟨rfl, rfl⟩))
    (fun os started H enc _ F => by rw [OpenClaim.pre_eq_preRow]; exact lifted os started H enc F)
theorem plain (f : FuncId) (fn : Func) (hf : Tryd.pinned.checked.prog.funcNamed Rows.fnExactTheoryOfRow.func = some f) (hfn : Tryd.pinned.checked.prog.funcs[f]? = some fn) :
    false = Tryd.pinned.checked.prog.looks [] ∧ ∀ (j : Nat) t, fn.params[j]? = some t → Tryd.pinned.checked.prog.wantsStandIn t = false := by
  obtain rfl : f = 8 := Option.some.inj ((show Tryd.pinned.checked.prog.funcNamed Rows.fnExactTheoryOfRow.func = some 8 by kernel_rfl).symm.trans hf) |>.symm
  obtain rfl : fn = Tryd.f8 := (Option.some.inj (Tryd.func8.symm.trans hfn)).symm
  refine ⟨by kernel_rfl, fun j t ht => ?_⟩
  rw [Tryd.params8] at ht
  have hm : t ∈ [23, 45] := by simpa using Array.mem_of_getElem? ht
  simp only [List.mem_cons, List.not_mem_nil, or_false] at hm
  rcases hm with rfl | rfl <;> (show Tryd.prog.wantsStandIn _ = false) <;> kernel_rfl
theorem hw : Rows.fnExactTheoryOfRow.wfByText (OpenSpec.ofChange Rows.fnExactTheoryOfSpec) = true := by kernel_rfl
theorem hm : Tryd.pinned.checked.prog.mainIs = some (Rows.fnExactTheoryOfCard.stood.harness.1, Rows.fnExactTheoryOfCard.stood.harness.2.toList) := by kernel_rfl
theorem hg : false = Rows.fnExactTheoryOfRow.goesBy Tryd.pinned.checked.prog := by kernel_rfl
end FnExactTheoryOf
/-- The tied card. -/
theorem cardFnExactTheoryOf : Rows.FnExactTheoryOfCardSaid :=
  Claim7.holds_tied_plain_at .later [] _ _ _ _ FnExactTheoryOf.said (fun _ h => by cases h) FnExactTheoryOf.hw (fun _ h => by cases h) fnExactTheoryOf_row_tie rfl ⟨rfl, rfl⟩ FnExactTheoryOf.hm rfl FnExactTheoryOf.plain FnExactTheoryOf.hg
end Go.Proofs.YtnfkmfdhmlombaaDoor
