/-
  Walks: the law of classes in games of pebbles.
-/
import Derived.Test.YtjcoijejhachhaaDoorSzM
import Derived.Test.YtjcoijejhachhaaDoorPebCM
import Derived.Test.YtjcoijejhachhaaDoorBase
namespace Go.Proofs.YtjcoijejhachhaaDoor
open Go.RowKit Go.Wk
set_option linter.unusedSimpArgs false

set_option maxHeartbeats 400000 in
/-- laws.FnExactPebbleClasses -/
theorem lawPCls (a : St) (q : Int) (w : World) (h1a : a.set.length ≤ 9223372036854775807) (h2a : a.rel.length ≤ 9223372036854775807) (loa : -9223372036854775808 ≤ a.n) (hia : a.n ≤ 9223372036854775807) :
    Calls Tryd.prog 9 [vS a, i6_ q].toArray w fun en w' => en = .returned (.bool true) ∧ Below w.heap.size w w' := by
 refine fnStart (n := 24) (e := [(0, vS a), (1, i6_ q)]) Tryd.func9 rfl rfl rfl rfl Ends.both ?_
 refine Wk.seq ?_
 refine Wk.region ?_
 refine Ll.box (v := vS a) rfl rfl rfl rfl rfl fun p2 hp2 => ?_
 show Ll _ _ (Own _ _ [_]) _ _ ((2, pt_ p2) :: _) _ _ _
 refine Ll.run 1 rfl ?_
 refine Ll.nil ?_
 refine Kt.sel [1, 2] [_, _] rfl ?_
 refine Wk.seq ?_
 refine Wk.regionQ ?_
 refine Lq.run 1 rfl ?_
 refine Lq.nil ?_
 refine Kt.sel [1, 2, 5] [_, _, _] rfl ?_
 refine Wk.seq ?_
 refine Wk.regionQ ?_
 refine Lq.op rfl rfl rfl (OpQ.loadBox (cs := #[i6_ a.n, str a.set, str a.rel]) 0 rfl Tryd.isAgg23 rfl rfl Tryd.sizeOf23) ?_
 refine Lq.run 1 rfl ?_
 refine Lq.op (v := i6_ (szB a 1048576)) rfl rfl rfl (OpQ.call rfl Tryd.call14 rfl Own.stable (fun w1 hw1 => sz_ok a 1048576 w1 (by omega) (by omega) h1a h2a)) ?_
 refine Lq.run 1 rfl ?_
 refine Lq.nil ?_
 refine Kt.sel [1, 2, 5] [_, _, _] rfl ?_
 refine Wk.seq ?_
 refine Wk.seq ?_
 refine Wk.regionQ ?_
 refine Lq.run 2 rfl ?_
 refine Lq.nil ?_
 refine Kt.sel [1, 2, 12] [_, _, _] rfl ?_
 refine Wk.cond (b := decide ((szB a 1048576) < (0 : Int))) rfl (fun h12 => ?_) (fun h12 => ?_)
 ·
  replace h12 := of_decide_eq_true h12
  refine Wk.seq ?_
  refine Wk.regionQ ?_
  refine Lq.run 1 rfl ?_
  refine Lq.nil ?_
  refine Kt.sel [4] [_] rfl ?_
  refine Wk.ret (Kt.end1 rfl rfl fun w' hw => ?_)
  -- ret 0: bo_ true
  exact ⟨ret_b (by first | rfl | (simp_all; done) | (simp_all; omega)), hw.below⟩
 ·
  replace h12 := of_decide_eq_false h12
  obtain ⟨hsa, hz0a, hz1a⟩ := szB_small (by omega) h12
  refine Wk.skip ?_
  refine Kt.sel [1, 2] [_, _] rfl ?_
  refine Wk.seq ?_
  refine Wk.regionQ ?_
  refine Lq.op rfl rfl rfl (OpQ.loadBox (cs := #[i6_ a.n, str a.set, str a.rel]) 0 rfl Tryd.isAgg23 rfl rfl Tryd.sizeOf23) ?_
  refine Lq.op (v := vS a) rfl rfl rfl (OpQ.call rfl Tryd.call16 rfl Own.stable (fun w1 hw1 => toSt_ok a w1 )) ?_
  refine Lq.run 1 rfl ?_
  refine Lq.op (v := i6_ (pebClsB a q)) rfl rfl rfl (OpQ.call rfl Tryd.call30 rfl Own.stable (fun w1 hw1 => sPCls_ok a q w1 hsa loa hia)) ?_
  refine Lq.run 1 rfl ?_
  refine Lq.nil ?_
  refine Kt.sel [1, 2, 6] [_, _, _] rfl ?_
  refine Wk.seq ?_
  refine Wk.regionQ ?_
  refine Lq.op rfl rfl rfl (OpQ.loadBox (cs := #[i6_ a.n, str a.set, str a.rel]) 0 rfl Tryd.isAgg23 rfl rfl Tryd.sizeOf23) ?_
  refine Lq.op (v := vS a) rfl rfl rfl (OpQ.call rfl Tryd.call16 rfl Own.stable (fun w1 hw1 => toSt_ok a w1 )) ?_
  refine Lq.run 1 rfl ?_
  refine Lq.op (v := i6_ (pebClsB a q)) rfl rfl rfl (OpQ.call rfl Tryd.call31 rfl Own.stable (fun w1 hw1 => iPCls_ok a q w1 hsa)) ?_
  refine Lq.run 1 rfl ?_
  refine Lq.nil ?_
  refine Kt.sel [6, 7] [_, _] rfl ?_
  refine Wk.seq ?_
  refine Wk.seq ?_
  refine Wk.regionQ ?_
  refine Lq.run 3 rfl ?_
  refine Lq.nil ?_
  refine Kt.sel [23] [_] rfl ?_
  refine Wk.cond (b := !(decide ((pebClsB a q) = (pebClsB a q)))) rfl (fun h23 => ?_) (fun h23 => ?_)
  ·
   replace h23 := not_true h23
   replace h23 := of_decide_eq_false h23
   exact absurd rfl h23
  ·
   replace h23 := not_false h23
   replace h23 := of_decide_eq_true h23
   refine Wk.skip ?_
   refine Kt.sel [] [] rfl ?_
   refine Wk.seq ?_
   refine Wk.regionQ ?_
   refine Lq.run 1 rfl ?_
   refine Lq.nil ?_
   refine Kt.sel [4] [_] rfl ?_
   refine Wk.ret (Kt.end1 rfl rfl fun w' hw => ?_)
   -- ret 1: bo_ true
   exact ⟨ret_b (by first | rfl | (simp_all; done) | (simp_all; omega)), hw.below⟩

end Go.Proofs.YtjcoijejhachhaaDoor
