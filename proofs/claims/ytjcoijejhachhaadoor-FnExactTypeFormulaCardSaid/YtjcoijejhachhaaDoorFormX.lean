/-
  Walks: the law of formulas of types.
-/
import Derived.Test.YtjcoijejhachhaaDoorSzM
import Derived.Test.YtjcoijejhachhaaDoorTypeM
import Derived.Test.YtjcoijejhachhaaDoorBase
namespace Go.Proofs.YtjcoijejhachhaaDoor
open Go.RowKit Go.Wk
set_option linter.unusedSimpArgs false

set_option maxHeartbeats 400000 in
/-- laws.FnExactTypeFormula -/
theorem lawType (a : St) (va : Value) (xs : List Int) (w : World) (h1a : a.set.length ≤ 9223372036854775807) (h2a : a.rel.length ≤ 9223372036854775807) (hva : Ints w va xs) (loa : -9223372036854775808 ≤ a.n) (hia : a.n ≤ 9223372036854775807) (r : Int) :
    Calls Tryd.prog 3 [vS a, va, i6_ r].toArray w fun en w' => en = .returned (.bool true) ∧ Below w.heap.size w w' := by
 refine fnStart (n := 53) (e := [(0, vS a), (1, va), (2, i6_ r)]) Tryd.func3 rfl rfl rfl rfl Ends.both ?_
 refine Wk.seq ?_
 refine Wk.region ?_
 refine Ll.box (v := vS a) rfl rfl rfl rfl rfl fun p3 hp3 => ?_
 show Ll _ _ (Own _ _ [_]) _ _ ((3, pt_ p3) :: _) _ _ _
 refine Ll.run 1 rfl ?_
 refine Ll.nil ?_
 refine Kt.sel [1, 2, 3] [_, _, _] rfl ?_
 refine Wk.seq ?_
 refine Wk.seq ?_
 refine Wk.regionQ ?_
 refine Lq.run 1 rfl ?_
 refine Lq.op (v := i6_ ((xs.length : Int))) rfl rfl rfl (OpQ.lenRow rfl Tryd.runUnderlying24 rfl (ints_length _) (fun w1 hw1 => Row.own hva hw1)) ?_
 refine Lq.run 1 rfl ?_
 refine Lq.nil ?_
 refine Kt.sel [1, 2, 3, 15] [_, _, _, _] rfl ?_
 refine Wk.cond (b := decide ((1048576 : Int) < ((xs.length : Int)))) rfl (fun h15 => ?_) (fun h15 => ?_)
 ·
  replace h15 := of_decide_eq_true h15
  refine Wk.seq ?_
  refine Wk.regionQ ?_
  refine Lq.run 1 rfl ?_
  refine Lq.nil ?_
  refine Kt.sel [6] [_] rfl ?_
  refine Wk.ret (Kt.end1 rfl rfl fun w' hw => ?_)
  -- ret 0: bo_ true
  exact ⟨ret_b (by first | rfl | (simp_all; done) | (simp_all; omega)), hw.below⟩
 ·
  replace h15 := of_decide_eq_false h15
  refine Wk.skip ?_
  refine Kt.sel [1, 2, 3] [_, _, _] rfl ?_
  refine Wk.seq ?_
  refine Wk.regionQ ?_
  refine Lq.run 1 rfl ?_
  refine Lq.nil ?_
  refine Kt.sel [1, 2, 3, 7] [_, _, _, _] rfl ?_
  refine Wk.seq ?_
  refine Wk.regionQ ?_
  refine Lq.op rfl rfl rfl (OpQ.loadBox (cs := #[i6_ a.n, str a.set, str a.rel]) 0 rfl Tryd.isAgg23 rfl rfl Tryd.sizeOf23) ?_
  refine Lq.run 1 rfl ?_
  refine Lq.op (v := i6_ (szB a 1048576)) rfl rfl rfl (OpQ.call rfl Tryd.call14 rfl Own.stable (fun w1 hw1 => sz_ok a 1048576 w1 (by omega) (by omega) h1a h2a)) ?_
  refine Lq.run 1 rfl ?_
  refine Lq.nil ?_
  refine Kt.sel [1, 2, 3, 7] [_, _, _, _] rfl ?_
  refine Wk.seq ?_
  refine Wk.seq ?_
  refine Wk.regionQ ?_
  refine Lq.run 2 rfl ?_
  refine Lq.nil ?_
  refine Kt.sel [1, 2, 3, 20] [_, _, _, _] rfl ?_
  refine Wk.cond (b := decide ((szB a 1048576) < (0 : Int))) rfl (fun h20 => ?_) (fun h20 => ?_)
  ·
   replace h20 := of_decide_eq_true h20
   refine Wk.seq ?_
   refine Wk.regionQ ?_
   refine Lq.run 1 rfl ?_
   refine Lq.nil ?_
   refine Kt.sel [6] [_] rfl ?_
   refine Wk.ret (Kt.end1 rfl rfl fun w' hw => ?_)
   -- ret 1: bo_ true
   exact ⟨ret_b (by first | rfl | (simp_all; done) | (simp_all; omega)), hw.below⟩
  ·
   replace h20 := of_decide_eq_false h20
   obtain ⟨hsa, hz0a, hz1a⟩ := szB_small (by omega) h20
   refine Wk.skip ?_
   refine Kt.sel [1, 2, 3] [_, _, _] rfl ?_
   refine Wk.seq ?_
   refine Wk.region ?_
   refine Ll.op rfl rfl rfl (OpQ.loadBox (cs := #[i6_ a.n, str a.set, str a.rel]) 0 rfl Tryd.isAgg23 rfl rfl Tryd.sizeOf23) ?_
   refine Ll.op (v := vS a) rfl rfl rfl (OpQ.call rfl Tryd.call16 rfl Own.stable (fun w1 hw1 => toSt_ok a w1 )) ?_
   refine Ll.run 1 rfl ?_
   refine Ll.callRow (xs := [.tmp 24]) (m := xs.length) (vs := ints xs) (el := 3) (size := 1) rfl rfl rfl rfl Tryd.call17 rfl (fun w1 hw1 => toInt_ok va xs w1 (Row.own hva hw1) (by omega)) fun p25 cap25 cur25 hp25 hcp25 hlp25 htp25 => ?_
   refine Ll.run 1 rfl ?_
   refine Ll.op (v := .tuple #[str (optS (tyOut a xs r)), bo_ ((tyOut a xs r).isSome)]) rfl rfl rfl (OpQ.call rfl Tryd.call15 rfl Own.stable (fun w1 hw1 => sType_ok a (sl_ p25 xs.length cap25) xs w1 hsa (Own.row hw1 (i := 0) rfl (by simpa using htp25) (by simp) hlp25) (by first | (simp; done) | (simp; omega) | omega) loa hia r)) ?_
   refine Ll.run 1 rfl ?_
   refine Ll.op (v := str (optS (tyOut a xs r))) rfl rfl rfl (OpQ.extract rfl rfl rfl) ?_
   refine Ll.op (v := bo_ ((tyOut a xs r).isSome)) rfl rfl rfl (OpQ.extract rfl rfl rfl) ?_
   refine Ll.run 2 rfl ?_
   refine Ll.nil ?_
   refine Kt.sel [1, 2, 3, 8, 9] [_, _, _, _, _] rfl ?_
   refine Wk.seq ?_
   refine Wk.region ?_
   refine Ll.run 1 rfl ?_
   refine Ll.callRow (xs := [.tmp 30]) (m := xs.length) (vs := ints xs) (el := 3) (size := 1) rfl rfl rfl rfl Tryd.call17 rfl (fun w1 hw1 => toInt_ok va xs w1 (Row.own hva hw1) (by omega)) fun p31 cap31 cur31 hp31 hcp31 hlp31 htp31 => ?_
   refine Ll.run 1 rfl ?_
   refine Ll.nil ?_
   refine Kt.sel [1, 2, 3, 8, 9, 10] [_, _, _, _, _, _] rfl ?_
   refine Wk.seq ?_
   refine Wk.regionQ ?_
   refine Lq.op rfl rfl rfl (OpQ.loadBox (cs := #[i6_ a.n, str a.set, str a.rel]) 2 rfl Tryd.isAgg23 rfl rfl Tryd.sizeOf23) ?_
   refine Lq.op (v := vS a) rfl rfl rfl (OpQ.call rfl Tryd.call16 rfl Own.stable (fun w1 hw1 => toSt_ok a w1 )) ?_
   refine Lq.run 2 rfl ?_
   refine Lq.op (v := .tuple #[str (optS (tyOut a xs r)), bo_ ((tyOut a xs r).isSome)]) rfl rfl rfl (OpQ.call rfl Tryd.call18 rfl Own.stable (fun w1 hw1 => iType_ok a (sl_ p31 xs.length cap31) xs w1 hsa (Own.row hw1 (i := 0) rfl (by simpa using htp31) (by simp) hlp31) (by first | (simp; done) | (simp; omega) | omega) r)) ?_
   refine Lq.run 1 rfl ?_
   refine Lq.op (v := str (optS (tyOut a xs r))) rfl rfl rfl (OpQ.extract rfl rfl rfl) ?_
   refine Lq.op (v := bo_ ((tyOut a xs r).isSome)) rfl rfl rfl (OpQ.extract rfl rfl rfl) ?_
   refine Lq.run 2 rfl ?_
   refine Lq.nil ?_
   refine Kt.sel [1, 8, 9, 10, 11, 12] [_, _, _, _, _, _] rfl ?_
   refine Wk.seq ?_
   refine Wk.seq ?_
   refine Wk.regionQ ?_
   refine Lq.run 2 rfl ?_
   refine Lq.op rfl rfl rfl (OpQ.sneq rfl rfl rfl) ?_
   refine Lq.run 1 rfl ?_
   refine Lq.bool fun b43 hg43 => ?_
   cases b43
   ·
    replace hg43 := not_false hg43
    refine Lq.run 2 rfl ?_
    refine Lq.op rfl rfl rfl (OpQ.bne rfl Tryd.runUnderlying4 rfl rfl) ?_
    refine Lq.run 1 rfl ?_
    refine Lq.nil ?_
    refine Kt.sel [1, 10, 47] [_, _, _] rfl ?_
    refine Wk.cond (b := ((tyOut a xs r).isSome) != ((tyOut a xs r).isSome)) rfl (fun h47 => ?_) (fun h47 => ?_)
    ·
     exact absurd h47 (by simp)
    ·
     refine Wk.skip ?_
     refine Kt.sel [1, 10] [_, _] rfl ?_
     refine Wk.seq ?_
     refine Wk.seq ?_
     refine Wk.region ?_
     refine Ll.run 2 rfl ?_
     refine Ll.callRow (xs := [.tmp 49]) (m := xs.length) (vs := ints xs) (el := 3) (size := 1) rfl rfl rfl rfl Tryd.call17 rfl (fun w1 hw1 => toInt_ok va xs w1 (Row.own hva hw1) (by omega)) fun p50 cap50 cur50 hp50 hcp50 hlp50 htp50 => ?_
     refine Ll.op (v := bo_ true) rfl rfl rfl (OpQ.call rfl Tryd.call19 rfl Own.stable (fun w1 hw1 => known_b (beq_self_eq_true _) (eqInt_ok (sl_ p31 xs.length cap31) (sl_ p50 xs.length cap50) xs xs w1 (Own.row hw1 (i := 1) rfl (by simpa using htp31) (by simp) hlp31) (Own.row hw1 (i := 0) rfl (by simpa using htp50) (by simp) hlp50) (by first | (simp; done) | (simp; omega) | omega)))) ?_
     refine Ll.run 1 rfl ?_
     refine Ll.nil ?_
     refine Kt.sel [52] [_] rfl ?_
     refine Wk.condF rfl ?_
     refine Wk.skip ?_
     refine Kt.sel [] [] rfl ?_
     refine Wk.seq ?_
     refine Wk.regionQ ?_
     refine Lq.run 1 rfl ?_
     refine Lq.nil ?_
     refine Kt.sel [6] [_] rfl ?_
     refine Wk.ret (Kt.end1 rfl rfl fun w' hw => ?_)
     -- ret 2: bo_ true
     exact ⟨ret_b (by first | rfl | (simp_all; done) | (simp_all; omega)), hw.below⟩
   ·
    replace hg43 := not_true hg43
    exact absurd hg43 (by simp)

end Go.Proofs.YtjcoijejhachhaaDoor
