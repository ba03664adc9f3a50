/-
  FnExactAgreeUpTo: all that its proof names (part 4)
-/
import Derived.Test.YtnfkmfdhmlombaaDoorKFnExactAgreeUpToc
import Derived.Test.YtnfkmfdhmlombaaDoorKFnExactAgreeUpTob
import Derived.Test.YtnfkmfdhmlombaaDoorKFnExactAgreeUpToa
namespace Go.Proofs.YtnfkmfdhmlombaaDoor
open Go.RowKit Go.Wk
set_option linter.unusedSimpArgs false
set_option maxHeartbeats 400000 in
/-- (*impl.holder).decide$1 -/
theorem at_ok (en4 : List Int) (vs : List UInt8) (p4 p5 p : Nat) (c : UInt8) (vv x2 x3 x4 : Value) (k : Nat) (w : World) (h4 : w.heap[p4]? = some (.cells #[ptrV p] 111 (0, 0))) (h5 : w.heap[p5]? = some (.cells (ints en4).toArray 139 (0, 0))) (hN : w.heap[p]? = some (.cells #[u8V c, vv, x2, x3, x4] 148 (0, 0))) (hv : Row w vv (vs.map u8V)) (hk : k < vs.length) (hV : isV (vs.getD k 0) = true) (hE : en4.length = 4) :
    Calls Tryd.prog 209 [i6_ ((k : Int)), .pointer (some ⟨p5, 0, none⟩), .pointer (some ⟨p4, 0, none⟩)].toArray w fun en w' => en = .returned (.int .i64 (en4.getD (vI (vs.getD k 0)) 0)) ∧ Below w.heap.size w w' := by
 refine fnStart (n := 15) (e := [(0, i6_ ((k : Int))), (1, .pointer (some ⟨p5, 0, none⟩)), (2, .pointer (some ⟨p4, 0, none⟩))]) Tryd.func209 rfl rfl rfl rfl Ends.both ?_
 have hv4 := (vI_lt hV).1
 refine Wk.seq ?_
 refine Wk.regionQ ?_
 refine Lq.run 1 rfl ?_
 refine Lq.nil ?_
 refine Kt.sel [0, 1, 2] [_, _, _] rfl ?_
 refine Wk.seq ?_
 refine Wk.regionQ ?_
 refine Lq.op (v := .pointer (some ⟨p, 0, none⟩)) rfl rfl rfl (OpQ.load1 rfl Tryd.isAgg111 rfl (fun w1 hw1 => at_box h4 hw1 0 rfl)) ?_
 refine Lq.op (v := .pointer (some ⟨p, 0, none⟩)) rfl rfl rfl (OpQ.nilCheck rfl rfl) ?_
 refine Lq.op rfl rfl rfl (OpQ.fieldAddr rfl Tryd.runUnderlying148 rfl Tryd.sizeOf33 rfl rfl) ?_
 refine Lq.op (v := vv) rfl rfl rfl (OpQ.load1 rfl Tryd.isAgg33 rfl (fun w1 hw1 => at_box hN hw1 1 rfl)) ?_
 refine Lq.run 1 rfl ?_
 refine Lq.op (v := .pointer (some (sAt vv ((k : Int))))) rfl rfl rfl (OpQ.atRow rfl Tryd.runUnderlying33 Tryd.sizeOf5 rfl rfl (by omega) (by rw [List.length_map]; omega) (fun w1 hw1 => hv.own hw1)) ?_
 refine Lq.op (v := .int .u8 (((vs.getD k 0).toNat : Int))) rfl rfl rfl (OpQ.load1 rfl Tryd.isAgg5 rfl (fun w1 hw1 => Row.u8 (hv.own hw1) (by omega) (by omega))) ?_
 refine Lq.op (v := .int .u8 ((vI (vs.getD k 0) : Int))) rfl rfl rfl (OpQ.cast (by rw [vI_wrap hV]) (OpQ.subU8 rfl rfl rfl)) ?_
 refine Lq.op (v := .pointer (some (⟨p5, vI (vs.getD k 0), none⟩))) rfl rfl rfl (OpQ.cast (v' := .pointer (some ⟨p5, vI (vs.getD k 0), none⟩)) (by rfl) (OpQ.indexArr (i := (vI (vs.getD k 0) : Int)) rfl Tryd.runUnderlying139 Tryd.sizeOf3 rfl rfl (by omega) (by omega))) ?_
 refine Lq.op (v := i6_ (en4.getD (vI (vs.getD k 0)) 0)) rfl rfl rfl (OpQ.load1 rfl Tryd.isAgg3 rfl (fun w1 hw1 => at_box h5 hw1 (vI (vs.getD k 0)) ((List.getElem?_toArray ..).trans (ints_at2 (c := en4) (by omega))))) ?_
 refine Lq.run 1 rfl ?_
 refine Lq.nil ?_
 refine Kt.sel [4] [_] rfl ?_
 refine Wk.ret (Kt.end1 rfl rfl fun w' hw => ?_)
 exact ⟨rfl, hw.below⟩
def IsT (f : Nat) (a : St) (fm : Fm) : Prop := ∀ (B : Nat) (w0 : World) (hs ts : List (Nat × Obj)) (h M : Nat) (K : Memo) (p : Nat) (en4 : List Int) (w : World), (∀ x ∈ ts, x ∈ hs) → TreeB 148 ts fm p → EnvA a en4 → MemoOk 148 a ts K → Own B w0 (memoF 182 h M a K hs) w →
    Calls Tryd.prog f #[.pointer (some ⟨h, 0, none⟩), ptrV p, .agg (ints en4).toArray] w fun en w' => ∃ K', en = .returned (.bool (ev a fm en4)) ∧ MemoOk 148 a ts K' ∧ Own B w0 (memoF 182 h M a K' hs) w'
set_option maxHeartbeats 1600000 in
/-- (*impl.holder).decide -/
theorem decide_step (a : St) (fm : Fm) (ha : a.Fine) (hwf : wfF fm) (ih : ∀ fm2 : Fm, szF fm2 < szF fm → wfF fm2 → IsT 174 a fm2) (B : Nat) (w0 : World) (hs ts : List (Nat × Obj)) (h M : Nat) (K : Memo) (p : Nat) (en4 : List Int) (w : World) (hts : ∀ x ∈ ts, x ∈ hs) (hT : TreeB 148 ts fm p) (hE : EnvA a en4) (hK : MemoOk 148 a ts K) (hw : Own B w0 (memoF 182 h M a K hs) w) :
    Calls Tryd.prog 200 [pt_ h, ptrV p, .agg ((ints en4).toArray)].toArray w fun en w' => ∃ K', en = .returned (.bool (ev a fm en4)) ∧ MemoOk 148 a ts K' ∧ Own B w0 (memoF 182 h M a K' hs) w' := by
 refine fnStartC (Own B w0 (bk_ h #[i6_ a.n, str a.set, str a.rel, .map (some M)] 182 :: ((M, mapP (memoK K)) :: (memoB K ++ hs)))) (n := 156) (e := [(0, pt_ h), (1, ptrV p), (2, .agg ((ints en4).toArray))]) Tryd.func200 rfl rfl rfl rfl Ends.both hw ?_
 refine Wk.seq ?_
 refine Wk.region ?_
 refine Ll.box (v := ptrV p) rfl rfl rfl rfl rfl fun p4 hp4 => ?_
 show Ll _ _ (Own _ _ (_ :: _ :: (((M, mapP (memoK K)) :: (memoB K ++ hs))))) _ _ ((4, pt_ p4) :: _) _ _ _
 refine Ll.box (v := .agg ((ints en4).toArray)) rfl rfl rfl rfl rfl fun p5 hp5 => ?_
 show Ll _ _ (Own _ _ (_ :: _ :: _ :: (((M, mapP (memoK K)) :: (memoB K ++ hs))))) _ _ ((5, pt_ p5) :: _) _ _ _
 refine Ll.run 1 rfl ?_
 refine Ll.nil ?_
 refine Kt.sel [0, 4, 5] [_, _, _] rfl ?_
 refine Wk.seq ?_
 refine Wk.regionQ ?_
 refine Lq.op (v := .func (.func 209) #[] #[pt_ p5, pt_ p4]) rfl rfl rfl (OpQ.func' (cap := [.tmp 5, .tmp 4]) rfl rfl) ?_
 refine Lq.run 1 rfl ?_
 refine Lq.nil ?_
 refine Kt.sel [0, 4, 5, 7] [_, _, _, _] rfl ?_
 refine Wk.seq ?_
 refine Wk.seq ?_
 have hE4 := hE.1
 have ha1 := ha.lo
 have ha8 := ha.hi
 rcases fm_by hwf with ⟨c, rfl, hc⟩ | ⟨c, v, rfl, hc, hv_v⟩ | ⟨c, v, u, rfl, hc, hv_v, hv_u⟩ | ⟨c, q, rfl, hc⟩ | ⟨c, v, q, rfl, hc, hv_v⟩ | ⟨c, q, r, rfl, hc⟩
 ·
  obtain ⟨vv, pv, hm0, hR10, hR20⟩ := hT
  have hm := hts _ hm0
  have hR1 := hR10.more hts
  have hR2 := hR20.more hts
  refine Wk.regionQ ?_
  refine Lq.op rfl rfl rfl (OpQ.loadOwn 1 rfl Tryd.isAgg111 rfl rfl rfl) ?_
  refine Lq.op (v := ptrV p) rfl rfl rfl (OpQ.nilCheck rfl rfl) ?_
  refine Lq.op rfl rfl rfl (OpQ.fieldAddr rfl Tryd.runUnderlying148 rfl Tryd.sizeOf5 rfl rfl) ?_
  refine Lq.op (v := .int .u8 ((c.toNat : Int))) rfl rfl rfl (OpQ.load1 rfl Tryd.isAgg5 rfl (fun w1 hw1 => cell_of ((Own.mem (Own.drop (f := [_, _, _]) (Own.offMemo (f := [_, _, _]) hw1)) hm).2) rfl)) ?_
  refine Lq.nil ?_
  refine Kt.sel [0, 4, 5, 7, 14] [_, _, _, _, _] rfl ?_
  refine Wk.block ?_
  refine Wk.seq ?_
  refine Wk.regionQ ?_
  refine Lq.run 2 rfl ?_
  refine Lq.nil ?_
  refine Kt.sel [0, 4, 5, 7, 14, 15] [_, _, _, _, _, _] rfl ?_
  refine Wk.cond (b := decide (((c.toNat : Int)) = (116 : Int))) rfl (fun h15 => ?_) (fun h15 => ?_)
  ·
   replace h15 := of_decide_eq_true h15
   refine Wk.seq ?_
   refine Wk.regionQ ?_
   refine Lq.run 1 rfl ?_
   refine Lq.nil ?_
   refine Kt.sel [6] [_] rfl ?_
   refine Wk.ret (Kt.end1 rfl rfl fun w' hw => ?_)
   exact ⟨K, ret_b (ev116 h15), hK, Own.drop (f := [_, _]) hw⟩
  ·
   replace h15 := of_decide_eq_false h15
   refine Wk.seq ?_
   refine Wk.regionQ ?_
   refine Lq.run 2 rfl ?_
   refine Lq.nil ?_
   refine Kt.sel [0, 4, 5, 7, 14, 17] [_, _, _, _, _, _] rfl ?_
   refine Wk.cond (b := decide (((c.toNat : Int)) = (102 : Int))) rfl (fun h17 => ?_) (fun h17 => ?_)
   ·
    replace h17 := of_decide_eq_true h17
    refine Wk.seq ?_
    refine Wk.regionQ ?_
    refine Lq.run 1 rfl ?_
    refine Lq.nil ?_
    refine Kt.sel [6] [_] rfl ?_
    refine Wk.ret (Kt.end1 rfl rfl fun w' hw => ?_)
    exact ⟨K, ret_b (ev102 h17), hK, Own.drop (f := [_, _]) hw⟩
   ·
    replace h17 := of_decide_eq_false h17
    exfalso; omega
 ·
  obtain ⟨vv, pv, hm0, hR10, hR20⟩ := hT
  have hm := hts _ hm0
  have hR1 := hR10.more hts
  have hR2 := hR20.more hts
  have hwv := (vI_lt hv_v).1
  have hx1 := hE.at hwv
  refine Wk.regionQ ?_
  refine Lq.op rfl rfl rfl (OpQ.loadOwn 1 rfl Tryd.isAgg111 rfl rfl rfl) ?_
  refine Lq.op (v := ptrV p) rfl rfl rfl (OpQ.nilCheck rfl rfl) ?_
  refine Lq.op rfl rfl rfl (OpQ.fieldAddr rfl Tryd.runUnderlying148 rfl Tryd.sizeOf5 rfl rfl) ?_
  refine Lq.op (v := .int .u8 ((c.toNat : Int))) rfl rfl rfl (OpQ.load1 rfl Tryd.isAgg5 rfl (fun w1 hw1 => cell_of ((Own.mem (Own.drop (f := [_, _, _]) (Own.offMemo (f := [_, _, _]) hw1)) hm).2) rfl)) ?_
  refine Lq.nil ?_
  refine Kt.sel [0, 4, 5, 7, 14] [_, _, _, _, _] rfl ?_
  refine Wk.block ?_
  refine Wk.seq ?_
  refine Wk.regionQ ?_
  refine Lq.run 2 rfl ?_
  refine Lq.nil ?_
  refine Kt.sel [0, 4, 5, 7, 14, 15] [_, _, _, _, _, _] rfl ?_
  refine Wk.cond (b := decide (((c.toNat : Int)) = (116 : Int))) rfl (fun h15_1 => ?_) (fun h15_1 => ?_)
  ·
   replace h15_1 := of_decide_eq_true h15_1
   exfalso; omega
  ·
   replace h15_1 := of_decide_eq_false h15_1
   refine Wk.seq ?_
   refine Wk.regionQ ?_
   refine Lq.run 2 rfl ?_
   refine Lq.nil ?_
   refine Kt.sel [0, 4, 5, 7, 14, 17] [_, _, _, _, _, _] rfl ?_
   refine Wk.cond (b := decide (((c.toNat : Int)) = (102 : Int))) rfl (fun h17_1 => ?_) (fun h17_1 => ?_)
   ·
    replace h17_1 := of_decide_eq_true h17_1
    exfalso; omega
   ·
    replace h17_1 := of_decide_eq_false h17_1
    refine Wk.seq ?_
    refine Wk.regionQ ?_
    refine Lq.run 2 rfl ?_
    refine Lq.nil ?_
    refine Kt.sel [0, 4, 5, 7, 14, 19] [_, _, _, _, _, _] rfl ?_
    refine Wk.cond (b := decide (((c.toNat : Int)) = (80 : Int))) rfl (fun h19 => ?_) (fun h19 => ?_)
    ·
     replace h19 := of_decide_eq_true h19
     refine Wk.seq ?_
     refine Wk.regionD Base.mixed (fun _ h => h.drawn) (by kernel_rfl) ?_
     refine Lq.run 1 rfl ?_
     refine Lq.op (v := pt_ h) rfl rfl rfl (OpQ.nilCheck rfl rfl) ?_
     refine Lq.op rfl rfl rfl (OpQ.fieldAddr rfl Tryd.runUnderlying182 rfl Tryd.sizeOf28 rfl rfl) ?_
     refine Lq.op (v := vS a) rfl rfl rfl (OpQ.loadHold (a := a) 2 rfl Tryd.isAgg28 Tryd.sizeOf28 rfl rfl) ?_
     refine Lq.run 1 rfl ?_
     refine Lq.op (v := i6_ (en4.getD (vI v) 0)) rfl rfl rfl (OpQ.callFn rfl rfl Tryd.call209 rfl Own.stable (fun w1 hw1 => at_ok en4 [v] _ _ p c vv _ _ _ 0 w1 (hw1.has 1 _ _ rfl).2 (hw1.has 0 _ _ rfl).2 ((Own.mem (Own.drop (f := [_, _, _]) (Own.offMemo (f := [_, _, _]) hw1)) hm).2) (RowB.row hR1 (Own.drop (f := [_, _, _]) (Own.offMemo (f := [_, _, _]) hw1))) (by simp) (by simpa using hv_v) hE.1)) ?_
     refine Lq.op (v := bo_ (a.inSet (en4.getD (vI v) 0))) rfl rfl rfl (OpQ.call rfl Tryd.call87 rfl Own.stable (fun w1 hw1 => inSet_ok a (en4.getD (vI v) 0) w1 ha (by first | assumption | exact St.Els.at (by assumption) (by omega) (by omega)))) ?_
     refine Lq.run 1 rfl ?_
     refine Lq.nil ?_
     refine Kt.sel [6] [_] rfl ?_
     refine Wk.ret (Kt.end1 rfl rfl fun w' hw => ?_)
     exact ⟨K, ret_b (ev80 hc), hK, Own.drop (f := [_, _]) hw⟩
    ·
     replace h19 := of_decide_eq_false h19
     exfalso; omega
 ·
  obtain ⟨vv, pv, hm0, hR10, hR20⟩ := hT
  have hm := hts _ hm0
  have hR1 := hR10.more hts
  have hR2 := hR20.more hts
  have hwv := (vI_lt hv_v).1
  have hx1 := hE.at hwv
  have hwu := (vI_lt hv_u).1
  have hx2 := hE.at hwu
  refine Wk.regionQ ?_
  refine Lq.op rfl rfl rfl (OpQ.loadOwn 1 rfl Tryd.isAgg111 rfl rfl rfl) ?_
  refine Lq.op (v := ptrV p) rfl rfl rfl (OpQ.nilCheck rfl rfl) ?_
  refine Lq.op rfl rfl rfl (OpQ.fieldAddr rfl Tryd.runUnderlying148 rfl Tryd.sizeOf5 rfl rfl) ?_
  refine Lq.op (v := .int .u8 ((c.toNat : Int))) rfl rfl rfl (OpQ.load1 rfl Tryd.isAgg5 rfl (fun w1 hw1 => cell_of ((Own.mem (Own.drop (f := [_, _, _]) (Own.offMemo (f := [_, _, _]) hw1)) hm).2) rfl)) ?_
  refine Lq.nil ?_
  refine Kt.sel [0, 4, 5, 7, 14] [_, _, _, _, _] rfl ?_
  refine Wk.block ?_
  refine Wk.seq ?_
  refine Wk.regionQ ?_
  refine Lq.run 2 rfl ?_
  refine Lq.nil ?_
  refine Kt.sel [0, 4, 5, 7, 14, 15] [_, _, _, _, _, _] rfl ?_
  refine Wk.cond (b := decide (((c.toNat : Int)) = (116 : Int))) rfl (fun h15_2 => ?_) (fun h15_2 => ?_)
  ·
   replace h15_2 := of_decide_eq_true h15_2
   exfalso; omega
  ·
   replace h15_2 := of_decide_eq_false h15_2
   refine Wk.seq ?_
   refine Wk.regionQ ?_
   refine Lq.run 2 rfl ?_
   refine Lq.nil ?_
   refine Kt.sel [0, 4, 5, 7, 14, 17] [_, _, _, _, _, _] rfl ?_
   refine Wk.cond (b := decide (((c.toNat : Int)) = (102 : Int))) rfl (fun h17_2 => ?_) (fun h17_2 => ?_)
   ·
    replace h17_2 := of_decide_eq_true h17_2
    exfalso; omega
   ·
    replace h17_2 := of_decide_eq_false h17_2
    refine Wk.seq ?_
    refine Wk.regionQ ?_
    refine Lq.run 2 rfl ?_
    refine Lq.nil ?_
    refine Kt.sel [0, 4, 5, 7, 14, 19] [_, _, _, _, _, _] rfl ?_
    refine Wk.cond (b := decide (((c.toNat : Int)) = (80 : Int))) rfl (fun h19_1 => ?_) (fun h19_1 => ?_)
    ·
     replace h19_1 := of_decide_eq_true h19_1
     exfalso; omega
    ·
     replace h19_1 := of_decide_eq_false h19_1
     refine Wk.seq ?_
     refine Wk.regionQ ?_
     refine Lq.run 2 rfl ?_
     refine Lq.nil ?_
     refine Kt.sel [0, 4, 5, 7, 14, 28] [_, _, _, _, _, _] rfl ?_
     refine Wk.cond (b := decide (((c.toNat : Int)) = (61 : Int))) rfl (fun h28 => ?_) (fun h28 => ?_)
     ·
      replace h28 := of_decide_eq_true h28
      refine Wk.seq ?_
      refine Wk.regionQ ?_
      refine Lq.run 1 rfl ?_
      refine Lq.op (v := i6_ (en4.getD (vI v) 0)) rfl rfl rfl (OpQ.callFn rfl rfl Tryd.call209 rfl Own.stable (fun w1 hw1 => at_ok en4 [v, u] _ _ p c vv _ _ _ 0 w1 (hw1.has 1 _ _ rfl).2 (hw1.has 0 _ _ rfl).2 ((Own.mem (Own.drop (f := [_, _, _]) (Own.offMemo (f := [_, _, _]) hw1)) hm).2) (RowB.row hR1 (Own.drop (f := [_, _, _]) (Own.offMemo (f := [_, _, _]) hw1))) (by simp) (by simpa using hv_v) hE.1)) ?_
      refine Lq.run 1 rfl ?_
      refine Lq.op (v := i6_ (en4.getD (vI u) 0)) rfl rfl rfl (OpQ.callFn rfl rfl Tryd.call209 rfl Own.stable (fun w1 hw1 => at_ok en4 [v, u] _ _ p c vv _ _ _ 1 w1 (hw1.has 1 _ _ rfl).2 (hw1.has 0 _ _ rfl).2 ((Own.mem (Own.drop (f := [_, _, _]) (Own.offMemo (f := [_, _, _]) hw1)) hm).2) (RowB.row hR1 (Own.drop (f := [_, _, _]) (Own.offMemo (f := [_, _, _]) hw1))) (by simp) (by simpa using hv_u) hE.1)) ?_
      refine Lq.run 2 rfl ?_
      refine Lq.nil ?_
      refine Kt.sel [6] [_] rfl ?_
      refine Wk.ret (Kt.end1 rfl rfl fun w' hw => ?_)
      exact ⟨K, ret_b (ev_eq h28), hK, Own.drop (f := [_, _]) hw⟩
     ·
      replace h28 := of_decide_eq_false h28
      refine Wk.seq ?_
      refine Wk.regionQ ?_
      refine Lq.run 2 rfl ?_
      refine Lq.nil ?_
      refine Kt.sel [0, 4, 5, 7, 14, 35] [_, _, _, _, _, _] rfl ?_
      refine Wk.cond (b := decide (((c.toNat : Int)) = (69 : Int))) rfl (fun h35 => ?_) (fun h35 => ?_)
      ·
       replace h35 := of_decide_eq_true h35
       refine Wk.seq ?_
       refine Wk.regionD Base.mixed (fun _ h => h.drawn) (by kernel_rfl) ?_
       refine Lq.run 1 rfl ?_
       refine Lq.op (v := pt_ h) rfl rfl rfl (OpQ.nilCheck rfl rfl) ?_
       refine Lq.op rfl rfl rfl (OpQ.fieldAddr rfl Tryd.runUnderlying182 rfl Tryd.sizeOf28 rfl rfl) ?_
       refine Lq.op (v := vS a) rfl rfl rfl (OpQ.loadHold (a := a) 2 rfl Tryd.isAgg28 Tryd.sizeOf28 rfl rfl) ?_
       refine Lq.run 1 rfl ?_
       refine Lq.op (v := i6_ (en4.getD (vI v) 0)) rfl rfl rfl (OpQ.callFn rfl rfl Tryd.call209 rfl Own.stable (fun w1 hw1 => at_ok en4 [v, u] _ _ p c vv _ _ _ 0 w1 (hw1.has 1 _ _ rfl).2 (hw1.has 0 _ _ rfl).2 ((Own.mem (Own.drop (f := [_, _, _]) (Own.offMemo (f := [_, _, _]) hw1)) hm).2) (RowB.row hR1 (Own.drop (f := [_, _, _]) (Own.offMemo (f := [_, _, _]) hw1))) (by simp) (by simpa using hv_v) hE.1)) ?_
       refine Lq.run 1 rfl ?_
       refine Lq.op (v := i6_ (en4.getD (vI u) 0)) rfl rfl rfl (OpQ.callFn rfl rfl Tryd.call209 rfl Own.stable (fun w1 hw1 => at_ok en4 [v, u] _ _ p c vv _ _ _ 1 w1 (hw1.has 1 _ _ rfl).2 (hw1.has 0 _ _ rfl).2 ((Own.mem (Own.drop (f := [_, _, _]) (Own.offMemo (f := [_, _, _]) hw1)) hm).2) (RowB.row hR1 (Own.drop (f := [_, _, _]) (Own.offMemo (f := [_, _, _]) hw1))) (by simp) (by simpa using hv_u) hE.1)) ?_
       refine Lq.op (v := bo_ (a.inRel (en4.getD (vI v) 0) (en4.getD (vI u) 0))) rfl rfl rfl (OpQ.call rfl Tryd.call88 rfl Own.stable (fun w1 hw1 => inRel_ok a (en4.getD (vI v) 0) (en4.getD (vI u) 0) w1 ha (by first | assumption | exact St.Els.at (by assumption) (by omega) (by omega)) (by first | assumption | exact St.Els.at (by assumption) (by omega) (by omega)))) ?_
       refine Lq.run 1 rfl ?_
       refine Lq.nil ?_
       refine Kt.sel [6] [_] rfl ?_
       refine Wk.ret (Kt.end1 rfl rfl fun w' hw => ?_)
       exact ⟨K, ret_b (ev_rel h35), hK, Own.drop (f := [_, _]) hw⟩
      ·
       replace h35 := of_decide_eq_false h35
       exfalso; omega
 ·
  obtain ⟨q1, ⟨vv, pv, hm0, hR10, hR20⟩, hT1⟩ := hT
  have hm := hts _ hm0
  have hR1 := hR10.more hts
  have hR2 := hR20.more hts
  refine Wk.regionQ ?_
  refine Lq.op rfl rfl rfl (OpQ.loadOwn 1 rfl Tryd.isAgg111 rfl rfl rfl) ?_
  refine Lq.op (v := ptrV p) rfl rfl rfl (OpQ.nilCheck rfl rfl) ?_
  refine Lq.op rfl rfl rfl (OpQ.fieldAddr rfl Tryd.runUnderlying148 rfl Tryd.sizeOf5 rfl rfl) ?_
  refine Lq.op (v := .int .u8 ((c.toNat : Int))) rfl rfl rfl (OpQ.load1 rfl Tryd.isAgg5 rfl (fun w1 hw1 => cell_of ((Own.mem (Own.drop (f := [_, _, _]) (Own.offMemo (f := [_, _, _]) hw1)) hm).2) rfl)) ?_
  refine Lq.nil ?_
  refine Kt.sel [0, 4, 5, 7, 14] [_, _, _, _, _] rfl ?_
  refine Wk.block ?_
  refine Wk.seq ?_
  refine Wk.regionQ ?_
  refine Lq.run 2 rfl ?_
  refine Lq.nil ?_
  refine Kt.sel [0, 4, 5, 7, 14, 15] [_, _, _, _, _, _] rfl ?_
  refine Wk.cond (b := decide (((c.toNat : Int)) = (116 : Int))) rfl (fun h15_3 => ?_) (fun h15_3 => ?_)
  ·
   replace h15_3 := of_decide_eq_true h15_3
   exfalso; omega
  ·
   replace h15_3 := of_decide_eq_false h15_3
   refine Wk.seq ?_
   refine Wk.regionQ ?_
   refine Lq.run 2 rfl ?_
   refine Lq.nil ?_
   refine Kt.sel [0, 4, 5, 7, 14, 17] [_, _, _, _, _, _] rfl ?_
   refine Wk.cond (b := decide (((c.toNat : Int)) = (102 : Int))) rfl (fun h17_3 => ?_) (fun h17_3 => ?_)
   ·
    replace h17_3 := of_decide_eq_true h17_3
    exfalso; omega
   ·
    replace h17_3 := of_decide_eq_false h17_3
    refine Wk.seq ?_
    refine Wk.regionQ ?_
    refine Lq.run 2 rfl ?_
    refine Lq.nil ?_
    refine Kt.sel [0, 4, 5, 7, 14, 19] [_, _, _, _, _, _] rfl ?_
    refine Wk.cond (b := decide (((c.toNat : Int)) = (80 : Int))) rfl (fun h19_2 => ?_) (fun h19_2 => ?_)
    ·
     replace h19_2 := of_decide_eq_true h19_2
     exfalso; omega
    ·
     replace h19_2 := of_decide_eq_false h19_2
     refine Wk.seq ?_
     refine Wk.regionQ ?_
     refine Lq.run 2 rfl ?_
     refine Lq.nil ?_
     refine Kt.sel [0, 4, 5, 7, 14, 28] [_, _, _, _, _, _] rfl ?_
     refine Wk.cond (b := decide (((c.toNat : Int)) = (61 : Int))) rfl (fun h28_1 => ?_) (fun h28_1 => ?_)
     ·
      replace h28_1 := of_decide_eq_true h28_1
      exfalso; omega
     ·
      replace h28_1 := of_decide_eq_false h28_1
      refine Wk.seq ?_
      refine Wk.regionQ ?_
      refine Lq.run 2 rfl ?_
      refine Lq.nil ?_
      refine Kt.sel [0, 4, 5, 7, 14, 35] [_, _, _, _, _, _] rfl ?_
      refine Wk.cond (b := decide (((c.toNat : Int)) = (69 : Int))) rfl (fun h35_1 => ?_) (fun h35_1 => ?_)
      ·
       replace h35_1 := of_decide_eq_true h35_1
       exfalso; omega
      ·
       replace h35_1 := of_decide_eq_false h35_1
       refine Wk.seq ?_
       refine Wk.regionQ ?_
       refine Lq.run 2 rfl ?_
       refine Lq.nil ?_
       refine Kt.sel [0, 4, 5, 14, 46] [_, _, _, _, _] rfl ?_
       refine Wk.cond (b := decide (((c.toNat : Int)) = (33 : Int))) rfl (fun h46 => ?_) (fun h46 => ?_)
       ·
        replace h46 := of_decide_eq_true h46
        refine Wk.seq ?_
        refine Wk.regionS (S := Own B w0 (bk_ p5 ((ints en4).toArray) 139 :: bk_ p4 #[ptrV p] 111 :: bk_ h #[i6_ a.n, str a.set, str a.rel, .map (some M)] 182 :: hs)) [(0, true), (1, true), (7, true), (2, false), (3, true), (4, false), (5, true), (6, false), (8, false), (9, true), (10, true)] Base.mixed (fun _ h => h.drawn) (by kernel_rfl) ?_
        refine Ld.run 1 rfl (fun _ h => Own.offMemo (f := [_, _, _]) h) ?_
        refine Ld.take rfl rfl rfl rfl rfl (OpQ.loadOwn 1 rfl Tryd.isAgg111 rfl rfl rfl) (fun _ h => Own.offMemo (f := [_, _, _]) h) ?_
        refine Ld.take rfl rfl rfl rfl rfl (OpQ.loadBox (cs := (ints en4).toArray) 0 rfl Tryd.isAgg139 rfl rfl (by intro w; rw [show (ints en4).toArray.size = 4 from by simp [hE4]]; exact Tryd.sizeOf139 w)) (fun _ h => Own.offMemo (f := [_, _, _]) h) ?_
        refine Ld.loud rfl ?_
        refine Ll.op (v := ptrV p) rfl rfl rfl (OpQ.nilCheck rfl rfl) ?_
        refine Ll.nil (Ld.joint (fun _ h => Own.offMemo (f := [_, _, _]) h) ?_)
        refine Ld.take rfl rfl rfl rfl rfl (OpQ.fieldAddr rfl Tryd.runUnderlying148 rfl Tryd.sizeOf146 rfl rfl) (fun _ h => Own.offMemo (f := [_, _, _]) h) ?_
        refine Ld.loud rfl ?_
        refine Ll.op (v := pv) rfl rfl rfl (OpQ.load1 rfl Tryd.isAgg146 rfl (fun w1 hw1 => cell_of ((Own.mem (Own.drop (f := [_, _, _]) (Own.offMemo (f := [_, _, _]) hw1)) hm).2) rfl)) ?_
        refine Ll.nil (Ld.joint (fun _ h => Own.offMemo (f := [_, _, _]) h) ?_)
        refine Ld.take (v := .pointer (some (sAt pv 0))) rfl rfl rfl rfl rfl (OpQ.atRow rfl Tryd.runUnderlying146 Tryd.sizeOf111 rfl rfl (by decide) (by simp) (fun w1 hw1 => RowB.row hR2 (Own.drop (f := [_, _, _]) hw1))) (fun _ h => Own.offMemo (f := [_, _, _]) h) ?_
        refine Ld.loud rfl ?_
        refine Ll.op (v := ptrV q1) rfl rfl rfl (OpQ.load1 rfl Tryd.isAgg111 rfl (fun w1 hw1 => Row.cell (RowB.row hR2 (Own.drop (f := [_, _, _]) (Own.offMemo (f := [_, _, _]) hw1))) (by decide) (by simp))) ?_
        refine Ll.nil (Ld.joint (fun _ h => Own.offMemo (f := [_, _, _]) h) ?_)
        refine Ld.loud rfl ?_
        refine Ll.callMemo (ok := fun K => MemoOk 148 a ts K) (b := ev a q en4) (xs := [.tmp 48, .tmp 54, .tmp 55]) (vs := [pt_ h, ptrV q1, .agg ((ints en4).toArray)]) ([bk_ p5 ((ints en4).toArray) 139, bk_ p4 #[ptrV p] 111] : List (Nat × Obj)) rfl rfl rfl rfl Tryd.call174 rfl (fun w1 hw1 => ih q (by first | exact Nat.lt_succ_self _ | exact Nat.lt_succ_of_le (Nat.le_add_right _ _) | exact Nat.lt_succ_of_le (Nat.le_add_left _ _)) hwf.2.2.2.2 B w0 _ ts h M K q1 en4 w1 (fun x hx => List.mem_append_right _ (hts x hx)) hT1 hE hK hw1) fun K1 hM1 => ?_
        show Ll _ _ (Own _ _ (_ :: _ :: _ :: (((M, mapP (memoK K1)) :: (memoB K1 ++ hs))))) _ _ ((56, bo_ (ev a q en4)) :: _) _ _ _
        refine Ll.nil (Ld.joint (fun _ h => Own.offMemo (f := [_, _, _]) h) ?_)
        refine Ld.run 2 rfl (fun _ h => Own.offMemo (f := [_, _, _]) h) ?_
        refine Ld.nil ?_
        refine Kt.sel [6] [_] rfl ?_
        refine Wk.ret (Kt.end1 rfl rfl fun w' hw => ?_)
        exact ⟨K1, ret_b (ev33 hc), hM1, Own.drop (f := [_, _]) hw⟩
       ·
        replace h46 := of_decide_eq_false h46
        exfalso; omega
 ·
  obtain ⟨q1, ⟨vv, pv, hm0, hR10, hR20⟩, hT1⟩ := hT
  have hm := hts _ hm0
  have hR1 := hR10.more hts
  have hR2 := hR20.more hts
  have hwv := (vI_lt hv_v).1
  refine Wk.regionQ ?_
  refine Lq.op rfl rfl rfl (OpQ.loadOwn 1 rfl Tryd.isAgg111 rfl rfl rfl) ?_
  refine Lq.op (v := ptrV p) rfl rfl rfl (OpQ.nilCheck rfl rfl) ?_
  refine Lq.op rfl rfl rfl (OpQ.fieldAddr rfl Tryd.runUnderlying148 rfl Tryd.sizeOf5 rfl rfl) ?_
  refine Lq.op (v := .int .u8 ((c.toNat : Int))) rfl rfl rfl (OpQ.load1 rfl Tryd.isAgg5 rfl (fun w1 hw1 => cell_of ((Own.mem (Own.drop (f := [_, _, _]) (Own.offMemo (f := [_, _, _]) hw1)) hm).2) rfl)) ?_
  refine Lq.nil ?_
  refine Kt.sel [0, 4, 5, 7, 14] [_, _, _, _, _] rfl ?_
  refine Wk.block ?_
  refine Wk.seq ?_
  refine Wk.regionQ ?_
  refine Lq.run 2 rfl ?_
  refine Lq.nil ?_
  refine Kt.sel [0, 4, 5, 7, 14, 15] [_, _, _, _, _, _] rfl ?_
  refine Wk.cond (b := decide (((c.toNat : Int)) = (116 : Int))) rfl (fun h15_4 => ?_) (fun h15_4 => ?_)
  ·
   replace h15_4 := of_decide_eq_true h15_4
   exfalso; unfold quI at *; omega
  ·
   replace h15_4 := of_decide_eq_false h15_4
   refine Wk.seq ?_
   refine Wk.regionQ ?_
   refine Lq.run 2 rfl ?_
   refine Lq.nil ?_
   refine Kt.sel [0, 4, 5, 7, 14, 17] [_, _, _, _, _, _] rfl ?_
   refine Wk.cond (b := decide (((c.toNat : Int)) = (102 : Int))) rfl (fun h17_4 => ?_) (fun h17_4 => ?_)
   ·
    replace h17_4 := of_decide_eq_true h17_4
    exfalso; unfold quI at *; omega
   ·
    replace h17_4 := of_decide_eq_false h17_4
    refine Wk.seq ?_
    refine Wk.regionQ ?_
    refine Lq.run 2 rfl ?_
    refine Lq.nil ?_
    refine Kt.sel [0, 4, 5, 7, 14, 19] [_, _, _, _, _, _] rfl ?_
    refine Wk.cond (b := decide (((c.toNat : Int)) = (80 : Int))) rfl (fun h19_3 => ?_) (fun h19_3 => ?_)
    ·
     replace h19_3 := of_decide_eq_true h19_3
     exfalso; unfold quI at *; omega
    ·
     replace h19_3 := of_decide_eq_false h19_3
     refine Wk.seq ?_
     refine Wk.regionQ ?_
     refine Lq.run 2 rfl ?_
     refine Lq.nil ?_
     refine Kt.sel [0, 4, 5, 7, 14, 28] [_, _, _, _, _, _] rfl ?_
     refine Wk.cond (b := decide (((c.toNat : Int)) = (61 : Int))) rfl (fun h28_2 => ?_) (fun h28_2 => ?_)
     ·
      replace h28_2 := of_decide_eq_true h28_2
      exfalso; unfold quI at *; omega
     ·
      replace h28_2 := of_decide_eq_false h28_2
      refine Wk.seq ?_
      refine Wk.regionQ ?_
      refine Lq.run 2 rfl ?_
      refine Lq.nil ?_
      refine Kt.sel [0, 4, 5, 7, 14, 35] [_, _, _, _, _, _] rfl ?_
      refine Wk.cond (b := decide (((c.toNat : Int)) = (69 : Int))) rfl (fun h35_2 => ?_) (fun h35_2 => ?_)
      ·
       replace h35_2 := of_decide_eq_true h35_2
       exfalso; unfold quI at *; omega
      ·
       replace h35_2 := of_decide_eq_false h35_2
       refine Wk.seq ?_
       refine Wk.regionQ ?_
       refine Lq.run 2 rfl ?_
       refine Lq.nil ?_
       refine Kt.sel [0, 4, 5, 14, 46] [_, _, _, _, _] rfl ?_
       refine Wk.cond (b := decide (((c.toNat : Int)) = (33 : Int))) rfl (fun h46_1 => ?_) (fun h46_1 => ?_)
       ·
        replace h46_1 := of_decide_eq_true h46_1
        exfalso; unfold quI at *; omega
       ·
        replace h46_1 := of_decide_eq_false h46_1
        refine Wk.seq ?_
        refine Wk.regionQ ?_
        refine Lq.run 2 rfl ?_
        refine Lq.nil ?_
        refine Kt.sel [0, 4, 5, 14, 58] [_, _, _, _, _] rfl ?_
        refine Wk.cond (b := decide (((c.toNat : Int)) = (38 : Int))) rfl (fun h58 => ?_) (fun h58 => ?_)
        ·
         replace h58 := of_decide_eq_true h58
         exfalso; unfold quI at *; omega
        ·
         replace h58 := of_decide_eq_false h58
         refine Wk.seq ?_
         refine Wk.regionQ ?_
         refine Lq.run 2 rfl ?_
         refine Lq.nil ?_
         refine Kt.sel [0, 4, 5, 80] [_, _, _, _] rfl ?_
         refine Wk.cond (b := decide (((c.toNat : Int)) = (124 : Int))) rfl (fun h80 => ?_) (fun h80 => ?_)
         ·
          replace h80 := of_decide_eq_true h80
          exfalso; unfold quI at *; omega
         ·
          replace h80 := of_decide_eq_false h80
          refine Wk.skip ?_
          refine Kt.sel [0, 4, 5] [_, _, _] rfl ?_
          refine Wk.seq ?_
          refine Wk.regionQ ?_
          refine Lq.run 1 rfl ?_
          refine Lq.nil ?_
          refine Kt.sel [0, 4, 5, 8] [_, _, _, _] rfl ?_
          refine Wk.seq ?_
          refine Wk.seq ?_
          refine Wk.regionQ ?_
          refine Lq.run 1 rfl ?_
          refine Lq.op (v := pt_ h) rfl rfl rfl (OpQ.nilCheck rfl rfl) ?_
          refine Lq.op rfl rfl rfl (OpQ.fieldAddr rfl Tryd.runUnderlying182 rfl Tryd.sizeOf28 rfl rfl) ?_
          refine Lq.op rfl rfl rfl (OpQ.fieldAddr rfl Tryd.runUnderlying28 rfl Tryd.sizeOf3 rfl rfl) ?_
          refine Lq.op rfl rfl rfl (OpQ.loadOwn 2 rfl Tryd.isAgg3 rfl rfl rfl) ?_
          refine Lq.run 1 rfl ?_
          refine Lq.nil ?_
          refine Kt.sel [0, 4, 5, 8, 106, 107] [_, _, _, _, _, _] rfl ?_
          refine Wk.block ?_
          refine Wk.loop (σ := Nat × List Int × Memo) (fun ⟨x, E, K⟩ => (x : Int) ≤ a.n ∧ E.length = 4 ∧ (∀ z : Int, E.set (vI v) z = en4.set (vI v) z) ∧ MemoOk 148 a ts K) (fun ⟨x, E, K⟩ => [(0, pt_ h), (4, pt_ p4), (5, pt_ p5), (8, i6_ ((cntT (evC a v q en4) x : Int))), (106, i6_ a.n), (107, i6_ ((x : Int)))]) (fun ⟨x, E, K⟩ => Own B w0 (bk_ p5 ((ints E).toArray) 139 :: bk_ p4 #[ptrV p] 111 :: bk_ h #[i6_ a.n, str a.set, str a.rel, .map (some M)] 182 :: (((M, mapP (memoK K)) :: (memoB K ++ hs))))) (fun ⟨x, E, K⟩ => (a.n - x).toNat) ((0, en4, K)) ⟨by omega, hE.1, fun _ => rfl, hK⟩ (Sub.cons rfl (Sub.cons rfl (Sub.cons rfl (Sub.cons (by rfl) (Sub.sel [106, 107] rfl))))) (fun _ h => h) ?_
          rintro ⟨x, E, K⟩ ⟨hx, hEl, hEs, hK⟩
          dsimp only
          have hcx := cntT_le (evC a v q en4) x
          refine Wk.seq ?_
          refine Wk.regionQ ?_
          refine Lq.run 1 rfl ?_
          refine Lq.nil ?_
          refine Kt.sel [0, 4, 5, 8, 106, 107, 108] [_, _, _, _, _, _, _] rfl ?_
          refine Wk.seq ?_
          refine Wk.cond (b := decide (((x : Int)) < a.n)) rfl (fun h108 => ?_) (fun h108 => ?_)
          ·
           replace h108 := of_decide_eq_true h108
           refine Wk.skip ?_
           refine Kt.sel [0, 4, 5, 8, 106, 107] [_, _, _, _, _, _] rfl ?_
           refine Wk.seq ?_
           refine Wk.block ?_
           refine Wk.seq ?_
           refine Wk.regionQ ?_
           refine Lq.run 2 rfl ?_
           refine Lq.nil ?_
           refine Kt.sel [0, 4, 5, 8, 9, 106, 107] [_, _, _, _, _, _, _] rfl ?_
           refine Wk.seq ?_
           refine Wk.region ?_
           refine Ll.op rfl rfl rfl (OpQ.loadOwn 1 rfl Tryd.isAgg111 rfl rfl rfl) ?_
           refine Ll.op (v := ptrV p) rfl rfl rfl (OpQ.nilCheck rfl rfl) ?_
           refine Ll.op rfl rfl rfl (OpQ.fieldAddr rfl Tryd.runUnderlying148 rfl Tryd.sizeOf33 rfl rfl) ?_
           refine Ll.op (v := vv) rfl rfl rfl (OpQ.load1 rfl Tryd.isAgg33 rfl (fun w1 hw1 => cell_of ((Own.mem (Own.drop (f := [_, _, _]) (Own.offMemo (f := [_, _, _]) hw1)) hm).2) rfl)) ?_
           refine Ll.op (v := .pointer (some (sAt vv 0))) rfl rfl rfl (OpQ.atRow rfl Tryd.runUnderlying33 Tryd.sizeOf5 rfl rfl (by decide) (by simp) (fun w1 hw1 => RowB.row hR1 (Own.drop (f := [_, _, _]) (Own.offMemo (f := [_, _, _]) hw1)))) ?_
           refine Ll.op (v := .int .u8 ((v.toNat : Int))) rfl rfl rfl (OpQ.load1 rfl Tryd.isAgg5 rfl (fun w1 hw1 => Row.u8 (RowB.row hR1 (Own.drop (f := [_, _, _]) (Own.offMemo (f := [_, _, _]) hw1))) (by decide) (by simp))) ?_
           refine Ll.op (v := .int .u8 ((vI v : Int))) rfl rfl rfl (OpQ.cast (by rw [vI_wrap hv_v]) (OpQ.subU8 rfl rfl rfl)) ?_
           refine Ll.run 1 rfl ?_
           refine Ll.op (v := pf_ p5 (vI v)) rfl rfl rfl (OpQ.cast (v' := pf_ p5 (vI v)) (by rfl) (OpQ.indexArr (i := (vI v : Int)) rfl Tryd.runUnderlying139 Tryd.sizeOf3 rfl rfl (by omega) (by omega))) ?_
           refine Ll.store1 (v := i6_ ((x : Int))) (hs' := (bk_ p5 ((ints (E.set (vI v) ((x : Int)))).toArray) 139 :: _ :: _ :: (((M, mapP (memoK K)) :: (memoB K ++ hs))))) 0 rfl rfl rfl rfl rfl rfl Tryd.sizeOf3 rfl (by rw [List.size_toArray, ints_length]; omega) (by first | (rw [ints_set]; rfl) | (simp only [Nat.zero_add]; rw [ints_set]; rfl)) ?_
           refine Ll.nil ?_
           refine Kt.sel [0, 4, 5, 8, 106, 107] [_, _, _, _, _, _] rfl ?_
           refine Wk.seq ?_
           refine Wk.regionS (S := Own B w0 (bk_ p5 ((ints (E.set (vI v) ((x : Int)))).toArray) 139 :: bk_ p4 #[ptrV p] 111 :: bk_ h #[i6_ a.n, str a.set, str a.rel, .map (some M)] 182 :: hs)) [(0, true), (1, true), (7, true), (2, false), (3, true), (4, false), (5, true), (6, false), (8, false)] Base.mixed (fun _ h => h.drawn) (by kernel_rfl) ?_
           refine Ld.run 1 rfl (fun _ h => Own.offMemo (f := [_, _, _]) h) ?_
           refine Ld.take rfl rfl rfl rfl rfl (OpQ.loadOwn 1 rfl Tryd.isAgg111 rfl rfl rfl) (fun _ h => Own.offMemo (f := [_, _, _]) h) ?_
           refine Ld.take rfl rfl rfl rfl rfl (OpQ.loadBox (cs := (ints (E.set (vI v) ((x : Int)))).toArray) 0 rfl Tryd.isAgg139 rfl rfl (by intro w; rw [show (ints (E.set (vI v) ((x : Int)))).toArray.size = 4 from by simp [hEl]]; exact Tryd.sizeOf139 w)) (fun _ h => Own.offMemo (f := [_, _, _]) h) ?_
           refine Ld.loud rfl ?_
           refine Ll.op (v := ptrV p) rfl rfl rfl (OpQ.nilCheck rfl rfl) ?_
           refine Ll.nil (Ld.joint (fun _ h => Own.offMemo (f := [_, _, _]) h) ?_)
           refine Ld.take rfl rfl rfl rfl rfl (OpQ.fieldAddr rfl Tryd.runUnderlying148 rfl Tryd.sizeOf146 rfl rfl) (fun _ h => Own.offMemo (f := [_, _, _]) h) ?_
           refine Ld.loud rfl ?_
           refine Ll.op (v := pv) rfl rfl rfl (OpQ.load1 rfl Tryd.isAgg146 rfl (fun w1 hw1 => cell_of ((Own.mem (Own.drop (f := [_, _, _]) (Own.offMemo (f := [_, _, _]) hw1)) hm).2) rfl)) ?_
           refine Ll.nil (Ld.joint (fun _ h => Own.offMemo (f := [_, _, _]) h) ?_)
           refine Ld.take (v := .pointer (some (sAt pv 0))) rfl rfl rfl rfl rfl (OpQ.atRow rfl Tryd.runUnderlying146 Tryd.sizeOf111 rfl rfl (by decide) (by simp) (fun w1 hw1 => RowB.row hR2 (Own.drop (f := [_, _, _]) hw1))) (fun _ h => Own.offMemo (f := [_, _, _]) h) ?_
           refine Ld.loud rfl ?_
           refine Ll.op (v := ptrV q1) rfl rfl rfl (OpQ.load1 rfl Tryd.isAgg111 rfl (fun w1 hw1 => Row.cell (RowB.row hR2 (Own.drop (f := [_, _, _]) (Own.offMemo (f := [_, _, _]) hw1))) (by decide) (by simp))) ?_
           refine Ll.nil (Ld.joint (fun _ h => Own.offMemo (f := [_, _, _]) h) ?_)
           refine Ld.loud rfl ?_
           refine Ll.callMemo (ok := fun K => MemoOk 148 a ts K) (b := ev a q (E.set (vI v) ((x : Int)))) (xs := [.tmp 119, .tmp 125, .tmp 126]) (vs := [pt_ h, ptrV q1, .agg ((ints (E.set (vI v) ((x : Int)))).toArray)]) ([bk_ p5 ((ints (E.set (vI v) ((x : Int)))).toArray) 139, bk_ p4 #[ptrV p] 111] : List (Nat × Obj)) rfl rfl rfl rfl Tryd.call174 rfl (fun w1 hw1 => ih q (by first | exact Nat.lt_succ_self _ | exact Nat.lt_succ_of_le (Nat.le_add_right _ _) | exact Nat.lt_succ_of_le (Nat.le_add_left _ _)) hwf.2.2.2.2 B w0 _ ts h M K q1 (E.set (vI v) ((x : Int))) w1 (fun x hx => List.mem_append_right _ (hts x hx)) hT1 (by rw [hEs]; exact hE.set ⟨by omega, by omega⟩) hK hw1) fun K1_1 hM1_1 => ?_
           show Ll _ _ (Own _ _ (_ :: _ :: _ :: (((M, mapP (memoK K1_1)) :: (memoB K1_1 ++ hs))))) _ _ ((127, bo_ (ev a q (E.set (vI v) ((x : Int))))) :: _) _ _ _
           refine Ll.nil (Ld.joint (fun _ h => Own.offMemo (f := [_, _, _]) h) ?_)
           refine Ld.nil ?_
           refine Kt.sel [0, 4, 5, 8, 106, 107, 127] [_, _, _, _, _, _, _] rfl ?_
           refine Wk.cond (b := ev a q (E.set (vI v) ((x : Int)))) rfl (fun h127 => ?_) (fun h127 => ?_)
           ·
            have hF : evC a v q en4 x = true := evC_of hEs h127
            have hcs := cnt_yes hF
            refine Wk.regionQ ?_
            refine Lq.run 1 rfl ?_
            refine Lq.op rfl rfl rfl (OpQ.add rfl rfl rfl (by omega) (by omega)) ?_
            refine Lq.run 1 rfl ?_
            refine Lq.nil ?_
            refine Kt.sel [0, 4, 5, 8, 106, 107] [_, _, _, _, _, _] rfl ?_
            refine Wk.regionQ ?_
            refine Lq.op rfl rfl rfl (OpQ.add rfl rfl rfl (by omega) (by omega)) ?_
            refine Lq.run 1 rfl ?_
            refine Lq.nil ?_
            refine Kt.again ((x + 1, E.set (vI v) ((x : Int)), K1_1)) ⟨by omega, by simp [hEl], fun z => by rw [List.set_set]; exact hEs z, hM1_1⟩ (by omega) (Sub.cons rfl (Sub.cons rfl (Sub.cons rfl (Sub.cons (by rw [← hcs]; rfl) (Sub.sel [106, 107] rfl))))) (fun _ h => h)
           ·
            have hF : evC a v q en4 x = false := evC_of hEs (by simpa using h127)
            have hcs := cnt_no hF
            refine Wk.skip ?_
            refine Kt.sel [0, 4, 5, 8, 106, 107] [_, _, _, _, _, _] rfl ?_
            refine Wk.regionQ ?_
            refine Lq.op rfl rfl rfl (OpQ.add rfl rfl rfl (by omega) (by omega)) ?_
            refine Lq.run 1 rfl ?_
            refine Lq.nil ?_
            refine Kt.again ((x + 1, E.set (vI v) ((x : Int)), K1_1)) ⟨by omega, by simp [hEl], fun z => by rw [List.set_set]; exact hEs z, hM1_1⟩ (by omega) (Sub.cons rfl (Sub.cons rfl (Sub.cons rfl (Sub.cons (by rw [hcs]; rfl) (Sub.sel [106, 107] rfl))))) (fun _ h => h)
          ·
           replace h108 := of_decide_eq_false h108
           refine Wk.exit rfl ?_
           refine Kt.sel [0, 4, 8] [_, _, _] rfl ?_
           refine Wk.seq ?_
           refine Wk.seq ?_
           refine Wk.regionQ ?_
           refine Lq.op rfl rfl rfl (OpQ.loadOwn 1 rfl Tryd.isAgg111 rfl rfl rfl) ?_
           refine Lq.op (v := ptrV p) rfl rfl rfl (OpQ.nilCheck rfl rfl) ?_
           refine Lq.op rfl rfl rfl (OpQ.fieldAddr rfl Tryd.runUnderlying148 rfl Tryd.sizeOf5 rfl rfl) ?_
           refine Lq.op (v := .int .u8 ((c.toNat : Int))) rfl rfl rfl (OpQ.load1 rfl Tryd.isAgg5 rfl (fun w1 hw1 => cell_of ((Own.mem (Own.drop (f := [_, _, _]) (Own.offMemo (f := [_, _, _]) hw1)) hm).2) rfl)) ?_
           refine Lq.nil ?_
           refine Kt.sel [0, 4, 8, 134] [_, _, _, _] rfl ?_
           refine Wk.block ?_
           refine Wk.seq ?_
           refine Wk.regionQ ?_
           refine Lq.run 2 rfl ?_
           refine Lq.nil ?_
           refine Kt.sel [0, 4, 8, 134, 135] [_, _, _, _, _] rfl ?_
           refine Wk.cond (b := decide (((c.toNat : Int)) = (65 : Int))) rfl (fun h135 => ?_) (fun h135 => ?_)
           ·
            replace h135 := of_decide_eq_true h135
            refine Wk.seq ?_
            refine Wk.regionQ ?_
            refine Lq.run 2 rfl ?_
            refine Lq.op (v := pt_ h) rfl rfl rfl (OpQ.nilCheck rfl rfl) ?_
            refine Lq.op rfl rfl rfl (OpQ.fieldAddr rfl Tryd.runUnderlying182 rfl Tryd.sizeOf28 rfl rfl) ?_
            refine Lq.op rfl rfl rfl (OpQ.fieldAddr rfl Tryd.runUnderlying28 rfl Tryd.sizeOf3 rfl rfl) ?_
            refine Lq.op rfl rfl rfl (OpQ.loadOwn 2 rfl Tryd.isAgg3 rfl rfl rfl) ?_
            refine Lq.run 2 rfl ?_
            refine Lq.nil ?_
            refine Kt.sel [6] [_] rfl ?_
            refine Wk.ret (Kt.end1 rfl rfl fun w' hw => ?_)
            exact ⟨K, ret_b (ev65 h135 (by omega)), hK, Own.drop (f := [_, _]) hw⟩
           ·
            replace h135 := of_decide_eq_false h135
            refine Wk.seq ?_
            refine Wk.regionQ ?_
            refine Lq.run 2 rfl ?_
            refine Lq.nil ?_
            refine Kt.sel [4, 8, 144] [_, _, _] rfl ?_
            refine Wk.cond (b := decide (((c.toNat : Int)) = (83 : Int))) rfl (fun h144 => ?_) (fun h144 => ?_)
            ·
             replace h144 := of_decide_eq_true h144
             refine Wk.seq ?_
             refine Wk.regionQ ?_
             refine Lq.run 3 rfl ?_
             refine Lq.nil ?_
             refine Kt.sel [6] [_] rfl ?_
             refine Wk.ret (Kt.end1 rfl rfl fun w' hw => ?_)
             exact ⟨K, ret_b (ev83 h144 (by omega)), hK, Own.drop (f := [_, _]) hw⟩
            ·
             replace h144 := of_decide_eq_false h144
             refine Wk.skip ?_
             refine Kt.sel [4, 8] [_, _] rfl ?_
             refine Wk.seq ?_
             refine Wk.regionQ ?_
             refine Lq.run 1 rfl ?_
             refine Lq.op rfl rfl rfl (OpQ.loadOwn 1 rfl Tryd.isAgg111 rfl rfl rfl) ?_
             refine Lq.op (v := ptrV p) rfl rfl rfl (OpQ.nilCheck rfl rfl) ?_
             refine Lq.op rfl rfl rfl (OpQ.fieldAddr rfl Tryd.runUnderlying148 rfl Tryd.sizeOf5 rfl rfl) ?_
             refine Lq.op (v := .int .u8 ((c.toNat : Int))) rfl rfl rfl (OpQ.load1 rfl Tryd.isAgg5 rfl (fun w1 hw1 => cell_of ((Own.mem (Own.drop (f := [_, _, _]) (Own.offMemo (f := [_, _, _]) hw1)) hm).2) rfl)) ?_
             refine Lq.op (v := .int .u8 ((c.toNat : Int) - 48)) rfl rfl rfl (OpQ.cast (by rw [IntWalk.u8_in _ (by unfold quI at *; omega)]) (OpQ.subU8 rfl rfl rfl)) ?_
             refine Lq.op (v := i6_ ((c.toNat : Int) - 48)) rfl rfl rfl (OpQ.convInt .i64 rfl Tryd.underlying5 Tryd.underlying3 rfl (IntWalk.i64_in _ (by have := c.toNat_lt; omega))) ?_
             refine Lq.run 2 rfl ?_
             refine Lq.nil ?_
             refine Kt.sel [6] [_] rfl ?_
             refine Wk.ret (Kt.end1 rfl rfl fun w' hw => ?_)
             exact ⟨K, ret_b (ev234 hc h135 h144 (by omega)), hK, Own.drop (f := [_, _]) hw⟩
 ·
  obtain ⟨q1, q2, ⟨vv, pv, hm0, hR10, hR20⟩, hT1, hT2⟩ := hT
  have hm := hts _ hm0
  have hR1 := hR10.more hts
  have hR2 := hR20.more hts
  refine Wk.regionQ ?_
  refine Lq.op rfl rfl rfl (OpQ.loadOwn 1 rfl Tryd.isAgg111 rfl rfl rfl) ?_
  refine Lq.op (v := ptrV p) rfl rfl rfl (OpQ.nilCheck rfl rfl) ?_
  refine Lq.op rfl rfl rfl (OpQ.fieldAddr rfl Tryd.runUnderlying148 rfl Tryd.sizeOf5 rfl rfl) ?_
  refine Lq.op (v := .int .u8 ((c.toNat : Int))) rfl rfl rfl (OpQ.load1 rfl Tryd.isAgg5 rfl (fun w1 hw1 => cell_of ((Own.mem (Own.drop (f := [_, _, _]) (Own.offMemo (f := [_, _, _]) hw1)) hm).2) rfl)) ?_
  refine Lq.nil ?_
  refine Kt.sel [0, 4, 5, 7, 14] [_, _, _, _, _] rfl ?_
  refine Wk.block ?_
  refine Wk.seq ?_
  refine Wk.regionQ ?_
  refine Lq.run 2 rfl ?_
  refine Lq.nil ?_
  refine Kt.sel [0, 4, 5, 7, 14, 15] [_, _, _, _, _, _] rfl ?_
  refine Wk.cond (b := decide (((c.toNat : Int)) = (116 : Int))) rfl (fun h15_5 => ?_) (fun h15_5 => ?_)
  ·
   replace h15_5 := of_decide_eq_true h15_5
   exfalso; omega
  ·
   replace h15_5 := of_decide_eq_false h15_5
   refine Wk.seq ?_
   refine Wk.regionQ ?_
   refine Lq.run 2 rfl ?_
   refine Lq.nil ?_
   refine Kt.sel [0, 4, 5, 7, 14, 17] [_, _, _, _, _, _] rfl ?_
   refine Wk.cond (b := decide (((c.toNat : Int)) = (102 : Int))) rfl (fun h17_5 => ?_) (fun h17_5 => ?_)
   ·
    replace h17_5 := of_decide_eq_true h17_5
    exfalso; omega
   ·
    replace h17_5 := of_decide_eq_false h17_5
    refine Wk.seq ?_
    refine Wk.regionQ ?_
    refine Lq.run 2 rfl ?_
    refine Lq.nil ?_
    refine Kt.sel [0, 4, 5, 7, 14, 19] [_, _, _, _, _, _] rfl ?_
    refine Wk.cond (b := decide (((c.toNat : Int)) = (80 : Int))) rfl (fun h19_4 => ?_) (fun h19_4 => ?_)
    ·
     replace h19_4 := of_decide_eq_true h19_4
     exfalso; omega
    ·
     replace h19_4 := of_decide_eq_false h19_4
     refine Wk.seq ?_
     refine Wk.regionQ ?_
     refine Lq.run 2 rfl ?_
     refine Lq.nil ?_
     refine Kt.sel [0, 4, 5, 7, 14, 28] [_, _, _, _, _, _] rfl ?_
     refine Wk.cond (b := decide (((c.toNat : Int)) = (61 : Int))) rfl (fun h28_3 => ?_) (fun h28_3 => ?_)
     ·
      replace h28_3 := of_decide_eq_true h28_3
      exfalso; omega
     ·
      replace h28_3 := of_decide_eq_false h28_3
      refine Wk.seq ?_
      refine Wk.regionQ ?_
      refine Lq.run 2 rfl ?_
      refine Lq.nil ?_
      refine Kt.sel [0, 4, 5, 7, 14, 35] [_, _, _, _, _, _] rfl ?_
      refine Wk.cond (b := decide (((c.toNat : Int)) = (69 : Int))) rfl (fun h35_3 => ?_) (fun h35_3 => ?_)
      ·
       replace h35_3 := of_decide_eq_true h35_3
       exfalso; omega
      ·
       replace h35_3 := of_decide_eq_false h35_3
       refine Wk.seq ?_
       refine Wk.regionQ ?_
       refine Lq.run 2 rfl ?_
       refine Lq.nil ?_
       refine Kt.sel [0, 4, 5, 14, 46] [_, _, _, _, _] rfl ?_
       refine Wk.cond (b := decide (((c.toNat : Int)) = (33 : Int))) rfl (fun h46_2 => ?_) (fun h46_2 => ?_)
       ·
        replace h46_2 := of_decide_eq_true h46_2
        exfalso; omega
       ·
        replace h46_2 := of_decide_eq_false h46_2
        refine Wk.seq ?_
        refine Wk.regionQ ?_
        refine Lq.run 2 rfl ?_
        refine Lq.nil ?_
        refine Kt.sel [0, 4, 5, 14, 58] [_, _, _, _, _] rfl ?_
        refine Wk.cond (b := decide (((c.toNat : Int)) = (38 : Int))) rfl (fun h58_1 => ?_) (fun h58_1 => ?_)
        ·
         replace h58_1 := of_decide_eq_true h58_1
         refine Wk.seq ?_
         refine Wk.regionS (S := Own B w0 (bk_ p5 ((ints en4).toArray) 139 :: bk_ p4 #[ptrV p] 111 :: bk_ h #[i6_ a.n, str a.set, str a.rel, .map (some M)] 182 :: hs)) [(0, true), (1, true), (7, true), (2, false), (3, true), (4, false), (5, true), (6, false), (8, false), (9, true), (10, true), (11, true), (17, true), (12, false), (13, true), (14, false), (15, true), (16, false), (18, false), (19, true), (20, true)] Base.mixed (fun _ h => h.drawn) (by kernel_rfl) ?_
         refine Ld.run 1 rfl (fun _ h => Own.offMemo (f := [_, _, _]) h) ?_
         refine Ld.take rfl rfl rfl rfl rfl (OpQ.loadOwn 1 rfl Tryd.isAgg111 rfl rfl rfl) (fun _ h => Own.offMemo (f := [_, _, _]) h) ?_
         refine Ld.take rfl rfl rfl rfl rfl (OpQ.loadBox (cs := (ints en4).toArray) 0 rfl Tryd.isAgg139 rfl rfl (by intro w; rw [show (ints en4).toArray.size = 4 from by simp [hE4]]; exact Tryd.sizeOf139 w)) (fun _ h => Own.offMemo (f := [_, _, _]) h) ?_
         refine Ld.loud rfl ?_
         refine Ll.op (v := ptrV p) rfl rfl rfl (OpQ.nilCheck rfl rfl) ?_
         refine Ll.nil (Ld.joint (fun _ h => Own.offMemo (f := [_, _, _]) h) ?_)
         refine Ld.take rfl rfl rfl rfl rfl (OpQ.fieldAddr rfl Tryd.runUnderlying148 rfl Tryd.sizeOf146 rfl rfl) (fun _ h => Own.offMemo (f := [_, _, _]) h) ?_
         refine Ld.loud rfl ?_
         refine Ll.op (v := pv) rfl rfl rfl (OpQ.load1 rfl Tryd.isAgg146 rfl (fun w1 hw1 => cell_of ((Own.mem (Own.drop (f := [_, _, _]) (Own.offMemo (f := [_, _, _]) hw1)) hm).2) rfl)) ?_
         refine Ll.nil (Ld.joint (fun _ h => Own.offMemo (f := [_, _, _]) h) ?_)
         refine Ld.take (v := .pointer (some (sAt pv 0))) rfl rfl rfl rfl rfl (OpQ.atRow rfl Tryd.runUnderlying146 Tryd.sizeOf111 rfl rfl (by decide) (by simp) (fun w1 hw1 => RowB.row hR2 (Own.drop (f := [_, _, _]) hw1))) (fun _ h => Own.offMemo (f := [_, _, _]) h) ?_
         refine Ld.loud rfl ?_
         refine Ll.op (v := ptrV q1) rfl rfl rfl (OpQ.load1 rfl Tryd.isAgg111 rfl (fun w1 hw1 => Row.cell (RowB.row hR2 (Own.drop (f := [_, _, _]) (Own.offMemo (f := [_, _, _]) hw1))) (by decide) (by simp))) ?_
         refine Ll.nil (Ld.joint (fun _ h => Own.offMemo (f := [_, _, _]) h) ?_)
         refine Ld.loud rfl ?_
         refine Ll.callMemo (ok := fun K => MemoOk 148 a ts K) (b := ev a q en4) (xs := [.tmp 60, .tmp 66, .tmp 67]) (vs := [pt_ h, ptrV q1, .agg ((ints en4).toArray)]) ([bk_ p5 ((ints en4).toArray) 139, bk_ p4 #[ptrV p] 111] : List (Nat × Obj)) rfl rfl rfl rfl Tryd.call174 rfl (fun w1 hw1 => ih q (by first | exact Nat.lt_succ_self _ | exact Nat.lt_succ_of_le (Nat.le_add_right _ _) | exact Nat.lt_succ_of_le (Nat.le_add_left _ _)) hwf.2.2.2.1 B w0 _ ts h M K q1 en4 w1 (fun x hx => List.mem_append_right _ (hts x hx)) hT1 hE hK hw1) fun K1_2 hM1_2 => ?_
         show Ll _ _ (Own _ _ (_ :: _ :: _ :: (((M, mapP (memoK K1_2)) :: (memoB K1_2 ++ hs))))) _ _ ((68, bo_ (ev a q en4)) :: _) _ _ _
         refine Ll.nil (Ld.joint (fun _ h => Own.offMemo (f := [_, _, _]) h) ?_)
         refine Ld.run 1 rfl (fun _ h => Own.offMemo (f := [_, _, _]) h) ?_
         refine Ld.bool fun b69 hg69 => ?_
         cases b69
         ·
          skip
          refine Ld.pass rfl rfl rfl rfl (fun _ h => Own.offMemo (f := [_, _, _]) h) ?_
          refine Ld.pass rfl rfl rfl rfl (fun _ h => Own.offMemo (f := [_, _, _]) h) ?_
          refine Ld.pass rfl rfl rfl rfl (fun _ h => Own.offMemo (f := [_, _, _]) h) ?_
          refine Ld.loud rfl ?_
          refine Ll.pass rfl rfl rfl ?_
          refine Ll.nil (Ld.joint (fun _ h => Own.offMemo (f := [_, _, _]) h) ?_)
          refine Ld.pass rfl rfl rfl rfl (fun _ h => Own.offMemo (f := [_, _, _]) h) ?_
          refine Ld.loud rfl ?_
          refine Ll.pass rfl rfl rfl ?_
          refine Ll.nil (Ld.joint (fun _ h => Own.offMemo (f := [_, _, _]) h) ?_)
          refine Ld.pass rfl rfl rfl rfl (fun _ h => Own.offMemo (f := [_, _, _]) h) ?_
          refine Ld.loud rfl ?_
          refine Ll.pass rfl rfl rfl ?_
          refine Ll.nil (Ld.joint (fun _ h => Own.offMemo (f := [_, _, _]) h) ?_)
          refine Ld.loud rfl ?_
          refine Ll.pass rfl rfl rfl ?_
          refine Ll.nil (Ld.joint (fun _ h => Own.offMemo (f := [_, _, _]) h) ?_)
          refine Ld.run 2 rfl (fun _ h => Own.offMemo (f := [_, _, _]) h) ?_
          refine Ld.nil ?_
          refine Kt.sel [6] [_] rfl ?_
          refine Wk.ret (Kt.end1 rfl rfl fun w' hw => ?_)
          exact ⟨K1_2, ret_b (and_f (ev38 h58_1) hg69), hM1_2, Own.drop (f := [_, _]) hw⟩
         ·
          skip
          refine Ld.run 1 rfl (fun _ h => Own.offMemo (f := [_, _, _]) h) ?_
          refine Ld.take rfl rfl rfl rfl rfl (OpQ.loadOwn 1 rfl Tryd.isAgg111 rfl rfl rfl) (fun _ h => Own.offMemo (f := [_, _, _]) h) ?_
          refine Ld.take rfl rfl rfl rfl rfl (OpQ.loadBox (cs := (ints en4).toArray) 0 rfl Tryd.isAgg139 rfl rfl (by intro w; rw [show (ints en4).toArray.size = 4 from by simp [hE4]]; exact Tryd.sizeOf139 w)) (fun _ h => Own.offMemo (f := [_, _, _]) h) ?_
          refine Ld.loud rfl ?_
          refine Ll.op (v := ptrV p) rfl rfl rfl (OpQ.nilCheck rfl rfl) ?_
          refine Ll.nil (Ld.joint (fun _ h => Own.offMemo (f := [_, _, _]) h) ?_)
          refine Ld.take rfl rfl rfl rfl rfl (OpQ.fieldAddr rfl Tryd.runUnderlying148 rfl Tryd.sizeOf146 rfl rfl) (fun _ h => Own.offMemo (f := [_, _, _]) h) ?_
          refine Ld.loud rfl ?_
          refine Ll.op (v := pv) rfl rfl rfl (OpQ.load1 rfl Tryd.isAgg146 rfl (fun w1 hw1 => cell_of ((Own.mem (Own.drop (f := [_, _, _]) (Own.offMemo (f := [_, _, _]) hw1)) hm).2) rfl)) ?_
          refine Ll.nil (Ld.joint (fun _ h => Own.offMemo (f := [_, _, _]) h) ?_)
          refine Ld.take (v := .pointer (some (sAt pv 1))) rfl rfl rfl rfl rfl (OpQ.atRow rfl Tryd.runUnderlying146 Tryd.sizeOf111 rfl rfl (by decide) (by simp) (fun w1 hw1 => RowB.row hR2 (Own.drop (f := [_, _, _]) hw1))) (fun _ h => Own.offMemo (f := [_, _, _]) h) ?_
          refine Ld.loud rfl ?_
          refine Ll.op (v := ptrV q2) rfl rfl rfl (OpQ.load1 rfl Tryd.isAgg111 rfl (fun w1 hw1 => Row.cell (RowB.row hR2 (Own.drop (f := [_, _, _]) (Own.offMemo (f := [_, _, _]) hw1))) (by decide) (by simp))) ?_
          refine Ll.nil (Ld.joint (fun _ h => Own.offMemo (f := [_, _, _]) h) ?_)
          refine Ld.loud rfl ?_
          refine Ll.callMemo (ok := fun K => MemoOk 148 a ts K) (b := ev a r en4) (xs := [.tmp 70, .tmp 76, .tmp 77]) (vs := [pt_ h, ptrV q2, .agg ((ints en4).toArray)]) ([bk_ p5 ((ints en4).toArray) 139, bk_ p4 #[ptrV p] 111] : List (Nat × Obj)) rfl rfl rfl rfl Tryd.call174 rfl (fun w1 hw1 => ih r (by first | exact Nat.lt_succ_self _ | exact Nat.lt_succ_of_le (Nat.le_add_right _ _) | exact Nat.lt_succ_of_le (Nat.le_add_left _ _)) hwf.2.2.2.2 B w0 _ ts h M K1_2 q2 en4 w1 (fun x hx => List.mem_append_right _ (hts x hx)) hT2 hE hM1_2 hw1) fun K1_3 hM1_3 => ?_
          show Ll _ _ (Own _ _ (_ :: _ :: _ :: (((M, mapP (memoK K1_3)) :: (memoB K1_3 ++ hs))))) _ _ ((78, bo_ (ev a r en4)) :: _) _ _ _
          refine Ll.nil (Ld.joint (fun _ h => Own.offMemo (f := [_, _, _]) h) ?_)
          refine Ld.run 2 rfl (fun _ h => Own.offMemo (f := [_, _, _]) h) ?_
          refine Ld.nil ?_
          refine Kt.sel [6] [_] rfl ?_
          refine Wk.ret (Kt.end1 rfl rfl fun w' hw => ?_)
          exact ⟨K1_3, ret_b (and_t (ev38 h58_1) hg69), hM1_3, Own.drop (f := [_, _]) hw⟩
        ·
         replace h58_1 := of_decide_eq_false h58_1
         refine Wk.seq ?_
         refine Wk.regionQ ?_
         refine Lq.run 2 rfl ?_
         refine Lq.nil ?_
         refine Kt.sel [0, 4, 5, 80] [_, _, _, _] rfl ?_
         refine Wk.cond (b := decide (((c.toNat : Int)) = (124 : Int))) rfl (fun h80_1 => ?_) (fun h80_1 => ?_)
         ·
          replace h80_1 := of_decide_eq_true h80_1
          refine Wk.seq ?_
          refine Wk.regionS (S := Own B w0 (bk_ p5 ((ints en4).toArray) 139 :: bk_ p4 #[ptrV p] 111 :: bk_ h #[i6_ a.n, str a.set, str a.rel, .map (some M)] 182 :: hs)) [(0, true), (1, true), (7, true), (2, false), (3, true), (4, false), (5, true), (6, false), (8, false), (9, true), (10, true), (11, true), (17, true), (12, false), (13, true), (14, false), (15, true), (16, false), (18, false), (19, true), (20, true)] Base.mixed (fun _ h => h.drawn) (by kernel_rfl) ?_
          refine Ld.run 1 rfl (fun _ h => Own.offMemo (f := [_, _, _]) h) ?_
          refine Ld.take rfl rfl rfl rfl rfl (OpQ.loadOwn 1 rfl Tryd.isAgg111 rfl rfl rfl) (fun _ h => Own.offMemo (f := [_, _, _]) h) ?_
          refine Ld.take rfl rfl rfl rfl rfl (OpQ.loadBox (cs := (ints en4).toArray) 0 rfl Tryd.isAgg139 rfl rfl (by intro w; rw [show (ints en4).toArray.size = 4 from by simp [hE4]]; exact Tryd.sizeOf139 w)) (fun _ h => Own.offMemo (f := [_, _, _]) h) ?_
          refine Ld.loud rfl ?_
          refine Ll.op (v := ptrV p) rfl rfl rfl (OpQ.nilCheck rfl rfl) ?_
          refine Ll.nil (Ld.joint (fun _ h => Own.offMemo (f := [_, _, _]) h) ?_)
          refine Ld.take rfl rfl rfl rfl rfl (OpQ.fieldAddr rfl Tryd.runUnderlying148 rfl Tryd.sizeOf146 rfl rfl) (fun _ h => Own.offMemo (f := [_, _, _]) h) ?_
          refine Ld.loud rfl ?_
          refine Ll.op (v := pv) rfl rfl rfl (OpQ.load1 rfl Tryd.isAgg146 rfl (fun w1 hw1 => cell_of ((Own.mem (Own.drop (f := [_, _, _]) (Own.offMemo (f := [_, _, _]) hw1)) hm).2) rfl)) ?_
          refine Ll.nil (Ld.joint (fun _ h => Own.offMemo (f := [_, _, _]) h) ?_)
          refine Ld.take (v := .pointer (some (sAt pv 0))) rfl rfl rfl rfl rfl (OpQ.atRow rfl Tryd.runUnderlying146 Tryd.sizeOf111 rfl rfl (by decide) (by simp) (fun w1 hw1 => RowB.row hR2 (Own.drop (f := [_, _, _]) hw1))) (fun _ h => Own.offMemo (f := [_, _, _]) h) ?_
          refine Ld.loud rfl ?_
          refine Ll.op (v := ptrV q1) rfl rfl rfl (OpQ.load1 rfl Tryd.isAgg111 rfl (fun w1 hw1 => Row.cell (RowB.row hR2 (Own.drop (f := [_, _, _]) (Own.offMemo (f := [_, _, _]) hw1))) (by decide) (by simp))) ?_
          refine Ll.nil (Ld.joint (fun _ h => Own.offMemo (f := [_, _, _]) h) ?_)
          refine Ld.loud rfl ?_
          refine Ll.callMemo (ok := fun K => MemoOk 148 a ts K) (b := ev a q en4) (xs := [.tmp 82, .tmp 88, .tmp 89]) (vs := [pt_ h, ptrV q1, .agg ((ints en4).toArray)]) ([bk_ p5 ((ints en4).toArray) 139, bk_ p4 #[ptrV p] 111] : List (Nat × Obj)) rfl rfl rfl rfl Tryd.call174 rfl (fun w1 hw1 => ih q (by first | exact Nat.lt_succ_self _ | exact Nat.lt_succ_of_le (Nat.le_add_right _ _) | exact Nat.lt_succ_of_le (Nat.le_add_left _ _)) hwf.2.2.2.1 B w0 _ ts h M K q1 en4 w1 (fun x hx => List.mem_append_right _ (hts x hx)) hT1 hE hK hw1) fun K1_4 hM1_4 => ?_
          show Ll _ _ (Own _ _ (_ :: _ :: _ :: (((M, mapP (memoK K1_4)) :: (memoB K1_4 ++ hs))))) _ _ ((90, bo_ (ev a q en4)) :: _) _ _ _
          refine Ll.nil (Ld.joint (fun _ h => Own.offMemo (f := [_, _, _]) h) ?_)
          refine Ld.run 1 rfl (fun _ h => Own.offMemo (f := [_, _, _]) h) ?_
          refine Ld.bool fun b91 hg91 => ?_
          cases b91
          ·
           skip
           refine Ld.run 1 rfl (fun _ h => Own.offMemo (f := [_, _, _]) h) ?_
           refine Ld.take rfl rfl rfl rfl rfl (OpQ.loadOwn 1 rfl Tryd.isAgg111 rfl rfl rfl) (fun _ h => Own.offMemo (f := [_, _, _]) h) ?_
           refine Ld.take rfl rfl rfl rfl rfl (OpQ.loadBox (cs := (ints en4).toArray) 0 rfl Tryd.isAgg139 rfl rfl (by intro w; rw [show (ints en4).toArray.size = 4 from by simp [hE4]]; exact Tryd.sizeOf139 w)) (fun _ h => Own.offMemo (f := [_, _, _]) h) ?_
           refine Ld.loud rfl ?_
           refine Ll.op (v := ptrV p) rfl rfl rfl (OpQ.nilCheck rfl rfl) ?_
           refine Ll.nil (Ld.joint (fun _ h => Own.offMemo (f := [_, _, _]) h) ?_)
           refine Ld.take rfl rfl rfl rfl rfl (OpQ.fieldAddr rfl Tryd.runUnderlying148 rfl Tryd.sizeOf146 rfl rfl) (fun _ h => Own.offMemo (f := [_, _, _]) h) ?_
           refine Ld.loud rfl ?_
           refine Ll.op (v := pv) rfl rfl rfl (OpQ.load1 rfl Tryd.isAgg146 rfl (fun w1 hw1 => cell_of ((Own.mem (Own.drop (f := [_, _, _]) (Own.offMemo (f := [_, _, _]) hw1)) hm).2) rfl)) ?_
           refine Ll.nil (Ld.joint (fun _ h => Own.offMemo (f := [_, _, _]) h) ?_)
           refine Ld.take (v := .pointer (some (sAt pv 1))) rfl rfl rfl rfl rfl (OpQ.atRow rfl Tryd.runUnderlying146 Tryd.sizeOf111 rfl rfl (by decide) (by simp) (fun w1 hw1 => RowB.row hR2 (Own.drop (f := [_, _, _]) hw1))) (fun _ h => Own.offMemo (f := [_, _, _]) h) ?_
           refine Ld.loud rfl ?_
           refine Ll.op (v := ptrV q2) rfl rfl rfl (OpQ.load1 rfl Tryd.isAgg111 rfl (fun w1 hw1 => Row.cell (RowB.row hR2 (Own.drop (f := [_, _, _]) (Own.offMemo (f := [_, _, _]) hw1))) (by decide) (by simp))) ?_
           refine Ll.nil (Ld.joint (fun _ h => Own.offMemo (f := [_, _, _]) h) ?_)
           refine Ld.loud rfl ?_
           refine Ll.callMemo (ok := fun K => MemoOk 148 a ts K) (b := ev a r en4) (xs := [.tmp 92, .tmp 98, .tmp 99]) (vs := [pt_ h, ptrV q2, .agg ((ints en4).toArray)]) ([bk_ p5 ((ints en4).toArray) 139, bk_ p4 #[ptrV p] 111] : List (Nat × Obj)) rfl rfl rfl rfl Tryd.call174 rfl (fun w1 hw1 => ih r (by first | exact Nat.lt_succ_self _ | exact Nat.lt_succ_of_le (Nat.le_add_right _ _) | exact Nat.lt_succ_of_le (Nat.le_add_left _ _)) hwf.2.2.2.2 B w0 _ ts h M K1_4 q2 en4 w1 (fun x hx => List.mem_append_right _ (hts x hx)) hT2 hE hM1_4 hw1) fun K1_5 hM1_5 => ?_
           show Ll _ _ (Own _ _ (_ :: _ :: _ :: (((M, mapP (memoK K1_5)) :: (memoB K1_5 ++ hs))))) _ _ ((100, bo_ (ev a r en4)) :: _) _ _ _
           refine Ll.nil (Ld.joint (fun _ h => Own.offMemo (f := [_, _, _]) h) ?_)
           refine Ld.run 2 rfl (fun _ h => Own.offMemo (f := [_, _, _]) h) ?_
           refine Ld.nil ?_
           refine Kt.sel [6] [_] rfl ?_
           refine Wk.ret (Kt.end1 rfl rfl fun w' hw => ?_)
           exact ⟨K1_5, ret_b (or_f (ev124 h80_1) hg91), hM1_5, Own.drop (f := [_, _]) hw⟩
          ·
           skip
           refine Ld.pass rfl rfl rfl rfl (fun _ h => Own.offMemo (f := [_, _, _]) h) ?_
           refine Ld.pass rfl rfl rfl rfl (fun _ h => Own.offMemo (f := [_, _, _]) h) ?_
           refine Ld.pass rfl rfl rfl rfl (fun _ h => Own.offMemo (f := [_, _, _]) h) ?_
           refine Ld.loud rfl ?_
           refine Ll.pass rfl rfl rfl ?_
           refine Ll.nil (Ld.joint (fun _ h => Own.offMemo (f := [_, _, _]) h) ?_)
           refine Ld.pass rfl rfl rfl rfl (fun _ h => Own.offMemo (f := [_, _, _]) h) ?_
           refine Ld.loud rfl ?_
           refine Ll.pass rfl rfl rfl ?_
           refine Ll.nil (Ld.joint (fun _ h => Own.offMemo (f := [_, _, _]) h) ?_)
           refine Ld.pass rfl rfl rfl rfl (fun _ h => Own.offMemo (f := [_, _, _]) h) ?_
           refine Ld.loud rfl ?_
           refine Ll.pass rfl rfl rfl ?_
           refine Ll.nil (Ld.joint (fun _ h => Own.offMemo (f := [_, _, _]) h) ?_)
           refine Ld.loud rfl ?_
           refine Ll.pass rfl rfl rfl ?_
           refine Ll.nil (Ld.joint (fun _ h => Own.offMemo (f := [_, _, _]) h) ?_)
           refine Ld.run 2 rfl (fun _ h => Own.offMemo (f := [_, _, _]) h) ?_
           refine Ld.nil ?_
           refine Kt.sel [6] [_] rfl ?_
           refine Wk.ret (Kt.end1 rfl rfl fun w' hw => ?_)
           exact ⟨K1_4, ret_b (or_t (ev124 h80_1) hg91), hM1_4, Own.drop (f := [_, _]) hw⟩
         ·
          replace h80_1 := of_decide_eq_false h80_1
          exfalso; omega
set_option maxHeartbeats 1600000 in
/-- (*impl.holder).isTrue -/
theorem isTrue_step (a : St) (fm : Fm) (ha : a.Fine) (hwf : wfF fm) (hd : IsT 200 a fm) (B : Nat) (w0 : World) (hs ts : List (Nat × Obj)) (h M : Nat) (K : Memo) (p : Nat) (en4 : List Int) (w : World) (hts : ∀ x ∈ ts, x ∈ hs) (hT : TreeB 148 ts fm p) (hE : EnvA a en4) (hK : MemoOk 148 a ts K) (hw : Own B w0 (memoF 182 h M a K hs) w) :
    Calls Tryd.prog 174 [pt_ h, ptrV p, .agg ((ints en4).toArray)].toArray w fun en w' => ∃ K', en = .returned (.bool (ev a fm en4)) ∧ MemoOk 148 a ts K' ∧ Own B w0 (memoF 182 h M a K' hs) w' := by
 refine fnStartC (Own B w0 (bk_ h #[i6_ a.n, str a.set, str a.rel, .map (some M)] 182 :: ((M, mapP (memoK K)) :: (memoB K ++ hs)))) (n := 72) (e := [(0, pt_ h), (1, ptrV p), (2, .agg ((ints en4).toArray))]) Tryd.func174 rfl rfl rfl rfl Ends.both hw ?_
 have hE4 := hE.1
 have hfl := frB_lt hwf
 obtain ⟨c, vs, ps, vv, pv, hm0, -, -⟩ := hT.node
 have hm := hts _ hm0
 have hwr : Own B w0 hs w := Own.drop (f := [_]) (Own.offMemo (f := [_]) hw)
 refine Wk.seq ?_
 refine Wk.region ?_
 refine Ll.box (v := .agg ((ints en4).toArray)) rfl rfl rfl rfl rfl fun p5 hp5 => ?_
 show Ll _ _ (Own _ _ (_ :: _ :: (((M, mapP (memoK K)) :: (memoB K ++ hs))))) _ _ ((5, pt_ p5) :: _) _ _ _
 refine Ll.run 1 rfl ?_
 refine Ll.nil ?_
 refine Kt.sel [0, 1, 5] [_, _, _] rfl ?_
 refine Wk.seq ?_
 refine Wk.regionQ ?_
 refine Lq.run 1 rfl ?_
 refine Lq.nil ?_
 refine Kt.sel [0, 1, 5, 7] [_, _, _, _] rfl ?_
 refine Wk.seq ?_
 refine Wk.seq ?_
 refine Wk.regionQ ?_
 refine Lq.op rfl rfl rfl (OpQ.loadBox (cs := (ints en4).toArray) 0 rfl Tryd.isAgg139 rfl rfl (by intro w; rw [show (ints en4).toArray.size = 4 from by simp [hE4]]; exact Tryd.sizeOf139 w)) ?_
 refine Lq.run 1 rfl ?_
 refine Lq.nil ?_
 refine Kt.sel [0, 1, 5, 7, 13, 14] [_, _, _, _, _, _] rfl ?_
 refine Wk.block ?_
 refine Wk.loop (σ := Nat) (fun i => i ≤ 4) (fun i => [(0, pt_ h), (1, ptrV p), (5, pt_ p5), (7, i6_ ((kSum (frB fm) en4 i : Int))), (13, .agg ((ints en4).toArray)), (14, i6_ ((i : Int)))]) (fun i => Own B w0 (bk_ p5 ((ints en4).toArray) 139 :: bk_ h #[i6_ a.n, str a.set, str a.rel, .map (some M)] 182 :: (((M, mapP (memoK K)) :: (memoB K ++ hs))))) (fun i => 4 - i) (0) (by omega) (Sub.cons rfl (Sub.cons rfl (Sub.cons rfl (Sub.cons (by rfl) (Sub.sel [13, 14] rfl))))) (fun _ h => h) ?_
 rintro i hi5
 refine Wk.seq ?_
 refine Wk.regionQ ?_
 refine Lq.run 1 rfl ?_
 refine Lq.nil ?_
 refine Kt.sel [0, 1, 5, 7, 13, 14, 15] [_, _, _, _, _, _, _] rfl ?_
 refine Wk.seq ?_
 refine Wk.cond (b := decide (((i : Int)) < (4 : Int))) rfl (fun h15 => ?_) (fun h15 => ?_)
 ·
  replace h15 := of_decide_eq_true h15
  have hi4 : i < 4 := by omega
  refine Wk.skip ?_
  refine Kt.sel [0, 1, 5, 7, 13, 14] [_, _, _, _, _, _] rfl ?_
  refine Wk.seq ?_
  refine Wk.block ?_
  refine Wk.seq ?_
  refine Wk.regionQ ?_
  refine Lq.run 1 rfl ?_
  refine Lq.op (v := i6_ (((en4.getD i 0).toNat : Int))) rfl rfl rfl (OpQ.cast (by rw [Int.toNat_natCast, ← (key_val hE ha hi4).1]) (OpQ.indexAgg (i := (i : Int)) rfl Tryd.runUnderlying139 Tryd.isAgg3 Tryd.sizeOf3 rfl rfl (by omega) (by omega) hE4)) ?_
  refine Lq.run 2 rfl ?_
  refine Lq.nil ?_
  refine Kt.sel [0, 1, 5, 7, 8, 9, 13, 14] [_, _, _, _, _, _, _, _] rfl ?_
  refine Wk.seq ?_
  refine Wk.regionQ ?_
  refine Lq.run 1 rfl ?_
  refine Lq.op (v := ptrV p) rfl rfl rfl (OpQ.nilCheck rfl rfl) ?_
  refine Lq.op rfl rfl rfl (OpQ.fieldAddr rfl Tryd.runUnderlying148 rfl Tryd.sizeOf3 rfl rfl) ?_
  refine Lq.op (v := i6_ ((frB fm : Int))) rfl rfl rfl (OpQ.load1 rfl Tryd.isAgg3 rfl (fun w1 hw1 => cell_of ((Own.mem (Own.drop (f := [_, _]) (Own.offMemo (f := [_, _]) hw1)) hm).2) rfl)) ?_
  refine Lq.run 1 rfl ?_
  refine Lq.op (v := i6_ ((((frB fm) / 2 ^ i : Nat) : Int))) rfl rfl rfl (OpQ.shr (a := frB fm) (b := i) rfl rfl rfl (by omega)) ?_
  refine Lq.op (v := i6_ (((((frB fm) / 2 ^ i) &&& 1 : Nat) : Int))) rfl rfl rfl (OpQ.and (a := (frB fm) / 2 ^ i) (b := 1) rfl rfl rfl (Nat.lt_of_le_of_lt (Nat.div_le_self _ _) (by omega)) (by decide)) ?_
  refine Lq.op (v := bo_ ((frB fm).testBit i)) rfl rfl rfl (OpQ.cast (by rw [bit_and]) (OpQ.eql rfl rfl rfl)) ?_
  refine Lq.nil ?_
  refine Kt.sel [0, 1, 5, 7, 8, 9, 13, 14, 25] [_, _, _, _, _, _, _, _, _] rfl ?_
  refine Wk.cond (b := (frB fm).testBit i) rfl (fun h25 => ?_) (fun h25 => ?_)
  ·
   refine Wk.regionQ ?_
   refine Lq.run 3 rfl ?_
   refine Lq.op (v := i6_ (((3 * i : Nat) : Int))) rfl rfl rfl (OpQ.cast (by congr 1) (OpQ.mul rfl rfl rfl (by omega) (by omega))) ?_
   refine Lq.op (v := i6_ (((((en4.getD i 0).toNat) * 2 ^ (3 * i) : Nat) : Int))) rfl rfl rfl (OpQ.shl (a := (en4.getD i 0).toNat) (b := 3 * i) rfl rfl rfl (by omega) (shl_bound (key_val hE ha hi4).2 hi4)) ?_
   refine Lq.op (v := i6_ ((((kSum (frB fm) en4 i) ||| (((en4.getD i 0).toNat) * 2 ^ (3 * i)) : Nat) : Int))) rfl rfl rfl (OpQ.or (a := kSum (frB fm) en4 i) (b := ((en4.getD i 0).toNat) * 2 ^ (3 * i)) rfl rfl rfl (by have := key_bound hE ha (b := frB fm) (i := i) (by omega); omega) (shl_bound (key_val hE ha hi4).2 hi4)) ?_
   refine Lq.run 1 rfl ?_
   refine Lq.nil ?_
   refine Kt.sel [0, 1, 5, 7, 13, 14] [_, _, _, _, _, _] rfl ?_
   refine Wk.regionQ ?_
   refine Lq.op rfl rfl rfl (OpQ.add rfl rfl rfl (by omega) (by omega)) ?_
   refine Lq.run 1 rfl ?_
   refine Lq.nil ?_
   refine Kt.again (i + 1) (by omega) (by omega) (Sub.cons rfl (Sub.cons rfl (Sub.cons rfl (Sub.cons (by rw [← key_yes hE ha hi4 h25]; rfl) (Sub.sel [13, 14] rfl))))) (fun _ h => h)
  ·
   refine Wk.skip ?_
   refine Kt.sel [0, 1, 5, 7, 13, 14] [_, _, _, _, _, _] rfl ?_
   refine Wk.regionQ ?_
   refine Lq.op rfl rfl rfl (OpQ.add rfl rfl rfl (by omega) (by omega)) ?_
   refine Lq.run 1 rfl ?_
   refine Lq.nil ?_
   refine Kt.again (i + 1) (by omega) (by omega) (Sub.cons rfl (Sub.cons rfl (Sub.cons rfl (Sub.cons (by rw [← key_no h25]; rfl) (Sub.sel [13, 14] rfl))))) (fun _ h => h)
 ·
  replace h15 := of_decide_eq_false h15
  obtain rfl : i = 4 := by omega
  refine Wk.exit rfl ?_
  refine Kt.sel [0, 1, 5, 7] [_, _, _, _] rfl ?_
  refine Wk.seq ?_
  refine Wk.seq ?_
  rcases memo_case3 K p (keyF fm en4) with hno | ⟨j, m, L, hj, hf, hnk⟩ | ⟨j, m, L, hj, hf, hnk⟩
  ·
   refine Wk.regionQ ?_
   refine Lq.run 1 rfl ?_
   refine Lq.op (v := pt_ h) rfl rfl rfl (OpQ.nilCheck rfl rfl) ?_
   refine Lq.op rfl rfl rfl (OpQ.fieldAddr rfl Tryd.runUnderlying182 rfl Tryd.sizeOf180 rfl rfl) ?_
   refine Lq.op rfl rfl rfl (OpQ.loadOwn 1 rfl Tryd.isAgg180 rfl rfl rfl) ?_
   refine Lq.run 1 rfl ?_
   refine Lq.op (v := .map none) rfl rfl rfl (OpQ.lookP_no (K := memoK K) 2 rfl Tryd.underlying180 Tryd.underlying111 Tryd.sizeOf148 (by decide) Tryd.zeroValue215 rfl rfl rfl hno (MemoOk.keys hK (fun x hx => List.mem_cons_of_mem _ (List.mem_cons_of_mem _ (List.mem_cons_of_mem _ (List.mem_append_right _ (hts x hx)))))) (TreeB.key hT (fun x hx => List.mem_cons_of_mem _ (List.mem_cons_of_mem _ (List.mem_cons_of_mem _ (List.mem_append_right _ (hts x hx))))))) ?_
   refine Lq.run 1 rfl ?_
   refine Lq.op (v := .tuple #[bo_ false, bo_ false]) rfl rfl rfl (OpQ.lookI_nil (k := keyF fm en4) rfl Tryd.underlying215 Tryd.underlying3 Tryd.zeroValue4 rfl rfl) ?_
   refine Lq.run 1 rfl ?_
   refine Lq.op (v := bo_ false) rfl rfl rfl (OpQ.extract rfl rfl rfl) ?_
   refine Lq.op (v := bo_ false) rfl rfl rfl (OpQ.extract rfl rfl rfl) ?_
   refine Lq.run 2 rfl ?_
   refine Lq.nil ?_
   refine Kt.sel [0, 1, 5, 7, 10, 11] [_, _, _, _, _, _] rfl ?_
   refine Wk.seq ?_
   refine Wk.regionQ ?_
   refine Lq.run 1 rfl ?_
   refine Lq.nil ?_
   refine Kt.sel [0, 1, 5, 7, 10, 44] [_, _, _, _, _, _] rfl ?_
   refine Wk.condF rfl ?_
   refine Wk.skip ?_
   refine Kt.sel [0, 1, 5, 7] [_, _, _, _] rfl ?_
   refine Wk.seq ?_
   refine Wk.region ?_
   refine Ll.run 2 rfl ?_
   refine Ll.op rfl rfl rfl (OpQ.loadBox (cs := (ints en4).toArray) 0 rfl Tryd.isAgg139 rfl rfl (by intro w; rw [show (ints en4).toArray.size = 4 from by simp [hE4]]; exact Tryd.sizeOf139 w)) ?_
   refine Ll.callMemo (ok := fun K => MemoOk 148 a ts K) (b := ev a fm en4) (xs := [.tmp 46, .tmp 47, .tmp 48]) (vs := [pt_ h, ptrV p, .agg ((ints en4).toArray)]) ([bk_ p5 ((ints en4).toArray) 139] : List (Nat × Obj)) rfl rfl rfl rfl Tryd.call200 rfl (fun w1 hw1 => hd B w0 _ ts h M K p en4 w1 (fun x hx => List.mem_append_right _ (hts x hx)) hT hE hK hw1) fun K1 hM1 => ?_
   show Ll _ _ (Own _ _ (_ :: _ :: (((M, mapP (memoK K1)) :: (memoB K1 ++ hs))))) _ _ ((49, bo_ (ev a fm en4)) :: _) _ _ _
   refine Ll.run 1 rfl ?_
   refine Ll.nil ?_
   refine Kt.sel [0, 1, 7, 12] [_, _, _, _] rfl ?_
   refine Wk.seq ?_
   refine Wk.seq ?_
   rcases memo_case K1 p with hno1 | ⟨j1, m1, L1, hj1, hf1⟩
   ·
    refine Wk.regionQ ?_
    refine Lq.run 1 rfl ?_
    refine Lq.op (v := pt_ h) rfl rfl rfl (OpQ.nilCheck rfl rfl) ?_
    refine Lq.op rfl rfl rfl (OpQ.fieldAddr rfl Tryd.runUnderlying182 rfl Tryd.sizeOf180 rfl rfl) ?_
    refine Lq.op rfl rfl rfl (OpQ.loadOwn 1 rfl Tryd.isAgg180 rfl rfl rfl) ?_
    refine Lq.run 1 rfl ?_
    refine Lq.op (v := .map none) rfl rfl rfl (OpQ.lookP_no (K := memoK K1) 2 rfl Tryd.underlying180 Tryd.underlying111 Tryd.sizeOf148 (by decide) Tryd.zeroValue215 rfl rfl rfl hno1 (MemoOk.keys hM1 (fun x hx => List.mem_cons_of_mem _ (List.mem_cons_of_mem _ (List.mem_cons_of_mem _ (List.mem_append_right _ (hts x hx)))))) (TreeB.key hT (fun x hx => List.mem_cons_of_mem _ (List.mem_cons_of_mem _ (List.mem_cons_of_mem _ (List.mem_append_right _ (hts x hx))))))) ?_
    refine Lq.op (v := bo_ true) rfl rfl rfl (OpQ.eqNilM (p := none) rfl Tryd.underlying215 rfl rfl) ?_
    refine Lq.nil ?_
    refine Kt.sel [0, 1, 7, 12, 56] [_, _, _, _, _] rfl ?_
    refine Wk.join (σ := Memo × Nat × Nat × List (Int × Bool)) (fun ⟨K3, j3, m3, L3⟩ => MemoOk 148 a ts K3 ∧ K3[j3]? = some (p, m3, L3) ∧ ∀ (q : Nat) (x : Nat × Nat), q < j3 → (memoK K3)[q]? = some x → x.1 ≠ p) (fun ⟨K3, j3, m3, L3⟩ => [(0, pt_ h), (1, ptrV p), (7, i6_ (keyF fm en4)), (12, bo_ (ev a fm en4))]) (fun ⟨K3, j3, m3, L3⟩ => Own B w0 (bk_ p5 ((ints en4).toArray) 139 :: bk_ h #[i6_ a.n, str a.set, str a.rel, .map (some M)] 182 :: (((M, mapP (memoK K3)) :: (memoB K3 ++ hs))))) ?_ ?_
    ·
     refine Wk.condT rfl ?_
     refine Wk.region ?_
     refine Ll.run 1 rfl ?_
     refine Ll.op (v := pt_ h) rfl rfl rfl (OpQ.nilCheck rfl rfl) ?_
     refine Ll.op rfl rfl rfl (OpQ.fieldAddr rfl Tryd.runUnderlying182 rfl Tryd.sizeOf180 rfl rfl) ?_
     refine Ll.op rfl rfl rfl (OpQ.loadOwn 1 rfl Tryd.isAgg180 rfl rfl rfl) ?_
     refine Ll.run 1 rfl ?_
     refine Ll.makeMapI rfl rfl rfl rfl fun m62 hm62 => ?_
     show Ll _ _ (Own _ _ (_ :: _ :: _ :: (((M, mapP (memoK K1)) :: (memoB K1 ++ hs))))) _ _ ((62, .map (some m62)) :: _) _ _ _
     refine Ll.mapSetP (K := memoK K1) (m := m62) 3 rfl rfl rfl Tryd.underlying180 Tryd.underlying111 Tryd.sizeOf148 (by decide) rfl rfl rfl rfl hno1 (MemoOk.keys hM1 (fun x hx => List.mem_cons_of_mem _ (List.mem_cons_of_mem _ (List.mem_cons_of_mem _ (List.mem_cons_of_mem _ (List.mem_append_right _ (hts x hx))))))) (TreeB.key hT (fun x hx => List.mem_cons_of_mem _ (List.mem_cons_of_mem _ (List.mem_cons_of_mem _ (List.mem_cons_of_mem _ (List.mem_append_right _ (hts x hx))))))) ?_
     show Ll _ _ (Own _ _ (_ :: _ :: _ :: (((M, mapP (memoK K1 ++ [(p, m62)])) :: (memoB K1 ++ hs))))) _ _ _ _ _ _
     refine Ll.nil ?_
     refine Kt.joined ((K1 ++ [(p, m62, [])], K1.length, m62, [])) ⟨MemoOk.add hM1 hT hwf, (memo_last hno1).1, (memo_last hno1).2⟩ (Sub.sel [0, 1, 7, 12] rfl) (fun _ h => h.perm (memo_new [_, _] _))
    rintro ⟨K3, j3, m3, L3⟩ ⟨hK3, hj3, hf3⟩
    dsimp only
    refine Kt.sel [0, 1, 7, 12] [_, _, _, _] rfl ?_
    refine Wk.seq ?_
    refine Wk.region ?_
    refine Ll.run 1 rfl ?_
    refine Ll.op (v := pt_ h) rfl rfl rfl (OpQ.nilCheck rfl rfl) ?_
    refine Ll.op rfl rfl rfl (OpQ.fieldAddr rfl Tryd.runUnderlying182 rfl Tryd.sizeOf180 rfl rfl) ?_
    refine Ll.op rfl rfl rfl (OpQ.loadOwn 1 rfl Tryd.isAgg180 rfl rfl rfl) ?_
    refine Ll.run 1 rfl ?_
    refine Ll.op (v := .map (some m3)) rfl rfl rfl (OpQ.lookP_at (K := memoK K3) 2 rfl Tryd.underlying180 Tryd.underlying111 Tryd.sizeOf148 (by decide) rfl rfl rfl (memoK_get hj3) hf3 (MemoOk.keys hK3 (fun x hx => List.mem_cons_of_mem _ (List.mem_cons_of_mem _ (List.mem_cons_of_mem _ (List.mem_append_right _ (hts x hx))))))) ?_
    refine Ll.run 2 rfl ?_
    refine Ll.mapSetI (L := L3) (k := keyF fm en4) (b := ev a fm en4) (j3 + 3) rfl rfl rfl Tryd.underlying215 Tryd.underlying3 rfl rfl rfl (memoB_at hj3) fun L2 hL2 => ?_
    rw [memo_set2 hj3]
    show Ll _ _ (Own _ _ (_ :: _ :: (((M, mapP (memoK (K3.set j3 (p, m3, L2)))) :: (memoB (K3.set j3 (p, m3, L2)) ++ hs))))) _ _ _ _ _ _
    refine Ll.nil ?_
    refine Kt.sel [12] [_] rfl ?_
    refine Wk.seq ?_
    refine Wk.regionQ ?_
    refine Lq.run 2 rfl ?_
    refine Lq.nil ?_
    refine Kt.sel [6] [_] rfl ?_
    refine Wk.ret (Kt.end1 rfl rfl fun w' hw => ?_)
    exact ⟨(K3.set j3 (p, m3, L2)), rfl, MemoOk.set hK3 hts hwr hT hwf hE hj3 hL2, Own.drop (f := [_]) hw⟩
   ·
    refine Wk.regionQ ?_
    refine Lq.run 1 rfl ?_
    refine Lq.op (v := pt_ h) rfl rfl rfl (OpQ.nilCheck rfl rfl) ?_
    refine Lq.op rfl rfl rfl (OpQ.fieldAddr rfl Tryd.runUnderlying182 rfl Tryd.sizeOf180 rfl rfl) ?_
    refine Lq.op rfl rfl rfl (OpQ.loadOwn 1 rfl Tryd.isAgg180 rfl rfl rfl) ?_
    refine Lq.run 1 rfl ?_
    refine Lq.op (v := .map (some m1)) rfl rfl rfl (OpQ.lookP_at (K := memoK K1) 2 rfl Tryd.underlying180 Tryd.underlying111 Tryd.sizeOf148 (by decide) rfl rfl rfl (memoK_get hj1) hf1 (MemoOk.keys hM1 (fun x hx => List.mem_cons_of_mem _ (List.mem_cons_of_mem _ (List.mem_cons_of_mem _ (List.mem_append_right _ (hts x hx))))))) ?_
    refine Lq.op (v := bo_ false) rfl rfl rfl (OpQ.eqNilM (p := some m1) rfl Tryd.underlying215 rfl rfl) ?_
    refine Lq.nil ?_
    refine Kt.sel [0, 1, 7, 12, 56] [_, _, _, _, _] rfl ?_
    refine Wk.join (σ := Memo × Nat × Nat × List (Int × Bool)) (fun ⟨K3, j3, m3, L3⟩ => MemoOk 148 a ts K3 ∧ K3[j3]? = some (p, m3, L3) ∧ ∀ (q : Nat) (x : Nat × Nat), q < j3 → (memoK K3)[q]? = some x → x.1 ≠ p) (fun ⟨K3, j3, m3, L3⟩ => [(0, pt_ h), (1, ptrV p), (7, i6_ (keyF fm en4)), (12, bo_ (ev a fm en4))]) (fun ⟨K3, j3, m3, L3⟩ => Own B w0 (bk_ p5 ((ints en4).toArray) 139 :: bk_ h #[i6_ a.n, str a.set, str a.rel, .map (some M)] 182 :: (((M, mapP (memoK K3)) :: (memoB K3 ++ hs))))) ?_ ?_
    ·
     refine Wk.condF rfl ?_
     refine Wk.skip ?_
     refine Kt.joined ((K1, j1, m1, L1)) ⟨hM1, hj1, hf1⟩ (Sub.sel [0, 1, 7, 12] rfl) (fun _ h => h)
    rintro ⟨K3, j3, m3, L3⟩ ⟨hK3, hj3, hf3⟩
    dsimp only
    refine Kt.sel [0, 1, 7, 12] [_, _, _, _] rfl ?_
    refine Wk.seq ?_
    refine Wk.region ?_
    refine Ll.run 1 rfl ?_
    refine Ll.op (v := pt_ h) rfl rfl rfl (OpQ.nilCheck rfl rfl) ?_
    refine Ll.op rfl rfl rfl (OpQ.fieldAddr rfl Tryd.runUnderlying182 rfl Tryd.sizeOf180 rfl rfl) ?_
    refine Ll.op rfl rfl rfl (OpQ.loadOwn 1 rfl Tryd.isAgg180 rfl rfl rfl) ?_
    refine Ll.run 1 rfl ?_
    refine Ll.op (v := .map (some m3)) rfl rfl rfl (OpQ.lookP_at (K := memoK K3) 2 rfl Tryd.underlying180 Tryd.underlying111 Tryd.sizeOf148 (by decide) rfl rfl rfl (memoK_get hj3) hf3 (MemoOk.keys hK3 (fun x hx => List.mem_cons_of_mem _ (List.mem_cons_of_mem _ (List.mem_cons_of_mem _ (List.mem_append_right _ (hts x hx))))))) ?_
    refine Ll.run 2 rfl ?_
    refine Ll.mapSetI (L := L3) (k := keyF fm en4) (b := ev a fm en4) (j3 + 3) rfl rfl rfl Tryd.underlying215 Tryd.underlying3 rfl rfl rfl (memoB_at hj3) fun L2 hL2 => ?_
    rw [memo_set2 hj3]
    show Ll _ _ (Own _ _ (_ :: _ :: (((M, mapP (memoK (K3.set j3 (p, m3, L2)))) :: (memoB (K3.set j3 (p, m3, L2)) ++ hs))))) _ _ _ _ _ _
    refine Ll.nil ?_
    refine Kt.sel [12] [_] rfl ?_
    refine Wk.seq ?_
    refine Wk.regionQ ?_
    refine Lq.run 2 rfl ?_
    refine Lq.nil ?_
    refine Kt.sel [6] [_] rfl ?_
    refine Wk.ret (Kt.end1 rfl rfl fun w' hw => ?_)
    exact ⟨(K3.set j3 (p, m3, L2)), rfl, MemoOk.set hK3 hts hwr hT hwf hE hj3 hL2, Own.drop (f := [_]) hw⟩
  ·
   refine Wk.regionQ ?_
   refine Lq.run 1 rfl ?_
   refine Lq.op (v := pt_ h) rfl rfl rfl (OpQ.nilCheck rfl rfl) ?_
   refine Lq.op rfl rfl rfl (OpQ.fieldAddr rfl Tryd.runUnderlying182 rfl Tryd.sizeOf180 rfl rfl) ?_
   refine Lq.op rfl rfl rfl (OpQ.loadOwn 1 rfl Tryd.isAgg180 rfl rfl rfl) ?_
   refine Lq.run 1 rfl ?_
   refine Lq.op (v := .map (some m)) rfl rfl rfl (OpQ.lookP_at (K := memoK K) 2 rfl Tryd.underlying180 Tryd.underlying111 Tryd.sizeOf148 (by decide) rfl rfl rfl (memoK_get hj) hf (MemoOk.keys hK (fun x hx => List.mem_cons_of_mem _ (List.mem_cons_of_mem _ (List.mem_cons_of_mem _ (List.mem_append_right _ (hts x hx))))))) ?_
   refine Lq.run 1 rfl ?_
   refine Lq.op (v := .tuple #[bo_ false, bo_ false]) rfl rfl rfl (OpQ.lookI_no (L := L) (k := keyF fm en4) (j + 3) rfl Tryd.underlying215 Tryd.underlying3 Tryd.zeroValue4 rfl rfl (memoB_at hj) hnk) ?_
   refine Lq.run 1 rfl ?_
   refine Lq.op (v := bo_ false) rfl rfl rfl (OpQ.extract rfl rfl rfl) ?_
   refine Lq.op (v := bo_ false) rfl rfl rfl (OpQ.extract rfl rfl rfl) ?_
   refine Lq.run 2 rfl ?_
   refine Lq.nil ?_
   refine Kt.sel [0, 1, 5, 7, 10, 11] [_, _, _, _, _, _] rfl ?_
   refine Wk.seq ?_
   refine Wk.regionQ ?_
   refine Lq.run 1 rfl ?_
   refine Lq.nil ?_
   refine Kt.sel [0, 1, 5, 7, 10, 44] [_, _, _, _, _, _] rfl ?_
   refine Wk.condF rfl ?_
   refine Wk.skip ?_
   refine Kt.sel [0, 1, 5, 7] [_, _, _, _] rfl ?_
   refine Wk.seq ?_
   refine Wk.region ?_
   refine Ll.run 2 rfl ?_
   refine Ll.op rfl rfl rfl (OpQ.loadBox (cs := (ints en4).toArray) 0 rfl Tryd.isAgg139 rfl rfl (by intro w; rw [show (ints en4).toArray.size = 4 from by simp [hE4]]; exact Tryd.sizeOf139 w)) ?_
   refine Ll.callMemo (ok := fun K => MemoOk 148 a ts K) (b := ev a fm en4) (xs := [.tmp 46, .tmp 47, .tmp 48]) (vs := [pt_ h, ptrV p, .agg ((ints en4).toArray)]) ([bk_ p5 ((ints en4).toArray) 139] : List (Nat × Obj)) rfl rfl rfl rfl Tryd.call200 rfl (fun w1 hw1 => hd B w0 _ ts h M K p en4 w1 (fun x hx => List.mem_append_right _ (hts x hx)) hT hE hK hw1) fun K1_1 hM1_1 => ?_
   show Ll _ _ (Own _ _ (_ :: _ :: (((M, mapP (memoK K1_1)) :: (memoB K1_1 ++ hs))))) _ _ ((49, bo_ (ev a fm en4)) :: _) _ _ _
   refine Ll.run 1 rfl ?_
   refine Ll.nil ?_
   refine Kt.sel [0, 1, 7, 12] [_, _, _, _] rfl ?_
   refine Wk.seq ?_
   refine Wk.seq ?_
   rcases memo_case K1_1 p with hno1 | ⟨j1, m1, L1, hj1, hf1⟩
   ·
    refine Wk.regionQ ?_
    refine Lq.run 1 rfl ?_
    refine Lq.op (v := pt_ h) rfl rfl rfl (OpQ.nilCheck rfl rfl) ?_
    refine Lq.op rfl rfl rfl (OpQ.fieldAddr rfl Tryd.runUnderlying182 rfl Tryd.sizeOf180 rfl rfl) ?_
    refine Lq.op rfl rfl rfl (OpQ.loadOwn 1 rfl Tryd.isAgg180 rfl rfl rfl) ?_
    refine Lq.run 1 rfl ?_
    refine Lq.op (v := .map none) rfl rfl rfl (OpQ.lookP_no (K := memoK K1_1) 2 rfl Tryd.underlying180 Tryd.underlying111 Tryd.sizeOf148 (by decide) Tryd.zeroValue215 rfl rfl rfl hno1 (MemoOk.keys hM1_1 (fun x hx => List.mem_cons_of_mem _ (List.mem_cons_of_mem _ (List.mem_cons_of_mem _ (List.mem_append_right _ (hts x hx)))))) (TreeB.key hT (fun x hx => List.mem_cons_of_mem _ (List.mem_cons_of_mem _ (List.mem_cons_of_mem _ (List.mem_append_right _ (hts x hx))))))) ?_
    refine Lq.op (v := bo_ true) rfl rfl rfl (OpQ.eqNilM (p := none) rfl Tryd.underlying215 rfl rfl) ?_
    refine Lq.nil ?_
    refine Kt.sel [0, 1, 7, 12, 56] [_, _, _, _, _] rfl ?_
    refine Wk.join (σ := Memo × Nat × Nat × List (Int × Bool)) (fun ⟨K3, j3, m3, L3⟩ => MemoOk 148 a ts K3 ∧ K3[j3]? = some (p, m3, L3) ∧ ∀ (q : Nat) (x : Nat × Nat), q < j3 → (memoK K3)[q]? = some x → x.1 ≠ p) (fun ⟨K3, j3, m3, L3⟩ => [(0, pt_ h), (1, ptrV p), (7, i6_ (keyF fm en4)), (12, bo_ (ev a fm en4))]) (fun ⟨K3, j3, m3, L3⟩ => Own B w0 (bk_ p5 ((ints en4).toArray) 139 :: bk_ h #[i6_ a.n, str a.set, str a.rel, .map (some M)] 182 :: (((M, mapP (memoK K3)) :: (memoB K3 ++ hs))))) ?_ ?_
    ·
     refine Wk.condT rfl ?_
     refine Wk.region ?_
     refine Ll.run 1 rfl ?_
     refine Ll.op (v := pt_ h) rfl rfl rfl (OpQ.nilCheck rfl rfl) ?_
     refine Ll.op rfl rfl rfl (OpQ.fieldAddr rfl Tryd.runUnderlying182 rfl Tryd.sizeOf180 rfl rfl) ?_
     refine Ll.op rfl rfl rfl (OpQ.loadOwn 1 rfl Tryd.isAgg180 rfl rfl rfl) ?_
     refine Ll.run 1 rfl ?_
     refine Ll.makeMapI rfl rfl rfl rfl fun m62_1 hm62_1 => ?_
     show Ll _ _ (Own _ _ (_ :: _ :: _ :: (((M, mapP (memoK K1_1)) :: (memoB K1_1 ++ hs))))) _ _ ((62, .map (some m62_1)) :: _) _ _ _
     refine Ll.mapSetP (K := memoK K1_1) (m := m62_1) 3 rfl rfl rfl Tryd.underlying180 Tryd.underlying111 Tryd.sizeOf148 (by decide) rfl rfl rfl rfl hno1 (MemoOk.keys hM1_1 (fun x hx => List.mem_cons_of_mem _ (List.mem_cons_of_mem _ (List.mem_cons_of_mem _ (List.mem_cons_of_mem _ (List.mem_append_right _ (hts x hx))))))) (TreeB.key hT (fun x hx => List.mem_cons_of_mem _ (List.mem_cons_of_mem _ (List.mem_cons_of_mem _ (List.mem_cons_of_mem _ (List.mem_append_right _ (hts x hx))))))) ?_
     show Ll _ _ (Own _ _ (_ :: _ :: _ :: (((M, mapP (memoK K1_1 ++ [(p, m62_1)])) :: (memoB K1_1 ++ hs))))) _ _ _ _ _ _
     refine Ll.nil ?_
     refine Kt.joined ((K1_1 ++ [(p, m62_1, [])], K1_1.length, m62_1, [])) ⟨MemoOk.add hM1_1 hT hwf, (memo_last hno1).1, (memo_last hno1).2⟩ (Sub.sel [0, 1, 7, 12] rfl) (fun _ h => h.perm (memo_new [_, _] _))
    rintro ⟨K3, j3, m3, L3⟩ ⟨hK3, hj3, hf3⟩
    dsimp only
    refine Kt.sel [0, 1, 7, 12] [_, _, _, _] rfl ?_
    refine Wk.seq ?_
    refine Wk.region ?_
    refine Ll.run 1 rfl ?_
    refine Ll.op (v := pt_ h) rfl rfl rfl (OpQ.nilCheck rfl rfl) ?_
    refine Ll.op rfl rfl rfl (OpQ.fieldAddr rfl Tryd.runUnderlying182 rfl Tryd.sizeOf180 rfl rfl) ?_
    refine Ll.op rfl rfl rfl (OpQ.loadOwn 1 rfl Tryd.isAgg180 rfl rfl rfl) ?_
    refine Ll.run 1 rfl ?_
    refine Ll.op (v := .map (some m3)) rfl rfl rfl (OpQ.lookP_at (K := memoK K3) 2 rfl Tryd.underlying180 Tryd.underlying111 Tryd.sizeOf148 (by decide) rfl rfl rfl (memoK_get hj3) hf3 (MemoOk.keys hK3 (fun x hx => List.mem_cons_of_mem _ (List.mem_cons_of_mem _ (List.mem_cons_of_mem _ (List.mem_append_right _ (hts x hx))))))) ?_
    refine Ll.run 2 rfl ?_
    refine Ll.mapSetI (L := L3) (k := keyF fm en4) (b := ev a fm en4) (j3 + 3) rfl rfl rfl Tryd.underlying215 Tryd.underlying3 rfl rfl rfl (memoB_at hj3) fun L2 hL2 => ?_
    rw [memo_set2 hj3]
    show Ll _ _ (Own _ _ (_ :: _ :: (((M, mapP (memoK (K3.set j3 (p, m3, L2)))) :: (memoB (K3.set j3 (p, m3, L2)) ++ hs))))) _ _ _ _ _ _
    refine Ll.nil ?_
    refine Kt.sel [12] [_] rfl ?_
    refine Wk.seq ?_
    refine Wk.regionQ ?_
    refine Lq.run 2 rfl ?_
    refine Lq.nil ?_
    refine Kt.sel [6] [_] rfl ?_
    refine Wk.ret (Kt.end1 rfl rfl fun w' hw => ?_)
    exact ⟨(K3.set j3 (p, m3, L2)), rfl, MemoOk.set hK3 hts hwr hT hwf hE hj3 hL2, Own.drop (f := [_]) hw⟩
   ·
    refine Wk.regionQ ?_
    refine Lq.run 1 rfl ?_
    refine Lq.op (v := pt_ h) rfl rfl rfl (OpQ.nilCheck rfl rfl) ?_
    refine Lq.op rfl rfl rfl (OpQ.fieldAddr rfl Tryd.runUnderlying182 rfl Tryd.sizeOf180 rfl rfl) ?_
    refine Lq.op rfl rfl rfl (OpQ.loadOwn 1 rfl Tryd.isAgg180 rfl rfl rfl) ?_
    refine Lq.run 1 rfl ?_
    refine Lq.op (v := .map (some m1)) rfl rfl rfl (OpQ.lookP_at (K := memoK K1_1) 2 rfl Tryd.underlying180 Tryd.underlying111 Tryd.sizeOf148 (by decide) rfl rfl rfl (memoK_get hj1) hf1 (MemoOk.keys hM1_1 (fun x hx => List.mem_cons_of_mem _ (List.mem_cons_of_mem _ (List.mem_cons_of_mem _ (List.mem_append_right _ (hts x hx))))))) ?_
    refine Lq.op (v := bo_ false) rfl rfl rfl (OpQ.eqNilM (p := some m1) rfl Tryd.underlying215 rfl rfl) ?_
    refine Lq.nil ?_
    refine Kt.sel [0, 1, 7, 12, 56] [_, _, _, _, _] rfl ?_
    refine Wk.join (σ := Memo × Nat × Nat × List (Int × Bool)) (fun ⟨K3, j3, m3, L3⟩ => MemoOk 148 a ts K3 ∧ K3[j3]? = some (p, m3, L3) ∧ ∀ (q : Nat) (x : Nat × Nat), q < j3 → (memoK K3)[q]? = some x → x.1 ≠ p) (fun ⟨K3, j3, m3, L3⟩ => [(0, pt_ h), (1, ptrV p), (7, i6_ (keyF fm en4)), (12, bo_ (ev a fm en4))]) (fun ⟨K3, j3, m3, L3⟩ => Own B w0 (bk_ p5 ((ints en4).toArray) 139 :: bk_ h #[i6_ a.n, str a.set, str a.rel, .map (some M)] 182 :: (((M, mapP (memoK K3)) :: (memoB K3 ++ hs))))) ?_ ?_
    ·
     refine Wk.condF rfl ?_
     refine Wk.skip ?_
     refine Kt.joined ((K1_1, j1, m1, L1)) ⟨hM1_1, hj1, hf1⟩ (Sub.sel [0, 1, 7, 12] rfl) (fun _ h => h)
    rintro ⟨K3, j3, m3, L3⟩ ⟨hK3, hj3, hf3⟩
    dsimp only
    refine Kt.sel [0, 1, 7, 12] [_, _, _, _] rfl ?_
    refine Wk.seq ?_
    refine Wk.region ?_
    refine Ll.run 1 rfl ?_
    refine Ll.op (v := pt_ h) rfl rfl rfl (OpQ.nilCheck rfl rfl) ?_
    refine Ll.op rfl rfl rfl (OpQ.fieldAddr rfl Tryd.runUnderlying182 rfl Tryd.sizeOf180 rfl rfl) ?_
    refine Ll.op rfl rfl rfl (OpQ.loadOwn 1 rfl Tryd.isAgg180 rfl rfl rfl) ?_
    refine Ll.run 1 rfl ?_
    refine Ll.op (v := .map (some m3)) rfl rfl rfl (OpQ.lookP_at (K := memoK K3) 2 rfl Tryd.underlying180 Tryd.underlying111 Tryd.sizeOf148 (by decide) rfl rfl rfl (memoK_get hj3) hf3 (MemoOk.keys hK3 (fun x hx => List.mem_cons_of_mem _ (List.mem_cons_of_mem _ (List.mem_cons_of_mem _ (List.mem_append_right _ (hts x hx))))))) ?_
    refine Ll.run 2 rfl ?_
    refine Ll.mapSetI (L := L3) (k := keyF fm en4) (b := ev a fm en4) (j3 + 3) rfl rfl rfl Tryd.underlying215 Tryd.underlying3 rfl rfl rfl (memoB_at hj3) fun L2 hL2 => ?_
    rw [memo_set2 hj3]
    show Ll _ _ (Own _ _ (_ :: _ :: (((M, mapP (memoK (K3.set j3 (p, m3, L2)))) :: (memoB (K3.set j3 (p, m3, L2)) ++ hs))))) _ _ _ _ _ _
    refine Ll.nil ?_
    refine Kt.sel [12] [_] rfl ?_
    refine Wk.seq ?_
    refine Wk.regionQ ?_
    refine Lq.run 2 rfl ?_
    refine Lq.nil ?_
    refine Kt.sel [6] [_] rfl ?_
    refine Wk.ret (Kt.end1 rfl rfl fun w' hw => ?_)
    exact ⟨(K3.set j3 (p, m3, L2)), rfl, MemoOk.set hK3 hts hwr hT hwf hE hj3 hL2, Own.drop (f := [_]) hw⟩
  ·
   refine Wk.regionQ ?_
   refine Lq.run 1 rfl ?_
   refine Lq.op (v := pt_ h) rfl rfl rfl (OpQ.nilCheck rfl rfl) ?_
   refine Lq.op rfl rfl rfl (OpQ.fieldAddr rfl Tryd.runUnderlying182 rfl Tryd.sizeOf180 rfl rfl) ?_
   refine Lq.op rfl rfl rfl (OpQ.loadOwn 1 rfl Tryd.isAgg180 rfl rfl rfl) ?_
   refine Lq.run 1 rfl ?_
   refine Lq.op (v := .map (some m)) rfl rfl rfl (OpQ.lookP_at (K := memoK K) 2 rfl Tryd.underlying180 Tryd.underlying111 Tryd.sizeOf148 (by decide) rfl rfl rfl (memoK_get hj) hf (MemoOk.keys hK (fun x hx => List.mem_cons_of_mem _ (List.mem_cons_of_mem _ (List.mem_cons_of_mem _ (List.mem_append_right _ (hts x hx))))))) ?_
   refine Lq.run 1 rfl ?_
   refine Lq.op (v := .tuple #[bo_ (ev a fm en4), bo_ true]) rfl rfl rfl (OpQ.lookI_at (L := L) (k := keyF fm en4) (b := ev a fm en4) (j + 3) rfl Tryd.underlying215 Tryd.underlying3 rfl rfl (memoB_at hj) hnk (memo_ev ha hK hts hwr hT hwf hE hj)) ?_
   refine Lq.run 1 rfl ?_
   refine Lq.op (v := bo_ (ev a fm en4)) rfl rfl rfl (OpQ.extract rfl rfl rfl) ?_
   refine Lq.op (v := bo_ true) rfl rfl rfl (OpQ.extract rfl rfl rfl) ?_
   refine Lq.run 2 rfl ?_
   refine Lq.nil ?_
   refine Kt.sel [0, 1, 5, 7, 10, 11] [_, _, _, _, _, _] rfl ?_
   refine Wk.seq ?_
   refine Wk.regionQ ?_
   refine Lq.run 1 rfl ?_
   refine Lq.nil ?_
   refine Kt.sel [0, 1, 5, 7, 10, 44] [_, _, _, _, _, _] rfl ?_
   refine Wk.condT rfl ?_
   refine Wk.seq ?_
   refine Wk.regionQ ?_
   refine Lq.run 2 rfl ?_
   refine Lq.nil ?_
   refine Kt.sel [6] [_] rfl ?_
   refine Wk.ret (Kt.end1 rfl rfl fun w' hw => ?_)
   exact ⟨K, rfl, hK, Own.drop (f := [_]) hw⟩
theorem isTrue_ok (a : St) (fm : Fm) (ha : a.Fine) (hwf : wfF fm) : IsT 174 a fm := by
  have key : ∀ (m : Nat) (fm : Fm), szF fm ≤ m → wfF fm → IsT 174 a fm := fun m => by
    induction m with
    | zero => exact fun fm h1 h2 B w0 hs ts h M K p en4 w => isTrue_step a fm ha h2 (fun B w0 hs ts h M K p en4 w => decide_step a fm ha h2 (fun fm2 h3 => absurd h3 (by omega)) B w0 hs ts h M K p en4 w) B w0 hs ts h M K p en4 w
    | succ m ih => exact fun fm h1 h2 B w0 hs ts h M K p en4 w => isTrue_step a fm ha h2 (fun B w0 hs ts h M K p en4 w => decide_step a fm ha h2 (fun fm2 h3 h4 => ih fm2 (by omega) h4) B w0 hs ts h M K p en4 w) B w0 hs ts h M K p en4 w
  exact key _ fm (Nat.le_refl _) hwf
end Go.Proofs.YtnfkmfdhmlombaaDoor
namespace Go.Proofs.YtnfkmfdhmlombaaDoor
open Go.RowKit Go.Wk
set_option linter.unusedSimpArgs false
set_option maxHeartbeats 400000 in
/-- (*impl.formula).rank -/
theorem rankP_step (fm : Fm) (p : Nat) (w : World) (hT : Tree 148 w fm p) (hwf : wfF fm) (hr : rankF fm ≤ 2000000) (ih : ∀ (fm2 : Fm) (p2 : Nat) (w2 : World), szF fm2 < szF fm → Tree 148 w2 fm2 p2 → wfF fm2 → rankF fm2 ≤ 2000000 → Calls Tryd.prog 106 #[ptrV p2] w2 fun en w' => en = .returned (.int .i64 (rankF fm2 : Int)) ∧ Below w2.heap.size w2 w') :
    Calls Tryd.prog 106 [ptrV p].toArray w fun en w' => en = .returned (.int .i64 (rankF fm : Int)) ∧ Below w.heap.size w w' := by
 refine fnStart (n := 37) (e := [(0, ptrV p)]) Tryd.func106 rfl rfl rfl rfl Ends.both ?_
 refine Wk.seq ?_
 refine Wk.regionQ ?_
 refine Lq.run 1 rfl ?_
 refine Lq.nil ?_
 refine Kt.sel [0] [_] rfl ?_
 refine Wk.seq ?_
 refine Wk.regionQ ?_
 refine Lq.run 1 rfl ?_
 refine Lq.nil ?_
 refine Kt.sel [0, 3] [_, _] rfl ?_
 refine Wk.seq ?_
 refine Wk.seq ?_
 rcases fm with ⟨c, vs⟩ | ⟨c, vs, q⟩ | ⟨c, q, r⟩
 ·
  obtain ⟨vv, pv, h1, h2, h3⟩ := hT
  have hlt := leaf_letter hwf
  refine Wk.regionQ ?_
  refine Lq.run 1 rfl ?_
  refine Lq.op (v := .pointer (some ⟨p, 0, none⟩)) rfl rfl rfl (OpQ.nilCheck rfl rfl) ?_
  refine Lq.op rfl rfl rfl (OpQ.fieldAddr rfl Tryd.runUnderlying148 rfl Tryd.sizeOf146 rfl rfl) ?_
  refine Lq.op (v := pv) rfl rfl rfl (OpQ.load1 rfl Tryd.isAgg146 rfl (fun w1 hw1 => at_box h1 hw1 2 rfl)) ?_
  refine Lq.op (v := i6_ 0) rfl rfl rfl (OpQ.lenRow (k := 0) rfl Tryd.runUnderlying146 rfl rfl (fun w1 hw1 => h3.own hw1)) ?_
  refine Lq.run 1 rfl ?_
  refine Lq.nil ?_
  refine Kt.sel [0, 3, 9, 10, 11] [_, _, _, _, _] rfl ?_
  refine Wk.block ?_
  refine Wk.unroll 3 ?_
  refine Wk.seq ?_
  refine Wk.regionQ ?_
  refine Lq.run 1 rfl ?_
  refine Lq.nil ?_
  refine Kt.sel [0, 3, 9, 10, 11, 12] [_, _, _, _, _, _] rfl ?_
  refine Wk.seq ?_
  refine Wk.condF rfl ?_
  refine Wk.exit rfl ?_
  refine Kt.sel [0, 3] [_, _] rfl ?_
  refine Wk.seq ?_
  refine Wk.block ?_
  refine Wk.seq ?_
  refine Wk.regionQ ?_
  refine Lq.run 1 rfl ?_
  refine Lq.op (v := bo_ (decide (((c).toNat : Int) = 50 ∨ ((c).toNat : Int) = 51 ∨ ((c).toNat : Int) = 52))) rfl rfl rfl (OpQ.call rfl Tryd.call151 rfl Own.stable (fun w1 hw1 => isCount_ok _ _ c _ _ _ _ w1 (heap_own h1 hw1))) ?_
  refine Lq.run 1 rfl ?_
  refine Lq.nil ?_
  refine Kt.sel [0, 3, 20] [_, _, _] rfl ?_
  refine Wk.cond (b := decide (((c).toNat : Int) = 50 ∨ ((c).toNat : Int) = 51 ∨ ((c).toNat : Int) = 52)) rfl (fun h20 => ?_) (fun h20 => ?_)
  ·
   replace h20 := of_decide_eq_true h20
   exact absurd h20 hlt.2
  ·
   replace h20 := of_decide_eq_false h20
   refine Wk.seq ?_
   refine Wk.regionQ ?_
   refine Lq.run 1 rfl ?_
   refine Lq.op (v := bo_ (decide (quI ((c).toNat : Int)))) rfl rfl rfl (OpQ.call rfl Tryd.call152 rfl Own.stable (fun w1 hw1 => isQuant_ok _ _ c _ _ _ _ w1 (heap_own h1 hw1))) ?_
   refine Lq.run 1 rfl ?_
   refine Lq.nil ?_
   refine Kt.sel [3, 31] [_, _] rfl ?_
   refine Wk.cond (b := decide (quI ((c).toNat : Int))) rfl (fun h31 => ?_) (fun h31 => ?_)
   ·
    replace h31 := of_decide_eq_true h31
    exact absurd h31 hlt.1
   ·
    replace h31 := of_decide_eq_false h31
    refine Wk.skip ?_
    refine Kt.sel [3] [_] rfl ?_
    refine Wk.seq ?_
    refine Wk.regionQ ?_
    refine Lq.run 2 rfl ?_
    refine Lq.nil ?_
    refine Kt.sel [2] [_] rfl ?_
    refine Wk.ret (Kt.end1 rfl rfl fun w' hw => ?_)
    exact ⟨rfl, hw.below⟩
 ·
  obtain ⟨q1, ⟨vv, pv, h1, h2, h3⟩, hT1⟩ := hT
  have hr1 := rank_sub1 (c := c) (vs := vs) (q := q)
  have hc8 := c.toNat_lt
  refine Wk.regionQ ?_
  refine Lq.run 1 rfl ?_
  refine Lq.op (v := .pointer (some ⟨p, 0, none⟩)) rfl rfl rfl (OpQ.nilCheck rfl rfl) ?_
  refine Lq.op rfl rfl rfl (OpQ.fieldAddr rfl Tryd.runUnderlying148 rfl Tryd.sizeOf146 rfl rfl) ?_
  refine Lq.op (v := pv) rfl rfl rfl (OpQ.load1 rfl Tryd.isAgg146 rfl (fun w1 hw1 => at_box h1 hw1 2 rfl)) ?_
  refine Lq.op (v := i6_ 1) rfl rfl rfl (OpQ.lenRow (k := 1) rfl Tryd.runUnderlying146 rfl rfl (fun w1 hw1 => h3.own hw1)) ?_
  refine Lq.run 1 rfl ?_
  refine Lq.nil ?_
  refine Kt.sel [0, 3, 9, 10, 11] [_, _, _, _, _] rfl ?_
  refine Wk.block ?_
  refine Wk.unroll 3 ?_
  refine Wk.seq ?_
  refine Wk.regionQ ?_
  refine Lq.run 1 rfl ?_
  refine Lq.nil ?_
  refine Kt.sel [0, 3, 9, 10, 11, 12] [_, _, _, _, _, _] rfl ?_
  refine Wk.seq ?_
  refine Wk.condT rfl ?_
  refine Wk.skip ?_
  refine Kt.sel [0, 3, 9, 10, 11] [_, _, _, _, _] rfl ?_
  refine Wk.seq ?_
  refine Wk.block ?_
  refine Wk.seq ?_
  refine Wk.regionQ ?_
  refine Lq.op (v := .pointer (some (sAt pv 0))) rfl rfl rfl (OpQ.atRow rfl Tryd.runUnderlying146 Tryd.sizeOf111 rfl rfl (by decide) (by simp) (fun w1 hw1 => h3.own hw1)) ?_
  refine Lq.op (v := ptrV q1) rfl rfl rfl (OpQ.load1 rfl Tryd.isAgg111 rfl (fun w1 hw1 => Row.cell (h3.own hw1) (by decide) (by simp))) ?_
  refine Lq.run 1 rfl ?_
  refine Lq.nil ?_
  refine Kt.sel [0, 3, 5, 9, 10, 11] [_, _, _, _, _, _] rfl ?_
  refine Wk.regionQ ?_
  refine Lq.run 2 rfl ?_
  refine Lq.op (v := i6_ ((rankF q : Int))) rfl rfl rfl (OpQ.call rfl Tryd.call106 rfl Own.stable (fun w1 hw1 => ih q q1 w1 (by first | exact Nat.lt_succ_self _ | exact Nat.lt_succ_of_le (Nat.le_add_right _ _) | exact Nat.lt_succ_of_le (Nat.le_add_left _ _)) (Tree.own hw1 hT1) hwf.2.2.2.2 (by omega))) ?_
  refine Lq.op (v := i6_ ((rankF q : Int))) rfl rfl rfl (OpQ.cast (by first | (split <;> congr 1 <;> omega) | (split <;> omega)) (OpQ.max2 rfl rfl rfl)) ?_
  refine Lq.run 1 rfl ?_
  refine Lq.nil ?_
  refine Kt.sel [0, 3, 9, 10, 11] [_, _, _, _, _] rfl ?_
  refine Wk.regionQ ?_
  refine Lq.op rfl rfl rfl (OpQ.add rfl rfl rfl (by decide) (by decide)) ?_
  refine Lq.run 1 rfl ?_
  refine Lq.nil ?_
  refine Kt.round (e' := [(0, .pointer (some ⟨p, 0, none⟩)), (3, i6_ ((rankF q : Int))), (9, pv), (10, i6_ 1), (11, i6_ 1)]) (Sub.sel [0, 3, 9, 10, 11] rfl) ?_
  refine Wk.seq ?_
  refine Wk.regionQ ?_
  refine Lq.run 1 rfl ?_
  refine Lq.nil ?_
  refine Kt.sel [0, 3, 9, 10, 11, 12] [_, _, _, _, _, _] rfl ?_
  refine Wk.seq ?_
  refine Wk.condF rfl ?_
  refine Wk.exit rfl ?_
  refine Kt.sel [0, 3] [_, _] rfl ?_
  refine Wk.seq ?_
  refine Wk.block ?_
  refine Wk.seq ?_
  refine Wk.regionQ ?_
  refine Lq.run 1 rfl ?_
  refine Lq.op (v := bo_ (decide (((c).toNat : Int) = 50 ∨ ((c).toNat : Int) = 51 ∨ ((c).toNat : Int) = 52))) rfl rfl rfl (OpQ.call rfl Tryd.call151 rfl Own.stable (fun w1 hw1 => isCount_ok _ _ c _ _ _ _ w1 (heap_own h1 hw1))) ?_
  refine Lq.run 1 rfl ?_
  refine Lq.nil ?_
  refine Kt.sel [0, 3, 20] [_, _, _] rfl ?_
  refine Wk.cond (b := decide (((c).toNat : Int) = 50 ∨ ((c).toNat : Int) = 51 ∨ ((c).toNat : Int) = 52)) rfl (fun h20_1 => ?_) (fun h20_1 => ?_)
  ·
   replace h20_1 := of_decide_eq_true h20_1
   refine Wk.regionQ ?_
   refine Lq.run 2 rfl ?_
   refine Lq.op (v := .pointer (some ⟨p, 0, none⟩)) rfl rfl rfl (OpQ.nilCheck rfl rfl) ?_
   refine Lq.op rfl rfl rfl (OpQ.fieldAddr rfl Tryd.runUnderlying148 rfl Tryd.sizeOf5 rfl rfl) ?_
   refine Lq.op (v := .int .u8 ((c.toNat : Int))) rfl rfl rfl (OpQ.load1 rfl Tryd.isAgg5 rfl (fun w1 hw1 => at_box h1 hw1 0 rfl)) ?_
   refine Lq.op (v := .int .u8 ((c.toNat : Int) - 48)) rfl rfl rfl (OpQ.cast (by rw [IntWalk.u8_in _ (by omega)]) (OpQ.subU8 rfl rfl rfl)) ?_
   refine Lq.op (v := i6_ ((c.toNat : Int) - 48)) rfl rfl rfl (OpQ.convInt .i64 rfl Tryd.underlying5 Tryd.underlying3 rfl (IntWalk.i64_in _ (by omega))) ?_
   refine Lq.op rfl rfl rfl (OpQ.add rfl rfl rfl (by omega) (by omega)) ?_
   refine Lq.run 1 rfl ?_
   refine Lq.nil ?_
   refine Kt.sel [3] [_] rfl ?_
   refine Wk.seq ?_
   refine Wk.regionQ ?_
   refine Lq.run 2 rfl ?_
   refine Lq.nil ?_
   refine Kt.sel [2] [_] rfl ?_
   refine Wk.ret (Kt.end1 rfl rfl fun w' hw => ?_)
   exact ⟨ret_i (rank_end1 (by unfold cntI; assumption)), hw.below⟩
  ·
   replace h20_1 := of_decide_eq_false h20_1
   refine Wk.seq ?_
   refine Wk.regionQ ?_
   refine Lq.run 1 rfl ?_
   refine Lq.op (v := bo_ (decide (quI ((c).toNat : Int)))) rfl rfl rfl (OpQ.call rfl Tryd.call152 rfl Own.stable (fun w1 hw1 => isQuant_ok _ _ c _ _ _ _ w1 (heap_own h1 hw1))) ?_
   refine Lq.run 1 rfl ?_
   refine Lq.nil ?_
   refine Kt.sel [3, 31] [_, _] rfl ?_
   refine Wk.cond (b := decide (quI ((c).toNat : Int))) rfl (fun h31_1 => ?_) (fun h31_1 => ?_)
   ·
    replace h31_1 := of_decide_eq_true h31_1
    refine Wk.regionQ ?_
    refine Lq.run 1 rfl ?_
    refine Lq.op rfl rfl rfl (OpQ.add rfl rfl rfl (by omega) (by omega)) ?_
    refine Lq.run 1 rfl ?_
    refine Lq.nil ?_
    refine Kt.sel [3] [_] rfl ?_
    refine Wk.seq ?_
    refine Wk.regionQ ?_
    refine Lq.run 2 rfl ?_
    refine Lq.nil ?_
    refine Kt.sel [2] [_] rfl ?_
    refine Wk.ret (Kt.end1 rfl rfl fun w' hw => ?_)
    exact ⟨ret_i (rank_end2 (by unfold cntI; assumption) (by assumption)), hw.below⟩
   ·
    replace h31_1 := of_decide_eq_false h31_1
    refine Wk.skip ?_
    refine Kt.sel [3] [_] rfl ?_
    refine Wk.seq ?_
    refine Wk.regionQ ?_
    refine Lq.run 2 rfl ?_
    refine Lq.nil ?_
    refine Kt.sel [2] [_] rfl ?_
    refine Wk.ret (Kt.end1 rfl rfl fun w' hw => ?_)
    exact ⟨ret_i (rank_end3 hwf (by assumption)), hw.below⟩
 ·
  obtain ⟨q1, q2, ⟨vv, pv, h1, h2, h3⟩, hT1, hT2⟩ := hT
  have hlt := two_letter hwf
  have hr1 := rank_sub2 (c := c) (q := q) (r := r)
  refine Wk.regionQ ?_
  refine Lq.run 1 rfl ?_
  refine Lq.op (v := .pointer (some ⟨p, 0, none⟩)) rfl rfl rfl (OpQ.nilCheck rfl rfl) ?_
  refine Lq.op rfl rfl rfl (OpQ.fieldAddr rfl Tryd.runUnderlying148 rfl Tryd.sizeOf146 rfl rfl) ?_
  refine Lq.op (v := pv) rfl rfl rfl (OpQ.load1 rfl Tryd.isAgg146 rfl (fun w1 hw1 => at_box h1 hw1 2 rfl)) ?_
  refine Lq.op (v := i6_ 2) rfl rfl rfl (OpQ.lenRow (k := 2) rfl Tryd.runUnderlying146 rfl rfl (fun w1 hw1 => h3.own hw1)) ?_
  refine Lq.run 1 rfl ?_
  refine Lq.nil ?_
  refine Kt.sel [0, 3, 9, 10, 11] [_, _, _, _, _] rfl ?_
  refine Wk.block ?_
  refine Wk.unroll 3 ?_
  refine Wk.seq ?_
  refine Wk.regionQ ?_
  refine Lq.run 1 rfl ?_
  refine Lq.nil ?_
  refine Kt.sel [0, 3, 9, 10, 11, 12] [_, _, _, _, _, _] rfl ?_
  refine Wk.seq ?_
  refine Wk.condT rfl ?_
  refine Wk.skip ?_
  refine Kt.sel [0, 3, 9, 10, 11] [_, _, _, _, _] rfl ?_
  refine Wk.seq ?_
  refine Wk.block ?_
  refine Wk.seq ?_
  refine Wk.regionQ ?_
  refine Lq.op (v := .pointer (some (sAt pv 0))) rfl rfl rfl (OpQ.atRow rfl Tryd.runUnderlying146 Tryd.sizeOf111 rfl rfl (by decide) (by simp) (fun w1 hw1 => h3.own hw1)) ?_
  refine Lq.op (v := ptrV q1) rfl rfl rfl (OpQ.load1 rfl Tryd.isAgg111 rfl (fun w1 hw1 => Row.cell (h3.own hw1) (by decide) (by simp))) ?_
  refine Lq.run 1 rfl ?_
  refine Lq.nil ?_
  refine Kt.sel [0, 3, 5, 9, 10, 11] [_, _, _, _, _, _] rfl ?_
  refine Wk.regionQ ?_
  refine Lq.run 2 rfl ?_
  refine Lq.op (v := i6_ ((rankF q : Int))) rfl rfl rfl (OpQ.call rfl Tryd.call106 rfl Own.stable (fun w1 hw1 => ih q q1 w1 (by first | exact Nat.lt_succ_self _ | exact Nat.lt_succ_of_le (Nat.le_add_right _ _) | exact Nat.lt_succ_of_le (Nat.le_add_left _ _)) (Tree.own hw1 hT1) hwf.2.2.2.1 (by omega))) ?_
  refine Lq.op (v := i6_ ((rankF q : Int))) rfl rfl rfl (OpQ.cast (by first | (split <;> congr 1 <;> omega) | (split <;> omega)) (OpQ.max2 rfl rfl rfl)) ?_
  refine Lq.run 1 rfl ?_
  refine Lq.nil ?_
  refine Kt.sel [0, 3, 9, 10, 11] [_, _, _, _, _] rfl ?_
  refine Wk.regionQ ?_
  refine Lq.op rfl rfl rfl (OpQ.add rfl rfl rfl (by decide) (by decide)) ?_
  refine Lq.run 1 rfl ?_
  refine Lq.nil ?_
  refine Kt.round (e' := [(0, .pointer (some ⟨p, 0, none⟩)), (3, i6_ ((rankF q : Int))), (9, pv), (10, i6_ 2), (11, i6_ 1)]) (Sub.sel [0, 3, 9, 10, 11] rfl) ?_
  refine Wk.seq ?_
  refine Wk.regionQ ?_
  refine Lq.run 1 rfl ?_
  refine Lq.nil ?_
  refine Kt.sel [0, 3, 9, 10, 11, 12] [_, _, _, _, _, _] rfl ?_
  refine Wk.seq ?_
  refine Wk.condT rfl ?_
  refine Wk.skip ?_
  refine Kt.sel [0, 3, 9, 10, 11] [_, _, _, _, _] rfl ?_
  refine Wk.seq ?_
  refine Wk.block ?_
  refine Wk.seq ?_
  refine Wk.regionQ ?_
  refine Lq.op (v := .pointer (some (sAt pv 1))) rfl rfl rfl (OpQ.atRow rfl Tryd.runUnderlying146 Tryd.sizeOf111 rfl rfl (by decide) (by simp) (fun w1 hw1 => h3.own hw1)) ?_
  refine Lq.op (v := ptrV q2) rfl rfl rfl (OpQ.load1 rfl Tryd.isAgg111 rfl (fun w1 hw1 => Row.cell (h3.own hw1) (by decide) (by simp))) ?_
  refine Lq.run 1 rfl ?_
  refine Lq.nil ?_
  refine Kt.sel [0, 3, 5, 9, 10, 11] [_, _, _, _, _, _] rfl ?_
  refine Wk.regionQ ?_
  refine Lq.run 2 rfl ?_
  refine Lq.op (v := i6_ ((rankF r : Int))) rfl rfl rfl (OpQ.call rfl Tryd.call106 rfl Own.stable (fun w1 hw1 => ih r q2 w1 (by first | exact Nat.lt_succ_self _ | exact Nat.lt_succ_of_le (Nat.le_add_right _ _) | exact Nat.lt_succ_of_le (Nat.le_add_left _ _)) (Tree.own hw1 hT2) hwf.2.2.2.2 (by omega))) ?_
  refine Lq.op (v := i6_ (((max (rankF q) (rankF r) : Nat) : Int))) rfl rfl rfl (OpQ.cast (by first | (split <;> congr 1 <;> omega) | (split <;> omega)) (OpQ.max2 rfl rfl rfl)) ?_
  refine Lq.run 1 rfl ?_
  refine Lq.nil ?_
  refine Kt.sel [0, 3, 9, 10, 11] [_, _, _, _, _] rfl ?_
  refine Wk.regionQ ?_
  refine Lq.op rfl rfl rfl (OpQ.add rfl rfl rfl (by decide) (by decide)) ?_
  refine Lq.run 1 rfl ?_
  refine Lq.nil ?_
  refine Kt.round (e' := [(0, .pointer (some ⟨p, 0, none⟩)), (3, i6_ (((max (rankF q) (rankF r) : Nat) : Int))), (9, pv), (10, i6_ 2), (11, i6_ 2)]) (Sub.sel [0, 3, 9, 10, 11] rfl) ?_
  refine Wk.seq ?_
  refine Wk.regionQ ?_
  refine Lq.run 1 rfl ?_
  refine Lq.nil ?_
  refine Kt.sel [0, 3, 9, 10, 11, 12] [_, _, _, _, _, _] rfl ?_
  refine Wk.seq ?_
  refine Wk.condF rfl ?_
  refine Wk.exit rfl ?_
  refine Kt.sel [0, 3] [_, _] rfl ?_
  refine Wk.seq ?_
  refine Wk.block ?_
  refine Wk.seq ?_
  refine Wk.regionQ ?_
  refine Lq.run 1 rfl ?_
  refine Lq.op (v := bo_ (decide (((c).toNat : Int) = 50 ∨ ((c).toNat : Int) = 51 ∨ ((c).toNat : Int) = 52))) rfl rfl rfl (OpQ.call rfl Tryd.call151 rfl Own.stable (fun w1 hw1 => isCount_ok _ _ c _ _ _ _ w1 (heap_own h1 hw1))) ?_
  refine Lq.run 1 rfl ?_
  refine Lq.nil ?_
  refine Kt.sel [0, 3, 20] [_, _, _] rfl ?_
  refine Wk.cond (b := decide (((c).toNat : Int) = 50 ∨ ((c).toNat : Int) = 51 ∨ ((c).toNat : Int) = 52)) rfl (fun h20_2 => ?_) (fun h20_2 => ?_)
  ·
   replace h20_2 := of_decide_eq_true h20_2
   exact absurd h20_2 hlt.2
  ·
   replace h20_2 := of_decide_eq_false h20_2
   refine Wk.seq ?_
   refine Wk.regionQ ?_
   refine Lq.run 1 rfl ?_
   refine Lq.op (v := bo_ (decide (quI ((c).toNat : Int)))) rfl rfl rfl (OpQ.call rfl Tryd.call152 rfl Own.stable (fun w1 hw1 => isQuant_ok _ _ c _ _ _ _ w1 (heap_own h1 hw1))) ?_
   refine Lq.run 1 rfl ?_
   refine Lq.nil ?_
   refine Kt.sel [3, 31] [_, _] rfl ?_
   refine Wk.cond (b := decide (quI ((c).toNat : Int))) rfl (fun h31_2 => ?_) (fun h31_2 => ?_)
   ·
    replace h31_2 := of_decide_eq_true h31_2
    exact absurd h31_2 hlt.1
   ·
    replace h31_2 := of_decide_eq_false h31_2
    refine Wk.skip ?_
    refine Kt.sel [3] [_] rfl ?_
    refine Wk.seq ?_
    refine Wk.regionQ ?_
    refine Lq.run 2 rfl ?_
    refine Lq.nil ?_
    refine Kt.sel [2] [_] rfl ?_
    refine Wk.ret (Kt.end1 rfl rfl fun w' hw => ?_)
    exact ⟨rfl, hw.below⟩
theorem rankP_ok (fm : Fm) (p : Nat) (w : World) (hT : Tree 148 w fm p) (hwf : wfF fm) (hr : rankF fm ≤ 2000000) : Calls Tryd.prog 106 #[ptrV p] w fun en w' => en = .returned (.int .i64 (rankF fm : Int)) ∧ Below w.heap.size w w' := by
  have key : ∀ (m : Nat) (fm : Fm) (p : Nat) (w : World), szF fm ≤ m → Tree 148 w fm p → wfF fm → rankF fm ≤ 2000000 → Calls Tryd.prog 106 #[ptrV p] w fun en w' => en = .returned (.int .i64 (rankF fm : Int)) ∧ Below w.heap.size w w' := fun m => by
    induction m with
    | zero => exact fun fm p w h1 h2 h3 h4 => rankP_step fm p w h2 h3 h4 fun fm2 p2 w2 h => absurd h (by omega)
    | succ m ih => exact fun fm p w h1 h2 h3 h4 => rankP_step fm p w h2 h3 h4 fun fm2 p2 w2 h k1 k2 k3 => ih fm2 p2 w2 (by omega) k1 k2 k3
  exact key _ fm p w (Nat.le_refl _) hT hwf hr
end Go.Proofs.YtnfkmfdhmlombaaDoor
namespace Go.Proofs.YtnfkmfdhmlombaaDoor
open Go.RowKit Go.Wk
set_option linter.unusedSimpArgs false
set_option maxHeartbeats 400000 in
/-- impl.areElements -/
theorem areElements_ok (a : St) (va : Value) (xs : List Int) (w : World) (hva : Ints w va xs) (hs : xs.length ≤ 140737488355328) :
    Calls Tryd.prog 139 [vS a, va].toArray w fun en w' => en = .returned (.bool (xs.all (elB a))) ∧ Below w.heap.size w w' := by
 refine fnStart (n := 9) (e := [(0, vS a), (1, va)]) Tryd.func139 rfl rfl rfl rfl Ends.both ?_
 refine Wk.seq ?_
 refine Wk.region ?_
 refine Ll.box (v := vS a) rfl rfl rfl rfl rfl fun p2 hp2 => ?_
 show Ll _ _ (Own _ _ [_]) _ _ ((2, pt_ p2) :: _) _ _ _
 refine Ll.run 1 rfl ?_
 refine Ll.nil ?_
 refine Kt.sel [1, 2] [_, _] rfl ?_
 refine Wk.seq ?_
 refine Wk.regionQ ?_
 refine Lq.run 1 rfl ?_
 refine Lq.op (v := .func (.func 173) #[] #[pt_ p2]) rfl rfl rfl (OpQ.func' (cap := [.tmp 2]) rfl rfl) ?_
 refine Lq.op (v := bo_ (xs.any fun x => !elB a x)) rfl rfl rfl (OpQ.call rfl Tryd.call172 rfl Own.stable (fun w1 hw1 => containsFunc_ok va xs w1 (Row.own hva hw1) hs 173 #[.pointer (some ⟨p2, 0, none⟩)] (fun x => !elB a x) Tryd.call173 (fun w2 hb x => noEl_ok a p2 _ x w2 ((hw1.stable _ _ hb).has 0 _ _ rfl).2))) ?_
 refine Lq.run 2 rfl ?_
 refine Lq.nil ?_
 refine Kt.sel [4] [_] rfl ?_
 refine Wk.ret (Kt.end1 rfl rfl fun w' hw => ?_)
 exact ⟨ret_b (not_any_elB a xs), hw.below⟩
end Go.Proofs.YtnfkmfdhmlombaaDoor
namespace Go.Proofs.YtnfkmfdhmlombaaDoor
open Go.RowKit Go.Wk
set_option linter.unusedSimpArgs false
set_option maxHeartbeats 400000 in
/-- impl.newHolder -/
theorem newHold_ok (a : St) (B : Nat) (w0 : World) (hs : List (Nat × Obj)) (w : World) (hw : Own B w0 hs w) :
    Calls Tryd.prog 140 [vS a].toArray w fun en w' => ∃ (h M : Nat), en = .returned (.pointer (some ⟨h, 0, none⟩)) ∧ Own B w0 (memoF 182 h M a [] hs) w' := by
 refine fnStartC (Own B w0 hs) (n := 7) (e := [(0, vS a)]) Tryd.func140 rfl rfl rfl rfl Ends.both hw ?_
 refine Wk.seq ?_
 refine Wk.region ?_
 refine Ll.box (v := vS a) rfl rfl rfl rfl rfl fun p1 hp1 => ?_
 show Ll _ _ (Own _ _ (_ :: hs)) _ _ ((1, pt_ p1) :: _) _ _ _
 refine Ll.run 1 rfl ?_
 refine Ll.nil ?_
 refine Kt.sel [1] [_] rfl ?_
 refine Wk.seq ?_
 refine Wk.region ?_
 refine Ll.op rfl rfl rfl (OpQ.loadBox (cs := #[i6_ a.n, str a.set, str a.rel]) 0 rfl Tryd.isAgg28 rfl rfl Tryd.sizeOf28) ?_
 refine Ll.makeMapP rfl rfl rfl rfl fun m4 hm4 => ?_
 show Ll _ _ (Own _ _ (_ :: _ :: hs)) _ _ ((4, .map (some m4)) :: _) _ _ _
 refine Ll.op (v := .agg #[i6_ a.n, str a.set, str a.rel, .map (some m4)]) rfl rfl rfl (OpQ.build (xs := [.tmp 3, .tmp 4]) (vs := [vS a, .map (some m4)]) rfl rfl (by kernel_rfl)) ?_
 refine Ll.box (v := .agg #[i6_ a.n, str a.set, str a.rel, .map (some m4)]) rfl rfl rfl rfl rfl fun p6 hp6 => ?_
 show Ll _ _ (Own _ _ (_ :: _ :: _ :: hs)) _ _ ((6, pt_ p6) :: _) _ _ _
 refine Ll.run 1 rfl ?_
 refine Ll.nil ?_
 refine Kt.sel [2] [_] rfl ?_
 refine Wk.ret (Kt.end1 rfl rfl fun w' hw => ?_)
 exact ⟨p6, m4, rfl, Own.pickT (hs := [_, _, _]) (hs' := [_, _]) hw [0, 1] rfl (by decide)⟩
set_option maxHeartbeats 400000 in
/-- (*impl.holder).holds -/
theorem holds_ok (a : St) (fm : Fm) (ha : a.Fine) (hwf : wfF fm) (xs : List Int) (va : Value) (hl : xs.length ≤ 4) (B : Nat) (w0 : World) (hs ts : List (Nat × Obj)) (h M : Nat) (K : Memo) (p : Nat) (w : World) (hts : ∀ x ∈ ts, x ∈ hs) (hT : TreeB 148 ts fm p) (hva : ∀ w1, Own B w0 hs w1 → Ints w1 va xs) (hE : EnvA a (envL xs)) (hK : MemoOk 148 a ts K) (hw : Own B w0 (memoF 182 h M a K hs) w) :
    Calls Tryd.prog 141 [pt_ h, ptrV p, va].toArray w fun en w' => ∃ K', en = .returned (.bool (ev a fm (envL xs))) ∧ MemoOk 148 a ts K' ∧ Own B w0 (memoF 182 h M a K' hs) w' := by
 refine fnStartC (Own B w0 (bk_ h #[i6_ a.n, str a.set, str a.rel, .map (some M)] 182 :: ((M, mapP (memoK K)) :: (memoB K ++ hs)))) (n := 16) (e := [(0, pt_ h), (1, ptrV p), (2, va)]) Tryd.func141 rfl rfl rfl rfl Ends.both hw ?_
 refine Wk.seq ?_
 refine Wk.regionQ ?_
 refine Lq.run 1 rfl ?_
 refine Lq.nil ?_
 refine Kt.sel [0, 1, 2] [_, _, _] rfl ?_
 refine Wk.seq ?_
 refine Wk.region ?_
 refine Ll.op (v := .agg #[i6_ 0, i6_ 0, i6_ 0, i6_ 0]) rfl rfl rfl (OpQ.build (xs := []) (vs := []) rfl rfl (by kernel_rfl)) ?_
 refine Ll.alloc rfl rfl rfl rfl Tryd.zeroValue139 fun p7 hp7 => ?_
 show Ll _ _ (Own _ _ (bk_ p7 #[i6_ 0, i6_ 0, i6_ 0, i6_ 0] 139 :: _ :: (((M, mapP (memoK K)) :: (memoB K ++ hs))))) _ _ ((7, pt_ p7) :: _) _ _ _
 refine Ll.storeBox (cs' := #[i6_ 0, i6_ 0, i6_ 0, i6_ 0]) (hs' := (bk_ p7 #[i6_ 0, i6_ 0, i6_ 0, i6_ 0] 139 :: _ :: (((M, mapP (memoK K)) :: (memoB K ++ hs))))) 0 rfl rfl rfl rfl rfl (by kernel_rfl : _ = some Tryd.t139) rfl rfl rfl rfl rfl ?_
 refine Ll.nil ?_
 refine Kt.sel [0, 1, 2, 7] [_, _, _, _] rfl ?_
 refine Wk.seq ?_
 refine Wk.region ?_
 refine Ll.op (v := sl_ p7 4 4) rfl rfl rfl (OpQ.sliceAll rfl Tryd.runUnderlying139 Tryd.sizeOf3 rfl) ?_
 refine Ll.run 1 rfl ?_
 refine Ll.copyEnv (xs := xs) 0 rfl rfl rfl rfl Tryd.underlying25 (by kernel_rfl) rfl rfl rfl (fun w1 hw1 => hva w1 (Own.drop (f := [_, _]) (Own.offMemo (f := [_, _]) hw1))) hl ?_
 show Ll _ _ (Own _ _ (_ :: _ :: (((M, mapP (memoK K)) :: (memoB K ++ hs))))) _ _ ((11, i6_ ((xs.length : Int))) :: _) _ _ _
 refine Ll.nil ?_
 refine Kt.sel [0, 1, 7] [_, _, _] rfl ?_
 refine Wk.seq ?_
 refine Wk.region ?_
 refine Ll.run 2 rfl ?_
 refine Ll.op rfl rfl rfl (OpQ.loadBox (cs := (ints (envL xs)).toArray) 0 rfl Tryd.isAgg139 rfl rfl (by intro w; rw [show (ints (envL xs)).toArray.size = 4 from by simp [envL_len hl]]; exact Tryd.sizeOf139 w)) ?_
 refine Ll.callMemo (ok := fun K => MemoOk 148 a ts K) (b := ev a fm (envL xs)) (xs := [.tmp 12, .tmp 13, .tmp 14]) (vs := [pt_ h, ptrV p, .agg ((ints (envL xs)).toArray)]) ([bk_ p7 ((ints (envL xs)).toArray) 139] : List (Nat × Obj)) rfl rfl rfl rfl Tryd.call174 rfl (fun w1 hw1 => isTrue_ok a fm ha hwf B w0 _ ts h M K p (envL xs) w1 (fun x hx => List.mem_append_right _ (hts x hx)) hT hE hK hw1) fun K1 hM1 => ?_
 show Ll _ _ (Own _ _ (_ :: _ :: (((M, mapP (memoK K1)) :: (memoB K1 ++ hs))))) _ _ ((15, bo_ (ev a fm (envL xs))) :: _) _ _ _
 refine Ll.run 1 rfl ?_
 refine Ll.nil ?_
 refine Kt.sel [6] [_] rfl ?_
 refine Wk.ret (Kt.end1 rfl rfl fun w' hw => ?_)
 exact ⟨K1, rfl, hM1, Own.drop (f := [_]) hw⟩
set_option maxHeartbeats 800000 in
/-- impl.HoldsAt -/
theorem iHolds_ok (a : St) (f : List UInt8) (va : Value) (xs : List Int) (w : World) (hsa : a.Small) (hva : Ints w va xs) (hxl : xs.length ≤ 1048576) :
    Calls Tryd.prog 80 [vS a, str f, va].toArray w fun en w' => en = .returned (.tuple #[.bool (holdV a f xs), .bool (holdK a f xs)]) ∧ Below w.heap.size w w' := by
 refine fnStart (n := 44) (e := [(0, vS a), (1, str f), (2, va)]) Tryd.func80 rfl rfl rfl rfl Ends.both ?_
 refine Wk.seq ?_
 refine Wk.region ?_
 refine Ll.box (v := vS a) rfl rfl rfl rfl rfl fun p3 hp3 => ?_
 show Ll _ _ (Own _ _ [_]) _ _ ((3, pt_ p3) :: _) _ _ _
 refine Ll.run 2 rfl ?_
 refine Ll.nil ?_
 refine Kt.sel [1, 2, 3] [_, _, _] rfl ?_
 refine Wk.seq ?_
 rcases hff1 : formO f with _ | fm1
 ·
  refine Wk.region ?_
  refine Ll.run 1 rfl ?_
  refine Ll.callGet (σ := Unit) (ok := fun _ => True) (v := fun _ => .pointer none) (hs' := fun _ => [bk_ p3 #[i6_ a.n, str a.set, str a.rel] 28]) (xs := [.tmp 9]) (vs := [str f]) rfl rfl rfl rfl Tryd.call105 rfl (fun w1 hw1 => (pform_ok f _ _ (([bk_ p3 #[i6_ a.n, str a.set, str a.rel] 28] : List (Nat × Obj)) ++ ([])) w1 hw1).mono fun en w' hR => by rw [hff1] at hR; exact ⟨(), hR.1, trivial, hR.2⟩) fun _ _ => ?_
  show Ll _ _ (Own _ _ [_]) _ _ ((10, .pointer none) :: _) _ _ _
  refine Ll.run 1 rfl ?_
  refine Ll.nil ?_
  refine Kt.sel [2, 3, 8] [_, _, _] rfl ?_
  refine Wk.seq ?_
  refine Wk.seq ?_
  refine Wk.regionQ ?_
  refine Lq.run 1 rfl ?_
  refine Lq.op (v := bo_ true) rfl rfl rfl (OpQ.eqNilP (p := none) rfl Tryd.underlying111 rfl rfl) ?_
  refine Lq.run 1 rfl ?_
  refine Lq.pass rfl rfl rfl ?_
  refine Lq.pass rfl rfl rfl ?_
  refine Lq.pass rfl rfl rfl ?_
  refine Lq.run 2 rfl ?_
  refine Lq.pass rfl rfl rfl ?_
  refine Lq.pass rfl rfl rfl ?_
  refine Lq.pass rfl rfl rfl ?_
  refine Lq.run 2 rfl ?_
  refine Lq.pass rfl rfl rfl ?_
  refine Lq.pass rfl rfl rfl ?_
  refine Lq.pass rfl rfl rfl ?_
  refine Lq.pass rfl rfl rfl ?_
  refine Lq.run 2 rfl ?_
  refine Lq.pass rfl rfl rfl ?_
  refine Lq.pass rfl rfl rfl ?_
  refine Lq.pass rfl rfl rfl ?_
  refine Lq.pass rfl rfl rfl ?_
  refine Lq.pass rfl rfl rfl ?_
  refine Lq.pass rfl rfl rfl ?_
  refine Lq.pass rfl rfl rfl ?_
  refine Lq.pass rfl rfl rfl ?_
  refine Lq.run 1 rfl ?_
  refine Lq.nil ?_
  refine Kt.sel [2, 3, 8, 38] [_, _, _, _] rfl ?_
  refine Wk.condT rfl ?_
  refine Wk.seq ?_
  refine Wk.regionQ ?_
  refine Lq.run 2 rfl ?_
  refine Lq.nil ?_
  refine Kt.sel [6, 7] [_, _] rfl ?_
  refine Wk.ret (Kt.end2 rfl rfl rfl fun w' hw => ?_)
  exact ⟨congrArg Ending.returned (hold_ret (hold_none hff1)), hw.below⟩
 ·
  refine Wk.region ?_
  refine Ll.run 1 rfl ?_
  refine Ll.callBack (ok := fun ((q, new) : Nat × List (Nat × Obj)) => TreeB 148 new fm1 q) (v := fun ((q, new) : Nat × List (Nat × Obj)) => ptrV q) (new := fun ((q, new) : Nat × List (Nat × Obj)) => new) (hs := []) (xs := [.tmp 9]) (vs := [str f]) ([bk_ p3 #[i6_ a.n, str a.set, str a.rel] 28] : List (Nat × Obj)) rfl rfl rfl rfl Tryd.call105 rfl (fun w1 hw1 => (pform_ok f _ _ (([bk_ p3 #[i6_ a.n, str a.set, str a.rel] 28] : List (Nat × Obj)) ++ ([])) w1 hw1).mono fun en w' hR => by rw [hff1] at hR; obtain ⟨q, new, h1, h2, h3⟩ := hR; exact ⟨(q, new), h1, h2, h3⟩) fun ⟨q10, new10⟩ hTq10 => ?_
  dsimp only at hTq10
  show Ll _ _ (Own _ _ (_ :: (new10 ++ ([])))) _ _ ((10, ptrV q10) :: _) _ _ _
  refine Ll.run 1 rfl ?_
  refine Ll.nil ?_
  refine Kt.sel [2, 3, 8] [_, _, _] rfl ?_
  refine Wk.seq ?_
  refine Wk.seq ?_
  refine Wk.regionQ ?_
  refine Lq.run 1 rfl ?_
  refine Lq.op (v := bo_ false) rfl rfl rfl (OpQ.eqNilP (p := some ⟨q10, 0, none⟩) rfl Tryd.underlying111 rfl rfl) ?_
  refine Lq.run 1 rfl ?_
  refine Lq.op rfl rfl rfl (OpQ.loadBox (cs := #[i6_ a.n, str a.set, str a.rel]) 0 rfl Tryd.isAgg28 rfl rfl Tryd.sizeOf28) ?_
  refine Lq.op (v := bo_ (validB a)) rfl rfl rfl (OpQ.call rfl Tryd.call59 rfl Own.stable (fun w1 hw1 => isStructure_ok a w1 hsa)) ?_
  refine Lq.run 3 rfl ?_
  refine Lq.bool fun b18 hg18 => ?_
  cases b18
  ·
   replace hg18 := not_false hg18
   refine Lq.run 1 rfl ?_
   refine Lq.op (v := i6_ ((xs.length : Int))) rfl rfl rfl (OpQ.lenRow rfl Tryd.runUnderlying25 rfl (ints_length _) (fun w1 hw1 => Row.own hva hw1)) ?_
   refine Lq.run 3 rfl ?_
   refine Lq.bool fun b23 hg23 => ?_
   cases b23
   ·
    replace hg23 := of_decide_eq_false hg23
    refine Lq.op rfl rfl rfl (OpQ.loadBox (cs := #[i6_ a.n, str a.set, str a.rel]) 0 rfl Tryd.isAgg28 rfl rfl Tryd.sizeOf28) ?_
    refine Lq.run 1 rfl ?_
    refine Lq.op (v := bo_ (xs.all (elB a))) rfl rfl rfl (OpQ.call rfl Tryd.call139 rfl Own.stable (fun w1 hw1 => areElements_ok a va xs w1 (Row.own hva hw1) (by first | (simp; done) | (simp; omega) | omega))) ?_
    refine Lq.run 3 rfl ?_
    refine Lq.bool fun b29 hg29 => ?_
    cases b29
    ·
     replace hg29 := not_false hg29
     refine Lq.run 1 rfl ?_
     refine Lq.op (v := ptrV q10) rfl rfl rfl (OpQ.nilCheck rfl rfl) ?_
     refine Lq.op rfl rfl rfl (OpQ.fieldAddr rfl Tryd.runUnderlying148 rfl Tryd.sizeOf3 rfl rfl) ?_
     refine Lq.op (v := i6_ ((frB fm1 : Int))) rfl rfl rfl (OpQ.load1 rfl Tryd.isAgg3 rfl (fun w1 hw1 => tree_free (TreeB.tree (Own.dropR (Own.drop (f := [_]) hw1)) hTq10))) ?_
     refine Lq.run 1 rfl ?_
     refine Lq.op (v := i6_ ((xs.length : Int))) rfl rfl rfl (OpQ.lenRow rfl Tryd.runUnderlying25 rfl (ints_length _) (fun w1 hw1 => Row.own hva hw1)) ?_
     refine Lq.op (v := i6_ ((((frB fm1) / 2 ^ xs.length : Nat) : Int))) rfl rfl rfl (OpQ.shr (a := frB fm1) (b := xs.length) rfl rfl rfl (by omega)) ?_
     refine Lq.run 2 rfl ?_
     refine Lq.nil ?_
     refine Kt.sel [2, 3, 8, 38] [_, _, _, _] rfl ?_
     refine Wk.cond (b := !(decide (((((frB fm1) / 2 ^ xs.length : Nat) : Int)) = (0 : Int)))) rfl (fun h38 => ?_) (fun h38 => ?_)
     ·
      replace h38 := not_true h38
      replace h38 := of_decide_eq_false h38
      refine Wk.seq ?_
      refine Wk.regionQ ?_
      refine Lq.run 2 rfl ?_
      refine Lq.nil ?_
      refine Kt.sel [6, 7] [_, _] rfl ?_
      refine Wk.ret (Kt.end2 rfl rfl rfl fun w' hw => ?_)
      exact ⟨congrArg Ending.returned (hold_ret (hold_bad hff1 (by first | exact .inl (by assumption) | exact .inr (.inl (by omega)) | exact .inr (.inr (.inl (by assumption))) | exact .inr (.inr (.inr (by assumption)))))), hw.below⟩
     ·
      replace h38 := not_false h38
      replace h38 := of_decide_eq_true h38
      have hO := hold_good (a := a) (xs := xs) hff1 (by assumption) (by omega) (by assumption) (by assumption)
      have ha := validB_fine (show validB a = true by assumption)
      have hm1 := ha.lo
      refine Wk.skip ?_
      refine Kt.sel [2, 3, 8] [_, _, _] rfl ?_
      refine Wk.seq ?_
      refine Wk.region ?_
      refine Ll.op rfl rfl rfl (OpQ.loadBox (cs := #[i6_ a.n, str a.set, str a.rel]) 0 rfl Tryd.isAgg28 rfl rfl Tryd.sizeOf28) ?_
      refine Ll.callBack (ok := fun _ => True) (v := fun ((h, M) : Nat × Nat) => .pointer (some ⟨h, 0, none⟩)) (new := fun ((h, M) : Nat × Nat) => [(h, Obj.cells #[.int .i64 a.n, str a.set, str a.rel, .map (some M)] 182 (0, 0)), (M, mapP (memoK []))]) (hs := new10 ++ ([])) (xs := [.tmp 39]) (vs := [vS a]) ([bk_ p3 #[i6_ a.n, str a.set, str a.rel] 28] : List (Nat × Obj)) rfl rfl rfl rfl Tryd.call140 rfl (fun w1 hw1 => (newHold_ok a w.heap.size w (([bk_ p3 #[i6_ a.n, str a.set, str a.rel] 28] : List (Nat × Obj)) ++ (new10 ++ ([]))) w1 hw1).mono fun en w' ⟨h, M, h1, h2⟩ => ⟨(h, M), h1, trivial, h2⟩) fun ⟨h40n, M40n⟩ _ => ?_
      show Ll _ _ (Own _ _ (_ :: _ :: (((M40n, mapP (memoK [])) :: (memoB [] ++ (new10 ++ ([]))))))) _ _ ((40, pt_ h40n) :: _) _ _ _
      refine Ll.run 2 rfl ?_
      refine Ll.callMemo (ok := fun K => MemoOk 148 a new10 K) (b := ev a fm1 (envL xs)) (xs := [.tmp 40, .tmp 41, .tmp 42]) (vs := [pt_ h40n, ptrV q10, va]) ([bk_ p3 #[i6_ a.n, str a.set, str a.rel] 28] : List (Nat × Obj)) rfl rfl rfl rfl Tryd.call141 rfl (fun w1 hw1 => holds_ok a fm1 ha (formO_wf hff1) xs va (by omega) _ _ _ new10 h40n M40n [] q10 w1 (fun x hx => List.mem_append_right _ (List.mem_append_left _ hx)) hTq10 (fun w1 h1 => Row.own hva h1) (envL_ok hm1 (by omega) (fun x hx => elB_true.1 (List.all_eq_true.1 (by assumption) x hx))) MemoOk.nil hw1) fun K1 hM1 => ?_
      show Ll _ _ (Own _ _ (_ :: _ :: (((M40n, mapP (memoK K1)) :: (memoB K1 ++ (new10 ++ ([]))))))) _ _ ((43, bo_ (ev a fm1 (envL xs))) :: _) _ _ _
      refine Ll.run 2 rfl ?_
      refine Ll.nil ?_
      refine Kt.sel [6, 7] [_, _] rfl ?_
      refine Wk.ret (Kt.end2 rfl rfl rfl fun w' hw => ?_)
      exact ⟨congrArg Ending.returned (hold_ret hO), hw.below⟩
    ·
     replace hg29 := not_true hg29
     refine Lq.pass rfl rfl rfl ?_
     refine Lq.pass rfl rfl rfl ?_
     refine Lq.pass rfl rfl rfl ?_
     refine Lq.pass rfl rfl rfl ?_
     refine Lq.pass rfl rfl rfl ?_
     refine Lq.pass rfl rfl rfl ?_
     refine Lq.pass rfl rfl rfl ?_
     refine Lq.pass rfl rfl rfl ?_
     refine Lq.run 1 rfl ?_
     refine Lq.nil ?_
     refine Kt.sel [2, 3, 8, 38] [_, _, _, _] rfl ?_
     refine Wk.condT rfl ?_
     refine Wk.seq ?_
     refine Wk.regionQ ?_
     refine Lq.run 2 rfl ?_
     refine Lq.nil ?_
     refine Kt.sel [6, 7] [_, _] rfl ?_
     refine Wk.ret (Kt.end2 rfl rfl rfl fun w' hw => ?_)
     exact ⟨congrArg Ending.returned (hold_ret (hold_bad hff1 (by first | exact .inl (by assumption) | exact .inr (.inl (by omega)) | exact .inr (.inr (.inl (by assumption))) | exact .inr (.inr (.inr (by assumption)))))), hw.below⟩
   ·
    replace hg23 := of_decide_eq_true hg23
    refine Lq.pass rfl rfl rfl ?_
    refine Lq.pass rfl rfl rfl ?_
    refine Lq.pass rfl rfl rfl ?_
    refine Lq.pass rfl rfl rfl ?_
    refine Lq.run 2 rfl ?_
    refine Lq.pass rfl rfl rfl ?_
    refine Lq.pass rfl rfl rfl ?_
    refine Lq.pass rfl rfl rfl ?_
    refine Lq.pass rfl rfl rfl ?_
    refine Lq.pass rfl rfl rfl ?_
    refine Lq.pass rfl rfl rfl ?_
    refine Lq.pass rfl rfl rfl ?_
    refine Lq.pass rfl rfl rfl ?_
    refine Lq.run 1 rfl ?_
    refine Lq.nil ?_
    refine Kt.sel [2, 3, 8, 38] [_, _, _, _] rfl ?_
    refine Wk.condT rfl ?_
    refine Wk.seq ?_
    refine Wk.regionQ ?_
    refine Lq.run 2 rfl ?_
    refine Lq.nil ?_
    refine Kt.sel [6, 7] [_, _] rfl ?_
    refine Wk.ret (Kt.end2 rfl rfl rfl fun w' hw => ?_)
    exact ⟨congrArg Ending.returned (hold_ret (hold_bad hff1 (by first | exact .inl (by assumption) | exact .inr (.inl (by omega)) | exact .inr (.inr (.inl (by assumption))) | exact .inr (.inr (.inr (by assumption)))))), hw.below⟩
  ·
   replace hg18 := not_true hg18
   refine Lq.pass rfl rfl rfl ?_
   refine Lq.pass rfl rfl rfl ?_
   refine Lq.pass rfl rfl rfl ?_
   refine Lq.run 2 rfl ?_
   refine Lq.pass rfl rfl rfl ?_
   refine Lq.pass rfl rfl rfl ?_
   refine Lq.pass rfl rfl rfl ?_
   refine Lq.pass rfl rfl rfl ?_
   refine Lq.run 2 rfl ?_
   refine Lq.pass rfl rfl rfl ?_
   refine Lq.pass rfl rfl rfl ?_
   refine Lq.pass rfl rfl rfl ?_
   refine Lq.pass rfl rfl rfl ?_
   refine Lq.pass rfl rfl rfl ?_
   refine Lq.pass rfl rfl rfl ?_
   refine Lq.pass rfl rfl rfl ?_
   refine Lq.pass rfl rfl rfl ?_
   refine Lq.run 1 rfl ?_
   refine Lq.nil ?_
   refine Kt.sel [2, 3, 8, 38] [_, _, _, _] rfl ?_
   refine Wk.condT rfl ?_
   refine Wk.seq ?_
   refine Wk.regionQ ?_
   refine Lq.run 2 rfl ?_
   refine Lq.nil ?_
   refine Kt.sel [6, 7] [_, _] rfl ?_
   refine Wk.ret (Kt.end2 rfl rfl rfl fun w' hw => ?_)
   exact ⟨congrArg Ending.returned (hold_ret (hold_bad hff1 (by first | exact .inl (by assumption) | exact .inr (.inl (by omega)) | exact .inr (.inr (.inl (by assumption))) | exact .inr (.inr (.inr (by assumption)))))), hw.below⟩
set_option maxHeartbeats 400000 in
/-- impl.HoldsIn -/
theorem iIn_ok (a : St) (f : List UInt8) (w : World) (hsa : a.Small) :
    Calls Tryd.prog 83 [vS a, str f].toArray w fun en w' => en = .returned (.tuple #[.bool (holdV a f []), .bool (holdK a f [])]) ∧ Below w.heap.size w w' := by
 refine fnStart (n := 11) (e := [(0, vS a), (1, str f)]) Tryd.func83 rfl rfl rfl rfl Ends.both ?_
 refine Wk.seq ?_
 refine Wk.region ?_
 refine Ll.box (v := vS a) rfl rfl rfl rfl rfl fun p2 hp2 => ?_
 show Ll _ _ (Own _ _ [_]) _ _ ((2, pt_ p2) :: _) _ _ _
 refine Ll.run 2 rfl ?_
 refine Ll.nil ?_
 refine Kt.sel [1, 2] [_, _] rfl ?_
 refine Wk.seq ?_
 refine Wk.regionQ ?_
 refine Lq.op rfl rfl rfl (OpQ.loadBox (cs := #[i6_ a.n, str a.set, str a.rel]) 0 rfl Tryd.isAgg28 rfl rfl Tryd.sizeOf28) ?_
 refine Lq.run 1 rfl ?_
 refine Lq.op (v := .tuple #[bo_ (holdV a f ([])), bo_ (holdK a f ([]))]) rfl rfl rfl (OpQ.call rfl Tryd.call80 rfl Own.stable (fun w1 hw1 => iHolds_ok a f (.slice none 0 0) ([]) w1 hsa Ints.nil (by first | (simp; done) | omega))) ?_
 refine Lq.op (v := bo_ (holdV a f ([]))) rfl rfl rfl (OpQ.extract rfl rfl rfl) ?_
 refine Lq.op (v := bo_ (holdK a f ([]))) rfl rfl rfl (OpQ.extract rfl rfl rfl) ?_
 refine Lq.run 2 rfl ?_
 refine Lq.nil ?_
 refine Kt.sel [4, 5] [_, _] rfl ?_
 refine Wk.ret (Kt.end2 rfl rfl rfl fun w' hw => ?_)
 exact ⟨rfl, hw.below⟩
set_option maxHeartbeats 400000 in
/-- impl.RankOf -/
theorem iRank_ok (f : List UInt8) (w : World) :
    Calls Tryd.prog 54 [str f].toArray w fun en w' => en = .returned (.int .i64 (rankI f)) ∧ Below w.heap.size w w' := by
 refine fnStart (n := 10) (e := [(0, str f)]) Tryd.func54 rfl rfl rfl rfl Ends.both ?_
 refine Wk.seq ?_
 refine Wk.regionQ ?_
 refine Lq.run 1 rfl ?_
 refine Lq.nil ?_
 refine Kt.sel [0] [_] rfl ?_
 refine Wk.seq ?_
 rcases hff1 : formO f with _ | fm1
 ·
  refine Wk.region ?_
  refine Ll.run 1 rfl ?_
  refine Ll.callGet (σ := Unit) (ok := fun _ => True) (v := fun _ => .pointer none) (hs' := fun _ => []) (xs := [.tmp 4]) (vs := [str f]) rfl rfl rfl rfl Tryd.call105 rfl (fun w1 hw1 => (pform_ok f _ _ (([] : List (Nat × Obj)) ++ ([])) w1 hw1).mono fun en w' hR => by rw [hff1] at hR; exact ⟨(), hR.1, trivial, hR.2⟩) fun _ _ => ?_
  show Ll _ _ (Own _ _ []) _ _ ((5, .pointer none) :: _) _ _ _
  refine Ll.run 1 rfl ?_
  refine Ll.nil ?_
  refine Kt.sel [3] [_] rfl ?_
  refine Wk.seq ?_
  refine Wk.seq ?_
  refine Wk.regionQ ?_
  refine Lq.run 1 rfl ?_
  refine Lq.op (v := bo_ true) rfl rfl rfl (OpQ.eqNilP (p := none) rfl Tryd.underlying111 rfl rfl) ?_
  refine Lq.nil ?_
  refine Kt.sel [3, 7] [_, _] rfl ?_
  refine Wk.condT rfl ?_
  refine Wk.seq ?_
  refine Wk.regionQ ?_
  refine Lq.run 1 rfl ?_
  refine Lq.nil ?_
  refine Kt.sel [2] [_] rfl ?_
  refine Wk.ret (Kt.end1 rfl rfl fun w' hw => ?_)
  exact ⟨ret_i (by unfold rankI; rw [hff1]), hw.below⟩
 ·
  have hP1 := formO_pa hff1
  have hwf_fm1 := formO_wf hff1
  have hl4 := (formO_parse hff1).1
  have hr_fm1 : rankF fm1 ≤ 2000000 := by have := rank_pa hP1; omega
  refine Wk.region ?_
  refine Ll.run 1 rfl ?_
  refine Ll.callBack (ok := fun ((q, new) : Nat × List (Nat × Obj)) => TreeB 148 new fm1 q) (v := fun ((q, new) : Nat × List (Nat × Obj)) => ptrV q) (new := fun ((q, new) : Nat × List (Nat × Obj)) => new) (hs := []) (xs := [.tmp 4]) (vs := [str f]) ([] : List (Nat × Obj)) rfl rfl rfl rfl Tryd.call105 rfl (fun w1 hw1 => (pform_ok f _ _ (([] : List (Nat × Obj)) ++ ([])) w1 hw1).mono fun en w' hR => by rw [hff1] at hR; obtain ⟨q, new, h1, h2, h3⟩ := hR; exact ⟨(q, new), h1, h2, h3⟩) fun ⟨q5, new5⟩ hTq5 => ?_
  dsimp only at hTq5
  show Ll _ _ (Own _ _ ((new5 ++ ([])))) _ _ ((5, ptrV q5) :: _) _ _ _
  refine Ll.run 1 rfl ?_
  refine Ll.nil ?_
  refine Kt.sel [3] [_] rfl ?_
  refine Wk.seq ?_
  refine Wk.seq ?_
  refine Wk.regionQ ?_
  refine Lq.run 1 rfl ?_
  refine Lq.op (v := bo_ false) rfl rfl rfl (OpQ.eqNilP (p := some ⟨q5, 0, none⟩) rfl Tryd.underlying111 rfl rfl) ?_
  refine Lq.nil ?_
  refine Kt.sel [3, 7] [_, _] rfl ?_
  refine Wk.condF rfl ?_
  refine Wk.skip ?_
  refine Kt.sel [3] [_] rfl ?_
  refine Wk.seq ?_
  refine Wk.regionQ ?_
  refine Lq.run 1 rfl ?_
  refine Lq.op (v := i6_ ((rankF fm1 : Int))) rfl rfl rfl (OpQ.call rfl Tryd.call106 rfl Own.stable (fun w1 hw1 => rankP_ok fm1 q5 w1 (TreeB.tree (Own.dropR (Own.drop (f := []) hw1)) hTq5) hwf_fm1 hr_fm1)) ?_
  refine Lq.run 1 rfl ?_
  refine Lq.nil ?_
  refine Kt.sel [2] [_] rfl ?_
  refine Wk.ret (Kt.end1 rfl rfl fun w' hw => ?_)
  exact ⟨ret_i (by unfold rankI; rw [hff1]), hw.below⟩
end Go.Proofs.YtnfkmfdhmlombaaDoor
namespace Go.Proofs.YtnfkmfdhmlombaaDoor
open Go.RowKit Go.Wk
set_option linter.unusedSimpArgs false
set_option maxHeartbeats 400000 in
/-- spec.l15Find -/
theorem l15Find_ok (s : List UInt8) (c : Int) (w : World) (hs : s.length ≤ 1048576) :
    Calls Tryd.prog 178 [str s, .int .u8 c].toArray w fun en w' => en = .returned (.int .i64 (findS s c)) ∧ Below w.heap.size w w' := by
 refine fnStart (n := 18) (e := [(0, str s), (1, .int .u8 c)]) Tryd.func178 rfl rfl rfl rfl Ends.both ?_
 refine Wk.seq ?_
 refine Wk.regionQ ?_
 refine Lq.run 1 rfl ?_
 refine Lq.nil ?_
 refine Kt.sel [0, 1] [_, _] rfl ?_
 refine Wk.seq ?_
 refine Wk.seq ?_
 refine Wk.regionQ ?_
 refine Lq.run 1 rfl ?_
 refine Lq.nil ?_
 refine Kt.sel [0, 1, 5] [_, _, _] rfl ?_
 refine Wk.block ?_
 refine Wk.loop (σ := Nat) (fun k => k ≤ s.length ∧ ∀ i : Nat, i < k → ¬ ((s.getD i 0).toNat : Int) = c) (fun k => [(0, str s), (1, .int .u8 c), (5, i6_ ((k : Int)))]) (fun k => Own w.heap.size w []) (fun k => s.length - k) (0) ⟨by omega, fun i hi => absurd hi (by omega)⟩ (Sub.sel [0, 1, 5] rfl) (fun _ h => h) ?_
 rintro k ⟨hk, hall⟩
 refine Wk.seq ?_
 refine Wk.seq ?_
 refine Wk.regionQ ?_
 refine Lq.run 2 rfl ?_
 refine Lq.op (v := i6_ ((s.length : Int))) rfl rfl rfl (OpQ.lenStr rfl Tryd.runUnderlying9 rfl) ?_
 refine Lq.run 1 rfl ?_
 refine Lq.nil ?_
 refine Kt.sel [0, 1, 5, 9] [_, _, _, _] rfl ?_
 refine Wk.cond (b := decide (((k : Int)) < ((s.length : Int)))) rfl (fun h9 => ?_) (fun h9 => ?_)
 ·
  replace h9 := of_decide_eq_true h9
  refine Wk.skip ?_
  refine Kt.sel [0, 1, 5] [_, _, _] rfl ?_
  refine Wk.seq ?_
  refine Wk.block ?_
  refine Wk.seq ?_
  refine Wk.regionQ ?_
  refine Lq.run 2 rfl ?_
  refine Lq.op (v := .int .u8 (((s.getD (((k : Int)).toNat) 0).toNat : Int))) rfl rfl rfl (OpQ.indexStr rfl Tryd.runUnderlying9 rfl rfl (by omega) (by omega)) ?_
  refine Lq.run 2 rfl ?_
  refine Lq.nil ?_
  refine Kt.sel [0, 1, 5, 16] [_, _, _, _] rfl ?_
  refine Wk.cond (b := decide ((((s.getD (((k : Int)).toNat) 0).toNat : Int)) = c)) rfl (fun h16 => ?_) (fun h16 => ?_)
  ·
   replace h16 := of_decide_eq_true h16
   refine Wk.seq ?_
   refine Wk.regionQ ?_
   refine Lq.run 2 rfl ?_
   refine Lq.nil ?_
   refine Kt.sel [4] [_] rfl ?_
   refine Wk.ret (Kt.end1 rfl rfl fun w' hw => ?_)
   exact ⟨ret_i (findS_at (by omega) hall h16).symm, hw.below⟩
  ·
   replace h16 := of_decide_eq_false h16
   refine Wk.skip ?_
   refine Kt.sel [0, 1, 5] [_, _, _] rfl ?_
   refine Wk.regionQ ?_
   refine Lq.run 1 rfl ?_
   refine Lq.op rfl rfl rfl (OpQ.add rfl rfl rfl (by omega) (by omega)) ?_
   refine Lq.run 1 rfl ?_
   refine Lq.nil ?_
   refine Kt.again (k + 1) ⟨by omega, fun i hi => (Nat.lt_succ_iff_lt_or_eq.1 hi).elim (hall i) (fun e => by subst e; exact h16)⟩ (by omega) (Sub.sel [0, 1, 5] rfl) (fun _ h => h)
 ·
  replace h9 := of_decide_eq_false h9
  refine Wk.exit rfl ?_
  refine Kt.sel [] [] rfl ?_
  refine Wk.seq ?_
  refine Wk.regionQ ?_
  refine Lq.run 1 rfl ?_
  refine Lq.nil ?_
  refine Kt.sel [4] [_] rfl ?_
  refine Wk.ret (Kt.end1 rfl rfl fun w' hw => ?_)
  exact ⟨ret_i (findS_none (fun i hi => hall i (by omega))).symm, hw.below⟩
end Go.Proofs.YtnfkmfdhmlombaaDoor
