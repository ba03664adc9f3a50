/-
  Walks: the law of classes.
-/
import Derived.Test.YtmannilblelfjaaDoorClsM
import Derived.Test.YtmannilblelfjaaDoorOrbM
import Derived.Test.YtmannilblelfjaaDoorGsM
import Derived.Test.YtmannilblelfjaaDoorDrawsG
import Derived.Test.YtmannilblelfjaaDoorBase
namespace Go.Proofs.YtmannilblelfjaaDoor
open Go.RowKit Go.Wk
set_option linter.unusedSimpArgs false

set_option maxHeartbeats 400000 in
/-- impl.StructureValid -/
theorem iValid_ok (a : St) (w : World) (ha : a.Small) :
    Calls Tryd.prog 18 [vS a].toArray w fun en w' => en = .returned (.bool (validB a)) ∧ Below w.heap.size w w' := by
 refine fnStart (n := 5) (e := [(0, vS a)]) Tryd.func18 rfl rfl rfl rfl Ends.both ?_
 have hsa := ha
 refine Wk.seq ?_
 refine Wk.region ?_
 refine Ll.box (v := vS a) rfl rfl rfl rfl rfl fun p1 hp1 => ?_
 show Ll _ _ (Own _ _ [_]) _ _ ((1, pt_ p1) :: _) _ _ _
 refine Ll.run 1 rfl ?_
 refine Ll.nil ?_
 refine Kt.sel [1] [_] rfl ?_
 refine Wk.seq ?_
 refine Wk.regionQ ?_
 refine Lq.op rfl rfl rfl (OpQ.loadBox (cs := #[i6_ a.n, str a.set, str a.rel]) 0 rfl Tryd.isAgg24 rfl rfl Tryd.sizeOf24) ?_
 refine Lq.op (v := bo_ (validB a)) rfl rfl rfl (OpQ.call rfl Tryd.call68 rfl Own.stable (fun w1 hw1 => isStructure_ok a w1 hsa)) ?_
 refine Lq.run 1 rfl ?_
 refine Lq.nil ?_
 refine Kt.sel [2] [_] rfl ?_
 refine Wk.ret (Kt.end1 rfl rfl fun w' hw => ?_)
 -- ret 0: bo_ (validB a)
 exact ⟨rfl, hw.below⟩

def lawFnClasses_o17x : OV := (.one 11 (.one 16 (.take 17 .done)))
theorem lawFnClasses_o17x_c : ovB (opsOf 17 Tryd.f9.body) lawFnClasses_o17x 3 true #[true, true, true, true, true, true, true, true, true, true, true, false, true, true, true, true, false, false] = true := (ovB_one (by kernel_rfl) (ovB_one (by kernel_rfl) (ovB_take (by kernel_rfl) (ovB_done (by kernel_rfl)))))
def lawFnClasses_o17_1x : OV := (.one 14 (.one 16 (.take 17 .done)))
theorem lawFnClasses_o17_1x_c : ovB (opsOf 17 Tryd.f9.body) lawFnClasses_o17_1x 3 true #[true, true, true, true, true, true, true, true, true, true, true, true, true, true, false, true, false, false] = true := (ovB_one (by kernel_rfl) (ovB_one (by kernel_rfl) (ovB_take (by kernel_rfl) (ovB_done (by kernel_rfl)))))
def lawFnClasses_o17_2x : OV := (.take 0 (.take 1 (.take 2 (.take 3 (.take 4 (.take 5 (.take 6 (.take 7 (.take 8 (.take 9 (.take 10 (.take 12 (.take 13 (.take 15 (.alt 11 lawFnClasses_o17_1x (.one 14 lawFnClasses_o17x))))))))))))))))
theorem lawFnClasses_o17_2x_c : ovB (opsOf 17 Tryd.f9.body) lawFnClasses_o17_2x 18 true #[false, false, false, false, false, false, false, false, false, false, false, false, false, false, false, false, false, false] = true := (ovB_take (by kernel_rfl) (ovB_take (by kernel_rfl) (ovB_take (by kernel_rfl) (ovB_take (by kernel_rfl) (ovB_take (by kernel_rfl) (ovB_take (by kernel_rfl) (ovB_take (by kernel_rfl) (ovB_take (by kernel_rfl) (ovB_take (by kernel_rfl) (ovB_take (by kernel_rfl) (ovB_take (by kernel_rfl) (ovB_take (by kernel_rfl) (ovB_take (by kernel_rfl) (ovB_take (by kernel_rfl) (ovB_alt (by kernel_rfl) (ovB_at (by kernel_rfl) lawFnClasses_o17_1x_c) (ovB_last (ovB_at (by kernel_rfl) lawFnClasses_o17x_c)))))))))))))))))
def lawFnClasses_o17_3x : OV := .done
theorem lawFnClasses_o17_3x_c : ovB (opsOf 17 Tryd.f9.body) lawFnClasses_o17_3x 0 true #[true, true, true, true, true, true, true, true, true, true, true, true, true, true, true, true, true, true] = true := (ovB_done (by kernel_rfl))
set_option maxHeartbeats 400000 in
/-- laws.FnClasses -/
theorem lawFnClasses (bv : Value) (L : List Int) (w : World) (hbv : Row w bv (u8s L)) (hL8 : Bytes8 L) (hLm : L.length ≤ 9223372036854775807) :
    Calls Tryd.prog 9 [bv].toArray w fun en w' => en = .returned (.bool true) ∧ Below w.heap.size w w' := by
 refine fnStart (n := 129) (e := [(0, bv)]) Tryd.func9 rfl rfl rfl rfl Ends.both ?_
 refine Wk.seq ?_
 refine Wk.regionQ ?_
 refine Lq.run 1 rfl ?_
 refine Lq.nil ?_
 refine Kt.sel [0] [_] rfl ?_
 refine Wk.seq ?_
 refine Wk.seq ?_
 refine Wk.regionQ ?_
 refine Lq.run 1 rfl ?_
 refine Lq.op (v := i6_ ((L.length : Int))) rfl rfl rfl (OpQ.lenRow rfl Tryd.runUnderlying22 rfl (u8s_length _) (fun w1 hw1 => Row.own hbv hw1)) ?_
 refine Lq.run 1 rfl ?_
 refine Lq.nil ?_
 refine Kt.sel [0, 13] [_, _] rfl ?_
 refine Wk.cond (b := decide ((1048576 : Int) < ((L.length : Int)))) rfl (fun h13 => ?_) (fun h13 => ?_)
 ·
  replace h13 := of_decide_eq_true h13
  refine Wk.seq ?_
  refine Wk.regionQ ?_
  refine Lq.run 1 rfl ?_
  refine Lq.nil ?_
  refine Kt.sel [2] [_] rfl ?_
  refine Wk.ret (Kt.end1 rfl rfl fun w' hw => ?_)
  -- ret 0: bo_ true
  exact ⟨ret_b (by first | rfl | (simp_all; done)), hw.below⟩
 ·
  replace h13 := of_decide_eq_false h13
  refine Wk.skip ?_
  refine Kt.sel [0] [_] rfl ?_
  refine Wk.seq ?_
  refine Wk.region ?_
  refine Ll.run 1 rfl ?_
  refine Ll.callGet (σ := St × Int) (ok := fun (a, x) => a.Tame ∧ -1 ≤ x ∧ x ≤ 4) (v := fun (a, x) => .tuple #[vS a, .int .i64 x]) (hs' := fun _ => []) (xs := [.tmp 15]) (vs := [bv]) rfl rfl rfl rfl Tryd.call37 rfl (fun w1 hw1 => (drawClasses_ok w.heap.size w [] bv L w1 (fun w2 hw2 => Row.own hbv hw2) hL8 (by omega) hw1).mono fun en w' ⟨a, x, h1, h2, h3⟩ => ⟨(a, x), h1, h2, h3⟩) fun ⟨a16, x16⟩ hK => ?_
  dsimp only at hK
  obtain ⟨hta16, hba16⟩ := hK
  have hsa16 := hta16.small
  have loa16 := hta16.lo
  have hia16 := hta16.hi
  show Ll _ _ (Own _ _ []) _ _ ((16, .tuple #[vS a16, i6_ x16]) :: _) _ _ _
  refine Ll.run 1 rfl ?_
  refine Ll.op (v := vS a16) rfl rfl rfl (OpQ.extract rfl rfl rfl) ?_
  refine Ll.op (v := i6_ x16) rfl rfl rfl (OpQ.extract rfl rfl rfl) ?_
  refine Ll.alloc rfl rfl rfl rfl Tryd.zeroValue24 fun p3 hp3 => ?_
  show Ll _ _ (Own _ _ [bk_ p3 #[i6_ 0, str ([]), str ([])] 24]) _ _ ((3, pt_ p3) :: _) _ _ _
  refine Ll.storeBox (cs' := #[i6_ a16.n, str a16.set, str a16.rel]) (hs' := [bk_ p3 #[i6_ a16.n, str a16.set, str a16.rel] 24]) 0 rfl rfl rfl rfl rfl (by kernel_rfl : _ = some Tryd.t24) rfl rfl rfl rfl rfl ?_
  refine Ll.run 1 rfl ?_
  refine Ll.nil ?_
  refine Kt.sel [3, 4] [_, _] rfl ?_
  refine Wk.seq ?_
  refine Wk.region ?_
  refine Ll.op rfl rfl rfl (OpQ.loadBox (cs := #[i6_ a16.n, str a16.set, str a16.rel]) 0 rfl Tryd.isAgg24 rfl rfl Tryd.sizeOf24) ?_
  refine Ll.run 1 rfl ?_
  refine Ll.callBack (ok := fun ((v, new) : Value × List (Nat × Obj)) => ∀ w1, Own w.heap.size w new w1 → Ints w1 v (clsL a16 x16)) (v := fun ((v, new) : Value × List (Nat × Obj)) => v) (new := fun ((v, new) : Value × List (Nat × Obj)) => new) (hs := []) (xs := [.tmp 19, .tmp 20]) (vs := [vS a16, i6_ x16]) ([bk_ p3 #[i6_ a16.n, str a16.set, str a16.rel] 24] : List (Nat × Obj)) rfl rfl rfl rfl Tryd.call38 rfl (fun w1 hw1 => (iCls_all a16 x16 w.heap.size w (([bk_ p3 #[i6_ a16.n, str a16.set, str a16.rel] 24] : List (Nat × Obj)) ++ ([])) w1 hsa16 hw1).mono fun en w' ⟨v, new, h1, h2, h3⟩ => ⟨(v, new), h1, h2, h3⟩) fun ⟨v21, new21⟩ hIv21 => ?_
  dsimp only at hIv21
  have hlev21 : (clsL a16 x16).length ≤ 8 := clsL_le _ _
  show Ll _ _ (Own _ _ (_ :: (new21 ++ ([])))) _ _ ((21, v21) :: _) _ _ _
  refine Ll.run 1 rfl ?_
  refine Ll.nil ?_
  refine Kt.sel [3, 4, 5] [_, _, _] rfl ?_
  refine Wk.seq ?_
  refine Wk.seq ?_
  refine Wk.region ?_
  refine Ll.run 1 rfl ?_
  refine Ll.op rfl rfl rfl (OpQ.loadBox (cs := #[i6_ a16.n, str a16.set, str a16.rel]) 0 rfl Tryd.isAgg24 rfl rfl Tryd.sizeOf24) ?_
  refine Ll.run 1 rfl ?_
  refine Ll.callBack (ok := fun ((v, new) : Value × List (Nat × Obj)) => ∀ w1, Own w.heap.size w new w1 → Ints w1 v (clsL a16 x16)) (v := fun ((v, new) : Value × List (Nat × Obj)) => v) (new := fun ((v, new) : Value × List (Nat × Obj)) => new) (hs := new21 ++ ([])) (xs := [.tmp 23, .tmp 24]) (vs := [vS a16, i6_ x16]) ([bk_ p3 #[i6_ a16.n, str a16.set, str a16.rel] 24] : List (Nat × Obj)) rfl rfl rfl rfl Tryd.call39 rfl (fun w1 hw1 => (sCls_all a16 x16 w.heap.size w (([bk_ p3 #[i6_ a16.n, str a16.set, str a16.rel] 24] : List (Nat × Obj)) ++ (new21 ++ ([]))) w1 hsa16 hw1).mono fun en w' ⟨v, new, h1, h2, h3⟩ => ⟨(v, new), h1, h2, h3⟩) fun ⟨v25, new25⟩ hIv25 => ?_
  dsimp only at hIv25
  have hlev25 : (clsL a16 x16).length ≤ 8 := clsL_le _ _
  show Ll _ _ (Own _ _ (_ :: (new25 ++ (new21 ++ ([]))))) _ _ ((25, v25) :: _) _ _ _
  refine Ll.op (v := bo_ (((clsL a16 x16)) == ((clsL a16 x16)))) rfl rfl rfl (OpQ.call rfl Tryd.call22 rfl Own.stable (fun w1 hw1 => gsSame_ok v21 v25 ((clsL a16 x16)) ((clsL a16 x16)) w1 (hIv21 _ (Own.dropR (Own.drop (f := new25) (Own.drop (f := [_]) hw1)))) (hIv25 _ (Own.dropR (Own.drop (f := [_]) hw1))) (by omega) (by omega))) ?_
  refine Ll.run 2 rfl ?_
  refine Ll.bool fun b28 hg28 => ?_
  cases b28
  ·
   replace hg28 := not_false hg28
   refine Ll.run 1 rfl ?_
   refine Ll.op (v := i6_ (((clsL a16 x16).length : Int))) rfl rfl rfl (OpQ.lenRow rfl Tryd.runUnderlying25 rfl (ints_length _) (fun w1 hw1 => hIv21 _ (Own.dropR (Own.drop (f := new25) (Own.drop (f := [_]) hw1))))) ?_
   refine Ll.run 2 rfl ?_
   refine Ll.nil ?_
   refine Kt.sel [3, 4, 5, 32] [_, _, _, _] rfl ?_
   refine Wk.cond (b := decide ((((clsL a16 x16).length : Int)) = (0 : Int))) rfl (fun h32 => ?_) (fun h32 => ?_)
   ·
    replace h32 := of_decide_eq_true h32
    refine Wk.seq ?_
    refine Wk.region ?_
    refine Ll.run 1 rfl ?_
    refine Ll.op rfl rfl rfl (OpQ.loadBox (cs := #[i6_ a16.n, str a16.set, str a16.rel]) 0 rfl Tryd.isAgg24 rfl rfl Tryd.sizeOf24) ?_
    refine Ll.run 1 rfl ?_
    refine Ll.callBack (ok := fun ((v, new) : Value × List (Nat × Obj)) => ∀ w1, Own w.heap.size w new w1 → Ints w1 v (clsL a16 x16)) (v := fun ((v, new) : Value × List (Nat × Obj)) => v) (new := fun ((v, new) : Value × List (Nat × Obj)) => new) (hs := new25 ++ (new21 ++ ([]))) (xs := [.tmp 34, .tmp 35]) (vs := [vS a16, i6_ x16]) ([bk_ p3 #[i6_ a16.n, str a16.set, str a16.rel] 24] : List (Nat × Obj)) rfl rfl rfl rfl Tryd.call39 rfl (fun w1 hw1 => (sCls_all a16 x16 w.heap.size w (([bk_ p3 #[i6_ a16.n, str a16.set, str a16.rel] 24] : List (Nat × Obj)) ++ (new25 ++ (new21 ++ ([])))) w1 hsa16 hw1).mono fun en w' ⟨v, new, h1, h2, h3⟩ => ⟨(v, new), h1, h2, h3⟩) fun ⟨v36, new36⟩ hIv36 => ?_
    dsimp only at hIv36
    have hlev36 : (clsL a16 x16).length ≤ 8 := clsL_le _ _
    show Ll _ _ (Own _ _ (_ :: (new36 ++ (new25 ++ (new21 ++ ([])))))) _ _ ((36, v36) :: _) _ _ _
    refine Ll.op (v := bo_ (((clsL a16 x16)) == ((clsL a16 x16)))) rfl rfl rfl (OpQ.call rfl Tryd.call22 rfl Own.stable (fun w1 hw1 => gsSame_ok v21 v36 ((clsL a16 x16)) ((clsL a16 x16)) w1 (hIv21 _ (Own.dropR (Own.drop (f := new25) (Own.drop (f := new36) (Own.drop (f := [_]) hw1))))) (hIv36 _ (Own.dropR (Own.drop (f := [_]) hw1))) (by omega) (by omega))) ?_
    refine Ll.run 1 rfl ?_
    refine Ll.bool fun b38 hg38 => ?_
    cases b38
    ·
     exact absurd hg38 (by simp)
    ·
     refine Ll.run 1 rfl ?_
     refine Ll.op (v := i6_ (((clsL a16 x16).length : Int))) rfl rfl rfl (OpQ.lenRow rfl Tryd.runUnderlying25 rfl (ints_length _) (fun w1 hw1 => hIv21 _ (Own.dropR (Own.drop (f := new25) (Own.drop (f := new36) (Own.drop (f := [_]) hw1)))))) ?_
     refine Ll.run 2 rfl ?_
     refine Ll.bool fun b42 hg42 => ?_
     cases b42
     ·
      replace hg42 := of_decide_eq_false hg42
      refine Ll.op rfl rfl rfl (OpQ.loadBox (cs := #[i6_ a16.n, str a16.set, str a16.rel]) 0 rfl Tryd.isAgg24 rfl rfl Tryd.sizeOf24) ?_
      refine Ll.op (v := bo_ (validB a16)) rfl rfl rfl (OpQ.call rfl Tryd.call18 rfl Own.stable (fun w1 hw1 => iValid_ok a16 w1 hsa16)) ?_
      refine Ll.run 3 rfl ?_
      refine Ll.bool fun b47 hg47 => ?_
      cases b47
      ·
       replace hg47 := not_false hg47
       refine Ll.run 4 rfl ?_
       refine Ll.bool fun b51 hg51 => ?_
       cases b51
       ·
        replace hg51 := of_decide_eq_false hg51
        refine Ll.run 5 rfl ?_
        refine Ll.nil ?_
        refine Kt.sel [2] [_] rfl ?_
        refine Wk.ret (Kt.end1 rfl rfl fun w' hw => ?_)
        -- ret 1: bo_ (decide ((3 : Int) < x16))
        exact ⟨ret_b (decide_eq_true (clsL_empty (by omega) (by simp_all) (by omega))), hw.below⟩
       ·
        replace hg51 := of_decide_eq_true hg51
        refine Ll.pass rfl rfl rfl ?_
        refine Ll.pass rfl rfl rfl ?_
        refine Ll.run 3 rfl ?_
        refine Ll.nil ?_
        refine Kt.sel [2] [_] rfl ?_
        refine Wk.ret (Kt.end1 rfl rfl fun w' hw => ?_)
        -- ret 2: bo_ true
        exact ⟨ret_b (by first | rfl | (simp_all; done)), hw.below⟩
      ·
       replace hg47 := not_true hg47
       refine Ll.pass rfl rfl rfl ?_
       refine Ll.pass rfl rfl rfl ?_
       refine Ll.run 2 rfl ?_
       refine Ll.pass rfl rfl rfl ?_
       refine Ll.pass rfl rfl rfl ?_
       refine Ll.run 3 rfl ?_
       refine Ll.nil ?_
       refine Kt.sel [2] [_] rfl ?_
       refine Wk.ret (Kt.end1 rfl rfl fun w' hw => ?_)
       -- ret 3: bo_ true
       exact ⟨ret_b (by first | rfl | (simp_all; done)), hw.below⟩
     ·
      replace hg42 := of_decide_eq_true hg42
      refine Ll.pass rfl rfl rfl ?_
      refine Ll.pass rfl rfl rfl ?_
      refine Ll.pass rfl rfl rfl ?_
      refine Ll.run 2 rfl ?_
      refine Ll.pass rfl rfl rfl ?_
      refine Ll.pass rfl rfl rfl ?_
      refine Ll.run 2 rfl ?_
      refine Ll.pass rfl rfl rfl ?_
      refine Ll.pass rfl rfl rfl ?_
      refine Ll.run 3 rfl ?_
      refine Ll.nil ?_
      refine Kt.sel [2] [_] rfl ?_
      refine Wk.ret (Kt.end1 rfl rfl fun w' hw => ?_)
      -- ret 4: bo_ true
      exact ⟨ret_b (by first | rfl | (simp_all; done)), hw.below⟩
   ·
    replace h32 := of_decide_eq_false h32
    obtain ⟨hok, hcl, hce⟩ := clsL_ok h32
    obtain ⟨hv, h0, h3⟩ := clsOk_true hok
    have ha := validB_fine hv
    have hm8 := ha.hi
    have hm1 := ha.lo
    refine Wk.skip ?_
    refine Kt.sel [3, 4, 5] [_, _, _] rfl ?_
    refine Wk.seq ?_
    refine Wk.regionQ ?_
    refine Lq.run 1 rfl ?_
    refine Lq.nil ?_
    refine Kt.sel [3, 4, 5, 6] [_, _, _, _] rfl ?_
    refine Wk.seq ?_
    refine Wk.seq ?_
    refine Wk.regionQ ?_
    refine Lq.run 1 rfl ?_
    refine Lq.nil ?_
    refine Kt.sel [3, 4, 5, 6, 7] [_, _, _, _, _] rfl ?_
    refine Wk.block ?_
    refine Wk.loop (σ := Nat) (fun k => (k : Int) ≤ a16.n) (fun k => [(3, pt_ p3), (4, i6_ x16), (5, v21), (6, i6_ (((clsN (qC a16 x16) k).2 : Int) - 1)), (7, i6_ ((k : Int)))]) (fun k => Own w.heap.size w (bk_ p3 #[i6_ a16.n, str a16.set, str a16.rel] 24 :: (new25 ++ (new21 ++ ([]))))) (fun k => (a16.n - k).toNat) (0) (by omega) (Sub.cons rfl (Sub.cons rfl (Sub.cons rfl (Sub.cons (by rfl) (Sub.sel [7] rfl))))) (fun _ h => h) ?_
    rintro k hk
    have hcs := (cls_small (qC a16 x16) k).1
    refine Wk.seq ?_
    refine Wk.seq ?_
    refine Wk.regionQ ?_
    refine Lq.run 1 rfl ?_
    refine Lq.op rfl rfl rfl (OpQ.fieldAddr rfl Tryd.runUnderlying24 rfl Tryd.sizeOf3 rfl rfl) ?_
    refine Lq.op rfl rfl rfl (OpQ.loadOwn 0 rfl Tryd.isAgg3 rfl rfl rfl) ?_
    refine Lq.run 1 rfl ?_
    refine Lq.nil ?_
    refine Kt.sel [3, 4, 5, 6, 7, 59] [_, _, _, _, _, _] rfl ?_
    refine Wk.cond (b := decide (((k : Int)) < a16.n)) rfl (fun h59 => ?_) (fun h59 => ?_)
    ·
     replace h59 := of_decide_eq_true h59
     refine Wk.skip ?_
     refine Kt.sel [3, 4, 5, 6, 7] [_, _, _, _, _] rfl ?_
     refine Wk.seq ?_
     refine Wk.block ?_
     refine Wk.seq ?_
     refine Wk.seq ?_
     refine Wk.regionQ ?_
     refine Lq.run 2 rfl ?_
     refine Lq.op (v := .pointer (some (sAt v21 ((k : Int))))) rfl rfl rfl (OpQ.atRow rfl Tryd.runUnderlying25 Tryd.sizeOf3 rfl rfl (by omega) (by rw [ints_length]; omega) (fun w1 hw1 => hIv21 _ (Own.dropR (Own.drop (f := new25) (Own.drop (f := [_]) hw1))))) ?_
     refine Lq.op (v := i6_ ((clsL a16 x16).getD (((k : Int)).toNat) 0)) rfl rfl rfl (OpQ.load1 rfl Tryd.isAgg3 rfl (fun w1 hw1 => Ints.cell (hIv21 _ (Own.dropR (Own.drop (f := new25) (Own.drop (f := [_]) hw1)))) (by omega) (by omega))) ?_
     refine Lq.run 1 rfl ?_
     refine Lq.op rfl rfl rfl (OpQ.add rfl rfl rfl (by omega) (by omega)) ?_
     refine Lq.run 1 rfl ?_
     refine Lq.nil ?_
     refine Kt.sel [3, 4, 5, 6, 7, 68] [_, _, _, _, _, _] rfl ?_
     refine Wk.cond (b := decide (((((clsN (qC a16 x16) k).2 : Int) - 1) + (1 : Int)) < ((clsL a16 x16).getD (((k : Int)).toNat) 0))) rfl (fun h68 => ?_) (fun h68 => ?_)
     ·
      replace h68 := of_decide_eq_true h68
      have h9 := (cls_at_max hok (k := k) (by omega)).1
      omega
     ·
      replace h68 := of_decide_eq_false h68
      refine Wk.skip ?_
      refine Kt.sel [3, 4, 5, 6, 7] [_, _, _, _, _] rfl ?_
      refine Wk.seq ?_
      refine Wk.regionQ ?_
      refine Lq.run 3 rfl ?_
      refine Lq.op (v := .pointer (some (sAt v21 ((k : Int))))) rfl rfl rfl (OpQ.atRow rfl Tryd.runUnderlying25 Tryd.sizeOf3 rfl rfl (by omega) (by rw [ints_length]; omega) (fun w1 hw1 => hIv21 _ (Own.dropR (Own.drop (f := new25) (Own.drop (f := [_]) hw1))))) ?_
      refine Lq.op (v := i6_ ((clsL a16 x16).getD (((k : Int)).toNat) 0)) rfl rfl rfl (OpQ.load1 rfl Tryd.isAgg3 rfl (fun w1 hw1 => Ints.cell (hIv21 _ (Own.dropR (Own.drop (f := new25) (Own.drop (f := [_]) hw1)))) (by omega) (by omega))) ?_
      refine Lq.op (v := i6_ (if ((clsL a16 x16).getD (((k : Int)).toNat) 0) > (((clsN (qC a16 x16) k).2 : Int) - 1) then ((clsL a16 x16).getD (((k : Int)).toNat) 0) else (((clsN (qC a16 x16) k).2 : Int) - 1))) rfl rfl rfl (OpQ.maxU rfl rfl rfl) ?_
      refine Lq.run 1 rfl ?_
      refine Lq.nil ?_
      refine Kt.sel [3, 4, 5, 6, 7] [_, _, _, _, _] rfl ?_
      refine Wk.seq ?_
      refine Wk.seq ?_
      refine Wk.regionQ ?_
      refine Lq.run 1 rfl ?_
      refine Lq.nil ?_
      refine Kt.sel [3, 4, 5, 6, 7, 8] [_, _, _, _, _, _] rfl ?_
      refine Wk.block ?_
      refine Wk.loop (σ := Nat) (fun j => j ≤ k) (fun j => [(3, pt_ p3), (4, i6_ x16), (5, v21), (6, i6_ (if ((clsL a16 x16).getD (((k : Int)).toNat) 0) > (((clsN (qC a16 x16) k).2 : Int) - 1) then ((clsL a16 x16).getD (((k : Int)).toNat) 0) else (((clsN (qC a16 x16) k).2 : Int) - 1))), (7, i6_ ((k : Int))), (8, i6_ ((j : Int)))]) (fun j => Own w.heap.size w (bk_ p3 #[i6_ a16.n, str a16.set, str a16.rel] 24 :: (new25 ++ (new21 ++ ([]))))) (fun j => k - j) (0) (by omega) (Sub.sel [3, 4, 5, 6, 7, 8] rfl) (fun _ h => h) ?_
      rintro j hj
      refine Wk.seq ?_
      refine Wk.seq ?_
      refine Wk.regionQ ?_
      refine Lq.run 3 rfl ?_
      refine Lq.nil ?_
      refine Kt.sel [3, 4, 5, 6, 7, 8, 77] [_, _, _, _, _, _, _] rfl ?_
      refine Wk.cond (b := decide (((j : Int)) < ((k : Int)))) rfl (fun h77 => ?_) (fun h77 => ?_)
      ·
       replace h77 := of_decide_eq_true h77
       refine Wk.skip ?_
       refine Kt.sel [3, 4, 5, 6, 7, 8] [_, _, _, _, _, _] rfl ?_
       refine Wk.seq ?_
       refine Wk.block ?_
       refine Wk.seq ?_
       refine Wk.regionV (S := Own w.heap.size w (bk_ p3 #[i6_ a16.n, str a16.set, str a16.rel] 24 :: (new25 ++ (new21 ++ ([]))))) lawFnClasses_o17_2x Base.mixed (fun _ h => h.drawn) (ovOk_at (by kernel_rfl) (by kernel_rfl) (by kernel_rfl) (by kernel_rfl) lawFnClasses_o17_2x_c) ?_
       refine Lv.share (σ := Nat × Nat) lawFnClasses_o17_3x (fun ⟨p91, p94⟩ => True) (fun ⟨p91, p94⟩ => [(3, pt_ p3), (4, i6_ x16), (5, v21), (6, i6_ (if ((clsL a16 x16).getD (((k : Int)).toNat) 0) > (((clsN (qC a16 x16) k).2 : Int) - 1) then ((clsL a16 x16).getD (((k : Int)).toNat) 0) else (((clsN (qC a16 x16) k).2 : Int) - 1))), (7, i6_ ((k : Int))), (8, i6_ ((j : Int))), (97, bo_ ((decide (((clsL a16 x16).getD (((k : Int)).toNat) 0) = ((clsL a16 x16).getD (((j : Int)).toNat) 0))) != (secB a16 ([(k : Int)]) a16 ([(j : Int)]) x16)))]) (fun ⟨p91, p94⟩ => Own w.heap.size w (bk_ p91 #[i6_ ((k : Int))] 3 :: bk_ p94 #[i6_ ((j : Int))] 3 :: bk_ p3 #[i6_ a16.n, str a16.set, str a16.rel] 24 :: (new25 ++ (new21 ++ ([]))))) ?_ fun H17_ => ?_
       ·
        rintro ⟨p91, p94⟩ -
        dsimp only
        refine Lv.nil ?_
        refine Kt.sel [3, 4, 5, 6, 7, 8, 97] [_, _, _, _, _, _, _] rfl ?_
        refine Wk.cond (b := (decide (((clsL a16 x16).getD (((k : Int)).toNat) 0) = ((clsL a16 x16).getD (((j : Int)).toNat) 0))) != (secB a16 ([(k : Int)]) a16 ([(j : Int)]) x16)) rfl (fun h97 => ?_) (fun h97 => ?_)
        ·
         exact absurd h97 (by rw [cls_sec hok (by omega) (by omega)]; simp)
        ·
         refine Wk.skip ?_
         refine Kt.sel [3, 4, 5, 6, 7, 8] [_, _, _, _, _, _] rfl ?_
         refine Wk.regionQ ?_
         refine Lq.run 1 rfl ?_
         refine Lq.op rfl rfl rfl (OpQ.add rfl rfl rfl (by omega) (by omega)) ?_
         refine Lq.run 1 rfl ?_
         refine Lq.nil ?_
         refine Kt.again (j + 1) (by omega) (by omega) (Sub.sel [3, 4, 5, 6, 7, 8] rfl) (fun _ h => h.tail.tail)
       refine Lv.run 2 rfl (fun _ h => h) ?_
       refine Lv.take (v := .pointer (some (sAt v21 ((k : Int))))) rfl rfl rfl rfl rfl (OpQ.atRow rfl Tryd.runUnderlying25 Tryd.sizeOf3 rfl rfl (by omega) (by rw [ints_length]; omega) (fun w1 hw1 => hIv21 _ (Own.dropR (Own.drop (f := new25) (Own.drop (f := [_]) hw1))))) (fun _ h => h) ?_
       refine Lv.take (v := i6_ ((clsL a16 x16).getD (((k : Int)).toNat) 0)) rfl rfl rfl rfl rfl (OpQ.load1 rfl Tryd.isAgg3 rfl (fun w1 hw1 => Ints.cell (hIv21 _ (Own.dropR (Own.drop (f := new25) (Own.drop (f := [_]) hw1)))) (by omega) (by omega))) (fun _ h => h) ?_
       refine Lv.run 2 rfl (fun _ h => h) ?_
       refine Lv.take (v := .pointer (some (sAt v21 ((j : Int))))) rfl rfl rfl rfl rfl (OpQ.atRow rfl Tryd.runUnderlying25 Tryd.sizeOf3 rfl rfl (by omega) (by rw [ints_length]; omega) (fun w1 hw1 => hIv21 _ (Own.dropR (Own.drop (f := new25) (Own.drop (f := [_]) hw1))))) (fun _ h => h) ?_
       refine Lv.take (v := i6_ ((clsL a16 x16).getD (((j : Int)).toNat) 0)) rfl rfl rfl rfl rfl (OpQ.load1 rfl Tryd.isAgg3 rfl (fun w1 hw1 => Ints.cell (hIv21 _ (Own.dropR (Own.drop (f := new25) (Own.drop (f := [_]) hw1)))) (by omega) (by omega))) (fun _ h => h) ?_
       refine Lv.run 1 rfl (fun _ h => h) ?_
       refine Lv.take rfl rfl rfl rfl rfl (OpQ.loadBox (cs := #[i6_ a16.n, str a16.set, str a16.rel]) 0 rfl Tryd.isAgg24 rfl rfl Tryd.sizeOf24) (fun _ h => h) ?_
       refine Lv.run 1 rfl (fun _ h => h) ?_
       refine Lv.take rfl rfl rfl rfl rfl (OpQ.loadBox (cs := #[i6_ a16.n, str a16.set, str a16.rel]) 0 rfl Tryd.isAgg24 rfl rfl Tryd.sizeOf24) (fun _ h => h) ?_
       refine Lv.run 2 rfl (fun _ h => h) ?_
       refine Lv.alt rfl ?_ (Lv.loud rfl ?_)
       ·
        refine Ll.slice (xs := [.tmp 90]) (vs := [i6_ ((k : Int))]) Base.elem25 rfl rfl rfl rfl rfl rfl (by decide) rfl fun p91 hp91 => ?_
        refine Ll.nil (Lv.joint (fun _ h => h.tail) ?_)
        refine Lv.loud rfl ?_
        refine Ll.slice (xs := [.tmp 93]) (vs := [i6_ ((j : Int))]) Base.elem25 rfl rfl rfl rfl rfl rfl (by decide) rfl fun p94 hp94 => ?_
        refine Ll.nil (Lv.joint (fun _ h => h.tail.tail) ?_)
        refine Lv.loud rfl ?_
        refine Ll.op (v := bo_ (secB a16 ([(k : Int)]) a16 ([(j : Int)]) x16)) rfl rfl rfl (OpQ.call rfl Tryd.call26 rfl Own.stable (fun w1 hw1 => iWins_ok a16 a16 ([(k : Int)]) ([(j : Int)]) (sl_ p91 1 1) (sl_ p94 1 1) w1 hsa16 hsa16 (Own.row hw1 (i := 1) rfl (n := 1) (cap := 1) (vs := ints [(k : Int)]) rfl rfl (by decide)) (Own.row hw1 (i := 0) rfl (n := 1) (cap := 1) (vs := ints [(j : Int)]) rfl rfl (by decide)) (by first | (simp; done) | (simp; omega) | omega) (by first | (simp; done) | (simp; omega) | omega) x16)) ?_
        refine Ll.nil (Lv.joint (fun _ h => h.tail.tail) ?_)
        refine Lv.take rfl rfl rfl rfl rfl (OpQ.bne rfl Tryd.runUnderlying4 rfl rfl) (fun _ h => h.tail.tail) ?_
        exact Lv.to (H17_ ⟨p91, p94⟩ trivial) (Sub.sel [3, 4, 5, 6, 7, 8, 97] rfl) (fun _ h => Own.pickT (hs := [_, _]) (hs' := [_, _]) h [1, 0] rfl (by decide))
       ·
        refine Ll.slice (xs := [.tmp 93]) (vs := [i6_ ((j : Int))]) Base.elem25 rfl rfl rfl rfl rfl rfl (by decide) rfl fun p94_1 hp94_1 => ?_
        refine Ll.nil (Lv.joint (fun _ h => h.tail) ?_)
        refine Lv.loud rfl ?_
        refine Ll.slice (xs := [.tmp 90]) (vs := [i6_ ((k : Int))]) Base.elem25 rfl rfl rfl rfl rfl rfl (by decide) rfl fun p91_1 hp91_1 => ?_
        refine Ll.nil (Lv.joint (fun _ h => h.tail.tail) ?_)
        refine Lv.loud rfl ?_
        refine Ll.op (v := bo_ (secB a16 ([(k : Int)]) a16 ([(j : Int)]) x16)) rfl rfl rfl (OpQ.call rfl Tryd.call26 rfl Own.stable (fun w1 hw1 => iWins_ok a16 a16 ([(k : Int)]) ([(j : Int)]) (sl_ p91_1 1 1) (sl_ p94_1 1 1) w1 hsa16 hsa16 (Own.row hw1 (i := 0) rfl (n := 1) (cap := 1) (vs := ints [(k : Int)]) rfl rfl (by decide)) (Own.row hw1 (i := 1) rfl (n := 1) (cap := 1) (vs := ints [(j : Int)]) rfl rfl (by decide)) (by first | (simp; done) | (simp; omega) | omega) (by first | (simp; done) | (simp; omega) | omega) x16)) ?_
        refine Ll.nil (Lv.joint (fun _ h => h.tail.tail) ?_)
        refine Lv.take rfl rfl rfl rfl rfl (OpQ.bne rfl Tryd.runUnderlying4 rfl rfl) (fun _ h => h.tail.tail) ?_
        exact Lv.to (H17_ ⟨p91_1, p94_1⟩ trivial) (Sub.sel [3, 4, 5, 6, 7, 8, 97] rfl) (fun _ h => h)
      ·
       replace h77 := of_decide_eq_false h77
       refine Wk.exit rfl ?_
       refine Kt.sel [3, 4, 5, 6, 7] [_, _, _, _, _] rfl ?_
       refine Wk.seq ?_
       refine Wk.region ?_
       refine Ll.op rfl rfl rfl (OpQ.loadBox (cs := #[i6_ a16.n, str a16.set, str a16.rel]) 0 rfl Tryd.isAgg24 rfl rfl Tryd.sizeOf24) ?_
       refine Ll.run 1 rfl ?_
       refine Ll.callGet (σ := List Int × Nat × Nat × Array Value) (ok := fun (zs, g, c, u) => (u.size = c * 1 ∧ zs.length ≤ c ∧ u.toList.take zs.length = ints zs) ∧ zs.length ≤ 8 ∧ ∀ z ∈ zs, a16.El z ∧ Moved a16 ((k : Int)) z) (v := fun (zs, g, c, u) => .slice (some ⟨g, 0, none⟩) zs.length c) (hs' := fun (zs, g, c, u) => (g, .cells u 3 (0, 0)) :: (bk_ p3 #[i6_ a16.n, str a16.set, str a16.rel] 24 :: (new25 ++ (new21 ++ ([]))))) (xs := [.tmp 98, .tmp 99]) (vs := [vS a16, i6_ ((k : Int))]) rfl rfl rfl rfl Tryd.call40 rfl (fun w1 hw1 => (iOrbit_ok a16 ((k : Int)) w.heap.size w (bk_ p3 #[i6_ a16.n, str a16.set, str a16.rel] 24 :: (new25 ++ (new21 ++ ([])))) w1 hsa16 hv ⟨by omega, by omega⟩ hw1).mono fun en w' ⟨zs, g, c, u, h1, h2, h3⟩ => ⟨(zs, g, c, u), h1, h2, h3⟩) fun ⟨zs100, g100, c100, u100⟩ ⟨⟨hcg100, hlg100, htg100⟩, hz8, hzm⟩ => ?_
       show Ll _ _ (Own _ _ (_ :: _ :: (new25 ++ (new21 ++ ([]))))) _ _ ((100, sl_ g100 zs100.length c100) :: _) _ _ _
       refine Ll.run 1 rfl ?_
       refine Ll.nil ?_
       refine Kt.sel [3, 4, 5, 6, 7, 9] [_, _, _, _, _, _] rfl ?_
       refine Wk.seq ?_
       refine Wk.regionQ ?_
       refine Lq.run 1 rfl ?_
       refine Lq.nil ?_
       refine Kt.sel [3, 4, 5, 6, 7, 9, 10] [_, _, _, _, _, _, _] rfl ?_
       refine Wk.block ?_
       refine Wk.loop (σ := Nat) (fun i => i ≤ zs100.length) (fun i => [(3, pt_ p3), (4, i6_ x16), (5, v21), (6, i6_ (if ((clsL a16 x16).getD (((k : Int)).toNat) 0) > (((clsN (qC a16 x16) k).2 : Int) - 1) then ((clsL a16 x16).getD (((k : Int)).toNat) 0) else (((clsN (qC a16 x16) k).2 : Int) - 1))), (7, i6_ ((k : Int))), (9, sl_ g100 zs100.length c100), (10, i6_ ((i : Int)))]) (fun i => Own w.heap.size w (bk_ g100 u100 3 :: bk_ p3 #[i6_ a16.n, str a16.set, str a16.rel] 24 :: (new25 ++ (new21 ++ ([]))))) (fun i => zs100.length - i) (0) (by omega) (Sub.sel [3, 4, 5, 6, 7, 9, 10] rfl) (fun _ h => h) ?_
       rintro i hi
       refine Wk.seq ?_
       refine Wk.seq ?_
       refine Wk.regionQ ?_
       refine Lq.run 2 rfl ?_
       refine Lq.op rfl rfl rfl (OpQ.lenS rfl Tryd.runUnderlying25 rfl) ?_
       refine Lq.run 1 rfl ?_
       refine Lq.nil ?_
       refine Kt.sel [3, 4, 5, 6, 7, 9, 10, 104] [_, _, _, _, _, _, _, _] rfl ?_
       refine Wk.cond (b := decide (((i : Int)) < ((zs100.length : Int)))) rfl (fun h104 => ?_) (fun h104 => ?_)
       ·
        replace h104 := of_decide_eq_true h104
        have hze : a16.El (zs100.getD (0 + ((i : Int)).toNat) 0) ∧ Moved a16 k (zs100.getD (0 + ((i : Int)).toNat) 0) := hzm _ (by rw [Nat.zero_add, Int.toNat_natCast, getD_at (by omega)]; exact List.getElem_mem _)
        obtain ⟨⟨hz0, hz1⟩, hzv⟩ := hze
        refine Wk.skip ?_
        refine Kt.sel [3, 4, 5, 6, 7, 9, 10] [_, _, _, _, _, _, _] rfl ?_
        refine Wk.seq ?_
        refine Wk.block ?_
        refine Wk.seq ?_
        refine Wk.regionD Base.mixed (fun _ h => h.drawn) (by kernel_rfl) ?_
        refine Lq.run 3 rfl ?_
        refine Lq.op (v := pf_ g100 (0 + ((i : Int)).toNat)) rfl rfl rfl (OpQ.indexAddr1 rfl Tryd.runUnderlying25 Tryd.sizeOf3 rfl rfl (by omega) (by omega)) ?_
        refine Lq.op (v := i6_ (zs100.getD (0 + ((i : Int)).toNat) 0)) rfl rfl rfl (OpQ.loadAt 0 rfl Tryd.isAgg3 rfl rfl (cur_at htg100 (by rw [Nat.zero_add]; exact ints_at2 (by omega)))) ?_
        refine Lq.op (v := .pointer (some (sAt v21 (zs100.getD (0 + ((i : Int)).toNat) 0)))) rfl rfl rfl (OpQ.atRow rfl Tryd.runUnderlying25 Tryd.sizeOf3 rfl rfl (by omega) (by rw [ints_length]; omega) (fun w1 hw1 => hIv21 _ (Own.dropR (Own.drop (f := new25) (Own.drop (f := [_, _]) hw1))))) ?_
        refine Lq.op (v := i6_ ((clsL a16 x16).getD ((zs100.getD (0 + ((i : Int)).toNat) 0).toNat) 0)) rfl rfl rfl (OpQ.load1 rfl Tryd.isAgg3 rfl (fun w1 hw1 => Ints.cell (hIv21 _ (Own.dropR (Own.drop (f := new25) (Own.drop (f := [_, _]) hw1)))) (by omega) (by omega))) ?_
        refine Lq.run 2 rfl ?_
        refine Lq.op (v := .pointer (some (sAt v21 ((k : Int))))) rfl rfl rfl (OpQ.atRow rfl Tryd.runUnderlying25 Tryd.sizeOf3 rfl rfl (by omega) (by rw [ints_length]; omega) (fun w1 hw1 => hIv21 _ (Own.dropR (Own.drop (f := new25) (Own.drop (f := [_, _]) hw1))))) ?_
        refine Lq.op (v := i6_ ((clsL a16 x16).getD (((k : Int)).toNat) 0)) rfl rfl rfl (OpQ.load1 rfl Tryd.isAgg3 rfl (fun w1 hw1 => Ints.cell (hIv21 _ (Own.dropR (Own.drop (f := new25) (Own.drop (f := [_, _]) hw1)))) (by omega) (by omega))) ?_
        refine Lq.run 1 rfl ?_
        refine Lq.nil ?_
        refine Kt.sel [3, 4, 5, 6, 7, 9, 10, 118] [_, _, _, _, _, _, _, _] rfl ?_
        refine Wk.cond (b := !(decide (((clsL a16 x16).getD ((zs100.getD (0 + ((i : Int)).toNat) 0).toNat) 0) = ((clsL a16 x16).getD (((k : Int)).toNat) 0)))) rfl (fun h118 => ?_) (fun h118 => ?_)
        ·
         replace h118 := not_true h118
         replace h118 := of_decide_eq_false h118
         exact absurd (cls_moved hok (by omega) ⟨hz0, hz1⟩ hzv) h118
        ·
         replace h118 := not_false h118
         replace h118 := of_decide_eq_true h118
         refine Wk.skip ?_
         refine Kt.sel [3, 4, 5, 6, 7, 9, 10] [_, _, _, _, _, _, _] rfl ?_
         refine Wk.regionQ ?_
         refine Lq.run 1 rfl ?_
         refine Lq.op rfl rfl rfl (OpQ.add rfl rfl rfl (by omega) (by omega)) ?_
         refine Lq.run 1 rfl ?_
         refine Lq.nil ?_
         refine Kt.again (i + 1) (by omega) (by omega) (Sub.sel [3, 4, 5, 6, 7, 9, 10] rfl) (fun _ h => h)
       ·
        replace h104 := of_decide_eq_false h104
        refine Wk.exit rfl ?_
        refine Kt.sel [3, 4, 5, 6, 7] [_, _, _, _, _] rfl ?_
        refine Wk.regionQ ?_
        refine Lq.run 1 rfl ?_
        refine Lq.op rfl rfl rfl (OpQ.add rfl rfl rfl (by omega) (by omega)) ?_
        refine Lq.run 1 rfl ?_
        refine Lq.nil ?_
        refine Kt.again (k + 1) (by omega) (by omega) (Sub.cons rfl (Sub.cons rfl (Sub.cons rfl (Sub.cons (by rw [(cls_at_max hok (k := k) (by omega)).2]; rfl) (Sub.sel [7] rfl))))) (fun _ h => h.tail)
    ·
     replace h59 := of_decide_eq_false h59
     have hkn : k = a16.n.toNat := by omega
     refine Wk.exit rfl ?_
     refine Kt.sel [3, 4, 6] [_, _, _] rfl ?_
     refine Wk.seq ?_
     refine Wk.regionQ ?_
     refine Lq.run 3 rfl ?_
     refine Lq.bool fun b121 hg121 => ?_
     cases b121
     ·
      replace hg121 := of_decide_eq_false hg121
      refine Lq.op rfl rfl rfl (OpQ.loadBox (cs := #[i6_ a16.n, str a16.set, str a16.rel]) 0 rfl Tryd.isAgg24 rfl rfl Tryd.sizeOf24) ?_
      refine Lq.run 1 rfl ?_
      refine Lq.op (v := i6_ (countC a16 1 x16)) rfl rfl rfl (OpQ.call rfl Tryd.call35 rfl Own.stable (fun w1 hw1 => iCount_ok a16 1 x16 w1 hsa16)) ?_
      refine Lq.run 1 rfl ?_
      refine Lq.op rfl rfl rfl (OpQ.add rfl rfl rfl (by omega) (by omega)) ?_
      refine Lq.run 3 rfl ?_
      refine Lq.nil ?_
      refine Kt.sel [2] [_] rfl ?_
      refine Wk.ret (Kt.end1 rfl rfl fun w' hw => ?_)
      -- ret 5: bo_ (decide ((countC a16 1 x16) = ((((clsN (qC a16 x16) k).2 : Int) - 1) + (1 : Int))))
      exact ⟨ret_b (decide_eq_true (by rw [cls_count hok (by assumption), ← hkn]; omega)), hw.below⟩
     ·
      replace hg121 := of_decide_eq_true hg121
      refine Lq.pass rfl rfl rfl ?_
      refine Lq.pass rfl rfl rfl ?_
      refine Lq.pass rfl rfl rfl ?_
      refine Lq.pass rfl rfl rfl ?_
      refine Lq.pass rfl rfl rfl ?_
      refine Lq.pass rfl rfl rfl ?_
      refine Lq.run 2 rfl ?_
      refine Lq.nil ?_
      refine Kt.sel [2] [_] rfl ?_
      refine Wk.ret (Kt.end1 rfl rfl fun w' hw => ?_)
      -- ret 6: bo_ true
      exact ⟨ret_b (by first | rfl | (simp_all; done)), hw.below⟩
  ·
   replace hg28 := not_true hg28
   exact absurd hg28 (by simp)

end Go.Proofs.YtmannilblelfjaaDoor
