/-
  Walks: the law of classes counted.
-/
import Derived.Test.YtmannilblelfjaaDoorAltM
import Derived.Test.YtmannilblelfjaaDoorCountsM
import Derived.Test.YtmannilblelfjaaDoorDrawsG
import Derived.Test.YtmannilblelfjaaDoorBase
namespace Go.Proofs.YtmannilblelfjaaDoor
open Go.RowKit Go.Wk
set_option linter.unusedSimpArgs false

set_option maxHeartbeats 400000 in
/-- laws.FnCountClasses -/
theorem lawFnCounts (bv : Value) (L : List Int) (w : World) (hbv : Row w bv (u8s L)) (hL8 : Bytes8 L) (hLm : L.length ≤ 9223372036854775807) :
    Calls Tryd.prog 8 [bv].toArray w fun en w' => en = .returned (.bool true) ∧ Below w.heap.size w w' := by
 refine fnStart (n := 110) (e := [(0, bv)]) Tryd.func8 rfl rfl rfl rfl Ends.both ?_
 refine Wk.seq ?_
 refine Wk.regionQ ?_
 refine Lq.run 1 rfl ?_
 refine Lq.nil ?_
 refine Kt.sel [0] [_] rfl ?_
 refine Wk.seq ?_
 refine Wk.seq ?_
 refine Wk.regionQ ?_
 refine Lq.run 1 rfl ?_
 refine Lq.op (v := i6_ ((L.length : Int))) rfl rfl rfl (OpQ.lenRow rfl Tryd.runUnderlying22 rfl (u8s_length _) (fun w1 hw1 => Row.own hbv hw1)) ?_
 refine Lq.run 1 rfl ?_
 refine Lq.nil ?_
 refine Kt.sel [0, 15] [_, _] rfl ?_
 refine Wk.cond (b := decide ((1048576 : Int) < ((L.length : Int)))) rfl (fun h15 => ?_) (fun h15 => ?_)
 ·
  replace h15 := of_decide_eq_true h15
  refine Wk.seq ?_
  refine Wk.regionQ ?_
  refine Lq.run 1 rfl ?_
  refine Lq.nil ?_
  refine Kt.sel [2] [_] rfl ?_
  refine Wk.ret (Kt.end1 rfl rfl fun w' hw => ?_)
  -- ret 0: bo_ true
  exact ⟨ret_b (by first | rfl | (simp_all; done)), hw.below⟩
 ·
  replace h15 := of_decide_eq_false h15
  refine Wk.skip ?_
  refine Kt.sel [0] [_] rfl ?_
  refine Wk.seq ?_
  refine Wk.region ?_
  refine Ll.run 1 rfl ?_
  refine Ll.callGet (σ := St × Int × Int) (ok := fun (a, x, y) => a.Tame ∧ (0 ≤ x ∧ x ≤ 3) ∧ -1 ≤ y ∧ y ≤ 3) (v := fun (a, x, y) => .tuple #[vS a, .int .i64 x, .int .i64 y]) (hs' := fun _ => []) (xs := [.tmp 17]) (vs := [bv]) rfl rfl rfl rfl Tryd.call34 rfl (fun w1 hw1 => (drawCounts_ok w.heap.size w [] bv L w1 (fun w2 hw2 => Row.own hbv hw2) hL8 (by omega) hw1).mono fun en w' ⟨a, x, y, h1, h2, h3⟩ => ⟨(a, x, y), h1, h2, h3⟩) fun ⟨a18, x18, y18⟩ hK => ?_
  dsimp only at hK
  obtain ⟨hta18, hba18⟩ := hK
  have hsa18 := hta18.small
  have loa18 := hta18.lo
  have hia18 := hta18.hi
  show Ll _ _ (Own _ _ []) _ _ ((18, .tuple #[vS a18, i6_ x18, i6_ y18]) :: _) _ _ _
  refine Ll.run 1 rfl ?_
  refine Ll.op (v := vS a18) rfl rfl rfl (OpQ.extract rfl rfl rfl) ?_
  refine Ll.op (v := i6_ x18) rfl rfl rfl (OpQ.extract rfl rfl rfl) ?_
  refine Ll.op (v := i6_ y18) rfl rfl rfl (OpQ.extract rfl rfl rfl) ?_
  refine Ll.alloc rfl rfl rfl rfl Tryd.zeroValue24 fun p3 hp3 => ?_
  show Ll _ _ (Own _ _ [bk_ p3 #[i6_ 0, str ([]), str ([])] 24]) _ _ ((3, pt_ p3) :: _) _ _ _
  refine Ll.storeBox (cs' := #[i6_ a18.n, str a18.set, str a18.rel]) (hs' := [bk_ p3 #[i6_ a18.n, str a18.set, str a18.rel] 24]) 0 rfl rfl rfl rfl rfl (by kernel_rfl : _ = some Tryd.t24) rfl rfl rfl rfl rfl ?_
  refine Ll.run 2 rfl ?_
  refine Ll.nil ?_
  refine Kt.sel [3, 4, 5] [_, _, _] rfl ?_
  refine Wk.seq ?_
  refine Wk.regionQ ?_
  refine Lq.op rfl rfl rfl (OpQ.loadBox (cs := #[i6_ a18.n, str a18.set, str a18.rel]) 0 rfl Tryd.isAgg24 rfl rfl Tryd.sizeOf24) ?_
  refine Lq.run 2 rfl ?_
  refine Lq.op (v := i6_ (countC a18 x18 y18)) rfl rfl rfl (OpQ.call rfl Tryd.call35 rfl Own.stable (fun w1 hw1 => iCount_ok a18 x18 y18 w1 hsa18)) ?_
  refine Lq.run 1 rfl ?_
  refine Lq.nil ?_
  refine Kt.sel [3, 4, 5, 6] [_, _, _, _] rfl ?_
  refine Wk.seq ?_
  refine Wk.seq ?_
  refine Wk.regionQ ?_
  refine Lq.run 1 rfl ?_
  refine Lq.op rfl rfl rfl (OpQ.loadBox (cs := #[i6_ a18.n, str a18.set, str a18.rel]) 0 rfl Tryd.isAgg24 rfl rfl Tryd.sizeOf24) ?_
  refine Lq.run 2 rfl ?_
  refine Lq.op (v := i6_ (countC a18 x18 y18)) rfl rfl rfl (OpQ.call rfl Tryd.call36 rfl Own.stable (fun w1 hw1 => sCount_ok a18 x18 y18 w1 hsa18)) ?_
  refine Lq.run 2 rfl ?_
  refine Lq.bool fun b32 hg32 => ?_
  cases b32
  ·
   replace hg32 := not_false hg32
   replace hg32 := of_decide_eq_true hg32
   refine Lq.run 3 rfl ?_
   refine Lq.nil ?_
   refine Kt.sel [3, 4, 5, 6, 35] [_, _, _, _, _] rfl ?_
   refine Wk.cond (b := decide ((countC a18 x18 y18) < (0 : Int))) rfl (fun h35 => ?_) (fun h35 => ?_)
   ·
    replace h35 := of_decide_eq_true h35
    refine Wk.seq ?_
    refine Wk.regionQ ?_
    refine Lq.run 1 rfl ?_
    refine Lq.op rfl rfl rfl (OpQ.loadBox (cs := #[i6_ a18.n, str a18.set, str a18.rel]) 0 rfl Tryd.isAgg24 rfl rfl Tryd.sizeOf24) ?_
    refine Lq.run 2 rfl ?_
    refine Lq.op (v := i6_ (countC a18 x18 y18)) rfl rfl rfl (OpQ.call rfl Tryd.call36 rfl Own.stable (fun w1 hw1 => sCount_ok a18 x18 y18 w1 hsa18)) ?_
    refine Lq.run 2 rfl ?_
    refine Lq.nil ?_
    refine Kt.sel [2] [_] rfl ?_
    refine Wk.ret (Kt.end1 rfl rfl fun w' hw => ?_)
    -- ret 1: bo_ (decide ((countC a18 x18 y18) = (countC a18 x18 y18)))
    exact ⟨ret_b (by first | rfl | (simp_all; done)), hw.below⟩
   ·
    replace h35 := of_decide_eq_false h35
    obtain ⟨hv, hwd, hrd⟩ := countC_ok h35
    have ha := validB_fine hv
    have hm8 := ha.hi
    have hm1 := ha.lo
    have hall := count_all h35
    have hp8 := pow8 (size := a18.n.toNat) (w := x18.toNat) (by omega) (by omega)
    refine Wk.skip ?_
    refine Kt.sel [3, 4, 5, 6] [_, _, _, _] rfl ?_
    refine Wk.seq ?_
    refine Wk.regionQ ?_
    refine Lq.run 1 rfl ?_
    refine Lq.nil ?_
    refine Kt.sel [3, 4, 5, 6, 7] [_, _, _, _, _] rfl ?_
    refine Wk.seq ?_
    refine Wk.seq ?_
    refine Wk.regionQ ?_
    refine Lq.run 1 rfl ?_
    refine Lq.nil ?_
    refine Kt.sel [3, 4, 5, 6, 7, 8] [_, _, _, _, _, _] rfl ?_
    refine Wk.block ?_
    refine Wk.loop (σ := Nat) (fun k => k ≤ x18.toNat) (fun k => [(3, pt_ p3), (4, i6_ x18), (5, i6_ y18), (6, i6_ (countC a18 x18 y18)), (7, i6_ (((a18.n.toNat ^ k : Nat) : Int))), (8, i6_ ((k : Int)))]) (fun k => Own w.heap.size w [bk_ p3 #[i6_ a18.n, str a18.set, str a18.rel] 24]) (fun k => x18.toNat - k) (0) (by omega) (Sub.cons rfl (Sub.cons rfl (Sub.cons rfl (Sub.cons rfl (Sub.cons (by rfl) (Sub.sel [8] rfl)))))) (fun _ h => h) ?_
    rintro k hk
    have h512 := pow8 (size := a18.n.toNat) (w := k) (by omega) (by omega)
    have hpm := pow_mul_small (n := a18.n.toNat) (k := k) (x := a18.n) (by omega) ha.hi h512
    refine Wk.seq ?_
    refine Wk.seq ?_
    refine Wk.regionQ ?_
    refine Lq.run 3 rfl ?_
    refine Lq.nil ?_
    refine Kt.sel [3, 4, 5, 6, 7, 8, 44] [_, _, _, _, _, _, _] rfl ?_
    refine Wk.cond (b := decide (((k : Int)) < x18)) rfl (fun h44 => ?_) (fun h44 => ?_)
    ·
     replace h44 := of_decide_eq_true h44
     refine Wk.skip ?_
     refine Kt.sel [3, 4, 5, 6, 7, 8] [_, _, _, _, _, _] rfl ?_
     refine Wk.seq ?_
     refine Wk.block ?_
     refine Wk.regionQ ?_
     refine Lq.run 1 rfl ?_
     refine Lq.op rfl rfl rfl (OpQ.fieldAddr rfl Tryd.runUnderlying24 rfl Tryd.sizeOf3 rfl rfl) ?_
     refine Lq.op rfl rfl rfl (OpQ.loadOwn 0 rfl Tryd.isAgg3 rfl rfl rfl) ?_
     refine Lq.op rfl rfl rfl (OpQ.mul rfl rfl rfl (by omega) (by omega)) ?_
     refine Lq.run 1 rfl ?_
     refine Lq.nil ?_
     refine Kt.sel [3, 4, 5, 6, 7, 8] [_, _, _, _, _, _] rfl ?_
     refine Wk.regionQ ?_
     refine Lq.run 1 rfl ?_
     refine Lq.op rfl rfl rfl (OpQ.add rfl rfl rfl (by omega) (by omega)) ?_
     refine Lq.run 1 rfl ?_
     refine Lq.nil ?_
     refine Kt.again (k + 1) (by omega) (by omega) (Sub.cons rfl (Sub.cons rfl (Sub.cons rfl (Sub.cons rfl (Sub.cons (by rw [pow_cast ha.lo]; rfl) (Sub.sel [8] rfl)))))) (fun _ h => h)
    ·
     replace h44 := of_decide_eq_false h44
     have hkx : k = x18.toNat := by omega
     refine Wk.exit rfl ?_
     refine Kt.sel [3, 4, 5, 6, 7] [_, _, _, _, _] rfl ?_
     refine Wk.seq ?_
     refine Wk.region ?_
     refine Ll.op rfl rfl rfl (OpQ.loadBox (cs := #[i6_ a18.n, str a18.set, str a18.rel]) 0 rfl Tryd.isAgg24 rfl rfl Tryd.sizeOf24) ?_
     refine Ll.callSome (ok := fun ((o, y) : St × Bool) => (o.Small ∧ -9223372036854775808 ≤ o.n ∧ o.n ≤ 9223372036854775807) ∧ (validB a18 = true → AltOf a18 o)) (v := fun ((o, y) : St × Bool) => .tuple #[vS o, bo_ y]) (xs := [.tmp 52]) (vs := [vS a18]) rfl rfl rfl rfl Tryd.call32 rfl (fun w1 hw1 => (iOther_ok a18 w1 hsa18).mono fun en w' ⟨o, y, h1, h2, h3⟩ => ⟨(o, y), h1, h2, h3⟩) fun ⟨o53, y53⟩ hS53 => ?_
     show Ll _ _ (Own _ _ [_]) _ _ ((53, .tuple #[vS o53, bo_ y53]) :: _) _ _ _
     obtain ⟨⟨hso53, loo53, hio53⟩, hao53⟩ := hS53
     refine Ll.run 1 rfl ?_
     refine Ll.op (v := vS o53) rfl rfl rfl (OpQ.extract rfl rfl rfl) ?_
     refine Ll.op (v := bo_ y53) rfl rfl rfl (OpQ.extract rfl rfl rfl) ?_
     refine Ll.alloc rfl rfl rfl rfl Tryd.zeroValue24 fun p9 hp9 => ?_
     show Ll _ _ (Own _ _ [bk_ p9 #[i6_ 0, str ([]), str ([])] 24, _]) _ _ ((9, pt_ p9) :: _) _ _ _
     refine Ll.storeBox (cs' := #[i6_ o53.n, str o53.set, str o53.rel]) (hs' := [bk_ p9 #[i6_ o53.n, str o53.set, str o53.rel] 24, _]) 0 rfl rfl rfl rfl rfl (by kernel_rfl : _ = some Tryd.t24) rfl rfl rfl rfl rfl ?_
     refine Ll.run 1 rfl ?_
     refine Ll.nil ?_
     refine Kt.sel [3, 4, 5, 6, 7, 9] [_, _, _, _, _, _] rfl ?_
     refine Wk.seq ?_
     refine Wk.regionQ ?_
     refine Lq.op rfl rfl rfl (OpQ.loadBox (cs := #[i6_ a18.n, str a18.set, str a18.rel]) 1 rfl Tryd.isAgg24 rfl rfl Tryd.sizeOf24) ?_
     refine Lq.run 2 rfl ?_
     refine Lq.op rfl rfl rfl (OpQ.add rfl rfl rfl (by omega) (by omega)) ?_
     refine Lq.op (v := i6_ (countC a18 x18 (y18 + (1 : Int)))) rfl rfl rfl (OpQ.call rfl Tryd.call35 rfl Own.stable (fun w1 hw1 => iCount_ok a18 x18 (y18 + (1 : Int)) w1 hsa18)) ?_
     refine Lq.run 1 rfl ?_
     refine Lq.nil ?_
     refine Kt.sel [3, 4, 5, 6, 7, 9, 11] [_, _, _, _, _, _, _] rfl ?_
     refine Wk.seq ?_
     refine Wk.regionQ ?_
     refine Lq.op rfl rfl rfl (OpQ.loadBox (cs := #[i6_ a18.n, str a18.set, str a18.rel]) 1 rfl Tryd.isAgg24 rfl rfl Tryd.sizeOf24) ?_
     refine Lq.run 1 rfl ?_
     refine Lq.op rfl rfl rfl (OpQ.add rfl rfl rfl (by omega) (by omega)) ?_
     refine Lq.run 1 rfl ?_
     refine Lq.op (v := i6_ (countC a18 (x18 + (1 : Int)) y18)) rfl rfl rfl (OpQ.call rfl Tryd.call35 rfl Own.stable (fun w1 hw1 => iCount_ok a18 (x18 + (1 : Int)) y18 w1 hsa18)) ?_
     refine Lq.run 1 rfl ?_
     refine Lq.nil ?_
     refine Kt.sel [3, 4, 5, 6, 7, 9, 11, 12] [_, _, _, _, _, _, _, _] rfl ?_
     refine Wk.seq ?_
     refine Wk.regionQ ?_
     refine Lq.run 3 rfl ?_
     refine Lq.bool fun b68 hg68 => ?_
     cases b68
     ·
      replace hg68 := of_decide_eq_false hg68
      exact absurd hall.1 hg68
     ·
      replace hg68 := of_decide_eq_true hg68
      refine Lq.run 5 rfl ?_
      refine Lq.bool fun b73 hg73 => ?_
      cases b73
      ·
       replace hg73 := of_decide_eq_false hg73
       exact absurd hall.2 (by rw [← hkx]; exact hg73)
      ·
       replace hg73 := of_decide_eq_true hg73
       refine Lq.op rfl rfl rfl (OpQ.loadBox (cs := #[i6_ o53.n, str o53.set, str o53.rel]) 0 rfl Tryd.isAgg24 rfl rfl Tryd.sizeOf24) ?_
       refine Lq.run 2 rfl ?_
       refine Lq.op (v := i6_ (countC o53 x18 y18)) rfl rfl rfl (OpQ.call rfl Tryd.call35 rfl Own.stable (fun w1 hw1 => iCount_ok o53 x18 y18 w1 hso53)) ?_
       refine Lq.run 4 rfl ?_
       refine Lq.bool fun b81 hg81 => ?_
       cases b81
       ·
        replace hg81 := of_decide_eq_false hg81
        exact absurd (count_alt h35 (hao53 hv)) hg81
       ·
        replace hg81 := of_decide_eq_true hg81
        refine Lq.run 3 rfl ?_
        refine Lq.bool fun b84 hg84 => ?_
        cases b84
        ·
         replace hg84 := of_decide_eq_false hg84
         refine Lq.run 6 rfl ?_
         refine Lq.bool fun b90 hg90 => ?_
         cases b90
         ·
          replace hg90 := of_decide_eq_false hg90
          exact (count_next h35).elim (fun e => by omega) (fun e => absurd e hg90)
         ·
          replace hg90 := of_decide_eq_true hg90
          refine Lq.run 3 rfl ?_
          refine Lq.bool fun b93 hg93 => ?_
          cases b93
          ·
           replace hg93 := of_decide_eq_false hg93
           refine Lq.run 6 rfl ?_
           refine Lq.bool fun b99 hg99 => ?_
           cases b99
           ·
            replace hg99 := of_decide_eq_false hg99
            exact (count_wider h35).elim (fun e => by omega) (fun e => absurd e hg99)
           ·
            replace hg99 := of_decide_eq_true hg99
            refine Lq.run 3 rfl ?_
            refine Lq.bool fun b102 hg102 => ?_
            cases b102
            ·
             replace hg102 := of_decide_eq_false hg102
             refine Lq.run 1 rfl ?_
             refine Lq.op rfl rfl rfl (OpQ.loadBox (cs := #[i6_ a18.n, str a18.set, str a18.rel]) 1 rfl Tryd.isAgg24 rfl rfl Tryd.sizeOf24) ?_
             refine Lq.run 1 rfl ?_
             refine Lq.op (v := i6_ (kindsI a18 x18)) rfl rfl rfl (OpQ.call rfl Tryd.call30 rfl Own.stable (fun w1 hw1 => iKinds_ok a18 x18 w1 hsa18)) ?_
             refine Lq.run 4 rfl ?_
             refine Lq.nil ?_
             refine Kt.sel [2] [_] rfl ?_
             refine Wk.ret (Kt.end1 rfl rfl fun w' hw => ?_)
             -- ret 2: bo_ (decide ((countC a18 x18 y18) = (kindsI a18 x18)))
             exact ⟨ret_b (decide_eq_true (count_zero h35 (by omega))), hw.below⟩
            ·
             replace hg102 := of_decide_eq_true hg102
             refine Lq.pass rfl rfl rfl ?_
             refine Lq.pass rfl rfl rfl ?_
             refine Lq.pass rfl rfl rfl ?_
             refine Lq.pass rfl rfl rfl ?_
             refine Lq.pass rfl rfl rfl ?_
             refine Lq.run 3 rfl ?_
             refine Lq.nil ?_
             refine Kt.sel [2] [_] rfl ?_
             refine Wk.ret (Kt.end1 rfl rfl fun w' hw => ?_)
             -- ret 3: bo_ true
             exact ⟨ret_b (by first | rfl | (simp_all; done)), hw.below⟩
          ·
           replace hg93 := of_decide_eq_true hg93
           refine Lq.pass rfl rfl rfl ?_
           refine Lq.pass rfl rfl rfl ?_
           refine Lq.pass rfl rfl rfl ?_
           refine Lq.run 6 rfl ?_
           refine Lq.bool fun b102 hg102_1 => ?_
           cases b102
           ·
            replace hg102_1 := of_decide_eq_false hg102_1
            refine Lq.run 1 rfl ?_
            refine Lq.op rfl rfl rfl (OpQ.loadBox (cs := #[i6_ a18.n, str a18.set, str a18.rel]) 1 rfl Tryd.isAgg24 rfl rfl Tryd.sizeOf24) ?_
            refine Lq.run 1 rfl ?_
            refine Lq.op (v := i6_ (kindsI a18 x18)) rfl rfl rfl (OpQ.call rfl Tryd.call30 rfl Own.stable (fun w1 hw1 => iKinds_ok a18 x18 w1 hsa18)) ?_
            refine Lq.run 4 rfl ?_
            refine Lq.nil ?_
            refine Kt.sel [2] [_] rfl ?_
            refine Wk.ret (Kt.end1 rfl rfl fun w' hw => ?_)
            -- ret 4: bo_ (decide ((countC a18 x18 y18) = (kindsI a18 x18)))
            exact ⟨ret_b (decide_eq_true (count_zero h35 (by omega))), hw.below⟩
           ·
            replace hg102_1 := of_decide_eq_true hg102_1
            refine Lq.pass rfl rfl rfl ?_
            refine Lq.pass rfl rfl rfl ?_
            refine Lq.pass rfl rfl rfl ?_
            refine Lq.pass rfl rfl rfl ?_
            refine Lq.pass rfl rfl rfl ?_
            refine Lq.run 3 rfl ?_
            refine Lq.nil ?_
            refine Kt.sel [2] [_] rfl ?_
            refine Wk.ret (Kt.end1 rfl rfl fun w' hw => ?_)
            -- ret 5: bo_ true
            exact ⟨ret_b (by first | rfl | (simp_all; done)), hw.below⟩
        ·
         replace hg84 := of_decide_eq_true hg84
         refine Lq.pass rfl rfl rfl ?_
         refine Lq.pass rfl rfl rfl ?_
         refine Lq.pass rfl rfl rfl ?_
         refine Lq.run 6 rfl ?_
         refine Lq.bool fun b93 hg93_1 => ?_
         cases b93
         ·
          replace hg93_1 := of_decide_eq_false hg93_1
          refine Lq.run 6 rfl ?_
          refine Lq.bool fun b99 hg99_1 => ?_
          cases b99
          ·
           replace hg99_1 := of_decide_eq_false hg99_1
           exact (count_wider h35).elim (fun e => by omega) (fun e => absurd e hg99_1)
          ·
           replace hg99_1 := of_decide_eq_true hg99_1
           refine Lq.run 3 rfl ?_
           refine Lq.bool fun b102 hg102_2 => ?_
           cases b102
           ·
            replace hg102_2 := of_decide_eq_false hg102_2
            refine Lq.run 1 rfl ?_
            refine Lq.op rfl rfl rfl (OpQ.loadBox (cs := #[i6_ a18.n, str a18.set, str a18.rel]) 1 rfl Tryd.isAgg24 rfl rfl Tryd.sizeOf24) ?_
            refine Lq.run 1 rfl ?_
            refine Lq.op (v := i6_ (kindsI a18 x18)) rfl rfl rfl (OpQ.call rfl Tryd.call30 rfl Own.stable (fun w1 hw1 => iKinds_ok a18 x18 w1 hsa18)) ?_
            refine Lq.run 4 rfl ?_
            refine Lq.nil ?_
            refine Kt.sel [2] [_] rfl ?_
            refine Wk.ret (Kt.end1 rfl rfl fun w' hw => ?_)
            -- ret 6: bo_ (decide ((countC a18 x18 y18) = (kindsI a18 x18)))
            exact ⟨ret_b (decide_eq_true (count_zero h35 (by omega))), hw.below⟩
           ·
            replace hg102_2 := of_decide_eq_true hg102_2
            refine Lq.pass rfl rfl rfl ?_
            refine Lq.pass rfl rfl rfl ?_
            refine Lq.pass rfl rfl rfl ?_
            refine Lq.pass rfl rfl rfl ?_
            refine Lq.pass rfl rfl rfl ?_
            refine Lq.run 3 rfl ?_
            refine Lq.nil ?_
            refine Kt.sel [2] [_] rfl ?_
            refine Wk.ret (Kt.end1 rfl rfl fun w' hw => ?_)
            -- ret 7: bo_ true
            exact ⟨ret_b (by first | rfl | (simp_all; done)), hw.below⟩
         ·
          replace hg93_1 := of_decide_eq_true hg93_1
          refine Lq.pass rfl rfl rfl ?_
          refine Lq.pass rfl rfl rfl ?_
          refine Lq.pass rfl rfl rfl ?_
          refine Lq.run 6 rfl ?_
          refine Lq.bool fun b102 hg102_3 => ?_
          cases b102
          ·
           replace hg102_3 := of_decide_eq_false hg102_3
           refine Lq.run 1 rfl ?_
           refine Lq.op rfl rfl rfl (OpQ.loadBox (cs := #[i6_ a18.n, str a18.set, str a18.rel]) 1 rfl Tryd.isAgg24 rfl rfl Tryd.sizeOf24) ?_
           refine Lq.run 1 rfl ?_
           refine Lq.op (v := i6_ (kindsI a18 x18)) rfl rfl rfl (OpQ.call rfl Tryd.call30 rfl Own.stable (fun w1 hw1 => iKinds_ok a18 x18 w1 hsa18)) ?_
           refine Lq.run 4 rfl ?_
           refine Lq.nil ?_
           refine Kt.sel [2] [_] rfl ?_
           refine Wk.ret (Kt.end1 rfl rfl fun w' hw => ?_)
           -- ret 8: bo_ (decide ((countC a18 x18 y18) = (kindsI a18 x18)))
           exact ⟨ret_b (decide_eq_true (count_zero h35 (by omega))), hw.below⟩
          ·
           replace hg102_3 := of_decide_eq_true hg102_3
           refine Lq.pass rfl rfl rfl ?_
           refine Lq.pass rfl rfl rfl ?_
           refine Lq.pass rfl rfl rfl ?_
           refine Lq.pass rfl rfl rfl ?_
           refine Lq.pass rfl rfl rfl ?_
           refine Lq.run 3 rfl ?_
           refine Lq.nil ?_
           refine Kt.sel [2] [_] rfl ?_
           refine Wk.ret (Kt.end1 rfl rfl fun w' hw => ?_)
           -- ret 9: bo_ true
           exact ⟨ret_b (by first | rfl | (simp_all; done)), hw.below⟩
  ·
   replace hg32 := not_true hg32
   replace hg32 := of_decide_eq_false hg32
   exact absurd rfl hg32

end Go.Proofs.YtmannilblelfjaaDoor
