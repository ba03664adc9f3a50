/-
  Walks: the law of ways counted.
-/
import Derived.Test.YtmannilblelfjaaDoorAltM
import Derived.Test.YtmannilblelfjaaDoorKindsM
import Derived.Test.YtmannilblelfjaaDoorDrawsG
import Derived.Test.YtmannilblelfjaaDoorBase
namespace Go.Proofs.YtmannilblelfjaaDoor
open Go.RowKit Go.Wk
set_option linter.unusedSimpArgs false

set_option maxHeartbeats 400000 in
/-- laws.FnCountKinds -/
theorem lawFnKinds (bv : Value) (L : List Int) (w : World) (hbv : Row w bv (u8s L)) (hL8 : Bytes8 L) (hLm : L.length ≤ 9223372036854775807) :
    Calls Tryd.prog 7 [bv].toArray w fun en w' => en = .returned (.bool true) ∧ Below w.heap.size w w' := by
 refine fnStart (n := 97) (e := [(0, bv)]) Tryd.func7 rfl rfl rfl rfl Ends.both ?_
 refine Wk.seq ?_
 refine Wk.regionQ ?_
 refine Lq.run 1 rfl ?_
 refine Lq.nil ?_
 refine Kt.sel [0] [_] rfl ?_
 refine Wk.seq ?_
 refine Wk.seq ?_
 refine Wk.regionQ ?_
 refine Lq.run 1 rfl ?_
 refine Lq.op (v := i6_ ((L.length : Int))) rfl rfl rfl (OpQ.lenRow rfl Tryd.runUnderlying22 rfl (u8s_length _) (fun w1 hw1 => Row.own hbv hw1)) ?_
 refine Lq.run 1 rfl ?_
 refine Lq.nil ?_
 refine Kt.sel [0, 15] [_, _] rfl ?_
 refine Wk.cond (b := decide ((1048576 : Int) < ((L.length : Int)))) rfl (fun h15 => ?_) (fun h15 => ?_)
 ·
  replace h15 := of_decide_eq_true h15
  refine Wk.seq ?_
  refine Wk.regionQ ?_
  refine Lq.run 1 rfl ?_
  refine Lq.nil ?_
  refine Kt.sel [2] [_] rfl ?_
  refine Wk.ret (Kt.end1 rfl rfl fun w' hw => ?_)
  -- ret 0: bo_ true
  exact ⟨ret_b (by first | rfl | (simp_all; done)), hw.below⟩
 ·
  replace h15 := of_decide_eq_false h15
  refine Wk.skip ?_
  refine Kt.sel [0] [_] rfl ?_
  refine Wk.seq ?_
  refine Wk.region ?_
  refine Ll.run 1 rfl ?_
  refine Ll.callGet (σ := St × Int) (ok := fun (a, x) => a.Tame ∧ -1 ≤ x ∧ x ≤ 4) (v := fun (a, x) => .tuple #[vS a, .int .i64 x]) (hs' := fun _ => []) (xs := [.tmp 17]) (vs := [bv]) rfl rfl rfl rfl Tryd.call29 rfl (fun w1 hw1 => (drawKinds_ok w.heap.size w [] bv L w1 (fun w2 hw2 => Row.own hbv hw2) hL8 (by omega) hw1).mono fun en w' ⟨a, x, h1, h2, h3⟩ => ⟨(a, x), h1, h2, h3⟩) fun ⟨a18, x18⟩ hK => ?_
  dsimp only at hK
  obtain ⟨hta18, hba18⟩ := hK
  have hsa18 := hta18.small
  have loa18 := hta18.lo
  have hia18 := hta18.hi
  show Ll _ _ (Own _ _ []) _ _ ((18, .tuple #[vS a18, i6_ x18]) :: _) _ _ _
  refine Ll.run 1 rfl ?_
  refine Ll.op (v := vS a18) rfl rfl rfl (OpQ.extract rfl rfl rfl) ?_
  refine Ll.op (v := i6_ x18) rfl rfl rfl (OpQ.extract rfl rfl rfl) ?_
  refine Ll.alloc rfl rfl rfl rfl Tryd.zeroValue24 fun p3 hp3 => ?_
  show Ll _ _ (Own _ _ [bk_ p3 #[i6_ 0, str ([]), str ([])] 24]) _ _ ((3, pt_ p3) :: _) _ _ _
  refine Ll.storeBox (cs' := #[i6_ a18.n, str a18.set, str a18.rel]) (hs' := [bk_ p3 #[i6_ a18.n, str a18.set, str a18.rel] 24]) 0 rfl rfl rfl rfl rfl (by kernel_rfl : _ = some Tryd.t24) rfl rfl rfl rfl rfl ?_
  refine Ll.run 1 rfl ?_
  refine Ll.nil ?_
  refine Kt.sel [3, 4] [_, _] rfl ?_
  refine Wk.seq ?_
  refine Wk.regionQ ?_
  refine Lq.op rfl rfl rfl (OpQ.loadBox (cs := #[i6_ a18.n, str a18.set, str a18.rel]) 0 rfl Tryd.isAgg24 rfl rfl Tryd.sizeOf24) ?_
  refine Lq.run 1 rfl ?_
  refine Lq.op (v := i6_ (kindsI a18 x18)) rfl rfl rfl (OpQ.call rfl Tryd.call30 rfl Own.stable (fun w1 hw1 => iKinds_ok a18 x18 w1 hsa18)) ?_
  refine Lq.run 1 rfl ?_
  refine Lq.nil ?_
  refine Kt.sel [3, 4, 5] [_, _, _] rfl ?_
  refine Wk.seq ?_
  refine Wk.seq ?_
  refine Wk.regionQ ?_
  refine Lq.run 1 rfl ?_
  refine Lq.op rfl rfl rfl (OpQ.loadBox (cs := #[i6_ a18.n, str a18.set, str a18.rel]) 0 rfl Tryd.isAgg24 rfl rfl Tryd.sizeOf24) ?_
  refine Lq.run 1 rfl ?_
  refine Lq.op (v := i6_ (kindsI a18 x18)) rfl rfl rfl (OpQ.call rfl Tryd.call31 rfl Own.stable (fun w1 hw1 => sKinds_ok a18 x18 w1 hsa18 loa18 hia18)) ?_
  refine Lq.run 2 rfl ?_
  refine Lq.bool fun b29 hg29 => ?_
  cases b29
  ·
   replace hg29 := not_false hg29
   replace hg29 := of_decide_eq_true hg29
   refine Lq.run 3 rfl ?_
   refine Lq.nil ?_
   refine Kt.sel [3, 4, 5, 32] [_, _, _, _] rfl ?_
   refine Wk.cond (b := decide ((kindsI a18 x18) < (0 : Int))) rfl (fun h32 => ?_) (fun h32 => ?_)
   ·
    replace h32 := of_decide_eq_true h32
    refine Wk.seq ?_
    refine Wk.regionQ ?_
    refine Lq.run 1 rfl ?_
    refine Lq.op rfl rfl rfl (OpQ.loadBox (cs := #[i6_ a18.n, str a18.set, str a18.rel]) 0 rfl Tryd.isAgg24 rfl rfl Tryd.sizeOf24) ?_
    refine Lq.run 1 rfl ?_
    refine Lq.op (v := i6_ (kindsI a18 x18)) rfl rfl rfl (OpQ.call rfl Tryd.call31 rfl Own.stable (fun w1 hw1 => sKinds_ok a18 x18 w1 hsa18 loa18 hia18)) ?_
    refine Lq.run 2 rfl ?_
    refine Lq.nil ?_
    refine Kt.sel [2] [_] rfl ?_
    refine Wk.ret (Kt.end1 rfl rfl fun w' hw => ?_)
    -- ret 1: bo_ (decide ((kindsI a18 x18) = (kindsI a18 x18)))
    exact ⟨ret_b (by first | rfl | (simp_all; done)), hw.below⟩
   ·
    replace h32 := of_decide_eq_false h32
    obtain ⟨hv, h0, h3⟩ := kindsI_ok h32
    have ha := validB_fine hv
    have hm8 := ha.hi
    have hm1 := ha.lo
    have hall := kinds_all h32
    have hp8 := pow8 (size := a18.n.toNat) (w := x18.toNat) (by omega) (by omega)
    refine Wk.skip ?_
    refine Kt.sel [3, 4, 5] [_, _, _] rfl ?_
    refine Wk.seq ?_
    refine Wk.regionQ ?_
    refine Lq.op rfl rfl rfl (OpQ.loadBox (cs := #[i6_ a18.n, str a18.set, str a18.rel]) 0 rfl Tryd.isAgg24 rfl rfl Tryd.sizeOf24) ?_
    refine Lq.run 1 rfl ?_
    refine Lq.op rfl rfl rfl (OpQ.add rfl rfl rfl (by omega) (by omega)) ?_
    refine Lq.op (v := i6_ (kindsI a18 (x18 + (1 : Int)))) rfl rfl rfl (OpQ.call rfl Tryd.call30 rfl Own.stable (fun w1 hw1 => iKinds_ok a18 (x18 + (1 : Int)) w1 hsa18)) ?_
    refine Lq.run 1 rfl ?_
    refine Lq.nil ?_
    refine Kt.sel [3, 4, 5, 6] [_, _, _, _] rfl ?_
    refine Wk.seq ?_
    refine Wk.regionQ ?_
    refine Lq.run 1 rfl ?_
    refine Lq.nil ?_
    refine Kt.sel [3, 4, 5, 6, 7] [_, _, _, _, _] rfl ?_
    refine Wk.seq ?_
    refine Wk.seq ?_
    refine Wk.regionQ ?_
    refine Lq.run 1 rfl ?_
    refine Lq.nil ?_
    refine Kt.sel [3, 4, 5, 6, 7, 8] [_, _, _, _, _, _] rfl ?_
    refine Wk.block ?_
    refine Wk.loop (σ := Nat) (fun k => k ≤ x18.toNat) (fun k => [(3, pt_ p3), (4, i6_ x18), (5, i6_ (kindsI a18 x18)), (6, i6_ (kindsI a18 (x18 + (1 : Int)))), (7, i6_ (((a18.n.toNat ^ k : Nat) : Int))), (8, i6_ ((k : Int)))]) (fun k => Own w.heap.size w [bk_ p3 #[i6_ a18.n, str a18.set, str a18.rel] 24]) (fun k => x18.toNat - k) (0) (by omega) (Sub.cons rfl (Sub.cons rfl (Sub.cons rfl (Sub.cons rfl (Sub.cons (by rfl) (Sub.sel [8] rfl)))))) (fun _ h => h) ?_
    rintro k hk
    have h512 := pow8 (size := a18.n.toNat) (w := k) (by omega) (by omega)
    have hpm := pow_mul_small (n := a18.n.toNat) (k := k) (x := a18.n) (by omega) ha.hi h512
    refine Wk.seq ?_
    refine Wk.seq ?_
    refine Wk.regionQ ?_
    refine Lq.run 3 rfl ?_
    refine Lq.nil ?_
    refine Kt.sel [3, 4, 5, 6, 7, 8, 44] [_, _, _, _, _, _, _] rfl ?_
    refine Wk.cond (b := decide (((k : Int)) < x18)) rfl (fun h44 => ?_) (fun h44 => ?_)
    ·
     replace h44 := of_decide_eq_true h44
     refine Wk.skip ?_
     refine Kt.sel [3, 4, 5, 6, 7, 8] [_, _, _, _, _, _] rfl ?_
     refine Wk.seq ?_
     refine Wk.block ?_
     refine Wk.regionQ ?_
     refine Lq.run 1 rfl ?_
     refine Lq.op rfl rfl rfl (OpQ.fieldAddr rfl Tryd.runUnderlying24 rfl Tryd.sizeOf3 rfl rfl) ?_
     refine Lq.op rfl rfl rfl (OpQ.loadOwn 0 rfl Tryd.isAgg3 rfl rfl rfl) ?_
     refine Lq.op rfl rfl rfl (OpQ.mul rfl rfl rfl (by omega) (by omega)) ?_
     refine Lq.run 1 rfl ?_
     refine Lq.nil ?_
     refine Kt.sel [3, 4, 5, 6, 7, 8] [_, _, _, _, _, _] rfl ?_
     refine Wk.regionQ ?_
     refine Lq.run 1 rfl ?_
     refine Lq.op rfl rfl rfl (OpQ.add rfl rfl rfl (by omega) (by omega)) ?_
     refine Lq.run 1 rfl ?_
     refine Lq.nil ?_
     refine Kt.again (k + 1) (by omega) (by omega) (Sub.cons rfl (Sub.cons rfl (Sub.cons rfl (Sub.cons rfl (Sub.cons (by rw [pow_cast ha.lo]; rfl) (Sub.sel [8] rfl)))))) (fun _ h => h)
    ·
     replace h44 := of_decide_eq_false h44
     have hkx : k = x18.toNat := by omega
     refine Wk.exit rfl ?_
     refine Kt.sel [3, 4, 5, 6, 7] [_, _, _, _, _] rfl ?_
     refine Wk.seq ?_
     refine Wk.region ?_
     refine Ll.op rfl rfl rfl (OpQ.loadBox (cs := #[i6_ a18.n, str a18.set, str a18.rel]) 0 rfl Tryd.isAgg24 rfl rfl Tryd.sizeOf24) ?_
     refine Ll.callSome (ok := fun ((o, y) : St × Bool) => (o.Small ∧ -9223372036854775808 ≤ o.n ∧ o.n ≤ 9223372036854775807) ∧ (validB a18 = true → AltOf a18 o)) (v := fun ((o, y) : St × Bool) => .tuple #[vS o, bo_ y]) (xs := [.tmp 52]) (vs := [vS a18]) rfl rfl rfl rfl Tryd.call32 rfl (fun w1 hw1 => (iOther_ok a18 w1 hsa18).mono fun en w' ⟨o, y, h1, h2, h3⟩ => ⟨(o, y), h1, h2, h3⟩) fun ⟨o53, y53⟩ hS53 => ?_
     show Ll _ _ (Own _ _ [_]) _ _ ((53, .tuple #[vS o53, bo_ y53]) :: _) _ _ _
     obtain ⟨⟨hso53, loo53, hio53⟩, hao53⟩ := hS53
     refine Ll.run 1 rfl ?_
     refine Ll.op (v := vS o53) rfl rfl rfl (OpQ.extract rfl rfl rfl) ?_
     refine Ll.op (v := bo_ y53) rfl rfl rfl (OpQ.extract rfl rfl rfl) ?_
     refine Ll.alloc rfl rfl rfl rfl Tryd.zeroValue24 fun p9 hp9 => ?_
     show Ll _ _ (Own _ _ [bk_ p9 #[i6_ 0, str ([]), str ([])] 24, _]) _ _ ((9, pt_ p9) :: _) _ _ _
     refine Ll.storeBox (cs' := #[i6_ o53.n, str o53.set, str o53.rel]) (hs' := [bk_ p9 #[i6_ o53.n, str o53.set, str o53.rel] 24, _]) 0 rfl rfl rfl rfl rfl (by kernel_rfl : _ = some Tryd.t24) rfl rfl rfl rfl rfl ?_
     refine Ll.run 1 rfl ?_
     refine Ll.nil ?_
     refine Kt.sel [3, 4, 5, 6, 7, 9] [_, _, _, _, _, _] rfl ?_
     refine Wk.seq ?_
     refine Wk.region ?_
     refine Ll.op rfl rfl rfl (OpQ.loadBox (cs := #[i6_ a18.n, str a18.set, str a18.rel]) 1 rfl Tryd.isAgg24 rfl rfl Tryd.sizeOf24) ?_
     refine Ll.callSome (ok := fun ((o, y) : St × Bool) => (o.Small ∧ -9223372036854775808 ≤ o.n ∧ o.n ≤ 9223372036854775807) ∧ (validB a18 = true → AltOf a18 o)) (v := fun ((o, y) : St × Bool) => .tuple #[vS o, bo_ y]) (xs := [.tmp 57]) (vs := [vS a18]) rfl rfl rfl rfl Tryd.call33 rfl (fun w1 hw1 => (iTurn_ok a18 w1 hsa18).mono fun en w' ⟨o, y, h1, h2, h3⟩ => ⟨(o, y), h1, h2, h3⟩) fun ⟨o58, y58⟩ hS58 => ?_
     show Ll _ _ (Own _ _ [_, _]) _ _ ((58, .tuple #[vS o58, bo_ y58]) :: _) _ _ _
     obtain ⟨⟨hso58, loo58, hio58⟩, hao58⟩ := hS58
     refine Ll.run 1 rfl ?_
     refine Ll.op (v := vS o58) rfl rfl rfl (OpQ.extract rfl rfl rfl) ?_
     refine Ll.op (v := bo_ y58) rfl rfl rfl (OpQ.extract rfl rfl rfl) ?_
     refine Ll.alloc rfl rfl rfl rfl Tryd.zeroValue24 fun p11 hp11 => ?_
     show Ll _ _ (Own _ _ [bk_ p11 #[i6_ 0, str ([]), str ([])] 24, _, _]) _ _ ((11, pt_ p11) :: _) _ _ _
     refine Ll.storeBox (cs' := #[i6_ o58.n, str o58.set, str o58.rel]) (hs' := [bk_ p11 #[i6_ o58.n, str o58.set, str o58.rel] 24, _, _]) 0 rfl rfl rfl rfl rfl (by kernel_rfl : _ = some Tryd.t24) rfl rfl rfl rfl rfl ?_
     refine Ll.run 1 rfl ?_
     refine Ll.nil ?_
     refine Kt.sel [4, 5, 6, 7, 9, 11] [_, _, _, _, _, _] rfl ?_
     refine Wk.seq ?_
     refine Wk.regionQ ?_
     refine Lq.run 3 rfl ?_
     refine Lq.bool fun b63 hg63 => ?_
     cases b63
     ·
      replace hg63 := of_decide_eq_false hg63
      exact absurd hall.1 hg63
     ·
      replace hg63 := of_decide_eq_true hg63
      refine Lq.run 5 rfl ?_
      refine Lq.bool fun b68 hg68 => ?_
      cases b68
      ·
       replace hg68 := of_decide_eq_false hg68
       exact absurd hall.2 (by rw [← hkx]; exact hg68)
      ·
       replace hg68 := of_decide_eq_true hg68
       refine Lq.run 3 rfl ?_
       refine Lq.bool fun b71 hg71 => ?_
       cases b71
       ·
        replace hg71 := of_decide_eq_false hg71
        refine Lq.run 4 rfl ?_
        refine Lq.bool fun b75 hg75 => ?_
        cases b75
        ·
         replace hg75 := of_decide_eq_false hg75
         exact (kinds_next h32).elim (fun e => by omega) (fun e => absurd e.1 hg75)
        ·
         replace hg75 := of_decide_eq_true hg75
         refine Lq.run 2 rfl ?_
         refine Lq.op rfl rfl rfl (OpQ.mul rfl rfl rfl (by omega) (by omega)) ?_
         refine Lq.run 5 rfl ?_
         refine Lq.bool fun b83 hg83 => ?_
         cases b83
         ·
          replace hg83 := of_decide_eq_false hg83
          exact (kinds_next h32).elim (fun e => by omega) (fun e => by omega)
         ·
          replace hg83 := of_decide_eq_true hg83
          refine Lq.op rfl rfl rfl (OpQ.loadBox (cs := #[i6_ o53.n, str o53.set, str o53.rel]) 1 rfl Tryd.isAgg24 rfl rfl Tryd.sizeOf24) ?_
          refine Lq.run 1 rfl ?_
          refine Lq.op (v := i6_ (kindsI o53 x18)) rfl rfl rfl (OpQ.call rfl Tryd.call30 rfl Own.stable (fun w1 hw1 => iKinds_ok o53 x18 w1 hso53)) ?_
          refine Lq.run 4 rfl ?_
          refine Lq.bool fun b90 hg90 => ?_
          cases b90
          ·
           replace hg90 := of_decide_eq_false hg90
           exact absurd (kinds_alt h32 (hao53 hv)) hg90
          ·
           replace hg90 := of_decide_eq_true hg90
           refine Lq.op rfl rfl rfl (OpQ.loadBox (cs := #[i6_ o58.n, str o58.set, str o58.rel]) 0 rfl Tryd.isAgg24 rfl rfl Tryd.sizeOf24) ?_
           refine Lq.run 1 rfl ?_
           refine Lq.op (v := i6_ (kindsI o58 x18)) rfl rfl rfl (OpQ.call rfl Tryd.call30 rfl Own.stable (fun w1 hw1 => iKinds_ok o58 x18 w1 hso58)) ?_
           refine Lq.run 4 rfl ?_
           refine Lq.nil ?_
           refine Kt.sel [2] [_] rfl ?_
           refine Wk.ret (Kt.end1 rfl rfl fun w' hw => ?_)
           -- ret 2: bo_ (decide ((kindsI o58 x18) = (kindsI a18 x18)))
           exact ⟨ret_b (decide_eq_true (kinds_alt h32 (hao58 hv))), hw.below⟩
       ·
        replace hg71 := of_decide_eq_true hg71
        refine Lq.pass rfl rfl rfl ?_
        refine Lq.pass rfl rfl rfl ?_
        refine Lq.pass rfl rfl rfl ?_
        refine Lq.pass rfl rfl rfl ?_
        refine Lq.pass rfl rfl rfl ?_
        refine Lq.pass rfl rfl rfl ?_
        refine Lq.pass rfl rfl rfl ?_
        refine Lq.pass rfl rfl rfl ?_
        refine Lq.pass rfl rfl rfl ?_
        refine Lq.run 3 rfl ?_
        refine Lq.op rfl rfl rfl (OpQ.loadBox (cs := #[i6_ o53.n, str o53.set, str o53.rel]) 1 rfl Tryd.isAgg24 rfl rfl Tryd.sizeOf24) ?_
        refine Lq.run 1 rfl ?_
        refine Lq.op (v := i6_ (kindsI o53 x18)) rfl rfl rfl (OpQ.call rfl Tryd.call30 rfl Own.stable (fun w1 hw1 => iKinds_ok o53 x18 w1 hso53)) ?_
        refine Lq.run 4 rfl ?_
        refine Lq.bool fun b90 hg90_1 => ?_
        cases b90
        ·
         replace hg90_1 := of_decide_eq_false hg90_1
         exact absurd (kinds_alt h32 (hao53 hv)) hg90_1
        ·
         replace hg90_1 := of_decide_eq_true hg90_1
         refine Lq.op rfl rfl rfl (OpQ.loadBox (cs := #[i6_ o58.n, str o58.set, str o58.rel]) 0 rfl Tryd.isAgg24 rfl rfl Tryd.sizeOf24) ?_
         refine Lq.run 1 rfl ?_
         refine Lq.op (v := i6_ (kindsI o58 x18)) rfl rfl rfl (OpQ.call rfl Tryd.call30 rfl Own.stable (fun w1 hw1 => iKinds_ok o58 x18 w1 hso58)) ?_
         refine Lq.run 4 rfl ?_
         refine Lq.nil ?_
         refine Kt.sel [2] [_] rfl ?_
         refine Wk.ret (Kt.end1 rfl rfl fun w' hw => ?_)
         -- ret 3: bo_ (decide ((kindsI o58 x18) = (kindsI a18 x18)))
         exact ⟨ret_b (decide_eq_true (kinds_alt h32 (hao58 hv))), hw.below⟩
  ·
   replace hg29 := not_true hg29
   replace hg29 := of_decide_eq_false hg29
   exact absurd rfl hg29

end Go.Proofs.YtmannilblelfjaaDoor
