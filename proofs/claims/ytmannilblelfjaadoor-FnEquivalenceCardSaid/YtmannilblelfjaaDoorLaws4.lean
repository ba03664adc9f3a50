/-
  Walks: the law of an equivalence.
-/
import Derived.Test.YtmannilblelfjaaDoorPlain30
import Derived.Test.YtmannilblelfjaaDoorGamesM
import Derived.Test.YtmannilblelfjaaDoorDrawsD
import Derived.Test.YtmannilblelfjaaDoorBase
namespace Go.Proofs.YtmannilblelfjaaDoor
open Go.RowKit Go.Wk
set_option linter.unusedSimpArgs false

set_option maxHeartbeats 400000 in
/-- laws.FnEquivalence -/
theorem lawFnEquiv (bv cv : Value) (L L2 : List Int) (w : World) (hbv : Row w bv (u8s L)) (hcv : Row w cv (u8s L2)) (hL8 : Bytes8 L) (hL82 : Bytes8 L2) (hLm : L.length ≤ 9223372036854775807) (hLm2 : L2.length ≤ 9223372036854775807) :
    Calls Tryd.prog 6 [bv, cv].toArray w fun en w' => en = .returned (.bool true) ∧ Below w.heap.size w w' := by
 refine fnStart (n := 144) (e := [(0, bv), (1, cv)]) Tryd.func6 rfl rfl rfl rfl Ends.both ?_
 refine Wk.seq ?_
 refine Wk.regionQ ?_
 refine Lq.run 1 rfl ?_
 refine Lq.nil ?_
 refine Kt.sel [0, 1] [_, _] rfl ?_
 refine Wk.seq ?_
 refine Wk.seq ?_
 refine Wk.regionQ ?_
 refine Lq.run 1 rfl ?_
 refine Lq.op rfl rfl rfl (OpQ.lenRow rfl Tryd.runUnderlying22 rfl (u8s_length _) (fun w1 hw1 => Row.own hbv hw1)) ?_
 refine Lq.run 2 rfl ?_
 refine Lq.bool fun b20 hg20 => ?_
 cases b20
 ·
  replace hg20 := of_decide_eq_false hg20
  refine Lq.run 1 rfl ?_
  refine Lq.op rfl rfl rfl (OpQ.lenRow rfl Tryd.runUnderlying22 rfl (u8s_length _) (fun w1 hw1 => Row.own hcv hw1)) ?_
  refine Lq.run 2 rfl ?_
  refine Lq.nil ?_
  refine Kt.sel [0, 1, 24] [_, _, _] rfl ?_
  refine Wk.cond (b := decide ((1048576 : Int) < ((L2.length : Int)))) rfl (fun h24 => ?_) (fun h24 => ?_)
  ·
   replace h24 := of_decide_eq_true h24
   refine Wk.seq ?_
   refine Wk.regionQ ?_
   refine Lq.run 1 rfl ?_
   refine Lq.nil ?_
   refine Kt.sel [4] [_] rfl ?_
   refine Wk.ret (Kt.end1 rfl rfl fun w' hw => ?_)
   -- ret 0: bo_ true
   exact ⟨ret_b (by first | rfl | (simp_all; done)), hw.below⟩
  ·
   replace h24 := of_decide_eq_false h24
   refine Wk.skip ?_
   refine Kt.sel [0, 1] [_, _] rfl ?_
   refine Wk.seq ?_
   refine Wk.region ?_
   refine Ll.run 1 rfl ?_
   refine Ll.callBack (ok := fun ((a, b, v, xs, u, ys, new, r) : St × St × Value × List Int × Value × List Int × List (Nat × Obj) × Int) => ((a.Tame ∧ b.Tame) ∧ (xs.length ≤ 40 ∧ ys.length ≤ 40) ∧ ∀ w1, Own w.heap.size w new w1 → Ints w1 v xs ∧ Ints w1 u ys) ∧ -1 ≤ r ∧ r ≤ 4) (v := fun ((a, b, v, xs, u, ys, new, r) : St × St × Value × List Int × Value × List Int × List (Nat × Obj) × Int) => .tuple #[vS a, v, vS b, u, .int .i64 r]) (new := fun ((a, b, v, xs, u, ys, new, r) : St × St × Value × List Int × Value × List Int × List (Nat × Obj) × Int) => new) (hs := []) (xs := [.tmp 26]) (vs := [bv]) ([] : List (Nat × Obj)) rfl rfl rfl rfl Tryd.call25 rfl (fun w1 hw1 => (drawWins_ok w.heap.size w (([] : List (Nat × Obj)) ++ ([])) bv L w1 (fun w2 hw2 => Row.own hbv hw2) hL8 (by omega) hw1).mono fun en w' ⟨a, b, v, xs, u, ys, new, r, h1, h2, h3⟩ => ⟨(a, b, v, xs, u, ys, new, r), h1, h2, h3⟩) fun ⟨a27, b27, v27, xs27, u27, ys27, new27, r27⟩ hK => ?_
   dsimp only at hK
   obtain ⟨⟨⟨hta27, htb27⟩, ⟨hlxs27, hlys27⟩, hrw⟩, ⟨hlor27, hhir27⟩⟩ := hK
   have hIv27 : ∀ w1, Own w.heap.size w new27 w1 → Ints w1 v27 xs27 := fun w1 h => (hrw w1 h).1
   have hIu27 : ∀ w1, Own w.heap.size w new27 w1 → Ints w1 u27 ys27 := fun w1 h => (hrw w1 h).2
   have hsa27 := hta27.small
   have loa27 := hta27.lo
   have hia27 := hta27.hi
   have hsb27 := htb27.small
   have lob27 := htb27.lo
   have hib27 := htb27.hi
   show Ll _ _ (Own _ _ ((new27 ++ ([])))) _ _ ((27, .tuple #[vS a27, v27, vS b27, u27, i6_ r27]) :: _) _ _ _
   refine Ll.run 1 rfl ?_
   refine Ll.op (v := vS a27) rfl rfl rfl (OpQ.extract rfl rfl rfl) ?_
   refine Ll.op (v := v27) rfl rfl rfl (OpQ.extract rfl rfl rfl) ?_
   refine Ll.op (v := vS b27) rfl rfl rfl (OpQ.extract rfl rfl rfl) ?_
   refine Ll.op (v := u27) rfl rfl rfl (OpQ.extract rfl rfl rfl) ?_
   refine Ll.op (v := i6_ r27) rfl rfl rfl (OpQ.extract rfl rfl rfl) ?_
   refine Ll.alloc rfl rfl rfl rfl Tryd.zeroValue24 fun p5 hp5 => ?_
   show Ll _ _ (Own _ _ (_ :: (new27 ++ ([])))) _ _ ((5, pt_ p5) :: _) _ _ _
   refine Ll.alloc rfl rfl rfl rfl Tryd.zeroValue24 fun p7 hp7 => ?_
   show Ll _ _ (Own _ _ (_ :: _ :: (new27 ++ ([])))) _ _ ((7, pt_ p7) :: _) _ _ _
   refine Ll.storeBox (cs' := #[i6_ a27.n, str a27.set, str a27.rel]) (hs' := (_ :: bk_ p5 #[i6_ a27.n, str a27.set, str a27.rel] 24 :: (new27 ++ ([])))) 1 rfl rfl rfl rfl rfl (by kernel_rfl : _ = some Tryd.t24) rfl rfl rfl rfl rfl ?_
   refine Ll.run 1 rfl ?_
   refine Ll.storeBox (cs' := #[i6_ b27.n, str b27.set, str b27.rel]) (hs' := (bk_ p7 #[i6_ b27.n, str b27.set, str b27.rel] 24 :: _ :: (new27 ++ ([])))) 0 rfl rfl rfl rfl rfl (by kernel_rfl : _ = some Tryd.t24) rfl rfl rfl rfl rfl ?_
   refine Ll.run 2 rfl ?_
   refine Ll.nil ?_
   refine Kt.sel [1, 5, 6, 7, 8, 9] [_, _, _, _, _, _] rfl ?_
   refine Wk.seq ?_
   refine Wk.regionQ ?_
   refine Lq.op rfl rfl rfl (OpQ.loadBox (cs := #[i6_ a27.n, str a27.set, str a27.rel]) 1 rfl Tryd.isAgg24 rfl rfl Tryd.sizeOf24) ?_
   refine Lq.run 1 rfl ?_
   refine Lq.op rfl rfl rfl (OpQ.loadBox (cs := #[i6_ b27.n, str b27.set, str b27.rel]) 0 rfl Tryd.isAgg24 rfl rfl Tryd.sizeOf24) ?_
   refine Lq.run 2 rfl ?_
   refine Lq.op (v := bo_ (secB a27 xs27 b27 ys27 r27)) rfl rfl rfl (OpQ.call rfl Tryd.call26 rfl Own.stable (fun w1 hw1 => iWins_ok a27 b27 xs27 ys27 v27 u27 w1 hsa27 hsb27 (hIv27 _ (Own.dropR (Own.drop (f := [_, _]) hw1))) (hIu27 _ (Own.dropR (Own.drop (f := [_, _]) hw1))) (by first | (simp; done) | (simp; omega) | omega) (by first | (simp; done) | (simp; omega) | omega) r27)) ?_
   refine Lq.run 1 rfl ?_
   refine Lq.nil ?_
   refine Kt.sel [1, 5, 6, 7, 8, 9, 10] [_, _, _, _, _, _, _] rfl ?_
   refine Wk.seq ?_
   refine Wk.seq ?_
   refine Wk.regionQ ?_
   refine Lq.run 1 rfl ?_
   refine Lq.op rfl rfl rfl (OpQ.loadBox (cs := #[i6_ a27.n, str a27.set, str a27.rel]) 1 rfl Tryd.isAgg24 rfl rfl Tryd.sizeOf24) ?_
   refine Lq.run 1 rfl ?_
   refine Lq.op rfl rfl rfl (OpQ.loadBox (cs := #[i6_ b27.n, str b27.set, str b27.rel]) 0 rfl Tryd.isAgg24 rfl rfl Tryd.sizeOf24) ?_
   refine Lq.run 2 rfl ?_
   refine Lq.op (v := bo_ (secB a27 xs27 b27 ys27 r27)) rfl rfl rfl (OpQ.call rfl Tryd.call27 rfl Own.stable (fun w1 hw1 => sWins_ok a27 b27 xs27 ys27 v27 u27 w1 hsa27 hsb27 (hIv27 _ (Own.dropR (Own.drop (f := [_, _]) hw1))) (hIu27 _ (Own.dropR (Own.drop (f := [_, _]) hw1))) (by first | (simp; done) | (simp; omega) | omega) (by first | (simp; done) | (simp; omega) | omega) loa27 hia27 lob27 hib27 r27)) ?_
   refine Lq.op rfl rfl rfl (OpQ.bne rfl Tryd.runUnderlying4 rfl rfl) ?_
   refine Lq.run 1 rfl ?_
   refine Lq.bool fun b47 hg47 => ?_
   cases b47
   ·
    refine Lq.run 4 rfl ?_
    refine Lq.bool fun b51 hg51 => ?_
    cases b51
    ·
     replace hg51 := of_decide_eq_false hg51
     refine Lq.run 4 rfl ?_
     refine Lq.bool fun b55 hg55 => ?_
     cases b55
     ·
      replace hg55 := of_decide_eq_false hg55
      refine Lq.op rfl rfl rfl (OpQ.loadBox (cs := #[i6_ a27.n, str a27.set, str a27.rel]) 1 rfl Tryd.isAgg24 rfl rfl Tryd.sizeOf24) ?_
      refine Lq.run 1 rfl ?_
      refine Lq.op rfl rfl rfl (OpQ.loadBox (cs := #[i6_ b27.n, str b27.set, str b27.rel]) 0 rfl Tryd.isAgg24 rfl rfl Tryd.sizeOf24) ?_
      refine Lq.run 1 rfl ?_
      refine Lq.op (v := i6_ (longI a27 xs27 b27 ys27)) rfl rfl rfl (OpQ.call rfl Tryd.call28 rfl Own.stable (fun w1 hw1 => iLong_ok a27 b27 xs27 ys27 v27 u27 w1 hsa27 hsb27 (hIv27 _ (Own.dropR (Own.drop (f := [_, _]) hw1))) (hIu27 _ (Own.dropR (Own.drop (f := [_, _]) hw1))) (by first | (simp; done) | (simp; omega) | omega) (by first | (simp; done) | (simp; omega) | omega))) ?_
      refine Lq.run 2 rfl ?_
      refine Lq.nil ?_
      refine Kt.sel [1, 5, 6, 7, 8, 9, 10, 62] [_, _, _, _, _, _, _, _] rfl ?_
      refine Wk.cond (b := decide ((longI a27 xs27 b27 ys27) < (0 : Int))) rfl (fun h62 => ?_) (fun h62 => ?_)
      ·
       replace h62 := of_decide_eq_true h62
       refine Wk.seq ?_
       refine Wk.regionQ ?_
       refine Lq.run 1 rfl ?_
       refine Lq.op rfl rfl rfl (OpQ.loadBox (cs := #[i6_ a27.n, str a27.set, str a27.rel]) 1 rfl Tryd.isAgg24 rfl rfl Tryd.sizeOf24) ?_
       refine Lq.run 1 rfl ?_
       refine Lq.op rfl rfl rfl (OpQ.loadBox (cs := #[i6_ b27.n, str b27.set, str b27.rel]) 0 rfl Tryd.isAgg24 rfl rfl Tryd.sizeOf24) ?_
       refine Lq.run 2 rfl ?_
       refine Lq.op (v := bo_ (secB a27 xs27 b27 ys27 r27)) rfl rfl rfl (OpQ.call rfl Tryd.call27 rfl Own.stable (fun w1 hw1 => sWins_ok a27 b27 xs27 ys27 v27 u27 w1 hsa27 hsb27 (hIv27 _ (Own.dropR (Own.drop (f := [_, _]) hw1))) (hIu27 _ (Own.dropR (Own.drop (f := [_, _]) hw1))) (by first | (simp; done) | (simp; omega) | omega) (by first | (simp; done) | (simp; omega) | omega) loa27 hia27 lob27 hib27 r27)) ?_
       refine Lq.op rfl rfl rfl (OpQ.beq rfl Tryd.runUnderlying4 rfl rfl) ?_
       refine Lq.run 1 rfl ?_
       refine Lq.nil ?_
       refine Kt.sel [4] [_] rfl ?_
       refine Wk.ret (Kt.end1 rfl rfl fun w' hw => ?_)
       -- ret 1: bo_ ((secB a27 xs27 b27 ys27 r27) == (secB a27 xs27 b27 ys27 r27))
       exact ⟨ret_b (by first | rfl | (simp_all; done)), hw.below⟩
      ·
       replace h62 := of_decide_eq_false h62
       have hLL := longI_listed h62
       obtain ⟨LA, LB, hlen⟩ := listsB_true hLL
       have ha := LA.fine
       have hb := LB.fine
       have hA := LA.els
       have hB := LB.els
       have hl4 := LA.len
       have hlo1 := ha.lo
       have hlo2 := hb.lo
       have hhi1 := ha.hi
       have hhi2 := hb.hi
       refine Wk.skip ?_
       refine Kt.sel [1, 5, 6, 7, 8, 9, 10] [_, _, _, _, _, _, _] rfl ?_
       refine Wk.seq ?_
       refine Wk.region ?_
       refine Ll.run 1 rfl ?_
       refine Ll.callBack (ok := fun ((a, b, v, xs, u, ys, new, r) : St × St × Value × List Int × Value × List Int × List (Nat × Obj) × Int) => ((a.Tame ∧ b.Tame) ∧ (xs.length ≤ 40 ∧ ys.length ≤ 40) ∧ ∀ w1, Own w.heap.size w new w1 → Ints w1 v xs ∧ Ints w1 u ys) ∧ -1 ≤ r ∧ r ≤ 4) (v := fun ((a, b, v, xs, u, ys, new, r) : St × St × Value × List Int × Value × List Int × List (Nat × Obj) × Int) => .tuple #[vS a, v, vS b, u, .int .i64 r]) (new := fun ((a, b, v, xs, u, ys, new, r) : St × St × Value × List Int × Value × List Int × List (Nat × Obj) × Int) => new) (hs := new27 ++ ([])) (xs := [.tmp 72]) (vs := [cv]) ([bk_ p7 #[i6_ b27.n, str b27.set, str b27.rel] 24, bk_ p5 #[i6_ a27.n, str a27.set, str a27.rel] 24] : List (Nat × Obj)) rfl rfl rfl rfl Tryd.call25 rfl (fun w1 hw1 => (drawWins_ok w.heap.size w (([bk_ p7 #[i6_ b27.n, str b27.set, str b27.rel] 24, bk_ p5 #[i6_ a27.n, str a27.set, str a27.rel] 24] : List (Nat × Obj)) ++ (new27 ++ ([]))) cv L2 w1 (fun w2 hw2 => Row.own hcv hw2) hL82 (by omega) hw1).mono fun en w' ⟨a, b, v, xs, u, ys, new, r, h1, h2, h3⟩ => ⟨(a, b, v, xs, u, ys, new, r), h1, h2, h3⟩) fun ⟨a73, b73, v73, xs73, u73, ys73, new73, r73⟩ hK => ?_
       dsimp only at hK
       obtain ⟨⟨⟨hta73, htb73⟩, ⟨hlxs73, hlys73⟩, hrw⟩, ⟨hlor73, hhir73⟩⟩ := hK
       have hIv73 : ∀ w1, Own w.heap.size w new73 w1 → Ints w1 v73 xs73 := fun w1 h => (hrw w1 h).1
       have hIu73 : ∀ w1, Own w.heap.size w new73 w1 → Ints w1 u73 ys73 := fun w1 h => (hrw w1 h).2
       have hsa73 := hta73.small
       have loa73 := hta73.lo
       have hia73 := hta73.hi
       have hsb73 := htb73.small
       have lob73 := htb73.lo
       have hib73 := htb73.hi
       show Ll _ _ (Own _ _ (_ :: _ :: (new73 ++ (new27 ++ ([]))))) _ _ ((73, .tuple #[vS a73, v73, vS b73, u73, i6_ r73]) :: _) _ _ _
       refine Ll.run 1 rfl ?_
       refine Ll.op (v := vS a73) rfl rfl rfl (OpQ.extract rfl rfl rfl) ?_
       refine Ll.op (v := v73) rfl rfl rfl (OpQ.extract rfl rfl rfl) ?_
       refine Ll.op (v := vS b73) rfl rfl rfl (OpQ.extract rfl rfl rfl) ?_
       refine Ll.op (v := u73) rfl rfl rfl (OpQ.extract rfl rfl rfl) ?_
       refine Ll.op (v := i6_ r73) rfl rfl rfl (OpQ.extract rfl rfl rfl) ?_
       refine Ll.alloc rfl rfl rfl rfl Tryd.zeroValue24 fun p11 hp11 => ?_
       show Ll _ _ (Own _ _ (_ :: _ :: _ :: (new73 ++ (new27 ++ ([]))))) _ _ ((11, pt_ p11) :: _) _ _ _
       refine Ll.alloc rfl rfl rfl rfl Tryd.zeroValue24 fun p13 hp13 => ?_
       show Ll _ _ (Own _ _ (_ :: _ :: _ :: _ :: (new73 ++ (new27 ++ ([]))))) _ _ ((13, pt_ p13) :: _) _ _ _
       refine Ll.storeBox (cs' := #[i6_ a73.n, str a73.set, str a73.rel]) (hs' := (_ :: bk_ p11 #[i6_ a73.n, str a73.set, str a73.rel] 24 :: _ :: _ :: (new73 ++ (new27 ++ ([]))))) 1 rfl rfl rfl rfl rfl (by kernel_rfl : _ = some Tryd.t24) rfl rfl rfl rfl rfl ?_
       refine Ll.run 1 rfl ?_
       refine Ll.storeBox (cs' := #[i6_ b73.n, str b73.set, str b73.rel]) (hs' := (bk_ p13 #[i6_ b73.n, str b73.set, str b73.rel] 24 :: _ :: _ :: _ :: (new73 ++ (new27 ++ ([]))))) 0 rfl rfl rfl rfl rfl (by kernel_rfl : _ = some Tryd.t24) rfl rfl rfl rfl rfl ?_
       refine Ll.run 2 rfl ?_
       refine Ll.nil ?_
       refine Kt.sel [5, 6, 7, 8, 9, 10, 11, 12] [_, _, _, _, _, _, _, _] rfl ?_
       refine Wk.seq ?_
       refine Wk.regionQ ?_
       refine Lq.run 1 rfl ?_
       refine Lq.op rfl rfl rfl (OpQ.lenRow rfl Tryd.runUnderlying25 rfl (ints_length _) (fun w1 hw1 => hIv73 _ (Own.dropR (Own.drop (f := [_, _, _, _]) hw1)))) ?_
       refine Lq.run 1 rfl ?_
       refine Lq.op rfl rfl rfl (OpQ.lenRow rfl Tryd.runUnderlying25 rfl (ints_length _) (fun w1 hw1 => hIv27 _ (Own.dropR (Own.drop (f := new73) (Own.drop (f := [_, _, _, _]) hw1))))) ?_
       refine Lq.run 2 rfl ?_
       refine Lq.bool fun b84 hg84 => ?_
       cases b84
       ·
        replace hg84 := of_decide_eq_false hg84
        refine Lq.pass rfl rfl rfl ?_
        refine Lq.pass rfl rfl rfl ?_
        refine Lq.pass rfl rfl rfl ?_
        refine Lq.pass rfl rfl rfl ?_
        refine Lq.pass rfl rfl rfl ?_
        refine Lq.pass rfl rfl rfl ?_
        refine Lq.run 2 rfl ?_
        refine Lq.nil ?_
        refine Kt.sel [5, 6, 7, 8, 9, 10, 11, 12, 16] [_, _, _, _, _, _, _, _, _] rfl ?_
        refine Wk.seq ?_
        refine Wk.seq ?_
        refine Wk.regionD Base.mixed (fun _ h => h.drawn) (by kernel_rfl) ?_
        refine Lq.run 2 rfl ?_
        refine Lq.pass rfl rfl rfl ?_
        refine Lq.run 2 rfl ?_
        refine Lq.pass rfl rfl rfl ?_
        refine Lq.pass rfl rfl rfl ?_
        refine Lq.pass rfl rfl rfl ?_
        refine Lq.pass rfl rfl rfl ?_
        refine Lq.pass rfl rfl rfl ?_
        refine Lq.pass rfl rfl rfl ?_
        refine Lq.pass rfl rfl rfl ?_
        refine Lq.pass rfl rfl rfl ?_
        refine Lq.pass rfl rfl rfl ?_
        refine Lq.pass rfl rfl rfl ?_
        refine Lq.pass rfl rfl rfl ?_
        refine Lq.pass rfl rfl rfl ?_
        refine Lq.pass rfl rfl rfl ?_
        refine Lq.run 1 rfl ?_
        refine Lq.nil ?_
        refine Kt.sel [5, 6, 7, 8, 9, 10, 110] [_, _, _, _, _, _, _] rfl ?_
        refine Wk.condF rfl ?_
        refine Wk.skip ?_
        refine Kt.sel [5, 6, 7, 8, 9, 10] [_, _, _, _, _, _] rfl ?_
        refine Wk.seq ?_
        refine Wk.regionQ ?_
        refine Lq.op rfl rfl rfl (OpQ.loadBox (cs := #[i6_ a27.n, str a27.set, str a27.rel]) 3 rfl Tryd.isAgg24 rfl rfl Tryd.sizeOf24) ?_
        refine Lq.run 1 rfl ?_
        refine Lq.op rfl rfl rfl (OpQ.loadBox (cs := #[i6_ a27.n, str a27.set, str a27.rel]) 3 rfl Tryd.isAgg24 rfl rfl Tryd.sizeOf24) ?_
        refine Lq.run 2 rfl ?_
        refine Lq.op (v := bo_ (secB a27 xs27 a27 xs27 r27)) rfl rfl rfl (OpQ.call rfl Tryd.call26 rfl Own.stable (fun w1 hw1 => iWins_ok a27 a27 xs27 xs27 v27 v27 w1 hsa27 hsa27 (hIv27 _ (Own.dropR (Own.drop (f := new73) (Own.drop (f := [_, _, _, _]) hw1)))) (hIv27 _ (Own.dropR (Own.drop (f := new73) (Own.drop (f := [_, _, _, _]) hw1)))) (by first | (simp; done) | (simp; omega) | omega) (by first | (simp; done) | (simp; omega) | omega) r27)) ?_
        refine Lq.run 1 rfl ?_
        refine Lq.bool fun b117 hg117 => ?_
        cases b117
        ·
         exact absurd (sec_refl (r := r27) hLL (by omega) (by omega)) (by rw [hg117]; decide)
        ·
         refine Lq.op rfl rfl rfl (OpQ.loadBox (cs := #[i6_ b27.n, str b27.set, str b27.rel]) 2 rfl Tryd.isAgg24 rfl rfl Tryd.sizeOf24) ?_
         refine Lq.run 1 rfl ?_
         refine Lq.op rfl rfl rfl (OpQ.loadBox (cs := #[i6_ a27.n, str a27.set, str a27.rel]) 3 rfl Tryd.isAgg24 rfl rfl Tryd.sizeOf24) ?_
         refine Lq.run 2 rfl ?_
         refine Lq.op (v := bo_ (secB b27 ys27 a27 xs27 r27)) rfl rfl rfl (OpQ.call rfl Tryd.call26 rfl Own.stable (fun w1 hw1 => iWins_ok b27 a27 ys27 xs27 u27 v27 w1 hsb27 hsa27 (hIu27 _ (Own.dropR (Own.drop (f := new73) (Own.drop (f := [_, _, _, _]) hw1)))) (hIv27 _ (Own.dropR (Own.drop (f := new73) (Own.drop (f := [_, _, _, _]) hw1)))) (by first | (simp; done) | (simp; omega) | omega) (by first | (simp; done) | (simp; omega) | omega) r27)) ?_
         refine Lq.run 1 rfl ?_
         refine Lq.op rfl rfl rfl (OpQ.beq rfl Tryd.runUnderlying4 rfl rfl) ?_
         refine Lq.run 2 rfl ?_
         refine Lq.bool fun b127 hg127 => ?_
         cases b127
         ·
          exact absurd hg127 (by rw [sec_comm, beq_self_eq_true]; decide)
         ·
          refine Lq.run 3 rfl ?_
          refine Lq.bool fun b130 hg130 => ?_
          cases b130
          ·
           replace hg130 := not_false hg130
           refine Lq.run 4 rfl ?_
           refine Lq.bool fun b134 hg134 => ?_
           cases b134
           ·
            replace hg134 := of_decide_eq_false hg134
            refine Lq.op rfl rfl rfl (OpQ.loadBox (cs := #[i6_ a27.n, str a27.set, str a27.rel]) 3 rfl Tryd.isAgg24 rfl rfl Tryd.sizeOf24) ?_
            refine Lq.run 1 rfl ?_
            refine Lq.op rfl rfl rfl (OpQ.loadBox (cs := #[i6_ b27.n, str b27.set, str b27.rel]) 2 rfl Tryd.isAgg24 rfl rfl Tryd.sizeOf24) ?_
            refine Lq.run 2 rfl ?_
            refine Lq.op rfl rfl rfl (OpQ.sub rfl rfl rfl (by omega) (by omega)) ?_
            refine Lq.op (v := bo_ (secB a27 xs27 b27 ys27 (r27 - (1 : Int)))) rfl rfl rfl (OpQ.call rfl Tryd.call26 rfl Own.stable (fun w1 hw1 => iWins_ok a27 b27 xs27 ys27 v27 u27 w1 hsa27 hsb27 (hIv27 _ (Own.dropR (Own.drop (f := new73) (Own.drop (f := [_, _, _, _]) hw1)))) (hIu27 _ (Own.dropR (Own.drop (f := new73) (Own.drop (f := [_, _, _, _]) hw1)))) (by first | (simp; done) | (simp; omega) | omega) (by first | (simp; done) | (simp; omega) | omega) (r27 - (1 : Int)))) ?_
            refine Lq.run 3 rfl ?_
            refine Lq.nil ?_
            refine Kt.sel [4] [_] rfl ?_
            refine Wk.ret (Kt.end1 rfl rfl fun w' hw => ?_)
            -- ret 2: bo_ (secB a27 xs27 b27 ys27 (r27 - (1 : Int)))
            exact ⟨ret_b (sec_less hLL (by omega) (by omega) (by assumption)), hw.below⟩
           ·
            replace hg134 := of_decide_eq_true hg134
            refine Lq.pass rfl rfl rfl ?_
            refine Lq.pass rfl rfl rfl ?_
            refine Lq.pass rfl rfl rfl ?_
            refine Lq.pass rfl rfl rfl ?_
            refine Lq.pass rfl rfl rfl ?_
            refine Lq.pass rfl rfl rfl ?_
            refine Lq.pass rfl rfl rfl ?_
            refine Lq.run 3 rfl ?_
            refine Lq.nil ?_
            refine Kt.sel [4] [_] rfl ?_
            refine Wk.ret (Kt.end1 rfl rfl fun w' hw => ?_)
            -- ret 3: bo_ true
            exact ⟨ret_b (by first | rfl | (simp_all; done)), hw.below⟩
          ·
           replace hg130 := not_true hg130
           refine Lq.pass rfl rfl rfl ?_
           refine Lq.pass rfl rfl rfl ?_
           refine Lq.run 2 rfl ?_
           refine Lq.pass rfl rfl rfl ?_
           refine Lq.pass rfl rfl rfl ?_
           refine Lq.pass rfl rfl rfl ?_
           refine Lq.pass rfl rfl rfl ?_
           refine Lq.pass rfl rfl rfl ?_
           refine Lq.pass rfl rfl rfl ?_
           refine Lq.pass rfl rfl rfl ?_
           refine Lq.run 3 rfl ?_
           refine Lq.nil ?_
           refine Kt.sel [4] [_] rfl ?_
           refine Wk.ret (Kt.end1 rfl rfl fun w' hw => ?_)
           -- ret 4: bo_ true
           exact ⟨ret_b (by first | rfl | (simp_all; done)), hw.below⟩
       ·
        replace hg84 := of_decide_eq_true hg84
        refine Lq.op rfl rfl rfl (OpQ.loadBox (cs := #[i6_ a73.n, str a73.set, str a73.rel]) 1 rfl Tryd.isAgg24 rfl rfl Tryd.sizeOf24) ?_
        refine Lq.run 1 rfl ?_
        refine Lq.op rfl rfl rfl (OpQ.loadBox (cs := #[i6_ a27.n, str a27.set, str a27.rel]) 3 rfl Tryd.isAgg24 rfl rfl Tryd.sizeOf24) ?_
        refine Lq.run 1 rfl ?_
        refine Lq.op (v := i6_ (longI a73 xs73 a27 xs27)) rfl rfl rfl (OpQ.call rfl Tryd.call28 rfl Own.stable (fun w1 hw1 => iLong_ok a73 a27 xs73 xs27 v73 v27 w1 hsa73 hsa27 (hIv73 _ (Own.dropR (Own.drop (f := [_, _, _, _]) hw1))) (hIv27 _ (Own.dropR (Own.drop (f := new73) (Own.drop (f := [_, _, _, _]) hw1)))) (by first | (simp; done) | (simp; omega) | omega) (by first | (simp; done) | (simp; omega) | omega))) ?_
        refine Lq.run 3 rfl ?_
        refine Lq.nil ?_
        refine Kt.sel [5, 6, 7, 8, 9, 10, 11, 12, 16] [_, _, _, _, _, _, _, _, _] rfl ?_
        refine Wk.seq ?_
        refine Wk.seq ?_
        refine Wk.regionD Base.mixed (fun _ h => h.drawn) (by kernel_rfl) ?_
        refine Lq.run 2 rfl ?_
        refine Lq.bool fun b93 hg93 => ?_
        cases b93
        ·
         replace hg93 := of_decide_eq_false hg93
         refine Lq.pass rfl rfl rfl ?_
         refine Lq.run 2 rfl ?_
         refine Lq.pass rfl rfl rfl ?_
         refine Lq.pass rfl rfl rfl ?_
         refine Lq.pass rfl rfl rfl ?_
         refine Lq.pass rfl rfl rfl ?_
         refine Lq.pass rfl rfl rfl ?_
         refine Lq.pass rfl rfl rfl ?_
         refine Lq.pass rfl rfl rfl ?_
         refine Lq.pass rfl rfl rfl ?_
         refine Lq.pass rfl rfl rfl ?_
         refine Lq.pass rfl rfl rfl ?_
         refine Lq.pass rfl rfl rfl ?_
         refine Lq.pass rfl rfl rfl ?_
         refine Lq.pass rfl rfl rfl ?_
         refine Lq.run 1 rfl ?_
         refine Lq.nil ?_
         refine Kt.sel [5, 6, 7, 8, 9, 10, 110] [_, _, _, _, _, _, _] rfl ?_
         refine Wk.condF rfl ?_
         refine Wk.skip ?_
         refine Kt.sel [5, 6, 7, 8, 9, 10] [_, _, _, _, _, _] rfl ?_
         refine Wk.seq ?_
         refine Wk.regionQ ?_
         refine Lq.op rfl rfl rfl (OpQ.loadBox (cs := #[i6_ a27.n, str a27.set, str a27.rel]) 3 rfl Tryd.isAgg24 rfl rfl Tryd.sizeOf24) ?_
         refine Lq.run 1 rfl ?_
         refine Lq.op rfl rfl rfl (OpQ.loadBox (cs := #[i6_ a27.n, str a27.set, str a27.rel]) 3 rfl Tryd.isAgg24 rfl rfl Tryd.sizeOf24) ?_
         refine Lq.run 2 rfl ?_
         refine Lq.op (v := bo_ (secB a27 xs27 a27 xs27 r27)) rfl rfl rfl (OpQ.call rfl Tryd.call26 rfl Own.stable (fun w1 hw1 => iWins_ok a27 a27 xs27 xs27 v27 v27 w1 hsa27 hsa27 (hIv27 _ (Own.dropR (Own.drop (f := new73) (Own.drop (f := [_, _, _, _]) hw1)))) (hIv27 _ (Own.dropR (Own.drop (f := new73) (Own.drop (f := [_, _, _, _]) hw1)))) (by first | (simp; done) | (simp; omega) | omega) (by first | (simp; done) | (simp; omega) | omega) r27)) ?_
         refine Lq.run 1 rfl ?_
         refine Lq.bool fun b117 hg117_1 => ?_
         cases b117
         ·
          exact absurd (sec_refl (r := r27) hLL (by omega) (by omega)) (by rw [hg117_1]; decide)
         ·
          refine Lq.op rfl rfl rfl (OpQ.loadBox (cs := #[i6_ b27.n, str b27.set, str b27.rel]) 2 rfl Tryd.isAgg24 rfl rfl Tryd.sizeOf24) ?_
          refine Lq.run 1 rfl ?_
          refine Lq.op rfl rfl rfl (OpQ.loadBox (cs := #[i6_ a27.n, str a27.set, str a27.rel]) 3 rfl Tryd.isAgg24 rfl rfl Tryd.sizeOf24) ?_
          refine Lq.run 2 rfl ?_
          refine Lq.op (v := bo_ (secB b27 ys27 a27 xs27 r27)) rfl rfl rfl (OpQ.call rfl Tryd.call26 rfl Own.stable (fun w1 hw1 => iWins_ok b27 a27 ys27 xs27 u27 v27 w1 hsb27 hsa27 (hIu27 _ (Own.dropR (Own.drop (f := new73) (Own.drop (f := [_, _, _, _]) hw1)))) (hIv27 _ (Own.dropR (Own.drop (f := new73) (Own.drop (f := [_, _, _, _]) hw1)))) (by first | (simp; done) | (simp; omega) | omega) (by first | (simp; done) | (simp; omega) | omega) r27)) ?_
          refine Lq.run 1 rfl ?_
          refine Lq.op rfl rfl rfl (OpQ.beq rfl Tryd.runUnderlying4 rfl rfl) ?_
          refine Lq.run 2 rfl ?_
          refine Lq.bool fun b127 hg127_1 => ?_
          cases b127
          ·
           exact absurd hg127_1 (by rw [sec_comm, beq_self_eq_true]; decide)
          ·
           refine Lq.run 3 rfl ?_
           refine Lq.bool fun b130 hg130_1 => ?_
           cases b130
           ·
            replace hg130_1 := not_false hg130_1
            refine Lq.run 4 rfl ?_
            refine Lq.bool fun b134 hg134_1 => ?_
            cases b134
            ·
             replace hg134_1 := of_decide_eq_false hg134_1
             refine Lq.op rfl rfl rfl (OpQ.loadBox (cs := #[i6_ a27.n, str a27.set, str a27.rel]) 3 rfl Tryd.isAgg24 rfl rfl Tryd.sizeOf24) ?_
             refine Lq.run 1 rfl ?_
             refine Lq.op rfl rfl rfl (OpQ.loadBox (cs := #[i6_ b27.n, str b27.set, str b27.rel]) 2 rfl Tryd.isAgg24 rfl rfl Tryd.sizeOf24) ?_
             refine Lq.run 2 rfl ?_
             refine Lq.op rfl rfl rfl (OpQ.sub rfl rfl rfl (by omega) (by omega)) ?_
             refine Lq.op (v := bo_ (secB a27 xs27 b27 ys27 (r27 - (1 : Int)))) rfl rfl rfl (OpQ.call rfl Tryd.call26 rfl Own.stable (fun w1 hw1 => iWins_ok a27 b27 xs27 ys27 v27 u27 w1 hsa27 hsb27 (hIv27 _ (Own.dropR (Own.drop (f := new73) (Own.drop (f := [_, _, _, _]) hw1)))) (hIu27 _ (Own.dropR (Own.drop (f := new73) (Own.drop (f := [_, _, _, _]) hw1)))) (by first | (simp; done) | (simp; omega) | omega) (by first | (simp; done) | (simp; omega) | omega) (r27 - (1 : Int)))) ?_
             refine Lq.run 3 rfl ?_
             refine Lq.nil ?_
             refine Kt.sel [4] [_] rfl ?_
             refine Wk.ret (Kt.end1 rfl rfl fun w' hw => ?_)
             -- ret 5: bo_ (secB a27 xs27 b27 ys27 (r27 - (1 : Int)))
             exact ⟨ret_b (sec_less hLL (by omega) (by omega) (by assumption)), hw.below⟩
            ·
             replace hg134_1 := of_decide_eq_true hg134_1
             refine Lq.pass rfl rfl rfl ?_
             refine Lq.pass rfl rfl rfl ?_
             refine Lq.pass rfl rfl rfl ?_
             refine Lq.pass rfl rfl rfl ?_
             refine Lq.pass rfl rfl rfl ?_
             refine Lq.pass rfl rfl rfl ?_
             refine Lq.pass rfl rfl rfl ?_
             refine Lq.run 3 rfl ?_
             refine Lq.nil ?_
             refine Kt.sel [4] [_] rfl ?_
             refine Wk.ret (Kt.end1 rfl rfl fun w' hw => ?_)
             -- ret 6: bo_ true
             exact ⟨ret_b (by first | rfl | (simp_all; done)), hw.below⟩
           ·
            replace hg130_1 := not_true hg130_1
            refine Lq.pass rfl rfl rfl ?_
            refine Lq.pass rfl rfl rfl ?_
            refine Lq.run 2 rfl ?_
            refine Lq.pass rfl rfl rfl ?_
            refine Lq.pass rfl rfl rfl ?_
            refine Lq.pass rfl rfl rfl ?_
            refine Lq.pass rfl rfl rfl ?_
            refine Lq.pass rfl rfl rfl ?_
            refine Lq.pass rfl rfl rfl ?_
            refine Lq.pass rfl rfl rfl ?_
            refine Lq.run 3 rfl ?_
            refine Lq.nil ?_
            refine Kt.sel [4] [_] rfl ?_
            refine Wk.ret (Kt.end1 rfl rfl fun w' hw => ?_)
            -- ret 7: bo_ true
            exact ⟨ret_b (by first | rfl | (simp_all; done)), hw.below⟩
        ·
         replace hg93 := of_decide_eq_true hg93
         refine Lq.run 3 rfl ?_
         refine Lq.bool fun b96 hg96 => ?_
         cases b96
         ·
          refine Lq.pass rfl rfl rfl ?_
          refine Lq.pass rfl rfl rfl ?_
          refine Lq.pass rfl rfl rfl ?_
          refine Lq.pass rfl rfl rfl ?_
          refine Lq.pass rfl rfl rfl ?_
          refine Lq.pass rfl rfl rfl ?_
          refine Lq.pass rfl rfl rfl ?_
          refine Lq.pass rfl rfl rfl ?_
          refine Lq.pass rfl rfl rfl ?_
          refine Lq.pass rfl rfl rfl ?_
          refine Lq.pass rfl rfl rfl ?_
          refine Lq.pass rfl rfl rfl ?_
          refine Lq.pass rfl rfl rfl ?_
          refine Lq.run 1 rfl ?_
          refine Lq.nil ?_
          refine Kt.sel [5, 6, 7, 8, 9, 10, 110] [_, _, _, _, _, _, _] rfl ?_
          refine Wk.condF rfl ?_
          refine Wk.skip ?_
          refine Kt.sel [5, 6, 7, 8, 9, 10] [_, _, _, _, _, _] rfl ?_
          refine Wk.seq ?_
          refine Wk.regionQ ?_
          refine Lq.op rfl rfl rfl (OpQ.loadBox (cs := #[i6_ a27.n, str a27.set, str a27.rel]) 3 rfl Tryd.isAgg24 rfl rfl Tryd.sizeOf24) ?_
          refine Lq.run 1 rfl ?_
          refine Lq.op rfl rfl rfl (OpQ.loadBox (cs := #[i6_ a27.n, str a27.set, str a27.rel]) 3 rfl Tryd.isAgg24 rfl rfl Tryd.sizeOf24) ?_
          refine Lq.run 2 rfl ?_
          refine Lq.op (v := bo_ (secB a27 xs27 a27 xs27 r27)) rfl rfl rfl (OpQ.call rfl Tryd.call26 rfl Own.stable (fun w1 hw1 => iWins_ok a27 a27 xs27 xs27 v27 v27 w1 hsa27 hsa27 (hIv27 _ (Own.dropR (Own.drop (f := new73) (Own.drop (f := [_, _, _, _]) hw1)))) (hIv27 _ (Own.dropR (Own.drop (f := new73) (Own.drop (f := [_, _, _, _]) hw1)))) (by first | (simp; done) | (simp; omega) | omega) (by first | (simp; done) | (simp; omega) | omega) r27)) ?_
          refine Lq.run 1 rfl ?_
          refine Lq.bool fun b117 hg117_2 => ?_
          cases b117
          ·
           exact absurd (sec_refl (r := r27) hLL (by omega) (by omega)) (by rw [hg117_2]; decide)
          ·
           refine Lq.op rfl rfl rfl (OpQ.loadBox (cs := #[i6_ b27.n, str b27.set, str b27.rel]) 2 rfl Tryd.isAgg24 rfl rfl Tryd.sizeOf24) ?_
           refine Lq.run 1 rfl ?_
           refine Lq.op rfl rfl rfl (OpQ.loadBox (cs := #[i6_ a27.n, str a27.set, str a27.rel]) 3 rfl Tryd.isAgg24 rfl rfl Tryd.sizeOf24) ?_
           refine Lq.run 2 rfl ?_
           refine Lq.op (v := bo_ (secB b27 ys27 a27 xs27 r27)) rfl rfl rfl (OpQ.call rfl Tryd.call26 rfl Own.stable (fun w1 hw1 => iWins_ok b27 a27 ys27 xs27 u27 v27 w1 hsb27 hsa27 (hIu27 _ (Own.dropR (Own.drop (f := new73) (Own.drop (f := [_, _, _, _]) hw1)))) (hIv27 _ (Own.dropR (Own.drop (f := new73) (Own.drop (f := [_, _, _, _]) hw1)))) (by first | (simp; done) | (simp; omega) | omega) (by first | (simp; done) | (simp; omega) | omega) r27)) ?_
           refine Lq.run 1 rfl ?_
           refine Lq.op rfl rfl rfl (OpQ.beq rfl Tryd.runUnderlying4 rfl rfl) ?_
           refine Lq.run 2 rfl ?_
           refine Lq.bool fun b127 hg127_2 => ?_
           cases b127
           ·
            exact absurd hg127_2 (by rw [sec_comm, beq_self_eq_true]; decide)
           ·
            refine Lq.run 3 rfl ?_
            refine Lq.bool fun b130 hg130_2 => ?_
            cases b130
            ·
             replace hg130_2 := not_false hg130_2
             refine Lq.run 4 rfl ?_
             refine Lq.bool fun b134 hg134_2 => ?_
             cases b134
             ·
              replace hg134_2 := of_decide_eq_false hg134_2
              refine Lq.op rfl rfl rfl (OpQ.loadBox (cs := #[i6_ a27.n, str a27.set, str a27.rel]) 3 rfl Tryd.isAgg24 rfl rfl Tryd.sizeOf24) ?_
              refine Lq.run 1 rfl ?_
              refine Lq.op rfl rfl rfl (OpQ.loadBox (cs := #[i6_ b27.n, str b27.set, str b27.rel]) 2 rfl Tryd.isAgg24 rfl rfl Tryd.sizeOf24) ?_
              refine Lq.run 2 rfl ?_
              refine Lq.op rfl rfl rfl (OpQ.sub rfl rfl rfl (by omega) (by omega)) ?_
              refine Lq.op (v := bo_ (secB a27 xs27 b27 ys27 (r27 - (1 : Int)))) rfl rfl rfl (OpQ.call rfl Tryd.call26 rfl Own.stable (fun w1 hw1 => iWins_ok a27 b27 xs27 ys27 v27 u27 w1 hsa27 hsb27 (hIv27 _ (Own.dropR (Own.drop (f := new73) (Own.drop (f := [_, _, _, _]) hw1)))) (hIu27 _ (Own.dropR (Own.drop (f := new73) (Own.drop (f := [_, _, _, _]) hw1)))) (by first | (simp; done) | (simp; omega) | omega) (by first | (simp; done) | (simp; omega) | omega) (r27 - (1 : Int)))) ?_
              refine Lq.run 3 rfl ?_
              refine Lq.nil ?_
              refine Kt.sel [4] [_] rfl ?_
              refine Wk.ret (Kt.end1 rfl rfl fun w' hw => ?_)
              -- ret 8: bo_ (secB a27 xs27 b27 ys27 (r27 - (1 : Int)))
              exact ⟨ret_b (sec_less hLL (by omega) (by omega) (by assumption)), hw.below⟩
             ·
              replace hg134_2 := of_decide_eq_true hg134_2
              refine Lq.pass rfl rfl rfl ?_
              refine Lq.pass rfl rfl rfl ?_
              refine Lq.pass rfl rfl rfl ?_
              refine Lq.pass rfl rfl rfl ?_
              refine Lq.pass rfl rfl rfl ?_
              refine Lq.pass rfl rfl rfl ?_
              refine Lq.pass rfl rfl rfl ?_
              refine Lq.run 3 rfl ?_
              refine Lq.nil ?_
              refine Kt.sel [4] [_] rfl ?_
              refine Wk.ret (Kt.end1 rfl rfl fun w' hw => ?_)
              -- ret 9: bo_ true
              exact ⟨ret_b (by first | rfl | (simp_all; done)), hw.below⟩
            ·
             replace hg130_2 := not_true hg130_2
             refine Lq.pass rfl rfl rfl ?_
             refine Lq.pass rfl rfl rfl ?_
             refine Lq.run 2 rfl ?_
             refine Lq.pass rfl rfl rfl ?_
             refine Lq.pass rfl rfl rfl ?_
             refine Lq.pass rfl rfl rfl ?_
             refine Lq.pass rfl rfl rfl ?_
             refine Lq.pass rfl rfl rfl ?_
             refine Lq.pass rfl rfl rfl ?_
             refine Lq.pass rfl rfl rfl ?_
             refine Lq.run 3 rfl ?_
             refine Lq.nil ?_
             refine Kt.sel [4] [_] rfl ?_
             refine Wk.ret (Kt.end1 rfl rfl fun w' hw => ?_)
             -- ret 10: bo_ true
             exact ⟨ret_b (by first | rfl | (simp_all; done)), hw.below⟩
         ·
          refine Lq.op rfl rfl rfl (OpQ.loadBox (cs := #[i6_ b27.n, str b27.set, str b27.rel]) 2 rfl Tryd.isAgg24 rfl rfl Tryd.sizeOf24) ?_
          refine Lq.run 1 rfl ?_
          refine Lq.op rfl rfl rfl (OpQ.loadBox (cs := #[i6_ a73.n, str a73.set, str a73.rel]) 1 rfl Tryd.isAgg24 rfl rfl Tryd.sizeOf24) ?_
          refine Lq.run 2 rfl ?_
          refine Lq.op (v := bo_ (secB b27 ys27 a73 xs73 r27)) rfl rfl rfl (OpQ.call rfl Tryd.call26 rfl Own.stable (fun w1 hw1 => iWins_ok b27 a73 ys27 xs73 u27 v73 w1 hsb27 hsa73 (hIu27 _ (Own.dropR (Own.drop (f := new73) (Own.drop (f := [_, _, _, _]) hw1)))) (hIv73 _ (Own.dropR (Own.drop (f := [_, _, _, _]) hw1))) (by first | (simp; done) | (simp; omega) | omega) (by first | (simp; done) | (simp; omega) | omega) r27)) ?_
          refine Lq.op rfl rfl rfl (OpQ.loadBox (cs := #[i6_ a27.n, str a27.set, str a27.rel]) 3 rfl Tryd.isAgg24 rfl rfl Tryd.sizeOf24) ?_
          refine Lq.run 1 rfl ?_
          refine Lq.op rfl rfl rfl (OpQ.loadBox (cs := #[i6_ a73.n, str a73.set, str a73.rel]) 1 rfl Tryd.isAgg24 rfl rfl Tryd.sizeOf24) ?_
          refine Lq.run 2 rfl ?_
          refine Lq.op (v := bo_ (secB a27 xs27 a73 xs73 r27)) rfl rfl rfl (OpQ.call rfl Tryd.call26 rfl Own.stable (fun w1 hw1 => iWins_ok a27 a73 xs27 xs73 v27 v73 w1 hsa27 hsa73 (hIv27 _ (Own.dropR (Own.drop (f := new73) (Own.drop (f := [_, _, _, _]) hw1)))) (hIv73 _ (Own.dropR (Own.drop (f := [_, _, _, _]) hw1))) (by first | (simp; done) | (simp; omega) | omega) (by first | (simp; done) | (simp; omega) | omega) r27)) ?_
          refine Lq.op rfl rfl rfl (OpQ.bne rfl Tryd.runUnderlying4 rfl rfl) ?_
          refine Lq.run 1 rfl ?_
          refine Lq.nil ?_
          refine Kt.sel [5, 6, 7, 8, 9, 10, 110] [_, _, _, _, _, _, _] rfl ?_
          refine Wk.cond (b := (secB b27 ys27 a73 xs73 r27) != (secB a27 xs27 a73 xs73 r27)) rfl (fun h110 => ?_) (fun h110 => ?_)
          ·
           exact absurd h110 (by rw [sec_third hLL (longI_listed (show ¬ longI a73 xs73 a27 xs27 < 0 by omega)) (by omega) (by omega) hg96]; simp)
          ·
           refine Wk.skip ?_
           refine Kt.sel [5, 6, 7, 8, 9, 10] [_, _, _, _, _, _] rfl ?_
           refine Wk.seq ?_
           refine Wk.regionQ ?_
           refine Lq.op rfl rfl rfl (OpQ.loadBox (cs := #[i6_ a27.n, str a27.set, str a27.rel]) 3 rfl Tryd.isAgg24 rfl rfl Tryd.sizeOf24) ?_
           refine Lq.run 1 rfl ?_
           refine Lq.op rfl rfl rfl (OpQ.loadBox (cs := #[i6_ a27.n, str a27.set, str a27.rel]) 3 rfl Tryd.isAgg24 rfl rfl Tryd.sizeOf24) ?_
           refine Lq.run 2 rfl ?_
           refine Lq.op (v := bo_ (secB a27 xs27 a27 xs27 r27)) rfl rfl rfl (OpQ.call rfl Tryd.call26 rfl Own.stable (fun w1 hw1 => iWins_ok a27 a27 xs27 xs27 v27 v27 w1 hsa27 hsa27 (hIv27 _ (Own.dropR (Own.drop (f := new73) (Own.drop (f := [_, _, _, _]) hw1)))) (hIv27 _ (Own.dropR (Own.drop (f := new73) (Own.drop (f := [_, _, _, _]) hw1)))) (by first | (simp; done) | (simp; omega) | omega) (by first | (simp; done) | (simp; omega) | omega) r27)) ?_
           refine Lq.run 1 rfl ?_
           refine Lq.bool fun b117 hg117_3 => ?_
           cases b117
           ·
            exact absurd (sec_refl (r := r27) hLL (by omega) (by omega)) (by rw [hg117_3]; decide)
           ·
            refine Lq.op rfl rfl rfl (OpQ.loadBox (cs := #[i6_ b27.n, str b27.set, str b27.rel]) 2 rfl Tryd.isAgg24 rfl rfl Tryd.sizeOf24) ?_
            refine Lq.run 1 rfl ?_
            refine Lq.op rfl rfl rfl (OpQ.loadBox (cs := #[i6_ a27.n, str a27.set, str a27.rel]) 3 rfl Tryd.isAgg24 rfl rfl Tryd.sizeOf24) ?_
            refine Lq.run 2 rfl ?_
            refine Lq.op (v := bo_ (secB b27 ys27 a27 xs27 r27)) rfl rfl rfl (OpQ.call rfl Tryd.call26 rfl Own.stable (fun w1 hw1 => iWins_ok b27 a27 ys27 xs27 u27 v27 w1 hsb27 hsa27 (hIu27 _ (Own.dropR (Own.drop (f := new73) (Own.drop (f := [_, _, _, _]) hw1)))) (hIv27 _ (Own.dropR (Own.drop (f := new73) (Own.drop (f := [_, _, _, _]) hw1)))) (by first | (simp; done) | (simp; omega) | omega) (by first | (simp; done) | (simp; omega) | omega) r27)) ?_
            refine Lq.run 1 rfl ?_
            refine Lq.op rfl rfl rfl (OpQ.beq rfl Tryd.runUnderlying4 rfl rfl) ?_
            refine Lq.run 2 rfl ?_
            refine Lq.bool fun b127 hg127_3 => ?_
            cases b127
            ·
             exact absurd hg127_3 (by rw [sec_comm, beq_self_eq_true]; decide)
            ·
             refine Lq.run 3 rfl ?_
             refine Lq.bool fun b130 hg130_3 => ?_
             cases b130
             ·
              replace hg130_3 := not_false hg130_3
              refine Lq.run 4 rfl ?_
              refine Lq.bool fun b134 hg134_3 => ?_
              cases b134
              ·
               replace hg134_3 := of_decide_eq_false hg134_3
               refine Lq.op rfl rfl rfl (OpQ.loadBox (cs := #[i6_ a27.n, str a27.set, str a27.rel]) 3 rfl Tryd.isAgg24 rfl rfl Tryd.sizeOf24) ?_
               refine Lq.run 1 rfl ?_
               refine Lq.op rfl rfl rfl (OpQ.loadBox (cs := #[i6_ b27.n, str b27.set, str b27.rel]) 2 rfl Tryd.isAgg24 rfl rfl Tryd.sizeOf24) ?_
               refine Lq.run 2 rfl ?_
               refine Lq.op rfl rfl rfl (OpQ.sub rfl rfl rfl (by omega) (by omega)) ?_
               refine Lq.op (v := bo_ (secB a27 xs27 b27 ys27 (r27 - (1 : Int)))) rfl rfl rfl (OpQ.call rfl Tryd.call26 rfl Own.stable (fun w1 hw1 => iWins_ok a27 b27 xs27 ys27 v27 u27 w1 hsa27 hsb27 (hIv27 _ (Own.dropR (Own.drop (f := new73) (Own.drop (f := [_, _, _, _]) hw1)))) (hIu27 _ (Own.dropR (Own.drop (f := new73) (Own.drop (f := [_, _, _, _]) hw1)))) (by first | (simp; done) | (simp; omega) | omega) (by first | (simp; done) | (simp; omega) | omega) (r27 - (1 : Int)))) ?_
               refine Lq.run 3 rfl ?_
               refine Lq.nil ?_
               refine Kt.sel [4] [_] rfl ?_
               refine Wk.ret (Kt.end1 rfl rfl fun w' hw => ?_)
               -- ret 11: bo_ (secB a27 xs27 b27 ys27 (r27 - (1 : Int)))
               exact ⟨ret_b (sec_less hLL (by omega) (by omega) (by assumption)), hw.below⟩
              ·
               replace hg134_3 := of_decide_eq_true hg134_3
               refine Lq.pass rfl rfl rfl ?_
               refine Lq.pass rfl rfl rfl ?_
               refine Lq.pass rfl rfl rfl ?_
               refine Lq.pass rfl rfl rfl ?_
               refine Lq.pass rfl rfl rfl ?_
               refine Lq.pass rfl rfl rfl ?_
               refine Lq.pass rfl rfl rfl ?_
               refine Lq.run 3 rfl ?_
               refine Lq.nil ?_
               refine Kt.sel [4] [_] rfl ?_
               refine Wk.ret (Kt.end1 rfl rfl fun w' hw => ?_)
               -- ret 12: bo_ true
               exact ⟨ret_b (by first | rfl | (simp_all; done)), hw.below⟩
             ·
              replace hg130_3 := not_true hg130_3
              refine Lq.pass rfl rfl rfl ?_
              refine Lq.pass rfl rfl rfl ?_
              refine Lq.run 2 rfl ?_
              refine Lq.pass rfl rfl rfl ?_
              refine Lq.pass rfl rfl rfl ?_
              refine Lq.pass rfl rfl rfl ?_
              refine Lq.pass rfl rfl rfl ?_
              refine Lq.pass rfl rfl rfl ?_
              refine Lq.pass rfl rfl rfl ?_
              refine Lq.pass rfl rfl rfl ?_
              refine Lq.run 3 rfl ?_
              refine Lq.nil ?_
              refine Kt.sel [4] [_] rfl ?_
              refine Wk.ret (Kt.end1 rfl rfl fun w' hw => ?_)
              -- ret 13: bo_ true
              exact ⟨ret_b (by first | rfl | (simp_all; done)), hw.below⟩
     ·
      replace hg55 := of_decide_eq_true hg55
      refine Lq.pass rfl rfl rfl ?_
      refine Lq.pass rfl rfl rfl ?_
      refine Lq.pass rfl rfl rfl ?_
      refine Lq.pass rfl rfl rfl ?_
      refine Lq.pass rfl rfl rfl ?_
      refine Lq.pass rfl rfl rfl ?_
      refine Lq.run 1 rfl ?_
      refine Lq.nil ?_
      refine Kt.sel [1, 5, 6, 7, 8, 9, 10, 62] [_, _, _, _, _, _, _, _] rfl ?_
      refine Wk.condT rfl ?_
      refine Wk.seq ?_
      refine Wk.regionQ ?_
      refine Lq.run 1 rfl ?_
      refine Lq.op rfl rfl rfl (OpQ.loadBox (cs := #[i6_ a27.n, str a27.set, str a27.rel]) 1 rfl Tryd.isAgg24 rfl rfl Tryd.sizeOf24) ?_
      refine Lq.run 1 rfl ?_
      refine Lq.op rfl rfl rfl (OpQ.loadBox (cs := #[i6_ b27.n, str b27.set, str b27.rel]) 0 rfl Tryd.isAgg24 rfl rfl Tryd.sizeOf24) ?_
      refine Lq.run 2 rfl ?_
      refine Lq.op (v := bo_ (secB a27 xs27 b27 ys27 r27)) rfl rfl rfl (OpQ.call rfl Tryd.call27 rfl Own.stable (fun w1 hw1 => sWins_ok a27 b27 xs27 ys27 v27 u27 w1 hsa27 hsb27 (hIv27 _ (Own.dropR (Own.drop (f := [_, _]) hw1))) (hIu27 _ (Own.dropR (Own.drop (f := [_, _]) hw1))) (by first | (simp; done) | (simp; omega) | omega) (by first | (simp; done) | (simp; omega) | omega) loa27 hia27 lob27 hib27 r27)) ?_
      refine Lq.op rfl rfl rfl (OpQ.beq rfl Tryd.runUnderlying4 rfl rfl) ?_
      refine Lq.run 1 rfl ?_
      refine Lq.nil ?_
      refine Kt.sel [4] [_] rfl ?_
      refine Wk.ret (Kt.end1 rfl rfl fun w' hw => ?_)
      -- ret 14: bo_ ((secB a27 xs27 b27 ys27 r27) == (secB a27 xs27 b27 ys27 r27))
      exact ⟨ret_b (by first | rfl | (simp_all; done)), hw.below⟩
    ·
     replace hg51 := of_decide_eq_true hg51
     refine Lq.pass rfl rfl rfl ?_
     refine Lq.pass rfl rfl rfl ?_
     refine Lq.run 2 rfl ?_
     refine Lq.pass rfl rfl rfl ?_
     refine Lq.pass rfl rfl rfl ?_
     refine Lq.pass rfl rfl rfl ?_
     refine Lq.pass rfl rfl rfl ?_
     refine Lq.pass rfl rfl rfl ?_
     refine Lq.pass rfl rfl rfl ?_
     refine Lq.run 1 rfl ?_
     refine Lq.nil ?_
     refine Kt.sel [1, 5, 6, 7, 8, 9, 10, 62] [_, _, _, _, _, _, _, _] rfl ?_
     refine Wk.condT rfl ?_
     refine Wk.seq ?_
     refine Wk.regionQ ?_
     refine Lq.run 1 rfl ?_
     refine Lq.op rfl rfl rfl (OpQ.loadBox (cs := #[i6_ a27.n, str a27.set, str a27.rel]) 1 rfl Tryd.isAgg24 rfl rfl Tryd.sizeOf24) ?_
     refine Lq.run 1 rfl ?_
     refine Lq.op rfl rfl rfl (OpQ.loadBox (cs := #[i6_ b27.n, str b27.set, str b27.rel]) 0 rfl Tryd.isAgg24 rfl rfl Tryd.sizeOf24) ?_
     refine Lq.run 2 rfl ?_
     refine Lq.op (v := bo_ (secB a27 xs27 b27 ys27 r27)) rfl rfl rfl (OpQ.call rfl Tryd.call27 rfl Own.stable (fun w1 hw1 => sWins_ok a27 b27 xs27 ys27 v27 u27 w1 hsa27 hsb27 (hIv27 _ (Own.dropR (Own.drop (f := [_, _]) hw1))) (hIu27 _ (Own.dropR (Own.drop (f := [_, _]) hw1))) (by first | (simp; done) | (simp; omega) | omega) (by first | (simp; done) | (simp; omega) | omega) loa27 hia27 lob27 hib27 r27)) ?_
     refine Lq.op rfl rfl rfl (OpQ.beq rfl Tryd.runUnderlying4 rfl rfl) ?_
     refine Lq.run 1 rfl ?_
     refine Lq.nil ?_
     refine Kt.sel [4] [_] rfl ?_
     refine Wk.ret (Kt.end1 rfl rfl fun w' hw => ?_)
     -- ret 15: bo_ ((secB a27 xs27 b27 ys27 r27) == (secB a27 xs27 b27 ys27 r27))
     exact ⟨ret_b (by first | rfl | (simp_all; done)), hw.below⟩
   ·
    exact absurd hg47 (by simp)
 ·
  replace hg20 := of_decide_eq_true hg20
  refine Lq.pass rfl rfl rfl ?_
  refine Lq.pass rfl rfl rfl ?_
  refine Lq.pass rfl rfl rfl ?_
  refine Lq.run 1 rfl ?_
  refine Lq.nil ?_
  refine Kt.sel [0, 1, 24] [_, _, _] rfl ?_
  refine Wk.condT rfl ?_
  refine Wk.seq ?_
  refine Wk.regionQ ?_
  refine Lq.run 1 rfl ?_
  refine Lq.nil ?_
  refine Kt.sel [4] [_] rfl ?_
  refine Wk.ret (Kt.end1 rfl rfl fun w' hw => ?_)
  -- ret 16: bo_ true
  exact ⟨ret_b (by first | rfl | (simp_all; done)), hw.below⟩

end Go.Proofs.YtmannilblelfjaaDoor
