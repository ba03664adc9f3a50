/-
  Walks: the law of pebbles.
-/
import Derived.Test.YtmannilblelfjaaDoorPebM
import Derived.Test.YtmannilblelfjaaDoorDrawsE
import Derived.Test.YtmannilblelfjaaDoorBase
namespace Go.Proofs.YtmannilblelfjaaDoor
open Go.RowKit Go.Wk
set_option linter.unusedSimpArgs false

set_option maxHeartbeats 400000 in
/-- impl.StructureValid -/
theorem iValid_ok (a : St) (w : World) (ha : a.Small) :
    Calls Tryd.prog 18 [vS a].toArray w fun en w' => en = .returned (.bool (validB a)) ∧ Below w.heap.size w w' := by
 refine fnStart (n := 5) (e := [(0, vS a)]) Tryd.func18 rfl rfl rfl rfl Ends.both ?_
 have hsa := ha
 refine Wk.seq ?_
 refine Wk.region ?_
 refine Ll.box (v := vS a) rfl rfl rfl rfl rfl fun p1 hp1 => ?_
 show Ll _ _ (Own _ _ [_]) _ _ ((1, pt_ p1) :: _) _ _ _
 refine Ll.run 1 rfl ?_
 refine Ll.nil ?_
 refine Kt.sel [1] [_] rfl ?_
 refine Wk.seq ?_
 refine Wk.regionQ ?_
 refine Lq.op rfl rfl rfl (OpQ.loadBox (cs := #[i6_ a.n, str a.set, str a.rel]) 0 rfl Tryd.isAgg24 rfl rfl Tryd.sizeOf24) ?_
 refine Lq.op (v := bo_ (validB a)) rfl rfl rfl (OpQ.call rfl Tryd.call68 rfl Own.stable (fun w1 hw1 => isStructure_ok a w1 hsa)) ?_
 refine Lq.run 1 rfl ?_
 refine Lq.nil ?_
 refine Kt.sel [2] [_] rfl ?_
 refine Wk.ret (Kt.end1 rfl rfl fun w' hw => ?_)
 -- ret 0: bo_ (validB a)
 exact ⟨rfl, hw.below⟩

set_option maxHeartbeats 400000 in
/-- laws.FnPebblesFit -/
theorem lawFnFit (bv : Value) (L : List Int) (w : World) (hbv : Row w bv (u8s L)) (hL8 : Bytes8 L) (hLm : L.length ≤ 9223372036854775807) :
    Calls Tryd.prog 3 [bv].toArray w fun en w' => en = .returned (.bool true) ∧ Below w.heap.size w w' := by
 refine fnStart (n := 137) (e := [(0, bv)]) Tryd.func3 rfl rfl rfl rfl Ends.both ?_
 refine Wk.seq ?_
 refine Wk.regionQ ?_
 refine Lq.run 1 rfl ?_
 refine Lq.nil ?_
 refine Kt.sel [0] [_] rfl ?_
 refine Wk.seq ?_
 refine Wk.seq ?_
 refine Wk.regionQ ?_
 refine Lq.run 1 rfl ?_
 refine Lq.op rfl rfl rfl (OpQ.lenRow rfl Tryd.runUnderlying22 rfl (u8s_length _) (fun w1 hw1 => Row.own hbv hw1)) ?_
 refine Lq.run 1 rfl ?_
 refine Lq.nil ?_
 refine Kt.sel [0, 14] [_, _] rfl ?_
 refine Wk.cond (b := decide ((1048576 : Int) < ((L.length : Int)))) rfl (fun h14 => ?_) (fun h14 => ?_)
 ·
  replace h14 := of_decide_eq_true h14
  refine Wk.seq ?_
  refine Wk.regionQ ?_
  refine Lq.run 1 rfl ?_
  refine Lq.nil ?_
  refine Kt.sel [2] [_] rfl ?_
  refine Wk.ret (Kt.end1 rfl rfl fun w' hw => ?_)
  -- ret 0: bo_ true
  exact ⟨ret_b (by first | rfl | (simp_all; done) | (rw [fit_comm]; exact beq_self_eq_true _)), hw.below⟩
 ·
  replace h14 := of_decide_eq_false h14
  refine Wk.skip ?_
  refine Kt.sel [0] [_] rfl ?_
  refine Wk.seq ?_
  refine Wk.region ?_
  refine Ll.run 1 rfl ?_
  refine Ll.callBack (ok := fun ((a, b, v, xs, u, ys, new) : St × St × Value × List Int × Value × List Int × List (Nat × Obj)) => ((a.Tame ∧ b.Tame) ∧ (xs.length ≤ 40 ∧ ys.length ≤ 40) ∧ ∀ w1, Own w.heap.size w new w1 → Ints w1 v xs ∧ Ints w1 u ys) ∧ True) (v := fun ((a, b, v, xs, u, ys, new) : St × St × Value × List Int × Value × List Int × List (Nat × Obj)) => .tuple #[vS a, v, vS b, u]) (new := fun ((a, b, v, xs, u, ys, new) : St × St × Value × List Int × Value × List Int × List (Nat × Obj)) => new) (hs := []) (xs := [.tmp 16]) (vs := [bv]) ([] : List (Nat × Obj)) rfl rfl rfl rfl Tryd.call15 rfl (fun w1 hw1 => (drawFit_ok w.heap.size w (([] : List (Nat × Obj)) ++ ([])) bv L w1 (fun w2 hw2 => Row.own hbv hw2) hL8 (by omega) hw1).mono fun en w' ⟨a, b, v, xs, u, ys, new, h1, h2, h3⟩ => ⟨(a, b, v, xs, u, ys, new), h1, h2, h3⟩) fun ⟨a17, b17, v17, xs17, u17, ys17, new17⟩ hK => ?_
  dsimp only at hK
  obtain ⟨⟨⟨hta17, htb17⟩, ⟨hlxs17, hlys17⟩, hrw⟩, -⟩ := hK
  have hIv17 : ∀ w1, Own w.heap.size w new17 w1 → Ints w1 v17 xs17 := fun w1 h => (hrw w1 h).1
  have hIu17 : ∀ w1, Own w.heap.size w new17 w1 → Ints w1 u17 ys17 := fun w1 h => (hrw w1 h).2
  have hsa17 := hta17.small
  have loa17 := hta17.lo
  have hia17 := hta17.hi
  have hsb17 := htb17.small
  have lob17 := htb17.lo
  have hib17 := htb17.hi
  show Ll _ _ (Own _ _ ((new17 ++ ([])))) _ _ ((17, .tuple #[vS a17, v17, vS b17, u17]) :: _) _ _ _
  refine Ll.run 1 rfl ?_
  refine Ll.op (v := vS a17) rfl rfl rfl (OpQ.extract rfl rfl rfl) ?_
  refine Ll.op (v := v17) rfl rfl rfl (OpQ.extract rfl rfl rfl) ?_
  refine Ll.op (v := vS b17) rfl rfl rfl (OpQ.extract rfl rfl rfl) ?_
  refine Ll.op (v := u17) rfl rfl rfl (OpQ.extract rfl rfl rfl) ?_
  refine Ll.alloc rfl rfl rfl rfl Tryd.zeroValue24 fun p3 hp3 => ?_
  show Ll _ _ (Own _ _ (_ :: (new17 ++ ([])))) _ _ ((3, pt_ p3) :: _) _ _ _
  refine Ll.alloc rfl rfl rfl rfl Tryd.zeroValue24 fun p5 hp5 => ?_
  show Ll _ _ (Own _ _ (_ :: _ :: (new17 ++ ([])))) _ _ ((5, pt_ p5) :: _) _ _ _
  refine Ll.storeBox (cs' := #[i6_ a17.n, str a17.set, str a17.rel]) (hs' := (_ :: bk_ p3 #[i6_ a17.n, str a17.set, str a17.rel] 24 :: (new17 ++ ([])))) 1 rfl rfl rfl rfl rfl (by kernel_rfl : _ = some Tryd.t24) rfl rfl rfl rfl rfl ?_
  refine Ll.run 1 rfl ?_
  refine Ll.storeBox (cs' := #[i6_ b17.n, str b17.set, str b17.rel]) (hs' := (bk_ p5 #[i6_ b17.n, str b17.set, str b17.rel] 24 :: _ :: (new17 ++ ([])))) 0 rfl rfl rfl rfl rfl (by kernel_rfl : _ = some Tryd.t24) rfl rfl rfl rfl rfl ?_
  refine Ll.run 1 rfl ?_
  refine Ll.nil ?_
  refine Kt.sel [3, 4, 5, 6] [_, _, _, _] rfl ?_
  refine Wk.seq ?_
  refine Wk.regionQ ?_
  refine Lq.op rfl rfl rfl (OpQ.loadBox (cs := #[i6_ a17.n, str a17.set, str a17.rel]) 1 rfl Tryd.isAgg24 rfl rfl Tryd.sizeOf24) ?_
  refine Lq.run 1 rfl ?_
  refine Lq.op rfl rfl rfl (OpQ.loadBox (cs := #[i6_ b17.n, str b17.set, str b17.rel]) 0 rfl Tryd.isAgg24 rfl rfl Tryd.sizeOf24) ?_
  refine Lq.run 1 rfl ?_
  refine Lq.op (v := bo_ (fitB a17 xs17 b17 ys17)) rfl rfl rfl (OpQ.call rfl Tryd.call16 rfl Own.stable (fun w1 hw1 => iFit_ok a17 b17 xs17 ys17 v17 u17 w1 hsa17 hsb17 (hIv17 _ (Own.dropR (Own.drop (f := [_, _]) hw1))) (hIu17 _ (Own.dropR (Own.drop (f := [_, _]) hw1))) (by first | (simp; done) | (simp; omega) | omega) (by first | (simp; done) | (simp; omega) | omega))) ?_
  refine Lq.run 1 rfl ?_
  refine Lq.nil ?_
  refine Kt.sel [3, 4, 5, 6, 7] [_, _, _, _, _] rfl ?_
  refine Wk.seq ?_
  refine Wk.seq ?_
  refine Wk.regionQ ?_
  refine Lq.run 1 rfl ?_
  refine Lq.op rfl rfl rfl (OpQ.loadBox (cs := #[i6_ a17.n, str a17.set, str a17.rel]) 1 rfl Tryd.isAgg24 rfl rfl Tryd.sizeOf24) ?_
  refine Lq.run 1 rfl ?_
  refine Lq.op rfl rfl rfl (OpQ.loadBox (cs := #[i6_ b17.n, str b17.set, str b17.rel]) 0 rfl Tryd.isAgg24 rfl rfl Tryd.sizeOf24) ?_
  refine Lq.run 1 rfl ?_
  refine Lq.op (v := bo_ (fitB a17 xs17 b17 ys17)) rfl rfl rfl (OpQ.call rfl Tryd.call17 rfl Own.stable (fun w1 hw1 => sFit_ok a17 b17 xs17 ys17 v17 u17 w1 hsa17 hsb17 (hIv17 _ (Own.dropR (Own.drop (f := [_, _]) hw1))) (hIu17 _ (Own.dropR (Own.drop (f := [_, _]) hw1))) (by first | (simp; done) | (simp; omega) | omega) (by first | (simp; done) | (simp; omega) | omega) loa17 hia17 lob17 hib17)) ?_
  refine Lq.op rfl rfl rfl (OpQ.bne rfl Tryd.runUnderlying4 rfl rfl) ?_
  refine Lq.run 1 rfl ?_
  refine Lq.bool fun b34 hg34 => ?_
  cases b34
  ·
   refine Lq.run 3 rfl ?_
   refine Lq.bool fun b37 hg37 => ?_
   cases b37
   ·
    replace hg37 := not_false hg37
    have hpre := fit_pre hg37
    have hlen := hpre.2.2.1
    have hl1 := hpre.2.2.2.1
    have hl3 := hpre.2.2.2.2
    refine Lq.pass rfl rfl rfl ?_
    refine Lq.pass rfl rfl rfl ?_
    refine Lq.pass rfl rfl rfl ?_
    refine Lq.pass rfl rfl rfl ?_
    refine Lq.pass rfl rfl rfl ?_
    refine Lq.pass rfl rfl rfl ?_
    refine Lq.pass rfl rfl rfl ?_
    refine Lq.pass rfl rfl rfl ?_
    refine Lq.pass rfl rfl rfl ?_
    refine Lq.pass rfl rfl rfl ?_
    refine Lq.pass rfl rfl rfl ?_
    refine Lq.pass rfl rfl rfl ?_
    refine Lq.pass rfl rfl rfl ?_
    refine Lq.pass rfl rfl rfl ?_
    refine Lq.pass rfl rfl rfl ?_
    refine Lq.pass rfl rfl rfl ?_
    refine Lq.pass rfl rfl rfl ?_
    refine Lq.pass rfl rfl rfl ?_
    refine Lq.pass rfl rfl rfl ?_
    refine Lq.pass rfl rfl rfl ?_
    refine Lq.pass rfl rfl rfl ?_
    refine Lq.pass rfl rfl rfl ?_
    refine Lq.pass rfl rfl rfl ?_
    refine Lq.pass rfl rfl rfl ?_
    refine Lq.pass rfl rfl rfl ?_
    refine Lq.run 2 rfl ?_
    refine Lq.nil ?_
    refine Kt.sel [3, 4, 5, 6, 7, 64] [_, _, _, _, _, _] rfl ?_
    refine Wk.condF rfl ?_
    refine Wk.skip ?_
    refine Kt.sel [3, 4, 5, 6, 7] [_, _, _, _, _] rfl ?_
    refine Wk.seq ?_
    refine Wk.region ?_
    refine Ll.slice (xs := []) (vs := []) Base.elem25 rfl rfl rfl rfl rfl rfl (by decide) rfl fun p72 hp72 => ?_
    refine Ll.slice (xs := []) (vs := []) Base.elem25 rfl rfl rfl rfl rfl rfl (by decide) rfl fun p73 hp73 => ?_
    refine Ll.run 2 rfl ?_
    refine Ll.nil ?_
    refine Kt.sel [3, 4, 5, 6, 7, 8, 9] [_, _, _, _, _, _, _] rfl ?_
    refine Wk.seq ?_
    refine Wk.regionQ ?_
    refine Lq.run 1 rfl ?_
    refine Lq.nil ?_
    refine Kt.sel [3, 4, 5, 6, 7, 8, 9, 10] [_, _, _, _, _, _, _, _] rfl ?_
    refine Wk.seq ?_
    refine Wk.seq ?_
    refine Wk.regionQ ?_
    refine Lq.run 1 rfl ?_
    refine Lq.nil ?_
    refine Kt.sel [3, 4, 5, 6, 7, 8, 9, 10, 11] [_, _, _, _, _, _, _, _, _] rfl ?_
    refine Wk.block ?_
    refine Wk.loop (σ := Nat × Nat × Nat × Array Value × Nat × Nat × Array Value) (fun ⟨k, g, c, u, g2, c2, u2⟩ => k ≤ xs17.length ∧ (u.size = c * 1 ∧ (offTo xs17 k).length ≤ c ∧ u.toList.take (offTo xs17 k).length = ints (offTo xs17 k)) ∧ (u2.size = c2 * 1 ∧ (offTo ys17 k).length ≤ c2 ∧ u2.toList.take (offTo ys17 k).length = ints (offTo ys17 k))) (fun ⟨k, g, c, u, g2, c2, u2⟩ => [(3, pt_ p3), (4, v17), (5, pt_ p5), (6, u17), (7, bo_ (fitB a17 xs17 b17 ys17)), (8, sl_ g ((offTo xs17 k).length) c), (9, sl_ g2 ((offTo ys17 k).length) c2), (10, bo_ (sameTo xs17 ys17 k)), (11, i6_ ((k : Int)))]) (fun ⟨k, g, c, u, g2, c2, u2⟩ => Own w.heap.size w (bk_ g2 u2 3 :: bk_ g u 3 :: bk_ p5 #[i6_ b17.n, str b17.set, str b17.rel] 24 :: bk_ p3 #[i6_ a17.n, str a17.set, str a17.rel] 24 :: (new17 ++ ([])))) (fun ⟨k, g, c, u, g2, c2, u2⟩ => xs17.length - k) ((0, p72, 0, #[], p73, 0, #[])) ⟨by omega, ⟨rfl, Nat.le_refl 0, rfl⟩, ⟨rfl, Nat.le_refl 0, rfl⟩⟩ (Sub.cons rfl (Sub.cons rfl (Sub.cons rfl (Sub.cons rfl (Sub.cons rfl (Sub.cons (by rfl) (Sub.cons (by rfl) (Sub.cons (by rfl) (Sub.sel [11] rfl))))))))) (fun _ h => h) ?_
    rintro ⟨k, g, c, u, g2, c2, u2⟩ ⟨hk, ⟨hcg, hlg, htg⟩, ⟨hcg2, hlg2, htg2⟩⟩
    dsimp only
    have hof1 := off_le xs17 k
    have hof2 := off_le ys17 k
    refine Wk.seq ?_
    refine Wk.seq ?_
    refine Wk.regionQ ?_
    refine Lq.run 2 rfl ?_
    refine Lq.op rfl rfl rfl (OpQ.lenRow rfl Tryd.runUnderlying25 rfl (ints_length _) (fun w1 hw1 => hIv17 _ (Own.dropR (Own.drop (f := [_, _, _, _]) hw1)))) ?_
    refine Lq.run 1 rfl ?_
    refine Lq.nil ?_
    refine Kt.sel [3, 4, 5, 6, 7, 8, 9, 10, 11, 77] [_, _, _, _, _, _, _, _, _, _] rfl ?_
    refine Wk.cond (b := decide (((k : Int)) < ((xs17.length : Int)))) rfl (fun h77 => ?_) (fun h77 => ?_)
    ·
     replace h77 := of_decide_eq_true h77
     refine Wk.skip ?_
     refine Kt.sel [3, 4, 5, 6, 7, 8, 9, 10, 11] [_, _, _, _, _, _, _, _, _] rfl ?_
     refine Wk.seq ?_
     refine Wk.block ?_
     refine Wk.seq ?_
     refine Wk.regionD Base.mixed (fun _ h => h.drawn) (by kernel_rfl) ?_
     refine Lq.run 2 rfl ?_
     refine Lq.bool fun b81 hg81 => ?_
     cases b81
     ·
      refine Lq.pass rfl rfl rfl ?_
      refine Lq.pass rfl rfl rfl ?_
      refine Lq.pass rfl rfl rfl ?_
      refine Lq.pass rfl rfl rfl ?_
      refine Lq.pass rfl rfl rfl ?_
      refine Lq.pass rfl rfl rfl ?_
      refine Lq.pass rfl rfl rfl ?_
      refine Lq.pass rfl rfl rfl ?_
      refine Lq.pass rfl rfl rfl ?_
      refine Lq.pass rfl rfl rfl ?_
      refine Lq.pass rfl rfl rfl ?_
      refine Lq.run 2 rfl ?_
      refine Lq.nil ?_
      refine Kt.sel [3, 4, 5, 6, 7, 8, 9, 10, 11] [_, _, _, _, _, _, _, _, _] rfl ?_
      refine Wk.seq ?_
      refine Wk.seq ?_
      refine Wk.regionQ ?_
      refine Lq.run 2 rfl ?_
      refine Lq.op (v := .pointer (some (sAt v17 ((k : Int))))) rfl rfl rfl (OpQ.atRow rfl Tryd.runUnderlying25 Tryd.sizeOf3 rfl rfl (by omega) (by rw [ints_length]; omega) (fun w1 hw1 => hIv17 _ (Own.dropR (Own.drop (f := [_, _, _, _]) hw1)))) ?_
      refine Lq.op (v := i6_ (xs17.getD (((k : Int)).toNat) 0)) rfl rfl rfl (OpQ.load1 rfl Tryd.isAgg3 rfl (fun w1 hw1 => Ints.cell (hIv17 _ (Own.dropR (Own.drop (f := [_, _, _, _]) hw1))) (by omega) (by omega))) ?_
      refine Lq.run 1 rfl ?_
      refine Lq.nil ?_
      refine Kt.sel [3, 4, 5, 6, 7, 8, 9, 10, 11, 98] [_, _, _, _, _, _, _, _, _, _] rfl ?_
      refine Wk.cond (b := !(decide ((xs17.getD (((k : Int)).toNat) 0) = (-1 : Int)))) rfl (fun h98 => ?_) (fun h98 => ?_)
      ·
       replace h98 := not_true h98
       replace h98 := of_decide_eq_false h98
       refine Wk.region ?_
       refine Ll.run 3 rfl ?_
       refine Ll.op (v := .pointer (some (sAt v17 ((k : Int))))) rfl rfl rfl (OpQ.atRow rfl Tryd.runUnderlying25 Tryd.sizeOf3 rfl rfl (by omega) (by rw [ints_length]; omega) (fun w1 hw1 => hIv17 _ (Own.dropR (Own.drop (f := [_, _, _, _]) hw1)))) ?_
       refine Ll.op (v := i6_ (xs17.getD (((k : Int)).toNat) 0)) rfl rfl rfl (OpQ.load1 rfl Tryd.isAgg3 rfl (fun w1 hw1 => Ints.cell (hIv17 _ (Own.dropR (Own.drop (f := [_, _, _, _]) hw1))) (by omega) (by omega))) ?_
       refine Ll.slice (xs := [.tmp 103]) (vs := [i6_ (xs17.getD (((k : Int)).toNat) 0)]) Base.elem25 rfl rfl rfl rfl rfl rfl (by decide) rfl fun p104 hp104 => ?_
       refine Ll.appendInts (xs := (offTo xs17 k)) (ys := [xs17.getD (((k : Int)).toNat) 0]) Base.elem25 2 rfl rfl rfl rfl rfl rfl rfl hcg hlg htg (fun w1 hw1 => (Own.row hw1 (i := 0) rfl (n := 1) (cap := 1) (vs := ints [xs17.getD (((k : Int)).toNat) 0]) rfl rfl (by decide))) ((((offTo xs17 k)) ++ ([xs17.getD (((k : Int)).toNat) 0])).length) (by first | (simp; done) | (simp; omega)) (by first | (simp; done) | (simp; omega) | omega) fun p105 cap105 cur105 hp105 hcp105 hlp105 htp105 => ?_
       show Ll _ _ (Own _ _ (_ :: _ :: _ :: _ :: _ :: (new17 ++ ([])))) _ _ ((105, sl_ p105 (((((offTo xs17 k)) ++ ([xs17.getD (((k : Int)).toNat) 0])).length)) cap105) :: _) _ _ _
       refine Ll.run 1 rfl ?_
       refine Ll.nil ?_
       refine Kt.sel [3, 4, 5, 6, 7, 8, 9, 10, 11] [_, _, _, _, _, _, _, _, _] rfl ?_
       refine Wk.seq ?_
       refine Wk.regionQ ?_
       refine Lq.run 2 rfl ?_
       refine Lq.op (v := .pointer (some (sAt u17 ((k : Int))))) rfl rfl rfl (OpQ.atRow rfl Tryd.runUnderlying25 Tryd.sizeOf3 rfl rfl (by omega) (by rw [ints_length]; omega) (fun w1 hw1 => hIu17 _ (Own.dropR (Own.drop (f := [_, _, _, _, _]) hw1)))) ?_
       refine Lq.op (v := i6_ (ys17.getD (((k : Int)).toNat) 0)) rfl rfl rfl (OpQ.load1 rfl Tryd.isAgg3 rfl (fun w1 hw1 => Ints.cell (hIu17 _ (Own.dropR (Own.drop (f := [_, _, _, _, _]) hw1))) (by omega) (by omega))) ?_
       refine Lq.run 1 rfl ?_
       refine Lq.nil ?_
       refine Kt.sel [3, 4, 5, 6, 7, 8, 9, 10, 11, 110] [_, _, _, _, _, _, _, _, _, _] rfl ?_
       refine Wk.cond (b := !(decide ((ys17.getD (((k : Int)).toNat) 0) = (-1 : Int)))) rfl (fun h110 => ?_) (fun h110 => ?_)
       ·
        replace h110 := not_true h110
        replace h110 := of_decide_eq_false h110
        refine Wk.region ?_
        refine Ll.run 3 rfl ?_
        refine Ll.op (v := .pointer (some (sAt u17 ((k : Int))))) rfl rfl rfl (OpQ.atRow rfl Tryd.runUnderlying25 Tryd.sizeOf3 rfl rfl (by omega) (by rw [ints_length]; omega) (fun w1 hw1 => hIu17 _ (Own.dropR (Own.drop (f := [_, _, _, _, _]) hw1)))) ?_
        refine Ll.op (v := i6_ (ys17.getD (((k : Int)).toNat) 0)) rfl rfl rfl (OpQ.load1 rfl Tryd.isAgg3 rfl (fun w1 hw1 => Ints.cell (hIu17 _ (Own.dropR (Own.drop (f := [_, _, _, _, _]) hw1))) (by omega) (by omega))) ?_
        refine Ll.slice (xs := [.tmp 115]) (vs := [i6_ (ys17.getD (((k : Int)).toNat) 0)]) Base.elem25 rfl rfl rfl rfl rfl rfl (by decide) rfl fun p116 hp116 => ?_
        refine Ll.appendInts (xs := (offTo ys17 k)) (ys := [ys17.getD (((k : Int)).toNat) 0]) Base.elem25 2 rfl rfl rfl rfl rfl rfl rfl hcg2 hlg2 htg2 (fun w1 hw1 => (Own.row hw1 (i := 0) rfl (n := 1) (cap := 1) (vs := ints [ys17.getD (((k : Int)).toNat) 0]) rfl rfl (by decide))) ((((offTo ys17 k)) ++ ([ys17.getD (((k : Int)).toNat) 0])).length) (by first | (simp; done) | (simp; omega)) (by first | (simp; done) | (simp; omega) | omega) fun p117 cap117 cur117 hp117 hcp117 hlp117 htp117 => ?_
        show Ll _ _ (Own _ _ (_ :: _ :: _ :: _ :: _ :: _ :: (new17 ++ ([])))) _ _ ((117, sl_ p117 (((((offTo ys17 k)) ++ ([ys17.getD (((k : Int)).toNat) 0])).length)) cap117) :: _) _ _ _
        refine Ll.run 1 rfl ?_
        refine Ll.nil ?_
        refine Kt.sel [3, 4, 5, 6, 7, 8, 9, 10, 11] [_, _, _, _, _, _, _, _, _] rfl ?_
        refine Wk.regionQ ?_
        refine Lq.run 1 rfl ?_
        refine Lq.op rfl rfl rfl (OpQ.add rfl rfl rfl (by omega) (by omega)) ?_
        refine Lq.run 1 rfl ?_
        refine Lq.nil ?_
        refine Kt.again ((k + 1, p105, cap105, cur105, p117, cap117, cur117)) ⟨by omega, ⟨by simpa using hcp105, by dsimp only; rw [off_yes (xs := xs17) (k := k) h98]; simpa using hlp105, by dsimp only; rw [off_yes (xs := xs17) (k := k) h98]; simpa using htp105⟩, ⟨by simpa using hcp117, by dsimp only; rw [off_yes (xs := ys17) (k := k) h110]; simpa using hlp117, by dsimp only; rw [off_yes (xs := ys17) (k := k) h110]; simpa using htp117⟩⟩ (by dsimp only; omega) (Sub.cons rfl (Sub.cons rfl (Sub.cons rfl (Sub.cons rfl (Sub.cons rfl (Sub.cons (by dsimp only; rw [off_yes (xs := xs17) (k := k) h98]; rfl) (Sub.cons (by dsimp only; rw [off_yes (xs := ys17) (k := k) h110]; rfl) (Sub.cons (by dsimp only; first | (rw [sameTo_yes hg81]; rfl) | (rw [sameTo_no hg81]; rfl)) (Sub.sel [11] rfl))))))))) (fun _ h => h.sub (List.Sublist.cons _ (List.Sublist.cons _ (List.Sublist.cons_cons _ (List.Sublist.cons_cons _ (List.Sublist.cons_cons _ (List.Sublist.cons_cons _ (List.Sublist.refl _))))))))
       ·
        replace h110 := not_false h110
        replace h110 := of_decide_eq_true h110
        refine Wk.skip ?_
        refine Kt.sel [3, 4, 5, 6, 7, 8, 9, 10, 11] [_, _, _, _, _, _, _, _, _] rfl ?_
        refine Wk.regionQ ?_
        refine Lq.run 1 rfl ?_
        refine Lq.op rfl rfl rfl (OpQ.add rfl rfl rfl (by omega) (by omega)) ?_
        refine Lq.run 1 rfl ?_
        refine Lq.nil ?_
        refine Kt.again ((k + 1, p105, cap105, cur105, g2, c2, u2)) ⟨by omega, ⟨by simpa using hcp105, by dsimp only; rw [off_yes (xs := xs17) (k := k) h98]; simpa using hlp105, by dsimp only; rw [off_yes (xs := xs17) (k := k) h98]; simpa using htp105⟩, ⟨hcg2, by dsimp only; rw [off_no (xs := ys17) (k := k) h110]; exact hlg2, by dsimp only; rw [off_no (xs := ys17) (k := k) h110]; exact htg2⟩⟩ (by dsimp only; omega) (Sub.cons rfl (Sub.cons rfl (Sub.cons rfl (Sub.cons rfl (Sub.cons rfl (Sub.cons (by dsimp only; rw [off_yes (xs := xs17) (k := k) h98]; rfl) (Sub.cons (by dsimp only; rw [off_no (xs := ys17) (k := k) h110]; rfl) (Sub.cons (by dsimp only; first | (rw [sameTo_yes hg81]; rfl) | (rw [sameTo_no hg81]; rfl)) (Sub.sel [11] rfl))))))))) (fun _ h => h.sub (List.Sublist.cons _ (List.Sublist.cons_cons _ (List.Sublist.cons_cons _ (List.Sublist.cons_cons _ (List.Sublist.cons_cons _ (List.Sublist.refl _)))))))
      ·
       replace h98 := not_false h98
       replace h98 := of_decide_eq_true h98
       refine Wk.skip ?_
       refine Kt.sel [3, 4, 5, 6, 7, 8, 9, 10, 11] [_, _, _, _, _, _, _, _, _] rfl ?_
       refine Wk.seq ?_
       refine Wk.regionQ ?_
       refine Lq.run 2 rfl ?_
       refine Lq.op (v := .pointer (some (sAt u17 ((k : Int))))) rfl rfl rfl (OpQ.atRow rfl Tryd.runUnderlying25 Tryd.sizeOf3 rfl rfl (by omega) (by rw [ints_length]; omega) (fun w1 hw1 => hIu17 _ (Own.dropR (Own.drop (f := [_, _, _, _]) hw1)))) ?_
       refine Lq.op (v := i6_ (ys17.getD (((k : Int)).toNat) 0)) rfl rfl rfl (OpQ.load1 rfl Tryd.isAgg3 rfl (fun w1 hw1 => Ints.cell (hIu17 _ (Own.dropR (Own.drop (f := [_, _, _, _]) hw1))) (by omega) (by omega))) ?_
       refine Lq.run 1 rfl ?_
       refine Lq.nil ?_
       refine Kt.sel [3, 4, 5, 6, 7, 8, 9, 10, 11, 110] [_, _, _, _, _, _, _, _, _, _] rfl ?_
       refine Wk.cond (b := !(decide ((ys17.getD (((k : Int)).toNat) 0) = (-1 : Int)))) rfl (fun h110_1 => ?_) (fun h110_1 => ?_)
       ·
        replace h110_1 := not_true h110_1
        replace h110_1 := of_decide_eq_false h110_1
        refine Wk.region ?_
        refine Ll.run 3 rfl ?_
        refine Ll.op (v := .pointer (some (sAt u17 ((k : Int))))) rfl rfl rfl (OpQ.atRow rfl Tryd.runUnderlying25 Tryd.sizeOf3 rfl rfl (by omega) (by rw [ints_length]; omega) (fun w1 hw1 => hIu17 _ (Own.dropR (Own.drop (f := [_, _, _, _]) hw1)))) ?_
        refine Ll.op (v := i6_ (ys17.getD (((k : Int)).toNat) 0)) rfl rfl rfl (OpQ.load1 rfl Tryd.isAgg3 rfl (fun w1 hw1 => Ints.cell (hIu17 _ (Own.dropR (Own.drop (f := [_, _, _, _]) hw1))) (by omega) (by omega))) ?_
        refine Ll.slice (xs := [.tmp 115]) (vs := [i6_ (ys17.getD (((k : Int)).toNat) 0)]) Base.elem25 rfl rfl rfl rfl rfl rfl (by decide) rfl fun p116_1 hp116_1 => ?_
        refine Ll.appendInts (xs := (offTo ys17 k)) (ys := [ys17.getD (((k : Int)).toNat) 0]) Base.elem25 1 rfl rfl rfl rfl rfl rfl rfl hcg2 hlg2 htg2 (fun w1 hw1 => (Own.row hw1 (i := 0) rfl (n := 1) (cap := 1) (vs := ints [ys17.getD (((k : Int)).toNat) 0]) rfl rfl (by decide))) ((((offTo ys17 k)) ++ ([ys17.getD (((k : Int)).toNat) 0])).length) (by first | (simp; done) | (simp; omega)) (by first | (simp; done) | (simp; omega) | omega) fun p117_1 cap117_1 cur117_1 hp117_1 hcp117_1 hlp117_1 htp117_1 => ?_
        show Ll _ _ (Own _ _ (_ :: _ :: _ :: _ :: _ :: (new17 ++ ([])))) _ _ ((117, sl_ p117_1 (((((offTo ys17 k)) ++ ([ys17.getD (((k : Int)).toNat) 0])).length)) cap117_1) :: _) _ _ _
        refine Ll.run 1 rfl ?_
        refine Ll.nil ?_
        refine Kt.sel [3, 4, 5, 6, 7, 8, 9, 10, 11] [_, _, _, _, _, _, _, _, _] rfl ?_
        refine Wk.regionQ ?_
        refine Lq.run 1 rfl ?_
        refine Lq.op rfl rfl rfl (OpQ.add rfl rfl rfl (by omega) (by omega)) ?_
        refine Lq.run 1 rfl ?_
        refine Lq.nil ?_
        refine Kt.again ((k + 1, g, c, u, p117_1, cap117_1, cur117_1)) ⟨by omega, ⟨hcg, by dsimp only; rw [off_no (xs := xs17) (k := k) h98]; exact hlg, by dsimp only; rw [off_no (xs := xs17) (k := k) h98]; exact htg⟩, ⟨by simpa using hcp117_1, by dsimp only; rw [off_yes (xs := ys17) (k := k) h110_1]; simpa using hlp117_1, by dsimp only; rw [off_yes (xs := ys17) (k := k) h110_1]; simpa using htp117_1⟩⟩ (by dsimp only; omega) (Sub.cons rfl (Sub.cons rfl (Sub.cons rfl (Sub.cons rfl (Sub.cons rfl (Sub.cons (by dsimp only; rw [off_no (xs := xs17) (k := k) h98]; rfl) (Sub.cons (by dsimp only; rw [off_yes (xs := ys17) (k := k) h110_1]; rfl) (Sub.cons (by dsimp only; first | (rw [sameTo_yes hg81]; rfl) | (rw [sameTo_no hg81]; rfl)) (Sub.sel [11] rfl))))))))) (fun _ h => h.sub (List.Sublist.cons _ (List.Sublist.cons_cons _ (List.Sublist.cons_cons _ (List.Sublist.cons_cons _ (List.Sublist.cons_cons _ (List.Sublist.refl _)))))))
       ·
        replace h110_1 := not_false h110_1
        replace h110_1 := of_decide_eq_true h110_1
        refine Wk.skip ?_
        refine Kt.sel [3, 4, 5, 6, 7, 8, 9, 10, 11] [_, _, _, _, _, _, _, _, _] rfl ?_
        refine Wk.regionQ ?_
        refine Lq.run 1 rfl ?_
        refine Lq.op rfl rfl rfl (OpQ.add rfl rfl rfl (by omega) (by omega)) ?_
        refine Lq.run 1 rfl ?_
        refine Lq.nil ?_
        refine Kt.again ((k + 1, g, c, u, g2, c2, u2)) ⟨by omega, ⟨hcg, by dsimp only; rw [off_no (xs := xs17) (k := k) h98]; exact hlg, by dsimp only; rw [off_no (xs := xs17) (k := k) h98]; exact htg⟩, ⟨hcg2, by dsimp only; rw [off_no (xs := ys17) (k := k) h110_1]; exact hlg2, by dsimp only; rw [off_no (xs := ys17) (k := k) h110_1]; exact htg2⟩⟩ (by dsimp only; omega) (Sub.cons rfl (Sub.cons rfl (Sub.cons rfl (Sub.cons rfl (Sub.cons rfl (Sub.cons (by dsimp only; rw [off_no (xs := xs17) (k := k) h98]; rfl) (Sub.cons (by dsimp only; rw [off_no (xs := ys17) (k := k) h110_1]; rfl) (Sub.cons (by dsimp only; first | (rw [sameTo_yes hg81]; rfl) | (rw [sameTo_no hg81]; rfl)) (Sub.sel [11] rfl))))))))) (fun _ h => h.sub (List.Sublist.cons_cons _ (List.Sublist.cons_cons _ (List.Sublist.cons_cons _ (List.Sublist.cons_cons _ (List.Sublist.refl _))))))
     ·
      refine Lq.run 2 rfl ?_
      refine Lq.op (v := .pointer (some (sAt v17 ((k : Int))))) rfl rfl rfl (OpQ.atRow rfl Tryd.runUnderlying25 Tryd.sizeOf3 rfl rfl (by omega) (by rw [ints_length]; omega) (fun w1 hw1 => hIv17 _ (Own.dropR (Own.drop (f := [_, _, _, _]) hw1)))) ?_
      refine Lq.op (v := i6_ (xs17.getD (((k : Int)).toNat) 0)) rfl rfl rfl (OpQ.load1 rfl Tryd.isAgg3 rfl (fun w1 hw1 => Ints.cell (hIv17 _ (Own.dropR (Own.drop (f := [_, _, _, _]) hw1))) (by omega) (by omega))) ?_
      refine Lq.run 3 rfl ?_
      refine Lq.op (v := .pointer (some (sAt u17 ((k : Int))))) rfl rfl rfl (OpQ.atRow rfl Tryd.runUnderlying25 Tryd.sizeOf3 rfl rfl (by omega) (by rw [ints_length]; omega) (fun w1 hw1 => hIu17 _ (Own.dropR (Own.drop (f := [_, _, _, _]) hw1)))) ?_
      refine Lq.op (v := i6_ (ys17.getD (((k : Int)).toNat) 0)) rfl rfl rfl (OpQ.load1 rfl Tryd.isAgg3 rfl (fun w1 hw1 => Ints.cell (hIu17 _ (Own.dropR (Own.drop (f := [_, _, _, _]) hw1))) (by omega) (by omega))) ?_
      refine Lq.run 1 rfl ?_
      refine Lq.op rfl rfl rfl (OpQ.beq rfl Tryd.runUnderlying4 rfl rfl) ?_
      refine Lq.run 2 rfl ?_
      refine Lq.nil ?_
      refine Kt.sel [3, 4, 5, 6, 7, 8, 9, 10, 11] [_, _, _, _, _, _, _, _, _] rfl ?_
      refine Wk.seq ?_
      refine Wk.seq ?_
      refine Wk.regionQ ?_
      refine Lq.run 2 rfl ?_
      refine Lq.op (v := .pointer (some (sAt v17 ((k : Int))))) rfl rfl rfl (OpQ.atRow rfl Tryd.runUnderlying25 Tryd.sizeOf3 rfl rfl (by omega) (by rw [ints_length]; omega) (fun w1 hw1 => hIv17 _ (Own.dropR (Own.drop (f := [_, _, _, _]) hw1)))) ?_
      refine Lq.op (v := i6_ (xs17.getD (((k : Int)).toNat) 0)) rfl rfl rfl (OpQ.load1 rfl Tryd.isAgg3 rfl (fun w1 hw1 => Ints.cell (hIv17 _ (Own.dropR (Own.drop (f := [_, _, _, _]) hw1))) (by omega) (by omega))) ?_
      refine Lq.run 1 rfl ?_
      refine Lq.nil ?_
      refine Kt.sel [3, 4, 5, 6, 7, 8, 9, 10, 11, 98] [_, _, _, _, _, _, _, _, _, _] rfl ?_
      refine Wk.cond (b := !(decide ((xs17.getD (((k : Int)).toNat) 0) = (-1 : Int)))) rfl (fun h98_1 => ?_) (fun h98_1 => ?_)
      ·
       replace h98_1 := not_true h98_1
       replace h98_1 := of_decide_eq_false h98_1
       refine Wk.region ?_
       refine Ll.run 3 rfl ?_
       refine Ll.op (v := .pointer (some (sAt v17 ((k : Int))))) rfl rfl rfl (OpQ.atRow rfl Tryd.runUnderlying25 Tryd.sizeOf3 rfl rfl (by omega) (by rw [ints_length]; omega) (fun w1 hw1 => hIv17 _ (Own.dropR (Own.drop (f := [_, _, _, _]) hw1)))) ?_
       refine Ll.op (v := i6_ (xs17.getD (((k : Int)).toNat) 0)) rfl rfl rfl (OpQ.load1 rfl Tryd.isAgg3 rfl (fun w1 hw1 => Ints.cell (hIv17 _ (Own.dropR (Own.drop (f := [_, _, _, _]) hw1))) (by omega) (by omega))) ?_
       refine Ll.slice (xs := [.tmp 103]) (vs := [i6_ (xs17.getD (((k : Int)).toNat) 0)]) Base.elem25 rfl rfl rfl rfl rfl rfl (by decide) rfl fun p104_1 hp104_1 => ?_
       refine Ll.appendInts (xs := (offTo xs17 k)) (ys := [xs17.getD (((k : Int)).toNat) 0]) Base.elem25 2 rfl rfl rfl rfl rfl rfl rfl hcg hlg htg (fun w1 hw1 => (Own.row hw1 (i := 0) rfl (n := 1) (cap := 1) (vs := ints [xs17.getD (((k : Int)).toNat) 0]) rfl rfl (by decide))) ((((offTo xs17 k)) ++ ([xs17.getD (((k : Int)).toNat) 0])).length) (by first | (simp; done) | (simp; omega)) (by first | (simp; done) | (simp; omega) | omega) fun p105_1 cap105_1 cur105_1 hp105_1 hcp105_1 hlp105_1 htp105_1 => ?_
       show Ll _ _ (Own _ _ (_ :: _ :: _ :: _ :: _ :: (new17 ++ ([])))) _ _ ((105, sl_ p105_1 (((((offTo xs17 k)) ++ ([xs17.getD (((k : Int)).toNat) 0])).length)) cap105_1) :: _) _ _ _
       refine Ll.run 1 rfl ?_
       refine Ll.nil ?_
       refine Kt.sel [3, 4, 5, 6, 7, 8, 9, 10, 11] [_, _, _, _, _, _, _, _, _] rfl ?_
       refine Wk.seq ?_
       refine Wk.regionQ ?_
       refine Lq.run 2 rfl ?_
       refine Lq.op (v := .pointer (some (sAt u17 ((k : Int))))) rfl rfl rfl (OpQ.atRow rfl Tryd.runUnderlying25 Tryd.sizeOf3 rfl rfl (by omega) (by rw [ints_length]; omega) (fun w1 hw1 => hIu17 _ (Own.dropR (Own.drop (f := [_, _, _, _, _]) hw1)))) ?_
       refine Lq.op (v := i6_ (ys17.getD (((k : Int)).toNat) 0)) rfl rfl rfl (OpQ.load1 rfl Tryd.isAgg3 rfl (fun w1 hw1 => Ints.cell (hIu17 _ (Own.dropR (Own.drop (f := [_, _, _, _, _]) hw1))) (by omega) (by omega))) ?_
       refine Lq.run 1 rfl ?_
       refine Lq.nil ?_
       refine Kt.sel [3, 4, 5, 6, 7, 8, 9, 10, 11, 110] [_, _, _, _, _, _, _, _, _, _] rfl ?_
       refine Wk.cond (b := !(decide ((ys17.getD (((k : Int)).toNat) 0) = (-1 : Int)))) rfl (fun h110_2 => ?_) (fun h110_2 => ?_)
       ·
        replace h110_2 := not_true h110_2
        replace h110_2 := of_decide_eq_false h110_2
        refine Wk.region ?_
        refine Ll.run 3 rfl ?_
        refine Ll.op (v := .pointer (some (sAt u17 ((k : Int))))) rfl rfl rfl (OpQ.atRow rfl Tryd.runUnderlying25 Tryd.sizeOf3 rfl rfl (by omega) (by rw [ints_length]; omega) (fun w1 hw1 => hIu17 _ (Own.dropR (Own.drop (f := [_, _, _, _, _]) hw1)))) ?_
        refine Ll.op (v := i6_ (ys17.getD (((k : Int)).toNat) 0)) rfl rfl rfl (OpQ.load1 rfl Tryd.isAgg3 rfl (fun w1 hw1 => Ints.cell (hIu17 _ (Own.dropR (Own.drop (f := [_, _, _, _, _]) hw1))) (by omega) (by omega))) ?_
        refine Ll.slice (xs := [.tmp 115]) (vs := [i6_ (ys17.getD (((k : Int)).toNat) 0)]) Base.elem25 rfl rfl rfl rfl rfl rfl (by decide) rfl fun p116_2 hp116_2 => ?_
        refine Ll.appendInts (xs := (offTo ys17 k)) (ys := [ys17.getD (((k : Int)).toNat) 0]) Base.elem25 2 rfl rfl rfl rfl rfl rfl rfl hcg2 hlg2 htg2 (fun w1 hw1 => (Own.row hw1 (i := 0) rfl (n := 1) (cap := 1) (vs := ints [ys17.getD (((k : Int)).toNat) 0]) rfl rfl (by decide))) ((((offTo ys17 k)) ++ ([ys17.getD (((k : Int)).toNat) 0])).length) (by first | (simp; done) | (simp; omega)) (by first | (simp; done) | (simp; omega) | omega) fun p117_2 cap117_2 cur117_2 hp117_2 hcp117_2 hlp117_2 htp117_2 => ?_
        show Ll _ _ (Own _ _ (_ :: _ :: _ :: _ :: _ :: _ :: (new17 ++ ([])))) _ _ ((117, sl_ p117_2 (((((offTo ys17 k)) ++ ([ys17.getD (((k : Int)).toNat) 0])).length)) cap117_2) :: _) _ _ _
        refine Ll.run 1 rfl ?_
        refine Ll.nil ?_
        refine Kt.sel [3, 4, 5, 6, 7, 8, 9, 10, 11] [_, _, _, _, _, _, _, _, _] rfl ?_
        refine Wk.regionQ ?_
        refine Lq.run 1 rfl ?_
        refine Lq.op rfl rfl rfl (OpQ.add rfl rfl rfl (by omega) (by omega)) ?_
        refine Lq.run 1 rfl ?_
        refine Lq.nil ?_
        refine Kt.again ((k + 1, p105_1, cap105_1, cur105_1, p117_2, cap117_2, cur117_2)) ⟨by omega, ⟨by simpa using hcp105_1, by dsimp only; rw [off_yes (xs := xs17) (k := k) h98_1]; simpa using hlp105_1, by dsimp only; rw [off_yes (xs := xs17) (k := k) h98_1]; simpa using htp105_1⟩, ⟨by simpa using hcp117_2, by dsimp only; rw [off_yes (xs := ys17) (k := k) h110_2]; simpa using hlp117_2, by dsimp only; rw [off_yes (xs := ys17) (k := k) h110_2]; simpa using htp117_2⟩⟩ (by dsimp only; omega) (Sub.cons rfl (Sub.cons rfl (Sub.cons rfl (Sub.cons rfl (Sub.cons rfl (Sub.cons (by dsimp only; rw [off_yes (xs := xs17) (k := k) h98_1]; rfl) (Sub.cons (by dsimp only; rw [off_yes (xs := ys17) (k := k) h110_2]; rfl) (Sub.cons (by dsimp only; first | (rw [sameTo_yes hg81]; rfl) | (rw [sameTo_no hg81]; rfl)) (Sub.sel [11] rfl))))))))) (fun _ h => h.sub (List.Sublist.cons _ (List.Sublist.cons _ (List.Sublist.cons_cons _ (List.Sublist.cons_cons _ (List.Sublist.cons_cons _ (List.Sublist.cons_cons _ (List.Sublist.refl _))))))))
       ·
        replace h110_2 := not_false h110_2
        replace h110_2 := of_decide_eq_true h110_2
        refine Wk.skip ?_
        refine Kt.sel [3, 4, 5, 6, 7, 8, 9, 10, 11] [_, _, _, _, _, _, _, _, _] rfl ?_
        refine Wk.regionQ ?_
        refine Lq.run 1 rfl ?_
        refine Lq.op rfl rfl rfl (OpQ.add rfl rfl rfl (by omega) (by omega)) ?_
        refine Lq.run 1 rfl ?_
        refine Lq.nil ?_
        refine Kt.again ((k + 1, p105_1, cap105_1, cur105_1, g2, c2, u2)) ⟨by omega, ⟨by simpa using hcp105_1, by dsimp only; rw [off_yes (xs := xs17) (k := k) h98_1]; simpa using hlp105_1, by dsimp only; rw [off_yes (xs := xs17) (k := k) h98_1]; simpa using htp105_1⟩, ⟨hcg2, by dsimp only; rw [off_no (xs := ys17) (k := k) h110_2]; exact hlg2, by dsimp only; rw [off_no (xs := ys17) (k := k) h110_2]; exact htg2⟩⟩ (by dsimp only; omega) (Sub.cons rfl (Sub.cons rfl (Sub.cons rfl (Sub.cons rfl (Sub.cons rfl (Sub.cons (by dsimp only; rw [off_yes (xs := xs17) (k := k) h98_1]; rfl) (Sub.cons (by dsimp only; rw [off_no (xs := ys17) (k := k) h110_2]; rfl) (Sub.cons (by dsimp only; first | (rw [sameTo_yes hg81]; rfl) | (rw [sameTo_no hg81]; rfl)) (Sub.sel [11] rfl))))))))) (fun _ h => h.sub (List.Sublist.cons _ (List.Sublist.cons_cons _ (List.Sublist.cons_cons _ (List.Sublist.cons_cons _ (List.Sublist.cons_cons _ (List.Sublist.refl _)))))))
      ·
       replace h98_1 := not_false h98_1
       replace h98_1 := of_decide_eq_true h98_1
       refine Wk.skip ?_
       refine Kt.sel [3, 4, 5, 6, 7, 8, 9, 10, 11] [_, _, _, _, _, _, _, _, _] rfl ?_
       refine Wk.seq ?_
       refine Wk.regionQ ?_
       refine Lq.run 2 rfl ?_
       refine Lq.op (v := .pointer (some (sAt u17 ((k : Int))))) rfl rfl rfl (OpQ.atRow rfl Tryd.runUnderlying25 Tryd.sizeOf3 rfl rfl (by omega) (by rw [ints_length]; omega) (fun w1 hw1 => hIu17 _ (Own.dropR (Own.drop (f := [_, _, _, _]) hw1)))) ?_
       refine Lq.op (v := i6_ (ys17.getD (((k : Int)).toNat) 0)) rfl rfl rfl (OpQ.load1 rfl Tryd.isAgg3 rfl (fun w1 hw1 => Ints.cell (hIu17 _ (Own.dropR (Own.drop (f := [_, _, _, _]) hw1))) (by omega) (by omega))) ?_
       refine Lq.run 1 rfl ?_
       refine Lq.nil ?_
       refine Kt.sel [3, 4, 5, 6, 7, 8, 9, 10, 11, 110] [_, _, _, _, _, _, _, _, _, _] rfl ?_
       refine Wk.cond (b := !(decide ((ys17.getD (((k : Int)).toNat) 0) = (-1 : Int)))) rfl (fun h110_3 => ?_) (fun h110_3 => ?_)
       ·
        replace h110_3 := not_true h110_3
        replace h110_3 := of_decide_eq_false h110_3
        refine Wk.region ?_
        refine Ll.run 3 rfl ?_
        refine Ll.op (v := .pointer (some (sAt u17 ((k : Int))))) rfl rfl rfl (OpQ.atRow rfl Tryd.runUnderlying25 Tryd.sizeOf3 rfl rfl (by omega) (by rw [ints_length]; omega) (fun w1 hw1 => hIu17 _ (Own.dropR (Own.drop (f := [_, _, _, _]) hw1)))) ?_
        refine Ll.op (v := i6_ (ys17.getD (((k : Int)).toNat) 0)) rfl rfl rfl (OpQ.load1 rfl Tryd.isAgg3 rfl (fun w1 hw1 => Ints.cell (hIu17 _ (Own.dropR (Own.drop (f := [_, _, _, _]) hw1))) (by omega) (by omega))) ?_
        refine Ll.slice (xs := [.tmp 115]) (vs := [i6_ (ys17.getD (((k : Int)).toNat) 0)]) Base.elem25 rfl rfl rfl rfl rfl rfl (by decide) rfl fun p116_3 hp116_3 => ?_
        refine Ll.appendInts (xs := (offTo ys17 k)) (ys := [ys17.getD (((k : Int)).toNat) 0]) Base.elem25 1 rfl rfl rfl rfl rfl rfl rfl hcg2 hlg2 htg2 (fun w1 hw1 => (Own.row hw1 (i := 0) rfl (n := 1) (cap := 1) (vs := ints [ys17.getD (((k : Int)).toNat) 0]) rfl rfl (by decide))) ((((offTo ys17 k)) ++ ([ys17.getD (((k : Int)).toNat) 0])).length) (by first | (simp; done) | (simp; omega)) (by first | (simp; done) | (simp; omega) | omega) fun p117_3 cap117_3 cur117_3 hp117_3 hcp117_3 hlp117_3 htp117_3 => ?_
        show Ll _ _ (Own _ _ (_ :: _ :: _ :: _ :: _ :: (new17 ++ ([])))) _ _ ((117, sl_ p117_3 (((((offTo ys17 k)) ++ ([ys17.getD (((k : Int)).toNat) 0])).length)) cap117_3) :: _) _ _ _
        refine Ll.run 1 rfl ?_
        refine Ll.nil ?_
        refine Kt.sel [3, 4, 5, 6, 7, 8, 9, 10, 11] [_, _, _, _, _, _, _, _, _] rfl ?_
        refine Wk.regionQ ?_
        refine Lq.run 1 rfl ?_
        refine Lq.op rfl rfl rfl (OpQ.add rfl rfl rfl (by omega) (by omega)) ?_
        refine Lq.run 1 rfl ?_
        refine Lq.nil ?_
        refine Kt.again ((k + 1, g, c, u, p117_3, cap117_3, cur117_3)) ⟨by omega, ⟨hcg, by dsimp only; rw [off_no (xs := xs17) (k := k) h98_1]; exact hlg, by dsimp only; rw [off_no (xs := xs17) (k := k) h98_1]; exact htg⟩, ⟨by simpa using hcp117_3, by dsimp only; rw [off_yes (xs := ys17) (k := k) h110_3]; simpa using hlp117_3, by dsimp only; rw [off_yes (xs := ys17) (k := k) h110_3]; simpa using htp117_3⟩⟩ (by dsimp only; omega) (Sub.cons rfl (Sub.cons rfl (Sub.cons rfl (Sub.cons rfl (Sub.cons rfl (Sub.cons (by dsimp only; rw [off_no (xs := xs17) (k := k) h98_1]; rfl) (Sub.cons (by dsimp only; rw [off_yes (xs := ys17) (k := k) h110_3]; rfl) (Sub.cons (by dsimp only; first | (rw [sameTo_yes hg81]; rfl) | (rw [sameTo_no hg81]; rfl)) (Sub.sel [11] rfl))))))))) (fun _ h => h.sub (List.Sublist.cons _ (List.Sublist.cons_cons _ (List.Sublist.cons_cons _ (List.Sublist.cons_cons _ (List.Sublist.cons_cons _ (List.Sublist.refl _)))))))
       ·
        replace h110_3 := not_false h110_3
        replace h110_3 := of_decide_eq_true h110_3
        refine Wk.skip ?_
        refine Kt.sel [3, 4, 5, 6, 7, 8, 9, 10, 11] [_, _, _, _, _, _, _, _, _] rfl ?_
        refine Wk.regionQ ?_
        refine Lq.run 1 rfl ?_
        refine Lq.op rfl rfl rfl (OpQ.add rfl rfl rfl (by omega) (by omega)) ?_
        refine Lq.run 1 rfl ?_
        refine Lq.nil ?_
        refine Kt.again ((k + 1, g, c, u, g2, c2, u2)) ⟨by omega, ⟨hcg, by dsimp only; rw [off_no (xs := xs17) (k := k) h98_1]; exact hlg, by dsimp only; rw [off_no (xs := xs17) (k := k) h98_1]; exact htg⟩, ⟨hcg2, by dsimp only; rw [off_no (xs := ys17) (k := k) h110_3]; exact hlg2, by dsimp only; rw [off_no (xs := ys17) (k := k) h110_3]; exact htg2⟩⟩ (by dsimp only; omega) (Sub.cons rfl (Sub.cons rfl (Sub.cons rfl (Sub.cons rfl (Sub.cons rfl (Sub.cons (by dsimp only; rw [off_no (xs := xs17) (k := k) h98_1]; rfl) (Sub.cons (by dsimp only; rw [off_no (xs := ys17) (k := k) h110_3]; rfl) (Sub.cons (by dsimp only; first | (rw [sameTo_yes hg81]; rfl) | (rw [sameTo_no hg81]; rfl)) (Sub.sel [11] rfl))))))))) (fun _ h => h.sub (List.Sublist.cons_cons _ (List.Sublist.cons_cons _ (List.Sublist.cons_cons _ (List.Sublist.cons_cons _ (List.Sublist.refl _))))))
    ·
     replace h77 := of_decide_eq_false h77
     have hkx : k = xs17.length := by omega
     refine Wk.exit rfl ?_
     refine Kt.sel [3, 4, 5, 6, 7, 8, 9, 10] [_, _, _, _, _, _, _, _] rfl ?_
     refine Wk.seq ?_
     refine Wk.regionQ ?_
     refine Lq.run 3 rfl ?_
     refine Lq.bool fun b120 hg120 => ?_
     cases b120
     ·
      refine Lq.pass rfl rfl rfl ?_
      refine Lq.pass rfl rfl rfl ?_
      refine Lq.pass rfl rfl rfl ?_
      refine Lq.pass rfl rfl rfl ?_
      refine Lq.pass rfl rfl rfl ?_
      refine Lq.run 1 rfl ?_
      refine Lq.op rfl rfl rfl (OpQ.beq rfl Tryd.runUnderlying4 rfl rfl) ?_
      refine Lq.run 1 rfl ?_
      refine Lq.bool fun b128 hg128 => ?_
      cases b128
      ·
       exact absurd hg128 (by first | (rw [peb_law hpre, ← hkx, (by assumption : sameTo xs17 ys17 k = true), Bool.true_and, beq_self_eq_true]; decide) | (rw [peb_law hpre, ← hkx, (by assumption : sameTo xs17 ys17 k = false)]; simp))
      ·
       refine Lq.op rfl rfl rfl (OpQ.loadBox (cs := #[i6_ b17.n, str b17.set, str b17.rel]) 2 rfl Tryd.isAgg24 rfl rfl Tryd.sizeOf24) ?_
       refine Lq.run 1 rfl ?_
       refine Lq.op rfl rfl rfl (OpQ.loadBox (cs := #[i6_ a17.n, str a17.set, str a17.rel]) 3 rfl Tryd.isAgg24 rfl rfl Tryd.sizeOf24) ?_
       refine Lq.run 1 rfl ?_
       refine Lq.op (v := bo_ (fitB b17 ys17 a17 xs17)) rfl rfl rfl (OpQ.call rfl Tryd.call16 rfl Own.stable (fun w1 hw1 => iFit_ok b17 a17 ys17 xs17 u17 v17 w1 hsb17 hsa17 (hIu17 _ (Own.dropR (Own.drop (f := [_, _, _, _]) hw1))) (hIv17 _ (Own.dropR (Own.drop (f := [_, _, _, _]) hw1))) (by first | (simp; done) | (simp; omega) | omega) (by first | (simp; done) | (simp; omega) | omega))) ?_
       refine Lq.run 1 rfl ?_
       refine Lq.op rfl rfl rfl (OpQ.beq rfl Tryd.runUnderlying4 rfl rfl) ?_
       refine Lq.run 2 rfl ?_
       refine Lq.nil ?_
       refine Kt.sel [2] [_] rfl ?_
       refine Wk.ret (Kt.end1 rfl rfl fun w' hw => ?_)
       -- ret 1: bo_ ((fitB b17 ys17 a17 xs17) == (fitB a17 xs17 b17 ys17))
       exact ⟨ret_b (by first | rfl | (simp_all; done) | (rw [fit_comm]; exact beq_self_eq_true _)), hw.below⟩
     ·
      refine Lq.op rfl rfl rfl (OpQ.loadBox (cs := #[i6_ a17.n, str a17.set, str a17.rel]) 3 rfl Tryd.isAgg24 rfl rfl Tryd.sizeOf24) ?_
      refine Lq.run 1 rfl ?_
      refine Lq.op rfl rfl rfl (OpQ.loadBox (cs := #[i6_ b17.n, str b17.set, str b17.rel]) 2 rfl Tryd.isAgg24 rfl rfl Tryd.sizeOf24) ?_
      refine Lq.run 1 rfl ?_
      refine Lq.op (v := bo_ (wayB a17 ((offTo xs17 k)) b17 ((offTo ys17 k)))) rfl rfl rfl (OpQ.call rfl Tryd.call19 rfl Own.stable (fun w1 hw1 => iPart_ok a17 b17 ((offTo xs17 k)) ((offTo ys17 k)) (sl_ g ((offTo xs17 k).length) c) (sl_ g2 ((offTo ys17 k).length) c2) w1 hsa17 hsb17 (Own.row hw1 (i := 1) rfl htg (by simp) hlg) (Own.row hw1 (i := 0) rfl htg2 (by simp) hlg2) (by first | (simp; done) | (simp; omega) | omega) (by first | (simp; done) | (simp; omega) | omega))) ?_
      refine Lq.run 1 rfl ?_
      refine Lq.op rfl rfl rfl (OpQ.beq rfl Tryd.runUnderlying4 rfl rfl) ?_
      refine Lq.run 1 rfl ?_
      refine Lq.bool fun b128 hg128_1 => ?_
      cases b128
      ·
       exact absurd hg128_1 (by first | (rw [peb_law hpre, ← hkx, (by assumption : sameTo xs17 ys17 k = true), Bool.true_and, beq_self_eq_true]; decide) | (rw [peb_law hpre, ← hkx, (by assumption : sameTo xs17 ys17 k = false)]; simp))
      ·
       refine Lq.op rfl rfl rfl (OpQ.loadBox (cs := #[i6_ b17.n, str b17.set, str b17.rel]) 2 rfl Tryd.isAgg24 rfl rfl Tryd.sizeOf24) ?_
       refine Lq.run 1 rfl ?_
       refine Lq.op rfl rfl rfl (OpQ.loadBox (cs := #[i6_ a17.n, str a17.set, str a17.rel]) 3 rfl Tryd.isAgg24 rfl rfl Tryd.sizeOf24) ?_
       refine Lq.run 1 rfl ?_
       refine Lq.op (v := bo_ (fitB b17 ys17 a17 xs17)) rfl rfl rfl (OpQ.call rfl Tryd.call16 rfl Own.stable (fun w1 hw1 => iFit_ok b17 a17 ys17 xs17 u17 v17 w1 hsb17 hsa17 (hIu17 _ (Own.dropR (Own.drop (f := [_, _, _, _]) hw1))) (hIv17 _ (Own.dropR (Own.drop (f := [_, _, _, _]) hw1))) (by first | (simp; done) | (simp; omega) | omega) (by first | (simp; done) | (simp; omega) | omega))) ?_
       refine Lq.run 1 rfl ?_
       refine Lq.op rfl rfl rfl (OpQ.beq rfl Tryd.runUnderlying4 rfl rfl) ?_
       refine Lq.run 2 rfl ?_
       refine Lq.nil ?_
       refine Kt.sel [2] [_] rfl ?_
       refine Wk.ret (Kt.end1 rfl rfl fun w' hw => ?_)
       -- ret 2: bo_ ((fitB b17 ys17 a17 xs17) == (fitB a17 xs17 b17 ys17))
       exact ⟨ret_b (by first | rfl | (simp_all; done) | (rw [fit_comm]; exact beq_self_eq_true _)), hw.below⟩
   ·
    replace hg37 := not_true hg37
    refine Lq.op rfl rfl rfl (OpQ.loadBox (cs := #[i6_ a17.n, str a17.set, str a17.rel]) 1 rfl Tryd.isAgg24 rfl rfl Tryd.sizeOf24) ?_
    refine Lq.op (v := bo_ (validB a17)) rfl rfl rfl (OpQ.call rfl Tryd.call18 rfl Own.stable (fun w1 hw1 => iValid_ok a17 w1 hsa17)) ?_
    refine Lq.run 2 rfl ?_
    refine Lq.bool fun b41 hg41 => ?_
    cases b41
    ·
     replace hg41 := not_false hg41
     refine Lq.op rfl rfl rfl (OpQ.loadBox (cs := #[i6_ b17.n, str b17.set, str b17.rel]) 0 rfl Tryd.isAgg24 rfl rfl Tryd.sizeOf24) ?_
     refine Lq.op (v := bo_ (validB b17)) rfl rfl rfl (OpQ.call rfl Tryd.call18 rfl Own.stable (fun w1 hw1 => iValid_ok b17 w1 hsb17)) ?_
     refine Lq.run 3 rfl ?_
     refine Lq.bool fun b46 hg46 => ?_
     cases b46
     ·
      replace hg46 := not_false hg46
      refine Lq.run 1 rfl ?_
      refine Lq.op rfl rfl rfl (OpQ.lenRow rfl Tryd.runUnderlying25 rfl (ints_length _) (fun w1 hw1 => hIv17 _ (Own.dropR (Own.drop (f := [_, _]) hw1)))) ?_
      refine Lq.run 1 rfl ?_
      refine Lq.op rfl rfl rfl (OpQ.lenRow rfl Tryd.runUnderlying25 rfl (ints_length _) (fun w1 hw1 => hIu17 _ (Own.dropR (Own.drop (f := [_, _]) hw1)))) ?_
      refine Lq.run 3 rfl ?_
      refine Lq.bool fun b53 hg53 => ?_
      cases b53
      ·
       replace hg53 := not_false hg53
       replace hg53 := of_decide_eq_true hg53
       refine Lq.run 1 rfl ?_
       refine Lq.op rfl rfl rfl (OpQ.lenRow rfl Tryd.runUnderlying25 rfl (ints_length _) (fun w1 hw1 => hIv17 _ (Own.dropR (Own.drop (f := [_, _]) hw1)))) ?_
       refine Lq.run 3 rfl ?_
       refine Lq.bool fun b58 hg58 => ?_
       cases b58
       ·
        replace hg58 := of_decide_eq_false hg58
        refine Lq.run 1 rfl ?_
        refine Lq.op rfl rfl rfl (OpQ.lenRow rfl Tryd.runUnderlying25 rfl (ints_length _) (fun w1 hw1 => hIv17 _ (Own.dropR (Own.drop (f := [_, _]) hw1)))) ?_
        refine Lq.run 4 rfl ?_
        refine Lq.nil ?_
        refine Kt.sel [3, 4, 5, 6, 7, 64] [_, _, _, _, _, _] rfl ?_
        refine Wk.cond (b := decide ((3 : Int) < ((xs17.length : Int)))) rfl (fun h64 => ?_) (fun h64 => ?_)
        ·
         replace h64 := of_decide_eq_true h64
         refine Wk.seq ?_
         refine Wk.regionQ ?_
         refine Lq.run 1 rfl ?_
         refine Lq.op rfl rfl rfl (OpQ.loadBox (cs := #[i6_ a17.n, str a17.set, str a17.rel]) 1 rfl Tryd.isAgg24 rfl rfl Tryd.sizeOf24) ?_
         refine Lq.run 1 rfl ?_
         refine Lq.op rfl rfl rfl (OpQ.loadBox (cs := #[i6_ b17.n, str b17.set, str b17.rel]) 0 rfl Tryd.isAgg24 rfl rfl Tryd.sizeOf24) ?_
         refine Lq.run 1 rfl ?_
         refine Lq.op (v := bo_ (fitB a17 xs17 b17 ys17)) rfl rfl rfl (OpQ.call rfl Tryd.call17 rfl Own.stable (fun w1 hw1 => sFit_ok a17 b17 xs17 ys17 v17 u17 w1 hsa17 hsb17 (hIv17 _ (Own.dropR (Own.drop (f := [_, _]) hw1))) (hIu17 _ (Own.dropR (Own.drop (f := [_, _]) hw1))) (by first | (simp; done) | (simp; omega) | omega) (by first | (simp; done) | (simp; omega) | omega) loa17 hia17 lob17 hib17)) ?_
         refine Lq.op rfl rfl rfl (OpQ.beq rfl Tryd.runUnderlying4 rfl rfl) ?_
         refine Lq.run 1 rfl ?_
         refine Lq.nil ?_
         refine Kt.sel [2] [_] rfl ?_
         refine Wk.ret (Kt.end1 rfl rfl fun w' hw => ?_)
         -- ret 3: bo_ ((fitB a17 xs17 b17 ys17) == (fitB a17 xs17 b17 ys17))
         exact ⟨ret_b (by first | rfl | (simp_all; done) | (rw [fit_comm]; exact beq_self_eq_true _)), hw.below⟩
        ·
         replace h64 := of_decide_eq_false h64
         have hpre : validB a17 = true ∧ validB b17 = true ∧ xs17.length = ys17.length ∧ 1 ≤ xs17.length ∧ xs17.length ≤ 3 := ⟨by simp_all, by simp_all, by omega, by omega, by omega⟩
         have hlen := hpre.2.2.1
         have hl1 := hpre.2.2.2.1
         have hl3 := hpre.2.2.2.2
         refine Wk.skip ?_
         refine Kt.sel [3, 4, 5, 6, 7] [_, _, _, _, _] rfl ?_
         refine Wk.seq ?_
         refine Wk.region ?_
         refine Ll.slice (xs := []) (vs := []) Base.elem25 rfl rfl rfl rfl rfl rfl (by decide) rfl fun p72_1 hp72_1 => ?_
         refine Ll.slice (xs := []) (vs := []) Base.elem25 rfl rfl rfl rfl rfl rfl (by decide) rfl fun p73_1 hp73_1 => ?_
         refine Ll.run 2 rfl ?_
         refine Ll.nil ?_
         refine Kt.sel [3, 4, 5, 6, 7, 8, 9] [_, _, _, _, _, _, _] rfl ?_
         refine Wk.seq ?_
         refine Wk.regionQ ?_
         refine Lq.run 1 rfl ?_
         refine Lq.nil ?_
         refine Kt.sel [3, 4, 5, 6, 7, 8, 9, 10] [_, _, _, _, _, _, _, _] rfl ?_
         refine Wk.seq ?_
         refine Wk.seq ?_
         refine Wk.regionQ ?_
         refine Lq.run 1 rfl ?_
         refine Lq.nil ?_
         refine Kt.sel [3, 4, 5, 6, 7, 8, 9, 10, 11] [_, _, _, _, _, _, _, _, _] rfl ?_
         refine Wk.block ?_
         refine Wk.loop (σ := Nat × Nat × Nat × Array Value × Nat × Nat × Array Value) (fun ⟨k, g, c, u, g2, c2, u2⟩ => k ≤ xs17.length ∧ (u.size = c * 1 ∧ (offTo xs17 k).length ≤ c ∧ u.toList.take (offTo xs17 k).length = ints (offTo xs17 k)) ∧ (u2.size = c2 * 1 ∧ (offTo ys17 k).length ≤ c2 ∧ u2.toList.take (offTo ys17 k).length = ints (offTo ys17 k))) (fun ⟨k, g, c, u, g2, c2, u2⟩ => [(3, pt_ p3), (4, v17), (5, pt_ p5), (6, u17), (7, bo_ (fitB a17 xs17 b17 ys17)), (8, sl_ g ((offTo xs17 k).length) c), (9, sl_ g2 ((offTo ys17 k).length) c2), (10, bo_ (sameTo xs17 ys17 k)), (11, i6_ ((k : Int)))]) (fun ⟨k, g, c, u, g2, c2, u2⟩ => Own w.heap.size w (bk_ g2 u2 3 :: bk_ g u 3 :: bk_ p5 #[i6_ b17.n, str b17.set, str b17.rel] 24 :: bk_ p3 #[i6_ a17.n, str a17.set, str a17.rel] 24 :: (new17 ++ ([])))) (fun ⟨k, g, c, u, g2, c2, u2⟩ => xs17.length - k) ((0, p72_1, 0, #[], p73_1, 0, #[])) ⟨by omega, ⟨rfl, Nat.le_refl 0, rfl⟩, ⟨rfl, Nat.le_refl 0, rfl⟩⟩ (Sub.cons rfl (Sub.cons rfl (Sub.cons rfl (Sub.cons rfl (Sub.cons rfl (Sub.cons (by rfl) (Sub.cons (by rfl) (Sub.cons (by rfl) (Sub.sel [11] rfl))))))))) (fun _ h => h) ?_
         rintro ⟨k, g, c, u, g2, c2, u2⟩ ⟨hk, ⟨hcg, hlg, htg⟩, ⟨hcg2, hlg2, htg2⟩⟩
         dsimp only
         have hof1 := off_le xs17 k
         have hof2 := off_le ys17 k
         refine Wk.seq ?_
         refine Wk.seq ?_
         refine Wk.regionQ ?_
         refine Lq.run 2 rfl ?_
         refine Lq.op rfl rfl rfl (OpQ.lenRow rfl Tryd.runUnderlying25 rfl (ints_length _) (fun w1 hw1 => hIv17 _ (Own.dropR (Own.drop (f := [_, _, _, _]) hw1)))) ?_
         refine Lq.run 1 rfl ?_
         refine Lq.nil ?_
         refine Kt.sel [3, 4, 5, 6, 7, 8, 9, 10, 11, 77] [_, _, _, _, _, _, _, _, _, _] rfl ?_
         refine Wk.cond (b := decide (((k : Int)) < ((xs17.length : Int)))) rfl (fun h77_1 => ?_) (fun h77_1 => ?_)
         ·
          replace h77_1 := of_decide_eq_true h77_1
          refine Wk.skip ?_
          refine Kt.sel [3, 4, 5, 6, 7, 8, 9, 10, 11] [_, _, _, _, _, _, _, _, _] rfl ?_
          refine Wk.seq ?_
          refine Wk.block ?_
          refine Wk.seq ?_
          refine Wk.regionD Base.mixed (fun _ h => h.drawn) (by kernel_rfl) ?_
          refine Lq.run 2 rfl ?_
          refine Lq.bool fun b81 hg81_1 => ?_
          cases b81
          ·
           refine Lq.pass rfl rfl rfl ?_
           refine Lq.pass rfl rfl rfl ?_
           refine Lq.pass rfl rfl rfl ?_
           refine Lq.pass rfl rfl rfl ?_
           refine Lq.pass rfl rfl rfl ?_
           refine Lq.pass rfl rfl rfl ?_
           refine Lq.pass rfl rfl rfl ?_
           refine Lq.pass rfl rfl rfl ?_
           refine Lq.pass rfl rfl rfl ?_
           refine Lq.pass rfl rfl rfl ?_
           refine Lq.pass rfl rfl rfl ?_
           refine Lq.run 2 rfl ?_
           refine Lq.nil ?_
           refine Kt.sel [3, 4, 5, 6, 7, 8, 9, 10, 11] [_, _, _, _, _, _, _, _, _] rfl ?_
           refine Wk.seq ?_
           refine Wk.seq ?_
           refine Wk.regionQ ?_
           refine Lq.run 2 rfl ?_
           refine Lq.op (v := .pointer (some (sAt v17 ((k : Int))))) rfl rfl rfl (OpQ.atRow rfl Tryd.runUnderlying25 Tryd.sizeOf3 rfl rfl (by omega) (by rw [ints_length]; omega) (fun w1 hw1 => hIv17 _ (Own.dropR (Own.drop (f := [_, _, _, _]) hw1)))) ?_
           refine Lq.op (v := i6_ (xs17.getD (((k : Int)).toNat) 0)) rfl rfl rfl (OpQ.load1 rfl Tryd.isAgg3 rfl (fun w1 hw1 => Ints.cell (hIv17 _ (Own.dropR (Own.drop (f := [_, _, _, _]) hw1))) (by omega) (by omega))) ?_
           refine Lq.run 1 rfl ?_
           refine Lq.nil ?_
           refine Kt.sel [3, 4, 5, 6, 7, 8, 9, 10, 11, 98] [_, _, _, _, _, _, _, _, _, _] rfl ?_
           refine Wk.cond (b := !(decide ((xs17.getD (((k : Int)).toNat) 0) = (-1 : Int)))) rfl (fun h98_2 => ?_) (fun h98_2 => ?_)
           ·
            replace h98_2 := not_true h98_2
            replace h98_2 := of_decide_eq_false h98_2
            refine Wk.region ?_
            refine Ll.run 3 rfl ?_
            refine Ll.op (v := .pointer (some (sAt v17 ((k : Int))))) rfl rfl rfl (OpQ.atRow rfl Tryd.runUnderlying25 Tryd.sizeOf3 rfl rfl (by omega) (by rw [ints_length]; omega) (fun w1 hw1 => hIv17 _ (Own.dropR (Own.drop (f := [_, _, _, _]) hw1)))) ?_
            refine Ll.op (v := i6_ (xs17.getD (((k : Int)).toNat) 0)) rfl rfl rfl (OpQ.load1 rfl Tryd.isAgg3 rfl (fun w1 hw1 => Ints.cell (hIv17 _ (Own.dropR (Own.drop (f := [_, _, _, _]) hw1))) (by omega) (by omega))) ?_
            refine Ll.slice (xs := [.tmp 103]) (vs := [i6_ (xs17.getD (((k : Int)).toNat) 0)]) Base.elem25 rfl rfl rfl rfl rfl rfl (by decide) rfl fun p104_2 hp104_2 => ?_
            refine Ll.appendInts (xs := (offTo xs17 k)) (ys := [xs17.getD (((k : Int)).toNat) 0]) Base.elem25 2 rfl rfl rfl rfl rfl rfl rfl hcg hlg htg (fun w1 hw1 => (Own.row hw1 (i := 0) rfl (n := 1) (cap := 1) (vs := ints [xs17.getD (((k : Int)).toNat) 0]) rfl rfl (by decide))) ((((offTo xs17 k)) ++ ([xs17.getD (((k : Int)).toNat) 0])).length) (by first | (simp; done) | (simp; omega)) (by first | (simp; done) | (simp; omega) | omega) fun p105_2 cap105_2 cur105_2 hp105_2 hcp105_2 hlp105_2 htp105_2 => ?_
            show Ll _ _ (Own _ _ (_ :: _ :: _ :: _ :: _ :: (new17 ++ ([])))) _ _ ((105, sl_ p105_2 (((((offTo xs17 k)) ++ ([xs17.getD (((k : Int)).toNat) 0])).length)) cap105_2) :: _) _ _ _
            refine Ll.run 1 rfl ?_
            refine Ll.nil ?_
            refine Kt.sel [3, 4, 5, 6, 7, 8, 9, 10, 11] [_, _, _, _, _, _, _, _, _] rfl ?_
            refine Wk.seq ?_
            refine Wk.regionQ ?_
            refine Lq.run 2 rfl ?_
            refine Lq.op (v := .pointer (some (sAt u17 ((k : Int))))) rfl rfl rfl (OpQ.atRow rfl Tryd.runUnderlying25 Tryd.sizeOf3 rfl rfl (by omega) (by rw [ints_length]; omega) (fun w1 hw1 => hIu17 _ (Own.dropR (Own.drop (f := [_, _, _, _, _]) hw1)))) ?_
            refine Lq.op (v := i6_ (ys17.getD (((k : Int)).toNat) 0)) rfl rfl rfl (OpQ.load1 rfl Tryd.isAgg3 rfl (fun w1 hw1 => Ints.cell (hIu17 _ (Own.dropR (Own.drop (f := [_, _, _, _, _]) hw1))) (by omega) (by omega))) ?_
            refine Lq.run 1 rfl ?_
            refine Lq.nil ?_
            refine Kt.sel [3, 4, 5, 6, 7, 8, 9, 10, 11, 110] [_, _, _, _, _, _, _, _, _, _] rfl ?_
            refine Wk.cond (b := !(decide ((ys17.getD (((k : Int)).toNat) 0) = (-1 : Int)))) rfl (fun h110_4 => ?_) (fun h110_4 => ?_)
            ·
             replace h110_4 := not_true h110_4
             replace h110_4 := of_decide_eq_false h110_4
             refine Wk.region ?_
             refine Ll.run 3 rfl ?_
             refine Ll.op (v := .pointer (some (sAt u17 ((k : Int))))) rfl rfl rfl (OpQ.atRow rfl Tryd.runUnderlying25 Tryd.sizeOf3 rfl rfl (by omega) (by rw [ints_length]; omega) (fun w1 hw1 => hIu17 _ (Own.dropR (Own.drop (f := [_, _, _, _, _]) hw1)))) ?_
             refine Ll.op (v := i6_ (ys17.getD (((k : Int)).toNat) 0)) rfl rfl rfl (OpQ.load1 rfl Tryd.isAgg3 rfl (fun w1 hw1 => Ints.cell (hIu17 _ (Own.dropR (Own.drop (f := [_, _, _, _, _]) hw1))) (by omega) (by omega))) ?_
             refine Ll.slice (xs := [.tmp 115]) (vs := [i6_ (ys17.getD (((k : Int)).toNat) 0)]) Base.elem25 rfl rfl rfl rfl rfl rfl (by decide) rfl fun p116_4 hp116_4 => ?_
             refine Ll.appendInts (xs := (offTo ys17 k)) (ys := [ys17.getD (((k : Int)).toNat) 0]) Base.elem25 2 rfl rfl rfl rfl rfl rfl rfl hcg2 hlg2 htg2 (fun w1 hw1 => (Own.row hw1 (i := 0) rfl (n := 1) (cap := 1) (vs := ints [ys17.getD (((k : Int)).toNat) 0]) rfl rfl (by decide))) ((((offTo ys17 k)) ++ ([ys17.getD (((k : Int)).toNat) 0])).length) (by first | (simp; done) | (simp; omega)) (by first | (simp; done) | (simp; omega) | omega) fun p117_4 cap117_4 cur117_4 hp117_4 hcp117_4 hlp117_4 htp117_4 => ?_
             show Ll _ _ (Own _ _ (_ :: _ :: _ :: _ :: _ :: _ :: (new17 ++ ([])))) _ _ ((117, sl_ p117_4 (((((offTo ys17 k)) ++ ([ys17.getD (((k : Int)).toNat) 0])).length)) cap117_4) :: _) _ _ _
             refine Ll.run 1 rfl ?_
             refine Ll.nil ?_
             refine Kt.sel [3, 4, 5, 6, 7, 8, 9, 10, 11] [_, _, _, _, _, _, _, _, _] rfl ?_
             refine Wk.regionQ ?_
             refine Lq.run 1 rfl ?_
             refine Lq.op rfl rfl rfl (OpQ.add rfl rfl rfl (by omega) (by omega)) ?_
             refine Lq.run 1 rfl ?_
             refine Lq.nil ?_
             refine Kt.again ((k + 1, p105_2, cap105_2, cur105_2, p117_4, cap117_4, cur117_4)) ⟨by omega, ⟨by simpa using hcp105_2, by dsimp only; rw [off_yes (xs := xs17) (k := k) h98_2]; simpa using hlp105_2, by dsimp only; rw [off_yes (xs := xs17) (k := k) h98_2]; simpa using htp105_2⟩, ⟨by simpa using hcp117_4, by dsimp only; rw [off_yes (xs := ys17) (k := k) h110_4]; simpa using hlp117_4, by dsimp only; rw [off_yes (xs := ys17) (k := k) h110_4]; simpa using htp117_4⟩⟩ (by dsimp only; omega) (Sub.cons rfl (Sub.cons rfl (Sub.cons rfl (Sub.cons rfl (Sub.cons rfl (Sub.cons (by dsimp only; rw [off_yes (xs := xs17) (k := k) h98_2]; rfl) (Sub.cons (by dsimp only; rw [off_yes (xs := ys17) (k := k) h110_4]; rfl) (Sub.cons (by dsimp only; first | (rw [sameTo_yes hg81_1]; rfl) | (rw [sameTo_no hg81_1]; rfl)) (Sub.sel [11] rfl))))))))) (fun _ h => h.sub (List.Sublist.cons _ (List.Sublist.cons _ (List.Sublist.cons_cons _ (List.Sublist.cons_cons _ (List.Sublist.cons_cons _ (List.Sublist.cons_cons _ (List.Sublist.refl _))))))))
            ·
             replace h110_4 := not_false h110_4
             replace h110_4 := of_decide_eq_true h110_4
             refine Wk.skip ?_
             refine Kt.sel [3, 4, 5, 6, 7, 8, 9, 10, 11] [_, _, _, _, _, _, _, _, _] rfl ?_
             refine Wk.regionQ ?_
             refine Lq.run 1 rfl ?_
             refine Lq.op rfl rfl rfl (OpQ.add rfl rfl rfl (by omega) (by omega)) ?_
             refine Lq.run 1 rfl ?_
             refine Lq.nil ?_
             refine Kt.again ((k + 1, p105_2, cap105_2, cur105_2, g2, c2, u2)) ⟨by omega, ⟨by simpa using hcp105_2, by dsimp only; rw [off_yes (xs := xs17) (k := k) h98_2]; simpa using hlp105_2, by dsimp only; rw [off_yes (xs := xs17) (k := k) h98_2]; simpa using htp105_2⟩, ⟨hcg2, by dsimp only; rw [off_no (xs := ys17) (k := k) h110_4]; exact hlg2, by dsimp only; rw [off_no (xs := ys17) (k := k) h110_4]; exact htg2⟩⟩ (by dsimp only; omega) (Sub.cons rfl (Sub.cons rfl (Sub.cons rfl (Sub.cons rfl (Sub.cons rfl (Sub.cons (by dsimp only; rw [off_yes (xs := xs17) (k := k) h98_2]; rfl) (Sub.cons (by dsimp only; rw [off_no (xs := ys17) (k := k) h110_4]; rfl) (Sub.cons (by dsimp only; first | (rw [sameTo_yes hg81_1]; rfl) | (rw [sameTo_no hg81_1]; rfl)) (Sub.sel [11] rfl))))))))) (fun _ h => h.sub (List.Sublist.cons _ (List.Sublist.cons_cons _ (List.Sublist.cons_cons _ (List.Sublist.cons_cons _ (List.Sublist.cons_cons _ (List.Sublist.refl _)))))))
           ·
            replace h98_2 := not_false h98_2
            replace h98_2 := of_decide_eq_true h98_2
            refine Wk.skip ?_
            refine Kt.sel [3, 4, 5, 6, 7, 8, 9, 10, 11] [_, _, _, _, _, _, _, _, _] rfl ?_
            refine Wk.seq ?_
            refine Wk.regionQ ?_
            refine Lq.run 2 rfl ?_
            refine Lq.op (v := .pointer (some (sAt u17 ((k : Int))))) rfl rfl rfl (OpQ.atRow rfl Tryd.runUnderlying25 Tryd.sizeOf3 rfl rfl (by omega) (by rw [ints_length]; omega) (fun w1 hw1 => hIu17 _ (Own.dropR (Own.drop (f := [_, _, _, _]) hw1)))) ?_
            refine Lq.op (v := i6_ (ys17.getD (((k : Int)).toNat) 0)) rfl rfl rfl (OpQ.load1 rfl Tryd.isAgg3 rfl (fun w1 hw1 => Ints.cell (hIu17 _ (Own.dropR (Own.drop (f := [_, _, _, _]) hw1))) (by omega) (by omega))) ?_
            refine Lq.run 1 rfl ?_
            refine Lq.nil ?_
            refine Kt.sel [3, 4, 5, 6, 7, 8, 9, 10, 11, 110] [_, _, _, _, _, _, _, _, _, _] rfl ?_
            refine Wk.cond (b := !(decide ((ys17.getD (((k : Int)).toNat) 0) = (-1 : Int)))) rfl (fun h110_5 => ?_) (fun h110_5 => ?_)
            ·
             replace h110_5 := not_true h110_5
             replace h110_5 := of_decide_eq_false h110_5
             refine Wk.region ?_
             refine Ll.run 3 rfl ?_
             refine Ll.op (v := .pointer (some (sAt u17 ((k : Int))))) rfl rfl rfl (OpQ.atRow rfl Tryd.runUnderlying25 Tryd.sizeOf3 rfl rfl (by omega) (by rw [ints_length]; omega) (fun w1 hw1 => hIu17 _ (Own.dropR (Own.drop (f := [_, _, _, _]) hw1)))) ?_
             refine Ll.op (v := i6_ (ys17.getD (((k : Int)).toNat) 0)) rfl rfl rfl (OpQ.load1 rfl Tryd.isAgg3 rfl (fun w1 hw1 => Ints.cell (hIu17 _ (Own.dropR (Own.drop (f := [_, _, _, _]) hw1))) (by omega) (by omega))) ?_
             refine Ll.slice (xs := [.tmp 115]) (vs := [i6_ (ys17.getD (((k : Int)).toNat) 0)]) Base.elem25 rfl rfl rfl rfl rfl rfl (by decide) rfl fun p116_5 hp116_5 => ?_
             refine Ll.appendInts (xs := (offTo ys17 k)) (ys := [ys17.getD (((k : Int)).toNat) 0]) Base.elem25 1 rfl rfl rfl rfl rfl rfl rfl hcg2 hlg2 htg2 (fun w1 hw1 => (Own.row hw1 (i := 0) rfl (n := 1) (cap := 1) (vs := ints [ys17.getD (((k : Int)).toNat) 0]) rfl rfl (by decide))) ((((offTo ys17 k)) ++ ([ys17.getD (((k : Int)).toNat) 0])).length) (by first | (simp; done) | (simp; omega)) (by first | (simp; done) | (simp; omega) | omega) fun p117_5 cap117_5 cur117_5 hp117_5 hcp117_5 hlp117_5 htp117_5 => ?_
             show Ll _ _ (Own _ _ (_ :: _ :: _ :: _ :: _ :: (new17 ++ ([])))) _ _ ((117, sl_ p117_5 (((((offTo ys17 k)) ++ ([ys17.getD (((k : Int)).toNat) 0])).length)) cap117_5) :: _) _ _ _
             refine Ll.run 1 rfl ?_
             refine Ll.nil ?_
             refine Kt.sel [3, 4, 5, 6, 7, 8, 9, 10, 11] [_, _, _, _, _, _, _, _, _] rfl ?_
             refine Wk.regionQ ?_
             refine Lq.run 1 rfl ?_
             refine Lq.op rfl rfl rfl (OpQ.add rfl rfl rfl (by omega) (by omega)) ?_
             refine Lq.run 1 rfl ?_
             refine Lq.nil ?_
             refine Kt.again ((k + 1, g, c, u, p117_5, cap117_5, cur117_5)) ⟨by omega, ⟨hcg, by dsimp only; rw [off_no (xs := xs17) (k := k) h98_2]; exact hlg, by dsimp only; rw [off_no (xs := xs17) (k := k) h98_2]; exact htg⟩, ⟨by simpa using hcp117_5, by dsimp only; rw [off_yes (xs := ys17) (k := k) h110_5]; simpa using hlp117_5, by dsimp only; rw [off_yes (xs := ys17) (k := k) h110_5]; simpa using htp117_5⟩⟩ (by dsimp only; omega) (Sub.cons rfl (Sub.cons rfl (Sub.cons rfl (Sub.cons rfl (Sub.cons rfl (Sub.cons (by dsimp only; rw [off_no (xs := xs17) (k := k) h98_2]; rfl) (Sub.cons (by dsimp only; rw [off_yes (xs := ys17) (k := k) h110_5]; rfl) (Sub.cons (by dsimp only; first | (rw [sameTo_yes hg81_1]; rfl) | (rw [sameTo_no hg81_1]; rfl)) (Sub.sel [11] rfl))))))))) (fun _ h => h.sub (List.Sublist.cons _ (List.Sublist.cons_cons _ (List.Sublist.cons_cons _ (List.Sublist.cons_cons _ (List.Sublist.cons_cons _ (List.Sublist.refl _)))))))
            ·
             replace h110_5 := not_false h110_5
             replace h110_5 := of_decide_eq_true h110_5
             refine Wk.skip ?_
             refine Kt.sel [3, 4, 5, 6, 7, 8, 9, 10, 11] [_, _, _, _, _, _, _, _, _] rfl ?_
             refine Wk.regionQ ?_
             refine Lq.run 1 rfl ?_
             refine Lq.op rfl rfl rfl (OpQ.add rfl rfl rfl (by omega) (by omega)) ?_
             refine Lq.run 1 rfl ?_
             refine Lq.nil ?_
             refine Kt.again ((k + 1, g, c, u, g2, c2, u2)) ⟨by omega, ⟨hcg, by dsimp only; rw [off_no (xs := xs17) (k := k) h98_2]; exact hlg, by dsimp only; rw [off_no (xs := xs17) (k := k) h98_2]; exact htg⟩, ⟨hcg2, by dsimp only; rw [off_no (xs := ys17) (k := k) h110_5]; exact hlg2, by dsimp only; rw [off_no (xs := ys17) (k := k) h110_5]; exact htg2⟩⟩ (by dsimp only; omega) (Sub.cons rfl (Sub.cons rfl (Sub.cons rfl (Sub.cons rfl (Sub.cons rfl (Sub.cons (by dsimp only; rw [off_no (xs := xs17) (k := k) h98_2]; rfl) (Sub.cons (by dsimp only; rw [off_no (xs := ys17) (k := k) h110_5]; rfl) (Sub.cons (by dsimp only; first | (rw [sameTo_yes hg81_1]; rfl) | (rw [sameTo_no hg81_1]; rfl)) (Sub.sel [11] rfl))))))))) (fun _ h => h.sub (List.Sublist.cons_cons _ (List.Sublist.cons_cons _ (List.Sublist.cons_cons _ (List.Sublist.cons_cons _ (List.Sublist.refl _))))))
          ·
           refine Lq.run 2 rfl ?_
           refine Lq.op (v := .pointer (some (sAt v17 ((k : Int))))) rfl rfl rfl (OpQ.atRow rfl Tryd.runUnderlying25 Tryd.sizeOf3 rfl rfl (by omega) (by rw [ints_length]; omega) (fun w1 hw1 => hIv17 _ (Own.dropR (Own.drop (f := [_, _, _, _]) hw1)))) ?_
           refine Lq.op (v := i6_ (xs17.getD (((k : Int)).toNat) 0)) rfl rfl rfl (OpQ.load1 rfl Tryd.isAgg3 rfl (fun w1 hw1 => Ints.cell (hIv17 _ (Own.dropR (Own.drop (f := [_, _, _, _]) hw1))) (by omega) (by omega))) ?_
           refine Lq.run 3 rfl ?_
           refine Lq.op (v := .pointer (some (sAt u17 ((k : Int))))) rfl rfl rfl (OpQ.atRow rfl Tryd.runUnderlying25 Tryd.sizeOf3 rfl rfl (by omega) (by rw [ints_length]; omega) (fun w1 hw1 => hIu17 _ (Own.dropR (Own.drop (f := [_, _, _, _]) hw1)))) ?_
           refine Lq.op (v := i6_ (ys17.getD (((k : Int)).toNat) 0)) rfl rfl rfl (OpQ.load1 rfl Tryd.isAgg3 rfl (fun w1 hw1 => Ints.cell (hIu17 _ (Own.dropR (Own.drop (f := [_, _, _, _]) hw1))) (by omega) (by omega))) ?_
           refine Lq.run 1 rfl ?_
           refine Lq.op rfl rfl rfl (OpQ.beq rfl Tryd.runUnderlying4 rfl rfl) ?_
           refine Lq.run 2 rfl ?_
           refine Lq.nil ?_
           refine Kt.sel [3, 4, 5, 6, 7, 8, 9, 10, 11] [_, _, _, _, _, _, _, _, _] rfl ?_
           refine Wk.seq ?_
           refine Wk.seq ?_
           refine Wk.regionQ ?_
           refine Lq.run 2 rfl ?_
           refine Lq.op (v := .pointer (some (sAt v17 ((k : Int))))) rfl rfl rfl (OpQ.atRow rfl Tryd.runUnderlying25 Tryd.sizeOf3 rfl rfl (by omega) (by rw [ints_length]; omega) (fun w1 hw1 => hIv17 _ (Own.dropR (Own.drop (f := [_, _, _, _]) hw1)))) ?_
           refine Lq.op (v := i6_ (xs17.getD (((k : Int)).toNat) 0)) rfl rfl rfl (OpQ.load1 rfl Tryd.isAgg3 rfl (fun w1 hw1 => Ints.cell (hIv17 _ (Own.dropR (Own.drop (f := [_, _, _, _]) hw1))) (by omega) (by omega))) ?_
           refine Lq.run 1 rfl ?_
           refine Lq.nil ?_
           refine Kt.sel [3, 4, 5, 6, 7, 8, 9, 10, 11, 98] [_, _, _, _, _, _, _, _, _, _] rfl ?_
           refine Wk.cond (b := !(decide ((xs17.getD (((k : Int)).toNat) 0) = (-1 : Int)))) rfl (fun h98_3 => ?_) (fun h98_3 => ?_)
           ·
            replace h98_3 := not_true h98_3
            replace h98_3 := of_decide_eq_false h98_3
            refine Wk.region ?_
            refine Ll.run 3 rfl ?_
            refine Ll.op (v := .pointer (some (sAt v17 ((k : Int))))) rfl rfl rfl (OpQ.atRow rfl Tryd.runUnderlying25 Tryd.sizeOf3 rfl rfl (by omega) (by rw [ints_length]; omega) (fun w1 hw1 => hIv17 _ (Own.dropR (Own.drop (f := [_, _, _, _]) hw1)))) ?_
            refine Ll.op (v := i6_ (xs17.getD (((k : Int)).toNat) 0)) rfl rfl rfl (OpQ.load1 rfl Tryd.isAgg3 rfl (fun w1 hw1 => Ints.cell (hIv17 _ (Own.dropR (Own.drop (f := [_, _, _, _]) hw1))) (by omega) (by omega))) ?_
            refine Ll.slice (xs := [.tmp 103]) (vs := [i6_ (xs17.getD (((k : Int)).toNat) 0)]) Base.elem25 rfl rfl rfl rfl rfl rfl (by decide) rfl fun p104_3 hp104_3 => ?_
            refine Ll.appendInts (xs := (offTo xs17 k)) (ys := [xs17.getD (((k : Int)).toNat) 0]) Base.elem25 2 rfl rfl rfl rfl rfl rfl rfl hcg hlg htg (fun w1 hw1 => (Own.row hw1 (i := 0) rfl (n := 1) (cap := 1) (vs := ints [xs17.getD (((k : Int)).toNat) 0]) rfl rfl (by decide))) ((((offTo xs17 k)) ++ ([xs17.getD (((k : Int)).toNat) 0])).length) (by first | (simp; done) | (simp; omega)) (by first | (simp; done) | (simp; omega) | omega) fun p105_3 cap105_3 cur105_3 hp105_3 hcp105_3 hlp105_3 htp105_3 => ?_
            show Ll _ _ (Own _ _ (_ :: _ :: _ :: _ :: _ :: (new17 ++ ([])))) _ _ ((105, sl_ p105_3 (((((offTo xs17 k)) ++ ([xs17.getD (((k : Int)).toNat) 0])).length)) cap105_3) :: _) _ _ _
            refine Ll.run 1 rfl ?_
            refine Ll.nil ?_
            refine Kt.sel [3, 4, 5, 6, 7, 8, 9, 10, 11] [_, _, _, _, _, _, _, _, _] rfl ?_
            refine Wk.seq ?_
            refine Wk.regionQ ?_
            refine Lq.run 2 rfl ?_
            refine Lq.op (v := .pointer (some (sAt u17 ((k : Int))))) rfl rfl rfl (OpQ.atRow rfl Tryd.runUnderlying25 Tryd.sizeOf3 rfl rfl (by omega) (by rw [ints_length]; omega) (fun w1 hw1 => hIu17 _ (Own.dropR (Own.drop (f := [_, _, _, _, _]) hw1)))) ?_
            refine Lq.op (v := i6_ (ys17.getD (((k : Int)).toNat) 0)) rfl rfl rfl (OpQ.load1 rfl Tryd.isAgg3 rfl (fun w1 hw1 => Ints.cell (hIu17 _ (Own.dropR (Own.drop (f := [_, _, _, _, _]) hw1))) (by omega) (by omega))) ?_
            refine Lq.run 1 rfl ?_
            refine Lq.nil ?_
            refine Kt.sel [3, 4, 5, 6, 7, 8, 9, 10, 11, 110] [_, _, _, _, _, _, _, _, _, _] rfl ?_
            refine Wk.cond (b := !(decide ((ys17.getD (((k : Int)).toNat) 0) = (-1 : Int)))) rfl (fun h110_6 => ?_) (fun h110_6 => ?_)
            ·
             replace h110_6 := not_true h110_6
             replace h110_6 := of_decide_eq_false h110_6
             refine Wk.region ?_
             refine Ll.run 3 rfl ?_
             refine Ll.op (v := .pointer (some (sAt u17 ((k : Int))))) rfl rfl rfl (OpQ.atRow rfl Tryd.runUnderlying25 Tryd.sizeOf3 rfl rfl (by omega) (by rw [ints_length]; omega) (fun w1 hw1 => hIu17 _ (Own.dropR (Own.drop (f := [_, _, _, _, _]) hw1)))) ?_
             refine Ll.op (v := i6_ (ys17.getD (((k : Int)).toNat) 0)) rfl rfl rfl (OpQ.load1 rfl Tryd.isAgg3 rfl (fun w1 hw1 => Ints.cell (hIu17 _ (Own.dropR (Own.drop (f := [_, _, _, _, _]) hw1))) (by omega) (by omega))) ?_
             refine Ll.slice (xs := [.tmp 115]) (vs := [i6_ (ys17.getD (((k : Int)).toNat) 0)]) Base.elem25 rfl rfl rfl rfl rfl rfl (by decide) rfl fun p116_6 hp116_6 => ?_
             refine Ll.appendInts (xs := (offTo ys17 k)) (ys := [ys17.getD (((k : Int)).toNat) 0]) Base.elem25 2 rfl rfl rfl rfl rfl rfl rfl hcg2 hlg2 htg2 (fun w1 hw1 => (Own.row hw1 (i := 0) rfl (n := 1) (cap := 1) (vs := ints [ys17.getD (((k : Int)).toNat) 0]) rfl rfl (by decide))) ((((offTo ys17 k)) ++ ([ys17.getD (((k : Int)).toNat) 0])).length) (by first | (simp; done) | (simp; omega)) (by first | (simp; done) | (simp; omega) | omega) fun p117_6 cap117_6 cur117_6 hp117_6 hcp117_6 hlp117_6 htp117_6 => ?_
             show Ll _ _ (Own _ _ (_ :: _ :: _ :: _ :: _ :: _ :: (new17 ++ ([])))) _ _ ((117, sl_ p117_6 (((((offTo ys17 k)) ++ ([ys17.getD (((k : Int)).toNat) 0])).length)) cap117_6) :: _) _ _ _
             refine Ll.run 1 rfl ?_
             refine Ll.nil ?_
             refine Kt.sel [3, 4, 5, 6, 7, 8, 9, 10, 11] [_, _, _, _, _, _, _, _, _] rfl ?_
             refine Wk.regionQ ?_
             refine Lq.run 1 rfl ?_
             refine Lq.op rfl rfl rfl (OpQ.add rfl rfl rfl (by omega) (by omega)) ?_
             refine Lq.run 1 rfl ?_
             refine Lq.nil ?_
             refine Kt.again ((k + 1, p105_3, cap105_3, cur105_3, p117_6, cap117_6, cur117_6)) ⟨by omega, ⟨by simpa using hcp105_3, by dsimp only; rw [off_yes (xs := xs17) (k := k) h98_3]; simpa using hlp105_3, by dsimp only; rw [off_yes (xs := xs17) (k := k) h98_3]; simpa using htp105_3⟩, ⟨by simpa using hcp117_6, by dsimp only; rw [off_yes (xs := ys17) (k := k) h110_6]; simpa using hlp117_6, by dsimp only; rw [off_yes (xs := ys17) (k := k) h110_6]; simpa using htp117_6⟩⟩ (by dsimp only; omega) (Sub.cons rfl (Sub.cons rfl (Sub.cons rfl (Sub.cons rfl (Sub.cons rfl (Sub.cons (by dsimp only; rw [off_yes (xs := xs17) (k := k) h98_3]; rfl) (Sub.cons (by dsimp only; rw [off_yes (xs := ys17) (k := k) h110_6]; rfl) (Sub.cons (by dsimp only; first | (rw [sameTo_yes hg81_1]; rfl) | (rw [sameTo_no hg81_1]; rfl)) (Sub.sel [11] rfl))))))))) (fun _ h => h.sub (List.Sublist.cons _ (List.Sublist.cons _ (List.Sublist.cons_cons _ (List.Sublist.cons_cons _ (List.Sublist.cons_cons _ (List.Sublist.cons_cons _ (List.Sublist.refl _))))))))
            ·
             replace h110_6 := not_false h110_6
             replace h110_6 := of_decide_eq_true h110_6
             refine Wk.skip ?_
             refine Kt.sel [3, 4, 5, 6, 7, 8, 9, 10, 11] [_, _, _, _, _, _, _, _, _] rfl ?_
             refine Wk.regionQ ?_
             refine Lq.run 1 rfl ?_
             refine Lq.op rfl rfl rfl (OpQ.add rfl rfl rfl (by omega) (by omega)) ?_
             refine Lq.run 1 rfl ?_
             refine Lq.nil ?_
             refine Kt.again ((k + 1, p105_3, cap105_3, cur105_3, g2, c2, u2)) ⟨by omega, ⟨by simpa using hcp105_3, by dsimp only; rw [off_yes (xs := xs17) (k := k) h98_3]; simpa using hlp105_3, by dsimp only; rw [off_yes (xs := xs17) (k := k) h98_3]; simpa using htp105_3⟩, ⟨hcg2, by dsimp only; rw [off_no (xs := ys17) (k := k) h110_6]; exact hlg2, by dsimp only; rw [off_no (xs := ys17) (k := k) h110_6]; exact htg2⟩⟩ (by dsimp only; omega) (Sub.cons rfl (Sub.cons rfl (Sub.cons rfl (Sub.cons rfl (Sub.cons rfl (Sub.cons (by dsimp only; rw [off_yes (xs := xs17) (k := k) h98_3]; rfl) (Sub.cons (by dsimp only; rw [off_no (xs := ys17) (k := k) h110_6]; rfl) (Sub.cons (by dsimp only; first | (rw [sameTo_yes hg81_1]; rfl) | (rw [sameTo_no hg81_1]; rfl)) (Sub.sel [11] rfl))))))))) (fun _ h => h.sub (List.Sublist.cons _ (List.Sublist.cons_cons _ (List.Sublist.cons_cons _ (List.Sublist.cons_cons _ (List.Sublist.cons_cons _ (List.Sublist.refl _)))))))
           ·
            replace h98_3 := not_false h98_3
            replace h98_3 := of_decide_eq_true h98_3
            refine Wk.skip ?_
            refine Kt.sel [3, 4, 5, 6, 7, 8, 9, 10, 11] [_, _, _, _, _, _, _, _, _] rfl ?_
            refine Wk.seq ?_
            refine Wk.regionQ ?_
            refine Lq.run 2 rfl ?_
            refine Lq.op (v := .pointer (some (sAt u17 ((k : Int))))) rfl rfl rfl (OpQ.atRow rfl Tryd.runUnderlying25 Tryd.sizeOf3 rfl rfl (by omega) (by rw [ints_length]; omega) (fun w1 hw1 => hIu17 _ (Own.dropR (Own.drop (f := [_, _, _, _]) hw1)))) ?_
            refine Lq.op (v := i6_ (ys17.getD (((k : Int)).toNat) 0)) rfl rfl rfl (OpQ.load1 rfl Tryd.isAgg3 rfl (fun w1 hw1 => Ints.cell (hIu17 _ (Own.dropR (Own.drop (f := [_, _, _, _]) hw1))) (by omega) (by omega))) ?_
            refine Lq.run 1 rfl ?_
            refine Lq.nil ?_
            refine Kt.sel [3, 4, 5, 6, 7, 8, 9, 10, 11, 110] [_, _, _, _, _, _, _, _, _, _] rfl ?_
            refine Wk.cond (b := !(decide ((ys17.getD (((k : Int)).toNat) 0) = (-1 : Int)))) rfl (fun h110_7 => ?_) (fun h110_7 => ?_)
            ·
             replace h110_7 := not_true h110_7
             replace h110_7 := of_decide_eq_false h110_7
             refine Wk.region ?_
             refine Ll.run 3 rfl ?_
             refine Ll.op (v := .pointer (some (sAt u17 ((k : Int))))) rfl rfl rfl (OpQ.atRow rfl Tryd.runUnderlying25 Tryd.sizeOf3 rfl rfl (by omega) (by rw [ints_length]; omega) (fun w1 hw1 => hIu17 _ (Own.dropR (Own.drop (f := [_, _, _, _]) hw1)))) ?_
             refine Ll.op (v := i6_ (ys17.getD (((k : Int)).toNat) 0)) rfl rfl rfl (OpQ.load1 rfl Tryd.isAgg3 rfl (fun w1 hw1 => Ints.cell (hIu17 _ (Own.dropR (Own.drop (f := [_, _, _, _]) hw1))) (by omega) (by omega))) ?_
             refine Ll.slice (xs := [.tmp 115]) (vs := [i6_ (ys17.getD (((k : Int)).toNat) 0)]) Base.elem25 rfl rfl rfl rfl rfl rfl (by decide) rfl fun p116_7 hp116_7 => ?_
             refine Ll.appendInts (xs := (offTo ys17 k)) (ys := [ys17.getD (((k : Int)).toNat) 0]) Base.elem25 1 rfl rfl rfl rfl rfl rfl rfl hcg2 hlg2 htg2 (fun w1 hw1 => (Own.row hw1 (i := 0) rfl (n := 1) (cap := 1) (vs := ints [ys17.getD (((k : Int)).toNat) 0]) rfl rfl (by decide))) ((((offTo ys17 k)) ++ ([ys17.getD (((k : Int)).toNat) 0])).length) (by first | (simp; done) | (simp; omega)) (by first | (simp; done) | (simp; omega) | omega) fun p117_7 cap117_7 cur117_7 hp117_7 hcp117_7 hlp117_7 htp117_7 => ?_
             show Ll _ _ (Own _ _ (_ :: _ :: _ :: _ :: _ :: (new17 ++ ([])))) _ _ ((117, sl_ p117_7 (((((offTo ys17 k)) ++ ([ys17.getD (((k : Int)).toNat) 0])).length)) cap117_7) :: _) _ _ _
             refine Ll.run 1 rfl ?_
             refine Ll.nil ?_
             refine Kt.sel [3, 4, 5, 6, 7, 8, 9, 10, 11] [_, _, _, _, _, _, _, _, _] rfl ?_
             refine Wk.regionQ ?_
             refine Lq.run 1 rfl ?_
             refine Lq.op rfl rfl rfl (OpQ.add rfl rfl rfl (by omega) (by omega)) ?_
             refine Lq.run 1 rfl ?_
             refine Lq.nil ?_
             refine Kt.again ((k + 1, g, c, u, p117_7, cap117_7, cur117_7)) ⟨by omega, ⟨hcg, by dsimp only; rw [off_no (xs := xs17) (k := k) h98_3]; exact hlg, by dsimp only; rw [off_no (xs := xs17) (k := k) h98_3]; exact htg⟩, ⟨by simpa using hcp117_7, by dsimp only; rw [off_yes (xs := ys17) (k := k) h110_7]; simpa using hlp117_7, by dsimp only; rw [off_yes (xs := ys17) (k := k) h110_7]; simpa using htp117_7⟩⟩ (by dsimp only; omega) (Sub.cons rfl (Sub.cons rfl (Sub.cons rfl (Sub.cons rfl (Sub.cons rfl (Sub.cons (by dsimp only; rw [off_no (xs := xs17) (k := k) h98_3]; rfl) (Sub.cons (by dsimp only; rw [off_yes (xs := ys17) (k := k) h110_7]; rfl) (Sub.cons (by dsimp only; first | (rw [sameTo_yes hg81_1]; rfl) | (rw [sameTo_no hg81_1]; rfl)) (Sub.sel [11] rfl))))))))) (fun _ h => h.sub (List.Sublist.cons _ (List.Sublist.cons_cons _ (List.Sublist.cons_cons _ (List.Sublist.cons_cons _ (List.Sublist.cons_cons _ (List.Sublist.refl _)))))))
            ·
             replace h110_7 := not_false h110_7
             replace h110_7 := of_decide_eq_true h110_7
             refine Wk.skip ?_
             refine Kt.sel [3, 4, 5, 6, 7, 8, 9, 10, 11] [_, _, _, _, _, _, _, _, _] rfl ?_
             refine Wk.regionQ ?_
             refine Lq.run 1 rfl ?_
             refine Lq.op rfl rfl rfl (OpQ.add rfl rfl rfl (by omega) (by omega)) ?_
             refine Lq.run 1 rfl ?_
             refine Lq.nil ?_
             refine Kt.again ((k + 1, g, c, u, g2, c2, u2)) ⟨by omega, ⟨hcg, by dsimp only; rw [off_no (xs := xs17) (k := k) h98_3]; exact hlg, by dsimp only; rw [off_no (xs := xs17) (k := k) h98_3]; exact htg⟩, ⟨hcg2, by dsimp only; rw [off_no (xs := ys17) (k := k) h110_7]; exact hlg2, by dsimp only; rw [off_no (xs := ys17) (k := k) h110_7]; exact htg2⟩⟩ (by dsimp only; omega) (Sub.cons rfl (Sub.cons rfl (Sub.cons rfl (Sub.cons rfl (Sub.cons rfl (Sub.cons (by dsimp only; rw [off_no (xs := xs17) (k := k) h98_3]; rfl) (Sub.cons (by dsimp only; rw [off_no (xs := ys17) (k := k) h110_7]; rfl) (Sub.cons (by dsimp only; first | (rw [sameTo_yes hg81_1]; rfl) | (rw [sameTo_no hg81_1]; rfl)) (Sub.sel [11] rfl))))))))) (fun _ h => h.sub (List.Sublist.cons_cons _ (List.Sublist.cons_cons _ (List.Sublist.cons_cons _ (List.Sublist.cons_cons _ (List.Sublist.refl _))))))
         ·
          replace h77_1 := of_decide_eq_false h77_1
          have hkx : k = xs17.length := by omega
          refine Wk.exit rfl ?_
          refine Kt.sel [3, 4, 5, 6, 7, 8, 9, 10] [_, _, _, _, _, _, _, _] rfl ?_
          refine Wk.seq ?_
          refine Wk.regionQ ?_
          refine Lq.run 3 rfl ?_
          refine Lq.bool fun b120 hg120_1 => ?_
          cases b120
          ·
           refine Lq.pass rfl rfl rfl ?_
           refine Lq.pass rfl rfl rfl ?_
           refine Lq.pass rfl rfl rfl ?_
           refine Lq.pass rfl rfl rfl ?_
           refine Lq.pass rfl rfl rfl ?_
           refine Lq.run 1 rfl ?_
           refine Lq.op rfl rfl rfl (OpQ.beq rfl Tryd.runUnderlying4 rfl rfl) ?_
           refine Lq.run 1 rfl ?_
           refine Lq.bool fun b128 hg128_2 => ?_
           cases b128
           ·
            exact absurd hg128_2 (by first | (rw [peb_law hpre, ← hkx, (by assumption : sameTo xs17 ys17 k = true), Bool.true_and, beq_self_eq_true]; decide) | (rw [peb_law hpre, ← hkx, (by assumption : sameTo xs17 ys17 k = false)]; simp))
           ·
            refine Lq.op rfl rfl rfl (OpQ.loadBox (cs := #[i6_ b17.n, str b17.set, str b17.rel]) 2 rfl Tryd.isAgg24 rfl rfl Tryd.sizeOf24) ?_
            refine Lq.run 1 rfl ?_
            refine Lq.op rfl rfl rfl (OpQ.loadBox (cs := #[i6_ a17.n, str a17.set, str a17.rel]) 3 rfl Tryd.isAgg24 rfl rfl Tryd.sizeOf24) ?_
            refine Lq.run 1 rfl ?_
            refine Lq.op (v := bo_ (fitB b17 ys17 a17 xs17)) rfl rfl rfl (OpQ.call rfl Tryd.call16 rfl Own.stable (fun w1 hw1 => iFit_ok b17 a17 ys17 xs17 u17 v17 w1 hsb17 hsa17 (hIu17 _ (Own.dropR (Own.drop (f := [_, _, _, _]) hw1))) (hIv17 _ (Own.dropR (Own.drop (f := [_, _, _, _]) hw1))) (by first | (simp; done) | (simp; omega) | omega) (by first | (simp; done) | (simp; omega) | omega))) ?_
            refine Lq.run 1 rfl ?_
            refine Lq.op rfl rfl rfl (OpQ.beq rfl Tryd.runUnderlying4 rfl rfl) ?_
            refine Lq.run 2 rfl ?_
            refine Lq.nil ?_
            refine Kt.sel [2] [_] rfl ?_
            refine Wk.ret (Kt.end1 rfl rfl fun w' hw => ?_)
            -- ret 4: bo_ ((fitB b17 ys17 a17 xs17) == (fitB a17 xs17 b17 ys17))
            exact ⟨ret_b (by first | rfl | (simp_all; done) | (rw [fit_comm]; exact beq_self_eq_true _)), hw.below⟩
          ·
           refine Lq.op rfl rfl rfl (OpQ.loadBox (cs := #[i6_ a17.n, str a17.set, str a17.rel]) 3 rfl Tryd.isAgg24 rfl rfl Tryd.sizeOf24) ?_
           refine Lq.run 1 rfl ?_
           refine Lq.op rfl rfl rfl (OpQ.loadBox (cs := #[i6_ b17.n, str b17.set, str b17.rel]) 2 rfl Tryd.isAgg24 rfl rfl Tryd.sizeOf24) ?_
           refine Lq.run 1 rfl ?_
           refine Lq.op (v := bo_ (wayB a17 ((offTo xs17 k)) b17 ((offTo ys17 k)))) rfl rfl rfl (OpQ.call rfl Tryd.call19 rfl Own.stable (fun w1 hw1 => iPart_ok a17 b17 ((offTo xs17 k)) ((offTo ys17 k)) (sl_ g ((offTo xs17 k).length) c) (sl_ g2 ((offTo ys17 k).length) c2) w1 hsa17 hsb17 (Own.row hw1 (i := 1) rfl htg (by simp) hlg) (Own.row hw1 (i := 0) rfl htg2 (by simp) hlg2) (by first | (simp; done) | (simp; omega) | omega) (by first | (simp; done) | (simp; omega) | omega))) ?_
           refine Lq.run 1 rfl ?_
           refine Lq.op rfl rfl rfl (OpQ.beq rfl Tryd.runUnderlying4 rfl rfl) ?_
           refine Lq.run 1 rfl ?_
           refine Lq.bool fun b128 hg128_3 => ?_
           cases b128
           ·
            exact absurd hg128_3 (by first | (rw [peb_law hpre, ← hkx, (by assumption : sameTo xs17 ys17 k = true), Bool.true_and, beq_self_eq_true]; decide) | (rw [peb_law hpre, ← hkx, (by assumption : sameTo xs17 ys17 k = false)]; simp))
           ·
            refine Lq.op rfl rfl rfl (OpQ.loadBox (cs := #[i6_ b17.n, str b17.set, str b17.rel]) 2 rfl Tryd.isAgg24 rfl rfl Tryd.sizeOf24) ?_
            refine Lq.run 1 rfl ?_
            refine Lq.op rfl rfl rfl (OpQ.loadBox (cs := #[i6_ a17.n, str a17.set, str a17.rel]) 3 rfl Tryd.isAgg24 rfl rfl Tryd.sizeOf24) ?_
            refine Lq.run 1 rfl ?_
            refine Lq.op (v := bo_ (fitB b17 ys17 a17 xs17)) rfl rfl rfl (OpQ.call rfl Tryd.call16 rfl Own.stable (fun w1 hw1 => iFit_ok b17 a17 ys17 xs17 u17 v17 w1 hsb17 hsa17 (hIu17 _ (Own.dropR (Own.drop (f := [_, _, _, _]) hw1))) (hIv17 _ (Own.dropR (Own.drop (f := [_, _, _, _]) hw1))) (by first | (simp; done) | (simp; omega) | omega) (by first | (simp; done) | (simp; omega) | omega))) ?_
            refine Lq.run 1 rfl ?_
            refine Lq.op rfl rfl rfl (OpQ.beq rfl Tryd.runUnderlying4 rfl rfl) ?_
            refine Lq.run 2 rfl ?_
            refine Lq.nil ?_
            refine Kt.sel [2] [_] rfl ?_
            refine Wk.ret (Kt.end1 rfl rfl fun w' hw => ?_)
            -- ret 5: bo_ ((fitB b17 ys17 a17 xs17) == (fitB a17 xs17 b17 ys17))
            exact ⟨ret_b (by first | rfl | (simp_all; done) | (rw [fit_comm]; exact beq_self_eq_true _)), hw.below⟩
       ·
        replace hg58 := of_decide_eq_true hg58
        refine Lq.pass rfl rfl rfl ?_
        refine Lq.pass rfl rfl rfl ?_
        refine Lq.pass rfl rfl rfl ?_
        refine Lq.run 3 rfl ?_
        refine Lq.nil ?_
        refine Kt.sel [3, 4, 5, 6, 7, 64] [_, _, _, _, _, _] rfl ?_
        refine Wk.condT rfl ?_
        refine Wk.seq ?_
        refine Wk.regionQ ?_
        refine Lq.run 1 rfl ?_
        refine Lq.op rfl rfl rfl (OpQ.loadBox (cs := #[i6_ a17.n, str a17.set, str a17.rel]) 1 rfl Tryd.isAgg24 rfl rfl Tryd.sizeOf24) ?_
        refine Lq.run 1 rfl ?_
        refine Lq.op rfl rfl rfl (OpQ.loadBox (cs := #[i6_ b17.n, str b17.set, str b17.rel]) 0 rfl Tryd.isAgg24 rfl rfl Tryd.sizeOf24) ?_
        refine Lq.run 1 rfl ?_
        refine Lq.op (v := bo_ (fitB a17 xs17 b17 ys17)) rfl rfl rfl (OpQ.call rfl Tryd.call17 rfl Own.stable (fun w1 hw1 => sFit_ok a17 b17 xs17 ys17 v17 u17 w1 hsa17 hsb17 (hIv17 _ (Own.dropR (Own.drop (f := [_, _]) hw1))) (hIu17 _ (Own.dropR (Own.drop (f := [_, _]) hw1))) (by first | (simp; done) | (simp; omega) | omega) (by first | (simp; done) | (simp; omega) | omega) loa17 hia17 lob17 hib17)) ?_
        refine Lq.op rfl rfl rfl (OpQ.beq rfl Tryd.runUnderlying4 rfl rfl) ?_
        refine Lq.run 1 rfl ?_
        refine Lq.nil ?_
        refine Kt.sel [2] [_] rfl ?_
        refine Wk.ret (Kt.end1 rfl rfl fun w' hw => ?_)
        -- ret 6: bo_ ((fitB a17 xs17 b17 ys17) == (fitB a17 xs17 b17 ys17))
        exact ⟨ret_b (by first | rfl | (simp_all; done) | (rw [fit_comm]; exact beq_self_eq_true _)), hw.below⟩
      ·
       replace hg53 := not_true hg53
       replace hg53 := of_decide_eq_false hg53
       refine Lq.pass rfl rfl rfl ?_
       refine Lq.pass rfl rfl rfl ?_
       refine Lq.pass rfl rfl rfl ?_
       refine Lq.run 2 rfl ?_
       refine Lq.pass rfl rfl rfl ?_
       refine Lq.pass rfl rfl rfl ?_
       refine Lq.pass rfl rfl rfl ?_
       refine Lq.run 3 rfl ?_
       refine Lq.nil ?_
       refine Kt.sel [3, 4, 5, 6, 7, 64] [_, _, _, _, _, _] rfl ?_
       refine Wk.condT rfl ?_
       refine Wk.seq ?_
       refine Wk.regionQ ?_
       refine Lq.run 1 rfl ?_
       refine Lq.op rfl rfl rfl (OpQ.loadBox (cs := #[i6_ a17.n, str a17.set, str a17.rel]) 1 rfl Tryd.isAgg24 rfl rfl Tryd.sizeOf24) ?_
       refine Lq.run 1 rfl ?_
       refine Lq.op rfl rfl rfl (OpQ.loadBox (cs := #[i6_ b17.n, str b17.set, str b17.rel]) 0 rfl Tryd.isAgg24 rfl rfl Tryd.sizeOf24) ?_
       refine Lq.run 1 rfl ?_
       refine Lq.op (v := bo_ (fitB a17 xs17 b17 ys17)) rfl rfl rfl (OpQ.call rfl Tryd.call17 rfl Own.stable (fun w1 hw1 => sFit_ok a17 b17 xs17 ys17 v17 u17 w1 hsa17 hsb17 (hIv17 _ (Own.dropR (Own.drop (f := [_, _]) hw1))) (hIu17 _ (Own.dropR (Own.drop (f := [_, _]) hw1))) (by first | (simp; done) | (simp; omega) | omega) (by first | (simp; done) | (simp; omega) | omega) loa17 hia17 lob17 hib17)) ?_
       refine Lq.op rfl rfl rfl (OpQ.beq rfl Tryd.runUnderlying4 rfl rfl) ?_
       refine Lq.run 1 rfl ?_
       refine Lq.nil ?_
       refine Kt.sel [2] [_] rfl ?_
       refine Wk.ret (Kt.end1 rfl rfl fun w' hw => ?_)
       -- ret 7: bo_ ((fitB a17 xs17 b17 ys17) == (fitB a17 xs17 b17 ys17))
       exact ⟨ret_b (by first | rfl | (simp_all; done) | (rw [fit_comm]; exact beq_self_eq_true _)), hw.below⟩
     ·
      replace hg46 := not_true hg46
      refine Lq.pass rfl rfl rfl ?_
      refine Lq.pass rfl rfl rfl ?_
      refine Lq.pass rfl rfl rfl ?_
      refine Lq.pass rfl rfl rfl ?_
      refine Lq.pass rfl rfl rfl ?_
      refine Lq.run 2 rfl ?_
      refine Lq.pass rfl rfl rfl ?_
      refine Lq.pass rfl rfl rfl ?_
      refine Lq.pass rfl rfl rfl ?_
      refine Lq.run 2 rfl ?_
      refine Lq.pass rfl rfl rfl ?_
      refine Lq.pass rfl rfl rfl ?_
      refine Lq.pass rfl rfl rfl ?_
      refine Lq.run 3 rfl ?_
      refine Lq.nil ?_
      refine Kt.sel [3, 4, 5, 6, 7, 64] [_, _, _, _, _, _] rfl ?_
      refine Wk.condT rfl ?_
      refine Wk.seq ?_
      refine Wk.regionQ ?_
      refine Lq.run 1 rfl ?_
      refine Lq.op rfl rfl rfl (OpQ.loadBox (cs := #[i6_ a17.n, str a17.set, str a17.rel]) 1 rfl Tryd.isAgg24 rfl rfl Tryd.sizeOf24) ?_
      refine Lq.run 1 rfl ?_
      refine Lq.op rfl rfl rfl (OpQ.loadBox (cs := #[i6_ b17.n, str b17.set, str b17.rel]) 0 rfl Tryd.isAgg24 rfl rfl Tryd.sizeOf24) ?_
      refine Lq.run 1 rfl ?_
      refine Lq.op (v := bo_ (fitB a17 xs17 b17 ys17)) rfl rfl rfl (OpQ.call rfl Tryd.call17 rfl Own.stable (fun w1 hw1 => sFit_ok a17 b17 xs17 ys17 v17 u17 w1 hsa17 hsb17 (hIv17 _ (Own.dropR (Own.drop (f := [_, _]) hw1))) (hIu17 _ (Own.dropR (Own.drop (f := [_, _]) hw1))) (by first | (simp; done) | (simp; omega) | omega) (by first | (simp; done) | (simp; omega) | omega) loa17 hia17 lob17 hib17)) ?_
      refine Lq.op rfl rfl rfl (OpQ.beq rfl Tryd.runUnderlying4 rfl rfl) ?_
      refine Lq.run 1 rfl ?_
      refine Lq.nil ?_
      refine Kt.sel [2] [_] rfl ?_
      refine Wk.ret (Kt.end1 rfl rfl fun w' hw => ?_)
      -- ret 8: bo_ ((fitB a17 xs17 b17 ys17) == (fitB a17 xs17 b17 ys17))
      exact ⟨ret_b (by first | rfl | (simp_all; done) | (rw [fit_comm]; exact beq_self_eq_true _)), hw.below⟩
    ·
     replace hg41 := not_true hg41
     refine Lq.pass rfl rfl rfl ?_
     refine Lq.pass rfl rfl rfl ?_
     refine Lq.pass rfl rfl rfl ?_
     refine Lq.run 2 rfl ?_
     refine Lq.pass rfl rfl rfl ?_
     refine Lq.pass rfl rfl rfl ?_
     refine Lq.pass rfl rfl rfl ?_
     refine Lq.pass rfl rfl rfl ?_
     refine Lq.pass rfl rfl rfl ?_
     refine Lq.run 2 rfl ?_
     refine Lq.pass rfl rfl rfl ?_
     refine Lq.pass rfl rfl rfl ?_
     refine Lq.pass rfl rfl rfl ?_
     refine Lq.run 2 rfl ?_
     refine Lq.pass rfl rfl rfl ?_
     refine Lq.pass rfl rfl rfl ?_
     refine Lq.pass rfl rfl rfl ?_
     refine Lq.run 3 rfl ?_
     refine Lq.nil ?_
     refine Kt.sel [3, 4, 5, 6, 7, 64] [_, _, _, _, _, _] rfl ?_
     refine Wk.condT rfl ?_
     refine Wk.seq ?_
     refine Wk.regionQ ?_
     refine Lq.run 1 rfl ?_
     refine Lq.op rfl rfl rfl (OpQ.loadBox (cs := #[i6_ a17.n, str a17.set, str a17.rel]) 1 rfl Tryd.isAgg24 rfl rfl Tryd.sizeOf24) ?_
     refine Lq.run 1 rfl ?_
     refine Lq.op rfl rfl rfl (OpQ.loadBox (cs := #[i6_ b17.n, str b17.set, str b17.rel]) 0 rfl Tryd.isAgg24 rfl rfl Tryd.sizeOf24) ?_
     refine Lq.run 1 rfl ?_
     refine Lq.op (v := bo_ (fitB a17 xs17 b17 ys17)) rfl rfl rfl (OpQ.call rfl Tryd.call17 rfl Own.stable (fun w1 hw1 => sFit_ok a17 b17 xs17 ys17 v17 u17 w1 hsa17 hsb17 (hIv17 _ (Own.dropR (Own.drop (f := [_, _]) hw1))) (hIu17 _ (Own.dropR (Own.drop (f := [_, _]) hw1))) (by first | (simp; done) | (simp; omega) | omega) (by first | (simp; done) | (simp; omega) | omega) loa17 hia17 lob17 hib17)) ?_
     refine Lq.op rfl rfl rfl (OpQ.beq rfl Tryd.runUnderlying4 rfl rfl) ?_
     refine Lq.run 1 rfl ?_
     refine Lq.nil ?_
     refine Kt.sel [2] [_] rfl ?_
     refine Wk.ret (Kt.end1 rfl rfl fun w' hw => ?_)
     -- ret 9: bo_ ((fitB a17 xs17 b17 ys17) == (fitB a17 xs17 b17 ys17))
     exact ⟨ret_b (by first | rfl | (simp_all; done) | (rw [fit_comm]; exact beq_self_eq_true _)), hw.below⟩
  ·
   exact absurd hg34 (by simp)

end Go.Proofs.YtmannilblelfjaaDoor
