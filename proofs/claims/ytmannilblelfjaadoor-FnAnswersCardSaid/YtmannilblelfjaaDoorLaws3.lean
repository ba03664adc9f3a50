/-
  Walks: the law of answers.
-/
import Derived.Test.YtmannilblelfjaaDoorAnsM
import Derived.Test.YtmannilblelfjaaDoorDrawsF
import Derived.Test.YtmannilblelfjaaDoorBase
namespace Go.Proofs.YtmannilblelfjaaDoor
open Go.RowKit Go.Wk
set_option linter.unusedSimpArgs false

def lawFnAnswers_o12x : OV := (.take 0 (.take 1 (.take 3 (.take 4 (.take 5 (.take 6 (.one 2 (.one 7 (.take 8 (.take 9 (.take 10 (.take 11 (.take 13 (.take 14 (.take 15 (.take 16 (.take 17 (.take 19 (.one 12 (.one 18 (.one 20 (.take 21 (.take 22 .done)))))))))))))))))))))))
theorem lawFnAnswers_o12x_c : ovB (opsOf 12 Tryd.f4.body) lawFnAnswers_o12x 23 true #[false, false, false, false, false, false, false, false, false, false, false, false, false, false, false, false, false, false, false, false, false, false, false] = true := (ovB_take (by kernel_rfl) (ovB_take (by kernel_rfl) (ovB_take (by kernel_rfl) (ovB_take (by kernel_rfl) (ovB_take (by kernel_rfl) (ovB_take (by kernel_rfl) (ovB_one (by kernel_rfl) (ovB_one (by kernel_rfl) (ovB_take (by kernel_rfl) (ovB_take (by kernel_rfl) (ovB_take (by kernel_rfl) (ovB_take (by kernel_rfl) (ovB_take (by kernel_rfl) (ovB_take (by kernel_rfl) (ovB_take (by kernel_rfl) (ovB_take (by kernel_rfl) (ovB_take (by kernel_rfl) (ovB_take (by kernel_rfl) (ovB_one (by kernel_rfl) (ovB_one (by kernel_rfl) (ovB_one (by kernel_rfl) (ovB_take (by kernel_rfl) (ovB_take (by kernel_rfl) (ovB_done (by kernel_rfl)))))))))))))))))))))))))
set_option maxHeartbeats 400000 in
/-- laws.FnAnswers -/
theorem lawFnAnswers (bv : Value) (L : List Int) (w : World) (hbv : Row w bv (u8s L)) (hL8 : Bytes8 L) (hLm : L.length ≤ 9223372036854775807) :
    Calls Tryd.prog 4 [bv].toArray w fun en w' => en = .returned (.bool true) ∧ Below w.heap.size w w' := by
 refine fnStart (n := 138) (e := [(0, bv)]) Tryd.func4 rfl rfl rfl rfl Ends.both ?_
 refine Wk.seq ?_
 refine Wk.regionQ ?_
 refine Lq.run 1 rfl ?_
 refine Lq.nil ?_
 refine Kt.sel [0] [_] rfl ?_
 refine Wk.seq ?_
 refine Wk.seq ?_
 refine Wk.regionQ ?_
 refine Lq.run 1 rfl ?_
 refine Lq.op rfl rfl rfl (OpQ.lenRow rfl Tryd.runUnderlying22 rfl (u8s_length _) (fun w1 hw1 => Row.own hbv hw1)) ?_
 refine Lq.run 1 rfl ?_
 refine Lq.nil ?_
 refine Kt.sel [0, 15] [_, _] rfl ?_
 refine Wk.cond (b := decide ((1048576 : Int) < ((L.length : Int)))) rfl (fun h15 => ?_) (fun h15 => ?_)
 ·
  replace h15 := of_decide_eq_true h15
  refine Wk.seq ?_
  refine Wk.regionQ ?_
  refine Lq.run 1 rfl ?_
  refine Lq.nil ?_
  refine Kt.sel [2] [_] rfl ?_
  refine Wk.ret (Kt.end1 rfl rfl fun w' hw => ?_)
  -- ret 0: bo_ true
  exact ⟨ret_b (by first | rfl | (simp_all; done) | (simp_all; omega)), hw.below⟩
 ·
  replace h15 := of_decide_eq_false h15
  refine Wk.skip ?_
  refine Kt.sel [0] [_] rfl ?_
  refine Wk.seq ?_
  refine Wk.region ?_
  refine Ll.run 1 rfl ?_
  refine Ll.callBack (ok := fun ((a, b, v, xs, u, ys, new, r) : St × St × Value × List Int × Value × List Int × List (Nat × Obj) × Int) => ((a.Tame ∧ b.Tame) ∧ (xs.length ≤ 40 ∧ ys.length ≤ 40) ∧ ∀ w1, Own w.heap.size w new w1 → Ints w1 v xs ∧ Ints w1 u ys) ∧ -1 ≤ r ∧ r ≤ 9223372036854775807) (v := fun ((a, b, v, xs, u, ys, new, r) : St × St × Value × List Int × Value × List Int × List (Nat × Obj) × Int) => .tuple #[vS a, v, vS b, u, .int .i64 r]) (new := fun ((a, b, v, xs, u, ys, new, r) : St × St × Value × List Int × Value × List Int × List (Nat × Obj) × Int) => new) (hs := []) (xs := [.tmp 17]) (vs := [bv]) ([] : List (Nat × Obj)) rfl rfl rfl rfl Tryd.call20 rfl (fun w1 hw1 => (drawAns_ok w.heap.size w (([] : List (Nat × Obj)) ++ ([])) bv L w1 (fun w2 hw2 => Row.own hbv hw2) hL8 (by omega) hw1).mono fun en w' ⟨a, b, v, xs, u, ys, new, r, h1, h2, h3⟩ => ⟨(a, b, v, xs, u, ys, new, r), h1, h2, h3⟩) fun ⟨a18, b18, v18, xs18, u18, ys18, new18, r18⟩ hK => ?_
  dsimp only at hK
  obtain ⟨⟨⟨hta18, htb18⟩, ⟨hlxs18, hlys18⟩, hrw⟩, ⟨hlor18, hhir18⟩⟩ := hK
  have hIv18 : ∀ w1, Own w.heap.size w new18 w1 → Ints w1 v18 xs18 := fun w1 h => (hrw w1 h).1
  have hIu18 : ∀ w1, Own w.heap.size w new18 w1 → Ints w1 u18 ys18 := fun w1 h => (hrw w1 h).2
  have hsa18 := hta18.small
  have loa18 := hta18.lo
  have hia18 := hta18.hi
  have hsb18 := htb18.small
  have lob18 := htb18.lo
  have hib18 := htb18.hi
  show Ll _ _ (Own _ _ ((new18 ++ ([])))) _ _ ((18, .tuple #[vS a18, v18, vS b18, u18, i6_ r18]) :: _) _ _ _
  refine Ll.run 6 rfl ?_
  refine Ll.alloc rfl rfl rfl rfl Tryd.zeroValue24 fun p3 hp3 => ?_
  show Ll _ _ (Own _ _ (_ :: (new18 ++ ([])))) _ _ ((3, pt_ p3) :: _) _ _ _
  refine Ll.alloc rfl rfl rfl rfl Tryd.zeroValue24 fun p5 hp5 => ?_
  show Ll _ _ (Own _ _ (_ :: _ :: (new18 ++ ([])))) _ _ ((5, pt_ p5) :: _) _ _ _
  refine Ll.storeBox (cs' := #[i6_ a18.n, str a18.set, str a18.rel]) (hs' := (_ :: bk_ p3 #[i6_ a18.n, str a18.set, str a18.rel] 24 :: (new18 ++ ([])))) 1 rfl rfl rfl rfl rfl (by kernel_rfl : _ = some Tryd.t24) rfl rfl rfl rfl rfl ?_
  refine Ll.run 1 rfl ?_
  refine Ll.storeBox (cs' := #[i6_ b18.n, str b18.set, str b18.rel]) (hs' := (bk_ p5 #[i6_ b18.n, str b18.set, str b18.rel] 24 :: _ :: (new18 ++ ([])))) 0 rfl rfl rfl rfl rfl (by kernel_rfl : _ = some Tryd.t24) rfl rfl rfl rfl rfl ?_
  refine Ll.run 2 rfl ?_
  refine Ll.nil ?_
  refine Kt.sel [3, 4, 5, 6, 7] [_, _, _, _, _] rfl ?_
  refine Wk.seq ?_
  refine Wk.region ?_
  refine Ll.op rfl rfl rfl (OpQ.loadBox (cs := #[i6_ a18.n, str a18.set, str a18.rel]) 1 rfl Tryd.isAgg24 rfl rfl Tryd.sizeOf24) ?_
  refine Ll.run 1 rfl ?_
  refine Ll.op rfl rfl rfl (OpQ.loadBox (cs := #[i6_ b18.n, str b18.set, str b18.rel]) 0 rfl Tryd.isAgg24 rfl rfl Tryd.sizeOf24) ?_
  refine Ll.run 2 rfl ?_
  refine Ll.callBack (ok := fun ((v, new) : Value × List (Nat × Obj)) => ∀ w1, Own w.heap.size w new w1 → Ints w1 v (ansL a18 xs18 b18 ys18 r18)) (v := fun ((v, new) : Value × List (Nat × Obj)) => v) (new := fun ((v, new) : Value × List (Nat × Obj)) => new) (hs := new18 ++ ([])) (xs := [.tmp 24, .tmp 25, .tmp 26, .tmp 27, .tmp 28]) (vs := [vS a18, v18, vS b18, u18, i6_ r18]) ([bk_ p5 #[i6_ b18.n, str b18.set, str b18.rel] 24, bk_ p3 #[i6_ a18.n, str a18.set, str a18.rel] 24] : List (Nat × Obj)) rfl rfl rfl rfl Tryd.call21 rfl (fun w1 hw1 => (iAns_all a18 b18 xs18 ys18 v18 u18 r18 w.heap.size w (([bk_ p5 #[i6_ b18.n, str b18.set, str b18.rel] 24, bk_ p3 #[i6_ a18.n, str a18.set, str a18.rel] 24] : List (Nat × Obj)) ++ (new18 ++ ([]))) w1 hsa18 hsb18 (hIv18 _ (Own.dropR (Own.drop (f := [_, _]) hw1))) (hIu18 _ (Own.dropR (Own.drop (f := [_, _]) hw1))) (by omega) (by omega) loa18 hia18 lob18 hib18 hw1).mono fun en w' ⟨v, new, h1, h2, h3⟩ => ⟨(v, new), h1, h2, h3⟩) fun ⟨v29, new29⟩ hIv29 => ?_
  dsimp only at hIv29
  have hlev29 : (ansL a18 xs18 b18 ys18 r18).length ≤ 8 := ansL_le _ _ _ _ _
  show Ll _ _ (Own _ _ (_ :: _ :: (new29 ++ (new18 ++ ([]))))) _ _ ((29, v29) :: _) _ _ _
  refine Ll.run 1 rfl ?_
  refine Ll.nil ?_
  refine Kt.sel [3, 4, 5, 6, 7, 8] [_, _, _, _, _, _] rfl ?_
  refine Wk.seq ?_
  refine Wk.seq ?_
  refine Wk.region ?_
  refine Ll.run 1 rfl ?_
  refine Ll.op rfl rfl rfl (OpQ.loadBox (cs := #[i6_ a18.n, str a18.set, str a18.rel]) 1 rfl Tryd.isAgg24 rfl rfl Tryd.sizeOf24) ?_
  refine Ll.run 1 rfl ?_
  refine Ll.op rfl rfl rfl (OpQ.loadBox (cs := #[i6_ b18.n, str b18.set, str b18.rel]) 0 rfl Tryd.isAgg24 rfl rfl Tryd.sizeOf24) ?_
  refine Ll.run 2 rfl ?_
  refine Ll.callBack (ok := fun ((v, new) : Value × List (Nat × Obj)) => ∀ w1, Own w.heap.size w new w1 → Ints w1 v (ansL a18 xs18 b18 ys18 r18)) (v := fun ((v, new) : Value × List (Nat × Obj)) => v) (new := fun ((v, new) : Value × List (Nat × Obj)) => new) (hs := new29 ++ (new18 ++ ([]))) (xs := [.tmp 31, .tmp 32, .tmp 33, .tmp 34, .tmp 35]) (vs := [vS a18, v18, vS b18, u18, i6_ r18]) ([bk_ p5 #[i6_ b18.n, str b18.set, str b18.rel] 24, bk_ p3 #[i6_ a18.n, str a18.set, str a18.rel] 24] : List (Nat × Obj)) rfl rfl rfl rfl Tryd.call23 rfl (fun w1 hw1 => (sAns_all a18 b18 xs18 ys18 v18 u18 r18 w.heap.size w (([bk_ p5 #[i6_ b18.n, str b18.set, str b18.rel] 24, bk_ p3 #[i6_ a18.n, str a18.set, str a18.rel] 24] : List (Nat × Obj)) ++ (new29 ++ (new18 ++ ([])))) w1 hsa18 hsb18 (hIv18 _ (Own.dropR (Own.drop (f := new29) (Own.drop (f := [_, _]) hw1)))) (hIu18 _ (Own.dropR (Own.drop (f := new29) (Own.drop (f := [_, _]) hw1)))) (by omega) (by omega) loa18 hia18 lob18 hib18 hw1).mono fun en w' ⟨v, new, h1, h2, h3⟩ => ⟨(v, new), h1, h2, h3⟩) fun ⟨v36, new36⟩ hIv36 => ?_
  dsimp only at hIv36
  have hlev36 : (ansL a18 xs18 b18 ys18 r18).length ≤ 8 := ansL_le _ _ _ _ _
  show Ll _ _ (Own _ _ (_ :: _ :: (new36 ++ (new29 ++ (new18 ++ ([])))))) _ _ ((36, v36) :: _) _ _ _
  refine Ll.op (v := bo_ (((ansL a18 xs18 b18 ys18 r18)) == ((ansL a18 xs18 b18 ys18 r18)))) rfl rfl rfl (OpQ.call rfl Tryd.call22 rfl Own.stable (fun w1 hw1 => gsSame_ok v29 v36 ((ansL a18 xs18 b18 ys18 r18)) ((ansL a18 xs18 b18 ys18 r18)) w1 (hIv29 _ (Own.dropR (Own.drop (f := new36) (Own.drop (f := [_, _]) hw1)))) (hIv36 _ (Own.dropR (Own.drop (f := [_, _]) hw1))) (by omega) (by omega))) ?_
  refine Ll.run 2 rfl ?_
  refine Ll.bool fun b39 hg39 => ?_
  cases b39
  ·
   replace hg39 := not_false hg39
   refine Ll.op rfl rfl rfl (OpQ.loadBox (cs := #[i6_ a18.n, str a18.set, str a18.rel]) 1 rfl Tryd.isAgg24 rfl rfl Tryd.sizeOf24) ?_
   refine Ll.run 1 rfl ?_
   refine Ll.op rfl rfl rfl (OpQ.loadBox (cs := #[i6_ b18.n, str b18.set, str b18.rel]) 0 rfl Tryd.isAgg24 rfl rfl Tryd.sizeOf24) ?_
   refine Ll.run 1 rfl ?_
   refine Ll.op (v := bo_ (wayB a18 xs18 b18 ys18)) rfl rfl rfl (OpQ.call rfl Tryd.call19 rfl Own.stable (fun w1 hw1 => iPart_ok a18 b18 xs18 ys18 v18 u18 w1 hsa18 hsb18 (hIv18 _ (Own.dropR (Own.drop (f := new29) (Own.drop (f := new36) (Own.drop (f := [_, _]) hw1))))) (hIu18 _ (Own.dropR (Own.drop (f := new29) (Own.drop (f := new36) (Own.drop (f := [_, _]) hw1))))) (by first | (simp; done) | (simp; omega) | omega) (by first | (simp; done) | (simp; omega) | omega))) ?_
   refine Ll.run 3 rfl ?_
   refine Ll.bool fun b47 hg47 => ?_
   cases b47
   ·
    replace hg47 := not_false hg47
    refine Ll.run 4 rfl ?_
    refine Ll.bool fun b51 hg51 => ?_
    cases b51
    ·
     replace hg51 := of_decide_eq_false hg51
     refine Ll.run 1 rfl ?_
     refine Ll.op rfl rfl rfl (OpQ.fieldAddr rfl Tryd.runUnderlying24 rfl Tryd.sizeOf3 rfl rfl) ?_
     refine Ll.op rfl rfl rfl (OpQ.loadOwn 1 rfl Tryd.isAgg3 rfl rfl rfl) ?_
     refine Ll.run 3 rfl ?_
     refine Ll.bool fun b57 hg57 => ?_
     cases b57
     ·
      replace hg57 := of_decide_eq_false hg57
      refine Ll.run 1 rfl ?_
      refine Ll.op rfl rfl rfl (OpQ.lenRow rfl Tryd.runUnderlying25 rfl (ints_length _) (fun w1 hw1 => hIv18 _ (Own.dropR (Own.drop (f := new29) (Own.drop (f := new36) (Own.drop (f := [_, _]) hw1)))))) ?_
      refine Ll.run 2 rfl ?_
      refine Ll.nil ?_
      refine Kt.sel [3, 4, 5, 6, 7, 8, 61] [_, _, _, _, _, _, _] rfl ?_
      refine Wk.cond (b := decide ((3 : Int) < ((xs18.length : Int)))) rfl (fun h61 => ?_) (fun h61 => ?_)
      ·
       replace h61 := of_decide_eq_true h61
       refine Wk.seq ?_
       refine Wk.region ?_
       refine Ll.run 1 rfl ?_
       refine Ll.op rfl rfl rfl (OpQ.loadBox (cs := #[i6_ a18.n, str a18.set, str a18.rel]) 1 rfl Tryd.isAgg24 rfl rfl Tryd.sizeOf24) ?_
       refine Ll.run 1 rfl ?_
       refine Ll.op rfl rfl rfl (OpQ.loadBox (cs := #[i6_ b18.n, str b18.set, str b18.rel]) 0 rfl Tryd.isAgg24 rfl rfl Tryd.sizeOf24) ?_
       refine Ll.run 2 rfl ?_
       refine Ll.callBack (ok := fun ((v, new) : Value × List (Nat × Obj)) => ∀ w1, Own w.heap.size w new w1 → Ints w1 v (ansL a18 xs18 b18 ys18 r18)) (v := fun ((v, new) : Value × List (Nat × Obj)) => v) (new := fun ((v, new) : Value × List (Nat × Obj)) => new) (hs := new36 ++ (new29 ++ (new18 ++ ([])))) (xs := [.tmp 63, .tmp 64, .tmp 65, .tmp 66, .tmp 67]) (vs := [vS a18, v18, vS b18, u18, i6_ r18]) ([bk_ p5 #[i6_ b18.n, str b18.set, str b18.rel] 24, bk_ p3 #[i6_ a18.n, str a18.set, str a18.rel] 24] : List (Nat × Obj)) rfl rfl rfl rfl Tryd.call23 rfl (fun w1 hw1 => (sAns_all a18 b18 xs18 ys18 v18 u18 r18 w.heap.size w (([bk_ p5 #[i6_ b18.n, str b18.set, str b18.rel] 24, bk_ p3 #[i6_ a18.n, str a18.set, str a18.rel] 24] : List (Nat × Obj)) ++ (new36 ++ (new29 ++ (new18 ++ ([]))))) w1 hsa18 hsb18 (hIv18 _ (Own.dropR (Own.drop (f := new29) (Own.drop (f := new36) (Own.drop (f := [_, _]) hw1))))) (hIu18 _ (Own.dropR (Own.drop (f := new29) (Own.drop (f := new36) (Own.drop (f := [_, _]) hw1))))) (by omega) (by omega) loa18 hia18 lob18 hib18 hw1).mono fun en w' ⟨v, new, h1, h2, h3⟩ => ⟨(v, new), h1, h2, h3⟩) fun ⟨v68, new68⟩ hIv68 => ?_
       dsimp only at hIv68
       have hlev68 : (ansL a18 xs18 b18 ys18 r18).length ≤ 8 := ansL_le _ _ _ _ _
       show Ll _ _ (Own _ _ (_ :: _ :: (new68 ++ (new36 ++ (new29 ++ (new18 ++ ([]))))))) _ _ ((68, v68) :: _) _ _ _
       refine Ll.op (v := bo_ (((ansL a18 xs18 b18 ys18 r18)) == ((ansL a18 xs18 b18 ys18 r18)))) rfl rfl rfl (OpQ.call rfl Tryd.call22 rfl Own.stable (fun w1 hw1 => gsSame_ok v29 v68 ((ansL a18 xs18 b18 ys18 r18)) ((ansL a18 xs18 b18 ys18 r18)) w1 (hIv29 _ (Own.dropR (Own.drop (f := new36) (Own.drop (f := new68) (Own.drop (f := [_, _]) hw1))))) (hIv68 _ (Own.dropR (Own.drop (f := [_, _]) hw1))) (by omega) (by omega))) ?_
       refine Ll.run 1 rfl ?_
       refine Ll.nil ?_
       refine Kt.sel [2] [_] rfl ?_
       refine Wk.ret (Kt.end1 rfl rfl fun w' hw => ?_)
       -- ret 1: bo_ (((ansL a18 xs18 b18 ys18 r18)) == ((ansL a18 xs18 b18 ys18 r18)))
       exact ⟨ret_b (by first | rfl | (simp_all; done) | (simp_all; omega)), hw.below⟩
      ·
       replace h61 := of_decide_eq_false h61
       have hOk : ansOk a18 xs18 b18 ys18 r18 = true := ansOk_of hg47 (by omega) (by omega)
       obtain ⟨hLL, hel, hway⟩ := ansOk_true hOk
       obtain ⟨LA, LB, hlen⟩ := listsB_true hLL
       have ha := LA.fine
       have hb := LB.fine
       have hA := LA.els
       have hB := LB.els
       have hl4 := LA.len
       have hlo1 := ha.lo
       have hlo2 := hb.lo
       have hhi1 := ha.hi
       have hhi2 := hb.hi
       have hrE : ((r18.toNat : Nat) : Int) = r18 := Int.toNat_of_nonneg (by omega)
       refine Wk.skip ?_
       refine Kt.sel [3, 4, 5, 6, 7, 8] [_, _, _, _, _, _] rfl ?_
       refine Wk.seq ?_
       refine Wk.region ?_
       refine Ll.slice (xs := []) (vs := []) Base.elem25 rfl rfl rfl rfl rfl rfl (by decide) rfl fun p70 hp70 => ?_
       refine Ll.run 1 rfl ?_
       refine Ll.appendInts (xs := []) (ys := xs18) Base.elem25 0 rfl rfl rfl rfl rfl rfl rfl rfl (by decide) rfl (fun w1 hw1 => (hIv18 _ (Own.dropR (Own.drop (f := new29) (Own.drop (f := new36) (Own.drop (f := [_, _, _]) hw1)))))) ((xs18).length) (by first | (simp; done) | (simp; omega)) (by first | (simp; done) | (simp; omega) | omega) fun p72 cap72 cur72 hp72 hcp72 hlp72 htp72 => ?_
       show Ll _ _ (Own _ _ (_ :: _ :: _ :: (new36 ++ (new29 ++ (new18 ++ ([])))))) _ _ ((72, sl_ p72 (((xs18).length)) cap72) :: _) _ _ _
       refine Ll.run 1 rfl ?_
       refine Ll.slice (xs := [.tmp 73]) (vs := [i6_ r18]) Base.elem25 rfl rfl rfl rfl rfl rfl (by decide) rfl fun p74 hp74 => ?_
       refine Ll.appendInts (xs := xs18) (ys := [r18]) Base.elem25 1 rfl rfl rfl rfl rfl rfl rfl hcp72 hlp72 (by simpa using htp72) (fun w1 hw1 => (Own.row hw1 (i := 0) rfl (n := 1) (cap := 1) (vs := ints [r18]) rfl rfl (by decide))) ((xs18 ++ ([r18])).length) (by first | (simp; done) | (simp; omega)) (by first | (simp; done) | (simp; omega) | omega) fun p75 cap75 cur75 hp75 hcp75 hlp75 htp75 => ?_
       show Ll _ _ (Own _ _ (_ :: _ :: _ :: _ :: (new36 ++ (new29 ++ (new18 ++ ([])))))) _ _ ((75, sl_ p75 (((xs18 ++ ([r18])).length)) cap75) :: _) _ _ _
       refine Ll.run 1 rfl ?_
       refine Ll.nil ?_
       refine Kt.sel [3, 4, 5, 6, 7, 8, 9] [_, _, _, _, _, _, _] rfl ?_
       refine Wk.seq ?_
       refine Wk.seq ?_
       refine Wk.regionQ ?_
       refine Lq.run 1 rfl ?_
       refine Lq.nil ?_
       refine Kt.sel [3, 4, 5, 6, 7, 8, 9, 10] [_, _, _, _, _, _, _, _] rfl ?_
       refine Wk.block ?_
       refine Wk.loop (σ := Nat) (fun k => (k : Int) ≤ b18.n) (fun k => [(3, pt_ p3), (4, v18), (5, pt_ p5), (6, u18), (7, i6_ r18), (8, v29), (9, sl_ p75 (((xs18 ++ ([r18])).length)) cap75), (10, i6_ ((k : Int)))]) (fun k => Own w.heap.size w (bk_ p74 #[i6_ r18] 3 :: bk_ p75 cur75 3 :: bk_ p5 #[i6_ b18.n, str b18.set, str b18.rel] 24 :: bk_ p3 #[i6_ a18.n, str a18.set, str a18.rel] 24 :: (new36 ++ (new29 ++ (new18 ++ ([])))))) (fun k => (b18.n - k).toNat) (0) (by omega) (Sub.sel [3, 4, 5, 6, 7, 8, 9, 10] rfl) (fun _ h => h) ?_
       rintro k hk
       refine Wk.seq ?_
       refine Wk.seq ?_
       refine Wk.regionQ ?_
       refine Lq.run 1 rfl ?_
       refine Lq.op rfl rfl rfl (OpQ.fieldAddr rfl Tryd.runUnderlying24 rfl Tryd.sizeOf3 rfl rfl) ?_
       refine Lq.op rfl rfl rfl (OpQ.loadOwn 2 rfl Tryd.isAgg3 rfl rfl rfl) ?_
       refine Lq.run 1 rfl ?_
       refine Lq.nil ?_
       refine Kt.sel [3, 4, 5, 6, 7, 8, 9, 10, 79] [_, _, _, _, _, _, _, _, _] rfl ?_
       refine Wk.cond (b := decide (((k : Int)) < b18.n)) rfl (fun h79 => ?_) (fun h79 => ?_)
       ·
        replace h79 := of_decide_eq_true h79
        refine Wk.skip ?_
        refine Kt.sel [3, 4, 5, 6, 7, 8, 9, 10] [_, _, _, _, _, _, _, _] rfl ?_
        refine Wk.seq ?_
        refine Wk.block ?_
        refine Wk.seq ?_
        refine Wk.region ?_
        refine Ll.slice (xs := []) (vs := []) Base.elem25 rfl rfl rfl rfl rfl rfl (by decide) rfl fun p82 hp82 => ?_
        refine Ll.run 1 rfl ?_
        refine Ll.appendInts (xs := []) (ys := ys18) Base.elem25 0 rfl rfl rfl rfl rfl rfl rfl rfl (by decide) rfl (fun w1 hw1 => (hIu18 _ (Own.dropR (Own.drop (f := new29) (Own.drop (f := new36) (Own.drop (f := [_, _, _, _, _]) hw1)))))) ((ys18).length) (by first | (simp; done) | (simp; omega)) (by first | (simp; done) | (simp; omega) | omega) fun p84 cap84 cur84 hp84 hcp84 hlp84 htp84 => ?_
        show Ll _ _ (Own _ _ (_ :: _ :: _ :: _ :: _ :: (new36 ++ (new29 ++ (new18 ++ ([])))))) _ _ ((84, sl_ p84 (((ys18).length)) cap84) :: _) _ _ _
        refine Ll.run 1 rfl ?_
        refine Ll.slice (xs := [.tmp 85]) (vs := [i6_ ((k : Int))]) Base.elem25 rfl rfl rfl rfl rfl rfl (by decide) rfl fun p86 hp86 => ?_
        refine Ll.appendInts (xs := ys18) (ys := [(k : Int)]) Base.elem25 1 rfl rfl rfl rfl rfl rfl rfl hcp84 hlp84 (by simpa using htp84) (fun w1 hw1 => (Own.row hw1 (i := 0) rfl (n := 1) (cap := 1) (vs := ints [(k : Int)]) rfl rfl (by decide))) ((ys18 ++ ([(k : Int)])).length) (by first | (simp; done) | (simp; omega)) (by first | (simp; done) | (simp; omega) | omega) fun p87 cap87 cur87 hp87 hcp87 hlp87 htp87 => ?_
        show Ll _ _ (Own _ _ (_ :: _ :: _ :: _ :: _ :: _ :: (new36 ++ (new29 ++ (new18 ++ ([])))))) _ _ ((87, sl_ p87 (((ys18 ++ ([(k : Int)])).length)) cap87) :: _) _ _ _
        refine Ll.run 1 rfl ?_
        refine Ll.nil ?_
        refine Kt.sel [3, 4, 5, 6, 7, 8, 9, 10, 11] [_, _, _, _, _, _, _, _, _] rfl ?_
        refine Wk.seq ?_
        refine Wk.regionV (S := Own w.heap.size w (bk_ p86 #[i6_ ((k : Int))] 3 :: bk_ p87 cur87 3 :: bk_ p74 #[i6_ r18] 3 :: bk_ p75 cur75 3 :: bk_ p5 #[i6_ b18.n, str b18.set, str b18.rel] 24 :: bk_ p3 #[i6_ a18.n, str a18.set, str a18.rel] 24 :: (new36 ++ (new29 ++ (new18 ++ ([])))))) lawFnAnswers_o12x Base.mixed (fun _ h => h.drawn) (ovOk_at (by kernel_rfl) (by kernel_rfl) (by kernel_rfl) (by kernel_rfl) lawFnAnswers_o12x_c) ?_
        refine Lv.run 2 rfl (fun _ h => h) ?_
        refine Lv.take rfl rfl rfl rfl rfl (OpQ.loadBox (cs := #[i6_ a18.n, str a18.set, str a18.rel]) 5 rfl Tryd.isAgg24 rfl rfl Tryd.sizeOf24) (fun _ h => h) ?_
        refine Lv.run 1 rfl (fun _ h => h) ?_
        refine Lv.take rfl rfl rfl rfl rfl (OpQ.loadBox (cs := #[i6_ b18.n, str b18.set, str b18.rel]) 4 rfl Tryd.isAgg24 rfl rfl Tryd.sizeOf24) (fun _ h => h) ?_
        refine Lv.run 1 rfl (fun _ h => h) ?_
        refine Lv.loud rfl ?_
        refine Ll.op (v := bo_ (decide (((k : Int)) ∈ (ansL a18 xs18 b18 ys18 r18)))) rfl rfl rfl (OpQ.call rfl Tryd.call24 rfl Own.stable (fun w1 hw1 => gsHas_ok v29 ((ansL a18 xs18 b18 ys18 r18)) ((k : Int)) w1 (hIv29 _ (Own.dropR (Own.drop (f := new36) (Own.drop (f := [_, _, _, _, _, _]) hw1)))) (by omega))) ?_
        refine Ll.nil (Lv.joint (fun _ h => h) ?_)
        refine Lv.loud rfl ?_
        refine Ll.op (v := bo_ (wayB a18 (xs18 ++ ([r18])) b18 (ys18 ++ ([(k : Int)])))) rfl rfl rfl (OpQ.call rfl Tryd.call19 rfl Own.stable (fun w1 hw1 => iPart_ok a18 b18 (xs18 ++ ([r18])) (ys18 ++ ([(k : Int)])) (sl_ p75 (((xs18 ++ ([r18])).length)) cap75) (sl_ p87 (((ys18 ++ ([(k : Int)])).length)) cap87) w1 hsa18 hsb18 (Own.row hw1 (i := 3) rfl (by simpa using htp75) (by simp) hlp75) (Own.row hw1 (i := 1) rfl (by simpa using htp87) (by simp) hlp87) (by first | (simp; done) | (simp; omega) | omega) (by first | (simp; done) | (simp; omega) | omega))) ?_
        refine Ll.nil (Lv.joint (fun _ h => h) ?_)
        refine Lv.take rfl rfl rfl rfl rfl (OpQ.bne rfl Tryd.runUnderlying4 rfl rfl) (fun _ h => h) ?_
        refine Lv.run 1 rfl (fun _ h => h) ?_
        refine Lv.bool fun b97 hg97 => ?_
        cases b97
        ·
         refine Lv.run 2 rfl (fun _ h => h) ?_
         refine Lv.take rfl rfl rfl rfl rfl (OpQ.loadBox (cs := #[i6_ b18.n, str b18.set, str b18.rel]) 4 rfl Tryd.isAgg24 rfl rfl Tryd.sizeOf24) (fun _ h => h) ?_
         refine Lv.run 1 rfl (fun _ h => h) ?_
         refine Lv.take rfl rfl rfl rfl rfl (OpQ.loadBox (cs := #[i6_ a18.n, str a18.set, str a18.rel]) 5 rfl Tryd.isAgg24 rfl rfl Tryd.sizeOf24) (fun _ h => h) ?_
         refine Lv.run 3 rfl (fun _ h => h) ?_
         refine Lv.loud rfl ?_
         refine Ll.op (v := bo_ (decide (((k : Int)) ∈ (ansL a18 xs18 b18 ys18 r18)))) rfl rfl rfl (OpQ.call rfl Tryd.call24 rfl Own.stable (fun w1 hw1 => gsHas_ok v29 ((ansL a18 xs18 b18 ys18 r18)) ((k : Int)) w1 (hIv29 _ (Own.dropR (Own.drop (f := new36) (Own.drop (f := [_, _, _, _, _, _]) hw1)))) (by omega))) ?_
         refine Ll.nil (Lv.joint (fun _ h => h) ?_)
         refine Lv.loud rfl ?_
         refine Ll.callRow (xs := [.tmp 101, .tmp 102, .tmp 103, .tmp 104, .tmp 105]) (m := (ansTo b18 ys18 a18 xs18 ((k : Int)) a18.n.toNat).length) (vs := ints (ansTo b18 ys18 a18 xs18 ((k : Int)) a18.n.toNat)) (el := 3) (size := 1) rfl rfl rfl rfl Tryd.call21 rfl (fun w1 hw1 => iAns_yes b18 a18 ys18 xs18 u18 v18 ((k : Int)) w1 hsb18 hsa18 (hIu18 _ (Own.dropR (Own.drop (f := new29) (Own.drop (f := new36) (Own.drop (f := [_, _, _, _, _, _]) hw1))))) (hIv18 _ (Own.dropR (Own.drop (f := new29) (Own.drop (f := new36) (Own.drop (f := [_, _, _, _, _, _]) hw1))))) (by omega) (by omega) loa18 hia18 (ansOk_comm hOk (by omega))) fun p106 cap106 cur106 hp106 hcp106 hlp106 htp106 => ?_
         refine Ll.nil (Lv.joint (fun _ h => h.tail) ?_)
         refine Lv.loud rfl ?_
         refine Ll.op (v := bo_ (decide (r18 ∈ ansTo b18 ys18 a18 xs18 ((k : Int)) a18.n.toNat))) rfl rfl rfl (OpQ.call rfl Tryd.call24 rfl Own.stable (fun w1 hw1 => gsHas_ok (sl_ p106 ((ansTo b18 ys18 a18 xs18 ((k : Int)) a18.n.toNat).length) cap106) (ansTo b18 ys18 a18 xs18 ((k : Int)) a18.n.toNat) r18 w1 (Own.row hw1 (i := 0) rfl (by simpa using htp106) (by simp) hlp106) (by have := ansTo_le b18 ys18 a18 xs18 (k : Int) a18.n.toNat; omega))) ?_
         refine Ll.nil (Lv.joint (fun _ h => h.tail) ?_)
         refine Lv.take rfl rfl rfl rfl rfl (OpQ.bne rfl Tryd.runUnderlying4 rfl rfl) (fun _ h => h.tail) ?_
         refine Lv.run 1 rfl (fun _ h => h.tail) ?_
         refine Lv.nil ?_
         refine Kt.sel [3, 4, 5, 6, 7, 8, 9, 10, 110] [_, _, _, _, _, _, _, _, _] rfl ?_
         refine Wk.cond (b := (decide (((k : Int)) ∈ (ansL a18 xs18 b18 ys18 r18))) != (decide (r18 ∈ ansTo b18 ys18 a18 xs18 ((k : Int)) a18.n.toNat))) rfl (fun h110 => ?_) (fun h110 => ?_)
         ·
          exact absurd h110 (ans_back hOk (by omega))
         ·
          refine Wk.skip ?_
          refine Kt.sel [3, 4, 5, 6, 7, 8, 9, 10] [_, _, _, _, _, _, _, _] rfl ?_
          refine Wk.regionQ ?_
          refine Lq.run 1 rfl ?_
          refine Lq.op rfl rfl rfl (OpQ.add rfl rfl rfl (by omega) (by omega)) ?_
          refine Lq.run 1 rfl ?_
          refine Lq.nil ?_
          refine Kt.again (k + 1) (by omega) (by omega) (Sub.sel [3, 4, 5, 6, 7, 8, 9, 10] rfl) (fun _ h => h.sub (List.Sublist.cons _ (List.Sublist.cons _ (List.Sublist.cons _ (List.Sublist.cons_cons _ (List.Sublist.cons_cons _ (List.Sublist.cons_cons _ (List.Sublist.cons_cons _ (List.Sublist.refl _)))))))))
        ·
         exact absurd hg97 (ans_way hOk (by omega) (by omega) (by omega))
       ·
        replace h79 := of_decide_eq_false h79
        refine Wk.exit rfl ?_
        refine Kt.sel [4, 6, 7, 8] [_, _, _, _] rfl ?_
        refine Wk.seq ?_
        refine Wk.seq ?_
        refine Wk.regionQ ?_
        refine Lq.run 1 rfl ?_
        refine Lq.nil ?_
        refine Kt.sel [4, 6, 7, 8, 12] [_, _, _, _, _] rfl ?_
        refine Wk.block ?_
        refine Wk.loop (σ := Nat) (fun j => j ≤ xs18.length) (fun j => [(4, v18), (6, u18), (7, i6_ r18), (8, v29), (12, i6_ ((j : Int)))]) (fun j => Own w.heap.size w (bk_ p74 #[i6_ r18] 3 :: bk_ p75 cur75 3 :: bk_ p5 #[i6_ b18.n, str b18.set, str b18.rel] 24 :: bk_ p3 #[i6_ a18.n, str a18.set, str a18.rel] 24 :: (new36 ++ (new29 ++ (new18 ++ ([])))))) (fun j => xs18.length - j) (0) (by omega) (Sub.sel [4, 6, 7, 8, 12] rfl) (fun _ h => h) ?_
        rintro j hj
        refine Wk.seq ?_
        refine Wk.seq ?_
        refine Wk.regionQ ?_
        refine Lq.run 2 rfl ?_
        refine Lq.op rfl rfl rfl (OpQ.lenRow rfl Tryd.runUnderlying25 rfl (ints_length _) (fun w1 hw1 => hIv18 _ (Own.dropR (Own.drop (f := new29) (Own.drop (f := new36) (Own.drop (f := [_, _, _, _]) hw1)))))) ?_
        refine Lq.run 1 rfl ?_
        refine Lq.nil ?_
        refine Kt.sel [4, 6, 7, 8, 12, 114] [_, _, _, _, _, _] rfl ?_
        refine Wk.cond (b := decide (((j : Int)) < ((xs18.length : Int)))) rfl (fun h114 => ?_) (fun h114 => ?_)
        ·
         replace h114 := of_decide_eq_true h114
         refine Wk.skip ?_
         refine Kt.sel [4, 6, 7, 8, 12] [_, _, _, _, _] rfl ?_
         refine Wk.seq ?_
         refine Wk.block ?_
         refine Wk.seq ?_
         refine Wk.regionD Base.mixed (fun _ h => h.drawn) (by kernel_rfl) ?_
         refine Lq.run 2 rfl ?_
         refine Lq.op (v := .pointer (some (sAt v18 ((j : Int))))) rfl rfl rfl (OpQ.atRow rfl Tryd.runUnderlying25 Tryd.sizeOf3 rfl rfl (by omega) (by rw [ints_length]; omega) (fun w1 hw1 => hIv18 _ (Own.dropR (Own.drop (f := new29) (Own.drop (f := new36) (Own.drop (f := [_, _, _, _]) hw1)))))) ?_
         refine Lq.op (v := i6_ (xs18.getD (((j : Int)).toNat) 0)) rfl rfl rfl (OpQ.load1 rfl Tryd.isAgg3 rfl (fun w1 hw1 => Ints.cell (hIv18 _ (Own.dropR (Own.drop (f := new29) (Own.drop (f := new36) (Own.drop (f := [_, _, _, _]) hw1))))) (by omega) (by omega))) ?_
         refine Lq.run 3 rfl ?_
         refine Lq.bool fun b123 hg123 => ?_
         cases b123
         ·
          replace hg123 := of_decide_eq_false hg123
          refine Lq.pass rfl rfl rfl ?_
          refine Lq.pass rfl rfl rfl ?_
          refine Lq.pass rfl rfl rfl ?_
          refine Lq.pass rfl rfl rfl ?_
          refine Lq.pass rfl rfl rfl ?_
          refine Lq.pass rfl rfl rfl ?_
          refine Lq.pass rfl rfl rfl ?_
          refine Lq.pass rfl rfl rfl ?_
          refine Lq.pass rfl rfl rfl ?_
          refine Lq.pass rfl rfl rfl ?_
          refine Lq.pass rfl rfl rfl ?_
          refine Lq.pass rfl rfl rfl ?_
          refine Lq.pass rfl rfl rfl ?_
          refine Lq.run 1 rfl ?_
          refine Lq.nil ?_
          refine Kt.sel [4, 6, 7, 8, 12, 137] [_, _, _, _, _, _] rfl ?_
          refine Wk.condF rfl ?_
          refine Wk.skip ?_
          refine Kt.sel [4, 6, 7, 8, 12] [_, _, _, _, _] rfl ?_
          refine Wk.regionQ ?_
          refine Lq.run 1 rfl ?_
          refine Lq.op rfl rfl rfl (OpQ.add rfl rfl rfl (by omega) (by omega)) ?_
          refine Lq.run 1 rfl ?_
          refine Lq.nil ?_
          refine Kt.again (j + 1) (by omega) (by omega) (Sub.sel [4, 6, 7, 8, 12] rfl) (fun _ h => h)
         ·
          replace hg123 := of_decide_eq_true hg123
          have hone := ansL_at (i := j) hOk (by omega) (by simpa using hg123)
          refine Lq.run 1 rfl ?_
          refine Lq.op rfl rfl rfl (OpQ.lenRow rfl Tryd.runUnderlying25 rfl (ints_length _) (fun w1 hw1 => hIv29 _ (Own.dropR (Own.drop (f := new36) (Own.drop (f := [_, _, _, _]) hw1))))) ?_
          refine Lq.run 2 rfl ?_
          refine Lq.bool fun b127 hg127 => ?_
          cases b127
          ·
           replace hg127 := not_false hg127
           replace hg127 := of_decide_eq_true hg127
           refine Lq.run 1 rfl ?_
           refine Lq.op (v := .pointer (some (sAt v29 0))) rfl rfl rfl (OpQ.atRow rfl Tryd.runUnderlying25 Tryd.sizeOf3 rfl rfl (by omega) (by rw [ints_length]; omega) (fun w1 hw1 => hIv29 _ (Own.dropR (Own.drop (f := new36) (Own.drop (f := [_, _, _, _]) hw1))))) ?_
           refine Lq.op (v := i6_ ((ansL a18 xs18 b18 ys18 r18).getD ((0 : Int).toNat) 0)) rfl rfl rfl (OpQ.load1 rfl Tryd.isAgg3 rfl (fun w1 hw1 => Ints.cell (hIv29 _ (Own.dropR (Own.drop (f := new36) (Own.drop (f := [_, _, _, _]) hw1)))) (by omega) (by omega))) ?_
           refine Lq.run 2 rfl ?_
           refine Lq.op (v := .pointer (some (sAt u18 ((j : Int))))) rfl rfl rfl (OpQ.atRow rfl Tryd.runUnderlying25 Tryd.sizeOf3 rfl rfl (by omega) (by rw [ints_length]; omega) (fun w1 hw1 => hIu18 _ (Own.dropR (Own.drop (f := new29) (Own.drop (f := new36) (Own.drop (f := [_, _, _, _]) hw1)))))) ?_
           refine Lq.op (v := i6_ (ys18.getD (((j : Int)).toNat) 0)) rfl rfl rfl (OpQ.load1 rfl Tryd.isAgg3 rfl (fun w1 hw1 => Ints.cell (hIu18 _ (Own.dropR (Own.drop (f := new29) (Own.drop (f := new36) (Own.drop (f := [_, _, _, _]) hw1))))) (by omega) (by omega))) ?_
           refine Lq.run 3 rfl ?_
           refine Lq.nil ?_
           refine Kt.sel [4, 6, 7, 8, 12, 137] [_, _, _, _, _, _] rfl ?_
           refine Wk.cond (b := !(decide (((ansL a18 xs18 b18 ys18 r18).getD ((0 : Int).toNat) 0) = (ys18.getD (((j : Int)).toNat) 0)))) rfl (fun h137 => ?_) (fun h137 => ?_)
           ·
            replace h137 := not_true h137
            replace h137 := of_decide_eq_false h137
            exact absurd (by rw [hone]; simp) h137
           ·
            replace h137 := not_false h137
            replace h137 := of_decide_eq_true h137
            refine Wk.skip ?_
            refine Kt.sel [4, 6, 7, 8, 12] [_, _, _, _, _] rfl ?_
            refine Wk.regionQ ?_
            refine Lq.run 1 rfl ?_
            refine Lq.op rfl rfl rfl (OpQ.add rfl rfl rfl (by omega) (by omega)) ?_
            refine Lq.run 1 rfl ?_
            refine Lq.nil ?_
            refine Kt.again (j + 1) (by omega) (by omega) (Sub.sel [4, 6, 7, 8, 12] rfl) (fun _ h => h)
          ·
           replace hg127 := not_true hg127
           replace hg127 := of_decide_eq_false hg127
           exact absurd (by rw [hone]; rfl) hg127
        ·
         replace h114 := of_decide_eq_false h114
         refine Wk.exit rfl ?_
         refine Kt.sel [] [] rfl ?_
         refine Wk.seq ?_
         refine Wk.regionQ ?_
         refine Lq.run 1 rfl ?_
         refine Lq.nil ?_
         refine Kt.sel [2] [_] rfl ?_
         refine Wk.ret (Kt.end1 rfl rfl fun w' hw => ?_)
         -- ret 2: bo_ true
         exact ⟨ret_b (by first | rfl | (simp_all; done) | (simp_all; omega)), hw.below⟩
     ·
      replace hg57 := of_decide_eq_true hg57
      refine Ll.pass rfl rfl rfl ?_
      refine Ll.pass rfl rfl rfl ?_
      refine Ll.pass rfl rfl rfl ?_
      refine Ll.run 1 rfl ?_
      refine Ll.nil ?_
      refine Kt.sel [3, 4, 5, 6, 7, 8, 61] [_, _, _, _, _, _, _] rfl ?_
      refine Wk.condT rfl ?_
      refine Wk.seq ?_
      refine Wk.region ?_
      refine Ll.run 1 rfl ?_
      refine Ll.op rfl rfl rfl (OpQ.loadBox (cs := #[i6_ a18.n, str a18.set, str a18.rel]) 1 rfl Tryd.isAgg24 rfl rfl Tryd.sizeOf24) ?_
      refine Ll.run 1 rfl ?_
      refine Ll.op rfl rfl rfl (OpQ.loadBox (cs := #[i6_ b18.n, str b18.set, str b18.rel]) 0 rfl Tryd.isAgg24 rfl rfl Tryd.sizeOf24) ?_
      refine Ll.run 2 rfl ?_
      refine Ll.callBack (ok := fun ((v, new) : Value × List (Nat × Obj)) => ∀ w1, Own w.heap.size w new w1 → Ints w1 v (ansL a18 xs18 b18 ys18 r18)) (v := fun ((v, new) : Value × List (Nat × Obj)) => v) (new := fun ((v, new) : Value × List (Nat × Obj)) => new) (hs := new36 ++ (new29 ++ (new18 ++ ([])))) (xs := [.tmp 63, .tmp 64, .tmp 65, .tmp 66, .tmp 67]) (vs := [vS a18, v18, vS b18, u18, i6_ r18]) ([bk_ p5 #[i6_ b18.n, str b18.set, str b18.rel] 24, bk_ p3 #[i6_ a18.n, str a18.set, str a18.rel] 24] : List (Nat × Obj)) rfl rfl rfl rfl Tryd.call23 rfl (fun w1 hw1 => (sAns_all a18 b18 xs18 ys18 v18 u18 r18 w.heap.size w (([bk_ p5 #[i6_ b18.n, str b18.set, str b18.rel] 24, bk_ p3 #[i6_ a18.n, str a18.set, str a18.rel] 24] : List (Nat × Obj)) ++ (new36 ++ (new29 ++ (new18 ++ ([]))))) w1 hsa18 hsb18 (hIv18 _ (Own.dropR (Own.drop (f := new29) (Own.drop (f := new36) (Own.drop (f := [_, _]) hw1))))) (hIu18 _ (Own.dropR (Own.drop (f := new29) (Own.drop (f := new36) (Own.drop (f := [_, _]) hw1))))) (by omega) (by omega) loa18 hia18 lob18 hib18 hw1).mono fun en w' ⟨v, new, h1, h2, h3⟩ => ⟨(v, new), h1, h2, h3⟩) fun ⟨v68_1, new68_1⟩ hIv68_1 => ?_
      dsimp only at hIv68_1
      have hlev68_1 : (ansL a18 xs18 b18 ys18 r18).length ≤ 8 := ansL_le _ _ _ _ _
      show Ll _ _ (Own _ _ (_ :: _ :: (new68_1 ++ (new36 ++ (new29 ++ (new18 ++ ([]))))))) _ _ ((68, v68_1) :: _) _ _ _
      refine Ll.op (v := bo_ (((ansL a18 xs18 b18 ys18 r18)) == ((ansL a18 xs18 b18 ys18 r18)))) rfl rfl rfl (OpQ.call rfl Tryd.call22 rfl Own.stable (fun w1 hw1 => gsSame_ok v29 v68_1 ((ansL a18 xs18 b18 ys18 r18)) ((ansL a18 xs18 b18 ys18 r18)) w1 (hIv29 _ (Own.dropR (Own.drop (f := new36) (Own.drop (f := new68_1) (Own.drop (f := [_, _]) hw1))))) (hIv68_1 _ (Own.dropR (Own.drop (f := [_, _]) hw1))) (by omega) (by omega))) ?_
      refine Ll.run 1 rfl ?_
      refine Ll.nil ?_
      refine Kt.sel [2] [_] rfl ?_
      refine Wk.ret (Kt.end1 rfl rfl fun w' hw => ?_)
      -- ret 3: bo_ (((ansL a18 xs18 b18 ys18 r18)) == ((ansL a18 xs18 b18 ys18 r18)))
      exact ⟨ret_b (by first | rfl | (simp_all; done) | (simp_all; omega)), hw.below⟩
    ·
     replace hg51 := of_decide_eq_true hg51
     refine Ll.pass rfl rfl rfl ?_
     refine Ll.pass rfl rfl rfl ?_
     refine Ll.pass rfl rfl rfl ?_
     refine Ll.pass rfl rfl rfl ?_
     refine Ll.run 2 rfl ?_
     refine Ll.pass rfl rfl rfl ?_
     refine Ll.pass rfl rfl rfl ?_
     refine Ll.pass rfl rfl rfl ?_
     refine Ll.run 1 rfl ?_
     refine Ll.nil ?_
     refine Kt.sel [3, 4, 5, 6, 7, 8, 61] [_, _, _, _, _, _, _] rfl ?_
     refine Wk.condT rfl ?_
     refine Wk.seq ?_
     refine Wk.region ?_
     refine Ll.run 1 rfl ?_
     refine Ll.op rfl rfl rfl (OpQ.loadBox (cs := #[i6_ a18.n, str a18.set, str a18.rel]) 1 rfl Tryd.isAgg24 rfl rfl Tryd.sizeOf24) ?_
     refine Ll.run 1 rfl ?_
     refine Ll.op rfl rfl rfl (OpQ.loadBox (cs := #[i6_ b18.n, str b18.set, str b18.rel]) 0 rfl Tryd.isAgg24 rfl rfl Tryd.sizeOf24) ?_
     refine Ll.run 2 rfl ?_
     refine Ll.callBack (ok := fun ((v, new) : Value × List (Nat × Obj)) => ∀ w1, Own w.heap.size w new w1 → Ints w1 v (ansL a18 xs18 b18 ys18 r18)) (v := fun ((v, new) : Value × List (Nat × Obj)) => v) (new := fun ((v, new) : Value × List (Nat × Obj)) => new) (hs := new36 ++ (new29 ++ (new18 ++ ([])))) (xs := [.tmp 63, .tmp 64, .tmp 65, .tmp 66, .tmp 67]) (vs := [vS a18, v18, vS b18, u18, i6_ r18]) ([bk_ p5 #[i6_ b18.n, str b18.set, str b18.rel] 24, bk_ p3 #[i6_ a18.n, str a18.set, str a18.rel] 24] : List (Nat × Obj)) rfl rfl rfl rfl Tryd.call23 rfl (fun w1 hw1 => (sAns_all a18 b18 xs18 ys18 v18 u18 r18 w.heap.size w (([bk_ p5 #[i6_ b18.n, str b18.set, str b18.rel] 24, bk_ p3 #[i6_ a18.n, str a18.set, str a18.rel] 24] : List (Nat × Obj)) ++ (new36 ++ (new29 ++ (new18 ++ ([]))))) w1 hsa18 hsb18 (hIv18 _ (Own.dropR (Own.drop (f := new29) (Own.drop (f := new36) (Own.drop (f := [_, _]) hw1))))) (hIu18 _ (Own.dropR (Own.drop (f := new29) (Own.drop (f := new36) (Own.drop (f := [_, _]) hw1))))) (by omega) (by omega) loa18 hia18 lob18 hib18 hw1).mono fun en w' ⟨v, new, h1, h2, h3⟩ => ⟨(v, new), h1, h2, h3⟩) fun ⟨v68_2, new68_2⟩ hIv68_2 => ?_
     dsimp only at hIv68_2
     have hlev68_2 : (ansL a18 xs18 b18 ys18 r18).length ≤ 8 := ansL_le _ _ _ _ _
     show Ll _ _ (Own _ _ (_ :: _ :: (new68_2 ++ (new36 ++ (new29 ++ (new18 ++ ([]))))))) _ _ ((68, v68_2) :: _) _ _ _
     refine Ll.op (v := bo_ (((ansL a18 xs18 b18 ys18 r18)) == ((ansL a18 xs18 b18 ys18 r18)))) rfl rfl rfl (OpQ.call rfl Tryd.call22 rfl Own.stable (fun w1 hw1 => gsSame_ok v29 v68_2 ((ansL a18 xs18 b18 ys18 r18)) ((ansL a18 xs18 b18 ys18 r18)) w1 (hIv29 _ (Own.dropR (Own.drop (f := new36) (Own.drop (f := new68_2) (Own.drop (f := [_, _]) hw1))))) (hIv68_2 _ (Own.dropR (Own.drop (f := [_, _]) hw1))) (by omega) (by omega))) ?_
     refine Ll.run 1 rfl ?_
     refine Ll.nil ?_
     refine Kt.sel [2] [_] rfl ?_
     refine Wk.ret (Kt.end1 rfl rfl fun w' hw => ?_)
     -- ret 4: bo_ (((ansL a18 xs18 b18 ys18 r18)) == ((ansL a18 xs18 b18 ys18 r18)))
     exact ⟨ret_b (by first | rfl | (simp_all; done) | (simp_all; omega)), hw.below⟩
   ·
    replace hg47 := not_true hg47
    refine Ll.pass rfl rfl rfl ?_
    refine Ll.pass rfl rfl rfl ?_
    refine Ll.run 2 rfl ?_
    refine Ll.pass rfl rfl rfl ?_
    refine Ll.pass rfl rfl rfl ?_
    refine Ll.pass rfl rfl rfl ?_
    refine Ll.pass rfl rfl rfl ?_
    refine Ll.run 2 rfl ?_
    refine Ll.pass rfl rfl rfl ?_
    refine Ll.pass rfl rfl rfl ?_
    refine Ll.pass rfl rfl rfl ?_
    refine Ll.run 1 rfl ?_
    refine Ll.nil ?_
    refine Kt.sel [3, 4, 5, 6, 7, 8, 61] [_, _, _, _, _, _, _] rfl ?_
    refine Wk.condT rfl ?_
    refine Wk.seq ?_
    refine Wk.region ?_
    refine Ll.run 1 rfl ?_
    refine Ll.op rfl rfl rfl (OpQ.loadBox (cs := #[i6_ a18.n, str a18.set, str a18.rel]) 1 rfl Tryd.isAgg24 rfl rfl Tryd.sizeOf24) ?_
    refine Ll.run 1 rfl ?_
    refine Ll.op rfl rfl rfl (OpQ.loadBox (cs := #[i6_ b18.n, str b18.set, str b18.rel]) 0 rfl Tryd.isAgg24 rfl rfl Tryd.sizeOf24) ?_
    refine Ll.run 2 rfl ?_
    refine Ll.callBack (ok := fun ((v, new) : Value × List (Nat × Obj)) => ∀ w1, Own w.heap.size w new w1 → Ints w1 v (ansL a18 xs18 b18 ys18 r18)) (v := fun ((v, new) : Value × List (Nat × Obj)) => v) (new := fun ((v, new) : Value × List (Nat × Obj)) => new) (hs := new36 ++ (new29 ++ (new18 ++ ([])))) (xs := [.tmp 63, .tmp 64, .tmp 65, .tmp 66, .tmp 67]) (vs := [vS a18, v18, vS b18, u18, i6_ r18]) ([bk_ p5 #[i6_ b18.n, str b18.set, str b18.rel] 24, bk_ p3 #[i6_ a18.n, str a18.set, str a18.rel] 24] : List (Nat × Obj)) rfl rfl rfl rfl Tryd.call23 rfl (fun w1 hw1 => (sAns_all a18 b18 xs18 ys18 v18 u18 r18 w.heap.size w (([bk_ p5 #[i6_ b18.n, str b18.set, str b18.rel] 24, bk_ p3 #[i6_ a18.n, str a18.set, str a18.rel] 24] : List (Nat × Obj)) ++ (new36 ++ (new29 ++ (new18 ++ ([]))))) w1 hsa18 hsb18 (hIv18 _ (Own.dropR (Own.drop (f := new29) (Own.drop (f := new36) (Own.drop (f := [_, _]) hw1))))) (hIu18 _ (Own.dropR (Own.drop (f := new29) (Own.drop (f := new36) (Own.drop (f := [_, _]) hw1))))) (by omega) (by omega) loa18 hia18 lob18 hib18 hw1).mono fun en w' ⟨v, new, h1, h2, h3⟩ => ⟨(v, new), h1, h2, h3⟩) fun ⟨v68_3, new68_3⟩ hIv68_3 => ?_
    dsimp only at hIv68_3
    have hlev68_3 : (ansL a18 xs18 b18 ys18 r18).length ≤ 8 := ansL_le _ _ _ _ _
    show Ll _ _ (Own _ _ (_ :: _ :: (new68_3 ++ (new36 ++ (new29 ++ (new18 ++ ([]))))))) _ _ ((68, v68_3) :: _) _ _ _
    refine Ll.op (v := bo_ (((ansL a18 xs18 b18 ys18 r18)) == ((ansL a18 xs18 b18 ys18 r18)))) rfl rfl rfl (OpQ.call rfl Tryd.call22 rfl Own.stable (fun w1 hw1 => gsSame_ok v29 v68_3 ((ansL a18 xs18 b18 ys18 r18)) ((ansL a18 xs18 b18 ys18 r18)) w1 (hIv29 _ (Own.dropR (Own.drop (f := new36) (Own.drop (f := new68_3) (Own.drop (f := [_, _]) hw1))))) (hIv68_3 _ (Own.dropR (Own.drop (f := [_, _]) hw1))) (by omega) (by omega))) ?_
    refine Ll.run 1 rfl ?_
    refine Ll.nil ?_
    refine Kt.sel [2] [_] rfl ?_
    refine Wk.ret (Kt.end1 rfl rfl fun w' hw => ?_)
    -- ret 5: bo_ (((ansL a18 xs18 b18 ys18 r18)) == ((ansL a18 xs18 b18 ys18 r18)))
    exact ⟨ret_b (by first | rfl | (simp_all; done) | (simp_all; omega)), hw.below⟩
  ·
   replace hg39 := not_true hg39
   exact absurd hg39 (by simp)

end Go.Proofs.YtmannilblelfjaaDoor
