/-
  Walks: a new game of pebbles, who wins it.
-/
import Derived.Test.YtjcoijejhachhaaDoorPlain46
import Derived.Test.YtjcoijejhachhaaDoorPlain48
import Derived.Test.YtjcoijejhachhaaDoorPebSM
import Derived.Test.YtjcoijejhachhaaDoorBase
namespace Go.Proofs.YtjcoijejhachhaaDoor
open Go.RowKit Go.Wk
set_option linter.unusedSimpArgs false

set_option maxHeartbeats 400000 in
/-- impl.newPebbles|yes -/
theorem newPeb_yes (a b : St) (xs ys : List Int) (va vb : Value) (w : World) (hsa : a.Small) (hsb : b.Small) (hva : Ints w va xs) (hvb : Ints w vb ys) (hs1 : xs.length ≤ 140737488355328) (hs2 : ys.length ≤ 140737488355328) (k : Nat) (hk : xs.length = k) (hr : readyB a xs b ys = true) :
    Calls Tryd.prog 56 [vS a, va, vS b, vb].toArray w fun en w' => ∃ (p gf cf : Nat) (uf : Array Value) (gw cw : Nat) (uw : Array Value), en = .returned (.pointer (some ⟨p, 0, none⟩)) ∧ (uf.size = cf * 1 ∧ (WL 0 a b k).length ≤ cf ∧ uf.toList.take (WL 0 a b k).length = bools (WL 0 a b k)) ∧ (uw.size = cw * 1 ∧ (WL 0 a b k).length ≤ cw ∧ uw.toList.take (WL 0 a b k).length = bools (WL 0 a b k)) ∧ Own w.heap.size w [bk_ p #[i6_ a.n, str a.set, str a.rel, i6_ b.n, str b.set, str b.rel, i6_ ((k : Int)), i6_ (((prN a b : Nat) : Int)), sl_ gf ((WL 0 a b k).length) cf, sl_ gw ((WL 0 a b k).length) cw, bo_ false] 66, bk_ gf uf 4, bk_ gw uw 4] w' := by
 refine fnStart (n := 78) (e := [(0, vS a), (1, va), (2, vS b), (3, vb)]) Tryd.func56 rfl rfl rfl rfl Ends.both ?_
 obtain ⟨hVa, hVb, h1, h3, hlen, hx, hy⟩ := ready_peb hr
 rw [hk] at h1 h3
 have hk3 : k ≤ 3 := h3
 have ha := validB_fine hVa
 have hb := validB_fine hVb
 have hm8 := ha.hi
 have hm1 := ha.lo
 have hb8 := hb.hi
 have hb1 := hb.lo
 have hpr := prN_le (a := a) (b := b) (by omega) (by omega)
 have hpp := prN_pos a b
 have hprI : ((prN a b : Nat) : Int) = a.n * b.n + 1 := by
  unfold prN; rw [Int.natCast_add, Int.natCast_mul, Int.toNat_of_nonneg (by omega), Int.toNat_of_nonneg (by omega)]; rfl
 have hab : 0 ≤ a.n * b.n ∧ a.n * b.n ≤ 64 := by omega
 refine Wk.seq ?_
 refine Wk.region ?_
 refine Ll.box (v := vS a) rfl rfl rfl rfl rfl fun p4 hp4 => ?_
 show Ll _ _ (Own _ _ [_]) _ _ ((4, pt_ p4) :: _) _ _ _
 refine Ll.box (v := vS b) rfl rfl rfl rfl rfl fun p6 hp6 => ?_
 show Ll _ _ (Own _ _ [_, _]) _ _ ((6, pt_ p6) :: _) _ _ _
 refine Ll.run 1 rfl ?_
 refine Ll.nil ?_
 refine Kt.sel [1, 3, 4, 6] [_, _, _, _] rfl ?_
 refine Wk.seq ?_
 refine Wk.seq ?_
 refine Wk.regionQ ?_
 refine Lq.op rfl rfl rfl (OpQ.loadBox (cs := #[i6_ a.n, str a.set, str a.rel]) 1 rfl Tryd.isAgg28 rfl rfl Tryd.sizeOf28) ?_
 refine Lq.run 1 rfl ?_
 refine Lq.op rfl rfl rfl (OpQ.loadBox (cs := #[i6_ b.n, str b.set, str b.rel]) 0 rfl Tryd.isAgg28 rfl rfl Tryd.sizeOf28) ?_
 refine Lq.run 1 rfl ?_
 refine Lq.op (v := bo_ true) rfl rfl rfl (OpQ.call rfl Tryd.call72 rfl Own.stable (fun w1 hw1 => known_b hr (areReady_ok a b xs ys va vb w1 hsa hsb (Row.own hva hw1) (Row.own hvb hw1) (by first | (simp; done) | (simp; omega) | omega) (by first | (simp; done) | (simp; omega) | omega)))) ?_
 refine Lq.run 1 rfl ?_
 refine Lq.nil ?_
 refine Kt.sel [1, 4, 6, 19] [_, _, _, _] rfl ?_
 refine Wk.condF rfl ?_
 refine Wk.skip ?_
 refine Kt.sel [1, 4, 6] [_, _, _] rfl ?_
 refine Wk.seq ?_
 refine Wk.region ?_
 refine Ll.op rfl rfl rfl (OpQ.loadBox (cs := #[i6_ a.n, str a.set, str a.rel]) 1 rfl Tryd.isAgg28 rfl rfl Tryd.sizeOf28) ?_
 refine Ll.op rfl rfl rfl (OpQ.loadBox (cs := #[i6_ b.n, str b.set, str b.rel]) 0 rfl Tryd.isAgg28 rfl rfl Tryd.sizeOf28) ?_
 refine Ll.run 1 rfl ?_
 refine Ll.op (v := i6_ ((k : Int))) rfl rfl rfl (OpQ.cast (by rw [hk]) (OpQ.lenRow rfl Tryd.runUnderlying24 rfl (ints_length _) (fun w1 hw1 => Row.own hva hw1))) ?_
 refine Ll.op rfl rfl rfl (OpQ.fieldAddr rfl Tryd.runUnderlying28 rfl Tryd.sizeOf3 rfl rfl) ?_
 refine Ll.op rfl rfl rfl (OpQ.loadOwn 1 rfl Tryd.isAgg3 rfl rfl rfl) ?_
 refine Ll.op rfl rfl rfl (OpQ.fieldAddr rfl Tryd.runUnderlying28 rfl Tryd.sizeOf3 rfl rfl) ?_
 refine Ll.op rfl rfl rfl (OpQ.loadOwn 0 rfl Tryd.isAgg3 rfl rfl rfl) ?_
 refine Ll.op rfl rfl rfl (OpQ.mul rfl rfl rfl (by omega) (by omega)) ?_
 refine Ll.op (v := i6_ (((prN a b : Nat) : Int))) rfl rfl rfl (OpQ.cast (by rw [hprI]) (OpQ.add rfl rfl rfl (by omega) (by omega))) ?_
 refine Ll.op (v := .agg #[i6_ a.n, str a.set, str a.rel, i6_ b.n, str b.set, str b.rel, i6_ ((k : Int)), i6_ (((prN a b : Nat) : Int)), .slice none 0 0, .slice none 0 0, bo_ false]) rfl rfl rfl (OpQ.build (xs := [.tmp 20, .tmp 21, .tmp 23, .tmp 29]) (vs := [vS a, vS b, i6_ ((k : Int)), i6_ (((prN a b : Nat) : Int))]) rfl rfl (by kernel_rfl)) ?_
 refine Ll.box (v := .agg #[i6_ a.n, str a.set, str a.rel, i6_ b.n, str b.set, str b.rel, i6_ ((k : Int)), i6_ (((prN a b : Nat) : Int)), .slice none 0 0, .slice none 0 0, bo_ false]) rfl rfl rfl rfl rfl fun p31 hp31 => ?_
 show Ll _ _ (Own _ _ [_, _, _]) _ _ ((31, pt_ p31) :: _) _ _ _
 refine Ll.run 1 rfl ?_
 refine Ll.nil ?_
 refine Kt.sel [1, 4, 6, 9] [_, _, _, _] rfl ?_
 refine Wk.seq ?_
 refine Wk.regionQ ?_
 refine Lq.run 1 rfl ?_
 refine Lq.nil ?_
 refine Kt.sel [1, 4, 6, 9, 10] [_, _, _, _, _] rfl ?_
 refine Wk.seq ?_
 refine Wk.seq ?_
 refine Wk.regionQ ?_
 refine Lq.run 1 rfl ?_
 refine Lq.op (v := i6_ ((k : Int))) rfl rfl rfl (OpQ.cast (by rw [hk]) (OpQ.lenRow rfl Tryd.runUnderlying24 rfl (ints_length _) (fun w1 hw1 => Row.own hva hw1))) ?_
 refine Lq.run 1 rfl ?_
 refine Lq.nil ?_
 refine Kt.sel [4, 6, 9, 10, 33, 34] [_, _, _, _, _, _] rfl ?_
 refine Wk.block ?_
 refine Wk.loop (σ := Nat) (fun j => j ≤ k) (fun j => [(4, pt_ p4), (6, pt_ p6), (9, pt_ p31), (10, i6_ (((prN a b ^ j : Nat) : Int))), (33, i6_ ((k : Int))), (34, i6_ ((j : Int)))]) (fun j => Own w.heap.size w [bk_ p31 #[i6_ a.n, str a.set, str a.rel, i6_ b.n, str b.set, str b.rel, i6_ ((k : Int)), i6_ (((prN a b : Nat) : Int)), .slice none 0 0, .slice none 0 0, bo_ false] 66, bk_ p6 #[i6_ b.n, str b.set, str b.rel] 28, bk_ p4 #[i6_ a.n, str a.set, str a.rel] 28]) (fun j => k - j) (0) (by omega) (Sub.cons rfl (Sub.cons rfl (Sub.cons rfl (Sub.cons (by rfl) (Sub.sel [33, 34] rfl))))) (fun _ h => h) ?_
 rintro j hj
 refine Wk.seq ?_
 refine Wk.regionQ ?_
 refine Lq.run 1 rfl ?_
 refine Lq.nil ?_
 refine Kt.sel [4, 6, 9, 10, 33, 34, 35] [_, _, _, _, _, _, _] rfl ?_
 refine Wk.seq ?_
 refine Wk.cond (b := decide (((j : Int)) < ((k : Int)))) rfl (fun h35 => ?_) (fun h35 => ?_)
 ·
  replace h35 := of_decide_eq_true h35
  have hjk : j < k := by omega
  have hpi3 := pow65 hpr (show j + 1 ≤ 3 by omega)
  have hpm : ((prN a b ^ j : Nat) : Int) * ((prN a b : Nat) : Int) = ((prN a b ^ (j + 1) : Nat) : Int) := by rw [Nat.pow_succ, Int.natCast_mul]
  refine Wk.skip ?_
  refine Kt.sel [4, 6, 9, 10, 33, 34] [_, _, _, _, _, _] rfl ?_
  refine Wk.seq ?_
  refine Wk.block ?_
  refine Wk.regionQ ?_
  refine Lq.run 2 rfl ?_
  refine Lq.op (v := pt_ p31) rfl rfl rfl (OpQ.nilCheck rfl rfl) ?_
  refine Lq.op rfl rfl rfl (OpQ.fieldAddr rfl Tryd.runUnderlying66 rfl Tryd.sizeOf3 rfl rfl) ?_
  refine Lq.op rfl rfl rfl (OpQ.loadOwn 0 rfl Tryd.isAgg3 rfl rfl rfl) ?_
  refine Lq.op (v := i6_ (((prN a b ^ (j + 1) : Nat) : Int))) rfl rfl rfl (OpQ.cast (by rw [hpm]) (OpQ.mul rfl rfl rfl (by omega) (by omega))) ?_
  refine Lq.run 1 rfl ?_
  refine Lq.nil ?_
  refine Kt.sel [4, 6, 9, 10, 33, 34] [_, _, _, _, _, _] rfl ?_
  refine Wk.regionQ ?_
  refine Lq.op rfl rfl rfl (OpQ.add rfl rfl rfl (by omega) (by omega)) ?_
  refine Lq.run 1 rfl ?_
  refine Lq.nil ?_
  refine Kt.again (j + 1) (by omega) (by omega) (Sub.cons rfl (Sub.cons rfl (Sub.cons rfl (Sub.cons (by rfl) (Sub.sel [33, 34] rfl))))) (fun _ h => h)
 ·
  replace h35 := of_decide_eq_false h35
  obtain rfl : k = j := by omega
  have hN0 := pow65 hpr hk3
  refine Wk.exit rfl ?_
  refine Kt.sel [4, 6, 9, 10] [_, _, _, _] rfl ?_
  refine Wk.seq ?_
  refine Wk.seq ?_
  refine Wk.regionQ ?_
  refine Lq.run 2 rfl ?_
  refine Lq.nil ?_
  refine Kt.sel [4, 6, 9, 43, 44] [_, _, _, _, _] rfl ?_
  refine Wk.block ?_
  refine Wk.loop (σ := Nat × OptR) (fun ⟨s, q⟩ => s ≤ prN a b ^ k ∧ OptOk ((WL 0 a b k).take s) q) (fun ⟨s, q⟩ => [(4, pt_ p4), (6, pt_ p6), (9, pt_ p31), (43, i6_ (((prN a b ^ k : Nat) : Int))), (44, i6_ ((s : Int)))]) (fun ⟨s, q⟩ => Own w.heap.size w (bk_ p31 #[i6_ a.n, str a.set, str a.rel, i6_ b.n, str b.set, str b.rel, i6_ ((k : Int)), i6_ (((prN a b : Nat) : Int)), optV q s, .slice none 0 0, bo_ false] 66 :: bk_ p6 #[i6_ b.n, str b.set, str b.rel] 28 :: bk_ p4 #[i6_ a.n, str a.set, str a.rel] 28 :: ((optB 4 q ++ [])))) (fun ⟨s, q⟩ => prN a b ^ k - s) ((0, none)) ⟨by omega, by simp [OptOk]⟩ (Sub.sel [4, 6, 9, 43, 44] rfl) (fun _ h => h) ?_
  rintro ⟨s, q⟩ ⟨hs, hq⟩
  dsimp only
  have hts : ((WL 0 a b k).take s).length = s := by rw [List.length_take, WL_len]; omega
  refine Wk.seq ?_
  refine Wk.regionQ ?_
  refine Lq.run 1 rfl ?_
  refine Lq.nil ?_
  refine Kt.sel [4, 6, 9, 43, 44, 45] [_, _, _, _, _, _] rfl ?_
  refine Wk.seq ?_
  refine Wk.cond (b := decide (((s : Int)) < (((prN a b ^ k : Nat) : Int)))) rfl (fun h45 => ?_) (fun h45 => ?_)
  ·
   replace h45 := of_decide_eq_true h45
   have hsN : s < prN a b ^ k := by omega
   have hEa : a.Els (placed (stX a b k s) k) := placed_els (by simp) fun x hx => by have := (stX_peb (a := a) (b := b) (k := k) (s := s)).2 x hx; omega
   have hEb : b.Els (placed (stY a b k s) k) := placed_els (by simp) fun x hx => by have := (stY_peb (a := a) (k := k) (s := s) (show 1 ≤ b.n.toNat by omega)).2 x hx; omega
   have hpl : (placed (stX a b k s) k).length = (placed (stY a b k s) k).length := placed_len _ (st_signs (by omega))
   have hp4 := placed_le (stX a b k s) k
   refine Wk.skip ?_
   refine Kt.sel [4, 6, 9, 43, 44] [_, _, _, _, _] rfl ?_
   refine Wk.seq ?_
   refine Wk.block ?_
   refine Wk.seq ?_
   refine Wk.regionQ ?_
   refine Lq.run 2 rfl ?_
   refine Lq.nil ?_
   refine Kt.sel [4, 6, 9, 11, 43, 44] [_, _, _, _, _, _] rfl ?_
   refine Wk.seq ?_
   refine Wk.region ?_
   refine Ll.run 2 rfl ?_
   refine Ll.callRows (xs := [.tmp 48, .tmp 49]) (m1 := (placed (stX a b k s) k).length) (vs1 := ints ((placed (stX a b k s) k))) (el1 := 3) (m2 := (placed (stY a b k s) k).length) (vs2 := ints ((placed (stY a b k s) k))) (el2 := 3) rfl rfl rfl rfl Tryd.call108 rfl (fun w1 hw1 => listsAt_ok a b k p31 66 (optV q s) (.slice none 0 0) s w1 (hw1.has 0 _ _ rfl).2 hVa hVb hk3 (by omega)) fun p50a cap50a cur50a p50b cap50b cur50b hp50a hcp50a hlp50a htp50a hp50b hcp50b hlp50b htp50b => ?_
   refine Ll.run 1 rfl ?_
   refine Ll.op (v := sl_ p50a ((placed (stX a b k s) k).length) cap50a) rfl rfl rfl (OpQ.extract rfl rfl rfl) ?_
   refine Ll.op (v := sl_ p50b ((placed (stY a b k s) k).length) cap50b) rfl rfl rfl (OpQ.extract rfl rfl rfl) ?_
   refine Ll.run 2 rfl ?_
   refine Ll.nil ?_
   refine Kt.sel [4, 6, 9, 12, 13, 43, 44] [_, _, _, _, _, _, _] rfl ?_
   refine Wk.regionT (S := Own w.heap.size w [bk_ p50a cur50a 3, bk_ p50b cur50b 3, bk_ p6 #[i6_ b.n, str b.set, str b.rel] 28, bk_ p4 #[i6_ a.n, str a.set, str a.rel] 28]) (.take 0 (.take 1 (.take 5 (.take 6 (.take 7 (.take 8 (.two 2 (.take 3 (.two 4 (.one 9 (.one 10 (.one 11 (.one 12 (.take 13 (.one 14 .done)))))) 9 (.two 4 (.one 10 (.one 11 (.one 12 (.take 13 (.one 14 .done))))) 10 (.one 4 (.one 11 (.one 12 (.take 13 (.one 14 .done)))))))) 9 (.two 2 (.take 3 (.two 4 (.one 10 (.one 11 (.one 12 (.take 13 (.one 14 .done))))) 10 (.one 4 (.one 11 (.one 12 (.take 13 (.one 14 .done))))))) 10 (.one 2 (.take 3 (.one 4 (.one 11 (.one 12 (.take 13 (.one 14 .done))))))))))))))) Base.mixed (fun _ h => h.drawn) (by kernel_rfl) ?_
   refine Lt.run 2 rfl (pk [0, 1, 3, 4] rfl rfl) ?_
   refine Lt.take rfl rfl rfl rfl rfl (OpQ.loadBox (cs := #[i6_ a.n, str a.set, str a.rel]) 3 rfl Tryd.isAgg28 rfl rfl Tryd.sizeOf28) (pk [0, 1, 3, 4] rfl rfl) ?_
   refine Lt.run 1 rfl (pk [0, 1, 3, 4] rfl rfl) ?_
   refine Lt.take rfl rfl rfl rfl rfl (OpQ.loadBox (cs := #[i6_ b.n, str b.set, str b.rel]) 2 rfl Tryd.isAgg28 rfl rfl Tryd.sizeOf28) (pk [0, 1, 3, 4] rfl rfl) ?_
   refine Lt.run 1 rfl (pk [0, 1, 3, 4] rfl rfl) ?_
   refine Lt.two rfl rfl ?_ ?_
   ·
    refine Ll.op (v := pt_ p31) rfl rfl rfl (OpQ.nilCheck rfl rfl) ?_
    refine Ll.nil (Lt.joint (pk [0, 1, 3, 4] rfl rfl) ?_)
    refine Lt.take rfl rfl rfl rfl rfl (OpQ.fieldAddr rfl Tryd.runUnderlying66 rfl Tryd.sizeOf64 rfl rfl) (pk [0, 1, 3, 4] rfl rfl) ?_
    refine Lt.two rfl rfl ?_ ?_
    ·
     refine Ll.op rfl rfl rfl (OpQ.loadOwn 2 rfl Tryd.isAgg64 rfl rfl rfl) ?_
     refine Ll.nil (Lt.joint (pk [0, 1, 3, 4] rfl rfl) ?_)
     refine Lt.loud rfl ?_
     refine Ll.op (v := bo_ (sameB a ((placed (stX a b k s) k)) b ((placed (stY a b k s) k)))) rfl rfl rfl (OpQ.call rfl Tryd.call76 rfl Own.stable (fun w1 hw1 => sameWay_ok a b ((placed (stX a b k s) k)) ((placed (stY a b k s) k)) (sl_ p50a ((placed (stX a b k s) k).length) cap50a) (sl_ p50b ((placed (stY a b k s) k).length) cap50b) w1 ha hb (Own.row hw1 (i := 0) rfl (by simpa using htp50a) (by simp) hlp50a) (Own.row hw1 (i := 1) rfl (by simpa using htp50b) (by simp) hlp50b) hEa hEb hpl (by omega))) ?_
     refine Ll.nil (Lt.joint (pk [0, 1, 3, 4] rfl rfl) ?_)
     refine Lt.loud rfl ?_
     refine Ll.slice (xs := [.tmp 62]) (vs := [bo_ (sameB a ((placed (stX a b k s) k)) b ((placed (stY a b k s) k)))]) Base.elem64 rfl rfl rfl rfl rfl rfl (by decide) rfl fun p63 hp63 => ?_
     refine Ll.nil (Lt.joint (pk [1, 2, 4, 5] rfl rfl) ?_)
     refine Lt.loud rfl ?_
     refine Ll.appendOpt (m := s) (bs := (WL 0 a b k).take s) hts Base.elem64 [bk_ p63 #[bo_ (sameB a ((placed (stX a b k s) k)) b ((placed (stY a b k s) k)))] 4, bk_ p50a cur50a 3, bk_ p50b cur50b 3, bk_ p31 #[i6_ a.n, str a.set, str a.rel, i6_ b.n, str b.set, str b.rel, i6_ ((k : Int)), i6_ (((prN a b : Nat) : Int)), optV q s, .slice none 0 0, bo_ false] 66, bk_ p6 #[i6_ b.n, str b.set, str b.rel] 28, bk_ p4 #[i6_ a.n, str a.set, str a.rel] 28] [] 0 hq rfl rfl rfl rfl rfl rfl rfl (by omega) fun gq cq uq _ hQgq => ?_
     show Ll _ _ (Own _ _ (_ :: _ :: _ :: _ :: _ :: _ :: ((optB 4 (some (gq, cq, uq)) ++ [])))) _ _ ((64, sl_ gq ((s + 1)) cq) :: _) _ _ _
     refine Ll.nil (Lt.joint (pk [1, 2, 4, 5] rfl rfl) ?_)
     refine Lt.loud rfl ?_
     refine Ll.op (v := pt_ p31) rfl rfl rfl (OpQ.nilCheck rfl rfl) ?_
     refine Ll.nil (Lt.joint (pk [1, 2, 4, 5] rfl rfl) ?_)
     refine Lt.take rfl rfl rfl rfl rfl (OpQ.fieldAddr rfl Tryd.runUnderlying66 rfl Tryd.sizeOf64 rfl rfl) (pk [1, 2, 4, 5] rfl rfl) ?_
     refine Lt.loud rfl ?_
     refine Ll.store1 (v := sl_ gq ((s + 1)) cq) (hs' := (_ :: _ :: _ :: bk_ p31 #[i6_ a.n, str a.set, str a.rel, i6_ b.n, str b.set, str b.rel, i6_ ((k : Int)), i6_ (((prN a b : Nat) : Int)), sl_ gq ((s + 1)) cq, .slice none 0 0, bo_ false] 66 :: _ :: _ :: ((optB 4 (some (gq, cq, uq)) ++ [])))) 3 rfl rfl rfl rfl rfl rfl Tryd.sizeOf64 rfl (by simp) rfl ?_
     refine Ll.nil (Lt.joint (pk [1, 2, 4, 5] rfl rfl) ?_)
     refine Lt.nil ?_
     refine Kt.sel [4, 6, 9, 43, 44] [_, _, _, _, _] rfl ?_
     refine Wk.regionQ ?_
     refine Lq.op rfl rfl rfl (OpQ.add rfl rfl rfl (by omega) (by omega)) ?_
     refine Lq.run 1 rfl ?_
     refine Lq.nil ?_
     refine Kt.again ((s + 1, some (gq, cq, uq))) ⟨by omega, by rw [fit_next (by omega) hsN]; exact hQgq⟩ (by omega) (Sub.sel [4, 6, 9, 43, 44] rfl) (fun _ h => Own.pickT (hs := [_, _, _, _, _, _]) (hs' := [_, _, _]) (tl := optB 4 (some (gq, cq, uq)) ++ []) h [3, 4, 5] rfl (by decide))
    ·
     refine Ll.op (v := bo_ (sameB a ((placed (stX a b k s) k)) b ((placed (stY a b k s) k)))) rfl rfl rfl (OpQ.call rfl Tryd.call76 rfl Own.stable (fun w1 hw1 => sameWay_ok a b ((placed (stX a b k s) k)) ((placed (stY a b k s) k)) (sl_ p50a ((placed (stX a b k s) k).length) cap50a) (sl_ p50b ((placed (stY a b k s) k).length) cap50b) w1 ha hb (Own.row hw1 (i := 0) rfl (by simpa using htp50a) (by simp) hlp50a) (Own.row hw1 (i := 1) rfl (by simpa using htp50b) (by simp) hlp50b) hEa hEb hpl (by omega))) ?_
     refine Ll.nil (Lt.joint (pk [0, 1, 3, 4] rfl rfl) ?_)
     refine Lt.two rfl rfl ?_ ?_
     ·
      refine Ll.op rfl rfl rfl (OpQ.loadOwn 2 rfl Tryd.isAgg64 rfl rfl rfl) ?_
      refine Ll.nil (Lt.joint (pk [0, 1, 3, 4] rfl rfl) ?_)
      refine Lt.loud rfl ?_
      refine Ll.slice (xs := [.tmp 62]) (vs := [bo_ (sameB a ((placed (stX a b k s) k)) b ((placed (stY a b k s) k)))]) Base.elem64 rfl rfl rfl rfl rfl rfl (by decide) rfl fun p63_1 hp63_1 => ?_
      refine Ll.nil (Lt.joint (pk [1, 2, 4, 5] rfl rfl) ?_)
      refine Lt.loud rfl ?_
      refine Ll.appendOpt (m := s) (bs := (WL 0 a b k).take s) hts Base.elem64 [bk_ p63_1 #[bo_ (sameB a ((placed (stX a b k s) k)) b ((placed (stY a b k s) k)))] 4, bk_ p50a cur50a 3, bk_ p50b cur50b 3, bk_ p31 #[i6_ a.n, str a.set, str a.rel, i6_ b.n, str b.set, str b.rel, i6_ ((k : Int)), i6_ (((prN a b : Nat) : Int)), optV q s, .slice none 0 0, bo_ false] 66, bk_ p6 #[i6_ b.n, str b.set, str b.rel] 28, bk_ p4 #[i6_ a.n, str a.set, str a.rel] 28] [] 0 hq rfl rfl rfl rfl rfl rfl rfl (by omega) fun gq_1 cq_1 uq_1 _ hQgq_1 => ?_
      show Ll _ _ (Own _ _ (_ :: _ :: _ :: _ :: _ :: _ :: ((optB 4 (some (gq_1, cq_1, uq_1)) ++ [])))) _ _ ((64, sl_ gq_1 ((s + 1)) cq_1) :: _) _ _ _
      refine Ll.nil (Lt.joint (pk [1, 2, 4, 5] rfl rfl) ?_)
      refine Lt.loud rfl ?_
      refine Ll.op (v := pt_ p31) rfl rfl rfl (OpQ.nilCheck rfl rfl) ?_
      refine Ll.nil (Lt.joint (pk [1, 2, 4, 5] rfl rfl) ?_)
      refine Lt.take rfl rfl rfl rfl rfl (OpQ.fieldAddr rfl Tryd.runUnderlying66 rfl Tryd.sizeOf64 rfl rfl) (pk [1, 2, 4, 5] rfl rfl) ?_
      refine Lt.loud rfl ?_
      refine Ll.store1 (v := sl_ gq_1 ((s + 1)) cq_1) (hs' := (_ :: _ :: _ :: bk_ p31 #[i6_ a.n, str a.set, str a.rel, i6_ b.n, str b.set, str b.rel, i6_ ((k : Int)), i6_ (((prN a b : Nat) : Int)), sl_ gq_1 ((s + 1)) cq_1, .slice none 0 0, bo_ false] 66 :: _ :: _ :: ((optB 4 (some (gq_1, cq_1, uq_1)) ++ [])))) 3 rfl rfl rfl rfl rfl rfl Tryd.sizeOf64 rfl (by simp) rfl ?_
      refine Ll.nil (Lt.joint (pk [1, 2, 4, 5] rfl rfl) ?_)
      refine Lt.nil ?_
      refine Kt.sel [4, 6, 9, 43, 44] [_, _, _, _, _] rfl ?_
      refine Wk.regionQ ?_
      refine Lq.op rfl rfl rfl (OpQ.add rfl rfl rfl (by omega) (by omega)) ?_
      refine Lq.run 1 rfl ?_
      refine Lq.nil ?_
      refine Kt.again ((s + 1, some (gq_1, cq_1, uq_1))) ⟨by omega, by rw [fit_next (by omega) hsN]; exact hQgq_1⟩ (by omega) (Sub.sel [4, 6, 9, 43, 44] rfl) (fun _ h => Own.pickT (hs := [_, _, _, _, _, _]) (hs' := [_, _, _]) (tl := optB 4 (some (gq_1, cq_1, uq_1)) ++ []) h [3, 4, 5] rfl (by decide))
     ·
      refine Ll.slice (xs := [.tmp 62]) (vs := [bo_ (sameB a ((placed (stX a b k s) k)) b ((placed (stY a b k s) k)))]) Base.elem64 rfl rfl rfl rfl rfl rfl (by decide) rfl fun p63_2 hp63_2 => ?_
      refine Ll.nil (Lt.joint (pk [1, 2, 4, 5] rfl rfl) ?_)
      refine Lt.loud rfl ?_
      refine Ll.op rfl rfl rfl (OpQ.loadOwn 3 rfl Tryd.isAgg64 rfl rfl rfl) ?_
      refine Ll.nil (Lt.joint (pk [1, 2, 4, 5] rfl rfl) ?_)
      refine Lt.loud rfl ?_
      refine Ll.appendOpt (m := s) (bs := (WL 0 a b k).take s) hts Base.elem64 [bk_ p63_2 #[bo_ (sameB a ((placed (stX a b k s) k)) b ((placed (stY a b k s) k)))] 4, bk_ p50a cur50a 3, bk_ p50b cur50b 3, bk_ p31 #[i6_ a.n, str a.set, str a.rel, i6_ b.n, str b.set, str b.rel, i6_ ((k : Int)), i6_ (((prN a b : Nat) : Int)), optV q s, .slice none 0 0, bo_ false] 66, bk_ p6 #[i6_ b.n, str b.set, str b.rel] 28, bk_ p4 #[i6_ a.n, str a.set, str a.rel] 28] [] 0 hq rfl rfl rfl rfl rfl rfl rfl (by omega) fun gq_2 cq_2 uq_2 _ hQgq_2 => ?_
      show Ll _ _ (Own _ _ (_ :: _ :: _ :: _ :: _ :: _ :: ((optB 4 (some (gq_2, cq_2, uq_2)) ++ [])))) _ _ ((64, sl_ gq_2 ((s + 1)) cq_2) :: _) _ _ _
      refine Ll.nil (Lt.joint (pk [1, 2, 4, 5] rfl rfl) ?_)
      refine Lt.loud rfl ?_
      refine Ll.op (v := pt_ p31) rfl rfl rfl (OpQ.nilCheck rfl rfl) ?_
      refine Ll.nil (Lt.joint (pk [1, 2, 4, 5] rfl rfl) ?_)
      refine Lt.take rfl rfl rfl rfl rfl (OpQ.fieldAddr rfl Tryd.runUnderlying66 rfl Tryd.sizeOf64 rfl rfl) (pk [1, 2, 4, 5] rfl rfl) ?_
      refine Lt.loud rfl ?_
      refine Ll.store1 (v := sl_ gq_2 ((s + 1)) cq_2) (hs' := (_ :: _ :: _ :: bk_ p31 #[i6_ a.n, str a.set, str a.rel, i6_ b.n, str b.set, str b.rel, i6_ ((k : Int)), i6_ (((prN a b : Nat) : Int)), sl_ gq_2 ((s + 1)) cq_2, .slice none 0 0, bo_ false] 66 :: _ :: _ :: ((optB 4 (some (gq_2, cq_2, uq_2)) ++ [])))) 3 rfl rfl rfl rfl rfl rfl Tryd.sizeOf64 rfl (by simp) rfl ?_
      refine Ll.nil (Lt.joint (pk [1, 2, 4, 5] rfl rfl) ?_)
      refine Lt.nil ?_
      refine Kt.sel [4, 6, 9, 43, 44] [_, _, _, _, _] rfl ?_
      refine Wk.regionQ ?_
      refine Lq.op rfl rfl rfl (OpQ.add rfl rfl rfl (by omega) (by omega)) ?_
      refine Lq.run 1 rfl ?_
      refine Lq.nil ?_
      refine Kt.again ((s + 1, some (gq_2, cq_2, uq_2))) ⟨by omega, by rw [fit_next (by omega) hsN]; exact hQgq_2⟩ (by omega) (Sub.sel [4, 6, 9, 43, 44] rfl) (fun _ h => Own.pickT (hs := [_, _, _, _, _, _]) (hs' := [_, _, _]) (tl := optB 4 (some (gq_2, cq_2, uq_2)) ++ []) h [3, 4, 5] rfl (by decide))
   ·
    refine Ll.op (v := bo_ (sameB a ((placed (stX a b k s) k)) b ((placed (stY a b k s) k)))) rfl rfl rfl (OpQ.call rfl Tryd.call76 rfl Own.stable (fun w1 hw1 => sameWay_ok a b ((placed (stX a b k s) k)) ((placed (stY a b k s) k)) (sl_ p50a ((placed (stX a b k s) k).length) cap50a) (sl_ p50b ((placed (stY a b k s) k).length) cap50b) w1 ha hb (Own.row hw1 (i := 0) rfl (by simpa using htp50a) (by simp) hlp50a) (Own.row hw1 (i := 1) rfl (by simpa using htp50b) (by simp) hlp50b) hEa hEb hpl (by omega))) ?_
    refine Ll.nil (Lt.joint (pk [0, 1, 3, 4] rfl rfl) ?_)
    refine Lt.two rfl rfl ?_ ?_
    ·
     refine Ll.op (v := pt_ p31) rfl rfl rfl (OpQ.nilCheck rfl rfl) ?_
     refine Ll.nil (Lt.joint (pk [0, 1, 3, 4] rfl rfl) ?_)
     refine Lt.take rfl rfl rfl rfl rfl (OpQ.fieldAddr rfl Tryd.runUnderlying66 rfl Tryd.sizeOf64 rfl rfl) (pk [0, 1, 3, 4] rfl rfl) ?_
     refine Lt.two rfl rfl ?_ ?_
     ·
      refine Ll.op rfl rfl rfl (OpQ.loadOwn 2 rfl Tryd.isAgg64 rfl rfl rfl) ?_
      refine Ll.nil (Lt.joint (pk [0, 1, 3, 4] rfl rfl) ?_)
      refine Lt.loud rfl ?_
      refine Ll.slice (xs := [.tmp 62]) (vs := [bo_ (sameB a ((placed (stX a b k s) k)) b ((placed (stY a b k s) k)))]) Base.elem64 rfl rfl rfl rfl rfl rfl (by decide) rfl fun p63_3 hp63_3 => ?_
      refine Ll.nil (Lt.joint (pk [1, 2, 4, 5] rfl rfl) ?_)
      refine Lt.loud rfl ?_
      refine Ll.appendOpt (m := s) (bs := (WL 0 a b k).take s) hts Base.elem64 [bk_ p63_3 #[bo_ (sameB a ((placed (stX a b k s) k)) b ((placed (stY a b k s) k)))] 4, bk_ p50a cur50a 3, bk_ p50b cur50b 3, bk_ p31 #[i6_ a.n, str a.set, str a.rel, i6_ b.n, str b.set, str b.rel, i6_ ((k : Int)), i6_ (((prN a b : Nat) : Int)), optV q s, .slice none 0 0, bo_ false] 66, bk_ p6 #[i6_ b.n, str b.set, str b.rel] 28, bk_ p4 #[i6_ a.n, str a.set, str a.rel] 28] [] 0 hq rfl rfl rfl rfl rfl rfl rfl (by omega) fun gq_3 cq_3 uq_3 _ hQgq_3 => ?_
      show Ll _ _ (Own _ _ (_ :: _ :: _ :: _ :: _ :: _ :: ((optB 4 (some (gq_3, cq_3, uq_3)) ++ [])))) _ _ ((64, sl_ gq_3 ((s + 1)) cq_3) :: _) _ _ _
      refine Ll.nil (Lt.joint (pk [1, 2, 4, 5] rfl rfl) ?_)
      refine Lt.loud rfl ?_
      refine Ll.op (v := pt_ p31) rfl rfl rfl (OpQ.nilCheck rfl rfl) ?_
      refine Ll.nil (Lt.joint (pk [1, 2, 4, 5] rfl rfl) ?_)
      refine Lt.take rfl rfl rfl rfl rfl (OpQ.fieldAddr rfl Tryd.runUnderlying66 rfl Tryd.sizeOf64 rfl rfl) (pk [1, 2, 4, 5] rfl rfl) ?_
      refine Lt.loud rfl ?_
      refine Ll.store1 (v := sl_ gq_3 ((s + 1)) cq_3) (hs' := (_ :: _ :: _ :: bk_ p31 #[i6_ a.n, str a.set, str a.rel, i6_ b.n, str b.set, str b.rel, i6_ ((k : Int)), i6_ (((prN a b : Nat) : Int)), sl_ gq_3 ((s + 1)) cq_3, .slice none 0 0, bo_ false] 66 :: _ :: _ :: ((optB 4 (some (gq_3, cq_3, uq_3)) ++ [])))) 3 rfl rfl rfl rfl rfl rfl Tryd.sizeOf64 rfl (by simp) rfl ?_
      refine Ll.nil (Lt.joint (pk [1, 2, 4, 5] rfl rfl) ?_)
      refine Lt.nil ?_
      refine Kt.sel [4, 6, 9, 43, 44] [_, _, _, _, _] rfl ?_
      refine Wk.regionQ ?_
      refine Lq.op rfl rfl rfl (OpQ.add rfl rfl rfl (by omega) (by omega)) ?_
      refine Lq.run 1 rfl ?_
      refine Lq.nil ?_
      refine Kt.again ((s + 1, some (gq_3, cq_3, uq_3))) ⟨by omega, by rw [fit_next (by omega) hsN]; exact hQgq_3⟩ (by omega) (Sub.sel [4, 6, 9, 43, 44] rfl) (fun _ h => Own.pickT (hs := [_, _, _, _, _, _]) (hs' := [_, _, _]) (tl := optB 4 (some (gq_3, cq_3, uq_3)) ++ []) h [3, 4, 5] rfl (by decide))
     ·
      refine Ll.slice (xs := [.tmp 62]) (vs := [bo_ (sameB a ((placed (stX a b k s) k)) b ((placed (stY a b k s) k)))]) Base.elem64 rfl rfl rfl rfl rfl rfl (by decide) rfl fun p63_4 hp63_4 => ?_
      refine Ll.nil (Lt.joint (pk [1, 2, 4, 5] rfl rfl) ?_)
      refine Lt.loud rfl ?_
      refine Ll.op rfl rfl rfl (OpQ.loadOwn 3 rfl Tryd.isAgg64 rfl rfl rfl) ?_
      refine Ll.nil (Lt.joint (pk [1, 2, 4, 5] rfl rfl) ?_)
      refine Lt.loud rfl ?_
      refine Ll.appendOpt (m := s) (bs := (WL 0 a b k).take s) hts Base.elem64 [bk_ p63_4 #[bo_ (sameB a ((placed (stX a b k s) k)) b ((placed (stY a b k s) k)))] 4, bk_ p50a cur50a 3, bk_ p50b cur50b 3, bk_ p31 #[i6_ a.n, str a.set, str a.rel, i6_ b.n, str b.set, str b.rel, i6_ ((k : Int)), i6_ (((prN a b : Nat) : Int)), optV q s, .slice none 0 0, bo_ false] 66, bk_ p6 #[i6_ b.n, str b.set, str b.rel] 28, bk_ p4 #[i6_ a.n, str a.set, str a.rel] 28] [] 0 hq rfl rfl rfl rfl rfl rfl rfl (by omega) fun gq_4 cq_4 uq_4 _ hQgq_4 => ?_
      show Ll _ _ (Own _ _ (_ :: _ :: _ :: _ :: _ :: _ :: ((optB 4 (some (gq_4, cq_4, uq_4)) ++ [])))) _ _ ((64, sl_ gq_4 ((s + 1)) cq_4) :: _) _ _ _
      refine Ll.nil (Lt.joint (pk [1, 2, 4, 5] rfl rfl) ?_)
      refine Lt.loud rfl ?_
      refine Ll.op (v := pt_ p31) rfl rfl rfl (OpQ.nilCheck rfl rfl) ?_
      refine Ll.nil (Lt.joint (pk [1, 2, 4, 5] rfl rfl) ?_)
      refine Lt.take rfl rfl rfl rfl rfl (OpQ.fieldAddr rfl Tryd.runUnderlying66 rfl Tryd.sizeOf64 rfl rfl) (pk [1, 2, 4, 5] rfl rfl) ?_
      refine Lt.loud rfl ?_
      refine Ll.store1 (v := sl_ gq_4 ((s + 1)) cq_4) (hs' := (_ :: _ :: _ :: bk_ p31 #[i6_ a.n, str a.set, str a.rel, i6_ b.n, str b.set, str b.rel, i6_ ((k : Int)), i6_ (((prN a b : Nat) : Int)), sl_ gq_4 ((s + 1)) cq_4, .slice none 0 0, bo_ false] 66 :: _ :: _ :: ((optB 4 (some (gq_4, cq_4, uq_4)) ++ [])))) 3 rfl rfl rfl rfl rfl rfl Tryd.sizeOf64 rfl (by simp) rfl ?_
      refine Ll.nil (Lt.joint (pk [1, 2, 4, 5] rfl rfl) ?_)
      refine Lt.nil ?_
      refine Kt.sel [4, 6, 9, 43, 44] [_, _, _, _, _] rfl ?_
      refine Wk.regionQ ?_
      refine Lq.op rfl rfl rfl (OpQ.add rfl rfl rfl (by omega) (by omega)) ?_
      refine Lq.run 1 rfl ?_
      refine Lq.nil ?_
      refine Kt.again ((s + 1, some (gq_4, cq_4, uq_4))) ⟨by omega, by rw [fit_next (by omega) hsN]; exact hQgq_4⟩ (by omega) (Sub.sel [4, 6, 9, 43, 44] rfl) (fun _ h => Own.pickT (hs := [_, _, _, _, _, _]) (hs' := [_, _, _]) (tl := optB 4 (some (gq_4, cq_4, uq_4)) ++ []) h [3, 4, 5] rfl (by decide))
    ·
     refine Ll.slice (xs := [.tmp 62]) (vs := [bo_ (sameB a ((placed (stX a b k s) k)) b ((placed (stY a b k s) k)))]) Base.elem64 rfl rfl rfl rfl rfl rfl (by decide) rfl fun p63_5 hp63_5 => ?_
     refine Ll.nil (Lt.joint (pk [1, 2, 4, 5] rfl rfl) ?_)
     refine Lt.loud rfl ?_
     refine Ll.op (v := pt_ p31) rfl rfl rfl (OpQ.nilCheck rfl rfl) ?_
     refine Ll.nil (Lt.joint (pk [1, 2, 4, 5] rfl rfl) ?_)
     refine Lt.take rfl rfl rfl rfl rfl (OpQ.fieldAddr rfl Tryd.runUnderlying66 rfl Tryd.sizeOf64 rfl rfl) (pk [1, 2, 4, 5] rfl rfl) ?_
     refine Lt.loud rfl ?_
     refine Ll.op rfl rfl rfl (OpQ.loadOwn 3 rfl Tryd.isAgg64 rfl rfl rfl) ?_
     refine Ll.nil (Lt.joint (pk [1, 2, 4, 5] rfl rfl) ?_)
     refine Lt.loud rfl ?_
     refine Ll.appendOpt (m := s) (bs := (WL 0 a b k).take s) hts Base.elem64 [bk_ p63_5 #[bo_ (sameB a ((placed (stX a b k s) k)) b ((placed (stY a b k s) k)))] 4, bk_ p50a cur50a 3, bk_ p50b cur50b 3, bk_ p31 #[i6_ a.n, str a.set, str a.rel, i6_ b.n, str b.set, str b.rel, i6_ ((k : Int)), i6_ (((prN a b : Nat) : Int)), optV q s, .slice none 0 0, bo_ false] 66, bk_ p6 #[i6_ b.n, str b.set, str b.rel] 28, bk_ p4 #[i6_ a.n, str a.set, str a.rel] 28] [] 0 hq rfl rfl rfl rfl rfl rfl rfl (by omega) fun gq_5 cq_5 uq_5 _ hQgq_5 => ?_
     show Ll _ _ (Own _ _ (_ :: _ :: _ :: _ :: _ :: _ :: ((optB 4 (some (gq_5, cq_5, uq_5)) ++ [])))) _ _ ((64, sl_ gq_5 ((s + 1)) cq_5) :: _) _ _ _
     refine Ll.nil (Lt.joint (pk [1, 2, 4, 5] rfl rfl) ?_)
     refine Lt.loud rfl ?_
     refine Ll.op (v := pt_ p31) rfl rfl rfl (OpQ.nilCheck rfl rfl) ?_
     refine Ll.nil (Lt.joint (pk [1, 2, 4, 5] rfl rfl) ?_)
     refine Lt.take rfl rfl rfl rfl rfl (OpQ.fieldAddr rfl Tryd.runUnderlying66 rfl Tryd.sizeOf64 rfl rfl) (pk [1, 2, 4, 5] rfl rfl) ?_
     refine Lt.loud rfl ?_
     refine Ll.store1 (v := sl_ gq_5 ((s + 1)) cq_5) (hs' := (_ :: _ :: _ :: bk_ p31 #[i6_ a.n, str a.set, str a.rel, i6_ b.n, str b.set, str b.rel, i6_ ((k : Int)), i6_ (((prN a b : Nat) : Int)), sl_ gq_5 ((s + 1)) cq_5, .slice none 0 0, bo_ false] 66 :: _ :: _ :: ((optB 4 (some (gq_5, cq_5, uq_5)) ++ [])))) 3 rfl rfl rfl rfl rfl rfl Tryd.sizeOf64 rfl (by simp) rfl ?_
     refine Ll.nil (Lt.joint (pk [1, 2, 4, 5] rfl rfl) ?_)
     refine Lt.nil ?_
     refine Kt.sel [4, 6, 9, 43, 44] [_, _, _, _, _] rfl ?_
     refine Wk.regionQ ?_
     refine Lq.op rfl rfl rfl (OpQ.add rfl rfl rfl (by omega) (by omega)) ?_
     refine Lq.run 1 rfl ?_
     refine Lq.nil ?_
     refine Kt.again ((s + 1, some (gq_5, cq_5, uq_5))) ⟨by omega, by rw [fit_next (by omega) hsN]; exact hQgq_5⟩ (by omega) (Sub.sel [4, 6, 9, 43, 44] rfl) (fun _ h => Own.pickT (hs := [_, _, _, _, _, _]) (hs' := [_, _, _]) (tl := optB 4 (some (gq_5, cq_5, uq_5)) ++ []) h [3, 4, 5] rfl (by decide))
  ·
   replace h45 := of_decide_eq_false h45
   have hsN : s = prN a b ^ k := by omega
   have hWl : (WL 0 a b k).length = prN a b ^ k := WL_len _ _ _ _
   have hNp : 0 < prN a b ^ k := Nat.pow_pos hpp
   have hN0 := pow65 hpr hk3
   rw [List.take_of_length_le (by omega)] at hq
   obtain ⟨gf, cf, uf, hqe, hcf, hlf, htf⟩ := opt_some hq (by omega)
   subst hqe
   show Wk _ _ (Own _ _ [bk_ p31 #[i6_ a.n, str a.set, str a.rel, i6_ b.n, str b.set, str b.rel, i6_ ((k : Int)), i6_ (((prN a b : Nat) : Int)), sl_ gf s cf, .slice none 0 0, bo_ false] 66, bk_ p6 #[i6_ b.n, str b.set, str b.rel] 28, bk_ p4 #[i6_ a.n, str a.set, str a.rel] 28, bk_ gf uf 4]) _ _ _ _ _
   refine Wk.exit rfl ?_
   refine Kt.sel [9] [_] rfl ?_
   refine Wk.seq ?_
   refine Wk.region ?_
   refine Ll.run 1 rfl ?_
   refine Ll.slice (xs := []) (vs := []) Base.elem64 rfl rfl rfl rfl rfl rfl (by decide) rfl fun p69 hp69 => ?_
   refine Ll.run 1 rfl ?_
   refine Ll.op (v := pt_ p31) rfl rfl rfl (OpQ.nilCheck rfl rfl) ?_
   refine Ll.op rfl rfl rfl (OpQ.fieldAddr rfl Tryd.runUnderlying66 rfl Tryd.sizeOf64 rfl rfl) ?_
   refine Ll.op rfl rfl rfl (OpQ.loadOwn 1 rfl Tryd.isAgg64 rfl rfl rfl) ?_
   refine Ll.appendBools (xs := ([] : List Bool)) (ys := (WL 0 a b k)) Base.elem64 0 rfl rfl rfl rfl rfl rfl rfl rfl (by decide) rfl (fun w1 hw1 => (Own.row hw1 (i := 4) rfl (by rw [hsN, ← hWl]; exact htf) (by rw [bools_length, hWl, hsN]) (by omega))) (((WL 0 a b k)).length) (by first | (simp; done) | (simp; omega)) (by first | (simp; done) | (simp; omega) | omega) fun p74 cap74 cur74 hp74 hcp74 hlp74 htp74 => ?_
   show Ll _ _ (Own _ _ [_, _, _, _, _]) _ _ ((74, sl_ p74 ((((WL 0 a b k)).length)) cap74) :: _) _ _ _
   refine Ll.op (v := pt_ p31) rfl rfl rfl (OpQ.nilCheck rfl rfl) ?_
   refine Ll.op rfl rfl rfl (OpQ.fieldAddr rfl Tryd.runUnderlying66 rfl Tryd.sizeOf64 rfl rfl) ?_
   refine Ll.store1 (v := sl_ p74 ((((WL 0 a b k)).length)) cap74) (hs' := [_, bk_ p31 #[i6_ a.n, str a.set, str a.rel, i6_ b.n, str b.set, str b.rel, i6_ ((k : Int)), i6_ (((prN a b : Nat) : Int)), sl_ gf s cf, sl_ p74 ((((WL 0 a b k)).length)) cap74, bo_ false] 66, _, _, _]) 1 rfl rfl rfl rfl rfl rfl Tryd.sizeOf64 rfl (by simp) rfl ?_
   refine Ll.nil ?_
   refine Kt.sel [9] [_] rfl ?_
   refine Wk.seq ?_
   refine Wk.regionQ ?_
   refine Lq.run 2 rfl ?_
   refine Lq.nil ?_
   refine Kt.sel [8] [_] rfl ?_
   refine Wk.ret (Kt.end1 rfl rfl fun w' hw => ?_)
   -- ret 0: pt_ p31
   rw [hsN, ← hWl] at hw
   exact ⟨p31, gf, cf, uf, p74, cap74, cur74, rfl, ⟨hcf, hlf, htf⟩, ⟨by simpa using hcp74, by simpa using hlp74, by simpa using htp74⟩, hw.pick [1, 4, 0] rfl (by decide)⟩

set_option maxHeartbeats 400000 in
/-- impl.newPebbles|no -/
theorem newPeb_no (a b : St) (xs ys : List Int) (va vb : Value) (w : World) (hsa : a.Small) (hsb : b.Small) (hva : Ints w va xs) (hvb : Ints w vb ys) (hs1 : xs.length ≤ 140737488355328) (hs2 : ys.length ≤ 140737488355328) (hr : readyB a xs b ys = false) :
    Calls Tryd.prog 56 [vS a, va, vS b, vb].toArray w fun en w' => en = .returned (.pointer none) ∧ Below w.heap.size w w' := by
 refine fnStart (n := 78) (e := [(0, vS a), (1, va), (2, vS b), (3, vb)]) Tryd.func56 rfl rfl rfl rfl Ends.both ?_
 refine Wk.seq ?_
 refine Wk.region ?_
 refine Ll.box (v := vS a) rfl rfl rfl rfl rfl fun p4 hp4 => ?_
 show Ll _ _ (Own _ _ [_]) _ _ ((4, pt_ p4) :: _) _ _ _
 refine Ll.box (v := vS b) rfl rfl rfl rfl rfl fun p6 hp6 => ?_
 show Ll _ _ (Own _ _ [_, _]) _ _ ((6, pt_ p6) :: _) _ _ _
 refine Ll.run 1 rfl ?_
 refine Ll.nil ?_
 refine Kt.sel [1, 3, 4, 6] [_, _, _, _] rfl ?_
 refine Wk.seq ?_
 refine Wk.seq ?_
 refine Wk.regionQ ?_
 refine Lq.op rfl rfl rfl (OpQ.loadBox (cs := #[i6_ a.n, str a.set, str a.rel]) 1 rfl Tryd.isAgg28 rfl rfl Tryd.sizeOf28) ?_
 refine Lq.run 1 rfl ?_
 refine Lq.op rfl rfl rfl (OpQ.loadBox (cs := #[i6_ b.n, str b.set, str b.rel]) 0 rfl Tryd.isAgg28 rfl rfl Tryd.sizeOf28) ?_
 refine Lq.run 1 rfl ?_
 refine Lq.op (v := bo_ false) rfl rfl rfl (OpQ.call rfl Tryd.call72 rfl Own.stable (fun w1 hw1 => known_b hr (areReady_ok a b xs ys va vb w1 hsa hsb (Row.own hva hw1) (Row.own hvb hw1) (by first | (simp; done) | (simp; omega) | omega) (by first | (simp; done) | (simp; omega) | omega)))) ?_
 refine Lq.run 1 rfl ?_
 refine Lq.nil ?_
 refine Kt.sel [1, 4, 6, 19] [_, _, _, _] rfl ?_
 refine Wk.condT rfl ?_
 refine Wk.seq ?_
 refine Wk.regionQ ?_
 refine Lq.run 1 rfl ?_
 refine Lq.nil ?_
 refine Kt.sel [8] [_] rfl ?_
 refine Wk.ret (Kt.end1 rfl rfl fun w' hw => ?_)
 -- ret 0: .pointer none
 exact ⟨rfl, hw.below⟩

set_option maxHeartbeats 400000 in
/-- impl.PebblesWin|yes -/
theorem iPWin_yes (a b : St) (xs ys : List Int) (va vb : Value) (w : World) (hsa : a.Small) (hsb : b.Small) (hva : Ints w va xs) (hvb : Ints w vb ys) (hs1 : xs.length ≤ 140737488355328) (hs2 : ys.length ≤ 140737488355328) (t : Int) (k : Nat) (hk : xs.length = k) (hr : readyB a xs b ys = true) :
    Calls Tryd.prog 25 [vS a, va, vS b, vb, i6_ t].toArray w fun en w' => en = .returned (.bool (pebWinB a xs b ys t)) ∧ Below w.heap.size w w' := by
 refine fnStart (n := 40) (e := [(0, vS a), (1, va), (2, vS b), (3, vb), (4, i6_ t)]) Tryd.func25 rfl rfl rfl rfl Ends.both ?_
 obtain ⟨hVa, hVb, h1, h3, hlen, hx, hy⟩ := ready_peb hr
 have hsg := signsB_true (readyB_true hr).2.2.2
 have hst := (ready_state hr).1
 unfold stN at hst
 rw [hk] at h1 h3 hx hy hsg hst
 have hk3 : k ≤ 3 := h3
 have ha := validB_fine hVa
 have hb := validB_fine hVb
 have hm8 := ha.hi
 have hm1 := ha.lo
 have hb8 := hb.hi
 have hb1 := hb.lo
 have hpr := prN_le (a := a) (b := b) (by omega) (by omega)
 have hpp := prN_pos a b
 refine Wk.seq ?_
 refine Wk.region ?_
 refine Ll.box (v := vS a) rfl rfl rfl rfl rfl fun p5 hp5 => ?_
 show Ll _ _ (Own _ _ [_]) _ _ ((5, pt_ p5) :: _) _ _ _
 refine Ll.box (v := vS b) rfl rfl rfl rfl rfl fun p7 hp7 => ?_
 show Ll _ _ (Own _ _ [_, _]) _ _ ((7, pt_ p7) :: _) _ _ _
 refine Ll.run 1 rfl ?_
 refine Ll.nil ?_
 refine Kt.sel [1, 3, 4, 5, 7] [_, _, _, _, _] rfl ?_
 refine Wk.seq ?_
 refine Wk.region ?_
 refine Ll.op rfl rfl rfl (OpQ.loadBox (cs := #[i6_ a.n, str a.set, str a.rel]) 1 rfl Tryd.isAgg28 rfl rfl Tryd.sizeOf28) ?_
 refine Ll.run 1 rfl ?_
 refine Ll.op rfl rfl rfl (OpQ.loadBox (cs := #[i6_ b.n, str b.set, str b.rel]) 0 rfl Tryd.isAgg28 rfl rfl Tryd.sizeOf28) ?_
 refine Ll.run 1 rfl ?_
 refine Ll.callNew (σ := Nat × Nat × Nat × Array Value × Nat × Nat × Array Value) (ok := fun (p, gf, cf, uf, gw, cw, uw) => (uf.size = cf * 1 ∧ (WL 0 a b k).length ≤ cf ∧ uf.toList.take (WL 0 a b k).length = bools (WL 0 a b k)) ∧ (uw.size = cw * 1 ∧ (WL 0 a b k).length ≤ cw ∧ uw.toList.take (WL 0 a b k).length = bools (WL 0 a b k))) (v := fun (p, gf, cf, uf, gw, cw, uw) => .pointer (some ⟨p, 0, none⟩)) (new := fun (p, gf, cf, uf, gw, cw, uw) => [bk_ p #[i6_ a.n, str a.set, str a.rel, i6_ b.n, str b.set, str b.rel, i6_ ((k : Int)), i6_ (((prN a b : Nat) : Int)), sl_ gf ((WL 0 a b k).length) cf, sl_ gw ((WL 0 a b k).length) cw, bo_ false] 66, bk_ gf uf 4, bk_ gw uw 4]) (hs := [bk_ p7 #[i6_ b.n, str b.set, str b.rel] 28, bk_ p5 #[i6_ a.n, str a.set, str a.rel] 28]) (xs := [.tmp 12, .tmp 13, .tmp 14, .tmp 15]) (vs := [vS a, va, vS b, vb]) rfl rfl rfl rfl Tryd.call56 rfl (fun w1 hw1 => (newPeb_yes a b xs ys va vb w1 hsa hsb (Row.own hva hw1) (Row.own hvb hw1) (by first | (simp; done) | (simp; omega) | omega) (by first | (simp; done) | (simp; omega) | omega) k hk hr).mono fun en w' ⟨p, gf, cf, uf, gw, cw, uw, h1, h2, h3, h4⟩ => ⟨(p, gf, cf, uf, gw, cw, uw), h1, ⟨h2, h3⟩, hw1.merge h4⟩) fun ⟨p, gf, cf, uf, gw, cw, uw⟩ ⟨⟨hcf, hlf, htf⟩, ⟨hcw, hlw, htw⟩⟩ => ?_
 show Ll _ _ (Own _ _ [_, _, _, _, _]) _ _ ((16, pt_ p) :: _) _ _ _
 refine Ll.run 1 rfl ?_
 refine Ll.nil ?_
 refine Kt.sel [1, 3, 4, 11] [_, _, _, _] rfl ?_
 refine Wk.seq ?_
 refine Wk.seq ?_
 refine Wk.regionQ ?_
 refine Lq.run 1 rfl ?_
 refine Lq.op (v := bo_ false) rfl rfl rfl (OpQ.eqNilP (p := some ⟨p, 0, none⟩) rfl Tryd.underlying61 rfl rfl) ?_
 refine Lq.run 5 rfl ?_
 refine Lq.bool fun b23 hg23 => ?_
 cases b23
 ·
  replace hg23 := of_decide_eq_false hg23
  refine Lq.run 3 rfl ?_
  refine Lq.nil ?_
  refine Kt.sel [1, 3, 4, 11, 26] [_, _, _, _, _] rfl ?_
  refine Wk.cond (b := decide ((4 : Int) < t)) rfl (fun h26 => ?_) (fun h26 => ?_)
  ·
   replace h26 := of_decide_eq_true h26
   refine Wk.seq ?_
   refine Wk.regionQ ?_
   refine Lq.run 1 rfl ?_
   refine Lq.nil ?_
   refine Kt.sel [10] [_] rfl ?_
   refine Wk.ret (Kt.end1 rfl rfl fun w' hw => ?_)
   -- ret 0: bo_ false
   exact ⟨ret_b (by unfold pebWinB inB; rw [hr]; simp; omega), hw.below⟩
  ·
   replace h26 := of_decide_eq_false h26
   obtain ⟨n, rfl⟩ : ∃ n : Nat, t = (n : Int) := ⟨t.toNat, by omega⟩
   have hWt : (WL n a b k).length = prN a b ^ k := WL_len _ _ _ _
   refine Wk.skip ?_
   refine Kt.sel [1, 3, 4, 11] [_, _, _, _] rfl ?_
   refine Wk.seq ?_
   refine Wk.region ?_
   refine Ll.run 2 rfl ?_
   refine Ll.callGet (σ := Nat × Nat × Array Value) (ok := fun (g, c, u) => (WL n a b k).length ≤ c ∧ u.toList.take (WL n a b k).length = bools (WL n a b k)) (v := fun _ => .tuple #[]) (xs := [.tmp 27, .tmp 28]) (vs := [pt_ p, i6_ ((n : Int))]) (hs' := fun (g, c, u) => [bk_ p #[i6_ a.n, str a.set, str a.rel, i6_ b.n, str b.set, str b.rel, i6_ ((k : Int)), i6_ (((prN a b : Nat) : Int)), sl_ gf ((WL 0 a b k).length) cf, sl_ g ((WL n a b k).length) c, bo_ false] 66, bk_ gf uf 4, bk_ g u 4] ++ [bk_ p7 #[i6_ b.n, str b.set, str b.rel] 28, bk_ p5 #[i6_ a.n, str a.set, str a.rel] 28]) rfl rfl rfl rfl Tryd.call57 rfl (fun w1 hw1 => (play_ok _ _ [bk_ p7 #[i6_ b.n, str b.set, str b.rel] 28, bk_ p5 #[i6_ a.n, str a.set, str a.rel] 28] a b k n p gf cf uf gw cw uw w1 hVa hVb hk3 (by omega) hlf htf hlw htw hw1).mono fun en w' ⟨g, c, u, h1, h2, h3⟩ => ⟨(g, c, u), h1, h2, h3⟩) fun ⟨gt, ct, ut⟩ ⟨hlt, htt⟩ => ?_
   show Ll _ _ (Own _ _ [_, _, _, _, _]) _ _ ((29, .tuple #[]) :: _) _ _ _
   refine Ll.nil ?_
   refine Kt.sel [1, 3, 11] [_, _, _] rfl ?_
   refine Wk.seq ?_
   refine Wk.regionD Base.mixed (fun _ h => h.drawn) (by kernel_rfl) ?_
   refine Lq.run 1 rfl ?_
   refine Lq.op (v := pt_ p) rfl rfl rfl (OpQ.nilCheck rfl rfl) ?_
   refine Lq.op rfl rfl rfl (OpQ.fieldAddr rfl Tryd.runUnderlying66 rfl Tryd.sizeOf64 rfl rfl) ?_
   refine Lq.op rfl rfl rfl (OpQ.loadOwn 0 rfl Tryd.isAgg64 rfl rfl rfl) ?_
   refine Lq.run 3 rfl ?_
   refine Lq.op (v := i6_ (((stU b.n.toNat (prN a b) xs ys k k : Nat) : Int))) rfl rfl rfl (OpQ.call rfl Tryd.call58 rfl Own.stable (fun w1 hw1 => stateOf_ok a b k p 66 (sl_ gf ((WL 0 a b k).length) cf) (sl_ gt ((WL n a b k).length) ct) va vb xs ys w1 (hw1.has 0 _ _ rfl).2 (Row.own hva hw1) (Row.own hvb hw1) hVa hVb hk3 hx hy hsg)) ?_
   refine Lq.op (v := pf_ gt ((((stU b.n.toNat (prN a b) xs ys k k : Nat) : Int)).toNat)) rfl rfl rfl (OpQ.cast (by rw [Nat.zero_add]) (OpQ.indexAddr1 (i := ((stU b.n.toNat (prN a b) xs ys k k : Nat) : Int)) rfl Tryd.runUnderlying64 Tryd.sizeOf4 rfl rfl (by omega) (by omega))) ?_
   refine Lq.op (v := bo_ ((WL n a b k).getD ((((stU b.n.toNat (prN a b) xs ys k k : Nat) : Int)).toNat) false)) rfl rfl rfl (OpQ.loadAt 2 rfl Tryd.isAgg4 rfl rfl (cur_at htt (bools_at (c := (WL n a b k)) (off := (((stU b.n.toNat (prN a b) xs ys k k : Nat) : Int)).toNat) (by first | (simp; done) | (simp; omega) | omega)))) ?_
   refine Lq.run 1 rfl ?_
   refine Lq.nil ?_
   refine Kt.sel [10] [_] rfl ?_
   refine Wk.ret (Kt.end1 rfl rfl fun w' hw => ?_)
   -- ret 1: bo_ ((WL n a b k).getD ((((stU b.n.toNat (prN a b) xs ys k k : Nat) : Int)).toNat) false)
   subst hk
   exact ⟨ret_b (win_code (t := (n : Int)) hr (by omega) (by omega)), hw.below⟩
 ·
  replace hg23 := of_decide_eq_true hg23
  refine Lq.pass rfl rfl rfl ?_
  refine Lq.pass rfl rfl rfl ?_
  refine Lq.run 1 rfl ?_
  refine Lq.nil ?_
  refine Kt.sel [1, 3, 4, 11, 26] [_, _, _, _, _] rfl ?_
  refine Wk.condT rfl ?_
  refine Wk.seq ?_
  refine Wk.regionQ ?_
  refine Lq.run 1 rfl ?_
  refine Lq.nil ?_
  refine Kt.sel [10] [_] rfl ?_
  refine Wk.ret (Kt.end1 rfl rfl fun w' hw => ?_)
  -- ret 2: bo_ false
  exact ⟨ret_b (by unfold pebWinB inB; rw [hr]; simp; omega), hw.below⟩

set_option maxHeartbeats 400000 in
/-- impl.PebblesWin|no -/
theorem iPWin_no (a b : St) (xs ys : List Int) (va vb : Value) (w : World) (hsa : a.Small) (hsb : b.Small) (hva : Ints w va xs) (hvb : Ints w vb ys) (hs1 : xs.length ≤ 140737488355328) (hs2 : ys.length ≤ 140737488355328) (t : Int) (hr : readyB a xs b ys = false) :
    Calls Tryd.prog 25 [vS a, va, vS b, vb, i6_ t].toArray w fun en w' => en = .returned (.bool (pebWinB a xs b ys t)) ∧ Below w.heap.size w w' := by
 refine fnStart (n := 40) (e := [(0, vS a), (1, va), (2, vS b), (3, vb), (4, i6_ t)]) Tryd.func25 rfl rfl rfl rfl Ends.both ?_
 refine Wk.seq ?_
 refine Wk.region ?_
 refine Ll.box (v := vS a) rfl rfl rfl rfl rfl fun p5 hp5 => ?_
 show Ll _ _ (Own _ _ [_]) _ _ ((5, pt_ p5) :: _) _ _ _
 refine Ll.box (v := vS b) rfl rfl rfl rfl rfl fun p7 hp7 => ?_
 show Ll _ _ (Own _ _ [_, _]) _ _ ((7, pt_ p7) :: _) _ _ _
 refine Ll.run 1 rfl ?_
 refine Ll.nil ?_
 refine Kt.sel [1, 3, 4, 5, 7] [_, _, _, _, _] rfl ?_
 refine Wk.seq ?_
 refine Wk.region ?_
 refine Ll.op rfl rfl rfl (OpQ.loadBox (cs := #[i6_ a.n, str a.set, str a.rel]) 1 rfl Tryd.isAgg28 rfl rfl Tryd.sizeOf28) ?_
 refine Ll.run 1 rfl ?_
 refine Ll.op rfl rfl rfl (OpQ.loadBox (cs := #[i6_ b.n, str b.set, str b.rel]) 0 rfl Tryd.isAgg28 rfl rfl Tryd.sizeOf28) ?_
 refine Ll.run 1 rfl ?_
 refine Ll.op (v := .pointer none) rfl rfl rfl (OpQ.call rfl Tryd.call56 rfl Own.stable (fun w1 hw1 => newPeb_no a b xs ys va vb w1 hsa hsb (Row.own hva hw1) (Row.own hvb hw1) (by first | (simp; done) | (simp; omega) | omega) (by first | (simp; done) | (simp; omega) | omega) hr)) ?_
 refine Ll.run 1 rfl ?_
 refine Ll.nil ?_
 refine Kt.sel [1, 3, 4, 11] [_, _, _, _] rfl ?_
 refine Wk.seq ?_
 refine Wk.seq ?_
 refine Wk.regionQ ?_
 refine Lq.run 1 rfl ?_
 refine Lq.op (v := bo_ true) rfl rfl rfl (OpQ.eqNilP (p := none) rfl Tryd.underlying61 rfl rfl) ?_
 refine Lq.run 1 rfl ?_
 refine Lq.pass rfl rfl rfl ?_
 refine Lq.pass rfl rfl rfl ?_
 refine Lq.run 2 rfl ?_
 refine Lq.pass rfl rfl rfl ?_
 refine Lq.pass rfl rfl rfl ?_
 refine Lq.run 1 rfl ?_
 refine Lq.nil ?_
 refine Kt.sel [1, 3, 4, 11, 26] [_, _, _, _, _] rfl ?_
 refine Wk.condT rfl ?_
 refine Wk.seq ?_
 refine Wk.regionQ ?_
 refine Lq.run 1 rfl ?_
 refine Lq.nil ?_
 refine Kt.sel [10] [_] rfl ?_
 refine Wk.ret (Kt.end1 rfl rfl fun w' hw => ?_)
 -- ret 0: bo_ false
 exact ⟨ret_b (by unfold pebWinB; rw [hr]; rfl), hw.below⟩

theorem iPWin_ok (a b : St) (xs ys : List Int) (va vb : Value) (w : World) (hsa : a.Small) (hsb : b.Small) (hva : Ints w va xs) (hvb : Ints w vb ys) (hs1 : xs.length ≤ 140737488355328) (hs2 : ys.length ≤ 140737488355328) (t : Int) :
    Calls Tryd.prog 25 #[vS a, va, vS b, vb, .int .i64 t] w fun en w' => en = .returned (.bool (pebWinB a xs b ys t)) ∧ Below w.heap.size w w' := by
  cases hr : readyB a xs b ys with
  | true => exact iPWin_yes a b xs ys va vb w hsa hsb hva hvb hs1 hs2 t xs.length rfl hr
  | false => exact iPWin_no a b xs ys va vb w hsa hsb hva hvb hs1 hs2 t hr

end Go.Proofs.YtjcoijejhachhaaDoor
