/-
  Walks: pebbles that fit.
-/
import Derived.Test.YtjcoijejhachhaaDoorPebM
import Derived.Test.YtjcoijejhachhaaDoorBase
namespace Go.Proofs.YtjcoijejhachhaaDoor
open Go.RowKit Go.Wk
set_option linter.unusedSimpArgs false

set_option maxHeartbeats 400000 in
/-- impl.PebblesFit$1$1 -/
theorem neg_ok (x : Int) (w : World) :
    Calls Tryd.prog 75 [i6_ x].toArray w fun en w' => en = .returned (.bool (negB x)) ∧ Below w.heap.size w w' := by
 refine fnStart (n := 5) (e := [(0, i6_ x)]) Tryd.func75 rfl rfl rfl rfl Ends.both ?_
 refine Wk.seq ?_
 refine Wk.regionQ ?_
 refine Lq.run 1 rfl ?_
 refine Lq.nil ?_
 refine Kt.sel [0] [_] rfl ?_
 refine Wk.seq ?_
 refine Wk.regionQ ?_
 refine Lq.run 3 rfl ?_
 refine Lq.nil ?_
 refine Kt.sel [2] [_] rfl ?_
 refine Wk.ret (Kt.end1 rfl rfl fun w' hw => ?_)
 -- ret 0: bo_ (decide (x < (0 : Int)))
 exact ⟨rfl, hw.below⟩

set_option maxHeartbeats 400000 in
/-- slices.DeleteFunc[[]int,int] -/
theorem deleteFunc_ok (B : Nat) (w0 : World) (g cap : Nat) (cur : Array Value) (xs : List Int) (w : World) (hc : cur.size = cap * 1) (hle : xs.length ≤ cap) (ht : cur.toList.take (xs.length * 1) = ints xs) (hs : xs.length ≤ 1000000) (hw : Own B w0 [bk_ g cur 3] w) :
    Calls Tryd.prog 74 [sl_ g xs.length cap, .func (.func 75) #[] #[]].toArray w fun en w' => ∃ cur' : Array Value, en = .returned (.slice (some ⟨g, 0, none⟩) (placed xs xs.length).length cap) ∧ cur'.size = cap * 1 ∧ (placed xs xs.length).length ≤ cap ∧ cur'.toList.take ((placed xs xs.length).length * 1) = ints (placed xs xs.length) ∧ Own B w0 [(g, .cells cur' 3 (0, 0))] w' := by
 refine fnStartC (Own B w0 [bk_ g cur 3]) (n := 42) (e := [(0, sl_ g xs.length cap), (1, .func (.func 75) #[] #[])]) Tryd.func74 rfl rfl rfl rfl Ends.both hw ?_
 refine Wk.seq ?_
 refine Wk.regionQ ?_
 refine Lq.run 1 rfl ?_
 refine Lq.nil ?_
 refine Kt.sel [0, 1] [_, _] rfl ?_
 refine Wk.seq ?_
 refine Wk.regionQ ?_
 refine Lq.run 2 rfl ?_
 refine Lq.op (v := i6_ (idxI xs negB)) rfl rfl rfl (OpQ.call rfl Tryd.call116 rfl Own.stable (fun w1 hw1 => indexFunc_ok (sl_ g xs.length cap) xs w1 (Own.row hw1 (i := 0) rfl (by simpa using ht) (by simp) hle) (by omega) 75 #[] negB Tryd.call75 (fun w2 hb x => neg_ok x w2))) ?_
 refine Lq.run 1 rfl ?_
 refine Lq.nil ?_
 refine Kt.sel [0, 1, 5] [_, _, _] rfl ?_
 refine Wk.seq ?_
 refine Wk.seq ?_
 refine Wk.regionQ ?_
 refine Lq.run 2 rfl ?_
 refine Lq.nil ?_
 refine Kt.sel [0, 1, 5, 12] [_, _, _, _] rfl ?_
 refine Wk.cond (b := decide ((idxI xs negB) = (-1 : Int))) rfl (fun h12 => ?_) (fun h12 => ?_)
 ·
  replace h12 := of_decide_eq_true h12
  refine Wk.seq ?_
  refine Wk.regionQ ?_
  refine Lq.run 2 rfl ?_
  refine Lq.nil ?_
  refine Kt.sel [4] [_] rfl ?_
  refine Wk.ret (Kt.end1 rfl rfl fun w' hw => ?_)
  -- ret 0: sl_ g xs.length cap
  exact ⟨cur, by rw [idx_none h12], hc, by rw [idx_none h12]; exact hle, by rw [idx_none h12]; exact ht, hw⟩
 ·
  replace h12 := of_decide_eq_false h12
  obtain ⟨k0, e0, hk0, hb0, hn0⟩ := idx_neg h12
  have hsw0 := swept_start hk0 hb0 hn0
  refine Wk.skip ?_
  refine Kt.sel [0, 1, 5] [_, _, _] rfl ?_
  refine Wk.seq ?_
  refine Wk.seq ?_
  refine Wk.regionQ ?_
  refine Lq.run 1 rfl ?_
  refine Lq.op rfl rfl rfl (OpQ.add rfl rfl rfl (by omega) (by omega)) ?_
  refine Lq.run 1 rfl ?_
  refine Lq.nil ?_
  refine Kt.sel [0, 1, 5, 6] [_, _, _, _] rfl ?_
  refine Wk.block ?_
  refine Wk.loop (σ := Nat × Array Value × List Int) (fun ⟨j, u, M⟩ => u.size = cap * 1 ∧ u.toList.take (xs.length * 1) = ints M ∧ Swept xs M j) (fun ⟨j, u, M⟩ => [(0, sl_ g xs.length cap), (1, .func (.func 75) #[] #[]), (5, i6_ (((placed xs j).length : Int))), (6, i6_ ((j : Int)))]) (fun ⟨j, u, M⟩ => Own B w0 [bk_ g u 3]) (fun ⟨j, u, M⟩ => xs.length - j) ((k0 + 1, cur, xs)) ⟨hc, ht, hsw0.1⟩ (Sub.cons rfl (Sub.cons rfl (Sub.cons (by rw [hsw0.2]; simp [List.lookup, e0]) (Sub.cons (by simp [List.lookup, e0]) Sub.nil)))) (fun _ h => h) ?_
  rintro ⟨j, u, M⟩ ⟨hc, ht, hsw⟩
  dsimp only
  have hlt := hsw.lt
  have hjl := hsw.jl
  have hMl := hsw.len
  refine Wk.seq ?_
  refine Wk.seq ?_
  refine Wk.regionQ ?_
  refine Lq.run 2 rfl ?_
  refine Lq.op rfl rfl rfl (OpQ.lenS rfl Tryd.runUnderlying24 rfl) ?_
  refine Lq.run 1 rfl ?_
  refine Lq.nil ?_
  refine Kt.sel [0, 1, 5, 6, 19] [_, _, _, _, _] rfl ?_
  refine Wk.cond (b := decide (((j : Int)) < ((xs.length : Int)))) rfl (fun h19 => ?_) (fun h19 => ?_)
  ·
   replace h19 := of_decide_eq_true h19
   refine Wk.skip ?_
   refine Kt.sel [0, 1, 5, 6] [_, _, _, _] rfl ?_
   refine Wk.seq ?_
   refine Wk.block ?_
   refine Wk.seq ?_
   refine Wk.regionQ ?_
   refine Lq.run 2 rfl ?_
   refine Lq.op (v := pf_ g (((j : Int)).toNat)) rfl rfl rfl (OpQ.cast (by rw [Nat.zero_add]) (OpQ.indexAddr1 rfl Tryd.runUnderlying24 Tryd.sizeOf3 rfl rfl (by omega) (by omega))) ?_
   refine Lq.op (v := i6_ (M.getD (((j : Int)).toNat) 0)) rfl rfl rfl (OpQ.loadAt 0 rfl Tryd.isAgg3 rfl rfl (cur_at (by simpa using ht) (ints_at2 (by omega)))) ?_
   refine Lq.run 1 rfl ?_
   refine Lq.nil ?_
   refine Kt.sel [0, 1, 5, 6, 7] [_, _, _, _, _] rfl ?_
   refine Wk.seq ?_
   refine Wk.regionQ ?_
   refine Lq.run 2 rfl ?_
   refine Lq.op (v := bo_ (negB (M.getD (((j : Int)).toNat) 0))) rfl rfl rfl (OpQ.callFn rfl rfl Tryd.call75 rfl Own.stable (fun w1 hw1 => neg_ok (M.getD (((j : Int)).toNat) 0) w1)) ?_
   refine Lq.run 1 rfl ?_
   refine Lq.nil ?_
   refine Kt.sel [0, 1, 5, 6, 7, 29] [_, _, _, _, _, _] rfl ?_
   refine Wk.cond (b := !(negB (M.getD (((j : Int)).toNat) 0))) rfl (fun h29 => ?_) (fun h29 => ?_)
   ·
    replace h29 := not_true h29
    have hneg : ¬ xs.getD j 0 < 0 := by
     rw [← hsw.at]; simpa [negB] using h29
    refine Wk.seq ?_
    refine Wk.region ?_
    refine Ll.run 3 rfl ?_
    refine Ll.op (v := pf_ g ((((placed xs j).length : Int)).toNat)) rfl rfl rfl (OpQ.cast (by rw [Nat.zero_add]) (OpQ.indexAddr1 rfl Tryd.runUnderlying24 Tryd.sizeOf3 rfl rfl (by omega) (by omega))) ?_
    refine Ll.store1 (v := i6_ (M.getD (((j : Int)).toNat) 0)) (hs' := [bk_ g ((u.setIfInBounds ((((placed xs j).length : Int)).toNat) (i6_ (M.getD (((j : Int)).toNat) 0)))) 3]) 0 rfl rfl rfl rfl rfl rfl Tryd.sizeOf3 rfl (by rw [hc]; omega) rfl ?_
    refine Ll.nil ?_
    refine Kt.sel [0, 1, 5, 6] [_, _, _, _] rfl ?_
    refine Wk.regionQ ?_
    refine Lq.run 1 rfl ?_
    refine Lq.op rfl rfl rfl (OpQ.add rfl rfl rfl (by omega) (by omega)) ?_
    refine Lq.run 1 rfl ?_
    refine Lq.nil ?_
    refine Kt.sel [0, 1, 5, 6] [_, _, _, _] rfl ?_
    refine Wk.regionQ ?_
    refine Lq.run 1 rfl ?_
    refine Lq.op rfl rfl rfl (OpQ.add rfl rfl rfl (by omega) (by omega)) ?_
    refine Lq.run 1 rfl ?_
    refine Lq.nil ?_
    refine Kt.again ((j + 1, (u.setIfInBounds ((((placed xs j).length : Int)).toNat) (i6_ (M.getD (((j : Int)).toNat) 0))), M.set (placed xs j).length (xs.getD j 0))) ⟨by simpa using hc, by dsimp only; rw [← hsw.at]; exact set_takeI ht, hsw.keep (by omega) hneg⟩ (by omega) (Sub.cons rfl (Sub.cons rfl (Sub.cons (by rw [placed_pos hneg, List.length_append]; simp [List.lookup]) (Sub.cons (by simp [List.lookup]) Sub.nil)))) (fun _ h => by rw [← hsw.at]; exact h)
   ·
    replace h29 := not_false h29
    have hneg : xs.getD j 0 < 0 := by
     rw [← hsw.at]; simpa [negB] using h29
    refine Wk.skip ?_
    refine Kt.sel [0, 1, 5, 6] [_, _, _, _] rfl ?_
    refine Wk.regionQ ?_
    refine Lq.run 1 rfl ?_
    refine Lq.op rfl rfl rfl (OpQ.add rfl rfl rfl (by omega) (by omega)) ?_
    refine Lq.run 1 rfl ?_
    refine Lq.nil ?_
    refine Kt.again ((j + 1, u, M)) ⟨hc, ht, hsw.skip (by omega) hneg⟩ (by omega) (Sub.cons rfl (Sub.cons rfl (Sub.cons (by rw [placed_neg hneg]; rfl) (Sub.cons (by simp [List.lookup]) Sub.nil)))) (fun _ h => h)
  ·
   replace h19 := of_decide_eq_false h19
   have hjx : j = xs.length := by omega
   refine Wk.exit rfl ?_
   refine Kt.sel [0, 5] [_, _] rfl ?_
   refine Wk.seq ?_
   refine Wk.region ?_
   refine Ll.run 2 rfl ?_
   refine Ll.op (v := .slice (some ⟨g, (((placed xs j).length : Int)).toNat, none⟩) (xs.length - (((placed xs j).length : Int)).toNat) (cap - (((placed xs j).length : Int)).toNat)) rfl rfl rfl (OpQ.dropS rfl Tryd.runUnderlying24 Tryd.sizeOf3 rfl rfl (by omega) (by omega) (by omega)) ?_
   refine Ll.clearTail 0 rfl rfl rfl Tryd.underlying24 Tryd.zeroValue3 rfl rfl rfl rfl (by omega) (by omega) fun v_cl hzv_cl hkv_cl => ?_
   show Ll _ _ (Own _ _ [_]) _ _ _ _ _ _
   refine Ll.nil ?_
   refine Kt.sel [0, 5] [_, _] rfl ?_
   refine Wk.seq ?_
   refine Wk.regionQ ?_
   refine Lq.run 2 rfl ?_
   refine Lq.op (v := sl_ g ((((placed xs j).length : Int)).toNat) cap) rfl rfl rfl (OpQ.takeS (i := ((placed xs j).length : Int)) rfl Tryd.runUnderlying24 Tryd.sizeOf3 rfl rfl (by omega) (by omega)) ?_
   refine Lq.run 1 rfl ?_
   refine Lq.nil ?_
   refine Kt.sel [4] [_] rfl ?_
   refine Wk.ret (Kt.end1 rfl rfl fun w' hw => ?_)
   -- ret 1: sl_ g ((((placed xs j).length : Int)).toNat) cap
   subst hjx
   have hcl : v_cl.toList.take (placed xs xs.length).length = u.toList.take (placed xs xs.length).length := by simpa using hkv_cl
   have hpr : u.toList.take (placed xs xs.length).length = ints (placed xs xs.length) := by
    have h9 := congrArg (List.take (placed xs xs.length).length) ht
    rw [Nat.mul_one, List.take_take, Nat.min_eq_left (by omega)] at h9
    rw [h9]
    have h8 := congrArg ints hsw.head
    rw [← h8]; simp [ints, List.map_take]
   exact ⟨v_cl, rfl, hzv_cl.trans hc, by omega, by rw [Nat.mul_one, hcl, hpr], hw⟩

set_option maxHeartbeats 400000 in
/-- impl.PebblesFit$1 -/
theorem lying_ok (va : Value) (xs : List Int) (w : World) (hva : Ints w va xs) (hs : xs.length ≤ 1000) :
    Calls Tryd.prog 73 [va].toArray w fun en w' => ∃ v, en = .returned v ∧ Below w.heap.size w w' ∧ NewRow w.heap.size 3 1 w' v (placed xs xs.length).length (ints (placed xs xs.length)) := by
 refine fnStart (n := 7) (e := [(0, va)]) Tryd.func73 rfl rfl rfl rfl Ends.both ?_
 refine Wk.seq ?_
 refine Wk.regionQ ?_
 refine Lq.run 1 rfl ?_
 refine Lq.nil ?_
 refine Kt.sel [0] [_] rfl ?_
 refine Wk.seq ?_
 refine Wk.region ?_
 refine Ll.slice (xs := []) (vs := []) Base.elem24 rfl rfl rfl rfl rfl rfl (by decide) rfl fun p3 hp3 => ?_
 refine Ll.run 1 rfl ?_
 refine Ll.appendInts (xs := []) (ys := xs) Base.elem24 0 rfl rfl rfl rfl rfl rfl rfl rfl (by decide) rfl (fun w1 hw1 => (Row.own hva hw1)) ((xs).length) (by first | (simp; done) | (simp; omega)) (by first | (simp; done) | (simp; omega) | omega) fun p5 cap5 cur5 hp5 hcp5 hlp5 htp5 => ?_
 show Ll _ _ (Own _ _ [_]) _ _ ((5, sl_ p5 (((xs).length)) cap5) :: _) _ _ _
 refine Ll.callTo (xs := [.tmp 5, .func 75]) (v := .slice (some ⟨p5, 0, none⟩) (placed xs xs.length).length cap5) (ok := fun u : Array Value => u.size = cap5 * 1 ∧ (placed xs xs.length).length ≤ cap5 ∧ u.toList.take ((placed xs xs.length).length * 1) = ints (placed xs xs.length)) (hs' := fun u : Array Value => [(p5, .cells u 3 (0, 0))]) rfl rfl rfl rfl Tryd.call74 rfl (fun w1 hw1 => (deleteFunc_ok _ _ p5 cap5 cur5 xs w1 hcp5 hlp5 (by simpa using htp5) (by first | omega | (simp; omega)) hw1).mono fun en w' ⟨c, h1, h2, h3, h4, h5⟩ => ⟨c, h1, ⟨h2, h3, h4⟩, h5⟩) fun w_dl ⟨hcw_dl, hlw_dl, htw_dl⟩ => ?_
 show Ll _ _ (Own _ _ [_]) _ _ _ _ _ _
 refine Ll.run 1 rfl ?_
 refine Ll.nil ?_
 refine Kt.sel [2] [_] rfl ?_
 refine Wk.ret (Kt.end1 rfl rfl fun w' hw => ?_)
 -- ret 0: sl_ p5 ((placed xs xs.length).length) cap5
 exact ⟨_, rfl, hw.below, hw.newRow (i := 0) (n := _) rfl hcw_dl hlw_dl htw_dl⟩

set_option maxHeartbeats 400000 in
/-- impl.PebblesFit -/
theorem iFit_ok (a b : St) (xs ys : List Int) (va vb : Value) (w : World) (hsa : a.Small) (hsb : b.Small) (hva : Ints w va xs) (hvb : Ints w vb ys) (hs1 : xs.length ≤ 140737488355328) (hs2 : ys.length ≤ 140737488355328) :
    Calls Tryd.prog 33 [vS a, va, vS b, vb].toArray w fun en w' => en = .returned (.bool (fitB a xs b ys)) ∧ Below w.heap.size w w' := by
 refine fnStart (n := 25) (e := [(0, vS a), (1, va), (2, vS b), (3, vb)]) Tryd.func33 rfl rfl rfl rfl Ends.both ?_
 refine Wk.seq ?_
 refine Wk.region ?_
 refine Ll.box (v := vS a) rfl rfl rfl rfl rfl fun p4 hp4 => ?_
 show Ll _ _ (Own _ _ [_]) _ _ ((4, pt_ p4) :: _) _ _ _
 refine Ll.box (v := vS b) rfl rfl rfl rfl rfl fun p6 hp6 => ?_
 show Ll _ _ (Own _ _ [_, _]) _ _ ((6, pt_ p6) :: _) _ _ _
 refine Ll.run 1 rfl ?_
 refine Ll.nil ?_
 refine Kt.sel [1, 3, 4, 6] [_, _, _, _] rfl ?_
 refine Wk.seq ?_
 refine Wk.seq ?_
 refine Wk.regionQ ?_
 refine Lq.op rfl rfl rfl (OpQ.loadBox (cs := #[i6_ a.n, str a.set, str a.rel]) 1 rfl Tryd.isAgg28 rfl rfl Tryd.sizeOf28) ?_
 refine Lq.run 1 rfl ?_
 refine Lq.op rfl rfl rfl (OpQ.loadBox (cs := #[i6_ b.n, str b.set, str b.rel]) 0 rfl Tryd.isAgg28 rfl rfl Tryd.sizeOf28) ?_
 refine Lq.run 1 rfl ?_
 refine Lq.op (v := bo_ (readyB a xs b ys)) rfl rfl rfl (OpQ.call rfl Tryd.call72 rfl Own.stable (fun w1 hw1 => areReady_ok a b xs ys va vb w1 hsa hsb (Row.own hva hw1) (Row.own hvb hw1) (by first | (simp; done) | (simp; omega) | omega) (by first | (simp; done) | (simp; omega) | omega))) ?_
 refine Lq.run 1 rfl ?_
 refine Lq.nil ?_
 refine Kt.sel [1, 3, 4, 6, 15] [_, _, _, _, _] rfl ?_
 refine Wk.cond (b := !(readyB a xs b ys)) rfl (fun h15 => ?_) (fun h15 => ?_)
 ·
  replace h15 := not_true h15
  refine Wk.seq ?_
  refine Wk.regionQ ?_
  refine Lq.run 1 rfl ?_
  refine Lq.nil ?_
  refine Kt.sel [8] [_] rfl ?_
  refine Wk.ret (Kt.end1 rfl rfl fun w' hw => ?_)
  -- ret 0: bo_ false
  exact ⟨ret_b (by unfold fitB; simp_all), hw.below⟩
 ·
  replace h15 := not_false h15
  replace h15 : readyB a xs b ys = true := by simpa using h15
  obtain ⟨Pa, Pb, hlen, hsg⟩ := readyB_true h15
  have ha := Pa.fine
  have hb := Pb.fine
  have h3 := Pa.hi
  have h4 := Pb.hi
  have hA := placed_els (n := xs.length) (Nat.le_refl _) Pa.top
  have hB := placed_els (n := ys.length) (Nat.le_refl _) Pb.top
  have hpl := placed_le xs xs.length
  have hpe : (placed xs xs.length).length = (placed ys ys.length).length := by
   rw [← hlen]; exact placed_len _ (signsB_true hsg)
  refine Wk.skip ?_
  refine Kt.sel [1, 3, 4, 6] [_, _, _, _] rfl ?_
  refine Wk.seq ?_
  refine Wk.regionQ ?_
  refine Lq.run 1 rfl ?_
  refine Lq.nil ?_
  refine Kt.sel [1, 3, 4, 6, 9] [_, _, _, _, _] rfl ?_
  refine Wk.seq ?_
  refine Wk.regionO [(0, true), (1, true), (2, true), (4, true), (5, true), (6, true), (3, false), (7, false), (8, false), (9, true)] Base.mixed (fun _ h => h.drawn) (by kernel_rfl) ?_
  refine Ld.take rfl rfl rfl rfl rfl (OpQ.loadBox (cs := #[i6_ a.n, str a.set, str a.rel]) 1 rfl Tryd.isAgg28 rfl rfl Tryd.sizeOf28) (fun _ h => h) ?_
  refine Ld.run 2 rfl (fun _ h => h) ?_
  refine Ld.take rfl rfl rfl rfl rfl (OpQ.loadBox (cs := #[i6_ b.n, str b.set, str b.rel]) 0 rfl Tryd.isAgg28 rfl rfl Tryd.sizeOf28) (fun _ h => h) ?_
  refine Ld.run 2 rfl (fun _ h => h) ?_
  refine Ld.loud rfl ?_
  refine Ll.callFnRow (xs := [.tmp 18]) (m := (placed xs xs.length).length) (vs := ints (placed xs xs.length)) (el := 3) (size := 1) rfl rfl rfl rfl rfl Tryd.call73 rfl (fun w1 hw1 => lying_ok va xs w1 (Row.own hva hw1) (by omega)) fun p19 cap19 cur19 hp19 hcp19 hlp19 htp19 => ?_
  refine Ll.nil (Ld.joint (fun _ h => h.tail) ?_)
  refine Ld.loud rfl ?_
  refine Ll.callFnRow (xs := [.tmp 22]) (m := (placed ys ys.length).length) (vs := ints (placed ys ys.length)) (el := 3) (size := 1) rfl rfl rfl rfl rfl Tryd.call73 rfl (fun w1 hw1 => lying_ok vb ys w1 (Row.own hvb hw1) (by omega)) fun p23 cap23 cur23 hp23 hcp23 hlp23 htp23 => ?_
  refine Ll.nil (Ld.joint (fun _ h => h.tail.tail) ?_)
  refine Ld.loud rfl ?_
  refine Ll.op (v := bo_ (sameB a (placed xs xs.length) b (placed ys ys.length))) rfl rfl rfl (OpQ.call rfl Tryd.call76 rfl Own.stable (fun w1 hw1 => sameWay_ok a b (placed xs xs.length) (placed ys ys.length) (sl_ p19 ((placed xs xs.length).length) cap19) (sl_ p23 ((placed ys ys.length).length) cap23) w1 ha hb (Own.row hw1 (i := 1) rfl (by simpa using htp19) (by simp) hlp19) (Own.row hw1 (i := 0) rfl (by simpa using htp23) (by simp) hlp23) hA hB hpe (by omega))) ?_
  refine Ll.nil (Ld.joint (fun _ h => h.tail.tail) ?_)
  refine Ld.run 1 rfl (fun _ h => h.tail.tail) ?_
  refine Ld.nil ?_
  refine Kt.sel [8] [_] rfl ?_
  refine Wk.ret (Kt.end1 rfl rfl fun w' hw => ?_)
  -- ret 1: bo_ (sameB a (placed xs xs.length) b (placed ys ys.length))
  exact ⟨ret_b (by unfold fitB; rw [h15]; rfl), hw.below⟩

end Go.Proofs.YtjcoijejhachhaaDoor
