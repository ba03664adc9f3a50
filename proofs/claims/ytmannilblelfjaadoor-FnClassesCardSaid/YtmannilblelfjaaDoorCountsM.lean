/-
  Walks: classes counted.
-/
import Derived.Test.YtmannilblelfjaaDoorCore4
import Derived.Test.YtmannilblelfjaaDoorKindsM
import Derived.Test.YtmannilblelfjaaDoorGamesM
import Derived.Test.YtmannilblelfjaaDoorBase
namespace Go.Proofs.YtmannilblelfjaaDoor
open Go.RowKit Go.Wk
set_option linter.unusedSimpArgs false

set_option maxHeartbeats 400000 in
/-- impl.CountClasses$1 -/
theorem cc1_ok (a : St) (g h p gL cap T1 T2 T3 : Nat) (cur : Array Value) (rr : List RR) (r : Int) (wd y x : Nat) (w : World) (hg : w.heap[g]? = some (.cells #[.int .i64 a.n, str a.set, str a.rel] T1 (0, 0))) (hh : w.heap[h]? = some (.cells #[.int .i64 r] T2 (0, 0))) (hp : w.heap[p]? = some (.cells #[.slice (some ⟨gL, 0, none⟩) rr.length cap] T3 (0, 0))) (hL : w.heap[gL]? = some (.cells cur 25 (0, 0))) (hR : RowsOk rr cur cap) (hX : rr.map RR.xs = listsL a.n.toNat wd) (hrow : ∀ e ∈ rr, w.heap[e.g]? = some (.cells e.cur 3 (0, 0))) (ha : a.Fine) (h0 : 0 ≤ r) (h3 : r ≤ 3) (hwd : wd ≤ 3) (hyl : y < rr.length) (hxl : x < rr.length) :
    Calls Tryd.prog 100 [i6_ ((y : Int)), i6_ ((x : Int)), .pointer (some ⟨g, 0, none⟩), .pointer (some ⟨p, 0, none⟩), .pointer (some ⟨h, 0, none⟩)].toArray w fun en w' => en = .returned (.bool (winB r.toNat a (rr.getD y rd).xs a (rr.getD x rd).xs)) ∧ Below w.heap.size w w' := by
 refine fnStart (n := 20) (e := [(0, i6_ ((y : Int))), (1, i6_ ((x : Int))), (2, .pointer (some ⟨g, 0, none⟩)), (3, .pointer (some ⟨p, 0, none⟩)), (4, .pointer (some ⟨h, 0, none⟩))]) Tryd.func100 rfl rfl rfl rfl Ends.both ?_
 have hry := row_in hR.ok hrow hyl
 have hrx := row_in hR.ok hrow hxl
 have hm1 := ha.lo
 have hyp := rows_point (by omega) hX hyl
 have hxp := rows_point (by omega) hX hxl
 have hyn : (rr.getD y rd).xs.length = wd := by rw [hyp, pointL_length]
 have hxn : (rr.getD x rd).xs.length = wd := by rw [hxp, pointL_length]
 refine Wk.seq ?_
 refine Wk.regionQ ?_
 refine Lq.run 1 rfl ?_
 refine Lq.nil ?_
 refine Kt.sel [0, 1, 2, 3, 4] [_, _, _, _, _] rfl ?_
 refine Wk.seq ?_
 refine Wk.regionD Base.mixed (fun _ h => h.drawn) (by kernel_rfl) ?_
 refine Lq.op (v := vS a) rfl rfl rfl (OpQ.loadN (cs := #[i6_ a.n, str a.set, str a.rel]) rfl Tryd.isAgg24 Tryd.sizeOf24 rfl (fun w1 hw1 j v hj => box_cells hg hw1 j v hj)) ?_
 refine Lq.op (v := sl_ gL rr.length cap) rfl rfl rfl (OpQ.load1 rfl Tryd.isAgg79 rfl (fun w1 hw1 => by have := box_cells hp hw1 0 (sl_ gL rr.length cap) rfl; rwa [Addr.add_lit] at this)) ?_
 refine Lq.run 1 rfl ?_
 refine Lq.op (v := pf_ gL y) rfl rfl rfl (OpQ.cast (v' := pf_ gL y) (by simp) (OpQ.indexAddr1 (i := (y : Int)) rfl Tryd.runUnderlying79 Tryd.sizeOf25 rfl rfl (by omega) (by omega))) ?_
 refine Lq.op (v := rv (rr.getD y rd)) rfl rfl rfl (OpQ.load1 rfl Tryd.isAgg25 rfl (fun w1 hw1 => by have := box_cells hL hw1 y (rv (rr.getD y rd)) (by have := rvs_at (rr := rr) (i := y) hyl; rw [← hR.vals, List.getElem?_take, if_pos hyl] at this; exact this); rwa [Addr.add_lit, Nat.zero_add] at this)) ?_
 refine Lq.op (v := vS a) rfl rfl rfl (OpQ.loadN (cs := #[i6_ a.n, str a.set, str a.rel]) rfl Tryd.isAgg24 Tryd.sizeOf24 rfl (fun w1 hw1 j v hj => box_cells hg hw1 j v hj)) ?_
 refine Lq.op (v := sl_ gL rr.length cap) rfl rfl rfl (OpQ.load1 rfl Tryd.isAgg79 rfl (fun w1 hw1 => by have := box_cells hp hw1 0 (sl_ gL rr.length cap) rfl; rwa [Addr.add_lit] at this)) ?_
 refine Lq.run 1 rfl ?_
 refine Lq.op (v := pf_ gL x) rfl rfl rfl (OpQ.cast (v' := pf_ gL x) (by simp) (OpQ.indexAddr1 (i := (x : Int)) rfl Tryd.runUnderlying79 Tryd.sizeOf25 rfl rfl (by omega) (by omega))) ?_
 refine Lq.op (v := rv (rr.getD x rd)) rfl rfl rfl (OpQ.load1 rfl Tryd.isAgg25 rfl (fun w1 hw1 => by have := box_cells hL hw1 x (rv (rr.getD x rd)) (by have := rvs_at (rr := rr) (i := x) hxl; rw [← hR.vals, List.getElem?_take, if_pos hxl] at this; exact this); rwa [Addr.add_lit, Nat.zero_add] at this)) ?_
 refine Lq.op (v := i6_ r) rfl rfl rfl (OpQ.load1 rfl Tryd.isAgg3 rfl (fun w1 hw1 => by have := box_cells hh hw1 0 (i6_ r) rfl; rwa [Addr.add_lit] at this)) ?_
 refine Lq.op (v := bo_ (winB r.toNat a ((rr.getD y rd).xs) a ((rr.getD x rd).xs))) rfl rfl rfl (OpQ.call rfl Tryd.call81 rfl Own.stable (fun w1 hw1 => wins_ok a a ((rr.getD y rd).xs) ((rr.getD x rd).xs) (rv (rr.getD y rd)) (rv (rr.getD x rd)) w1 ha ha (Row.own hry hw1) (Row.own hrx hw1) (by rw [hyp]; exact point_els ha _ _) (by rw [hxp]; exact point_els ha _ _) (by omega) (by omega) r (by omega) (by omega))) ?_
 refine Lq.run 1 rfl ?_
 refine Lq.nil ?_
 refine Kt.sel [7] [_] rfl ?_
 refine Wk.ret (Kt.end1 rfl rfl fun w' hw => ?_)
 -- ret 0: bo_ (winB r.toNat a ((rr.getD y rd).xs) a ((rr.getD x rd).xs))
 exact ⟨rfl, hw.below⟩

set_option maxHeartbeats 400000 in
/-- slices.Max[[]int,int] -/
theorem slMax_ok (va : Value) (xs : List Int) (w : World) (hva : Ints w va xs) (hne : 0 < xs.length) (hs : xs.length ≤ 100000) :
    Calls Tryd.prog 98 [va].toArray w fun en w' => en = .returned (.int .i64 (maxTo xs (xs.length - 1))) ∧ Below w.heap.size w w' := by
 refine fnStart (n := 25) (e := [(0, va)]) Tryd.func98 rfl rfl rfl rfl Ends.both ?_
 refine Wk.seq ?_
 refine Wk.regionQ ?_
 refine Lq.run 1 rfl ?_
 refine Lq.nil ?_
 refine Kt.sel [0] [_] rfl ?_
 refine Wk.seq ?_
 refine Wk.seq ?_
 refine Wk.regionQ ?_
 refine Lq.run 1 rfl ?_
 refine Lq.op (v := i6_ ((xs.length : Int))) rfl rfl rfl (OpQ.lenRow rfl Tryd.runUnderlying25 rfl (ints_length _) (fun w1 hw1 => Row.own hva hw1)) ?_
 refine Lq.run 1 rfl ?_
 refine Lq.nil ?_
 refine Kt.sel [0, 7] [_, _] rfl ?_
 refine Wk.cond (b := decide (((xs.length : Int)) < (1 : Int))) rfl (fun h7 => ?_) (fun h7 => ?_)
 ·
  replace h7 := of_decide_eq_true h7
  omega
 ·
  replace h7 := of_decide_eq_false h7
  refine Wk.skip ?_
  refine Kt.sel [0] [_] rfl ?_
  refine Wk.seq ?_
  refine Wk.regionQ ?_
  refine Lq.run 1 rfl ?_
  refine Lq.op (v := .pointer (some (sAt va 0))) rfl rfl rfl (OpQ.atRow rfl Tryd.runUnderlying25 Tryd.sizeOf3 rfl rfl (by omega) (by rw [ints_length]; omega) (fun w1 hw1 => Row.own hva hw1)) ?_
  refine Lq.op (v := i6_ (xs.getD ((0 : Int).toNat) 0)) rfl rfl rfl (OpQ.load1 rfl Tryd.isAgg3 rfl (fun w1 hw1 => Ints.cell (Row.own hva hw1) (by omega) (by omega))) ?_
  refine Lq.run 1 rfl ?_
  refine Lq.nil ?_
  refine Kt.sel [0, 3] [_, _] rfl ?_
  refine Wk.seq ?_
  refine Wk.seq ?_
  refine Wk.regionQ ?_
  refine Lq.run 1 rfl ?_
  refine Lq.nil ?_
  refine Kt.sel [0, 3, 4] [_, _, _] rfl ?_
  refine Wk.block ?_
  refine Wk.loop (σ := Nat) (fun k => k + 1 ≤ xs.length) (fun k => [(0, va), (3, i6_ (maxTo xs k)), (4, i6_ ((k : Int) + 1))]) (fun k => Own w.heap.size w []) (fun k => xs.length - k) (0) (by omega) (Sub.cons rfl (Sub.cons rfl (Sub.cons rfl Sub.nil))) (fun _ h => h) ?_
  rintro k hk
  refine Wk.seq ?_
  refine Wk.seq ?_
  refine Wk.regionQ ?_
  refine Lq.run 2 rfl ?_
  refine Lq.op (v := i6_ ((xs.length : Int))) rfl rfl rfl (OpQ.lenRow rfl Tryd.runUnderlying25 rfl (ints_length _) (fun w1 hw1 => Row.own hva hw1)) ?_
  refine Lq.run 1 rfl ?_
  refine Lq.nil ?_
  refine Kt.sel [0, 3, 4, 15] [_, _, _, _] rfl ?_
  refine Wk.cond (b := decide (((k : Int) + 1) < ((xs.length : Int)))) rfl (fun h15 => ?_) (fun h15 => ?_)
  ·
   replace h15 := of_decide_eq_true h15
   refine Wk.skip ?_
   refine Kt.sel [0, 3, 4] [_, _, _] rfl ?_
   refine Wk.seq ?_
   refine Wk.block ?_
   refine Wk.regionQ ?_
   refine Lq.run 3 rfl ?_
   refine Lq.op (v := .pointer (some (sAt va ((k : Int) + 1)))) rfl rfl rfl (OpQ.atRow rfl Tryd.runUnderlying25 Tryd.sizeOf3 rfl rfl (by omega) (by rw [ints_length]; omega) (fun w1 hw1 => Row.own hva hw1)) ?_
   refine Lq.op (v := i6_ (xs.getD (k + 1) 0)) rfl rfl rfl (OpQ.cast (by rw [show ((k : Int) + 1).toNat = k + 1 from by omega]) (OpQ.load1 rfl Tryd.isAgg3 rfl (fun w1 hw1 => Ints.cell (Row.own hva hw1) (by omega) (by omega)))) ?_
   refine Lq.op (v := i6_ (if (xs.getD (k + 1) 0) > (maxTo xs k) then (xs.getD (k + 1) 0) else (maxTo xs k))) rfl rfl rfl (OpQ.max2 rfl rfl rfl) ?_
   refine Lq.run 1 rfl ?_
   refine Lq.nil ?_
   refine Kt.sel [0, 3, 4] [_, _, _] rfl ?_
   refine Wk.regionQ ?_
   refine Lq.run 1 rfl ?_
   refine Lq.op rfl rfl rfl (OpQ.add rfl rfl rfl (by omega) (by omega)) ?_
   refine Lq.run 1 rfl ?_
   refine Lq.nil ?_
   refine Kt.again (k + 1) (by omega) (by omega) (Sub.cons rfl (Sub.cons (by rw [maxTo]; rfl) (Sub.cons (by simp [List.lookup]) Sub.nil))) (fun _ h => h)
  ·
   replace h15 := of_decide_eq_false h15
   refine Wk.exit rfl ?_
   refine Kt.sel [3] [_] rfl ?_
   refine Wk.seq ?_
   refine Wk.regionQ ?_
   refine Lq.run 2 rfl ?_
   refine Lq.nil ?_
   refine Kt.sel [2] [_] rfl ?_
   refine Wk.ret (Kt.end1 rfl rfl fun w' hw => ?_)
   -- ret 0: i6_ (maxTo xs k)
   exact ⟨ret_i (by rw [show xs.length - 1 = k from by omega]), hw.below⟩

set_option maxHeartbeats 400000 in
/-- impl.classesBy -/
theorem classesBy_ok (N : Int) (w : World) (hN : N ≤ 100000) (F : FuncId) (caps : Array Value) (q : Nat → Nat → Bool) (hF : ∀ args w, (callFunc F args).run Tryd.prog w = .ok (.enter F args) w) (hq : ∀ w1, Below w.heap.size w w1 → ∀ y x : Nat, y < N.toNat → x < N.toNat → Calls Tryd.prog F (#[.int .i64 y, .int .i64 x] ++ caps) w1 fun en w' => en = .returned (.bool (q y x)) ∧ Below w1.heap.size w1 w') :
    Calls Tryd.prog 99 [i6_ N, .func (.func F) #[] caps].toArray w fun en w' => ∃ v, en = .returned v ∧ Below w.heap.size w w' ∧ NewRow w.heap.size 3 1 w' v (clsN q N.toNat).1.length (ints (clsN q N.toNat).1) := by
 refine fnStart (n := 39) (e := [(0, i6_ N), (1, .func (.func F) #[] caps)]) Tryd.func99 rfl rfl rfl rfl Ends.both ?_
 refine Wk.seq ?_
 refine Wk.regionQ ?_
 refine Lq.run 1 rfl ?_
 refine Lq.nil ?_
 refine Kt.sel [0, 1] [_, _] rfl ?_
 refine Wk.seq ?_
 refine Wk.region ?_
 refine Ll.slice (xs := []) (vs := []) Base.elem25 rfl rfl rfl rfl rfl rfl (by decide) rfl fun p10 hp10 => ?_
 refine Ll.run 1 rfl ?_
 refine Ll.nil ?_
 refine Kt.sel [0, 1, 5] [_, _, _] rfl ?_
 refine Wk.seq ?_
 refine Wk.regionQ ?_
 refine Lq.run 1 rfl ?_
 refine Lq.nil ?_
 refine Kt.sel [0, 1, 5, 6] [_, _, _, _] rfl ?_
 refine Wk.seq ?_
 refine Wk.seq ?_
 refine Wk.regionQ ?_
 refine Lq.run 2 rfl ?_
 refine Lq.nil ?_
 refine Kt.sel [1, 5, 6, 11, 12] [_, _, _, _, _] rfl ?_
 refine Wk.block ?_
 refine Wk.loop (σ := Nat × Nat × Nat × Array Value) (fun ⟨x, g, c, cur⟩ => x ≤ N.toNat ∧ cur.size = c * 1 ∧ (clsN q x).1.length ≤ c ∧ cur.toList.take (clsN q x).1.length = ints (clsN q x).1) (fun ⟨x, g, c, cur⟩ => [(1, .func (.func F) #[] caps), (5, sl_ g ((clsN q x).1.length) c), (6, i6_ (((clsN q x).2 : Int))), (11, i6_ N), (12, i6_ ((x : Int)))]) (fun ⟨x, g, c, cur⟩ => Own w.heap.size w [bk_ g cur 3]) (fun ⟨x, g, c, cur⟩ => N.toNat - x) ((0, p10, 0, #[])) ⟨by omega, rfl, Nat.le_refl 0, rfl⟩ (Sub.sel [1, 5, 6, 11, 12] rfl) (fun _ h => h) ?_
 rintro ⟨x, g, c, cur⟩ ⟨hx, hc, hle, ht⟩
 dsimp only
 have hxl := cls_length q x
 have hxs := (cls_small q x).1
 refine Wk.seq ?_
 refine Wk.regionQ ?_
 refine Lq.run 1 rfl ?_
 refine Lq.nil ?_
 refine Kt.sel [1, 5, 6, 11, 12, 13] [_, _, _, _, _, _] rfl ?_
 refine Wk.seq ?_
 refine Wk.cond (b := decide (((x : Int)) < N)) rfl (fun h13 => ?_) (fun h13 => ?_)
 ·
  replace h13 := of_decide_eq_true h13
  refine Wk.skip ?_
  refine Kt.sel [1, 5, 6, 11, 12] [_, _, _, _, _] rfl ?_
  refine Wk.seq ?_
  refine Wk.block ?_
  refine Wk.seq ?_
  refine Wk.regionQ ?_
  refine Lq.run 2 rfl ?_
  refine Lq.nil ?_
  refine Kt.sel [1, 5, 6, 7, 11, 12] [_, _, _, _, _, _] rfl ?_
  refine Wk.seq ?_
  refine Wk.regionQ ?_
  refine Lq.run 1 rfl ?_
  refine Lq.nil ?_
  refine Kt.sel [1, 5, 6, 7, 8, 11, 12] [_, _, _, _, _, _, _] rfl ?_
  refine Wk.seq ?_
  refine Wk.seq ?_
  refine Wk.regionQ ?_
  refine Lq.run 2 rfl ?_
  refine Lq.nil ?_
  refine Kt.sel [1, 5, 6, 7, 8, 11, 12, 15, 16] [_, _, _, _, _, _, _, _, _] rfl ?_
  refine Wk.block ?_
  refine Wk.loop (σ := Nat) (fun y => y ≤ x ∧ ∀ i : Nat, i < y → q i x = false) (fun y => [(1, .func (.func F) #[] caps), (5, sl_ g ((clsN q x).1.length) c), (6, i6_ (((clsN q x).2 : Int))), (7, i6_ ((x : Int))), (8, i6_ (-1)), (11, i6_ N), (12, i6_ ((x : Int))), (15, i6_ ((x : Int))), (16, i6_ ((y : Int)))]) (fun y => Own w.heap.size w [bk_ g cur 3]) (fun y => x - y) (0) ⟨by omega, fun i hi => absurd hi (by omega)⟩ (Sub.sel [1, 5, 6, 7, 8, 11, 12, 15, 16] rfl) (fun _ h => h) ?_
  rintro y ⟨hy, hall2⟩
  refine Wk.seq ?_
  refine Wk.regionQ ?_
  refine Lq.run 1 rfl ?_
  refine Lq.nil ?_
  refine Kt.sel [1, 5, 6, 7, 8, 11, 12, 15, 16, 17] [_, _, _, _, _, _, _, _, _, _] rfl ?_
  refine Wk.seq ?_
  refine Wk.cond (b := decide (((y : Int)) < ((x : Int)))) rfl (fun h17 => ?_) (fun h17 => ?_)
  ·
   replace h17 := of_decide_eq_true h17
   refine Wk.skip ?_
   refine Kt.sel [1, 5, 6, 7, 8, 11, 12, 15, 16] [_, _, _, _, _, _, _, _, _] rfl ?_
   refine Wk.seq ?_
   refine Wk.block ?_
   refine Wk.seq ?_
   refine Wk.regionQ ?_
   refine Lq.run 2 rfl ?_
   refine Lq.nil ?_
   refine Kt.sel [1, 5, 6, 7, 8, 9, 11, 12, 15, 16] [_, _, _, _, _, _, _, _, _, _] rfl ?_
   refine Wk.seq ?_
   refine Wk.regionQ ?_
   refine Lq.run 3 rfl ?_
   refine Lq.op (v := bo_ (q y x)) rfl rfl rfl (OpQ.callFn rfl rfl hF rfl Own.stable (fun w1 hw1 => hq w1 hw1.below y x (by omega) (by omega))) ?_
   refine Lq.nil ?_
   refine Kt.sel [1, 5, 6, 7, 8, 9, 11, 12, 15, 16, 22] [_, _, _, _, _, _, _, _, _, _, _] rfl ?_
   refine Wk.cond (b := q y x) rfl (fun h22 => ?_) (fun h22 => ?_)
   ·
    have hyx : y < x := by omega
    have hyn := cls_at (q := q) hyx
    refine Wk.seq ?_
    refine Wk.regionQ ?_
    refine Lq.run 2 rfl ?_
    refine Lq.op (v := pf_ g y) rfl rfl rfl (OpQ.cast (v' := pf_ g y) (by simp) (OpQ.indexAddr1 (i := (y : Int)) rfl Tryd.runUnderlying25 Tryd.sizeOf3 rfl rfl (by omega) (by omega))) ?_
    refine Lq.op (v := i6_ ((clsN q x).1.getD (y) 0)) rfl rfl rfl (OpQ.loadAt 0 rfl Tryd.isAgg3 rfl rfl (cur_at ht (ints_at2 (by omega)))) ?_
    refine Lq.run 1 rfl ?_
    refine Lq.nil ?_
    refine Kt.sel [1, 5, 6, 8, 11, 12] [_, _, _, _, _, _] rfl ?_
    refine Wk.exit rfl ?_
    refine Kt.sel [1, 5, 6, 8, 11, 12] [_, _, _, _, _, _] rfl ?_
    refine Wk.seq ?_
    refine Wk.seq ?_
    refine Wk.regionQ ?_
    refine Lq.run 2 rfl ?_
    refine Lq.nil ?_
    refine Kt.sel [1, 5, 6, 8, 11, 12, 29] [_, _, _, _, _, _, _] rfl ?_
    refine Wk.cond (b := decide (((clsN q x).1.getD (y) 0) < (0 : Int))) rfl (fun h29 => ?_) (fun h29 => ?_)
    ·
     replace h29 := of_decide_eq_true h29
     omega
    ·
     replace h29 := of_decide_eq_false h29
     refine Wk.skip ?_
     refine Kt.sel [1, 5, 6, 8, 11, 12] [_, _, _, _, _, _] rfl ?_
     refine Wk.region ?_
     refine Ll.run 2 rfl ?_
     refine Ll.slice (xs := [.tmp 34]) (vs := [i6_ ((clsN q x).1.getD (y) 0)]) Base.elem25 rfl rfl rfl rfl rfl rfl (by decide) rfl fun p35 hp35 => ?_
     refine Ll.appendInts (xs := (clsN q x).1) (ys := [(clsN q x).1.getD (y) 0]) Base.elem25 1 rfl rfl rfl rfl rfl rfl rfl hc hle ht (fun w1 hw1 => (Own.row hw1 (i := 0) rfl (n := 1) (cap := 1) (vs := ints [(clsN q x).1.getD (y) 0]) rfl rfl (by decide))) ((((clsN q x).1) ++ ([(clsN q x).1.getD (y) 0])).length) (by first | (simp; done) | (simp; omega)) (by first | (simp; done) | (simp; omega) | omega) fun p36 cap36 cur36 hp36 hcp36 hlp36 htp36 => ?_
     show Ll _ _ (Own _ _ [_, _]) _ _ ((36, sl_ p36 (((((clsN q x).1) ++ ([(clsN q x).1.getD (y) 0])).length)) cap36) :: _) _ _ _
     refine Ll.run 1 rfl ?_
     refine Ll.nil ?_
     refine Kt.sel [1, 5, 6, 11, 12] [_, _, _, _, _] rfl ?_
     refine Wk.regionQ ?_
     refine Lq.op rfl rfl rfl (OpQ.add rfl rfl rfl (by omega) (by omega)) ?_
     refine Lq.run 1 rfl ?_
     refine Lq.nil ?_
     refine Kt.again ((x + 1, p36, cap36, cur36)) ⟨by omega, by simpa using hcp36, by rw [cls_old hyx hall2 h22]; exact hlp36, by rw [cls_old hyx hall2 h22]; simpa using htp36⟩ (by omega) (Sub.cons rfl (Sub.cons (by rw [cls_old hyx hall2 h22]; rfl) (Sub.cons (by rw [cls_old hyx hall2 h22]; first | rfl | (simp [List.lookup]; done)) (Sub.sel [11, 12] rfl)))) (fun _ h => h.tail)
   ·
    refine Wk.skip ?_
    refine Kt.sel [1, 5, 6, 7, 8, 11, 12, 15, 16] [_, _, _, _, _, _, _, _, _] rfl ?_
    refine Wk.regionQ ?_
    refine Lq.op rfl rfl rfl (OpQ.add rfl rfl rfl (by omega) (by omega)) ?_
    refine Lq.run 1 rfl ?_
    refine Lq.nil ?_
    refine Kt.again (y + 1) ⟨by omega, fun i hi => (Nat.lt_succ_iff_lt_or_eq.1 hi).elim (hall2 i) (fun e => by subst e; simpa using h22)⟩ (by omega) (Sub.sel [1, 5, 6, 7, 8, 11, 12, 15, 16] rfl) (fun _ h => h)
  ·
   replace h17 := of_decide_eq_false h17
   refine Wk.exit rfl ?_
   refine Kt.sel [1, 5, 6, 8, 11, 12] [_, _, _, _, _, _] rfl ?_
   refine Wk.seq ?_
   refine Wk.seq ?_
   refine Wk.regionQ ?_
   refine Lq.run 2 rfl ?_
   refine Lq.nil ?_
   refine Kt.sel [1, 5, 6, 8, 11, 12, 29] [_, _, _, _, _, _, _] rfl ?_
   refine Wk.cond (b := decide ((-1 : Int) < (0 : Int))) rfl (fun h29_1 => ?_) (fun h29_1 => ?_)
   ·
    replace h29_1 := of_decide_eq_true h29_1
    refine Wk.seq ?_
    refine Wk.regionQ ?_
    refine Lq.run 2 rfl ?_
    refine Lq.nil ?_
    refine Kt.sel [1, 5, 6, 8, 11, 12] [_, _, _, _, _, _] rfl ?_
    refine Wk.regionQ ?_
    refine Lq.run 1 rfl ?_
    refine Lq.op rfl rfl rfl (OpQ.add rfl rfl rfl (by omega) (by omega)) ?_
    refine Lq.run 1 rfl ?_
    refine Lq.nil ?_
    refine Kt.sel [1, 5, 6, 8, 11, 12] [_, _, _, _, _, _] rfl ?_
    refine Wk.region ?_
    refine Ll.run 2 rfl ?_
    refine Ll.slice (xs := [.tmp 34]) (vs := [i6_ (((clsN q x).2 : Int))]) Base.elem25 rfl rfl rfl rfl rfl rfl (by decide) rfl fun p35_1 hp35_1 => ?_
    refine Ll.appendInts (xs := (clsN q x).1) (ys := [((clsN q x).2 : Int)]) Base.elem25 1 rfl rfl rfl rfl rfl rfl rfl hc hle ht (fun w1 hw1 => (Own.row hw1 (i := 0) rfl (n := 1) (cap := 1) (vs := ints [((clsN q x).2 : Int)]) rfl rfl (by decide))) ((((clsN q x).1) ++ ([((clsN q x).2 : Int)])).length) (by first | (simp; done) | (simp; omega)) (by first | (simp; done) | (simp; omega) | omega) fun p36_1 cap36_1 cur36_1 hp36_1 hcp36_1 hlp36_1 htp36_1 => ?_
    show Ll _ _ (Own _ _ [_, _]) _ _ ((36, sl_ p36_1 (((((clsN q x).1) ++ ([((clsN q x).2 : Int)])).length)) cap36_1) :: _) _ _ _
    refine Ll.run 1 rfl ?_
    refine Ll.nil ?_
    refine Kt.sel [1, 5, 6, 11, 12] [_, _, _, _, _] rfl ?_
    refine Wk.regionQ ?_
    refine Lq.op rfl rfl rfl (OpQ.add rfl rfl rfl (by omega) (by omega)) ?_
    refine Lq.run 1 rfl ?_
    refine Lq.nil ?_
    refine Kt.again ((x + 1, p36_1, cap36_1, cur36_1)) ⟨by omega, by simpa using hcp36_1, by rw [cls_new (fun i hi => hall2 i (by omega))]; exact hlp36_1, by rw [cls_new (fun i hi => hall2 i (by omega))]; simpa using htp36_1⟩ (by omega) (Sub.cons rfl (Sub.cons (by rw [cls_new (fun i hi => hall2 i (by omega))]; rfl) (Sub.cons (by rw [cls_new (fun i hi => hall2 i (by omega))]; first | rfl | (simp [List.lookup]; done)) (Sub.sel [11, 12] rfl)))) (fun _ h => h.tail)
   ·
    replace h29_1 := of_decide_eq_false h29_1
    exact absurd (by decide) h29_1
 ·
  replace h13 := of_decide_eq_false h13
  refine Wk.exit rfl ?_
  refine Kt.sel [5] [_] rfl ?_
  refine Wk.seq ?_
  refine Wk.regionQ ?_
  refine Lq.run 2 rfl ?_
  refine Lq.nil ?_
  refine Kt.sel [4] [_] rfl ?_
  refine Wk.ret (Kt.end1 rfl rfl fun w' hw => ?_)
  -- ret 0: sl_ g ((clsN q x).1.length) c
  obtain rfl : x = N.toNat := by omega
  exact ⟨_, rfl, hw.below, hw.newRow (i := 0) (n := _) rfl hc hle (by simpa using ht)⟩

set_option maxHeartbeats 400000 in
/-- impl.CountClasses -/
theorem iCount_ok (a : St) (W R : Int) (w : World) (hsa : a.Small) :
    Calls Tryd.prog 35 [vS a, i6_ W, i6_ R].toArray w fun en w' => en = .returned (.int .i64 (countC a W R)) ∧ Below w.heap.size w w' := by
 refine fnStart (n := 37) (e := [(0, vS a), (1, i6_ W), (2, i6_ R)]) Tryd.func35 rfl rfl rfl rfl Ends.both ?_
 refine Wk.seq ?_
 refine Wk.region ?_
 refine Ll.box (v := vS a) rfl rfl rfl rfl rfl fun p3 hp3 => ?_
 show Ll _ _ (Own _ _ [_]) _ _ ((3, pt_ p3) :: _) _ _ _
 refine Ll.box (v := i6_ R) rfl rfl rfl rfl rfl fun p5 hp5 => ?_
 show Ll _ _ (Own _ _ [_, _]) _ _ ((5, pt_ p5) :: _) _ _ _
 refine Ll.run 1 rfl ?_
 refine Ll.nil ?_
 refine Kt.sel [1, 3, 5] [_, _, _] rfl ?_
 refine Wk.seq ?_
 refine Wk.seq ?_
 refine Wk.regionQ ?_
 refine Lq.op rfl rfl rfl (OpQ.loadBox (cs := #[i6_ a.n, str a.set, str a.rel]) 1 rfl Tryd.isAgg24 rfl rfl Tryd.sizeOf24) ?_
 refine Lq.op (v := bo_ (validB a)) rfl rfl rfl (OpQ.call rfl Tryd.call68 rfl Own.stable (fun w1 hw1 => isStructure_ok a w1 hsa)) ?_
 refine Lq.run 2 rfl ?_
 refine Lq.bool fun b11 hg11 => ?_
 cases b11
 ·
  replace hg11 := not_false hg11
  refine Lq.run 4 rfl ?_
  refine Lq.bool fun b15 hg15 => ?_
  cases b15
  ·
   replace hg15 := of_decide_eq_false hg15
   refine Lq.run 4 rfl ?_
   refine Lq.bool fun b19 hg19 => ?_
   cases b19
   ·
    replace hg19 := of_decide_eq_false hg19
    refine Lq.op rfl rfl rfl (OpQ.loadOwn 0 rfl Tryd.isAgg3 rfl rfl rfl) ?_
    refine Lq.run 3 rfl ?_
    refine Lq.bool fun b23 hg23 => ?_
    cases b23
    ·
     replace hg23 := of_decide_eq_false hg23
     refine Lq.op rfl rfl rfl (OpQ.loadOwn 0 rfl Tryd.isAgg3 rfl rfl rfl) ?_
     refine Lq.run 2 rfl ?_
     refine Lq.nil ?_
     refine Kt.sel [1, 3, 5, 26] [_, _, _, _] rfl ?_
     refine Wk.cond (b := decide ((2 : Int) < R)) rfl (fun h26 => ?_) (fun h26 => ?_)
     ·
      replace h26 := of_decide_eq_true h26
      refine Wk.seq ?_
      refine Wk.regionQ ?_
      refine Lq.run 1 rfl ?_
      refine Lq.nil ?_
      refine Kt.sel [6] [_] rfl ?_
      refine Wk.ret (Kt.end1 rfl rfl fun w' hw => ?_)
      -- ret 0: i6_ (-1)
      exact ⟨ret_i (by unfold countC; rw [if_neg (by first | (simp_all; done) | (unfold inB at *; simp_all; done) | (unfold inB at *; simp_all; omega))]), hw.below⟩
     ·
      replace h26 := of_decide_eq_false h26
      have hV : validB a = true := by simp_all
      have ha := validB_fine hV
      have hm8 := ha.hi
      have hm1 := ha.lo
      have h0 : 0 ≤ W := by omega
      have h3 : W ≤ 2 := by omega
      have h0r : 0 ≤ R := by omega
      have h3r : R ≤ 3 := by omega
      have h2r : R ≤ 2 := by omega
      have h512 := pow8 (size := a.n.toNat) (w := W.toNat) (by omega) (by omega)
      have hpos : 0 < a.n.toNat ^ W.toNat := Nat.pow_pos (by omega)
      refine Wk.skip ?_
      refine Kt.sel [1, 3, 5] [_, _, _] rfl ?_
      refine Wk.seq ?_
      refine Wk.region ?_
      refine Ll.op rfl rfl rfl (OpQ.fieldAddr rfl Tryd.runUnderlying24 rfl Tryd.sizeOf3 rfl rfl) ?_
      refine Ll.op rfl rfl rfl (OpQ.loadOwn 1 rfl Tryd.isAgg3 rfl rfl rfl) ?_
      refine Ll.run 1 rfl ?_
      refine Ll.callGet (σ := Nat × Nat × Array Value × List RR) (ok := fun (g, c', u, rr) => RowsOk rr u c' ∧ rr.map RR.xs = listsL (a.n).toNat (W).toNat) (v := fun (g, c', u, rr) => .slice (some ⟨g, 0, none⟩) rr.length c') (xs := [.tmp 28, .tmp 29]) (vs := [i6_ a.n, i6_ W]) (hs' := fun (g, c', u, rr) => [bk_ p5 #[i6_ R] 3, bk_ p3 #[i6_ a.n, str a.set, str a.rel] 24] ++ ((g, .cells u 25 (0, 0)) :: (rowsB 3 rr ++ []))) rfl rfl rfl rfl Tryd.call86 rfl (fun w1 hw1 => (listsOf_ok _ _ _ a.n W w1 (by omega) hm8 h0 (by omega) hw1).mono fun en w' ⟨g, c', u, rr, h1, h2, h3⟩ => ⟨(g, c', u, rr), h1, h2, h3.perm (rows_behind _ _ _)⟩) fun ⟨gL, cL, uL, rrL⟩ ⟨hL, hLX⟩ => ?_
      show Ll _ _ (Own _ _ (_ :: _ :: _ :: ((rowsB 3 rrL ++ [])))) _ _ ((30, sl_ gL rrL.length cL) :: _) _ _ _
      refine Ll.alloc rfl rfl rfl rfl Tryd.zeroValue79 fun p7 hp7 => ?_
      show Ll _ _ (Own _ _ (bk_ p7 #[.slice none 0 0] 79 :: _ :: _ :: _ :: ((rowsB 3 rrL ++ [])))) _ _ ((7, pt_ p7) :: _) _ _ _
      refine Ll.store1 (v := sl_ gL rrL.length cL) (hs' := (bk_ p7 #[sl_ gL rrL.length cL] 79 :: _ :: _ :: _ :: ((rowsB 3 rrL ++ [])))) 0 rfl rfl rfl rfl rfl rfl Tryd.sizeOf79 rfl (by simp) rfl ?_
      refine Ll.nil ?_
      refine Kt.sel [3, 5, 7] [_, _, _] rfl ?_
      refine Wk.seq ?_
      refine Wk.region ?_
      refine Ll.op rfl rfl rfl (OpQ.loadOwn 0 rfl Tryd.isAgg79 rfl rfl rfl) ?_
      have hrl : rrL.length = a.n.toNat ^ W.toNat := by rw [← listsL_length a.n.toNat W.toNat, ← hLX, List.length_map]
      have hqq : clsN (fun y x => winB R.toNat a (rrL.getD y rd).xs a (rrL.getD x rd).xs) (a.n.toNat ^ W.toNat) = clsN (qP a R.toNat W.toNat) (a.n.toNat ^ W.toNat) := cls_congr fun y x hyx hx => by rw [rows_point (by omega) hLX (by omega), rows_point (by omega) hLX (by omega)]; rfl
      have hmx : maxTo (clsN (fun y x => winB R.toNat a (rrL.getD y rd).xs a (rrL.getD x rd).xs) ((rrL.length : Int)).toNat).1 ((clsN (fun y x => winB R.toNat a (rrL.getD y rd).xs a (rrL.getD x rd).xs) ((rrL.length : Int)).toNat).1.length - 1) = ((clsN (qP a R.toNat W.toNat) (a.n.toNat ^ W.toNat)).2 : Int) - 1 := by
       rw [Int.toNat_natCast, hrl, hqq, cls_length]; exact max_cls _ hpos
      have hcs := (cls_small (qP a R.toNat W.toNat) (a.n.toNat ^ W.toNat)).1
      refine Ll.op rfl rfl rfl (OpQ.lenS rfl Tryd.runUnderlying79 rfl) ?_
      refine Ll.op (v := .func (.func 100) #[] #[pt_ p3, pt_ p7, pt_ p5]) rfl rfl rfl (OpQ.func' (cap := [.tmp 3, .tmp 7, .tmp 5]) rfl rfl) ?_
      refine Ll.callRow (xs := [.tmp 32, .tmp 33]) (m := (clsN (fun y x => winB R.toNat a (rrL.getD y rd).xs a (rrL.getD x rd).xs) ((rrL.length : Int)).toNat).1.length) (vs := ints ((clsN (fun y x => winB R.toNat a (rrL.getD y rd).xs a (rrL.getD x rd).xs) ((rrL.length : Int)).toNat).1)) (el := 3) (size := 1) rfl rfl rfl rfl Tryd.call99 rfl (fun w1 hw1 => classesBy_ok (rrL.length : Int) w1 (by omega) 100 #[pt_ p3, pt_ p7, pt_ p5] (fun y x => winB R.toNat a (rrL.getD y rd).xs a (rrL.getD x rd).xs) Tryd.call100 (fun w2 hb y x hy hx => cc1_ok a p3 p5 p7 gL cL _ _ _ uL rrL R W.toNat y x w2 ((hw1.stable _ _ hb).has 2 _ _ rfl).2 ((hw1.stable _ _ hb).has 1 _ _ rfl).2 ((hw1.stable _ _ hb).has 0 _ _ rfl).2 ((hw1.stable _ _ hb).has 3 _ _ rfl).2 hL hLX (Own.rowsHas (f := [bk_ p7 #[sl_ gL rrL.length cL] 79, bk_ p5 #[i6_ R] 3, bk_ p3 #[i6_ a.n, str a.set, str a.rel] 24, bk_ gL uL 25]) (hw1.stable _ _ hb)) ha h0r h3r (by omega) (by omega) (by omega))) fun p34 cap34 cur34 hp34 hcp34 hlp34 htp34 => ?_
      refine Ll.op (v := i6_ (maxTo ((clsN (fun y x => winB R.toNat a (rrL.getD y rd).xs a (rrL.getD x rd).xs) ((rrL.length : Int)).toNat).1) (((clsN (fun y x => winB R.toNat a (rrL.getD y rd).xs a (rrL.getD x rd).xs) ((rrL.length : Int)).toNat).1).length - 1))) rfl rfl rfl (OpQ.call rfl Tryd.call98 rfl Own.stable (fun w1 hw1 => slMax_ok (sl_ p34 ((clsN (fun y x => winB R.toNat a (rrL.getD y rd).xs a (rrL.getD x rd).xs) ((rrL.length : Int)).toNat).1.length) cap34) ((clsN (fun y x => winB R.toNat a (rrL.getD y rd).xs a (rrL.getD x rd).xs) ((rrL.length : Int)).toNat).1) w1 (Own.row hw1 (i := 0) rfl (by simpa using htp34) (by simp) hlp34) (by rw [cls_length]; omega) (by rw [cls_length]; omega))) ?_
      refine Ll.op rfl rfl rfl (OpQ.add rfl rfl rfl (by rw [hmx]; omega) (by rw [hmx]; omega)) ?_
      refine Ll.run 1 rfl ?_
      refine Ll.nil ?_
      refine Kt.sel [6] [_] rfl ?_
      refine Wk.ret (Kt.end1 rfl rfl fun w' hw => ?_)
      -- ret 1: i6_ ((maxTo ((clsN (fun y x => winB R.toNat a (rrL.getD y rd).xs a (rrL.getD x rd).xs) ((rrL.length : Int)).toNat).1) (((clsN (fun y x => winB R.toNat a (rrL.getD y rd).xs a (rrL.getD x rd).xs) ((rrL.length : Int)).toNat).1).length - 1)) + (1 : Int))
      first | exact ⟨ret_i (by unfold countC; rw [if_neg (by first | (simp_all; done) | (unfold inB at *; simp_all; done) | (unfold inB at *; simp_all; omega))]), hw.below⟩ | exact ⟨ret_i (by unfold countC; rw [hmx, if_pos (by unfold inB; simp [hV, h0, h3, h0r, h2r])]; omega), hw.below⟩
    ·
     replace hg23 := of_decide_eq_true hg23
     refine Lq.pass rfl rfl rfl ?_
     refine Lq.pass rfl rfl rfl ?_
     refine Lq.run 1 rfl ?_
     refine Lq.nil ?_
     refine Kt.sel [1, 3, 5, 26] [_, _, _, _] rfl ?_
     refine Wk.condT rfl ?_
     refine Wk.seq ?_
     refine Wk.regionQ ?_
     refine Lq.run 1 rfl ?_
     refine Lq.nil ?_
     refine Kt.sel [6] [_] rfl ?_
     refine Wk.ret (Kt.end1 rfl rfl fun w' hw => ?_)
     -- ret 2: i6_ (-1)
     first | exact ⟨ret_i (by unfold countC; rw [if_neg (by first | (simp_all; done) | (unfold inB at *; simp_all; done) | (unfold inB at *; simp_all; omega))]), hw.below⟩ | exact ⟨ret_i (by unfold countC; rw [hmx, if_pos (by unfold inB; simp [hV, h0, h3, h0r, h2r])]; omega), hw.below⟩
   ·
    replace hg19 := of_decide_eq_true hg19
    refine Lq.pass rfl rfl rfl ?_
    refine Lq.pass rfl rfl rfl ?_
    refine Lq.run 2 rfl ?_
    refine Lq.pass rfl rfl rfl ?_
    refine Lq.pass rfl rfl rfl ?_
    refine Lq.run 1 rfl ?_
    refine Lq.nil ?_
    refine Kt.sel [1, 3, 5, 26] [_, _, _, _] rfl ?_
    refine Wk.condT rfl ?_
    refine Wk.seq ?_
    refine Wk.regionQ ?_
    refine Lq.run 1 rfl ?_
    refine Lq.nil ?_
    refine Kt.sel [6] [_] rfl ?_
    refine Wk.ret (Kt.end1 rfl rfl fun w' hw => ?_)
    -- ret 3: i6_ (-1)
    first | exact ⟨ret_i (by unfold countC; rw [if_neg (by first | (simp_all; done) | (unfold inB at *; simp_all; done) | (unfold inB at *; simp_all; omega))]), hw.below⟩ | exact ⟨ret_i (by unfold countC; rw [hmx, if_pos (by unfold inB; simp [hV, h0, h3, h0r, h2r])]; omega), hw.below⟩
  ·
   replace hg15 := of_decide_eq_true hg15
   refine Lq.pass rfl rfl rfl ?_
   refine Lq.pass rfl rfl rfl ?_
   refine Lq.run 2 rfl ?_
   refine Lq.pass rfl rfl rfl ?_
   refine Lq.pass rfl rfl rfl ?_
   refine Lq.run 2 rfl ?_
   refine Lq.pass rfl rfl rfl ?_
   refine Lq.pass rfl rfl rfl ?_
   refine Lq.run 1 rfl ?_
   refine Lq.nil ?_
   refine Kt.sel [1, 3, 5, 26] [_, _, _, _] rfl ?_
   refine Wk.condT rfl ?_
   refine Wk.seq ?_
   refine Wk.regionQ ?_
   refine Lq.run 1 rfl ?_
   refine Lq.nil ?_
   refine Kt.sel [6] [_] rfl ?_
   refine Wk.ret (Kt.end1 rfl rfl fun w' hw => ?_)
   -- ret 4: i6_ (-1)
   first | exact ⟨ret_i (by unfold countC; rw [if_neg (by first | (simp_all; done) | (unfold inB at *; simp_all; done) | (unfold inB at *; simp_all; omega))]), hw.below⟩ | exact ⟨ret_i (by unfold countC; rw [hmx, if_pos (by unfold inB; simp [hV, h0, h3, h0r, h2r])]; omega), hw.below⟩
 ·
  replace hg11 := not_true hg11
  refine Lq.pass rfl rfl rfl ?_
  refine Lq.pass rfl rfl rfl ?_
  refine Lq.run 2 rfl ?_
  refine Lq.pass rfl rfl rfl ?_
  refine Lq.pass rfl rfl rfl ?_
  refine Lq.run 2 rfl ?_
  refine Lq.pass rfl rfl rfl ?_
  refine Lq.pass rfl rfl rfl ?_
  refine Lq.run 2 rfl ?_
  refine Lq.pass rfl rfl rfl ?_
  refine Lq.pass rfl rfl rfl ?_
  refine Lq.run 1 rfl ?_
  refine Lq.nil ?_
  refine Kt.sel [1, 3, 5, 26] [_, _, _, _] rfl ?_
  refine Wk.condT rfl ?_
  refine Wk.seq ?_
  refine Wk.regionQ ?_
  refine Lq.run 1 rfl ?_
  refine Lq.nil ?_
  refine Kt.sel [6] [_] rfl ?_
  refine Wk.ret (Kt.end1 rfl rfl fun w' hw => ?_)
  -- ret 5: i6_ (-1)
  first | exact ⟨ret_i (by unfold countC; rw [if_neg (by first | (simp_all; done) | (unfold inB at *; simp_all; done) | (unfold inB at *; simp_all; omega))]), hw.below⟩ | exact ⟨ret_i (by unfold countC; rw [hmx, if_pos (by unfold inB; simp [hV, h0, h3, h0r, h2r])]; omega), hw.below⟩

set_option maxHeartbeats 400000 in
/-- spec.CountClasses -/
theorem sCount_ok (a : St) (W R : Int) (w : World) (hsa : a.Small) :
    Calls Tryd.prog 36 [vS a, i6_ W, i6_ R].toArray w fun en w' => en = .returned (.int .i64 (countC a W R)) ∧ Below w.heap.size w w' := by
 refine fnStart (n := 47) (e := [(0, vS a), (1, i6_ W), (2, i6_ R)]) Tryd.func36 rfl rfl rfl rfl Ends.both ?_
 refine Wk.seq ?_
 refine Wk.region ?_
 refine Ll.box (v := vS a) rfl rfl rfl rfl rfl fun p3 hp3 => ?_
 show Ll _ _ (Own _ _ [_]) _ _ ((3, pt_ p3) :: _) _ _ _
 refine Ll.run 1 rfl ?_
 refine Ll.nil ?_
 refine Kt.sel [1, 2, 3] [_, _, _] rfl ?_
 refine Wk.seq ?_
 refine Wk.region ?_
 refine Ll.slice (xs := []) (vs := []) Base.elem25 rfl rfl rfl rfl rfl rfl (by decide) rfl fun p11 hp11 => ?_
 refine Ll.run 1 rfl ?_
 refine Ll.nil ?_
 refine Kt.sel [1, 2, 3, 7] [_, _, _, _] rfl ?_
 refine Wk.seq ?_
 refine Wk.seq ?_
 refine Wk.regionQ ?_
 refine Lq.op rfl rfl rfl (OpQ.loadBox (cs := #[i6_ a.n, str a.set, str a.rel]) 1 rfl Tryd.isAgg24 rfl rfl Tryd.sizeOf24) ?_
 refine Lq.op (v := bo_ (validB a)) rfl rfl rfl (OpQ.call rfl Tryd.call88 rfl Own.stable (fun w1 hw1 => sValid_ok a w1 hsa)) ?_
 refine Lq.run 2 rfl ?_
 refine Lq.bool fun b15 hg15 => ?_
 cases b15
 ·
  replace hg15 := not_false hg15
  refine Lq.run 1 rfl ?_
  refine Lq.op (v := bo_ (inB W 0 2)) rfl rfl rfl (OpQ.call rfl Tryd.call75 rfl Own.stable (fun w1 hw1 => l1In_ok W 0 2 w1 )) ?_
  refine Lq.run 3 rfl ?_
  refine Lq.bool fun b20 hg20 => ?_
  cases b20
  ·
   replace hg20 := not_false hg20
   refine Lq.run 1 rfl ?_
   refine Lq.op (v := bo_ (inB R 0 2)) rfl rfl rfl (OpQ.call rfl Tryd.call75 rfl Own.stable (fun w1 hw1 => l1In_ok R 0 2 w1 )) ?_
   refine Lq.run 2 rfl ?_
   refine Lq.nil ?_
   refine Kt.sel [1, 2, 3, 7, 24] [_, _, _, _, _] rfl ?_
   refine Wk.cond (b := !(inB R 0 2)) rfl (fun h24 => ?_) (fun h24 => ?_)
   ·
    replace h24 := not_true h24
    refine Wk.seq ?_
    refine Wk.regionQ ?_
    refine Lq.run 1 rfl ?_
    refine Lq.nil ?_
    refine Kt.sel [6] [_] rfl ?_
    refine Wk.ret (Kt.end1 rfl rfl fun w' hw => ?_)
    -- ret 0: i6_ (-1)
    exact ⟨ret_i (by unfold countC; rw [if_neg (by first | (simp_all; done) | (unfold inB at *; simp_all; done) | (unfold inB at *; simp_all; omega))]), hw.below⟩
   ·
    replace h24 := not_false h24
    have hV : validB a = true := by simp_all
    have ha := validB_fine hV
    have hm8 := ha.hi
    have hm1 := ha.lo
    have hW : 0 ≤ W ∧ W ≤ 2 := by unfold inB at *; simp_all
    have hR : 0 ≤ R ∧ R ≤ 2 := by unfold inB at *; simp_all
    obtain ⟨h0, h3⟩ := hW
    obtain ⟨h0r, h2r⟩ := hR
    have h512 := pow8 (size := a.n.toNat) (w := W.toNat) (by omega) (by omega)
    have hcn := cnt_small (n := R.toNat) (by omega)
    refine Wk.skip ?_
    refine Kt.sel [1, 2, 3, 7] [_, _, _, _] rfl ?_
    refine Wk.seq ?_
    refine Wk.region ?_
    refine Ll.callGet (σ := Nat × Nat × List Bkt) (ok := fun s => TabOk s.2.2 []) (v := fun s => .agg #[.slice (some ⟨s.1, 0, none⟩) 997 997, .slice (some ⟨s.2.1, 0, none⟩) 1 1]) (xs := []) (vs := []) (hs' := fun s => [bk_ p11 #[] 3, bk_ p3 #[i6_ a.n, str a.set, str a.rel] 24] ++ (tabL 145 3 147 s.1 s.2.1 s.2.2 [] ++ [])) rfl rfl rfl rfl Tryd.call101 rfl (fun w1 hw1 => (l5New_ok _ _ _ w1 hw1).mono fun en w' ⟨q, c, h1, h2⟩ => ⟨(q, c, _), h1, TabOk.new, by dsimp only; rw [List.append_nil]; exact h2.perm perm_front⟩) fun ⟨q, c, bs0⟩ hT0 => ?_
    show Ll _ _ (Own _ _ (_ :: _ :: _ :: _ :: ((blks 147 bs0 ++ [])))) _ _ ((25, .agg #[sl_ q 997 997, sl_ c 1 1]) :: _) _ _ _
    refine Ll.alloc rfl rfl rfl rfl Tryd.zeroValue93 fun p8 hp8 => ?_
    show Ll _ _ (Own _ _ (bk_ p8 #[.slice none 0 0, .slice none 0 0] 93 :: _ :: _ :: _ :: _ :: ((blks 147 bs0 ++ [])))) _ _ ((8, pt_ p8) :: _) _ _ _
    refine Ll.storeBox (cs' := #[sl_ q 997 997, sl_ c 1 1]) (hs' := (bk_ p8 #[sl_ q 997 997, sl_ c 1 1] 93 :: _ :: _ :: _ :: _ :: ((blks 147 bs0 ++ [])))) 0 rfl rfl rfl rfl rfl (by kernel_rfl : _ = some Tryd.t93) rfl rfl rfl rfl rfl ?_
    refine Ll.nil ?_
    refine Kt.sel [1, 2, 3, 7, 8] [_, _, _, _, _] rfl ?_
    refine Wk.seq ?_
    refine Wk.seq ?_
    refine Wk.regionQ ?_
    refine Lq.run 1 rfl ?_
    refine Lq.nil ?_
    refine Kt.sel [1, 2, 3, 7, 8, 9] [_, _, _, _, _, _] rfl ?_
    refine Wk.block ?_
    refine Wk.loop (σ := Nat × List Bkt × List (List UInt8) × Nat × Nat × Array Value × List Int) (fun ⟨k, bs1, T1, g, cap, cur, S⟩ => k ≤ a.n.toNat ^ W.toNat ∧ TabTo ([] : List (List UInt8)) bs1 T1 (k * cnt R.toNat) ∧ CountL T1 R.toNat a W.toNat k S ∧ cur.size = cap * 1 ∧ S.length ≤ cap ∧ cur.toList.take S.length = ints S) (fun ⟨k, bs1, T1, g, cap, cur, S⟩ => [(1, i6_ W), (2, i6_ R), (3, pt_ p3), (7, sl_ g S.length cap), (8, pt_ p8), (9, i6_ ((k : Int)))]) (fun ⟨k, bs1, T1, g, cap, cur, S⟩ => Own w.heap.size w (bk_ p8 #[sl_ q 997 997, sl_ c 1 1] 93 :: bk_ g cur 3 :: bk_ p3 #[i6_ a.n, str a.set, str a.rel] 24 :: bk_ q ((bs1.map bktV).toArray) 145 :: bk_ c #[i6_ ((T1.length : Int))] 3 :: ((blks 147 bs1 ++ [])))) (fun ⟨k, bs1, T1, g, cap, cur, S⟩ => (a.n.toNat ^ W.toNat) - k) ((0, bs0, [], p11, 0, #[], [])) ⟨by omega, ⟨hT0, List.prefix_refl _, by omega⟩, CountL.zero, rfl, Nat.le_refl 0, rfl⟩ (Sub.sel [1, 2, 3, 7, 8, 9] rfl) (fun _ h => h) ?_
    rintro ⟨k, bs1, T1, g, cap, cur, S⟩ ⟨hk, hTT, hC, hcg, hlg, htg⟩
    dsimp only
    have hCl := hC.len
    have hTl := hTT.len
    simp only [List.length_nil] at hTl
    have hk8 : k * cnt R.toNat ≤ 512 * 585 := Nat.mul_le_mul (by omega) hcn
    refine Wk.seq ?_
    refine Wk.seq ?_
    refine Wk.regionQ ?_
    refine Lq.run 1 rfl ?_
    refine Lq.op rfl rfl rfl (OpQ.loadBox (cs := #[i6_ a.n, str a.set, str a.rel]) 2 rfl Tryd.isAgg24 rfl rfl Tryd.sizeOf24) ?_
    refine Lq.run 1 rfl ?_
    refine Lq.op (v := i6_ (((a.n.toNat ^ W.toNat : Nat) : Int))) rfl rfl rfl (OpQ.call rfl Tryd.call89 rfl Own.stable (fun w1 hw1 => l3Power_ok a W w1 ha h0 (by omega))) ?_
    refine Lq.run 1 rfl ?_
    refine Lq.nil ?_
    refine Kt.sel [1, 2, 3, 7, 8, 9, 30] [_, _, _, _, _, _, _] rfl ?_
    refine Wk.cond (b := decide (((k : Int)) < (((a.n.toNat ^ W.toNat : Nat) : Int)))) rfl (fun h30 => ?_) (fun h30 => ?_)
    ·
     replace h30 := of_decide_eq_true h30
     have hkp : k < a.n.toNat ^ W.toNat := by omega
     refine Wk.skip ?_
     refine Kt.sel [1, 2, 3, 7, 8, 9] [_, _, _, _, _, _] rfl ?_
     refine Wk.seq ?_
     refine Wk.block ?_
     refine Wk.seq ?_
     refine Wk.region ?_
     refine Ll.op rfl rfl rfl (OpQ.loadBox (cs := #[i6_ a.n, str a.set, str a.rel]) 2 rfl Tryd.isAgg24 rfl rfl Tryd.sizeOf24) ?_
     refine Ll.run 2 rfl ?_
     refine Ll.op (v := .agg ((ints (pArr a.n.toNat W.toNat ((k : Int)).toNat)).toArray)) rfl rfl rfl (OpQ.call rfl Tryd.call90 rfl Own.stable (fun w1 hw1 => l3Point_ok a ((k : Int)) W w1 ha (by omega) (by omega) h0 (by omega))) ?_
     refine Ll.alloc rfl rfl rfl rfl Tryd.zeroValue82 fun p10 hp10 => ?_
     show Ll _ _ (Own _ _ (bk_ p10 #[i6_ 0, i6_ 0, i6_ 0, i6_ 0] 82 :: _ :: _ :: _ :: _ :: _ :: ((blks 147 bs1 ++ [])))) _ _ ((10, pt_ p10) :: _) _ _ _
     refine Ll.storeBox (cs' := (ints (pArr a.n.toNat W.toNat ((k : Int)).toNat)).toArray) (hs' := (bk_ p10 ((ints (pArr a.n.toNat W.toNat ((k : Int)).toNat)).toArray) 82 :: _ :: _ :: _ :: _ :: _ :: ((blks 147 bs1 ++ [])))) 0 rfl rfl rfl rfl rfl (by kernel_rfl : _ = some Tryd.t82) (by rw [show (ints (pArr a.n.toNat W.toNat ((k : Int)).toNat)).toArray.size = 4 from by simp [pArr]; omega]; rfl) rfl (by rw [show (ints (pArr a.n.toNat W.toNat ((k : Int)).toNat)).toArray.size = 4 from by simp [pArr]; omega]; rfl) (by simp [ints, Value.oneCell']) rfl ?_
     refine Ll.nil ?_
     refine Kt.sel [1, 2, 3, 7, 8, 9, 10] [_, _, _, _, _, _, _] rfl ?_
     refine Wk.regionS (S := Own w.heap.size w [bk_ p10 ((ints (pArr a.n.toNat W.toNat ((k : Int)).toNat)).toArray) 82, bk_ p8 #[sl_ q 997 997, sl_ c 1 1] 93, bk_ p3 #[i6_ a.n, str a.set, str a.rel] 24]) [(0, true), (1, true), (2, true), (3, true), (4, true), (5, true), (6, false), (7, false), (8, true)] Base.mixed (fun _ h => h.drawn) (by kernel_rfl) ?_
     refine Ld.run 1 rfl (pk [0, 1, 3] rfl rfl) ?_
     refine Ld.take rfl rfl rfl rfl rfl (OpQ.loadBox (cs := #[sl_ q 997 997, sl_ c 1 1]) 1 rfl Tryd.isAgg93 rfl rfl Tryd.sizeOf93) (pk [0, 1, 3] rfl rfl) ?_
     refine Ld.take rfl rfl rfl rfl rfl (OpQ.loadBox (cs := #[i6_ a.n, str a.set, str a.rel]) 2 rfl Tryd.isAgg24 rfl rfl Tryd.sizeOf24) (pk [0, 1, 3] rfl rfl) ?_
     refine Ld.run 1 rfl (pk [0, 1, 3] rfl rfl) ?_
     refine Ld.take (v := sl_ p10 W.toNat 4) rfl rfl rfl rfl rfl (OpQ.sliceArr (i := W) rfl Tryd.runUnderlying82 Tryd.sizeOf3 rfl rfl (by omega) (by omega) (by decide)) (pk [0, 1, 3] rfl rfl) ?_
     refine Ld.run 1 rfl (pk [0, 1, 3] rfl rfl) ?_
     refine Ld.loud rfl ?_
     refine Ll.callTab (S := 145) (I := 3) (E := 147) (q := q) (c := c) (bs := bs1) (T := T1) (hs := []) (ok := fun m bs' T' => TabTo T1 bs' T' (cnt R.toNat) ∧ Means T' R.toNat a (pointL a.n.toNat W.toNat k) m) (xs := [.tmp 38, .tmp 39, .tmp 41, .tmp 42]) (vs := [.agg #[sl_ q 997 997, sl_ c 1 1], vS a, sl_ p10 W.toNat 4, i6_ R]) [bk_ p10 ((ints (pArr a.n.toNat W.toNat ((k : Int)).toNat)).toArray) 82, bk_ p8 #[sl_ q 997 997, sl_ c 1 1] 93, bk_ g cur 3, bk_ p3 #[i6_ a.n, str a.set, str a.rel] 24] rfl rfl rfl rfl Tryd.call103 rfl (fun w1 hw1 => type_at R h0r w.heap.size w ([bk_ p10 ((ints (pArr a.n.toNat W.toNat ((k : Int)).toNat)).toArray) 82, bk_ p8 #[sl_ q 997 997, sl_ c 1 1] 93, bk_ g cur 3, bk_ p3 #[i6_ a.n, str a.set, str a.rel] 24] ++ []) q c bs1 T1 a (sl_ p10 W.toNat 4) (pointL a.n.toNat W.toNat k) w1 hTT.ok ha (fun w2 hw2 => (Own.rowPt hw2 (i := 0) (k := k) rfl (by omega))) (point_els ha _ _) (by rw [pointL_length]; omega) (by omega) hw1) fun m bs_ T_ hKm => ?_
     show Ll _ _ (Own _ _ (_ :: _ :: _ :: _ :: _ :: _ :: ((blks 147 bs_ ++ [])))) _ _ ((43, i6_ ((m : Int))) :: _) _ _ _
     refine Ll.nil (Ld.joint (pk [0, 1, 3] rfl rfl) ?_)
     refine Ld.loud rfl ?_
     refine Ll.callGet (σ := Nat × Nat × Array Value) (ok := fun (g, c', u) => u.size = c' * 1 ∧ (insS S ((m : Int))).length ≤ c' ∧ u.toList.take (insS S ((m : Int))).length = ints (insS S ((m : Int)))) (v := fun (g, c', u) => .slice (some ⟨g, 0, none⟩) (insS S ((m : Int))).length c') (xs := [.tmp 37, .tmp 43]) (vs := [sl_ g S.length cap, i6_ ((m : Int))]) (hs' := fun (g, c', u) => (bk_ p10 ((ints (pArr a.n.toNat W.toNat ((k : Int)).toNat)).toArray) 82 :: bk_ p8 #[sl_ q 997 997, sl_ c 1 1] 93 :: bk_ g u 3 :: bk_ p3 #[i6_ a.n, str a.set, str a.rel] 24 :: bk_ q ((bs_.map bktV).toArray) 145 :: bk_ c #[i6_ ((T_.length : Int))] 3 :: ((blks 147 bs_ ++ [])))) rfl rfl rfl rfl Tryd.call102 rfl (fun w1 hw1 => (l5Insert_ok _ _ _ g cap cur S ((m : Int)) w1 hcg hlg htg (by omega) (hw1.perm (perm_back [bk_ p10 ((ints (pArr a.n.toNat W.toNat ((k : Int)).toNat)).toArray) 82, bk_ p8 #[sl_ q 997 997, sl_ c 1 1] 93] [_] _))).mono fun en w' ⟨g', cap', cur', h1, h2, h3⟩ => ⟨(g', cap', cur'), h1, h2, h3.perm (perm_back [_] [bk_ p10 ((ints (pArr a.n.toNat W.toNat ((k : Int)).toNat)).toArray) 82, bk_ p8 #[sl_ q 997 997, sl_ c 1 1] 93] _)⟩) fun ⟨g_, cap_, cur_⟩ ⟨hcg_, hlg_, htg_⟩ => ?_
     show Ll _ _ (Own _ _ (_ :: _ :: _ :: _ :: _ :: _ :: ((blks 147 bs_ ++ [])))) _ _ ((44, sl_ g_ ((insS S ((m : Int))).length) cap_) :: _) _ _ _
     refine Ll.nil (Ld.joint (pk [0, 1, 3] rfl rfl) ?_)
     refine Ld.run 1 rfl (pk [0, 1, 3] rfl rfl) ?_
     refine Ld.nil ?_
     refine Kt.sel [1, 2, 3, 7, 8, 9] [_, _, _, _, _, _] rfl ?_
     refine Wk.regionQ ?_
     refine Lq.run 1 rfl ?_
     refine Lq.op rfl rfl rfl (OpQ.add rfl rfl rfl (by omega) (by omega)) ?_
     refine Lq.run 1 rfl ?_
     refine Lq.nil ?_
     refine Kt.again ((k + 1, bs_, T_, g_, cap_, cur_, (insS S ((m : Int))))) ⟨by omega, hTT.trans hKm.1 (by rw [Nat.add_mul, Nat.one_mul]; exact Nat.le_refl _), hC.step hKm.1.pre hKm.1.ok.nodup hKm.2, hcg_, hlg_, htg_⟩ (by omega) (Sub.sel [1, 2, 3, 7, 8, 9] rfl) (fun _ h => h.tail)
    ·
     replace h30 := of_decide_eq_false h30
     refine Wk.exit rfl ?_
     refine Kt.sel [7] [_] rfl ?_
     refine Wk.seq ?_
     refine Wk.regionQ ?_
     refine Lq.run 1 rfl ?_
     refine Lq.op rfl rfl rfl (OpQ.lenS rfl Tryd.runUnderlying25 rfl) ?_
     refine Lq.run 1 rfl ?_
     refine Lq.nil ?_
     refine Kt.sel [6] [_] rfl ?_
     refine Wk.ret (Kt.end1 rfl rfl fun w' hw => ?_)
     -- ret 1: i6_ ((S.length : Int))
     first | exact ⟨ret_i (by unfold countC; rw [if_neg (by first | (simp_all; done) | (unfold inB at *; simp_all; done) | (unfold inB at *; simp_all; omega))]), hw.below⟩ | exact ⟨ret_i (by unfold countC; rw [if_pos (by unfold inB; simp [hV, h0, h3, h0r, h2r]), ← show k = a.n.toNat ^ W.toNat from by omega, hC.cls]), hw.below⟩
  ·
   replace hg20 := not_true hg20
   refine Lq.pass rfl rfl rfl ?_
   refine Lq.pass rfl rfl rfl ?_
   refine Lq.pass rfl rfl rfl ?_
   refine Lq.run 1 rfl ?_
   refine Lq.nil ?_
   refine Kt.sel [1, 2, 3, 7, 24] [_, _, _, _, _] rfl ?_
   refine Wk.condT rfl ?_
   refine Wk.seq ?_
   refine Wk.regionQ ?_
   refine Lq.run 1 rfl ?_
   refine Lq.nil ?_
   refine Kt.sel [6] [_] rfl ?_
   refine Wk.ret (Kt.end1 rfl rfl fun w' hw => ?_)
   -- ret 2: i6_ (-1)
   first | exact ⟨ret_i (by unfold countC; rw [if_neg (by first | (simp_all; done) | (unfold inB at *; simp_all; done) | (unfold inB at *; simp_all; omega))]), hw.below⟩ | exact ⟨ret_i (by unfold countC; rw [if_pos (by unfold inB; simp [hV, h0, h3, h0r, h2r]), ← show k = a.n.toNat ^ W.toNat from by omega, hC.cls]), hw.below⟩
 ·
  replace hg15 := not_true hg15
  refine Lq.pass rfl rfl rfl ?_
  refine Lq.pass rfl rfl rfl ?_
  refine Lq.pass rfl rfl rfl ?_
  refine Lq.run 2 rfl ?_
  refine Lq.pass rfl rfl rfl ?_
  refine Lq.pass rfl rfl rfl ?_
  refine Lq.pass rfl rfl rfl ?_
  refine Lq.run 1 rfl ?_
  refine Lq.nil ?_
  refine Kt.sel [1, 2, 3, 7, 24] [_, _, _, _, _] rfl ?_
  refine Wk.condT rfl ?_
  refine Wk.seq ?_
  refine Wk.regionQ ?_
  refine Lq.run 1 rfl ?_
  refine Lq.nil ?_
  refine Kt.sel [6] [_] rfl ?_
  refine Wk.ret (Kt.end1 rfl rfl fun w' hw => ?_)
  -- ret 3: i6_ (-1)
  first | exact ⟨ret_i (by unfold countC; rw [if_neg (by first | (simp_all; done) | (unfold inB at *; simp_all; done) | (unfold inB at *; simp_all; omega))]), hw.below⟩ | exact ⟨ret_i (by unfold countC; rw [if_pos (by unfold inB; simp [hV, h0, h3, h0r, h2r]), ← show k = a.n.toNat ^ W.toNat from by omega, hC.cls]), hw.below⟩

end Go.Proofs.YtmannilblelfjaaDoor
