/-
  Walks: classes counted.
-/
import Derived.Test.YtjcoijejhachhaaDoorCore4
import Derived.Test.YtjcoijejhachhaaDoorKindsM
import Derived.Test.YtjcoijejhachhaaDoorGamesM
import Derived.Test.YtjcoijejhachhaaDoorBase
namespace Go.Proofs.YtjcoijejhachhaaDoor
open Go.RowKit Go.Wk
set_option linter.unusedSimpArgs false

set_option maxHeartbeats 400000 in
/-- slices.Max[[]int,int] -/
theorem slMax_ok (va : Value) (xs : List Int) (w : World) (hva : Ints w va xs) (hne : 0 < xs.length) (hs : xs.length ≤ 100000) :
    Calls Tryd.prog 68 [va].toArray w fun en w' => en = .returned (.int .i64 (maxTo xs (xs.length - 1))) ∧ Below w.heap.size w w' := by
 refine fnStart (n := 25) (e := [(0, va)]) Tryd.func68 rfl rfl rfl rfl Ends.both ?_
 refine Wk.seq ?_
 refine Wk.regionQ ?_
 refine Lq.run 1 rfl ?_
 refine Lq.nil ?_
 refine Kt.sel [0] [_] rfl ?_
 refine Wk.seq ?_
 refine Wk.seq ?_
 refine Wk.regionQ ?_
 refine Lq.run 1 rfl ?_
 refine Lq.op (v := i6_ ((xs.length : Int))) rfl rfl rfl (OpQ.lenRow rfl Tryd.runUnderlying24 rfl (ints_length _) (fun w1 hw1 => Row.own hva hw1)) ?_
 refine Lq.run 1 rfl ?_
 refine Lq.nil ?_
 refine Kt.sel [0, 7] [_, _] rfl ?_
 refine Wk.cond (b := decide (((xs.length : Int)) < (1 : Int))) rfl (fun h7 => ?_) (fun h7 => ?_)
 ·
  replace h7 := of_decide_eq_true h7
  omega
 ·
  replace h7 := of_decide_eq_false h7
  refine Wk.skip ?_
  refine Kt.sel [0] [_] rfl ?_
  refine Wk.seq ?_
  refine Wk.regionQ ?_
  refine Lq.run 1 rfl ?_
  refine Lq.op (v := .pointer (some (sAt va 0))) rfl rfl rfl (OpQ.atRow rfl Tryd.runUnderlying24 Tryd.sizeOf3 rfl rfl (by omega) (by rw [ints_length]; omega) (fun w1 hw1 => Row.own hva hw1)) ?_
  refine Lq.op (v := i6_ (xs.getD ((0 : Int).toNat) 0)) rfl rfl rfl (OpQ.load1 rfl Tryd.isAgg3 rfl (fun w1 hw1 => Ints.cell (Row.own hva hw1) (by omega) (by omega))) ?_
  refine Lq.run 1 rfl ?_
  refine Lq.nil ?_
  refine Kt.sel [0, 3] [_, _] rfl ?_
  refine Wk.seq ?_
  refine Wk.seq ?_
  refine Wk.regionQ ?_
  refine Lq.run 1 rfl ?_
  refine Lq.nil ?_
  refine Kt.sel [0, 3, 4] [_, _, _] rfl ?_
  refine Wk.block ?_
  refine Wk.loop (σ := Nat) (fun k => k + 1 ≤ xs.length) (fun k => [(0, va), (3, i6_ (maxTo xs k)), (4, i6_ ((k : Int) + 1))]) (fun k => Own w.heap.size w []) (fun k => xs.length - k) (0) (by omega) (Sub.cons rfl (Sub.cons rfl (Sub.cons rfl Sub.nil))) (fun _ h => h) ?_
  rintro k hk
  refine Wk.seq ?_
  refine Wk.seq ?_
  refine Wk.regionQ ?_
  refine Lq.run 2 rfl ?_
  refine Lq.op (v := i6_ ((xs.length : Int))) rfl rfl rfl (OpQ.lenRow rfl Tryd.runUnderlying24 rfl (ints_length _) (fun w1 hw1 => Row.own hva hw1)) ?_
  refine Lq.run 1 rfl ?_
  refine Lq.nil ?_
  refine Kt.sel [0, 3, 4, 15] [_, _, _, _] rfl ?_
  refine Wk.cond (b := decide (((k : Int) + 1) < ((xs.length : Int)))) rfl (fun h15 => ?_) (fun h15 => ?_)
  ·
   replace h15 := of_decide_eq_true h15
   refine Wk.skip ?_
   refine Kt.sel [0, 3, 4] [_, _, _] rfl ?_
   refine Wk.seq ?_
   refine Wk.block ?_
   refine Wk.regionQ ?_
   refine Lq.run 3 rfl ?_
   refine Lq.op (v := .pointer (some (sAt va ((k : Int) + 1)))) rfl rfl rfl (OpQ.atRow rfl Tryd.runUnderlying24 Tryd.sizeOf3 rfl rfl (by omega) (by rw [ints_length]; omega) (fun w1 hw1 => Row.own hva hw1)) ?_
   refine Lq.op (v := i6_ (xs.getD (k + 1) 0)) rfl rfl rfl (OpQ.cast (by rw [show ((k : Int) + 1).toNat = k + 1 from by omega]) (OpQ.load1 rfl Tryd.isAgg3 rfl (fun w1 hw1 => Ints.cell (Row.own hva hw1) (by omega) (by omega)))) ?_
   refine Lq.op (v := i6_ (if (xs.getD (k + 1) 0) > (maxTo xs k) then (xs.getD (k + 1) 0) else (maxTo xs k))) rfl rfl rfl (OpQ.max2 rfl rfl rfl) ?_
   refine Lq.run 1 rfl ?_
   refine Lq.nil ?_
   refine Kt.sel [0, 3, 4] [_, _, _] rfl ?_
   refine Wk.regionQ ?_
   refine Lq.run 1 rfl ?_
   refine Lq.op rfl rfl rfl (OpQ.add rfl rfl rfl (by omega) (by omega)) ?_
   refine Lq.run 1 rfl ?_
   refine Lq.nil ?_
   refine Kt.again (k + 1) (by omega) (by omega) (Sub.cons rfl (Sub.cons (by rw [maxTo]; rfl) (Sub.cons (by simp [List.lookup]) Sub.nil))) (fun _ h => h)
  ·
   replace h15 := of_decide_eq_false h15
   refine Wk.exit rfl ?_
   refine Kt.sel [3] [_] rfl ?_
   refine Wk.seq ?_
   refine Wk.regionQ ?_
   refine Lq.run 2 rfl ?_
   refine Lq.nil ?_
   refine Kt.sel [2] [_] rfl ?_
   refine Wk.ret (Kt.end1 rfl rfl fun w' hw => ?_)
   -- ret 0: i6_ (maxTo xs k)
   exact ⟨ret_i (by rw [show xs.length - 1 = k from by omega]), hw.below⟩

set_option maxHeartbeats 400000 in
/-- impl.classesBy -/
theorem classesBy_ok (N : Int) (w : World) (hN : N ≤ 100000) (F : FuncId) (caps : Array Value) (q : Nat → Nat → Bool) (hF : ∀ args w, (callFunc F args).run Tryd.prog w = .ok (.enter F args) w) (hq : ∀ w1, Below w.heap.size w w1 → ∀ y x : Nat, y < N.toNat → x < N.toNat → Calls Tryd.prog F (#[.int .i64 y, .int .i64 x] ++ caps) w1 fun en w' => en = .returned (.bool (q y x)) ∧ Below w1.heap.size w1 w') :
    Calls Tryd.prog 66 [i6_ N, .func (.func F) #[] caps].toArray w fun en w' => ∃ v, en = .returned v ∧ Below w.heap.size w w' ∧ NewRow w.heap.size 3 1 w' v (clsN q N.toNat).1.length (ints (clsN q N.toNat).1) := by
 refine fnStart (n := 39) (e := [(0, i6_ N), (1, .func (.func F) #[] caps)]) Tryd.func66 rfl rfl rfl rfl Ends.both ?_
 refine Wk.seq ?_
 refine Wk.regionQ ?_
 refine Lq.run 1 rfl ?_
 refine Lq.nil ?_
 refine Kt.sel [0, 1] [_, _] rfl ?_
 refine Wk.seq ?_
 refine Wk.region ?_
 refine Ll.slice (xs := []) (vs := []) Base.elem24 rfl rfl rfl rfl rfl rfl (by decide) rfl fun p10 hp10 => ?_
 refine Ll.run 1 rfl ?_
 refine Ll.nil ?_
 refine Kt.sel [0, 1, 5] [_, _, _] rfl ?_
 refine Wk.seq ?_
 refine Wk.regionQ ?_
 refine Lq.run 1 rfl ?_
 refine Lq.nil ?_
 refine Kt.sel [0, 1, 5, 6] [_, _, _, _] rfl ?_
 refine Wk.seq ?_
 refine Wk.seq ?_
 refine Wk.regionQ ?_
 refine Lq.run 2 rfl ?_
 refine Lq.nil ?_
 refine Kt.sel [1, 5, 6, 11, 12] [_, _, _, _, _] rfl ?_
 refine Wk.block ?_
 refine Wk.loop (σ := Nat × Nat × Nat × Array Value) (fun ⟨x, g, c, cur⟩ => x ≤ N.toNat ∧ cur.size = c * 1 ∧ (clsN q x).1.length ≤ c ∧ cur.toList.take (clsN q x).1.length = ints (clsN q x).1) (fun ⟨x, g, c, cur⟩ => [(1, .func (.func F) #[] caps), (5, sl_ g ((clsN q x).1.length) c), (6, i6_ (((clsN q x).2 : Int))), (11, i6_ N), (12, i6_ ((x : Int)))]) (fun ⟨x, g, c, cur⟩ => Own w.heap.size w [bk_ g cur 3]) (fun ⟨x, g, c, cur⟩ => N.toNat - x) ((0, p10, 0, #[])) ⟨by omega, rfl, Nat.le_refl 0, rfl⟩ (Sub.sel [1, 5, 6, 11, 12] rfl) (fun _ h => h) ?_
 rintro ⟨x, g, c, cur⟩ ⟨hx, hc, hle, ht⟩
 dsimp only
 have hxl := cls_length q x
 have hxs := (cls_small q x).1
 refine Wk.seq ?_
 refine Wk.regionQ ?_
 refine Lq.run 1 rfl ?_
 refine Lq.nil ?_
 refine Kt.sel [1, 5, 6, 11, 12, 13] [_, _, _, _, _, _] rfl ?_
 refine Wk.seq ?_
 refine Wk.cond (b := decide (((x : Int)) < N)) rfl (fun h13 => ?_) (fun h13 => ?_)
 ·
  replace h13 := of_decide_eq_true h13
  refine Wk.skip ?_
  refine Kt.sel [1, 5, 6, 11, 12] [_, _, _, _, _] rfl ?_
  refine Wk.seq ?_
  refine Wk.block ?_
  refine Wk.seq ?_
  refine Wk.regionQ ?_
  refine Lq.run 2 rfl ?_
  refine Lq.nil ?_
  refine Kt.sel [1, 5, 6, 7, 11, 12] [_, _, _, _, _, _] rfl ?_
  refine Wk.seq ?_
  refine Wk.regionQ ?_
  refine Lq.run 1 rfl ?_
  refine Lq.nil ?_
  refine Kt.sel [1, 5, 6, 7, 8, 11, 12] [_, _, _, _, _, _, _] rfl ?_
  refine Wk.seq ?_
  refine Wk.seq ?_
  refine Wk.regionQ ?_
  refine Lq.run 2 rfl ?_
  refine Lq.nil ?_
  refine Kt.sel [1, 5, 6, 7, 8, 11, 12, 15, 16] [_, _, _, _, _, _, _, _, _] rfl ?_
  refine Wk.block ?_
  refine Wk.loop (σ := Nat) (fun y => y ≤ x ∧ ∀ i : Nat, i < y → q i x = false) (fun y => [(1, .func (.func F) #[] caps), (5, sl_ g ((clsN q x).1.length) c), (6, i6_ (((clsN q x).2 : Int))), (7, i6_ ((x : Int))), (8, i6_ (-1)), (11, i6_ N), (12, i6_ ((x : Int))), (15, i6_ ((x : Int))), (16, i6_ ((y : Int)))]) (fun y => Own w.heap.size w [bk_ g cur 3]) (fun y => x - y) (0) ⟨by omega, fun i hi => absurd hi (by omega)⟩ (Sub.sel [1, 5, 6, 7, 8, 11, 12, 15, 16] rfl) (fun _ h => h) ?_
  rintro y ⟨hy, hall2⟩
  refine Wk.seq ?_
  refine Wk.regionQ ?_
  refine Lq.run 1 rfl ?_
  refine Lq.nil ?_
  refine Kt.sel [1, 5, 6, 7, 8, 11, 12, 15, 16, 17] [_, _, _, _, _, _, _, _, _, _] rfl ?_
  refine Wk.seq ?_
  refine Wk.cond (b := decide (((y : Int)) < ((x : Int)))) rfl (fun h17 => ?_) (fun h17 => ?_)
  ·
   replace h17 := of_decide_eq_true h17
   refine Wk.skip ?_
   refine Kt.sel [1, 5, 6, 7, 8, 11, 12, 15, 16] [_, _, _, _, _, _, _, _, _] rfl ?_
   refine Wk.seq ?_
   refine Wk.block ?_
   refine Wk.seq ?_
   refine Wk.regionQ ?_
   refine Lq.run 2 rfl ?_
   refine Lq.nil ?_
   refine Kt.sel [1, 5, 6, 7, 8, 9, 11, 12, 15, 16] [_, _, _, _, _, _, _, _, _, _] rfl ?_
   refine Wk.seq ?_
   refine Wk.regionQ ?_
   refine Lq.run 3 rfl ?_
   refine Lq.op (v := bo_ (q y x)) rfl rfl rfl (OpQ.callFn rfl rfl hF rfl Own.stable (fun w1 hw1 => hq w1 hw1.below y x (by omega) (by omega))) ?_
   refine Lq.nil ?_
   refine Kt.sel [1, 5, 6, 7, 8, 9, 11, 12, 15, 16, 22] [_, _, _, _, _, _, _, _, _, _, _] rfl ?_
   refine Wk.cond (b := q y x) rfl (fun h22 => ?_) (fun h22 => ?_)
   ·
    have hyx : y < x := by omega
    have hyn := cls_at (q := q) hyx
    refine Wk.seq ?_
    refine Wk.regionQ ?_
    refine Lq.run 2 rfl ?_
    refine Lq.op (v := pf_ g y) rfl rfl rfl (OpQ.cast (v' := pf_ g y) (by simp) (OpQ.indexAddr1 (i := (y : Int)) rfl Tryd.runUnderlying24 Tryd.sizeOf3 rfl rfl (by omega) (by omega))) ?_
    refine Lq.op (v := i6_ ((clsN q x).1.getD (y) 0)) rfl rfl rfl (OpQ.loadAt 0 rfl Tryd.isAgg3 rfl rfl (cur_at ht (ints_at2 (by omega)))) ?_
    refine Lq.run 1 rfl ?_
    refine Lq.nil ?_
    refine Kt.sel [1, 5, 6, 8, 11, 12] [_, _, _, _, _, _] rfl ?_
    refine Wk.exit rfl ?_
    refine Kt.sel [1, 5, 6, 8, 11, 12] [_, _, _, _, _, _] rfl ?_
    refine Wk.seq ?_
    refine Wk.seq ?_
    refine Wk.regionQ ?_
    refine Lq.run 2 rfl ?_
    refine Lq.nil ?_
    refine Kt.sel [1, 5, 6, 8, 11, 12, 29] [_, _, _, _, _, _, _] rfl ?_
    refine Wk.cond (b := decide (((clsN q x).1.getD (y) 0) < (0 : Int))) rfl (fun h29 => ?_) (fun h29 => ?_)
    ·
     replace h29 := of_decide_eq_true h29
     omega
    ·
     replace h29 := of_decide_eq_false h29
     refine Wk.skip ?_
     refine Kt.sel [1, 5, 6, 8, 11, 12] [_, _, _, _, _, _] rfl ?_
     refine Wk.region ?_
     refine Ll.run 2 rfl ?_
     refine Ll.slice (xs := [.tmp 34]) (vs := [i6_ ((clsN q x).1.getD (y) 0)]) Base.elem24 rfl rfl rfl rfl rfl rfl (by decide) rfl fun p35 hp35 => ?_
     refine Ll.appendInts (xs := (clsN q x).1) (ys := [(clsN q x).1.getD (y) 0]) Base.elem24 1 rfl rfl rfl rfl rfl rfl rfl hc hle ht (fun w1 hw1 => (Own.row hw1 (i := 0) rfl (n := 1) (cap := 1) (vs := ints [(clsN q x).1.getD (y) 0]) rfl rfl (by decide))) ((((clsN q x).1) ++ ([(clsN q x).1.getD (y) 0])).length) (by first | (simp; done) | (simp; omega)) (by first | (simp; done) | (simp; omega) | omega) fun p36 cap36 cur36 hp36 hcp36 hlp36 htp36 => ?_
     show Ll _ _ (Own _ _ [_, _]) _ _ ((36, sl_ p36 (((((clsN q x).1) ++ ([(clsN q x).1.getD (y) 0])).length)) cap36) :: _) _ _ _
     refine Ll.run 1 rfl ?_
     refine Ll.nil ?_
     refine Kt.sel [1, 5, 6, 11, 12] [_, _, _, _, _] rfl ?_
     refine Wk.regionQ ?_
     refine Lq.op rfl rfl rfl (OpQ.add rfl rfl rfl (by omega) (by omega)) ?_
     refine Lq.run 1 rfl ?_
     refine Lq.nil ?_
     refine Kt.again ((x + 1, p36, cap36, cur36)) ⟨by omega, by simpa using hcp36, by rw [cls_old hyx hall2 h22]; exact hlp36, by rw [cls_old hyx hall2 h22]; simpa using htp36⟩ (by omega) (Sub.cons rfl (Sub.cons (by rw [cls_old hyx hall2 h22]; rfl) (Sub.cons (by rw [cls_old hyx hall2 h22]; first | rfl | (simp [List.lookup]; done)) (Sub.sel [11, 12] rfl)))) (fun _ h => h.tail)
   ·
    refine Wk.skip ?_
    refine Kt.sel [1, 5, 6, 7, 8, 11, 12, 15, 16] [_, _, _, _, _, _, _, _, _] rfl ?_
    refine Wk.regionQ ?_
    refine Lq.op rfl rfl rfl (OpQ.add rfl rfl rfl (by omega) (by omega)) ?_
    refine Lq.run 1 rfl ?_
    refine Lq.nil ?_
    refine Kt.again (y + 1) ⟨by omega, fun i hi => (Nat.lt_succ_iff_lt_or_eq.1 hi).elim (hall2 i) (fun e => by subst e; simpa using h22)⟩ (by omega) (Sub.sel [1, 5, 6, 7, 8, 11, 12, 15, 16] rfl) (fun _ h => h)
  ·
   replace h17 := of_decide_eq_false h17
   refine Wk.exit rfl ?_
   refine Kt.sel [1, 5, 6, 8, 11, 12] [_, _, _, _, _, _] rfl ?_
   refine Wk.seq ?_
   refine Wk.seq ?_
   refine Wk.regionQ ?_
   refine Lq.run 2 rfl ?_
   refine Lq.nil ?_
   refine Kt.sel [1, 5, 6, 8, 11, 12, 29] [_, _, _, _, _, _, _] rfl ?_
   refine Wk.cond (b := decide ((-1 : Int) < (0 : Int))) rfl (fun h29_1 => ?_) (fun h29_1 => ?_)
   ·
    replace h29_1 := of_decide_eq_true h29_1
    refine Wk.seq ?_
    refine Wk.regionQ ?_
    refine Lq.run 2 rfl ?_
    refine Lq.nil ?_
    refine Kt.sel [1, 5, 6, 8, 11, 12] [_, _, _, _, _, _] rfl ?_
    refine Wk.regionQ ?_
    refine Lq.run 1 rfl ?_
    refine Lq.op rfl rfl rfl (OpQ.add rfl rfl rfl (by omega) (by omega)) ?_
    refine Lq.run 1 rfl ?_
    refine Lq.nil ?_
    refine Kt.sel [1, 5, 6, 8, 11, 12] [_, _, _, _, _, _] rfl ?_
    refine Wk.region ?_
    refine Ll.run 2 rfl ?_
    refine Ll.slice (xs := [.tmp 34]) (vs := [i6_ (((clsN q x).2 : Int))]) Base.elem24 rfl rfl rfl rfl rfl rfl (by decide) rfl fun p35_1 hp35_1 => ?_
    refine Ll.appendInts (xs := (clsN q x).1) (ys := [((clsN q x).2 : Int)]) Base.elem24 1 rfl rfl rfl rfl rfl rfl rfl hc hle ht (fun w1 hw1 => (Own.row hw1 (i := 0) rfl (n := 1) (cap := 1) (vs := ints [((clsN q x).2 : Int)]) rfl rfl (by decide))) ((((clsN q x).1) ++ ([((clsN q x).2 : Int)])).length) (by first | (simp; done) | (simp; omega)) (by first | (simp; done) | (simp; omega) | omega) fun p36_1 cap36_1 cur36_1 hp36_1 hcp36_1 hlp36_1 htp36_1 => ?_
    show Ll _ _ (Own _ _ [_, _]) _ _ ((36, sl_ p36_1 (((((clsN q x).1) ++ ([((clsN q x).2 : Int)])).length)) cap36_1) :: _) _ _ _
    refine Ll.run 1 rfl ?_
    refine Ll.nil ?_
    refine Kt.sel [1, 5, 6, 11, 12] [_, _, _, _, _] rfl ?_
    refine Wk.regionQ ?_
    refine Lq.op rfl rfl rfl (OpQ.add rfl rfl rfl (by omega) (by omega)) ?_
    refine Lq.run 1 rfl ?_
    refine Lq.nil ?_
    refine Kt.again ((x + 1, p36_1, cap36_1, cur36_1)) ⟨by omega, by simpa using hcp36_1, by rw [cls_new (fun i hi => hall2 i (by omega))]; exact hlp36_1, by rw [cls_new (fun i hi => hall2 i (by omega))]; simpa using htp36_1⟩ (by omega) (Sub.cons rfl (Sub.cons (by rw [cls_new (fun i hi => hall2 i (by omega))]; rfl) (Sub.cons (by rw [cls_new (fun i hi => hall2 i (by omega))]; first | rfl | (simp [List.lookup]; done)) (Sub.sel [11, 12] rfl)))) (fun _ h => h.tail)
   ·
    replace h29_1 := of_decide_eq_false h29_1
    exact absurd (by decide) h29_1
 ·
  replace h13 := of_decide_eq_false h13
  refine Wk.exit rfl ?_
  refine Kt.sel [5] [_] rfl ?_
  refine Wk.seq ?_
  refine Wk.regionQ ?_
  refine Lq.run 2 rfl ?_
  refine Lq.nil ?_
  refine Kt.sel [4] [_] rfl ?_
  refine Wk.ret (Kt.end1 rfl rfl fun w' hw => ?_)
  -- ret 0: sl_ g ((clsN q x).1.length) c
  obtain rfl : x = N.toNat := by omega
  exact ⟨_, rfl, hw.below, hw.newRow (i := 0) (n := _) rfl hc hle (by simpa using ht)⟩

end Go.Proofs.YtjcoijejhachhaaDoor
