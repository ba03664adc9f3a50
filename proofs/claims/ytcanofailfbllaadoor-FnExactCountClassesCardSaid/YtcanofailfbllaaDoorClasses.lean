/-
  Classes of elements, by walks.
-/
import Derived.Test.YtcanofailfbllaaDoorPlain18
import Derived.Test.YtcanofailfbllaaDoorGames
import Derived.Test.YtcanofailfbllaaDoorBase
namespace Go.Proofs.YtcanofailfbllaaDoor
open Go.RowKit Go.Wk
set_option linter.unusedSimpArgs false

set_option maxHeartbeats 400000 in
/-- impl.ClassesOf$1 -/
theorem cls1_ok (a : St) (g h T1 T2 : Nat) (r x y : Int) (w : World) (hg : w.heap[g]? = some (.cells #[.int .i64 a.n, str a.set, str a.rel] T1 (0, 0))) (hh : w.heap[h]? = some (.cells #[.int .i64 r] T2 (0, 0))) (ha : a.Fine) (h0 : 0 ≤ r) (h3 : r ≤ 3) (hx : a.El x) (hy : a.El y) :
    Calls Tryd.prog 73 [.int .i64 x, .int .i64 y, .pointer (some ⟨g, 0, none⟩), .pointer (some ⟨h, 0, none⟩)].toArray w fun en w' => en = .returned (.bool (winB r.toNat a [x] a [y])) ∧ Below w.heap.size w w' := by
  refine fnStart (n := 15) (e := [(0, .int .i64 x), (1, .int .i64 y), (2, .pointer (some ⟨g, 0, none⟩)), (3, .pointer (some ⟨h, 0, none⟩))]) Tryd.func73 rfl rfl rfl rfl Ends.both ?_
  refine Wk.seq ?_
  refine Wk.regionQ ?_
  refine Lq.op (v := .bool false) rfl rfl rfl (OpQ.assign rfl rfl) ?_
  refine Lq.nil ?_
  refine Kt.onSub (e' := [(0, .int .i64 x), (1, .int .i64 y), (2, .pointer (some ⟨g, 0, none⟩)), (3, .pointer (some ⟨h, 0, none⟩))]) (Sub.cons rfl (Sub.cons rfl (Sub.cons rfl (Sub.cons rfl Sub.nil)))) ?_
  refine Wk.seq ?_
  refine Wk.region ?_
  refine Ll.op (v := vS a) rfl rfl rfl (OpQ.loadN (cs := #[.int .i64 a.n, str a.set, str a.rel]) rfl Tryd.isAgg26 Tryd.sizeOf26 rfl (fun w1 hw1 j v hj => box_cells hg hw1 j v hj)) ?_
  refine Ll.op (v := .int .i64 x) rfl rfl rfl (OpQ.move rfl rfl) ?_
  refine Ll.slice (xs := [.tmp 8]) (vs := [.int .i64 x]) Base.elem31 rfl rfl rfl rfl rfl rfl (by decide) rfl fun p9 hp9 => ?_
  refine Ll.op (v := vS a) rfl rfl rfl (OpQ.loadN (cs := #[.int .i64 a.n, str a.set, str a.rel]) rfl Tryd.isAgg26 Tryd.sizeOf26 rfl (fun w1 hw1 j v hj => box_cells hg hw1 j v hj)) ?_
  refine Ll.op (v := .int .i64 y) rfl rfl rfl (OpQ.move rfl rfl) ?_
  refine Ll.slice (xs := [.tmp 11]) (vs := [.int .i64 y]) Base.elem31 rfl rfl rfl rfl rfl rfl (by decide) rfl fun p12 hp12 => ?_
  refine Ll.op (v := .int .i64 r) rfl rfl rfl (OpQ.load1 rfl Tryd.isAgg3 rfl (fun w1 hw1 => by have := box_cells hh hw1 0 (.int .i64 r) rfl; rwa [Addr.add_lit] at this)) ?_
  refine Ll.op (v := .bool (winB r.toNat a ([x]) a ([y]))) rfl rfl rfl (OpQ.call rfl Tryd.call63 rfl Own.stable (fun w1 hw1 => wins_ok a a ([x]) ([y]) (.slice (some ⟨p9, 0, none⟩) 1 1) (.slice (some ⟨p12, 0, none⟩) 1 1) w1 ha ha (Own.row hw1 (i := 1) rfl (n := 1) (cap := 1) (vs := ints [x]) rfl rfl (by decide)) (Own.row hw1 (i := 0) rfl (n := 1) (cap := 1) (vs := ints [y]) rfl rfl (by decide)) (els_one hx) (els_one hy) rfl (by simp) r (by omega) (by omega))) ?_
  refine Ll.op (v := .bool (winB r.toNat a ([x]) a ([y]))) rfl rfl rfl (OpQ.assign rfl rfl) ?_
  refine Ll.nil ?_
  refine Kt.onSub (e' := [(6, .bool (winB r.toNat a ([x]) a ([y])))]) (Sub.cons rfl Sub.nil) ?_
  refine Wk.ret (Kt.end1 rfl rfl fun w' hw => ?_)
  -- ret 0: .bool (winB r.toNat a ([x]) a ([y]))
  exact ⟨rfl, hw.below⟩

set_option maxHeartbeats 400000 in
/-- impl.classesBy -/
theorem classesBy_ok (N : Int) (w : World) (hN : N ≤ 100000) (F : FuncId) (caps : Array Value) (q : Nat → Nat → Bool) (hF : ∀ args w, (callFunc F args).run Tryd.prog w = .ok (.enter F args) w) (hq : ∀ w1, Below w.heap.size w w1 → ∀ y x : Nat, y < N.toNat → x < N.toNat → Calls Tryd.prog F (#[.int .i64 y, .int .i64 x] ++ caps) w1 fun en w' => en = .returned (.bool (q y x)) ∧ Below w1.heap.size w1 w') :
    Calls Tryd.prog 70 [.int .i64 N, .func (.func F) #[] caps].toArray w fun en w' => ∃ v, en = .returned v ∧ Below w.heap.size w w' ∧ NewRow w.heap.size 3 1 w' v (clsN q N.toNat).1.length (ints (clsN q N.toNat).1) := by
  refine fnStart (n := 39) (e := [(0, .int .i64 N), (1, .func (.func F) #[] caps)]) Tryd.func70 rfl rfl rfl rfl Ends.both ?_
  refine Wk.seq ?_
  refine Wk.regionQ ?_
  refine Lq.op (v := .slice none 0 0) rfl rfl rfl (OpQ.assign rfl rfl) ?_
  refine Lq.nil ?_
  refine Kt.onSub (e' := [(0, .int .i64 N), (1, .func (.func F) #[] caps)]) (Sub.cons rfl (Sub.cons rfl Sub.nil)) ?_
  refine Wk.seq ?_
  refine Wk.region ?_
  refine Ll.slice (xs := []) (vs := []) Base.elem31 rfl rfl rfl rfl rfl rfl (by decide) rfl fun p10 hp10 => ?_
  refine Ll.op (v := .slice (some ⟨p10, 0, none⟩) 0 0) rfl rfl rfl (OpQ.assign rfl rfl) ?_
  refine Ll.nil ?_
  refine Kt.onSub (e' := [(0, .int .i64 N), (1, .func (.func F) #[] caps), (5, .slice (some ⟨p10, 0, none⟩) 0 0)]) (Sub.cons rfl (Sub.cons rfl (Sub.cons rfl Sub.nil))) ?_
  refine Wk.seq ?_
  refine Wk.regionQ ?_
  refine Lq.op (v := .int .i64 0) rfl rfl rfl (OpQ.assign rfl rfl) ?_
  refine Lq.nil ?_
  refine Kt.onSub (e' := [(0, .int .i64 N), (1, .func (.func F) #[] caps), (5, .slice (some ⟨p10, 0, none⟩) 0 0), (6, .int .i64 0)]) (Sub.cons rfl (Sub.cons rfl (Sub.cons rfl (Sub.cons rfl Sub.nil)))) ?_
  refine Wk.seq ?_
  refine Wk.seq ?_
  refine Wk.regionQ ?_
  refine Lq.op (v := .int .i64 N) rfl rfl rfl (OpQ.move rfl rfl) ?_
  refine Lq.op (v := .int .i64 0) rfl rfl rfl (OpQ.move rfl rfl) ?_
  refine Lq.nil ?_
  refine Kt.onSub (e' := [(1, .func (.func F) #[] caps), (5, .slice (some ⟨p10, 0, none⟩) 0 0), (6, .int .i64 0), (11, .int .i64 N), (12, .int .i64 0)]) (Sub.cons rfl (Sub.cons rfl (Sub.cons rfl (Sub.cons rfl (Sub.cons rfl Sub.nil))))) ?_
  refine Wk.block ?_
  refine Wk.loop (σ := Nat × Nat × Nat × Array Value) (fun ⟨x, g, c, cur⟩ => x ≤ N.toNat ∧ cur.size = c * 1 ∧ (clsN q x).1.length ≤ c ∧ cur.toList.take (clsN q x).1.length = ints (clsN q x).1) (fun ⟨x, g, c, cur⟩ => [(1, .func (.func F) #[] caps), (5, .slice (some ⟨g, 0, none⟩) ((clsN q x).1.length) c), (6, .int .i64 (((clsN q x).2 : Int))), (11, .int .i64 N), (12, .int .i64 ((x : Int)))]) (fun ⟨x, g, c, cur⟩ => Own w.heap.size w [(g, .cells cur 3 (0, 0))]) (fun ⟨x, g, c, cur⟩ => N.toNat - x) ((0, p10, 0, #[])) ⟨by omega, rfl, Nat.le_refl 0, rfl⟩ (Sub.cons rfl (Sub.cons rfl (Sub.cons rfl (Sub.cons rfl (Sub.cons rfl Sub.nil))))) (fun _ h => h) ?_
  rintro ⟨x, g, c, cur⟩ ⟨hx, hc, hle, ht⟩
  dsimp only
  have hxl := cls_length q x
  have hxs := (cls_small q x).1
  refine Wk.seq ?_
  refine Wk.regionQ ?_
  refine Lq.op (v := .bool (decide (((x : Int)) < N))) rfl rfl rfl (OpQ.lss rfl rfl rfl) ?_
  refine Lq.nil ?_
  refine Kt.onSub (e' := [(1, .func (.func F) #[] caps), (5, .slice (some ⟨g, 0, none⟩) ((clsN q x).1.length) c), (6, .int .i64 (((clsN q x).2 : Int))), (11, .int .i64 N), (12, .int .i64 ((x : Int))), (13, .bool (decide (((x : Int)) < N)))]) (Sub.cons rfl (Sub.cons rfl (Sub.cons rfl (Sub.cons rfl (Sub.cons rfl (Sub.cons rfl Sub.nil)))))) ?_
  refine Wk.seq ?_
  refine Wk.cond (b := decide (((x : Int)) < N)) rfl (fun h13 => ?_) (fun h13 => ?_)
  · skip
    replace h13 := of_decide_eq_true h13
    refine Wk.skip ?_
    refine Kt.onSub (e' := [(1, .func (.func F) #[] caps), (5, .slice (some ⟨g, 0, none⟩) ((clsN q x).1.length) c), (6, .int .i64 (((clsN q x).2 : Int))), (11, .int .i64 N), (12, .int .i64 ((x : Int)))]) (Sub.cons rfl (Sub.cons rfl (Sub.cons rfl (Sub.cons rfl (Sub.cons rfl Sub.nil))))) ?_
    refine Wk.seq ?_
    refine Wk.block ?_
    refine Wk.seq ?_
    refine Wk.regionQ ?_
    refine Lq.op (v := .int .i64 ((x : Int))) rfl rfl rfl (OpQ.move rfl rfl) ?_
    refine Lq.op (v := .int .i64 ((x : Int))) rfl rfl rfl (OpQ.assign rfl rfl) ?_
    refine Lq.nil ?_
    refine Kt.onSub (e' := [(1, .func (.func F) #[] caps), (5, .slice (some ⟨g, 0, none⟩) ((clsN q x).1.length) c), (6, .int .i64 (((clsN q x).2 : Int))), (7, .int .i64 ((x : Int))), (11, .int .i64 N), (12, .int .i64 ((x : Int)))]) (Sub.cons rfl (Sub.cons rfl (Sub.cons rfl (Sub.cons rfl (Sub.cons rfl (Sub.cons rfl Sub.nil)))))) ?_
    refine Wk.seq ?_
    refine Wk.regionQ ?_
    refine Lq.op (v := .int .i64 (-1)) rfl rfl rfl (OpQ.assign rfl rfl) ?_
    refine Lq.nil ?_
    refine Kt.onSub (e' := [(1, .func (.func F) #[] caps), (5, .slice (some ⟨g, 0, none⟩) ((clsN q x).1.length) c), (6, .int .i64 (((clsN q x).2 : Int))), (7, .int .i64 ((x : Int))), (8, .int .i64 (-1)), (11, .int .i64 N), (12, .int .i64 ((x : Int)))]) (Sub.cons rfl (Sub.cons rfl (Sub.cons rfl (Sub.cons rfl (Sub.cons rfl (Sub.cons rfl (Sub.cons rfl Sub.nil))))))) ?_
    refine Wk.seq ?_
    refine Wk.seq ?_
    refine Wk.regionQ ?_
    refine Lq.op (v := .int .i64 ((x : Int))) rfl rfl rfl (OpQ.move rfl rfl) ?_
    refine Lq.op (v := .int .i64 0) rfl rfl rfl (OpQ.move rfl rfl) ?_
    refine Lq.nil ?_
    refine Kt.onSub (e' := [(1, .func (.func F) #[] caps), (5, .slice (some ⟨g, 0, none⟩) ((clsN q x).1.length) c), (6, .int .i64 (((clsN q x).2 : Int))), (7, .int .i64 ((x : Int))), (8, .int .i64 (-1)), (11, .int .i64 N), (12, .int .i64 ((x : Int))), (15, .int .i64 ((x : Int))), (16, .int .i64 0)]) (Sub.cons rfl (Sub.cons rfl (Sub.cons rfl (Sub.cons rfl (Sub.cons rfl (Sub.cons rfl (Sub.cons rfl (Sub.cons rfl (Sub.cons rfl Sub.nil))))))))) ?_
    refine Wk.block ?_
    refine Wk.loop (σ := Nat) (fun y => y ≤ x ∧ ∀ i : Nat, i < y → q i x = false) (fun y => [(1, .func (.func F) #[] caps), (5, .slice (some ⟨g, 0, none⟩) ((clsN q x).1.length) c), (6, .int .i64 (((clsN q x).2 : Int))), (7, .int .i64 ((x : Int))), (8, .int .i64 (-1)), (11, .int .i64 N), (12, .int .i64 ((x : Int))), (15, .int .i64 ((x : Int))), (16, .int .i64 ((y : Int)))]) (fun y => Own w.heap.size w [(g, .cells cur 3 (0, 0))]) (fun y => x - y) (0) ⟨by omega, fun i hi => absurd hi (by omega)⟩ (Sub.cons rfl (Sub.cons rfl (Sub.cons rfl (Sub.cons rfl (Sub.cons rfl (Sub.cons rfl (Sub.cons rfl (Sub.cons rfl (Sub.cons rfl Sub.nil))))))))) (fun _ h => h) ?_
    rintro y ⟨hy, hall2⟩
    refine Wk.seq ?_
    refine Wk.regionQ ?_
    refine Lq.op (v := .bool (decide (((y : Int)) < ((x : Int))))) rfl rfl rfl (OpQ.lss rfl rfl rfl) ?_
    refine Lq.nil ?_
    refine Kt.onSub (e' := [(1, .func (.func F) #[] caps), (5, .slice (some ⟨g, 0, none⟩) ((clsN q x).1.length) c), (6, .int .i64 (((clsN q x).2 : Int))), (7, .int .i64 ((x : Int))), (8, .int .i64 (-1)), (11, .int .i64 N), (12, .int .i64 ((x : Int))), (15, .int .i64 ((x : Int))), (16, .int .i64 ((y : Int))), (17, .bool (decide (((y : Int)) < ((x : Int)))))]) (Sub.cons rfl (Sub.cons rfl (Sub.cons rfl (Sub.cons rfl (Sub.cons rfl (Sub.cons rfl (Sub.cons rfl (Sub.cons rfl (Sub.cons rfl (Sub.cons rfl Sub.nil)))))))))) ?_
    refine Wk.seq ?_
    refine Wk.cond (b := decide (((y : Int)) < ((x : Int)))) rfl (fun h17 => ?_) (fun h17 => ?_)
    · skip
      replace h17 := of_decide_eq_true h17
      refine Wk.skip ?_
      refine Kt.onSub (e' := [(1, .func (.func F) #[] caps), (5, .slice (some ⟨g, 0, none⟩) ((clsN q x).1.length) c), (6, .int .i64 (((clsN q x).2 : Int))), (7, .int .i64 ((x : Int))), (8, .int .i64 (-1)), (11, .int .i64 N), (12, .int .i64 ((x : Int))), (15, .int .i64 ((x : Int))), (16, .int .i64 ((y : Int)))]) (Sub.cons rfl (Sub.cons rfl (Sub.cons rfl (Sub.cons rfl (Sub.cons rfl (Sub.cons rfl (Sub.cons rfl (Sub.cons rfl (Sub.cons rfl Sub.nil))))))))) ?_
      refine Wk.seq ?_
      refine Wk.block ?_
      refine Wk.seq ?_
      refine Wk.regionQ ?_
      refine Lq.op (v := .int .i64 ((y : Int))) rfl rfl rfl (OpQ.move rfl rfl) ?_
      refine Lq.op (v := .int .i64 ((y : Int))) rfl rfl rfl (OpQ.assign rfl rfl) ?_
      refine Lq.nil ?_
      refine Kt.onSub (e' := [(1, .func (.func F) #[] caps), (5, .slice (some ⟨g, 0, none⟩) ((clsN q x).1.length) c), (6, .int .i64 (((clsN q x).2 : Int))), (7, .int .i64 ((x : Int))), (8, .int .i64 (-1)), (9, .int .i64 ((y : Int))), (11, .int .i64 N), (12, .int .i64 ((x : Int))), (15, .int .i64 ((x : Int))), (16, .int .i64 ((y : Int)))]) (Sub.cons rfl (Sub.cons rfl (Sub.cons rfl (Sub.cons rfl (Sub.cons rfl (Sub.cons rfl (Sub.cons rfl (Sub.cons rfl (Sub.cons rfl (Sub.cons rfl Sub.nil)))))))))) ?_
      refine Wk.seq ?_
      refine Wk.regionQ ?_
      refine Lq.op (v := .func (.func F) #[] caps) rfl rfl rfl (OpQ.move rfl rfl) ?_
      refine Lq.op (v := .int .i64 ((y : Int))) rfl rfl rfl (OpQ.move rfl rfl) ?_
      refine Lq.op (v := .int .i64 ((x : Int))) rfl rfl rfl (OpQ.move rfl rfl) ?_
      refine Lq.op (v := .bool (q y x)) rfl rfl rfl (OpQ.callFn rfl rfl hF rfl Own.stable (fun w1 hw1 => hq w1 hw1.below y x (by omega) (by omega))) ?_
      refine Lq.nil ?_
      refine Kt.onSub (e' := [(1, .func (.func F) #[] caps), (5, .slice (some ⟨g, 0, none⟩) ((clsN q x).1.length) c), (6, .int .i64 (((clsN q x).2 : Int))), (7, .int .i64 ((x : Int))), (8, .int .i64 (-1)), (9, .int .i64 ((y : Int))), (11, .int .i64 N), (12, .int .i64 ((x : Int))), (15, .int .i64 ((x : Int))), (16, .int .i64 ((y : Int))), (22, .bool (q y x))]) (Sub.cons rfl (Sub.cons rfl (Sub.cons rfl (Sub.cons rfl (Sub.cons rfl (Sub.cons rfl (Sub.cons rfl (Sub.cons rfl (Sub.cons rfl (Sub.cons rfl (Sub.cons rfl Sub.nil))))))))))) ?_
      refine Wk.cond (b := q y x) rfl (fun h22 => ?_) (fun h22 => ?_)
      · skip
        have hyx : y < x := by omega
        have hyn := cls_at (q := q) hyx
        refine Wk.seq ?_
        refine Wk.regionQ ?_
        refine Lq.op (v := .slice (some ⟨g, 0, none⟩) ((clsN q x).1.length) c) rfl rfl rfl (OpQ.move rfl rfl) ?_
        refine Lq.op (v := .int .i64 ((y : Int))) rfl rfl rfl (OpQ.move rfl rfl) ?_
        refine Lq.op (v := .pointer (some ⟨g, y, none⟩)) rfl rfl rfl (OpQ.cast (v' := .pointer (some ⟨g, y, none⟩)) (by simp) (OpQ.indexAddr1 (i := (y : Int)) rfl Tryd.runUnderlying31 Tryd.sizeOf3 rfl rfl (by omega) (by omega))) ?_
        refine Lq.op (v := .int .i64 ((clsN q x).1.getD (y) 0)) rfl rfl rfl (OpQ.loadAt 0 rfl Tryd.isAgg3 rfl rfl (cur_at ht (ints_at2 (by omega)))) ?_
        refine Lq.op (v := .int .i64 ((clsN q x).1.getD (y) 0)) rfl rfl rfl (OpQ.assign rfl rfl) ?_
        refine Lq.nil ?_
        refine Kt.onSub (e' := [(1, .func (.func F) #[] caps), (5, .slice (some ⟨g, 0, none⟩) ((clsN q x).1.length) c), (6, .int .i64 (((clsN q x).2 : Int))), (8, .int .i64 ((clsN q x).1.getD (y) 0)), (11, .int .i64 N), (12, .int .i64 ((x : Int)))]) (Sub.cons rfl (Sub.cons rfl (Sub.cons rfl (Sub.cons rfl (Sub.cons rfl (Sub.cons rfl Sub.nil)))))) ?_
        refine Wk.exit rfl ?_
        refine Kt.onSub (e' := [(1, .func (.func F) #[] caps), (5, .slice (some ⟨g, 0, none⟩) ((clsN q x).1.length) c), (6, .int .i64 (((clsN q x).2 : Int))), (8, .int .i64 ((clsN q x).1.getD (y) 0)), (11, .int .i64 N), (12, .int .i64 ((x : Int)))]) (Sub.cons rfl (Sub.cons rfl (Sub.cons rfl (Sub.cons rfl (Sub.cons rfl (Sub.cons rfl Sub.nil)))))) ?_
        refine Wk.seq ?_
        refine Wk.seq ?_
        refine Wk.regionQ ?_
        refine Lq.op (v := .int .i64 ((clsN q x).1.getD (y) 0)) rfl rfl rfl (OpQ.move rfl rfl) ?_
        refine Lq.op (v := .bool (decide (((clsN q x).1.getD (y) 0) < (0 : Int)))) rfl rfl rfl (OpQ.lss rfl rfl rfl) ?_
        refine Lq.nil ?_
        refine Kt.onSub (e' := [(1, .func (.func F) #[] caps), (5, .slice (some ⟨g, 0, none⟩) ((clsN q x).1.length) c), (6, .int .i64 (((clsN q x).2 : Int))), (8, .int .i64 ((clsN q x).1.getD (y) 0)), (11, .int .i64 N), (12, .int .i64 ((x : Int))), (29, .bool (decide (((clsN q x).1.getD (y) 0) < (0 : Int))))]) (Sub.cons rfl (Sub.cons rfl (Sub.cons rfl (Sub.cons rfl (Sub.cons rfl (Sub.cons rfl (Sub.cons rfl Sub.nil))))))) ?_
        refine Wk.cond (b := decide (((clsN q x).1.getD (y) 0) < (0 : Int))) rfl (fun h29 => ?_) (fun h29 => ?_)
        · skip
          replace h29 := of_decide_eq_true h29
          omega
        · skip
          replace h29 := of_decide_eq_false h29
          refine Wk.skip ?_
          refine Kt.onSub (e' := [(1, .func (.func F) #[] caps), (5, .slice (some ⟨g, 0, none⟩) ((clsN q x).1.length) c), (6, .int .i64 (((clsN q x).2 : Int))), (8, .int .i64 ((clsN q x).1.getD (y) 0)), (11, .int .i64 N), (12, .int .i64 ((x : Int)))]) (Sub.cons rfl (Sub.cons rfl (Sub.cons rfl (Sub.cons rfl (Sub.cons rfl (Sub.cons rfl Sub.nil)))))) ?_
          refine Wk.region ?_
          refine Ll.op (v := .slice (some ⟨g, 0, none⟩) ((clsN q x).1.length) c) rfl rfl rfl (OpQ.move rfl rfl) ?_
          refine Ll.op (v := .int .i64 ((clsN q x).1.getD (y) 0)) rfl rfl rfl (OpQ.move rfl rfl) ?_
          refine Ll.slice (xs := [.tmp 34]) (vs := [.int .i64 ((clsN q x).1.getD (y) 0)]) Base.elem31 rfl rfl rfl rfl rfl rfl (by decide) rfl fun p35 hp35 => ?_
          refine Ll.appendInts (xs := (clsN q x).1) (ys := [(clsN q x).1.getD (y) 0]) Base.elem31 1 rfl rfl rfl rfl rfl rfl rfl hc hle ht (fun w1 hw1 => (Own.row hw1 (i := 0) rfl (n := 1) (cap := 1) (vs := ints [(clsN q x).1.getD (y) 0]) rfl rfl (by decide))) ((((clsN q x).1) ++ ([(clsN q x).1.getD (y) 0])).length) (by first | (simp; done) | (simp; omega)) (by first | (simp; done) | (simp; omega) | omega) fun p36 cap36 cur36 hp36 hcp36 hlp36 htp36 => ?_
          show Ll _ _ (Own _ _ [(p35, .cells #[.int .i64 ((clsN q x).1.getD (y) 0)] 3 (0, 0)), (p36, .cells cur36 3 (0, 0))]) _ _ ((36, .slice (some ⟨p36, 0, none⟩) (((((clsN q x).1) ++ ([(clsN q x).1.getD (y) 0])).length)) cap36) :: _) _ _ _
          refine Ll.op (v := .slice (some ⟨p36, 0, none⟩) (((((clsN q x).1) ++ ([(clsN q x).1.getD (y) 0])).length)) cap36) rfl rfl rfl (OpQ.assign rfl rfl) ?_
          refine Ll.nil ?_
          refine Kt.onSub (e' := [(1, .func (.func F) #[] caps), (5, .slice (some ⟨p36, 0, none⟩) (((((clsN q x).1) ++ ([(clsN q x).1.getD (y) 0])).length)) cap36), (6, .int .i64 (((clsN q x).2 : Int))), (11, .int .i64 N), (12, .int .i64 ((x : Int)))]) (Sub.cons rfl (Sub.cons rfl (Sub.cons rfl (Sub.cons rfl (Sub.cons rfl Sub.nil))))) ?_
          refine Wk.regionQ ?_
          refine Lq.op (v := .int .i64 (((x : Int)) + (1 : Int))) rfl rfl rfl (OpQ.add rfl rfl rfl (by omega) (by omega)) ?_
          refine Lq.op (v := .int .i64 (((x : Int)) + (1 : Int))) rfl rfl rfl (OpQ.move rfl rfl) ?_
          refine Lq.nil ?_
          refine Kt.again ((x + 1, p36, cap36, cur36)) ⟨by omega, by simpa using hcp36, by rw [cls_old hyx hall2 h22]; exact hlp36, by rw [cls_old hyx hall2 h22]; simpa using htp36⟩ (by omega) (Sub.cons rfl (Sub.cons (by rw [cls_old hyx hall2 h22]; rfl) (Sub.cons (by rw [cls_old hyx hall2 h22]; first | rfl | (simp [List.lookup]; done)) (Sub.cons rfl (Sub.cons rfl Sub.nil))))) (fun _ h => h.tail)
      · skip
        refine Wk.skip ?_
        refine Kt.onSub (e' := [(1, .func (.func F) #[] caps), (5, .slice (some ⟨g, 0, none⟩) ((clsN q x).1.length) c), (6, .int .i64 (((clsN q x).2 : Int))), (7, .int .i64 ((x : Int))), (8, .int .i64 (-1)), (11, .int .i64 N), (12, .int .i64 ((x : Int))), (15, .int .i64 ((x : Int))), (16, .int .i64 ((y : Int)))]) (Sub.cons rfl (Sub.cons rfl (Sub.cons rfl (Sub.cons rfl (Sub.cons rfl (Sub.cons rfl (Sub.cons rfl (Sub.cons rfl (Sub.cons rfl Sub.nil))))))))) ?_
        refine Wk.regionQ ?_
        refine Lq.op (v := .int .i64 (((y : Int)) + (1 : Int))) rfl rfl rfl (OpQ.add rfl rfl rfl (by omega) (by omega)) ?_
        refine Lq.op (v := .int .i64 (((y : Int)) + (1 : Int))) rfl rfl rfl (OpQ.move rfl rfl) ?_
        refine Lq.nil ?_
        refine Kt.again (y + 1) ⟨by omega, fun i hi => (Nat.lt_succ_iff_lt_or_eq.1 hi).elim (hall2 i) (fun e => by subst e; simpa using h22)⟩ (by omega) (Sub.cons rfl (Sub.cons rfl (Sub.cons rfl (Sub.cons rfl (Sub.cons rfl (Sub.cons rfl (Sub.cons rfl (Sub.cons rfl (Sub.cons rfl Sub.nil))))))))) (fun _ h => h)
    · skip
      replace h17 := of_decide_eq_false h17
      refine Wk.exit rfl ?_
      refine Kt.onSub (e' := [(1, .func (.func F) #[] caps), (5, .slice (some ⟨g, 0, none⟩) ((clsN q x).1.length) c), (6, .int .i64 (((clsN q x).2 : Int))), (8, .int .i64 (-1)), (11, .int .i64 N), (12, .int .i64 ((x : Int)))]) (Sub.cons rfl (Sub.cons rfl (Sub.cons rfl (Sub.cons rfl (Sub.cons rfl (Sub.cons rfl Sub.nil)))))) ?_
      refine Wk.seq ?_
      refine Wk.seq ?_
      refine Wk.regionQ ?_
      refine Lq.op (v := .int .i64 (-1)) rfl rfl rfl (OpQ.move rfl rfl) ?_
      refine Lq.op (v := .bool (decide ((-1 : Int) < (0 : Int)))) rfl rfl rfl (OpQ.lss rfl rfl rfl) ?_
      refine Lq.nil ?_
      refine Kt.onSub (e' := [(1, .func (.func F) #[] caps), (5, .slice (some ⟨g, 0, none⟩) ((clsN q x).1.length) c), (6, .int .i64 (((clsN q x).2 : Int))), (8, .int .i64 (-1)), (11, .int .i64 N), (12, .int .i64 ((x : Int))), (29, .bool (decide ((-1 : Int) < (0 : Int))))]) (Sub.cons rfl (Sub.cons rfl (Sub.cons rfl (Sub.cons rfl (Sub.cons rfl (Sub.cons rfl (Sub.cons rfl Sub.nil))))))) ?_
      refine Wk.cond (b := decide ((-1 : Int) < (0 : Int))) rfl (fun h29_1 => ?_) (fun h29_1 => ?_)
      · skip
        replace h29_1 := of_decide_eq_true h29_1
        refine Wk.seq ?_
        refine Wk.regionQ ?_
        refine Lq.op (v := .int .i64 (((clsN q x).2 : Int))) rfl rfl rfl (OpQ.move rfl rfl) ?_
        refine Lq.op (v := .int .i64 (((clsN q x).2 : Int))) rfl rfl rfl (OpQ.assign rfl rfl) ?_
        refine Lq.nil ?_
        refine Kt.onSub (e' := [(1, .func (.func F) #[] caps), (5, .slice (some ⟨g, 0, none⟩) ((clsN q x).1.length) c), (6, .int .i64 (((clsN q x).2 : Int))), (8, .int .i64 (((clsN q x).2 : Int))), (11, .int .i64 N), (12, .int .i64 ((x : Int)))]) (Sub.cons rfl (Sub.cons rfl (Sub.cons rfl (Sub.cons rfl (Sub.cons rfl (Sub.cons rfl Sub.nil)))))) ?_
        refine Wk.regionQ ?_
        refine Lq.op (v := .int .i64 (((clsN q x).2 : Int))) rfl rfl rfl (OpQ.move rfl rfl) ?_
        refine Lq.op (v := .int .i64 ((((clsN q x).2 : Int)) + (1 : Int))) rfl rfl rfl (OpQ.add rfl rfl rfl (by omega) (by omega)) ?_
        refine Lq.op (v := .int .i64 ((((clsN q x).2 : Int)) + (1 : Int))) rfl rfl rfl (OpQ.assign rfl rfl) ?_
        refine Lq.nil ?_
        refine Kt.onSub (e' := [(1, .func (.func F) #[] caps), (5, .slice (some ⟨g, 0, none⟩) ((clsN q x).1.length) c), (6, .int .i64 ((((clsN q x).2 : Int)) + (1 : Int))), (8, .int .i64 (((clsN q x).2 : Int))), (11, .int .i64 N), (12, .int .i64 ((x : Int)))]) (Sub.cons rfl (Sub.cons rfl (Sub.cons rfl (Sub.cons rfl (Sub.cons rfl (Sub.cons rfl Sub.nil)))))) ?_
        refine Wk.region ?_
        refine Ll.op (v := .slice (some ⟨g, 0, none⟩) ((clsN q x).1.length) c) rfl rfl rfl (OpQ.move rfl rfl) ?_
        refine Ll.op (v := .int .i64 (((clsN q x).2 : Int))) rfl rfl rfl (OpQ.move rfl rfl) ?_
        refine Ll.slice (xs := [.tmp 34]) (vs := [.int .i64 (((clsN q x).2 : Int))]) Base.elem31 rfl rfl rfl rfl rfl rfl (by decide) rfl fun p35_1 hp35_1 => ?_
        refine Ll.appendInts (xs := (clsN q x).1) (ys := [((clsN q x).2 : Int)]) Base.elem31 1 rfl rfl rfl rfl rfl rfl rfl hc hle ht (fun w1 hw1 => (Own.row hw1 (i := 0) rfl (n := 1) (cap := 1) (vs := ints [((clsN q x).2 : Int)]) rfl rfl (by decide))) ((((clsN q x).1) ++ ([((clsN q x).2 : Int)])).length) (by first | (simp; done) | (simp; omega)) (by first | (simp; done) | (simp; omega) | omega) fun p36_1 cap36_1 cur36_1 hp36_1 hcp36_1 hlp36_1 htp36_1 => ?_
        show Ll _ _ (Own _ _ [(p35_1, .cells #[.int .i64 (((clsN q x).2 : Int))] 3 (0, 0)), (p36_1, .cells cur36_1 3 (0, 0))]) _ _ ((36, .slice (some ⟨p36_1, 0, none⟩) (((((clsN q x).1) ++ ([((clsN q x).2 : Int)])).length)) cap36_1) :: _) _ _ _
        refine Ll.op (v := .slice (some ⟨p36_1, 0, none⟩) (((((clsN q x).1) ++ ([((clsN q x).2 : Int)])).length)) cap36_1) rfl rfl rfl (OpQ.assign rfl rfl) ?_
        refine Ll.nil ?_
        refine Kt.onSub (e' := [(1, .func (.func F) #[] caps), (5, .slice (some ⟨p36_1, 0, none⟩) (((((clsN q x).1) ++ ([((clsN q x).2 : Int)])).length)) cap36_1), (6, .int .i64 ((((clsN q x).2 : Int)) + (1 : Int))), (11, .int .i64 N), (12, .int .i64 ((x : Int)))]) (Sub.cons rfl (Sub.cons rfl (Sub.cons rfl (Sub.cons rfl (Sub.cons rfl Sub.nil))))) ?_
        refine Wk.regionQ ?_
        refine Lq.op (v := .int .i64 (((x : Int)) + (1 : Int))) rfl rfl rfl (OpQ.add rfl rfl rfl (by omega) (by omega)) ?_
        refine Lq.op (v := .int .i64 (((x : Int)) + (1 : Int))) rfl rfl rfl (OpQ.move rfl rfl) ?_
        refine Lq.nil ?_
        refine Kt.again ((x + 1, p36_1, cap36_1, cur36_1)) ⟨by omega, by simpa using hcp36_1, by rw [cls_new (fun i hi => hall2 i (by omega))]; exact hlp36_1, by rw [cls_new (fun i hi => hall2 i (by omega))]; simpa using htp36_1⟩ (by omega) (Sub.cons rfl (Sub.cons (by rw [cls_new (fun i hi => hall2 i (by omega))]; rfl) (Sub.cons (by rw [cls_new (fun i hi => hall2 i (by omega))]; first | rfl | (simp [List.lookup]; done)) (Sub.cons rfl (Sub.cons rfl Sub.nil))))) (fun _ h => h.tail)
      · skip
        replace h29_1 := of_decide_eq_false h29_1
        exact absurd (by decide) h29_1
  · skip
    replace h13 := of_decide_eq_false h13
    refine Wk.exit rfl ?_
    refine Kt.onSub (e' := [(5, .slice (some ⟨g, 0, none⟩) ((clsN q x).1.length) c)]) (Sub.cons rfl Sub.nil) ?_
    refine Wk.seq ?_
    refine Wk.regionQ ?_
    refine Lq.op (v := .slice (some ⟨g, 0, none⟩) ((clsN q x).1.length) c) rfl rfl rfl (OpQ.move rfl rfl) ?_
    refine Lq.op (v := .slice (some ⟨g, 0, none⟩) ((clsN q x).1.length) c) rfl rfl rfl (OpQ.assign rfl rfl) ?_
    refine Lq.nil ?_
    refine Kt.onSub (e' := [(4, .slice (some ⟨g, 0, none⟩) ((clsN q x).1.length) c)]) (Sub.cons rfl Sub.nil) ?_
    refine Wk.ret (Kt.end1 rfl rfl fun w' hw => ?_)
    -- ret 0: .slice (some ⟨g, 0, none⟩) ((clsN q x).1.length) c
    obtain rfl : x = N.toNat := by omega
    exact ⟨_, rfl, hw.below, hw.newRow (i := 0) (n := _) rfl hc hle (by simpa using ht)⟩

set_option maxHeartbeats 400000 in
/-- impl.ClassesOf|yes -/
theorem iCls_yes (a : St) (r : Int) (w : World) (hsa : a.Small) (hv : clsOk a r = true) :
    Calls Tryd.prog 30 [vS a, .int .i64 r].toArray w fun en w' => ∃ v, en = .returned v ∧ Below w.heap.size w w' ∧ NewRow w.heap.size 3 1 w' v (clsOf a r).length (ints (clsOf a r)) := by
  refine fnStart (n := 20) (e := [(0, vS a), (1, .int .i64 r)]) Tryd.func30 rfl rfl rfl rfl Ends.both ?_
  obtain ⟨hV, h0, h3⟩ := clsOk_true hv
  have ha := validB_fine hV
  have hm8 := ha.hi
  have hm1 := ha.lo
  refine Wk.seq ?_
  refine Wk.region ?_
  refine Ll.box (v := vS a) rfl rfl rfl rfl rfl fun p2 hp2 => ?_
  show Ll _ _ (Own _ _ [(p2, .cells #[.int .i64 a.n, str a.set, str a.rel] 26 (0, 0))]) _ _ ((2, .pointer (some ⟨p2, 0, none⟩)) :: _) _ _ _
  refine Ll.box (v := .int .i64 r) rfl rfl rfl rfl rfl fun p3 hp3 => ?_
  show Ll _ _ (Own _ _ [(p3, .cells #[.int .i64 r] 3 (0, 0)), (p2, .cells #[.int .i64 a.n, str a.set, str a.rel] 26 (0, 0))]) _ _ ((3, .pointer (some ⟨p3, 0, none⟩)) :: _) _ _ _
  refine Ll.op (v := .slice none 0 0) rfl rfl rfl (OpQ.assign rfl rfl) ?_
  refine Ll.nil ?_
  refine Kt.onSub (e' := [(2, .pointer (some ⟨p2, 0, none⟩)), (3, .pointer (some ⟨p3, 0, none⟩))]) (Sub.cons rfl (Sub.cons rfl Sub.nil)) ?_
  refine Wk.seq ?_
  refine Wk.seq ?_
  refine Wk.regionQ ?_
  refine Lq.op (v := vS a) rfl rfl rfl (OpQ.loadBox (cs := #[.int .i64 a.n, str a.set, str a.rel]) 1 rfl Tryd.isAgg26 rfl rfl Tryd.sizeOf26) ?_
  refine Lq.op (v := .bool true) rfl rfl rfl (OpQ.call rfl Tryd.call57 rfl Own.stable (fun w1 hw1 => known_b hV (isStructure_ok a w1 hsa))) ?_
  refine Lq.op (v := .bool false) rfl rfl rfl (OpQ.notT rfl rfl) ?_
  refine Lq.op (v := .bool false) rfl rfl rfl (OpQ.move rfl rfl) ?_
  refine Lq.op (v := .int .i64 r) rfl rfl rfl (OpQ.loadOwn 0 rfl Tryd.isAgg3 rfl rfl rfl) ?_
  refine Lq.op (v := .bool (decide (r < (0 : Int)))) rfl rfl rfl (OpQ.lss rfl rfl rfl) ?_
  refine Lq.op (v := .bool (decide (r < (0 : Int)))) rfl rfl rfl (OpQ.pickF rfl rfl rfl) ?_
  refine Lq.op (v := .bool (decide (r < (0 : Int)))) rfl rfl rfl (OpQ.move rfl rfl) ?_
  refine Lq.bool fun b12 hg12 => ?_
  cases b12
  · skip
    replace hg12 := of_decide_eq_false hg12
    refine Lq.op (v := .int .i64 r) rfl rfl rfl (OpQ.loadOwn 0 rfl Tryd.isAgg3 rfl rfl rfl) ?_
    refine Lq.op (v := .bool (decide ((3 : Int) < r))) rfl rfl rfl (OpQ.gtr rfl rfl rfl) ?_
    refine Lq.op (v := .bool (decide ((3 : Int) < r))) rfl rfl rfl (OpQ.pickF rfl rfl rfl) ?_
    refine Lq.nil ?_
    refine Kt.onSub (e' := [(2, .pointer (some ⟨p2, 0, none⟩)), (3, .pointer (some ⟨p3, 0, none⟩)), (15, .bool (decide ((3 : Int) < r)))]) (Sub.cons rfl (Sub.cons rfl (Sub.cons rfl Sub.nil))) ?_
    refine Wk.cond (b := decide ((3 : Int) < r)) rfl (fun h15 => ?_) (fun h15 => ?_)
    · skip
      replace h15 := of_decide_eq_true h15
      omega
    · skip
      replace h15 := of_decide_eq_false h15
      refine Wk.skip ?_
      refine Kt.onSub (e' := [(2, .pointer (some ⟨p2, 0, none⟩)), (3, .pointer (some ⟨p3, 0, none⟩))]) (Sub.cons rfl (Sub.cons rfl Sub.nil)) ?_
      refine Wk.seq ?_
      refine Wk.region ?_
      refine Ll.op (v := .pointer (some ⟨p2, 0, none⟩)) rfl rfl rfl (OpQ.fieldAddr rfl Tryd.runUnderlying26 rfl Tryd.sizeOf3 rfl rfl) ?_
      refine Ll.op (v := .int .i64 a.n) rfl rfl rfl (OpQ.loadOwn 1 rfl Tryd.isAgg3 rfl rfl rfl) ?_
      refine Ll.op (v := .func (.func 73) #[] #[.pointer (some ⟨p2, 0, none⟩), .pointer (some ⟨p3, 0, none⟩)]) rfl rfl rfl (OpQ.func' (cap := [.tmp 2, .tmp 3]) rfl rfl) ?_
      refine Ll.callRow (xs := [.tmp 17, .tmp 18]) (m := (clsOf a r).length) (vs := ints (clsOf a r)) (el := 3) (size := 1) rfl rfl rfl rfl Tryd.call70 rfl (fun w1 hw1 => classesBy_ok a.n w1 (by omega) 73 #[.pointer (some ⟨p2, 0, none⟩), .pointer (some ⟨p3, 0, none⟩)] (fun y x => winB r.toNat a [(y : Int)] a [(x : Int)]) Tryd.call73 (fun w2 hb y x hy hx => cls1_ok a p2 p3 _ _ r y x w2 ((hw1.stable _ _ hb).has 1 _ _ rfl).2 ((hw1.stable _ _ hb).has 0 _ _ rfl).2 ha h0 h3 ⟨by omega, by omega⟩ ⟨by omega, by omega⟩)) fun p19 cap19 cur19 hp19 hcp19 hlp19 htp19 => ?_
      refine Ll.op (v := .slice (some ⟨p19, 0, none⟩) ((clsOf a r).length) cap19) rfl rfl rfl (OpQ.assign rfl rfl) ?_
      refine Ll.nil ?_
      refine Kt.onSub (e' := [(4, .slice (some ⟨p19, 0, none⟩) ((clsOf a r).length) cap19)]) (Sub.cons rfl Sub.nil) ?_
      refine Wk.ret (Kt.end1 rfl rfl fun w' hw => ?_)
      -- ret 0: .slice (some ⟨p19, 0, none⟩) ((clsOf a r).length) cap19
      exact ⟨_, rfl, hw.below, hw.newRow (i := 0) (n := _) rfl hcp19 hlp19 (by simpa using htp19)⟩
  · skip
    replace hg12 := of_decide_eq_true hg12
    omega

set_option maxHeartbeats 400000 in
/-- impl.ClassesOf|no -/
theorem iCls_no (a : St) (r : Int) (w : World) (hsa : a.Small) (hv : clsOk a r = false) :
    Calls Tryd.prog 30 [vS a, .int .i64 r].toArray w fun en w' => en = .returned (.slice none 0 0) ∧ Below w.heap.size w w' := by
  refine fnStart (n := 20) (e := [(0, vS a), (1, .int .i64 r)]) Tryd.func30 rfl rfl rfl rfl Ends.both ?_
  refine Wk.seq ?_
  refine Wk.region ?_
  refine Ll.box (v := vS a) rfl rfl rfl rfl rfl fun p2 hp2 => ?_
  show Ll _ _ (Own _ _ [(p2, .cells #[.int .i64 a.n, str a.set, str a.rel] 26 (0, 0))]) _ _ ((2, .pointer (some ⟨p2, 0, none⟩)) :: _) _ _ _
  refine Ll.box (v := .int .i64 r) rfl rfl rfl rfl rfl fun p3 hp3 => ?_
  show Ll _ _ (Own _ _ [(p3, .cells #[.int .i64 r] 3 (0, 0)), (p2, .cells #[.int .i64 a.n, str a.set, str a.rel] 26 (0, 0))]) _ _ ((3, .pointer (some ⟨p3, 0, none⟩)) :: _) _ _ _
  refine Ll.op (v := .slice none 0 0) rfl rfl rfl (OpQ.assign rfl rfl) ?_
  refine Ll.nil ?_
  refine Kt.onSub (e' := [(2, .pointer (some ⟨p2, 0, none⟩)), (3, .pointer (some ⟨p3, 0, none⟩))]) (Sub.cons rfl (Sub.cons rfl Sub.nil)) ?_
  refine Wk.seq ?_
  refine Wk.seq ?_
  refine Wk.regionQ ?_
  refine Lq.op (v := vS a) rfl rfl rfl (OpQ.loadBox (cs := #[.int .i64 a.n, str a.set, str a.rel]) 1 rfl Tryd.isAgg26 rfl rfl Tryd.sizeOf26) ?_
  refine Lq.op (v := .bool (validB a)) rfl rfl rfl (OpQ.call rfl Tryd.call57 rfl Own.stable (fun w1 hw1 => isStructure_ok a w1 hsa)) ?_
  refine Lq.op (v := .bool (!(validB a))) rfl rfl rfl (OpQ.not rfl rfl) ?_
  refine Lq.op (v := .bool (!(validB a))) rfl rfl rfl (OpQ.move rfl rfl) ?_
  refine Lq.bool fun b8 hg8 => ?_
  cases b8
  · skip
    replace hg8 := not_false hg8
    refine Lq.op (v := .int .i64 r) rfl rfl rfl (OpQ.loadOwn 0 rfl Tryd.isAgg3 rfl rfl rfl) ?_
    refine Lq.op (v := .bool (decide (r < (0 : Int)))) rfl rfl rfl (OpQ.lss rfl rfl rfl) ?_
    refine Lq.op (v := .bool (decide (r < (0 : Int)))) rfl rfl rfl (OpQ.pickF rfl rfl rfl) ?_
    refine Lq.op (v := .bool (decide (r < (0 : Int)))) rfl rfl rfl (OpQ.move rfl rfl) ?_
    refine Lq.bool fun b12 hg12 => ?_
    cases b12
    · skip
      replace hg12 := of_decide_eq_false hg12
      refine Lq.op (v := .int .i64 r) rfl rfl rfl (OpQ.loadOwn 0 rfl Tryd.isAgg3 rfl rfl rfl) ?_
      refine Lq.op (v := .bool (decide ((3 : Int) < r))) rfl rfl rfl (OpQ.gtr rfl rfl rfl) ?_
      refine Lq.op (v := .bool (decide ((3 : Int) < r))) rfl rfl rfl (OpQ.pickF rfl rfl rfl) ?_
      refine Lq.nil ?_
      refine Kt.onSub (e' := [(2, .pointer (some ⟨p2, 0, none⟩)), (3, .pointer (some ⟨p3, 0, none⟩)), (15, .bool (decide ((3 : Int) < r)))]) (Sub.cons rfl (Sub.cons rfl (Sub.cons rfl Sub.nil))) ?_
      refine Wk.cond (b := decide ((3 : Int) < r)) rfl (fun h15 => ?_) (fun h15 => ?_)
      · skip
        replace h15 := of_decide_eq_true h15
        refine Wk.seq ?_
        refine Wk.regionQ ?_
        refine Lq.op (v := .slice none 0 0) rfl rfl rfl (OpQ.assign rfl rfl) ?_
        refine Lq.nil ?_
        refine Kt.onSub (e' := [(4, .slice none 0 0)]) (Sub.cons rfl Sub.nil) ?_
        refine Wk.ret (Kt.end1 rfl rfl fun w' hw => ?_)
        -- ret 0: .slice none 0 0
        exact ⟨rfl, hw.below⟩
      · skip
        replace h15 := of_decide_eq_false h15
        exact absurd hv (by unfold clsOk inB; first | (simp_all; done) | (simp_all; omega))
    · skip
      replace hg12 := of_decide_eq_true hg12
      refine Lq.pass rfl rfl rfl ?_
      refine Lq.pass rfl rfl rfl ?_
      refine Lq.op (v := .bool true) rfl rfl rfl (OpQ.pickT rfl rfl rfl) ?_
      refine Lq.nil ?_
      refine Kt.onSub (e' := [(2, .pointer (some ⟨p2, 0, none⟩)), (3, .pointer (some ⟨p3, 0, none⟩)), (15, .bool true)]) (Sub.cons rfl (Sub.cons rfl (Sub.cons rfl Sub.nil))) ?_
      refine Wk.condT rfl ?_
      refine Wk.seq ?_
      refine Wk.regionQ ?_
      refine Lq.op (v := .slice none 0 0) rfl rfl rfl (OpQ.assign rfl rfl) ?_
      refine Lq.nil ?_
      refine Kt.onSub (e' := [(4, .slice none 0 0)]) (Sub.cons rfl Sub.nil) ?_
      refine Wk.ret (Kt.end1 rfl rfl fun w' hw => ?_)
      -- ret 1: .slice none 0 0
      exact ⟨rfl, hw.below⟩
  · skip
    replace hg8 := not_true hg8
    refine Lq.pass rfl rfl rfl ?_
    refine Lq.pass rfl rfl rfl ?_
    refine Lq.op (v := .bool true) rfl rfl rfl (OpQ.pickT rfl rfl rfl) ?_
    refine Lq.op (v := .bool true) rfl rfl rfl (OpQ.move rfl rfl) ?_
    refine Lq.pass rfl rfl rfl ?_
    refine Lq.pass rfl rfl rfl ?_
    refine Lq.op (v := .bool true) rfl rfl rfl (OpQ.pickT rfl rfl rfl) ?_
    refine Lq.nil ?_
    refine Kt.onSub (e' := [(2, .pointer (some ⟨p2, 0, none⟩)), (3, .pointer (some ⟨p3, 0, none⟩)), (15, .bool true)]) (Sub.cons rfl (Sub.cons rfl (Sub.cons rfl Sub.nil))) ?_
    refine Wk.condT rfl ?_
    refine Wk.seq ?_
    refine Wk.regionQ ?_
    refine Lq.op (v := .slice none 0 0) rfl rfl rfl (OpQ.assign rfl rfl) ?_
    refine Lq.nil ?_
    refine Kt.onSub (e' := [(4, .slice none 0 0)]) (Sub.cons rfl Sub.nil) ?_
    refine Wk.ret (Kt.end1 rfl rfl fun w' hw => ?_)
    -- ret 2: .slice none 0 0
    exact ⟨rfl, hw.below⟩

set_option maxHeartbeats 400000 in
/-- spec.l1Has -/
theorem l1Has_ok (va : Value) (xs : List Int) (m : Int) (w : World) (hva : Ints w va xs) (hs : xs.length ≤ 140737488355328) :
    Calls Tryd.prog 72 [va, .int .i64 m].toArray w fun en w' => en = .returned (.bool (decide (m ∈ xs))) ∧ Below w.heap.size w w' := by
  refine fnStart (n := 18) (e := [(0, va), (1, .int .i64 m)]) Tryd.func72 rfl rfl rfl rfl Ends.both ?_
  refine Wk.seq ?_
  refine Wk.regionQ ?_
  refine Lq.op (v := .bool false) rfl rfl rfl (OpQ.assign rfl rfl) ?_
  refine Lq.nil ?_
  refine Kt.onSub (e' := [(0, va), (1, .int .i64 m)]) (Sub.cons rfl (Sub.cons rfl Sub.nil)) ?_
  refine Wk.seq ?_
  refine Wk.seq ?_
  refine Wk.regionQ ?_
  refine Lq.op (v := .int .i64 0) rfl rfl rfl (OpQ.assign rfl rfl) ?_
  refine Lq.nil ?_
  refine Kt.onSub (e' := [(0, va), (1, .int .i64 m), (5, .int .i64 0)]) (Sub.cons rfl (Sub.cons rfl (Sub.cons rfl Sub.nil))) ?_
  refine Wk.block ?_
  refine Wk.loop (σ := Nat) (fun k => k ≤ xs.length ∧ ∀ i : Nat, i < k → ¬ xs.getD i 0 = m) (fun k => [(0, va), (1, .int .i64 m), (5, .int .i64 ((k : Int)))]) (fun k => Own w.heap.size w []) (fun k => xs.length - k) (0) ⟨by omega, fun i hi => absurd hi (by omega)⟩ (Sub.cons rfl (Sub.cons rfl (Sub.cons rfl Sub.nil))) (fun _ h => h) ?_
  rintro k ⟨hk, hall⟩
  refine Wk.seq ?_
  refine Wk.seq ?_
  refine Wk.regionQ ?_
  refine Lq.op (v := .int .i64 ((k : Int))) rfl rfl rfl (OpQ.move rfl rfl) ?_
  refine Lq.op (v := va) rfl rfl rfl (OpQ.move rfl rfl) ?_
  refine Lq.op (v := .int .i64 ((xs.length : Int))) rfl rfl rfl (OpQ.lenRow rfl Tryd.runUnderlying31 rfl (ints_length _) (fun w1 hw1 => Row.own hva hw1)) ?_
  refine Lq.op (v := .bool (decide (((k : Int)) < ((xs.length : Int))))) rfl rfl rfl (OpQ.lss rfl rfl rfl) ?_
  refine Lq.nil ?_
  refine Kt.onSub (e' := [(0, va), (1, .int .i64 m), (5, .int .i64 ((k : Int))), (9, .bool (decide (((k : Int)) < ((xs.length : Int)))))]) (Sub.cons rfl (Sub.cons rfl (Sub.cons rfl (Sub.cons rfl Sub.nil)))) ?_
  refine Wk.cond (b := decide (((k : Int)) < ((xs.length : Int)))) rfl (fun h9 => ?_) (fun h9 => ?_)
  · skip
    replace h9 := of_decide_eq_true h9
    refine Wk.skip ?_
    refine Kt.onSub (e' := [(0, va), (1, .int .i64 m), (5, .int .i64 ((k : Int)))]) (Sub.cons rfl (Sub.cons rfl (Sub.cons rfl Sub.nil))) ?_
    refine Wk.seq ?_
    refine Wk.block ?_
    refine Wk.seq ?_
    refine Wk.regionQ ?_
    refine Lq.op (v := va) rfl rfl rfl (OpQ.move rfl rfl) ?_
    refine Lq.op (v := .int .i64 ((k : Int))) rfl rfl rfl (OpQ.move rfl rfl) ?_
    refine Lq.op (v := .pointer (some (sAt va ((k : Int))))) rfl rfl rfl (OpQ.atRow rfl Tryd.runUnderlying31 Tryd.sizeOf3 rfl rfl (by omega) (by rw [ints_length]; omega) (fun w1 hw1 => Row.own hva hw1)) ?_
    refine Lq.op (v := .int .i64 (xs.getD (((k : Int)).toNat) 0)) rfl rfl rfl (OpQ.load1 rfl Tryd.isAgg3 rfl (fun w1 hw1 => Ints.cell (Row.own hva hw1) (by omega) (by omega))) ?_
    refine Lq.op (v := .int .i64 m) rfl rfl rfl (OpQ.move rfl rfl) ?_
    refine Lq.op (v := .bool (decide ((xs.getD (((k : Int)).toNat) 0) = m))) rfl rfl rfl (OpQ.eql rfl rfl rfl) ?_
    refine Lq.nil ?_
    refine Kt.onSub (e' := [(0, va), (1, .int .i64 m), (5, .int .i64 ((k : Int))), (17, .bool (decide ((xs.getD (((k : Int)).toNat) 0) = m)))]) (Sub.cons rfl (Sub.cons rfl (Sub.cons rfl (Sub.cons rfl Sub.nil)))) ?_
    refine Wk.cond (b := decide ((xs.getD (((k : Int)).toNat) 0) = m)) rfl (fun h17 => ?_) (fun h17 => ?_)
    · skip
      replace h17 := of_decide_eq_true h17
      refine Wk.seq ?_
      refine Wk.regionQ ?_
      refine Lq.op (v := .bool true) rfl rfl rfl (OpQ.assign rfl rfl) ?_
      refine Lq.nil ?_
      refine Kt.onSub (e' := [(4, .bool true)]) (Sub.cons rfl Sub.nil) ?_
      refine Wk.ret (Kt.end1 rfl rfl fun w' hw => ?_)
      -- ret 0: .bool true
      exact ⟨ret_b (has_at (k := k) (by omega) (by simpa using h17)).symm, hw.below⟩
    · skip
      replace h17 := of_decide_eq_false h17
      refine Wk.skip ?_
      refine Kt.onSub (e' := [(0, va), (1, .int .i64 m), (5, .int .i64 ((k : Int)))]) (Sub.cons rfl (Sub.cons rfl (Sub.cons rfl Sub.nil))) ?_
      refine Wk.regionQ ?_
      refine Lq.op (v := .int .i64 ((k : Int))) rfl rfl rfl (OpQ.move rfl rfl) ?_
      refine Lq.op (v := .int .i64 (((k : Int)) + (1 : Int))) rfl rfl rfl (OpQ.add rfl rfl rfl (by omega) (by omega)) ?_
      refine Lq.op (v := .int .i64 (((k : Int)) + (1 : Int))) rfl rfl rfl (OpQ.assign rfl rfl) ?_
      refine Lq.nil ?_
      refine Kt.again (k + 1) ⟨by omega, fun i hi => (Nat.lt_succ_iff_lt_or_eq.1 hi).elim (hall i) (fun e => by subst e; simpa using h17)⟩ (by omega) (Sub.cons rfl (Sub.cons rfl (Sub.cons rfl Sub.nil))) (fun _ h => h)
  · skip
    replace h9 := of_decide_eq_false h9
    refine Wk.exit rfl ?_
    refine Kt.onSub (e' := []) Sub.nil ?_
    refine Wk.seq ?_
    refine Wk.regionQ ?_
    refine Lq.op (v := .bool false) rfl rfl rfl (OpQ.assign rfl rfl) ?_
    refine Lq.nil ?_
    refine Kt.onSub (e' := [(4, .bool false)]) (Sub.cons rfl Sub.nil) ?_
    refine Wk.ret (Kt.end1 rfl rfl fun w' hw => ?_)
    -- ret 1: .bool false
    exact ⟨ret_b (has_no (fun i hi => hall i (by omega))).symm, hw.below⟩

set_option maxHeartbeats 400000 in
/-- spec.ClassesOf|yes -/
theorem sCls_yes (a : St) (r : Int) (w : World) (hsa : a.Small) (hv : clsOk a r = true) :
    Calls Tryd.prog 29 [vS a, .int .i64 r].toArray w fun en w' => ∃ v, en = .returned v ∧ Below w.heap.size w w' ∧ NewRow w.heap.size 3 1 w' v (clsOf a r).length (ints (clsOf a r)) := by
  refine fnStart (n := 60) (e := [(0, vS a), (1, .int .i64 r)]) Tryd.func29 rfl rfl rfl rfl Ends.both ?_
  obtain ⟨hV, h0, h3⟩ := clsOk_true hv
  have ha := validB_fine hV
  have hm8 := ha.hi
  have hm1 := ha.lo
  have hcn := cnt_small (n := r.toNat) (by omega)
  refine Wk.seq ?_
  refine Wk.region ?_
  refine Ll.box (v := vS a) rfl rfl rfl rfl rfl fun p2 hp2 => ?_
  show Ll _ _ (Own _ _ [(p2, .cells #[.int .i64 a.n, str a.set, str a.rel] 26 (0, 0))]) _ _ ((2, .pointer (some ⟨p2, 0, none⟩)) :: _) _ _ _
  refine Ll.op (v := .slice none 0 0) rfl rfl rfl (OpQ.assign rfl rfl) ?_
  refine Ll.nil ?_
  refine Kt.onSub (e' := [(1, .int .i64 r), (2, .pointer (some ⟨p2, 0, none⟩))]) (Sub.cons rfl (Sub.cons rfl Sub.nil)) ?_
  refine Wk.seq ?_
  refine Wk.region ?_
  refine Ll.slice (xs := []) (vs := []) Base.elem31 rfl rfl rfl rfl rfl rfl (by decide) rfl fun p11 hp11 => ?_
  refine Ll.op (v := .slice (some ⟨p11, 0, none⟩) 0 0) rfl rfl rfl (OpQ.assign rfl rfl) ?_
  refine Ll.nil ?_
  refine Kt.onSub (e' := [(1, .int .i64 r), (2, .pointer (some ⟨p2, 0, none⟩)), (5, .slice (some ⟨p11, 0, none⟩) 0 0)]) (Sub.cons rfl (Sub.cons rfl (Sub.cons rfl Sub.nil))) ?_
  refine Wk.seq ?_
  refine Wk.region ?_
  refine Ll.slice (xs := []) (vs := []) Base.elem31 rfl rfl rfl rfl rfl rfl (by decide) rfl fun p12 hp12 => ?_
  refine Ll.op (v := .slice (some ⟨p12, 0, none⟩) 0 0) rfl rfl rfl (OpQ.assign rfl rfl) ?_
  refine Ll.nil ?_
  refine Kt.onSub (e' := [(1, .int .i64 r), (2, .pointer (some ⟨p2, 0, none⟩)), (5, .slice (some ⟨p11, 0, none⟩) 0 0), (6, .slice (some ⟨p12, 0, none⟩) 0 0)]) (Sub.cons rfl (Sub.cons rfl (Sub.cons rfl (Sub.cons rfl Sub.nil)))) ?_
  refine Wk.seq ?_
  refine Wk.seq ?_
  refine Wk.regionQ ?_
  refine Lq.op (v := vS a) rfl rfl rfl (OpQ.loadBox (cs := #[.int .i64 a.n, str a.set, str a.rel]) 2 rfl Tryd.isAgg26 rfl rfl Tryd.sizeOf26) ?_
  refine Lq.op (v := .bool true) rfl rfl rfl (OpQ.call rfl Tryd.call51 rfl Own.stable (fun w1 hw1 => known_b hV (sValid_ok a w1 hsa))) ?_
  refine Lq.op (v := .bool false) rfl rfl rfl (OpQ.notT rfl rfl) ?_
  refine Lq.op (v := .bool false) rfl rfl rfl (OpQ.move rfl rfl) ?_
  refine Lq.op (v := .int .i64 r) rfl rfl rfl (OpQ.move rfl rfl) ?_
  refine Lq.op (v := .bool true) rfl rfl rfl (OpQ.call rfl Tryd.call52 rfl Own.stable (fun w1 hw1 => known_b (by unfold inB; simp [h0, h3]) (l1In_ok r 0 3 w1 ))) ?_
  refine Lq.op (v := .bool false) rfl rfl rfl (OpQ.notT rfl rfl) ?_
  refine Lq.op (v := .bool false) rfl rfl rfl (OpQ.pickF rfl rfl rfl) ?_
  refine Lq.nil ?_
  refine Kt.onSub (e' := [(1, .int .i64 r), (2, .pointer (some ⟨p2, 0, none⟩)), (5, .slice (some ⟨p11, 0, none⟩) 0 0), (6, .slice (some ⟨p12, 0, none⟩) 0 0), (20, .bool false)]) (Sub.cons rfl (Sub.cons rfl (Sub.cons rfl (Sub.cons rfl (Sub.cons rfl Sub.nil))))) ?_
  refine Wk.condF rfl ?_
  refine Wk.skip ?_
  refine Kt.onSub (e' := [(1, .int .i64 r), (2, .pointer (some ⟨p2, 0, none⟩)), (5, .slice (some ⟨p11, 0, none⟩) 0 0), (6, .slice (some ⟨p12, 0, none⟩) 0 0)]) (Sub.cons rfl (Sub.cons rfl (Sub.cons rfl (Sub.cons rfl Sub.nil)))) ?_
  refine Wk.seq ?_
  refine Wk.region ?_
  refine Ll.callGet (σ := Nat × Nat × List Bkt) (ok := fun s => TabOk s.2.2 []) (v := fun s => .agg #[.slice (some ⟨s.1, 0, none⟩) 997 997, .slice (some ⟨s.2.1, 0, none⟩) 1 1]) (xs := []) (vs := []) (hs' := fun s => [(p12, .cells #[] 3 (0, 0)), (p11, .cells #[] 3 (0, 0)), (p2, .cells #[.int .i64 a.n, str a.set, str a.rel] 26 (0, 0))] ++ (tabL 114 3 116 s.1 s.2.1 s.2.2 [] ++ [])) rfl rfl rfl rfl Tryd.call66 rfl (fun w1 hw1 => (l5New_ok _ _ _ w1 hw1).mono fun en w' ⟨q, c, h1, h2⟩ => ⟨(q, c, _), h1, TabOk.new, by dsimp only; rw [List.append_nil]; exact h2.perm perm_front⟩) fun ⟨q, c, bs0⟩ hT0 => ?_
  show Ll _ _ (Own _ _ ((p12, .cells #[] 3 (0, 0)) :: (p11, .cells #[] 3 (0, 0)) :: (p2, .cells #[.int .i64 a.n, str a.set, str a.rel] 26 (0, 0)) :: (q, .cells ((bs0.map bktV).toArray) 114 (0, 0)) :: (c, .cells #[.int .i64 (((([] : List (List UInt8))).length : Int))] 3 (0, 0)) :: ((blks 116 bs0 ++ [])))) _ _ ((22, .agg #[.slice (some ⟨q, 0, none⟩) 997 997, .slice (some ⟨c, 0, none⟩) 1 1]) :: _) _ _ _
  refine Ll.alloc rfl rfl rfl rfl Tryd.zeroValue71 fun p7 hp7 => ?_
  show Ll _ _ (Own _ _ ((p7, .cells #[.slice none 0 0, .slice none 0 0] 71 (0, 0)) :: (p12, .cells #[] 3 (0, 0)) :: (p11, .cells #[] 3 (0, 0)) :: (p2, .cells #[.int .i64 a.n, str a.set, str a.rel] 26 (0, 0)) :: (q, .cells ((bs0.map bktV).toArray) 114 (0, 0)) :: (c, .cells #[.int .i64 (((([] : List (List UInt8))).length : Int))] 3 (0, 0)) :: ((blks 116 bs0 ++ [])))) _ _ ((7, .pointer (some ⟨p7, 0, none⟩)) :: _) _ _ _
  refine Ll.storeBox (cs' := #[.slice (some ⟨q, 0, none⟩) 997 997, .slice (some ⟨c, 0, none⟩) 1 1]) (hs' := ((p7, .cells #[.slice (some ⟨q, 0, none⟩) 997 997, .slice (some ⟨c, 0, none⟩) 1 1] 71 (0, 0)) :: (p12, .cells #[] 3 (0, 0)) :: (p11, .cells #[] 3 (0, 0)) :: (p2, .cells #[.int .i64 a.n, str a.set, str a.rel] 26 (0, 0)) :: (q, .cells ((bs0.map bktV).toArray) 114 (0, 0)) :: (c, .cells #[.int .i64 (((([] : List (List UInt8))).length : Int))] 3 (0, 0)) :: ((blks 116 bs0 ++ [])))) 0 rfl rfl rfl rfl rfl (by kernel_rfl : _ = some Tryd.t71) rfl rfl rfl rfl rfl ?_
  refine Ll.nil ?_
  refine Kt.onSub (e' := [(1, .int .i64 r), (2, .pointer (some ⟨p2, 0, none⟩)), (5, .slice (some ⟨p11, 0, none⟩) 0 0), (6, .slice (some ⟨p12, 0, none⟩) 0 0), (7, .pointer (some ⟨p7, 0, none⟩))]) (Sub.cons rfl (Sub.cons rfl (Sub.cons rfl (Sub.cons rfl (Sub.cons rfl Sub.nil))))) ?_
  refine Wk.seq ?_
  refine Wk.seq ?_
  refine Wk.regionQ ?_
  refine Lq.op (v := .int .i64 0) rfl rfl rfl (OpQ.assign rfl rfl) ?_
  refine Lq.nil ?_
  refine Kt.onSub (e' := [(1, .int .i64 r), (2, .pointer (some ⟨p2, 0, none⟩)), (5, .slice (some ⟨p11, 0, none⟩) 0 0), (6, .slice (some ⟨p12, 0, none⟩) 0 0), (7, .pointer (some ⟨p7, 0, none⟩)), (8, .int .i64 0)]) (Sub.cons rfl (Sub.cons rfl (Sub.cons rfl (Sub.cons rfl (Sub.cons rfl (Sub.cons rfl Sub.nil)))))) ?_
  refine Wk.block ?_
  refine Wk.loop (σ := Nat × List Bkt × List (List UInt8) × Nat × Nat × Array Value × Nat × Nat × Array Value × List Int × List Int) (fun ⟨k, bs1, T1, gs, cs, us, go, co, uo, S, O⟩ => (k : Int) ≤ a.n ∧ TabTo ([] : List (List UInt8)) bs1 T1 (k * cnt r.toNat) ∧ SeenL T1 r.toNat a k S O ∧ us.size = cs * 1 ∧ S.length ≤ cs ∧ us.toList.take S.length = ints S ∧ uo.size = co * 1 ∧ O.length ≤ co ∧ uo.toList.take O.length = ints O) (fun ⟨k, bs1, T1, gs, cs, us, go, co, uo, S, O⟩ => [(1, .int .i64 r), (2, .pointer (some ⟨p2, 0, none⟩)), (5, .slice (some ⟨go, 0, none⟩) O.length co), (6, .slice (some ⟨gs, 0, none⟩) S.length cs), (7, .pointer (some ⟨p7, 0, none⟩)), (8, .int .i64 ((k : Int)))]) (fun ⟨k, bs1, T1, gs, cs, us, go, co, uo, S, O⟩ => Own w.heap.size w ((p7, .cells #[.slice (some ⟨q, 0, none⟩) 997 997, .slice (some ⟨c, 0, none⟩) 1 1] 71 (0, 0)) :: (gs, .cells us 3 (0, 0)) :: (go, .cells uo 3 (0, 0)) :: (p2, .cells #[.int .i64 a.n, str a.set, str a.rel] 26 (0, 0)) :: (q, .cells ((bs1.map bktV).toArray) 114 (0, 0)) :: (c, .cells #[.int .i64 ((T1.length : Int))] 3 (0, 0)) :: ((blks 116 bs1 ++ [])))) (fun ⟨k, bs1, T1, gs, cs, us, go, co, uo, S, O⟩ => (a.n - k).toNat) ((0, bs0, [], p12, 0, #[], p11, 0, #[], [], [])) ⟨by omega, ⟨hT0, List.prefix_refl _, by omega⟩, SeenL.zero, rfl, Nat.le_refl 0, rfl, rfl, Nat.le_refl 0, rfl⟩ (Sub.cons rfl (Sub.cons rfl (Sub.cons rfl (Sub.cons rfl (Sub.cons rfl (Sub.cons rfl Sub.nil)))))) (fun _ h => h) ?_
  rintro ⟨k, bs1, T1, gs, cs, us, go, co, uo, S, O⟩ ⟨hk, hTT, hSn, hcs, hls, hts, hco, hlo, hto⟩
  dsimp only
  obtain ⟨hOl, hSl⟩ := hSn.len
  have hTl := hTT.len
  simp only [List.length_nil] at hTl
  have hk8 := cnt_le k r.toNat (by omega)
  refine Wk.seq ?_
  refine Wk.seq ?_
  refine Wk.regionQ ?_
  refine Lq.op (v := .int .i64 ((k : Int))) rfl rfl rfl (OpQ.move rfl rfl) ?_
  refine Lq.op (v := .pointer (some ⟨p2, 0, none⟩)) rfl rfl rfl (OpQ.fieldAddr rfl Tryd.runUnderlying26 rfl Tryd.sizeOf3 rfl rfl) ?_
  refine Lq.op (v := .int .i64 a.n) rfl rfl rfl (OpQ.loadOwn 3 rfl Tryd.isAgg3 rfl rfl rfl) ?_
  refine Lq.op (v := .bool (decide (((k : Int)) < a.n))) rfl rfl rfl (OpQ.lss rfl rfl rfl) ?_
  refine Lq.nil ?_
  refine Kt.onSub (e' := [(1, .int .i64 r), (2, .pointer (some ⟨p2, 0, none⟩)), (5, .slice (some ⟨go, 0, none⟩) O.length co), (6, .slice (some ⟨gs, 0, none⟩) S.length cs), (7, .pointer (some ⟨p7, 0, none⟩)), (8, .int .i64 ((k : Int))), (26, .bool (decide (((k : Int)) < a.n)))]) (Sub.cons rfl (Sub.cons rfl (Sub.cons rfl (Sub.cons rfl (Sub.cons rfl (Sub.cons rfl (Sub.cons rfl Sub.nil))))))) ?_
  refine Wk.cond (b := decide (((k : Int)) < a.n)) rfl (fun h26 => ?_) (fun h26 => ?_)
  · skip
    replace h26 := of_decide_eq_true h26
    have hx : a.El k := ⟨by omega, by omega⟩
    refine Wk.skip ?_
    refine Kt.onSub (e' := [(1, .int .i64 r), (2, .pointer (some ⟨p2, 0, none⟩)), (5, .slice (some ⟨go, 0, none⟩) O.length co), (6, .slice (some ⟨gs, 0, none⟩) S.length cs), (7, .pointer (some ⟨p7, 0, none⟩)), (8, .int .i64 ((k : Int)))]) (Sub.cons rfl (Sub.cons rfl (Sub.cons rfl (Sub.cons rfl (Sub.cons rfl (Sub.cons rfl Sub.nil)))))) ?_
    refine Wk.seq ?_
    refine Wk.block ?_
    refine Wk.seq ?_
    refine Wk.region ?_
    refine Ll.op (v := .agg #[.slice (some ⟨q, 0, none⟩) 997 997, .slice (some ⟨c, 0, none⟩) 1 1]) rfl rfl rfl (OpQ.loadBox (cs := #[.slice (some ⟨q, 0, none⟩) 997 997, .slice (some ⟨c, 0, none⟩) 1 1]) 0 rfl Tryd.isAgg71 rfl rfl Tryd.sizeOf71) ?_
    refine Ll.op (v := vS a) rfl rfl rfl (OpQ.loadBox (cs := #[.int .i64 a.n, str a.set, str a.rel]) 3 rfl Tryd.isAgg26 rfl rfl Tryd.sizeOf26) ?_
    refine Ll.op (v := .int .i64 ((k : Int))) rfl rfl rfl (OpQ.move rfl rfl) ?_
    refine Ll.slice (xs := [.tmp 31]) (vs := [.int .i64 ((k : Int))]) Base.elem31 rfl rfl rfl rfl rfl rfl (by decide) rfl fun p32 hp32 => ?_
    refine Ll.op (v := .int .i64 r) rfl rfl rfl (OpQ.move rfl rfl) ?_
    refine Ll.callTab (S := 114) (I := 3) (E := 116) (q := q) (c := c) (bs := bs1) (T := T1) (hs := []) (ok := fun m bs' T' => TabTo T1 bs' T' (cnt r.toNat) ∧ Means T' r.toNat a ([(k : Int)]) m) (xs := [.tmp 29, .tmp 30, .tmp 32, .tmp 33]) (vs := [.agg #[.slice (some ⟨q, 0, none⟩) 997 997, .slice (some ⟨c, 0, none⟩) 1 1], vS a, .slice (some ⟨p32, 0, none⟩) 1 1, .int .i64 r]) [(p32, .cells #[.int .i64 ((k : Int))] 3 (0, 0)), (p7, .cells #[.slice (some ⟨q, 0, none⟩) 997 997, .slice (some ⟨c, 0, none⟩) 1 1] 71 (0, 0)), (gs, .cells us 3 (0, 0)), (go, .cells uo 3 (0, 0)), (p2, .cells #[.int .i64 a.n, str a.set, str a.rel] 26 (0, 0))] rfl rfl rfl rfl Tryd.call68 rfl (fun w1 hw1 => type_at r h0 w.heap.size w ([(p32, .cells #[.int .i64 ((k : Int))] 3 (0, 0)), (p7, .cells #[.slice (some ⟨q, 0, none⟩) 997 997, .slice (some ⟨c, 0, none⟩) 1 1] 71 (0, 0)), (gs, .cells us 3 (0, 0)), (go, .cells uo 3 (0, 0)), (p2, .cells #[.int .i64 a.n, str a.set, str a.rel] 26 (0, 0))] ++ []) q c bs1 T1 a (.slice (some ⟨p32, 0, none⟩) 1 1) ([(k : Int)]) w1 hTT.ok ha (fun w2 hw2 => (Own.row hw2 (i := 0) rfl (n := 1) (cap := 1) (vs := ints [(k : Int)]) rfl rfl (by decide))) (els_one hx) (by simp; omega) (by omega) hw1) fun m bs_ T_ hKm => ?_
    show Ll _ _ (Own _ _ ((p32, .cells #[.int .i64 ((k : Int))] 3 (0, 0)) :: (p7, .cells #[.slice (some ⟨q, 0, none⟩) 997 997, .slice (some ⟨c, 0, none⟩) 1 1] 71 (0, 0)) :: (gs, .cells us 3 (0, 0)) :: (go, .cells uo 3 (0, 0)) :: (p2, .cells #[.int .i64 a.n, str a.set, str a.rel] 26 (0, 0)) :: (q, .cells ((bs_.map bktV).toArray) 114 (0, 0)) :: (c, .cells #[.int .i64 ((T_.length : Int))] 3 (0, 0)) :: ((blks 116 bs_ ++ [])))) _ _ ((34, .int .i64 ((m : Int))) :: _) _ _ _
    refine Ll.op (v := .int .i64 ((m : Int))) rfl rfl rfl (OpQ.assign rfl rfl) ?_
    refine Ll.nil ?_
    refine Kt.onSub (e' := [(1, .int .i64 r), (2, .pointer (some ⟨p2, 0, none⟩)), (5, .slice (some ⟨go, 0, none⟩) O.length co), (6, .slice (some ⟨gs, 0, none⟩) S.length cs), (7, .pointer (some ⟨p7, 0, none⟩)), (8, .int .i64 ((k : Int))), (9, .int .i64 ((m : Int)))]) (Sub.cons rfl (Sub.cons rfl (Sub.cons rfl (Sub.cons rfl (Sub.cons rfl (Sub.cons rfl (Sub.cons rfl Sub.nil))))))) ?_
    refine Wk.seq ?_
    refine Wk.seq ?_
    refine Wk.regionQ ?_
    refine Lq.op (v := .slice (some ⟨gs, 0, none⟩) S.length cs) rfl rfl rfl (OpQ.move rfl rfl) ?_
    refine Lq.op (v := .int .i64 ((m : Int))) rfl rfl rfl (OpQ.move rfl rfl) ?_
    refine Lq.op (v := .bool (decide (((m : Int)) ∈ S))) rfl rfl rfl (OpQ.call rfl Tryd.call72 rfl Own.stable (fun w1 hw1 => l1Has_ok (.slice (some ⟨gs, 0, none⟩) S.length cs) S ((m : Int)) w1 (Own.row hw1 (i := 2) rfl hts (by simp) hls) (by first | (simp; done) | (simp; omega) | omega))) ?_
    refine Lq.op (v := .bool (!(decide (((m : Int)) ∈ S)))) rfl rfl rfl (OpQ.not rfl rfl) ?_
    refine Lq.nil ?_
    refine Kt.onSub (e' := [(1, .int .i64 r), (2, .pointer (some ⟨p2, 0, none⟩)), (5, .slice (some ⟨go, 0, none⟩) O.length co), (6, .slice (some ⟨gs, 0, none⟩) S.length cs), (7, .pointer (some ⟨p7, 0, none⟩)), (8, .int .i64 ((k : Int))), (9, .int .i64 ((m : Int))), (38, .bool (!(decide (((m : Int)) ∈ S))))]) (Sub.cons rfl (Sub.cons rfl (Sub.cons rfl (Sub.cons rfl (Sub.cons rfl (Sub.cons rfl (Sub.cons rfl (Sub.cons rfl Sub.nil)))))))) ?_
    refine Wk.cond (b := !(decide (((m : Int)) ∈ S))) rfl (fun h38 => ?_) (fun h38 => ?_)
    · skip
      replace h38 := not_true h38
      replace h38 := of_decide_eq_false h38
      obtain ⟨kk, hkk, hix, hSN⟩ := hSn.step_new hKm.1.pre hKm.1.ok.nodup hKm.2 (by simpa using h38)
      have hS2 : (S ++ [(m : Int)]).length ≤ 9 := by simp; omega
      refine Wk.region ?_
      refine Ll.op (v := .slice (some ⟨gs, 0, none⟩) S.length cs) rfl rfl rfl (OpQ.move rfl rfl) ?_
      refine Ll.op (v := .int .i64 ((m : Int))) rfl rfl rfl (OpQ.move rfl rfl) ?_
      refine Ll.slice (xs := [.tmp 40]) (vs := [.int .i64 ((m : Int))]) Base.elem31 rfl rfl rfl rfl rfl rfl (by decide) rfl fun p41 hp41 => ?_
      refine Ll.appendInts (xs := S) (ys := [(m : Int)]) Base.elem31 3 rfl rfl rfl rfl rfl rfl rfl hcs hls hts (fun w1 hw1 => (Own.row hw1 (i := 0) rfl (n := 1) (cap := 1) (vs := ints [(m : Int)]) rfl rfl (by decide))) ((S ++ ([(m : Int)])).length) (by first | (simp; done) | (simp; omega)) (by first | (simp; done) | (simp; omega) | omega) fun p42 cap42 cur42 hp42 hcp42 hlp42 htp42 => ?_
      show Ll _ _ (Own _ _ ((p41, .cells #[.int .i64 ((m : Int))] 3 (0, 0)) :: (p32, .cells #[.int .i64 ((k : Int))] 3 (0, 0)) :: (p7, .cells #[.slice (some ⟨q, 0, none⟩) 997 997, .slice (some ⟨c, 0, none⟩) 1 1] 71 (0, 0)) :: (p42, .cells cur42 3 (0, 0)) :: (go, .cells uo 3 (0, 0)) :: (p2, .cells #[.int .i64 a.n, str a.set, str a.rel] 26 (0, 0)) :: (q, .cells ((bs_.map bktV).toArray) 114 (0, 0)) :: (c, .cells #[.int .i64 ((T_.length : Int))] 3 (0, 0)) :: ((blks 116 bs_ ++ [])))) _ _ ((42, .slice (some ⟨p42, 0, none⟩) (((S ++ ([(m : Int)])).length)) cap42) :: _) _ _ _
      refine Ll.op (v := .slice (some ⟨p42, 0, none⟩) (((S ++ ([(m : Int)])).length)) cap42) rfl rfl rfl (OpQ.assign rfl rfl) ?_
      refine Ll.nil ?_
      refine Kt.onSub (e' := [(1, .int .i64 r), (2, .pointer (some ⟨p2, 0, none⟩)), (5, .slice (some ⟨go, 0, none⟩) O.length co), (6, .slice (some ⟨p42, 0, none⟩) (((S ++ ([(m : Int)])).length)) cap42), (7, .pointer (some ⟨p7, 0, none⟩)), (8, .int .i64 ((k : Int))), (9, .int .i64 ((m : Int)))]) (Sub.cons rfl (Sub.cons rfl (Sub.cons rfl (Sub.cons rfl (Sub.cons rfl (Sub.cons rfl (Sub.cons rfl Sub.nil))))))) ?_
      refine Wk.seq ?_
      refine Wk.regionQ ?_
      refine Lq.op (v := .int .i64 0) rfl rfl rfl (OpQ.assign rfl rfl) ?_
      refine Lq.nil ?_
      refine Kt.onSub (e' := [(1, .int .i64 r), (2, .pointer (some ⟨p2, 0, none⟩)), (5, .slice (some ⟨go, 0, none⟩) O.length co), (6, .slice (some ⟨p42, 0, none⟩) (((S ++ ([(m : Int)])).length)) cap42), (7, .pointer (some ⟨p7, 0, none⟩)), (8, .int .i64 ((k : Int))), (9, .int .i64 ((m : Int))), (10, .int .i64 0)]) (Sub.cons rfl (Sub.cons rfl (Sub.cons rfl (Sub.cons rfl (Sub.cons rfl (Sub.cons rfl (Sub.cons rfl (Sub.cons rfl Sub.nil)))))))) ?_
      refine Wk.block ?_
      refine Wk.loop (σ := Nat × Nat × Nat × Array Value) (fun ⟨j, g3, c3, u3⟩ => j ≤ ((S ++ ([(m : Int)])).length) ∧ u3.size = c3 * 1 ∧ (outAt O kk j).length ≤ c3 ∧ u3.toList.take (outAt O kk j).length = ints (outAt O kk j)) (fun ⟨j, g3, c3, u3⟩ => [(1, .int .i64 r), (2, .pointer (some ⟨p2, 0, none⟩)), (5, .slice (some ⟨g3, 0, none⟩) ((outAt O kk j).length) c3), (6, .slice (some ⟨p42, 0, none⟩) (((S ++ ([(m : Int)])).length)) cap42), (7, .pointer (some ⟨p7, 0, none⟩)), (8, .int .i64 ((k : Int))), (9, .int .i64 ((m : Int))), (10, .int .i64 ((j : Int)))]) (fun ⟨j, g3, c3, u3⟩ => Own w.heap.size w ((p41, .cells #[.int .i64 ((m : Int))] 3 (0, 0)) :: (p32, .cells #[.int .i64 ((k : Int))] 3 (0, 0)) :: (p7, .cells #[.slice (some ⟨q, 0, none⟩) 997 997, .slice (some ⟨c, 0, none⟩) 1 1] 71 (0, 0)) :: (p42, .cells cur42 3 (0, 0)) :: (g3, .cells u3 3 (0, 0)) :: (p2, .cells #[.int .i64 a.n, str a.set, str a.rel] 26 (0, 0)) :: (q, .cells ((bs_.map bktV).toArray) 114 (0, 0)) :: (c, .cells #[.int .i64 ((T_.length : Int))] 3 (0, 0)) :: ((blks 116 bs_ ++ [])))) (fun ⟨j, g3, c3, u3⟩ => ((S ++ ([(m : Int)])).length) - j) ((0, go, co, uo)) ⟨by omega, hco, by rw [outAt_zero]; exact hlo, by rw [outAt_zero]; exact hto⟩ (Sub.cons rfl (Sub.cons rfl (Sub.cons (by rw [outAt_zero]; rfl) (Sub.cons rfl (Sub.cons rfl (Sub.cons rfl (Sub.cons rfl (Sub.cons rfl Sub.nil)))))))) (fun _ h => h) ?_
      rintro ⟨j, g3, c3, u3⟩ ⟨hj, hcg, hlg, htg⟩
      dsimp only
      have hol := outAt_le O kk j
      refine Wk.seq ?_
      refine Wk.seq ?_
      refine Wk.regionQ ?_
      refine Lq.op (v := .int .i64 ((j : Int))) rfl rfl rfl (OpQ.move rfl rfl) ?_
      refine Lq.op (v := .slice (some ⟨p42, 0, none⟩) (((S ++ ([(m : Int)])).length)) cap42) rfl rfl rfl (OpQ.move rfl rfl) ?_
      refine Lq.op (v := .int .i64 ((((S ++ ([(m : Int)])).length) : Int))) rfl rfl rfl (OpQ.lenS rfl Tryd.runUnderlying31 rfl) ?_
      refine Lq.op (v := .bool (decide (((j : Int)) < ((((S ++ ([(m : Int)])).length) : Int))))) rfl rfl rfl (OpQ.lss rfl rfl rfl) ?_
      refine Lq.nil ?_
      refine Kt.onSub (e' := [(1, .int .i64 r), (2, .pointer (some ⟨p2, 0, none⟩)), (5, .slice (some ⟨g3, 0, none⟩) ((outAt O kk j).length) c3), (6, .slice (some ⟨p42, 0, none⟩) (((S ++ ([(m : Int)])).length)) cap42), (7, .pointer (some ⟨p7, 0, none⟩)), (8, .int .i64 ((k : Int))), (9, .int .i64 ((m : Int))), (10, .int .i64 ((j : Int))), (46, .bool (decide (((j : Int)) < ((((S ++ ([(m : Int)])).length) : Int)))))]) (Sub.cons rfl (Sub.cons rfl (Sub.cons rfl (Sub.cons rfl (Sub.cons rfl (Sub.cons rfl (Sub.cons rfl (Sub.cons rfl (Sub.cons rfl Sub.nil))))))))) ?_
      refine Wk.cond (b := decide (((j : Int)) < ((((S ++ ([(m : Int)])).length) : Int)))) rfl (fun h46 => ?_) (fun h46 => ?_)
      · skip
        replace h46 := of_decide_eq_true h46
        refine Wk.skip ?_
        refine Kt.onSub (e' := [(1, .int .i64 r), (2, .pointer (some ⟨p2, 0, none⟩)), (5, .slice (some ⟨g3, 0, none⟩) ((outAt O kk j).length) c3), (6, .slice (some ⟨p42, 0, none⟩) (((S ++ ([(m : Int)])).length)) cap42), (7, .pointer (some ⟨p7, 0, none⟩)), (8, .int .i64 ((k : Int))), (9, .int .i64 ((m : Int))), (10, .int .i64 ((j : Int)))]) (Sub.cons rfl (Sub.cons rfl (Sub.cons rfl (Sub.cons rfl (Sub.cons rfl (Sub.cons rfl (Sub.cons rfl (Sub.cons rfl Sub.nil)))))))) ?_
        refine Wk.seq ?_
        refine Wk.block ?_
        refine Wk.seq ?_
        refine Wk.regionQ ?_
        refine Lq.op (v := .slice (some ⟨p42, 0, none⟩) (((S ++ ([(m : Int)])).length)) cap42) rfl rfl rfl (OpQ.move rfl rfl) ?_
        refine Lq.op (v := .int .i64 ((j : Int))) rfl rfl rfl (OpQ.move rfl rfl) ?_
        refine Lq.op (v := .pointer (some ⟨p42, j, none⟩)) rfl rfl rfl (OpQ.cast (v' := .pointer (some ⟨p42, j, none⟩)) (by simp) (OpQ.indexAddr1 (i := (j : Int)) rfl Tryd.runUnderlying31 Tryd.sizeOf3 rfl rfl (by omega) (by omega))) ?_
        refine Lq.op (v := .int .i64 ((S ++ ([(m : Int)])).getD (j) 0)) rfl rfl rfl (OpQ.loadAt 3 rfl Tryd.isAgg3 rfl rfl (cur_at (by simpa using htp42) (ints_at2 (by omega)))) ?_
        refine Lq.op (v := .int .i64 ((m : Int))) rfl rfl rfl (OpQ.move rfl rfl) ?_
        refine Lq.op (v := .bool (decide (((S ++ ([(m : Int)])).getD (j) 0) = ((m : Int))))) rfl rfl rfl (OpQ.eql rfl rfl rfl) ?_
        refine Lq.nil ?_
        refine Kt.onSub (e' := [(1, .int .i64 r), (2, .pointer (some ⟨p2, 0, none⟩)), (5, .slice (some ⟨g3, 0, none⟩) ((outAt O kk j).length) c3), (6, .slice (some ⟨p42, 0, none⟩) (((S ++ ([(m : Int)])).length)) cap42), (7, .pointer (some ⟨p7, 0, none⟩)), (8, .int .i64 ((k : Int))), (9, .int .i64 ((m : Int))), (10, .int .i64 ((j : Int))), (54, .bool (decide (((S ++ ([(m : Int)])).getD (j) 0) = ((m : Int)))))]) (Sub.cons rfl (Sub.cons rfl (Sub.cons rfl (Sub.cons rfl (Sub.cons rfl (Sub.cons rfl (Sub.cons rfl (Sub.cons rfl (Sub.cons rfl Sub.nil))))))))) ?_
        refine Wk.cond (b := decide (((S ++ ([(m : Int)])).getD (j) 0) = ((m : Int)))) rfl (fun h54 => ?_) (fun h54 => ?_)
        · skip
          replace h54 := of_decide_eq_true h54
          have hjk := (hix j (by omega)).1 h54
          refine Wk.region ?_
          refine Ll.op (v := .slice (some ⟨g3, 0, none⟩) ((outAt O kk j).length) c3) rfl rfl rfl (OpQ.move rfl rfl) ?_
          refine Ll.op (v := .int .i64 ((j : Int))) rfl rfl rfl (OpQ.move rfl rfl) ?_
          refine Ll.slice (xs := [.tmp 56]) (vs := [.int .i64 ((j : Int))]) Base.elem31 rfl rfl rfl rfl rfl rfl (by decide) rfl fun p57 hp57 => ?_
          refine Ll.appendInts (xs := outAt O kk j) (ys := [(j : Int)]) Base.elem31 5 rfl rfl rfl rfl rfl rfl rfl hcg hlg htg (fun w1 hw1 => (Own.row hw1 (i := 0) rfl (n := 1) (cap := 1) (vs := ints [(j : Int)]) rfl rfl (by decide))) (((outAt O kk j) ++ ([(j : Int)])).length) (by first | (simp; done) | (simp; omega)) (by first | (simp; done) | (simp; omega) | omega) fun p58 cap58 cur58 hp58 hcp58 hlp58 htp58 => ?_
          show Ll _ _ (Own _ _ ((p57, .cells #[.int .i64 ((j : Int))] 3 (0, 0)) :: (p41, .cells #[.int .i64 ((m : Int))] 3 (0, 0)) :: (p32, .cells #[.int .i64 ((k : Int))] 3 (0, 0)) :: (p7, .cells #[.slice (some ⟨q, 0, none⟩) 997 997, .slice (some ⟨c, 0, none⟩) 1 1] 71 (0, 0)) :: (p42, .cells cur42 3 (0, 0)) :: (p58, .cells cur58 3 (0, 0)) :: (p2, .cells #[.int .i64 a.n, str a.set, str a.rel] 26 (0, 0)) :: (q, .cells ((bs_.map bktV).toArray) 114 (0, 0)) :: (c, .cells #[.int .i64 ((T_.length : Int))] 3 (0, 0)) :: ((blks 116 bs_ ++ [])))) _ _ ((58, .slice (some ⟨p58, 0, none⟩) ((((outAt O kk j) ++ ([(j : Int)])).length)) cap58) :: _) _ _ _
          refine Ll.op (v := .slice (some ⟨p58, 0, none⟩) ((((outAt O kk j) ++ ([(j : Int)])).length)) cap58) rfl rfl rfl (OpQ.assign rfl rfl) ?_
          refine Ll.nil ?_
          refine Kt.onSub (e' := [(1, .int .i64 r), (2, .pointer (some ⟨p2, 0, none⟩)), (5, .slice (some ⟨p58, 0, none⟩) ((((outAt O kk j) ++ ([(j : Int)])).length)) cap58), (6, .slice (some ⟨p42, 0, none⟩) (((S ++ ([(m : Int)])).length)) cap42), (7, .pointer (some ⟨p7, 0, none⟩)), (8, .int .i64 ((k : Int))), (9, .int .i64 ((m : Int))), (10, .int .i64 ((j : Int)))]) (Sub.cons rfl (Sub.cons rfl (Sub.cons rfl (Sub.cons rfl (Sub.cons rfl (Sub.cons rfl (Sub.cons rfl (Sub.cons rfl Sub.nil)))))))) ?_
          refine Wk.regionQ ?_
          refine Lq.op (v := .int .i64 ((j : Int))) rfl rfl rfl (OpQ.move rfl rfl) ?_
          refine Lq.op (v := .int .i64 (((j : Int)) + (1 : Int))) rfl rfl rfl (OpQ.add rfl rfl rfl (by omega) (by omega)) ?_
          refine Lq.op (v := .int .i64 (((j : Int)) + (1 : Int))) rfl rfl rfl (OpQ.assign rfl rfl) ?_
          refine Lq.nil ?_
          refine Kt.again ((j + 1, p58, cap58, cur58)) ⟨by omega, hcp58, by rw [outAt_yes hjk]; exact hlp58, by rw [outAt_yes hjk]; simpa using htp58⟩ (by omega) (Sub.cons rfl (Sub.cons rfl (Sub.cons (by rw [outAt_yes hjk]; rfl) (Sub.cons rfl (Sub.cons rfl (Sub.cons rfl (Sub.cons rfl (Sub.cons rfl Sub.nil)))))))) (fun _ h => h.tail)
        · skip
          replace h54 := of_decide_eq_false h54
          have hjk : ¬ j = kk := fun e => h54 ((hix j (by omega)).2 e)
          refine Wk.skip ?_
          refine Kt.onSub (e' := [(1, .int .i64 r), (2, .pointer (some ⟨p2, 0, none⟩)), (5, .slice (some ⟨g3, 0, none⟩) ((outAt O kk j).length) c3), (6, .slice (some ⟨p42, 0, none⟩) (((S ++ ([(m : Int)])).length)) cap42), (7, .pointer (some ⟨p7, 0, none⟩)), (8, .int .i64 ((k : Int))), (9, .int .i64 ((m : Int))), (10, .int .i64 ((j : Int)))]) (Sub.cons rfl (Sub.cons rfl (Sub.cons rfl (Sub.cons rfl (Sub.cons rfl (Sub.cons rfl (Sub.cons rfl (Sub.cons rfl Sub.nil)))))))) ?_
          refine Wk.regionQ ?_
          refine Lq.op (v := .int .i64 ((j : Int))) rfl rfl rfl (OpQ.move rfl rfl) ?_
          refine Lq.op (v := .int .i64 (((j : Int)) + (1 : Int))) rfl rfl rfl (OpQ.add rfl rfl rfl (by omega) (by omega)) ?_
          refine Lq.op (v := .int .i64 (((j : Int)) + (1 : Int))) rfl rfl rfl (OpQ.assign rfl rfl) ?_
          refine Lq.nil ?_
          refine Kt.again ((j + 1, g3, c3, u3)) ⟨by omega, hcg, by rw [outAt_no hjk]; exact hlg, by rw [outAt_no hjk]; exact htg⟩ (by omega) (Sub.cons rfl (Sub.cons rfl (Sub.cons (by rw [outAt_no hjk]; rfl) (Sub.cons rfl (Sub.cons rfl (Sub.cons rfl (Sub.cons rfl (Sub.cons rfl Sub.nil)))))))) (fun _ h => h)
      · skip
        replace h46 := of_decide_eq_false h46
        have hO := outAt_end (O := O) (kk := kk) (k := j) (by omega)
        refine Wk.exit rfl ?_
        refine Kt.onSub (e' := [(1, .int .i64 r), (2, .pointer (some ⟨p2, 0, none⟩)), (5, .slice (some ⟨g3, 0, none⟩) ((outAt O kk j).length) c3), (6, .slice (some ⟨p42, 0, none⟩) (((S ++ ([(m : Int)])).length)) cap42), (7, .pointer (some ⟨p7, 0, none⟩)), (8, .int .i64 ((k : Int)))]) (Sub.cons rfl (Sub.cons rfl (Sub.cons rfl (Sub.cons rfl (Sub.cons rfl (Sub.cons rfl Sub.nil)))))) ?_
        refine Wk.regionQ ?_
        refine Lq.op (v := .int .i64 ((k : Int))) rfl rfl rfl (OpQ.move rfl rfl) ?_
        refine Lq.op (v := .int .i64 (((k : Int)) + (1 : Int))) rfl rfl rfl (OpQ.add rfl rfl rfl (by omega) (by omega)) ?_
        refine Lq.op (v := .int .i64 (((k : Int)) + (1 : Int))) rfl rfl rfl (OpQ.assign rfl rfl) ?_
        refine Lq.nil ?_
        refine Kt.again ((k + 1, bs_, T_, p42, cap42, cur42, g3, c3, u3, S ++ ([(m : Int)]), O ++ [(kk : Int)])) ⟨by omega, hTT.trans hKm.1 (by rw [Nat.add_mul, Nat.one_mul]; exact Nat.le_refl _), hSN, hcp42, hlp42, by simpa using htp42, hcg, by rw [← hO]; exact hlg, by rw [← hO]; exact htg⟩ (by omega) (Sub.cons rfl (Sub.cons rfl (Sub.cons (by rw [← hO]; rfl) (Sub.cons rfl (Sub.cons rfl (Sub.cons rfl Sub.nil)))))) (fun _ h => h.tail.tail)
    · skip
      replace h38 := not_false h38
      replace h38 := of_decide_eq_true h38
      obtain ⟨kk, hkk, hix, hSN⟩ := hSn.step_old hKm.1.pre hKm.1.ok.nodup hKm.2 (by simpa using h38)
      refine Wk.skip ?_
      refine Kt.onSub (e' := [(1, .int .i64 r), (2, .pointer (some ⟨p2, 0, none⟩)), (5, .slice (some ⟨go, 0, none⟩) O.length co), (6, .slice (some ⟨gs, 0, none⟩) S.length cs), (7, .pointer (some ⟨p7, 0, none⟩)), (8, .int .i64 ((k : Int))), (9, .int .i64 ((m : Int)))]) (Sub.cons rfl (Sub.cons rfl (Sub.cons rfl (Sub.cons rfl (Sub.cons rfl (Sub.cons rfl (Sub.cons rfl Sub.nil))))))) ?_
      refine Wk.seq ?_
      refine Wk.regionQ ?_
      refine Lq.op (v := .int .i64 0) rfl rfl rfl (OpQ.assign rfl rfl) ?_
      refine Lq.nil ?_
      refine Kt.onSub (e' := [(1, .int .i64 r), (2, .pointer (some ⟨p2, 0, none⟩)), (5, .slice (some ⟨go, 0, none⟩) O.length co), (6, .slice (some ⟨gs, 0, none⟩) S.length cs), (7, .pointer (some ⟨p7, 0, none⟩)), (8, .int .i64 ((k : Int))), (9, .int .i64 ((m : Int))), (10, .int .i64 0)]) (Sub.cons rfl (Sub.cons rfl (Sub.cons rfl (Sub.cons rfl (Sub.cons rfl (Sub.cons rfl (Sub.cons rfl (Sub.cons rfl Sub.nil)))))))) ?_
      refine Wk.block ?_
      refine Wk.loop (σ := Nat × Nat × Nat × Array Value) (fun ⟨j, g3, c3, u3⟩ => j ≤ S.length ∧ u3.size = c3 * 1 ∧ (outAt O kk j).length ≤ c3 ∧ u3.toList.take (outAt O kk j).length = ints (outAt O kk j)) (fun ⟨j, g3, c3, u3⟩ => [(1, .int .i64 r), (2, .pointer (some ⟨p2, 0, none⟩)), (5, .slice (some ⟨g3, 0, none⟩) ((outAt O kk j).length) c3), (6, .slice (some ⟨gs, 0, none⟩) S.length cs), (7, .pointer (some ⟨p7, 0, none⟩)), (8, .int .i64 ((k : Int))), (9, .int .i64 ((m : Int))), (10, .int .i64 ((j : Int)))]) (fun ⟨j, g3, c3, u3⟩ => Own w.heap.size w ((p32, .cells #[.int .i64 ((k : Int))] 3 (0, 0)) :: (p7, .cells #[.slice (some ⟨q, 0, none⟩) 997 997, .slice (some ⟨c, 0, none⟩) 1 1] 71 (0, 0)) :: (gs, .cells us 3 (0, 0)) :: (g3, .cells u3 3 (0, 0)) :: (p2, .cells #[.int .i64 a.n, str a.set, str a.rel] 26 (0, 0)) :: (q, .cells ((bs_.map bktV).toArray) 114 (0, 0)) :: (c, .cells #[.int .i64 ((T_.length : Int))] 3 (0, 0)) :: ((blks 116 bs_ ++ [])))) (fun ⟨j, g3, c3, u3⟩ => S.length - j) ((0, go, co, uo)) ⟨by omega, hco, by rw [outAt_zero]; exact hlo, by rw [outAt_zero]; exact hto⟩ (Sub.cons rfl (Sub.cons rfl (Sub.cons (by rw [outAt_zero]; rfl) (Sub.cons rfl (Sub.cons rfl (Sub.cons rfl (Sub.cons rfl (Sub.cons rfl Sub.nil)))))))) (fun _ h => h) ?_
      rintro ⟨j, g3, c3, u3⟩ ⟨hj, hcg, hlg, htg⟩
      dsimp only
      have hol := outAt_le O kk j
      refine Wk.seq ?_
      refine Wk.seq ?_
      refine Wk.regionQ ?_
      refine Lq.op (v := .int .i64 ((j : Int))) rfl rfl rfl (OpQ.move rfl rfl) ?_
      refine Lq.op (v := .slice (some ⟨gs, 0, none⟩) S.length cs) rfl rfl rfl (OpQ.move rfl rfl) ?_
      refine Lq.op (v := .int .i64 ((S.length : Int))) rfl rfl rfl (OpQ.lenS rfl Tryd.runUnderlying31 rfl) ?_
      refine Lq.op (v := .bool (decide (((j : Int)) < ((S.length : Int))))) rfl rfl rfl (OpQ.lss rfl rfl rfl) ?_
      refine Lq.nil ?_
      refine Kt.onSub (e' := [(1, .int .i64 r), (2, .pointer (some ⟨p2, 0, none⟩)), (5, .slice (some ⟨g3, 0, none⟩) ((outAt O kk j).length) c3), (6, .slice (some ⟨gs, 0, none⟩) S.length cs), (7, .pointer (some ⟨p7, 0, none⟩)), (8, .int .i64 ((k : Int))), (9, .int .i64 ((m : Int))), (10, .int .i64 ((j : Int))), (46, .bool (decide (((j : Int)) < ((S.length : Int)))))]) (Sub.cons rfl (Sub.cons rfl (Sub.cons rfl (Sub.cons rfl (Sub.cons rfl (Sub.cons rfl (Sub.cons rfl (Sub.cons rfl (Sub.cons rfl Sub.nil))))))))) ?_
      refine Wk.cond (b := decide (((j : Int)) < ((S.length : Int)))) rfl (fun h46_1 => ?_) (fun h46_1 => ?_)
      · skip
        replace h46_1 := of_decide_eq_true h46_1
        refine Wk.skip ?_
        refine Kt.onSub (e' := [(1, .int .i64 r), (2, .pointer (some ⟨p2, 0, none⟩)), (5, .slice (some ⟨g3, 0, none⟩) ((outAt O kk j).length) c3), (6, .slice (some ⟨gs, 0, none⟩) S.length cs), (7, .pointer (some ⟨p7, 0, none⟩)), (8, .int .i64 ((k : Int))), (9, .int .i64 ((m : Int))), (10, .int .i64 ((j : Int)))]) (Sub.cons rfl (Sub.cons rfl (Sub.cons rfl (Sub.cons rfl (Sub.cons rfl (Sub.cons rfl (Sub.cons rfl (Sub.cons rfl Sub.nil)))))))) ?_
        refine Wk.seq ?_
        refine Wk.block ?_
        refine Wk.seq ?_
        refine Wk.regionQ ?_
        refine Lq.op (v := .slice (some ⟨gs, 0, none⟩) S.length cs) rfl rfl rfl (OpQ.move rfl rfl) ?_
        refine Lq.op (v := .int .i64 ((j : Int))) rfl rfl rfl (OpQ.move rfl rfl) ?_
        refine Lq.op (v := .pointer (some ⟨gs, j, none⟩)) rfl rfl rfl (OpQ.cast (v' := .pointer (some ⟨gs, j, none⟩)) (by simp) (OpQ.indexAddr1 (i := (j : Int)) rfl Tryd.runUnderlying31 Tryd.sizeOf3 rfl rfl (by omega) (by omega))) ?_
        refine Lq.op (v := .int .i64 ((S).getD (j) 0)) rfl rfl rfl (OpQ.loadAt 2 rfl Tryd.isAgg3 rfl rfl (cur_at hts (ints_at2 (by omega)))) ?_
        refine Lq.op (v := .int .i64 ((m : Int))) rfl rfl rfl (OpQ.move rfl rfl) ?_
        refine Lq.op (v := .bool (decide (((S).getD (j) 0) = ((m : Int))))) rfl rfl rfl (OpQ.eql rfl rfl rfl) ?_
        refine Lq.nil ?_
        refine Kt.onSub (e' := [(1, .int .i64 r), (2, .pointer (some ⟨p2, 0, none⟩)), (5, .slice (some ⟨g3, 0, none⟩) ((outAt O kk j).length) c3), (6, .slice (some ⟨gs, 0, none⟩) S.length cs), (7, .pointer (some ⟨p7, 0, none⟩)), (8, .int .i64 ((k : Int))), (9, .int .i64 ((m : Int))), (10, .int .i64 ((j : Int))), (54, .bool (decide (((S).getD (j) 0) = ((m : Int)))))]) (Sub.cons rfl (Sub.cons rfl (Sub.cons rfl (Sub.cons rfl (Sub.cons rfl (Sub.cons rfl (Sub.cons rfl (Sub.cons rfl (Sub.cons rfl Sub.nil))))))))) ?_
        refine Wk.cond (b := decide (((S).getD (j) 0) = ((m : Int)))) rfl (fun h54_1 => ?_) (fun h54_1 => ?_)
        · skip
          replace h54_1 := of_decide_eq_true h54_1
          have hjk := (hix j (by omega)).1 h54_1
          refine Wk.region ?_
          refine Ll.op (v := .slice (some ⟨g3, 0, none⟩) ((outAt O kk j).length) c3) rfl rfl rfl (OpQ.move rfl rfl) ?_
          refine Ll.op (v := .int .i64 ((j : Int))) rfl rfl rfl (OpQ.move rfl rfl) ?_
          refine Ll.slice (xs := [.tmp 56]) (vs := [.int .i64 ((j : Int))]) Base.elem31 rfl rfl rfl rfl rfl rfl (by decide) rfl fun p57_1 hp57_1 => ?_
          refine Ll.appendInts (xs := outAt O kk j) (ys := [(j : Int)]) Base.elem31 4 rfl rfl rfl rfl rfl rfl rfl hcg hlg htg (fun w1 hw1 => (Own.row hw1 (i := 0) rfl (n := 1) (cap := 1) (vs := ints [(j : Int)]) rfl rfl (by decide))) (((outAt O kk j) ++ ([(j : Int)])).length) (by first | (simp; done) | (simp; omega)) (by first | (simp; done) | (simp; omega) | omega) fun p58_1 cap58_1 cur58_1 hp58_1 hcp58_1 hlp58_1 htp58_1 => ?_
          show Ll _ _ (Own _ _ ((p57_1, .cells #[.int .i64 ((j : Int))] 3 (0, 0)) :: (p32, .cells #[.int .i64 ((k : Int))] 3 (0, 0)) :: (p7, .cells #[.slice (some ⟨q, 0, none⟩) 997 997, .slice (some ⟨c, 0, none⟩) 1 1] 71 (0, 0)) :: (gs, .cells us 3 (0, 0)) :: (p58_1, .cells cur58_1 3 (0, 0)) :: (p2, .cells #[.int .i64 a.n, str a.set, str a.rel] 26 (0, 0)) :: (q, .cells ((bs_.map bktV).toArray) 114 (0, 0)) :: (c, .cells #[.int .i64 ((T_.length : Int))] 3 (0, 0)) :: ((blks 116 bs_ ++ [])))) _ _ ((58, .slice (some ⟨p58_1, 0, none⟩) ((((outAt O kk j) ++ ([(j : Int)])).length)) cap58_1) :: _) _ _ _
          refine Ll.op (v := .slice (some ⟨p58_1, 0, none⟩) ((((outAt O kk j) ++ ([(j : Int)])).length)) cap58_1) rfl rfl rfl (OpQ.assign rfl rfl) ?_
          refine Ll.nil ?_
          refine Kt.onSub (e' := [(1, .int .i64 r), (2, .pointer (some ⟨p2, 0, none⟩)), (5, .slice (some ⟨p58_1, 0, none⟩) ((((outAt O kk j) ++ ([(j : Int)])).length)) cap58_1), (6, .slice (some ⟨gs, 0, none⟩) S.length cs), (7, .pointer (some ⟨p7, 0, none⟩)), (8, .int .i64 ((k : Int))), (9, .int .i64 ((m : Int))), (10, .int .i64 ((j : Int)))]) (Sub.cons rfl (Sub.cons rfl (Sub.cons rfl (Sub.cons rfl (Sub.cons rfl (Sub.cons rfl (Sub.cons rfl (Sub.cons rfl Sub.nil)))))))) ?_
          refine Wk.regionQ ?_
          refine Lq.op (v := .int .i64 ((j : Int))) rfl rfl rfl (OpQ.move rfl rfl) ?_
          refine Lq.op (v := .int .i64 (((j : Int)) + (1 : Int))) rfl rfl rfl (OpQ.add rfl rfl rfl (by omega) (by omega)) ?_
          refine Lq.op (v := .int .i64 (((j : Int)) + (1 : Int))) rfl rfl rfl (OpQ.assign rfl rfl) ?_
          refine Lq.nil ?_
          refine Kt.again ((j + 1, p58_1, cap58_1, cur58_1)) ⟨by omega, hcp58_1, by rw [outAt_yes hjk]; exact hlp58_1, by rw [outAt_yes hjk]; simpa using htp58_1⟩ (by omega) (Sub.cons rfl (Sub.cons rfl (Sub.cons (by rw [outAt_yes hjk]; rfl) (Sub.cons rfl (Sub.cons rfl (Sub.cons rfl (Sub.cons rfl (Sub.cons rfl Sub.nil)))))))) (fun _ h => h.tail)
        · skip
          replace h54_1 := of_decide_eq_false h54_1
          have hjk : ¬ j = kk := fun e => h54_1 ((hix j (by omega)).2 e)
          refine Wk.skip ?_
          refine Kt.onSub (e' := [(1, .int .i64 r), (2, .pointer (some ⟨p2, 0, none⟩)), (5, .slice (some ⟨g3, 0, none⟩) ((outAt O kk j).length) c3), (6, .slice (some ⟨gs, 0, none⟩) S.length cs), (7, .pointer (some ⟨p7, 0, none⟩)), (8, .int .i64 ((k : Int))), (9, .int .i64 ((m : Int))), (10, .int .i64 ((j : Int)))]) (Sub.cons rfl (Sub.cons rfl (Sub.cons rfl (Sub.cons rfl (Sub.cons rfl (Sub.cons rfl (Sub.cons rfl (Sub.cons rfl Sub.nil)))))))) ?_
          refine Wk.regionQ ?_
          refine Lq.op (v := .int .i64 ((j : Int))) rfl rfl rfl (OpQ.move rfl rfl) ?_
          refine Lq.op (v := .int .i64 (((j : Int)) + (1 : Int))) rfl rfl rfl (OpQ.add rfl rfl rfl (by omega) (by omega)) ?_
          refine Lq.op (v := .int .i64 (((j : Int)) + (1 : Int))) rfl rfl rfl (OpQ.assign rfl rfl) ?_
          refine Lq.nil ?_
          refine Kt.again ((j + 1, g3, c3, u3)) ⟨by omega, hcg, by rw [outAt_no hjk]; exact hlg, by rw [outAt_no hjk]; exact htg⟩ (by omega) (Sub.cons rfl (Sub.cons rfl (Sub.cons (by rw [outAt_no hjk]; rfl) (Sub.cons rfl (Sub.cons rfl (Sub.cons rfl (Sub.cons rfl (Sub.cons rfl Sub.nil)))))))) (fun _ h => h)
      · skip
        replace h46_1 := of_decide_eq_false h46_1
        have hO := outAt_end (O := O) (kk := kk) (k := j) (by omega)
        refine Wk.exit rfl ?_
        refine Kt.onSub (e' := [(1, .int .i64 r), (2, .pointer (some ⟨p2, 0, none⟩)), (5, .slice (some ⟨g3, 0, none⟩) ((outAt O kk j).length) c3), (6, .slice (some ⟨gs, 0, none⟩) S.length cs), (7, .pointer (some ⟨p7, 0, none⟩)), (8, .int .i64 ((k : Int)))]) (Sub.cons rfl (Sub.cons rfl (Sub.cons rfl (Sub.cons rfl (Sub.cons rfl (Sub.cons rfl Sub.nil)))))) ?_
        refine Wk.regionQ ?_
        refine Lq.op (v := .int .i64 ((k : Int))) rfl rfl rfl (OpQ.move rfl rfl) ?_
        refine Lq.op (v := .int .i64 (((k : Int)) + (1 : Int))) rfl rfl rfl (OpQ.add rfl rfl rfl (by omega) (by omega)) ?_
        refine Lq.op (v := .int .i64 (((k : Int)) + (1 : Int))) rfl rfl rfl (OpQ.assign rfl rfl) ?_
        refine Lq.nil ?_
        refine Kt.again ((k + 1, bs_, T_, gs, cs, us, g3, c3, u3, S, O ++ [(kk : Int)])) ⟨by omega, hTT.trans hKm.1 (by rw [Nat.add_mul, Nat.one_mul]; exact Nat.le_refl _), hSN, hcs, hls, hts, hcg, by rw [← hO]; exact hlg, by rw [← hO]; exact htg⟩ (by omega) (Sub.cons rfl (Sub.cons rfl (Sub.cons (by rw [← hO]; rfl) (Sub.cons rfl (Sub.cons rfl (Sub.cons rfl Sub.nil)))))) (fun _ h => h.tail)
  · skip
    replace h26 := of_decide_eq_false h26
    refine Wk.exit rfl ?_
    refine Kt.onSub (e' := [(5, .slice (some ⟨go, 0, none⟩) O.length co)]) (Sub.cons rfl Sub.nil) ?_
    refine Wk.seq ?_
    refine Wk.regionQ ?_
    refine Lq.op (v := .slice (some ⟨go, 0, none⟩) O.length co) rfl rfl rfl (OpQ.move rfl rfl) ?_
    refine Lq.op (v := .slice (some ⟨go, 0, none⟩) O.length co) rfl rfl rfl (OpQ.assign rfl rfl) ?_
    refine Lq.nil ?_
    refine Kt.onSub (e' := [(4, .slice (some ⟨go, 0, none⟩) O.length co)]) (Sub.cons rfl Sub.nil) ?_
    refine Wk.ret (Kt.end1 rfl rfl fun w' hw => ?_)
    -- ret 0: .slice (some ⟨go, 0, none⟩) O.length co
    obtain rfl : k = a.n.toNat := by omega
    have hcl : clsOf a r = O := congrArg Prod.fst hSn.cls
    subst hcl
    exact ⟨_, rfl, hw.below, hw.newRow (i := 2) (n := _) rfl hco hlo (by simpa using hto)⟩

set_option maxHeartbeats 400000 in
/-- spec.ClassesOf|no -/
theorem sCls_no (a : St) (r : Int) (w : World) (hsa : a.Small) (hv : clsOk a r = false) :
    Calls Tryd.prog 29 [vS a, .int .i64 r].toArray w fun en w' => ∃ v, en = .returned v ∧ Below w.heap.size w w' ∧ NewRow w.heap.size 3 1 w' v 0 (ints []) := by
  refine fnStart (n := 60) (e := [(0, vS a), (1, .int .i64 r)]) Tryd.func29 rfl rfl rfl rfl Ends.both ?_
  refine Wk.seq ?_
  refine Wk.region ?_
  refine Ll.box (v := vS a) rfl rfl rfl rfl rfl fun p2 hp2 => ?_
  show Ll _ _ (Own _ _ [(p2, .cells #[.int .i64 a.n, str a.set, str a.rel] 26 (0, 0))]) _ _ ((2, .pointer (some ⟨p2, 0, none⟩)) :: _) _ _ _
  refine Ll.op (v := .slice none 0 0) rfl rfl rfl (OpQ.assign rfl rfl) ?_
  refine Ll.nil ?_
  refine Kt.onSub (e' := [(1, .int .i64 r), (2, .pointer (some ⟨p2, 0, none⟩))]) (Sub.cons rfl (Sub.cons rfl Sub.nil)) ?_
  refine Wk.seq ?_
  refine Wk.region ?_
  refine Ll.slice (xs := []) (vs := []) Base.elem31 rfl rfl rfl rfl rfl rfl (by decide) rfl fun p11 hp11 => ?_
  refine Ll.op (v := .slice (some ⟨p11, 0, none⟩) 0 0) rfl rfl rfl (OpQ.assign rfl rfl) ?_
  refine Ll.nil ?_
  refine Kt.onSub (e' := [(1, .int .i64 r), (2, .pointer (some ⟨p2, 0, none⟩)), (5, .slice (some ⟨p11, 0, none⟩) 0 0)]) (Sub.cons rfl (Sub.cons rfl (Sub.cons rfl Sub.nil))) ?_
  refine Wk.seq ?_
  refine Wk.region ?_
  refine Ll.slice (xs := []) (vs := []) Base.elem31 rfl rfl rfl rfl rfl rfl (by decide) rfl fun p12 hp12 => ?_
  refine Ll.op (v := .slice (some ⟨p12, 0, none⟩) 0 0) rfl rfl rfl (OpQ.assign rfl rfl) ?_
  refine Ll.nil ?_
  refine Kt.onSub (e' := [(1, .int .i64 r), (2, .pointer (some ⟨p2, 0, none⟩)), (5, .slice (some ⟨p11, 0, none⟩) 0 0), (6, .slice (some ⟨p12, 0, none⟩) 0 0)]) (Sub.cons rfl (Sub.cons rfl (Sub.cons rfl (Sub.cons rfl Sub.nil)))) ?_
  refine Wk.seq ?_
  refine Wk.seq ?_
  refine Wk.regionQ ?_
  refine Lq.op (v := vS a) rfl rfl rfl (OpQ.loadBox (cs := #[.int .i64 a.n, str a.set, str a.rel]) 2 rfl Tryd.isAgg26 rfl rfl Tryd.sizeOf26) ?_
  refine Lq.op (v := .bool (validB a)) rfl rfl rfl (OpQ.call rfl Tryd.call51 rfl Own.stable (fun w1 hw1 => sValid_ok a w1 hsa)) ?_
  refine Lq.op (v := .bool (!(validB a))) rfl rfl rfl (OpQ.not rfl rfl) ?_
  refine Lq.op (v := .bool (!(validB a))) rfl rfl rfl (OpQ.move rfl rfl) ?_
  refine Lq.bool fun b16 hg16 => ?_
  cases b16
  · skip
    replace hg16 := not_false hg16
    refine Lq.op (v := .int .i64 r) rfl rfl rfl (OpQ.move rfl rfl) ?_
    refine Lq.op (v := .bool (inB r 0 3)) rfl rfl rfl (OpQ.call rfl Tryd.call52 rfl Own.stable (fun w1 hw1 => l1In_ok r 0 3 w1 )) ?_
    refine Lq.op (v := .bool (!(inB r 0 3))) rfl rfl rfl (OpQ.not rfl rfl) ?_
    refine Lq.op (v := .bool (!(inB r 0 3))) rfl rfl rfl (OpQ.pickF rfl rfl rfl) ?_
    refine Lq.nil ?_
    refine Kt.onSub (e' := [(1, .int .i64 r), (2, .pointer (some ⟨p2, 0, none⟩)), (5, .slice (some ⟨p11, 0, none⟩) 0 0), (6, .slice (some ⟨p12, 0, none⟩) 0 0), (20, .bool (!(inB r 0 3)))]) (Sub.cons rfl (Sub.cons rfl (Sub.cons rfl (Sub.cons rfl (Sub.cons rfl Sub.nil))))) ?_
    refine Wk.cond (b := !(inB r 0 3)) rfl (fun h20 => ?_) (fun h20 => ?_)
    · skip
      replace h20 := not_true h20
      refine Wk.seq ?_
      refine Wk.regionQ ?_
      refine Lq.op (v := .slice (some ⟨p11, 0, none⟩) 0 0) rfl rfl rfl (OpQ.move rfl rfl) ?_
      refine Lq.op (v := .slice (some ⟨p11, 0, none⟩) 0 0) rfl rfl rfl (OpQ.assign rfl rfl) ?_
      refine Lq.nil ?_
      refine Kt.onSub (e' := [(4, .slice (some ⟨p11, 0, none⟩) 0 0)]) (Sub.cons rfl Sub.nil) ?_
      refine Wk.ret (Kt.end1 rfl rfl fun w' hw => ?_)
      -- ret 0: .slice (some ⟨p11, 0, none⟩) 0 0
      exact ⟨_, rfl, hw.below, hw.newRow (i := 1) (n := 0) rfl (by simp) (by omega) (by simp [ints])⟩
    · skip
      replace h20 := not_false h20
      exact absurd hv (by unfold clsOk; simp_all)
  · skip
    replace hg16 := not_true hg16
    refine Lq.pass rfl rfl rfl ?_
    refine Lq.pass rfl rfl rfl ?_
    refine Lq.pass rfl rfl rfl ?_
    refine Lq.op (v := .bool true) rfl rfl rfl (OpQ.pickT rfl rfl rfl) ?_
    refine Lq.nil ?_
    refine Kt.onSub (e' := [(1, .int .i64 r), (2, .pointer (some ⟨p2, 0, none⟩)), (5, .slice (some ⟨p11, 0, none⟩) 0 0), (6, .slice (some ⟨p12, 0, none⟩) 0 0), (20, .bool true)]) (Sub.cons rfl (Sub.cons rfl (Sub.cons rfl (Sub.cons rfl (Sub.cons rfl Sub.nil))))) ?_
    refine Wk.condT rfl ?_
    refine Wk.seq ?_
    refine Wk.regionQ ?_
    refine Lq.op (v := .slice (some ⟨p11, 0, none⟩) 0 0) rfl rfl rfl (OpQ.move rfl rfl) ?_
    refine Lq.op (v := .slice (some ⟨p11, 0, none⟩) 0 0) rfl rfl rfl (OpQ.assign rfl rfl) ?_
    refine Lq.nil ?_
    refine Kt.onSub (e' := [(4, .slice (some ⟨p11, 0, none⟩) 0 0)]) (Sub.cons rfl Sub.nil) ?_
    refine Wk.ret (Kt.end1 rfl rfl fun w' hw => ?_)
    -- ret 1: .slice (some ⟨p11, 0, none⟩) 0 0
    exact ⟨_, rfl, hw.below, hw.newRow (i := 1) (n := 0) rfl (by simp) (by omega) (by simp [ints])⟩

set_option maxHeartbeats 400000 in
/-- laws.FnExactClassesOf|yes -/
theorem lawCls_yes (a : St) (r : Int) (w : World) (h1a : a.set.length ≤ 9223372036854775807) (h2a : a.rel.length ≤ 9223372036854775807) (loa : -9223372036854775808 ≤ a.n) (hia : a.n ≤ 9223372036854775807) (hv : clsOk a r = true) :
    Calls Tryd.prog 8 [vS a, .int .i64 r].toArray w fun en w' => en = .returned (.bool true) ∧ Below w.heap.size w w' := by
  refine fnStart (n := 55) (e := [(0, vS a), (1, .int .i64 r)]) Tryd.func8 rfl rfl rfl rfl Ends.both ?_
  have hm8 := (validB_fine (clsOk_true hv).1).hi
  have hcl : (clsOf a r).length = a.n.toNat := cls_length _ _
  refine Wk.seq ?_
  refine Wk.region ?_
  refine Ll.box (v := vS a) rfl rfl rfl rfl rfl fun p2 hp2 => ?_
  show Ll _ _ (Own _ _ [(p2, .cells #[.int .i64 a.n, str a.set, str a.rel] 23 (0, 0))]) _ _ ((2, .pointer (some ⟨p2, 0, none⟩)) :: _) _ _ _
  refine Ll.op (v := .bool false) rfl rfl rfl (OpQ.assign rfl rfl) ?_
  refine Ll.nil ?_
  refine Kt.onSub (e' := [(1, .int .i64 r), (2, .pointer (some ⟨p2, 0, none⟩))]) (Sub.cons rfl (Sub.cons rfl Sub.nil)) ?_
  refine Wk.seq ?_
  refine Wk.regionQ ?_
  refine Lq.op (v := .int .i64 1048576) rfl rfl rfl (OpQ.assign rfl rfl) ?_
  refine Lq.nil ?_
  refine Kt.onSub (e' := [(1, .int .i64 r), (2, .pointer (some ⟨p2, 0, none⟩)), (5, .int .i64 1048576)]) (Sub.cons rfl (Sub.cons rfl (Sub.cons rfl Sub.nil))) ?_
  refine Wk.seq ?_
  refine Wk.regionQ ?_
  refine Lq.op (v := vS a) rfl rfl rfl (OpQ.loadBox (cs := #[.int .i64 a.n, str a.set, str a.rel]) 0 rfl Tryd.isAgg23 rfl rfl Tryd.sizeOf23) ?_
  refine Lq.op (v := .int .i64 1048576) rfl rfl rfl (OpQ.move rfl rfl) ?_
  refine Lq.op (v := .int .i64 (szB a 1048576)) rfl rfl rfl (OpQ.call rfl Tryd.call15 rfl Own.stable (fun w1 hw1 => sz_ok a 1048576 w1 (by omega) (by omega) h1a h2a)) ?_
  refine Lq.op (v := .int .i64 (szB a 1048576)) rfl rfl rfl (OpQ.assign rfl rfl) ?_
  refine Lq.nil ?_
  refine Kt.onSub (e' := [(1, .int .i64 r), (2, .pointer (some ⟨p2, 0, none⟩)), (5, .int .i64 (szB a 1048576))]) (Sub.cons rfl (Sub.cons rfl (Sub.cons rfl Sub.nil))) ?_
  refine Wk.seq ?_
  refine Wk.seq ?_
  refine Wk.regionQ ?_
  refine Lq.op (v := .int .i64 (szB a 1048576)) rfl rfl rfl (OpQ.move rfl rfl) ?_
  refine Lq.op (v := .bool (decide ((szB a 1048576) < (0 : Int)))) rfl rfl rfl (OpQ.lss rfl rfl rfl) ?_
  refine Lq.nil ?_
  refine Kt.onSub (e' := [(1, .int .i64 r), (2, .pointer (some ⟨p2, 0, none⟩)), (15, .bool (decide ((szB a 1048576) < (0 : Int))))]) (Sub.cons rfl (Sub.cons rfl (Sub.cons rfl Sub.nil))) ?_
  refine Wk.cond (b := decide ((szB a 1048576) < (0 : Int))) rfl (fun h15 => ?_) (fun h15 => ?_)
  · skip
    replace h15 := of_decide_eq_true h15
    refine Wk.seq ?_
    refine Wk.regionQ ?_
    refine Lq.op (v := .bool true) rfl rfl rfl (OpQ.assign rfl rfl) ?_
    refine Lq.nil ?_
    refine Kt.onSub (e' := [(4, .bool true)]) (Sub.cons rfl Sub.nil) ?_
    refine Wk.ret (Kt.end1 rfl rfl fun w' hw => ?_)
    -- ret 0: .bool true
    exact ⟨ret_b (by first | rfl | (simp_all; done) | (simp_all; omega)), hw.below⟩
  · skip
    replace h15 := of_decide_eq_false h15
    obtain ⟨hsa, hz0a, hz1a⟩ := szB_small (by omega) h15
    refine Wk.skip ?_
    refine Kt.onSub (e' := [(1, .int .i64 r), (2, .pointer (some ⟨p2, 0, none⟩))]) (Sub.cons rfl (Sub.cons rfl Sub.nil)) ?_
    refine Wk.seq ?_
    refine Wk.region ?_
    refine Ll.op (v := vS a) rfl rfl rfl (OpQ.loadBox (cs := #[.int .i64 a.n, str a.set, str a.rel]) 0 rfl Tryd.isAgg23 rfl rfl Tryd.sizeOf23) ?_
    refine Ll.op (v := vS a) rfl rfl rfl (OpQ.call rfl Tryd.call17 rfl Own.stable (fun w1 hw1 => toSt_ok a w1 )) ?_
    refine Ll.op (v := .int .i64 r) rfl rfl rfl (OpQ.move rfl rfl) ?_
    refine Ll.callRow (xs := [.tmp 17, .tmp 18]) (m := (clsOf a r).length) (vs := ints (clsOf a r)) (el := 3) (size := 1) rfl rfl rfl rfl Tryd.call29 rfl (fun w1 hw1 => sCls_yes a r w1 hsa hv) fun p19 cap19 cur19 hp19 hcp19 hlp19 htp19 => ?_
    refine Ll.op (v := .slice (some ⟨p19, 0, none⟩) ((clsOf a r).length) cap19) rfl rfl rfl (OpQ.assign rfl rfl) ?_
    refine Ll.nil ?_
    refine Kt.onSub (e' := [(1, .int .i64 r), (2, .pointer (some ⟨p2, 0, none⟩)), (6, .slice (some ⟨p19, 0, none⟩) ((clsOf a r).length) cap19)]) (Sub.cons rfl (Sub.cons rfl (Sub.cons rfl Sub.nil))) ?_
    refine Wk.seq ?_
    refine Wk.region ?_
    refine Ll.op (v := vS a) rfl rfl rfl (OpQ.loadBox (cs := #[.int .i64 a.n, str a.set, str a.rel]) 1 rfl Tryd.isAgg23 rfl rfl Tryd.sizeOf23) ?_
    refine Ll.op (v := vS a) rfl rfl rfl (OpQ.call rfl Tryd.call17 rfl Own.stable (fun w1 hw1 => toSt_ok a w1 )) ?_
    refine Ll.op (v := .int .i64 r) rfl rfl rfl (OpQ.move rfl rfl) ?_
    refine Ll.callRow (xs := [.tmp 21, .tmp 22]) (m := (clsOf a r).length) (vs := ints (clsOf a r)) (el := 3) (size := 1) rfl rfl rfl rfl Tryd.call30 rfl (fun w1 hw1 => iCls_yes a r w1 hsa hv) fun p23 cap23 cur23 hp23 hcp23 hlp23 htp23 => ?_
    refine Ll.op (v := .slice (some ⟨p23, 0, none⟩) ((clsOf a r).length) cap23) rfl rfl rfl (OpQ.assign rfl rfl) ?_
    refine Ll.nil ?_
    refine Kt.onSub (e' := [(1, .int .i64 r), (2, .pointer (some ⟨p2, 0, none⟩)), (6, .slice (some ⟨p19, 0, none⟩) ((clsOf a r).length) cap19), (7, .slice (some ⟨p23, 0, none⟩) ((clsOf a r).length) cap23)]) (Sub.cons rfl (Sub.cons rfl (Sub.cons rfl (Sub.cons rfl Sub.nil)))) ?_
    refine Wk.seq ?_
    refine Wk.seq ?_
    refine Wk.regionQ ?_
    refine Lq.op (v := .slice (some ⟨p23, 0, none⟩) ((clsOf a r).length) cap23) rfl rfl rfl (OpQ.move rfl rfl) ?_
    refine Lq.op (v := .slice (some ⟨p19, 0, none⟩) ((clsOf a r).length) cap19) rfl rfl rfl (OpQ.move rfl rfl) ?_
    refine Lq.op (v := .bool true) rfl rfl rfl (OpQ.call rfl Tryd.call24 rfl Own.stable (fun w1 hw1 => known_b (beq_self_eq_true _) (eqInt_ok (.slice (some ⟨p23, 0, none⟩) ((clsOf a r).length) cap23) (.slice (some ⟨p19, 0, none⟩) ((clsOf a r).length) cap19) (clsOf a r) (clsOf a r) w1 (Own.row hw1 (i := 0) rfl (by simpa using htp23) (by simp) hlp23) (Own.row hw1 (i := 1) rfl (by simpa using htp19) (by simp) hlp19) (by first | (simp; done) | (simp; omega) | omega)))) ?_
    refine Lq.op (v := .bool false) rfl rfl rfl (OpQ.notT rfl rfl) ?_
    refine Lq.nil ?_
    refine Kt.onSub (e' := [(1, .int .i64 r), (2, .pointer (some ⟨p2, 0, none⟩)), (6, .slice (some ⟨p19, 0, none⟩) ((clsOf a r).length) cap19), (7, .slice (some ⟨p23, 0, none⟩) ((clsOf a r).length) cap23), (27, .bool false)]) (Sub.cons rfl (Sub.cons rfl (Sub.cons rfl (Sub.cons rfl (Sub.cons rfl Sub.nil))))) ?_
    refine Wk.condF rfl ?_
    refine Wk.skip ?_
    refine Kt.onSub (e' := [(1, .int .i64 r), (2, .pointer (some ⟨p2, 0, none⟩)), (6, .slice (some ⟨p19, 0, none⟩) ((clsOf a r).length) cap19), (7, .slice (some ⟨p23, 0, none⟩) ((clsOf a r).length) cap23)]) (Sub.cons rfl (Sub.cons rfl (Sub.cons rfl (Sub.cons rfl Sub.nil)))) ?_
    refine Wk.seq ?_
    refine Wk.regionQ ?_
    refine Lq.op (v := .int .i64 1) rfl rfl rfl (OpQ.assign rfl rfl) ?_
    refine Lq.nil ?_
    refine Kt.onSub (e' := [(1, .int .i64 r), (2, .pointer (some ⟨p2, 0, none⟩)), (6, .slice (some ⟨p19, 0, none⟩) ((clsOf a r).length) cap19), (7, .slice (some ⟨p23, 0, none⟩) ((clsOf a r).length) cap23), (8, .int .i64 1)]) (Sub.cons rfl (Sub.cons rfl (Sub.cons rfl (Sub.cons rfl (Sub.cons rfl Sub.nil))))) ?_
    refine Wk.seq ?_
    refine Wk.region ?_
    refine Ll.op (v := .slice (some ⟨p23, 0, none⟩) ((clsOf a r).length) cap23) rfl rfl rfl (OpQ.move rfl rfl) ?_
    refine Ll.op (v := .int .i64 1) rfl rfl rfl (OpQ.move rfl rfl) ?_
    refine Ll.callSet (xs := [.tmp 28, .tmp 29]) (v := .int .i64 ((1 : Int) + ((clsOf a r).length : Nat))) (hs' := [(p23, .cells ((markA cur23 1 ((clsOf a r).length))) 3 (0, 0)), (p19, .cells cur19 3 (0, 0)), (p2, .cells #[.int .i64 a.n, str a.set, str a.rel] 23 (0, 0))]) 0 rfl rfl rfl rfl Tryd.call31 rfl rfl (fun w1 hg => markInt_ok2 p23 ((clsOf a r).length) cap23 3 cur23 1 w1 hg (by simp [*]; try omega) (by first | omega | (simp; omega)) (by omega) (by omega)) rfl ?_
    refine Ll.op (v := .int .i64 ((1 : Int) + ((clsOf a r).length : Nat))) rfl rfl rfl (OpQ.assign rfl rfl) ?_
    refine Ll.nil ?_
    refine Kt.onSub (e' := [(1, .int .i64 r), (2, .pointer (some ⟨p2, 0, none⟩)), (6, .slice (some ⟨p19, 0, none⟩) ((clsOf a r).length) cap19), (7, .slice (some ⟨p23, 0, none⟩) ((clsOf a r).length) cap23), (8, .int .i64 ((1 : Int) + ((clsOf a r).length : Nat)))]) (Sub.cons rfl (Sub.cons rfl (Sub.cons rfl (Sub.cons rfl (Sub.cons rfl Sub.nil))))) ?_
    refine Wk.seq ?_
    refine Wk.regionQ ?_
    refine Lq.op (v := .int .i64 1) rfl rfl rfl (OpQ.assign rfl rfl) ?_
    refine Lq.nil ?_
    refine Kt.onSub (e' := [(1, .int .i64 r), (2, .pointer (some ⟨p2, 0, none⟩)), (6, .slice (some ⟨p19, 0, none⟩) ((clsOf a r).length) cap19), (7, .slice (some ⟨p23, 0, none⟩) ((clsOf a r).length) cap23), (8, .int .i64 ((1 : Int) + ((clsOf a r).length : Nat))), (9, .int .i64 1)]) (Sub.cons rfl (Sub.cons rfl (Sub.cons rfl (Sub.cons rfl (Sub.cons rfl (Sub.cons rfl Sub.nil)))))) ?_
    refine Wk.seq ?_
    refine Wk.regionQ ?_
    refine Lq.op (v := .slice (some ⟨p23, 0, none⟩) ((clsOf a r).length) cap23) rfl rfl rfl (OpQ.move rfl rfl) ?_
    refine Lq.op (v := .int .i64 1) rfl rfl rfl (OpQ.move rfl rfl) ?_
    refine Lq.op (v := .int .i64 (heldV (marks 1 ((clsOf a r).length)) 1)) rfl rfl rfl (OpQ.call rfl Tryd.call32 rfl Own.stable (fun w1 hw1 => heldInt_ok (.slice (some ⟨p23, 0, none⟩) ((clsOf a r).length) cap23) (marks 1 ((clsOf a r).length)) 1 w1 (Own.row hw1 (i := 0) rfl (by simpa using markA_take cur23 1 ((clsOf a r).length) (by simp [*]; try omega)) (by simp) hlp23) (by first | (simp; done) | (simp; omega) | omega) (by omega) (by omega))) ?_
    refine Lq.op (v := .int .i64 (heldV (marks 1 ((clsOf a r).length)) 1)) rfl rfl rfl (OpQ.assign rfl rfl) ?_
    refine Lq.nil ?_
    refine Kt.onSub (e' := [(1, .int .i64 r), (2, .pointer (some ⟨p2, 0, none⟩)), (6, .slice (some ⟨p19, 0, none⟩) ((clsOf a r).length) cap19), (7, .slice (some ⟨p23, 0, none⟩) ((clsOf a r).length) cap23), (8, .int .i64 ((1 : Int) + ((clsOf a r).length : Nat))), (9, .int .i64 (heldV (marks 1 ((clsOf a r).length)) 1))]) (Sub.cons rfl (Sub.cons rfl (Sub.cons rfl (Sub.cons rfl (Sub.cons rfl (Sub.cons rfl Sub.nil)))))) ?_
    refine Wk.seq ?_
    refine Wk.seq ?_
    refine Wk.regionQ ?_
    refine Lq.op (v := .int .i64 (heldV (marks 1 ((clsOf a r).length)) 1)) rfl rfl rfl (OpQ.move rfl rfl) ?_
    refine Lq.op (v := .bool (decide ((heldV (marks 1 ((clsOf a r).length)) 1) < (0 : Int)))) rfl rfl rfl (OpQ.lss rfl rfl rfl) ?_
    refine Lq.nil ?_
    refine Kt.onSub (e' := [(1, .int .i64 r), (2, .pointer (some ⟨p2, 0, none⟩)), (6, .slice (some ⟨p19, 0, none⟩) ((clsOf a r).length) cap19), (7, .slice (some ⟨p23, 0, none⟩) ((clsOf a r).length) cap23), (8, .int .i64 ((1 : Int) + ((clsOf a r).length : Nat))), (9, .int .i64 (heldV (marks 1 ((clsOf a r).length)) 1)), (35, .bool (decide ((heldV (marks 1 ((clsOf a r).length)) 1) < (0 : Int))))]) (Sub.cons rfl (Sub.cons rfl (Sub.cons rfl (Sub.cons rfl (Sub.cons rfl (Sub.cons rfl (Sub.cons rfl Sub.nil))))))) ?_
    refine Wk.cond (b := decide ((heldV (marks 1 ((clsOf a r).length)) 1) < (0 : Int))) rfl (fun h35 => ?_) (fun h35 => ?_)
    · skip
      replace h35 := of_decide_eq_true h35
      exact absurd h35 (by first | (rw [held_all]; omega) | decide)
    · skip
      replace h35 := of_decide_eq_false h35
      refine Wk.skip ?_
      refine Kt.onSub (e' := [(1, .int .i64 r), (2, .pointer (some ⟨p2, 0, none⟩)), (6, .slice (some ⟨p19, 0, none⟩) ((clsOf a r).length) cap19), (7, .slice (some ⟨p23, 0, none⟩) ((clsOf a r).length) cap23), (8, .int .i64 ((1 : Int) + ((clsOf a r).length : Nat))), (9, .int .i64 (heldV (marks 1 ((clsOf a r).length)) 1))]) (Sub.cons rfl (Sub.cons rfl (Sub.cons rfl (Sub.cons rfl (Sub.cons rfl (Sub.cons rfl Sub.nil)))))) ?_
      refine Wk.seq ?_
      refine Wk.seq ?_
      refine Wk.regionQ ?_
      refine Lq.op (v := .int .i64 (heldV (marks 1 ((clsOf a r).length)) 1)) rfl rfl rfl (OpQ.move rfl rfl) ?_
      refine Lq.op (v := .int .i64 ((1 : Int) + ((clsOf a r).length : Nat))) rfl rfl rfl (OpQ.move rfl rfl) ?_
      refine Lq.op (v := .bool (!(decide ((heldV (marks 1 ((clsOf a r).length)) 1) = ((1 : Int) + ((clsOf a r).length : Nat)))))) rfl rfl rfl (OpQ.neq rfl rfl rfl) ?_
      refine Lq.nil ?_
      refine Kt.onSub (e' := [(1, .int .i64 r), (2, .pointer (some ⟨p2, 0, none⟩)), (6, .slice (some ⟨p19, 0, none⟩) ((clsOf a r).length) cap19), (7, .slice (some ⟨p23, 0, none⟩) ((clsOf a r).length) cap23), (8, .int .i64 ((1 : Int) + ((clsOf a r).length : Nat))), (38, .bool (!(decide ((heldV (marks 1 ((clsOf a r).length)) 1) = ((1 : Int) + ((clsOf a r).length : Nat))))))]) (Sub.cons rfl (Sub.cons rfl (Sub.cons rfl (Sub.cons rfl (Sub.cons rfl (Sub.cons rfl Sub.nil)))))) ?_
      refine Wk.cond (b := !(decide ((heldV (marks 1 ((clsOf a r).length)) 1) = ((1 : Int) + ((clsOf a r).length : Nat))))) rfl (fun h38 => ?_) (fun h38 => ?_)
      · skip
        replace h38 := not_true h38
        replace h38 := of_decide_eq_false h38
        exact absurd h38 (by first | exact not_not_intro (held_all _ _) | decide)
      · skip
        replace h38 := not_false h38
        replace h38 := of_decide_eq_true h38
        refine Wk.skip ?_
        refine Kt.onSub (e' := [(1, .int .i64 r), (2, .pointer (some ⟨p2, 0, none⟩)), (6, .slice (some ⟨p19, 0, none⟩) ((clsOf a r).length) cap19), (7, .slice (some ⟨p23, 0, none⟩) ((clsOf a r).length) cap23), (8, .int .i64 ((1 : Int) + ((clsOf a r).length : Nat)))]) (Sub.cons rfl (Sub.cons rfl (Sub.cons rfl (Sub.cons rfl (Sub.cons rfl Sub.nil))))) ?_
        refine Wk.seq ?_
        refine Wk.region ?_
        refine Ll.op (v := vS a) rfl rfl rfl (OpQ.loadBox (cs := #[.int .i64 a.n, str a.set, str a.rel]) 2 rfl Tryd.isAgg23 rfl rfl Tryd.sizeOf23) ?_
        refine Ll.op (v := vS a) rfl rfl rfl (OpQ.call rfl Tryd.call17 rfl Own.stable (fun w1 hw1 => toSt_ok a w1 )) ?_
        refine Ll.op (v := .int .i64 r) rfl rfl rfl (OpQ.move rfl rfl) ?_
        refine Ll.callRow (xs := [.tmp 40, .tmp 41]) (m := (clsOf a r).length) (vs := ints (clsOf a r)) (el := 3) (size := 1) rfl rfl rfl rfl Tryd.call30 rfl (fun w1 hw1 => iCls_yes a r w1 hsa hv) fun p42 cap42 cur42 hp42 hcp42 hlp42 htp42 => ?_
        refine Ll.op (v := .slice (some ⟨p42, 0, none⟩) ((clsOf a r).length) cap42) rfl rfl rfl (OpQ.assign rfl rfl) ?_
        refine Ll.nil ?_
        refine Kt.onSub (e' := [(6, .slice (some ⟨p19, 0, none⟩) ((clsOf a r).length) cap19), (7, .slice (some ⟨p23, 0, none⟩) ((clsOf a r).length) cap23), (8, .int .i64 ((1 : Int) + ((clsOf a r).length : Nat))), (10, .slice (some ⟨p42, 0, none⟩) ((clsOf a r).length) cap42)]) (Sub.cons rfl (Sub.cons rfl (Sub.cons rfl (Sub.cons rfl Sub.nil)))) ?_
        refine Wk.seq ?_
        refine Wk.seq ?_
        refine Wk.regionQ ?_
        refine Lq.op (v := .slice (some ⟨p42, 0, none⟩) ((clsOf a r).length) cap42) rfl rfl rfl (OpQ.move rfl rfl) ?_
        refine Lq.op (v := .slice (some ⟨p19, 0, none⟩) ((clsOf a r).length) cap19) rfl rfl rfl (OpQ.move rfl rfl) ?_
        refine Lq.op (v := .bool true) rfl rfl rfl (OpQ.call rfl Tryd.call24 rfl Own.stable (fun w1 hw1 => known_b (beq_self_eq_true _) (eqInt_ok (.slice (some ⟨p42, 0, none⟩) ((clsOf a r).length) cap42) (.slice (some ⟨p19, 0, none⟩) ((clsOf a r).length) cap19) (clsOf a r) (clsOf a r) w1 (Own.row hw1 (i := 0) rfl (by simpa using htp42) (by simp) hlp42) (Own.row hw1 (i := 2) rfl (by simpa using htp19) (by simp) hlp19) (by first | (simp; done) | (simp; omega) | omega)))) ?_
        refine Lq.op (v := .bool false) rfl rfl rfl (OpQ.notT rfl rfl) ?_
        refine Lq.nil ?_
        refine Kt.onSub (e' := [(7, .slice (some ⟨p23, 0, none⟩) ((clsOf a r).length) cap23), (8, .int .i64 ((1 : Int) + ((clsOf a r).length : Nat))), (46, .bool false)]) (Sub.cons rfl (Sub.cons rfl (Sub.cons rfl Sub.nil))) ?_
        refine Wk.condF rfl ?_
        refine Wk.skip ?_
        refine Kt.onSub (e' := [(7, .slice (some ⟨p23, 0, none⟩) ((clsOf a r).length) cap23), (8, .int .i64 ((1 : Int) + ((clsOf a r).length : Nat)))]) (Sub.cons rfl (Sub.cons rfl Sub.nil)) ?_
        refine Wk.seq ?_
        refine Wk.regionQ ?_
        refine Lq.op (v := .int .i64 1) rfl rfl rfl (OpQ.assign rfl rfl) ?_
        refine Lq.nil ?_
        refine Kt.onSub (e' := [(7, .slice (some ⟨p23, 0, none⟩) ((clsOf a r).length) cap23), (8, .int .i64 ((1 : Int) + ((clsOf a r).length : Nat))), (9, .int .i64 1)]) (Sub.cons rfl (Sub.cons rfl (Sub.cons rfl Sub.nil))) ?_
        refine Wk.seq ?_
        refine Wk.regionQ ?_
        refine Lq.op (v := .slice (some ⟨p23, 0, none⟩) ((clsOf a r).length) cap23) rfl rfl rfl (OpQ.move rfl rfl) ?_
        refine Lq.op (v := .int .i64 1) rfl rfl rfl (OpQ.move rfl rfl) ?_
        refine Lq.op (v := .int .i64 (heldV (marks 1 ((clsOf a r).length)) 1)) rfl rfl rfl (OpQ.call rfl Tryd.call32 rfl Own.stable (fun w1 hw1 => heldInt_ok (.slice (some ⟨p23, 0, none⟩) ((clsOf a r).length) cap23) (marks 1 ((clsOf a r).length)) 1 w1 (Own.row hw1 (i := 1) rfl (by simpa using markA_take cur23 1 ((clsOf a r).length) (by simp [*]; try omega)) (by simp) hlp23) (by first | (simp; done) | (simp; omega) | omega) (by omega) (by omega))) ?_
        refine Lq.op (v := .int .i64 (heldV (marks 1 ((clsOf a r).length)) 1)) rfl rfl rfl (OpQ.assign rfl rfl) ?_
        refine Lq.nil ?_
        refine Kt.onSub (e' := [(8, .int .i64 ((1 : Int) + ((clsOf a r).length : Nat))), (9, .int .i64 (heldV (marks 1 ((clsOf a r).length)) 1))]) (Sub.cons rfl (Sub.cons rfl Sub.nil)) ?_
        refine Wk.seq ?_
        refine Wk.seq ?_
        refine Wk.regionQ ?_
        refine Lq.op (v := .int .i64 (heldV (marks 1 ((clsOf a r).length)) 1)) rfl rfl rfl (OpQ.move rfl rfl) ?_
        refine Lq.op (v := .bool (decide ((heldV (marks 1 ((clsOf a r).length)) 1) < (0 : Int)))) rfl rfl rfl (OpQ.lss rfl rfl rfl) ?_
        refine Lq.nil ?_
        refine Kt.onSub (e' := [(8, .int .i64 ((1 : Int) + ((clsOf a r).length : Nat))), (9, .int .i64 (heldV (marks 1 ((clsOf a r).length)) 1)), (51, .bool (decide ((heldV (marks 1 ((clsOf a r).length)) 1) < (0 : Int))))]) (Sub.cons rfl (Sub.cons rfl (Sub.cons rfl Sub.nil))) ?_
        refine Wk.cond (b := decide ((heldV (marks 1 ((clsOf a r).length)) 1) < (0 : Int))) rfl (fun h51 => ?_) (fun h51 => ?_)
        · skip
          replace h51 := of_decide_eq_true h51
          exact absurd h51 (by first | (rw [held_all]; omega) | decide)
        · skip
          replace h51 := of_decide_eq_false h51
          refine Wk.skip ?_
          refine Kt.onSub (e' := [(8, .int .i64 ((1 : Int) + ((clsOf a r).length : Nat))), (9, .int .i64 (heldV (marks 1 ((clsOf a r).length)) 1))]) (Sub.cons rfl (Sub.cons rfl Sub.nil)) ?_
          refine Wk.seq ?_
          refine Wk.seq ?_
          refine Wk.regionQ ?_
          refine Lq.op (v := .int .i64 (heldV (marks 1 ((clsOf a r).length)) 1)) rfl rfl rfl (OpQ.move rfl rfl) ?_
          refine Lq.op (v := .int .i64 ((1 : Int) + ((clsOf a r).length : Nat))) rfl rfl rfl (OpQ.move rfl rfl) ?_
          refine Lq.op (v := .bool (!(decide ((heldV (marks 1 ((clsOf a r).length)) 1) = ((1 : Int) + ((clsOf a r).length : Nat)))))) rfl rfl rfl (OpQ.neq rfl rfl rfl) ?_
          refine Lq.nil ?_
          refine Kt.onSub (e' := [(54, .bool (!(decide ((heldV (marks 1 ((clsOf a r).length)) 1) = ((1 : Int) + ((clsOf a r).length : Nat))))))]) (Sub.cons rfl Sub.nil) ?_
          refine Wk.cond (b := !(decide ((heldV (marks 1 ((clsOf a r).length)) 1) = ((1 : Int) + ((clsOf a r).length : Nat))))) rfl (fun h54 => ?_) (fun h54 => ?_)
          · skip
            replace h54 := not_true h54
            replace h54 := of_decide_eq_false h54
            exact absurd h54 (by first | exact not_not_intro (held_all _ _) | decide)
          · skip
            replace h54 := not_false h54
            replace h54 := of_decide_eq_true h54
            refine Wk.skip ?_
            refine Kt.onSub (e' := []) Sub.nil ?_
            refine Wk.seq ?_
            refine Wk.regionQ ?_
            refine Lq.op (v := .bool true) rfl rfl rfl (OpQ.assign rfl rfl) ?_
            refine Lq.nil ?_
            refine Kt.onSub (e' := [(4, .bool true)]) (Sub.cons rfl Sub.nil) ?_
            refine Wk.ret (Kt.end1 rfl rfl fun w' hw => ?_)
            -- ret 1: .bool true
            exact ⟨ret_b (by first | rfl | (simp_all; done) | (simp_all; omega)), hw.below⟩

set_option maxHeartbeats 400000 in
/-- laws.FnExactClassesOf|no -/
theorem lawCls_no (a : St) (r : Int) (w : World) (h1a : a.set.length ≤ 9223372036854775807) (h2a : a.rel.length ≤ 9223372036854775807) (hv : clsOk a r = false) :
    Calls Tryd.prog 8 [vS a, .int .i64 r].toArray w fun en w' => en = .returned (.bool true) ∧ Below w.heap.size w w' := by
  refine fnStart (n := 55) (e := [(0, vS a), (1, .int .i64 r)]) Tryd.func8 rfl rfl rfl rfl Ends.both ?_
  refine Wk.seq ?_
  refine Wk.region ?_
  refine Ll.box (v := vS a) rfl rfl rfl rfl rfl fun p2 hp2 => ?_
  show Ll _ _ (Own _ _ [(p2, .cells #[.int .i64 a.n, str a.set, str a.rel] 23 (0, 0))]) _ _ ((2, .pointer (some ⟨p2, 0, none⟩)) :: _) _ _ _
  refine Ll.op (v := .bool false) rfl rfl rfl (OpQ.assign rfl rfl) ?_
  refine Ll.nil ?_
  refine Kt.onSub (e' := [(1, .int .i64 r), (2, .pointer (some ⟨p2, 0, none⟩))]) (Sub.cons rfl (Sub.cons rfl Sub.nil)) ?_
  refine Wk.seq ?_
  refine Wk.regionQ ?_
  refine Lq.op (v := .int .i64 1048576) rfl rfl rfl (OpQ.assign rfl rfl) ?_
  refine Lq.nil ?_
  refine Kt.onSub (e' := [(1, .int .i64 r), (2, .pointer (some ⟨p2, 0, none⟩)), (5, .int .i64 1048576)]) (Sub.cons rfl (Sub.cons rfl (Sub.cons rfl Sub.nil))) ?_
  refine Wk.seq ?_
  refine Wk.regionQ ?_
  refine Lq.op (v := vS a) rfl rfl rfl (OpQ.loadBox (cs := #[.int .i64 a.n, str a.set, str a.rel]) 0 rfl Tryd.isAgg23 rfl rfl Tryd.sizeOf23) ?_
  refine Lq.op (v := .int .i64 1048576) rfl rfl rfl (OpQ.move rfl rfl) ?_
  refine Lq.op (v := .int .i64 (szB a 1048576)) rfl rfl rfl (OpQ.call rfl Tryd.call15 rfl Own.stable (fun w1 hw1 => sz_ok a 1048576 w1 (by omega) (by omega) h1a h2a)) ?_
  refine Lq.op (v := .int .i64 (szB a 1048576)) rfl rfl rfl (OpQ.assign rfl rfl) ?_
  refine Lq.nil ?_
  refine Kt.onSub (e' := [(1, .int .i64 r), (2, .pointer (some ⟨p2, 0, none⟩)), (5, .int .i64 (szB a 1048576))]) (Sub.cons rfl (Sub.cons rfl (Sub.cons rfl Sub.nil))) ?_
  refine Wk.seq ?_
  refine Wk.seq ?_
  refine Wk.regionQ ?_
  refine Lq.op (v := .int .i64 (szB a 1048576)) rfl rfl rfl (OpQ.move rfl rfl) ?_
  refine Lq.op (v := .bool (decide ((szB a 1048576) < (0 : Int)))) rfl rfl rfl (OpQ.lss rfl rfl rfl) ?_
  refine Lq.nil ?_
  refine Kt.onSub (e' := [(1, .int .i64 r), (2, .pointer (some ⟨p2, 0, none⟩)), (15, .bool (decide ((szB a 1048576) < (0 : Int))))]) (Sub.cons rfl (Sub.cons rfl (Sub.cons rfl Sub.nil))) ?_
  refine Wk.cond (b := decide ((szB a 1048576) < (0 : Int))) rfl (fun h15 => ?_) (fun h15 => ?_)
  · skip
    replace h15 := of_decide_eq_true h15
    refine Wk.seq ?_
    refine Wk.regionQ ?_
    refine Lq.op (v := .bool true) rfl rfl rfl (OpQ.assign rfl rfl) ?_
    refine Lq.nil ?_
    refine Kt.onSub (e' := [(4, .bool true)]) (Sub.cons rfl Sub.nil) ?_
    refine Wk.ret (Kt.end1 rfl rfl fun w' hw => ?_)
    -- ret 0: .bool true
    exact ⟨ret_b (by first | rfl | (simp_all; done) | (simp_all; omega)), hw.below⟩
  · skip
    replace h15 := of_decide_eq_false h15
    obtain ⟨hsa, hz0a, hz1a⟩ := szB_small (by omega) h15
    refine Wk.skip ?_
    refine Kt.onSub (e' := [(1, .int .i64 r), (2, .pointer (some ⟨p2, 0, none⟩))]) (Sub.cons rfl (Sub.cons rfl Sub.nil)) ?_
    refine Wk.seq ?_
    refine Wk.region ?_
    refine Ll.op (v := vS a) rfl rfl rfl (OpQ.loadBox (cs := #[.int .i64 a.n, str a.set, str a.rel]) 0 rfl Tryd.isAgg23 rfl rfl Tryd.sizeOf23) ?_
    refine Ll.op (v := vS a) rfl rfl rfl (OpQ.call rfl Tryd.call17 rfl Own.stable (fun w1 hw1 => toSt_ok a w1 )) ?_
    refine Ll.op (v := .int .i64 r) rfl rfl rfl (OpQ.move rfl rfl) ?_
    refine Ll.callRow (xs := [.tmp 17, .tmp 18]) (m := 0) (vs := ints ([])) (el := 3) (size := 1) rfl rfl rfl rfl Tryd.call29 rfl (fun w1 hw1 => sCls_no a r w1 hsa hv) fun p19 cap19 cur19 hp19 hcp19 hlp19 htp19 => ?_
    refine Ll.op (v := .slice (some ⟨p19, 0, none⟩) 0 cap19) rfl rfl rfl (OpQ.assign rfl rfl) ?_
    refine Ll.nil ?_
    refine Kt.onSub (e' := [(1, .int .i64 r), (2, .pointer (some ⟨p2, 0, none⟩)), (6, .slice (some ⟨p19, 0, none⟩) 0 cap19)]) (Sub.cons rfl (Sub.cons rfl (Sub.cons rfl Sub.nil))) ?_
    refine Wk.seq ?_
    refine Wk.region ?_
    refine Ll.op (v := vS a) rfl rfl rfl (OpQ.loadBox (cs := #[.int .i64 a.n, str a.set, str a.rel]) 1 rfl Tryd.isAgg23 rfl rfl Tryd.sizeOf23) ?_
    refine Ll.op (v := vS a) rfl rfl rfl (OpQ.call rfl Tryd.call17 rfl Own.stable (fun w1 hw1 => toSt_ok a w1 )) ?_
    refine Ll.op (v := .int .i64 r) rfl rfl rfl (OpQ.move rfl rfl) ?_
    refine Ll.op (v := .slice none 0 0) rfl rfl rfl (OpQ.call rfl Tryd.call30 rfl Own.stable (fun w1 hw1 => iCls_no a r w1 hsa hv)) ?_
    refine Ll.op (v := .slice none 0 0) rfl rfl rfl (OpQ.assign rfl rfl) ?_
    refine Ll.nil ?_
    refine Kt.onSub (e' := [(1, .int .i64 r), (2, .pointer (some ⟨p2, 0, none⟩)), (6, .slice (some ⟨p19, 0, none⟩) 0 cap19), (7, .slice none 0 0)]) (Sub.cons rfl (Sub.cons rfl (Sub.cons rfl (Sub.cons rfl Sub.nil)))) ?_
    refine Wk.seq ?_
    refine Wk.seq ?_
    refine Wk.regionQ ?_
    refine Lq.op (v := .slice none 0 0) rfl rfl rfl (OpQ.move rfl rfl) ?_
    refine Lq.op (v := .slice (some ⟨p19, 0, none⟩) 0 cap19) rfl rfl rfl (OpQ.move rfl rfl) ?_
    refine Lq.op (v := .bool true) rfl rfl rfl (OpQ.call rfl Tryd.call24 rfl Own.stable (fun w1 hw1 => known_b (beq_self_eq_true _) (eqInt_ok (.slice none 0 0) (.slice (some ⟨p19, 0, none⟩) 0 cap19) ([]) ([]) w1 Ints.nil (Own.row hw1 (i := 0) rfl (by simpa using htp19) (by simp) hlp19) (by first | (simp; done) | (simp; omega) | omega)))) ?_
    refine Lq.op (v := .bool false) rfl rfl rfl (OpQ.notT rfl rfl) ?_
    refine Lq.nil ?_
    refine Kt.onSub (e' := [(1, .int .i64 r), (2, .pointer (some ⟨p2, 0, none⟩)), (6, .slice (some ⟨p19, 0, none⟩) 0 cap19), (7, .slice none 0 0), (27, .bool false)]) (Sub.cons rfl (Sub.cons rfl (Sub.cons rfl (Sub.cons rfl (Sub.cons rfl Sub.nil))))) ?_
    refine Wk.condF rfl ?_
    refine Wk.skip ?_
    refine Kt.onSub (e' := [(1, .int .i64 r), (2, .pointer (some ⟨p2, 0, none⟩)), (6, .slice (some ⟨p19, 0, none⟩) 0 cap19), (7, .slice none 0 0)]) (Sub.cons rfl (Sub.cons rfl (Sub.cons rfl (Sub.cons rfl Sub.nil)))) ?_
    refine Wk.seq ?_
    refine Wk.regionQ ?_
    refine Lq.op (v := .int .i64 1) rfl rfl rfl (OpQ.assign rfl rfl) ?_
    refine Lq.nil ?_
    refine Kt.onSub (e' := [(1, .int .i64 r), (2, .pointer (some ⟨p2, 0, none⟩)), (6, .slice (some ⟨p19, 0, none⟩) 0 cap19), (7, .slice none 0 0), (8, .int .i64 1)]) (Sub.cons rfl (Sub.cons rfl (Sub.cons rfl (Sub.cons rfl (Sub.cons rfl Sub.nil))))) ?_
    refine Wk.seq ?_
    refine Wk.region ?_
    refine Ll.op (v := .slice none 0 0) rfl rfl rfl (OpQ.move rfl rfl) ?_
    refine Ll.op (v := .int .i64 1) rfl rfl rfl (OpQ.move rfl rfl) ?_
    refine Ll.op (v := .int .i64 1) rfl rfl rfl (OpQ.call rfl Tryd.call31 rfl Own.stable (fun w1 _ => markInt0_ok 1 w1)) ?_
    refine Ll.op (v := .int .i64 1) rfl rfl rfl (OpQ.assign rfl rfl) ?_
    refine Ll.nil ?_
    refine Kt.onSub (e' := [(1, .int .i64 r), (2, .pointer (some ⟨p2, 0, none⟩)), (6, .slice (some ⟨p19, 0, none⟩) 0 cap19), (7, .slice none 0 0), (8, .int .i64 1)]) (Sub.cons rfl (Sub.cons rfl (Sub.cons rfl (Sub.cons rfl (Sub.cons rfl Sub.nil))))) ?_
    refine Wk.seq ?_
    refine Wk.regionQ ?_
    refine Lq.op (v := .int .i64 1) rfl rfl rfl (OpQ.assign rfl rfl) ?_
    refine Lq.nil ?_
    refine Kt.onSub (e' := [(1, .int .i64 r), (2, .pointer (some ⟨p2, 0, none⟩)), (6, .slice (some ⟨p19, 0, none⟩) 0 cap19), (7, .slice none 0 0), (8, .int .i64 1), (9, .int .i64 1)]) (Sub.cons rfl (Sub.cons rfl (Sub.cons rfl (Sub.cons rfl (Sub.cons rfl (Sub.cons rfl Sub.nil)))))) ?_
    refine Wk.seq ?_
    refine Wk.regionQ ?_
    refine Lq.op (v := .slice none 0 0) rfl rfl rfl (OpQ.move rfl rfl) ?_
    refine Lq.op (v := .int .i64 1) rfl rfl rfl (OpQ.move rfl rfl) ?_
    refine Lq.op (v := .int .i64 (heldV ([]) 1)) rfl rfl rfl (OpQ.call rfl Tryd.call32 rfl Own.stable (fun w1 hw1 => heldInt_ok (.slice none 0 0) ([]) 1 w1 Ints.nil (by first | (simp; done) | (simp; omega) | omega) (by omega) (by omega))) ?_
    refine Lq.op (v := .int .i64 (heldV ([]) 1)) rfl rfl rfl (OpQ.assign rfl rfl) ?_
    refine Lq.nil ?_
    refine Kt.onSub (e' := [(1, .int .i64 r), (2, .pointer (some ⟨p2, 0, none⟩)), (6, .slice (some ⟨p19, 0, none⟩) 0 cap19), (7, .slice none 0 0), (8, .int .i64 1), (9, .int .i64 (heldV ([]) 1))]) (Sub.cons rfl (Sub.cons rfl (Sub.cons rfl (Sub.cons rfl (Sub.cons rfl (Sub.cons rfl Sub.nil)))))) ?_
    refine Wk.seq ?_
    refine Wk.seq ?_
    refine Wk.regionQ ?_
    refine Lq.op (v := .int .i64 (heldV ([]) 1)) rfl rfl rfl (OpQ.move rfl rfl) ?_
    refine Lq.op (v := .bool (decide ((heldV ([]) 1) < (0 : Int)))) rfl rfl rfl (OpQ.lss rfl rfl rfl) ?_
    refine Lq.nil ?_
    refine Kt.onSub (e' := [(1, .int .i64 r), (2, .pointer (some ⟨p2, 0, none⟩)), (6, .slice (some ⟨p19, 0, none⟩) 0 cap19), (7, .slice none 0 0), (8, .int .i64 1), (9, .int .i64 (heldV ([]) 1)), (35, .bool (decide ((heldV ([]) 1) < (0 : Int))))]) (Sub.cons rfl (Sub.cons rfl (Sub.cons rfl (Sub.cons rfl (Sub.cons rfl (Sub.cons rfl (Sub.cons rfl Sub.nil))))))) ?_
    refine Wk.cond (b := decide ((heldV ([]) 1) < (0 : Int))) rfl (fun h35 => ?_) (fun h35 => ?_)
    · skip
      replace h35 := of_decide_eq_true h35
      exact absurd h35 (by first | (rw [held_all]; omega) | decide)
    · skip
      replace h35 := of_decide_eq_false h35
      refine Wk.skip ?_
      refine Kt.onSub (e' := [(1, .int .i64 r), (2, .pointer (some ⟨p2, 0, none⟩)), (6, .slice (some ⟨p19, 0, none⟩) 0 cap19), (7, .slice none 0 0), (8, .int .i64 1), (9, .int .i64 (heldV ([]) 1))]) (Sub.cons rfl (Sub.cons rfl (Sub.cons rfl (Sub.cons rfl (Sub.cons rfl (Sub.cons rfl Sub.nil)))))) ?_
      refine Wk.seq ?_
      refine Wk.seq ?_
      refine Wk.regionQ ?_
      refine Lq.op (v := .int .i64 (heldV ([]) 1)) rfl rfl rfl (OpQ.move rfl rfl) ?_
      refine Lq.op (v := .int .i64 1) rfl rfl rfl (OpQ.move rfl rfl) ?_
      refine Lq.op (v := .bool (!(decide ((heldV ([]) 1) = (1 : Int))))) rfl rfl rfl (OpQ.neq rfl rfl rfl) ?_
      refine Lq.nil ?_
      refine Kt.onSub (e' := [(1, .int .i64 r), (2, .pointer (some ⟨p2, 0, none⟩)), (6, .slice (some ⟨p19, 0, none⟩) 0 cap19), (7, .slice none 0 0), (8, .int .i64 1), (38, .bool (!(decide ((heldV ([]) 1) = (1 : Int)))))]) (Sub.cons rfl (Sub.cons rfl (Sub.cons rfl (Sub.cons rfl (Sub.cons rfl (Sub.cons rfl Sub.nil)))))) ?_
      refine Wk.cond (b := !(decide ((heldV ([]) 1) = (1 : Int)))) rfl (fun h38 => ?_) (fun h38 => ?_)
      · skip
        replace h38 := not_true h38
        replace h38 := of_decide_eq_false h38
        exact absurd h38 (by first | exact not_not_intro (held_all _ _) | decide)
      · skip
        replace h38 := not_false h38
        replace h38 := of_decide_eq_true h38
        refine Wk.skip ?_
        refine Kt.onSub (e' := [(1, .int .i64 r), (2, .pointer (some ⟨p2, 0, none⟩)), (6, .slice (some ⟨p19, 0, none⟩) 0 cap19), (7, .slice none 0 0), (8, .int .i64 1)]) (Sub.cons rfl (Sub.cons rfl (Sub.cons rfl (Sub.cons rfl (Sub.cons rfl Sub.nil))))) ?_
        refine Wk.seq ?_
        refine Wk.region ?_
        refine Ll.op (v := vS a) rfl rfl rfl (OpQ.loadBox (cs := #[.int .i64 a.n, str a.set, str a.rel]) 1 rfl Tryd.isAgg23 rfl rfl Tryd.sizeOf23) ?_
        refine Ll.op (v := vS a) rfl rfl rfl (OpQ.call rfl Tryd.call17 rfl Own.stable (fun w1 hw1 => toSt_ok a w1 )) ?_
        refine Ll.op (v := .int .i64 r) rfl rfl rfl (OpQ.move rfl rfl) ?_
        refine Ll.op (v := .slice none 0 0) rfl rfl rfl (OpQ.call rfl Tryd.call30 rfl Own.stable (fun w1 hw1 => iCls_no a r w1 hsa hv)) ?_
        refine Ll.op (v := .slice none 0 0) rfl rfl rfl (OpQ.assign rfl rfl) ?_
        refine Ll.nil ?_
        refine Kt.onSub (e' := [(6, .slice (some ⟨p19, 0, none⟩) 0 cap19), (7, .slice none 0 0), (8, .int .i64 1), (10, .slice none 0 0)]) (Sub.cons rfl (Sub.cons rfl (Sub.cons rfl (Sub.cons rfl Sub.nil)))) ?_
        refine Wk.seq ?_
        refine Wk.seq ?_
        refine Wk.regionQ ?_
        refine Lq.op (v := .slice none 0 0) rfl rfl rfl (OpQ.move rfl rfl) ?_
        refine Lq.op (v := .slice (some ⟨p19, 0, none⟩) 0 cap19) rfl rfl rfl (OpQ.move rfl rfl) ?_
        refine Lq.op (v := .bool true) rfl rfl rfl (OpQ.call rfl Tryd.call24 rfl Own.stable (fun w1 hw1 => known_b (beq_self_eq_true _) (eqInt_ok (.slice none 0 0) (.slice (some ⟨p19, 0, none⟩) 0 cap19) ([]) ([]) w1 Ints.nil (Own.row hw1 (i := 0) rfl (by simpa using htp19) (by simp) hlp19) (by first | (simp; done) | (simp; omega) | omega)))) ?_
        refine Lq.op (v := .bool false) rfl rfl rfl (OpQ.notT rfl rfl) ?_
        refine Lq.nil ?_
        refine Kt.onSub (e' := [(7, .slice none 0 0), (8, .int .i64 1), (46, .bool false)]) (Sub.cons rfl (Sub.cons rfl (Sub.cons rfl Sub.nil))) ?_
        refine Wk.condF rfl ?_
        refine Wk.skip ?_
        refine Kt.onSub (e' := [(7, .slice none 0 0), (8, .int .i64 1)]) (Sub.cons rfl (Sub.cons rfl Sub.nil)) ?_
        refine Wk.seq ?_
        refine Wk.regionQ ?_
        refine Lq.op (v := .int .i64 1) rfl rfl rfl (OpQ.assign rfl rfl) ?_
        refine Lq.nil ?_
        refine Kt.onSub (e' := [(7, .slice none 0 0), (8, .int .i64 1), (9, .int .i64 1)]) (Sub.cons rfl (Sub.cons rfl (Sub.cons rfl Sub.nil))) ?_
        refine Wk.seq ?_
        refine Wk.regionQ ?_
        refine Lq.op (v := .slice none 0 0) rfl rfl rfl (OpQ.move rfl rfl) ?_
        refine Lq.op (v := .int .i64 1) rfl rfl rfl (OpQ.move rfl rfl) ?_
        refine Lq.op (v := .int .i64 (heldV ([]) 1)) rfl rfl rfl (OpQ.call rfl Tryd.call32 rfl Own.stable (fun w1 hw1 => heldInt_ok (.slice none 0 0) ([]) 1 w1 Ints.nil (by first | (simp; done) | (simp; omega) | omega) (by omega) (by omega))) ?_
        refine Lq.op (v := .int .i64 (heldV ([]) 1)) rfl rfl rfl (OpQ.assign rfl rfl) ?_
        refine Lq.nil ?_
        refine Kt.onSub (e' := [(8, .int .i64 1), (9, .int .i64 (heldV ([]) 1))]) (Sub.cons rfl (Sub.cons rfl Sub.nil)) ?_
        refine Wk.seq ?_
        refine Wk.seq ?_
        refine Wk.regionQ ?_
        refine Lq.op (v := .int .i64 (heldV ([]) 1)) rfl rfl rfl (OpQ.move rfl rfl) ?_
        refine Lq.op (v := .bool (decide ((heldV ([]) 1) < (0 : Int)))) rfl rfl rfl (OpQ.lss rfl rfl rfl) ?_
        refine Lq.nil ?_
        refine Kt.onSub (e' := [(8, .int .i64 1), (9, .int .i64 (heldV ([]) 1)), (51, .bool (decide ((heldV ([]) 1) < (0 : Int))))]) (Sub.cons rfl (Sub.cons rfl (Sub.cons rfl Sub.nil))) ?_
        refine Wk.cond (b := decide ((heldV ([]) 1) < (0 : Int))) rfl (fun h51 => ?_) (fun h51 => ?_)
        · skip
          replace h51 := of_decide_eq_true h51
          exact absurd h51 (by first | (rw [held_all]; omega) | decide)
        · skip
          replace h51 := of_decide_eq_false h51
          refine Wk.skip ?_
          refine Kt.onSub (e' := [(8, .int .i64 1), (9, .int .i64 (heldV ([]) 1))]) (Sub.cons rfl (Sub.cons rfl Sub.nil)) ?_
          refine Wk.seq ?_
          refine Wk.seq ?_
          refine Wk.regionQ ?_
          refine Lq.op (v := .int .i64 (heldV ([]) 1)) rfl rfl rfl (OpQ.move rfl rfl) ?_
          refine Lq.op (v := .int .i64 1) rfl rfl rfl (OpQ.move rfl rfl) ?_
          refine Lq.op (v := .bool (!(decide ((heldV ([]) 1) = (1 : Int))))) rfl rfl rfl (OpQ.neq rfl rfl rfl) ?_
          refine Lq.nil ?_
          refine Kt.onSub (e' := [(54, .bool (!(decide ((heldV ([]) 1) = (1 : Int)))))]) (Sub.cons rfl Sub.nil) ?_
          refine Wk.cond (b := !(decide ((heldV ([]) 1) = (1 : Int)))) rfl (fun h54 => ?_) (fun h54 => ?_)
          · skip
            replace h54 := not_true h54
            replace h54 := of_decide_eq_false h54
            exact absurd h54 (by first | exact not_not_intro (held_all _ _) | decide)
          · skip
            replace h54 := not_false h54
            replace h54 := of_decide_eq_true h54
            refine Wk.skip ?_
            refine Kt.onSub (e' := []) Sub.nil ?_
            refine Wk.seq ?_
            refine Wk.regionQ ?_
            refine Lq.op (v := .bool true) rfl rfl rfl (OpQ.assign rfl rfl) ?_
            refine Lq.nil ?_
            refine Kt.onSub (e' := [(4, .bool true)]) (Sub.cons rfl Sub.nil) ?_
            refine Wk.ret (Kt.end1 rfl rfl fun w' hw => ?_)
            -- ret 1: .bool true
            exact ⟨ret_b (by first | rfl | (simp_all; done) | (simp_all; omega)), hw.below⟩

end Go.Proofs.YtcanofailfbllaaDoor
