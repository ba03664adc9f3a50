/-
  How many classes, by walks.
-/
import Derived.Test.YtcanofailfbllaaDoorPlain21
import Derived.Test.YtcanofailfbllaaDoorWays
import Derived.Test.YtcanofailfbllaaDoorClasses
import Derived.Test.YtcanofailfbllaaDoorBase
namespace Go.Proofs.YtcanofailfbllaaDoor
open Go.RowKit Go.Wk
set_option linter.unusedSimpArgs false

set_option maxHeartbeats 400000 in
/-- impl.CountClasses$1 -/
theorem cc1_ok (a : St) (g h p gL cap T1 T2 T3 : Nat) (cur : Array Value) (rr : List RR) (r : Int) (wd y x : Nat) (w : World) (hg : w.heap[g]? = some (.cells #[.int .i64 a.n, str a.set, str a.rel] T1 (0, 0))) (hh : w.heap[h]? = some (.cells #[.int .i64 r] T2 (0, 0))) (hp : w.heap[p]? = some (.cells #[.slice (some ⟨gL, 0, none⟩) rr.length cap] T3 (0, 0))) (hL : w.heap[gL]? = some (.cells cur 31 (0, 0))) (hR : RowsOk rr cur cap) (hX : rr.map RR.xs = listsL a.n.toNat wd) (hrow : ∀ e ∈ rr, w.heap[e.g]? = some (.cells e.cur 3 (0, 0))) (ha : a.Fine) (h0 : 0 ≤ r) (h3 : r ≤ 3) (hwd : wd ≤ 3) (hyl : y < rr.length) (hxl : x < rr.length) :
    Calls Tryd.prog 71 [.int .i64 ((y : Int)), .int .i64 ((x : Int)), .pointer (some ⟨g, 0, none⟩), .pointer (some ⟨p, 0, none⟩), .pointer (some ⟨h, 0, none⟩)].toArray w fun en w' => en = .returned (.bool (winB r.toNat a (rr.getD y rd).xs a (rr.getD x rd).xs)) ∧ Below w.heap.size w w' := by
  refine fnStart (n := 20) (e := [(0, .int .i64 ((y : Int))), (1, .int .i64 ((x : Int))), (2, .pointer (some ⟨g, 0, none⟩)), (3, .pointer (some ⟨p, 0, none⟩)), (4, .pointer (some ⟨h, 0, none⟩))]) Tryd.func71 rfl rfl rfl rfl Ends.both ?_
  have hry := row_in hR.ok hrow hyl
  have hrx := row_in hR.ok hrow hxl
  have hm1 := ha.lo
  have hyp := rows_point (by omega) hX hyl
  have hxp := rows_point (by omega) hX hxl
  have hyn : (rr.getD y rd).xs.length = wd := by rw [hyp, pointL_length]
  have hxn : (rr.getD x rd).xs.length = wd := by rw [hxp, pointL_length]
  refine Wk.seq ?_
  refine Wk.regionQ ?_
  refine Lq.op (v := .bool false) rfl rfl rfl (OpQ.assign rfl rfl) ?_
  refine Lq.nil ?_
  refine Kt.onSub (e' := [(0, .int .i64 ((y : Int))), (1, .int .i64 ((x : Int))), (2, .pointer (some ⟨g, 0, none⟩)), (3, .pointer (some ⟨p, 0, none⟩)), (4, .pointer (some ⟨h, 0, none⟩))]) (Sub.cons rfl (Sub.cons rfl (Sub.cons rfl (Sub.cons rfl (Sub.cons rfl Sub.nil))))) ?_
  refine Wk.seq ?_
  refine Wk.regionD Base.mixed (fun _ h => h.drawn) (by kernel_rfl) ?_
  refine Lq.op (v := vS a) rfl rfl rfl (OpQ.loadN (cs := #[.int .i64 a.n, str a.set, str a.rel]) rfl Tryd.isAgg26 Tryd.sizeOf26 rfl (fun w1 hw1 j v hj => box_cells hg hw1 j v hj)) ?_
  refine Lq.op (v := .slice (some ⟨gL, 0, none⟩) rr.length cap) rfl rfl rfl (OpQ.load1 rfl Tryd.isAgg66 rfl (fun w1 hw1 => by have := box_cells hp hw1 0 (.slice (some ⟨gL, 0, none⟩) rr.length cap) rfl; rwa [Addr.add_lit] at this)) ?_
  refine Lq.op (v := .int .i64 ((y : Int))) rfl rfl rfl (OpQ.move rfl rfl) ?_
  refine Lq.op (v := .pointer (some ⟨gL, y, none⟩)) rfl rfl rfl (OpQ.cast (v' := .pointer (some ⟨gL, y, none⟩)) (by simp) (OpQ.indexAddr1 (i := (y : Int)) rfl Tryd.runUnderlying66 Tryd.sizeOf31 rfl rfl (by omega) (by omega))) ?_
  refine Lq.op (v := rv (rr.getD y rd)) rfl rfl rfl (OpQ.load1 rfl Tryd.isAgg31 rfl (fun w1 hw1 => by have := box_cells hL hw1 y (rv (rr.getD y rd)) (by have := rvs_at (rr := rr) (i := y) hyl; rw [← hR.vals, List.getElem?_take, if_pos hyl] at this; exact this); rwa [Addr.add_lit, Nat.zero_add] at this)) ?_
  refine Lq.op (v := vS a) rfl rfl rfl (OpQ.loadN (cs := #[.int .i64 a.n, str a.set, str a.rel]) rfl Tryd.isAgg26 Tryd.sizeOf26 rfl (fun w1 hw1 j v hj => box_cells hg hw1 j v hj)) ?_
  refine Lq.op (v := .slice (some ⟨gL, 0, none⟩) rr.length cap) rfl rfl rfl (OpQ.load1 rfl Tryd.isAgg66 rfl (fun w1 hw1 => by have := box_cells hp hw1 0 (.slice (some ⟨gL, 0, none⟩) rr.length cap) rfl; rwa [Addr.add_lit] at this)) ?_
  refine Lq.op (v := .int .i64 ((x : Int))) rfl rfl rfl (OpQ.move rfl rfl) ?_
  refine Lq.op (v := .pointer (some ⟨gL, x, none⟩)) rfl rfl rfl (OpQ.cast (v' := .pointer (some ⟨gL, x, none⟩)) (by simp) (OpQ.indexAddr1 (i := (x : Int)) rfl Tryd.runUnderlying66 Tryd.sizeOf31 rfl rfl (by omega) (by omega))) ?_
  refine Lq.op (v := rv (rr.getD x rd)) rfl rfl rfl (OpQ.load1 rfl Tryd.isAgg31 rfl (fun w1 hw1 => by have := box_cells hL hw1 x (rv (rr.getD x rd)) (by have := rvs_at (rr := rr) (i := x) hxl; rw [← hR.vals, List.getElem?_take, if_pos hxl] at this; exact this); rwa [Addr.add_lit, Nat.zero_add] at this)) ?_
  refine Lq.op (v := .int .i64 r) rfl rfl rfl (OpQ.load1 rfl Tryd.isAgg3 rfl (fun w1 hw1 => by have := box_cells hh hw1 0 (.int .i64 r) rfl; rwa [Addr.add_lit] at this)) ?_
  refine Lq.op (v := .bool (winB r.toNat a ((rr.getD y rd).xs) a ((rr.getD x rd).xs))) rfl rfl rfl (OpQ.call rfl Tryd.call63 rfl Own.stable (fun w1 hw1 => wins_ok a a ((rr.getD y rd).xs) ((rr.getD x rd).xs) (rv (rr.getD y rd)) (rv (rr.getD x rd)) w1 ha ha (Row.own hry hw1) (Row.own hrx hw1) (by rw [hyp]; exact point_els ha _ _) (by rw [hxp]; exact point_els ha _ _) (by omega) (by omega) r (by omega) (by omega))) ?_
  refine Lq.op (v := .bool (winB r.toNat a ((rr.getD y rd).xs) a ((rr.getD x rd).xs))) rfl rfl rfl (OpQ.assign rfl rfl) ?_
  refine Lq.nil ?_
  refine Kt.onSub (e' := [(7, .bool (winB r.toNat a ((rr.getD y rd).xs) a ((rr.getD x rd).xs)))]) (Sub.cons rfl Sub.nil) ?_
  refine Wk.ret (Kt.end1 rfl rfl fun w' hw => ?_)
  -- ret 0: .bool (winB r.toNat a ((rr.getD y rd).xs) a ((rr.getD x rd).xs))
  exact ⟨rfl, hw.below⟩

set_option maxHeartbeats 400000 in
/-- slices.Max[[]int,int] -/
theorem slMax_ok (va : Value) (xs : List Int) (w : World) (hva : Ints w va xs) (hne : 0 < xs.length) (hs : xs.length ≤ 100000) :
    Calls Tryd.prog 69 [va].toArray w fun en w' => en = .returned (.int .i64 (maxTo xs (xs.length - 1))) ∧ Below w.heap.size w w' := by
  refine fnStart (n := 25) (e := [(0, va)]) Tryd.func69 rfl rfl rfl rfl Ends.both ?_
  refine Wk.seq ?_
  refine Wk.regionQ ?_
  refine Lq.op (v := .int .i64 0) rfl rfl rfl (OpQ.assign rfl rfl) ?_
  refine Lq.nil ?_
  refine Kt.onSub (e' := [(0, va)]) (Sub.cons rfl Sub.nil) ?_
  refine Wk.seq ?_
  refine Wk.seq ?_
  refine Wk.regionQ ?_
  refine Lq.op (v := va) rfl rfl rfl (OpQ.move rfl rfl) ?_
  refine Lq.op (v := .int .i64 ((xs.length : Int))) rfl rfl rfl (OpQ.lenRow rfl Tryd.runUnderlying31 rfl (ints_length _) (fun w1 hw1 => Row.own hva hw1)) ?_
  refine Lq.op (v := .bool (decide (((xs.length : Int)) < (1 : Int)))) rfl rfl rfl (OpQ.lss rfl rfl rfl) ?_
  refine Lq.nil ?_
  refine Kt.onSub (e' := [(0, va), (7, .bool (decide (((xs.length : Int)) < (1 : Int))))]) (Sub.cons rfl (Sub.cons rfl Sub.nil)) ?_
  refine Wk.cond (b := decide (((xs.length : Int)) < (1 : Int))) rfl (fun h7 => ?_) (fun h7 => ?_)
  · skip
    replace h7 := of_decide_eq_true h7
    omega
  · skip
    replace h7 := of_decide_eq_false h7
    refine Wk.skip ?_
    refine Kt.onSub (e' := [(0, va)]) (Sub.cons rfl Sub.nil) ?_
    refine Wk.seq ?_
    refine Wk.regionQ ?_
    refine Lq.op (v := va) rfl rfl rfl (OpQ.move rfl rfl) ?_
    refine Lq.op (v := .pointer (some (sAt va 0))) rfl rfl rfl (OpQ.atRow rfl Tryd.runUnderlying31 Tryd.sizeOf3 rfl rfl (by omega) (by rw [ints_length]; omega) (fun w1 hw1 => Row.own hva hw1)) ?_
    refine Lq.op (v := .int .i64 (xs.getD ((0 : Int).toNat) 0)) rfl rfl rfl (OpQ.load1 rfl Tryd.isAgg3 rfl (fun w1 hw1 => Ints.cell (Row.own hva hw1) (by omega) (by omega))) ?_
    refine Lq.op (v := .int .i64 (xs.getD ((0 : Int).toNat) 0)) rfl rfl rfl (OpQ.assign rfl rfl) ?_
    refine Lq.nil ?_
    refine Kt.onSub (e' := [(0, va), (3, .int .i64 (xs.getD ((0 : Int).toNat) 0))]) (Sub.cons rfl (Sub.cons rfl Sub.nil)) ?_
    refine Wk.seq ?_
    refine Wk.seq ?_
    refine Wk.regionQ ?_
    refine Lq.op (v := .int .i64 1) rfl rfl rfl (OpQ.assign rfl rfl) ?_
    refine Lq.nil ?_
    refine Kt.onSub (e' := [(0, va), (3, .int .i64 (xs.getD ((0 : Int).toNat) 0)), (4, .int .i64 1)]) (Sub.cons rfl (Sub.cons rfl (Sub.cons rfl Sub.nil))) ?_
    refine Wk.block ?_
    refine Wk.loop (σ := Nat) (fun k => k + 1 ≤ xs.length) (fun k => [(0, va), (3, .int .i64 (maxTo xs k)), (4, .int .i64 ((k : Int) + 1))]) (fun k => Own w.heap.size w []) (fun k => xs.length - k) (0) (by omega) (Sub.cons rfl (Sub.cons rfl (Sub.cons rfl Sub.nil))) (fun _ h => h) ?_
    rintro k hk
    refine Wk.seq ?_
    refine Wk.seq ?_
    refine Wk.regionQ ?_
    refine Lq.op (v := .int .i64 ((k : Int) + 1)) rfl rfl rfl (OpQ.move rfl rfl) ?_
    refine Lq.op (v := va) rfl rfl rfl (OpQ.move rfl rfl) ?_
    refine Lq.op (v := .int .i64 ((xs.length : Int))) rfl rfl rfl (OpQ.lenRow rfl Tryd.runUnderlying31 rfl (ints_length _) (fun w1 hw1 => Row.own hva hw1)) ?_
    refine Lq.op (v := .bool (decide (((k : Int) + 1) < ((xs.length : Int))))) rfl rfl rfl (OpQ.lss rfl rfl rfl) ?_
    refine Lq.nil ?_
    refine Kt.onSub (e' := [(0, va), (3, .int .i64 (maxTo xs k)), (4, .int .i64 ((k : Int) + 1)), (15, .bool (decide (((k : Int) + 1) < ((xs.length : Int)))))]) (Sub.cons rfl (Sub.cons rfl (Sub.cons rfl (Sub.cons rfl Sub.nil)))) ?_
    refine Wk.cond (b := decide (((k : Int) + 1) < ((xs.length : Int)))) rfl (fun h15 => ?_) (fun h15 => ?_)
    · skip
      replace h15 := of_decide_eq_true h15
      refine Wk.skip ?_
      refine Kt.onSub (e' := [(0, va), (3, .int .i64 (maxTo xs k)), (4, .int .i64 ((k : Int) + 1))]) (Sub.cons rfl (Sub.cons rfl (Sub.cons rfl Sub.nil))) ?_
      refine Wk.seq ?_
      refine Wk.block ?_
      refine Wk.regionQ ?_
      refine Lq.op (v := .int .i64 (maxTo xs k)) rfl rfl rfl (OpQ.move rfl rfl) ?_
      refine Lq.op (v := va) rfl rfl rfl (OpQ.move rfl rfl) ?_
      refine Lq.op (v := .int .i64 ((k : Int) + 1)) rfl rfl rfl (OpQ.move rfl rfl) ?_
      refine Lq.op (v := .pointer (some (sAt va ((k : Int) + 1)))) rfl rfl rfl (OpQ.atRow rfl Tryd.runUnderlying31 Tryd.sizeOf3 rfl rfl (by omega) (by rw [ints_length]; omega) (fun w1 hw1 => Row.own hva hw1)) ?_
      refine Lq.op (v := .int .i64 (xs.getD (k + 1) 0)) rfl rfl rfl (OpQ.cast (by rw [show ((k : Int) + 1).toNat = k + 1 from by omega]) (OpQ.load1 rfl Tryd.isAgg3 rfl (fun w1 hw1 => Ints.cell (Row.own hva hw1) (by omega) (by omega)))) ?_
      refine Lq.op (v := .int .i64 (if (xs.getD (k + 1) 0) > (maxTo xs k) then (xs.getD (k + 1) 0) else (maxTo xs k))) rfl rfl rfl (OpQ.max2 rfl rfl rfl) ?_
      refine Lq.op (v := .int .i64 (if (xs.getD (k + 1) 0) > (maxTo xs k) then (xs.getD (k + 1) 0) else (maxTo xs k))) rfl rfl rfl (OpQ.assign rfl rfl) ?_
      refine Lq.nil ?_
      refine Kt.onSub (e' := [(0, va), (3, .int .i64 (if (xs.getD (k + 1) 0) > (maxTo xs k) then (xs.getD (k + 1) 0) else (maxTo xs k))), (4, .int .i64 ((k : Int) + 1))]) (Sub.cons rfl (Sub.cons rfl (Sub.cons rfl Sub.nil))) ?_
      refine Wk.regionQ ?_
      refine Lq.op (v := .int .i64 ((k : Int) + 1)) rfl rfl rfl (OpQ.move rfl rfl) ?_
      refine Lq.op (v := .int .i64 (((k : Int) + 1) + (1 : Int))) rfl rfl rfl (OpQ.add rfl rfl rfl (by omega) (by omega)) ?_
      refine Lq.op (v := .int .i64 (((k : Int) + 1) + (1 : Int))) rfl rfl rfl (OpQ.assign rfl rfl) ?_
      refine Lq.nil ?_
      refine Kt.again (k + 1) (by omega) (by omega) (Sub.cons rfl (Sub.cons (by rw [maxTo]; rfl) (Sub.cons (by simp [List.lookup]) Sub.nil))) (fun _ h => h)
    · skip
      replace h15 := of_decide_eq_false h15
      refine Wk.exit rfl ?_
      refine Kt.onSub (e' := [(3, .int .i64 (maxTo xs k))]) (Sub.cons rfl Sub.nil) ?_
      refine Wk.seq ?_
      refine Wk.regionQ ?_
      refine Lq.op (v := .int .i64 (maxTo xs k)) rfl rfl rfl (OpQ.move rfl rfl) ?_
      refine Lq.op (v := .int .i64 (maxTo xs k)) rfl rfl rfl (OpQ.assign rfl rfl) ?_
      refine Lq.nil ?_
      refine Kt.onSub (e' := [(2, .int .i64 (maxTo xs k))]) (Sub.cons rfl Sub.nil) ?_
      refine Wk.ret (Kt.end1 rfl rfl fun w' hw => ?_)
      -- ret 0: .int .i64 (maxTo xs k)
      exact ⟨ret_i (by rw [show xs.length - 1 = k from by omega]), hw.below⟩

set_option maxHeartbeats 400000 in
/-- impl.CountClasses -/
theorem iCount_ok (a : St) (W R : Int) (w : World) (hsa : a.Small) :
    Calls Tryd.prog 28 [vS a, .int .i64 W, .int .i64 R].toArray w fun en w' => en = .returned (.int .i64 (countC a W R)) ∧ Below w.heap.size w w' := by
  refine fnStart (n := 37) (e := [(0, vS a), (1, .int .i64 W), (2, .int .i64 R)]) Tryd.func28 rfl rfl rfl rfl Ends.both ?_
  refine Wk.seq ?_
  refine Wk.region ?_
  refine Ll.box (v := vS a) rfl rfl rfl rfl rfl fun p3 hp3 => ?_
  show Ll _ _ (Own _ _ [(p3, .cells #[.int .i64 a.n, str a.set, str a.rel] 26 (0, 0))]) _ _ ((3, .pointer (some ⟨p3, 0, none⟩)) :: _) _ _ _
  refine Ll.box (v := .int .i64 R) rfl rfl rfl rfl rfl fun p5 hp5 => ?_
  show Ll _ _ (Own _ _ [(p5, .cells #[.int .i64 R] 3 (0, 0)), (p3, .cells #[.int .i64 a.n, str a.set, str a.rel] 26 (0, 0))]) _ _ ((5, .pointer (some ⟨p5, 0, none⟩)) :: _) _ _ _
  refine Ll.op (v := .int .i64 0) rfl rfl rfl (OpQ.assign rfl rfl) ?_
  refine Ll.nil ?_
  refine Kt.onSub (e' := [(1, .int .i64 W), (3, .pointer (some ⟨p3, 0, none⟩)), (5, .pointer (some ⟨p5, 0, none⟩))]) (Sub.cons rfl (Sub.cons rfl (Sub.cons rfl Sub.nil))) ?_
  refine Wk.seq ?_
  refine Wk.seq ?_
  refine Wk.regionQ ?_
  refine Lq.op (v := vS a) rfl rfl rfl (OpQ.loadBox (cs := #[.int .i64 a.n, str a.set, str a.rel]) 1 rfl Tryd.isAgg26 rfl rfl Tryd.sizeOf26) ?_
  refine Lq.op (v := .bool (validB a)) rfl rfl rfl (OpQ.call rfl Tryd.call57 rfl Own.stable (fun w1 hw1 => isStructure_ok a w1 hsa)) ?_
  refine Lq.op (v := .bool (!(validB a))) rfl rfl rfl (OpQ.not rfl rfl) ?_
  refine Lq.op (v := .bool (!(validB a))) rfl rfl rfl (OpQ.move rfl rfl) ?_
  refine Lq.bool fun b11 hg11 => ?_
  cases b11
  · skip
    replace hg11 := not_false hg11
    refine Lq.op (v := .int .i64 W) rfl rfl rfl (OpQ.move rfl rfl) ?_
    refine Lq.op (v := .bool (decide (W < (0 : Int)))) rfl rfl rfl (OpQ.lss rfl rfl rfl) ?_
    refine Lq.op (v := .bool (decide (W < (0 : Int)))) rfl rfl rfl (OpQ.pickF rfl rfl rfl) ?_
    refine Lq.op (v := .bool (decide (W < (0 : Int)))) rfl rfl rfl (OpQ.move rfl rfl) ?_
    refine Lq.bool fun b15 hg15 => ?_
    cases b15
    · skip
      replace hg15 := of_decide_eq_false hg15
      refine Lq.op (v := .int .i64 W) rfl rfl rfl (OpQ.move rfl rfl) ?_
      refine Lq.op (v := .bool (decide ((2 : Int) < W))) rfl rfl rfl (OpQ.gtr rfl rfl rfl) ?_
      refine Lq.op (v := .bool (decide ((2 : Int) < W))) rfl rfl rfl (OpQ.pickF rfl rfl rfl) ?_
      refine Lq.op (v := .bool (decide ((2 : Int) < W))) rfl rfl rfl (OpQ.move rfl rfl) ?_
      refine Lq.bool fun b19 hg19 => ?_
      cases b19
      · skip
        replace hg19 := of_decide_eq_false hg19
        refine Lq.op (v := .int .i64 R) rfl rfl rfl (OpQ.loadOwn 0 rfl Tryd.isAgg3 rfl rfl rfl) ?_
        refine Lq.op (v := .bool (decide (R < (0 : Int)))) rfl rfl rfl (OpQ.lss rfl rfl rfl) ?_
        refine Lq.op (v := .bool (decide (R < (0 : Int)))) rfl rfl rfl (OpQ.pickF rfl rfl rfl) ?_
        refine Lq.op (v := .bool (decide (R < (0 : Int)))) rfl rfl rfl (OpQ.move rfl rfl) ?_
        refine Lq.bool fun b23 hg23 => ?_
        cases b23
        · skip
          replace hg23 := of_decide_eq_false hg23
          refine Lq.op (v := .int .i64 R) rfl rfl rfl (OpQ.loadOwn 0 rfl Tryd.isAgg3 rfl rfl rfl) ?_
          refine Lq.op (v := .bool (decide ((2 : Int) < R))) rfl rfl rfl (OpQ.gtr rfl rfl rfl) ?_
          refine Lq.op (v := .bool (decide ((2 : Int) < R))) rfl rfl rfl (OpQ.pickF rfl rfl rfl) ?_
          refine Lq.nil ?_
          refine Kt.onSub (e' := [(1, .int .i64 W), (3, .pointer (some ⟨p3, 0, none⟩)), (5, .pointer (some ⟨p5, 0, none⟩)), (26, .bool (decide ((2 : Int) < R)))]) (Sub.cons rfl (Sub.cons rfl (Sub.cons rfl (Sub.cons rfl Sub.nil)))) ?_
          refine Wk.cond (b := decide ((2 : Int) < R)) rfl (fun h26 => ?_) (fun h26 => ?_)
          · skip
            replace h26 := of_decide_eq_true h26
            refine Wk.seq ?_
            refine Wk.regionQ ?_
            refine Lq.op (v := .int .i64 (-1)) rfl rfl rfl (OpQ.assign rfl rfl) ?_
            refine Lq.nil ?_
            refine Kt.onSub (e' := [(6, .int .i64 (-1))]) (Sub.cons rfl Sub.nil) ?_
            refine Wk.ret (Kt.end1 rfl rfl fun w' hw => ?_)
            -- ret 0: .int .i64 (-1)
            exact ⟨ret_i (by unfold countC; rw [if_neg (by first | (simp_all; done) | (unfold inB at *; simp_all; done) | (unfold inB at *; simp_all; omega))]), hw.below⟩
          · skip
            replace h26 := of_decide_eq_false h26
            have hV : validB a = true := by simp_all
            have ha := validB_fine hV
            have hm8 := ha.hi
            have hm1 := ha.lo
            have h0 : 0 ≤ W := by omega
            have h3 : W ≤ 2 := by omega
            have h0r : 0 ≤ R := by omega
            have h3r : R ≤ 3 := by omega
            have h2r : R ≤ 2 := by omega
            have h512 := pow8 (size := a.n.toNat) (w := W.toNat) (by omega) (by omega)
            have hpos : 0 < a.n.toNat ^ W.toNat := Nat.pow_pos (by omega)
            refine Wk.skip ?_
            refine Kt.onSub (e' := [(1, .int .i64 W), (3, .pointer (some ⟨p3, 0, none⟩)), (5, .pointer (some ⟨p5, 0, none⟩))]) (Sub.cons rfl (Sub.cons rfl (Sub.cons rfl Sub.nil))) ?_
            refine Wk.seq ?_
            refine Wk.region ?_
            refine Ll.op (v := .pointer (some ⟨p3, 0, none⟩)) rfl rfl rfl (OpQ.fieldAddr rfl Tryd.runUnderlying26 rfl Tryd.sizeOf3 rfl rfl) ?_
            refine Ll.op (v := .int .i64 a.n) rfl rfl rfl (OpQ.loadOwn 1 rfl Tryd.isAgg3 rfl rfl rfl) ?_
            refine Ll.op (v := .int .i64 W) rfl rfl rfl (OpQ.move rfl rfl) ?_
            refine Ll.callGet (σ := Nat × Nat × Array Value × List RR) (ok := fun (g, c', u, rr) => RowsOk rr u c' ∧ rr.map RR.xs = listsL (a.n).toNat (W).toNat) (v := fun (g, c', u, rr) => .slice (some ⟨g, 0, none⟩) rr.length c') (xs := [.tmp 28, .tmp 29]) (vs := [.int .i64 a.n, .int .i64 W]) (hs' := fun (g, c', u, rr) => [(p5, .cells #[.int .i64 R] 3 (0, 0)), (p3, .cells #[.int .i64 a.n, str a.set, str a.rel] 26 (0, 0))] ++ ((g, .cells u 31 (0, 0)) :: (rowsB 3 rr ++ []))) rfl rfl rfl rfl Tryd.call58 rfl (fun w1 hw1 => (listsOf_ok _ _ _ a.n W w1 (by omega) hm8 h0 (by omega) hw1).mono fun en w' ⟨g, c', u, rr, h1, h2, h3⟩ => ⟨(g, c', u, rr), h1, h2, h3.perm (rows_behind _ _ _)⟩) fun ⟨gL, cL, uL, rrL⟩ ⟨hL, hLX⟩ => ?_
            show Ll _ _ (Own _ _ ((p5, .cells #[.int .i64 R] 3 (0, 0)) :: (p3, .cells #[.int .i64 a.n, str a.set, str a.rel] 26 (0, 0)) :: (gL, .cells uL 31 (0, 0)) :: ((rowsB 3 rrL ++ [])))) _ _ ((30, .slice (some ⟨gL, 0, none⟩) rrL.length cL) :: _) _ _ _
            refine Ll.alloc rfl rfl rfl rfl Tryd.zeroValue66 fun p7 hp7 => ?_
            show Ll _ _ (Own _ _ ((p7, .cells #[.slice none 0 0] 66 (0, 0)) :: (p5, .cells #[.int .i64 R] 3 (0, 0)) :: (p3, .cells #[.int .i64 a.n, str a.set, str a.rel] 26 (0, 0)) :: (gL, .cells uL 31 (0, 0)) :: ((rowsB 3 rrL ++ [])))) _ _ ((7, .pointer (some ⟨p7, 0, none⟩)) :: _) _ _ _
            refine Ll.store1 (v := .slice (some ⟨gL, 0, none⟩) rrL.length cL) (hs' := ((p7, .cells #[.slice (some ⟨gL, 0, none⟩) rrL.length cL] 66 (0, 0)) :: (p5, .cells #[.int .i64 R] 3 (0, 0)) :: (p3, .cells #[.int .i64 a.n, str a.set, str a.rel] 26 (0, 0)) :: (gL, .cells uL 31 (0, 0)) :: ((rowsB 3 rrL ++ [])))) 0 rfl rfl rfl rfl rfl rfl Tryd.sizeOf66 rfl (by simp) rfl ?_
            refine Ll.nil ?_
            refine Kt.onSub (e' := [(3, .pointer (some ⟨p3, 0, none⟩)), (5, .pointer (some ⟨p5, 0, none⟩)), (7, .pointer (some ⟨p7, 0, none⟩))]) (Sub.cons rfl (Sub.cons rfl (Sub.cons rfl Sub.nil))) ?_
            refine Wk.seq ?_
            refine Wk.region ?_
            refine Ll.op (v := .slice (some ⟨gL, 0, none⟩) rrL.length cL) rfl rfl rfl (OpQ.loadOwn 0 rfl Tryd.isAgg66 rfl rfl rfl) ?_
            have hrl : rrL.length = a.n.toNat ^ W.toNat := by rw [← listsL_length a.n.toNat W.toNat, ← hLX, List.length_map]
            have hqq : clsN (fun y x => winB R.toNat a (rrL.getD y rd).xs a (rrL.getD x rd).xs) (a.n.toNat ^ W.toNat) = clsN (qP a R.toNat W.toNat) (a.n.toNat ^ W.toNat) := cls_congr fun y x hyx hx => by rw [rows_point (by omega) hLX (by omega), rows_point (by omega) hLX (by omega)]; rfl
            have hmx : maxTo (clsN (fun y x => winB R.toNat a (rrL.getD y rd).xs a (rrL.getD x rd).xs) ((rrL.length : Int)).toNat).1 ((clsN (fun y x => winB R.toNat a (rrL.getD y rd).xs a (rrL.getD x rd).xs) ((rrL.length : Int)).toNat).1.length - 1) = ((clsN (qP a R.toNat W.toNat) (a.n.toNat ^ W.toNat)).2 : Int) - 1 := by
              rw [Int.toNat_natCast, hrl, hqq, cls_length]; exact max_cls _ hpos
            have hcs := (cls_small (qP a R.toNat W.toNat) (a.n.toNat ^ W.toNat)).1
            refine Ll.op (v := .int .i64 ((rrL.length : Int))) rfl rfl rfl (OpQ.lenS rfl Tryd.runUnderlying66 rfl) ?_
            refine Ll.op (v := .func (.func 71) #[] #[.pointer (some ⟨p3, 0, none⟩), .pointer (some ⟨p7, 0, none⟩), .pointer (some ⟨p5, 0, none⟩)]) rfl rfl rfl (OpQ.func' (cap := [.tmp 3, .tmp 7, .tmp 5]) rfl rfl) ?_
            refine Ll.callRow (xs := [.tmp 32, .tmp 33]) (m := (clsN (fun y x => winB R.toNat a (rrL.getD y rd).xs a (rrL.getD x rd).xs) ((rrL.length : Int)).toNat).1.length) (vs := ints ((clsN (fun y x => winB R.toNat a (rrL.getD y rd).xs a (rrL.getD x rd).xs) ((rrL.length : Int)).toNat).1)) (el := 3) (size := 1) rfl rfl rfl rfl Tryd.call70 rfl (fun w1 hw1 => classesBy_ok (rrL.length : Int) w1 (by omega) 71 #[.pointer (some ⟨p3, 0, none⟩), .pointer (some ⟨p7, 0, none⟩), .pointer (some ⟨p5, 0, none⟩)] (fun y x => winB R.toNat a (rrL.getD y rd).xs a (rrL.getD x rd).xs) Tryd.call71 (fun w2 hb y x hy hx => cc1_ok a p3 p5 p7 gL cL _ _ _ uL rrL R W.toNat y x w2 ((hw1.stable _ _ hb).has 2 _ _ rfl).2 ((hw1.stable _ _ hb).has 1 _ _ rfl).2 ((hw1.stable _ _ hb).has 0 _ _ rfl).2 ((hw1.stable _ _ hb).has 3 _ _ rfl).2 hL hLX (Own.rowsHas (f := [(p7, .cells #[.slice (some ⟨gL, 0, none⟩) rrL.length cL] 66 (0, 0)), (p5, .cells #[.int .i64 R] 3 (0, 0)), (p3, .cells #[.int .i64 a.n, str a.set, str a.rel] 26 (0, 0)), (gL, .cells uL 31 (0, 0))]) (hw1.stable _ _ hb)) ha h0r h3r (by omega) (by omega) (by omega))) fun p34 cap34 cur34 hp34 hcp34 hlp34 htp34 => ?_
            refine Ll.op (v := .int .i64 (maxTo ((clsN (fun y x => winB R.toNat a (rrL.getD y rd).xs a (rrL.getD x rd).xs) ((rrL.length : Int)).toNat).1) (((clsN (fun y x => winB R.toNat a (rrL.getD y rd).xs a (rrL.getD x rd).xs) ((rrL.length : Int)).toNat).1).length - 1))) rfl rfl rfl (OpQ.call rfl Tryd.call69 rfl Own.stable (fun w1 hw1 => slMax_ok (.slice (some ⟨p34, 0, none⟩) ((clsN (fun y x => winB R.toNat a (rrL.getD y rd).xs a (rrL.getD x rd).xs) ((rrL.length : Int)).toNat).1.length) cap34) ((clsN (fun y x => winB R.toNat a (rrL.getD y rd).xs a (rrL.getD x rd).xs) ((rrL.length : Int)).toNat).1) w1 (Own.row hw1 (i := 0) rfl (by simpa using htp34) (by simp) hlp34) (by rw [cls_length]; omega) (by rw [cls_length]; omega))) ?_
            refine Ll.op (v := .int .i64 ((maxTo ((clsN (fun y x => winB R.toNat a (rrL.getD y rd).xs a (rrL.getD x rd).xs) ((rrL.length : Int)).toNat).1) (((clsN (fun y x => winB R.toNat a (rrL.getD y rd).xs a (rrL.getD x rd).xs) ((rrL.length : Int)).toNat).1).length - 1)) + (1 : Int))) rfl rfl rfl (OpQ.add rfl rfl rfl (by rw [hmx]; omega) (by rw [hmx]; omega)) ?_
            refine Ll.op (v := .int .i64 ((maxTo ((clsN (fun y x => winB R.toNat a (rrL.getD y rd).xs a (rrL.getD x rd).xs) ((rrL.length : Int)).toNat).1) (((clsN (fun y x => winB R.toNat a (rrL.getD y rd).xs a (rrL.getD x rd).xs) ((rrL.length : Int)).toNat).1).length - 1)) + (1 : Int))) rfl rfl rfl (OpQ.assign rfl rfl) ?_
            refine Ll.nil ?_
            refine Kt.onSub (e' := [(6, .int .i64 ((maxTo ((clsN (fun y x => winB R.toNat a (rrL.getD y rd).xs a (rrL.getD x rd).xs) ((rrL.length : Int)).toNat).1) (((clsN (fun y x => winB R.toNat a (rrL.getD y rd).xs a (rrL.getD x rd).xs) ((rrL.length : Int)).toNat).1).length - 1)) + (1 : Int)))]) (Sub.cons rfl Sub.nil) ?_
            refine Wk.ret (Kt.end1 rfl rfl fun w' hw => ?_)
            -- ret 1: .int .i64 ((maxTo ((clsN (fun y x => winB R.toNat a (rrL.getD y rd).xs a (rrL.getD x rd).xs) ((rrL.length : Int)).toNat).1) (((clsN (fun y x => winB R.toNat a (rrL.getD y rd).xs a (rrL.getD x rd).xs) ((rrL.length : Int)).toNat).1).length - 1)) + (1 : Int))
            first | exact ⟨ret_i (by unfold countC; rw [if_neg (by first | (simp_all; done) | (unfold inB at *; simp_all; done) | (unfold inB at *; simp_all; omega))]), hw.below⟩ | exact ⟨ret_i (by unfold countC; rw [hmx, if_pos (by unfold inB; simp [hV, h0, h3, h0r, h2r])]; omega), hw.below⟩
        · skip
          replace hg23 := of_decide_eq_true hg23
          refine Lq.pass rfl rfl rfl ?_
          refine Lq.pass rfl rfl rfl ?_
          refine Lq.op (v := .bool true) rfl rfl rfl (OpQ.pickT rfl rfl rfl) ?_
          refine Lq.nil ?_
          refine Kt.onSub (e' := [(1, .int .i64 W), (3, .pointer (some ⟨p3, 0, none⟩)), (5, .pointer (some ⟨p5, 0, none⟩)), (26, .bool true)]) (Sub.cons rfl (Sub.cons rfl (Sub.cons rfl (Sub.cons rfl Sub.nil)))) ?_
          refine Wk.condT rfl ?_
          refine Wk.seq ?_
          refine Wk.regionQ ?_
          refine Lq.op (v := .int .i64 (-1)) rfl rfl rfl (OpQ.assign rfl rfl) ?_
          refine Lq.nil ?_
          refine Kt.onSub (e' := [(6, .int .i64 (-1))]) (Sub.cons rfl Sub.nil) ?_
          refine Wk.ret (Kt.end1 rfl rfl fun w' hw => ?_)
          -- ret 2: .int .i64 (-1)
          first | exact ⟨ret_i (by unfold countC; rw [if_neg (by first | (simp_all; done) | (unfold inB at *; simp_all; done) | (unfold inB at *; simp_all; omega))]), hw.below⟩ | exact ⟨ret_i (by unfold countC; rw [hmx, if_pos (by unfold inB; simp [hV, h0, h3, h0r, h2r])]; omega), hw.below⟩
      · skip
        replace hg19 := of_decide_eq_true hg19
        refine Lq.pass rfl rfl rfl ?_
        refine Lq.pass rfl rfl rfl ?_
        refine Lq.op (v := .bool true) rfl rfl rfl (OpQ.pickT rfl rfl rfl) ?_
        refine Lq.op (v := .bool true) rfl rfl rfl (OpQ.move rfl rfl) ?_
        refine Lq.pass rfl rfl rfl ?_
        refine Lq.pass rfl rfl rfl ?_
        refine Lq.op (v := .bool true) rfl rfl rfl (OpQ.pickT rfl rfl rfl) ?_
        refine Lq.nil ?_
        refine Kt.onSub (e' := [(1, .int .i64 W), (3, .pointer (some ⟨p3, 0, none⟩)), (5, .pointer (some ⟨p5, 0, none⟩)), (26, .bool true)]) (Sub.cons rfl (Sub.cons rfl (Sub.cons rfl (Sub.cons rfl Sub.nil)))) ?_
        refine Wk.condT rfl ?_
        refine Wk.seq ?_
        refine Wk.regionQ ?_
        refine Lq.op (v := .int .i64 (-1)) rfl rfl rfl (OpQ.assign rfl rfl) ?_
        refine Lq.nil ?_
        refine Kt.onSub (e' := [(6, .int .i64 (-1))]) (Sub.cons rfl Sub.nil) ?_
        refine Wk.ret (Kt.end1 rfl rfl fun w' hw => ?_)
        -- ret 3: .int .i64 (-1)
        first | exact ⟨ret_i (by unfold countC; rw [if_neg (by first | (simp_all; done) | (unfold inB at *; simp_all; done) | (unfold inB at *; simp_all; omega))]), hw.below⟩ | exact ⟨ret_i (by unfold countC; rw [hmx, if_pos (by unfold inB; simp [hV, h0, h3, h0r, h2r])]; omega), hw.below⟩
    · skip
      replace hg15 := of_decide_eq_true hg15
      refine Lq.pass rfl rfl rfl ?_
      refine Lq.pass rfl rfl rfl ?_
      refine Lq.op (v := .bool true) rfl rfl rfl (OpQ.pickT rfl rfl rfl) ?_
      refine Lq.op (v := .bool true) rfl rfl rfl (OpQ.move rfl rfl) ?_
      refine Lq.pass rfl rfl rfl ?_
      refine Lq.pass rfl rfl rfl ?_
      refine Lq.op (v := .bool true) rfl rfl rfl (OpQ.pickT rfl rfl rfl) ?_
      refine Lq.op (v := .bool true) rfl rfl rfl (OpQ.move rfl rfl) ?_
      refine Lq.pass rfl rfl rfl ?_
      refine Lq.pass rfl rfl rfl ?_
      refine Lq.op (v := .bool true) rfl rfl rfl (OpQ.pickT rfl rfl rfl) ?_
      refine Lq.nil ?_
      refine Kt.onSub (e' := [(1, .int .i64 W), (3, .pointer (some ⟨p3, 0, none⟩)), (5, .pointer (some ⟨p5, 0, none⟩)), (26, .bool true)]) (Sub.cons rfl (Sub.cons rfl (Sub.cons rfl (Sub.cons rfl Sub.nil)))) ?_
      refine Wk.condT rfl ?_
      refine Wk.seq ?_
      refine Wk.regionQ ?_
      refine Lq.op (v := .int .i64 (-1)) rfl rfl rfl (OpQ.assign rfl rfl) ?_
      refine Lq.nil ?_
      refine Kt.onSub (e' := [(6, .int .i64 (-1))]) (Sub.cons rfl Sub.nil) ?_
      refine Wk.ret (Kt.end1 rfl rfl fun w' hw => ?_)
      -- ret 4: .int .i64 (-1)
      first | exact ⟨ret_i (by unfold countC; rw [if_neg (by first | (simp_all; done) | (unfold inB at *; simp_all; done) | (unfold inB at *; simp_all; omega))]), hw.below⟩ | exact ⟨ret_i (by unfold countC; rw [hmx, if_pos (by unfold inB; simp [hV, h0, h3, h0r, h2r])]; omega), hw.below⟩
  · skip
    replace hg11 := not_true hg11
    refine Lq.pass rfl rfl rfl ?_
    refine Lq.pass rfl rfl rfl ?_
    refine Lq.op (v := .bool true) rfl rfl rfl (OpQ.pickT rfl rfl rfl) ?_
    refine Lq.op (v := .bool true) rfl rfl rfl (OpQ.move rfl rfl) ?_
    refine Lq.pass rfl rfl rfl ?_
    refine Lq.pass rfl rfl rfl ?_
    refine Lq.op (v := .bool true) rfl rfl rfl (OpQ.pickT rfl rfl rfl) ?_
    refine Lq.op (v := .bool true) rfl rfl rfl (OpQ.move rfl rfl) ?_
    refine Lq.pass rfl rfl rfl ?_
    refine Lq.pass rfl rfl rfl ?_
    refine Lq.op (v := .bool true) rfl rfl rfl (OpQ.pickT rfl rfl rfl) ?_
    refine Lq.op (v := .bool true) rfl rfl rfl (OpQ.move rfl rfl) ?_
    refine Lq.pass rfl rfl rfl ?_
    refine Lq.pass rfl rfl rfl ?_
    refine Lq.op (v := .bool true) rfl rfl rfl (OpQ.pickT rfl rfl rfl) ?_
    refine Lq.nil ?_
    refine Kt.onSub (e' := [(1, .int .i64 W), (3, .pointer (some ⟨p3, 0, none⟩)), (5, .pointer (some ⟨p5, 0, none⟩)), (26, .bool true)]) (Sub.cons rfl (Sub.cons rfl (Sub.cons rfl (Sub.cons rfl Sub.nil)))) ?_
    refine Wk.condT rfl ?_
    refine Wk.seq ?_
    refine Wk.regionQ ?_
    refine Lq.op (v := .int .i64 (-1)) rfl rfl rfl (OpQ.assign rfl rfl) ?_
    refine Lq.nil ?_
    refine Kt.onSub (e' := [(6, .int .i64 (-1))]) (Sub.cons rfl Sub.nil) ?_
    refine Wk.ret (Kt.end1 rfl rfl fun w' hw => ?_)
    -- ret 5: .int .i64 (-1)
    first | exact ⟨ret_i (by unfold countC; rw [if_neg (by first | (simp_all; done) | (unfold inB at *; simp_all; done) | (unfold inB at *; simp_all; omega))]), hw.below⟩ | exact ⟨ret_i (by unfold countC; rw [hmx, if_pos (by unfold inB; simp [hV, h0, h3, h0r, h2r])]; omega), hw.below⟩

set_option maxHeartbeats 400000 in
/-- spec.CountClasses -/
theorem sCount_ok (a : St) (W R : Int) (w : World) (hsa : a.Small) :
    Calls Tryd.prog 27 [vS a, .int .i64 W, .int .i64 R].toArray w fun en w' => en = .returned (.int .i64 (countC a W R)) ∧ Below w.heap.size w w' := by
  refine fnStart (n := 47) (e := [(0, vS a), (1, .int .i64 W), (2, .int .i64 R)]) Tryd.func27 rfl rfl rfl rfl Ends.both ?_
  refine Wk.seq ?_
  refine Wk.region ?_
  refine Ll.box (v := vS a) rfl rfl rfl rfl rfl fun p3 hp3 => ?_
  show Ll _ _ (Own _ _ [(p3, .cells #[.int .i64 a.n, str a.set, str a.rel] 26 (0, 0))]) _ _ ((3, .pointer (some ⟨p3, 0, none⟩)) :: _) _ _ _
  refine Ll.op (v := .int .i64 0) rfl rfl rfl (OpQ.assign rfl rfl) ?_
  refine Ll.nil ?_
  refine Kt.onSub (e' := [(1, .int .i64 W), (2, .int .i64 R), (3, .pointer (some ⟨p3, 0, none⟩))]) (Sub.cons rfl (Sub.cons rfl (Sub.cons rfl Sub.nil))) ?_
  refine Wk.seq ?_
  refine Wk.region ?_
  refine Ll.slice (xs := []) (vs := []) Base.elem31 rfl rfl rfl rfl rfl rfl (by decide) rfl fun p11 hp11 => ?_
  refine Ll.op (v := .slice (some ⟨p11, 0, none⟩) 0 0) rfl rfl rfl (OpQ.assign rfl rfl) ?_
  refine Ll.nil ?_
  refine Kt.onSub (e' := [(1, .int .i64 W), (2, .int .i64 R), (3, .pointer (some ⟨p3, 0, none⟩)), (7, .slice (some ⟨p11, 0, none⟩) 0 0)]) (Sub.cons rfl (Sub.cons rfl (Sub.cons rfl (Sub.cons rfl Sub.nil)))) ?_
  refine Wk.seq ?_
  refine Wk.seq ?_
  refine Wk.regionQ ?_
  refine Lq.op (v := vS a) rfl rfl rfl (OpQ.loadBox (cs := #[.int .i64 a.n, str a.set, str a.rel]) 1 rfl Tryd.isAgg26 rfl rfl Tryd.sizeOf26) ?_
  refine Lq.op (v := .bool (validB a)) rfl rfl rfl (OpQ.call rfl Tryd.call51 rfl Own.stable (fun w1 hw1 => sValid_ok a w1 hsa)) ?_
  refine Lq.op (v := .bool (!(validB a))) rfl rfl rfl (OpQ.not rfl rfl) ?_
  refine Lq.op (v := .bool (!(validB a))) rfl rfl rfl (OpQ.move rfl rfl) ?_
  refine Lq.bool fun b15 hg15 => ?_
  cases b15
  · skip
    replace hg15 := not_false hg15
    refine Lq.op (v := .int .i64 W) rfl rfl rfl (OpQ.move rfl rfl) ?_
    refine Lq.op (v := .bool (inB W 0 2)) rfl rfl rfl (OpQ.call rfl Tryd.call52 rfl Own.stable (fun w1 hw1 => l1In_ok W 0 2 w1 )) ?_
    refine Lq.op (v := .bool (!(inB W 0 2))) rfl rfl rfl (OpQ.not rfl rfl) ?_
    refine Lq.op (v := .bool (!(inB W 0 2))) rfl rfl rfl (OpQ.pickF rfl rfl rfl) ?_
    refine Lq.op (v := .bool (!(inB W 0 2))) rfl rfl rfl (OpQ.move rfl rfl) ?_
    refine Lq.bool fun b20 hg20 => ?_
    cases b20
    · skip
      replace hg20 := not_false hg20
      refine Lq.op (v := .int .i64 R) rfl rfl rfl (OpQ.move rfl rfl) ?_
      refine Lq.op (v := .bool (inB R 0 2)) rfl rfl rfl (OpQ.call rfl Tryd.call52 rfl Own.stable (fun w1 hw1 => l1In_ok R 0 2 w1 )) ?_
      refine Lq.op (v := .bool (!(inB R 0 2))) rfl rfl rfl (OpQ.not rfl rfl) ?_
      refine Lq.op (v := .bool (!(inB R 0 2))) rfl rfl rfl (OpQ.pickF rfl rfl rfl) ?_
      refine Lq.nil ?_
      refine Kt.onSub (e' := [(1, .int .i64 W), (2, .int .i64 R), (3, .pointer (some ⟨p3, 0, none⟩)), (7, .slice (some ⟨p11, 0, none⟩) 0 0), (24, .bool (!(inB R 0 2)))]) (Sub.cons rfl (Sub.cons rfl (Sub.cons rfl (Sub.cons rfl (Sub.cons rfl Sub.nil))))) ?_
      refine Wk.cond (b := !(inB R 0 2)) rfl (fun h24 => ?_) (fun h24 => ?_)
      · skip
        replace h24 := not_true h24
        refine Wk.seq ?_
        refine Wk.regionQ ?_
        refine Lq.op (v := .int .i64 (-1)) rfl rfl rfl (OpQ.assign rfl rfl) ?_
        refine Lq.nil ?_
        refine Kt.onSub (e' := [(6, .int .i64 (-1))]) (Sub.cons rfl Sub.nil) ?_
        refine Wk.ret (Kt.end1 rfl rfl fun w' hw => ?_)
        -- ret 0: .int .i64 (-1)
        exact ⟨ret_i (by unfold countC; rw [if_neg (by first | (simp_all; done) | (unfold inB at *; simp_all; done) | (unfold inB at *; simp_all; omega))]), hw.below⟩
      · skip
        replace h24 := not_false h24
        have hV : validB a = true := by simp_all
        have ha := validB_fine hV
        have hm8 := ha.hi
        have hm1 := ha.lo
        have hW : 0 ≤ W ∧ W ≤ 2 := by unfold inB at *; simp_all
        have hR : 0 ≤ R ∧ R ≤ 2 := by unfold inB at *; simp_all
        obtain ⟨h0, h3⟩ := hW
        obtain ⟨h0r, h2r⟩ := hR
        have h512 := pow8 (size := a.n.toNat) (w := W.toNat) (by omega) (by omega)
        have hcn := cnt_small (n := R.toNat) (by omega)
        refine Wk.skip ?_
        refine Kt.onSub (e' := [(1, .int .i64 W), (2, .int .i64 R), (3, .pointer (some ⟨p3, 0, none⟩)), (7, .slice (some ⟨p11, 0, none⟩) 0 0)]) (Sub.cons rfl (Sub.cons rfl (Sub.cons rfl (Sub.cons rfl Sub.nil)))) ?_
        refine Wk.seq ?_
        refine Wk.region ?_
        refine Ll.callGet (σ := Nat × Nat × List Bkt) (ok := fun s => TabOk s.2.2 []) (v := fun s => .agg #[.slice (some ⟨s.1, 0, none⟩) 997 997, .slice (some ⟨s.2.1, 0, none⟩) 1 1]) (xs := []) (vs := []) (hs' := fun s => [(p11, .cells #[] 3 (0, 0)), (p3, .cells #[.int .i64 a.n, str a.set, str a.rel] 26 (0, 0))] ++ (tabL 114 3 116 s.1 s.2.1 s.2.2 [] ++ [])) rfl rfl rfl rfl Tryd.call66 rfl (fun w1 hw1 => (l5New_ok _ _ _ w1 hw1).mono fun en w' ⟨q, c, h1, h2⟩ => ⟨(q, c, _), h1, TabOk.new, by dsimp only; rw [List.append_nil]; exact h2.perm perm_front⟩) fun ⟨q, c, bs0⟩ hT0 => ?_
        show Ll _ _ (Own _ _ ((p11, .cells #[] 3 (0, 0)) :: (p3, .cells #[.int .i64 a.n, str a.set, str a.rel] 26 (0, 0)) :: (q, .cells ((bs0.map bktV).toArray) 114 (0, 0)) :: (c, .cells #[.int .i64 (((([] : List (List UInt8))).length : Int))] 3 (0, 0)) :: ((blks 116 bs0 ++ [])))) _ _ ((25, .agg #[.slice (some ⟨q, 0, none⟩) 997 997, .slice (some ⟨c, 0, none⟩) 1 1]) :: _) _ _ _
        refine Ll.alloc rfl rfl rfl rfl Tryd.zeroValue71 fun p8 hp8 => ?_
        show Ll _ _ (Own _ _ ((p8, .cells #[.slice none 0 0, .slice none 0 0] 71 (0, 0)) :: (p11, .cells #[] 3 (0, 0)) :: (p3, .cells #[.int .i64 a.n, str a.set, str a.rel] 26 (0, 0)) :: (q, .cells ((bs0.map bktV).toArray) 114 (0, 0)) :: (c, .cells #[.int .i64 (((([] : List (List UInt8))).length : Int))] 3 (0, 0)) :: ((blks 116 bs0 ++ [])))) _ _ ((8, .pointer (some ⟨p8, 0, none⟩)) :: _) _ _ _
        refine Ll.storeBox (cs' := #[.slice (some ⟨q, 0, none⟩) 997 997, .slice (some ⟨c, 0, none⟩) 1 1]) (hs' := ((p8, .cells #[.slice (some ⟨q, 0, none⟩) 997 997, .slice (some ⟨c, 0, none⟩) 1 1] 71 (0, 0)) :: (p11, .cells #[] 3 (0, 0)) :: (p3, .cells #[.int .i64 a.n, str a.set, str a.rel] 26 (0, 0)) :: (q, .cells ((bs0.map bktV).toArray) 114 (0, 0)) :: (c, .cells #[.int .i64 (((([] : List (List UInt8))).length : Int))] 3 (0, 0)) :: ((blks 116 bs0 ++ [])))) 0 rfl rfl rfl rfl rfl (by kernel_rfl : _ = some Tryd.t71) rfl rfl rfl rfl rfl ?_
        refine Ll.nil ?_
        refine Kt.onSub (e' := [(1, .int .i64 W), (2, .int .i64 R), (3, .pointer (some ⟨p3, 0, none⟩)), (7, .slice (some ⟨p11, 0, none⟩) 0 0), (8, .pointer (some ⟨p8, 0, none⟩))]) (Sub.cons rfl (Sub.cons rfl (Sub.cons rfl (Sub.cons rfl (Sub.cons rfl Sub.nil))))) ?_
        refine Wk.seq ?_
        refine Wk.seq ?_
        refine Wk.regionQ ?_
        refine Lq.op (v := .int .i64 0) rfl rfl rfl (OpQ.assign rfl rfl) ?_
        refine Lq.nil ?_
        refine Kt.onSub (e' := [(1, .int .i64 W), (2, .int .i64 R), (3, .pointer (some ⟨p3, 0, none⟩)), (7, .slice (some ⟨p11, 0, none⟩) 0 0), (8, .pointer (some ⟨p8, 0, none⟩)), (9, .int .i64 0)]) (Sub.cons rfl (Sub.cons rfl (Sub.cons rfl (Sub.cons rfl (Sub.cons rfl (Sub.cons rfl Sub.nil)))))) ?_
        refine Wk.block ?_
        refine Wk.loop (σ := Nat × List Bkt × List (List UInt8) × Nat × Nat × Array Value × List Int) (fun ⟨k, bs1, T1, g, cap, cur, S⟩ => k ≤ a.n.toNat ^ W.toNat ∧ TabTo ([] : List (List UInt8)) bs1 T1 (k * cnt R.toNat) ∧ CountL T1 R.toNat a W.toNat k S ∧ cur.size = cap * 1 ∧ S.length ≤ cap ∧ cur.toList.take S.length = ints S) (fun ⟨k, bs1, T1, g, cap, cur, S⟩ => [(1, .int .i64 W), (2, .int .i64 R), (3, .pointer (some ⟨p3, 0, none⟩)), (7, .slice (some ⟨g, 0, none⟩) S.length cap), (8, .pointer (some ⟨p8, 0, none⟩)), (9, .int .i64 ((k : Int)))]) (fun ⟨k, bs1, T1, g, cap, cur, S⟩ => Own w.heap.size w ((p8, .cells #[.slice (some ⟨q, 0, none⟩) 997 997, .slice (some ⟨c, 0, none⟩) 1 1] 71 (0, 0)) :: (g, .cells cur 3 (0, 0)) :: (p3, .cells #[.int .i64 a.n, str a.set, str a.rel] 26 (0, 0)) :: (q, .cells ((bs1.map bktV).toArray) 114 (0, 0)) :: (c, .cells #[.int .i64 ((T1.length : Int))] 3 (0, 0)) :: ((blks 116 bs1 ++ [])))) (fun ⟨k, bs1, T1, g, cap, cur, S⟩ => (a.n.toNat ^ W.toNat) - k) ((0, bs0, [], p11, 0, #[], [])) ⟨by omega, ⟨hT0, List.prefix_refl _, by omega⟩, CountL.zero, rfl, Nat.le_refl 0, rfl⟩ (Sub.cons rfl (Sub.cons rfl (Sub.cons rfl (Sub.cons rfl (Sub.cons rfl (Sub.cons rfl Sub.nil)))))) (fun _ h => h) ?_
        rintro ⟨k, bs1, T1, g, cap, cur, S⟩ ⟨hk, hTT, hC, hcg, hlg, htg⟩
        dsimp only
        have hCl := hC.len
        have hTl := hTT.len
        simp only [List.length_nil] at hTl
        have hk8 : k * cnt R.toNat ≤ 512 * 585 := Nat.mul_le_mul (by omega) hcn
        refine Wk.seq ?_
        refine Wk.seq ?_
        refine Wk.regionQ ?_
        refine Lq.op (v := .int .i64 ((k : Int))) rfl rfl rfl (OpQ.move rfl rfl) ?_
        refine Lq.op (v := vS a) rfl rfl rfl (OpQ.loadBox (cs := #[.int .i64 a.n, str a.set, str a.rel]) 2 rfl Tryd.isAgg26 rfl rfl Tryd.sizeOf26) ?_
        refine Lq.op (v := .int .i64 W) rfl rfl rfl (OpQ.move rfl rfl) ?_
        refine Lq.op (v := .int .i64 (((a.n.toNat ^ W.toNat : Nat) : Int))) rfl rfl rfl (OpQ.call rfl Tryd.call53 rfl Own.stable (fun w1 hw1 => l3Power_ok a W w1 ha h0 (by omega))) ?_
        refine Lq.op (v := .bool (decide (((k : Int)) < (((a.n.toNat ^ W.toNat : Nat) : Int))))) rfl rfl rfl (OpQ.lss rfl rfl rfl) ?_
        refine Lq.nil ?_
        refine Kt.onSub (e' := [(1, .int .i64 W), (2, .int .i64 R), (3, .pointer (some ⟨p3, 0, none⟩)), (7, .slice (some ⟨g, 0, none⟩) S.length cap), (8, .pointer (some ⟨p8, 0, none⟩)), (9, .int .i64 ((k : Int))), (30, .bool (decide (((k : Int)) < (((a.n.toNat ^ W.toNat : Nat) : Int)))))]) (Sub.cons rfl (Sub.cons rfl (Sub.cons rfl (Sub.cons rfl (Sub.cons rfl (Sub.cons rfl (Sub.cons rfl Sub.nil))))))) ?_
        refine Wk.cond (b := decide (((k : Int)) < (((a.n.toNat ^ W.toNat : Nat) : Int)))) rfl (fun h30 => ?_) (fun h30 => ?_)
        · skip
          replace h30 := of_decide_eq_true h30
          have hkp : k < a.n.toNat ^ W.toNat := by omega
          refine Wk.skip ?_
          refine Kt.onSub (e' := [(1, .int .i64 W), (2, .int .i64 R), (3, .pointer (some ⟨p3, 0, none⟩)), (7, .slice (some ⟨g, 0, none⟩) S.length cap), (8, .pointer (some ⟨p8, 0, none⟩)), (9, .int .i64 ((k : Int)))]) (Sub.cons rfl (Sub.cons rfl (Sub.cons rfl (Sub.cons rfl (Sub.cons rfl (Sub.cons rfl Sub.nil)))))) ?_
          refine Wk.seq ?_
          refine Wk.block ?_
          refine Wk.seq ?_
          refine Wk.region ?_
          refine Ll.op (v := vS a) rfl rfl rfl (OpQ.loadBox (cs := #[.int .i64 a.n, str a.set, str a.rel]) 2 rfl Tryd.isAgg26 rfl rfl Tryd.sizeOf26) ?_
          refine Ll.op (v := .int .i64 ((k : Int))) rfl rfl rfl (OpQ.move rfl rfl) ?_
          refine Ll.op (v := .int .i64 W) rfl rfl rfl (OpQ.move rfl rfl) ?_
          refine Ll.op (v := .agg ((ints (pArr a.n.toNat W.toNat ((k : Int)).toNat)).toArray)) rfl rfl rfl (OpQ.call rfl Tryd.call54 rfl Own.stable (fun w1 hw1 => l3Point_ok a ((k : Int)) W w1 ha (by omega) (by omega) h0 (by omega))) ?_
          refine Ll.alloc rfl rfl rfl rfl Tryd.zeroValue60 fun p10 hp10 => ?_
          show Ll _ _ (Own _ _ ((p10, .cells #[.int .i64 0, .int .i64 0, .int .i64 0, .int .i64 0] 60 (0, 0)) :: (p8, .cells #[.slice (some ⟨q, 0, none⟩) 997 997, .slice (some ⟨c, 0, none⟩) 1 1] 71 (0, 0)) :: (g, .cells cur 3 (0, 0)) :: (p3, .cells #[.int .i64 a.n, str a.set, str a.rel] 26 (0, 0)) :: (q, .cells ((bs1.map bktV).toArray) 114 (0, 0)) :: (c, .cells #[.int .i64 ((T1.length : Int))] 3 (0, 0)) :: ((blks 116 bs1 ++ [])))) _ _ ((10, .pointer (some ⟨p10, 0, none⟩)) :: _) _ _ _
          refine Ll.storeBox (cs' := (ints (pArr a.n.toNat W.toNat ((k : Int)).toNat)).toArray) (hs' := ((p10, .cells ((ints (pArr a.n.toNat W.toNat ((k : Int)).toNat)).toArray) 60 (0, 0)) :: (p8, .cells #[.slice (some ⟨q, 0, none⟩) 997 997, .slice (some ⟨c, 0, none⟩) 1 1] 71 (0, 0)) :: (g, .cells cur 3 (0, 0)) :: (p3, .cells #[.int .i64 a.n, str a.set, str a.rel] 26 (0, 0)) :: (q, .cells ((bs1.map bktV).toArray) 114 (0, 0)) :: (c, .cells #[.int .i64 ((T1.length : Int))] 3 (0, 0)) :: ((blks 116 bs1 ++ [])))) 0 rfl rfl rfl rfl rfl (by kernel_rfl : _ = some Tryd.t60) (by rw [show (ints (pArr a.n.toNat W.toNat ((k : Int)).toNat)).toArray.size = 4 from by simp [pArr]; omega]; rfl) rfl (by rw [show (ints (pArr a.n.toNat W.toNat ((k : Int)).toNat)).toArray.size = 4 from by simp [pArr]; omega]; rfl) (by simp [ints, Value.oneCell']) rfl ?_
          refine Ll.nil ?_
          refine Kt.onSub (e' := [(1, .int .i64 W), (2, .int .i64 R), (3, .pointer (some ⟨p3, 0, none⟩)), (7, .slice (some ⟨g, 0, none⟩) S.length cap), (8, .pointer (some ⟨p8, 0, none⟩)), (9, .int .i64 ((k : Int))), (10, .pointer (some ⟨p10, 0, none⟩))]) (Sub.cons rfl (Sub.cons rfl (Sub.cons rfl (Sub.cons rfl (Sub.cons rfl (Sub.cons rfl (Sub.cons rfl Sub.nil))))))) ?_
          refine Wk.regionS (S := Own w.heap.size w [(p10, .cells ((ints (pArr a.n.toNat W.toNat ((k : Int)).toNat)).toArray) 60 (0, 0)), (p8, .cells #[.slice (some ⟨q, 0, none⟩) 997 997, .slice (some ⟨c, 0, none⟩) 1 1] 71 (0, 0)), (p3, .cells #[.int .i64 a.n, str a.set, str a.rel] 26 (0, 0))]) [(0, true), (1, true), (2, true), (3, true), (4, true), (5, true), (6, false), (7, false), (8, true)] Base.mixed (fun _ h => h.drawn) (by kernel_rfl) ?_
          refine Ld.take (v := .slice (some ⟨g, 0, none⟩) S.length cap) rfl rfl rfl rfl rfl (OpQ.move rfl rfl) (fun _ h => h.pick [0, 1, 3] rfl (by decide)) ?_
          refine Ld.take (v := .agg #[.slice (some ⟨q, 0, none⟩) 997 997, .slice (some ⟨c, 0, none⟩) 1 1]) rfl rfl rfl rfl rfl (OpQ.loadBox (cs := #[.slice (some ⟨q, 0, none⟩) 997 997, .slice (some ⟨c, 0, none⟩) 1 1]) 1 rfl Tryd.isAgg71 rfl rfl Tryd.sizeOf71) (fun _ h => h.pick [0, 1, 3] rfl (by decide)) ?_
          refine Ld.take (v := vS a) rfl rfl rfl rfl rfl (OpQ.loadBox (cs := #[.int .i64 a.n, str a.set, str a.rel]) 2 rfl Tryd.isAgg26 rfl rfl Tryd.sizeOf26) (fun _ h => h.pick [0, 1, 3] rfl (by decide)) ?_
          refine Ld.take (v := .int .i64 W) rfl rfl rfl rfl rfl (OpQ.move rfl rfl) (fun _ h => h.pick [0, 1, 3] rfl (by decide)) ?_
          refine Ld.take (v := .slice (some ⟨p10, 0, none⟩) W.toNat 4) rfl rfl rfl rfl rfl (OpQ.sliceArr (i := W) rfl Tryd.runUnderlying60 Tryd.sizeOf3 rfl rfl (by omega) (by omega) (by decide)) (fun _ h => h.pick [0, 1, 3] rfl (by decide)) ?_
          refine Ld.take (v := .int .i64 R) rfl rfl rfl rfl rfl (OpQ.move rfl rfl) (fun _ h => h.pick [0, 1, 3] rfl (by decide)) ?_
          refine Ld.loud rfl ?_
          refine Ll.callTab (S := 114) (I := 3) (E := 116) (q := q) (c := c) (bs := bs1) (T := T1) (hs := []) (ok := fun m bs' T' => TabTo T1 bs' T' (cnt R.toNat) ∧ Means T' R.toNat a (pointL a.n.toNat W.toNat k) m) (xs := [.tmp 38, .tmp 39, .tmp 41, .tmp 42]) (vs := [.agg #[.slice (some ⟨q, 0, none⟩) 997 997, .slice (some ⟨c, 0, none⟩) 1 1], vS a, .slice (some ⟨p10, 0, none⟩) W.toNat 4, .int .i64 R]) [(p10, .cells ((ints (pArr a.n.toNat W.toNat ((k : Int)).toNat)).toArray) 60 (0, 0)), (p8, .cells #[.slice (some ⟨q, 0, none⟩) 997 997, .slice (some ⟨c, 0, none⟩) 1 1] 71 (0, 0)), (g, .cells cur 3 (0, 0)), (p3, .cells #[.int .i64 a.n, str a.set, str a.rel] 26 (0, 0))] rfl rfl rfl rfl Tryd.call68 rfl (fun w1 hw1 => type_at R h0r w.heap.size w ([(p10, .cells ((ints (pArr a.n.toNat W.toNat ((k : Int)).toNat)).toArray) 60 (0, 0)), (p8, .cells #[.slice (some ⟨q, 0, none⟩) 997 997, .slice (some ⟨c, 0, none⟩) 1 1] 71 (0, 0)), (g, .cells cur 3 (0, 0)), (p3, .cells #[.int .i64 a.n, str a.set, str a.rel] 26 (0, 0))] ++ []) q c bs1 T1 a (.slice (some ⟨p10, 0, none⟩) W.toNat 4) (pointL a.n.toNat W.toNat k) w1 hTT.ok ha (fun w2 hw2 => (Own.rowPt hw2 (i := 0) (k := k) rfl (by omega))) (point_els ha _ _) (by rw [pointL_length]; omega) (by omega) hw1) fun m bs_ T_ hKm => ?_
          show Ll _ _ (Own _ _ ((p10, .cells ((ints (pArr a.n.toNat W.toNat ((k : Int)).toNat)).toArray) 60 (0, 0)) :: (p8, .cells #[.slice (some ⟨q, 0, none⟩) 997 997, .slice (some ⟨c, 0, none⟩) 1 1] 71 (0, 0)) :: (g, .cells cur 3 (0, 0)) :: (p3, .cells #[.int .i64 a.n, str a.set, str a.rel] 26 (0, 0)) :: (q, .cells ((bs_.map bktV).toArray) 114 (0, 0)) :: (c, .cells #[.int .i64 ((T_.length : Int))] 3 (0, 0)) :: ((blks 116 bs_ ++ [])))) _ _ ((43, .int .i64 ((m : Int))) :: _) _ _ _
          refine Ll.nil (Ld.joint (fun _ h => h.pick [0, 1, 3] rfl (by decide)) ?_)
          refine Ld.loud rfl ?_
          refine Ll.callGet (σ := Nat × Nat × Array Value) (ok := fun (g, c', u) => u.size = c' * 1 ∧ (insS S ((m : Int))).length ≤ c' ∧ u.toList.take (insS S ((m : Int))).length = ints (insS S ((m : Int)))) (v := fun (g, c', u) => .slice (some ⟨g, 0, none⟩) (insS S ((m : Int))).length c') (xs := [.tmp 37, .tmp 43]) (vs := [.slice (some ⟨g, 0, none⟩) S.length cap, .int .i64 ((m : Int))]) (hs' := fun (g, c', u) => ((p10, .cells ((ints (pArr a.n.toNat W.toNat ((k : Int)).toNat)).toArray) 60 (0, 0)) :: (p8, .cells #[.slice (some ⟨q, 0, none⟩) 997 997, .slice (some ⟨c, 0, none⟩) 1 1] 71 (0, 0)) :: (g, .cells u 3 (0, 0)) :: (p3, .cells #[.int .i64 a.n, str a.set, str a.rel] 26 (0, 0)) :: (q, .cells ((bs_.map bktV).toArray) 114 (0, 0)) :: (c, .cells #[.int .i64 ((T_.length : Int))] 3 (0, 0)) :: ((blks 116 bs_ ++ [])))) rfl rfl rfl rfl Tryd.call67 rfl (fun w1 hw1 => (l5Insert_ok _ _ _ g cap cur S ((m : Int)) w1 hcg hlg htg (by omega) (hw1.perm (perm_back [(p10, .cells ((ints (pArr a.n.toNat W.toNat ((k : Int)).toNat)).toArray) 60 (0, 0)), (p8, .cells #[.slice (some ⟨q, 0, none⟩) 997 997, .slice (some ⟨c, 0, none⟩) 1 1] 71 (0, 0))] [_] _))).mono fun en w' ⟨g', cap', cur', h1, h2, h3⟩ => ⟨(g', cap', cur'), h1, h2, h3.perm (perm_back [_] [(p10, .cells ((ints (pArr a.n.toNat W.toNat ((k : Int)).toNat)).toArray) 60 (0, 0)), (p8, .cells #[.slice (some ⟨q, 0, none⟩) 997 997, .slice (some ⟨c, 0, none⟩) 1 1] 71 (0, 0))] _)⟩) fun ⟨g_, cap_, cur_⟩ ⟨hcg_, hlg_, htg_⟩ => ?_
          show Ll _ _ (Own _ _ ((p10, .cells ((ints (pArr a.n.toNat W.toNat ((k : Int)).toNat)).toArray) 60 (0, 0)) :: (p8, .cells #[.slice (some ⟨q, 0, none⟩) 997 997, .slice (some ⟨c, 0, none⟩) 1 1] 71 (0, 0)) :: (g_, .cells cur_ 3 (0, 0)) :: (p3, .cells #[.int .i64 a.n, str a.set, str a.rel] 26 (0, 0)) :: (q, .cells ((bs_.map bktV).toArray) 114 (0, 0)) :: (c, .cells #[.int .i64 ((T_.length : Int))] 3 (0, 0)) :: ((blks 116 bs_ ++ [])))) _ _ ((44, .slice (some ⟨g_, 0, none⟩) ((insS S ((m : Int))).length) cap_) :: _) _ _ _
          refine Ll.nil (Ld.joint (fun _ h => h.pick [0, 1, 3] rfl (by decide)) ?_)
          refine Ld.take (v := .slice (some ⟨g_, 0, none⟩) ((insS S ((m : Int))).length) cap_) rfl rfl rfl rfl rfl (OpQ.assign rfl rfl) (fun _ h => h.pick [0, 1, 3] rfl (by decide)) ?_
          refine Ld.nil ?_
          refine Kt.onSub (e' := [(1, .int .i64 W), (2, .int .i64 R), (3, .pointer (some ⟨p3, 0, none⟩)), (7, .slice (some ⟨g_, 0, none⟩) ((insS S ((m : Int))).length) cap_), (8, .pointer (some ⟨p8, 0, none⟩)), (9, .int .i64 ((k : Int)))]) (Sub.cons rfl (Sub.cons rfl (Sub.cons rfl (Sub.cons rfl (Sub.cons rfl (Sub.cons rfl Sub.nil)))))) ?_
          refine Wk.regionQ ?_
          refine Lq.op (v := .int .i64 ((k : Int))) rfl rfl rfl (OpQ.move rfl rfl) ?_
          refine Lq.op (v := .int .i64 (((k : Int)) + (1 : Int))) rfl rfl rfl (OpQ.add rfl rfl rfl (by omega) (by omega)) ?_
          refine Lq.op (v := .int .i64 (((k : Int)) + (1 : Int))) rfl rfl rfl (OpQ.assign rfl rfl) ?_
          refine Lq.nil ?_
          refine Kt.again ((k + 1, bs_, T_, g_, cap_, cur_, (insS S ((m : Int))))) ⟨by omega, hTT.trans hKm.1 (by rw [Nat.add_mul, Nat.one_mul]; exact Nat.le_refl _), hC.step hKm.1.pre hKm.1.ok.nodup hKm.2, hcg_, hlg_, htg_⟩ (by omega) (Sub.cons rfl (Sub.cons rfl (Sub.cons rfl (Sub.cons rfl (Sub.cons rfl (Sub.cons rfl Sub.nil)))))) (fun _ h => h.tail)
        · skip
          replace h30 := of_decide_eq_false h30
          refine Wk.exit rfl ?_
          refine Kt.onSub (e' := [(7, .slice (some ⟨g, 0, none⟩) S.length cap)]) (Sub.cons rfl Sub.nil) ?_
          refine Wk.seq ?_
          refine Wk.regionQ ?_
          refine Lq.op (v := .slice (some ⟨g, 0, none⟩) S.length cap) rfl rfl rfl (OpQ.move rfl rfl) ?_
          refine Lq.op (v := .int .i64 ((S.length : Int))) rfl rfl rfl (OpQ.lenS rfl Tryd.runUnderlying31 rfl) ?_
          refine Lq.op (v := .int .i64 ((S.length : Int))) rfl rfl rfl (OpQ.assign rfl rfl) ?_
          refine Lq.nil ?_
          refine Kt.onSub (e' := [(6, .int .i64 ((S.length : Int)))]) (Sub.cons rfl Sub.nil) ?_
          refine Wk.ret (Kt.end1 rfl rfl fun w' hw => ?_)
          -- ret 1: .int .i64 ((S.length : Int))
          first | exact ⟨ret_i (by unfold countC; rw [if_neg (by first | (simp_all; done) | (unfold inB at *; simp_all; done) | (unfold inB at *; simp_all; omega))]), hw.below⟩ | exact ⟨ret_i (by unfold countC; rw [if_pos (by unfold inB; simp [hV, h0, h3, h0r, h2r]), ← show k = a.n.toNat ^ W.toNat from by omega, hC.cls]), hw.below⟩
    · skip
      replace hg20 := not_true hg20
      refine Lq.pass rfl rfl rfl ?_
      refine Lq.pass rfl rfl rfl ?_
      refine Lq.pass rfl rfl rfl ?_
      refine Lq.op (v := .bool true) rfl rfl rfl (OpQ.pickT rfl rfl rfl) ?_
      refine Lq.nil ?_
      refine Kt.onSub (e' := [(1, .int .i64 W), (2, .int .i64 R), (3, .pointer (some ⟨p3, 0, none⟩)), (7, .slice (some ⟨p11, 0, none⟩) 0 0), (24, .bool true)]) (Sub.cons rfl (Sub.cons rfl (Sub.cons rfl (Sub.cons rfl (Sub.cons rfl Sub.nil))))) ?_
      refine Wk.condT rfl ?_
      refine Wk.seq ?_
      refine Wk.regionQ ?_
      refine Lq.op (v := .int .i64 (-1)) rfl rfl rfl (OpQ.assign rfl rfl) ?_
      refine Lq.nil ?_
      refine Kt.onSub (e' := [(6, .int .i64 (-1))]) (Sub.cons rfl Sub.nil) ?_
      refine Wk.ret (Kt.end1 rfl rfl fun w' hw => ?_)
      -- ret 2: .int .i64 (-1)
      first | exact ⟨ret_i (by unfold countC; rw [if_neg (by first | (simp_all; done) | (unfold inB at *; simp_all; done) | (unfold inB at *; simp_all; omega))]), hw.below⟩ | exact ⟨ret_i (by unfold countC; rw [if_pos (by unfold inB; simp [hV, h0, h3, h0r, h2r]), ← show k = a.n.toNat ^ W.toNat from by omega, hC.cls]), hw.below⟩
  · skip
    replace hg15 := not_true hg15
    refine Lq.pass rfl rfl rfl ?_
    refine Lq.pass rfl rfl rfl ?_
    refine Lq.pass rfl rfl rfl ?_
    refine Lq.op (v := .bool true) rfl rfl rfl (OpQ.pickT rfl rfl rfl) ?_
    refine Lq.op (v := .bool true) rfl rfl rfl (OpQ.move rfl rfl) ?_
    refine Lq.pass rfl rfl rfl ?_
    refine Lq.pass rfl rfl rfl ?_
    refine Lq.pass rfl rfl rfl ?_
    refine Lq.op (v := .bool true) rfl rfl rfl (OpQ.pickT rfl rfl rfl) ?_
    refine Lq.nil ?_
    refine Kt.onSub (e' := [(1, .int .i64 W), (2, .int .i64 R), (3, .pointer (some ⟨p3, 0, none⟩)), (7, .slice (some ⟨p11, 0, none⟩) 0 0), (24, .bool true)]) (Sub.cons rfl (Sub.cons rfl (Sub.cons rfl (Sub.cons rfl (Sub.cons rfl Sub.nil))))) ?_
    refine Wk.condT rfl ?_
    refine Wk.seq ?_
    refine Wk.regionQ ?_
    refine Lq.op (v := .int .i64 (-1)) rfl rfl rfl (OpQ.assign rfl rfl) ?_
    refine Lq.nil ?_
    refine Kt.onSub (e' := [(6, .int .i64 (-1))]) (Sub.cons rfl Sub.nil) ?_
    refine Wk.ret (Kt.end1 rfl rfl fun w' hw => ?_)
    -- ret 3: .int .i64 (-1)
    first | exact ⟨ret_i (by unfold countC; rw [if_neg (by first | (simp_all; done) | (unfold inB at *; simp_all; done) | (unfold inB at *; simp_all; omega))]), hw.below⟩ | exact ⟨ret_i (by unfold countC; rw [if_pos (by unfold inB; simp [hV, h0, h3, h0r, h2r]), ← show k = a.n.toNat ^ W.toNat from by omega, hC.cls]), hw.below⟩

set_option maxHeartbeats 400000 in
/-- laws.FnExactCountClasses -/
theorem lawCount (a : St) (W R : Int) (w : World) (h1a : a.set.length ≤ 9223372036854775807) (h2a : a.rel.length ≤ 9223372036854775807) :
    Calls Tryd.prog 7 [vS a, .int .i64 W, .int .i64 R].toArray w fun en w' => en = .returned (.bool true) ∧ Below w.heap.size w w' := by
  refine fnStart (n := 28) (e := [(0, vS a), (1, .int .i64 W), (2, .int .i64 R)]) Tryd.func7 rfl rfl rfl rfl Ends.both ?_
  refine Wk.seq ?_
  refine Wk.region ?_
  refine Ll.box (v := vS a) rfl rfl rfl rfl rfl fun p3 hp3 => ?_
  show Ll _ _ (Own _ _ [(p3, .cells #[.int .i64 a.n, str a.set, str a.rel] 23 (0, 0))]) _ _ ((3, .pointer (some ⟨p3, 0, none⟩)) :: _) _ _ _
  refine Ll.op (v := .bool false) rfl rfl rfl (OpQ.assign rfl rfl) ?_
  refine Ll.nil ?_
  refine Kt.onSub (e' := [(1, .int .i64 W), (2, .int .i64 R), (3, .pointer (some ⟨p3, 0, none⟩))]) (Sub.cons rfl (Sub.cons rfl (Sub.cons rfl Sub.nil))) ?_
  refine Wk.seq ?_
  refine Wk.regionQ ?_
  refine Lq.op (v := .int .i64 1048576) rfl rfl rfl (OpQ.assign rfl rfl) ?_
  refine Lq.nil ?_
  refine Kt.onSub (e' := [(1, .int .i64 W), (2, .int .i64 R), (3, .pointer (some ⟨p3, 0, none⟩)), (7, .int .i64 1048576)]) (Sub.cons rfl (Sub.cons rfl (Sub.cons rfl (Sub.cons rfl Sub.nil)))) ?_
  refine Wk.seq ?_
  refine Wk.regionQ ?_
  refine Lq.op (v := vS a) rfl rfl rfl (OpQ.loadBox (cs := #[.int .i64 a.n, str a.set, str a.rel]) 0 rfl Tryd.isAgg23 rfl rfl Tryd.sizeOf23) ?_
  refine Lq.op (v := .int .i64 1048576) rfl rfl rfl (OpQ.move rfl rfl) ?_
  refine Lq.op (v := .int .i64 (szB a 1048576)) rfl rfl rfl (OpQ.call rfl Tryd.call15 rfl Own.stable (fun w1 hw1 => sz_ok a 1048576 w1 (by omega) (by omega) h1a h2a)) ?_
  refine Lq.op (v := .int .i64 (szB a 1048576)) rfl rfl rfl (OpQ.assign rfl rfl) ?_
  refine Lq.nil ?_
  refine Kt.onSub (e' := [(1, .int .i64 W), (2, .int .i64 R), (3, .pointer (some ⟨p3, 0, none⟩)), (7, .int .i64 (szB a 1048576))]) (Sub.cons rfl (Sub.cons rfl (Sub.cons rfl (Sub.cons rfl Sub.nil)))) ?_
  refine Wk.seq ?_
  refine Wk.seq ?_
  refine Wk.regionQ ?_
  refine Lq.op (v := .int .i64 (szB a 1048576)) rfl rfl rfl (OpQ.move rfl rfl) ?_
  refine Lq.op (v := .bool (decide ((szB a 1048576) < (0 : Int)))) rfl rfl rfl (OpQ.lss rfl rfl rfl) ?_
  refine Lq.nil ?_
  refine Kt.onSub (e' := [(1, .int .i64 W), (2, .int .i64 R), (3, .pointer (some ⟨p3, 0, none⟩)), (14, .bool (decide ((szB a 1048576) < (0 : Int))))]) (Sub.cons rfl (Sub.cons rfl (Sub.cons rfl (Sub.cons rfl Sub.nil)))) ?_
  refine Wk.cond (b := decide ((szB a 1048576) < (0 : Int))) rfl (fun h14 => ?_) (fun h14 => ?_)
  · skip
    replace h14 := of_decide_eq_true h14
    refine Wk.seq ?_
    refine Wk.regionQ ?_
    refine Lq.op (v := .bool true) rfl rfl rfl (OpQ.assign rfl rfl) ?_
    refine Lq.nil ?_
    refine Kt.onSub (e' := [(6, .bool true)]) (Sub.cons rfl Sub.nil) ?_
    refine Wk.ret (Kt.end1 rfl rfl fun w' hw => ?_)
    -- ret 0: .bool true
    exact ⟨ret_b (by first | rfl | (simp_all; done) | (simp_all; omega)), hw.below⟩
  · skip
    replace h14 := of_decide_eq_false h14
    obtain ⟨hsa, hz0a, hz1a⟩ := szB_small (by omega) h14
    refine Wk.skip ?_
    refine Kt.onSub (e' := [(1, .int .i64 W), (2, .int .i64 R), (3, .pointer (some ⟨p3, 0, none⟩))]) (Sub.cons rfl (Sub.cons rfl (Sub.cons rfl Sub.nil))) ?_
    refine Wk.seq ?_
    refine Wk.regionQ ?_
    refine Lq.op (v := vS a) rfl rfl rfl (OpQ.loadBox (cs := #[.int .i64 a.n, str a.set, str a.rel]) 0 rfl Tryd.isAgg23 rfl rfl Tryd.sizeOf23) ?_
    refine Lq.op (v := vS a) rfl rfl rfl (OpQ.call rfl Tryd.call17 rfl Own.stable (fun w1 hw1 => toSt_ok a w1 )) ?_
    refine Lq.op (v := .int .i64 W) rfl rfl rfl (OpQ.move rfl rfl) ?_
    refine Lq.op (v := .int .i64 R) rfl rfl rfl (OpQ.move rfl rfl) ?_
    refine Lq.op (v := .int .i64 (countC a W R)) rfl rfl rfl (OpQ.call rfl Tryd.call27 rfl Own.stable (fun w1 hw1 => sCount_ok a W R w1 hsa)) ?_
    refine Lq.op (v := .int .i64 (countC a W R)) rfl rfl rfl (OpQ.assign rfl rfl) ?_
    refine Lq.nil ?_
    refine Kt.onSub (e' := [(1, .int .i64 W), (2, .int .i64 R), (3, .pointer (some ⟨p3, 0, none⟩)), (8, .int .i64 (countC a W R))]) (Sub.cons rfl (Sub.cons rfl (Sub.cons rfl (Sub.cons rfl Sub.nil)))) ?_
    refine Wk.seq ?_
    refine Wk.regionQ ?_
    refine Lq.op (v := vS a) rfl rfl rfl (OpQ.loadBox (cs := #[.int .i64 a.n, str a.set, str a.rel]) 0 rfl Tryd.isAgg23 rfl rfl Tryd.sizeOf23) ?_
    refine Lq.op (v := vS a) rfl rfl rfl (OpQ.call rfl Tryd.call17 rfl Own.stable (fun w1 hw1 => toSt_ok a w1 )) ?_
    refine Lq.op (v := .int .i64 W) rfl rfl rfl (OpQ.move rfl rfl) ?_
    refine Lq.op (v := .int .i64 R) rfl rfl rfl (OpQ.move rfl rfl) ?_
    refine Lq.op (v := .int .i64 (countC a W R)) rfl rfl rfl (OpQ.call rfl Tryd.call28 rfl Own.stable (fun w1 hw1 => iCount_ok a W R w1 hsa)) ?_
    refine Lq.op (v := .int .i64 (countC a W R)) rfl rfl rfl (OpQ.assign rfl rfl) ?_
    refine Lq.nil ?_
    refine Kt.onSub (e' := [(8, .int .i64 (countC a W R)), (9, .int .i64 (countC a W R))]) (Sub.cons rfl (Sub.cons rfl Sub.nil)) ?_
    refine Wk.seq ?_
    refine Wk.seq ?_
    refine Wk.regionQ ?_
    refine Lq.op (v := .int .i64 (countC a W R)) rfl rfl rfl (OpQ.move rfl rfl) ?_
    refine Lq.op (v := .int .i64 (countC a W R)) rfl rfl rfl (OpQ.move rfl rfl) ?_
    refine Lq.op (v := .bool (!(decide ((countC a W R) = (countC a W R))))) rfl rfl rfl (OpQ.neq rfl rfl rfl) ?_
    refine Lq.nil ?_
    refine Kt.onSub (e' := [(27, .bool (!(decide ((countC a W R) = (countC a W R)))))]) (Sub.cons rfl Sub.nil) ?_
    refine Wk.cond (b := !(decide ((countC a W R) = (countC a W R)))) rfl (fun h27 => ?_) (fun h27 => ?_)
    · skip
      replace h27 := not_true h27
      replace h27 := of_decide_eq_false h27
      exact absurd rfl h27
    · skip
      replace h27 := not_false h27
      replace h27 := of_decide_eq_true h27
      refine Wk.skip ?_
      refine Kt.onSub (e' := []) Sub.nil ?_
      refine Wk.seq ?_
      refine Wk.regionQ ?_
      refine Lq.op (v := .bool true) rfl rfl rfl (OpQ.assign rfl rfl) ?_
      refine Lq.nil ?_
      refine Kt.onSub (e' := [(6, .bool true)]) (Sub.cons rfl Sub.nil) ?_
      refine Wk.ret (Kt.end1 rfl rfl fun w' hw => ?_)
      -- ret 1: .bool true
      exact ⟨ret_b (by first | rfl | (simp_all; done) | (simp_all; omega)), hw.below⟩

end Go.Proofs.YtcanofailfbllaaDoor
