/-
  The bits of a structure, by walks.
-/
import Derived.Test.YtcanofailfbllaaDoorBase
namespace Go.Proofs.YtcanofailfbllaaDoor
open Go.RowKit Go.Wk
set_option linter.unusedSimpArgs false

set_option maxHeartbeats 400000 in
/-- spec.l1In -/
theorem l1In_ok (n lo hi : Int) (w : World) :
    Calls Tryd.prog 52 [.int .i64 n, .int .i64 lo, .int .i64 hi].toArray w fun en w' => en = .returned (.bool (inB n lo hi)) ∧ Below w.heap.size w w' := by
  refine fnStart (n := 15) (e := [(0, .int .i64 n), (1, .int .i64 lo), (2, .int .i64 hi)]) Tryd.func52 rfl rfl rfl rfl Ends.both ?_
  refine Wk.seq ?_
  refine Wk.regionQ ?_
  refine Lq.op (v := .bool false) rfl rfl rfl (OpQ.assign rfl rfl) ?_
  refine Lq.nil ?_
  refine Kt.onSub (e' := [(0, .int .i64 n), (1, .int .i64 lo), (2, .int .i64 hi)]) (Sub.cons rfl (Sub.cons rfl (Sub.cons rfl Sub.nil))) ?_
  refine Wk.seq ?_
  refine Wk.regionQ ?_
  refine Lq.op (v := .int .i64 n) rfl rfl rfl (OpQ.move rfl rfl) ?_
  refine Lq.op (v := .int .i64 lo) rfl rfl rfl (OpQ.move rfl rfl) ?_
  refine Lq.op (v := .bool (decide (lo ≤ n))) rfl rfl rfl (OpQ.geq rfl rfl rfl) ?_
  refine Lq.op (v := .bool (decide (lo ≤ n))) rfl rfl rfl (OpQ.move rfl rfl) ?_
  refine Lq.bool fun b10 hg10 => ?_
  cases b10
  · skip
    replace hg10 := of_decide_eq_false hg10
    refine Lq.pass rfl rfl rfl ?_
    refine Lq.pass rfl rfl rfl ?_
    refine Lq.pass rfl rfl rfl ?_
    refine Lq.op (v := .bool false) rfl rfl rfl (OpQ.pickF rfl rfl rfl) ?_
    refine Lq.op (v := .bool false) rfl rfl rfl (OpQ.assign rfl rfl) ?_
    refine Lq.nil ?_
    refine Kt.onSub (e' := [(6, .bool false)]) (Sub.cons rfl Sub.nil) ?_
    refine Wk.ret (Kt.end1 rfl rfl fun w' hw => ?_)
    -- ret 0: .bool false
    exact ⟨ret_b (by first | rfl | (simp_all [inB]; done) | (simp_all [inB]; omega)), hw.below⟩
  · skip
    replace hg10 := of_decide_eq_true hg10
    refine Lq.op (v := .int .i64 n) rfl rfl rfl (OpQ.move rfl rfl) ?_
    refine Lq.op (v := .int .i64 hi) rfl rfl rfl (OpQ.move rfl rfl) ?_
    refine Lq.op (v := .bool (decide (n ≤ hi))) rfl rfl rfl (OpQ.leq rfl rfl rfl) ?_
    refine Lq.op (v := .bool (decide (n ≤ hi))) rfl rfl rfl (OpQ.pickT rfl rfl rfl) ?_
    refine Lq.op (v := .bool (decide (n ≤ hi))) rfl rfl rfl (OpQ.assign rfl rfl) ?_
    refine Lq.nil ?_
    refine Kt.onSub (e' := [(6, .bool (decide (n ≤ hi)))]) (Sub.cons rfl Sub.nil) ?_
    refine Wk.ret (Kt.end1 rfl rfl fun w' hw => ?_)
    -- ret 1: .bool (decide (n ≤ hi))
    exact ⟨ret_b (by first | rfl | (simp_all [inB]; done) | (simp_all [inB]; omega)), hw.below⟩

set_option maxHeartbeats 400000 in
/-- spec.l1Bits -/
theorem l1Bits_ok (s : List UInt8) (n : Int) (w : World) (hs : s.length ≤ 1048576) :
    Calls Tryd.prog 94 [str s, .int .i64 n].toArray w fun en w' => en = .returned (.bool (bitsB s n)) ∧ Below w.heap.size w w' := by
  refine fnStart (n := 26) (e := [(0, str s), (1, .int .i64 n)]) Tryd.func94 rfl rfl rfl rfl Ends.both ?_
  refine Wk.seq ?_
  refine Wk.regionQ ?_
  refine Lq.op (v := .bool false) rfl rfl rfl (OpQ.assign rfl rfl) ?_
  refine Lq.nil ?_
  refine Kt.onSub (e' := [(0, str s), (1, .int .i64 n)]) (Sub.cons rfl (Sub.cons rfl Sub.nil)) ?_
  refine Wk.seq ?_
  refine Wk.seq ?_
  refine Wk.regionQ ?_
  refine Lq.op (v := .int .i64 0) rfl rfl rfl (OpQ.assign rfl rfl) ?_
  refine Lq.nil ?_
  refine Kt.onSub (e' := [(0, str s), (1, .int .i64 n), (5, .int .i64 0)]) (Sub.cons rfl (Sub.cons rfl (Sub.cons rfl Sub.nil))) ?_
  refine Wk.block ?_
  refine Wk.loop (σ := Nat) (fun k => k ≤ s.length ∧ (s.take k).all isBit = true) (fun k => [(0, str s), (1, .int .i64 n), (5, .int .i64 ((k : Int)))]) (fun k => Own w.heap.size w []) (fun k => s.length - k) (0) ⟨by omega, rfl⟩ (Sub.cons rfl (Sub.cons rfl (Sub.cons rfl Sub.nil))) (fun _ h => h) ?_
  rintro k ⟨hk, hall⟩
  refine Wk.seq ?_
  refine Wk.seq ?_
  refine Wk.regionQ ?_
  refine Lq.op (v := .int .i64 ((k : Int))) rfl rfl rfl (OpQ.move rfl rfl) ?_
  refine Lq.op (v := str s) rfl rfl rfl (OpQ.move rfl rfl) ?_
  refine Lq.op (v := .int .i64 ((s.length : Int))) rfl rfl rfl (OpQ.lenStr rfl Tryd.runUnderlying9 rfl) ?_
  refine Lq.op (v := .bool (decide (((k : Int)) < ((s.length : Int))))) rfl rfl rfl (OpQ.lss rfl rfl rfl) ?_
  refine Lq.nil ?_
  refine Kt.onSub (e' := [(0, str s), (1, .int .i64 n), (5, .int .i64 ((k : Int))), (9, .bool (decide (((k : Int)) < ((s.length : Int)))))]) (Sub.cons rfl (Sub.cons rfl (Sub.cons rfl (Sub.cons rfl Sub.nil)))) ?_
  refine Wk.cond (b := decide (((k : Int)) < ((s.length : Int)))) rfl (fun h9 => ?_) (fun h9 => ?_)
  · skip
    replace h9 := of_decide_eq_true h9
    refine Wk.skip ?_
    refine Kt.onSub (e' := [(0, str s), (1, .int .i64 n), (5, .int .i64 ((k : Int)))]) (Sub.cons rfl (Sub.cons rfl (Sub.cons rfl Sub.nil))) ?_
    refine Wk.seq ?_
    refine Wk.block ?_
    refine Wk.seq ?_
    refine Wk.regionQ ?_
    refine Lq.op (v := str s) rfl rfl rfl (OpQ.move rfl rfl) ?_
    refine Lq.op (v := .int .i64 ((k : Int))) rfl rfl rfl (OpQ.move rfl rfl) ?_
    refine Lq.op (v := .int .u8 (((s.getD (((k : Int)).toNat) 0).toNat : Int))) rfl rfl rfl (OpQ.indexStr rfl Tryd.runUnderlying9 rfl rfl (by omega) (by omega)) ?_
    refine Lq.op (v := .bool (!(decide ((((s.getD (((k : Int)).toNat) 0).toNat : Int)) = (48 : Int))))) rfl rfl rfl (OpQ.neq rfl rfl rfl) ?_
    refine Lq.op (v := .bool (!(decide ((((s.getD (((k : Int)).toNat) 0).toNat : Int)) = (48 : Int))))) rfl rfl rfl (OpQ.move rfl rfl) ?_
    refine Lq.bool fun b16 hg16 => ?_
    cases b16
    · skip
      replace hg16 := not_false hg16
      replace hg16 := of_decide_eq_true hg16
      refine Lq.pass rfl rfl rfl ?_
      refine Lq.pass rfl rfl rfl ?_
      refine Lq.pass rfl rfl rfl ?_
      refine Lq.pass rfl rfl rfl ?_
      refine Lq.op (v := .bool false) rfl rfl rfl (OpQ.pickF rfl rfl rfl) ?_
      refine Lq.nil ?_
      refine Kt.onSub (e' := [(0, str s), (1, .int .i64 n), (5, .int .i64 ((k : Int))), (21, .bool false)]) (Sub.cons rfl (Sub.cons rfl (Sub.cons rfl (Sub.cons rfl Sub.nil)))) ?_
      refine Wk.condF rfl ?_
      refine Wk.skip ?_
      refine Kt.onSub (e' := [(0, str s), (1, .int .i64 n), (5, .int .i64 ((k : Int)))]) (Sub.cons rfl (Sub.cons rfl (Sub.cons rfl Sub.nil))) ?_
      refine Wk.regionQ ?_
      refine Lq.op (v := .int .i64 ((k : Int))) rfl rfl rfl (OpQ.move rfl rfl) ?_
      refine Lq.op (v := .int .i64 (((k : Int)) + (1 : Int))) rfl rfl rfl (OpQ.add rfl rfl rfl (by omega) (by omega)) ?_
      refine Lq.op (v := .int .i64 (((k : Int)) + (1 : Int))) rfl rfl rfl (OpQ.assign rfl rfl) ?_
      refine Lq.nil ?_
      refine Kt.again (k + 1) ⟨by omega, all_take (by omega) hall (by unfold isBit; simp_all)⟩ (by omega) (Sub.cons rfl (Sub.cons rfl (Sub.cons rfl Sub.nil))) (fun _ h => h)
    · skip
      replace hg16 := not_true hg16
      replace hg16 := of_decide_eq_false hg16
      refine Lq.op (v := str s) rfl rfl rfl (OpQ.move rfl rfl) ?_
      refine Lq.op (v := .int .i64 ((k : Int))) rfl rfl rfl (OpQ.move rfl rfl) ?_
      refine Lq.op (v := .int .u8 (((s.getD (((k : Int)).toNat) 0).toNat : Int))) rfl rfl rfl (OpQ.indexStr rfl Tryd.runUnderlying9 rfl rfl (by omega) (by omega)) ?_
      refine Lq.op (v := .bool (!(decide ((((s.getD (((k : Int)).toNat) 0).toNat : Int)) = (49 : Int))))) rfl rfl rfl (OpQ.neq rfl rfl rfl) ?_
      refine Lq.op (v := .bool (!(decide ((((s.getD (((k : Int)).toNat) 0).toNat : Int)) = (49 : Int))))) rfl rfl rfl (OpQ.pickT rfl rfl rfl) ?_
      refine Lq.nil ?_
      refine Kt.onSub (e' := [(0, str s), (1, .int .i64 n), (5, .int .i64 ((k : Int))), (21, .bool (!(decide ((((s.getD (((k : Int)).toNat) 0).toNat : Int)) = (49 : Int)))))]) (Sub.cons rfl (Sub.cons rfl (Sub.cons rfl (Sub.cons rfl Sub.nil)))) ?_
      refine Wk.cond (b := !(decide ((((s.getD (((k : Int)).toNat) 0).toNat : Int)) = (49 : Int)))) rfl (fun h21 => ?_) (fun h21 => ?_)
      · skip
        replace h21 := not_true h21
        replace h21 := of_decide_eq_false h21
        refine Wk.seq ?_
        refine Wk.regionQ ?_
        refine Lq.op (v := .bool false) rfl rfl rfl (OpQ.assign rfl rfl) ?_
        refine Lq.nil ?_
        refine Kt.onSub (e' := [(4, .bool false)]) (Sub.cons rfl Sub.nil) ?_
        refine Wk.ret (Kt.end1 rfl rfl fun w' hw => ?_)
        -- ret 0: .bool false
        exact ⟨ret_b (by unfold bitsB; rw [all_false (k := k) (by omega) (by unfold isBit; simp_all)]; rfl), hw.below⟩
      · skip
        replace h21 := not_false h21
        replace h21 := of_decide_eq_true h21
        refine Wk.skip ?_
        refine Kt.onSub (e' := [(0, str s), (1, .int .i64 n), (5, .int .i64 ((k : Int)))]) (Sub.cons rfl (Sub.cons rfl (Sub.cons rfl Sub.nil))) ?_
        refine Wk.regionQ ?_
        refine Lq.op (v := .int .i64 ((k : Int))) rfl rfl rfl (OpQ.move rfl rfl) ?_
        refine Lq.op (v := .int .i64 (((k : Int)) + (1 : Int))) rfl rfl rfl (OpQ.add rfl rfl rfl (by omega) (by omega)) ?_
        refine Lq.op (v := .int .i64 (((k : Int)) + (1 : Int))) rfl rfl rfl (OpQ.assign rfl rfl) ?_
        refine Lq.nil ?_
        refine Kt.again (k + 1) ⟨by omega, all_take (by omega) hall (by unfold isBit; simp_all)⟩ (by omega) (Sub.cons rfl (Sub.cons rfl (Sub.cons rfl Sub.nil))) (fun _ h => h)
  · skip
    replace h9 := of_decide_eq_false h9
    refine Wk.exit rfl ?_
    refine Kt.onSub (e' := [(0, str s), (1, .int .i64 n)]) (Sub.cons rfl (Sub.cons rfl Sub.nil)) ?_
    refine Wk.seq ?_
    refine Wk.regionQ ?_
    refine Lq.op (v := str s) rfl rfl rfl (OpQ.move rfl rfl) ?_
    refine Lq.op (v := .int .i64 ((s.length : Int))) rfl rfl rfl (OpQ.lenStr rfl Tryd.runUnderlying9 rfl) ?_
    refine Lq.op (v := .int .i64 n) rfl rfl rfl (OpQ.move rfl rfl) ?_
    refine Lq.op (v := .bool (decide (((s.length : Int)) = n))) rfl rfl rfl (OpQ.eql rfl rfl rfl) ?_
    refine Lq.op (v := .bool (decide (((s.length : Int)) = n))) rfl rfl rfl (OpQ.assign rfl rfl) ?_
    refine Lq.nil ?_
    refine Kt.onSub (e' := [(4, .bool (decide (((s.length : Int)) = n)))]) (Sub.cons rfl Sub.nil) ?_
    refine Wk.ret (Kt.end1 rfl rfl fun w' hw => ?_)
    -- ret 1: .bool (decide (((s.length : Int)) = n))
    exact ⟨ret_b (by unfold bitsB; rw [show s.all isBit = true from by rw [← List.take_of_length_le (show s.length ≤ k by omega)]; exact hall]; rfl), hw.below⟩

set_option maxHeartbeats 400000 in
/-- spec.StructureValid -/
theorem sValid_ok (a : St) (w : World) (ha : a.Small) :
    Calls Tryd.prog 51 [vS a].toArray w fun en w' => en = .returned (.bool (validB a)) ∧ Below w.heap.size w w' := by
  refine fnStart (n := 23) (e := [(0, vS a)]) Tryd.func51 rfl rfl rfl rfl Ends.both ?_
  have h1 := ha.set
  have h2 := ha.rel
  refine Wk.seq ?_
  refine Wk.region ?_
  refine Ll.box (v := vS a) rfl rfl rfl rfl rfl fun p1 hp1 => ?_
  show Ll _ _ (Own _ _ [(p1, .cells #[.int .i64 a.n, str a.set, str a.rel] 26 (0, 0))]) _ _ ((1, .pointer (some ⟨p1, 0, none⟩)) :: _) _ _ _
  refine Ll.op (v := .bool false) rfl rfl rfl (OpQ.assign rfl rfl) ?_
  refine Ll.nil ?_
  refine Kt.onSub (e' := [(1, .pointer (some ⟨p1, 0, none⟩))]) (Sub.cons rfl Sub.nil) ?_
  refine Wk.seq ?_
  refine Wk.regionQ ?_
  refine Lq.op (v := .pointer (some ⟨p1, 0, none⟩)) rfl rfl rfl (OpQ.fieldAddr rfl Tryd.runUnderlying26 rfl Tryd.sizeOf3 rfl rfl) ?_
  refine Lq.op (v := .int .i64 a.n) rfl rfl rfl (OpQ.loadOwn 0 rfl Tryd.isAgg3 rfl rfl rfl) ?_
  refine Lq.op (v := .bool (inB a.n 1 8)) rfl rfl rfl (OpQ.call rfl Tryd.call52 rfl Own.stable (fun w1 hw1 => l1In_ok a.n 1 8 w1 )) ?_
  refine Lq.op (v := .bool (inB a.n 1 8)) rfl rfl rfl (OpQ.move rfl rfl) ?_
  refine Lq.bool fun b6 hg6 => ?_
  cases b6
  · skip
    refine Lq.pass rfl rfl rfl ?_
    refine Lq.pass rfl rfl rfl ?_
    refine Lq.pass rfl rfl rfl ?_
    refine Lq.pass rfl rfl rfl ?_
    refine Lq.pass rfl rfl rfl ?_
    refine Lq.op (v := .bool false) rfl rfl rfl (OpQ.pickF rfl rfl rfl) ?_
    refine Lq.op (v := .bool false) rfl rfl rfl (OpQ.move rfl rfl) ?_
    refine Lq.pass rfl rfl rfl ?_
    refine Lq.pass rfl rfl rfl ?_
    refine Lq.pass rfl rfl rfl ?_
    refine Lq.pass rfl rfl rfl ?_
    refine Lq.pass rfl rfl rfl ?_
    refine Lq.pass rfl rfl rfl ?_
    refine Lq.pass rfl rfl rfl ?_
    refine Lq.pass rfl rfl rfl ?_
    refine Lq.op (v := .bool false) rfl rfl rfl (OpQ.pickF rfl rfl rfl) ?_
    refine Lq.op (v := .bool false) rfl rfl rfl (OpQ.assign rfl rfl) ?_
    refine Lq.nil ?_
    refine Kt.onSub (e' := [(2, .bool false)]) (Sub.cons rfl Sub.nil) ?_
    refine Wk.ret (Kt.end1 rfl rfl fun w' hw => ?_)
    -- ret 0: .bool false
    exact ⟨ret_b (by first | (simp [validB, *]; done) | (simp [validB, *]; omega)), hw.below⟩
  · skip
    have hn : 1 ≤ a.n ∧ a.n ≤ 8 := by unfold inB at hg6; simpa using hg6
    have hq := sq_le hn.1 hn.2
    refine Lq.op (v := .pointer (some ⟨p1, 1, none⟩)) rfl rfl rfl (OpQ.fieldAddr rfl Tryd.runUnderlying26 rfl Tryd.sizeOf9 rfl rfl) ?_
    refine Lq.op (v := str a.set) rfl rfl rfl (OpQ.loadOwn 0 rfl Tryd.isAgg9 rfl rfl rfl) ?_
    refine Lq.op (v := .pointer (some ⟨p1, 0, none⟩)) rfl rfl rfl (OpQ.fieldAddr rfl Tryd.runUnderlying26 rfl Tryd.sizeOf3 rfl rfl) ?_
    refine Lq.op (v := .int .i64 a.n) rfl rfl rfl (OpQ.loadOwn 0 rfl Tryd.isAgg3 rfl rfl rfl) ?_
    refine Lq.op (v := .bool (bitsB a.set a.n)) rfl rfl rfl (OpQ.call rfl Tryd.call94 rfl Own.stable (fun w1 hw1 => l1Bits_ok a.set a.n w1 (by omega))) ?_
    refine Lq.op (v := .bool (bitsB a.set a.n)) rfl rfl rfl (OpQ.pickT rfl rfl rfl) ?_
    refine Lq.op (v := .bool (bitsB a.set a.n)) rfl rfl rfl (OpQ.move rfl rfl) ?_
    refine Lq.bool fun b13 hg13 => ?_
    cases b13
    · skip
      refine Lq.pass rfl rfl rfl ?_
      refine Lq.pass rfl rfl rfl ?_
      refine Lq.pass rfl rfl rfl ?_
      refine Lq.pass rfl rfl rfl ?_
      refine Lq.pass rfl rfl rfl ?_
      refine Lq.pass rfl rfl rfl ?_
      refine Lq.pass rfl rfl rfl ?_
      refine Lq.pass rfl rfl rfl ?_
      refine Lq.op (v := .bool false) rfl rfl rfl (OpQ.pickF rfl rfl rfl) ?_
      refine Lq.op (v := .bool false) rfl rfl rfl (OpQ.assign rfl rfl) ?_
      refine Lq.nil ?_
      refine Kt.onSub (e' := [(2, .bool false)]) (Sub.cons rfl Sub.nil) ?_
      refine Wk.ret (Kt.end1 rfl rfl fun w' hw => ?_)
      -- ret 1: .bool false
      exact ⟨ret_b (by first | (simp [validB, *]; done) | (simp [validB, *]; omega)), hw.below⟩
    · skip
      refine Lq.op (v := .pointer (some ⟨p1, 2, none⟩)) rfl rfl rfl (OpQ.fieldAddr rfl Tryd.runUnderlying26 rfl Tryd.sizeOf9 rfl rfl) ?_
      refine Lq.op (v := str a.rel) rfl rfl rfl (OpQ.loadOwn 0 rfl Tryd.isAgg9 rfl rfl rfl) ?_
      refine Lq.op (v := .pointer (some ⟨p1, 0, none⟩)) rfl rfl rfl (OpQ.fieldAddr rfl Tryd.runUnderlying26 rfl Tryd.sizeOf3 rfl rfl) ?_
      refine Lq.op (v := .int .i64 a.n) rfl rfl rfl (OpQ.loadOwn 0 rfl Tryd.isAgg3 rfl rfl rfl) ?_
      refine Lq.op (v := .pointer (some ⟨p1, 0, none⟩)) rfl rfl rfl (OpQ.fieldAddr rfl Tryd.runUnderlying26 rfl Tryd.sizeOf3 rfl rfl) ?_
      refine Lq.op (v := .int .i64 a.n) rfl rfl rfl (OpQ.loadOwn 0 rfl Tryd.isAgg3 rfl rfl rfl) ?_
      refine Lq.op (v := .int .i64 (a.n * a.n)) rfl rfl rfl (OpQ.mul rfl rfl rfl (by omega) (by omega)) ?_
      refine Lq.op (v := .bool (bitsB a.rel (a.n * a.n))) rfl rfl rfl (OpQ.call rfl Tryd.call94 rfl Own.stable (fun w1 hw1 => l1Bits_ok a.rel (a.n * a.n) w1 (by omega))) ?_
      refine Lq.op (v := .bool (bitsB a.rel (a.n * a.n))) rfl rfl rfl (OpQ.pickT rfl rfl rfl) ?_
      refine Lq.op (v := .bool (bitsB a.rel (a.n * a.n))) rfl rfl rfl (OpQ.assign rfl rfl) ?_
      refine Lq.nil ?_
      refine Kt.onSub (e' := [(2, .bool (bitsB a.rel (a.n * a.n)))]) (Sub.cons rfl Sub.nil) ?_
      refine Wk.ret (Kt.end1 rfl rfl fun w' hw => ?_)
      -- ret 2: .bool (bitsB a.rel (a.n * a.n))
      exact ⟨ret_b (by first | (simp [validB, *]; done) | (simp [validB, *]; omega)), hw.below⟩

set_option maxHeartbeats 400000 in
/-- spec.l1Set -/
theorem l1Set_ok (a : St) (x : Int) (w : World) (ha : a.Fine) (hx : a.El x) :
    Calls Tryd.prog 117 [vS a, .int .i64 x].toArray w fun en w' => en = .returned (.bool (a.inSet x)) ∧ Below w.heap.size w w' := by
  refine fnStart (n := 10) (e := [(0, vS a), (1, .int .i64 x)]) Tryd.func117 rfl rfl rfl rfl Ends.both ?_
  have hs := ha.set
  obtain ⟨h0, h1⟩ := hx
  refine Wk.seq ?_
  refine Wk.region ?_
  refine Ll.box (v := vS a) rfl rfl rfl rfl rfl fun p2 hp2 => ?_
  show Ll _ _ (Own _ _ [(p2, .cells #[.int .i64 a.n, str a.set, str a.rel] 26 (0, 0))]) _ _ ((2, .pointer (some ⟨p2, 0, none⟩)) :: _) _ _ _
  refine Ll.op (v := .bool false) rfl rfl rfl (OpQ.assign rfl rfl) ?_
  refine Ll.nil ?_
  refine Kt.onSub (e' := [(1, .int .i64 x), (2, .pointer (some ⟨p2, 0, none⟩))]) (Sub.cons rfl (Sub.cons rfl Sub.nil)) ?_
  refine Wk.seq ?_
  refine Wk.regionQ ?_
  refine Lq.op (v := .pointer (some ⟨p2, 1, none⟩)) rfl rfl rfl (OpQ.fieldAddr rfl Tryd.runUnderlying26 rfl Tryd.sizeOf9 rfl rfl) ?_
  refine Lq.op (v := str a.set) rfl rfl rfl (OpQ.loadOwn 0 rfl Tryd.isAgg9 rfl rfl rfl) ?_
  refine Lq.op (v := .int .i64 x) rfl rfl rfl (OpQ.move rfl rfl) ?_
  refine Lq.op (v := .int .u8 (((a.set.getD ((x).toNat) 0).toNat : Int))) rfl rfl rfl (OpQ.indexStr rfl Tryd.runUnderlying9 rfl rfl (by omega) (by omega)) ?_
  refine Lq.op (v := .bool (decide ((((a.set.getD ((x).toNat) 0).toNat : Int)) = (49 : Int)))) rfl rfl rfl (OpQ.eql rfl rfl rfl) ?_
  refine Lq.op (v := .bool (decide ((((a.set.getD ((x).toNat) 0).toNat : Int)) = (49 : Int)))) rfl rfl rfl (OpQ.assign rfl rfl) ?_
  refine Lq.nil ?_
  refine Kt.onSub (e' := [(4, .bool (decide ((((a.set.getD ((x).toNat) 0).toNat : Int)) = (49 : Int))))]) (Sub.cons rfl Sub.nil) ?_
  refine Wk.ret (Kt.end1 rfl rfl fun w' hw => ?_)
  -- ret 0: .bool (decide ((((a.set.getD ((x).toNat) 0).toNat : Int)) = (49 : Int)))
  exact ⟨ret_b (by first | rfl | (simp_all; done) | (simp_all; omega)), hw.below⟩

set_option maxHeartbeats 400000 in
/-- spec.l1Rel -/
theorem l1Rel_ok (a : St) (x y : Int) (w : World) (ha : a.Fine) (hx : a.El x) (hy : a.El y) :
    Calls Tryd.prog 118 [vS a, .int .i64 x, .int .i64 y].toArray w fun en w' => en = .returned (.bool (a.inRel x y)) ∧ Below w.heap.size w w' := by
  refine fnStart (n := 17) (e := [(0, vS a), (1, .int .i64 x), (2, .int .i64 y)]) Tryd.func118 rfl rfl rfl rfl Ends.both ?_
  obtain ⟨k0, k1, k2, k3, k4⟩ := ha.relLt hx hy
  refine Wk.seq ?_
  refine Wk.region ?_
  refine Ll.box (v := vS a) rfl rfl rfl rfl rfl fun p3 hp3 => ?_
  show Ll _ _ (Own _ _ [(p3, .cells #[.int .i64 a.n, str a.set, str a.rel] 26 (0, 0))]) _ _ ((3, .pointer (some ⟨p3, 0, none⟩)) :: _) _ _ _
  refine Ll.op (v := .bool false) rfl rfl rfl (OpQ.assign rfl rfl) ?_
  refine Ll.nil ?_
  refine Kt.onSub (e' := [(1, .int .i64 x), (2, .int .i64 y), (3, .pointer (some ⟨p3, 0, none⟩))]) (Sub.cons rfl (Sub.cons rfl (Sub.cons rfl Sub.nil))) ?_
  refine Wk.seq ?_
  refine Wk.regionQ ?_
  refine Lq.op (v := .pointer (some ⟨p3, 2, none⟩)) rfl rfl rfl (OpQ.fieldAddr rfl Tryd.runUnderlying26 rfl Tryd.sizeOf9 rfl rfl) ?_
  refine Lq.op (v := str a.rel) rfl rfl rfl (OpQ.loadOwn 0 rfl Tryd.isAgg9 rfl rfl rfl) ?_
  refine Lq.op (v := .int .i64 x) rfl rfl rfl (OpQ.move rfl rfl) ?_
  refine Lq.op (v := .pointer (some ⟨p3, 0, none⟩)) rfl rfl rfl (OpQ.fieldAddr rfl Tryd.runUnderlying26 rfl Tryd.sizeOf3 rfl rfl) ?_
  refine Lq.op (v := .int .i64 a.n) rfl rfl rfl (OpQ.loadOwn 0 rfl Tryd.isAgg3 rfl rfl rfl) ?_
  refine Lq.op (v := .int .i64 (x * a.n)) rfl rfl rfl (OpQ.mul rfl rfl rfl (by omega) (by omega)) ?_
  refine Lq.op (v := .int .i64 y) rfl rfl rfl (OpQ.move rfl rfl) ?_
  refine Lq.op (v := .int .i64 ((x * a.n) + y)) rfl rfl rfl (OpQ.add rfl rfl rfl (by omega) (by omega)) ?_
  refine Lq.op (v := .int .u8 (((a.rel.getD (((x * a.n) + y).toNat) 0).toNat : Int))) rfl rfl rfl (OpQ.indexStr rfl Tryd.runUnderlying9 rfl rfl (by omega) (by omega)) ?_
  refine Lq.op (v := .bool (decide ((((a.rel.getD (((x * a.n) + y).toNat) 0).toNat : Int)) = (49 : Int)))) rfl rfl rfl (OpQ.eql rfl rfl rfl) ?_
  refine Lq.op (v := .bool (decide ((((a.rel.getD (((x * a.n) + y).toNat) 0).toNat : Int)) = (49 : Int)))) rfl rfl rfl (OpQ.assign rfl rfl) ?_
  refine Lq.nil ?_
  refine Kt.onSub (e' := [(6, .bool (decide ((((a.rel.getD (((x * a.n) + y).toNat) 0).toNat : Int)) = (49 : Int))))]) (Sub.cons rfl Sub.nil) ?_
  refine Wk.ret (Kt.end1 rfl rfl fun w' hw => ?_)
  -- ret 0: .bool (decide ((((a.rel.getD (((x * a.n) + y).toNat) 0).toNat : Int)) = (49 : Int)))
  exact ⟨ret_b (by first | rfl | (simp_all; done) | (simp_all; omega)), hw.below⟩

set_option maxHeartbeats 400000 in
/-- impl.areBits -/
theorem areBits_ok (s : List UInt8) (n : Int) (w : World) (hs : s.length ≤ 1048576) :
    Calls Tryd.prog 98 [str s, .int .i64 n].toArray w fun en w' => en = .returned (.bool (bitsB s n)) ∧ Below w.heap.size w w' := by
  refine fnStart (n := 14) (e := [(0, str s), (1, .int .i64 n)]) Tryd.func98 rfl rfl rfl rfl Ends.both ?_
  refine Wk.seq ?_
  refine Wk.regionQ ?_
  refine Lq.op (v := .bool false) rfl rfl rfl (OpQ.assign rfl rfl) ?_
  refine Lq.nil ?_
  refine Kt.onSub (e' := [(0, str s), (1, .int .i64 n)]) (Sub.cons rfl (Sub.cons rfl Sub.nil)) ?_
  refine Wk.seq ?_
  refine Wk.regionQ ?_
  refine Lq.op (v := str s) rfl rfl rfl (OpQ.move rfl rfl) ?_
  refine Lq.op (v := .int .i64 ((s.length : Int))) rfl rfl rfl (OpQ.lenStr rfl Tryd.runUnderlying9 rfl) ?_
  refine Lq.op (v := .int .i64 n) rfl rfl rfl (OpQ.move rfl rfl) ?_
  refine Lq.op (v := .bool (decide (((s.length : Int)) = n))) rfl rfl rfl (OpQ.eql rfl rfl rfl) ?_
  refine Lq.op (v := .bool (decide (((s.length : Int)) = n))) rfl rfl rfl (OpQ.move rfl rfl) ?_
  refine Lq.bool fun b9 hg9 => ?_
  cases b9
  · skip
    replace hg9 := of_decide_eq_false hg9
    refine Lq.pass rfl rfl rfl ?_
    refine Lq.pass rfl rfl rfl ?_
    refine Lq.pass rfl rfl rfl ?_
    refine Lq.op (v := .bool false) rfl rfl rfl (OpQ.pickF rfl rfl rfl) ?_
    refine Lq.op (v := .bool false) rfl rfl rfl (OpQ.assign rfl rfl) ?_
    refine Lq.nil ?_
    refine Kt.onSub (e' := [(4, .bool false)]) (Sub.cons rfl Sub.nil) ?_
    refine Wk.ret (Kt.end1 rfl rfl fun w' hw => ?_)
    -- ret 0: .bool false
    exact ⟨ret_b (by unfold bitsB; simp [*]), hw.below⟩
  · skip
    replace hg9 := of_decide_eq_true hg9
    refine Lq.op (v := str s) rfl rfl rfl (OpQ.move rfl rfl) ?_
    refine Lq.op (v := str (Lib.trimS s [48, 49])) rfl rfl rfl (OpQ.call rfl Tryd.call124 rfl Own.stable (fun w1 hw1 => trim_ok s w1 (by omega))) ?_
    refine Lq.op (v := .bool ((Lib.trimS s [48, 49]) == ([]))) rfl rfl rfl (OpQ.seql rfl rfl rfl) ?_
    refine Lq.op (v := .bool ((Lib.trimS s [48, 49]) == ([]))) rfl rfl rfl (OpQ.pickT rfl rfl rfl) ?_
    refine Lq.op (v := .bool ((Lib.trimS s [48, 49]) == ([]))) rfl rfl rfl (OpQ.assign rfl rfl) ?_
    refine Lq.nil ?_
    refine Kt.onSub (e' := [(4, .bool ((Lib.trimS s [48, 49]) == ([])))]) (Sub.cons rfl Sub.nil) ?_
    refine Wk.ret (Kt.end1 rfl rfl fun w' hw => ?_)
    -- ret 1: .bool ((Lib.trimS s [48, 49]) == ([]))
    exact ⟨ret_b (by unfold bitsB; rw [trim_nil]; simp [*]), hw.below⟩

set_option maxHeartbeats 400000 in
/-- impl.isStructure -/
theorem isStructure_ok (a : St) (w : World) (ha : a.Small) :
    Calls Tryd.prog 57 [vS a].toArray w fun en w' => en = .returned (.bool (validB a)) ∧ Below w.heap.size w w' := by
  refine fnStart (n := 28) (e := [(0, vS a)]) Tryd.func57 rfl rfl rfl rfl Ends.both ?_
  have h1 := ha.set
  have h2 := ha.rel
  refine Wk.seq ?_
  refine Wk.region ?_
  refine Ll.box (v := vS a) rfl rfl rfl rfl rfl fun p1 hp1 => ?_
  show Ll _ _ (Own _ _ [(p1, .cells #[.int .i64 a.n, str a.set, str a.rel] 26 (0, 0))]) _ _ ((1, .pointer (some ⟨p1, 0, none⟩)) :: _) _ _ _
  refine Ll.op (v := .bool false) rfl rfl rfl (OpQ.assign rfl rfl) ?_
  refine Ll.nil ?_
  refine Kt.onSub (e' := [(1, .pointer (some ⟨p1, 0, none⟩))]) (Sub.cons rfl Sub.nil) ?_
  refine Wk.seq ?_
  refine Wk.regionQ ?_
  refine Lq.op (v := .pointer (some ⟨p1, 0, none⟩)) rfl rfl rfl (OpQ.fieldAddr rfl Tryd.runUnderlying26 rfl Tryd.sizeOf3 rfl rfl) ?_
  refine Lq.op (v := .int .i64 a.n) rfl rfl rfl (OpQ.loadOwn 0 rfl Tryd.isAgg3 rfl rfl rfl) ?_
  refine Lq.op (v := .bool (decide ((1 : Int) ≤ a.n))) rfl rfl rfl (OpQ.geq rfl rfl rfl) ?_
  refine Lq.op (v := .bool (decide ((1 : Int) ≤ a.n))) rfl rfl rfl (OpQ.move rfl rfl) ?_
  refine Lq.bool fun b6 hg6 => ?_
  cases b6
  · skip
    replace hg6 := of_decide_eq_false hg6
    refine Lq.pass rfl rfl rfl ?_
    refine Lq.pass rfl rfl rfl ?_
    refine Lq.pass rfl rfl rfl ?_
    refine Lq.op (v := .bool false) rfl rfl rfl (OpQ.pickF rfl rfl rfl) ?_
    refine Lq.op (v := .bool false) rfl rfl rfl (OpQ.move rfl rfl) ?_
    refine Lq.pass rfl rfl rfl ?_
    refine Lq.pass rfl rfl rfl ?_
    refine Lq.pass rfl rfl rfl ?_
    refine Lq.pass rfl rfl rfl ?_
    refine Lq.pass rfl rfl rfl ?_
    refine Lq.op (v := .bool false) rfl rfl rfl (OpQ.pickF rfl rfl rfl) ?_
    refine Lq.op (v := .bool false) rfl rfl rfl (OpQ.move rfl rfl) ?_
    refine Lq.pass rfl rfl rfl ?_
    refine Lq.pass rfl rfl rfl ?_
    refine Lq.pass rfl rfl rfl ?_
    refine Lq.pass rfl rfl rfl ?_
    refine Lq.pass rfl rfl rfl ?_
    refine Lq.pass rfl rfl rfl ?_
    refine Lq.pass rfl rfl rfl ?_
    refine Lq.pass rfl rfl rfl ?_
    refine Lq.op (v := .bool false) rfl rfl rfl (OpQ.pickF rfl rfl rfl) ?_
    refine Lq.op (v := .bool false) rfl rfl rfl (OpQ.assign rfl rfl) ?_
    refine Lq.nil ?_
    refine Kt.onSub (e' := [(2, .bool false)]) (Sub.cons rfl Sub.nil) ?_
    refine Wk.ret (Kt.end1 rfl rfl fun w' hw => ?_)
    -- ret 0: .bool false
    exact ⟨ret_b (by first | (simp [validB, inB, *]; done) | (simp [validB, inB, *]; omega)), hw.below⟩
  · skip
    replace hg6 := of_decide_eq_true hg6
    refine Lq.op (v := .pointer (some ⟨p1, 0, none⟩)) rfl rfl rfl (OpQ.fieldAddr rfl Tryd.runUnderlying26 rfl Tryd.sizeOf3 rfl rfl) ?_
    refine Lq.op (v := .int .i64 a.n) rfl rfl rfl (OpQ.loadOwn 0 rfl Tryd.isAgg3 rfl rfl rfl) ?_
    refine Lq.op (v := .bool (decide (a.n ≤ (8 : Int)))) rfl rfl rfl (OpQ.leq rfl rfl rfl) ?_
    refine Lq.op (v := .bool (decide (a.n ≤ (8 : Int)))) rfl rfl rfl (OpQ.pickT rfl rfl rfl) ?_
    refine Lq.op (v := .bool (decide (a.n ≤ (8 : Int)))) rfl rfl rfl (OpQ.move rfl rfl) ?_
    refine Lq.bool fun b11 hg11 => ?_
    cases b11
    · skip
      replace hg11 := of_decide_eq_false hg11
      refine Lq.pass rfl rfl rfl ?_
      refine Lq.pass rfl rfl rfl ?_
      refine Lq.pass rfl rfl rfl ?_
      refine Lq.pass rfl rfl rfl ?_
      refine Lq.pass rfl rfl rfl ?_
      refine Lq.op (v := .bool false) rfl rfl rfl (OpQ.pickF rfl rfl rfl) ?_
      refine Lq.op (v := .bool false) rfl rfl rfl (OpQ.move rfl rfl) ?_
      refine Lq.pass rfl rfl rfl ?_
      refine Lq.pass rfl rfl rfl ?_
      refine Lq.pass rfl rfl rfl ?_
      refine Lq.pass rfl rfl rfl ?_
      refine Lq.pass rfl rfl rfl ?_
      refine Lq.pass rfl rfl rfl ?_
      refine Lq.pass rfl rfl rfl ?_
      refine Lq.pass rfl rfl rfl ?_
      refine Lq.op (v := .bool false) rfl rfl rfl (OpQ.pickF rfl rfl rfl) ?_
      refine Lq.op (v := .bool false) rfl rfl rfl (OpQ.assign rfl rfl) ?_
      refine Lq.nil ?_
      refine Kt.onSub (e' := [(2, .bool false)]) (Sub.cons rfl Sub.nil) ?_
      refine Wk.ret (Kt.end1 rfl rfl fun w' hw => ?_)
      -- ret 1: .bool false
      exact ⟨ret_b (by first | (simp [validB, inB, *]; done) | (simp [validB, inB, *]; omega)), hw.below⟩
    · skip
      replace hg11 := of_decide_eq_true hg11
      have hq := sq_le hg6 hg11
      refine Lq.op (v := .pointer (some ⟨p1, 1, none⟩)) rfl rfl rfl (OpQ.fieldAddr rfl Tryd.runUnderlying26 rfl Tryd.sizeOf9 rfl rfl) ?_
      refine Lq.op (v := str a.set) rfl rfl rfl (OpQ.loadOwn 0 rfl Tryd.isAgg9 rfl rfl rfl) ?_
      refine Lq.op (v := .pointer (some ⟨p1, 0, none⟩)) rfl rfl rfl (OpQ.fieldAddr rfl Tryd.runUnderlying26 rfl Tryd.sizeOf3 rfl rfl) ?_
      refine Lq.op (v := .int .i64 a.n) rfl rfl rfl (OpQ.loadOwn 0 rfl Tryd.isAgg3 rfl rfl rfl) ?_
      refine Lq.op (v := .bool (bitsB a.set a.n)) rfl rfl rfl (OpQ.call rfl Tryd.call98 rfl Own.stable (fun w1 hw1 => areBits_ok a.set a.n w1 (by omega))) ?_
      refine Lq.op (v := .bool (bitsB a.set a.n)) rfl rfl rfl (OpQ.pickT rfl rfl rfl) ?_
      refine Lq.op (v := .bool (bitsB a.set a.n)) rfl rfl rfl (OpQ.move rfl rfl) ?_
      refine Lq.bool fun b18 hg18 => ?_
      cases b18
      · skip
        refine Lq.pass rfl rfl rfl ?_
        refine Lq.pass rfl rfl rfl ?_
        refine Lq.pass rfl rfl rfl ?_
        refine Lq.pass rfl rfl rfl ?_
        refine Lq.pass rfl rfl rfl ?_
        refine Lq.pass rfl rfl rfl ?_
        refine Lq.pass rfl rfl rfl ?_
        refine Lq.pass rfl rfl rfl ?_
        refine Lq.op (v := .bool false) rfl rfl rfl (OpQ.pickF rfl rfl rfl) ?_
        refine Lq.op (v := .bool false) rfl rfl rfl (OpQ.assign rfl rfl) ?_
        refine Lq.nil ?_
        refine Kt.onSub (e' := [(2, .bool false)]) (Sub.cons rfl Sub.nil) ?_
        refine Wk.ret (Kt.end1 rfl rfl fun w' hw => ?_)
        -- ret 2: .bool false
        exact ⟨ret_b (by first | (simp [validB, inB, *]; done) | (simp [validB, inB, *]; omega)), hw.below⟩
      · skip
        refine Lq.op (v := .pointer (some ⟨p1, 2, none⟩)) rfl rfl rfl (OpQ.fieldAddr rfl Tryd.runUnderlying26 rfl Tryd.sizeOf9 rfl rfl) ?_
        refine Lq.op (v := str a.rel) rfl rfl rfl (OpQ.loadOwn 0 rfl Tryd.isAgg9 rfl rfl rfl) ?_
        refine Lq.op (v := .pointer (some ⟨p1, 0, none⟩)) rfl rfl rfl (OpQ.fieldAddr rfl Tryd.runUnderlying26 rfl Tryd.sizeOf3 rfl rfl) ?_
        refine Lq.op (v := .int .i64 a.n) rfl rfl rfl (OpQ.loadOwn 0 rfl Tryd.isAgg3 rfl rfl rfl) ?_
        refine Lq.op (v := .pointer (some ⟨p1, 0, none⟩)) rfl rfl rfl (OpQ.fieldAddr rfl Tryd.runUnderlying26 rfl Tryd.sizeOf3 rfl rfl) ?_
        refine Lq.op (v := .int .i64 a.n) rfl rfl rfl (OpQ.loadOwn 0 rfl Tryd.isAgg3 rfl rfl rfl) ?_
        refine Lq.op (v := .int .i64 (a.n * a.n)) rfl rfl rfl (OpQ.mul rfl rfl rfl (by omega) (by omega)) ?_
        refine Lq.op (v := .bool (bitsB a.rel (a.n * a.n))) rfl rfl rfl (OpQ.call rfl Tryd.call98 rfl Own.stable (fun w1 hw1 => areBits_ok a.rel (a.n * a.n) w1 (by omega))) ?_
        refine Lq.op (v := .bool (bitsB a.rel (a.n * a.n))) rfl rfl rfl (OpQ.pickT rfl rfl rfl) ?_
        refine Lq.op (v := .bool (bitsB a.rel (a.n * a.n))) rfl rfl rfl (OpQ.assign rfl rfl) ?_
        refine Lq.nil ?_
        refine Kt.onSub (e' := [(2, .bool (bitsB a.rel (a.n * a.n)))]) (Sub.cons rfl Sub.nil) ?_
        refine Wk.ret (Kt.end1 rfl rfl fun w' hw => ?_)
        -- ret 3: .bool (bitsB a.rel (a.n * a.n))
        exact ⟨ret_b (by first | (simp [validB, inB, *]; done) | (simp [validB, inB, *]; omega)), hw.below⟩

set_option maxHeartbeats 400000 in
/-- impl.Structure.inSet -/
theorem inSet_ok (a : St) (x : Int) (w : World) (ha : a.Fine) (hx : a.El x) :
    Calls Tryd.prog 115 [vS a, .int .i64 x].toArray w fun en w' => en = .returned (.bool (a.inSet x)) ∧ Below w.heap.size w w' := by
  refine fnStart (n := 10) (e := [(0, vS a), (1, .int .i64 x)]) Tryd.func115 rfl rfl rfl rfl Ends.both ?_
  have hs := ha.set
  obtain ⟨h0, h1⟩ := hx
  refine Wk.seq ?_
  refine Wk.region ?_
  refine Ll.box (v := vS a) rfl rfl rfl rfl rfl fun p2 hp2 => ?_
  show Ll _ _ (Own _ _ [(p2, .cells #[.int .i64 a.n, str a.set, str a.rel] 26 (0, 0))]) _ _ ((2, .pointer (some ⟨p2, 0, none⟩)) :: _) _ _ _
  refine Ll.op (v := .bool false) rfl rfl rfl (OpQ.assign rfl rfl) ?_
  refine Ll.nil ?_
  refine Kt.onSub (e' := [(1, .int .i64 x), (2, .pointer (some ⟨p2, 0, none⟩))]) (Sub.cons rfl (Sub.cons rfl Sub.nil)) ?_
  refine Wk.seq ?_
  refine Wk.regionQ ?_
  refine Lq.op (v := .pointer (some ⟨p2, 1, none⟩)) rfl rfl rfl (OpQ.fieldAddr rfl Tryd.runUnderlying26 rfl Tryd.sizeOf9 rfl rfl) ?_
  refine Lq.op (v := str a.set) rfl rfl rfl (OpQ.loadOwn 0 rfl Tryd.isAgg9 rfl rfl rfl) ?_
  refine Lq.op (v := .int .i64 x) rfl rfl rfl (OpQ.move rfl rfl) ?_
  refine Lq.op (v := .int .u8 (((a.set.getD ((x).toNat) 0).toNat : Int))) rfl rfl rfl (OpQ.indexStr rfl Tryd.runUnderlying9 rfl rfl (by omega) (by omega)) ?_
  refine Lq.op (v := .bool (decide ((((a.set.getD ((x).toNat) 0).toNat : Int)) = (49 : Int)))) rfl rfl rfl (OpQ.eql rfl rfl rfl) ?_
  refine Lq.op (v := .bool (decide ((((a.set.getD ((x).toNat) 0).toNat : Int)) = (49 : Int)))) rfl rfl rfl (OpQ.assign rfl rfl) ?_
  refine Lq.nil ?_
  refine Kt.onSub (e' := [(4, .bool (decide ((((a.set.getD ((x).toNat) 0).toNat : Int)) = (49 : Int))))]) (Sub.cons rfl Sub.nil) ?_
  refine Wk.ret (Kt.end1 rfl rfl fun w' hw => ?_)
  -- ret 0: .bool (decide ((((a.set.getD ((x).toNat) 0).toNat : Int)) = (49 : Int)))
  exact ⟨ret_b (by first | rfl | (simp_all; done) | (simp_all; omega)), hw.below⟩

set_option maxHeartbeats 400000 in
/-- impl.Structure.inRel -/
theorem inRel_ok (a : St) (x y : Int) (w : World) (ha : a.Fine) (hx : a.El x) (hy : a.El y) :
    Calls Tryd.prog 116 [vS a, .int .i64 x, .int .i64 y].toArray w fun en w' => en = .returned (.bool (a.inRel x y)) ∧ Below w.heap.size w w' := by
  refine fnStart (n := 17) (e := [(0, vS a), (1, .int .i64 x), (2, .int .i64 y)]) Tryd.func116 rfl rfl rfl rfl Ends.both ?_
  obtain ⟨k0, k1, k2, k3, k4⟩ := ha.relLt hx hy
  refine Wk.seq ?_
  refine Wk.region ?_
  refine Ll.box (v := vS a) rfl rfl rfl rfl rfl fun p3 hp3 => ?_
  show Ll _ _ (Own _ _ [(p3, .cells #[.int .i64 a.n, str a.set, str a.rel] 26 (0, 0))]) _ _ ((3, .pointer (some ⟨p3, 0, none⟩)) :: _) _ _ _
  refine Ll.op (v := .bool false) rfl rfl rfl (OpQ.assign rfl rfl) ?_
  refine Ll.nil ?_
  refine Kt.onSub (e' := [(1, .int .i64 x), (2, .int .i64 y), (3, .pointer (some ⟨p3, 0, none⟩))]) (Sub.cons rfl (Sub.cons rfl (Sub.cons rfl Sub.nil))) ?_
  refine Wk.seq ?_
  refine Wk.regionQ ?_
  refine Lq.op (v := .pointer (some ⟨p3, 2, none⟩)) rfl rfl rfl (OpQ.fieldAddr rfl Tryd.runUnderlying26 rfl Tryd.sizeOf9 rfl rfl) ?_
  refine Lq.op (v := str a.rel) rfl rfl rfl (OpQ.loadOwn 0 rfl Tryd.isAgg9 rfl rfl rfl) ?_
  refine Lq.op (v := .int .i64 x) rfl rfl rfl (OpQ.move rfl rfl) ?_
  refine Lq.op (v := .pointer (some ⟨p3, 0, none⟩)) rfl rfl rfl (OpQ.fieldAddr rfl Tryd.runUnderlying26 rfl Tryd.sizeOf3 rfl rfl) ?_
  refine Lq.op (v := .int .i64 a.n) rfl rfl rfl (OpQ.loadOwn 0 rfl Tryd.isAgg3 rfl rfl rfl) ?_
  refine Lq.op (v := .int .i64 (x * a.n)) rfl rfl rfl (OpQ.mul rfl rfl rfl (by omega) (by omega)) ?_
  refine Lq.op (v := .int .i64 y) rfl rfl rfl (OpQ.move rfl rfl) ?_
  refine Lq.op (v := .int .i64 ((x * a.n) + y)) rfl rfl rfl (OpQ.add rfl rfl rfl (by omega) (by omega)) ?_
  refine Lq.op (v := .int .u8 (((a.rel.getD (((x * a.n) + y).toNat) 0).toNat : Int))) rfl rfl rfl (OpQ.indexStr rfl Tryd.runUnderlying9 rfl rfl (by omega) (by omega)) ?_
  refine Lq.op (v := .bool (decide ((((a.rel.getD (((x * a.n) + y).toNat) 0).toNat : Int)) = (49 : Int)))) rfl rfl rfl (OpQ.eql rfl rfl rfl) ?_
  refine Lq.op (v := .bool (decide ((((a.rel.getD (((x * a.n) + y).toNat) 0).toNat : Int)) = (49 : Int)))) rfl rfl rfl (OpQ.assign rfl rfl) ?_
  refine Lq.nil ?_
  refine Kt.onSub (e' := [(6, .bool (decide ((((a.rel.getD (((x * a.n) + y).toNat) 0).toNat : Int)) = (49 : Int))))]) (Sub.cons rfl Sub.nil) ?_
  refine Wk.ret (Kt.end1 rfl rfl fun w' hw => ?_)
  -- ret 0: .bool (decide ((((a.rel.getD (((x * a.n) + y).toNat) 0).toNat : Int)) = (49 : Int)))
  exact ⟨ret_b (by first | rfl | (simp_all; done) | (simp_all; omega)), hw.below⟩

set_option maxHeartbeats 400000 in
/-- laws.szStructure -/
theorem sz_ok (a : St) (left : Int) (w : World) (hl0 : 0 ≤ left) (hl : left ≤ 1048576) (h1 : a.set.length ≤ 9223372036854775807) (h2 : a.rel.length ≤ 9223372036854775807) :
    Calls Tryd.prog 15 [vS a, .int .i64 left].toArray w fun en w' => en = .returned (.int .i64 (szB a left)) ∧ Below w.heap.size w w' := by
  refine fnStart (n := 20) (e := [(0, vS a), (1, .int .i64 left)]) Tryd.func15 rfl rfl rfl rfl Ends.both ?_
  refine Wk.seq ?_
  refine Wk.region ?_
  refine Ll.box (v := vS a) rfl rfl rfl rfl rfl fun p2 hp2 => ?_
  show Ll _ _ (Own _ _ [(p2, .cells #[.int .i64 a.n, str a.set, str a.rel] 23 (0, 0))]) _ _ ((2, .pointer (some ⟨p2, 0, none⟩)) :: _) _ _ _
  refine Ll.op (v := .int .i64 0) rfl rfl rfl (OpQ.assign rfl rfl) ?_
  refine Ll.nil ?_
  refine Kt.onSub (e' := [(1, .int .i64 left), (2, .pointer (some ⟨p2, 0, none⟩))]) (Sub.cons rfl (Sub.cons rfl Sub.nil)) ?_
  refine Wk.seq ?_
  refine Wk.regionQ ?_
  refine Lq.op (v := .int .i64 left) rfl rfl rfl (OpQ.move rfl rfl) ?_
  refine Lq.op (v := .pointer (some ⟨p2, 1, none⟩)) rfl rfl rfl (OpQ.fieldAddr rfl Tryd.runUnderlying23 rfl Tryd.sizeOf9 rfl rfl) ?_
  refine Lq.op (v := str a.set) rfl rfl rfl (OpQ.loadOwn 0 rfl Tryd.isAgg9 rfl rfl rfl) ?_
  refine Lq.op (v := .int .i64 ((a.set.length : Int))) rfl rfl rfl (OpQ.lenStr rfl Tryd.runUnderlying9 rfl) ?_
  refine Lq.op (v := .int .i64 (left - ((a.set.length : Int)))) rfl rfl rfl (OpQ.sub rfl rfl rfl (by omega) (by omega)) ?_
  refine Lq.op (v := .int .i64 (left - ((a.set.length : Int)))) rfl rfl rfl (OpQ.assign rfl rfl) ?_
  refine Lq.nil ?_
  refine Kt.onSub (e' := [(1, .int .i64 (left - ((a.set.length : Int)))), (2, .pointer (some ⟨p2, 0, none⟩))]) (Sub.cons rfl (Sub.cons rfl Sub.nil)) ?_
  refine Wk.seq ?_
  refine Wk.seq ?_
  refine Wk.regionQ ?_
  refine Lq.op (v := .int .i64 (left - ((a.set.length : Int)))) rfl rfl rfl (OpQ.move rfl rfl) ?_
  refine Lq.op (v := .bool (decide ((left - ((a.set.length : Int))) < (0 : Int)))) rfl rfl rfl (OpQ.lss rfl rfl rfl) ?_
  refine Lq.nil ?_
  refine Kt.onSub (e' := [(1, .int .i64 (left - ((a.set.length : Int)))), (2, .pointer (some ⟨p2, 0, none⟩)), (11, .bool (decide ((left - ((a.set.length : Int))) < (0 : Int))))]) (Sub.cons rfl (Sub.cons rfl (Sub.cons rfl Sub.nil))) ?_
  refine Wk.cond (b := decide ((left - ((a.set.length : Int))) < (0 : Int))) rfl (fun h11 => ?_) (fun h11 => ?_)
  · skip
    replace h11 := of_decide_eq_true h11
    refine Wk.seq ?_
    refine Wk.regionQ ?_
    refine Lq.op (v := .int .i64 (-1)) rfl rfl rfl (OpQ.assign rfl rfl) ?_
    refine Lq.nil ?_
    refine Kt.onSub (e' := [(4, .int .i64 (-1))]) (Sub.cons rfl Sub.nil) ?_
    refine Wk.ret (Kt.end1 rfl rfl fun w' hw => ?_)
    -- ret 0: .int .i64 (-1)
    exact ⟨ret_i (by unfold szB; simp [*]), hw.below⟩
  · skip
    replace h11 := of_decide_eq_false h11
    refine Wk.skip ?_
    refine Kt.onSub (e' := [(1, .int .i64 (left - ((a.set.length : Int)))), (2, .pointer (some ⟨p2, 0, none⟩))]) (Sub.cons rfl (Sub.cons rfl Sub.nil)) ?_
    refine Wk.seq ?_
    refine Wk.regionQ ?_
    refine Lq.op (v := .int .i64 (left - ((a.set.length : Int)))) rfl rfl rfl (OpQ.move rfl rfl) ?_
    refine Lq.op (v := .pointer (some ⟨p2, 2, none⟩)) rfl rfl rfl (OpQ.fieldAddr rfl Tryd.runUnderlying23 rfl Tryd.sizeOf9 rfl rfl) ?_
    refine Lq.op (v := str a.rel) rfl rfl rfl (OpQ.loadOwn 0 rfl Tryd.isAgg9 rfl rfl rfl) ?_
    refine Lq.op (v := .int .i64 ((a.rel.length : Int))) rfl rfl rfl (OpQ.lenStr rfl Tryd.runUnderlying9 rfl) ?_
    refine Lq.op (v := .int .i64 ((left - ((a.set.length : Int))) - ((a.rel.length : Int)))) rfl rfl rfl (OpQ.sub rfl rfl rfl (by omega) (by omega)) ?_
    refine Lq.op (v := .int .i64 ((left - ((a.set.length : Int))) - ((a.rel.length : Int)))) rfl rfl rfl (OpQ.assign rfl rfl) ?_
    refine Lq.nil ?_
    refine Kt.onSub (e' := [(1, .int .i64 ((left - ((a.set.length : Int))) - ((a.rel.length : Int))))]) (Sub.cons rfl Sub.nil) ?_
    refine Wk.seq ?_
    refine Wk.seq ?_
    refine Wk.regionQ ?_
    refine Lq.op (v := .int .i64 ((left - ((a.set.length : Int))) - ((a.rel.length : Int)))) rfl rfl rfl (OpQ.move rfl rfl) ?_
    refine Lq.op (v := .bool (decide (((left - ((a.set.length : Int))) - ((a.rel.length : Int))) < (0 : Int)))) rfl rfl rfl (OpQ.lss rfl rfl rfl) ?_
    refine Lq.nil ?_
    refine Kt.onSub (e' := [(1, .int .i64 ((left - ((a.set.length : Int))) - ((a.rel.length : Int)))), (18, .bool (decide (((left - ((a.set.length : Int))) - ((a.rel.length : Int))) < (0 : Int))))]) (Sub.cons rfl (Sub.cons rfl Sub.nil)) ?_
    refine Wk.cond (b := decide (((left - ((a.set.length : Int))) - ((a.rel.length : Int))) < (0 : Int))) rfl (fun h18 => ?_) (fun h18 => ?_)
    · skip
      replace h18 := of_decide_eq_true h18
      refine Wk.seq ?_
      refine Wk.regionQ ?_
      refine Lq.op (v := .int .i64 (-1)) rfl rfl rfl (OpQ.assign rfl rfl) ?_
      refine Lq.nil ?_
      refine Kt.onSub (e' := [(4, .int .i64 (-1))]) (Sub.cons rfl Sub.nil) ?_
      refine Wk.ret (Kt.end1 rfl rfl fun w' hw => ?_)
      -- ret 1: .int .i64 (-1)
      exact ⟨ret_i (by unfold szB; simp [*]), hw.below⟩
    · skip
      replace h18 := of_decide_eq_false h18
      refine Wk.skip ?_
      refine Kt.onSub (e' := [(1, .int .i64 ((left - ((a.set.length : Int))) - ((a.rel.length : Int))))]) (Sub.cons rfl Sub.nil) ?_
      refine Wk.seq ?_
      refine Wk.regionQ ?_
      refine Lq.op (v := .int .i64 ((left - ((a.set.length : Int))) - ((a.rel.length : Int)))) rfl rfl rfl (OpQ.move rfl rfl) ?_
      refine Lq.op (v := .int .i64 ((left - ((a.set.length : Int))) - ((a.rel.length : Int)))) rfl rfl rfl (OpQ.assign rfl rfl) ?_
      refine Lq.nil ?_
      refine Kt.onSub (e' := [(4, .int .i64 ((left - ((a.set.length : Int))) - ((a.rel.length : Int))))]) (Sub.cons rfl Sub.nil) ?_
      refine Wk.ret (Kt.end1 rfl rfl fun w' hw => ?_)
      -- ret 2: .int .i64 ((left - ((a.set.length : Int))) - ((a.rel.length : Int)))
      exact ⟨ret_i (by unfold szB; simp [*]), hw.below⟩

set_option maxHeartbeats 400000 in
/-- laws.toStructure -/
theorem toSt_ok (a : St) (w : World) :
    Calls Tryd.prog 17 [vS a].toArray w fun en w' => en = .returned (vS a) ∧ Below w.heap.size w w' := by
  refine fnStart (n := 14) (e := [(0, vS a)]) Tryd.func17 rfl rfl rfl rfl Ends.both ?_
  refine Wk.seq ?_
  refine Wk.region ?_
  refine Ll.box (v := vS a) rfl rfl rfl rfl rfl fun p1 hp1 => ?_
  show Ll _ _ (Own _ _ [(p1, .cells #[.int .i64 a.n, str a.set, str a.rel] 23 (0, 0))]) _ _ ((1, .pointer (some ⟨p1, 0, none⟩)) :: _) _ _ _
  refine Ll.alloc rfl rfl rfl rfl Tryd.zeroValue26 fun p2 hp2 => ?_
  show Ll _ _ (Own _ _ [(p2, .cells #[.int .i64 0, str ([]), str ([])] 26 (0, 0)), (p1, .cells #[.int .i64 a.n, str a.set, str a.rel] 23 (0, 0))]) _ _ ((2, .pointer (some ⟨p2, 0, none⟩)) :: _) _ _ _
  refine Ll.nil ?_
  refine Kt.onSub (e' := [(1, .pointer (some ⟨p1, 0, none⟩)), (2, .pointer (some ⟨p2, 0, none⟩))]) (Sub.cons rfl (Sub.cons rfl Sub.nil)) ?_
  refine Wk.seq ?_
  refine Wk.region ?_
  refine Ll.alloc rfl rfl rfl rfl Tryd.zeroValue26 fun p3 hp3 => ?_
  show Ll _ _ (Own _ _ [(p3, .cells #[.int .i64 0, str ([]), str ([])] 26 (0, 0)), (p2, .cells #[.int .i64 0, str ([]), str ([])] 26 (0, 0)), (p1, .cells #[.int .i64 a.n, str a.set, str a.rel] 23 (0, 0))]) _ _ ((3, .pointer (some ⟨p3, 0, none⟩)) :: _) _ _ _
  refine Ll.nil ?_
  refine Kt.onSub (e' := [(1, .pointer (some ⟨p1, 0, none⟩)), (2, .pointer (some ⟨p2, 0, none⟩)), (3, .pointer (some ⟨p3, 0, none⟩))]) (Sub.cons rfl (Sub.cons rfl (Sub.cons rfl Sub.nil))) ?_
  refine Wk.seq ?_
  refine Wk.region ?_
  refine Ll.op (v := .pointer (some ⟨p1, 0, none⟩)) rfl rfl rfl (OpQ.fieldAddr rfl Tryd.runUnderlying23 rfl Tryd.sizeOf3 rfl rfl) ?_
  refine Ll.op (v := .int .i64 a.n) rfl rfl rfl (OpQ.loadOwn 2 rfl Tryd.isAgg3 rfl rfl rfl) ?_
  refine Ll.op (v := .pointer (some ⟨p3, 0, none⟩)) rfl rfl rfl (OpQ.fieldAddr rfl Tryd.runUnderlying26 rfl Tryd.sizeOf3 rfl rfl) ?_
  refine Ll.store1 (v := .int .i64 a.n) (hs' := [(p3, .cells #[.int .i64 a.n, str ([]), str ([])] 26 (0, 0)), (p2, .cells #[.int .i64 0, str ([]), str ([])] 26 (0, 0)), (p1, .cells #[.int .i64 a.n, str a.set, str a.rel] 23 (0, 0))]) 0 rfl rfl rfl rfl rfl rfl Tryd.sizeOf3 rfl (by simp) rfl ?_
  refine Ll.nil ?_
  refine Kt.onSub (e' := [(1, .pointer (some ⟨p1, 0, none⟩)), (2, .pointer (some ⟨p2, 0, none⟩)), (3, .pointer (some ⟨p3, 0, none⟩))]) (Sub.cons rfl (Sub.cons rfl (Sub.cons rfl Sub.nil))) ?_
  refine Wk.seq ?_
  refine Wk.region ?_
  refine Ll.op (v := .pointer (some ⟨p1, 1, none⟩)) rfl rfl rfl (OpQ.fieldAddr rfl Tryd.runUnderlying23 rfl Tryd.sizeOf9 rfl rfl) ?_
  refine Ll.op (v := str a.set) rfl rfl rfl (OpQ.loadOwn 2 rfl Tryd.isAgg9 rfl rfl rfl) ?_
  refine Ll.op (v := .pointer (some ⟨p3, 1, none⟩)) rfl rfl rfl (OpQ.fieldAddr rfl Tryd.runUnderlying26 rfl Tryd.sizeOf9 rfl rfl) ?_
  refine Ll.store1 (v := str a.set) (hs' := [(p3, .cells #[.int .i64 a.n, str a.set, str ([])] 26 (0, 0)), (p2, .cells #[.int .i64 0, str ([]), str ([])] 26 (0, 0)), (p1, .cells #[.int .i64 a.n, str a.set, str a.rel] 23 (0, 0))]) 0 rfl rfl rfl rfl rfl rfl Tryd.sizeOf9 rfl (by simp) rfl ?_
  refine Ll.nil ?_
  refine Kt.onSub (e' := [(1, .pointer (some ⟨p1, 0, none⟩)), (2, .pointer (some ⟨p2, 0, none⟩)), (3, .pointer (some ⟨p3, 0, none⟩))]) (Sub.cons rfl (Sub.cons rfl (Sub.cons rfl Sub.nil))) ?_
  refine Wk.seq ?_
  refine Wk.region ?_
  refine Ll.op (v := .pointer (some ⟨p1, 2, none⟩)) rfl rfl rfl (OpQ.fieldAddr rfl Tryd.runUnderlying23 rfl Tryd.sizeOf9 rfl rfl) ?_
  refine Ll.op (v := str a.rel) rfl rfl rfl (OpQ.loadOwn 2 rfl Tryd.isAgg9 rfl rfl rfl) ?_
  refine Ll.op (v := .pointer (some ⟨p3, 2, none⟩)) rfl rfl rfl (OpQ.fieldAddr rfl Tryd.runUnderlying26 rfl Tryd.sizeOf9 rfl rfl) ?_
  refine Ll.store1 (v := str a.rel) (hs' := [(p3, .cells #[.int .i64 a.n, str a.set, str a.rel] 26 (0, 0)), (p2, .cells #[.int .i64 0, str ([]), str ([])] 26 (0, 0)), (p1, .cells #[.int .i64 a.n, str a.set, str a.rel] 23 (0, 0))]) 0 rfl rfl rfl rfl rfl rfl Tryd.sizeOf9 rfl (by simp) rfl ?_
  refine Ll.nil ?_
  refine Kt.onSub (e' := [(2, .pointer (some ⟨p2, 0, none⟩)), (3, .pointer (some ⟨p3, 0, none⟩))]) (Sub.cons rfl (Sub.cons rfl Sub.nil)) ?_
  refine Wk.seq ?_
  refine Wk.region ?_
  refine Ll.op (v := .agg #[.int .i64 a.n, str a.set, str a.rel]) rfl rfl rfl (OpQ.loadBox (cs := #[.int .i64 a.n, str a.set, str a.rel]) 0 rfl Tryd.isAgg26 rfl rfl Tryd.sizeOf26) ?_
  refine Ll.storeBox (cs' := #[.int .i64 a.n, str a.set, str a.rel]) (hs' := [(p3, .cells #[.int .i64 a.n, str a.set, str a.rel] 26 (0, 0)), (p2, .cells #[.int .i64 a.n, str a.set, str a.rel] 26 (0, 0)), (p1, .cells #[.int .i64 a.n, str a.set, str a.rel] 23 (0, 0))]) 1 rfl rfl rfl rfl rfl (by kernel_rfl : _ = some Tryd.t26) rfl rfl rfl rfl rfl ?_
  refine Ll.nil ?_
  refine Kt.onSub (e' := [(2, .pointer (some ⟨p2, 0, none⟩))]) (Sub.cons rfl Sub.nil) ?_
  refine Wk.ret (Kt.endBox (cs := #[.int .i64 a.n, str a.set, str a.rel]) 1 rfl rfl rfl Tryd.isAgg26 Tryd.sizeOf26 fun w' hw => ?_)
  -- ret 0: .pointer (some ⟨p2, 0, none⟩)
  exact ⟨rfl, hw.below⟩

set_option maxHeartbeats 400000 in
/-- laws.eqIntS -/
theorem eqInt_ok (va vb : Value) (xs ys : List Int) (w : World) (hva : Ints w va xs) (hvb : Ints w vb ys) (hs : xs.length ≤ 140737488355328) :
    Calls Tryd.prog 24 [va, vb].toArray w fun en w' => en = .returned (.bool (xs == ys)) ∧ Below w.heap.size w w' := by
  refine fnStart (n := 26) (e := [(0, va), (1, vb)]) Tryd.func24 rfl rfl rfl rfl Ends.both ?_
  refine Wk.seq ?_
  refine Wk.regionQ ?_
  refine Lq.op (v := .bool false) rfl rfl rfl (OpQ.assign rfl rfl) ?_
  refine Lq.nil ?_
  refine Kt.onSub (e' := [(0, va), (1, vb)]) (Sub.cons rfl (Sub.cons rfl Sub.nil)) ?_
  refine Wk.seq ?_
  refine Wk.seq ?_
  refine Wk.regionQ ?_
  refine Lq.op (v := va) rfl rfl rfl (OpQ.move rfl rfl) ?_
  refine Lq.op (v := .int .i64 ((xs.length : Int))) rfl rfl rfl (OpQ.lenRow rfl Tryd.runUnderlying31 rfl (ints_length _) (fun w1 hw1 => Row.own hva hw1)) ?_
  refine Lq.op (v := vb) rfl rfl rfl (OpQ.move rfl rfl) ?_
  refine Lq.op (v := .int .i64 ((ys.length : Int))) rfl rfl rfl (OpQ.lenRow rfl Tryd.runUnderlying31 rfl (ints_length _) (fun w1 hw1 => Row.own hvb hw1)) ?_
  refine Lq.op (v := .bool (!(decide (((xs.length : Int)) = ((ys.length : Int)))))) rfl rfl rfl (OpQ.neq rfl rfl rfl) ?_
  refine Lq.nil ?_
  refine Kt.onSub (e' := [(0, va), (1, vb), (10, .bool (!(decide (((xs.length : Int)) = ((ys.length : Int))))))]) (Sub.cons rfl (Sub.cons rfl (Sub.cons rfl Sub.nil))) ?_
  refine Wk.cond (b := !(decide (((xs.length : Int)) = ((ys.length : Int))))) rfl (fun h10 => ?_) (fun h10 => ?_)
  · skip
    replace h10 := not_true h10
    replace h10 := of_decide_eq_false h10
    refine Wk.seq ?_
    refine Wk.regionQ ?_
    refine Lq.op (v := .bool false) rfl rfl rfl (OpQ.assign rfl rfl) ?_
    refine Lq.nil ?_
    refine Kt.onSub (e' := [(4, .bool false)]) (Sub.cons rfl Sub.nil) ?_
    refine Wk.ret (Kt.end1 rfl rfl fun w' hw => ?_)
    -- ret 0: .bool false
    have hf : (xs == ys) = false := by
      rw [beq_eq_false_iff_ne]; rintro rfl; simp_all
    exact ⟨ret_b hf.symm, hw.below⟩
  · skip
    replace h10 := not_false h10
    replace h10 := of_decide_eq_true h10
    have hlen : xs.length = ys.length := by omega
    refine Wk.skip ?_
    refine Kt.onSub (e' := [(0, va), (1, vb)]) (Sub.cons rfl (Sub.cons rfl Sub.nil)) ?_
    refine Wk.seq ?_
    refine Wk.seq ?_
    refine Wk.regionQ ?_
    refine Lq.op (v := .int .i64 0) rfl rfl rfl (OpQ.assign rfl rfl) ?_
    refine Lq.nil ?_
    refine Kt.onSub (e' := [(0, va), (1, vb), (5, .int .i64 0)]) (Sub.cons rfl (Sub.cons rfl (Sub.cons rfl Sub.nil))) ?_
    refine Wk.block ?_
    refine Wk.loop (σ := Nat) (fun k => k ≤ xs.length ∧ xs.take k = ys.take k) (fun k => [(0, va), (1, vb), (5, .int .i64 ((k : Int)))]) (fun k => Own w.heap.size w []) (fun k => xs.length - k) (0) ⟨by omega, rfl⟩ (Sub.cons rfl (Sub.cons rfl (Sub.cons rfl Sub.nil))) (fun _ h => h) ?_
    rintro k ⟨hk, hall⟩
    refine Wk.seq ?_
    refine Wk.seq ?_
    refine Wk.regionQ ?_
    refine Lq.op (v := .int .i64 ((k : Int))) rfl rfl rfl (OpQ.move rfl rfl) ?_
    refine Lq.op (v := va) rfl rfl rfl (OpQ.move rfl rfl) ?_
    refine Lq.op (v := .int .i64 ((xs.length : Int))) rfl rfl rfl (OpQ.lenRow rfl Tryd.runUnderlying31 rfl (ints_length _) (fun w1 hw1 => Row.own hva hw1)) ?_
    refine Lq.op (v := .bool (decide (((k : Int)) < ((xs.length : Int))))) rfl rfl rfl (OpQ.lss rfl rfl rfl) ?_
    refine Lq.nil ?_
    refine Kt.onSub (e' := [(0, va), (1, vb), (5, .int .i64 ((k : Int))), (14, .bool (decide (((k : Int)) < ((xs.length : Int)))))]) (Sub.cons rfl (Sub.cons rfl (Sub.cons rfl (Sub.cons rfl Sub.nil)))) ?_
    refine Wk.cond (b := decide (((k : Int)) < ((xs.length : Int)))) rfl (fun h14 => ?_) (fun h14 => ?_)
    · skip
      replace h14 := of_decide_eq_true h14
      refine Wk.skip ?_
      refine Kt.onSub (e' := [(0, va), (1, vb), (5, .int .i64 ((k : Int)))]) (Sub.cons rfl (Sub.cons rfl (Sub.cons rfl Sub.nil))) ?_
      refine Wk.seq ?_
      refine Wk.block ?_
      refine Wk.seq ?_
      refine Wk.regionD Base.mixed (fun _ h => h.drawn) (by kernel_rfl) ?_
      refine Lq.op (v := va) rfl rfl rfl (OpQ.move rfl rfl) ?_
      refine Lq.op (v := .int .i64 ((k : Int))) rfl rfl rfl (OpQ.move rfl rfl) ?_
      refine Lq.op (v := .pointer (some (sAt va ((k : Int))))) rfl rfl rfl (OpQ.atRow rfl Tryd.runUnderlying31 Tryd.sizeOf3 rfl rfl (by omega) (by rw [ints_length]; omega) (fun w1 hw1 => Row.own hva hw1)) ?_
      refine Lq.op (v := .int .i64 (xs.getD (((k : Int)).toNat) 0)) rfl rfl rfl (OpQ.load1 rfl Tryd.isAgg3 rfl (fun w1 hw1 => Ints.cell (Row.own hva hw1) (by omega) (by omega))) ?_
      refine Lq.op (v := vb) rfl rfl rfl (OpQ.move rfl rfl) ?_
      refine Lq.op (v := .int .i64 ((k : Int))) rfl rfl rfl (OpQ.move rfl rfl) ?_
      refine Lq.op (v := .pointer (some (sAt vb ((k : Int))))) rfl rfl rfl (OpQ.atRow rfl Tryd.runUnderlying31 Tryd.sizeOf3 rfl rfl (by omega) (by rw [ints_length]; omega) (fun w1 hw1 => Row.own hvb hw1)) ?_
      refine Lq.op (v := .int .i64 (ys.getD (((k : Int)).toNat) 0)) rfl rfl rfl (OpQ.load1 rfl Tryd.isAgg3 rfl (fun w1 hw1 => Ints.cell (Row.own hvb hw1) (by omega) (by omega))) ?_
      refine Lq.op (v := .bool (!(decide ((xs.getD (((k : Int)).toNat) 0) = (ys.getD (((k : Int)).toNat) 0))))) rfl rfl rfl (OpQ.neq rfl rfl rfl) ?_
      refine Lq.nil ?_
      refine Kt.onSub (e' := [(0, va), (1, vb), (5, .int .i64 ((k : Int))), (25, .bool (!(decide ((xs.getD (((k : Int)).toNat) 0) = (ys.getD (((k : Int)).toNat) 0)))))]) (Sub.cons rfl (Sub.cons rfl (Sub.cons rfl (Sub.cons rfl Sub.nil)))) ?_
      refine Wk.cond (b := !(decide ((xs.getD (((k : Int)).toNat) 0) = (ys.getD (((k : Int)).toNat) 0)))) rfl (fun h25 => ?_) (fun h25 => ?_)
      · skip
        replace h25 := not_true h25
        replace h25 := of_decide_eq_false h25
        refine Wk.seq ?_
        refine Wk.regionQ ?_
        refine Lq.op (v := .bool false) rfl rfl rfl (OpQ.assign rfl rfl) ?_
        refine Lq.nil ?_
        refine Kt.onSub (e' := [(4, .bool false)]) (Sub.cons rfl Sub.nil) ?_
        refine Wk.ret (Kt.end1 rfl rfl fun w' hw => ?_)
        -- ret 1: .bool false
        have hf : (xs == ys) = false := by
          rw [beq_eq_false_iff_ne]; rintro rfl; simp_all
        exact ⟨ret_b hf.symm, hw.below⟩
      · skip
        replace h25 := not_false h25
        replace h25 := of_decide_eq_true h25
        refine Wk.skip ?_
        refine Kt.onSub (e' := [(0, va), (1, vb), (5, .int .i64 ((k : Int)))]) (Sub.cons rfl (Sub.cons rfl (Sub.cons rfl Sub.nil))) ?_
        refine Wk.regionQ ?_
        refine Lq.op (v := .int .i64 ((k : Int))) rfl rfl rfl (OpQ.move rfl rfl) ?_
        refine Lq.op (v := .int .i64 (((k : Int)) + (1 : Int))) rfl rfl rfl (OpQ.add rfl rfl rfl (by omega) (by omega)) ?_
        refine Lq.op (v := .int .i64 (((k : Int)) + (1 : Int))) rfl rfl rfl (OpQ.assign rfl rfl) ?_
        refine Lq.nil ?_
        refine Kt.again (k + 1) ⟨by omega, eq_take (by omega) (by omega) hall (by simpa using h25)⟩ (by omega) (Sub.cons rfl (Sub.cons rfl (Sub.cons rfl Sub.nil))) (fun _ h => h)
    · skip
      replace h14 := of_decide_eq_false h14
      refine Wk.exit rfl ?_
      refine Kt.onSub (e' := []) Sub.nil ?_
      refine Wk.seq ?_
      refine Wk.regionQ ?_
      refine Lq.op (v := .bool true) rfl rfl rfl (OpQ.assign rfl rfl) ?_
      refine Lq.nil ?_
      refine Kt.onSub (e' := [(4, .bool true)]) (Sub.cons rfl Sub.nil) ?_
      refine Wk.ret (Kt.end1 rfl rfl fun w' hw => ?_)
      -- ret 2: .bool true
      exact ⟨ret_b (by rw [List.take_of_length_le (by omega), List.take_of_length_le (by omega)] at hall; simp [hall]), hw.below⟩

set_option maxHeartbeats 400000 in
/-- laws.markIntS -/
theorem markInt_ok (g n cap T : Nat) (cur : Array Value) (k : Int) (w : World) (hg : w.heap[g]? = some (.cells cur T (0, 0))) (hn : n ≤ cur.size) (hs : n ≤ 140737488355328) (hk0 : 0 ≤ k) (hk1 : k ≤ 1048576) :
    Calls Tryd.prog 31 [.slice (some ⟨g, 0, none⟩) n cap, .int .i64 k].toArray w fun en w' => en = .returned (.int .i64 (k + n)) ∧ w' = w.setRow g (markA cur k n) := by
  refine fnStartC (fun w1 => w1 = w.setRow g (markA cur k 0)) (n := 19) (e := [(0, .slice (some ⟨g, 0, none⟩) n cap), (1, .int .i64 k)]) Tryd.func31 rfl rfl rfl rfl Ends.both (row_self hg).symm ?_
  refine Wk.seq ?_
  refine Wk.regionQ ?_
  refine Lq.op (v := .int .i64 0) rfl rfl rfl (OpQ.assign rfl rfl) ?_
  refine Lq.nil ?_
  refine Kt.onSub (e' := [(0, .slice (some ⟨g, 0, none⟩) n cap), (1, .int .i64 k)]) (Sub.cons rfl (Sub.cons rfl Sub.nil)) ?_
  refine Wk.seq ?_
  refine Wk.seq ?_
  refine Wk.regionQ ?_
  refine Lq.op (v := .int .i64 0) rfl rfl rfl (OpQ.assign rfl rfl) ?_
  refine Lq.nil ?_
  refine Kt.onSub (e' := [(0, .slice (some ⟨g, 0, none⟩) n cap), (1, .int .i64 k), (5, .int .i64 0)]) (Sub.cons rfl (Sub.cons rfl (Sub.cons rfl Sub.nil))) ?_
  refine Wk.block ?_
  refine Wk.loop (σ := Nat) (fun i => i ≤ n) (fun i => [(0, .slice (some ⟨g, 0, none⟩) n cap), (1, .int .i64 ((k + (i : Int)))), (5, .int .i64 ((i : Int)))]) (fun i => (fun w1 => w1 = w.setRow g (markA cur k i))) (fun i => n - i) (0) (by omega) (Sub.cons rfl (Sub.cons (by simp [List.lookup]) (Sub.cons rfl Sub.nil))) (fun _ h => h) ?_
  rintro i hi
  refine Wk.seq ?_
  refine Wk.seq ?_
  refine Wk.regionQ ?_
  refine Lq.op (v := .int .i64 ((i : Int))) rfl rfl rfl (OpQ.move rfl rfl) ?_
  refine Lq.op (v := .slice (some ⟨g, 0, none⟩) n cap) rfl rfl rfl (OpQ.move rfl rfl) ?_
  refine Lq.op (v := .int .i64 ((n : Int))) rfl rfl rfl (OpQ.lenS rfl Tryd.runUnderlying31 rfl) ?_
  refine Lq.op (v := .bool (decide (((i : Int)) < ((n : Int))))) rfl rfl rfl (OpQ.lss rfl rfl rfl) ?_
  refine Lq.nil ?_
  refine Kt.onSub (e' := [(0, .slice (some ⟨g, 0, none⟩) n cap), (1, .int .i64 ((k + (i : Int)))), (5, .int .i64 ((i : Int))), (9, .bool (decide (((i : Int)) < ((n : Int)))))]) (Sub.cons rfl (Sub.cons rfl (Sub.cons rfl (Sub.cons rfl Sub.nil)))) ?_
  refine Wk.cond (b := decide (((i : Int)) < ((n : Int)))) rfl (fun h9 => ?_) (fun h9 => ?_)
  · skip
    replace h9 := of_decide_eq_true h9
    refine Wk.skip ?_
    refine Kt.onSub (e' := [(0, .slice (some ⟨g, 0, none⟩) n cap), (1, .int .i64 ((k + (i : Int)))), (5, .int .i64 ((i : Int)))]) (Sub.cons rfl (Sub.cons rfl (Sub.cons rfl Sub.nil))) ?_
    refine Wk.seq ?_
    refine Wk.block ?_
    refine Wk.seq ?_
    refine Wk.region ?_
    refine Ll.op (v := .slice (some ⟨g, 0, none⟩) n cap) rfl rfl rfl (OpQ.move rfl rfl) ?_
    refine Ll.op (v := .int .i64 ((i : Int))) rfl rfl rfl (OpQ.move rfl rfl) ?_
    refine Ll.op (v := .int .i64 ((k + (i : Int)))) rfl rfl rfl (OpQ.move rfl rfl) ?_
    refine Ll.op (v := .pointer (some ⟨g, 0 + ((i : Int)).toNat, none⟩)) rfl rfl rfl (OpQ.indexAddr1 rfl Tryd.runUnderlying31 Tryd.sizeOf3 rfl rfl (by omega) (by omega)) ?_
    refine Ll.storeExact (v := .int .i64 (k + (i : Int))) (g := g) (off := i) rfl rfl rfl (by simp [opd, List.lookup]) rfl rfl Tryd.sizeOf3 hg (by first | (simp; done) | (simp; omega) | omega) ?_
    refine Ll.nil ?_
    refine Kt.onSub (e' := [(0, .slice (some ⟨g, 0, none⟩) n cap), (1, .int .i64 ((k + (i : Int)))), (5, .int .i64 ((i : Int)))]) (Sub.cons rfl (Sub.cons rfl (Sub.cons rfl Sub.nil))) ?_
    refine Wk.regionQ ?_
    refine Lq.op (v := .int .i64 ((k + (i : Int)))) rfl rfl rfl (OpQ.move rfl rfl) ?_
    refine Lq.op (v := .int .i64 (((k + (i : Int))) + (1 : Int))) rfl rfl rfl (OpQ.add rfl rfl rfl (by omega) (by omega)) ?_
    refine Lq.op (v := .int .i64 (((k + (i : Int))) + (1 : Int))) rfl rfl rfl (OpQ.assign rfl rfl) ?_
    refine Lq.nil ?_
    refine Kt.onSub (e' := [(0, .slice (some ⟨g, 0, none⟩) n cap), (1, .int .i64 (((k + (i : Int))) + (1 : Int))), (5, .int .i64 ((i : Int)))]) (Sub.cons rfl (Sub.cons rfl (Sub.cons rfl Sub.nil))) ?_
    refine Wk.regionQ ?_
    refine Lq.op (v := .int .i64 ((i : Int))) rfl rfl rfl (OpQ.move rfl rfl) ?_
    refine Lq.op (v := .int .i64 (((i : Int)) + (1 : Int))) rfl rfl rfl (OpQ.add rfl rfl rfl (by omega) (by omega)) ?_
    refine Lq.op (v := .int .i64 (((i : Int)) + (1 : Int))) rfl rfl rfl (OpQ.assign rfl rfl) ?_
    refine Lq.nil ?_
    refine Kt.again (i + 1) (by omega) (by omega) (Sub.cons rfl (Sub.cons (by simp [List.lookup]; omega) (Sub.cons rfl Sub.nil))) (fun _ h => h)
  · skip
    replace h9 := of_decide_eq_false h9
    refine Wk.exit rfl ?_
    refine Kt.onSub (e' := [(1, .int .i64 ((k + (i : Int))))]) (Sub.cons rfl Sub.nil) ?_
    refine Wk.seq ?_
    refine Wk.regionQ ?_
    refine Lq.op (v := .int .i64 ((k + (i : Int)))) rfl rfl rfl (OpQ.move rfl rfl) ?_
    refine Lq.op (v := .int .i64 ((k + (i : Int)))) rfl rfl rfl (OpQ.assign rfl rfl) ?_
    refine Lq.nil ?_
    refine Kt.onSub (e' := [(4, .int .i64 ((k + (i : Int))))]) (Sub.cons rfl Sub.nil) ?_
    refine Wk.ret (Kt.end1 rfl rfl fun w' hw => ?_)
    -- ret 0: .int .i64 ((k + (i : Int)))
    exact ⟨ret_i (by omega), by obtain rfl : i = n := (by omega); exact hw⟩

set_option maxHeartbeats 400000 in
/-- laws.markIntS|nil -/
theorem markInt0_ok (k : Int) (w : World) :
    Calls Tryd.prog 31 [.slice none 0 0, .int .i64 k].toArray w fun en w' => en = .returned (.int .i64 k) ∧ Below w.heap.size w w' := by
  refine fnStart (n := 19) (e := [(0, .slice none 0 0), (1, .int .i64 k)]) Tryd.func31 rfl rfl rfl rfl Ends.both ?_
  refine Wk.seq ?_
  refine Wk.regionQ ?_
  refine Lq.op (v := .int .i64 0) rfl rfl rfl (OpQ.assign rfl rfl) ?_
  refine Lq.nil ?_
  refine Kt.onSub (e' := [(0, .slice none 0 0), (1, .int .i64 k)]) (Sub.cons rfl (Sub.cons rfl Sub.nil)) ?_
  refine Wk.seq ?_
  refine Wk.seq ?_
  refine Wk.regionQ ?_
  refine Lq.op (v := .int .i64 0) rfl rfl rfl (OpQ.assign rfl rfl) ?_
  refine Lq.nil ?_
  refine Kt.onSub (e' := [(0, .slice none 0 0), (1, .int .i64 k), (5, .int .i64 0)]) (Sub.cons rfl (Sub.cons rfl (Sub.cons rfl Sub.nil))) ?_
  refine Wk.block ?_
  refine Wk.loop (σ := Unit) (fun u => True) (fun u => [(0, .slice none 0 0), (1, .int .i64 k), (5, .int .i64 0)]) (fun u => Own w.heap.size w []) (fun u => 0) (()) trivial (Sub.cons rfl (Sub.cons rfl (Sub.cons rfl Sub.nil))) (fun _ h => h) ?_
  rintro u _hu
  refine Wk.seq ?_
  refine Wk.seq ?_
  refine Wk.regionQ ?_
  refine Lq.op (v := .int .i64 0) rfl rfl rfl (OpQ.move rfl rfl) ?_
  refine Lq.op (v := .slice none 0 0) rfl rfl rfl (OpQ.move rfl rfl) ?_
  refine Lq.op (v := .int .i64 ((0 : Int))) rfl rfl rfl (OpQ.lenS rfl Tryd.runUnderlying31 rfl) ?_
  refine Lq.op (v := .bool (decide ((0 : Int) < ((0 : Int))))) rfl rfl rfl (OpQ.lss rfl rfl rfl) ?_
  refine Lq.nil ?_
  refine Kt.onSub (e' := [(0, .slice none 0 0), (1, .int .i64 k), (5, .int .i64 0), (9, .bool (decide ((0 : Int) < ((0 : Int)))))]) (Sub.cons rfl (Sub.cons rfl (Sub.cons rfl (Sub.cons rfl Sub.nil)))) ?_
  refine Wk.cond (b := decide ((0 : Int) < ((0 : Int)))) rfl (fun h9 => ?_) (fun h9 => ?_)
  · skip
    replace h9 := of_decide_eq_true h9
    exact absurd h9 (by decide)
  · skip
    replace h9 := of_decide_eq_false h9
    refine Wk.exit rfl ?_
    refine Kt.onSub (e' := [(1, .int .i64 k)]) (Sub.cons rfl Sub.nil) ?_
    refine Wk.seq ?_
    refine Wk.regionQ ?_
    refine Lq.op (v := .int .i64 k) rfl rfl rfl (OpQ.move rfl rfl) ?_
    refine Lq.op (v := .int .i64 k) rfl rfl rfl (OpQ.assign rfl rfl) ?_
    refine Lq.nil ?_
    refine Kt.onSub (e' := [(4, .int .i64 k)]) (Sub.cons rfl Sub.nil) ?_
    refine Wk.ret (Kt.end1 rfl rfl fun w' hw => ?_)
    -- ret 0: .int .i64 k
    exact ⟨ret_i (by first | rfl | (simp_all; done) | (simp_all; omega)), hw.below⟩

set_option maxHeartbeats 400000 in
/-- laws.heldIntS -/
theorem heldInt_ok (va : Value) (xs : List Int) (k : Int) (w : World) (hva : Ints w va xs) (hs : xs.length ≤ 140737488355328) (hk0 : 0 ≤ k) (hk1 : k ≤ 1048576) :
    Calls Tryd.prog 32 [va, .int .i64 k].toArray w fun en w' => en = .returned (.int .i64 (heldV xs k)) ∧ Below w.heap.size w w' := by
  refine fnStart (n := 21) (e := [(0, va), (1, .int .i64 k)]) Tryd.func32 rfl rfl rfl rfl Ends.both ?_
  refine Wk.seq ?_
  refine Wk.regionQ ?_
  refine Lq.op (v := .int .i64 0) rfl rfl rfl (OpQ.assign rfl rfl) ?_
  refine Lq.nil ?_
  refine Kt.onSub (e' := [(0, va), (1, .int .i64 k)]) (Sub.cons rfl (Sub.cons rfl Sub.nil)) ?_
  refine Wk.seq ?_
  refine Wk.seq ?_
  refine Wk.regionQ ?_
  refine Lq.op (v := .int .i64 0) rfl rfl rfl (OpQ.assign rfl rfl) ?_
  refine Lq.nil ?_
  refine Kt.onSub (e' := [(0, va), (1, .int .i64 k), (5, .int .i64 0)]) (Sub.cons rfl (Sub.cons rfl (Sub.cons rfl Sub.nil))) ?_
  refine Wk.block ?_
  refine Wk.loop (σ := Nat) (fun i => i ≤ xs.length ∧ heldV xs k = heldV (xs.drop i) (k + i)) (fun i => [(0, va), (1, .int .i64 ((k + (i : Int)))), (5, .int .i64 ((i : Int)))]) (fun i => Own w.heap.size w []) (fun i => xs.length - i) (0) ⟨by omega, by simp⟩ (Sub.cons rfl (Sub.cons (by simp [List.lookup]) (Sub.cons rfl Sub.nil))) (fun _ h => h) ?_
  rintro i ⟨hi, hall⟩
  refine Wk.seq ?_
  refine Wk.seq ?_
  refine Wk.regionQ ?_
  refine Lq.op (v := .int .i64 ((i : Int))) rfl rfl rfl (OpQ.move rfl rfl) ?_
  refine Lq.op (v := va) rfl rfl rfl (OpQ.move rfl rfl) ?_
  refine Lq.op (v := .int .i64 ((xs.length : Int))) rfl rfl rfl (OpQ.lenRow rfl Tryd.runUnderlying31 rfl (ints_length _) (fun w1 hw1 => Row.own hva hw1)) ?_
  refine Lq.op (v := .bool (decide (((i : Int)) < ((xs.length : Int))))) rfl rfl rfl (OpQ.lss rfl rfl rfl) ?_
  refine Lq.nil ?_
  refine Kt.onSub (e' := [(0, va), (1, .int .i64 ((k + (i : Int)))), (5, .int .i64 ((i : Int))), (9, .bool (decide (((i : Int)) < ((xs.length : Int)))))]) (Sub.cons rfl (Sub.cons rfl (Sub.cons rfl (Sub.cons rfl Sub.nil)))) ?_
  refine Wk.cond (b := decide (((i : Int)) < ((xs.length : Int)))) rfl (fun h9 => ?_) (fun h9 => ?_)
  · skip
    replace h9 := of_decide_eq_true h9
    refine Wk.skip ?_
    refine Kt.onSub (e' := [(0, va), (1, .int .i64 ((k + (i : Int)))), (5, .int .i64 ((i : Int)))]) (Sub.cons rfl (Sub.cons rfl (Sub.cons rfl Sub.nil))) ?_
    refine Wk.seq ?_
    refine Wk.block ?_
    refine Wk.seq ?_
    refine Wk.seq ?_
    refine Wk.regionQ ?_
    refine Lq.op (v := va) rfl rfl rfl (OpQ.move rfl rfl) ?_
    refine Lq.op (v := .int .i64 ((i : Int))) rfl rfl rfl (OpQ.move rfl rfl) ?_
    refine Lq.op (v := .pointer (some (sAt va ((i : Int))))) rfl rfl rfl (OpQ.atRow rfl Tryd.runUnderlying31 Tryd.sizeOf3 rfl rfl (by omega) (by rw [ints_length]; omega) (fun w1 hw1 => Row.own hva hw1)) ?_
    refine Lq.op (v := .int .i64 (xs.getD (((i : Int)).toNat) 0)) rfl rfl rfl (OpQ.load1 rfl Tryd.isAgg3 rfl (fun w1 hw1 => Ints.cell (Row.own hva hw1) (by omega) (by omega))) ?_
    refine Lq.op (v := .int .i64 ((k + (i : Int)))) rfl rfl rfl (OpQ.move rfl rfl) ?_
    refine Lq.op (v := .bool (!(decide ((xs.getD (((i : Int)).toNat) 0) = ((k + (i : Int))))))) rfl rfl rfl (OpQ.neq rfl rfl rfl) ?_
    refine Lq.nil ?_
    refine Kt.onSub (e' := [(0, va), (1, .int .i64 ((k + (i : Int)))), (5, .int .i64 ((i : Int))), (17, .bool (!(decide ((xs.getD (((i : Int)).toNat) 0) = ((k + (i : Int)))))))]) (Sub.cons rfl (Sub.cons rfl (Sub.cons rfl (Sub.cons rfl Sub.nil)))) ?_
    refine Wk.cond (b := !(decide ((xs.getD (((i : Int)).toNat) 0) = ((k + (i : Int)))))) rfl (fun h17 => ?_) (fun h17 => ?_)
    · skip
      replace h17 := not_true h17
      replace h17 := of_decide_eq_false h17
      refine Wk.seq ?_
      refine Wk.regionQ ?_
      refine Lq.op (v := .int .i64 (-1)) rfl rfl rfl (OpQ.assign rfl rfl) ?_
      refine Lq.nil ?_
      refine Kt.onSub (e' := [(4, .int .i64 (-1))]) (Sub.cons rfl Sub.nil) ?_
      refine Wk.ret (Kt.end1 rfl rfl fun w' hw => ?_)
      -- ret 0: .int .i64 (-1)
      exact ⟨ret_i (by rw [hall, heldV_drop (by omega), if_neg (by simpa using h17)]), hw.below⟩
    · skip
      replace h17 := not_false h17
      replace h17 := of_decide_eq_true h17
      refine Wk.skip ?_
      refine Kt.onSub (e' := [(0, va), (1, .int .i64 ((k + (i : Int)))), (5, .int .i64 ((i : Int)))]) (Sub.cons rfl (Sub.cons rfl (Sub.cons rfl Sub.nil))) ?_
      refine Wk.regionQ ?_
      refine Lq.op (v := .int .i64 ((k + (i : Int)))) rfl rfl rfl (OpQ.move rfl rfl) ?_
      refine Lq.op (v := .int .i64 (((k + (i : Int))) + (1 : Int))) rfl rfl rfl (OpQ.add rfl rfl rfl (by omega) (by omega)) ?_
      refine Lq.op (v := .int .i64 (((k + (i : Int))) + (1 : Int))) rfl rfl rfl (OpQ.assign rfl rfl) ?_
      refine Lq.nil ?_
      refine Kt.onSub (e' := [(0, va), (1, .int .i64 (((k + (i : Int))) + (1 : Int))), (5, .int .i64 ((i : Int)))]) (Sub.cons rfl (Sub.cons rfl (Sub.cons rfl Sub.nil))) ?_
      refine Wk.regionQ ?_
      refine Lq.op (v := .int .i64 ((i : Int))) rfl rfl rfl (OpQ.move rfl rfl) ?_
      refine Lq.op (v := .int .i64 (((i : Int)) + (1 : Int))) rfl rfl rfl (OpQ.add rfl rfl rfl (by omega) (by omega)) ?_
      refine Lq.op (v := .int .i64 (((i : Int)) + (1 : Int))) rfl rfl rfl (OpQ.assign rfl rfl) ?_
      refine Lq.nil ?_
      refine Kt.again (i + 1) ⟨by omega, by rw [hall, heldV_drop (by omega), if_pos (by simpa using h17)]; congr 1; omega⟩ (by omega) (Sub.cons rfl (Sub.cons (by simp [List.lookup]; omega) (Sub.cons rfl Sub.nil))) (fun _ h => h)
  · skip
    replace h9 := of_decide_eq_false h9
    refine Wk.exit rfl ?_
    refine Kt.onSub (e' := [(1, .int .i64 ((k + (i : Int))))]) (Sub.cons rfl Sub.nil) ?_
    refine Wk.seq ?_
    refine Wk.regionQ ?_
    refine Lq.op (v := .int .i64 ((k + (i : Int)))) rfl rfl rfl (OpQ.move rfl rfl) ?_
    refine Lq.op (v := .int .i64 ((k + (i : Int)))) rfl rfl rfl (OpQ.assign rfl rfl) ?_
    refine Lq.nil ?_
    refine Kt.onSub (e' := [(4, .int .i64 ((k + (i : Int))))]) (Sub.cons rfl Sub.nil) ?_
    refine Wk.ret (Kt.end1 rfl rfl fun w' hw => ?_)
    -- ret 1: .int .i64 ((k + (i : Int)))
    exact ⟨ret_i (by rw [hall, List.drop_of_length_le (by omega)]; rfl), hw.below⟩

end Go.Proofs.YtcanofailfbllaaDoor
