/-
  THE WALKS of the law of SpreadOf and of all that it calls: each function, called with fitting arguments, gives what its plain twin gives, and turns nothing below. Conditions: those of each theorem.
-/
import Derived.Test.YtcimgnhebhhdiaaDoorBase
namespace Go.Proofs.YtcimgnhebhhdiaaDoor
open Go.RowKit Go.Wk

set_option maxHeartbeats 400000 in
/-- spec.l1In -/
theorem l1In_ok (n lo hi : Int) (w : World) :
    Calls Tryd.prog 63 [.int .i64 n, .int .i64 lo, .int .i64 hi].toArray w fun en w' => en = .returned (.bool (inB n lo hi)) ∧ Below w.heap.size w w' := by
  refine fnStart (n := 15) (e := [(0, .int .i64 n), (1, .int .i64 lo), (2, .int .i64 hi)]) Tryd.func63 rfl rfl rfl rfl Ends.both ?_
  refine Wk.seq ?_
  refine Wk.regionQ ?_
  refine Lq.op (v := .bool false) rfl rfl rfl (OpQ.assign rfl rfl) ?_
  refine Lq.nil ?_
  refine Kt.onSub (e' := [(0, .int .i64 n), (1, .int .i64 lo), (2, .int .i64 hi)]) (Sub.cons rfl (Sub.cons rfl (Sub.cons rfl Sub.nil))) ?_
  refine Wk.seq ?_
  refine Wk.regionQ ?_
  refine Lq.op (v := .int .i64 n) rfl rfl rfl (OpQ.move rfl rfl) ?_
  refine Lq.op (v := .int .i64 lo) rfl rfl rfl (OpQ.move rfl rfl) ?_
  refine Lq.op (v := .bool (decide (lo ≤ n))) rfl rfl rfl (OpQ.geq rfl rfl rfl) ?_
  refine Lq.op (v := .bool (decide (lo ≤ n))) rfl rfl rfl (OpQ.move rfl rfl) ?_
  refine Lq.bool fun b10 hg10 => ?_
  cases b10
  · skip
    replace hg10 := of_decide_eq_false hg10
    refine Lq.pass rfl rfl rfl ?_
    refine Lq.pass rfl rfl rfl ?_
    refine Lq.pass rfl rfl rfl ?_
    refine Lq.op (v := .bool false) rfl rfl rfl (OpQ.pickF rfl rfl rfl) ?_
    refine Lq.op (v := .bool false) rfl rfl rfl (OpQ.assign rfl rfl) ?_
    refine Lq.nil ?_
    refine Kt.onSub (e' := [(6, .bool false)]) (Sub.cons rfl Sub.nil) ?_
    refine Wk.ret (Kt.end1 rfl rfl fun w' hw => ?_)
    -- ret 0: .bool false
    exact ⟨ret_b (by first | rfl | (simp_all [inB]; done) | (simp_all [inB]; omega)), hw.below⟩
  · skip
    replace hg10 := of_decide_eq_true hg10
    refine Lq.op (v := .int .i64 n) rfl rfl rfl (OpQ.move rfl rfl) ?_
    refine Lq.op (v := .int .i64 hi) rfl rfl rfl (OpQ.move rfl rfl) ?_
    refine Lq.op (v := .bool (decide (n ≤ hi))) rfl rfl rfl (OpQ.leq rfl rfl rfl) ?_
    refine Lq.op (v := .bool (decide (n ≤ hi))) rfl rfl rfl (OpQ.pickT rfl rfl rfl) ?_
    refine Lq.op (v := .bool (decide (n ≤ hi))) rfl rfl rfl (OpQ.assign rfl rfl) ?_
    refine Lq.nil ?_
    refine Kt.onSub (e' := [(6, .bool (decide (n ≤ hi)))]) (Sub.cons rfl Sub.nil) ?_
    refine Wk.ret (Kt.end1 rfl rfl fun w' hw => ?_)
    -- ret 1: .bool (decide (n ≤ hi))
    exact ⟨ret_b (by first | rfl | (simp_all [inB]; done) | (simp_all [inB]; omega)), hw.below⟩

set_option maxHeartbeats 400000 in
/-- spec.l1Bits -/
theorem l1Bits_ok (s : List UInt8) (n : Int) (w : World) (hs : s.length ≤ 1048576) :
    Calls Tryd.prog 89 [str s, .int .i64 n].toArray w fun en w' => en = .returned (.bool (bitsB s n)) ∧ Below w.heap.size w w' := by
  refine fnStart (n := 26) (e := [(0, str s), (1, .int .i64 n)]) Tryd.func89 rfl rfl rfl rfl Ends.both ?_
  refine Wk.seq ?_
  refine Wk.regionQ ?_
  refine Lq.op (v := .bool false) rfl rfl rfl (OpQ.assign rfl rfl) ?_
  refine Lq.nil ?_
  refine Kt.onSub (e' := [(0, str s), (1, .int .i64 n)]) (Sub.cons rfl (Sub.cons rfl Sub.nil)) ?_
  refine Wk.seq ?_
  refine Wk.seq ?_
  refine Wk.regionQ ?_
  refine Lq.op (v := .int .i64 0) rfl rfl rfl (OpQ.assign rfl rfl) ?_
  refine Lq.nil ?_
  refine Kt.onSub (e' := [(0, str s), (1, .int .i64 n), (5, .int .i64 0)]) (Sub.cons rfl (Sub.cons rfl (Sub.cons rfl Sub.nil))) ?_
  refine Wk.block ?_
  refine Wk.loop (σ := Nat) (fun k => k ≤ s.length ∧ (s.take k).all isBit = true) (fun k => [(0, str s), (1, .int .i64 n), (5, .int .i64 ((k : Int)))]) (fun k => Own w.heap.size w []) (fun k => s.length - k) (0) ⟨by omega, rfl⟩ (Sub.cons rfl (Sub.cons rfl (Sub.cons rfl Sub.nil))) (fun _ h => h) ?_
  rintro k ⟨hk, hall⟩
  refine Wk.seq ?_
  refine Wk.seq ?_
  refine Wk.regionQ ?_
  refine Lq.op (v := .int .i64 ((k : Int))) rfl rfl rfl (OpQ.move rfl rfl) ?_
  refine Lq.op (v := str s) rfl rfl rfl (OpQ.move rfl rfl) ?_
  refine Lq.op (v := .int .i64 ((s.length : Int))) rfl rfl rfl (OpQ.lenStr rfl Tryd.runUnderlying9 rfl) ?_
  refine Lq.op (v := .bool (decide (((k : Int)) < ((s.length : Int))))) rfl rfl rfl (OpQ.lss rfl rfl rfl) ?_
  refine Lq.nil ?_
  refine Kt.onSub (e' := [(0, str s), (1, .int .i64 n), (5, .int .i64 ((k : Int))), (9, .bool (decide (((k : Int)) < ((s.length : Int)))))]) (Sub.cons rfl (Sub.cons rfl (Sub.cons rfl (Sub.cons rfl Sub.nil)))) ?_
  refine Wk.cond (b := decide (((k : Int)) < ((s.length : Int)))) rfl (fun h9 => ?_) (fun h9 => ?_)
  · skip
    replace h9 := of_decide_eq_true h9
    refine Wk.skip ?_
    refine Kt.onSub (e' := [(0, str s), (1, .int .i64 n), (5, .int .i64 ((k : Int)))]) (Sub.cons rfl (Sub.cons rfl (Sub.cons rfl Sub.nil))) ?_
    refine Wk.seq ?_
    refine Wk.block ?_
    refine Wk.seq ?_
    refine Wk.regionQ ?_
    refine Lq.op (v := str s) rfl rfl rfl (OpQ.move rfl rfl) ?_
    refine Lq.op (v := .int .i64 ((k : Int))) rfl rfl rfl (OpQ.move rfl rfl) ?_
    refine Lq.op (v := .int .u8 (((s.getD (((k : Int)).toNat) 0).toNat : Int))) rfl rfl rfl (OpQ.indexStr rfl Tryd.runUnderlying9 rfl rfl (by omega) (by omega)) ?_
    refine Lq.op (v := .bool (!(decide ((((s.getD (((k : Int)).toNat) 0).toNat : Int)) = (48 : Int))))) rfl rfl rfl (OpQ.neq rfl rfl rfl) ?_
    refine Lq.op (v := .bool (!(decide ((((s.getD (((k : Int)).toNat) 0).toNat : Int)) = (48 : Int))))) rfl rfl rfl (OpQ.move rfl rfl) ?_
    refine Lq.bool fun b16 hg16 => ?_
    cases b16
    · skip
      replace hg16 := not_false hg16
      replace hg16 := of_decide_eq_true hg16
      refine Lq.pass rfl rfl rfl ?_
      refine Lq.pass rfl rfl rfl ?_
      refine Lq.pass rfl rfl rfl ?_
      refine Lq.pass rfl rfl rfl ?_
      refine Lq.op (v := .bool false) rfl rfl rfl (OpQ.pickF rfl rfl rfl) ?_
      refine Lq.nil ?_
      refine Kt.onSub (e' := [(0, str s), (1, .int .i64 n), (5, .int .i64 ((k : Int))), (21, .bool false)]) (Sub.cons rfl (Sub.cons rfl (Sub.cons rfl (Sub.cons rfl Sub.nil)))) ?_
      refine Wk.condF rfl ?_
      refine Wk.skip ?_
      refine Kt.onSub (e' := [(0, str s), (1, .int .i64 n), (5, .int .i64 ((k : Int)))]) (Sub.cons rfl (Sub.cons rfl (Sub.cons rfl Sub.nil))) ?_
      refine Wk.regionQ ?_
      refine Lq.op (v := .int .i64 ((k : Int))) rfl rfl rfl (OpQ.move rfl rfl) ?_
      refine Lq.op (v := .int .i64 (((k : Int)) + (1 : Int))) rfl rfl rfl (OpQ.add rfl rfl rfl (by omega) (by omega)) ?_
      refine Lq.op (v := .int .i64 (((k : Int)) + (1 : Int))) rfl rfl rfl (OpQ.assign rfl rfl) ?_
      refine Lq.nil ?_
      refine Kt.again (k + 1) ⟨by omega, all_take (by omega) hall (by unfold isBit; simp_all)⟩ (by omega) (Sub.cons rfl (Sub.cons rfl (Sub.cons rfl Sub.nil))) (fun _ h => h)
    · skip
      replace hg16 := not_true hg16
      replace hg16 := of_decide_eq_false hg16
      refine Lq.op (v := str s) rfl rfl rfl (OpQ.move rfl rfl) ?_
      refine Lq.op (v := .int .i64 ((k : Int))) rfl rfl rfl (OpQ.move rfl rfl) ?_
      refine Lq.op (v := .int .u8 (((s.getD (((k : Int)).toNat) 0).toNat : Int))) rfl rfl rfl (OpQ.indexStr rfl Tryd.runUnderlying9 rfl rfl (by omega) (by omega)) ?_
      refine Lq.op (v := .bool (!(decide ((((s.getD (((k : Int)).toNat) 0).toNat : Int)) = (49 : Int))))) rfl rfl rfl (OpQ.neq rfl rfl rfl) ?_
      refine Lq.op (v := .bool (!(decide ((((s.getD (((k : Int)).toNat) 0).toNat : Int)) = (49 : Int))))) rfl rfl rfl (OpQ.pickT rfl rfl rfl) ?_
      refine Lq.nil ?_
      refine Kt.onSub (e' := [(0, str s), (1, .int .i64 n), (5, .int .i64 ((k : Int))), (21, .bool (!(decide ((((s.getD (((k : Int)).toNat) 0).toNat : Int)) = (49 : Int)))))]) (Sub.cons rfl (Sub.cons rfl (Sub.cons rfl (Sub.cons rfl Sub.nil)))) ?_
      refine Wk.cond (b := !(decide ((((s.getD (((k : Int)).toNat) 0).toNat : Int)) = (49 : Int)))) rfl (fun h21 => ?_) (fun h21 => ?_)
      · skip
        replace h21 := not_true h21
        replace h21 := of_decide_eq_false h21
        refine Wk.seq ?_
        refine Wk.regionQ ?_
        refine Lq.op (v := .bool false) rfl rfl rfl (OpQ.assign rfl rfl) ?_
        refine Lq.nil ?_
        refine Kt.onSub (e' := [(4, .bool false)]) (Sub.cons rfl Sub.nil) ?_
        refine Wk.ret (Kt.end1 rfl rfl fun w' hw => ?_)
        -- ret 0: .bool false
        exact ⟨ret_b (by unfold bitsB; rw [all_false (k := k) (by omega) (by unfold isBit; simp_all)]; rfl), hw.below⟩
      · skip
        replace h21 := not_false h21
        replace h21 := of_decide_eq_true h21
        refine Wk.skip ?_
        refine Kt.onSub (e' := [(0, str s), (1, .int .i64 n), (5, .int .i64 ((k : Int)))]) (Sub.cons rfl (Sub.cons rfl (Sub.cons rfl Sub.nil))) ?_
        refine Wk.regionQ ?_
        refine Lq.op (v := .int .i64 ((k : Int))) rfl rfl rfl (OpQ.move rfl rfl) ?_
        refine Lq.op (v := .int .i64 (((k : Int)) + (1 : Int))) rfl rfl rfl (OpQ.add rfl rfl rfl (by omega) (by omega)) ?_
        refine Lq.op (v := .int .i64 (((k : Int)) + (1 : Int))) rfl rfl rfl (OpQ.assign rfl rfl) ?_
        refine Lq.nil ?_
        refine Kt.again (k + 1) ⟨by omega, all_take (by omega) hall (by unfold isBit; simp_all)⟩ (by omega) (Sub.cons rfl (Sub.cons rfl (Sub.cons rfl Sub.nil))) (fun _ h => h)
  · skip
    replace h9 := of_decide_eq_false h9
    refine Wk.exit rfl ?_
    refine Kt.onSub (e' := [(0, str s), (1, .int .i64 n)]) (Sub.cons rfl (Sub.cons rfl Sub.nil)) ?_
    refine Wk.seq ?_
    refine Wk.regionQ ?_
    refine Lq.op (v := str s) rfl rfl rfl (OpQ.move rfl rfl) ?_
    refine Lq.op (v := .int .i64 ((s.length : Int))) rfl rfl rfl (OpQ.lenStr rfl Tryd.runUnderlying9 rfl) ?_
    refine Lq.op (v := .int .i64 n) rfl rfl rfl (OpQ.move rfl rfl) ?_
    refine Lq.op (v := .bool (decide (((s.length : Int)) = n))) rfl rfl rfl (OpQ.eql rfl rfl rfl) ?_
    refine Lq.op (v := .bool (decide (((s.length : Int)) = n))) rfl rfl rfl (OpQ.assign rfl rfl) ?_
    refine Lq.nil ?_
    refine Kt.onSub (e' := [(4, .bool (decide (((s.length : Int)) = n)))]) (Sub.cons rfl Sub.nil) ?_
    refine Wk.ret (Kt.end1 rfl rfl fun w' hw => ?_)
    -- ret 1: .bool (decide (((s.length : Int)) = n))
    exact ⟨ret_b (by unfold bitsB; rw [show s.all isBit = true from by rw [← List.take_of_length_le (show s.length ≤ k by omega)]; exact hall]; rfl), hw.below⟩

set_option maxHeartbeats 400000 in
/-- spec.StructureValid -/
theorem sValid_ok (a : St) (w : World) (ha : a.Small) :
    Calls Tryd.prog 45 [vS a].toArray w fun en w' => en = .returned (.bool (validB a)) ∧ Below w.heap.size w w' := by
  refine fnStart (n := 23) (e := [(0, vS a)]) Tryd.func45 rfl rfl rfl rfl Ends.both ?_
  have h1 := ha.set
  have h2 := ha.rel
  refine Wk.seq ?_
  refine Wk.region ?_
  refine Ll.box (v := vS a) rfl rfl rfl rfl rfl fun p1 hp1 => ?_
  show Ll _ _ (Own _ _ [(p1, .cells #[.int .i64 a.n, str a.set, str a.rel] 27 (0, 0))]) _ _ ((1, .pointer (some ⟨p1, 0, none⟩)) :: _) _ _ _
  refine Ll.op (v := .bool false) rfl rfl rfl (OpQ.assign rfl rfl) ?_
  refine Ll.nil ?_
  refine Kt.onSub (e' := [(1, .pointer (some ⟨p1, 0, none⟩))]) (Sub.cons rfl Sub.nil) ?_
  refine Wk.seq ?_
  refine Wk.regionQ ?_
  refine Lq.op (v := .pointer (some ⟨p1, 0, none⟩)) rfl rfl rfl (OpQ.fieldAddr rfl Tryd.runUnderlying27 rfl Tryd.sizeOf3 rfl rfl) ?_
  refine Lq.op (v := .int .i64 a.n) rfl rfl rfl (OpQ.loadOwn 0 rfl Tryd.isAgg3 rfl rfl rfl) ?_
  refine Lq.op (v := .bool (inB a.n 1 8)) rfl rfl rfl (OpQ.call rfl Tryd.call63 rfl Own.stable (fun w1 hw1 => l1In_ok a.n 1 8 w1 )) ?_
  refine Lq.op (v := .bool (inB a.n 1 8)) rfl rfl rfl (OpQ.move rfl rfl) ?_
  refine Lq.bool fun b6 hg6 => ?_
  cases b6
  · skip
    refine Lq.pass rfl rfl rfl ?_
    refine Lq.pass rfl rfl rfl ?_
    refine Lq.pass rfl rfl rfl ?_
    refine Lq.pass rfl rfl rfl ?_
    refine Lq.pass rfl rfl rfl ?_
    refine Lq.op (v := .bool false) rfl rfl rfl (OpQ.pickF rfl rfl rfl) ?_
    refine Lq.op (v := .bool false) rfl rfl rfl (OpQ.move rfl rfl) ?_
    refine Lq.pass rfl rfl rfl ?_
    refine Lq.pass rfl rfl rfl ?_
    refine Lq.pass rfl rfl rfl ?_
    refine Lq.pass rfl rfl rfl ?_
    refine Lq.pass rfl rfl rfl ?_
    refine Lq.pass rfl rfl rfl ?_
    refine Lq.pass rfl rfl rfl ?_
    refine Lq.pass rfl rfl rfl ?_
    refine Lq.op (v := .bool false) rfl rfl rfl (OpQ.pickF rfl rfl rfl) ?_
    refine Lq.op (v := .bool false) rfl rfl rfl (OpQ.assign rfl rfl) ?_
    refine Lq.nil ?_
    refine Kt.onSub (e' := [(2, .bool false)]) (Sub.cons rfl Sub.nil) ?_
    refine Wk.ret (Kt.end1 rfl rfl fun w' hw => ?_)
    -- ret 0: .bool false
    exact ⟨ret_b (by first | (simp [validB, *]; done) | (simp [validB, *]; omega)), hw.below⟩
  · skip
    have hn : 1 ≤ a.n ∧ a.n ≤ 8 := by unfold inB at hg6; simpa using hg6
    have hq := sq_le hn.1 hn.2
    refine Lq.op (v := .pointer (some ⟨p1, 1, none⟩)) rfl rfl rfl (OpQ.fieldAddr rfl Tryd.runUnderlying27 rfl Tryd.sizeOf9 rfl rfl) ?_
    refine Lq.op (v := str a.set) rfl rfl rfl (OpQ.loadOwn 0 rfl Tryd.isAgg9 rfl rfl rfl) ?_
    refine Lq.op (v := .pointer (some ⟨p1, 0, none⟩)) rfl rfl rfl (OpQ.fieldAddr rfl Tryd.runUnderlying27 rfl Tryd.sizeOf3 rfl rfl) ?_
    refine Lq.op (v := .int .i64 a.n) rfl rfl rfl (OpQ.loadOwn 0 rfl Tryd.isAgg3 rfl rfl rfl) ?_
    refine Lq.op (v := .bool (bitsB a.set a.n)) rfl rfl rfl (OpQ.call rfl Tryd.call89 rfl Own.stable (fun w1 hw1 => l1Bits_ok a.set a.n w1 (by omega))) ?_
    refine Lq.op (v := .bool (bitsB a.set a.n)) rfl rfl rfl (OpQ.pickT rfl rfl rfl) ?_
    refine Lq.op (v := .bool (bitsB a.set a.n)) rfl rfl rfl (OpQ.move rfl rfl) ?_
    refine Lq.bool fun b13 hg13 => ?_
    cases b13
    · skip
      refine Lq.pass rfl rfl rfl ?_
      refine Lq.pass rfl rfl rfl ?_
      refine Lq.pass rfl rfl rfl ?_
      refine Lq.pass rfl rfl rfl ?_
      refine Lq.pass rfl rfl rfl ?_
      refine Lq.pass rfl rfl rfl ?_
      refine Lq.pass rfl rfl rfl ?_
      refine Lq.pass rfl rfl rfl ?_
      refine Lq.op (v := .bool false) rfl rfl rfl (OpQ.pickF rfl rfl rfl) ?_
      refine Lq.op (v := .bool false) rfl rfl rfl (OpQ.assign rfl rfl) ?_
      refine Lq.nil ?_
      refine Kt.onSub (e' := [(2, .bool false)]) (Sub.cons rfl Sub.nil) ?_
      refine Wk.ret (Kt.end1 rfl rfl fun w' hw => ?_)
      -- ret 1: .bool false
      exact ⟨ret_b (by first | (simp [validB, *]; done) | (simp [validB, *]; omega)), hw.below⟩
    · skip
      refine Lq.op (v := .pointer (some ⟨p1, 2, none⟩)) rfl rfl rfl (OpQ.fieldAddr rfl Tryd.runUnderlying27 rfl Tryd.sizeOf9 rfl rfl) ?_
      refine Lq.op (v := str a.rel) rfl rfl rfl (OpQ.loadOwn 0 rfl Tryd.isAgg9 rfl rfl rfl) ?_
      refine Lq.op (v := .pointer (some ⟨p1, 0, none⟩)) rfl rfl rfl (OpQ.fieldAddr rfl Tryd.runUnderlying27 rfl Tryd.sizeOf3 rfl rfl) ?_
      refine Lq.op (v := .int .i64 a.n) rfl rfl rfl (OpQ.loadOwn 0 rfl Tryd.isAgg3 rfl rfl rfl) ?_
      refine Lq.op (v := .pointer (some ⟨p1, 0, none⟩)) rfl rfl rfl (OpQ.fieldAddr rfl Tryd.runUnderlying27 rfl Tryd.sizeOf3 rfl rfl) ?_
      refine Lq.op (v := .int .i64 a.n) rfl rfl rfl (OpQ.loadOwn 0 rfl Tryd.isAgg3 rfl rfl rfl) ?_
      refine Lq.op (v := .int .i64 (a.n * a.n)) rfl rfl rfl (OpQ.mul rfl rfl rfl (by omega) (by omega)) ?_
      refine Lq.op (v := .bool (bitsB a.rel (a.n * a.n))) rfl rfl rfl (OpQ.call rfl Tryd.call89 rfl Own.stable (fun w1 hw1 => l1Bits_ok a.rel (a.n * a.n) w1 (by omega))) ?_
      refine Lq.op (v := .bool (bitsB a.rel (a.n * a.n))) rfl rfl rfl (OpQ.pickT rfl rfl rfl) ?_
      refine Lq.op (v := .bool (bitsB a.rel (a.n * a.n))) rfl rfl rfl (OpQ.assign rfl rfl) ?_
      refine Lq.nil ?_
      refine Kt.onSub (e' := [(2, .bool (bitsB a.rel (a.n * a.n)))]) (Sub.cons rfl Sub.nil) ?_
      refine Wk.ret (Kt.end1 rfl rfl fun w' hw => ?_)
      -- ret 2: .bool (bitsB a.rel (a.n * a.n))
      exact ⟨ret_b (by first | (simp [validB, *]; done) | (simp [validB, *]; omega)), hw.below⟩

set_option maxHeartbeats 400000 in
/-- spec.l1Set -/
theorem l1Set_ok (a : St) (x : Int) (w : World) (ha : a.Fine) (hx : a.El x) :
    Calls Tryd.prog 47 [vS a, .int .i64 x].toArray w fun en w' => en = .returned (.bool (a.inSet x)) ∧ Below w.heap.size w w' := by
  refine fnStart (n := 10) (e := [(0, vS a), (1, .int .i64 x)]) Tryd.func47 rfl rfl rfl rfl Ends.both ?_
  have hs := ha.set
  obtain ⟨h0, h1⟩ := hx
  refine Wk.seq ?_
  refine Wk.region ?_
  refine Ll.box (v := vS a) rfl rfl rfl rfl rfl fun p2 hp2 => ?_
  show Ll _ _ (Own _ _ [(p2, .cells #[.int .i64 a.n, str a.set, str a.rel] 27 (0, 0))]) _ _ ((2, .pointer (some ⟨p2, 0, none⟩)) :: _) _ _ _
  refine Ll.op (v := .bool false) rfl rfl rfl (OpQ.assign rfl rfl) ?_
  refine Ll.nil ?_
  refine Kt.onSub (e' := [(1, .int .i64 x), (2, .pointer (some ⟨p2, 0, none⟩))]) (Sub.cons rfl (Sub.cons rfl Sub.nil)) ?_
  refine Wk.seq ?_
  refine Wk.regionQ ?_
  refine Lq.op (v := .pointer (some ⟨p2, 1, none⟩)) rfl rfl rfl (OpQ.fieldAddr rfl Tryd.runUnderlying27 rfl Tryd.sizeOf9 rfl rfl) ?_
  refine Lq.op (v := str a.set) rfl rfl rfl (OpQ.loadOwn 0 rfl Tryd.isAgg9 rfl rfl rfl) ?_
  refine Lq.op (v := .int .i64 x) rfl rfl rfl (OpQ.move rfl rfl) ?_
  refine Lq.op (v := .int .u8 (((a.set.getD ((x).toNat) 0).toNat : Int))) rfl rfl rfl (OpQ.indexStr rfl Tryd.runUnderlying9 rfl rfl (by omega) (by omega)) ?_
  refine Lq.op (v := .bool (decide ((((a.set.getD ((x).toNat) 0).toNat : Int)) = (49 : Int)))) rfl rfl rfl (OpQ.eql rfl rfl rfl) ?_
  refine Lq.op (v := .bool (decide ((((a.set.getD ((x).toNat) 0).toNat : Int)) = (49 : Int)))) rfl rfl rfl (OpQ.assign rfl rfl) ?_
  refine Lq.nil ?_
  refine Kt.onSub (e' := [(4, .bool (decide ((((a.set.getD ((x).toNat) 0).toNat : Int)) = (49 : Int))))]) (Sub.cons rfl Sub.nil) ?_
  refine Wk.ret (Kt.end1 rfl rfl fun w' hw => ?_)
  -- ret 0: .bool (decide ((((a.set.getD ((x).toNat) 0).toNat : Int)) = (49 : Int)))
  exact ⟨ret_b (by first | rfl | (simp_all; done) | (simp_all; omega)), hw.below⟩

set_option maxHeartbeats 400000 in
/-- spec.l1Rel -/
theorem l1Rel_ok (a : St) (x y : Int) (w : World) (ha : a.Fine) (hx : a.El x) (hy : a.El y) :
    Calls Tryd.prog 48 [vS a, .int .i64 x, .int .i64 y].toArray w fun en w' => en = .returned (.bool (a.inRel x y)) ∧ Below w.heap.size w w' := by
  refine fnStart (n := 17) (e := [(0, vS a), (1, .int .i64 x), (2, .int .i64 y)]) Tryd.func48 rfl rfl rfl rfl Ends.both ?_
  obtain ⟨k0, k1, k2, k3, k4⟩ := ha.relLt hx hy
  refine Wk.seq ?_
  refine Wk.region ?_
  refine Ll.box (v := vS a) rfl rfl rfl rfl rfl fun p3 hp3 => ?_
  show Ll _ _ (Own _ _ [(p3, .cells #[.int .i64 a.n, str a.set, str a.rel] 27 (0, 0))]) _ _ ((3, .pointer (some ⟨p3, 0, none⟩)) :: _) _ _ _
  refine Ll.op (v := .bool false) rfl rfl rfl (OpQ.assign rfl rfl) ?_
  refine Ll.nil ?_
  refine Kt.onSub (e' := [(1, .int .i64 x), (2, .int .i64 y), (3, .pointer (some ⟨p3, 0, none⟩))]) (Sub.cons rfl (Sub.cons rfl (Sub.cons rfl Sub.nil))) ?_
  refine Wk.seq ?_
  refine Wk.regionQ ?_
  refine Lq.op (v := .pointer (some ⟨p3, 2, none⟩)) rfl rfl rfl (OpQ.fieldAddr rfl Tryd.runUnderlying27 rfl Tryd.sizeOf9 rfl rfl) ?_
  refine Lq.op (v := str a.rel) rfl rfl rfl (OpQ.loadOwn 0 rfl Tryd.isAgg9 rfl rfl rfl) ?_
  refine Lq.op (v := .int .i64 x) rfl rfl rfl (OpQ.move rfl rfl) ?_
  refine Lq.op (v := .pointer (some ⟨p3, 0, none⟩)) rfl rfl rfl (OpQ.fieldAddr rfl Tryd.runUnderlying27 rfl Tryd.sizeOf3 rfl rfl) ?_
  refine Lq.op (v := .int .i64 a.n) rfl rfl rfl (OpQ.loadOwn 0 rfl Tryd.isAgg3 rfl rfl rfl) ?_
  refine Lq.op (v := .int .i64 (x * a.n)) rfl rfl rfl (OpQ.mul rfl rfl rfl (by omega) (by omega)) ?_
  refine Lq.op (v := .int .i64 y) rfl rfl rfl (OpQ.move rfl rfl) ?_
  refine Lq.op (v := .int .i64 ((x * a.n) + y)) rfl rfl rfl (OpQ.add rfl rfl rfl (by omega) (by omega)) ?_
  refine Lq.op (v := .int .u8 (((a.rel.getD (((x * a.n) + y).toNat) 0).toNat : Int))) rfl rfl rfl (OpQ.indexStr rfl Tryd.runUnderlying9 rfl rfl (by omega) (by omega)) ?_
  refine Lq.op (v := .bool (decide ((((a.rel.getD (((x * a.n) + y).toNat) 0).toNat : Int)) = (49 : Int)))) rfl rfl rfl (OpQ.eql rfl rfl rfl) ?_
  refine Lq.op (v := .bool (decide ((((a.rel.getD (((x * a.n) + y).toNat) 0).toNat : Int)) = (49 : Int)))) rfl rfl rfl (OpQ.assign rfl rfl) ?_
  refine Lq.nil ?_
  refine Kt.onSub (e' := [(6, .bool (decide ((((a.rel.getD (((x * a.n) + y).toNat) 0).toNat : Int)) = (49 : Int))))]) (Sub.cons rfl Sub.nil) ?_
  refine Wk.ret (Kt.end1 rfl rfl fun w' hw => ?_)
  -- ret 0: .bool (decide ((((a.rel.getD (((x * a.n) + y).toNat) 0).toNat : Int)) = (49 : Int)))
  exact ⟨ret_b (by first | rfl | (simp_all; done) | (simp_all; omega)), hw.below⟩

set_option maxHeartbeats 400000 in
/-- spec.l2Int -/
theorem l2Int_ok (b : Bool) (w : World) :
    Calls Tryd.prog 46 [.bool b].toArray w fun en w' => en = .returned (.int .i64 (if b then 1 else 0)) ∧ Below w.heap.size w w' := by
  refine fnStart (n := 4) (e := [(0, .bool b)]) Tryd.func46 rfl rfl rfl rfl Ends.both ?_
  refine Wk.seq ?_
  refine Wk.regionQ ?_
  refine Lq.op (v := .int .i64 0) rfl rfl rfl (OpQ.assign rfl rfl) ?_
  refine Lq.nil ?_
  refine Kt.onSub (e' := [(0, .bool b)]) (Sub.cons rfl Sub.nil) ?_
  refine Wk.seq ?_
  refine Wk.seq ?_
  refine Wk.regionQ ?_
  refine Lq.op (v := .bool b) rfl rfl rfl (OpQ.move rfl rfl) ?_
  refine Lq.nil ?_
  refine Kt.onSub (e' := [(3, .bool b)]) (Sub.cons rfl Sub.nil) ?_
  refine Wk.cond (b := b) rfl (fun h3 => ?_) (fun h3 => ?_)
  · skip
    refine Wk.seq ?_
    refine Wk.regionQ ?_
    refine Lq.op (v := .int .i64 1) rfl rfl rfl (OpQ.assign rfl rfl) ?_
    refine Lq.nil ?_
    refine Kt.onSub (e' := [(2, .int .i64 1)]) (Sub.cons rfl Sub.nil) ?_
    refine Wk.ret (Kt.end1 rfl rfl fun w' hw => ?_)
    -- ret 0: .int .i64 1
    exact ⟨by rw [‹b = _›]; rfl, hw.below⟩
  · skip
    refine Wk.skip ?_
    refine Kt.onSub (e' := []) Sub.nil ?_
    refine Wk.seq ?_
    refine Wk.regionQ ?_
    refine Lq.op (v := .int .i64 0) rfl rfl rfl (OpQ.assign rfl rfl) ?_
    refine Lq.nil ?_
    refine Kt.onSub (e' := [(2, .int .i64 0)]) (Sub.cons rfl Sub.nil) ?_
    refine Wk.ret (Kt.end1 rfl rfl fun w' hw => ?_)
    -- ret 1: .int .i64 0
    exact ⟨by rw [‹b = _›]; rfl, hw.below⟩

set_option maxHeartbeats 400000 in
/-- impl.areBits -/
theorem areBits_ok (s : List UInt8) (n : Int) (w : World) (hs : s.length ≤ 1048576) :
    Calls Tryd.prog 90 [str s, .int .i64 n].toArray w fun en w' => en = .returned (.bool (bitsB s n)) ∧ Below w.heap.size w w' := by
  refine fnStart (n := 14) (e := [(0, str s), (1, .int .i64 n)]) Tryd.func90 rfl rfl rfl rfl Ends.both ?_
  refine Wk.seq ?_
  refine Wk.regionQ ?_
  refine Lq.op (v := .bool false) rfl rfl rfl (OpQ.assign rfl rfl) ?_
  refine Lq.nil ?_
  refine Kt.onSub (e' := [(0, str s), (1, .int .i64 n)]) (Sub.cons rfl (Sub.cons rfl Sub.nil)) ?_
  refine Wk.seq ?_
  refine Wk.regionQ ?_
  refine Lq.op (v := str s) rfl rfl rfl (OpQ.move rfl rfl) ?_
  refine Lq.op (v := .int .i64 ((s.length : Int))) rfl rfl rfl (OpQ.lenStr rfl Tryd.runUnderlying9 rfl) ?_
  refine Lq.op (v := .int .i64 n) rfl rfl rfl (OpQ.move rfl rfl) ?_
  refine Lq.op (v := .bool (decide (((s.length : Int)) = n))) rfl rfl rfl (OpQ.eql rfl rfl rfl) ?_
  refine Lq.op (v := .bool (decide (((s.length : Int)) = n))) rfl rfl rfl (OpQ.move rfl rfl) ?_
  refine Lq.bool fun b9 hg9 => ?_
  cases b9
  · skip
    replace hg9 := of_decide_eq_false hg9
    refine Lq.pass rfl rfl rfl ?_
    refine Lq.pass rfl rfl rfl ?_
    refine Lq.pass rfl rfl rfl ?_
    refine Lq.op (v := .bool false) rfl rfl rfl (OpQ.pickF rfl rfl rfl) ?_
    refine Lq.op (v := .bool false) rfl rfl rfl (OpQ.assign rfl rfl) ?_
    refine Lq.nil ?_
    refine Kt.onSub (e' := [(4, .bool false)]) (Sub.cons rfl Sub.nil) ?_
    refine Wk.ret (Kt.end1 rfl rfl fun w' hw => ?_)
    -- ret 0: .bool false
    exact ⟨ret_b (by unfold bitsB; simp [*]), hw.below⟩
  · skip
    replace hg9 := of_decide_eq_true hg9
    refine Lq.op (v := str s) rfl rfl rfl (OpQ.move rfl rfl) ?_
    refine Lq.op (v := str (Lib.trimS s [48, 49])) rfl rfl rfl (OpQ.call rfl Tryd.call106 rfl Own.stable (fun w1 hw1 => trim_ok s w1 (by omega))) ?_
    refine Lq.op (v := .bool ((Lib.trimS s [48, 49]) == ([]))) rfl rfl rfl (OpQ.seql rfl rfl rfl) ?_
    refine Lq.op (v := .bool ((Lib.trimS s [48, 49]) == ([]))) rfl rfl rfl (OpQ.pickT rfl rfl rfl) ?_
    refine Lq.op (v := .bool ((Lib.trimS s [48, 49]) == ([]))) rfl rfl rfl (OpQ.assign rfl rfl) ?_
    refine Lq.nil ?_
    refine Kt.onSub (e' := [(4, .bool ((Lib.trimS s [48, 49]) == ([])))]) (Sub.cons rfl Sub.nil) ?_
    refine Wk.ret (Kt.end1 rfl rfl fun w' hw => ?_)
    -- ret 1: .bool ((Lib.trimS s [48, 49]) == ([]))
    exact ⟨ret_b (by unfold bitsB; rw [trim_nil]; simp [*]), hw.below⟩

set_option maxHeartbeats 400000 in
/-- impl.isStructure -/
theorem isStructure_ok (a : St) (w : World) (ha : a.Small) :
    Calls Tryd.prog 49 [vS a].toArray w fun en w' => en = .returned (.bool (validB a)) ∧ Below w.heap.size w w' := by
  refine fnStart (n := 28) (e := [(0, vS a)]) Tryd.func49 rfl rfl rfl rfl Ends.both ?_
  have h1 := ha.set
  have h2 := ha.rel
  refine Wk.seq ?_
  refine Wk.region ?_
  refine Ll.box (v := vS a) rfl rfl rfl rfl rfl fun p1 hp1 => ?_
  show Ll _ _ (Own _ _ [(p1, .cells #[.int .i64 a.n, str a.set, str a.rel] 27 (0, 0))]) _ _ ((1, .pointer (some ⟨p1, 0, none⟩)) :: _) _ _ _
  refine Ll.op (v := .bool false) rfl rfl rfl (OpQ.assign rfl rfl) ?_
  refine Ll.nil ?_
  refine Kt.onSub (e' := [(1, .pointer (some ⟨p1, 0, none⟩))]) (Sub.cons rfl Sub.nil) ?_
  refine Wk.seq ?_
  refine Wk.regionQ ?_
  refine Lq.op (v := .pointer (some ⟨p1, 0, none⟩)) rfl rfl rfl (OpQ.fieldAddr rfl Tryd.runUnderlying27 rfl Tryd.sizeOf3 rfl rfl) ?_
  refine Lq.op (v := .int .i64 a.n) rfl rfl rfl (OpQ.loadOwn 0 rfl Tryd.isAgg3 rfl rfl rfl) ?_
  refine Lq.op (v := .bool (decide ((1 : Int) ≤ a.n))) rfl rfl rfl (OpQ.geq rfl rfl rfl) ?_
  refine Lq.op (v := .bool (decide ((1 : Int) ≤ a.n))) rfl rfl rfl (OpQ.move rfl rfl) ?_
  refine Lq.bool fun b6 hg6 => ?_
  cases b6
  · skip
    replace hg6 := of_decide_eq_false hg6
    refine Lq.pass rfl rfl rfl ?_
    refine Lq.pass rfl rfl rfl ?_
    refine Lq.pass rfl rfl rfl ?_
    refine Lq.op (v := .bool false) rfl rfl rfl (OpQ.pickF rfl rfl rfl) ?_
    refine Lq.op (v := .bool false) rfl rfl rfl (OpQ.move rfl rfl) ?_
    refine Lq.pass rfl rfl rfl ?_
    refine Lq.pass rfl rfl rfl ?_
    refine Lq.pass rfl rfl rfl ?_
    refine Lq.pass rfl rfl rfl ?_
    refine Lq.pass rfl rfl rfl ?_
    refine Lq.op (v := .bool false) rfl rfl rfl (OpQ.pickF rfl rfl rfl) ?_
    refine Lq.op (v := .bool false) rfl rfl rfl (OpQ.move rfl rfl) ?_
    refine Lq.pass rfl rfl rfl ?_
    refine Lq.pass rfl rfl rfl ?_
    refine Lq.pass rfl rfl rfl ?_
    refine Lq.pass rfl rfl rfl ?_
    refine Lq.pass rfl rfl rfl ?_
    refine Lq.pass rfl rfl rfl ?_
    refine Lq.pass rfl rfl rfl ?_
    refine Lq.pass rfl rfl rfl ?_
    refine Lq.op (v := .bool false) rfl rfl rfl (OpQ.pickF rfl rfl rfl) ?_
    refine Lq.op (v := .bool false) rfl rfl rfl (OpQ.assign rfl rfl) ?_
    refine Lq.nil ?_
    refine Kt.onSub (e' := [(2, .bool false)]) (Sub.cons rfl Sub.nil) ?_
    refine Wk.ret (Kt.end1 rfl rfl fun w' hw => ?_)
    -- ret 0: .bool false
    exact ⟨ret_b (by first | (simp [validB, inB, *]; done) | (simp [validB, inB, *]; omega)), hw.below⟩
  · skip
    replace hg6 := of_decide_eq_true hg6
    refine Lq.op (v := .pointer (some ⟨p1, 0, none⟩)) rfl rfl rfl (OpQ.fieldAddr rfl Tryd.runUnderlying27 rfl Tryd.sizeOf3 rfl rfl) ?_
    refine Lq.op (v := .int .i64 a.n) rfl rfl rfl (OpQ.loadOwn 0 rfl Tryd.isAgg3 rfl rfl rfl) ?_
    refine Lq.op (v := .bool (decide (a.n ≤ (8 : Int)))) rfl rfl rfl (OpQ.leq rfl rfl rfl) ?_
    refine Lq.op (v := .bool (decide (a.n ≤ (8 : Int)))) rfl rfl rfl (OpQ.pickT rfl rfl rfl) ?_
    refine Lq.op (v := .bool (decide (a.n ≤ (8 : Int)))) rfl rfl rfl (OpQ.move rfl rfl) ?_
    refine Lq.bool fun b11 hg11 => ?_
    cases b11
    · skip
      replace hg11 := of_decide_eq_false hg11
      refine Lq.pass rfl rfl rfl ?_
      refine Lq.pass rfl rfl rfl ?_
      refine Lq.pass rfl rfl rfl ?_
      refine Lq.pass rfl rfl rfl ?_
      refine Lq.pass rfl rfl rfl ?_
      refine Lq.op (v := .bool false) rfl rfl rfl (OpQ.pickF rfl rfl rfl) ?_
      refine Lq.op (v := .bool false) rfl rfl rfl (OpQ.move rfl rfl) ?_
      refine Lq.pass rfl rfl rfl ?_
      refine Lq.pass rfl rfl rfl ?_
      refine Lq.pass rfl rfl rfl ?_
      refine Lq.pass rfl rfl rfl ?_
      refine Lq.pass rfl rfl rfl ?_
      refine Lq.pass rfl rfl rfl ?_
      refine Lq.pass rfl rfl rfl ?_
      refine Lq.pass rfl rfl rfl ?_
      refine Lq.op (v := .bool false) rfl rfl rfl (OpQ.pickF rfl rfl rfl) ?_
      refine Lq.op (v := .bool false) rfl rfl rfl (OpQ.assign rfl rfl) ?_
      refine Lq.nil ?_
      refine Kt.onSub (e' := [(2, .bool false)]) (Sub.cons rfl Sub.nil) ?_
      refine Wk.ret (Kt.end1 rfl rfl fun w' hw => ?_)
      -- ret 1: .bool false
      exact ⟨ret_b (by first | (simp [validB, inB, *]; done) | (simp [validB, inB, *]; omega)), hw.below⟩
    · skip
      replace hg11 := of_decide_eq_true hg11
      have hq := sq_le hg6 hg11
      refine Lq.op (v := .pointer (some ⟨p1, 1, none⟩)) rfl rfl rfl (OpQ.fieldAddr rfl Tryd.runUnderlying27 rfl Tryd.sizeOf9 rfl rfl) ?_
      refine Lq.op (v := str a.set) rfl rfl rfl (OpQ.loadOwn 0 rfl Tryd.isAgg9 rfl rfl rfl) ?_
      refine Lq.op (v := .pointer (some ⟨p1, 0, none⟩)) rfl rfl rfl (OpQ.fieldAddr rfl Tryd.runUnderlying27 rfl Tryd.sizeOf3 rfl rfl) ?_
      refine Lq.op (v := .int .i64 a.n) rfl rfl rfl (OpQ.loadOwn 0 rfl Tryd.isAgg3 rfl rfl rfl) ?_
      refine Lq.op (v := .bool (bitsB a.set a.n)) rfl rfl rfl (OpQ.call rfl Tryd.call90 rfl Own.stable (fun w1 hw1 => areBits_ok a.set a.n w1 (by omega))) ?_
      refine Lq.op (v := .bool (bitsB a.set a.n)) rfl rfl rfl (OpQ.pickT rfl rfl rfl) ?_
      refine Lq.op (v := .bool (bitsB a.set a.n)) rfl rfl rfl (OpQ.move rfl rfl) ?_
      refine Lq.bool fun b18 hg18 => ?_
      cases b18
      · skip
        refine Lq.pass rfl rfl rfl ?_
        refine Lq.pass rfl rfl rfl ?_
        refine Lq.pass rfl rfl rfl ?_
        refine Lq.pass rfl rfl rfl ?_
        refine Lq.pass rfl rfl rfl ?_
        refine Lq.pass rfl rfl rfl ?_
        refine Lq.pass rfl rfl rfl ?_
        refine Lq.pass rfl rfl rfl ?_
        refine Lq.op (v := .bool false) rfl rfl rfl (OpQ.pickF rfl rfl rfl) ?_
        refine Lq.op (v := .bool false) rfl rfl rfl (OpQ.assign rfl rfl) ?_
        refine Lq.nil ?_
        refine Kt.onSub (e' := [(2, .bool false)]) (Sub.cons rfl Sub.nil) ?_
        refine Wk.ret (Kt.end1 rfl rfl fun w' hw => ?_)
        -- ret 2: .bool false
        exact ⟨ret_b (by first | (simp [validB, inB, *]; done) | (simp [validB, inB, *]; omega)), hw.below⟩
      · skip
        refine Lq.op (v := .pointer (some ⟨p1, 2, none⟩)) rfl rfl rfl (OpQ.fieldAddr rfl Tryd.runUnderlying27 rfl Tryd.sizeOf9 rfl rfl) ?_
        refine Lq.op (v := str a.rel) rfl rfl rfl (OpQ.loadOwn 0 rfl Tryd.isAgg9 rfl rfl rfl) ?_
        refine Lq.op (v := .pointer (some ⟨p1, 0, none⟩)) rfl rfl rfl (OpQ.fieldAddr rfl Tryd.runUnderlying27 rfl Tryd.sizeOf3 rfl rfl) ?_
        refine Lq.op (v := .int .i64 a.n) rfl rfl rfl (OpQ.loadOwn 0 rfl Tryd.isAgg3 rfl rfl rfl) ?_
        refine Lq.op (v := .pointer (some ⟨p1, 0, none⟩)) rfl rfl rfl (OpQ.fieldAddr rfl Tryd.runUnderlying27 rfl Tryd.sizeOf3 rfl rfl) ?_
        refine Lq.op (v := .int .i64 a.n) rfl rfl rfl (OpQ.loadOwn 0 rfl Tryd.isAgg3 rfl rfl rfl) ?_
        refine Lq.op (v := .int .i64 (a.n * a.n)) rfl rfl rfl (OpQ.mul rfl rfl rfl (by omega) (by omega)) ?_
        refine Lq.op (v := .bool (bitsB a.rel (a.n * a.n))) rfl rfl rfl (OpQ.call rfl Tryd.call90 rfl Own.stable (fun w1 hw1 => areBits_ok a.rel (a.n * a.n) w1 (by omega))) ?_
        refine Lq.op (v := .bool (bitsB a.rel (a.n * a.n))) rfl rfl rfl (OpQ.pickT rfl rfl rfl) ?_
        refine Lq.op (v := .bool (bitsB a.rel (a.n * a.n))) rfl rfl rfl (OpQ.assign rfl rfl) ?_
        refine Lq.nil ?_
        refine Kt.onSub (e' := [(2, .bool (bitsB a.rel (a.n * a.n)))]) (Sub.cons rfl Sub.nil) ?_
        refine Wk.ret (Kt.end1 rfl rfl fun w' hw => ?_)
        -- ret 3: .bool (bitsB a.rel (a.n * a.n))
        exact ⟨ret_b (by first | (simp [validB, inB, *]; done) | (simp [validB, inB, *]; omega)), hw.below⟩

set_option maxHeartbeats 400000 in
/-- impl.Structure.inSet -/
theorem inSet_ok (a : St) (x : Int) (w : World) (ha : a.Fine) (hx : a.El x) :
    Calls Tryd.prog 50 [vS a, .int .i64 x].toArray w fun en w' => en = .returned (.bool (a.inSet x)) ∧ Below w.heap.size w w' := by
  refine fnStart (n := 10) (e := [(0, vS a), (1, .int .i64 x)]) Tryd.func50 rfl rfl rfl rfl Ends.both ?_
  have hs := ha.set
  obtain ⟨h0, h1⟩ := hx
  refine Wk.seq ?_
  refine Wk.region ?_
  refine Ll.box (v := vS a) rfl rfl rfl rfl rfl fun p2 hp2 => ?_
  show Ll _ _ (Own _ _ [(p2, .cells #[.int .i64 a.n, str a.set, str a.rel] 27 (0, 0))]) _ _ ((2, .pointer (some ⟨p2, 0, none⟩)) :: _) _ _ _
  refine Ll.op (v := .bool false) rfl rfl rfl (OpQ.assign rfl rfl) ?_
  refine Ll.nil ?_
  refine Kt.onSub (e' := [(1, .int .i64 x), (2, .pointer (some ⟨p2, 0, none⟩))]) (Sub.cons rfl (Sub.cons rfl Sub.nil)) ?_
  refine Wk.seq ?_
  refine Wk.regionQ ?_
  refine Lq.op (v := .pointer (some ⟨p2, 1, none⟩)) rfl rfl rfl (OpQ.fieldAddr rfl Tryd.runUnderlying27 rfl Tryd.sizeOf9 rfl rfl) ?_
  refine Lq.op (v := str a.set) rfl rfl rfl (OpQ.loadOwn 0 rfl Tryd.isAgg9 rfl rfl rfl) ?_
  refine Lq.op (v := .int .i64 x) rfl rfl rfl (OpQ.move rfl rfl) ?_
  refine Lq.op (v := .int .u8 (((a.set.getD ((x).toNat) 0).toNat : Int))) rfl rfl rfl (OpQ.indexStr rfl Tryd.runUnderlying9 rfl rfl (by omega) (by omega)) ?_
  refine Lq.op (v := .bool (decide ((((a.set.getD ((x).toNat) 0).toNat : Int)) = (49 : Int)))) rfl rfl rfl (OpQ.eql rfl rfl rfl) ?_
  refine Lq.op (v := .bool (decide ((((a.set.getD ((x).toNat) 0).toNat : Int)) = (49 : Int)))) rfl rfl rfl (OpQ.assign rfl rfl) ?_
  refine Lq.nil ?_
  refine Kt.onSub (e' := [(4, .bool (decide ((((a.set.getD ((x).toNat) 0).toNat : Int)) = (49 : Int))))]) (Sub.cons rfl Sub.nil) ?_
  refine Wk.ret (Kt.end1 rfl rfl fun w' hw => ?_)
  -- ret 0: .bool (decide ((((a.set.getD ((x).toNat) 0).toNat : Int)) = (49 : Int)))
  exact ⟨ret_b (by first | rfl | (simp_all; done) | (simp_all; omega)), hw.below⟩

set_option maxHeartbeats 400000 in
/-- impl.Structure.inRel -/
theorem inRel_ok (a : St) (x y : Int) (w : World) (ha : a.Fine) (hx : a.El x) (hy : a.El y) :
    Calls Tryd.prog 51 [vS a, .int .i64 x, .int .i64 y].toArray w fun en w' => en = .returned (.bool (a.inRel x y)) ∧ Below w.heap.size w w' := by
  refine fnStart (n := 17) (e := [(0, vS a), (1, .int .i64 x), (2, .int .i64 y)]) Tryd.func51 rfl rfl rfl rfl Ends.both ?_
  obtain ⟨k0, k1, k2, k3, k4⟩ := ha.relLt hx hy
  refine Wk.seq ?_
  refine Wk.region ?_
  refine Ll.box (v := vS a) rfl rfl rfl rfl rfl fun p3 hp3 => ?_
  show Ll _ _ (Own _ _ [(p3, .cells #[.int .i64 a.n, str a.set, str a.rel] 27 (0, 0))]) _ _ ((3, .pointer (some ⟨p3, 0, none⟩)) :: _) _ _ _
  refine Ll.op (v := .bool false) rfl rfl rfl (OpQ.assign rfl rfl) ?_
  refine Ll.nil ?_
  refine Kt.onSub (e' := [(1, .int .i64 x), (2, .int .i64 y), (3, .pointer (some ⟨p3, 0, none⟩))]) (Sub.cons rfl (Sub.cons rfl (Sub.cons rfl Sub.nil))) ?_
  refine Wk.seq ?_
  refine Wk.regionQ ?_
  refine Lq.op (v := .pointer (some ⟨p3, 2, none⟩)) rfl rfl rfl (OpQ.fieldAddr rfl Tryd.runUnderlying27 rfl Tryd.sizeOf9 rfl rfl) ?_
  refine Lq.op (v := str a.rel) rfl rfl rfl (OpQ.loadOwn 0 rfl Tryd.isAgg9 rfl rfl rfl) ?_
  refine Lq.op (v := .int .i64 x) rfl rfl rfl (OpQ.move rfl rfl) ?_
  refine Lq.op (v := .pointer (some ⟨p3, 0, none⟩)) rfl rfl rfl (OpQ.fieldAddr rfl Tryd.runUnderlying27 rfl Tryd.sizeOf3 rfl rfl) ?_
  refine Lq.op (v := .int .i64 a.n) rfl rfl rfl (OpQ.loadOwn 0 rfl Tryd.isAgg3 rfl rfl rfl) ?_
  refine Lq.op (v := .int .i64 (x * a.n)) rfl rfl rfl (OpQ.mul rfl rfl rfl (by omega) (by omega)) ?_
  refine Lq.op (v := .int .i64 y) rfl rfl rfl (OpQ.move rfl rfl) ?_
  refine Lq.op (v := .int .i64 ((x * a.n) + y)) rfl rfl rfl (OpQ.add rfl rfl rfl (by omega) (by omega)) ?_
  refine Lq.op (v := .int .u8 (((a.rel.getD (((x * a.n) + y).toNat) 0).toNat : Int))) rfl rfl rfl (OpQ.indexStr rfl Tryd.runUnderlying9 rfl rfl (by omega) (by omega)) ?_
  refine Lq.op (v := .bool (decide ((((a.rel.getD (((x * a.n) + y).toNat) 0).toNat : Int)) = (49 : Int)))) rfl rfl rfl (OpQ.eql rfl rfl rfl) ?_
  refine Lq.op (v := .bool (decide ((((a.rel.getD (((x * a.n) + y).toNat) 0).toNat : Int)) = (49 : Int)))) rfl rfl rfl (OpQ.assign rfl rfl) ?_
  refine Lq.nil ?_
  refine Kt.onSub (e' := [(6, .bool (decide ((((a.rel.getD (((x * a.n) + y).toNat) 0).toNat : Int)) = (49 : Int))))]) (Sub.cons rfl Sub.nil) ?_
  refine Wk.ret (Kt.end1 rfl rfl fun w' hw => ?_)
  -- ret 0: .bool (decide ((((a.rel.getD (((x * a.n) + y).toNat) 0).toNat : Int)) = (49 : Int)))
  exact ⟨ret_b (by first | rfl | (simp_all; done) | (simp_all; omega)), hw.below⟩

set_option maxHeartbeats 400000 in
/-- impl.SpreadOf|yes -/
theorem iSpread_yes (a : St) (w : World) (hv : validB a = true) :
    Calls Tryd.prog 18 [vS a].toArray w fun en w' => ∃ v, en = .returned v ∧ Below w.heap.size w w' ∧ NewRow w.heap.size 3 1 w' v 4 (ints (spreadTo a a.n.toNat)) := by
  refine fnStart (n := 34) (e := [(0, vS a)]) Tryd.func18 rfl rfl rfl rfl Ends.both ?_
  have ha := validB_fine hv
  have hsa := ha.small
  have hn := ha.lo
  have hn8 := ha.hi
  refine Wk.seq ?_
  refine Wk.region ?_
  refine Ll.box (v := vS a) rfl rfl rfl rfl rfl fun p1 hp1 => ?_
  show Ll _ _ (Own _ _ [(p1, .cells #[.int .i64 a.n, str a.set, str a.rel] 27 (0, 0))]) _ _ ((1, .pointer (some ⟨p1, 0, none⟩)) :: _) _ _ _
  refine Ll.op (v := .slice none 0 0) rfl rfl rfl (OpQ.assign rfl rfl) ?_
  refine Ll.nil ?_
  refine Kt.onSub (e' := [(1, .pointer (some ⟨p1, 0, none⟩))]) (Sub.cons rfl Sub.nil) ?_
  refine Wk.seq ?_
  refine Wk.seq ?_
  refine Wk.regionQ ?_
  refine Lq.op (v := vS a) rfl rfl rfl (OpQ.loadBox (cs := #[.int .i64 a.n, str a.set, str a.rel]) 0 rfl Tryd.isAgg27 rfl rfl Tryd.sizeOf27) ?_
  refine Lq.op (v := .bool true) rfl rfl rfl (OpQ.call rfl Tryd.call49 rfl Own.stable (fun w1 hw1 => known_b hv (isStructure_ok a w1 hsa))) ?_
  refine Lq.op (v := .bool false) rfl rfl rfl (OpQ.notT rfl rfl) ?_
  refine Lq.nil ?_
  refine Kt.onSub (e' := [(1, .pointer (some ⟨p1, 0, none⟩)), (8, .bool false)]) (Sub.cons rfl (Sub.cons rfl Sub.nil)) ?_
  refine Wk.condF rfl ?_
  refine Wk.skip ?_
  refine Kt.onSub (e' := [(1, .pointer (some ⟨p1, 0, none⟩))]) (Sub.cons rfl Sub.nil) ?_
  refine Wk.seq ?_
  refine Wk.region ?_
  refine Ll.make (k := 4) Base.elem25 Tryd.zeroValue3 rfl rfl rfl rfl rfl (by omega) fun p9 hp9 => ?_
  rw [show madeCells (Value.cells (.int .i64 0)) (4 * 1) = (ints (List.replicate 4 0)).toArray from made_ints _]
  refine Ll.op (v := .slice (some ⟨p9, 0, none⟩) 4 4) rfl rfl rfl (OpQ.assign rfl rfl) ?_
  refine Ll.nil ?_
  refine Kt.onSub (e' := [(1, .pointer (some ⟨p1, 0, none⟩)), (3, .slice (some ⟨p9, 0, none⟩) 4 4)]) (Sub.cons rfl (Sub.cons rfl Sub.nil)) ?_
  refine Wk.seq ?_
  refine Wk.seq ?_
  refine Wk.regionQ ?_
  refine Lq.op (v := .pointer (some ⟨p1, 0, none⟩)) rfl rfl rfl (OpQ.fieldAddr rfl Tryd.runUnderlying27 rfl Tryd.sizeOf3 rfl rfl) ?_
  refine Lq.op (v := .int .i64 a.n) rfl rfl rfl (OpQ.loadOwn 1 rfl Tryd.isAgg3 rfl rfl rfl) ?_
  refine Lq.op (v := .int .i64 0) rfl rfl rfl (OpQ.move rfl rfl) ?_
  refine Lq.nil ?_
  refine Kt.onSub (e' := [(1, .pointer (some ⟨p1, 0, none⟩)), (3, .slice (some ⟨p9, 0, none⟩) 4 4), (11, .int .i64 a.n), (12, .int .i64 0)]) (Sub.cons rfl (Sub.cons rfl (Sub.cons rfl (Sub.cons rfl Sub.nil)))) ?_
  refine Wk.block ?_
  refine Wk.loop (σ := Nat) (fun k => (k : Int) ≤ a.n) (fun k => [(1, .pointer (some ⟨p1, 0, none⟩)), (3, .slice (some ⟨p9, 0, none⟩) 4 4), (11, .int .i64 a.n), (12, .int .i64 ((k : Int)))]) (fun k => Own w.heap.size w [(p9, .cells ((ints (spreadTo a k)).toArray) 3 (0, 0)), (p1, .cells #[.int .i64 a.n, str a.set, str a.rel] 27 (0, 0))]) (fun k => (a.n - k).toNat) (0) (by omega) (Sub.cons rfl (Sub.cons rfl (Sub.cons rfl (Sub.cons rfl Sub.nil)))) (fun _ h => h) ?_
  rintro k hk
  refine Wk.seq ?_
  refine Wk.regionQ ?_
  refine Lq.op (v := .bool (decide (((k : Int)) < a.n))) rfl rfl rfl (OpQ.lss rfl rfl rfl) ?_
  refine Lq.nil ?_
  refine Kt.onSub (e' := [(1, .pointer (some ⟨p1, 0, none⟩)), (3, .slice (some ⟨p9, 0, none⟩) 4 4), (11, .int .i64 a.n), (12, .int .i64 ((k : Int))), (13, .bool (decide (((k : Int)) < a.n)))]) (Sub.cons rfl (Sub.cons rfl (Sub.cons rfl (Sub.cons rfl (Sub.cons rfl Sub.nil))))) ?_
  refine Wk.seq ?_
  refine Wk.cond (b := decide (((k : Int)) < a.n)) rfl (fun h13 => ?_) (fun h13 => ?_)
  · skip
    replace h13 := of_decide_eq_true h13
    have hel : a.El k := ⟨by omega, by omega⟩
    refine Wk.skip ?_
    refine Kt.onSub (e' := [(1, .pointer (some ⟨p1, 0, none⟩)), (3, .slice (some ⟨p9, 0, none⟩) 4 4), (11, .int .i64 a.n), (12, .int .i64 ((k : Int)))]) (Sub.cons rfl (Sub.cons rfl (Sub.cons rfl (Sub.cons rfl Sub.nil)))) ?_
    refine Wk.seq ?_
    refine Wk.block ?_
    refine Wk.seq ?_
    refine Wk.regionQ ?_
    refine Lq.op (v := .int .i64 ((k : Int))) rfl rfl rfl (OpQ.move rfl rfl) ?_
    refine Lq.op (v := .int .i64 ((k : Int))) rfl rfl rfl (OpQ.assign rfl rfl) ?_
    refine Lq.nil ?_
    refine Kt.onSub (e' := [(1, .pointer (some ⟨p1, 0, none⟩)), (3, .slice (some ⟨p9, 0, none⟩) 4 4), (4, .int .i64 ((k : Int))), (11, .int .i64 a.n), (12, .int .i64 ((k : Int)))]) (Sub.cons rfl (Sub.cons rfl (Sub.cons rfl (Sub.cons rfl (Sub.cons rfl Sub.nil))))) ?_
    refine Wk.seq ?_
    refine Wk.regionQ ?_
    refine Lq.op (v := .int .i64 0) rfl rfl rfl (OpQ.assign rfl rfl) ?_
    refine Lq.nil ?_
    refine Kt.onSub (e' := [(1, .pointer (some ⟨p1, 0, none⟩)), (3, .slice (some ⟨p9, 0, none⟩) 4 4), (4, .int .i64 ((k : Int))), (5, .int .i64 0), (11, .int .i64 a.n), (12, .int .i64 ((k : Int)))]) (Sub.cons rfl (Sub.cons rfl (Sub.cons rfl (Sub.cons rfl (Sub.cons rfl (Sub.cons rfl Sub.nil)))))) ?_
    refine Wk.seq ?_
    refine Wk.seq ?_
    refine Wk.regionQ ?_
    refine Lq.op (v := vS a) rfl rfl rfl (OpQ.loadBox (cs := #[.int .i64 a.n, str a.set, str a.rel]) 1 rfl Tryd.isAgg27 rfl rfl Tryd.sizeOf27) ?_
    refine Lq.op (v := .int .i64 ((k : Int))) rfl rfl rfl (OpQ.move rfl rfl) ?_
    refine Lq.op (v := .bool (a.inSet ((k : Int)))) rfl rfl rfl (OpQ.call rfl Tryd.call50 rfl Own.stable (fun w1 hw1 => inSet_ok a ((k : Int)) w1 ha (by first | assumption | exact St.Els.at (by assumption) (by omega) (by omega)))) ?_
    refine Lq.nil ?_
    refine Kt.onSub (e' := [(1, .pointer (some ⟨p1, 0, none⟩)), (3, .slice (some ⟨p9, 0, none⟩) 4 4), (4, .int .i64 ((k : Int))), (5, .int .i64 0), (11, .int .i64 a.n), (12, .int .i64 ((k : Int))), (17, .bool (a.inSet ((k : Int))))]) (Sub.cons rfl (Sub.cons rfl (Sub.cons rfl (Sub.cons rfl (Sub.cons rfl (Sub.cons rfl (Sub.cons rfl Sub.nil))))))) ?_
    refine Wk.cond (b := a.inSet ((k : Int))) rfl (fun h17 => ?_) (fun h17 => ?_)
    · skip
      refine Wk.regionQ ?_
      refine Lq.op (v := .int .i64 0) rfl rfl rfl (OpQ.move rfl rfl) ?_
      refine Lq.op (v := .int .i64 ((0 : Int) + (1 : Int))) rfl rfl rfl (OpQ.add rfl rfl rfl (by omega) (by omega)) ?_
      refine Lq.op (v := .int .i64 ((0 : Int) + (1 : Int))) rfl rfl rfl (OpQ.assign rfl rfl) ?_
      refine Lq.nil ?_
      refine Kt.onSub (e' := [(1, .pointer (some ⟨p1, 0, none⟩)), (3, .slice (some ⟨p9, 0, none⟩) 4 4), (4, .int .i64 ((k : Int))), (5, .int .i64 ((0 : Int) + (1 : Int))), (11, .int .i64 a.n), (12, .int .i64 ((k : Int)))]) (Sub.cons rfl (Sub.cons rfl (Sub.cons rfl (Sub.cons rfl (Sub.cons rfl (Sub.cons rfl Sub.nil)))))) ?_
      refine Wk.seq ?_
      refine Wk.seq ?_
      refine Wk.regionQ ?_
      refine Lq.op (v := vS a) rfl rfl rfl (OpQ.loadBox (cs := #[.int .i64 a.n, str a.set, str a.rel]) 1 rfl Tryd.isAgg27 rfl rfl Tryd.sizeOf27) ?_
      refine Lq.op (v := .int .i64 ((k : Int))) rfl rfl rfl (OpQ.move rfl rfl) ?_
      refine Lq.op (v := .int .i64 ((k : Int))) rfl rfl rfl (OpQ.move rfl rfl) ?_
      refine Lq.op (v := .bool (a.inRel ((k : Int)) ((k : Int)))) rfl rfl rfl (OpQ.call rfl Tryd.call51 rfl Own.stable (fun w1 hw1 => inRel_ok a ((k : Int)) ((k : Int)) w1 ha (by first | assumption | exact St.Els.at (by assumption) (by omega) (by omega)) (by first | assumption | exact St.Els.at (by assumption) (by omega) (by omega)))) ?_
      refine Lq.nil ?_
      refine Kt.onSub (e' := [(1, .pointer (some ⟨p1, 0, none⟩)), (3, .slice (some ⟨p9, 0, none⟩) 4 4), (5, .int .i64 ((0 : Int) + (1 : Int))), (11, .int .i64 a.n), (12, .int .i64 ((k : Int))), (23, .bool (a.inRel ((k : Int)) ((k : Int))))]) (Sub.cons rfl (Sub.cons rfl (Sub.cons rfl (Sub.cons rfl (Sub.cons rfl (Sub.cons rfl Sub.nil)))))) ?_
      refine Wk.cond (b := a.inRel ((k : Int)) ((k : Int))) rfl (fun h23 => ?_) (fun h23 => ?_)
      · skip
        refine Wk.regionQ ?_
        refine Lq.op (v := .int .i64 ((0 : Int) + (1 : Int))) rfl rfl rfl (OpQ.move rfl rfl) ?_
        refine Lq.op (v := .int .i64 (((0 : Int) + (1 : Int)) + (2 : Int))) rfl rfl rfl (OpQ.add rfl rfl rfl (by omega) (by omega)) ?_
        refine Lq.op (v := .int .i64 (((0 : Int) + (1 : Int)) + (2 : Int))) rfl rfl rfl (OpQ.assign rfl rfl) ?_
        refine Lq.nil ?_
        refine Kt.onSub (e' := [(1, .pointer (some ⟨p1, 0, none⟩)), (3, .slice (some ⟨p9, 0, none⟩) 4 4), (5, .int .i64 (((0 : Int) + (1 : Int)) + (2 : Int))), (11, .int .i64 a.n), (12, .int .i64 ((k : Int)))]) (Sub.cons rfl (Sub.cons rfl (Sub.cons rfl (Sub.cons rfl (Sub.cons rfl Sub.nil))))) ?_
        refine Wk.region ?_
        refine Ll.op (v := .slice (some ⟨p9, 0, none⟩) 4 4) rfl rfl rfl (OpQ.move rfl rfl) ?_
        refine Ll.op (v := .int .i64 (((0 : Int) + (1 : Int)) + (2 : Int))) rfl rfl rfl (OpQ.move rfl rfl) ?_
        refine Ll.op (v := .pointer (some ⟨p9, 0 + (((0 : Int) + (1 : Int)) + (2 : Int)).toNat, none⟩)) rfl rfl rfl (OpQ.indexAddr1 rfl Tryd.runUnderlying25 Tryd.sizeOf3 rfl rfl (by omega) (by omega)) ?_
        refine Ll.op (v := .int .i64 ((spreadTo a k).getD (0 + (((0 : Int) + (1 : Int)) + (2 : Int)).toNat) 0)) rfl rfl rfl (OpQ.loadAt 0 rfl Tryd.isAgg3 rfl rfl (ints_at (by first | (simp; done) | (simp; omega) | omega))) ?_
        refine Ll.op (v := .int .i64 (((spreadTo a k).getD (0 + (((0 : Int) + (1 : Int)) + (2 : Int)).toNat) 0) + (1 : Int))) rfl rfl rfl (OpQ.add rfl rfl rfl (bd_lo (spread_bd a k _)) (bd_hi (spread_bd a k _) (by omega))) ?_
        refine Ll.op (v := .pointer (some ⟨p9, 0 + (((0 : Int) + (1 : Int)) + (2 : Int)).toNat, none⟩)) rfl rfl rfl (OpQ.indexAddr1 rfl Tryd.runUnderlying25 Tryd.sizeOf3 rfl rfl (by omega) (by omega)) ?_
        refine Ll.store1 (v := .int .i64 (((spreadTo a k).getD (0 + (((0 : Int) + (1 : Int)) + (2 : Int)).toNat) 0) + (1 : Int))) (hs' := [(p9, .cells ((ints ((spreadTo a k).set ((((0 : Int) + (1 : Int)) + (2 : Int)).toNat) (((spreadTo a k).getD (0 + (((0 : Int) + (1 : Int)) + (2 : Int)).toNat) 0) + (1 : Int)))).toArray) 3 (0, 0)), (p1, .cells #[.int .i64 a.n, str a.set, str a.rel] 27 (0, 0))]) 0 rfl rfl rfl rfl rfl rfl Tryd.sizeOf3 rfl (by first | (simp; done) | (simp; omega) | omega) (by simp only [Nat.zero_add]; rw [ints_set]; rfl) ?_
        refine Ll.nil ?_
        refine Kt.onSub (e' := [(1, .pointer (some ⟨p1, 0, none⟩)), (3, .slice (some ⟨p9, 0, none⟩) 4 4), (11, .int .i64 a.n), (12, .int .i64 ((k : Int)))]) (Sub.cons rfl (Sub.cons rfl (Sub.cons rfl (Sub.cons rfl Sub.nil)))) ?_
        refine Wk.regionQ ?_
        refine Lq.op (v := .int .i64 (((k : Int)) + (1 : Int))) rfl rfl rfl (OpQ.add rfl rfl rfl (by omega) (by omega)) ?_
        refine Lq.op (v := .int .i64 (((k : Int)) + (1 : Int))) rfl rfl rfl (OpQ.move rfl rfl) ?_
        refine Lq.nil ?_
        refine Kt.again (k + 1) (by omega) (by omega) (Sub.cons rfl (Sub.cons rfl (Sub.cons rfl (Sub.cons rfl Sub.nil)))) (fun _ h => by rw [show spreadTo a (k + 1) = (spreadTo a k).set ((((0 : Int) + (1 : Int)) + (2 : Int)).toNat) (((spreadTo a k).getD (0 + (((0 : Int) + (1 : Int)) + (2 : Int)).toNat) 0) + (1 : Int)) from (by simp [spreadTo, kindN, *])]; exact h)
      · skip
        refine Wk.skip ?_
        refine Kt.onSub (e' := [(1, .pointer (some ⟨p1, 0, none⟩)), (3, .slice (some ⟨p9, 0, none⟩) 4 4), (5, .int .i64 ((0 : Int) + (1 : Int))), (11, .int .i64 a.n), (12, .int .i64 ((k : Int)))]) (Sub.cons rfl (Sub.cons rfl (Sub.cons rfl (Sub.cons rfl (Sub.cons rfl Sub.nil))))) ?_
        refine Wk.region ?_
        refine Ll.op (v := .slice (some ⟨p9, 0, none⟩) 4 4) rfl rfl rfl (OpQ.move rfl rfl) ?_
        refine Ll.op (v := .int .i64 ((0 : Int) + (1 : Int))) rfl rfl rfl (OpQ.move rfl rfl) ?_
        refine Ll.op (v := .pointer (some ⟨p9, 0 + ((0 : Int) + (1 : Int)).toNat, none⟩)) rfl rfl rfl (OpQ.indexAddr1 rfl Tryd.runUnderlying25 Tryd.sizeOf3 rfl rfl (by omega) (by omega)) ?_
        refine Ll.op (v := .int .i64 ((spreadTo a k).getD (0 + ((0 : Int) + (1 : Int)).toNat) 0)) rfl rfl rfl (OpQ.loadAt 0 rfl Tryd.isAgg3 rfl rfl (ints_at (by first | (simp; done) | (simp; omega) | omega))) ?_
        refine Ll.op (v := .int .i64 (((spreadTo a k).getD (0 + ((0 : Int) + (1 : Int)).toNat) 0) + (1 : Int))) rfl rfl rfl (OpQ.add rfl rfl rfl (bd_lo (spread_bd a k _)) (bd_hi (spread_bd a k _) (by omega))) ?_
        refine Ll.op (v := .pointer (some ⟨p9, 0 + ((0 : Int) + (1 : Int)).toNat, none⟩)) rfl rfl rfl (OpQ.indexAddr1 rfl Tryd.runUnderlying25 Tryd.sizeOf3 rfl rfl (by omega) (by omega)) ?_
        refine Ll.store1 (v := .int .i64 (((spreadTo a k).getD (0 + ((0 : Int) + (1 : Int)).toNat) 0) + (1 : Int))) (hs' := [(p9, .cells ((ints ((spreadTo a k).set (((0 : Int) + (1 : Int)).toNat) (((spreadTo a k).getD (0 + ((0 : Int) + (1 : Int)).toNat) 0) + (1 : Int)))).toArray) 3 (0, 0)), (p1, .cells #[.int .i64 a.n, str a.set, str a.rel] 27 (0, 0))]) 0 rfl rfl rfl rfl rfl rfl Tryd.sizeOf3 rfl (by first | (simp; done) | (simp; omega) | omega) (by simp only [Nat.zero_add]; rw [ints_set]; rfl) ?_
        refine Ll.nil ?_
        refine Kt.onSub (e' := [(1, .pointer (some ⟨p1, 0, none⟩)), (3, .slice (some ⟨p9, 0, none⟩) 4 4), (11, .int .i64 a.n), (12, .int .i64 ((k : Int)))]) (Sub.cons rfl (Sub.cons rfl (Sub.cons rfl (Sub.cons rfl Sub.nil)))) ?_
        refine Wk.regionQ ?_
        refine Lq.op (v := .int .i64 (((k : Int)) + (1 : Int))) rfl rfl rfl (OpQ.add rfl rfl rfl (by omega) (by omega)) ?_
        refine Lq.op (v := .int .i64 (((k : Int)) + (1 : Int))) rfl rfl rfl (OpQ.move rfl rfl) ?_
        refine Lq.nil ?_
        refine Kt.again (k + 1) (by omega) (by omega) (Sub.cons rfl (Sub.cons rfl (Sub.cons rfl (Sub.cons rfl Sub.nil)))) (fun _ h => by rw [show spreadTo a (k + 1) = (spreadTo a k).set (((0 : Int) + (1 : Int)).toNat) (((spreadTo a k).getD (0 + ((0 : Int) + (1 : Int)).toNat) 0) + (1 : Int)) from (by simp [spreadTo, kindN, *])]; exact h)
    · skip
      refine Wk.skip ?_
      refine Kt.onSub (e' := [(1, .pointer (some ⟨p1, 0, none⟩)), (3, .slice (some ⟨p9, 0, none⟩) 4 4), (4, .int .i64 ((k : Int))), (5, .int .i64 0), (11, .int .i64 a.n), (12, .int .i64 ((k : Int)))]) (Sub.cons rfl (Sub.cons rfl (Sub.cons rfl (Sub.cons rfl (Sub.cons rfl (Sub.cons rfl Sub.nil)))))) ?_
      refine Wk.seq ?_
      refine Wk.seq ?_
      refine Wk.regionQ ?_
      refine Lq.op (v := vS a) rfl rfl rfl (OpQ.loadBox (cs := #[.int .i64 a.n, str a.set, str a.rel]) 1 rfl Tryd.isAgg27 rfl rfl Tryd.sizeOf27) ?_
      refine Lq.op (v := .int .i64 ((k : Int))) rfl rfl rfl (OpQ.move rfl rfl) ?_
      refine Lq.op (v := .int .i64 ((k : Int))) rfl rfl rfl (OpQ.move rfl rfl) ?_
      refine Lq.op (v := .bool (a.inRel ((k : Int)) ((k : Int)))) rfl rfl rfl (OpQ.call rfl Tryd.call51 rfl Own.stable (fun w1 hw1 => inRel_ok a ((k : Int)) ((k : Int)) w1 ha (by first | assumption | exact St.Els.at (by assumption) (by omega) (by omega)) (by first | assumption | exact St.Els.at (by assumption) (by omega) (by omega)))) ?_
      refine Lq.nil ?_
      refine Kt.onSub (e' := [(1, .pointer (some ⟨p1, 0, none⟩)), (3, .slice (some ⟨p9, 0, none⟩) 4 4), (5, .int .i64 0), (11, .int .i64 a.n), (12, .int .i64 ((k : Int))), (23, .bool (a.inRel ((k : Int)) ((k : Int))))]) (Sub.cons rfl (Sub.cons rfl (Sub.cons rfl (Sub.cons rfl (Sub.cons rfl (Sub.cons rfl Sub.nil)))))) ?_
      refine Wk.cond (b := a.inRel ((k : Int)) ((k : Int))) rfl (fun h23_1 => ?_) (fun h23_1 => ?_)
      · skip
        refine Wk.regionQ ?_
        refine Lq.op (v := .int .i64 0) rfl rfl rfl (OpQ.move rfl rfl) ?_
        refine Lq.op (v := .int .i64 ((0 : Int) + (2 : Int))) rfl rfl rfl (OpQ.add rfl rfl rfl (by omega) (by omega)) ?_
        refine Lq.op (v := .int .i64 ((0 : Int) + (2 : Int))) rfl rfl rfl (OpQ.assign rfl rfl) ?_
        refine Lq.nil ?_
        refine Kt.onSub (e' := [(1, .pointer (some ⟨p1, 0, none⟩)), (3, .slice (some ⟨p9, 0, none⟩) 4 4), (5, .int .i64 ((0 : Int) + (2 : Int))), (11, .int .i64 a.n), (12, .int .i64 ((k : Int)))]) (Sub.cons rfl (Sub.cons rfl (Sub.cons rfl (Sub.cons rfl (Sub.cons rfl Sub.nil))))) ?_
        refine Wk.region ?_
        refine Ll.op (v := .slice (some ⟨p9, 0, none⟩) 4 4) rfl rfl rfl (OpQ.move rfl rfl) ?_
        refine Ll.op (v := .int .i64 ((0 : Int) + (2 : Int))) rfl rfl rfl (OpQ.move rfl rfl) ?_
        refine Ll.op (v := .pointer (some ⟨p9, 0 + ((0 : Int) + (2 : Int)).toNat, none⟩)) rfl rfl rfl (OpQ.indexAddr1 rfl Tryd.runUnderlying25 Tryd.sizeOf3 rfl rfl (by omega) (by omega)) ?_
        refine Ll.op (v := .int .i64 ((spreadTo a k).getD (0 + ((0 : Int) + (2 : Int)).toNat) 0)) rfl rfl rfl (OpQ.loadAt 0 rfl Tryd.isAgg3 rfl rfl (ints_at (by first | (simp; done) | (simp; omega) | omega))) ?_
        refine Ll.op (v := .int .i64 (((spreadTo a k).getD (0 + ((0 : Int) + (2 : Int)).toNat) 0) + (1 : Int))) rfl rfl rfl (OpQ.add rfl rfl rfl (bd_lo (spread_bd a k _)) (bd_hi (spread_bd a k _) (by omega))) ?_
        refine Ll.op (v := .pointer (some ⟨p9, 0 + ((0 : Int) + (2 : Int)).toNat, none⟩)) rfl rfl rfl (OpQ.indexAddr1 rfl Tryd.runUnderlying25 Tryd.sizeOf3 rfl rfl (by omega) (by omega)) ?_
        refine Ll.store1 (v := .int .i64 (((spreadTo a k).getD (0 + ((0 : Int) + (2 : Int)).toNat) 0) + (1 : Int))) (hs' := [(p9, .cells ((ints ((spreadTo a k).set (((0 : Int) + (2 : Int)).toNat) (((spreadTo a k).getD (0 + ((0 : Int) + (2 : Int)).toNat) 0) + (1 : Int)))).toArray) 3 (0, 0)), (p1, .cells #[.int .i64 a.n, str a.set, str a.rel] 27 (0, 0))]) 0 rfl rfl rfl rfl rfl rfl Tryd.sizeOf3 rfl (by first | (simp; done) | (simp; omega) | omega) (by simp only [Nat.zero_add]; rw [ints_set]; rfl) ?_
        refine Ll.nil ?_
        refine Kt.onSub (e' := [(1, .pointer (some ⟨p1, 0, none⟩)), (3, .slice (some ⟨p9, 0, none⟩) 4 4), (11, .int .i64 a.n), (12, .int .i64 ((k : Int)))]) (Sub.cons rfl (Sub.cons rfl (Sub.cons rfl (Sub.cons rfl Sub.nil)))) ?_
        refine Wk.regionQ ?_
        refine Lq.op (v := .int .i64 (((k : Int)) + (1 : Int))) rfl rfl rfl (OpQ.add rfl rfl rfl (by omega) (by omega)) ?_
        refine Lq.op (v := .int .i64 (((k : Int)) + (1 : Int))) rfl rfl rfl (OpQ.move rfl rfl) ?_
        refine Lq.nil ?_
        refine Kt.again (k + 1) (by omega) (by omega) (Sub.cons rfl (Sub.cons rfl (Sub.cons rfl (Sub.cons rfl Sub.nil)))) (fun _ h => by rw [show spreadTo a (k + 1) = (spreadTo a k).set (((0 : Int) + (2 : Int)).toNat) (((spreadTo a k).getD (0 + ((0 : Int) + (2 : Int)).toNat) 0) + (1 : Int)) from (by simp [spreadTo, kindN, *])]; exact h)
      · skip
        refine Wk.skip ?_
        refine Kt.onSub (e' := [(1, .pointer (some ⟨p1, 0, none⟩)), (3, .slice (some ⟨p9, 0, none⟩) 4 4), (5, .int .i64 0), (11, .int .i64 a.n), (12, .int .i64 ((k : Int)))]) (Sub.cons rfl (Sub.cons rfl (Sub.cons rfl (Sub.cons rfl (Sub.cons rfl Sub.nil))))) ?_
        refine Wk.region ?_
        refine Ll.op (v := .slice (some ⟨p9, 0, none⟩) 4 4) rfl rfl rfl (OpQ.move rfl rfl) ?_
        refine Ll.op (v := .int .i64 0) rfl rfl rfl (OpQ.move rfl rfl) ?_
        refine Ll.op (v := .pointer (some ⟨p9, 0 + (0 : Int).toNat, none⟩)) rfl rfl rfl (OpQ.indexAddr1 rfl Tryd.runUnderlying25 Tryd.sizeOf3 rfl rfl (by omega) (by omega)) ?_
        refine Ll.op (v := .int .i64 ((spreadTo a k).getD (0 + (0 : Int).toNat) 0)) rfl rfl rfl (OpQ.loadAt 0 rfl Tryd.isAgg3 rfl rfl (ints_at (by first | (simp; done) | (simp; omega) | omega))) ?_
        refine Ll.op (v := .int .i64 (((spreadTo a k).getD (0 + (0 : Int).toNat) 0) + (1 : Int))) rfl rfl rfl (OpQ.add rfl rfl rfl (bd_lo (spread_bd a k _)) (bd_hi (spread_bd a k _) (by omega))) ?_
        refine Ll.op (v := .pointer (some ⟨p9, 0 + (0 : Int).toNat, none⟩)) rfl rfl rfl (OpQ.indexAddr1 rfl Tryd.runUnderlying25 Tryd.sizeOf3 rfl rfl (by omega) (by omega)) ?_
        refine Ll.store1 (v := .int .i64 (((spreadTo a k).getD (0 + (0 : Int).toNat) 0) + (1 : Int))) (hs' := [(p9, .cells ((ints ((spreadTo a k).set ((0 : Int).toNat) (((spreadTo a k).getD (0 + (0 : Int).toNat) 0) + (1 : Int)))).toArray) 3 (0, 0)), (p1, .cells #[.int .i64 a.n, str a.set, str a.rel] 27 (0, 0))]) 0 rfl rfl rfl rfl rfl rfl Tryd.sizeOf3 rfl (by first | (simp; done) | (simp; omega) | omega) (by simp only [Nat.zero_add]; rw [ints_set]; rfl) ?_
        refine Ll.nil ?_
        refine Kt.onSub (e' := [(1, .pointer (some ⟨p1, 0, none⟩)), (3, .slice (some ⟨p9, 0, none⟩) 4 4), (11, .int .i64 a.n), (12, .int .i64 ((k : Int)))]) (Sub.cons rfl (Sub.cons rfl (Sub.cons rfl (Sub.cons rfl Sub.nil)))) ?_
        refine Wk.regionQ ?_
        refine Lq.op (v := .int .i64 (((k : Int)) + (1 : Int))) rfl rfl rfl (OpQ.add rfl rfl rfl (by omega) (by omega)) ?_
        refine Lq.op (v := .int .i64 (((k : Int)) + (1 : Int))) rfl rfl rfl (OpQ.move rfl rfl) ?_
        refine Lq.nil ?_
        refine Kt.again (k + 1) (by omega) (by omega) (Sub.cons rfl (Sub.cons rfl (Sub.cons rfl (Sub.cons rfl Sub.nil)))) (fun _ h => by rw [show spreadTo a (k + 1) = (spreadTo a k).set ((0 : Int).toNat) (((spreadTo a k).getD (0 + (0 : Int).toNat) 0) + (1 : Int)) from (by simp [spreadTo, kindN, *])]; exact h)
  · skip
    replace h13 := of_decide_eq_false h13
    refine Wk.exit rfl ?_
    refine Kt.onSub (e' := [(3, .slice (some ⟨p9, 0, none⟩) 4 4)]) (Sub.cons rfl Sub.nil) ?_
    refine Wk.seq ?_
    refine Wk.regionQ ?_
    refine Lq.op (v := .slice (some ⟨p9, 0, none⟩) 4 4) rfl rfl rfl (OpQ.move rfl rfl) ?_
    refine Lq.op (v := .slice (some ⟨p9, 0, none⟩) 4 4) rfl rfl rfl (OpQ.assign rfl rfl) ?_
    refine Lq.nil ?_
    refine Kt.onSub (e' := [(2, .slice (some ⟨p9, 0, none⟩) 4 4)]) (Sub.cons rfl Sub.nil) ?_
    refine Wk.ret (Kt.end1 rfl rfl fun w' hw => ?_)
    -- ret 0: .slice (some ⟨p9, 0, none⟩) 4 4
    obtain rfl : k = a.n.toNat := by omega
    exact ⟨_, rfl, hw.below, hw.newRow (i := 0) (n := 4) rfl (by simp) (by omega) (by simp [List.take_of_length_le])⟩

set_option maxHeartbeats 400000 in
/-- impl.SpreadOf|no -/
theorem iSpread_no (a : St) (w : World) (hsa : a.Small) (hv : validB a = false) :
    Calls Tryd.prog 18 [vS a].toArray w fun en w' => en = .returned (.slice none 0 0) ∧ Below w.heap.size w w' := by
  refine fnStart (n := 34) (e := [(0, vS a)]) Tryd.func18 rfl rfl rfl rfl Ends.both ?_
  refine Wk.seq ?_
  refine Wk.region ?_
  refine Ll.box (v := vS a) rfl rfl rfl rfl rfl fun p1 hp1 => ?_
  show Ll _ _ (Own _ _ [(p1, .cells #[.int .i64 a.n, str a.set, str a.rel] 27 (0, 0))]) _ _ ((1, .pointer (some ⟨p1, 0, none⟩)) :: _) _ _ _
  refine Ll.op (v := .slice none 0 0) rfl rfl rfl (OpQ.assign rfl rfl) ?_
  refine Ll.nil ?_
  refine Kt.onSub (e' := [(1, .pointer (some ⟨p1, 0, none⟩))]) (Sub.cons rfl Sub.nil) ?_
  refine Wk.seq ?_
  refine Wk.seq ?_
  refine Wk.regionQ ?_
  refine Lq.op (v := vS a) rfl rfl rfl (OpQ.loadBox (cs := #[.int .i64 a.n, str a.set, str a.rel]) 0 rfl Tryd.isAgg27 rfl rfl Tryd.sizeOf27) ?_
  refine Lq.op (v := .bool false) rfl rfl rfl (OpQ.call rfl Tryd.call49 rfl Own.stable (fun w1 hw1 => known_b hv (isStructure_ok a w1 hsa))) ?_
  refine Lq.op (v := .bool true) rfl rfl rfl (OpQ.notF rfl rfl) ?_
  refine Lq.nil ?_
  refine Kt.onSub (e' := [(1, .pointer (some ⟨p1, 0, none⟩)), (8, .bool true)]) (Sub.cons rfl (Sub.cons rfl Sub.nil)) ?_
  refine Wk.condT rfl ?_
  refine Wk.seq ?_
  refine Wk.regionQ ?_
  refine Lq.op (v := .slice none 0 0) rfl rfl rfl (OpQ.assign rfl rfl) ?_
  refine Lq.nil ?_
  refine Kt.onSub (e' := [(2, .slice none 0 0)]) (Sub.cons rfl Sub.nil) ?_
  refine Wk.ret (Kt.end1 rfl rfl fun w' hw => ?_)
  -- ret 0: .slice none 0 0
  exact ⟨rfl, hw.below⟩

set_option maxHeartbeats 400000 in
/-- spec.SpreadOf|yes -/
theorem sSpread_yes (a : St) (w : World) (hv : validB a = true) :
    Calls Tryd.prog 16 [vS a].toArray w fun en w' => ∃ v, en = .returned v ∧ Below w.heap.size w w' ∧ NewRow w.heap.size 3 1 w' v 4 (ints (spreadTo a a.n.toNat)) := by
  refine fnStart (n := 37) (e := [(0, vS a)]) Tryd.func16 rfl rfl rfl rfl Ends.both ?_
  have ha := validB_fine hv
  have hsa := ha.small
  have hn := ha.lo
  have hn8 := ha.hi
  refine Wk.seq ?_
  refine Wk.region ?_
  refine Ll.box (v := vS a) rfl rfl rfl rfl rfl fun p1 hp1 => ?_
  show Ll _ _ (Own _ _ [(p1, .cells #[.int .i64 a.n, str a.set, str a.rel] 27 (0, 0))]) _ _ ((1, .pointer (some ⟨p1, 0, none⟩)) :: _) _ _ _
  refine Ll.op (v := .slice none 0 0) rfl rfl rfl (OpQ.assign rfl rfl) ?_
  refine Ll.nil ?_
  refine Kt.onSub (e' := [(1, .pointer (some ⟨p1, 0, none⟩))]) (Sub.cons rfl Sub.nil) ?_
  refine Wk.seq ?_
  refine Wk.region ?_
  refine Ll.slice (xs := [.const (.int .i64 0), .const (.int .i64 0), .const (.int .i64 0), .const (.int .i64 0)]) (vs := [.int .i64 0, .int .i64 0, .int .i64 0, .int .i64 0]) Base.elem25 rfl rfl rfl rfl rfl rfl (by decide) rfl fun p6 hp6 => ?_
  refine Ll.op (v := .slice (some ⟨p6, 0, none⟩) 4 4) rfl rfl rfl (OpQ.assign rfl rfl) ?_
  refine Ll.nil ?_
  refine Kt.onSub (e' := [(1, .pointer (some ⟨p1, 0, none⟩)), (3, .slice (some ⟨p6, 0, none⟩) 4 4)]) (Sub.cons rfl (Sub.cons rfl Sub.nil)) ?_
  refine Wk.seq ?_
  refine Wk.seq ?_
  refine Wk.regionQ ?_
  refine Lq.op (v := vS a) rfl rfl rfl (OpQ.loadBox (cs := #[.int .i64 a.n, str a.set, str a.rel]) 1 rfl Tryd.isAgg27 rfl rfl Tryd.sizeOf27) ?_
  refine Lq.op (v := .bool true) rfl rfl rfl (OpQ.call rfl Tryd.call45 rfl Own.stable (fun w1 hw1 => known_b hv (sValid_ok a w1 hsa))) ?_
  refine Lq.op (v := .bool false) rfl rfl rfl (OpQ.notT rfl rfl) ?_
  refine Lq.nil ?_
  refine Kt.onSub (e' := [(1, .pointer (some ⟨p1, 0, none⟩)), (3, .slice (some ⟨p6, 0, none⟩) 4 4), (9, .bool false)]) (Sub.cons rfl (Sub.cons rfl (Sub.cons rfl Sub.nil))) ?_
  refine Wk.condF rfl ?_
  refine Wk.skip ?_
  refine Kt.onSub (e' := [(1, .pointer (some ⟨p1, 0, none⟩)), (3, .slice (some ⟨p6, 0, none⟩) 4 4)]) (Sub.cons rfl (Sub.cons rfl Sub.nil)) ?_
  refine Wk.seq ?_
  refine Wk.seq ?_
  refine Wk.regionQ ?_
  refine Lq.op (v := .int .i64 0) rfl rfl rfl (OpQ.assign rfl rfl) ?_
  refine Lq.nil ?_
  refine Kt.onSub (e' := [(1, .pointer (some ⟨p1, 0, none⟩)), (3, .slice (some ⟨p6, 0, none⟩) 4 4), (4, .int .i64 0)]) (Sub.cons rfl (Sub.cons rfl (Sub.cons rfl Sub.nil))) ?_
  refine Wk.block ?_
  refine Wk.loop (σ := Nat) (fun k => (k : Int) ≤ a.n) (fun k => [(1, .pointer (some ⟨p1, 0, none⟩)), (3, .slice (some ⟨p6, 0, none⟩) 4 4), (4, .int .i64 ((k : Int)))]) (fun k => Own w.heap.size w [(p6, .cells ((ints (spreadTo a k)).toArray) 3 (0, 0)), (p1, .cells #[.int .i64 a.n, str a.set, str a.rel] 27 (0, 0))]) (fun k => (a.n - k).toNat) (0) (by omega) (Sub.cons rfl (Sub.cons rfl (Sub.cons rfl Sub.nil))) (fun _ h => h) ?_
  rintro k hk
  refine Wk.seq ?_
  refine Wk.seq ?_
  refine Wk.regionQ ?_
  refine Lq.op (v := .int .i64 ((k : Int))) rfl rfl rfl (OpQ.move rfl rfl) ?_
  refine Lq.op (v := .pointer (some ⟨p1, 0, none⟩)) rfl rfl rfl (OpQ.fieldAddr rfl Tryd.runUnderlying27 rfl Tryd.sizeOf3 rfl rfl) ?_
  refine Lq.op (v := .int .i64 a.n) rfl rfl rfl (OpQ.loadOwn 1 rfl Tryd.isAgg3 rfl rfl rfl) ?_
  refine Lq.op (v := .bool (decide (((k : Int)) < a.n))) rfl rfl rfl (OpQ.lss rfl rfl rfl) ?_
  refine Lq.nil ?_
  refine Kt.onSub (e' := [(1, .pointer (some ⟨p1, 0, none⟩)), (3, .slice (some ⟨p6, 0, none⟩) 4 4), (4, .int .i64 ((k : Int))), (14, .bool (decide (((k : Int)) < a.n)))]) (Sub.cons rfl (Sub.cons rfl (Sub.cons rfl (Sub.cons rfl Sub.nil)))) ?_
  refine Wk.cond (b := decide (((k : Int)) < a.n)) rfl (fun h14 => ?_) (fun h14 => ?_)
  · skip
    replace h14 := of_decide_eq_true h14
    have hel : a.El k := ⟨by omega, by omega⟩
    refine Wk.skip ?_
    refine Kt.onSub (e' := [(1, .pointer (some ⟨p1, 0, none⟩)), (3, .slice (some ⟨p6, 0, none⟩) 4 4), (4, .int .i64 ((k : Int)))]) (Sub.cons rfl (Sub.cons rfl (Sub.cons rfl Sub.nil))) ?_
    refine Wk.seq ?_
    refine Wk.block ?_
    refine Wk.seq ?_
    refine Wk.regionD Base.mixed (fun _ h => h.drawn) (by kernel_rfl) ?_
    refine Lq.op (v := vS a) rfl rfl rfl (OpQ.loadBox (cs := #[.int .i64 a.n, str a.set, str a.rel]) 1 rfl Tryd.isAgg27 rfl rfl Tryd.sizeOf27) ?_
    refine Lq.op (v := .int .i64 ((k : Int))) rfl rfl rfl (OpQ.move rfl rfl) ?_
    refine Lq.op (v := .bool (a.inSet ((k : Int)))) rfl rfl rfl (OpQ.call rfl Tryd.call47 rfl Own.stable (fun w1 hw1 => l1Set_ok a ((k : Int)) w1 ha (by first | assumption | exact St.Els.at (by assumption) (by omega) (by omega)))) ?_
    refine Lq.op (v := .int .i64 ((if a.inSet ((k : Int)) then 1 else 0))) rfl rfl rfl (OpQ.call rfl Tryd.call46 rfl Own.stable (fun w1 hw1 => l2Int_ok (a.inSet ((k : Int))) w1 )) ?_
    refine Lq.op (v := vS a) rfl rfl rfl (OpQ.loadBox (cs := #[.int .i64 a.n, str a.set, str a.rel]) 1 rfl Tryd.isAgg27 rfl rfl Tryd.sizeOf27) ?_
    refine Lq.op (v := .int .i64 ((k : Int))) rfl rfl rfl (OpQ.move rfl rfl) ?_
    refine Lq.op (v := .int .i64 ((k : Int))) rfl rfl rfl (OpQ.move rfl rfl) ?_
    refine Lq.op (v := .bool (a.inRel ((k : Int)) ((k : Int)))) rfl rfl rfl (OpQ.call rfl Tryd.call48 rfl Own.stable (fun w1 hw1 => l1Rel_ok a ((k : Int)) ((k : Int)) w1 ha (by first | assumption | exact St.Els.at (by assumption) (by omega) (by omega)) (by first | assumption | exact St.Els.at (by assumption) (by omega) (by omega)))) ?_
    refine Lq.op (v := .int .i64 ((if a.inRel ((k : Int)) ((k : Int)) then 1 else 0))) rfl rfl rfl (OpQ.call rfl Tryd.call46 rfl Own.stable (fun w1 hw1 => l2Int_ok (a.inRel ((k : Int)) ((k : Int))) w1 )) ?_
    refine Lq.op (v := .int .i64 ((2 : Int) * ((if a.inRel ((k : Int)) ((k : Int)) then 1 else 0)))) rfl rfl rfl (OpQ.mul rfl rfl rfl (by (repeat split) <;> omega) (by (repeat split) <;> omega)) ?_
    refine Lq.op (v := .int .i64 (((if a.inSet ((k : Int)) then 1 else 0)) + ((2 : Int) * ((if a.inRel ((k : Int)) ((k : Int)) then 1 else 0))))) rfl rfl rfl (OpQ.add rfl rfl rfl (by (repeat split) <;> omega) (by (repeat split) <;> omega)) ?_
    refine Lq.op (v := .int .i64 (((if a.inSet ((k : Int)) then 1 else 0)) + ((2 : Int) * ((if a.inRel ((k : Int)) ((k : Int)) then 1 else 0))))) rfl rfl rfl (OpQ.assign rfl rfl) ?_
    refine Lq.nil ?_
    refine Kt.onSub (e' := [(1, .pointer (some ⟨p1, 0, none⟩)), (3, .slice (some ⟨p6, 0, none⟩) 4 4), (4, .int .i64 ((k : Int))), (5, .int .i64 (((if a.inSet ((k : Int)) then 1 else 0)) + ((2 : Int) * ((if a.inRel ((k : Int)) ((k : Int)) then 1 else 0)))))]) (Sub.cons rfl (Sub.cons rfl (Sub.cons rfl (Sub.cons rfl Sub.nil)))) ?_
    refine Wk.region ?_
    refine Ll.op (v := .slice (some ⟨p6, 0, none⟩) 4 4) rfl rfl rfl (OpQ.move rfl rfl) ?_
    refine Ll.op (v := .int .i64 (((if a.inSet ((k : Int)) then 1 else 0)) + ((2 : Int) * ((if a.inRel ((k : Int)) ((k : Int)) then 1 else 0))))) rfl rfl rfl (OpQ.move rfl rfl) ?_
    refine Ll.op (v := .slice (some ⟨p6, 0, none⟩) 4 4) rfl rfl rfl (OpQ.move rfl rfl) ?_
    refine Ll.op (v := .int .i64 (((if a.inSet ((k : Int)) then 1 else 0)) + ((2 : Int) * ((if a.inRel ((k : Int)) ((k : Int)) then 1 else 0))))) rfl rfl rfl (OpQ.move rfl rfl) ?_
    refine Ll.op (v := .pointer (some ⟨p6, 0 + (((if a.inSet ((k : Int)) then 1 else 0)) + ((2 : Int) * ((if a.inRel ((k : Int)) ((k : Int)) then 1 else 0)))).toNat, none⟩)) rfl rfl rfl (OpQ.indexAddr1 rfl Tryd.runUnderlying25 Tryd.sizeOf3 rfl rfl (by (repeat split) <;> omega) (by (repeat split) <;> omega)) ?_
    refine Ll.op (v := .int .i64 ((spreadTo a k).getD (0 + (((if a.inSet ((k : Int)) then 1 else 0)) + ((2 : Int) * ((if a.inRel ((k : Int)) ((k : Int)) then 1 else 0)))).toNat) 0)) rfl rfl rfl (OpQ.loadAt 0 rfl Tryd.isAgg3 rfl rfl (ints_at (by first | (simp; done) | (simp; omega) | omega))) ?_
    refine Ll.op (v := .int .i64 (((spreadTo a k).getD (0 + (((if a.inSet ((k : Int)) then 1 else 0)) + ((2 : Int) * ((if a.inRel ((k : Int)) ((k : Int)) then 1 else 0)))).toNat) 0) + (1 : Int))) rfl rfl rfl (OpQ.add rfl rfl rfl (bd_lo (spread_bd a k _)) (bd_hi (spread_bd a k _) (by omega))) ?_
    refine Ll.op (v := .pointer (some ⟨p6, 0 + (((if a.inSet ((k : Int)) then 1 else 0)) + ((2 : Int) * ((if a.inRel ((k : Int)) ((k : Int)) then 1 else 0)))).toNat, none⟩)) rfl rfl rfl (OpQ.indexAddr1 rfl Tryd.runUnderlying25 Tryd.sizeOf3 rfl rfl (by (repeat split) <;> omega) (by (repeat split) <;> omega)) ?_
    refine Ll.store1 (v := .int .i64 (((spreadTo a k).getD (0 + (((if a.inSet ((k : Int)) then 1 else 0)) + ((2 : Int) * ((if a.inRel ((k : Int)) ((k : Int)) then 1 else 0)))).toNat) 0) + (1 : Int))) (hs' := [(p6, .cells ((ints ((spreadTo a k).set ((((if a.inSet ((k : Int)) then 1 else 0)) + ((2 : Int) * ((if a.inRel ((k : Int)) ((k : Int)) then 1 else 0)))).toNat) (((spreadTo a k).getD (0 + (((if a.inSet ((k : Int)) then 1 else 0)) + ((2 : Int) * ((if a.inRel ((k : Int)) ((k : Int)) then 1 else 0)))).toNat) 0) + (1 : Int)))).toArray) 3 (0, 0)), (p1, .cells #[.int .i64 a.n, str a.set, str a.rel] 27 (0, 0))]) 0 rfl rfl rfl rfl rfl rfl Tryd.sizeOf3 rfl (by first | (simp; done) | (simp; omega) | omega) (by simp only [Nat.zero_add]; rw [ints_set]; rfl) ?_
    refine Ll.nil ?_
    refine Kt.onSub (e' := [(1, .pointer (some ⟨p1, 0, none⟩)), (3, .slice (some ⟨p6, 0, none⟩) 4 4), (4, .int .i64 ((k : Int)))]) (Sub.cons rfl (Sub.cons rfl (Sub.cons rfl Sub.nil))) ?_
    refine Wk.regionQ ?_
    refine Lq.op (v := .int .i64 ((k : Int))) rfl rfl rfl (OpQ.move rfl rfl) ?_
    refine Lq.op (v := .int .i64 (((k : Int)) + (1 : Int))) rfl rfl rfl (OpQ.add rfl rfl rfl (by omega) (by omega)) ?_
    refine Lq.op (v := .int .i64 (((k : Int)) + (1 : Int))) rfl rfl rfl (OpQ.assign rfl rfl) ?_
    refine Lq.nil ?_
    refine Kt.again (k + 1) (by omega) (by omega) (Sub.cons rfl (Sub.cons rfl (Sub.cons rfl Sub.nil))) (fun _ h => by rw [show spreadTo a (k + 1) = (spreadTo a k).set ((((if a.inSet ((k : Int)) then 1 else 0)) + ((2 : Int) * ((if a.inRel ((k : Int)) ((k : Int)) then 1 else 0)))).toNat) (((spreadTo a k).getD (0 + (((if a.inSet ((k : Int)) then 1 else 0)) + ((2 : Int) * ((if a.inRel ((k : Int)) ((k : Int)) then 1 else 0)))).toNat) 0) + (1 : Int)) from (by simp only [spreadTo, Nat.zero_add, kind_toNat])]; exact h)
  · skip
    replace h14 := of_decide_eq_false h14
    refine Wk.exit rfl ?_
    refine Kt.onSub (e' := [(3, .slice (some ⟨p6, 0, none⟩) 4 4)]) (Sub.cons rfl Sub.nil) ?_
    refine Wk.seq ?_
    refine Wk.regionQ ?_
    refine Lq.op (v := .slice (some ⟨p6, 0, none⟩) 4 4) rfl rfl rfl (OpQ.move rfl rfl) ?_
    refine Lq.op (v := .slice (some ⟨p6, 0, none⟩) 4 4) rfl rfl rfl (OpQ.assign rfl rfl) ?_
    refine Lq.nil ?_
    refine Kt.onSub (e' := [(2, .slice (some ⟨p6, 0, none⟩) 4 4)]) (Sub.cons rfl Sub.nil) ?_
    refine Wk.ret (Kt.end1 rfl rfl fun w' hw => ?_)
    -- ret 0: .slice (some ⟨p6, 0, none⟩) 4 4
    obtain rfl : k = a.n.toNat := by omega
    exact ⟨_, rfl, hw.below, hw.newRow (i := 0) (n := 4) rfl (by simp) (by omega) (by simp [List.take_of_length_le])⟩

set_option maxHeartbeats 400000 in
/-- spec.SpreadOf|no -/
theorem sSpread_no (a : St) (w : World) (hsa : a.Small) (hv : validB a = false) :
    Calls Tryd.prog 16 [vS a].toArray w fun en w' => ∃ v, en = .returned v ∧ Below w.heap.size w w' ∧ NewRow w.heap.size 3 1 w' v 0 (ints []) := by
  refine fnStart (n := 37) (e := [(0, vS a)]) Tryd.func16 rfl rfl rfl rfl Ends.both ?_
  refine Wk.seq ?_
  refine Wk.region ?_
  refine Ll.box (v := vS a) rfl rfl rfl rfl rfl fun p1 hp1 => ?_
  show Ll _ _ (Own _ _ [(p1, .cells #[.int .i64 a.n, str a.set, str a.rel] 27 (0, 0))]) _ _ ((1, .pointer (some ⟨p1, 0, none⟩)) :: _) _ _ _
  refine Ll.op (v := .slice none 0 0) rfl rfl rfl (OpQ.assign rfl rfl) ?_
  refine Ll.nil ?_
  refine Kt.onSub (e' := [(1, .pointer (some ⟨p1, 0, none⟩))]) (Sub.cons rfl Sub.nil) ?_
  refine Wk.seq ?_
  refine Wk.region ?_
  refine Ll.slice (xs := [.const (.int .i64 0), .const (.int .i64 0), .const (.int .i64 0), .const (.int .i64 0)]) (vs := [.int .i64 0, .int .i64 0, .int .i64 0, .int .i64 0]) Base.elem25 rfl rfl rfl rfl rfl rfl (by decide) rfl fun p6 hp6 => ?_
  refine Ll.op (v := .slice (some ⟨p6, 0, none⟩) 4 4) rfl rfl rfl (OpQ.assign rfl rfl) ?_
  refine Ll.nil ?_
  refine Kt.onSub (e' := [(1, .pointer (some ⟨p1, 0, none⟩)), (3, .slice (some ⟨p6, 0, none⟩) 4 4)]) (Sub.cons rfl (Sub.cons rfl Sub.nil)) ?_
  refine Wk.seq ?_
  refine Wk.seq ?_
  refine Wk.regionQ ?_
  refine Lq.op (v := vS a) rfl rfl rfl (OpQ.loadBox (cs := #[.int .i64 a.n, str a.set, str a.rel]) 1 rfl Tryd.isAgg27 rfl rfl Tryd.sizeOf27) ?_
  refine Lq.op (v := .bool false) rfl rfl rfl (OpQ.call rfl Tryd.call45 rfl Own.stable (fun w1 hw1 => known_b hv (sValid_ok a w1 hsa))) ?_
  refine Lq.op (v := .bool true) rfl rfl rfl (OpQ.notF rfl rfl) ?_
  refine Lq.nil ?_
  refine Kt.onSub (e' := [(1, .pointer (some ⟨p1, 0, none⟩)), (3, .slice (some ⟨p6, 0, none⟩) 4 4), (9, .bool true)]) (Sub.cons rfl (Sub.cons rfl (Sub.cons rfl Sub.nil))) ?_
  refine Wk.condT rfl ?_
  refine Wk.seq ?_
  refine Wk.region ?_
  refine Ll.slice (xs := []) (vs := []) Base.elem25 rfl rfl rfl rfl rfl rfl (by decide) rfl fun p10 hp10 => ?_
  refine Ll.op (v := .slice (some ⟨p10, 0, none⟩) 0 0) rfl rfl rfl (OpQ.assign rfl rfl) ?_
  refine Ll.nil ?_
  refine Kt.onSub (e' := [(2, .slice (some ⟨p10, 0, none⟩) 0 0)]) (Sub.cons rfl Sub.nil) ?_
  refine Wk.ret (Kt.end1 rfl rfl fun w' hw => ?_)
  -- ret 0: .slice (some ⟨p10, 0, none⟩) 0 0
  exact ⟨_, rfl, hw.below, hw.newRow (i := 0) (n := 0) rfl (by simp) (by omega) (by simp [ints])⟩

set_option maxHeartbeats 400000 in
/-- laws.szStructure -/
theorem sz_ok (a : St) (left : Int) (w : World) (hl0 : 0 ≤ left) (hl : left ≤ 1048576) (h1 : a.set.length ≤ 9223372036854775807) (h2 : a.rel.length ≤ 9223372036854775807) :
    Calls Tryd.prog 15 [vS a, .int .i64 left].toArray w fun en w' => en = .returned (.int .i64 (szB a left)) ∧ Below w.heap.size w w' := by
  refine fnStart (n := 20) (e := [(0, vS a), (1, .int .i64 left)]) Tryd.func15 rfl rfl rfl rfl Ends.both ?_
  refine Wk.seq ?_
  refine Wk.region ?_
  refine Ll.box (v := vS a) rfl rfl rfl rfl rfl fun p2 hp2 => ?_
  show Ll _ _ (Own _ _ [(p2, .cells #[.int .i64 a.n, str a.set, str a.rel] 23 (0, 0))]) _ _ ((2, .pointer (some ⟨p2, 0, none⟩)) :: _) _ _ _
  refine Ll.op (v := .int .i64 0) rfl rfl rfl (OpQ.assign rfl rfl) ?_
  refine Ll.nil ?_
  refine Kt.onSub (e' := [(1, .int .i64 left), (2, .pointer (some ⟨p2, 0, none⟩))]) (Sub.cons rfl (Sub.cons rfl Sub.nil)) ?_
  refine Wk.seq ?_
  refine Wk.regionQ ?_
  refine Lq.op (v := .int .i64 left) rfl rfl rfl (OpQ.move rfl rfl) ?_
  refine Lq.op (v := .pointer (some ⟨p2, 1, none⟩)) rfl rfl rfl (OpQ.fieldAddr rfl Tryd.runUnderlying23 rfl Tryd.sizeOf9 rfl rfl) ?_
  refine Lq.op (v := str a.set) rfl rfl rfl (OpQ.loadOwn 0 rfl Tryd.isAgg9 rfl rfl rfl) ?_
  refine Lq.op (v := .int .i64 ((a.set.length : Int))) rfl rfl rfl (OpQ.lenStr rfl Tryd.runUnderlying9 rfl) ?_
  refine Lq.op (v := .int .i64 (left - ((a.set.length : Int)))) rfl rfl rfl (OpQ.sub rfl rfl rfl (by omega) (by omega)) ?_
  refine Lq.op (v := .int .i64 (left - ((a.set.length : Int)))) rfl rfl rfl (OpQ.assign rfl rfl) ?_
  refine Lq.nil ?_
  refine Kt.onSub (e' := [(1, .int .i64 (left - ((a.set.length : Int)))), (2, .pointer (some ⟨p2, 0, none⟩))]) (Sub.cons rfl (Sub.cons rfl Sub.nil)) ?_
  refine Wk.seq ?_
  refine Wk.seq ?_
  refine Wk.regionQ ?_
  refine Lq.op (v := .int .i64 (left - ((a.set.length : Int)))) rfl rfl rfl (OpQ.move rfl rfl) ?_
  refine Lq.op (v := .bool (decide ((left - ((a.set.length : Int))) < (0 : Int)))) rfl rfl rfl (OpQ.lss rfl rfl rfl) ?_
  refine Lq.nil ?_
  refine Kt.onSub (e' := [(1, .int .i64 (left - ((a.set.length : Int)))), (2, .pointer (some ⟨p2, 0, none⟩)), (11, .bool (decide ((left - ((a.set.length : Int))) < (0 : Int))))]) (Sub.cons rfl (Sub.cons rfl (Sub.cons rfl Sub.nil))) ?_
  refine Wk.cond (b := decide ((left - ((a.set.length : Int))) < (0 : Int))) rfl (fun h11 => ?_) (fun h11 => ?_)
  · skip
    replace h11 := of_decide_eq_true h11
    refine Wk.seq ?_
    refine Wk.regionQ ?_
    refine Lq.op (v := .int .i64 (-1)) rfl rfl rfl (OpQ.assign rfl rfl) ?_
    refine Lq.nil ?_
    refine Kt.onSub (e' := [(4, .int .i64 (-1))]) (Sub.cons rfl Sub.nil) ?_
    refine Wk.ret (Kt.end1 rfl rfl fun w' hw => ?_)
    -- ret 0: .int .i64 (-1)
    exact ⟨ret_i (by unfold szB; simp [*]), hw.below⟩
  · skip
    replace h11 := of_decide_eq_false h11
    refine Wk.skip ?_
    refine Kt.onSub (e' := [(1, .int .i64 (left - ((a.set.length : Int)))), (2, .pointer (some ⟨p2, 0, none⟩))]) (Sub.cons rfl (Sub.cons rfl Sub.nil)) ?_
    refine Wk.seq ?_
    refine Wk.regionQ ?_
    refine Lq.op (v := .int .i64 (left - ((a.set.length : Int)))) rfl rfl rfl (OpQ.move rfl rfl) ?_
    refine Lq.op (v := .pointer (some ⟨p2, 2, none⟩)) rfl rfl rfl (OpQ.fieldAddr rfl Tryd.runUnderlying23 rfl Tryd.sizeOf9 rfl rfl) ?_
    refine Lq.op (v := str a.rel) rfl rfl rfl (OpQ.loadOwn 0 rfl Tryd.isAgg9 rfl rfl rfl) ?_
    refine Lq.op (v := .int .i64 ((a.rel.length : Int))) rfl rfl rfl (OpQ.lenStr rfl Tryd.runUnderlying9 rfl) ?_
    refine Lq.op (v := .int .i64 ((left - ((a.set.length : Int))) - ((a.rel.length : Int)))) rfl rfl rfl (OpQ.sub rfl rfl rfl (by omega) (by omega)) ?_
    refine Lq.op (v := .int .i64 ((left - ((a.set.length : Int))) - ((a.rel.length : Int)))) rfl rfl rfl (OpQ.assign rfl rfl) ?_
    refine Lq.nil ?_
    refine Kt.onSub (e' := [(1, .int .i64 ((left - ((a.set.length : Int))) - ((a.rel.length : Int))))]) (Sub.cons rfl Sub.nil) ?_
    refine Wk.seq ?_
    refine Wk.seq ?_
    refine Wk.regionQ ?_
    refine Lq.op (v := .int .i64 ((left - ((a.set.length : Int))) - ((a.rel.length : Int)))) rfl rfl rfl (OpQ.move rfl rfl) ?_
    refine Lq.op (v := .bool (decide (((left - ((a.set.length : Int))) - ((a.rel.length : Int))) < (0 : Int)))) rfl rfl rfl (OpQ.lss rfl rfl rfl) ?_
    refine Lq.nil ?_
    refine Kt.onSub (e' := [(1, .int .i64 ((left - ((a.set.length : Int))) - ((a.rel.length : Int)))), (18, .bool (decide (((left - ((a.set.length : Int))) - ((a.rel.length : Int))) < (0 : Int))))]) (Sub.cons rfl (Sub.cons rfl Sub.nil)) ?_
    refine Wk.cond (b := decide (((left - ((a.set.length : Int))) - ((a.rel.length : Int))) < (0 : Int))) rfl (fun h18 => ?_) (fun h18 => ?_)
    · skip
      replace h18 := of_decide_eq_true h18
      refine Wk.seq ?_
      refine Wk.regionQ ?_
      refine Lq.op (v := .int .i64 (-1)) rfl rfl rfl (OpQ.assign rfl rfl) ?_
      refine Lq.nil ?_
      refine Kt.onSub (e' := [(4, .int .i64 (-1))]) (Sub.cons rfl Sub.nil) ?_
      refine Wk.ret (Kt.end1 rfl rfl fun w' hw => ?_)
      -- ret 1: .int .i64 (-1)
      exact ⟨ret_i (by unfold szB; simp [*]), hw.below⟩
    · skip
      replace h18 := of_decide_eq_false h18
      refine Wk.skip ?_
      refine Kt.onSub (e' := [(1, .int .i64 ((left - ((a.set.length : Int))) - ((a.rel.length : Int))))]) (Sub.cons rfl Sub.nil) ?_
      refine Wk.seq ?_
      refine Wk.regionQ ?_
      refine Lq.op (v := .int .i64 ((left - ((a.set.length : Int))) - ((a.rel.length : Int)))) rfl rfl rfl (OpQ.move rfl rfl) ?_
      refine Lq.op (v := .int .i64 ((left - ((a.set.length : Int))) - ((a.rel.length : Int)))) rfl rfl rfl (OpQ.assign rfl rfl) ?_
      refine Lq.nil ?_
      refine Kt.onSub (e' := [(4, .int .i64 ((left - ((a.set.length : Int))) - ((a.rel.length : Int))))]) (Sub.cons rfl Sub.nil) ?_
      refine Wk.ret (Kt.end1 rfl rfl fun w' hw => ?_)
      -- ret 2: .int .i64 ((left - ((a.set.length : Int))) - ((a.rel.length : Int)))
      exact ⟨ret_i (by unfold szB; simp [*]), hw.below⟩

set_option maxHeartbeats 400000 in
/-- laws.toStructure -/
theorem toSt_ok (a : St) (w : World) :
    Calls Tryd.prog 17 [vS a].toArray w fun en w' => en = .returned (vS a) ∧ Below w.heap.size w w' := by
  refine fnStart (n := 14) (e := [(0, vS a)]) Tryd.func17 rfl rfl rfl rfl Ends.both ?_
  refine Wk.seq ?_
  refine Wk.region ?_
  refine Ll.box (v := vS a) rfl rfl rfl rfl rfl fun p1 hp1 => ?_
  show Ll _ _ (Own _ _ [(p1, .cells #[.int .i64 a.n, str a.set, str a.rel] 23 (0, 0))]) _ _ ((1, .pointer (some ⟨p1, 0, none⟩)) :: _) _ _ _
  refine Ll.alloc rfl rfl rfl rfl Tryd.zeroValue27 fun p2 hp2 => ?_
  show Ll _ _ (Own _ _ [(p2, .cells #[.int .i64 0, str ([]), str ([])] 27 (0, 0)), (p1, .cells #[.int .i64 a.n, str a.set, str a.rel] 23 (0, 0))]) _ _ ((2, .pointer (some ⟨p2, 0, none⟩)) :: _) _ _ _
  refine Ll.nil ?_
  refine Kt.onSub (e' := [(1, .pointer (some ⟨p1, 0, none⟩)), (2, .pointer (some ⟨p2, 0, none⟩))]) (Sub.cons rfl (Sub.cons rfl Sub.nil)) ?_
  refine Wk.seq ?_
  refine Wk.region ?_
  refine Ll.alloc rfl rfl rfl rfl Tryd.zeroValue27 fun p3 hp3 => ?_
  show Ll _ _ (Own _ _ [(p3, .cells #[.int .i64 0, str ([]), str ([])] 27 (0, 0)), (p2, .cells #[.int .i64 0, str ([]), str ([])] 27 (0, 0)), (p1, .cells #[.int .i64 a.n, str a.set, str a.rel] 23 (0, 0))]) _ _ ((3, .pointer (some ⟨p3, 0, none⟩)) :: _) _ _ _
  refine Ll.nil ?_
  refine Kt.onSub (e' := [(1, .pointer (some ⟨p1, 0, none⟩)), (2, .pointer (some ⟨p2, 0, none⟩)), (3, .pointer (some ⟨p3, 0, none⟩))]) (Sub.cons rfl (Sub.cons rfl (Sub.cons rfl Sub.nil))) ?_
  refine Wk.seq ?_
  refine Wk.region ?_
  refine Ll.op (v := .pointer (some ⟨p1, 0, none⟩)) rfl rfl rfl (OpQ.fieldAddr rfl Tryd.runUnderlying23 rfl Tryd.sizeOf3 rfl rfl) ?_
  refine Ll.op (v := .int .i64 a.n) rfl rfl rfl (OpQ.loadOwn 2 rfl Tryd.isAgg3 rfl rfl rfl) ?_
  refine Ll.op (v := .pointer (some ⟨p3, 0, none⟩)) rfl rfl rfl (OpQ.fieldAddr rfl Tryd.runUnderlying27 rfl Tryd.sizeOf3 rfl rfl) ?_
  refine Ll.store1 (v := .int .i64 a.n) (hs' := [(p3, .cells #[.int .i64 a.n, str ([]), str ([])] 27 (0, 0)), (p2, .cells #[.int .i64 0, str ([]), str ([])] 27 (0, 0)), (p1, .cells #[.int .i64 a.n, str a.set, str a.rel] 23 (0, 0))]) 0 rfl rfl rfl rfl rfl rfl Tryd.sizeOf3 rfl (by simp) rfl ?_
  refine Ll.nil ?_
  refine Kt.onSub (e' := [(1, .pointer (some ⟨p1, 0, none⟩)), (2, .pointer (some ⟨p2, 0, none⟩)), (3, .pointer (some ⟨p3, 0, none⟩))]) (Sub.cons rfl (Sub.cons rfl (Sub.cons rfl Sub.nil))) ?_
  refine Wk.seq ?_
  refine Wk.region ?_
  refine Ll.op (v := .pointer (some ⟨p1, 1, none⟩)) rfl rfl rfl (OpQ.fieldAddr rfl Tryd.runUnderlying23 rfl Tryd.sizeOf9 rfl rfl) ?_
  refine Ll.op (v := str a.set) rfl rfl rfl (OpQ.loadOwn 2 rfl Tryd.isAgg9 rfl rfl rfl) ?_
  refine Ll.op (v := .pointer (some ⟨p3, 1, none⟩)) rfl rfl rfl (OpQ.fieldAddr rfl Tryd.runUnderlying27 rfl Tryd.sizeOf9 rfl rfl) ?_
  refine Ll.store1 (v := str a.set) (hs' := [(p3, .cells #[.int .i64 a.n, str a.set, str ([])] 27 (0, 0)), (p2, .cells #[.int .i64 0, str ([]), str ([])] 27 (0, 0)), (p1, .cells #[.int .i64 a.n, str a.set, str a.rel] 23 (0, 0))]) 0 rfl rfl rfl rfl rfl rfl Tryd.sizeOf9 rfl (by simp) rfl ?_
  refine Ll.nil ?_
  refine Kt.onSub (e' := [(1, .pointer (some ⟨p1, 0, none⟩)), (2, .pointer (some ⟨p2, 0, none⟩)), (3, .pointer (some ⟨p3, 0, none⟩))]) (Sub.cons rfl (Sub.cons rfl (Sub.cons rfl Sub.nil))) ?_
  refine Wk.seq ?_
  refine Wk.region ?_
  refine Ll.op (v := .pointer (some ⟨p1, 2, none⟩)) rfl rfl rfl (OpQ.fieldAddr rfl Tryd.runUnderlying23 rfl Tryd.sizeOf9 rfl rfl) ?_
  refine Ll.op (v := str a.rel) rfl rfl rfl (OpQ.loadOwn 2 rfl Tryd.isAgg9 rfl rfl rfl) ?_
  refine Ll.op (v := .pointer (some ⟨p3, 2, none⟩)) rfl rfl rfl (OpQ.fieldAddr rfl Tryd.runUnderlying27 rfl Tryd.sizeOf9 rfl rfl) ?_
  refine Ll.store1 (v := str a.rel) (hs' := [(p3, .cells #[.int .i64 a.n, str a.set, str a.rel] 27 (0, 0)), (p2, .cells #[.int .i64 0, str ([]), str ([])] 27 (0, 0)), (p1, .cells #[.int .i64 a.n, str a.set, str a.rel] 23 (0, 0))]) 0 rfl rfl rfl rfl rfl rfl Tryd.sizeOf9 rfl (by simp) rfl ?_
  refine Ll.nil ?_
  refine Kt.onSub (e' := [(2, .pointer (some ⟨p2, 0, none⟩)), (3, .pointer (some ⟨p3, 0, none⟩))]) (Sub.cons rfl (Sub.cons rfl Sub.nil)) ?_
  refine Wk.seq ?_
  refine Wk.region ?_
  refine Ll.op (v := .agg #[.int .i64 a.n, str a.set, str a.rel]) rfl rfl rfl (OpQ.loadBox (cs := #[.int .i64 a.n, str a.set, str a.rel]) 0 rfl Tryd.isAgg27 rfl rfl Tryd.sizeOf27) ?_
  refine Ll.storeBox (cs' := #[.int .i64 a.n, str a.set, str a.rel]) (hs' := [(p3, .cells #[.int .i64 a.n, str a.set, str a.rel] 27 (0, 0)), (p2, .cells #[.int .i64 a.n, str a.set, str a.rel] 27 (0, 0)), (p1, .cells #[.int .i64 a.n, str a.set, str a.rel] 23 (0, 0))]) 1 rfl rfl rfl rfl rfl (by kernel_rfl : _ = some Tryd.t27) rfl rfl rfl rfl rfl ?_
  refine Ll.nil ?_
  refine Kt.onSub (e' := [(2, .pointer (some ⟨p2, 0, none⟩))]) (Sub.cons rfl Sub.nil) ?_
  refine Wk.ret (Kt.endBox (cs := #[.int .i64 a.n, str a.set, str a.rel]) 1 rfl rfl rfl Tryd.isAgg27 Tryd.sizeOf27 fun w' hw => ?_)
  -- ret 0: .pointer (some ⟨p2, 0, none⟩)
  exact ⟨rfl, hw.below⟩

set_option maxHeartbeats 400000 in
/-- laws.eqIntS -/
theorem eqInt_ok (va vb : Value) (xs ys : List Int) (w : World) (hva : Ints w va xs) (hvb : Ints w vb ys) (hs : xs.length ≤ 140737488355328) :
    Calls Tryd.prog 19 [va, vb].toArray w fun en w' => en = .returned (.bool (xs == ys)) ∧ Below w.heap.size w w' := by
  refine fnStart (n := 26) (e := [(0, va), (1, vb)]) Tryd.func19 rfl rfl rfl rfl Ends.both ?_
  refine Wk.seq ?_
  refine Wk.regionQ ?_
  refine Lq.op (v := .bool false) rfl rfl rfl (OpQ.assign rfl rfl) ?_
  refine Lq.nil ?_
  refine Kt.onSub (e' := [(0, va), (1, vb)]) (Sub.cons rfl (Sub.cons rfl Sub.nil)) ?_
  refine Wk.seq ?_
  refine Wk.seq ?_
  refine Wk.regionQ ?_
  refine Lq.op (v := va) rfl rfl rfl (OpQ.move rfl rfl) ?_
  refine Lq.op (v := .int .i64 ((xs.length : Int))) rfl rfl rfl (OpQ.lenRow rfl Tryd.runUnderlying25 rfl (ints_length _) (fun w1 hw1 => Row.own hva hw1)) ?_
  refine Lq.op (v := vb) rfl rfl rfl (OpQ.move rfl rfl) ?_
  refine Lq.op (v := .int .i64 ((ys.length : Int))) rfl rfl rfl (OpQ.lenRow rfl Tryd.runUnderlying25 rfl (ints_length _) (fun w1 hw1 => Row.own hvb hw1)) ?_
  refine Lq.op (v := .bool (!(decide (((xs.length : Int)) = ((ys.length : Int)))))) rfl rfl rfl (OpQ.neq rfl rfl rfl) ?_
  refine Lq.nil ?_
  refine Kt.onSub (e' := [(0, va), (1, vb), (10, .bool (!(decide (((xs.length : Int)) = ((ys.length : Int))))))]) (Sub.cons rfl (Sub.cons rfl (Sub.cons rfl Sub.nil))) ?_
  refine Wk.cond (b := !(decide (((xs.length : Int)) = ((ys.length : Int))))) rfl (fun h10 => ?_) (fun h10 => ?_)
  · skip
    replace h10 := not_true h10
    replace h10 := of_decide_eq_false h10
    refine Wk.seq ?_
    refine Wk.regionQ ?_
    refine Lq.op (v := .bool false) rfl rfl rfl (OpQ.assign rfl rfl) ?_
    refine Lq.nil ?_
    refine Kt.onSub (e' := [(4, .bool false)]) (Sub.cons rfl Sub.nil) ?_
    refine Wk.ret (Kt.end1 rfl rfl fun w' hw => ?_)
    -- ret 0: .bool false
    have hf : (xs == ys) = false := by
      rw [beq_eq_false_iff_ne]; rintro rfl; simp_all
    exact ⟨ret_b hf.symm, hw.below⟩
  · skip
    replace h10 := not_false h10
    replace h10 := of_decide_eq_true h10
    have hlen : xs.length = ys.length := by omega
    refine Wk.skip ?_
    refine Kt.onSub (e' := [(0, va), (1, vb)]) (Sub.cons rfl (Sub.cons rfl Sub.nil)) ?_
    refine Wk.seq ?_
    refine Wk.seq ?_
    refine Wk.regionQ ?_
    refine Lq.op (v := .int .i64 0) rfl rfl rfl (OpQ.assign rfl rfl) ?_
    refine Lq.nil ?_
    refine Kt.onSub (e' := [(0, va), (1, vb), (5, .int .i64 0)]) (Sub.cons rfl (Sub.cons rfl (Sub.cons rfl Sub.nil))) ?_
    refine Wk.block ?_
    refine Wk.loop (σ := Nat) (fun k => k ≤ xs.length ∧ xs.take k = ys.take k) (fun k => [(0, va), (1, vb), (5, .int .i64 ((k : Int)))]) (fun k => Own w.heap.size w []) (fun k => xs.length - k) (0) ⟨by omega, rfl⟩ (Sub.cons rfl (Sub.cons rfl (Sub.cons rfl Sub.nil))) (fun _ h => h) ?_
    rintro k ⟨hk, hall⟩
    refine Wk.seq ?_
    refine Wk.seq ?_
    refine Wk.regionQ ?_
    refine Lq.op (v := .int .i64 ((k : Int))) rfl rfl rfl (OpQ.move rfl rfl) ?_
    refine Lq.op (v := va) rfl rfl rfl (OpQ.move rfl rfl) ?_
    refine Lq.op (v := .int .i64 ((xs.length : Int))) rfl rfl rfl (OpQ.lenRow rfl Tryd.runUnderlying25 rfl (ints_length _) (fun w1 hw1 => Row.own hva hw1)) ?_
    refine Lq.op (v := .bool (decide (((k : Int)) < ((xs.length : Int))))) rfl rfl rfl (OpQ.lss rfl rfl rfl) ?_
    refine Lq.nil ?_
    refine Kt.onSub (e' := [(0, va), (1, vb), (5, .int .i64 ((k : Int))), (14, .bool (decide (((k : Int)) < ((xs.length : Int)))))]) (Sub.cons rfl (Sub.cons rfl (Sub.cons rfl (Sub.cons rfl Sub.nil)))) ?_
    refine Wk.cond (b := decide (((k : Int)) < ((xs.length : Int)))) rfl (fun h14 => ?_) (fun h14 => ?_)
    · skip
      replace h14 := of_decide_eq_true h14
      refine Wk.skip ?_
      refine Kt.onSub (e' := [(0, va), (1, vb), (5, .int .i64 ((k : Int)))]) (Sub.cons rfl (Sub.cons rfl (Sub.cons rfl Sub.nil))) ?_
      refine Wk.seq ?_
      refine Wk.block ?_
      refine Wk.seq ?_
      refine Wk.regionD Base.mixed (fun _ h => h.drawn) (by kernel_rfl) ?_
      refine Lq.op (v := va) rfl rfl rfl (OpQ.move rfl rfl) ?_
      refine Lq.op (v := .int .i64 ((k : Int))) rfl rfl rfl (OpQ.move rfl rfl) ?_
      refine Lq.op (v := .pointer (some (sAt va ((k : Int))))) rfl rfl rfl (OpQ.atRow rfl Tryd.runUnderlying25 Tryd.sizeOf3 rfl rfl (by omega) (by rw [ints_length]; omega) (fun w1 hw1 => Row.own hva hw1)) ?_
      refine Lq.op (v := .int .i64 (xs.getD (((k : Int)).toNat) 0)) rfl rfl rfl (OpQ.load1 rfl Tryd.isAgg3 rfl (fun w1 hw1 => Ints.cell (Row.own hva hw1) (by omega) (by omega))) ?_
      refine Lq.op (v := vb) rfl rfl rfl (OpQ.move rfl rfl) ?_
      refine Lq.op (v := .int .i64 ((k : Int))) rfl rfl rfl (OpQ.move rfl rfl) ?_
      refine Lq.op (v := .pointer (some (sAt vb ((k : Int))))) rfl rfl rfl (OpQ.atRow rfl Tryd.runUnderlying25 Tryd.sizeOf3 rfl rfl (by omega) (by rw [ints_length]; omega) (fun w1 hw1 => Row.own hvb hw1)) ?_
      refine Lq.op (v := .int .i64 (ys.getD (((k : Int)).toNat) 0)) rfl rfl rfl (OpQ.load1 rfl Tryd.isAgg3 rfl (fun w1 hw1 => Ints.cell (Row.own hvb hw1) (by omega) (by omega))) ?_
      refine Lq.op (v := .bool (!(decide ((xs.getD (((k : Int)).toNat) 0) = (ys.getD (((k : Int)).toNat) 0))))) rfl rfl rfl (OpQ.neq rfl rfl rfl) ?_
      refine Lq.nil ?_
      refine Kt.onSub (e' := [(0, va), (1, vb), (5, .int .i64 ((k : Int))), (25, .bool (!(decide ((xs.getD (((k : Int)).toNat) 0) = (ys.getD (((k : Int)).toNat) 0)))))]) (Sub.cons rfl (Sub.cons rfl (Sub.cons rfl (Sub.cons rfl Sub.nil)))) ?_
      refine Wk.cond (b := !(decide ((xs.getD (((k : Int)).toNat) 0) = (ys.getD (((k : Int)).toNat) 0)))) rfl (fun h25 => ?_) (fun h25 => ?_)
      · skip
        replace h25 := not_true h25
        replace h25 := of_decide_eq_false h25
        refine Wk.seq ?_
        refine Wk.regionQ ?_
        refine Lq.op (v := .bool false) rfl rfl rfl (OpQ.assign rfl rfl) ?_
        refine Lq.nil ?_
        refine Kt.onSub (e' := [(4, .bool false)]) (Sub.cons rfl Sub.nil) ?_
        refine Wk.ret (Kt.end1 rfl rfl fun w' hw => ?_)
        -- ret 1: .bool false
        have hf : (xs == ys) = false := by
          rw [beq_eq_false_iff_ne]; rintro rfl; simp_all
        exact ⟨ret_b hf.symm, hw.below⟩
      · skip
        replace h25 := not_false h25
        replace h25 := of_decide_eq_true h25
        refine Wk.skip ?_
        refine Kt.onSub (e' := [(0, va), (1, vb), (5, .int .i64 ((k : Int)))]) (Sub.cons rfl (Sub.cons rfl (Sub.cons rfl Sub.nil))) ?_
        refine Wk.regionQ ?_
        refine Lq.op (v := .int .i64 ((k : Int))) rfl rfl rfl (OpQ.move rfl rfl) ?_
        refine Lq.op (v := .int .i64 (((k : Int)) + (1 : Int))) rfl rfl rfl (OpQ.add rfl rfl rfl (by omega) (by omega)) ?_
        refine Lq.op (v := .int .i64 (((k : Int)) + (1 : Int))) rfl rfl rfl (OpQ.assign rfl rfl) ?_
        refine Lq.nil ?_
        refine Kt.again (k + 1) ⟨by omega, eq_take (by omega) (by omega) hall (by simpa using h25)⟩ (by omega) (Sub.cons rfl (Sub.cons rfl (Sub.cons rfl Sub.nil))) (fun _ h => h)
    · skip
      replace h14 := of_decide_eq_false h14
      refine Wk.exit rfl ?_
      refine Kt.onSub (e' := []) Sub.nil ?_
      refine Wk.seq ?_
      refine Wk.regionQ ?_
      refine Lq.op (v := .bool true) rfl rfl rfl (OpQ.assign rfl rfl) ?_
      refine Lq.nil ?_
      refine Kt.onSub (e' := [(4, .bool true)]) (Sub.cons rfl Sub.nil) ?_
      refine Wk.ret (Kt.end1 rfl rfl fun w' hw => ?_)
      -- ret 2: .bool true
      exact ⟨ret_b (by rw [List.take_of_length_le (by omega), List.take_of_length_le (by omega)] at hall; simp [hall]), hw.below⟩

set_option maxHeartbeats 400000 in
/-- laws.markIntS -/
theorem markInt_ok (g n cap T : Nat) (cur : Array Value) (k : Int) (w : World) (hg : w.heap[g]? = some (.cells cur T (0, 0))) (hn : n ≤ cur.size) (hs : n ≤ 140737488355328) (hk0 : 0 ≤ k) (hk1 : k ≤ 1048576) :
    Calls Tryd.prog 20 [.slice (some ⟨g, 0, none⟩) n cap, .int .i64 k].toArray w fun en w' => en = .returned (.int .i64 (k + n)) ∧ w' = w.setRow g (markA cur k n) := by
  refine fnStartC (fun w1 => w1 = w.setRow g (markA cur k 0)) (n := 19) (e := [(0, .slice (some ⟨g, 0, none⟩) n cap), (1, .int .i64 k)]) Tryd.func20 rfl rfl rfl rfl Ends.both (row_self hg).symm ?_
  refine Wk.seq ?_
  refine Wk.regionQ ?_
  refine Lq.op (v := .int .i64 0) rfl rfl rfl (OpQ.assign rfl rfl) ?_
  refine Lq.nil ?_
  refine Kt.onSub (e' := [(0, .slice (some ⟨g, 0, none⟩) n cap), (1, .int .i64 k)]) (Sub.cons rfl (Sub.cons rfl Sub.nil)) ?_
  refine Wk.seq ?_
  refine Wk.seq ?_
  refine Wk.regionQ ?_
  refine Lq.op (v := .int .i64 0) rfl rfl rfl (OpQ.assign rfl rfl) ?_
  refine Lq.nil ?_
  refine Kt.onSub (e' := [(0, .slice (some ⟨g, 0, none⟩) n cap), (1, .int .i64 k), (5, .int .i64 0)]) (Sub.cons rfl (Sub.cons rfl (Sub.cons rfl Sub.nil))) ?_
  refine Wk.block ?_
  refine Wk.loop (σ := Nat) (fun i => i ≤ n) (fun i => [(0, .slice (some ⟨g, 0, none⟩) n cap), (1, .int .i64 ((k + (i : Int)))), (5, .int .i64 ((i : Int)))]) (fun i => (fun w1 => w1 = w.setRow g (markA cur k i))) (fun i => n - i) (0) (by omega) (Sub.cons rfl (Sub.cons (by simp [List.lookup]) (Sub.cons rfl Sub.nil))) (fun _ h => h) ?_
  rintro i hi
  refine Wk.seq ?_
  refine Wk.seq ?_
  refine Wk.regionQ ?_
  refine Lq.op (v := .int .i64 ((i : Int))) rfl rfl rfl (OpQ.move rfl rfl) ?_
  refine Lq.op (v := .slice (some ⟨g, 0, none⟩) n cap) rfl rfl rfl (OpQ.move rfl rfl) ?_
  refine Lq.op (v := .int .i64 ((n : Int))) rfl rfl rfl (OpQ.lenS rfl Tryd.runUnderlying25 rfl) ?_
  refine Lq.op (v := .bool (decide (((i : Int)) < ((n : Int))))) rfl rfl rfl (OpQ.lss rfl rfl rfl) ?_
  refine Lq.nil ?_
  refine Kt.onSub (e' := [(0, .slice (some ⟨g, 0, none⟩) n cap), (1, .int .i64 ((k + (i : Int)))), (5, .int .i64 ((i : Int))), (9, .bool (decide (((i : Int)) < ((n : Int)))))]) (Sub.cons rfl (Sub.cons rfl (Sub.cons rfl (Sub.cons rfl Sub.nil)))) ?_
  refine Wk.cond (b := decide (((i : Int)) < ((n : Int)))) rfl (fun h9 => ?_) (fun h9 => ?_)
  · skip
    replace h9 := of_decide_eq_true h9
    refine Wk.skip ?_
    refine Kt.onSub (e' := [(0, .slice (some ⟨g, 0, none⟩) n cap), (1, .int .i64 ((k + (i : Int)))), (5, .int .i64 ((i : Int)))]) (Sub.cons rfl (Sub.cons rfl (Sub.cons rfl Sub.nil))) ?_
    refine Wk.seq ?_
    refine Wk.block ?_
    refine Wk.seq ?_
    refine Wk.region ?_
    refine Ll.op (v := .slice (some ⟨g, 0, none⟩) n cap) rfl rfl rfl (OpQ.move rfl rfl) ?_
    refine Ll.op (v := .int .i64 ((i : Int))) rfl rfl rfl (OpQ.move rfl rfl) ?_
    refine Ll.op (v := .int .i64 ((k + (i : Int)))) rfl rfl rfl (OpQ.move rfl rfl) ?_
    refine Ll.op (v := .pointer (some ⟨g, 0 + ((i : Int)).toNat, none⟩)) rfl rfl rfl (OpQ.indexAddr1 rfl Tryd.runUnderlying25 Tryd.sizeOf3 rfl rfl (by omega) (by omega)) ?_
    refine Ll.storeExact (v := .int .i64 (k + (i : Int))) (g := g) (off := i) rfl rfl rfl (by simp [opd, List.lookup]) rfl rfl Tryd.sizeOf3 hg (by first | (simp; done) | (simp; omega) | omega) ?_
    refine Ll.nil ?_
    refine Kt.onSub (e' := [(0, .slice (some ⟨g, 0, none⟩) n cap), (1, .int .i64 ((k + (i : Int)))), (5, .int .i64 ((i : Int)))]) (Sub.cons rfl (Sub.cons rfl (Sub.cons rfl Sub.nil))) ?_
    refine Wk.regionQ ?_
    refine Lq.op (v := .int .i64 ((k + (i : Int)))) rfl rfl rfl (OpQ.move rfl rfl) ?_
    refine Lq.op (v := .int .i64 (((k + (i : Int))) + (1 : Int))) rfl rfl rfl (OpQ.add rfl rfl rfl (by omega) (by omega)) ?_
    refine Lq.op (v := .int .i64 (((k + (i : Int))) + (1 : Int))) rfl rfl rfl (OpQ.assign rfl rfl) ?_
    refine Lq.nil ?_
    refine Kt.onSub (e' := [(0, .slice (some ⟨g, 0, none⟩) n cap), (1, .int .i64 (((k + (i : Int))) + (1 : Int))), (5, .int .i64 ((i : Int)))]) (Sub.cons rfl (Sub.cons rfl (Sub.cons rfl Sub.nil))) ?_
    refine Wk.regionQ ?_
    refine Lq.op (v := .int .i64 ((i : Int))) rfl rfl rfl (OpQ.move rfl rfl) ?_
    refine Lq.op (v := .int .i64 (((i : Int)) + (1 : Int))) rfl rfl rfl (OpQ.add rfl rfl rfl (by omega) (by omega)) ?_
    refine Lq.op (v := .int .i64 (((i : Int)) + (1 : Int))) rfl rfl rfl (OpQ.assign rfl rfl) ?_
    refine Lq.nil ?_
    refine Kt.again (i + 1) (by omega) (by omega) (Sub.cons rfl (Sub.cons (by simp [List.lookup]; omega) (Sub.cons rfl Sub.nil))) (fun _ h => h)
  · skip
    replace h9 := of_decide_eq_false h9
    refine Wk.exit rfl ?_
    refine Kt.onSub (e' := [(1, .int .i64 ((k + (i : Int))))]) (Sub.cons rfl Sub.nil) ?_
    refine Wk.seq ?_
    refine Wk.regionQ ?_
    refine Lq.op (v := .int .i64 ((k + (i : Int)))) rfl rfl rfl (OpQ.move rfl rfl) ?_
    refine Lq.op (v := .int .i64 ((k + (i : Int)))) rfl rfl rfl (OpQ.assign rfl rfl) ?_
    refine Lq.nil ?_
    refine Kt.onSub (e' := [(4, .int .i64 ((k + (i : Int))))]) (Sub.cons rfl Sub.nil) ?_
    refine Wk.ret (Kt.end1 rfl rfl fun w' hw => ?_)
    -- ret 0: .int .i64 ((k + (i : Int)))
    exact ⟨ret_i (by omega), by obtain rfl : i = n := (by omega); exact hw⟩

set_option maxHeartbeats 400000 in
/-- laws.markIntS|nil -/
theorem markInt0_ok (k : Int) (w : World) :
    Calls Tryd.prog 20 [.slice none 0 0, .int .i64 k].toArray w fun en w' => en = .returned (.int .i64 k) ∧ Below w.heap.size w w' := by
  refine fnStart (n := 19) (e := [(0, .slice none 0 0), (1, .int .i64 k)]) Tryd.func20 rfl rfl rfl rfl Ends.both ?_
  refine Wk.seq ?_
  refine Wk.regionQ ?_
  refine Lq.op (v := .int .i64 0) rfl rfl rfl (OpQ.assign rfl rfl) ?_
  refine Lq.nil ?_
  refine Kt.onSub (e' := [(0, .slice none 0 0), (1, .int .i64 k)]) (Sub.cons rfl (Sub.cons rfl Sub.nil)) ?_
  refine Wk.seq ?_
  refine Wk.seq ?_
  refine Wk.regionQ ?_
  refine Lq.op (v := .int .i64 0) rfl rfl rfl (OpQ.assign rfl rfl) ?_
  refine Lq.nil ?_
  refine Kt.onSub (e' := [(0, .slice none 0 0), (1, .int .i64 k), (5, .int .i64 0)]) (Sub.cons rfl (Sub.cons rfl (Sub.cons rfl Sub.nil))) ?_
  refine Wk.block ?_
  refine Wk.loop (σ := Unit) (fun u => True) (fun u => [(0, .slice none 0 0), (1, .int .i64 k), (5, .int .i64 0)]) (fun u => Own w.heap.size w []) (fun u => 0) (()) trivial (Sub.cons rfl (Sub.cons rfl (Sub.cons rfl Sub.nil))) (fun _ h => h) ?_
  rintro u _hu
  refine Wk.seq ?_
  refine Wk.seq ?_
  refine Wk.regionQ ?_
  refine Lq.op (v := .int .i64 0) rfl rfl rfl (OpQ.move rfl rfl) ?_
  refine Lq.op (v := .slice none 0 0) rfl rfl rfl (OpQ.move rfl rfl) ?_
  refine Lq.op (v := .int .i64 ((0 : Int))) rfl rfl rfl (OpQ.lenS rfl Tryd.runUnderlying25 rfl) ?_
  refine Lq.op (v := .bool (decide ((0 : Int) < ((0 : Int))))) rfl rfl rfl (OpQ.lss rfl rfl rfl) ?_
  refine Lq.nil ?_
  refine Kt.onSub (e' := [(0, .slice none 0 0), (1, .int .i64 k), (5, .int .i64 0), (9, .bool (decide ((0 : Int) < ((0 : Int)))))]) (Sub.cons rfl (Sub.cons rfl (Sub.cons rfl (Sub.cons rfl Sub.nil)))) ?_
  refine Wk.cond (b := decide ((0 : Int) < ((0 : Int)))) rfl (fun h9 => ?_) (fun h9 => ?_)
  · skip
    replace h9 := of_decide_eq_true h9
    exact absurd h9 (by decide)
  · skip
    replace h9 := of_decide_eq_false h9
    refine Wk.exit rfl ?_
    refine Kt.onSub (e' := [(1, .int .i64 k)]) (Sub.cons rfl Sub.nil) ?_
    refine Wk.seq ?_
    refine Wk.regionQ ?_
    refine Lq.op (v := .int .i64 k) rfl rfl rfl (OpQ.move rfl rfl) ?_
    refine Lq.op (v := .int .i64 k) rfl rfl rfl (OpQ.assign rfl rfl) ?_
    refine Lq.nil ?_
    refine Kt.onSub (e' := [(4, .int .i64 k)]) (Sub.cons rfl Sub.nil) ?_
    refine Wk.ret (Kt.end1 rfl rfl fun w' hw => ?_)
    -- ret 0: .int .i64 k
    exact ⟨ret_i (by first | rfl | (simp_all; done) | (simp_all; omega)), hw.below⟩

set_option maxHeartbeats 400000 in
/-- laws.heldIntS -/
theorem heldInt_ok (va : Value) (xs : List Int) (k : Int) (w : World) (hva : Ints w va xs) (hs : xs.length ≤ 140737488355328) (hk0 : 0 ≤ k) (hk1 : k ≤ 1048576) :
    Calls Tryd.prog 21 [va, .int .i64 k].toArray w fun en w' => en = .returned (.int .i64 (heldV xs k)) ∧ Below w.heap.size w w' := by
  refine fnStart (n := 21) (e := [(0, va), (1, .int .i64 k)]) Tryd.func21 rfl rfl rfl rfl Ends.both ?_
  refine Wk.seq ?_
  refine Wk.regionQ ?_
  refine Lq.op (v := .int .i64 0) rfl rfl rfl (OpQ.assign rfl rfl) ?_
  refine Lq.nil ?_
  refine Kt.onSub (e' := [(0, va), (1, .int .i64 k)]) (Sub.cons rfl (Sub.cons rfl Sub.nil)) ?_
  refine Wk.seq ?_
  refine Wk.seq ?_
  refine Wk.regionQ ?_
  refine Lq.op (v := .int .i64 0) rfl rfl rfl (OpQ.assign rfl rfl) ?_
  refine Lq.nil ?_
  refine Kt.onSub (e' := [(0, va), (1, .int .i64 k), (5, .int .i64 0)]) (Sub.cons rfl (Sub.cons rfl (Sub.cons rfl Sub.nil))) ?_
  refine Wk.block ?_
  refine Wk.loop (σ := Nat) (fun i => i ≤ xs.length ∧ heldV xs k = heldV (xs.drop i) (k + i)) (fun i => [(0, va), (1, .int .i64 ((k + (i : Int)))), (5, .int .i64 ((i : Int)))]) (fun i => Own w.heap.size w []) (fun i => xs.length - i) (0) ⟨by omega, by simp⟩ (Sub.cons rfl (Sub.cons (by simp [List.lookup]) (Sub.cons rfl Sub.nil))) (fun _ h => h) ?_
  rintro i ⟨hi, hall⟩
  refine Wk.seq ?_
  refine Wk.seq ?_
  refine Wk.regionQ ?_
  refine Lq.op (v := .int .i64 ((i : Int))) rfl rfl rfl (OpQ.move rfl rfl) ?_
  refine Lq.op (v := va) rfl rfl rfl (OpQ.move rfl rfl) ?_
  refine Lq.op (v := .int .i64 ((xs.length : Int))) rfl rfl rfl (OpQ.lenRow rfl Tryd.runUnderlying25 rfl (ints_length _) (fun w1 hw1 => Row.own hva hw1)) ?_
  refine Lq.op (v := .bool (decide (((i : Int)) < ((xs.length : Int))))) rfl rfl rfl (OpQ.lss rfl rfl rfl) ?_
  refine Lq.nil ?_
  refine Kt.onSub (e' := [(0, va), (1, .int .i64 ((k + (i : Int)))), (5, .int .i64 ((i : Int))), (9, .bool (decide (((i : Int)) < ((xs.length : Int)))))]) (Sub.cons rfl (Sub.cons rfl (Sub.cons rfl (Sub.cons rfl Sub.nil)))) ?_
  refine Wk.cond (b := decide (((i : Int)) < ((xs.length : Int)))) rfl (fun h9 => ?_) (fun h9 => ?_)
  · skip
    replace h9 := of_decide_eq_true h9
    refine Wk.skip ?_
    refine Kt.onSub (e' := [(0, va), (1, .int .i64 ((k + (i : Int)))), (5, .int .i64 ((i : Int)))]) (Sub.cons rfl (Sub.cons rfl (Sub.cons rfl Sub.nil))) ?_
    refine Wk.seq ?_
    refine Wk.block ?_
    refine Wk.seq ?_
    refine Wk.seq ?_
    refine Wk.regionQ ?_
    refine Lq.op (v := va) rfl rfl rfl (OpQ.move rfl rfl) ?_
    refine Lq.op (v := .int .i64 ((i : Int))) rfl rfl rfl (OpQ.move rfl rfl) ?_
    refine Lq.op (v := .pointer (some (sAt va ((i : Int))))) rfl rfl rfl (OpQ.atRow rfl Tryd.runUnderlying25 Tryd.sizeOf3 rfl rfl (by omega) (by rw [ints_length]; omega) (fun w1 hw1 => Row.own hva hw1)) ?_
    refine Lq.op (v := .int .i64 (xs.getD (((i : Int)).toNat) 0)) rfl rfl rfl (OpQ.load1 rfl Tryd.isAgg3 rfl (fun w1 hw1 => Ints.cell (Row.own hva hw1) (by omega) (by omega))) ?_
    refine Lq.op (v := .int .i64 ((k + (i : Int)))) rfl rfl rfl (OpQ.move rfl rfl) ?_
    refine Lq.op (v := .bool (!(decide ((xs.getD (((i : Int)).toNat) 0) = ((k + (i : Int))))))) rfl rfl rfl (OpQ.neq rfl rfl rfl) ?_
    refine Lq.nil ?_
    refine Kt.onSub (e' := [(0, va), (1, .int .i64 ((k + (i : Int)))), (5, .int .i64 ((i : Int))), (17, .bool (!(decide ((xs.getD (((i : Int)).toNat) 0) = ((k + (i : Int)))))))]) (Sub.cons rfl (Sub.cons rfl (Sub.cons rfl (Sub.cons rfl Sub.nil)))) ?_
    refine Wk.cond (b := !(decide ((xs.getD (((i : Int)).toNat) 0) = ((k + (i : Int)))))) rfl (fun h17 => ?_) (fun h17 => ?_)
    · skip
      replace h17 := not_true h17
      replace h17 := of_decide_eq_false h17
      refine Wk.seq ?_
      refine Wk.regionQ ?_
      refine Lq.op (v := .int .i64 (-1)) rfl rfl rfl (OpQ.assign rfl rfl) ?_
      refine Lq.nil ?_
      refine Kt.onSub (e' := [(4, .int .i64 (-1))]) (Sub.cons rfl Sub.nil) ?_
      refine Wk.ret (Kt.end1 rfl rfl fun w' hw => ?_)
      -- ret 0: .int .i64 (-1)
      exact ⟨ret_i (by rw [hall, heldV_drop (by omega), if_neg (by simpa using h17)]), hw.below⟩
    · skip
      replace h17 := not_false h17
      replace h17 := of_decide_eq_true h17
      refine Wk.skip ?_
      refine Kt.onSub (e' := [(0, va), (1, .int .i64 ((k + (i : Int)))), (5, .int .i64 ((i : Int)))]) (Sub.cons rfl (Sub.cons rfl (Sub.cons rfl Sub.nil))) ?_
      refine Wk.regionQ ?_
      refine Lq.op (v := .int .i64 ((k + (i : Int)))) rfl rfl rfl (OpQ.move rfl rfl) ?_
      refine Lq.op (v := .int .i64 (((k + (i : Int))) + (1 : Int))) rfl rfl rfl (OpQ.add rfl rfl rfl (by omega) (by omega)) ?_
      refine Lq.op (v := .int .i64 (((k + (i : Int))) + (1 : Int))) rfl rfl rfl (OpQ.assign rfl rfl) ?_
      refine Lq.nil ?_
      refine Kt.onSub (e' := [(0, va), (1, .int .i64 (((k + (i : Int))) + (1 : Int))), (5, .int .i64 ((i : Int)))]) (Sub.cons rfl (Sub.cons rfl (Sub.cons rfl Sub.nil))) ?_
      refine Wk.regionQ ?_
      refine Lq.op (v := .int .i64 ((i : Int))) rfl rfl rfl (OpQ.move rfl rfl) ?_
      refine Lq.op (v := .int .i64 (((i : Int)) + (1 : Int))) rfl rfl rfl (OpQ.add rfl rfl rfl (by omega) (by omega)) ?_
      refine Lq.op (v := .int .i64 (((i : Int)) + (1 : Int))) rfl rfl rfl (OpQ.assign rfl rfl) ?_
      refine Lq.nil ?_
      refine Kt.again (i + 1) ⟨by omega, by rw [hall, heldV_drop (by omega), if_pos (by simpa using h17)]; congr 1; omega⟩ (by omega) (Sub.cons rfl (Sub.cons (by simp [List.lookup]; omega) (Sub.cons rfl Sub.nil))) (fun _ h => h)
  · skip
    replace h9 := of_decide_eq_false h9
    refine Wk.exit rfl ?_
    refine Kt.onSub (e' := [(1, .int .i64 ((k + (i : Int))))]) (Sub.cons rfl Sub.nil) ?_
    refine Wk.seq ?_
    refine Wk.regionQ ?_
    refine Lq.op (v := .int .i64 ((k + (i : Int)))) rfl rfl rfl (OpQ.move rfl rfl) ?_
    refine Lq.op (v := .int .i64 ((k + (i : Int)))) rfl rfl rfl (OpQ.assign rfl rfl) ?_
    refine Lq.nil ?_
    refine Kt.onSub (e' := [(4, .int .i64 ((k + (i : Int))))]) (Sub.cons rfl Sub.nil) ?_
    refine Wk.ret (Kt.end1 rfl rfl fun w' hw => ?_)
    -- ret 1: .int .i64 ((k + (i : Int)))
    exact ⟨ret_i (by rw [hall, List.drop_of_length_le (by omega)]; rfl), hw.below⟩

set_option maxHeartbeats 400000 in
/-- laws.FnExactSpreadOf|yes -/
theorem lawSpread_yes (a : St) (w : World) (h1a : a.set.length ≤ 9223372036854775807) (h2a : a.rel.length ≤ 9223372036854775807) (hv : validB a = true) :
    Calls Tryd.prog 3 [vS a].toArray w fun en w' => en = .returned (.bool true) ∧ Below w.heap.size w w' := by
  refine fnStart (n := 50) (e := [(0, vS a)]) Tryd.func3 rfl rfl rfl rfl Ends.both ?_
  have ha := validB_fine hv
  have hsa := ha.small
  refine Wk.seq ?_
  refine Wk.region ?_
  refine Ll.box (v := vS a) rfl rfl rfl rfl rfl fun p1 hp1 => ?_
  show Ll _ _ (Own _ _ [(p1, .cells #[.int .i64 a.n, str a.set, str a.rel] 23 (0, 0))]) _ _ ((1, .pointer (some ⟨p1, 0, none⟩)) :: _) _ _ _
  refine Ll.op (v := .bool false) rfl rfl rfl (OpQ.assign rfl rfl) ?_
  refine Ll.nil ?_
  refine Kt.onSub (e' := [(1, .pointer (some ⟨p1, 0, none⟩))]) (Sub.cons rfl Sub.nil) ?_
  refine Wk.seq ?_
  refine Wk.regionQ ?_
  refine Lq.op (v := .int .i64 1048576) rfl rfl rfl (OpQ.assign rfl rfl) ?_
  refine Lq.nil ?_
  refine Kt.onSub (e' := [(1, .pointer (some ⟨p1, 0, none⟩)), (3, .int .i64 1048576)]) (Sub.cons rfl (Sub.cons rfl Sub.nil)) ?_
  refine Wk.seq ?_
  refine Wk.regionQ ?_
  refine Lq.op (v := vS a) rfl rfl rfl (OpQ.loadBox (cs := #[.int .i64 a.n, str a.set, str a.rel]) 0 rfl Tryd.isAgg23 rfl rfl Tryd.sizeOf23) ?_
  refine Lq.op (v := .int .i64 1048576) rfl rfl rfl (OpQ.move rfl rfl) ?_
  refine Lq.op (v := .int .i64 (szB a 1048576)) rfl rfl rfl (OpQ.call rfl Tryd.call15 rfl Own.stable (fun w1 hw1 => sz_ok a 1048576 w1 (by omega) (by omega) h1a h2a)) ?_
  refine Lq.op (v := .int .i64 (szB a 1048576)) rfl rfl rfl (OpQ.assign rfl rfl) ?_
  refine Lq.nil ?_
  refine Kt.onSub (e' := [(1, .pointer (some ⟨p1, 0, none⟩)), (3, .int .i64 (szB a 1048576))]) (Sub.cons rfl (Sub.cons rfl Sub.nil)) ?_
  refine Wk.seq ?_
  refine Wk.seq ?_
  refine Wk.regionQ ?_
  refine Lq.op (v := .int .i64 (szB a 1048576)) rfl rfl rfl (OpQ.move rfl rfl) ?_
  refine Lq.op (v := .bool (decide ((szB a 1048576) < (0 : Int)))) rfl rfl rfl (OpQ.lss rfl rfl rfl) ?_
  refine Lq.nil ?_
  refine Kt.onSub (e' := [(1, .pointer (some ⟨p1, 0, none⟩)), (13, .bool (decide ((szB a 1048576) < (0 : Int))))]) (Sub.cons rfl (Sub.cons rfl Sub.nil)) ?_
  refine Wk.cond (b := decide ((szB a 1048576) < (0 : Int))) rfl (fun h13 => ?_) (fun h13 => ?_)
  · skip
    replace h13 := of_decide_eq_true h13
    refine Wk.seq ?_
    refine Wk.regionQ ?_
    refine Lq.op (v := .bool true) rfl rfl rfl (OpQ.assign rfl rfl) ?_
    refine Lq.nil ?_
    refine Kt.onSub (e' := [(2, .bool true)]) (Sub.cons rfl Sub.nil) ?_
    refine Wk.ret (Kt.end1 rfl rfl fun w' hw => ?_)
    -- ret 0: .bool true
    exact ⟨ret_b (by first | rfl | (simp_all; done) | (simp_all; omega)), hw.below⟩
  · skip
    replace h13 := of_decide_eq_false h13
    refine Wk.skip ?_
    refine Kt.onSub (e' := [(1, .pointer (some ⟨p1, 0, none⟩))]) (Sub.cons rfl Sub.nil) ?_
    refine Wk.seq ?_
    refine Wk.region ?_
    refine Ll.op (v := vS a) rfl rfl rfl (OpQ.loadBox (cs := #[.int .i64 a.n, str a.set, str a.rel]) 0 rfl Tryd.isAgg23 rfl rfl Tryd.sizeOf23) ?_
    refine Ll.op (v := vS a) rfl rfl rfl (OpQ.call rfl Tryd.call17 rfl Own.stable (fun w1 hw1 => toSt_ok a w1 )) ?_
    refine Ll.callRow (xs := [.tmp 15]) (m := 4) (vs := ints (spreadTo a a.n.toNat)) (el := 3) (size := 1) rfl rfl rfl rfl Tryd.call16 rfl (fun w1 hw1 => sSpread_yes a w1 hv) fun p16 cap16 cur16 hp16 hcp16 hlp16 htp16 => ?_
    refine Ll.op (v := .slice (some ⟨p16, 0, none⟩) 4 cap16) rfl rfl rfl (OpQ.assign rfl rfl) ?_
    refine Ll.nil ?_
    refine Kt.onSub (e' := [(1, .pointer (some ⟨p1, 0, none⟩)), (4, .slice (some ⟨p16, 0, none⟩) 4 cap16)]) (Sub.cons rfl (Sub.cons rfl Sub.nil)) ?_
    refine Wk.seq ?_
    refine Wk.region ?_
    refine Ll.op (v := vS a) rfl rfl rfl (OpQ.loadBox (cs := #[.int .i64 a.n, str a.set, str a.rel]) 1 rfl Tryd.isAgg23 rfl rfl Tryd.sizeOf23) ?_
    refine Ll.op (v := vS a) rfl rfl rfl (OpQ.call rfl Tryd.call17 rfl Own.stable (fun w1 hw1 => toSt_ok a w1 )) ?_
    refine Ll.callRow (xs := [.tmp 18]) (m := 4) (vs := ints (spreadTo a a.n.toNat)) (el := 3) (size := 1) rfl rfl rfl rfl Tryd.call18 rfl (fun w1 hw1 => iSpread_yes a w1 hv) fun p19 cap19 cur19 hp19 hcp19 hlp19 htp19 => ?_
    refine Ll.op (v := .slice (some ⟨p19, 0, none⟩) 4 cap19) rfl rfl rfl (OpQ.assign rfl rfl) ?_
    refine Ll.nil ?_
    refine Kt.onSub (e' := [(1, .pointer (some ⟨p1, 0, none⟩)), (4, .slice (some ⟨p16, 0, none⟩) 4 cap16), (5, .slice (some ⟨p19, 0, none⟩) 4 cap19)]) (Sub.cons rfl (Sub.cons rfl (Sub.cons rfl Sub.nil))) ?_
    refine Wk.seq ?_
    refine Wk.seq ?_
    refine Wk.regionQ ?_
    refine Lq.op (v := .slice (some ⟨p19, 0, none⟩) 4 cap19) rfl rfl rfl (OpQ.move rfl rfl) ?_
    refine Lq.op (v := .slice (some ⟨p16, 0, none⟩) 4 cap16) rfl rfl rfl (OpQ.move rfl rfl) ?_
    refine Lq.op (v := .bool true) rfl rfl rfl (OpQ.call rfl Tryd.call19 rfl Own.stable (fun w1 hw1 => known_b (beq_self_eq_true _) (eqInt_ok (.slice (some ⟨p19, 0, none⟩) 4 cap19) (.slice (some ⟨p16, 0, none⟩) 4 cap16) (spreadTo a a.n.toNat) (spreadTo a a.n.toNat) w1 (Own.row hw1 (i := 0) rfl (by simpa using htp19) (by simp) hlp19) (Own.row hw1 (i := 1) rfl (by simpa using htp16) (by simp) hlp16) (by first | (simp; done) | (simp; omega) | omega)))) ?_
    refine Lq.op (v := .bool false) rfl rfl rfl (OpQ.notT rfl rfl) ?_
    refine Lq.nil ?_
    refine Kt.onSub (e' := [(1, .pointer (some ⟨p1, 0, none⟩)), (4, .slice (some ⟨p16, 0, none⟩) 4 cap16), (5, .slice (some ⟨p19, 0, none⟩) 4 cap19), (23, .bool false)]) (Sub.cons rfl (Sub.cons rfl (Sub.cons rfl (Sub.cons rfl Sub.nil)))) ?_
    refine Wk.condF rfl ?_
    refine Wk.skip ?_
    refine Kt.onSub (e' := [(1, .pointer (some ⟨p1, 0, none⟩)), (4, .slice (some ⟨p16, 0, none⟩) 4 cap16), (5, .slice (some ⟨p19, 0, none⟩) 4 cap19)]) (Sub.cons rfl (Sub.cons rfl (Sub.cons rfl Sub.nil))) ?_
    refine Wk.seq ?_
    refine Wk.regionQ ?_
    refine Lq.op (v := .int .i64 1) rfl rfl rfl (OpQ.assign rfl rfl) ?_
    refine Lq.nil ?_
    refine Kt.onSub (e' := [(1, .pointer (some ⟨p1, 0, none⟩)), (4, .slice (some ⟨p16, 0, none⟩) 4 cap16), (5, .slice (some ⟨p19, 0, none⟩) 4 cap19), (6, .int .i64 1)]) (Sub.cons rfl (Sub.cons rfl (Sub.cons rfl (Sub.cons rfl Sub.nil)))) ?_
    refine Wk.seq ?_
    refine Wk.region ?_
    refine Ll.op (v := .slice (some ⟨p19, 0, none⟩) 4 cap19) rfl rfl rfl (OpQ.move rfl rfl) ?_
    refine Ll.op (v := .int .i64 1) rfl rfl rfl (OpQ.move rfl rfl) ?_
    refine Ll.callSet (xs := [.tmp 24, .tmp 25]) (v := .int .i64 ((1 : Int) + (4 : Nat))) (hs' := [(p19, .cells ((markA cur19 1 4)) 3 (0, 0)), (p16, .cells cur16 3 (0, 0)), (p1, .cells #[.int .i64 a.n, str a.set, str a.rel] 23 (0, 0))]) 0 rfl rfl rfl rfl Tryd.call20 rfl rfl (fun w1 hg => markInt_ok p19 4 cap19 3 cur19 1 w1 hg (by simp [*]; try omega) (by first | omega | (simp; omega)) (by omega) (by omega)) rfl ?_
    refine Ll.op (v := .int .i64 ((1 : Int) + (4 : Nat))) rfl rfl rfl (OpQ.assign rfl rfl) ?_
    refine Ll.nil ?_
    refine Kt.onSub (e' := [(1, .pointer (some ⟨p1, 0, none⟩)), (4, .slice (some ⟨p16, 0, none⟩) 4 cap16), (5, .slice (some ⟨p19, 0, none⟩) 4 cap19), (6, .int .i64 ((1 : Int) + (4 : Nat)))]) (Sub.cons rfl (Sub.cons rfl (Sub.cons rfl (Sub.cons rfl Sub.nil)))) ?_
    refine Wk.seq ?_
    refine Wk.regionQ ?_
    refine Lq.op (v := .int .i64 1) rfl rfl rfl (OpQ.assign rfl rfl) ?_
    refine Lq.nil ?_
    refine Kt.onSub (e' := [(1, .pointer (some ⟨p1, 0, none⟩)), (4, .slice (some ⟨p16, 0, none⟩) 4 cap16), (5, .slice (some ⟨p19, 0, none⟩) 4 cap19), (6, .int .i64 ((1 : Int) + (4 : Nat))), (7, .int .i64 1)]) (Sub.cons rfl (Sub.cons rfl (Sub.cons rfl (Sub.cons rfl (Sub.cons rfl Sub.nil))))) ?_
    refine Wk.seq ?_
    refine Wk.regionQ ?_
    refine Lq.op (v := .slice (some ⟨p19, 0, none⟩) 4 cap19) rfl rfl rfl (OpQ.move rfl rfl) ?_
    refine Lq.op (v := .int .i64 1) rfl rfl rfl (OpQ.move rfl rfl) ?_
    refine Lq.op (v := .int .i64 (heldV (marks 1 4) 1)) rfl rfl rfl (OpQ.call rfl Tryd.call21 rfl Own.stable (fun w1 hw1 => heldInt_ok (.slice (some ⟨p19, 0, none⟩) 4 cap19) (marks 1 4) 1 w1 (Own.row hw1 (i := 0) rfl (by simpa using markA_take cur19 1 4 (by simp [*]; try omega)) (by simp) hlp19) (by first | (simp; done) | (simp; omega) | omega) (by omega) (by omega))) ?_
    refine Lq.op (v := .int .i64 (heldV (marks 1 4) 1)) rfl rfl rfl (OpQ.assign rfl rfl) ?_
    refine Lq.nil ?_
    refine Kt.onSub (e' := [(1, .pointer (some ⟨p1, 0, none⟩)), (4, .slice (some ⟨p16, 0, none⟩) 4 cap16), (5, .slice (some ⟨p19, 0, none⟩) 4 cap19), (6, .int .i64 ((1 : Int) + (4 : Nat))), (7, .int .i64 (heldV (marks 1 4) 1))]) (Sub.cons rfl (Sub.cons rfl (Sub.cons rfl (Sub.cons rfl (Sub.cons rfl Sub.nil))))) ?_
    refine Wk.seq ?_
    refine Wk.seq ?_
    refine Wk.regionQ ?_
    refine Lq.op (v := .int .i64 (heldV (marks 1 4) 1)) rfl rfl rfl (OpQ.move rfl rfl) ?_
    refine Lq.op (v := .bool (decide ((heldV (marks 1 4) 1) < (0 : Int)))) rfl rfl rfl (OpQ.lss rfl rfl rfl) ?_
    refine Lq.nil ?_
    refine Kt.onSub (e' := [(1, .pointer (some ⟨p1, 0, none⟩)), (4, .slice (some ⟨p16, 0, none⟩) 4 cap16), (5, .slice (some ⟨p19, 0, none⟩) 4 cap19), (6, .int .i64 ((1 : Int) + (4 : Nat))), (7, .int .i64 (heldV (marks 1 4) 1)), (31, .bool (decide ((heldV (marks 1 4) 1) < (0 : Int))))]) (Sub.cons rfl (Sub.cons rfl (Sub.cons rfl (Sub.cons rfl (Sub.cons rfl (Sub.cons rfl Sub.nil)))))) ?_
    refine Wk.cond (b := decide ((heldV (marks 1 4) 1) < (0 : Int))) rfl (fun h31 => ?_) (fun h31 => ?_)
    · skip
      replace h31 := of_decide_eq_true h31
      exact absurd h31 (by rw [held_all]; omega)
    · skip
      replace h31 := of_decide_eq_false h31
      refine Wk.skip ?_
      refine Kt.onSub (e' := [(1, .pointer (some ⟨p1, 0, none⟩)), (4, .slice (some ⟨p16, 0, none⟩) 4 cap16), (5, .slice (some ⟨p19, 0, none⟩) 4 cap19), (6, .int .i64 ((1 : Int) + (4 : Nat))), (7, .int .i64 (heldV (marks 1 4) 1))]) (Sub.cons rfl (Sub.cons rfl (Sub.cons rfl (Sub.cons rfl (Sub.cons rfl Sub.nil))))) ?_
      refine Wk.seq ?_
      refine Wk.seq ?_
      refine Wk.regionQ ?_
      refine Lq.op (v := .int .i64 (heldV (marks 1 4) 1)) rfl rfl rfl (OpQ.move rfl rfl) ?_
      refine Lq.op (v := .int .i64 ((1 : Int) + (4 : Nat))) rfl rfl rfl (OpQ.move rfl rfl) ?_
      refine Lq.op (v := .bool (!(decide ((heldV (marks 1 4) 1) = ((1 : Int) + (4 : Nat)))))) rfl rfl rfl (OpQ.neq rfl rfl rfl) ?_
      refine Lq.nil ?_
      refine Kt.onSub (e' := [(1, .pointer (some ⟨p1, 0, none⟩)), (4, .slice (some ⟨p16, 0, none⟩) 4 cap16), (5, .slice (some ⟨p19, 0, none⟩) 4 cap19), (6, .int .i64 ((1 : Int) + (4 : Nat))), (34, .bool (!(decide ((heldV (marks 1 4) 1) = ((1 : Int) + (4 : Nat))))))]) (Sub.cons rfl (Sub.cons rfl (Sub.cons rfl (Sub.cons rfl (Sub.cons rfl Sub.nil))))) ?_
      refine Wk.cond (b := !(decide ((heldV (marks 1 4) 1) = ((1 : Int) + (4 : Nat))))) rfl (fun h34 => ?_) (fun h34 => ?_)
      · skip
        replace h34 := not_true h34
        replace h34 := of_decide_eq_false h34
        exact absurd (held_all _ _) h34
      · skip
        replace h34 := not_false h34
        replace h34 := of_decide_eq_true h34
        refine Wk.skip ?_
        refine Kt.onSub (e' := [(1, .pointer (some ⟨p1, 0, none⟩)), (4, .slice (some ⟨p16, 0, none⟩) 4 cap16), (5, .slice (some ⟨p19, 0, none⟩) 4 cap19), (6, .int .i64 ((1 : Int) + (4 : Nat)))]) (Sub.cons rfl (Sub.cons rfl (Sub.cons rfl (Sub.cons rfl Sub.nil)))) ?_
        refine Wk.seq ?_
        refine Wk.region ?_
        refine Ll.op (v := vS a) rfl rfl rfl (OpQ.loadBox (cs := #[.int .i64 a.n, str a.set, str a.rel]) 2 rfl Tryd.isAgg23 rfl rfl Tryd.sizeOf23) ?_
        refine Ll.op (v := vS a) rfl rfl rfl (OpQ.call rfl Tryd.call17 rfl Own.stable (fun w1 hw1 => toSt_ok a w1 )) ?_
        refine Ll.callRow (xs := [.tmp 36]) (m := 4) (vs := ints (spreadTo a a.n.toNat)) (el := 3) (size := 1) rfl rfl rfl rfl Tryd.call18 rfl (fun w1 hw1 => iSpread_yes a w1 hv) fun p37 cap37 cur37 hp37 hcp37 hlp37 htp37 => ?_
        refine Ll.op (v := .slice (some ⟨p37, 0, none⟩) 4 cap37) rfl rfl rfl (OpQ.assign rfl rfl) ?_
        refine Ll.nil ?_
        refine Kt.onSub (e' := [(4, .slice (some ⟨p16, 0, none⟩) 4 cap16), (5, .slice (some ⟨p19, 0, none⟩) 4 cap19), (6, .int .i64 ((1 : Int) + (4 : Nat))), (8, .slice (some ⟨p37, 0, none⟩) 4 cap37)]) (Sub.cons rfl (Sub.cons rfl (Sub.cons rfl (Sub.cons rfl Sub.nil)))) ?_
        refine Wk.seq ?_
        refine Wk.seq ?_
        refine Wk.regionQ ?_
        refine Lq.op (v := .slice (some ⟨p37, 0, none⟩) 4 cap37) rfl rfl rfl (OpQ.move rfl rfl) ?_
        refine Lq.op (v := .slice (some ⟨p16, 0, none⟩) 4 cap16) rfl rfl rfl (OpQ.move rfl rfl) ?_
        refine Lq.op (v := .bool true) rfl rfl rfl (OpQ.call rfl Tryd.call19 rfl Own.stable (fun w1 hw1 => known_b (beq_self_eq_true _) (eqInt_ok (.slice (some ⟨p37, 0, none⟩) 4 cap37) (.slice (some ⟨p16, 0, none⟩) 4 cap16) (spreadTo a a.n.toNat) (spreadTo a a.n.toNat) w1 (Own.row hw1 (i := 0) rfl (by simpa using htp37) (by simp) hlp37) (Own.row hw1 (i := 2) rfl (by simpa using htp16) (by simp) hlp16) (by first | (simp; done) | (simp; omega) | omega)))) ?_
        refine Lq.op (v := .bool false) rfl rfl rfl (OpQ.notT rfl rfl) ?_
        refine Lq.nil ?_
        refine Kt.onSub (e' := [(5, .slice (some ⟨p19, 0, none⟩) 4 cap19), (6, .int .i64 ((1 : Int) + (4 : Nat))), (41, .bool false)]) (Sub.cons rfl (Sub.cons rfl (Sub.cons rfl Sub.nil))) ?_
        refine Wk.condF rfl ?_
        refine Wk.skip ?_
        refine Kt.onSub (e' := [(5, .slice (some ⟨p19, 0, none⟩) 4 cap19), (6, .int .i64 ((1 : Int) + (4 : Nat)))]) (Sub.cons rfl (Sub.cons rfl Sub.nil)) ?_
        refine Wk.seq ?_
        refine Wk.regionQ ?_
        refine Lq.op (v := .int .i64 1) rfl rfl rfl (OpQ.assign rfl rfl) ?_
        refine Lq.nil ?_
        refine Kt.onSub (e' := [(5, .slice (some ⟨p19, 0, none⟩) 4 cap19), (6, .int .i64 ((1 : Int) + (4 : Nat))), (7, .int .i64 1)]) (Sub.cons rfl (Sub.cons rfl (Sub.cons rfl Sub.nil))) ?_
        refine Wk.seq ?_
        refine Wk.regionQ ?_
        refine Lq.op (v := .slice (some ⟨p19, 0, none⟩) 4 cap19) rfl rfl rfl (OpQ.move rfl rfl) ?_
        refine Lq.op (v := .int .i64 1) rfl rfl rfl (OpQ.move rfl rfl) ?_
        refine Lq.op (v := .int .i64 (heldV (marks 1 4) 1)) rfl rfl rfl (OpQ.call rfl Tryd.call21 rfl Own.stable (fun w1 hw1 => heldInt_ok (.slice (some ⟨p19, 0, none⟩) 4 cap19) (marks 1 4) 1 w1 (Own.row hw1 (i := 1) rfl (by simpa using markA_take cur19 1 4 (by simp [*]; try omega)) (by simp) hlp19) (by first | (simp; done) | (simp; omega) | omega) (by omega) (by omega))) ?_
        refine Lq.op (v := .int .i64 (heldV (marks 1 4) 1)) rfl rfl rfl (OpQ.assign rfl rfl) ?_
        refine Lq.nil ?_
        refine Kt.onSub (e' := [(6, .int .i64 ((1 : Int) + (4 : Nat))), (7, .int .i64 (heldV (marks 1 4) 1))]) (Sub.cons rfl (Sub.cons rfl Sub.nil)) ?_
        refine Wk.seq ?_
        refine Wk.seq ?_
        refine Wk.regionQ ?_
        refine Lq.op (v := .int .i64 (heldV (marks 1 4) 1)) rfl rfl rfl (OpQ.move rfl rfl) ?_
        refine Lq.op (v := .bool (decide ((heldV (marks 1 4) 1) < (0 : Int)))) rfl rfl rfl (OpQ.lss rfl rfl rfl) ?_
        refine Lq.nil ?_
        refine Kt.onSub (e' := [(6, .int .i64 ((1 : Int) + (4 : Nat))), (7, .int .i64 (heldV (marks 1 4) 1)), (46, .bool (decide ((heldV (marks 1 4) 1) < (0 : Int))))]) (Sub.cons rfl (Sub.cons rfl (Sub.cons rfl Sub.nil))) ?_
        refine Wk.cond (b := decide ((heldV (marks 1 4) 1) < (0 : Int))) rfl (fun h46 => ?_) (fun h46 => ?_)
        · skip
          replace h46 := of_decide_eq_true h46
          exact absurd h46 (by rw [held_all]; omega)
        · skip
          replace h46 := of_decide_eq_false h46
          refine Wk.skip ?_
          refine Kt.onSub (e' := [(6, .int .i64 ((1 : Int) + (4 : Nat))), (7, .int .i64 (heldV (marks 1 4) 1))]) (Sub.cons rfl (Sub.cons rfl Sub.nil)) ?_
          refine Wk.seq ?_
          refine Wk.seq ?_
          refine Wk.regionQ ?_
          refine Lq.op (v := .int .i64 (heldV (marks 1 4) 1)) rfl rfl rfl (OpQ.move rfl rfl) ?_
          refine Lq.op (v := .int .i64 ((1 : Int) + (4 : Nat))) rfl rfl rfl (OpQ.move rfl rfl) ?_
          refine Lq.op (v := .bool (!(decide ((heldV (marks 1 4) 1) = ((1 : Int) + (4 : Nat)))))) rfl rfl rfl (OpQ.neq rfl rfl rfl) ?_
          refine Lq.nil ?_
          refine Kt.onSub (e' := [(49, .bool (!(decide ((heldV (marks 1 4) 1) = ((1 : Int) + (4 : Nat))))))]) (Sub.cons rfl Sub.nil) ?_
          refine Wk.cond (b := !(decide ((heldV (marks 1 4) 1) = ((1 : Int) + (4 : Nat))))) rfl (fun h49 => ?_) (fun h49 => ?_)
          · skip
            replace h49 := not_true h49
            replace h49 := of_decide_eq_false h49
            exact absurd (held_all _ _) h49
          · skip
            replace h49 := not_false h49
            replace h49 := of_decide_eq_true h49
            refine Wk.skip ?_
            refine Kt.onSub (e' := []) Sub.nil ?_
            refine Wk.seq ?_
            refine Wk.regionQ ?_
            refine Lq.op (v := .bool true) rfl rfl rfl (OpQ.assign rfl rfl) ?_
            refine Lq.nil ?_
            refine Kt.onSub (e' := [(2, .bool true)]) (Sub.cons rfl Sub.nil) ?_
            refine Wk.ret (Kt.end1 rfl rfl fun w' hw => ?_)
            -- ret 1: .bool true
            exact ⟨ret_b (by first | rfl | (simp_all; done) | (simp_all; omega)), hw.below⟩

set_option maxHeartbeats 400000 in
/-- laws.FnExactSpreadOf|no -/
theorem lawSpread_no (a : St) (w : World) (h1a : a.set.length ≤ 9223372036854775807) (h2a : a.rel.length ≤ 9223372036854775807) (hv : validB a = false) :
    Calls Tryd.prog 3 [vS a].toArray w fun en w' => en = .returned (.bool true) ∧ Below w.heap.size w w' := by
  refine fnStart (n := 50) (e := [(0, vS a)]) Tryd.func3 rfl rfl rfl rfl Ends.both ?_
  refine Wk.seq ?_
  refine Wk.region ?_
  refine Ll.box (v := vS a) rfl rfl rfl rfl rfl fun p1 hp1 => ?_
  show Ll _ _ (Own _ _ [(p1, .cells #[.int .i64 a.n, str a.set, str a.rel] 23 (0, 0))]) _ _ ((1, .pointer (some ⟨p1, 0, none⟩)) :: _) _ _ _
  refine Ll.op (v := .bool false) rfl rfl rfl (OpQ.assign rfl rfl) ?_
  refine Ll.nil ?_
  refine Kt.onSub (e' := [(1, .pointer (some ⟨p1, 0, none⟩))]) (Sub.cons rfl Sub.nil) ?_
  refine Wk.seq ?_
  refine Wk.regionQ ?_
  refine Lq.op (v := .int .i64 1048576) rfl rfl rfl (OpQ.assign rfl rfl) ?_
  refine Lq.nil ?_
  refine Kt.onSub (e' := [(1, .pointer (some ⟨p1, 0, none⟩)), (3, .int .i64 1048576)]) (Sub.cons rfl (Sub.cons rfl Sub.nil)) ?_
  refine Wk.seq ?_
  refine Wk.regionQ ?_
  refine Lq.op (v := vS a) rfl rfl rfl (OpQ.loadBox (cs := #[.int .i64 a.n, str a.set, str a.rel]) 0 rfl Tryd.isAgg23 rfl rfl Tryd.sizeOf23) ?_
  refine Lq.op (v := .int .i64 1048576) rfl rfl rfl (OpQ.move rfl rfl) ?_
  refine Lq.op (v := .int .i64 (szB a 1048576)) rfl rfl rfl (OpQ.call rfl Tryd.call15 rfl Own.stable (fun w1 hw1 => sz_ok a 1048576 w1 (by omega) (by omega) h1a h2a)) ?_
  refine Lq.op (v := .int .i64 (szB a 1048576)) rfl rfl rfl (OpQ.assign rfl rfl) ?_
  refine Lq.nil ?_
  refine Kt.onSub (e' := [(1, .pointer (some ⟨p1, 0, none⟩)), (3, .int .i64 (szB a 1048576))]) (Sub.cons rfl (Sub.cons rfl Sub.nil)) ?_
  refine Wk.seq ?_
  refine Wk.seq ?_
  refine Wk.regionQ ?_
  refine Lq.op (v := .int .i64 (szB a 1048576)) rfl rfl rfl (OpQ.move rfl rfl) ?_
  refine Lq.op (v := .bool (decide ((szB a 1048576) < (0 : Int)))) rfl rfl rfl (OpQ.lss rfl rfl rfl) ?_
  refine Lq.nil ?_
  refine Kt.onSub (e' := [(1, .pointer (some ⟨p1, 0, none⟩)), (13, .bool (decide ((szB a 1048576) < (0 : Int))))]) (Sub.cons rfl (Sub.cons rfl Sub.nil)) ?_
  refine Wk.cond (b := decide ((szB a 1048576) < (0 : Int))) rfl (fun h13 => ?_) (fun h13 => ?_)
  · skip
    replace h13 := of_decide_eq_true h13
    refine Wk.seq ?_
    refine Wk.regionQ ?_
    refine Lq.op (v := .bool true) rfl rfl rfl (OpQ.assign rfl rfl) ?_
    refine Lq.nil ?_
    refine Kt.onSub (e' := [(2, .bool true)]) (Sub.cons rfl Sub.nil) ?_
    refine Wk.ret (Kt.end1 rfl rfl fun w' hw => ?_)
    -- ret 0: .bool true
    exact ⟨ret_b (by first | rfl | (simp_all; done) | (simp_all; omega)), hw.below⟩
  · skip
    replace h13 := of_decide_eq_false h13
    have hsa := (szB_small (by omega) h13).1
    refine Wk.skip ?_
    refine Kt.onSub (e' := [(1, .pointer (some ⟨p1, 0, none⟩))]) (Sub.cons rfl Sub.nil) ?_
    refine Wk.seq ?_
    refine Wk.region ?_
    refine Ll.op (v := vS a) rfl rfl rfl (OpQ.loadBox (cs := #[.int .i64 a.n, str a.set, str a.rel]) 0 rfl Tryd.isAgg23 rfl rfl Tryd.sizeOf23) ?_
    refine Ll.op (v := vS a) rfl rfl rfl (OpQ.call rfl Tryd.call17 rfl Own.stable (fun w1 hw1 => toSt_ok a w1 )) ?_
    refine Ll.callRow (xs := [.tmp 15]) (m := 0) (vs := ints ([])) (el := 3) (size := 1) rfl rfl rfl rfl Tryd.call16 rfl (fun w1 hw1 => sSpread_no a w1 hsa hv) fun p16 cap16 cur16 hp16 hcp16 hlp16 htp16 => ?_
    refine Ll.op (v := .slice (some ⟨p16, 0, none⟩) 0 cap16) rfl rfl rfl (OpQ.assign rfl rfl) ?_
    refine Ll.nil ?_
    refine Kt.onSub (e' := [(1, .pointer (some ⟨p1, 0, none⟩)), (4, .slice (some ⟨p16, 0, none⟩) 0 cap16)]) (Sub.cons rfl (Sub.cons rfl Sub.nil)) ?_
    refine Wk.seq ?_
    refine Wk.region ?_
    refine Ll.op (v := vS a) rfl rfl rfl (OpQ.loadBox (cs := #[.int .i64 a.n, str a.set, str a.rel]) 1 rfl Tryd.isAgg23 rfl rfl Tryd.sizeOf23) ?_
    refine Ll.op (v := vS a) rfl rfl rfl (OpQ.call rfl Tryd.call17 rfl Own.stable (fun w1 hw1 => toSt_ok a w1 )) ?_
    refine Ll.op (v := .slice none 0 0) rfl rfl rfl (OpQ.call rfl Tryd.call18 rfl Own.stable (fun w1 _ => iSpread_no a w1 hsa hv)) ?_
    refine Ll.op (v := .slice none 0 0) rfl rfl rfl (OpQ.assign rfl rfl) ?_
    refine Ll.nil ?_
    refine Kt.onSub (e' := [(1, .pointer (some ⟨p1, 0, none⟩)), (4, .slice (some ⟨p16, 0, none⟩) 0 cap16), (5, .slice none 0 0)]) (Sub.cons rfl (Sub.cons rfl (Sub.cons rfl Sub.nil))) ?_
    refine Wk.seq ?_
    refine Wk.seq ?_
    refine Wk.regionQ ?_
    refine Lq.op (v := .slice none 0 0) rfl rfl rfl (OpQ.move rfl rfl) ?_
    refine Lq.op (v := .slice (some ⟨p16, 0, none⟩) 0 cap16) rfl rfl rfl (OpQ.move rfl rfl) ?_
    refine Lq.op (v := .bool true) rfl rfl rfl (OpQ.call rfl Tryd.call19 rfl Own.stable (fun w1 hw1 => known_b (beq_self_eq_true _) (eqInt_ok (.slice none 0 0) (.slice (some ⟨p16, 0, none⟩) 0 cap16) ([]) ([]) w1 Ints.nil (Own.row hw1 (i := 0) rfl (by simpa using htp16) (by simp) hlp16) (by first | (simp; done) | (simp; omega) | omega)))) ?_
    refine Lq.op (v := .bool false) rfl rfl rfl (OpQ.notT rfl rfl) ?_
    refine Lq.nil ?_
    refine Kt.onSub (e' := [(1, .pointer (some ⟨p1, 0, none⟩)), (4, .slice (some ⟨p16, 0, none⟩) 0 cap16), (5, .slice none 0 0), (23, .bool false)]) (Sub.cons rfl (Sub.cons rfl (Sub.cons rfl (Sub.cons rfl Sub.nil)))) ?_
    refine Wk.condF rfl ?_
    refine Wk.skip ?_
    refine Kt.onSub (e' := [(1, .pointer (some ⟨p1, 0, none⟩)), (4, .slice (some ⟨p16, 0, none⟩) 0 cap16), (5, .slice none 0 0)]) (Sub.cons rfl (Sub.cons rfl (Sub.cons rfl Sub.nil))) ?_
    refine Wk.seq ?_
    refine Wk.regionQ ?_
    refine Lq.op (v := .int .i64 1) rfl rfl rfl (OpQ.assign rfl rfl) ?_
    refine Lq.nil ?_
    refine Kt.onSub (e' := [(1, .pointer (some ⟨p1, 0, none⟩)), (4, .slice (some ⟨p16, 0, none⟩) 0 cap16), (5, .slice none 0 0), (6, .int .i64 1)]) (Sub.cons rfl (Sub.cons rfl (Sub.cons rfl (Sub.cons rfl Sub.nil)))) ?_
    refine Wk.seq ?_
    refine Wk.region ?_
    refine Ll.op (v := .slice none 0 0) rfl rfl rfl (OpQ.move rfl rfl) ?_
    refine Ll.op (v := .int .i64 1) rfl rfl rfl (OpQ.move rfl rfl) ?_
    refine Ll.op (v := .int .i64 1) rfl rfl rfl (OpQ.call rfl Tryd.call20 rfl Own.stable (fun w1 _ => markInt0_ok 1 w1)) ?_
    refine Ll.op (v := .int .i64 1) rfl rfl rfl (OpQ.assign rfl rfl) ?_
    refine Ll.nil ?_
    refine Kt.onSub (e' := [(1, .pointer (some ⟨p1, 0, none⟩)), (4, .slice (some ⟨p16, 0, none⟩) 0 cap16), (5, .slice none 0 0), (6, .int .i64 1)]) (Sub.cons rfl (Sub.cons rfl (Sub.cons rfl (Sub.cons rfl Sub.nil)))) ?_
    refine Wk.seq ?_
    refine Wk.regionQ ?_
    refine Lq.op (v := .int .i64 1) rfl rfl rfl (OpQ.assign rfl rfl) ?_
    refine Lq.nil ?_
    refine Kt.onSub (e' := [(1, .pointer (some ⟨p1, 0, none⟩)), (4, .slice (some ⟨p16, 0, none⟩) 0 cap16), (5, .slice none 0 0), (6, .int .i64 1), (7, .int .i64 1)]) (Sub.cons rfl (Sub.cons rfl (Sub.cons rfl (Sub.cons rfl (Sub.cons rfl Sub.nil))))) ?_
    refine Wk.seq ?_
    refine Wk.regionQ ?_
    refine Lq.op (v := .slice none 0 0) rfl rfl rfl (OpQ.move rfl rfl) ?_
    refine Lq.op (v := .int .i64 1) rfl rfl rfl (OpQ.move rfl rfl) ?_
    refine Lq.op (v := .int .i64 (heldV ([]) 1)) rfl rfl rfl (OpQ.call rfl Tryd.call21 rfl Own.stable (fun w1 hw1 => heldInt_ok (.slice none 0 0) ([]) 1 w1 Ints.nil (by first | (simp; done) | (simp; omega) | omega) (by omega) (by omega))) ?_
    refine Lq.op (v := .int .i64 (heldV ([]) 1)) rfl rfl rfl (OpQ.assign rfl rfl) ?_
    refine Lq.nil ?_
    refine Kt.onSub (e' := [(1, .pointer (some ⟨p1, 0, none⟩)), (4, .slice (some ⟨p16, 0, none⟩) 0 cap16), (5, .slice none 0 0), (6, .int .i64 1), (7, .int .i64 (heldV ([]) 1))]) (Sub.cons rfl (Sub.cons rfl (Sub.cons rfl (Sub.cons rfl (Sub.cons rfl Sub.nil))))) ?_
    refine Wk.seq ?_
    refine Wk.seq ?_
    refine Wk.regionQ ?_
    refine Lq.op (v := .int .i64 (heldV ([]) 1)) rfl rfl rfl (OpQ.move rfl rfl) ?_
    refine Lq.op (v := .bool (decide ((heldV ([]) 1) < (0 : Int)))) rfl rfl rfl (OpQ.lss rfl rfl rfl) ?_
    refine Lq.nil ?_
    refine Kt.onSub (e' := [(1, .pointer (some ⟨p1, 0, none⟩)), (4, .slice (some ⟨p16, 0, none⟩) 0 cap16), (5, .slice none 0 0), (6, .int .i64 1), (7, .int .i64 (heldV ([]) 1)), (31, .bool (decide ((heldV ([]) 1) < (0 : Int))))]) (Sub.cons rfl (Sub.cons rfl (Sub.cons rfl (Sub.cons rfl (Sub.cons rfl (Sub.cons rfl Sub.nil)))))) ?_
    refine Wk.cond (b := decide ((heldV ([]) 1) < (0 : Int))) rfl (fun h31 => ?_) (fun h31 => ?_)
    · skip
      replace h31 := of_decide_eq_true h31
      exact absurd h31 (by decide)
    · skip
      replace h31 := of_decide_eq_false h31
      refine Wk.skip ?_
      refine Kt.onSub (e' := [(1, .pointer (some ⟨p1, 0, none⟩)), (4, .slice (some ⟨p16, 0, none⟩) 0 cap16), (5, .slice none 0 0), (6, .int .i64 1), (7, .int .i64 (heldV ([]) 1))]) (Sub.cons rfl (Sub.cons rfl (Sub.cons rfl (Sub.cons rfl (Sub.cons rfl Sub.nil))))) ?_
      refine Wk.seq ?_
      refine Wk.seq ?_
      refine Wk.regionQ ?_
      refine Lq.op (v := .int .i64 (heldV ([]) 1)) rfl rfl rfl (OpQ.move rfl rfl) ?_
      refine Lq.op (v := .int .i64 1) rfl rfl rfl (OpQ.move rfl rfl) ?_
      refine Lq.op (v := .bool (!(decide ((heldV ([]) 1) = (1 : Int))))) rfl rfl rfl (OpQ.neq rfl rfl rfl) ?_
      refine Lq.nil ?_
      refine Kt.onSub (e' := [(1, .pointer (some ⟨p1, 0, none⟩)), (4, .slice (some ⟨p16, 0, none⟩) 0 cap16), (5, .slice none 0 0), (6, .int .i64 1), (34, .bool (!(decide ((heldV ([]) 1) = (1 : Int)))))]) (Sub.cons rfl (Sub.cons rfl (Sub.cons rfl (Sub.cons rfl (Sub.cons rfl Sub.nil))))) ?_
      refine Wk.cond (b := !(decide ((heldV ([]) 1) = (1 : Int)))) rfl (fun h34 => ?_) (fun h34 => ?_)
      · skip
        replace h34 := not_true h34
        replace h34 := of_decide_eq_false h34
        exact absurd h34 (by decide)
      · skip
        replace h34 := not_false h34
        replace h34 := of_decide_eq_true h34
        refine Wk.skip ?_
        refine Kt.onSub (e' := [(1, .pointer (some ⟨p1, 0, none⟩)), (4, .slice (some ⟨p16, 0, none⟩) 0 cap16), (5, .slice none 0 0), (6, .int .i64 1)]) (Sub.cons rfl (Sub.cons rfl (Sub.cons rfl (Sub.cons rfl Sub.nil)))) ?_
        refine Wk.seq ?_
        refine Wk.region ?_
        refine Ll.op (v := vS a) rfl rfl rfl (OpQ.loadBox (cs := #[.int .i64 a.n, str a.set, str a.rel]) 1 rfl Tryd.isAgg23 rfl rfl Tryd.sizeOf23) ?_
        refine Ll.op (v := vS a) rfl rfl rfl (OpQ.call rfl Tryd.call17 rfl Own.stable (fun w1 hw1 => toSt_ok a w1 )) ?_
        refine Ll.op (v := .slice none 0 0) rfl rfl rfl (OpQ.call rfl Tryd.call18 rfl Own.stable (fun w1 _ => iSpread_no a w1 hsa hv)) ?_
        refine Ll.op (v := .slice none 0 0) rfl rfl rfl (OpQ.assign rfl rfl) ?_
        refine Ll.nil ?_
        refine Kt.onSub (e' := [(4, .slice (some ⟨p16, 0, none⟩) 0 cap16), (5, .slice none 0 0), (6, .int .i64 1), (8, .slice none 0 0)]) (Sub.cons rfl (Sub.cons rfl (Sub.cons rfl (Sub.cons rfl Sub.nil)))) ?_
        refine Wk.seq ?_
        refine Wk.seq ?_
        refine Wk.regionQ ?_
        refine Lq.op (v := .slice none 0 0) rfl rfl rfl (OpQ.move rfl rfl) ?_
        refine Lq.op (v := .slice (some ⟨p16, 0, none⟩) 0 cap16) rfl rfl rfl (OpQ.move rfl rfl) ?_
        refine Lq.op (v := .bool true) rfl rfl rfl (OpQ.call rfl Tryd.call19 rfl Own.stable (fun w1 hw1 => known_b (beq_self_eq_true _) (eqInt_ok (.slice none 0 0) (.slice (some ⟨p16, 0, none⟩) 0 cap16) ([]) ([]) w1 Ints.nil (Own.row hw1 (i := 0) rfl (by simpa using htp16) (by simp) hlp16) (by first | (simp; done) | (simp; omega) | omega)))) ?_
        refine Lq.op (v := .bool false) rfl rfl rfl (OpQ.notT rfl rfl) ?_
        refine Lq.nil ?_
        refine Kt.onSub (e' := [(5, .slice none 0 0), (6, .int .i64 1), (41, .bool false)]) (Sub.cons rfl (Sub.cons rfl (Sub.cons rfl Sub.nil))) ?_
        refine Wk.condF rfl ?_
        refine Wk.skip ?_
        refine Kt.onSub (e' := [(5, .slice none 0 0), (6, .int .i64 1)]) (Sub.cons rfl (Sub.cons rfl Sub.nil)) ?_
        refine Wk.seq ?_
        refine Wk.regionQ ?_
        refine Lq.op (v := .int .i64 1) rfl rfl rfl (OpQ.assign rfl rfl) ?_
        refine Lq.nil ?_
        refine Kt.onSub (e' := [(5, .slice none 0 0), (6, .int .i64 1), (7, .int .i64 1)]) (Sub.cons rfl (Sub.cons rfl (Sub.cons rfl Sub.nil))) ?_
        refine Wk.seq ?_
        refine Wk.regionQ ?_
        refine Lq.op (v := .slice none 0 0) rfl rfl rfl (OpQ.move rfl rfl) ?_
        refine Lq.op (v := .int .i64 1) rfl rfl rfl (OpQ.move rfl rfl) ?_
        refine Lq.op (v := .int .i64 (heldV ([]) 1)) rfl rfl rfl (OpQ.call rfl Tryd.call21 rfl Own.stable (fun w1 hw1 => heldInt_ok (.slice none 0 0) ([]) 1 w1 Ints.nil (by first | (simp; done) | (simp; omega) | omega) (by omega) (by omega))) ?_
        refine Lq.op (v := .int .i64 (heldV ([]) 1)) rfl rfl rfl (OpQ.assign rfl rfl) ?_
        refine Lq.nil ?_
        refine Kt.onSub (e' := [(6, .int .i64 1), (7, .int .i64 (heldV ([]) 1))]) (Sub.cons rfl (Sub.cons rfl Sub.nil)) ?_
        refine Wk.seq ?_
        refine Wk.seq ?_
        refine Wk.regionQ ?_
        refine Lq.op (v := .int .i64 (heldV ([]) 1)) rfl rfl rfl (OpQ.move rfl rfl) ?_
        refine Lq.op (v := .bool (decide ((heldV ([]) 1) < (0 : Int)))) rfl rfl rfl (OpQ.lss rfl rfl rfl) ?_
        refine Lq.nil ?_
        refine Kt.onSub (e' := [(6, .int .i64 1), (7, .int .i64 (heldV ([]) 1)), (46, .bool (decide ((heldV ([]) 1) < (0 : Int))))]) (Sub.cons rfl (Sub.cons rfl (Sub.cons rfl Sub.nil))) ?_
        refine Wk.cond (b := decide ((heldV ([]) 1) < (0 : Int))) rfl (fun h46 => ?_) (fun h46 => ?_)
        · skip
          replace h46 := of_decide_eq_true h46
          exact absurd h46 (by decide)
        · skip
          replace h46 := of_decide_eq_false h46
          refine Wk.skip ?_
          refine Kt.onSub (e' := [(6, .int .i64 1), (7, .int .i64 (heldV ([]) 1))]) (Sub.cons rfl (Sub.cons rfl Sub.nil)) ?_
          refine Wk.seq ?_
          refine Wk.seq ?_
          refine Wk.regionQ ?_
          refine Lq.op (v := .int .i64 (heldV ([]) 1)) rfl rfl rfl (OpQ.move rfl rfl) ?_
          refine Lq.op (v := .int .i64 1) rfl rfl rfl (OpQ.move rfl rfl) ?_
          refine Lq.op (v := .bool (!(decide ((heldV ([]) 1) = (1 : Int))))) rfl rfl rfl (OpQ.neq rfl rfl rfl) ?_
          refine Lq.nil ?_
          refine Kt.onSub (e' := [(49, .bool (!(decide ((heldV ([]) 1) = (1 : Int)))))]) (Sub.cons rfl Sub.nil) ?_
          refine Wk.cond (b := !(decide ((heldV ([]) 1) = (1 : Int)))) rfl (fun h49 => ?_) (fun h49 => ?_)
          · skip
            replace h49 := not_true h49
            replace h49 := of_decide_eq_false h49
            exact absurd h49 (by decide)
          · skip
            replace h49 := not_false h49
            replace h49 := of_decide_eq_true h49
            refine Wk.skip ?_
            refine Kt.onSub (e' := []) Sub.nil ?_
            refine Wk.seq ?_
            refine Wk.regionQ ?_
            refine Lq.op (v := .bool true) rfl rfl rfl (OpQ.assign rfl rfl) ?_
            refine Lq.nil ?_
            refine Kt.onSub (e' := [(2, .bool true)]) (Sub.cons rfl Sub.nil) ?_
            refine Wk.ret (Kt.end1 rfl rfl fun w' hw => ?_)
            -- ret 1: .bool true
            exact ⟨ret_b (by first | rfl | (simp_all; done) | (simp_all; omega)), hw.below⟩

end Go.Proofs.YtcimgnhebhhdiaaDoor
