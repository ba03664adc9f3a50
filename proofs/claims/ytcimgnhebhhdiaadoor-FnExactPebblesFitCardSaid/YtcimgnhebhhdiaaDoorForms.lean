/-
  THE WALKS of FactsFormula: the facts of a list of elements, signed and joined; each function gives what its plain twin gives, and turns nothing below. Conditions: those of each theorem.
-/
import Derived.Test.YtcimgnhebhhdiaaDoorPlain9
import Derived.Test.YtcimgnhebhhdiaaDoorAtoms
import Derived.Test.YtcimgnhebhhdiaaDoorBase
namespace Go.Proofs.YtcimgnhebhhdiaaDoor
open Go.RowKit Go.Wk
set_option linter.unusedSimpArgs false

set_option maxHeartbeats 400000 in
/-- spec.l15Find -/
theorem l15Find_ok (s : List UInt8) (c : Int) (w : World) (hs : s.length ≤ 1048576) :
    Calls Tryd.prog 110 [str s, .int .u8 c].toArray w fun en w' => en = .returned (.int .i64 (findS s c)) ∧ Below w.heap.size w w' := by
  refine fnStart (n := 18) (e := [(0, str s), (1, .int .u8 c)]) Tryd.func110 rfl rfl rfl rfl Ends.both ?_
  refine Wk.seq ?_
  refine Wk.regionQ ?_
  refine Lq.op (v := .int .i64 0) rfl rfl rfl (OpQ.assign rfl rfl) ?_
  refine Lq.nil ?_
  refine Kt.onSub (e' := [(0, str s), (1, .int .u8 c)]) (Sub.cons rfl (Sub.cons rfl Sub.nil)) ?_
  refine Wk.seq ?_
  refine Wk.seq ?_
  refine Wk.regionQ ?_
  refine Lq.op (v := .int .i64 0) rfl rfl rfl (OpQ.assign rfl rfl) ?_
  refine Lq.nil ?_
  refine Kt.onSub (e' := [(0, str s), (1, .int .u8 c), (5, .int .i64 0)]) (Sub.cons rfl (Sub.cons rfl (Sub.cons rfl Sub.nil))) ?_
  refine Wk.block ?_
  refine Wk.loop (σ := Nat) (fun k => k ≤ s.length ∧ ∀ i : Nat, i < k → ¬ ((s.getD i 0).toNat : Int) = c) (fun k => [(0, str s), (1, .int .u8 c), (5, .int .i64 ((k : Int)))]) (fun k => Own w.heap.size w []) (fun k => s.length - k) (0) ⟨by omega, fun i hi => absurd hi (by omega)⟩ (Sub.cons rfl (Sub.cons rfl (Sub.cons rfl Sub.nil))) (fun _ h => h) ?_
  rintro k ⟨hk, hall⟩
  refine Wk.seq ?_
  refine Wk.seq ?_
  refine Wk.regionQ ?_
  refine Lq.op (v := .int .i64 ((k : Int))) rfl rfl rfl (OpQ.move rfl rfl) ?_
  refine Lq.op (v := str s) rfl rfl rfl (OpQ.move rfl rfl) ?_
  refine Lq.op (v := .int .i64 ((s.length : Int))) rfl rfl rfl (OpQ.lenStr rfl Tryd.runUnderlying9 rfl) ?_
  refine Lq.op (v := .bool (decide (((k : Int)) < ((s.length : Int))))) rfl rfl rfl (OpQ.lss rfl rfl rfl) ?_
  refine Lq.nil ?_
  refine Kt.onSub (e' := [(0, str s), (1, .int .u8 c), (5, .int .i64 ((k : Int))), (9, .bool (decide (((k : Int)) < ((s.length : Int)))))]) (Sub.cons rfl (Sub.cons rfl (Sub.cons rfl (Sub.cons rfl Sub.nil)))) ?_
  refine Wk.cond (b := decide (((k : Int)) < ((s.length : Int)))) rfl (fun h9 => ?_) (fun h9 => ?_)
  · skip
    replace h9 := of_decide_eq_true h9
    refine Wk.skip ?_
    refine Kt.onSub (e' := [(0, str s), (1, .int .u8 c), (5, .int .i64 ((k : Int)))]) (Sub.cons rfl (Sub.cons rfl (Sub.cons rfl Sub.nil))) ?_
    refine Wk.seq ?_
    refine Wk.block ?_
    refine Wk.seq ?_
    refine Wk.regionQ ?_
    refine Lq.op (v := str s) rfl rfl rfl (OpQ.move rfl rfl) ?_
    refine Lq.op (v := .int .i64 ((k : Int))) rfl rfl rfl (OpQ.move rfl rfl) ?_
    refine Lq.op (v := .int .u8 (((s.getD (((k : Int)).toNat) 0).toNat : Int))) rfl rfl rfl (OpQ.indexStr rfl Tryd.runUnderlying9 rfl rfl (by omega) (by omega)) ?_
    refine Lq.op (v := .int .u8 c) rfl rfl rfl (OpQ.move rfl rfl) ?_
    refine Lq.op (v := .bool (decide ((((s.getD (((k : Int)).toNat) 0).toNat : Int)) = c))) rfl rfl rfl (OpQ.eql rfl rfl rfl) ?_
    refine Lq.nil ?_
    refine Kt.onSub (e' := [(0, str s), (1, .int .u8 c), (5, .int .i64 ((k : Int))), (16, .bool (decide ((((s.getD (((k : Int)).toNat) 0).toNat : Int)) = c)))]) (Sub.cons rfl (Sub.cons rfl (Sub.cons rfl (Sub.cons rfl Sub.nil)))) ?_
    refine Wk.cond (b := decide ((((s.getD (((k : Int)).toNat) 0).toNat : Int)) = c)) rfl (fun h16 => ?_) (fun h16 => ?_)
    · skip
      replace h16 := of_decide_eq_true h16
      refine Wk.seq ?_
      refine Wk.regionQ ?_
      refine Lq.op (v := .int .i64 ((k : Int))) rfl rfl rfl (OpQ.move rfl rfl) ?_
      refine Lq.op (v := .int .i64 ((k : Int))) rfl rfl rfl (OpQ.assign rfl rfl) ?_
      refine Lq.nil ?_
      refine Kt.onSub (e' := [(4, .int .i64 ((k : Int)))]) (Sub.cons rfl Sub.nil) ?_
      refine Wk.ret (Kt.end1 rfl rfl fun w' hw => ?_)
      -- ret 0: .int .i64 ((k : Int))
      exact ⟨ret_i (findS_at (by omega) hall h16).symm, hw.below⟩
    · skip
      replace h16 := of_decide_eq_false h16
      refine Wk.skip ?_
      refine Kt.onSub (e' := [(0, str s), (1, .int .u8 c), (5, .int .i64 ((k : Int)))]) (Sub.cons rfl (Sub.cons rfl (Sub.cons rfl Sub.nil))) ?_
      refine Wk.regionQ ?_
      refine Lq.op (v := .int .i64 ((k : Int))) rfl rfl rfl (OpQ.move rfl rfl) ?_
      refine Lq.op (v := .int .i64 (((k : Int)) + (1 : Int))) rfl rfl rfl (OpQ.add rfl rfl rfl (by omega) (by omega)) ?_
      refine Lq.op (v := .int .i64 (((k : Int)) + (1 : Int))) rfl rfl rfl (OpQ.assign rfl rfl) ?_
      refine Lq.nil ?_
      refine Kt.again (k + 1) ⟨by omega, fun i hi => (Nat.lt_succ_iff_lt_or_eq.1 hi).elim (hall i) (fun e => by subst e; exact h16)⟩ (by omega) (Sub.cons rfl (Sub.cons rfl (Sub.cons rfl Sub.nil))) (fun _ h => h)
  · skip
    replace h9 := of_decide_eq_false h9
    refine Wk.exit rfl ?_
    refine Kt.onSub (e' := []) Sub.nil ?_
    refine Wk.seq ?_
    refine Wk.regionQ ?_
    refine Lq.op (v := .int .i64 (-1)) rfl rfl rfl (OpQ.assign rfl rfl) ?_
    refine Lq.nil ?_
    refine Kt.onSub (e' := [(4, .int .i64 (-1))]) (Sub.cons rfl Sub.nil) ?_
    refine Wk.ret (Kt.end1 rfl rfl fun w' hw => ?_)
    -- ret 1: .int .i64 (-1)
    exact ⟨ret_i (findS_none (fun i hi => hall i (by omega))).symm, hw.below⟩

set_option maxHeartbeats 400000 in
/-- spec.l2Join -/
theorem l2Join_ok (l : List (List UInt8)) (vl : Value) (w : World) (hvl : Strs w vl l) (hl : ∀ s ∈ l, s.length ≤ 8) (hn : l.length ≤ 1000) :
    Calls Tryd.prog 100 [str (([38] : List UInt8)), vl].toArray w fun en w' => en = .returned (str (joinB [38] l)) ∧ Below w.heap.size w w' := by
  refine fnStart (n := 39) (e := [(0, str (([38] : List UInt8))), (1, vl)]) Tryd.func100 rfl rfl rfl rfl Ends.both ?_
  refine Wk.seq ?_
  refine Wk.regionQ ?_
  refine Lq.op (v := str ([])) rfl rfl rfl (OpQ.assign rfl rfl) ?_
  refine Lq.nil ?_
  refine Kt.onSub (e' := [(0, str (([38] : List UInt8))), (1, vl)]) (Sub.cons rfl (Sub.cons rfl Sub.nil)) ?_
  refine Wk.seq ?_
  refine Wk.seq ?_
  refine Wk.regionQ ?_
  refine Lq.op (v := vl) rfl rfl rfl (OpQ.move rfl rfl) ?_
  refine Lq.op (v := .int .i64 ((l.length : Int))) rfl rfl rfl (OpQ.lenRow rfl Tryd.runUnderlying56 rfl (strs_length _) (fun w1 hw1 => Row.own hvl hw1)) ?_
  refine Lq.op (v := .bool (decide (((l.length : Int)) = (0 : Int)))) rfl rfl rfl (OpQ.eql rfl rfl rfl) ?_
  refine Lq.nil ?_
  refine Kt.onSub (e' := [(0, str (([38] : List UInt8))), (1, vl), (9, .bool (decide (((l.length : Int)) = (0 : Int))))]) (Sub.cons rfl (Sub.cons rfl (Sub.cons rfl Sub.nil))) ?_
  refine Wk.cond (b := decide (((l.length : Int)) = (0 : Int))) rfl (fun h9 => ?_) (fun h9 => ?_)
  · skip
    replace h9 := of_decide_eq_true h9
    refine Wk.seq ?_
    refine Wk.regionD Base.mixed (fun _ h => h.drawn) (by kernel_rfl) ?_
    refine Lq.op (v := str (([38] : List UInt8))) rfl rfl rfl (OpQ.move rfl rfl) ?_
    refine Lq.op (v := .int .u8 ((((([38] : List UInt8)).getD ((0 : Int).toNat) 0).toNat : Int))) rfl rfl rfl (OpQ.indexStr rfl Tryd.runUnderlying9 rfl rfl (by omega) (by decide)) ?_
    refine Lq.op (v := .int .i64 (findS ([38, 124]) ((((([38] : List UInt8)).getD ((0 : Int).toNat) 0).toNat : Int)))) rfl rfl rfl (OpQ.call rfl Tryd.call110 rfl Own.stable (fun w1 hw1 => l15Find_ok ([38, 124]) ((((([38] : List UInt8)).getD ((0 : Int).toNat) 0).toNat : Int)) w1 (by decide))) ?_
    refine Lq.op (v := str (([38] : List UInt8))) rfl rfl rfl (OpQ.move rfl rfl) ?_
    refine Lq.op (v := .int .u8 ((((([38] : List UInt8)).getD ((0 : Int).toNat) 0).toNat : Int))) rfl rfl rfl (OpQ.indexStr rfl Tryd.runUnderlying9 rfl rfl (by omega) (by decide)) ?_
    refine Lq.op (v := .int .i64 (findS ([38, 124]) ((((([38] : List UInt8)).getD ((0 : Int).toNat) 0).toNat : Int)))) rfl rfl rfl (OpQ.call rfl Tryd.call110 rfl Own.stable (fun w1 hw1 => l15Find_ok ([38, 124]) ((((([38] : List UInt8)).getD ((0 : Int).toNat) 0).toNat : Int)) w1 (by decide))) ?_
    refine Lq.op (v := .int .i64 ((findS ([38, 124]) ((((([38] : List UInt8)).getD ((0 : Int).toNat) 0).toNat : Int))) + (1 : Int))) rfl rfl rfl (OpQ.add rfl rfl rfl (by decide) (by decide)) ?_
    refine Lq.op (v := str ((([116, 102]).drop ((findS ([38, 124]) ((((([38] : List UInt8)).getD ((0 : Int).toNat) 0).toNat : Int))).toNat)).take (((findS ([38, 124]) ((((([38] : List UInt8)).getD ((0 : Int).toNat) 0).toNat : Int))) + (1 : Int)).toNat - (findS ([38, 124]) ((((([38] : List UInt8)).getD ((0 : Int).toNat) 0).toNat : Int))).toNat))) rfl rfl rfl (OpQ.sliceStr rfl Tryd.underlying9 rfl rfl rfl (by decide) (by decide) (by decide)) ?_
    refine Lq.op (v := str ((([116, 102]).drop ((findS ([38, 124]) ((((([38] : List UInt8)).getD ((0 : Int).toNat) 0).toNat : Int))).toNat)).take (((findS ([38, 124]) ((((([38] : List UInt8)).getD ((0 : Int).toNat) 0).toNat : Int))) + (1 : Int)).toNat - (findS ([38, 124]) ((((([38] : List UInt8)).getD ((0 : Int).toNat) 0).toNat : Int))).toNat))) rfl rfl rfl (OpQ.assign rfl rfl) ?_
    refine Lq.nil ?_
    refine Kt.onSub (e' := [(4, str ((([116, 102]).drop ((findS ([38, 124]) ((((([38] : List UInt8)).getD ((0 : Int).toNat) 0).toNat : Int))).toNat)).take (((findS ([38, 124]) ((((([38] : List UInt8)).getD ((0 : Int).toNat) 0).toNat : Int))) + (1 : Int)).toNat - (findS ([38, 124]) ((((([38] : List UInt8)).getD ((0 : Int).toNat) 0).toNat : Int))).toNat)))]) (Sub.cons rfl Sub.nil) ?_
    refine Wk.ret (Kt.end1 rfl rfl fun w' hw => ?_)
    -- ret 0: str ((([116, 102]).drop ((findS ([38, 124]) ((((([38] : List UInt8)).getD ((0 : Int).toNat) 0).toNat : Int))).toNat)).take (((findS ([38, 124]) ((((([38] : List UInt8)).getD ((0 : Int).toNat) 0).toNat : Int))) + (1 : Int)).toNat - (findS ([38, 124]) ((((([38] : List UInt8)).getD ((0 : Int).toNat) 0).toNat : Int))).toNat))
    exact ⟨ret_s (by unfold joinB; rw [if_pos (by omega)]; decide), hw.below⟩
  · skip
    replace h9 := of_decide_eq_false h9
    have h0 : l.length ≠ 0 := by omega
    refine Wk.skip ?_
    refine Kt.onSub (e' := [(0, str (([38] : List UInt8))), (1, vl)]) (Sub.cons rfl (Sub.cons rfl Sub.nil)) ?_
    refine Wk.seq ?_
    refine Wk.regionQ ?_
    refine Lq.op (v := str ([])) rfl rfl rfl (OpQ.assign rfl rfl) ?_
    refine Lq.nil ?_
    refine Kt.onSub (e' := [(0, str (([38] : List UInt8))), (1, vl), (5, str ([]))]) (Sub.cons rfl (Sub.cons rfl (Sub.cons rfl Sub.nil))) ?_
    refine Wk.seq ?_
    refine Wk.seq ?_
    refine Wk.regionQ ?_
    refine Lq.op (v := .int .i64 0) rfl rfl rfl (OpQ.assign rfl rfl) ?_
    refine Lq.nil ?_
    refine Kt.onSub (e' := [(0, str (([38] : List UInt8))), (1, vl), (5, str ([])), (6, .int .i64 0)]) (Sub.cons rfl (Sub.cons rfl (Sub.cons rfl (Sub.cons rfl Sub.nil)))) ?_
    refine Wk.block ?_
    refine Wk.loop (σ := Nat) (fun k => k ≤ l.length) (fun k => [(0, str (([38] : List UInt8))), (1, vl), (5, str (specJ [38] l k)), (6, .int .i64 ((k : Int)))]) (fun k => Own w.heap.size w []) (fun k => l.length - k) (0) (by omega) (Sub.cons rfl (Sub.cons rfl (Sub.cons (by rw [specJ_zero (by omega)]; rfl) (Sub.cons rfl Sub.nil)))) (fun _ h => h) ?_
    rintro k hk
    refine Wk.seq ?_
    refine Wk.seq ?_
    refine Wk.regionQ ?_
    refine Lq.op (v := .int .i64 ((k : Int))) rfl rfl rfl (OpQ.move rfl rfl) ?_
    refine Lq.op (v := vl) rfl rfl rfl (OpQ.move rfl rfl) ?_
    refine Lq.op (v := .int .i64 ((l.length : Int))) rfl rfl rfl (OpQ.lenRow rfl Tryd.runUnderlying56 rfl (strs_length _) (fun w1 hw1 => Row.own hvl hw1)) ?_
    refine Lq.op (v := .bool (decide (((k : Int)) < ((l.length : Int))))) rfl rfl rfl (OpQ.lss rfl rfl rfl) ?_
    refine Lq.nil ?_
    refine Kt.onSub (e' := [(0, str (([38] : List UInt8))), (1, vl), (5, str (specJ [38] l k)), (6, .int .i64 ((k : Int))), (21, .bool (decide (((k : Int)) < ((l.length : Int)))))]) (Sub.cons rfl (Sub.cons rfl (Sub.cons rfl (Sub.cons rfl (Sub.cons rfl Sub.nil))))) ?_
    refine Wk.cond (b := decide (((k : Int)) < ((l.length : Int)))) rfl (fun h21 => ?_) (fun h21 => ?_)
    · skip
      replace h21 := of_decide_eq_true h21
      have hg8 := get_len hl k
      have hp := specJ_len (op := [38]) (by decide) hl k
      refine Wk.skip ?_
      refine Kt.onSub (e' := [(0, str (([38] : List UInt8))), (1, vl), (5, str (specJ [38] l k)), (6, .int .i64 ((k : Int)))]) (Sub.cons rfl (Sub.cons rfl (Sub.cons rfl (Sub.cons rfl Sub.nil)))) ?_
      refine Wk.seq ?_
      refine Wk.block ?_
      refine Wk.seq ?_
      refine Wk.seq ?_
      refine Wk.regionQ ?_
      refine Lq.op (v := .int .i64 ((k : Int))) rfl rfl rfl (OpQ.move rfl rfl) ?_
      refine Lq.op (v := .int .i64 (((k : Int)) + (1 : Int))) rfl rfl rfl (OpQ.add rfl rfl rfl (by omega) (by omega)) ?_
      refine Lq.op (v := vl) rfl rfl rfl (OpQ.move rfl rfl) ?_
      refine Lq.op (v := .int .i64 ((l.length : Int))) rfl rfl rfl (OpQ.lenRow rfl Tryd.runUnderlying56 rfl (strs_length _) (fun w1 hw1 => Row.own hvl hw1)) ?_
      refine Lq.op (v := .bool (decide ((((k : Int)) + (1 : Int)) < ((l.length : Int))))) rfl rfl rfl (OpQ.lss rfl rfl rfl) ?_
      refine Lq.nil ?_
      refine Kt.onSub (e' := [(0, str (([38] : List UInt8))), (1, vl), (5, str (specJ [38] l k)), (6, .int .i64 ((k : Int))), (28, .bool (decide ((((k : Int)) + (1 : Int)) < ((l.length : Int)))))]) (Sub.cons rfl (Sub.cons rfl (Sub.cons rfl (Sub.cons rfl (Sub.cons rfl Sub.nil))))) ?_
      refine Wk.cond (b := decide ((((k : Int)) + (1 : Int)) < ((l.length : Int)))) rfl (fun h28 => ?_) (fun h28 => ?_)
      · skip
        replace h28 := of_decide_eq_true h28
        refine Wk.regionQ ?_
        refine Lq.op (v := str (specJ [38] l k)) rfl rfl rfl (OpQ.move rfl rfl) ?_
        refine Lq.op (v := str (([38] : List UInt8))) rfl rfl rfl (OpQ.move rfl rfl) ?_
        refine Lq.op (v := str ((specJ [38] l k) ++ (([38] : List UInt8)))) rfl rfl rfl (OpQ.sadd rfl rfl rfl (by simp only [List.length_append, List.length_cons, List.length_nil]; omega)) ?_
        refine Lq.op (v := str ((specJ [38] l k) ++ (([38] : List UInt8)))) rfl rfl rfl (OpQ.assign rfl rfl) ?_
        refine Lq.nil ?_
        refine Kt.onSub (e' := [(0, str (([38] : List UInt8))), (1, vl), (5, str ((specJ [38] l k) ++ (([38] : List UInt8)))), (6, .int .i64 ((k : Int)))]) (Sub.cons rfl (Sub.cons rfl (Sub.cons rfl (Sub.cons rfl Sub.nil)))) ?_
        refine Wk.regionQ ?_
        refine Lq.op (v := str ((specJ [38] l k) ++ (([38] : List UInt8)))) rfl rfl rfl (OpQ.move rfl rfl) ?_
        refine Lq.op (v := vl) rfl rfl rfl (OpQ.move rfl rfl) ?_
        refine Lq.op (v := .int .i64 ((k : Int))) rfl rfl rfl (OpQ.move rfl rfl) ?_
        refine Lq.op (v := .pointer (some (sAt vl ((k : Int))))) rfl rfl rfl (OpQ.atRow rfl Tryd.runUnderlying56 Tryd.sizeOf9 rfl rfl (by omega) (by rw [strs_length]; omega) (fun w1 hw1 => Row.own hvl hw1)) ?_
        refine Lq.op (v := str (l.getD (((k : Int)).toNat) [])) rfl rfl rfl (OpQ.load1 rfl Tryd.isAgg9 rfl (fun w1 hw1 => Strs.cell (Row.own hvl hw1) (by omega) (by omega))) ?_
        refine Lq.op (v := str (((specJ [38] l k) ++ (([38] : List UInt8))) ++ (l.getD (((k : Int)).toNat) []))) rfl rfl rfl (OpQ.sadd rfl rfl rfl (by simp only [List.length_append, List.length_cons, List.length_nil, Int.toNat_natCast] at *; omega)) ?_
        refine Lq.op (v := str (((specJ [38] l k) ++ (([38] : List UInt8))) ++ (l.getD (((k : Int)).toNat) []))) rfl rfl rfl (OpQ.assign rfl rfl) ?_
        refine Lq.nil ?_
        refine Kt.onSub (e' := [(0, str (([38] : List UInt8))), (1, vl), (5, str (((specJ [38] l k) ++ (([38] : List UInt8))) ++ (l.getD (((k : Int)).toNat) []))), (6, .int .i64 ((k : Int)))]) (Sub.cons rfl (Sub.cons rfl (Sub.cons rfl (Sub.cons rfl Sub.nil)))) ?_
        refine Wk.regionQ ?_
        refine Lq.op (v := .int .i64 ((k : Int))) rfl rfl rfl (OpQ.move rfl rfl) ?_
        refine Lq.op (v := .int .i64 (((k : Int)) + (1 : Int))) rfl rfl rfl (OpQ.add rfl rfl rfl (by omega) (by omega)) ?_
        refine Lq.op (v := .int .i64 (((k : Int)) + (1 : Int))) rfl rfl rfl (OpQ.assign rfl rfl) ?_
        refine Lq.nil ?_
        refine Kt.again (k + 1) (by omega) (by omega) (Sub.cons rfl (Sub.cons rfl (Sub.cons (by first | (rw [specJ_more (by omega)]; rfl) | (rw [specJ_last (by omega) (by omega)]; rfl)) (Sub.cons rfl Sub.nil)))) (fun _ h => h)
      · skip
        replace h28 := of_decide_eq_false h28
        refine Wk.skip ?_
        refine Kt.onSub (e' := [(0, str (([38] : List UInt8))), (1, vl), (5, str (specJ [38] l k)), (6, .int .i64 ((k : Int)))]) (Sub.cons rfl (Sub.cons rfl (Sub.cons rfl (Sub.cons rfl Sub.nil)))) ?_
        refine Wk.regionQ ?_
        refine Lq.op (v := str (specJ [38] l k)) rfl rfl rfl (OpQ.move rfl rfl) ?_
        refine Lq.op (v := vl) rfl rfl rfl (OpQ.move rfl rfl) ?_
        refine Lq.op (v := .int .i64 ((k : Int))) rfl rfl rfl (OpQ.move rfl rfl) ?_
        refine Lq.op (v := .pointer (some (sAt vl ((k : Int))))) rfl rfl rfl (OpQ.atRow rfl Tryd.runUnderlying56 Tryd.sizeOf9 rfl rfl (by omega) (by rw [strs_length]; omega) (fun w1 hw1 => Row.own hvl hw1)) ?_
        refine Lq.op (v := str (l.getD (((k : Int)).toNat) [])) rfl rfl rfl (OpQ.load1 rfl Tryd.isAgg9 rfl (fun w1 hw1 => Strs.cell (Row.own hvl hw1) (by omega) (by omega))) ?_
        refine Lq.op (v := str ((specJ [38] l k) ++ (l.getD (((k : Int)).toNat) []))) rfl rfl rfl (OpQ.sadd rfl rfl rfl (by simp only [List.length_append, List.length_cons, List.length_nil, Int.toNat_natCast] at *; omega)) ?_
        refine Lq.op (v := str ((specJ [38] l k) ++ (l.getD (((k : Int)).toNat) []))) rfl rfl rfl (OpQ.assign rfl rfl) ?_
        refine Lq.nil ?_
        refine Kt.onSub (e' := [(0, str (([38] : List UInt8))), (1, vl), (5, str ((specJ [38] l k) ++ (l.getD (((k : Int)).toNat) []))), (6, .int .i64 ((k : Int)))]) (Sub.cons rfl (Sub.cons rfl (Sub.cons rfl (Sub.cons rfl Sub.nil)))) ?_
        refine Wk.regionQ ?_
        refine Lq.op (v := .int .i64 ((k : Int))) rfl rfl rfl (OpQ.move rfl rfl) ?_
        refine Lq.op (v := .int .i64 (((k : Int)) + (1 : Int))) rfl rfl rfl (OpQ.add rfl rfl rfl (by omega) (by omega)) ?_
        refine Lq.op (v := .int .i64 (((k : Int)) + (1 : Int))) rfl rfl rfl (OpQ.assign rfl rfl) ?_
        refine Lq.nil ?_
        refine Kt.again (k + 1) (by omega) (by omega) (Sub.cons rfl (Sub.cons rfl (Sub.cons (by first | (rw [specJ_more (by omega)]; rfl) | (rw [specJ_last (by omega) (by omega)]; rfl)) (Sub.cons rfl Sub.nil)))) (fun _ h => h)
    · skip
      replace h21 := of_decide_eq_false h21
      refine Wk.exit rfl ?_
      refine Kt.onSub (e' := [(5, str (specJ [38] l k))]) (Sub.cons rfl Sub.nil) ?_
      refine Wk.seq ?_
      refine Wk.regionQ ?_
      refine Lq.op (v := str (specJ [38] l k)) rfl rfl rfl (OpQ.move rfl rfl) ?_
      refine Lq.op (v := str (specJ [38] l k)) rfl rfl rfl (OpQ.assign rfl rfl) ?_
      refine Lq.nil ?_
      refine Kt.onSub (e' := [(4, str (specJ [38] l k))]) (Sub.cons rfl Sub.nil) ?_
      refine Wk.ret (Kt.end1 rfl rfl fun w' hw => ?_)
      -- ret 1: str (specJ [38] l k)
      exact ⟨ret_s (specJ_end (by omega) h0), hw.below⟩

set_option maxHeartbeats 400000 in
/-- spec.l3Describe -/
theorem l3Describe_ok (a : St) (va : Value) (xs : List Int) (w : World) (ha : a.Fine) (hva : Ints w va xs) (hA : a.Els xs) (hl4 : xs.length ≤ 4) :
    Calls Tryd.prog 76 [vS a, va].toArray w fun en w' => en = .returned (str (formB a xs)) ∧ Below w.heap.size w w' := by
  refine fnStart (n := 23) (e := [(0, vS a), (1, va)]) Tryd.func76 rfl rfl rfl rfl Ends.both ?_
  refine Wk.seq ?_
  refine Wk.region ?_
  refine Ll.box (v := vS a) rfl rfl rfl rfl rfl fun p2 hp2 => ?_
  show Ll _ _ (Own _ _ [(p2, .cells #[.int .i64 a.n, str a.set, str a.rel] 27 (0, 0))]) _ _ ((2, .pointer (some ⟨p2, 0, none⟩)) :: _) _ _ _
  refine Ll.op (v := str ([])) rfl rfl rfl (OpQ.assign rfl rfl) ?_
  refine Ll.nil ?_
  refine Kt.onSub (e' := [(1, va), (2, .pointer (some ⟨p2, 0, none⟩))]) (Sub.cons rfl (Sub.cons rfl Sub.nil)) ?_
  refine Wk.seq ?_
  refine Wk.region ?_
  refine Ll.slice (xs := []) (vs := []) Base.elem56 rfl rfl rfl rfl rfl rfl (by decide) rfl fun p7 hp7 => ?_
  refine Ll.op (v := .slice (some ⟨p7, 0, none⟩) 0 0) rfl rfl rfl (OpQ.assign rfl rfl) ?_
  refine Ll.nil ?_
  refine Kt.onSub (e' := [(1, va), (2, .pointer (some ⟨p2, 0, none⟩)), (5, .slice (some ⟨p7, 0, none⟩) 0 0)]) (Sub.cons rfl (Sub.cons rfl (Sub.cons rfl Sub.nil))) ?_
  refine Wk.seq ?_
  refine Wk.seq ?_
  refine Wk.regionQ ?_
  refine Lq.op (v := .int .i64 1) rfl rfl rfl (OpQ.assign rfl rfl) ?_
  refine Lq.nil ?_
  refine Kt.onSub (e' := [(1, va), (2, .pointer (some ⟨p2, 0, none⟩)), (5, .slice (some ⟨p7, 0, none⟩) 0 0), (6, .int .i64 1)]) (Sub.cons rfl (Sub.cons rfl (Sub.cons rfl (Sub.cons rfl Sub.nil)))) ?_
  refine Wk.block ?_
  refine Wk.loop (σ := Nat × Nat × Nat × Array Value) (fun ⟨k, g, c, cur⟩ => (k ≤ xs.length) ∧ w.heap.size ≤ g ∧ cur.size = c * 1 ∧ ((factsL a xs k).map signed).length ≤ c ∧ cur.toList.take (((factsL a xs k).map signed).length * 1) = strs ((factsL a xs k).map signed)) (fun ⟨k, g, c, cur⟩ => [(1, va), (2, .pointer (some ⟨p2, 0, none⟩)), (5, .slice (some ⟨g, 0, none⟩) (((factsL a xs k).map signed).length) c), (6, .int .i64 ((k : Int) + 1))]) (fun ⟨k, g, c, cur⟩ => Own w.heap.size w [(g, .cells cur 9 (0, 0)), (p2, .cells #[.int .i64 a.n, str a.set, str a.rel] 27 (0, 0))]) (fun ⟨k, g, c, cur⟩ => xs.length - k) ((0, p7, 0, #[])) ⟨by omega, hp7, rfl, Nat.le_refl 0, rfl⟩ (Sub.cons rfl (Sub.cons rfl (Sub.cons rfl (Sub.cons (by simp [List.lookup]) Sub.nil)))) (fun _ h => h) ?_
  rintro ⟨k, g, c, cur⟩ ⟨hk, hg, hc, hl, ht⟩
  dsimp only
  refine Wk.seq ?_
  refine Wk.seq ?_
  refine Wk.regionQ ?_
  refine Lq.op (v := .int .i64 ((k : Int) + 1)) rfl rfl rfl (OpQ.move rfl rfl) ?_
  refine Lq.op (v := va) rfl rfl rfl (OpQ.move rfl rfl) ?_
  refine Lq.op (v := .int .i64 ((xs.length : Int))) rfl rfl rfl (OpQ.lenRow rfl Tryd.runUnderlying25 rfl (ints_length _) (fun w1 hw1 => Row.own hva hw1)) ?_
  refine Lq.op (v := .bool (decide (((k : Int) + 1) ≤ ((xs.length : Int))))) rfl rfl rfl (OpQ.leq rfl rfl rfl) ?_
  refine Lq.nil ?_
  refine Kt.onSub (e' := [(1, va), (2, .pointer (some ⟨p2, 0, none⟩)), (5, .slice (some ⟨g, 0, none⟩) (((factsL a xs k).map signed).length) c), (6, .int .i64 ((k : Int) + 1)), (11, .bool (decide (((k : Int) + 1) ≤ ((xs.length : Int)))))]) (Sub.cons rfl (Sub.cons rfl (Sub.cons rfl (Sub.cons rfl (Sub.cons rfl Sub.nil))))) ?_
  refine Wk.cond (b := decide (((k : Int) + 1) ≤ ((xs.length : Int)))) rfl (fun h11 => ?_) (fun h11 => ?_)
  · skip
    replace h11 := of_decide_eq_true h11
    have hk4 : k < 4 := by omega
    have hfl := factsL_length a xs k (by omega)
    refine Wk.skip ?_
    refine Kt.onSub (e' := [(1, va), (2, .pointer (some ⟨p2, 0, none⟩)), (5, .slice (some ⟨g, 0, none⟩) (((factsL a xs k).map signed).length) c), (6, .int .i64 ((k : Int) + 1))]) (Sub.cons rfl (Sub.cons rfl (Sub.cons rfl (Sub.cons rfl Sub.nil)))) ?_
    refine Wk.seq ?_
    refine Wk.block ?_
    refine Wk.regionS (S := Own w.heap.size w [(p2, .cells #[.int .i64 a.n, str a.set, str a.rel] 27 (0, 0))]) [(0, true), (1, true), (2, true), (3, true), (4, true), (5, false), (6, false), (7, true)] Base.mixed (fun _ h => h.drawn) (by kernel_rfl) ?_
    refine Ld.take (v := .slice (some ⟨g, 0, none⟩) (((factsL a xs k).map signed).length) c) rfl rfl rfl rfl rfl (OpQ.move rfl rfl) (fun _ h => h.tail) ?_
    refine Ld.take (v := vS a) rfl rfl rfl rfl rfl (OpQ.loadBox (cs := #[.int .i64 a.n, str a.set, str a.rel]) 0 rfl Tryd.isAgg27 rfl rfl Tryd.sizeOf27) (fun _ h => h.tail) ?_
    refine Ld.take (v := va) rfl rfl rfl rfl rfl (OpQ.move rfl rfl) (fun _ h => h.tail) ?_
    refine Ld.take (v := .int .i64 (((k + 1 : Nat) : Int))) rfl rfl rfl rfl rfl (OpQ.cast (by simp) (OpQ.move rfl rfl)) (fun _ h => h.tail) ?_
    refine Ld.take (v := sTake va ((k + 1))) rfl rfl rfl rfl rfl (OpQ.takeRow (i := ((k + 1 : Nat) : Int)) rfl Tryd.runUnderlying25 Tryd.sizeOf3 rfl rfl (by omega) (by rw [ints_length]; omega) (fun w1 hw1 => Row.own hva hw1)) (fun _ h => h.tail) ?_
    refine Ld.loud rfl ?_
    refine Ll.callRow (xs := [.tmp 15, .tmp 18]) (m := ((factL a xs k).map signed).length) (vs := strs ((factL a xs k).map signed)) (el := 9) (size := 1) rfl rfl rfl rfl Tryd.call59 rfl (fun w1 hw1 => l3Facts_ok a (sTake va ((k + 1))) (xs.take ((k + 1))) k ((factL a xs k).map signed) w1 ha (Ints.take (Row.own hva hw1) ((k + 1)) (by omega)) (hA.take _) (by simp; omega) (by omega) (by rw [fact_take (by omega)])) fun p19 cap19 cur19 hp19 hcp19 hlp19 htp19 => ?_
    refine Ll.nil (Ld.joint (fun _ h => h.tail.tail) ?_)
    refine Ld.loud rfl ?_
    refine Ll.appendStrs (xs := (factsL a xs k).map signed) (ys := (factL a xs k).map signed) Base.elem56 1 rfl rfl rfl rfl rfl rfl rfl hc hl (by simpa using ht) (fun w1 hw1 => (Own.row hw1 (i := 0) rfl (by simpa using htp19) (by simp) hlp19)) ((((factsL a xs k).map signed) ++ ((factL a xs k).map signed)).length) (by first | (simp; done) | (simp; omega)) (by first | (simp; done) | (simp; omega) | omega) fun p20 cap20 cur20 hp20 hcp20 hlp20 htp20 => ?_
    show Ll _ _ (Own _ _ [(p19, .cells cur19 9 (0, 0)), (p20, .cells cur20 9 (0, 0)), (p2, .cells #[.int .i64 a.n, str a.set, str a.rel] 27 (0, 0))]) _ _ ((20, .slice (some ⟨p20, 0, none⟩) (((((factsL a xs k).map signed) ++ ((factL a xs k).map signed)).length)) cap20) :: _) _ _ _
    refine Ll.nil (Ld.joint (fun _ h => h.tail.tail) ?_)
    refine Ld.take (v := .slice (some ⟨p20, 0, none⟩) (((((factsL a xs k).map signed) ++ ((factL a xs k).map signed)).length)) cap20) rfl rfl rfl rfl rfl (OpQ.assign rfl rfl) (fun _ h => h.tail.tail) ?_
    refine Ld.nil ?_
    refine Kt.onSub (e' := [(1, va), (2, .pointer (some ⟨p2, 0, none⟩)), (5, .slice (some ⟨p20, 0, none⟩) (((((factsL a xs k).map signed) ++ ((factL a xs k).map signed)).length)) cap20), (6, .int .i64 ((k : Int) + 1))]) (Sub.cons rfl (Sub.cons rfl (Sub.cons rfl (Sub.cons rfl Sub.nil)))) ?_
    refine Wk.regionQ ?_
    refine Lq.op (v := .int .i64 ((k : Int) + 1)) rfl rfl rfl (OpQ.move rfl rfl) ?_
    refine Lq.op (v := .int .i64 (((k : Int) + 1) + (1 : Int))) rfl rfl rfl (OpQ.add rfl rfl rfl (by omega) (by omega)) ?_
    refine Lq.op (v := .int .i64 (((k : Int) + 1) + (1 : Int))) rfl rfl rfl (OpQ.assign rfl rfl) ?_
    refine Lq.nil ?_
    refine Kt.again ((k + 1, p20, cap20, cur20)) ⟨(by omega), (by omega), hcp20, (by rw [facts_step]; exact hlp20), (by rw [facts_step]; exact htp20)⟩ (by omega) (Sub.cons rfl (Sub.cons rfl (Sub.cons (by rw [facts_step]; rfl) (Sub.cons (by simp [List.lookup]) Sub.nil)))) (fun _ h => h.tail)
  · skip
    replace h11 := of_decide_eq_false h11
    have hfl := factsL_length a xs k (by omega)
    refine Wk.exit rfl ?_
    refine Kt.onSub (e' := [(5, .slice (some ⟨g, 0, none⟩) (((factsL a xs k).map signed).length) c)]) (Sub.cons rfl Sub.nil) ?_
    refine Wk.seq ?_
    refine Wk.regionQ ?_
    refine Lq.op (v := .slice (some ⟨g, 0, none⟩) (((factsL a xs k).map signed).length) c) rfl rfl rfl (OpQ.move rfl rfl) ?_
    refine Lq.op (v := str (joinB [38] ((factsL a xs k).map signed))) rfl rfl rfl (OpQ.call rfl Tryd.call100 rfl Own.stable (fun w1 hw1 => l2Join_ok ((factsL a xs k).map signed) (.slice (some ⟨g, 0, none⟩) (((factsL a xs k).map signed).length) c) w1 (Own.row hw1 (i := 0) rfl (by simpa using ht) (by simp) hl) (signed_le _) (by simp; omega))) ?_
    refine Lq.op (v := str (joinB [38] ((factsL a xs k).map signed))) rfl rfl rfl (OpQ.assign rfl rfl) ?_
    refine Lq.nil ?_
    refine Kt.onSub (e' := [(4, str (joinB [38] ((factsL a xs k).map signed)))]) (Sub.cons rfl Sub.nil) ?_
    refine Wk.ret (Kt.end1 rfl rfl fun w' hw => ?_)
    -- ret 0: str (joinB [38] ((factsL a xs k).map signed))
    exact ⟨ret_s (by rw [show k = xs.length from by omega]; rfl), hw.below⟩

set_option maxHeartbeats 400000 in
/-- impl.signed -/
theorem signed_ok (s : List UInt8) (b : Bool) (w : World) (hs : s.length ≤ 1048576) :
    Calls Tryd.prog 101 [str s, .bool b].toArray w fun en w' => en = .returned (str (signS b s)) ∧ Below w.heap.size w w' := by
  refine fnStart (n := 9) (e := [(0, str s), (1, .bool b)]) Tryd.func101 rfl rfl rfl rfl Ends.both ?_
  refine Wk.seq ?_
  refine Wk.regionQ ?_
  refine Lq.op (v := str ([])) rfl rfl rfl (OpQ.assign rfl rfl) ?_
  refine Lq.nil ?_
  refine Kt.onSub (e' := [(0, str s), (1, .bool b)]) (Sub.cons rfl (Sub.cons rfl Sub.nil)) ?_
  refine Wk.seq ?_
  refine Wk.seq ?_
  refine Wk.regionQ ?_
  refine Lq.op (v := .bool b) rfl rfl rfl (OpQ.move rfl rfl) ?_
  refine Lq.nil ?_
  refine Kt.onSub (e' := [(0, str s), (5, .bool b)]) (Sub.cons rfl (Sub.cons rfl Sub.nil)) ?_
  refine Wk.cond (b := b) rfl (fun h5 => ?_) (fun h5 => ?_)
  · skip
    refine Wk.seq ?_
    refine Wk.regionQ ?_
    refine Lq.op (v := str s) rfl rfl rfl (OpQ.move rfl rfl) ?_
    refine Lq.op (v := str s) rfl rfl rfl (OpQ.assign rfl rfl) ?_
    refine Lq.nil ?_
    refine Kt.onSub (e' := [(4, str s)]) (Sub.cons rfl Sub.nil) ?_
    refine Wk.ret (Kt.end1 rfl rfl fun w' hw => ?_)
    -- ret 0: str s
    exact ⟨by rw [‹b = _›]; rfl, hw.below⟩
  · skip
    refine Wk.skip ?_
    refine Kt.onSub (e' := [(0, str s)]) (Sub.cons rfl Sub.nil) ?_
    refine Wk.seq ?_
    refine Wk.regionQ ?_
    refine Lq.op (v := str s) rfl rfl rfl (OpQ.move rfl rfl) ?_
    refine Lq.op (v := str (([33]) ++ s)) rfl rfl rfl (OpQ.sadd rfl rfl rfl (by first | omega | (simp only [List.length_append, List.length_cons, List.length_nil]; omega))) ?_
    refine Lq.op (v := str (([33]) ++ s)) rfl rfl rfl (OpQ.assign rfl rfl) ?_
    refine Lq.nil ?_
    refine Kt.onSub (e' := [(4, str (([33]) ++ s))]) (Sub.cons rfl Sub.nil) ?_
    refine Wk.ret (Kt.end1 rfl rfl fun w' hw => ?_)
    -- ret 1: str (([33]) ++ s)
    exact ⟨by rw [‹b = _›]; rfl, hw.below⟩

set_option maxHeartbeats 400000 in
/-- impl.shortFormula -/
theorem short_ok (s : List UInt8) (w : World) (hs : s.length ≤ 4000) :
    Calls Tryd.prog 77 [str s, .bool true].toArray w fun en w' => en = .returned (.tuple #[str s, .bool true]) ∧ Below w.heap.size w w' := by
  refine fnStart (n := 14) (e := [(0, str s), (1, .bool true)]) Tryd.func77 rfl rfl rfl rfl Ends.both ?_
  refine Wk.seq ?_
  refine Wk.regionQ ?_
  refine Lq.op (v := str ([])) rfl rfl rfl (OpQ.assign rfl rfl) ?_
  refine Lq.op (v := .bool false) rfl rfl rfl (OpQ.assign rfl rfl) ?_
  refine Lq.nil ?_
  refine Kt.onSub (e' := [(0, str s), (1, .bool true)]) (Sub.cons rfl (Sub.cons rfl Sub.nil)) ?_
  refine Wk.seq ?_
  refine Wk.seq ?_
  refine Wk.regionQ ?_
  refine Lq.op (v := .bool true) rfl rfl rfl (OpQ.move rfl rfl) ?_
  refine Lq.op (v := .bool false) rfl rfl rfl (OpQ.notT rfl rfl) ?_
  refine Lq.op (v := .bool false) rfl rfl rfl (OpQ.move rfl rfl) ?_
  refine Lq.op (v := str s) rfl rfl rfl (OpQ.move rfl rfl) ?_
  refine Lq.op (v := .int .i64 ((s.length : Int))) rfl rfl rfl (OpQ.lenStr rfl Tryd.runUnderlying9 rfl) ?_
  refine Lq.op (v := .bool (decide ((4000 : Int) < ((s.length : Int))))) rfl rfl rfl (OpQ.gtr rfl rfl rfl) ?_
  refine Lq.op (v := .bool (decide ((4000 : Int) < ((s.length : Int))))) rfl rfl rfl (OpQ.pickF rfl rfl rfl) ?_
  refine Lq.nil ?_
  refine Kt.onSub (e' := [(0, str s), (12, .bool (decide ((4000 : Int) < ((s.length : Int)))))]) (Sub.cons rfl (Sub.cons rfl Sub.nil)) ?_
  refine Wk.cond (b := decide ((4000 : Int) < ((s.length : Int)))) rfl (fun h12 => ?_) (fun h12 => ?_)
  · skip
    replace h12 := of_decide_eq_true h12
    omega
  · skip
    replace h12 := of_decide_eq_false h12
    refine Wk.skip ?_
    refine Kt.onSub (e' := [(0, str s)]) (Sub.cons rfl Sub.nil) ?_
    refine Wk.seq ?_
    refine Wk.regionQ ?_
    refine Lq.op (v := str s) rfl rfl rfl (OpQ.move rfl rfl) ?_
    refine Lq.op (v := str s) rfl rfl rfl (OpQ.assign rfl rfl) ?_
    refine Lq.op (v := .bool true) rfl rfl rfl (OpQ.assign rfl rfl) ?_
    refine Lq.nil ?_
    refine Kt.onSub (e' := [(4, str s), (5, .bool true)]) (Sub.cons rfl (Sub.cons rfl Sub.nil)) ?_
    refine Wk.ret (Kt.end2 rfl rfl rfl fun w' hw => ?_)
    -- ret 0: str s; .bool true
    exact ⟨rfl, hw.below⟩

set_option maxHeartbeats 400000 in
/-- impl.joined -/
theorem joined_ok (l : List (List UInt8)) (vl : Value) (w : World) (hvl : Strs w vl l) (hl : ∀ s ∈ l, s.length ≤ 8) (hn : l.length ≤ 1000) :
    Calls Tryd.prog 102 [str (([38] : List UInt8)), vl].toArray w fun en w' => en = .returned (str (joinB [38] l)) ∧ Below w.heap.size w w' := by
  refine fnStart (n := 37) (e := [(0, str (([38] : List UInt8))), (1, vl)]) Tryd.func102 rfl rfl rfl rfl Ends.both ?_
  refine Wk.seq ?_
  refine Wk.regionQ ?_
  refine Lq.op (v := str ([])) rfl rfl rfl (OpQ.assign rfl rfl) ?_
  refine Lq.nil ?_
  refine Kt.onSub (e' := [(0, str (([38] : List UInt8))), (1, vl)]) (Sub.cons rfl (Sub.cons rfl Sub.nil)) ?_
  refine Wk.seq ?_
  refine Wk.seq ?_
  refine Wk.regionQ ?_
  refine Lq.op (v := vl) rfl rfl rfl (OpQ.move rfl rfl) ?_
  refine Lq.op (v := .int .i64 ((l.length : Int))) rfl rfl rfl (OpQ.lenRow rfl Tryd.runUnderlying56 rfl (strs_length _) (fun w1 hw1 => Row.own hvl hw1)) ?_
  refine Lq.op (v := .bool (decide (((l.length : Int)) = (0 : Int)))) rfl rfl rfl (OpQ.eql rfl rfl rfl) ?_
  refine Lq.nil ?_
  refine Kt.onSub (e' := [(0, str (([38] : List UInt8))), (1, vl), (10, .bool (decide (((l.length : Int)) = (0 : Int))))]) (Sub.cons rfl (Sub.cons rfl (Sub.cons rfl Sub.nil))) ?_
  refine Wk.cond (b := decide (((l.length : Int)) = (0 : Int))) rfl (fun h10 => ?_) (fun h10 => ?_)
  · skip
    replace h10 := of_decide_eq_true h10
    refine Wk.seq ?_
    refine Wk.seq ?_
    refine Wk.regionQ ?_
    refine Lq.op (v := str (([38] : List UInt8))) rfl rfl rfl (OpQ.move rfl rfl) ?_
    refine Lq.op (v := .bool ((([38] : List UInt8)) == ([38]))) rfl rfl rfl (OpQ.seql rfl rfl rfl) ?_
    refine Lq.nil ?_
    refine Kt.onSub (e' := [(12, .bool ((([38] : List UInt8)) == ([38])))]) (Sub.cons rfl Sub.nil) ?_
    refine Wk.cond (b := (([38] : List UInt8)) == ([38])) rfl (fun h12 => ?_) (fun h12 => ?_)
    · skip
      refine Wk.seq ?_
      refine Wk.regionQ ?_
      refine Lq.op (v := str ([116])) rfl rfl rfl (OpQ.assign rfl rfl) ?_
      refine Lq.nil ?_
      refine Kt.onSub (e' := [(4, str ([116]))]) (Sub.cons rfl Sub.nil) ?_
      refine Wk.ret (Kt.end1 rfl rfl fun w' hw => ?_)
      -- ret 0: str ([116])
      exact ⟨ret_s (by unfold joinB; rw [if_pos (by omega)]), hw.below⟩
    · skip
      simp at h12
  · skip
    replace h10 := of_decide_eq_false h10
    have h0 : l.length ≠ 0 := by omega
    have hg9 := get_len hl (l.length - 1)
    have hp9 := preJ_len (op := [38]) (by decide) hl (l.length - 1)
    refine Wk.skip ?_
    refine Kt.onSub (e' := [(0, str (([38] : List UInt8))), (1, vl)]) (Sub.cons rfl (Sub.cons rfl Sub.nil)) ?_
    refine Wk.seq ?_
    refine Wk.regionQ ?_
    refine Lq.op (v := str ([])) rfl rfl rfl (OpQ.assign rfl rfl) ?_
    refine Lq.nil ?_
    refine Kt.onSub (e' := [(0, str (([38] : List UInt8))), (1, vl), (5, str ([]))]) (Sub.cons rfl (Sub.cons rfl (Sub.cons rfl Sub.nil))) ?_
    refine Wk.seq ?_
    refine Wk.seq ?_
    refine Wk.regionQ ?_
    refine Lq.op (v := vl) rfl rfl rfl (OpQ.move rfl rfl) ?_
    refine Lq.op (v := vl) rfl rfl rfl (OpQ.move rfl rfl) ?_
    refine Lq.op (v := .int .i64 ((l.length : Int))) rfl rfl rfl (OpQ.lenRow rfl Tryd.runUnderlying56 rfl (strs_length _) (fun w1 hw1 => Row.own hvl hw1)) ?_
    refine Lq.op (v := .int .i64 (((l.length - 1 : Nat) : Int))) rfl rfl rfl (OpQ.cast (by congr 1; omega) (OpQ.sub rfl rfl rfl (by omega) (by omega))) ?_
    refine Lq.op (v := sTake vl ((l.length - 1))) rfl rfl rfl (OpQ.takeRow (i := ((l.length - 1 : Nat) : Int)) rfl Tryd.runUnderlying56 Tryd.sizeOf9 rfl rfl (by omega) (by rw [strs_length]; omega) (fun w1 hw1 => Row.own hvl hw1)) ?_
    refine Lq.op (v := .int .i64 ((((l.length - 1) : Nat) : Int))) rfl rfl rfl (OpQ.lenRow rfl Tryd.runUnderlying56 rfl (by rw [strs_length, List.length_take]; omega) (fun w1 hw1 => Strs.take (Row.own hvl hw1) ((l.length - 1)) (by omega))) ?_
    refine Lq.op (v := .int .i64 0) rfl rfl rfl (OpQ.move rfl rfl) ?_
    refine Lq.nil ?_
    refine Kt.onSub (e' := [(0, str (([38] : List UInt8))), (1, vl), (5, str ([])), (17, sTake vl ((l.length - 1))), (18, .int .i64 ((((l.length - 1) : Nat) : Int))), (19, .int .i64 0)]) (Sub.cons rfl (Sub.cons rfl (Sub.cons rfl (Sub.cons rfl (Sub.cons rfl (Sub.cons rfl Sub.nil)))))) ?_
    refine Wk.block ?_
    refine Wk.loop (σ := Nat) (fun k => k ≤ l.length - 1) (fun k => [(0, str (([38] : List UInt8))), (1, vl), (5, str (preJ [38] l k)), (17, sTake vl ((l.length - 1))), (18, .int .i64 ((((l.length - 1) : Nat) : Int))), (19, .int .i64 ((k : Int)))]) (fun k => Own w.heap.size w []) (fun k => l.length - k) (0) (by omega) (Sub.cons rfl (Sub.cons rfl (Sub.cons rfl (Sub.cons rfl (Sub.cons rfl (Sub.cons rfl Sub.nil)))))) (fun _ h => h) ?_
    rintro k hk
    refine Wk.seq ?_
    refine Wk.regionQ ?_
    refine Lq.op (v := .bool (decide (((k : Int)) < ((((l.length - 1) : Nat) : Int))))) rfl rfl rfl (OpQ.lss rfl rfl rfl) ?_
    refine Lq.nil ?_
    refine Kt.onSub (e' := [(0, str (([38] : List UInt8))), (1, vl), (5, str (preJ [38] l k)), (17, sTake vl ((l.length - 1))), (18, .int .i64 ((((l.length - 1) : Nat) : Int))), (19, .int .i64 ((k : Int))), (20, .bool (decide (((k : Int)) < ((((l.length - 1) : Nat) : Int)))))]) (Sub.cons rfl (Sub.cons rfl (Sub.cons rfl (Sub.cons rfl (Sub.cons rfl (Sub.cons rfl (Sub.cons rfl Sub.nil))))))) ?_
    refine Wk.seq ?_
    refine Wk.cond (b := decide (((k : Int)) < ((((l.length - 1) : Nat) : Int)))) rfl (fun h20 => ?_) (fun h20 => ?_)
    · skip
      replace h20 := of_decide_eq_true h20
      have hlk : (l.take (l.length - 1)).length = l.length - 1 := by rw [List.length_take]; omega
      have hkl : k < l.length - 1 := by omega
      have hg8 := get_len hl k
      have hp := preJ_len (op := [38]) (by decide) hl k
      refine Wk.skip ?_
      refine Kt.onSub (e' := [(0, str (([38] : List UInt8))), (1, vl), (5, str (preJ [38] l k)), (17, sTake vl ((l.length - 1))), (18, .int .i64 ((((l.length - 1) : Nat) : Int))), (19, .int .i64 ((k : Int)))]) (Sub.cons rfl (Sub.cons rfl (Sub.cons rfl (Sub.cons rfl (Sub.cons rfl (Sub.cons rfl Sub.nil)))))) ?_
      refine Wk.seq ?_
      refine Wk.block ?_
      refine Wk.seq ?_
      refine Wk.regionQ ?_
      refine Lq.op (v := .pointer (some (sAt (sTake vl ((l.length - 1))) ((k : Int))))) rfl rfl rfl (OpQ.atRow rfl Tryd.runUnderlying56 Tryd.sizeOf9 rfl rfl (by omega) (by rw [strs_length, List.length_take]; omega) (fun w1 hw1 => Strs.take (Row.own hvl hw1) ((l.length - 1)) (by omega))) ?_
      refine Lq.op (v := str (l.getD ((k : Int)).toNat [])) rfl rfl rfl (OpQ.cast (by rw [Int.toNat_natCast, take_getS hkl]) (OpQ.load1 rfl Tryd.isAgg9 rfl (fun w1 hw1 => Strs.cell (Strs.take (Row.own hvl hw1) ((l.length - 1)) (by omega)) (by omega) (by omega)))) ?_
      refine Lq.op (v := str (l.getD ((k : Int)).toNat [])) rfl rfl rfl (OpQ.assign rfl rfl) ?_
      refine Lq.nil ?_
      refine Kt.onSub (e' := [(0, str (([38] : List UInt8))), (1, vl), (5, str (preJ [38] l k)), (7, str (l.getD ((k : Int)).toNat [])), (17, sTake vl ((l.length - 1))), (18, .int .i64 ((((l.length - 1) : Nat) : Int))), (19, .int .i64 ((k : Int)))]) (Sub.cons rfl (Sub.cons rfl (Sub.cons rfl (Sub.cons rfl (Sub.cons rfl (Sub.cons rfl (Sub.cons rfl Sub.nil))))))) ?_
      refine Wk.regionQ ?_
      refine Lq.op (v := str (preJ [38] l k)) rfl rfl rfl (OpQ.move rfl rfl) ?_
      refine Lq.op (v := str (([38] : List UInt8))) rfl rfl rfl (OpQ.move rfl rfl) ?_
      refine Lq.op (v := str (l.getD ((k : Int)).toNat [])) rfl rfl rfl (OpQ.move rfl rfl) ?_
      refine Lq.op (v := str ((([38] : List UInt8)) ++ (l.getD ((k : Int)).toNat []))) rfl rfl rfl (OpQ.sadd rfl rfl rfl (by simp only [List.length_append, List.length_cons, List.length_nil, Int.toNat_natCast] at *; omega)) ?_
      refine Lq.op (v := str ((preJ [38] l k) ++ ((([38] : List UInt8)) ++ (l.getD ((k : Int)).toNat [])))) rfl rfl rfl (OpQ.sadd rfl rfl rfl (by simp only [List.length_append, List.length_cons, List.length_nil, Int.toNat_natCast] at *; omega)) ?_
      refine Lq.op (v := str ((preJ [38] l k) ++ ((([38] : List UInt8)) ++ (l.getD ((k : Int)).toNat [])))) rfl rfl rfl (OpQ.assign rfl rfl) ?_
      refine Lq.nil ?_
      refine Kt.onSub (e' := [(0, str (([38] : List UInt8))), (1, vl), (5, str ((preJ [38] l k) ++ ((([38] : List UInt8)) ++ (l.getD ((k : Int)).toNat [])))), (17, sTake vl ((l.length - 1))), (18, .int .i64 ((((l.length - 1) : Nat) : Int))), (19, .int .i64 ((k : Int)))]) (Sub.cons rfl (Sub.cons rfl (Sub.cons rfl (Sub.cons rfl (Sub.cons rfl (Sub.cons rfl Sub.nil)))))) ?_
      refine Wk.regionQ ?_
      refine Lq.op (v := .int .i64 (((k : Int)) + (1 : Int))) rfl rfl rfl (OpQ.add rfl rfl rfl (by omega) (by omega)) ?_
      refine Lq.op (v := .int .i64 (((k : Int)) + (1 : Int))) rfl rfl rfl (OpQ.move rfl rfl) ?_
      refine Lq.nil ?_
      refine Kt.again (k + 1) (by omega) (by omega) (Sub.cons rfl (Sub.cons rfl (Sub.cons rfl (Sub.cons rfl (Sub.cons rfl (Sub.cons rfl Sub.nil)))))) (fun _ h => h)
    · skip
      replace h20 := of_decide_eq_false h20
      have hp := preJ_len (op := [38]) (by decide) hl k
      refine Wk.exit rfl ?_
      refine Kt.onSub (e' := [(1, vl), (5, str (preJ [38] l k))]) (Sub.cons rfl (Sub.cons rfl Sub.nil)) ?_
      refine Wk.seq ?_
      refine Wk.regionQ ?_
      refine Lq.op (v := str (preJ [38] l k)) rfl rfl rfl (OpQ.move rfl rfl) ?_
      refine Lq.op (v := vl) rfl rfl rfl (OpQ.move rfl rfl) ?_
      refine Lq.op (v := vl) rfl rfl rfl (OpQ.move rfl rfl) ?_
      refine Lq.op (v := .int .i64 ((l.length : Int))) rfl rfl rfl (OpQ.lenRow rfl Tryd.runUnderlying56 rfl (strs_length _) (fun w1 hw1 => Row.own hvl hw1)) ?_
      refine Lq.op (v := .int .i64 (((l.length - 1 : Nat) : Int))) rfl rfl rfl (OpQ.cast (by congr 1; omega) (OpQ.sub rfl rfl rfl (by omega) (by omega))) ?_
      refine Lq.op (v := .pointer (some (sAt vl (((l.length - 1 : Nat) : Int))))) rfl rfl rfl (OpQ.atRow rfl Tryd.runUnderlying56 Tryd.sizeOf9 rfl rfl (by omega) (by rw [strs_length]; omega) (fun w1 hw1 => Row.own hvl hw1)) ?_
      refine Lq.op (v := str (l.getD ((((l.length - 1 : Nat) : Int)).toNat) [])) rfl rfl rfl (OpQ.load1 rfl Tryd.isAgg9 rfl (fun w1 hw1 => Strs.cell (Row.own hvl hw1) (by omega) (by omega))) ?_
      refine Lq.op (v := str ((preJ [38] l k) ++ (l.getD ((((l.length - 1 : Nat) : Int)).toNat) []))) rfl rfl rfl (OpQ.sadd rfl rfl rfl (by simp only [Int.toNat_natCast] at *; omega)) ?_
      refine Lq.op (v := str ((preJ [38] l k) ++ (l.getD ((((l.length - 1 : Nat) : Int)).toNat) []))) rfl rfl rfl (OpQ.assign rfl rfl) ?_
      refine Lq.nil ?_
      refine Kt.onSub (e' := [(4, str ((preJ [38] l k) ++ (l.getD ((((l.length - 1 : Nat) : Int)).toNat) [])))]) (Sub.cons rfl Sub.nil) ?_
      refine Wk.ret (Kt.end1 rfl rfl fun w' hw => ?_)
      -- ret 1: str ((preJ [38] l k) ++ (l.getD ((((l.length - 1 : Nat) : Int)).toNat) []))
      obtain rfl : k = l.length - 1 := by omega
      exact ⟨ret_s (by unfold joinB; rw [if_neg h0]; rfl), hw.below⟩

set_option maxHeartbeats 400000 in
/-- impl.factsFormula -/
theorem factsFormula_ok (a : St) (va : Value) (xs : List Int) (w : World) (ha : a.Fine) (hva : Ints w va xs) (hA : a.Els xs) (hl4 : xs.length ≤ 4) :
    Calls Tryd.prog 78 [vS a, va].toArray w fun en w' => en = .returned (str (formB a xs)) ∧ Below w.heap.size w w' := by
  refine fnStart (n := 34) (e := [(0, vS a), (1, va)]) Tryd.func78 rfl rfl rfl rfl Ends.both ?_
  have hfl := factsL_length a xs xs.length hl4
  refine Wk.seq ?_
  refine Wk.region ?_
  refine Ll.box (v := vS a) rfl rfl rfl rfl rfl fun p2 hp2 => ?_
  show Ll _ _ (Own _ _ [(p2, .cells #[.int .i64 a.n, str a.set, str a.rel] 27 (0, 0))]) _ _ ((2, .pointer (some ⟨p2, 0, none⟩)) :: _) _ _ _
  refine Ll.op (v := str ([])) rfl rfl rfl (OpQ.assign rfl rfl) ?_
  refine Ll.nil ?_
  refine Kt.onSub (e' := [(1, va), (2, .pointer (some ⟨p2, 0, none⟩))]) (Sub.cons rfl (Sub.cons rfl Sub.nil)) ?_
  refine Wk.seq ?_
  refine Wk.region ?_
  refine Ll.op (v := vS a) rfl rfl rfl (OpQ.loadBox (cs := #[.int .i64 a.n, str a.set, str a.rel]) 0 rfl Tryd.isAgg27 rfl rfl Tryd.sizeOf27) ?_
  refine Ll.op (v := va) rfl rfl rfl (OpQ.move rfl rfl) ?_
  refine Ll.callRows (xs := [.tmp 9, .tmp 10]) (m1 := ((factsL a xs xs.length).map Prod.fst).length) (vs1 := strs ((factsL a xs xs.length).map Prod.fst)) (el1 := 9) (m2 := ((factsL a xs xs.length).map Prod.snd).length) (vs2 := bools ((factsL a xs xs.length).map Prod.snd)) (el2 := 4) rfl rfl rfl rfl Tryd.call92 rfl (fun w1 hw1 => factsOf_ok a va xs w1 ha (Row.own hva hw1) hA hl4) fun p11a cap11a cur11a p11b cap11b cur11b hp11a hcp11a hlp11a htp11a hp11b hcp11b hlp11b htp11b => ?_
  refine Ll.op (v := .tuple #[.slice (some ⟨p11a, 0, none⟩) (((factsL a xs xs.length).map Prod.fst).length) cap11a, .slice (some ⟨p11b, 0, none⟩) (((factsL a xs xs.length).map Prod.snd).length) cap11b]) rfl rfl rfl (OpQ.move rfl rfl) ?_
  refine Ll.op (v := .slice (some ⟨p11a, 0, none⟩) (((factsL a xs xs.length).map Prod.fst).length) cap11a) rfl rfl rfl (OpQ.extract rfl rfl rfl) ?_
  refine Ll.op (v := .slice (some ⟨p11b, 0, none⟩) (((factsL a xs xs.length).map Prod.snd).length) cap11b) rfl rfl rfl (OpQ.extract rfl rfl rfl) ?_
  refine Ll.op (v := .slice (some ⟨p11a, 0, none⟩) (((factsL a xs xs.length).map Prod.fst).length) cap11a) rfl rfl rfl (OpQ.assign rfl rfl) ?_
  refine Ll.op (v := .slice (some ⟨p11b, 0, none⟩) (((factsL a xs xs.length).map Prod.snd).length) cap11b) rfl rfl rfl (OpQ.assign rfl rfl) ?_
  refine Ll.nil ?_
  refine Kt.onSub (e' := [(5, .slice (some ⟨p11a, 0, none⟩) (((factsL a xs xs.length).map Prod.fst).length) cap11a), (6, .slice (some ⟨p11b, 0, none⟩) (((factsL a xs xs.length).map Prod.snd).length) cap11b)]) (Sub.cons rfl (Sub.cons rfl Sub.nil)) ?_
  refine Wk.seq ?_
  refine Wk.seq ?_
  refine Wk.regionQ ?_
  refine Lq.op (v := .slice (some ⟨p11a, 0, none⟩) (((factsL a xs xs.length).map Prod.fst).length) cap11a) rfl rfl rfl (OpQ.move rfl rfl) ?_
  refine Lq.op (v := .int .i64 ((((factsL a xs xs.length).map Prod.fst).length : Int))) rfl rfl rfl (OpQ.lenS rfl Tryd.runUnderlying56 rfl) ?_
  refine Lq.op (v := .int .i64 0) rfl rfl rfl (OpQ.move rfl rfl) ?_
  refine Lq.nil ?_
  refine Kt.onSub (e' := [(5, .slice (some ⟨p11a, 0, none⟩) (((factsL a xs xs.length).map Prod.fst).length) cap11a), (6, .slice (some ⟨p11b, 0, none⟩) (((factsL a xs xs.length).map Prod.snd).length) cap11b), (15, .int .i64 ((((factsL a xs xs.length).map Prod.fst).length : Int))), (16, .int .i64 0)]) (Sub.cons rfl (Sub.cons rfl (Sub.cons rfl (Sub.cons rfl Sub.nil)))) ?_
  refine Wk.block ?_
  refine Wk.loop (σ := Nat × Array Value) (fun ⟨k, u⟩ => k ≤ (factsL a xs xs.length).length ∧ u.size = cap11a * 1 ∧ u.toList.take (((factsL a xs xs.length).map Prod.fst).length * 1) = strs (mixL (factsL a xs xs.length) k)) (fun ⟨k, u⟩ => [(5, .slice (some ⟨p11a, 0, none⟩) (((factsL a xs xs.length).map Prod.fst).length) cap11a), (6, .slice (some ⟨p11b, 0, none⟩) (((factsL a xs xs.length).map Prod.snd).length) cap11b), (15, .int .i64 ((((factsL a xs xs.length).map Prod.fst).length : Int))), (16, .int .i64 ((k : Int)))]) (fun ⟨k, u⟩ => Own w.heap.size w [(p11a, .cells u 9 (0, 0)), (p11b, .cells cur11b 4 (0, 0)), (p2, .cells #[.int .i64 a.n, str a.set, str a.rel] 27 (0, 0))]) (fun ⟨k, u⟩ => (factsL a xs xs.length).length - k) ((0, cur11a)) ⟨by omega, hcp11a, by rw [mixL_zero]; exact htp11a⟩ (Sub.cons rfl (Sub.cons rfl (Sub.cons rfl (Sub.cons rfl Sub.nil)))) (fun _ h => h) ?_
  rintro ⟨k, u⟩ ⟨hk, hc, ht⟩
  dsimp only
  refine Wk.seq ?_
  refine Wk.regionQ ?_
  refine Lq.op (v := .bool (decide (((k : Int)) < ((((factsL a xs xs.length).map Prod.fst).length : Int))))) rfl rfl rfl (OpQ.lss rfl rfl rfl) ?_
  refine Lq.nil ?_
  refine Kt.onSub (e' := [(5, .slice (some ⟨p11a, 0, none⟩) (((factsL a xs xs.length).map Prod.fst).length) cap11a), (6, .slice (some ⟨p11b, 0, none⟩) (((factsL a xs xs.length).map Prod.snd).length) cap11b), (15, .int .i64 ((((factsL a xs xs.length).map Prod.fst).length : Int))), (16, .int .i64 ((k : Int))), (17, .bool (decide (((k : Int)) < ((((factsL a xs xs.length).map Prod.fst).length : Int)))))]) (Sub.cons rfl (Sub.cons rfl (Sub.cons rfl (Sub.cons rfl (Sub.cons rfl Sub.nil))))) ?_
  refine Wk.seq ?_
  refine Wk.cond (b := decide (((k : Int)) < ((((factsL a xs xs.length).map Prod.fst).length : Int)))) rfl (fun h17 => ?_) (fun h17 => ?_)
  · skip
    replace h17 := of_decide_eq_true h17
    have hk2 : k < (factsL a xs xs.length).length := by rw [List.length_map] at h17; omega
    have hm8 := mixL_le hk2
    have hlm : ((factsL a xs xs.length).map Prod.fst).length = (factsL a xs xs.length).length := List.length_map _
    have hlm2 : ((factsL a xs xs.length).map Prod.snd).length = (factsL a xs xs.length).length := List.length_map _
    refine Wk.skip ?_
    refine Kt.onSub (e' := [(5, .slice (some ⟨p11a, 0, none⟩) (((factsL a xs xs.length).map Prod.fst).length) cap11a), (6, .slice (some ⟨p11b, 0, none⟩) (((factsL a xs xs.length).map Prod.snd).length) cap11b), (15, .int .i64 ((((factsL a xs xs.length).map Prod.fst).length : Int))), (16, .int .i64 ((k : Int)))]) (Sub.cons rfl (Sub.cons rfl (Sub.cons rfl (Sub.cons rfl Sub.nil)))) ?_
    refine Wk.seq ?_
    refine Wk.block ?_
    refine Wk.seq ?_
    refine Wk.regionQ ?_
    refine Lq.op (v := .int .i64 ((k : Int))) rfl rfl rfl (OpQ.move rfl rfl) ?_
    refine Lq.op (v := .int .i64 ((k : Int))) rfl rfl rfl (OpQ.assign rfl rfl) ?_
    refine Lq.nil ?_
    refine Kt.onSub (e' := [(5, .slice (some ⟨p11a, 0, none⟩) (((factsL a xs xs.length).map Prod.fst).length) cap11a), (6, .slice (some ⟨p11b, 0, none⟩) (((factsL a xs xs.length).map Prod.snd).length) cap11b), (7, .int .i64 ((k : Int))), (15, .int .i64 ((((factsL a xs xs.length).map Prod.fst).length : Int))), (16, .int .i64 ((k : Int)))]) (Sub.cons rfl (Sub.cons rfl (Sub.cons rfl (Sub.cons rfl (Sub.cons rfl Sub.nil))))) ?_
    refine Wk.regionS (S := Own w.heap.size w [(p11b, .cells cur11b 4 (0, 0)), (p2, .cells #[.int .i64 a.n, str a.set, str a.rel] 27 (0, 0))]) [(0, true), (1, true), (2, true), (3, true), (4, true), (6, true), (7, true), (8, true), (9, true), (5, false), (10, false), (11, true), (12, false)] Base.mixed (fun _ h => h.drawn) (by kernel_rfl) ?_
    refine Ld.take (v := .slice (some ⟨p11a, 0, none⟩) (((factsL a xs xs.length).map Prod.fst).length) cap11a) rfl rfl rfl rfl rfl (OpQ.move rfl rfl) (fun _ h => h.tail) ?_
    refine Ld.take (v := .int .i64 ((k : Int))) rfl rfl rfl rfl rfl (OpQ.move rfl rfl) (fun _ h => h.tail) ?_
    refine Ld.take (v := .slice (some ⟨p11a, 0, none⟩) (((factsL a xs xs.length).map Prod.fst).length) cap11a) rfl rfl rfl rfl rfl (OpQ.move rfl rfl) (fun _ h => h.tail) ?_
    refine Ld.take (v := .int .i64 ((k : Int))) rfl rfl rfl rfl rfl (OpQ.move rfl rfl) (fun _ h => h.tail) ?_
    refine Ld.take (v := .pointer (some ⟨p11a, ((k : Int)).toNat, none⟩)) rfl rfl rfl rfl rfl (OpQ.cast (by rw [Nat.zero_add]) (OpQ.indexAddr1 (i := (k : Int)) rfl Tryd.runUnderlying56 Tryd.sizeOf9 rfl rfl (by omega) (by omega))) (fun _ h => h.tail) ?_
    refine Ld.take (v := .slice (some ⟨p11b, 0, none⟩) (((factsL a xs xs.length).map Prod.snd).length) cap11b) rfl rfl rfl rfl rfl (OpQ.move rfl rfl) (fun _ h => h.tail) ?_
    refine Ld.take (v := .int .i64 ((k : Int))) rfl rfl rfl rfl rfl (OpQ.move rfl rfl) (fun _ h => h.tail) ?_
    refine Ld.take (v := .pointer (some ⟨p11b, ((k : Int)).toNat, none⟩)) rfl rfl rfl rfl rfl (OpQ.cast (by rw [Nat.zero_add]) (OpQ.indexAddr1 (i := (k : Int)) rfl Tryd.runUnderlying80 Tryd.sizeOf4 rfl rfl (by omega) (by omega))) (fun _ h => h.tail) ?_
    refine Ld.take (v := .bool (((factsL a xs xs.length).map Prod.snd).getD (((k : Int)).toNat) false)) rfl rfl rfl rfl rfl (OpQ.loadAt 0 rfl Tryd.isAgg4 rfl rfl (cur_at (by simpa using htp11b) (bools_at (c := (factsL a xs xs.length).map Prod.snd) (off := ((k : Int)).toNat) (by first | (simp; done) | (simp; omega) | omega)))) (fun _ h => h.tail) ?_
    refine Ld.loud rfl ?_
    refine Ll.op (v := str ((mixL (factsL a xs xs.length) k).getD (((k : Int)).toNat) [])) rfl rfl rfl (OpQ.loadAt 0 rfl Tryd.isAgg9 rfl rfl (cur_at (by simpa using ht) (strs_at (c := mixL (factsL a xs xs.length) k) (off := ((k : Int)).toNat) (by first | (simp; done) | (simp; omega) | omega)))) ?_
    refine Ll.nil (Ld.joint (fun _ h => h.tail) ?_)
    refine Ld.loud rfl ?_
    refine Ll.op (v := str (signS (((factsL a xs xs.length).map Prod.snd).getD (((k : Int)).toNat) false) ((mixL (factsL a xs xs.length) k).getD (((k : Int)).toNat) []))) rfl rfl rfl (OpQ.call rfl Tryd.call101 rfl Own.stable (fun w1 hw1 => signed_ok ((mixL (factsL a xs xs.length) k).getD (((k : Int)).toNat) []) (((factsL a xs xs.length).map Prod.snd).getD (((k : Int)).toNat) false) w1 (by simp only [Int.toNat_natCast] at *; omega))) ?_
    refine Ll.nil (Ld.joint (fun _ h => h.tail) ?_)
    refine Ld.take (v := .pointer (some ⟨p11a, ((k : Int)).toNat, none⟩)) rfl rfl rfl rfl rfl (OpQ.cast (by rw [Nat.zero_add]) (OpQ.indexAddr1 (i := (k : Int)) rfl Tryd.runUnderlying56 Tryd.sizeOf9 rfl rfl (by omega) (by omega))) (fun _ h => h.tail) ?_
    refine Ld.loud rfl ?_
    refine Ll.store1 (v := str (signS (((factsL a xs xs.length).map Prod.snd).getD (((k : Int)).toNat) false) ((mixL (factsL a xs xs.length) k).getD (((k : Int)).toNat) []))) (hs' := [(p11a, .cells ((u.setIfInBounds (((k : Int)).toNat) (str (signS (((factsL a xs xs.length).map Prod.snd).getD (((k : Int)).toNat) false) ((mixL (factsL a xs xs.length) k).getD (((k : Int)).toNat) []))))) 9 (0, 0)), (p11b, .cells cur11b 4 (0, 0)), (p2, .cells #[.int .i64 a.n, str a.set, str a.rel] 27 (0, 0))]) 0 rfl rfl rfl rfl rfl rfl Tryd.sizeOf9 rfl (by rw [hc]; omega) rfl ?_
    refine Ll.nil (Ld.joint (fun _ h => h.tail) ?_)
    refine Ld.nil ?_
    refine Kt.onSub (e' := [(5, .slice (some ⟨p11a, 0, none⟩) (((factsL a xs xs.length).map Prod.fst).length) cap11a), (6, .slice (some ⟨p11b, 0, none⟩) (((factsL a xs xs.length).map Prod.snd).length) cap11b), (15, .int .i64 ((((factsL a xs xs.length).map Prod.fst).length : Int))), (16, .int .i64 ((k : Int)))]) (Sub.cons rfl (Sub.cons rfl (Sub.cons rfl (Sub.cons rfl Sub.nil)))) ?_
    refine Wk.regionQ ?_
    refine Lq.op (v := .int .i64 (((k : Int)) + (1 : Int))) rfl rfl rfl (OpQ.add rfl rfl rfl (by omega) (by omega)) ?_
    refine Lq.op (v := .int .i64 (((k : Int)) + (1 : Int))) rfl rfl rfl (OpQ.move rfl rfl) ?_
    refine Lq.nil ?_
    refine Kt.again ((k + 1, (u.setIfInBounds (((k : Int)).toNat) (str (signS (((factsL a xs xs.length).map Prod.snd).getD (((k : Int)).toNat) false) ((mixL (factsL a xs xs.length) k).getD (((k : Int)).toNat) [])))))) ⟨by omega, by simpa using hc, by rw [← mixL_step hk2]; exact set_take ht⟩ (by omega) (Sub.cons rfl (Sub.cons rfl (Sub.cons rfl (Sub.cons rfl Sub.nil)))) (fun _ h => h)
  · skip
    replace h17 := of_decide_eq_false h17
    have hmx := mixL_all (show (factsL a xs xs.length).length ≤ k from by rw [List.length_map] at h17; omega)
    refine Wk.exit rfl ?_
    refine Kt.onSub (e' := [(5, .slice (some ⟨p11a, 0, none⟩) (((factsL a xs xs.length).map Prod.fst).length) cap11a)]) (Sub.cons rfl Sub.nil) ?_
    refine Wk.seq ?_
    refine Wk.regionQ ?_
    refine Lq.op (v := .slice (some ⟨p11a, 0, none⟩) (((factsL a xs xs.length).map Prod.fst).length) cap11a) rfl rfl rfl (OpQ.move rfl rfl) ?_
    refine Lq.op (v := str (joinB [38] (mixL (factsL a xs xs.length) k))) rfl rfl rfl (OpQ.call rfl Tryd.call102 rfl Own.stable (fun w1 hw1 => joined_ok (mixL (factsL a xs xs.length) k) (.slice (some ⟨p11a, 0, none⟩) (((factsL a xs xs.length).map Prod.fst).length) cap11a) w1 (Own.row hw1 (i := 0) rfl (by simpa using ht) (by simp) hlp11a) (by rw [hmx]; exact signed_le _) (by simp; omega))) ?_
    refine Lq.op (v := str (joinB [38] (mixL (factsL a xs xs.length) k))) rfl rfl rfl (OpQ.assign rfl rfl) ?_
    refine Lq.nil ?_
    refine Kt.onSub (e' := [(4, str (joinB [38] (mixL (factsL a xs xs.length) k)))]) (Sub.cons rfl Sub.nil) ?_
    refine Wk.ret (Kt.end1 rfl rfl fun w' hw => ?_)
    -- ret 0: str (joinB [38] (mixL (factsL a xs xs.length) k))
    exact ⟨ret_s (by rw [hmx]; rfl), hw.below⟩

set_option maxHeartbeats 400000 in
/-- spec.FactsFormula -/
theorem sForm_ok (a : St) (va : Value) (xs : List Int) (w : World) (hsa : a.Small) (hva : Ints w va xs) (hs : xs.length ≤ 140737488355328) (loa : -9223372036854775808 ≤ a.n) (hia : a.n ≤ 9223372036854775807) :
    Calls Tryd.prog 35 [vS a, va].toArray w fun en w' => en = .returned (.tuple #[str (formOut a xs), .bool (listB a xs)]) ∧ Below w.heap.size w w' := by
  refine fnStart (n := 13) (e := [(0, vS a), (1, va)]) Tryd.func35 rfl rfl rfl rfl Ends.both ?_
  refine Wk.seq ?_
  refine Wk.region ?_
  refine Ll.box (v := vS a) rfl rfl rfl rfl rfl fun p2 hp2 => ?_
  show Ll _ _ (Own _ _ [(p2, .cells #[.int .i64 a.n, str a.set, str a.rel] 27 (0, 0))]) _ _ ((2, .pointer (some ⟨p2, 0, none⟩)) :: _) _ _ _
  refine Ll.op (v := str ([])) rfl rfl rfl (OpQ.assign rfl rfl) ?_
  refine Ll.op (v := .bool false) rfl rfl rfl (OpQ.assign rfl rfl) ?_
  refine Ll.nil ?_
  refine Kt.onSub (e' := [(1, va), (2, .pointer (some ⟨p2, 0, none⟩))]) (Sub.cons rfl (Sub.cons rfl Sub.nil)) ?_
  refine Wk.seq ?_
  refine Wk.seq ?_
  refine Wk.regionQ ?_
  refine Lq.op (v := vS a) rfl rfl rfl (OpQ.loadBox (cs := #[.int .i64 a.n, str a.set, str a.rel]) 0 rfl Tryd.isAgg27 rfl rfl Tryd.sizeOf27) ?_
  refine Lq.op (v := va) rfl rfl rfl (OpQ.move rfl rfl) ?_
  refine Lq.op (v := .bool (listB a xs)) rfl rfl rfl (OpQ.call rfl Tryd.call58 rfl Own.stable (fun w1 hw1 => l4List_ok a va xs w1 hsa (Row.own hva hw1) (by first | (simp; done) | (simp; omega) | omega) loa hia)) ?_
  refine Lq.op (v := .bool (!(listB a xs))) rfl rfl rfl (OpQ.not rfl rfl) ?_
  refine Lq.nil ?_
  refine Kt.onSub (e' := [(1, va), (2, .pointer (some ⟨p2, 0, none⟩)), (9, .bool (!(listB a xs)))]) (Sub.cons rfl (Sub.cons rfl (Sub.cons rfl Sub.nil))) ?_
  refine Wk.cond (b := !(listB a xs)) rfl (fun h9 => ?_) (fun h9 => ?_)
  · skip
    replace h9 := not_true h9
    refine Wk.seq ?_
    refine Wk.regionQ ?_
    refine Lq.op (v := str ([])) rfl rfl rfl (OpQ.assign rfl rfl) ?_
    refine Lq.op (v := .bool false) rfl rfl rfl (OpQ.assign rfl rfl) ?_
    refine Lq.nil ?_
    refine Kt.onSub (e' := [(4, str ([])), (5, .bool false)]) (Sub.cons rfl (Sub.cons rfl Sub.nil)) ?_
    refine Wk.ret (Kt.end2 rfl rfl rfl fun w' hw => ?_)
    -- ret 0: str ([]); .bool false
    exact ⟨by rw [show listB a xs = false from by simpa using h9, formOut_no (by simpa using h9)], hw.below⟩
  · skip
    replace h9 := not_false h9
    replace h9 : listB a xs = true := by simpa using h9
    obtain ⟨_, ha, hA, hl4⟩ := listB_true h9
    refine Wk.skip ?_
    refine Kt.onSub (e' := [(1, va), (2, .pointer (some ⟨p2, 0, none⟩))]) (Sub.cons rfl (Sub.cons rfl Sub.nil)) ?_
    refine Wk.seq ?_
    refine Wk.regionQ ?_
    refine Lq.op (v := vS a) rfl rfl rfl (OpQ.loadBox (cs := #[.int .i64 a.n, str a.set, str a.rel]) 0 rfl Tryd.isAgg27 rfl rfl Tryd.sizeOf27) ?_
    refine Lq.op (v := va) rfl rfl rfl (OpQ.move rfl rfl) ?_
    refine Lq.op (v := str (formB a xs)) rfl rfl rfl (OpQ.call rfl Tryd.call76 rfl Own.stable (fun w1 hw1 => l3Describe_ok a va xs w1 ha (Row.own hva hw1) hA hl4)) ?_
    refine Lq.op (v := str (formB a xs)) rfl rfl rfl (OpQ.assign rfl rfl) ?_
    refine Lq.op (v := .bool true) rfl rfl rfl (OpQ.assign rfl rfl) ?_
    refine Lq.nil ?_
    refine Kt.onSub (e' := [(4, str (formB a xs)), (5, .bool true)]) (Sub.cons rfl (Sub.cons rfl Sub.nil)) ?_
    refine Wk.ret (Kt.end2 rfl rfl rfl fun w' hw => ?_)
    -- ret 1: str (formB a xs); .bool true
    exact ⟨by rw [h9, formOut_yes h9], hw.below⟩

set_option maxHeartbeats 400000 in
/-- impl.FactsFormula -/
theorem iForm_ok (a : St) (va : Value) (xs : List Int) (w : World) (hsa : a.Small) (hva : Ints w va xs) (hs : xs.length ≤ 140737488355328) :
    Calls Tryd.prog 36 [vS a, va].toArray w fun en w' => en = .returned (.tuple #[str (formOut a xs), .bool (listB a xs)]) ∧ Below w.heap.size w w' := by
  refine fnStart (n := 16) (e := [(0, vS a), (1, va)]) Tryd.func36 rfl rfl rfl rfl Ends.both ?_
  refine Wk.seq ?_
  refine Wk.region ?_
  refine Ll.box (v := vS a) rfl rfl rfl rfl rfl fun p2 hp2 => ?_
  show Ll _ _ (Own _ _ [(p2, .cells #[.int .i64 a.n, str a.set, str a.rel] 27 (0, 0))]) _ _ ((2, .pointer (some ⟨p2, 0, none⟩)) :: _) _ _ _
  refine Ll.op (v := str ([])) rfl rfl rfl (OpQ.assign rfl rfl) ?_
  refine Ll.op (v := .bool false) rfl rfl rfl (OpQ.assign rfl rfl) ?_
  refine Ll.nil ?_
  refine Kt.onSub (e' := [(1, va), (2, .pointer (some ⟨p2, 0, none⟩))]) (Sub.cons rfl (Sub.cons rfl Sub.nil)) ?_
  refine Wk.seq ?_
  refine Wk.seq ?_
  refine Wk.regionQ ?_
  refine Lq.op (v := vS a) rfl rfl rfl (OpQ.loadBox (cs := #[.int .i64 a.n, str a.set, str a.rel]) 0 rfl Tryd.isAgg27 rfl rfl Tryd.sizeOf27) ?_
  refine Lq.op (v := va) rfl rfl rfl (OpQ.move rfl rfl) ?_
  refine Lq.op (v := .bool (listB a xs)) rfl rfl rfl (OpQ.call rfl Tryd.call61 rfl Own.stable (fun w1 hw1 => isList_ok a va xs w1 hsa (Row.own hva hw1) (by first | (simp; done) | (simp; omega) | omega))) ?_
  refine Lq.op (v := .bool (!(listB a xs))) rfl rfl rfl (OpQ.not rfl rfl) ?_
  refine Lq.nil ?_
  refine Kt.onSub (e' := [(1, va), (2, .pointer (some ⟨p2, 0, none⟩)), (9, .bool (!(listB a xs)))]) (Sub.cons rfl (Sub.cons rfl (Sub.cons rfl Sub.nil))) ?_
  refine Wk.cond (b := !(listB a xs)) rfl (fun h9 => ?_) (fun h9 => ?_)
  · skip
    replace h9 := not_true h9
    refine Wk.seq ?_
    refine Wk.regionQ ?_
    refine Lq.op (v := str ([])) rfl rfl rfl (OpQ.assign rfl rfl) ?_
    refine Lq.op (v := .bool false) rfl rfl rfl (OpQ.assign rfl rfl) ?_
    refine Lq.nil ?_
    refine Kt.onSub (e' := [(4, str ([])), (5, .bool false)]) (Sub.cons rfl (Sub.cons rfl Sub.nil)) ?_
    refine Wk.ret (Kt.end2 rfl rfl rfl fun w' hw => ?_)
    -- ret 0: str ([]); .bool false
    exact ⟨by rw [show listB a xs = false from by simpa using h9, formOut_no (by simpa using h9)], hw.below⟩
  · skip
    replace h9 := not_false h9
    replace h9 : listB a xs = true := by simpa using h9
    obtain ⟨_, ha, hA, hl4⟩ := listB_true h9
    have hfl := factsL_length a xs xs.length hl4
    have hfj : (formB a xs).length ≤ 4000 := Nat.le_trans (joinB_len (by decide) (signed_le _)) (by simp; omega)
    refine Wk.skip ?_
    refine Kt.onSub (e' := [(1, va), (2, .pointer (some ⟨p2, 0, none⟩))]) (Sub.cons rfl (Sub.cons rfl Sub.nil)) ?_
    refine Wk.seq ?_
    refine Wk.regionQ ?_
    refine Lq.op (v := vS a) rfl rfl rfl (OpQ.loadBox (cs := #[.int .i64 a.n, str a.set, str a.rel]) 0 rfl Tryd.isAgg27 rfl rfl Tryd.sizeOf27) ?_
    refine Lq.op (v := va) rfl rfl rfl (OpQ.move rfl rfl) ?_
    refine Lq.op (v := str (formB a xs)) rfl rfl rfl (OpQ.call rfl Tryd.call78 rfl Own.stable (fun w1 hw1 => factsFormula_ok a va xs w1 ha (Row.own hva hw1) hA hl4)) ?_
    refine Lq.op (v := .tuple #[str (formB a xs), .bool true]) rfl rfl rfl (OpQ.call rfl Tryd.call77 rfl Own.stable (fun w1 hw1 => short_ok (formB a xs) w1 hfj)) ?_
    refine Lq.op (v := str (formB a xs)) rfl rfl rfl (OpQ.extract rfl rfl rfl) ?_
    refine Lq.op (v := .bool true) rfl rfl rfl (OpQ.extract rfl rfl rfl) ?_
    refine Lq.op (v := str (formB a xs)) rfl rfl rfl (OpQ.assign rfl rfl) ?_
    refine Lq.op (v := .bool true) rfl rfl rfl (OpQ.assign rfl rfl) ?_
    refine Lq.nil ?_
    refine Kt.onSub (e' := [(4, str (formB a xs)), (5, .bool true)]) (Sub.cons rfl (Sub.cons rfl Sub.nil)) ?_
    refine Wk.ret (Kt.end2 rfl rfl rfl fun w' hw => ?_)
    -- ret 1: str (formB a xs); .bool true
    exact ⟨by rw [h9, formOut_yes h9], hw.below⟩

set_option maxHeartbeats 400000 in
/-- laws.FnExactFactsFormula -/
theorem lawForm (a : St) (va : Value) (xs : List Int) (w : World) (h1a : a.set.length ≤ 9223372036854775807) (h2a : a.rel.length ≤ 9223372036854775807) (hva : Ints w va xs) (loa : -9223372036854775808 ≤ a.n) (hia : a.n ≤ 9223372036854775807) :
    Calls Tryd.prog 10 [vS a, va].toArray w fun en w' => en = .returned (.bool true) ∧ Below w.heap.size w w' := by
  refine fnStart (n := 49) (e := [(0, vS a), (1, va)]) Tryd.func10 rfl rfl rfl rfl Ends.both ?_
  refine Wk.seq ?_
  refine Wk.region ?_
  refine Ll.box (v := vS a) rfl rfl rfl rfl rfl fun p2 hp2 => ?_
  show Ll _ _ (Own _ _ [(p2, .cells #[.int .i64 a.n, str a.set, str a.rel] 23 (0, 0))]) _ _ ((2, .pointer (some ⟨p2, 0, none⟩)) :: _) _ _ _
  refine Ll.op (v := .bool false) rfl rfl rfl (OpQ.assign rfl rfl) ?_
  refine Ll.nil ?_
  refine Kt.onSub (e' := [(1, va), (2, .pointer (some ⟨p2, 0, none⟩))]) (Sub.cons rfl (Sub.cons rfl Sub.nil)) ?_
  refine Wk.seq ?_
  refine Wk.seq ?_
  refine Wk.regionQ ?_
  refine Lq.op (v := va) rfl rfl rfl (OpQ.move rfl rfl) ?_
  refine Lq.op (v := .int .i64 ((xs.length : Int))) rfl rfl rfl (OpQ.lenRow rfl Tryd.runUnderlying25 rfl (ints_length _) (fun w1 hw1 => Row.own hva hw1)) ?_
  refine Lq.op (v := .bool (decide ((1048576 : Int) < ((xs.length : Int))))) rfl rfl rfl (OpQ.gtr rfl rfl rfl) ?_
  refine Lq.nil ?_
  refine Kt.onSub (e' := [(1, va), (2, .pointer (some ⟨p2, 0, none⟩)), (13, .bool (decide ((1048576 : Int) < ((xs.length : Int)))))]) (Sub.cons rfl (Sub.cons rfl (Sub.cons rfl Sub.nil))) ?_
  refine Wk.cond (b := decide ((1048576 : Int) < ((xs.length : Int)))) rfl (fun h13 => ?_) (fun h13 => ?_)
  · skip
    replace h13 := of_decide_eq_true h13
    refine Wk.seq ?_
    refine Wk.regionQ ?_
    refine Lq.op (v := .bool true) rfl rfl rfl (OpQ.assign rfl rfl) ?_
    refine Lq.nil ?_
    refine Kt.onSub (e' := [(4, .bool true)]) (Sub.cons rfl Sub.nil) ?_
    refine Wk.ret (Kt.end1 rfl rfl fun w' hw => ?_)
    -- ret 0: .bool true
    exact ⟨ret_b (by first | rfl | (simp_all; done) | (simp_all; omega)), hw.below⟩
  · skip
    replace h13 := of_decide_eq_false h13
    refine Wk.skip ?_
    refine Kt.onSub (e' := [(1, va), (2, .pointer (some ⟨p2, 0, none⟩))]) (Sub.cons rfl (Sub.cons rfl Sub.nil)) ?_
    refine Wk.seq ?_
    refine Wk.regionQ ?_
    refine Lq.op (v := .int .i64 1048576) rfl rfl rfl (OpQ.assign rfl rfl) ?_
    refine Lq.nil ?_
    refine Kt.onSub (e' := [(1, va), (2, .pointer (some ⟨p2, 0, none⟩)), (5, .int .i64 1048576)]) (Sub.cons rfl (Sub.cons rfl (Sub.cons rfl Sub.nil))) ?_
    refine Wk.seq ?_
    refine Wk.regionQ ?_
    refine Lq.op (v := vS a) rfl rfl rfl (OpQ.loadBox (cs := #[.int .i64 a.n, str a.set, str a.rel]) 0 rfl Tryd.isAgg23 rfl rfl Tryd.sizeOf23) ?_
    refine Lq.op (v := .int .i64 1048576) rfl rfl rfl (OpQ.move rfl rfl) ?_
    refine Lq.op (v := .int .i64 (szB a 1048576)) rfl rfl rfl (OpQ.call rfl Tryd.call15 rfl Own.stable (fun w1 hw1 => sz_ok a 1048576 w1 (by omega) (by omega) h1a h2a)) ?_
    refine Lq.op (v := .int .i64 (szB a 1048576)) rfl rfl rfl (OpQ.assign rfl rfl) ?_
    refine Lq.nil ?_
    refine Kt.onSub (e' := [(1, va), (2, .pointer (some ⟨p2, 0, none⟩)), (5, .int .i64 (szB a 1048576))]) (Sub.cons rfl (Sub.cons rfl (Sub.cons rfl Sub.nil))) ?_
    refine Wk.seq ?_
    refine Wk.seq ?_
    refine Wk.regionQ ?_
    refine Lq.op (v := .int .i64 (szB a 1048576)) rfl rfl rfl (OpQ.move rfl rfl) ?_
    refine Lq.op (v := .bool (decide ((szB a 1048576) < (0 : Int)))) rfl rfl rfl (OpQ.lss rfl rfl rfl) ?_
    refine Lq.nil ?_
    refine Kt.onSub (e' := [(1, va), (2, .pointer (some ⟨p2, 0, none⟩)), (18, .bool (decide ((szB a 1048576) < (0 : Int))))]) (Sub.cons rfl (Sub.cons rfl (Sub.cons rfl Sub.nil))) ?_
    refine Wk.cond (b := decide ((szB a 1048576) < (0 : Int))) rfl (fun h18 => ?_) (fun h18 => ?_)
    · skip
      replace h18 := of_decide_eq_true h18
      refine Wk.seq ?_
      refine Wk.regionQ ?_
      refine Lq.op (v := .bool true) rfl rfl rfl (OpQ.assign rfl rfl) ?_
      refine Lq.nil ?_
      refine Kt.onSub (e' := [(4, .bool true)]) (Sub.cons rfl Sub.nil) ?_
      refine Wk.ret (Kt.end1 rfl rfl fun w' hw => ?_)
      -- ret 1: .bool true
      exact ⟨ret_b (by first | rfl | (simp_all; done) | (simp_all; omega)), hw.below⟩
    · skip
      replace h18 := of_decide_eq_false h18
      obtain ⟨hsa, hz0a, hz1a⟩ := szB_small (by omega) h18
      refine Wk.skip ?_
      refine Kt.onSub (e' := [(1, va), (2, .pointer (some ⟨p2, 0, none⟩))]) (Sub.cons rfl (Sub.cons rfl Sub.nil)) ?_
      refine Wk.seq ?_
      refine Wk.region ?_
      refine Ll.op (v := vS a) rfl rfl rfl (OpQ.loadBox (cs := #[.int .i64 a.n, str a.set, str a.rel]) 0 rfl Tryd.isAgg23 rfl rfl Tryd.sizeOf23) ?_
      refine Ll.op (v := vS a) rfl rfl rfl (OpQ.call rfl Tryd.call17 rfl Own.stable (fun w1 hw1 => toSt_ok a w1 )) ?_
      refine Ll.op (v := va) rfl rfl rfl (OpQ.move rfl rfl) ?_
      refine Ll.callRow (xs := [.tmp 22]) (m := xs.length) (vs := ints xs) (el := 3) (size := 1) rfl rfl rfl rfl Tryd.call23 rfl (fun w1 hw1 => toInt_ok va xs w1 (Row.own hva hw1) (by omega)) fun p23 cap23 cur23 hp23 hcp23 hlp23 htp23 => ?_
      refine Ll.op (v := .tuple #[str (formOut a xs), .bool (listB a xs)]) rfl rfl rfl (OpQ.call rfl Tryd.call35 rfl Own.stable (fun w1 hw1 => sForm_ok a (.slice (some ⟨p23, 0, none⟩) xs.length cap23) xs w1 hsa (Own.row hw1 (i := 0) rfl (by simpa using htp23) (by simp) hlp23) (by first | (simp; done) | (simp; omega) | omega) loa hia)) ?_
      refine Ll.op (v := .tuple #[str (formOut a xs), .bool (listB a xs)]) rfl rfl rfl (OpQ.move rfl rfl) ?_
      refine Ll.op (v := str (formOut a xs)) rfl rfl rfl (OpQ.extract rfl rfl rfl) ?_
      refine Ll.op (v := .bool (listB a xs)) rfl rfl rfl (OpQ.extract rfl rfl rfl) ?_
      refine Ll.op (v := str (formOut a xs)) rfl rfl rfl (OpQ.assign rfl rfl) ?_
      refine Ll.op (v := .bool (listB a xs)) rfl rfl rfl (OpQ.assign rfl rfl) ?_
      refine Ll.nil ?_
      refine Kt.onSub (e' := [(1, va), (2, .pointer (some ⟨p2, 0, none⟩)), (6, str (formOut a xs)), (7, .bool (listB a xs))]) (Sub.cons rfl (Sub.cons rfl (Sub.cons rfl (Sub.cons rfl Sub.nil)))) ?_
      refine Wk.seq ?_
      refine Wk.region ?_
      refine Ll.op (v := va) rfl rfl rfl (OpQ.move rfl rfl) ?_
      refine Ll.callRow (xs := [.tmp 27]) (m := xs.length) (vs := ints xs) (el := 3) (size := 1) rfl rfl rfl rfl Tryd.call23 rfl (fun w1 hw1 => toInt_ok va xs w1 (Row.own hva hw1) (by omega)) fun p28 cap28 cur28 hp28 hcp28 hlp28 htp28 => ?_
      refine Ll.op (v := .slice (some ⟨p28, 0, none⟩) xs.length cap28) rfl rfl rfl (OpQ.assign rfl rfl) ?_
      refine Ll.nil ?_
      refine Kt.onSub (e' := [(1, va), (2, .pointer (some ⟨p2, 0, none⟩)), (6, str (formOut a xs)), (7, .bool (listB a xs)), (8, .slice (some ⟨p28, 0, none⟩) xs.length cap28)]) (Sub.cons rfl (Sub.cons rfl (Sub.cons rfl (Sub.cons rfl (Sub.cons rfl Sub.nil))))) ?_
      refine Wk.seq ?_
      refine Wk.regionQ ?_
      refine Lq.op (v := vS a) rfl rfl rfl (OpQ.loadBox (cs := #[.int .i64 a.n, str a.set, str a.rel]) 2 rfl Tryd.isAgg23 rfl rfl Tryd.sizeOf23) ?_
      refine Lq.op (v := vS a) rfl rfl rfl (OpQ.call rfl Tryd.call17 rfl Own.stable (fun w1 hw1 => toSt_ok a w1 )) ?_
      refine Lq.op (v := .slice (some ⟨p28, 0, none⟩) xs.length cap28) rfl rfl rfl (OpQ.move rfl rfl) ?_
      refine Lq.op (v := .tuple #[str (formOut a xs), .bool (listB a xs)]) rfl rfl rfl (OpQ.call rfl Tryd.call36 rfl Own.stable (fun w1 hw1 => iForm_ok a (.slice (some ⟨p28, 0, none⟩) xs.length cap28) xs w1 hsa (Own.row hw1 (i := 0) rfl (by simpa using htp28) (by simp) hlp28) (by first | (simp; done) | (simp; omega) | omega))) ?_
      refine Lq.op (v := .tuple #[str (formOut a xs), .bool (listB a xs)]) rfl rfl rfl (OpQ.move rfl rfl) ?_
      refine Lq.op (v := str (formOut a xs)) rfl rfl rfl (OpQ.extract rfl rfl rfl) ?_
      refine Lq.op (v := .bool (listB a xs)) rfl rfl rfl (OpQ.extract rfl rfl rfl) ?_
      refine Lq.op (v := str (formOut a xs)) rfl rfl rfl (OpQ.assign rfl rfl) ?_
      refine Lq.op (v := .bool (listB a xs)) rfl rfl rfl (OpQ.assign rfl rfl) ?_
      refine Lq.nil ?_
      refine Kt.onSub (e' := [(1, va), (6, str (formOut a xs)), (7, .bool (listB a xs)), (8, .slice (some ⟨p28, 0, none⟩) xs.length cap28), (9, str (formOut a xs)), (10, .bool (listB a xs))]) (Sub.cons rfl (Sub.cons rfl (Sub.cons rfl (Sub.cons rfl (Sub.cons rfl (Sub.cons rfl Sub.nil)))))) ?_
      refine Wk.seq ?_
      refine Wk.seq ?_
      refine Wk.regionQ ?_
      refine Lq.op (v := str (formOut a xs)) rfl rfl rfl (OpQ.move rfl rfl) ?_
      refine Lq.op (v := str (formOut a xs)) rfl rfl rfl (OpQ.move rfl rfl) ?_
      refine Lq.op (v := .bool (!((formOut a xs) == (formOut a xs)))) rfl rfl rfl (OpQ.sneq rfl rfl rfl) ?_
      refine Lq.op (v := .bool (!((formOut a xs) == (formOut a xs)))) rfl rfl rfl (OpQ.move rfl rfl) ?_
      refine Lq.bool fun b39 hg39 => ?_
      cases b39
      · skip
        replace hg39 := not_false hg39
        refine Lq.op (v := .bool (listB a xs)) rfl rfl rfl (OpQ.move rfl rfl) ?_
        refine Lq.op (v := .bool (listB a xs)) rfl rfl rfl (OpQ.move rfl rfl) ?_
        refine Lq.op (v := .bool ((listB a xs) != (listB a xs))) rfl rfl rfl (OpQ.bne rfl Tryd.runUnderlying4 rfl rfl) ?_
        refine Lq.op (v := .bool ((listB a xs) != (listB a xs))) rfl rfl rfl (OpQ.pickF rfl rfl rfl) ?_
        refine Lq.nil ?_
        refine Kt.onSub (e' := [(1, va), (8, .slice (some ⟨p28, 0, none⟩) xs.length cap28), (43, .bool ((listB a xs) != (listB a xs)))]) (Sub.cons rfl (Sub.cons rfl (Sub.cons rfl Sub.nil))) ?_
        refine Wk.cond (b := (listB a xs) != (listB a xs)) rfl (fun h43 => ?_) (fun h43 => ?_)
        · skip
          exact absurd h43 (by simp)
        · skip
          refine Wk.skip ?_
          refine Kt.onSub (e' := [(1, va), (8, .slice (some ⟨p28, 0, none⟩) xs.length cap28)]) (Sub.cons rfl (Sub.cons rfl Sub.nil)) ?_
          refine Wk.seq ?_
          refine Wk.seq ?_
          refine Wk.region ?_
          refine Ll.op (v := .slice (some ⟨p28, 0, none⟩) xs.length cap28) rfl rfl rfl (OpQ.move rfl rfl) ?_
          refine Ll.op (v := va) rfl rfl rfl (OpQ.move rfl rfl) ?_
          refine Ll.callRow (xs := [.tmp 45]) (m := xs.length) (vs := ints xs) (el := 3) (size := 1) rfl rfl rfl rfl Tryd.call23 rfl (fun w1 hw1 => toInt_ok va xs w1 (Row.own hva hw1) (by omega)) fun p46 cap46 cur46 hp46 hcp46 hlp46 htp46 => ?_
          refine Ll.op (v := .bool true) rfl rfl rfl (OpQ.call rfl Tryd.call19 rfl Own.stable (fun w1 hw1 => known_b (beq_self_eq_true _) (eqInt_ok (.slice (some ⟨p28, 0, none⟩) xs.length cap28) (.slice (some ⟨p46, 0, none⟩) xs.length cap46) xs xs w1 (Own.row hw1 (i := 1) rfl (by simpa using htp28) (by simp) hlp28) (Own.row hw1 (i := 0) rfl (by simpa using htp46) (by simp) hlp46) (by first | (simp; done) | (simp; omega) | omega)))) ?_
          refine Ll.op (v := .bool false) rfl rfl rfl (OpQ.notT rfl rfl) ?_
          refine Ll.nil ?_
          refine Kt.onSub (e' := [(48, .bool false)]) (Sub.cons rfl Sub.nil) ?_
          refine Wk.condF rfl ?_
          refine Wk.skip ?_
          refine Kt.onSub (e' := []) Sub.nil ?_
          refine Wk.seq ?_
          refine Wk.regionQ ?_
          refine Lq.op (v := .bool true) rfl rfl rfl (OpQ.assign rfl rfl) ?_
          refine Lq.nil ?_
          refine Kt.onSub (e' := [(4, .bool true)]) (Sub.cons rfl Sub.nil) ?_
          refine Wk.ret (Kt.end1 rfl rfl fun w' hw => ?_)
          -- ret 2: .bool true
          exact ⟨ret_b (by first | rfl | (simp_all; done) | (simp_all; omega)), hw.below⟩
      · skip
        replace hg39 := not_true hg39
        exact absurd hg39 (by simp)

end Go.Proofs.YtcimgnhebhhdiaaDoor
