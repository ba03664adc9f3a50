/-
  Pebbles, by walks.
-/
import Derived.Test.YtcanofailfbllaaDoorPlain11
import Derived.Test.YtcanofailfbllaaDoorAtoms
import Derived.Test.YtcanofailfbllaaDoorBase
namespace Go.Proofs.YtcanofailfbllaaDoor
open Go.RowKit Go.Wk
set_option linter.unusedSimpArgs false

set_option maxHeartbeats 400000 in
/-- spec.l5Atoms -/
theorem l5Atoms_ok (a : St) (va : Value) (xs : List Int) (w : World) (ha : a.Fine) (hva : Ints w va xs) (hA : a.Els xs) (hl7 : xs.length ≤ 7) :
    Calls Tryd.prog 103 [vS a, va].toArray w fun en w' => en = .returned (str (atomBits a xs)) ∧ Below w.heap.size w w' := by
  refine fnStart (n := 65) (e := [(0, vS a), (1, va)]) Tryd.func103 rfl rfl rfl rfl Ends.both ?_
  refine Wk.seq ?_
  refine Wk.region ?_
  refine Ll.box (v := vS a) rfl rfl rfl rfl rfl fun p2 hp2 => ?_
  show Ll _ _ (Own _ _ [(p2, .cells #[.int .i64 a.n, str a.set, str a.rel] 26 (0, 0))]) _ _ ((2, .pointer (some ⟨p2, 0, none⟩)) :: _) _ _ _
  refine Ll.op (v := str ([])) rfl rfl rfl (OpQ.assign rfl rfl) ?_
  refine Ll.nil ?_
  refine Kt.onSub (e' := [(1, va), (2, .pointer (some ⟨p2, 0, none⟩))]) (Sub.cons rfl (Sub.cons rfl Sub.nil)) ?_
  refine Wk.seq ?_
  refine Wk.regionQ ?_
  refine Lq.op (v := str ([])) rfl rfl rfl (OpQ.assign rfl rfl) ?_
  refine Lq.nil ?_
  refine Kt.onSub (e' := [(1, va), (2, .pointer (some ⟨p2, 0, none⟩)), (5, str ([]))]) (Sub.cons rfl (Sub.cons rfl (Sub.cons rfl Sub.nil))) ?_
  refine Wk.seq ?_
  refine Wk.seq ?_
  refine Wk.regionQ ?_
  refine Lq.op (v := .int .i64 0) rfl rfl rfl (OpQ.assign rfl rfl) ?_
  refine Lq.nil ?_
  refine Kt.onSub (e' := [(1, va), (2, .pointer (some ⟨p2, 0, none⟩)), (5, str ([])), (6, .int .i64 0)]) (Sub.cons rfl (Sub.cons rfl (Sub.cons rfl (Sub.cons rfl Sub.nil)))) ?_
  refine Wk.block ?_
  refine Wk.loop (σ := Nat) (fun k => k ≤ xs.length) (fun k => [(1, va), (2, .pointer (some ⟨p2, 0, none⟩)), (5, str (bitsTo a xs k)), (6, .int .i64 ((k : Int)))]) (fun k => Own w.heap.size w [(p2, .cells #[.int .i64 a.n, str a.set, str a.rel] 26 (0, 0))]) (fun k => xs.length - k) (0) (by omega) (Sub.cons rfl (Sub.cons rfl (Sub.cons rfl (Sub.cons rfl Sub.nil)))) (fun _ h => h) ?_
  rintro k hk
  refine Wk.seq ?_
  refine Wk.seq ?_
  refine Wk.regionQ ?_
  refine Lq.op (v := .int .i64 ((k : Int))) rfl rfl rfl (OpQ.move rfl rfl) ?_
  refine Lq.op (v := va) rfl rfl rfl (OpQ.move rfl rfl) ?_
  refine Lq.op (v := .int .i64 ((xs.length : Int))) rfl rfl rfl (OpQ.lenRow rfl Tryd.runUnderlying31 rfl (ints_length _) (fun w1 hw1 => Row.own hva hw1)) ?_
  refine Lq.op (v := .bool (decide (((k : Int)) < ((xs.length : Int))))) rfl rfl rfl (OpQ.lss rfl rfl rfl) ?_
  refine Lq.nil ?_
  refine Kt.onSub (e' := [(1, va), (2, .pointer (some ⟨p2, 0, none⟩)), (5, str (bitsTo a xs k)), (6, .int .i64 ((k : Int))), (11, .bool (decide (((k : Int)) < ((xs.length : Int)))))]) (Sub.cons rfl (Sub.cons rfl (Sub.cons rfl (Sub.cons rfl (Sub.cons rfl Sub.nil))))) ?_
  refine Wk.cond (b := decide (((k : Int)) < ((xs.length : Int)))) rfl (fun h11 => ?_) (fun h11 => ?_)
  · skip
    replace h11 := of_decide_eq_true h11
    have hb := bits_small (a := a) (xs := xs) (i := k) (by omega)
    refine Wk.skip ?_
    refine Kt.onSub (e' := [(1, va), (2, .pointer (some ⟨p2, 0, none⟩)), (5, str (bitsTo a xs k)), (6, .int .i64 ((k : Int)))]) (Sub.cons rfl (Sub.cons rfl (Sub.cons rfl (Sub.cons rfl Sub.nil)))) ?_
    refine Wk.seq ?_
    refine Wk.block ?_
    refine Wk.seq ?_
    refine Wk.regionD Base.mixed (fun _ h => h.drawn) (by kernel_rfl) ?_
    refine Lq.op (v := str (bitsTo a xs k)) rfl rfl rfl (OpQ.move rfl rfl) ?_
    refine Lq.op (v := vS a) rfl rfl rfl (OpQ.loadBox (cs := #[.int .i64 a.n, str a.set, str a.rel]) 0 rfl Tryd.isAgg26 rfl rfl Tryd.sizeOf26) ?_
    refine Lq.op (v := va) rfl rfl rfl (OpQ.move rfl rfl) ?_
    refine Lq.op (v := .int .i64 ((k : Int))) rfl rfl rfl (OpQ.move rfl rfl) ?_
    refine Lq.op (v := .pointer (some (sAt va ((k : Int))))) rfl rfl rfl (OpQ.atRow rfl Tryd.runUnderlying31 Tryd.sizeOf3 rfl rfl (by omega) (by rw [ints_length]; omega) (fun w1 hw1 => Row.own hva hw1)) ?_
    refine Lq.op (v := .int .i64 (xs.getD (((k : Int)).toNat) 0)) rfl rfl rfl (OpQ.load1 rfl Tryd.isAgg3 rfl (fun w1 hw1 => Ints.cell (Row.own hva hw1) (by omega) (by omega))) ?_
    refine Lq.op (v := .bool (a.inSet (xs.getD (((k : Int)).toNat) 0))) rfl rfl rfl (OpQ.call rfl Tryd.call117 rfl Own.stable (fun w1 hw1 => l1Set_ok a (xs.getD (((k : Int)).toNat) 0) w1 ha (by first | assumption | exact St.Els.at (by assumption) (by omega) (by omega)))) ?_
    refine Lq.op (v := str ((if a.inSet (xs.getD (((k : Int)).toNat) 0) then [49] else [48]))) rfl rfl rfl (OpQ.call rfl Tryd.call97 rfl Own.stable (fun w1 hw1 => l1Bit_ok (a.inSet (xs.getD (((k : Int)).toNat) 0)) w1 )) ?_
    refine Lq.op (v := str ((bitsTo a xs k) ++ ((if a.inSet (xs.getD (((k : Int)).toNat) 0) then [49] else [48])))) rfl rfl rfl (OpQ.sadd rfl rfl rfl (by simp only [List.length_append, pairBits_length, bit_len, bitS_length, List.length_cons, List.length_nil]; omega)) ?_
    refine Lq.op (v := str ((bitsTo a xs k) ++ ((if a.inSet (xs.getD (((k : Int)).toNat) 0) then [49] else [48])))) rfl rfl rfl (OpQ.assign rfl rfl) ?_
    refine Lq.nil ?_
    refine Kt.onSub (e' := [(1, va), (2, .pointer (some ⟨p2, 0, none⟩)), (5, str ((bitsTo a xs k) ++ ((if a.inSet (xs.getD (((k : Int)).toNat) 0) then [49] else [48])))), (6, .int .i64 ((k : Int)))]) (Sub.cons rfl (Sub.cons rfl (Sub.cons rfl (Sub.cons rfl Sub.nil)))) ?_
    refine Wk.seq ?_
    refine Wk.regionQ ?_
    refine Lq.op (v := .int .i64 0) rfl rfl rfl (OpQ.assign rfl rfl) ?_
    refine Lq.nil ?_
    refine Kt.onSub (e' := [(1, va), (2, .pointer (some ⟨p2, 0, none⟩)), (5, str ((bitsTo a xs k) ++ ((if a.inSet (xs.getD (((k : Int)).toNat) 0) then [49] else [48])))), (6, .int .i64 ((k : Int))), (7, .int .i64 0)]) (Sub.cons rfl (Sub.cons rfl (Sub.cons rfl (Sub.cons rfl (Sub.cons rfl Sub.nil))))) ?_
    refine Wk.block ?_
    refine Wk.loop (σ := Nat) (fun j => j ≤ k + 1) (fun j => [(1, va), (2, .pointer (some ⟨p2, 0, none⟩)), (5, str ((bitsTo a xs k ++ bitS (a.inSet (xs.getD k 0))) ++ pairBits a xs k j)), (6, .int .i64 ((k : Int))), (7, .int .i64 ((j : Int)))]) (fun j => Own w.heap.size w [(p2, .cells #[.int .i64 a.n, str a.set, str a.rel] 26 (0, 0))]) (fun j => k + 1 - j) (0) (by omega) (Sub.cons rfl (Sub.cons rfl (Sub.cons (by simp [pairBits, List.lookup]; rfl) (Sub.cons rfl (Sub.cons rfl Sub.nil))))) (fun _ h => h) ?_
    rintro j hj
    refine Wk.seq ?_
    refine Wk.seq ?_
    refine Wk.regionQ ?_
    refine Lq.op (v := .int .i64 ((j : Int))) rfl rfl rfl (OpQ.move rfl rfl) ?_
    refine Lq.op (v := .int .i64 ((k : Int))) rfl rfl rfl (OpQ.move rfl rfl) ?_
    refine Lq.op (v := .bool (decide (((j : Int)) ≤ ((k : Int))))) rfl rfl rfl (OpQ.leq rfl rfl rfl) ?_
    refine Lq.nil ?_
    refine Kt.onSub (e' := [(1, va), (2, .pointer (some ⟨p2, 0, none⟩)), (5, str ((bitsTo a xs k ++ bitS (a.inSet (xs.getD k 0))) ++ pairBits a xs k j)), (6, .int .i64 ((k : Int))), (7, .int .i64 ((j : Int))), (25, .bool (decide (((j : Int)) ≤ ((k : Int)))))]) (Sub.cons rfl (Sub.cons rfl (Sub.cons rfl (Sub.cons rfl (Sub.cons rfl (Sub.cons rfl Sub.nil)))))) ?_
    refine Wk.cond (b := decide (((j : Int)) ≤ ((k : Int)))) rfl (fun h25 => ?_) (fun h25 => ?_)
    · skip
      replace h25 := of_decide_eq_true h25
      refine Wk.skip ?_
      refine Kt.onSub (e' := [(1, va), (2, .pointer (some ⟨p2, 0, none⟩)), (5, str ((bitsTo a xs k ++ bitS (a.inSet (xs.getD k 0))) ++ pairBits a xs k j)), (6, .int .i64 ((k : Int))), (7, .int .i64 ((j : Int)))]) (Sub.cons rfl (Sub.cons rfl (Sub.cons rfl (Sub.cons rfl (Sub.cons rfl Sub.nil))))) ?_
      refine Wk.seq ?_
      refine Wk.block ?_
      refine Wk.regionD Base.mixed (fun _ h => h.drawn) (by kernel_rfl) ?_
      refine Lq.op (v := str ((bitsTo a xs k ++ bitS (a.inSet (xs.getD k 0))) ++ pairBits a xs k j)) rfl rfl rfl (OpQ.move rfl rfl) ?_
      refine Lq.op (v := va) rfl rfl rfl (OpQ.move rfl rfl) ?_
      refine Lq.op (v := .int .i64 ((k : Int))) rfl rfl rfl (OpQ.move rfl rfl) ?_
      refine Lq.op (v := .pointer (some (sAt va ((k : Int))))) rfl rfl rfl (OpQ.atRow rfl Tryd.runUnderlying31 Tryd.sizeOf3 rfl rfl (by omega) (by rw [ints_length]; omega) (fun w1 hw1 => Row.own hva hw1)) ?_
      refine Lq.op (v := .int .i64 (xs.getD (((k : Int)).toNat) 0)) rfl rfl rfl (OpQ.load1 rfl Tryd.isAgg3 rfl (fun w1 hw1 => Ints.cell (Row.own hva hw1) (by omega) (by omega))) ?_
      refine Lq.op (v := va) rfl rfl rfl (OpQ.move rfl rfl) ?_
      refine Lq.op (v := .int .i64 ((j : Int))) rfl rfl rfl (OpQ.move rfl rfl) ?_
      refine Lq.op (v := .pointer (some (sAt va ((j : Int))))) rfl rfl rfl (OpQ.atRow rfl Tryd.runUnderlying31 Tryd.sizeOf3 rfl rfl (by omega) (by rw [ints_length]; omega) (fun w1 hw1 => Row.own hva hw1)) ?_
      refine Lq.op (v := .int .i64 (xs.getD (((j : Int)).toNat) 0)) rfl rfl rfl (OpQ.load1 rfl Tryd.isAgg3 rfl (fun w1 hw1 => Ints.cell (Row.own hva hw1) (by omega) (by omega))) ?_
      refine Lq.op (v := .bool (decide ((xs.getD (((k : Int)).toNat) 0) = (xs.getD (((j : Int)).toNat) 0)))) rfl rfl rfl (OpQ.eql rfl rfl rfl) ?_
      refine Lq.op (v := str ((if decide ((xs.getD (((k : Int)).toNat) 0) = (xs.getD (((j : Int)).toNat) 0)) then [49] else [48]))) rfl rfl rfl (OpQ.call rfl Tryd.call97 rfl Own.stable (fun w1 hw1 => l1Bit_ok (decide ((xs.getD (((k : Int)).toNat) 0) = (xs.getD (((j : Int)).toNat) 0))) w1 )) ?_
      refine Lq.op (v := str (((bitsTo a xs k ++ bitS (a.inSet (xs.getD k 0))) ++ pairBits a xs k j) ++ ((if decide ((xs.getD (((k : Int)).toNat) 0) = (xs.getD (((j : Int)).toNat) 0)) then [49] else [48])))) rfl rfl rfl (OpQ.sadd rfl rfl rfl (by simp only [List.length_append, pairBits_length, bit_len, bitS_length, List.length_cons, List.length_nil]; omega)) ?_
      refine Lq.op (v := vS a) rfl rfl rfl (OpQ.loadBox (cs := #[.int .i64 a.n, str a.set, str a.rel]) 0 rfl Tryd.isAgg26 rfl rfl Tryd.sizeOf26) ?_
      refine Lq.op (v := va) rfl rfl rfl (OpQ.move rfl rfl) ?_
      refine Lq.op (v := .int .i64 ((k : Int))) rfl rfl rfl (OpQ.move rfl rfl) ?_
      refine Lq.op (v := .pointer (some (sAt va ((k : Int))))) rfl rfl rfl (OpQ.atRow rfl Tryd.runUnderlying31 Tryd.sizeOf3 rfl rfl (by omega) (by rw [ints_length]; omega) (fun w1 hw1 => Row.own hva hw1)) ?_
      refine Lq.op (v := .int .i64 (xs.getD (((k : Int)).toNat) 0)) rfl rfl rfl (OpQ.load1 rfl Tryd.isAgg3 rfl (fun w1 hw1 => Ints.cell (Row.own hva hw1) (by omega) (by omega))) ?_
      refine Lq.op (v := va) rfl rfl rfl (OpQ.move rfl rfl) ?_
      refine Lq.op (v := .int .i64 ((j : Int))) rfl rfl rfl (OpQ.move rfl rfl) ?_
      refine Lq.op (v := .pointer (some (sAt va ((j : Int))))) rfl rfl rfl (OpQ.atRow rfl Tryd.runUnderlying31 Tryd.sizeOf3 rfl rfl (by omega) (by rw [ints_length]; omega) (fun w1 hw1 => Row.own hva hw1)) ?_
      refine Lq.op (v := .int .i64 (xs.getD (((j : Int)).toNat) 0)) rfl rfl rfl (OpQ.load1 rfl Tryd.isAgg3 rfl (fun w1 hw1 => Ints.cell (Row.own hva hw1) (by omega) (by omega))) ?_
      refine Lq.op (v := .bool (a.inRel (xs.getD (((k : Int)).toNat) 0) (xs.getD (((j : Int)).toNat) 0))) rfl rfl rfl (OpQ.call rfl Tryd.call118 rfl Own.stable (fun w1 hw1 => l1Rel_ok a (xs.getD (((k : Int)).toNat) 0) (xs.getD (((j : Int)).toNat) 0) w1 ha (by first | assumption | exact St.Els.at (by assumption) (by omega) (by omega)) (by first | assumption | exact St.Els.at (by assumption) (by omega) (by omega)))) ?_
      refine Lq.op (v := str ((if a.inRel (xs.getD (((k : Int)).toNat) 0) (xs.getD (((j : Int)).toNat) 0) then [49] else [48]))) rfl rfl rfl (OpQ.call rfl Tryd.call97 rfl Own.stable (fun w1 hw1 => l1Bit_ok (a.inRel (xs.getD (((k : Int)).toNat) 0) (xs.getD (((j : Int)).toNat) 0)) w1 )) ?_
      refine Lq.op (v := str ((((bitsTo a xs k ++ bitS (a.inSet (xs.getD k 0))) ++ pairBits a xs k j) ++ ((if decide ((xs.getD (((k : Int)).toNat) 0) = (xs.getD (((j : Int)).toNat) 0)) then [49] else [48]))) ++ ((if a.inRel (xs.getD (((k : Int)).toNat) 0) (xs.getD (((j : Int)).toNat) 0) then [49] else [48])))) rfl rfl rfl (OpQ.sadd rfl rfl rfl (by simp only [List.length_append, pairBits_length, bit_len, bitS_length, List.length_cons, List.length_nil]; omega)) ?_
      refine Lq.op (v := vS a) rfl rfl rfl (OpQ.loadBox (cs := #[.int .i64 a.n, str a.set, str a.rel]) 0 rfl Tryd.isAgg26 rfl rfl Tryd.sizeOf26) ?_
      refine Lq.op (v := va) rfl rfl rfl (OpQ.move rfl rfl) ?_
      refine Lq.op (v := .int .i64 ((j : Int))) rfl rfl rfl (OpQ.move rfl rfl) ?_
      refine Lq.op (v := .pointer (some (sAt va ((j : Int))))) rfl rfl rfl (OpQ.atRow rfl Tryd.runUnderlying31 Tryd.sizeOf3 rfl rfl (by omega) (by rw [ints_length]; omega) (fun w1 hw1 => Row.own hva hw1)) ?_
      refine Lq.op (v := .int .i64 (xs.getD (((j : Int)).toNat) 0)) rfl rfl rfl (OpQ.load1 rfl Tryd.isAgg3 rfl (fun w1 hw1 => Ints.cell (Row.own hva hw1) (by omega) (by omega))) ?_
      refine Lq.op (v := va) rfl rfl rfl (OpQ.move rfl rfl) ?_
      refine Lq.op (v := .int .i64 ((k : Int))) rfl rfl rfl (OpQ.move rfl rfl) ?_
      refine Lq.op (v := .pointer (some (sAt va ((k : Int))))) rfl rfl rfl (OpQ.atRow rfl Tryd.runUnderlying31 Tryd.sizeOf3 rfl rfl (by omega) (by rw [ints_length]; omega) (fun w1 hw1 => Row.own hva hw1)) ?_
      refine Lq.op (v := .int .i64 (xs.getD (((k : Int)).toNat) 0)) rfl rfl rfl (OpQ.load1 rfl Tryd.isAgg3 rfl (fun w1 hw1 => Ints.cell (Row.own hva hw1) (by omega) (by omega))) ?_
      refine Lq.op (v := .bool (a.inRel (xs.getD (((j : Int)).toNat) 0) (xs.getD (((k : Int)).toNat) 0))) rfl rfl rfl (OpQ.call rfl Tryd.call118 rfl Own.stable (fun w1 hw1 => l1Rel_ok a (xs.getD (((j : Int)).toNat) 0) (xs.getD (((k : Int)).toNat) 0) w1 ha (by first | assumption | exact St.Els.at (by assumption) (by omega) (by omega)) (by first | assumption | exact St.Els.at (by assumption) (by omega) (by omega)))) ?_
      refine Lq.op (v := str ((if a.inRel (xs.getD (((j : Int)).toNat) 0) (xs.getD (((k : Int)).toNat) 0) then [49] else [48]))) rfl rfl rfl (OpQ.call rfl Tryd.call97 rfl Own.stable (fun w1 hw1 => l1Bit_ok (a.inRel (xs.getD (((j : Int)).toNat) 0) (xs.getD (((k : Int)).toNat) 0)) w1 )) ?_
      refine Lq.op (v := str (((((bitsTo a xs k ++ bitS (a.inSet (xs.getD k 0))) ++ pairBits a xs k j) ++ ((if decide ((xs.getD (((k : Int)).toNat) 0) = (xs.getD (((j : Int)).toNat) 0)) then [49] else [48]))) ++ ((if a.inRel (xs.getD (((k : Int)).toNat) 0) (xs.getD (((j : Int)).toNat) 0) then [49] else [48]))) ++ ((if a.inRel (xs.getD (((j : Int)).toNat) 0) (xs.getD (((k : Int)).toNat) 0) then [49] else [48])))) rfl rfl rfl (OpQ.sadd rfl rfl rfl (by simp only [List.length_append, pairBits_length, bit_len, bitS_length, List.length_cons, List.length_nil]; omega)) ?_
      refine Lq.op (v := str (((((bitsTo a xs k ++ bitS (a.inSet (xs.getD k 0))) ++ pairBits a xs k j) ++ ((if decide ((xs.getD (((k : Int)).toNat) 0) = (xs.getD (((j : Int)).toNat) 0)) then [49] else [48]))) ++ ((if a.inRel (xs.getD (((k : Int)).toNat) 0) (xs.getD (((j : Int)).toNat) 0) then [49] else [48]))) ++ ((if a.inRel (xs.getD (((j : Int)).toNat) 0) (xs.getD (((k : Int)).toNat) 0) then [49] else [48])))) rfl rfl rfl (OpQ.assign rfl rfl) ?_
      refine Lq.nil ?_
      refine Kt.onSub (e' := [(1, va), (2, .pointer (some ⟨p2, 0, none⟩)), (5, str (((((bitsTo a xs k ++ bitS (a.inSet (xs.getD k 0))) ++ pairBits a xs k j) ++ ((if decide ((xs.getD (((k : Int)).toNat) 0) = (xs.getD (((j : Int)).toNat) 0)) then [49] else [48]))) ++ ((if a.inRel (xs.getD (((k : Int)).toNat) 0) (xs.getD (((j : Int)).toNat) 0) then [49] else [48]))) ++ ((if a.inRel (xs.getD (((j : Int)).toNat) 0) (xs.getD (((k : Int)).toNat) 0) then [49] else [48])))), (6, .int .i64 ((k : Int))), (7, .int .i64 ((j : Int)))]) (Sub.cons rfl (Sub.cons rfl (Sub.cons rfl (Sub.cons rfl (Sub.cons rfl Sub.nil))))) ?_
      refine Wk.regionQ ?_
      refine Lq.op (v := .int .i64 ((j : Int))) rfl rfl rfl (OpQ.move rfl rfl) ?_
      refine Lq.op (v := .int .i64 (((j : Int)) + (1 : Int))) rfl rfl rfl (OpQ.add rfl rfl rfl (by omega) (by omega)) ?_
      refine Lq.op (v := .int .i64 (((j : Int)) + (1 : Int))) rfl rfl rfl (OpQ.assign rfl rfl) ?_
      refine Lq.nil ?_
      refine Kt.again (j + 1) (by omega) (by omega) (Sub.cons rfl (Sub.cons rfl (Sub.cons (by rw [pair_step]; rfl) (Sub.cons rfl (Sub.cons rfl Sub.nil))))) (fun _ h => h)
    · skip
      replace h25 := of_decide_eq_false h25
      refine Wk.exit rfl ?_
      refine Kt.onSub (e' := [(1, va), (2, .pointer (some ⟨p2, 0, none⟩)), (5, str ((bitsTo a xs k ++ bitS (a.inSet (xs.getD k 0))) ++ pairBits a xs k j)), (6, .int .i64 ((k : Int)))]) (Sub.cons rfl (Sub.cons rfl (Sub.cons rfl (Sub.cons rfl Sub.nil)))) ?_
      refine Wk.regionQ ?_
      refine Lq.op (v := .int .i64 ((k : Int))) rfl rfl rfl (OpQ.move rfl rfl) ?_
      refine Lq.op (v := .int .i64 (((k : Int)) + (1 : Int))) rfl rfl rfl (OpQ.add rfl rfl rfl (by omega) (by omega)) ?_
      refine Lq.op (v := .int .i64 (((k : Int)) + (1 : Int))) rfl rfl rfl (OpQ.assign rfl rfl) ?_
      refine Lq.nil ?_
      refine Kt.again (k + 1) (by omega) (by omega) (Sub.cons rfl (Sub.cons rfl (Sub.cons (by rw [show j = k + 1 from by omega]; rfl) (Sub.cons rfl Sub.nil)))) (fun _ h => h)
  · skip
    replace h11 := of_decide_eq_false h11
    refine Wk.exit rfl ?_
    refine Kt.onSub (e' := [(5, str (bitsTo a xs k))]) (Sub.cons rfl Sub.nil) ?_
    refine Wk.seq ?_
    refine Wk.regionQ ?_
    refine Lq.op (v := str (bitsTo a xs k)) rfl rfl rfl (OpQ.move rfl rfl) ?_
    refine Lq.op (v := str (bitsTo a xs k)) rfl rfl rfl (OpQ.assign rfl rfl) ?_
    refine Lq.nil ?_
    refine Kt.onSub (e' := [(4, str (bitsTo a xs k))]) (Sub.cons rfl Sub.nil) ?_
    refine Wk.ret (Kt.end1 rfl rfl fun w' hw => ?_)
    -- ret 0: str (bitsTo a xs k)
    exact ⟨ret_s (by rw [show k = xs.length from by omega]; rfl), hw.below⟩

set_option maxHeartbeats 400000 in
/-- spec.l7Pebbles -/
theorem l7Pebbles_ok (a : St) (va : Value) (xs : List Int) (w : World) (hsa : a.Small) (hva : Ints w va xs) (hs : xs.length ≤ 140737488355328) (loa : -9223372036854775808 ≤ a.n) (hia : a.n ≤ 9223372036854775807) :
    Calls Tryd.prog 122 [vS a, va].toArray w fun en w' => en = .returned (.bool (pebB a xs)) ∧ Below w.heap.size w w' := by
  refine fnStart (n := 28) (e := [(0, vS a), (1, va)]) Tryd.func122 rfl rfl rfl rfl Ends.both ?_
  refine Wk.seq ?_
  refine Wk.region ?_
  refine Ll.box (v := vS a) rfl rfl rfl rfl rfl fun p2 hp2 => ?_
  show Ll _ _ (Own _ _ [(p2, .cells #[.int .i64 a.n, str a.set, str a.rel] 26 (0, 0))]) _ _ ((2, .pointer (some ⟨p2, 0, none⟩)) :: _) _ _ _
  refine Ll.op (v := .bool false) rfl rfl rfl (OpQ.assign rfl rfl) ?_
  refine Ll.nil ?_
  refine Kt.onSub (e' := [(1, va), (2, .pointer (some ⟨p2, 0, none⟩))]) (Sub.cons rfl (Sub.cons rfl Sub.nil)) ?_
  refine Wk.seq ?_
  refine Wk.seq ?_
  refine Wk.regionQ ?_
  refine Lq.op (v := .int .i64 0) rfl rfl rfl (OpQ.assign rfl rfl) ?_
  refine Lq.nil ?_
  refine Kt.onSub (e' := [(1, va), (2, .pointer (some ⟨p2, 0, none⟩)), (5, .int .i64 0)]) (Sub.cons rfl (Sub.cons rfl (Sub.cons rfl Sub.nil))) ?_
  refine Wk.block ?_
  refine Wk.loop (σ := Nat) (fun k => k ≤ xs.length ∧ ∀ i : Nat, i < k → inB (xs.getD i 0) (-1) (pred64 a.n) = true) (fun k => [(1, va), (2, .pointer (some ⟨p2, 0, none⟩)), (5, .int .i64 ((k : Int)))]) (fun k => Own w.heap.size w [(p2, .cells #[.int .i64 a.n, str a.set, str a.rel] 26 (0, 0))]) (fun k => xs.length - k) (0) ⟨by omega, fun i hi => absurd hi (by omega)⟩ (Sub.cons rfl (Sub.cons rfl (Sub.cons rfl Sub.nil))) (fun _ h => h) ?_
  rintro k ⟨hk, hall⟩
  refine Wk.seq ?_
  refine Wk.seq ?_
  refine Wk.regionQ ?_
  refine Lq.op (v := .int .i64 ((k : Int))) rfl rfl rfl (OpQ.move rfl rfl) ?_
  refine Lq.op (v := va) rfl rfl rfl (OpQ.move rfl rfl) ?_
  refine Lq.op (v := .int .i64 ((xs.length : Int))) rfl rfl rfl (OpQ.lenRow rfl Tryd.runUnderlying31 rfl (ints_length _) (fun w1 hw1 => Row.own hva hw1)) ?_
  refine Lq.op (v := .bool (decide (((k : Int)) < ((xs.length : Int))))) rfl rfl rfl (OpQ.lss rfl rfl rfl) ?_
  refine Lq.nil ?_
  refine Kt.onSub (e' := [(1, va), (2, .pointer (some ⟨p2, 0, none⟩)), (5, .int .i64 ((k : Int))), (9, .bool (decide (((k : Int)) < ((xs.length : Int)))))]) (Sub.cons rfl (Sub.cons rfl (Sub.cons rfl (Sub.cons rfl Sub.nil)))) ?_
  refine Wk.cond (b := decide (((k : Int)) < ((xs.length : Int)))) rfl (fun h9 => ?_) (fun h9 => ?_)
  · skip
    replace h9 := of_decide_eq_true h9
    refine Wk.skip ?_
    refine Kt.onSub (e' := [(1, va), (2, .pointer (some ⟨p2, 0, none⟩)), (5, .int .i64 ((k : Int)))]) (Sub.cons rfl (Sub.cons rfl (Sub.cons rfl Sub.nil))) ?_
    refine Wk.seq ?_
    refine Wk.block ?_
    refine Wk.seq ?_
    refine Wk.regionD Base.mixed (fun _ h => h.drawn) (by kernel_rfl) ?_
    refine Lq.op (v := va) rfl rfl rfl (OpQ.move rfl rfl) ?_
    refine Lq.op (v := .int .i64 ((k : Int))) rfl rfl rfl (OpQ.move rfl rfl) ?_
    refine Lq.op (v := .pointer (some (sAt va ((k : Int))))) rfl rfl rfl (OpQ.atRow rfl Tryd.runUnderlying31 Tryd.sizeOf3 rfl rfl (by omega) (by rw [ints_length]; omega) (fun w1 hw1 => Row.own hva hw1)) ?_
    refine Lq.op (v := .int .i64 (xs.getD (((k : Int)).toNat) 0)) rfl rfl rfl (OpQ.load1 rfl Tryd.isAgg3 rfl (fun w1 hw1 => Ints.cell (Row.own hva hw1) (by omega) (by omega))) ?_
    refine Lq.op (v := .pointer (some ⟨p2, 0, none⟩)) rfl rfl rfl (OpQ.fieldAddr rfl Tryd.runUnderlying26 rfl Tryd.sizeOf3 rfl rfl) ?_
    refine Lq.op (v := .int .i64 a.n) rfl rfl rfl (OpQ.loadOwn 0 rfl Tryd.isAgg3 rfl rfl rfl) ?_
    refine Lq.op (v := .int .i64 (pred64 a.n)) rfl rfl rfl (OpQ.pred rfl rfl rfl (by omega) (by omega)) ?_
    refine Lq.op (v := .bool (inB (xs.getD (((k : Int)).toNat) 0) (-1) (pred64 a.n))) rfl rfl rfl (OpQ.call rfl Tryd.call52 rfl Own.stable (fun w1 hw1 => l1In_ok (xs.getD (((k : Int)).toNat) 0) (-1) (pred64 a.n) w1 )) ?_
    refine Lq.op (v := .bool (!(inB (xs.getD (((k : Int)).toNat) 0) (-1) (pred64 a.n)))) rfl rfl rfl (OpQ.not rfl rfl) ?_
    refine Lq.nil ?_
    refine Kt.onSub (e' := [(1, va), (2, .pointer (some ⟨p2, 0, none⟩)), (5, .int .i64 ((k : Int))), (20, .bool (!(inB (xs.getD (((k : Int)).toNat) 0) (-1) (pred64 a.n))))]) (Sub.cons rfl (Sub.cons rfl (Sub.cons rfl (Sub.cons rfl Sub.nil)))) ?_
    refine Wk.cond (b := !(inB (xs.getD (((k : Int)).toNat) 0) (-1) (pred64 a.n))) rfl (fun h20 => ?_) (fun h20 => ?_)
    · skip
      replace h20 := not_true h20
      refine Wk.seq ?_
      refine Wk.regionQ ?_
      refine Lq.op (v := .bool false) rfl rfl rfl (OpQ.assign rfl rfl) ?_
      refine Lq.nil ?_
      refine Kt.onSub (e' := [(4, .bool false)]) (Sub.cons rfl Sub.nil) ?_
      refine Wk.ret (Kt.end1 rfl rfl fun w' hw => ?_)
      -- ret 0: .bool false
      exact ⟨ret_b (peb_no (i := k) (by omega) (by simpa using h20)).symm, hw.below⟩
    · skip
      replace h20 := not_false h20
      refine Wk.skip ?_
      refine Kt.onSub (e' := [(1, va), (2, .pointer (some ⟨p2, 0, none⟩)), (5, .int .i64 ((k : Int)))]) (Sub.cons rfl (Sub.cons rfl (Sub.cons rfl Sub.nil))) ?_
      refine Wk.regionQ ?_
      refine Lq.op (v := .int .i64 ((k : Int))) rfl rfl rfl (OpQ.move rfl rfl) ?_
      refine Lq.op (v := .int .i64 (((k : Int)) + (1 : Int))) rfl rfl rfl (OpQ.add rfl rfl rfl (by omega) (by omega)) ?_
      refine Lq.op (v := .int .i64 (((k : Int)) + (1 : Int))) rfl rfl rfl (OpQ.assign rfl rfl) ?_
      refine Lq.nil ?_
      refine Kt.again (k + 1) ⟨by omega, fun i hi => (Nat.lt_succ_iff_lt_or_eq.1 hi).elim (hall i) (fun e => by subst e; simpa using h20)⟩ (by omega) (Sub.cons rfl (Sub.cons rfl (Sub.cons rfl Sub.nil))) (fun _ h => h)
  · skip
    replace h9 := of_decide_eq_false h9
    refine Wk.exit rfl ?_
    refine Kt.onSub (e' := [(1, va), (2, .pointer (some ⟨p2, 0, none⟩))]) (Sub.cons rfl (Sub.cons rfl Sub.nil)) ?_
    refine Wk.seq ?_
    refine Wk.regionQ ?_
    refine Lq.op (v := vS a) rfl rfl rfl (OpQ.loadBox (cs := #[.int .i64 a.n, str a.set, str a.rel]) 0 rfl Tryd.isAgg26 rfl rfl Tryd.sizeOf26) ?_
    refine Lq.op (v := .bool (validB a)) rfl rfl rfl (OpQ.call rfl Tryd.call51 rfl Own.stable (fun w1 hw1 => sValid_ok a w1 hsa)) ?_
    refine Lq.op (v := .bool (validB a)) rfl rfl rfl (OpQ.move rfl rfl) ?_
    refine Lq.bool fun b23 hg23 => ?_
    cases b23
    · skip
      refine Lq.pass rfl rfl rfl ?_
      refine Lq.pass rfl rfl rfl ?_
      refine Lq.pass rfl rfl rfl ?_
      refine Lq.op (v := .bool false) rfl rfl rfl (OpQ.pickF rfl rfl rfl) ?_
      refine Lq.op (v := .bool false) rfl rfl rfl (OpQ.assign rfl rfl) ?_
      refine Lq.nil ?_
      refine Kt.onSub (e' := [(4, .bool false)]) (Sub.cons rfl Sub.nil) ?_
      refine Wk.ret (Kt.end1 rfl rfl fun w' hw => ?_)
      -- ret 1: .bool false
      exact ⟨ret_b (by rw [peb_yes (fun i hi => hall i (by omega))]; simp [*]), hw.below⟩
    · skip
      refine Lq.op (v := va) rfl rfl rfl (OpQ.move rfl rfl) ?_
      refine Lq.op (v := .int .i64 ((xs.length : Int))) rfl rfl rfl (OpQ.lenRow rfl Tryd.runUnderlying31 rfl (ints_length _) (fun w1 hw1 => Row.own hva hw1)) ?_
      refine Lq.op (v := .bool (inB ((xs.length : Int)) 1 3)) rfl rfl rfl (OpQ.call rfl Tryd.call52 rfl Own.stable (fun w1 hw1 => l1In_ok ((xs.length : Int)) 1 3 w1 )) ?_
      refine Lq.op (v := .bool (inB ((xs.length : Int)) 1 3)) rfl rfl rfl (OpQ.pickT rfl rfl rfl) ?_
      refine Lq.op (v := .bool (inB ((xs.length : Int)) 1 3)) rfl rfl rfl (OpQ.assign rfl rfl) ?_
      refine Lq.nil ?_
      refine Kt.onSub (e' := [(4, .bool (inB ((xs.length : Int)) 1 3))]) (Sub.cons rfl Sub.nil) ?_
      refine Wk.ret (Kt.end1 rfl rfl fun w' hw => ?_)
      -- ret 2: .bool (inB ((xs.length : Int)) 1 3)
      exact ⟨ret_b (by rw [peb_yes (fun i hi => hall i (by omega))]; simp [*]), hw.below⟩

set_option maxHeartbeats 400000 in
/-- spec.l7Ready -/
theorem l7Ready_ok (a b : St) (xs ys : List Int) (va vb : Value) (w : World) (hsa : a.Small) (hsb : b.Small) (hva : Ints w va xs) (hvb : Ints w vb ys) (hs1 : xs.length ≤ 140737488355328) (hs2 : ys.length ≤ 140737488355328) (loa : -9223372036854775808 ≤ a.n) (hia : a.n ≤ 9223372036854775807) (lob : -9223372036854775808 ≤ b.n) (hib : b.n ≤ 9223372036854775807) :
    Calls Tryd.prog 89 [vS a, va, vS b, vb].toArray w fun en w' => en = .returned (.bool (readyB a xs b ys)) ∧ Below w.heap.size w w' := by
  refine fnStart (n := 44) (e := [(0, vS a), (1, va), (2, vS b), (3, vb)]) Tryd.func89 rfl rfl rfl rfl Ends.both ?_
  refine Wk.seq ?_
  refine Wk.region ?_
  refine Ll.box (v := vS a) rfl rfl rfl rfl rfl fun p4 hp4 => ?_
  show Ll _ _ (Own _ _ [(p4, .cells #[.int .i64 a.n, str a.set, str a.rel] 26 (0, 0))]) _ _ ((4, .pointer (some ⟨p4, 0, none⟩)) :: _) _ _ _
  refine Ll.box (v := vS b) rfl rfl rfl rfl rfl fun p6 hp6 => ?_
  show Ll _ _ (Own _ _ [(p6, .cells #[.int .i64 b.n, str b.set, str b.rel] 26 (0, 0)), (p4, .cells #[.int .i64 a.n, str a.set, str a.rel] 26 (0, 0))]) _ _ ((6, .pointer (some ⟨p6, 0, none⟩)) :: _) _ _ _
  refine Ll.op (v := .bool false) rfl rfl rfl (OpQ.assign rfl rfl) ?_
  refine Ll.nil ?_
  refine Kt.onSub (e' := [(1, va), (3, vb), (4, .pointer (some ⟨p4, 0, none⟩)), (6, .pointer (some ⟨p6, 0, none⟩))]) (Sub.cons rfl (Sub.cons rfl (Sub.cons rfl (Sub.cons rfl Sub.nil)))) ?_
  refine Wk.seq ?_
  refine Wk.seq ?_
  refine Wk.regionQ ?_
  refine Lq.op (v := vS a) rfl rfl rfl (OpQ.loadBox (cs := #[.int .i64 a.n, str a.set, str a.rel]) 1 rfl Tryd.isAgg26 rfl rfl Tryd.sizeOf26) ?_
  refine Lq.op (v := va) rfl rfl rfl (OpQ.move rfl rfl) ?_
  refine Lq.op (v := .bool (pebB a xs)) rfl rfl rfl (OpQ.call rfl Tryd.call122 rfl Own.stable (fun w1 hw1 => l7Pebbles_ok a va xs w1 hsa (Row.own hva hw1) (by first | (simp; done) | (simp; omega) | omega) loa hia)) ?_
  refine Lq.op (v := .bool (!(pebB a xs))) rfl rfl rfl (OpQ.not rfl rfl) ?_
  refine Lq.op (v := .bool (!(pebB a xs))) rfl rfl rfl (OpQ.move rfl rfl) ?_
  refine Lq.bool fun b14 hg14 => ?_
  cases b14
  · skip
    replace hg14 := not_false hg14
    refine Lq.op (v := vS b) rfl rfl rfl (OpQ.loadBox (cs := #[.int .i64 b.n, str b.set, str b.rel]) 0 rfl Tryd.isAgg26 rfl rfl Tryd.sizeOf26) ?_
    refine Lq.op (v := vb) rfl rfl rfl (OpQ.move rfl rfl) ?_
    refine Lq.op (v := .bool (pebB b ys)) rfl rfl rfl (OpQ.call rfl Tryd.call122 rfl Own.stable (fun w1 hw1 => l7Pebbles_ok b vb ys w1 hsb (Row.own hvb hw1) (by first | (simp; done) | (simp; omega) | omega) lob hib)) ?_
    refine Lq.op (v := .bool (!(pebB b ys))) rfl rfl rfl (OpQ.not rfl rfl) ?_
    refine Lq.op (v := .bool (!(pebB b ys))) rfl rfl rfl (OpQ.pickF rfl rfl rfl) ?_
    refine Lq.op (v := .bool (!(pebB b ys))) rfl rfl rfl (OpQ.move rfl rfl) ?_
    refine Lq.bool fun b20 hg20 => ?_
    cases b20
    · skip
      replace hg20 := not_false hg20
      refine Lq.op (v := va) rfl rfl rfl (OpQ.move rfl rfl) ?_
      refine Lq.op (v := .int .i64 ((xs.length : Int))) rfl rfl rfl (OpQ.lenRow rfl Tryd.runUnderlying31 rfl (ints_length _) (fun w1 hw1 => Row.own hva hw1)) ?_
      refine Lq.op (v := vb) rfl rfl rfl (OpQ.move rfl rfl) ?_
      refine Lq.op (v := .int .i64 ((ys.length : Int))) rfl rfl rfl (OpQ.lenRow rfl Tryd.runUnderlying31 rfl (ints_length _) (fun w1 hw1 => Row.own hvb hw1)) ?_
      refine Lq.op (v := .bool (!(decide (((xs.length : Int)) = ((ys.length : Int)))))) rfl rfl rfl (OpQ.neq rfl rfl rfl) ?_
      refine Lq.op (v := .bool (!(decide (((xs.length : Int)) = ((ys.length : Int)))))) rfl rfl rfl (OpQ.pickF rfl rfl rfl) ?_
      refine Lq.nil ?_
      refine Kt.onSub (e' := [(1, va), (3, vb), (26, .bool (!(decide (((xs.length : Int)) = ((ys.length : Int))))))]) (Sub.cons rfl (Sub.cons rfl (Sub.cons rfl Sub.nil))) ?_
      refine Wk.cond (b := !(decide (((xs.length : Int)) = ((ys.length : Int))))) rfl (fun h26 => ?_) (fun h26 => ?_)
      · skip
        replace h26 := not_true h26
        replace h26 := of_decide_eq_false h26
        refine Wk.seq ?_
        refine Wk.regionQ ?_
        refine Lq.op (v := .bool false) rfl rfl rfl (OpQ.assign rfl rfl) ?_
        refine Lq.nil ?_
        refine Kt.onSub (e' := [(8, .bool false)]) (Sub.cons rfl Sub.nil) ?_
        refine Wk.ret (Kt.end1 rfl rfl fun w' hw => ?_)
        -- ret 0: .bool false
        exact ⟨ret_b (by unfold readyB; first | (simp [*]; done) | (rw [signs_no (k := k) (by omega) (beq_of_bneT (by assumption))]; simp; done) | (rw [signs_yes (k := k) (by omega) hall]; simp [*]; done) | (simp [*]; omega)), hw.below⟩
      · skip
        replace h26 := not_false h26
        replace h26 := of_decide_eq_true h26
        refine Wk.skip ?_
        refine Kt.onSub (e' := [(1, va), (3, vb)]) (Sub.cons rfl (Sub.cons rfl Sub.nil)) ?_
        refine Wk.seq ?_
        refine Wk.seq ?_
        refine Wk.regionQ ?_
        refine Lq.op (v := .int .i64 0) rfl rfl rfl (OpQ.assign rfl rfl) ?_
        refine Lq.nil ?_
        refine Kt.onSub (e' := [(1, va), (3, vb), (9, .int .i64 0)]) (Sub.cons rfl (Sub.cons rfl (Sub.cons rfl Sub.nil))) ?_
        refine Wk.block ?_
        refine Wk.loop (σ := Nat) (fun k => k ≤ xs.length ∧ ∀ i : Nat, i < k → (decide (xs.getD i 0 < 0) == decide (ys.getD i 0 < 0)) = true) (fun k => [(1, va), (3, vb), (9, .int .i64 ((k : Int)))]) (fun k => Own w.heap.size w [(p6, .cells #[.int .i64 b.n, str b.set, str b.rel] 26 (0, 0)), (p4, .cells #[.int .i64 a.n, str a.set, str a.rel] 26 (0, 0))]) (fun k => xs.length - k) (0) ⟨by omega, fun i hi => absurd hi (by omega)⟩ (Sub.cons rfl (Sub.cons rfl (Sub.cons rfl Sub.nil))) (fun _ h => h) ?_
        rintro k ⟨hk, hall⟩
        refine Wk.seq ?_
        refine Wk.seq ?_
        refine Wk.regionQ ?_
        refine Lq.op (v := .int .i64 ((k : Int))) rfl rfl rfl (OpQ.move rfl rfl) ?_
        refine Lq.op (v := va) rfl rfl rfl (OpQ.move rfl rfl) ?_
        refine Lq.op (v := .int .i64 ((xs.length : Int))) rfl rfl rfl (OpQ.lenRow rfl Tryd.runUnderlying31 rfl (ints_length _) (fun w1 hw1 => Row.own hva hw1)) ?_
        refine Lq.op (v := .bool (decide (((k : Int)) < ((xs.length : Int))))) rfl rfl rfl (OpQ.lss rfl rfl rfl) ?_
        refine Lq.nil ?_
        refine Kt.onSub (e' := [(1, va), (3, vb), (9, .int .i64 ((k : Int))), (30, .bool (decide (((k : Int)) < ((xs.length : Int)))))]) (Sub.cons rfl (Sub.cons rfl (Sub.cons rfl (Sub.cons rfl Sub.nil)))) ?_
        refine Wk.cond (b := decide (((k : Int)) < ((xs.length : Int)))) rfl (fun h30 => ?_) (fun h30 => ?_)
        · skip
          replace h30 := of_decide_eq_true h30
          refine Wk.skip ?_
          refine Kt.onSub (e' := [(1, va), (3, vb), (9, .int .i64 ((k : Int)))]) (Sub.cons rfl (Sub.cons rfl (Sub.cons rfl Sub.nil))) ?_
          refine Wk.seq ?_
          refine Wk.block ?_
          refine Wk.seq ?_
          refine Wk.regionD Base.mixed (fun _ h => h.drawn) (by kernel_rfl) ?_
          refine Lq.op (v := va) rfl rfl rfl (OpQ.move rfl rfl) ?_
          refine Lq.op (v := .int .i64 ((k : Int))) rfl rfl rfl (OpQ.move rfl rfl) ?_
          refine Lq.op (v := .pointer (some (sAt va ((k : Int))))) rfl rfl rfl (OpQ.atRow rfl Tryd.runUnderlying31 Tryd.sizeOf3 rfl rfl (by omega) (by rw [ints_length]; omega) (fun w1 hw1 => Row.own hva hw1)) ?_
          refine Lq.op (v := .int .i64 (xs.getD (((k : Int)).toNat) 0)) rfl rfl rfl (OpQ.load1 rfl Tryd.isAgg3 rfl (fun w1 hw1 => Ints.cell (Row.own hva hw1) (by omega) (by omega))) ?_
          refine Lq.op (v := .bool (decide ((xs.getD (((k : Int)).toNat) 0) < (0 : Int)))) rfl rfl rfl (OpQ.lss rfl rfl rfl) ?_
          refine Lq.op (v := vb) rfl rfl rfl (OpQ.move rfl rfl) ?_
          refine Lq.op (v := .int .i64 ((k : Int))) rfl rfl rfl (OpQ.move rfl rfl) ?_
          refine Lq.op (v := .pointer (some (sAt vb ((k : Int))))) rfl rfl rfl (OpQ.atRow rfl Tryd.runUnderlying31 Tryd.sizeOf3 rfl rfl (by omega) (by rw [ints_length]; omega) (fun w1 hw1 => Row.own hvb hw1)) ?_
          refine Lq.op (v := .int .i64 (ys.getD (((k : Int)).toNat) 0)) rfl rfl rfl (OpQ.load1 rfl Tryd.isAgg3 rfl (fun w1 hw1 => Ints.cell (Row.own hvb hw1) (by omega) (by omega))) ?_
          refine Lq.op (v := .bool (decide ((ys.getD (((k : Int)).toNat) 0) < (0 : Int)))) rfl rfl rfl (OpQ.lss rfl rfl rfl) ?_
          refine Lq.op (v := .bool ((decide ((xs.getD (((k : Int)).toNat) 0) < (0 : Int))) != (decide ((ys.getD (((k : Int)).toNat) 0) < (0 : Int))))) rfl rfl rfl (OpQ.bne rfl Tryd.runUnderlying4 rfl rfl) ?_
          refine Lq.nil ?_
          refine Kt.onSub (e' := [(1, va), (3, vb), (9, .int .i64 ((k : Int))), (43, .bool ((decide ((xs.getD (((k : Int)).toNat) 0) < (0 : Int))) != (decide ((ys.getD (((k : Int)).toNat) 0) < (0 : Int)))))]) (Sub.cons rfl (Sub.cons rfl (Sub.cons rfl (Sub.cons rfl Sub.nil)))) ?_
          refine Wk.cond (b := (decide ((xs.getD (((k : Int)).toNat) 0) < (0 : Int))) != (decide ((ys.getD (((k : Int)).toNat) 0) < (0 : Int)))) rfl (fun h43 => ?_) (fun h43 => ?_)
          · skip
            refine Wk.seq ?_
            refine Wk.regionQ ?_
            refine Lq.op (v := .bool false) rfl rfl rfl (OpQ.assign rfl rfl) ?_
            refine Lq.nil ?_
            refine Kt.onSub (e' := [(8, .bool false)]) (Sub.cons rfl Sub.nil) ?_
            refine Wk.ret (Kt.end1 rfl rfl fun w' hw => ?_)
            -- ret 1: .bool false
            exact ⟨ret_b (by unfold readyB; first | (simp [*]; done) | (rw [signs_no (k := k) (by omega) (beq_of_bneT (by assumption))]; simp; done) | (rw [signs_yes (k := k) (by omega) hall]; simp [*]; done) | (simp [*]; omega)), hw.below⟩
          · skip
            refine Wk.skip ?_
            refine Kt.onSub (e' := [(1, va), (3, vb), (9, .int .i64 ((k : Int)))]) (Sub.cons rfl (Sub.cons rfl (Sub.cons rfl Sub.nil))) ?_
            refine Wk.regionQ ?_
            refine Lq.op (v := .int .i64 ((k : Int))) rfl rfl rfl (OpQ.move rfl rfl) ?_
            refine Lq.op (v := .int .i64 (((k : Int)) + (1 : Int))) rfl rfl rfl (OpQ.add rfl rfl rfl (by omega) (by omega)) ?_
            refine Lq.op (v := .int .i64 (((k : Int)) + (1 : Int))) rfl rfl rfl (OpQ.assign rfl rfl) ?_
            refine Lq.nil ?_
            refine Kt.again (k + 1) ⟨by omega, fun i hi => (Nat.lt_succ_iff_lt_or_eq.1 hi).elim (hall i) (fun e => by subst e; exact beq_of_bne h43)⟩ (by omega) (Sub.cons rfl (Sub.cons rfl (Sub.cons rfl Sub.nil))) (fun _ h => h)
        · skip
          replace h30 := of_decide_eq_false h30
          refine Wk.exit rfl ?_
          refine Kt.onSub (e' := []) Sub.nil ?_
          refine Wk.seq ?_
          refine Wk.regionQ ?_
          refine Lq.op (v := .bool true) rfl rfl rfl (OpQ.assign rfl rfl) ?_
          refine Lq.nil ?_
          refine Kt.onSub (e' := [(8, .bool true)]) (Sub.cons rfl Sub.nil) ?_
          refine Wk.ret (Kt.end1 rfl rfl fun w' hw => ?_)
          -- ret 2: .bool true
          exact ⟨ret_b (by unfold readyB; first | (simp [*]; done) | (rw [signs_no (k := k) (by omega) (beq_of_bneT (by assumption))]; simp; done) | (rw [signs_yes (k := k) (by omega) hall]; simp [*]; done) | (simp [*]; omega)), hw.below⟩
    · skip
      replace hg20 := not_true hg20
      refine Lq.pass rfl rfl rfl ?_
      refine Lq.pass rfl rfl rfl ?_
      refine Lq.pass rfl rfl rfl ?_
      refine Lq.pass rfl rfl rfl ?_
      refine Lq.pass rfl rfl rfl ?_
      refine Lq.op (v := .bool true) rfl rfl rfl (OpQ.pickT rfl rfl rfl) ?_
      refine Lq.nil ?_
      refine Kt.onSub (e' := [(1, va), (3, vb), (26, .bool true)]) (Sub.cons rfl (Sub.cons rfl (Sub.cons rfl Sub.nil))) ?_
      refine Wk.condT rfl ?_
      refine Wk.seq ?_
      refine Wk.regionQ ?_
      refine Lq.op (v := .bool false) rfl rfl rfl (OpQ.assign rfl rfl) ?_
      refine Lq.nil ?_
      refine Kt.onSub (e' := [(8, .bool false)]) (Sub.cons rfl Sub.nil) ?_
      refine Wk.ret (Kt.end1 rfl rfl fun w' hw => ?_)
      -- ret 3: .bool false
      exact ⟨ret_b (by unfold readyB; first | (simp [*]; done) | (rw [signs_no (k := k) (by omega) (beq_of_bneT (by assumption))]; simp; done) | (rw [signs_yes (k := k) (by omega) hall]; simp [*]; done) | (simp [*]; omega)), hw.below⟩
  · skip
    replace hg14 := not_true hg14
    refine Lq.pass rfl rfl rfl ?_
    refine Lq.pass rfl rfl rfl ?_
    refine Lq.pass rfl rfl rfl ?_
    refine Lq.pass rfl rfl rfl ?_
    refine Lq.op (v := .bool true) rfl rfl rfl (OpQ.pickT rfl rfl rfl) ?_
    refine Lq.op (v := .bool true) rfl rfl rfl (OpQ.move rfl rfl) ?_
    refine Lq.pass rfl rfl rfl ?_
    refine Lq.pass rfl rfl rfl ?_
    refine Lq.pass rfl rfl rfl ?_
    refine Lq.pass rfl rfl rfl ?_
    refine Lq.pass rfl rfl rfl ?_
    refine Lq.op (v := .bool true) rfl rfl rfl (OpQ.pickT rfl rfl rfl) ?_
    refine Lq.nil ?_
    refine Kt.onSub (e' := [(1, va), (3, vb), (26, .bool true)]) (Sub.cons rfl (Sub.cons rfl (Sub.cons rfl Sub.nil))) ?_
    refine Wk.condT rfl ?_
    refine Wk.seq ?_
    refine Wk.regionQ ?_
    refine Lq.op (v := .bool false) rfl rfl rfl (OpQ.assign rfl rfl) ?_
    refine Lq.nil ?_
    refine Kt.onSub (e' := [(8, .bool false)]) (Sub.cons rfl Sub.nil) ?_
    refine Wk.ret (Kt.end1 rfl rfl fun w' hw => ?_)
    -- ret 4: .bool false
    exact ⟨ret_b (by unfold readyB; first | (simp [*]; done) | (rw [signs_no (k := k) (by omega) (beq_of_bneT (by assumption))]; simp; done) | (rw [signs_yes (k := k) (by omega) hall]; simp [*]; done) | (simp [*]; omega)), hw.below⟩

set_option maxHeartbeats 400000 in
/-- spec.l7Atoms -/
theorem l7Atoms_ok (a : St) (va : Value) (xs : List Int) (w : World) (hP : Pebbles a xs) (hva : Ints w va xs) :
    Calls Tryd.prog 90 [vS a, va].toArray w fun en w' => en = .returned (str (signT xs xs.length ++ atomBits a (placed xs xs.length))) ∧ Below w.heap.size w w' := by
  refine fnStart (n := 36) (e := [(0, vS a), (1, va)]) Tryd.func90 rfl rfl rfl rfl Ends.both ?_
  have ha := hP.fine
  have h3 := hP.hi
  have htop := hP.top
  refine Wk.seq ?_
  refine Wk.region ?_
  refine Ll.box (v := vS a) rfl rfl rfl rfl rfl fun p2 hp2 => ?_
  show Ll _ _ (Own _ _ [(p2, .cells #[.int .i64 a.n, str a.set, str a.rel] 26 (0, 0))]) _ _ ((2, .pointer (some ⟨p2, 0, none⟩)) :: _) _ _ _
  refine Ll.op (v := str ([])) rfl rfl rfl (OpQ.assign rfl rfl) ?_
  refine Ll.nil ?_
  refine Kt.onSub (e' := [(1, va), (2, .pointer (some ⟨p2, 0, none⟩))]) (Sub.cons rfl (Sub.cons rfl Sub.nil)) ?_
  refine Wk.seq ?_
  refine Wk.regionQ ?_
  refine Lq.op (v := str ([])) rfl rfl rfl (OpQ.assign rfl rfl) ?_
  refine Lq.nil ?_
  refine Kt.onSub (e' := [(1, va), (2, .pointer (some ⟨p2, 0, none⟩)), (5, str ([]))]) (Sub.cons rfl (Sub.cons rfl (Sub.cons rfl Sub.nil))) ?_
  refine Wk.seq ?_
  refine Wk.region ?_
  refine Ll.slice (xs := []) (vs := []) Base.elem31 rfl rfl rfl rfl rfl rfl (by decide) rfl fun p8 hp8 => ?_
  refine Ll.op (v := .slice (some ⟨p8, 0, none⟩) 0 0) rfl rfl rfl (OpQ.assign rfl rfl) ?_
  refine Ll.nil ?_
  refine Kt.onSub (e' := [(1, va), (2, .pointer (some ⟨p2, 0, none⟩)), (5, str ([])), (6, .slice (some ⟨p8, 0, none⟩) 0 0)]) (Sub.cons rfl (Sub.cons rfl (Sub.cons rfl (Sub.cons rfl Sub.nil)))) ?_
  refine Wk.seq ?_
  refine Wk.seq ?_
  refine Wk.regionQ ?_
  refine Lq.op (v := .int .i64 0) rfl rfl rfl (OpQ.assign rfl rfl) ?_
  refine Lq.nil ?_
  refine Kt.onSub (e' := [(1, va), (2, .pointer (some ⟨p2, 0, none⟩)), (5, str ([])), (6, .slice (some ⟨p8, 0, none⟩) 0 0), (7, .int .i64 0)]) (Sub.cons rfl (Sub.cons rfl (Sub.cons rfl (Sub.cons rfl (Sub.cons rfl Sub.nil))))) ?_
  refine Wk.block ?_
  refine Wk.loop (σ := Nat × Nat × Nat × Array Value) (fun ⟨k, g, c, cur⟩ => (k ≤ xs.length) ∧ w.heap.size ≤ g ∧ cur.size = c * 1 ∧ (placed xs k).length ≤ c ∧ cur.toList.take ((placed xs k).length * 1) = ints (placed xs k)) (fun ⟨k, g, c, cur⟩ => [(1, va), (2, .pointer (some ⟨p2, 0, none⟩)), (5, str (signT xs k)), (6, .slice (some ⟨g, 0, none⟩) ((placed xs k).length) c), (7, .int .i64 ((k : Int)))]) (fun ⟨k, g, c, cur⟩ => Own w.heap.size w [(g, .cells cur 3 (0, 0)), (p2, .cells #[.int .i64 a.n, str a.set, str a.rel] 26 (0, 0))]) (fun ⟨k, g, c, cur⟩ => xs.length - k) ((0, p8, 0, #[])) ⟨by omega, hp8, rfl, by simp, rfl⟩ (Sub.cons rfl (Sub.cons rfl (Sub.cons rfl (Sub.cons rfl (Sub.cons rfl Sub.nil))))) (fun _ h => h) ?_
  rintro ⟨k, g, c, cur⟩ ⟨hk, hg, hc, hl, ht⟩
  dsimp only
  refine Wk.seq ?_
  refine Wk.seq ?_
  refine Wk.regionQ ?_
  refine Lq.op (v := .int .i64 ((k : Int))) rfl rfl rfl (OpQ.move rfl rfl) ?_
  refine Lq.op (v := va) rfl rfl rfl (OpQ.move rfl rfl) ?_
  refine Lq.op (v := .int .i64 ((xs.length : Int))) rfl rfl rfl (OpQ.lenRow rfl Tryd.runUnderlying31 rfl (ints_length _) (fun w1 hw1 => Row.own hva hw1)) ?_
  refine Lq.op (v := .bool (decide (((k : Int)) < ((xs.length : Int))))) rfl rfl rfl (OpQ.lss rfl rfl rfl) ?_
  refine Lq.nil ?_
  refine Kt.onSub (e' := [(1, va), (2, .pointer (some ⟨p2, 0, none⟩)), (5, str (signT xs k)), (6, .slice (some ⟨g, 0, none⟩) ((placed xs k).length) c), (7, .int .i64 ((k : Int))), (12, .bool (decide (((k : Int)) < ((xs.length : Int)))))]) (Sub.cons rfl (Sub.cons rfl (Sub.cons rfl (Sub.cons rfl (Sub.cons rfl (Sub.cons rfl Sub.nil)))))) ?_
  refine Wk.cond (b := decide (((k : Int)) < ((xs.length : Int)))) rfl (fun h12 => ?_) (fun h12 => ?_)
  · skip
    replace h12 := of_decide_eq_true h12
    have hple := placed_le xs k
    refine Wk.skip ?_
    refine Kt.onSub (e' := [(1, va), (2, .pointer (some ⟨p2, 0, none⟩)), (5, str (signT xs k)), (6, .slice (some ⟨g, 0, none⟩) ((placed xs k).length) c), (7, .int .i64 ((k : Int)))]) (Sub.cons rfl (Sub.cons rfl (Sub.cons rfl (Sub.cons rfl (Sub.cons rfl Sub.nil))))) ?_
    refine Wk.seq ?_
    refine Wk.block ?_
    refine Wk.seq ?_
    refine Wk.seq ?_
    refine Wk.regionQ ?_
    refine Lq.op (v := va) rfl rfl rfl (OpQ.move rfl rfl) ?_
    refine Lq.op (v := .int .i64 ((k : Int))) rfl rfl rfl (OpQ.move rfl rfl) ?_
    refine Lq.op (v := .pointer (some (sAt va ((k : Int))))) rfl rfl rfl (OpQ.atRow rfl Tryd.runUnderlying31 Tryd.sizeOf3 rfl rfl (by omega) (by rw [ints_length]; omega) (fun w1 hw1 => Row.own hva hw1)) ?_
    refine Lq.op (v := .int .i64 (xs.getD (((k : Int)).toNat) 0)) rfl rfl rfl (OpQ.load1 rfl Tryd.isAgg3 rfl (fun w1 hw1 => Ints.cell (Row.own hva hw1) (by omega) (by omega))) ?_
    refine Lq.op (v := .bool (decide ((xs.getD (((k : Int)).toNat) 0) < (0 : Int)))) rfl rfl rfl (OpQ.lss rfl rfl rfl) ?_
    refine Lq.nil ?_
    refine Kt.onSub (e' := [(1, va), (2, .pointer (some ⟨p2, 0, none⟩)), (5, str (signT xs k)), (6, .slice (some ⟨g, 0, none⟩) ((placed xs k).length) c), (7, .int .i64 ((k : Int))), (19, .bool (decide ((xs.getD (((k : Int)).toNat) 0) < (0 : Int))))]) (Sub.cons rfl (Sub.cons rfl (Sub.cons rfl (Sub.cons rfl (Sub.cons rfl (Sub.cons rfl Sub.nil)))))) ?_
    refine Wk.cond (b := decide ((xs.getD (((k : Int)).toNat) 0) < (0 : Int))) rfl (fun h19 => ?_) (fun h19 => ?_)
    · skip
      replace h19 := of_decide_eq_true h19
      refine Wk.seq ?_
      refine Wk.regionQ ?_
      refine Lq.op (v := str (signT xs k)) rfl rfl rfl (OpQ.move rfl rfl) ?_
      refine Lq.op (v := str ((signT xs k) ++ ([45]))) rfl rfl rfl (OpQ.sadd rfl rfl rfl (by simp only [signT_length, List.length_cons, List.length_nil]; omega)) ?_
      refine Lq.op (v := str ((signT xs k) ++ ([45]))) rfl rfl rfl (OpQ.assign rfl rfl) ?_
      refine Lq.nil ?_
      refine Kt.onSub (e' := [(1, va), (2, .pointer (some ⟨p2, 0, none⟩)), (5, str ((signT xs k) ++ ([45]))), (6, .slice (some ⟨g, 0, none⟩) ((placed xs k).length) c), (7, .int .i64 ((k : Int)))]) (Sub.cons rfl (Sub.cons rfl (Sub.cons rfl (Sub.cons rfl (Sub.cons rfl Sub.nil))))) ?_
      refine Wk.exit rfl ?_
      refine Kt.onSub (e' := [(1, va), (2, .pointer (some ⟨p2, 0, none⟩)), (5, str ((signT xs k) ++ ([45]))), (6, .slice (some ⟨g, 0, none⟩) ((placed xs k).length) c), (7, .int .i64 ((k : Int)))]) (Sub.cons rfl (Sub.cons rfl (Sub.cons rfl (Sub.cons rfl (Sub.cons rfl Sub.nil))))) ?_
      refine Wk.regionQ ?_
      refine Lq.op (v := .int .i64 ((k : Int))) rfl rfl rfl (OpQ.move rfl rfl) ?_
      refine Lq.op (v := .int .i64 (((k : Int)) + (1 : Int))) rfl rfl rfl (OpQ.add rfl rfl rfl (by omega) (by omega)) ?_
      refine Lq.op (v := .int .i64 (((k : Int)) + (1 : Int))) rfl rfl rfl (OpQ.assign rfl rfl) ?_
      refine Lq.nil ?_
      refine Kt.again ((k + 1, g, c, cur)) ⟨(by omega), hg, hc, (by rw [placed_neg (by assumption)]; exact hl), (by rw [placed_neg (by assumption)]; exact ht)⟩ (by omega) (Sub.cons rfl (Sub.cons rfl (Sub.cons (by first | (rw [signT_neg (by assumption)]; rfl) | (rw [signT_pos (by assumption)]; rfl)) (Sub.cons (by rw [placed_neg (by assumption)]; rfl) (Sub.cons rfl Sub.nil))))) (fun _ h => h)
    · skip
      replace h19 := of_decide_eq_false h19
      refine Wk.skip ?_
      refine Kt.onSub (e' := [(1, va), (2, .pointer (some ⟨p2, 0, none⟩)), (5, str (signT xs k)), (6, .slice (some ⟨g, 0, none⟩) ((placed xs k).length) c), (7, .int .i64 ((k : Int)))]) (Sub.cons rfl (Sub.cons rfl (Sub.cons rfl (Sub.cons rfl (Sub.cons rfl Sub.nil))))) ?_
      refine Wk.seq ?_
      refine Wk.regionQ ?_
      refine Lq.op (v := str (signT xs k)) rfl rfl rfl (OpQ.move rfl rfl) ?_
      refine Lq.op (v := str ((signT xs k) ++ ([43]))) rfl rfl rfl (OpQ.sadd rfl rfl rfl (by simp only [signT_length, List.length_cons, List.length_nil]; omega)) ?_
      refine Lq.op (v := str ((signT xs k) ++ ([43]))) rfl rfl rfl (OpQ.assign rfl rfl) ?_
      refine Lq.nil ?_
      refine Kt.onSub (e' := [(1, va), (2, .pointer (some ⟨p2, 0, none⟩)), (5, str ((signT xs k) ++ ([43]))), (6, .slice (some ⟨g, 0, none⟩) ((placed xs k).length) c), (7, .int .i64 ((k : Int)))]) (Sub.cons rfl (Sub.cons rfl (Sub.cons rfl (Sub.cons rfl (Sub.cons rfl Sub.nil))))) ?_
      refine Wk.region ?_
      refine Ll.op (v := .slice (some ⟨g, 0, none⟩) ((placed xs k).length) c) rfl rfl rfl (OpQ.move rfl rfl) ?_
      refine Ll.op (v := va) rfl rfl rfl (OpQ.move rfl rfl) ?_
      refine Ll.op (v := .int .i64 ((k : Int))) rfl rfl rfl (OpQ.move rfl rfl) ?_
      refine Ll.op (v := .pointer (some (sAt va ((k : Int))))) rfl rfl rfl (OpQ.atRow rfl Tryd.runUnderlying31 Tryd.sizeOf3 rfl rfl (by omega) (by rw [ints_length]; omega) (fun w1 hw1 => Row.own hva hw1)) ?_
      refine Ll.op (v := .int .i64 (xs.getD (((k : Int)).toNat) 0)) rfl rfl rfl (OpQ.load1 rfl Tryd.isAgg3 rfl (fun w1 hw1 => Ints.cell (Row.own hva hw1) (by omega) (by omega))) ?_
      refine Ll.slice (xs := [.tmp 28]) (vs := [.int .i64 (xs.getD (((k : Int)).toNat) 0)]) Base.elem31 rfl rfl rfl rfl rfl rfl (by decide) rfl fun p29 hp29 => ?_
      refine Ll.appendInts (xs := placed xs k) (ys := [xs.getD (((k : Int)).toNat) 0]) Base.elem31 1 rfl rfl rfl rfl rfl rfl rfl hc hl (by simpa using ht) (fun w1 hw1 => (Own.row hw1 (i := 0) rfl (n := 1) (cap := 1) (vs := ints [xs.getD (((k : Int)).toNat) 0]) rfl rfl (by decide))) (((placed xs k) ++ ([xs.getD (((k : Int)).toNat) 0])).length) (by first | (simp; done) | (simp; omega)) (by first | (simp; done) | (simp; omega) | omega) fun p30 cap30 cur30 hp30 hcp30 hlp30 htp30 => ?_
      show Ll _ _ (Own _ _ [(p29, .cells #[.int .i64 (xs.getD (((k : Int)).toNat) 0)] 3 (0, 0)), (p30, .cells cur30 3 (0, 0)), (p2, .cells #[.int .i64 a.n, str a.set, str a.rel] 26 (0, 0))]) _ _ ((30, .slice (some ⟨p30, 0, none⟩) ((((placed xs k) ++ ([xs.getD (((k : Int)).toNat) 0])).length)) cap30) :: _) _ _ _
      refine Ll.op (v := .slice (some ⟨p30, 0, none⟩) ((((placed xs k) ++ ([xs.getD (((k : Int)).toNat) 0])).length)) cap30) rfl rfl rfl (OpQ.assign rfl rfl) ?_
      refine Ll.nil ?_
      refine Kt.onSub (e' := [(1, va), (2, .pointer (some ⟨p2, 0, none⟩)), (5, str ((signT xs k) ++ ([43]))), (6, .slice (some ⟨p30, 0, none⟩) ((((placed xs k) ++ ([xs.getD (((k : Int)).toNat) 0])).length)) cap30), (7, .int .i64 ((k : Int)))]) (Sub.cons rfl (Sub.cons rfl (Sub.cons rfl (Sub.cons rfl (Sub.cons rfl Sub.nil))))) ?_
      refine Wk.regionQ ?_
      refine Lq.op (v := .int .i64 ((k : Int))) rfl rfl rfl (OpQ.move rfl rfl) ?_
      refine Lq.op (v := .int .i64 (((k : Int)) + (1 : Int))) rfl rfl rfl (OpQ.add rfl rfl rfl (by omega) (by omega)) ?_
      refine Lq.op (v := .int .i64 (((k : Int)) + (1 : Int))) rfl rfl rfl (OpQ.assign rfl rfl) ?_
      refine Lq.nil ?_
      refine Kt.again ((k + 1, p30, cap30, cur30)) ⟨(by omega), (by omega), hcp30, (by rw [placed_pos (by assumption)]; exact hlp30), (by rw [placed_pos (by assumption)]; exact htp30)⟩ (by omega) (Sub.cons rfl (Sub.cons rfl (Sub.cons (by first | (rw [signT_neg (by assumption)]; rfl) | (rw [signT_pos (by assumption)]; rfl)) (Sub.cons (by rw [placed_pos (by assumption)]; rfl) (Sub.cons rfl Sub.nil))))) (fun _ h => h.tail)
  · skip
    replace h12 := of_decide_eq_false h12
    have hple := placed_le xs k
    have hbs := bits_small (a := a) (xs := placed xs k) (i := (placed xs k).length) (by omega)
    refine Wk.exit rfl ?_
    refine Kt.onSub (e' := [(2, .pointer (some ⟨p2, 0, none⟩)), (5, str (signT xs k)), (6, .slice (some ⟨g, 0, none⟩) ((placed xs k).length) c)]) (Sub.cons rfl (Sub.cons rfl (Sub.cons rfl Sub.nil))) ?_
    refine Wk.seq ?_
    refine Wk.regionQ ?_
    refine Lq.op (v := str (signT xs k)) rfl rfl rfl (OpQ.move rfl rfl) ?_
    refine Lq.op (v := vS a) rfl rfl rfl (OpQ.loadBox (cs := #[.int .i64 a.n, str a.set, str a.rel]) 1 rfl Tryd.isAgg26 rfl rfl Tryd.sizeOf26) ?_
    refine Lq.op (v := .slice (some ⟨g, 0, none⟩) ((placed xs k).length) c) rfl rfl rfl (OpQ.move rfl rfl) ?_
    refine Lq.op (v := str (atomBits a (placed xs k))) rfl rfl rfl (OpQ.call rfl Tryd.call103 rfl Own.stable (fun w1 hw1 => l5Atoms_ok a (.slice (some ⟨g, 0, none⟩) ((placed xs k).length) c) (placed xs k) w1 ha (Own.row hw1 (i := 0) rfl (by simpa using ht) (by simp) hl) (placed_els hk htop) (by omega))) ?_
    refine Lq.op (v := str ((signT xs k) ++ (atomBits a (placed xs k)))) rfl rfl rfl (OpQ.sadd rfl rfl rfl (by unfold atomBits; simp only [signT_length]; omega)) ?_
    refine Lq.op (v := str ((signT xs k) ++ (atomBits a (placed xs k)))) rfl rfl rfl (OpQ.assign rfl rfl) ?_
    refine Lq.nil ?_
    refine Kt.onSub (e' := [(4, str ((signT xs k) ++ (atomBits a (placed xs k))))]) (Sub.cons rfl Sub.nil) ?_
    refine Wk.ret (Kt.end1 rfl rfl fun w' hw => ?_)
    -- ret 0: str ((signT xs k) ++ (atomBits a (placed xs k)))
    exact ⟨ret_s (by rw [show k = xs.length from by omega]), hw.below⟩

set_option maxHeartbeats 400000 in
/-- spec.PebblesFit -/
theorem sFit_ok (a b : St) (xs ys : List Int) (va vb : Value) (w : World) (hsa : a.Small) (hsb : b.Small) (hva : Ints w va xs) (hvb : Ints w vb ys) (hs1 : xs.length ≤ 140737488355328) (hs2 : ys.length ≤ 140737488355328) (loa : -9223372036854775808 ≤ a.n) (hia : a.n ≤ 9223372036854775807) (lob : -9223372036854775808 ≤ b.n) (hib : b.n ≤ 9223372036854775807) :
    Calls Tryd.prog 43 [vS a, va, vS b, vb].toArray w fun en w' => en = .returned (.bool (fitB a xs b ys)) ∧ Below w.heap.size w w' := by
  refine fnStart (n := 23) (e := [(0, vS a), (1, va), (2, vS b), (3, vb)]) Tryd.func43 rfl rfl rfl rfl Ends.both ?_
  refine Wk.seq ?_
  refine Wk.region ?_
  refine Ll.box (v := vS a) rfl rfl rfl rfl rfl fun p4 hp4 => ?_
  show Ll _ _ (Own _ _ [(p4, .cells #[.int .i64 a.n, str a.set, str a.rel] 26 (0, 0))]) _ _ ((4, .pointer (some ⟨p4, 0, none⟩)) :: _) _ _ _
  refine Ll.box (v := vS b) rfl rfl rfl rfl rfl fun p6 hp6 => ?_
  show Ll _ _ (Own _ _ [(p6, .cells #[.int .i64 b.n, str b.set, str b.rel] 26 (0, 0)), (p4, .cells #[.int .i64 a.n, str a.set, str a.rel] 26 (0, 0))]) _ _ ((6, .pointer (some ⟨p6, 0, none⟩)) :: _) _ _ _
  refine Ll.op (v := .bool false) rfl rfl rfl (OpQ.assign rfl rfl) ?_
  refine Ll.nil ?_
  refine Kt.onSub (e' := [(1, va), (3, vb), (4, .pointer (some ⟨p4, 0, none⟩)), (6, .pointer (some ⟨p6, 0, none⟩))]) (Sub.cons rfl (Sub.cons rfl (Sub.cons rfl (Sub.cons rfl Sub.nil)))) ?_
  refine Wk.seq ?_
  refine Wk.regionD Base.mixed (fun _ h => h.drawn) (by kernel_rfl) ?_
  refine Lq.op (v := vS a) rfl rfl rfl (OpQ.loadBox (cs := #[.int .i64 a.n, str a.set, str a.rel]) 1 rfl Tryd.isAgg26 rfl rfl Tryd.sizeOf26) ?_
  refine Lq.op (v := va) rfl rfl rfl (OpQ.move rfl rfl) ?_
  refine Lq.op (v := vS b) rfl rfl rfl (OpQ.loadBox (cs := #[.int .i64 b.n, str b.set, str b.rel]) 0 rfl Tryd.isAgg26 rfl rfl Tryd.sizeOf26) ?_
  refine Lq.op (v := vb) rfl rfl rfl (OpQ.move rfl rfl) ?_
  refine Lq.op (v := .bool (readyB a xs b ys)) rfl rfl rfl (OpQ.call rfl Tryd.call89 rfl Own.stable (fun w1 hw1 => l7Ready_ok a b xs ys va vb w1 hsa hsb (Row.own hva hw1) (Row.own hvb hw1) (by first | (simp; done) | (simp; omega) | omega) (by first | (simp; done) | (simp; omega) | omega) loa hia lob hib)) ?_
  refine Lq.op (v := .bool (readyB a xs b ys)) rfl rfl rfl (OpQ.move rfl rfl) ?_
  refine Lq.bool fun b14 hg14 => ?_
  cases b14
  · skip
    refine Lq.pass rfl rfl rfl ?_
    refine Lq.pass rfl rfl rfl ?_
    refine Lq.pass rfl rfl rfl ?_
    refine Lq.pass rfl rfl rfl ?_
    refine Lq.pass rfl rfl rfl ?_
    refine Lq.pass rfl rfl rfl ?_
    refine Lq.pass rfl rfl rfl ?_
    refine Lq.op (v := .bool false) rfl rfl rfl (OpQ.pickF rfl rfl rfl) ?_
    refine Lq.op (v := .bool false) rfl rfl rfl (OpQ.assign rfl rfl) ?_
    refine Lq.nil ?_
    refine Kt.onSub (e' := [(8, .bool false)]) (Sub.cons rfl Sub.nil) ?_
    refine Wk.ret (Kt.end1 rfl rfl fun w' hw => ?_)
    -- ret 0: .bool false
    exact ⟨ret_b (by unfold fitB; first | (rw [pebAtoms_same (by assumption)]; simp [*]; done) | (simp [*]; done)), hw.below⟩
  · skip
    obtain ⟨Pa, Pb, hlen, _⟩ := readyB_true hg14
    refine Lq.op (v := vS a) rfl rfl rfl (OpQ.loadBox (cs := #[.int .i64 a.n, str a.set, str a.rel]) 1 rfl Tryd.isAgg26 rfl rfl Tryd.sizeOf26) ?_
    refine Lq.op (v := va) rfl rfl rfl (OpQ.move rfl rfl) ?_
    refine Lq.op (v := str (signT xs xs.length ++ atomBits a (placed xs xs.length))) rfl rfl rfl (OpQ.call rfl Tryd.call90 rfl Own.stable (fun w1 hw1 => l7Atoms_ok a va xs w1 Pa (Row.own hva hw1))) ?_
    refine Lq.op (v := vS b) rfl rfl rfl (OpQ.loadBox (cs := #[.int .i64 b.n, str b.set, str b.rel]) 0 rfl Tryd.isAgg26 rfl rfl Tryd.sizeOf26) ?_
    refine Lq.op (v := vb) rfl rfl rfl (OpQ.move rfl rfl) ?_
    refine Lq.op (v := str (signT ys ys.length ++ atomBits b (placed ys ys.length))) rfl rfl rfl (OpQ.call rfl Tryd.call90 rfl Own.stable (fun w1 hw1 => l7Atoms_ok b vb ys w1 Pb (Row.own hvb hw1))) ?_
    refine Lq.op (v := .bool ((signT xs xs.length ++ atomBits a (placed xs xs.length)) == (signT ys ys.length ++ atomBits b (placed ys ys.length)))) rfl rfl rfl (OpQ.seql rfl rfl rfl) ?_
    refine Lq.op (v := .bool ((signT xs xs.length ++ atomBits a (placed xs xs.length)) == (signT ys ys.length ++ atomBits b (placed ys ys.length)))) rfl rfl rfl (OpQ.pickT rfl rfl rfl) ?_
    refine Lq.op (v := .bool ((signT xs xs.length ++ atomBits a (placed xs xs.length)) == (signT ys ys.length ++ atomBits b (placed ys ys.length)))) rfl rfl rfl (OpQ.assign rfl rfl) ?_
    refine Lq.nil ?_
    refine Kt.onSub (e' := [(8, .bool ((signT xs xs.length ++ atomBits a (placed xs xs.length)) == (signT ys ys.length ++ atomBits b (placed ys ys.length))))]) (Sub.cons rfl Sub.nil) ?_
    refine Wk.ret (Kt.end1 rfl rfl fun w' hw => ?_)
    -- ret 1: .bool ((signT xs xs.length ++ atomBits a (placed xs xs.length)) == (signT ys ys.length ++ atomBits b (placed ys ys.length)))
    exact ⟨ret_b (by unfold fitB; first | (rw [pebAtoms_same (by assumption)]; simp [*]; done) | (simp [*]; done)), hw.below⟩

set_option maxHeartbeats 400000 in
/-- impl.arePebbles$1 -/
theorem noPeb_ok (a : St) (g T : Nat) (x : Int) (w : World) (hg : w.heap[g]? = some (.cells #[.int .i64 a.n, str a.set, str a.rel] T (0, 0))) :
    Calls Tryd.prog 134 [.int .i64 x, .pointer (some ⟨g, 0, none⟩)].toArray w fun en w' => en = .returned (.bool (!inB x (-1) (a.n - 1))) ∧ Below w.heap.size w w' := by
  refine fnStart (n := 12) (e := [(0, .int .i64 x), (1, .pointer (some ⟨g, 0, none⟩))]) Tryd.func134 rfl rfl rfl rfl Ends.both ?_
  refine Wk.seq ?_
  refine Wk.regionQ ?_
  refine Lq.op (v := .bool false) rfl rfl rfl (OpQ.assign rfl rfl) ?_
  refine Lq.nil ?_
  refine Kt.onSub (e' := [(0, .int .i64 x), (1, .pointer (some ⟨g, 0, none⟩))]) (Sub.cons rfl (Sub.cons rfl Sub.nil)) ?_
  refine Wk.seq ?_
  refine Wk.regionQ ?_
  refine Lq.op (v := .int .i64 x) rfl rfl rfl (OpQ.move rfl rfl) ?_
  refine Lq.op (v := .bool (decide (x < (-1 : Int)))) rfl rfl rfl (OpQ.lss rfl rfl rfl) ?_
  refine Lq.op (v := .bool (decide (x < (-1 : Int)))) rfl rfl rfl (OpQ.move rfl rfl) ?_
  refine Lq.bool fun b6 hg6 => ?_
  cases b6
  · skip
    replace hg6 := of_decide_eq_false hg6
    refine Lq.op (v := .int .i64 x) rfl rfl rfl (OpQ.move rfl rfl) ?_
    refine Lq.op (v := .pointer (some (⟨g, 0, none⟩))) rfl rfl rfl (OpQ.fieldAddr rfl Tryd.runUnderlying26 rfl Tryd.sizeOf3 rfl rfl) ?_
    refine Lq.op (v := .int .i64 a.n) rfl rfl rfl (OpQ.load1 rfl Tryd.isAgg3 rfl (fun w1 hw1 => at_box hg hw1 0 rfl)) ?_
    refine Lq.op (v := .bool (decide (a.n ≤ x))) rfl rfl rfl (OpQ.geq rfl rfl rfl) ?_
    refine Lq.op (v := .bool (decide (a.n ≤ x))) rfl rfl rfl (OpQ.pickF rfl rfl rfl) ?_
    refine Lq.op (v := .bool (decide (a.n ≤ x))) rfl rfl rfl (OpQ.assign rfl rfl) ?_
    refine Lq.nil ?_
    refine Kt.onSub (e' := [(3, .bool (decide (a.n ≤ x)))]) (Sub.cons rfl Sub.nil) ?_
    refine Wk.ret (Kt.end1 rfl rfl fun w' hw => ?_)
    -- ret 0: .bool (decide (a.n ≤ x))
    exact ⟨ret_b (by first | exact pel_neg (by assumption) | exact pel_geq (by assumption)), hw.below⟩
  · skip
    replace hg6 := of_decide_eq_true hg6
    refine Lq.pass rfl rfl rfl ?_
    refine Lq.pass rfl rfl rfl ?_
    refine Lq.pass rfl rfl rfl ?_
    refine Lq.pass rfl rfl rfl ?_
    refine Lq.op (v := .bool true) rfl rfl rfl (OpQ.pickT rfl rfl rfl) ?_
    refine Lq.op (v := .bool true) rfl rfl rfl (OpQ.assign rfl rfl) ?_
    refine Lq.nil ?_
    refine Kt.onSub (e' := [(3, .bool true)]) (Sub.cons rfl Sub.nil) ?_
    refine Wk.ret (Kt.end1 rfl rfl fun w' hw => ?_)
    -- ret 1: .bool true
    exact ⟨ret_b (by first | exact pel_neg (by assumption) | exact pel_geq (by assumption)), hw.below⟩

set_option maxHeartbeats 400000 in
/-- impl.arePebbles -/
theorem arePebbles_ok (a : St) (va : Value) (xs : List Int) (w : World) (hva : Ints w va xs) (hs : xs.length ≤ 140737488355328) :
    Calls Tryd.prog 120 [vS a, va].toArray w fun en w' => en = .returned (.bool (pebL a xs)) ∧ Below w.heap.size w w' := by
  refine fnStart (n := 19) (e := [(0, vS a), (1, va)]) Tryd.func120 rfl rfl rfl rfl Ends.both ?_
  refine Wk.seq ?_
  refine Wk.region ?_
  refine Ll.box (v := vS a) rfl rfl rfl rfl rfl fun p2 hp2 => ?_
  show Ll _ _ (Own _ _ [(p2, .cells #[.int .i64 a.n, str a.set, str a.rel] 26 (0, 0))]) _ _ ((2, .pointer (some ⟨p2, 0, none⟩)) :: _) _ _ _
  refine Ll.op (v := .bool false) rfl rfl rfl (OpQ.assign rfl rfl) ?_
  refine Ll.nil ?_
  refine Kt.onSub (e' := [(1, va), (2, .pointer (some ⟨p2, 0, none⟩))]) (Sub.cons rfl (Sub.cons rfl Sub.nil)) ?_
  refine Wk.seq ?_
  refine Wk.regionQ ?_
  refine Lq.op (v := va) rfl rfl rfl (OpQ.move rfl rfl) ?_
  refine Lq.op (v := .int .i64 ((xs.length : Int))) rfl rfl rfl (OpQ.lenRow rfl Tryd.runUnderlying31 rfl (ints_length _) (fun w1 hw1 => Row.own hva hw1)) ?_
  refine Lq.op (v := .bool (decide ((1 : Int) ≤ ((xs.length : Int))))) rfl rfl rfl (OpQ.geq rfl rfl rfl) ?_
  refine Lq.op (v := .bool (decide ((1 : Int) ≤ ((xs.length : Int))))) rfl rfl rfl (OpQ.move rfl rfl) ?_
  refine Lq.bool fun b8 hg8 => ?_
  cases b8
  · skip
    replace hg8 := of_decide_eq_false hg8
    refine Lq.pass rfl rfl rfl ?_
    refine Lq.pass rfl rfl rfl ?_
    refine Lq.pass rfl rfl rfl ?_
    refine Lq.op (v := .bool false) rfl rfl rfl (OpQ.pickF rfl rfl rfl) ?_
    refine Lq.op (v := .bool false) rfl rfl rfl (OpQ.move rfl rfl) ?_
    refine Lq.pass rfl rfl rfl ?_
    refine Lq.pass rfl rfl rfl ?_
    refine Lq.pass rfl rfl rfl ?_
    refine Lq.pass rfl rfl rfl ?_
    refine Lq.op (v := .bool false) rfl rfl rfl (OpQ.pickF rfl rfl rfl) ?_
    refine Lq.op (v := .bool false) rfl rfl rfl (OpQ.assign rfl rfl) ?_
    refine Lq.nil ?_
    refine Kt.onSub (e' := [(4, .bool false)]) (Sub.cons rfl Sub.nil) ?_
    refine Wk.ret (Kt.end1 rfl rfl fun w' hw => ?_)
    -- ret 0: .bool false
    exact ⟨ret_b (by unfold pebL; first | (rw [not_any_pel]; simp [*]; done) | (rw [← not_any_pel]; simp [*]; done) | (simp [*]; omega)), hw.below⟩
  · skip
    replace hg8 := of_decide_eq_true hg8
    refine Lq.op (v := va) rfl rfl rfl (OpQ.move rfl rfl) ?_
    refine Lq.op (v := .int .i64 ((xs.length : Int))) rfl rfl rfl (OpQ.lenRow rfl Tryd.runUnderlying31 rfl (ints_length _) (fun w1 hw1 => Row.own hva hw1)) ?_
    refine Lq.op (v := .bool (decide (((xs.length : Int)) ≤ (3 : Int)))) rfl rfl rfl (OpQ.leq rfl rfl rfl) ?_
    refine Lq.op (v := .bool (decide (((xs.length : Int)) ≤ (3 : Int)))) rfl rfl rfl (OpQ.pickT rfl rfl rfl) ?_
    refine Lq.op (v := .bool (decide (((xs.length : Int)) ≤ (3 : Int)))) rfl rfl rfl (OpQ.move rfl rfl) ?_
    refine Lq.bool fun b13 hg13 => ?_
    cases b13
    · skip
      replace hg13 := of_decide_eq_false hg13
      refine Lq.pass rfl rfl rfl ?_
      refine Lq.pass rfl rfl rfl ?_
      refine Lq.pass rfl rfl rfl ?_
      refine Lq.pass rfl rfl rfl ?_
      refine Lq.op (v := .bool false) rfl rfl rfl (OpQ.pickF rfl rfl rfl) ?_
      refine Lq.op (v := .bool false) rfl rfl rfl (OpQ.assign rfl rfl) ?_
      refine Lq.nil ?_
      refine Kt.onSub (e' := [(4, .bool false)]) (Sub.cons rfl Sub.nil) ?_
      refine Wk.ret (Kt.end1 rfl rfl fun w' hw => ?_)
      -- ret 1: .bool false
      exact ⟨ret_b (by unfold pebL; first | (rw [not_any_pel]; simp [*]; done) | (rw [← not_any_pel]; simp [*]; done) | (simp [*]; omega)), hw.below⟩
    · skip
      replace hg13 := of_decide_eq_true hg13
      refine Lq.op (v := va) rfl rfl rfl (OpQ.move rfl rfl) ?_
      refine Lq.op (v := .func (.func 134) #[] #[.pointer (some ⟨p2, 0, none⟩)]) rfl rfl rfl (OpQ.func' (cap := [.tmp 2]) rfl rfl) ?_
      refine Lq.op (v := .bool (xs.any fun x => !inB x (-1) (a.n - 1))) rfl rfl rfl (OpQ.call rfl Tryd.call106 rfl Own.stable (fun w1 hw1 => containsFunc_ok va xs w1 (Row.own hva hw1) hs 134 #[.pointer (some ⟨p2, 0, none⟩)] (fun x => !inB x (-1) (a.n - 1)) Tryd.call134 (fun w2 hb x => noPeb_ok a _ _ x w2 ((hw1.stable _ _ hb).has 0 _ _ rfl).2))) ?_
      refine Lq.op (v := .bool (!(xs.any fun x => !inB x (-1) (a.n - 1)))) rfl rfl rfl (OpQ.not rfl rfl) ?_
      refine Lq.op (v := .bool (!(xs.any fun x => !inB x (-1) (a.n - 1)))) rfl rfl rfl (OpQ.pickT rfl rfl rfl) ?_
      refine Lq.op (v := .bool (!(xs.any fun x => !inB x (-1) (a.n - 1)))) rfl rfl rfl (OpQ.assign rfl rfl) ?_
      refine Lq.nil ?_
      refine Kt.onSub (e' := [(4, .bool (!(xs.any fun x => !inB x (-1) (a.n - 1))))]) (Sub.cons rfl Sub.nil) ?_
      refine Wk.ret (Kt.end1 rfl rfl fun w' hw => ?_)
      -- ret 2: .bool (!(xs.any fun x => !inB x (-1) (a.n - 1)))
      exact ⟨ret_b (by unfold pebL; first | (rw [not_any_pel]; simp [*]; done) | (rw [← not_any_pel]; simp [*]; done) | (simp [*]; omega)), hw.below⟩

set_option maxHeartbeats 400000 in
/-- impl.areReady -/
theorem areReady_ok (a b : St) (xs ys : List Int) (va vb : Value) (w : World) (hsa : a.Small) (hsb : b.Small) (hva : Ints w va xs) (hvb : Ints w vb ys) (hs1 : xs.length ≤ 140737488355328) (hs2 : ys.length ≤ 140737488355328) :
    Calls Tryd.prog 85 [vS a, va, vS b, vb].toArray w fun en w' => en = .returned (.bool (readyB a xs b ys)) ∧ Below w.heap.size w w' := by
  refine fnStart (n := 54) (e := [(0, vS a), (1, va), (2, vS b), (3, vb)]) Tryd.func85 rfl rfl rfl rfl Ends.both ?_
  refine Wk.seq ?_
  refine Wk.region ?_
  refine Ll.box (v := vS a) rfl rfl rfl rfl rfl fun p4 hp4 => ?_
  show Ll _ _ (Own _ _ [(p4, .cells #[.int .i64 a.n, str a.set, str a.rel] 26 (0, 0))]) _ _ ((4, .pointer (some ⟨p4, 0, none⟩)) :: _) _ _ _
  refine Ll.box (v := vS b) rfl rfl rfl rfl rfl fun p6 hp6 => ?_
  show Ll _ _ (Own _ _ [(p6, .cells #[.int .i64 b.n, str b.set, str b.rel] 26 (0, 0)), (p4, .cells #[.int .i64 a.n, str a.set, str a.rel] 26 (0, 0))]) _ _ ((6, .pointer (some ⟨p6, 0, none⟩)) :: _) _ _ _
  refine Ll.op (v := .bool false) rfl rfl rfl (OpQ.assign rfl rfl) ?_
  refine Ll.nil ?_
  refine Kt.onSub (e' := [(1, va), (3, vb), (4, .pointer (some ⟨p4, 0, none⟩)), (6, .pointer (some ⟨p6, 0, none⟩))]) (Sub.cons rfl (Sub.cons rfl (Sub.cons rfl (Sub.cons rfl Sub.nil)))) ?_
  refine Wk.seq ?_
  refine Wk.seq ?_
  refine Wk.regionQ ?_
  refine Lq.op (v := vS a) rfl rfl rfl (OpQ.loadBox (cs := #[.int .i64 a.n, str a.set, str a.rel]) 1 rfl Tryd.isAgg26 rfl rfl Tryd.sizeOf26) ?_
  refine Lq.op (v := .bool (validB a)) rfl rfl rfl (OpQ.call rfl Tryd.call57 rfl Own.stable (fun w1 hw1 => isStructure_ok a w1 hsa)) ?_
  refine Lq.op (v := .bool (!(validB a))) rfl rfl rfl (OpQ.not rfl rfl) ?_
  refine Lq.op (v := .bool (!(validB a))) rfl rfl rfl (OpQ.move rfl rfl) ?_
  refine Lq.bool fun b14 hg14 => ?_
  cases b14
  · skip
    replace hg14 := not_false hg14
    refine Lq.op (v := vS b) rfl rfl rfl (OpQ.loadBox (cs := #[.int .i64 b.n, str b.set, str b.rel]) 0 rfl Tryd.isAgg26 rfl rfl Tryd.sizeOf26) ?_
    refine Lq.op (v := .bool (validB b)) rfl rfl rfl (OpQ.call rfl Tryd.call57 rfl Own.stable (fun w1 hw1 => isStructure_ok b w1 hsb)) ?_
    refine Lq.op (v := .bool (!(validB b))) rfl rfl rfl (OpQ.not rfl rfl) ?_
    refine Lq.op (v := .bool (!(validB b))) rfl rfl rfl (OpQ.pickF rfl rfl rfl) ?_
    refine Lq.op (v := .bool (!(validB b))) rfl rfl rfl (OpQ.move rfl rfl) ?_
    refine Lq.bool fun b19 hg19 => ?_
    cases b19
    · skip
      replace hg19 := not_false hg19
      refine Lq.op (v := vS a) rfl rfl rfl (OpQ.loadBox (cs := #[.int .i64 a.n, str a.set, str a.rel]) 1 rfl Tryd.isAgg26 rfl rfl Tryd.sizeOf26) ?_
      refine Lq.op (v := va) rfl rfl rfl (OpQ.move rfl rfl) ?_
      refine Lq.op (v := .bool (pebL a xs)) rfl rfl rfl (OpQ.call rfl Tryd.call120 rfl Own.stable (fun w1 hw1 => arePebbles_ok a va xs w1 (Row.own hva hw1) (by first | (simp; done) | (simp; omega) | omega))) ?_
      refine Lq.op (v := .bool (!(pebL a xs))) rfl rfl rfl (OpQ.not rfl rfl) ?_
      refine Lq.op (v := .bool (!(pebL a xs))) rfl rfl rfl (OpQ.pickF rfl rfl rfl) ?_
      refine Lq.op (v := .bool (!(pebL a xs))) rfl rfl rfl (OpQ.move rfl rfl) ?_
      refine Lq.bool fun b25 hg25 => ?_
      cases b25
      · skip
        replace hg25 := not_false hg25
        refine Lq.op (v := vS b) rfl rfl rfl (OpQ.loadBox (cs := #[.int .i64 b.n, str b.set, str b.rel]) 0 rfl Tryd.isAgg26 rfl rfl Tryd.sizeOf26) ?_
        refine Lq.op (v := vb) rfl rfl rfl (OpQ.move rfl rfl) ?_
        refine Lq.op (v := .bool (pebL b ys)) rfl rfl rfl (OpQ.call rfl Tryd.call120 rfl Own.stable (fun w1 hw1 => arePebbles_ok b vb ys w1 (Row.own hvb hw1) (by first | (simp; done) | (simp; omega) | omega))) ?_
        refine Lq.op (v := .bool (!(pebL b ys))) rfl rfl rfl (OpQ.not rfl rfl) ?_
        refine Lq.op (v := .bool (!(pebL b ys))) rfl rfl rfl (OpQ.pickF rfl rfl rfl) ?_
        refine Lq.op (v := .bool (!(pebL b ys))) rfl rfl rfl (OpQ.move rfl rfl) ?_
        refine Lq.bool fun b31 hg31 => ?_
        cases b31
        · skip
          replace hg31 := not_false hg31
          refine Lq.op (v := va) rfl rfl rfl (OpQ.move rfl rfl) ?_
          refine Lq.op (v := .int .i64 ((xs.length : Int))) rfl rfl rfl (OpQ.lenRow rfl Tryd.runUnderlying31 rfl (ints_length _) (fun w1 hw1 => Row.own hva hw1)) ?_
          refine Lq.op (v := vb) rfl rfl rfl (OpQ.move rfl rfl) ?_
          refine Lq.op (v := .int .i64 ((ys.length : Int))) rfl rfl rfl (OpQ.lenRow rfl Tryd.runUnderlying31 rfl (ints_length _) (fun w1 hw1 => Row.own hvb hw1)) ?_
          refine Lq.op (v := .bool (!(decide (((xs.length : Int)) = ((ys.length : Int)))))) rfl rfl rfl (OpQ.neq rfl rfl rfl) ?_
          refine Lq.op (v := .bool (!(decide (((xs.length : Int)) = ((ys.length : Int)))))) rfl rfl rfl (OpQ.pickF rfl rfl rfl) ?_
          refine Lq.nil ?_
          refine Kt.onSub (e' := [(1, va), (3, vb), (37, .bool (!(decide (((xs.length : Int)) = ((ys.length : Int))))))]) (Sub.cons rfl (Sub.cons rfl (Sub.cons rfl Sub.nil))) ?_
          refine Wk.cond (b := !(decide (((xs.length : Int)) = ((ys.length : Int))))) rfl (fun h37 => ?_) (fun h37 => ?_)
          · skip
            replace h37 := not_true h37
            replace h37 := of_decide_eq_false h37
            refine Wk.seq ?_
            refine Wk.regionQ ?_
            refine Lq.op (v := .bool false) rfl rfl rfl (OpQ.assign rfl rfl) ?_
            refine Lq.nil ?_
            refine Kt.onSub (e' := [(8, .bool false)]) (Sub.cons rfl Sub.nil) ?_
            refine Wk.ret (Kt.end1 rfl rfl fun w' hw => ?_)
            -- ret 0: .bool false
            exact ⟨ret_b (by unfold readyB; rw [pebB_eq, pebB_eq]; first | (simp [*]; done) | (rw [signs_no (k := k) (by omega) (beq_of_bneT (by assumption))]; simp; done) | (rw [signs_yes (k := k) (by omega) hall]; simp [*]; done) | (simp [*]; omega)), hw.below⟩
          · skip
            replace h37 := not_false h37
            replace h37 := of_decide_eq_true h37
            refine Wk.skip ?_
            refine Kt.onSub (e' := [(1, va), (3, vb)]) (Sub.cons rfl (Sub.cons rfl Sub.nil)) ?_
            refine Wk.seq ?_
            refine Wk.seq ?_
            refine Wk.regionQ ?_
            refine Lq.op (v := va) rfl rfl rfl (OpQ.move rfl rfl) ?_
            refine Lq.op (v := .int .i64 ((xs.length : Int))) rfl rfl rfl (OpQ.lenRow rfl Tryd.runUnderlying31 rfl (ints_length _) (fun w1 hw1 => Row.own hva hw1)) ?_
            refine Lq.op (v := .int .i64 0) rfl rfl rfl (OpQ.move rfl rfl) ?_
            refine Lq.nil ?_
            refine Kt.onSub (e' := [(3, vb), (38, va), (39, .int .i64 ((xs.length : Int))), (40, .int .i64 0)]) (Sub.cons rfl (Sub.cons rfl (Sub.cons rfl (Sub.cons rfl Sub.nil)))) ?_
            refine Wk.block ?_
            refine Wk.loop (σ := Nat) (fun k => k ≤ xs.length ∧ ∀ i : Nat, i < k → (decide (xs.getD i 0 < 0) == decide (ys.getD i 0 < 0)) = true) (fun k => [(3, vb), (38, va), (39, .int .i64 ((xs.length : Int))), (40, .int .i64 ((k : Int)))]) (fun k => Own w.heap.size w [(p6, .cells #[.int .i64 b.n, str b.set, str b.rel] 26 (0, 0)), (p4, .cells #[.int .i64 a.n, str a.set, str a.rel] 26 (0, 0))]) (fun k => xs.length - k) (0) ⟨by omega, fun i hi => absurd hi (by omega)⟩ (Sub.cons rfl (Sub.cons rfl (Sub.cons rfl (Sub.cons rfl Sub.nil)))) (fun _ h => h) ?_
            rintro k ⟨hk, hall⟩
            refine Wk.seq ?_
            refine Wk.regionQ ?_
            refine Lq.op (v := .bool (decide (((k : Int)) < ((xs.length : Int))))) rfl rfl rfl (OpQ.lss rfl rfl rfl) ?_
            refine Lq.nil ?_
            refine Kt.onSub (e' := [(3, vb), (38, va), (39, .int .i64 ((xs.length : Int))), (40, .int .i64 ((k : Int))), (41, .bool (decide (((k : Int)) < ((xs.length : Int)))))]) (Sub.cons rfl (Sub.cons rfl (Sub.cons rfl (Sub.cons rfl (Sub.cons rfl Sub.nil))))) ?_
            refine Wk.seq ?_
            refine Wk.cond (b := decide (((k : Int)) < ((xs.length : Int)))) rfl (fun h41 => ?_) (fun h41 => ?_)
            · skip
              replace h41 := of_decide_eq_true h41
              refine Wk.skip ?_
              refine Kt.onSub (e' := [(3, vb), (38, va), (39, .int .i64 ((xs.length : Int))), (40, .int .i64 ((k : Int)))]) (Sub.cons rfl (Sub.cons rfl (Sub.cons rfl (Sub.cons rfl Sub.nil)))) ?_
              refine Wk.seq ?_
              refine Wk.block ?_
              refine Wk.seq ?_
              refine Wk.regionQ ?_
              refine Lq.op (v := .int .i64 ((k : Int))) rfl rfl rfl (OpQ.move rfl rfl) ?_
              refine Lq.op (v := .pointer (some (sAt va ((k : Int))))) rfl rfl rfl (OpQ.atRow rfl Tryd.runUnderlying31 Tryd.sizeOf3 rfl rfl (by omega) (by rw [ints_length]; omega) (fun w1 hw1 => Row.own hva hw1)) ?_
              refine Lq.op (v := .int .i64 (xs.getD (((k : Int)).toNat) 0)) rfl rfl rfl (OpQ.load1 rfl Tryd.isAgg3 rfl (fun w1 hw1 => Ints.cell (Row.own hva hw1) (by omega) (by omega))) ?_
              refine Lq.op (v := .int .i64 ((k : Int))) rfl rfl rfl (OpQ.assign rfl rfl) ?_
              refine Lq.op (v := .int .i64 (xs.getD (((k : Int)).toNat) 0)) rfl rfl rfl (OpQ.assign rfl rfl) ?_
              refine Lq.nil ?_
              refine Kt.onSub (e' := [(3, vb), (9, .int .i64 ((k : Int))), (10, .int .i64 (xs.getD (((k : Int)).toNat) 0)), (38, va), (39, .int .i64 ((xs.length : Int))), (40, .int .i64 ((k : Int)))]) (Sub.cons rfl (Sub.cons rfl (Sub.cons rfl (Sub.cons rfl (Sub.cons rfl (Sub.cons rfl Sub.nil)))))) ?_
              refine Wk.seq ?_
              refine Wk.regionQ ?_
              refine Lq.op (v := .int .i64 (xs.getD (((k : Int)).toNat) 0)) rfl rfl rfl (OpQ.move rfl rfl) ?_
              refine Lq.op (v := .bool (decide ((xs.getD (((k : Int)).toNat) 0) < (0 : Int)))) rfl rfl rfl (OpQ.lss rfl rfl rfl) ?_
              refine Lq.op (v := vb) rfl rfl rfl (OpQ.move rfl rfl) ?_
              refine Lq.op (v := .int .i64 ((k : Int))) rfl rfl rfl (OpQ.move rfl rfl) ?_
              refine Lq.op (v := .pointer (some (sAt vb ((k : Int))))) rfl rfl rfl (OpQ.atRow rfl Tryd.runUnderlying31 Tryd.sizeOf3 rfl rfl (by omega) (by rw [ints_length]; omega) (fun w1 hw1 => Row.own hvb hw1)) ?_
              refine Lq.op (v := .int .i64 (ys.getD (((k : Int)).toNat) 0)) rfl rfl rfl (OpQ.load1 rfl Tryd.isAgg3 rfl (fun w1 hw1 => Ints.cell (Row.own hvb hw1) (by omega) (by omega))) ?_
              refine Lq.op (v := .bool (decide ((ys.getD (((k : Int)).toNat) 0) < (0 : Int)))) rfl rfl rfl (OpQ.lss rfl rfl rfl) ?_
              refine Lq.op (v := .bool ((decide ((xs.getD (((k : Int)).toNat) 0) < (0 : Int))) != (decide ((ys.getD (((k : Int)).toNat) 0) < (0 : Int))))) rfl rfl rfl (OpQ.bne rfl Tryd.runUnderlying4 rfl rfl) ?_
              refine Lq.nil ?_
              refine Kt.onSub (e' := [(3, vb), (38, va), (39, .int .i64 ((xs.length : Int))), (40, .int .i64 ((k : Int))), (52, .bool ((decide ((xs.getD (((k : Int)).toNat) 0) < (0 : Int))) != (decide ((ys.getD (((k : Int)).toNat) 0) < (0 : Int)))))]) (Sub.cons rfl (Sub.cons rfl (Sub.cons rfl (Sub.cons rfl (Sub.cons rfl Sub.nil))))) ?_
              refine Wk.cond (b := (decide ((xs.getD (((k : Int)).toNat) 0) < (0 : Int))) != (decide ((ys.getD (((k : Int)).toNat) 0) < (0 : Int)))) rfl (fun h52 => ?_) (fun h52 => ?_)
              · skip
                refine Wk.seq ?_
                refine Wk.regionQ ?_
                refine Lq.op (v := .bool false) rfl rfl rfl (OpQ.assign rfl rfl) ?_
                refine Lq.nil ?_
                refine Kt.onSub (e' := [(8, .bool false)]) (Sub.cons rfl Sub.nil) ?_
                refine Wk.ret (Kt.end1 rfl rfl fun w' hw => ?_)
                -- ret 1: .bool false
                exact ⟨ret_b (by unfold readyB; rw [pebB_eq, pebB_eq]; first | (simp [*]; done) | (rw [signs_no (k := k) (by omega) (beq_of_bneT (by assumption))]; simp; done) | (rw [signs_yes (k := k) (by omega) hall]; simp [*]; done) | (simp [*]; omega)), hw.below⟩
              · skip
                refine Wk.skip ?_
                refine Kt.onSub (e' := [(3, vb), (38, va), (39, .int .i64 ((xs.length : Int))), (40, .int .i64 ((k : Int)))]) (Sub.cons rfl (Sub.cons rfl (Sub.cons rfl (Sub.cons rfl Sub.nil)))) ?_
                refine Wk.regionQ ?_
                refine Lq.op (v := .int .i64 (((k : Int)) + (1 : Int))) rfl rfl rfl (OpQ.add rfl rfl rfl (by omega) (by omega)) ?_
                refine Lq.op (v := .int .i64 (((k : Int)) + (1 : Int))) rfl rfl rfl (OpQ.move rfl rfl) ?_
                refine Lq.nil ?_
                refine Kt.again (k + 1) ⟨by omega, fun i hi => (Nat.lt_succ_iff_lt_or_eq.1 hi).elim (hall i) (fun e => by subst e; exact beq_of_bne h52)⟩ (by omega) (Sub.cons rfl (Sub.cons rfl (Sub.cons rfl (Sub.cons rfl Sub.nil)))) (fun _ h => h)
            · skip
              replace h41 := of_decide_eq_false h41
              refine Wk.exit rfl ?_
              refine Kt.onSub (e' := []) Sub.nil ?_
              refine Wk.seq ?_
              refine Wk.regionQ ?_
              refine Lq.op (v := .bool true) rfl rfl rfl (OpQ.assign rfl rfl) ?_
              refine Lq.nil ?_
              refine Kt.onSub (e' := [(8, .bool true)]) (Sub.cons rfl Sub.nil) ?_
              refine Wk.ret (Kt.end1 rfl rfl fun w' hw => ?_)
              -- ret 2: .bool true
              exact ⟨ret_b (by unfold readyB; rw [pebB_eq, pebB_eq]; first | (simp [*]; done) | (rw [signs_no (k := k) (by omega) (beq_of_bneT (by assumption))]; simp; done) | (rw [signs_yes (k := k) (by omega) hall]; simp [*]; done) | (simp [*]; omega)), hw.below⟩
        · skip
          replace hg31 := not_true hg31
          refine Lq.pass rfl rfl rfl ?_
          refine Lq.pass rfl rfl rfl ?_
          refine Lq.pass rfl rfl rfl ?_
          refine Lq.pass rfl rfl rfl ?_
          refine Lq.pass rfl rfl rfl ?_
          refine Lq.op (v := .bool true) rfl rfl rfl (OpQ.pickT rfl rfl rfl) ?_
          refine Lq.nil ?_
          refine Kt.onSub (e' := [(1, va), (3, vb), (37, .bool true)]) (Sub.cons rfl (Sub.cons rfl (Sub.cons rfl Sub.nil))) ?_
          refine Wk.condT rfl ?_
          refine Wk.seq ?_
          refine Wk.regionQ ?_
          refine Lq.op (v := .bool false) rfl rfl rfl (OpQ.assign rfl rfl) ?_
          refine Lq.nil ?_
          refine Kt.onSub (e' := [(8, .bool false)]) (Sub.cons rfl Sub.nil) ?_
          refine Wk.ret (Kt.end1 rfl rfl fun w' hw => ?_)
          -- ret 3: .bool false
          exact ⟨ret_b (by unfold readyB; rw [pebB_eq, pebB_eq]; first | (simp [*]; done) | (rw [signs_no (k := k) (by omega) (beq_of_bneT (by assumption))]; simp; done) | (rw [signs_yes (k := k) (by omega) hall]; simp [*]; done) | (simp [*]; omega)), hw.below⟩
      · skip
        replace hg25 := not_true hg25
        refine Lq.pass rfl rfl rfl ?_
        refine Lq.pass rfl rfl rfl ?_
        refine Lq.pass rfl rfl rfl ?_
        refine Lq.pass rfl rfl rfl ?_
        refine Lq.op (v := .bool true) rfl rfl rfl (OpQ.pickT rfl rfl rfl) ?_
        refine Lq.op (v := .bool true) rfl rfl rfl (OpQ.move rfl rfl) ?_
        refine Lq.pass rfl rfl rfl ?_
        refine Lq.pass rfl rfl rfl ?_
        refine Lq.pass rfl rfl rfl ?_
        refine Lq.pass rfl rfl rfl ?_
        refine Lq.pass rfl rfl rfl ?_
        refine Lq.op (v := .bool true) rfl rfl rfl (OpQ.pickT rfl rfl rfl) ?_
        refine Lq.nil ?_
        refine Kt.onSub (e' := [(1, va), (3, vb), (37, .bool true)]) (Sub.cons rfl (Sub.cons rfl (Sub.cons rfl Sub.nil))) ?_
        refine Wk.condT rfl ?_
        refine Wk.seq ?_
        refine Wk.regionQ ?_
        refine Lq.op (v := .bool false) rfl rfl rfl (OpQ.assign rfl rfl) ?_
        refine Lq.nil ?_
        refine Kt.onSub (e' := [(8, .bool false)]) (Sub.cons rfl Sub.nil) ?_
        refine Wk.ret (Kt.end1 rfl rfl fun w' hw => ?_)
        -- ret 4: .bool false
        exact ⟨ret_b (by unfold readyB; rw [pebB_eq, pebB_eq]; first | (simp [*]; done) | (rw [signs_no (k := k) (by omega) (beq_of_bneT (by assumption))]; simp; done) | (rw [signs_yes (k := k) (by omega) hall]; simp [*]; done) | (simp [*]; omega)), hw.below⟩
    · skip
      replace hg19 := not_true hg19
      refine Lq.pass rfl rfl rfl ?_
      refine Lq.pass rfl rfl rfl ?_
      refine Lq.pass rfl rfl rfl ?_
      refine Lq.pass rfl rfl rfl ?_
      refine Lq.op (v := .bool true) rfl rfl rfl (OpQ.pickT rfl rfl rfl) ?_
      refine Lq.op (v := .bool true) rfl rfl rfl (OpQ.move rfl rfl) ?_
      refine Lq.pass rfl rfl rfl ?_
      refine Lq.pass rfl rfl rfl ?_
      refine Lq.pass rfl rfl rfl ?_
      refine Lq.pass rfl rfl rfl ?_
      refine Lq.op (v := .bool true) rfl rfl rfl (OpQ.pickT rfl rfl rfl) ?_
      refine Lq.op (v := .bool true) rfl rfl rfl (OpQ.move rfl rfl) ?_
      refine Lq.pass rfl rfl rfl ?_
      refine Lq.pass rfl rfl rfl ?_
      refine Lq.pass rfl rfl rfl ?_
      refine Lq.pass rfl rfl rfl ?_
      refine Lq.pass rfl rfl rfl ?_
      refine Lq.op (v := .bool true) rfl rfl rfl (OpQ.pickT rfl rfl rfl) ?_
      refine Lq.nil ?_
      refine Kt.onSub (e' := [(1, va), (3, vb), (37, .bool true)]) (Sub.cons rfl (Sub.cons rfl (Sub.cons rfl Sub.nil))) ?_
      refine Wk.condT rfl ?_
      refine Wk.seq ?_
      refine Wk.regionQ ?_
      refine Lq.op (v := .bool false) rfl rfl rfl (OpQ.assign rfl rfl) ?_
      refine Lq.nil ?_
      refine Kt.onSub (e' := [(8, .bool false)]) (Sub.cons rfl Sub.nil) ?_
      refine Wk.ret (Kt.end1 rfl rfl fun w' hw => ?_)
      -- ret 5: .bool false
      exact ⟨ret_b (by unfold readyB; rw [pebB_eq, pebB_eq]; first | (simp [*]; done) | (rw [signs_no (k := k) (by omega) (beq_of_bneT (by assumption))]; simp; done) | (rw [signs_yes (k := k) (by omega) hall]; simp [*]; done) | (simp [*]; omega)), hw.below⟩
  · skip
    replace hg14 := not_true hg14
    refine Lq.pass rfl rfl rfl ?_
    refine Lq.pass rfl rfl rfl ?_
    refine Lq.pass rfl rfl rfl ?_
    refine Lq.op (v := .bool true) rfl rfl rfl (OpQ.pickT rfl rfl rfl) ?_
    refine Lq.op (v := .bool true) rfl rfl rfl (OpQ.move rfl rfl) ?_
    refine Lq.pass rfl rfl rfl ?_
    refine Lq.pass rfl rfl rfl ?_
    refine Lq.pass rfl rfl rfl ?_
    refine Lq.pass rfl rfl rfl ?_
    refine Lq.op (v := .bool true) rfl rfl rfl (OpQ.pickT rfl rfl rfl) ?_
    refine Lq.op (v := .bool true) rfl rfl rfl (OpQ.move rfl rfl) ?_
    refine Lq.pass rfl rfl rfl ?_
    refine Lq.pass rfl rfl rfl ?_
    refine Lq.pass rfl rfl rfl ?_
    refine Lq.pass rfl rfl rfl ?_
    refine Lq.op (v := .bool true) rfl rfl rfl (OpQ.pickT rfl rfl rfl) ?_
    refine Lq.op (v := .bool true) rfl rfl rfl (OpQ.move rfl rfl) ?_
    refine Lq.pass rfl rfl rfl ?_
    refine Lq.pass rfl rfl rfl ?_
    refine Lq.pass rfl rfl rfl ?_
    refine Lq.pass rfl rfl rfl ?_
    refine Lq.pass rfl rfl rfl ?_
    refine Lq.op (v := .bool true) rfl rfl rfl (OpQ.pickT rfl rfl rfl) ?_
    refine Lq.nil ?_
    refine Kt.onSub (e' := [(1, va), (3, vb), (37, .bool true)]) (Sub.cons rfl (Sub.cons rfl (Sub.cons rfl Sub.nil))) ?_
    refine Wk.condT rfl ?_
    refine Wk.seq ?_
    refine Wk.regionQ ?_
    refine Lq.op (v := .bool false) rfl rfl rfl (OpQ.assign rfl rfl) ?_
    refine Lq.nil ?_
    refine Kt.onSub (e' := [(8, .bool false)]) (Sub.cons rfl Sub.nil) ?_
    refine Wk.ret (Kt.end1 rfl rfl fun w' hw => ?_)
    -- ret 6: .bool false
    exact ⟨ret_b (by unfold readyB; rw [pebB_eq, pebB_eq]; first | (simp [*]; done) | (rw [signs_no (k := k) (by omega) (beq_of_bneT (by assumption))]; simp; done) | (rw [signs_yes (k := k) (by omega) hall]; simp [*]; done) | (simp [*]; omega)), hw.below⟩

set_option maxHeartbeats 400000 in
/-- impl.PebblesFit$1$1 -/
theorem neg_ok (x : Int) (w : World) :
    Calls Tryd.prog 88 [.int .i64 x].toArray w fun en w' => en = .returned (.bool (negB x)) ∧ Below w.heap.size w w' := by
  refine fnStart (n := 5) (e := [(0, .int .i64 x)]) Tryd.func88 rfl rfl rfl rfl Ends.both ?_
  refine Wk.seq ?_
  refine Wk.regionQ ?_
  refine Lq.op (v := .bool false) rfl rfl rfl (OpQ.assign rfl rfl) ?_
  refine Lq.nil ?_
  refine Kt.onSub (e' := [(0, .int .i64 x)]) (Sub.cons rfl Sub.nil) ?_
  refine Wk.seq ?_
  refine Wk.regionQ ?_
  refine Lq.op (v := .int .i64 x) rfl rfl rfl (OpQ.move rfl rfl) ?_
  refine Lq.op (v := .bool (decide (x < (0 : Int)))) rfl rfl rfl (OpQ.lss rfl rfl rfl) ?_
  refine Lq.op (v := .bool (decide (x < (0 : Int)))) rfl rfl rfl (OpQ.assign rfl rfl) ?_
  refine Lq.nil ?_
  refine Kt.onSub (e' := [(2, .bool (decide (x < (0 : Int))))]) (Sub.cons rfl Sub.nil) ?_
  refine Wk.ret (Kt.end1 rfl rfl fun w' hw => ?_)
  -- ret 0: .bool (decide (x < (0 : Int)))
  exact ⟨rfl, hw.below⟩

set_option maxHeartbeats 400000 in
/-- slices.DeleteFunc[[]int,int] -/
theorem deleteFunc_ok (B : Nat) (w0 : World) (g cap : Nat) (cur : Array Value) (xs : List Int) (w : World) (hc : cur.size = cap * 1) (hle : xs.length ≤ cap) (ht : cur.toList.take (xs.length * 1) = ints xs) (hs : xs.length ≤ 1000000) (hw : Own B w0 [(g, .cells cur 3 (0, 0))] w) :
    Calls Tryd.prog 87 [.slice (some ⟨g, 0, none⟩) xs.length cap, .func (.func 88) #[] #[]].toArray w fun en w' => ∃ cur' : Array Value, en = .returned (.slice (some ⟨g, 0, none⟩) (placed xs xs.length).length cap) ∧ cur'.size = cap * 1 ∧ (placed xs xs.length).length ≤ cap ∧ cur'.toList.take ((placed xs xs.length).length * 1) = ints (placed xs xs.length) ∧ Own B w0 [(g, .cells cur' 3 (0, 0))] w' := by
  refine fnStartC (Own B w0 [(g, .cells cur 3 (0, 0))]) (n := 42) (e := [(0, .slice (some ⟨g, 0, none⟩) xs.length cap), (1, .func (.func 88) #[] #[])]) Tryd.func87 rfl rfl rfl rfl Ends.both hw ?_
  refine Wk.seq ?_
  refine Wk.regionQ ?_
  refine Lq.op (v := .slice none 0 0) rfl rfl rfl (OpQ.assign rfl rfl) ?_
  refine Lq.nil ?_
  refine Kt.onSub (e' := [(0, .slice (some ⟨g, 0, none⟩) xs.length cap), (1, .func (.func 88) #[] #[])]) (Sub.cons rfl (Sub.cons rfl Sub.nil)) ?_
  refine Wk.seq ?_
  refine Wk.regionQ ?_
  refine Lq.op (v := .slice (some ⟨g, 0, none⟩) xs.length cap) rfl rfl rfl (OpQ.move rfl rfl) ?_
  refine Lq.op (v := .func (.func 88) #[] #[]) rfl rfl rfl (OpQ.move rfl rfl) ?_
  refine Lq.op (v := .int .i64 (idxI xs negB)) rfl rfl rfl (OpQ.call rfl Tryd.call121 rfl Own.stable (fun w1 hw1 => indexFunc_ok (.slice (some ⟨g, 0, none⟩) xs.length cap) xs w1 (Own.row hw1 (i := 0) rfl (by simpa using ht) (by simp) hle) (by omega) 88 #[] negB Tryd.call88 (fun w2 hb x => neg_ok x w2))) ?_
  refine Lq.op (v := .int .i64 (idxI xs negB)) rfl rfl rfl (OpQ.assign rfl rfl) ?_
  refine Lq.nil ?_
  refine Kt.onSub (e' := [(0, .slice (some ⟨g, 0, none⟩) xs.length cap), (1, .func (.func 88) #[] #[]), (5, .int .i64 (idxI xs negB))]) (Sub.cons rfl (Sub.cons rfl (Sub.cons rfl Sub.nil))) ?_
  refine Wk.seq ?_
  refine Wk.seq ?_
  refine Wk.regionQ ?_
  refine Lq.op (v := .int .i64 (idxI xs negB)) rfl rfl rfl (OpQ.move rfl rfl) ?_
  refine Lq.op (v := .bool (decide ((idxI xs negB) = (-1 : Int)))) rfl rfl rfl (OpQ.eql rfl rfl rfl) ?_
  refine Lq.nil ?_
  refine Kt.onSub (e' := [(0, .slice (some ⟨g, 0, none⟩) xs.length cap), (1, .func (.func 88) #[] #[]), (5, .int .i64 (idxI xs negB)), (12, .bool (decide ((idxI xs negB) = (-1 : Int))))]) (Sub.cons rfl (Sub.cons rfl (Sub.cons rfl (Sub.cons rfl Sub.nil)))) ?_
  refine Wk.cond (b := decide ((idxI xs negB) = (-1 : Int))) rfl (fun h12 => ?_) (fun h12 => ?_)
  · skip
    replace h12 := of_decide_eq_true h12
    refine Wk.seq ?_
    refine Wk.regionQ ?_
    refine Lq.op (v := .slice (some ⟨g, 0, none⟩) xs.length cap) rfl rfl rfl (OpQ.move rfl rfl) ?_
    refine Lq.op (v := .slice (some ⟨g, 0, none⟩) xs.length cap) rfl rfl rfl (OpQ.assign rfl rfl) ?_
    refine Lq.nil ?_
    refine Kt.onSub (e' := [(4, .slice (some ⟨g, 0, none⟩) xs.length cap)]) (Sub.cons rfl Sub.nil) ?_
    refine Wk.ret (Kt.end1 rfl rfl fun w' hw => ?_)
    -- ret 0: .slice (some ⟨g, 0, none⟩) xs.length cap
    exact ⟨cur, by rw [idx_none h12], hc, by rw [idx_none h12]; exact hle, by rw [idx_none h12]; exact ht, hw⟩
  · skip
    replace h12 := of_decide_eq_false h12
    obtain ⟨k0, e0, hk0, hb0, hn0⟩ := idx_neg h12
    have hsw0 := swept_start hk0 hb0 hn0
    refine Wk.skip ?_
    refine Kt.onSub (e' := [(0, .slice (some ⟨g, 0, none⟩) xs.length cap), (1, .func (.func 88) #[] #[]), (5, .int .i64 (idxI xs negB))]) (Sub.cons rfl (Sub.cons rfl (Sub.cons rfl Sub.nil))) ?_
    refine Wk.seq ?_
    refine Wk.seq ?_
    refine Wk.regionQ ?_
    refine Lq.op (v := .int .i64 (idxI xs negB)) rfl rfl rfl (OpQ.move rfl rfl) ?_
    refine Lq.op (v := .int .i64 ((idxI xs negB) + (1 : Int))) rfl rfl rfl (OpQ.add rfl rfl rfl (by omega) (by omega)) ?_
    refine Lq.op (v := .int .i64 ((idxI xs negB) + (1 : Int))) rfl rfl rfl (OpQ.assign rfl rfl) ?_
    refine Lq.nil ?_
    refine Kt.onSub (e' := [(0, .slice (some ⟨g, 0, none⟩) xs.length cap), (1, .func (.func 88) #[] #[]), (5, .int .i64 (idxI xs negB)), (6, .int .i64 ((idxI xs negB) + (1 : Int)))]) (Sub.cons rfl (Sub.cons rfl (Sub.cons rfl (Sub.cons rfl Sub.nil)))) ?_
    refine Wk.block ?_
    refine Wk.loop (σ := Nat × Array Value × List Int) (fun ⟨j, u, M⟩ => u.size = cap * 1 ∧ u.toList.take (xs.length * 1) = ints M ∧ Swept xs M j) (fun ⟨j, u, M⟩ => [(0, .slice (some ⟨g, 0, none⟩) xs.length cap), (1, .func (.func 88) #[] #[]), (5, .int .i64 (((placed xs j).length : Int))), (6, .int .i64 ((j : Int)))]) (fun ⟨j, u, M⟩ => Own B w0 [(g, .cells u 3 (0, 0))]) (fun ⟨j, u, M⟩ => xs.length - j) ((k0 + 1, cur, xs)) ⟨hc, ht, hsw0.1⟩ (Sub.cons rfl (Sub.cons rfl (Sub.cons (by rw [hsw0.2]; simp [List.lookup, e0]) (Sub.cons (by simp [List.lookup, e0]) Sub.nil)))) (fun _ h => h) ?_
    rintro ⟨j, u, M⟩ ⟨hc, ht, hsw⟩
    dsimp only
    have hlt := hsw.lt
    have hjl := hsw.jl
    have hMl := hsw.len
    refine Wk.seq ?_
    refine Wk.seq ?_
    refine Wk.regionQ ?_
    refine Lq.op (v := .int .i64 ((j : Int))) rfl rfl rfl (OpQ.move rfl rfl) ?_
    refine Lq.op (v := .slice (some ⟨g, 0, none⟩) xs.length cap) rfl rfl rfl (OpQ.move rfl rfl) ?_
    refine Lq.op (v := .int .i64 ((xs.length : Int))) rfl rfl rfl (OpQ.lenS rfl Tryd.runUnderlying31 rfl) ?_
    refine Lq.op (v := .bool (decide (((j : Int)) < ((xs.length : Int))))) rfl rfl rfl (OpQ.lss rfl rfl rfl) ?_
    refine Lq.nil ?_
    refine Kt.onSub (e' := [(0, .slice (some ⟨g, 0, none⟩) xs.length cap), (1, .func (.func 88) #[] #[]), (5, .int .i64 (((placed xs j).length : Int))), (6, .int .i64 ((j : Int))), (19, .bool (decide (((j : Int)) < ((xs.length : Int)))))]) (Sub.cons rfl (Sub.cons rfl (Sub.cons rfl (Sub.cons rfl (Sub.cons rfl Sub.nil))))) ?_
    refine Wk.cond (b := decide (((j : Int)) < ((xs.length : Int)))) rfl (fun h19 => ?_) (fun h19 => ?_)
    · skip
      replace h19 := of_decide_eq_true h19
      refine Wk.skip ?_
      refine Kt.onSub (e' := [(0, .slice (some ⟨g, 0, none⟩) xs.length cap), (1, .func (.func 88) #[] #[]), (5, .int .i64 (((placed xs j).length : Int))), (6, .int .i64 ((j : Int)))]) (Sub.cons rfl (Sub.cons rfl (Sub.cons rfl (Sub.cons rfl Sub.nil)))) ?_
      refine Wk.seq ?_
      refine Wk.block ?_
      refine Wk.seq ?_
      refine Wk.regionQ ?_
      refine Lq.op (v := .slice (some ⟨g, 0, none⟩) xs.length cap) rfl rfl rfl (OpQ.move rfl rfl) ?_
      refine Lq.op (v := .int .i64 ((j : Int))) rfl rfl rfl (OpQ.move rfl rfl) ?_
      refine Lq.op (v := .pointer (some ⟨g, ((j : Int)).toNat, none⟩)) rfl rfl rfl (OpQ.cast (by rw [Nat.zero_add]) (OpQ.indexAddr1 rfl Tryd.runUnderlying31 Tryd.sizeOf3 rfl rfl (by omega) (by omega))) ?_
      refine Lq.op (v := .int .i64 (M.getD (((j : Int)).toNat) 0)) rfl rfl rfl (OpQ.loadAt 0 rfl Tryd.isAgg3 rfl rfl (cur_at (by simpa using ht) (ints_at2 (by omega)))) ?_
      refine Lq.op (v := .int .i64 (M.getD (((j : Int)).toNat) 0)) rfl rfl rfl (OpQ.assign rfl rfl) ?_
      refine Lq.nil ?_
      refine Kt.onSub (e' := [(0, .slice (some ⟨g, 0, none⟩) xs.length cap), (1, .func (.func 88) #[] #[]), (5, .int .i64 (((placed xs j).length : Int))), (6, .int .i64 ((j : Int))), (7, .int .i64 (M.getD (((j : Int)).toNat) 0))]) (Sub.cons rfl (Sub.cons rfl (Sub.cons rfl (Sub.cons rfl (Sub.cons rfl Sub.nil))))) ?_
      refine Wk.seq ?_
      refine Wk.regionQ ?_
      refine Lq.op (v := .func (.func 88) #[] #[]) rfl rfl rfl (OpQ.move rfl rfl) ?_
      refine Lq.op (v := .int .i64 (M.getD (((j : Int)).toNat) 0)) rfl rfl rfl (OpQ.move rfl rfl) ?_
      refine Lq.op (v := .bool (negB (M.getD (((j : Int)).toNat) 0))) rfl rfl rfl (OpQ.callFn rfl rfl Tryd.call88 rfl Own.stable (fun w1 hw1 => neg_ok (M.getD (((j : Int)).toNat) 0) w1)) ?_
      refine Lq.op (v := .bool (!(negB (M.getD (((j : Int)).toNat) 0)))) rfl rfl rfl (OpQ.not rfl rfl) ?_
      refine Lq.nil ?_
      refine Kt.onSub (e' := [(0, .slice (some ⟨g, 0, none⟩) xs.length cap), (1, .func (.func 88) #[] #[]), (5, .int .i64 (((placed xs j).length : Int))), (6, .int .i64 ((j : Int))), (7, .int .i64 (M.getD (((j : Int)).toNat) 0)), (29, .bool (!(negB (M.getD (((j : Int)).toNat) 0))))]) (Sub.cons rfl (Sub.cons rfl (Sub.cons rfl (Sub.cons rfl (Sub.cons rfl (Sub.cons rfl Sub.nil)))))) ?_
      refine Wk.cond (b := !(negB (M.getD (((j : Int)).toNat) 0))) rfl (fun h29 => ?_) (fun h29 => ?_)
      · skip
        replace h29 := not_true h29
        have hneg : ¬ xs.getD j 0 < 0 := by
          rw [← hsw.at]; simpa [negB] using h29
        refine Wk.seq ?_
        refine Wk.region ?_
        refine Ll.op (v := .slice (some ⟨g, 0, none⟩) xs.length cap) rfl rfl rfl (OpQ.move rfl rfl) ?_
        refine Ll.op (v := .int .i64 (((placed xs j).length : Int))) rfl rfl rfl (OpQ.move rfl rfl) ?_
        refine Ll.op (v := .int .i64 (M.getD (((j : Int)).toNat) 0)) rfl rfl rfl (OpQ.move rfl rfl) ?_
        refine Ll.op (v := .pointer (some ⟨g, (((placed xs j).length : Int)).toNat, none⟩)) rfl rfl rfl (OpQ.cast (by rw [Nat.zero_add]) (OpQ.indexAddr1 rfl Tryd.runUnderlying31 Tryd.sizeOf3 rfl rfl (by omega) (by omega))) ?_
        refine Ll.store1 (v := .int .i64 (M.getD (((j : Int)).toNat) 0)) (hs' := [(g, .cells ((u.setIfInBounds ((((placed xs j).length : Int)).toNat) (.int .i64 (M.getD (((j : Int)).toNat) 0)))) 3 (0, 0))]) 0 rfl rfl rfl rfl rfl rfl Tryd.sizeOf3 rfl (by rw [hc]; omega) rfl ?_
        refine Ll.nil ?_
        refine Kt.onSub (e' := [(0, .slice (some ⟨g, 0, none⟩) xs.length cap), (1, .func (.func 88) #[] #[]), (5, .int .i64 (((placed xs j).length : Int))), (6, .int .i64 ((j : Int)))]) (Sub.cons rfl (Sub.cons rfl (Sub.cons rfl (Sub.cons rfl Sub.nil)))) ?_
        refine Wk.regionQ ?_
        refine Lq.op (v := .int .i64 (((placed xs j).length : Int))) rfl rfl rfl (OpQ.move rfl rfl) ?_
        refine Lq.op (v := .int .i64 ((((placed xs j).length : Int)) + (1 : Int))) rfl rfl rfl (OpQ.add rfl rfl rfl (by omega) (by omega)) ?_
        refine Lq.op (v := .int .i64 ((((placed xs j).length : Int)) + (1 : Int))) rfl rfl rfl (OpQ.assign rfl rfl) ?_
        refine Lq.nil ?_
        refine Kt.onSub (e' := [(0, .slice (some ⟨g, 0, none⟩) xs.length cap), (1, .func (.func 88) #[] #[]), (5, .int .i64 ((((placed xs j).length : Int)) + (1 : Int))), (6, .int .i64 ((j : Int)))]) (Sub.cons rfl (Sub.cons rfl (Sub.cons rfl (Sub.cons rfl Sub.nil)))) ?_
        refine Wk.regionQ ?_
        refine Lq.op (v := .int .i64 ((j : Int))) rfl rfl rfl (OpQ.move rfl rfl) ?_
        refine Lq.op (v := .int .i64 (((j : Int)) + (1 : Int))) rfl rfl rfl (OpQ.add rfl rfl rfl (by omega) (by omega)) ?_
        refine Lq.op (v := .int .i64 (((j : Int)) + (1 : Int))) rfl rfl rfl (OpQ.assign rfl rfl) ?_
        refine Lq.nil ?_
        refine Kt.again ((j + 1, (u.setIfInBounds ((((placed xs j).length : Int)).toNat) (.int .i64 (M.getD (((j : Int)).toNat) 0))), M.set (placed xs j).length (xs.getD j 0))) ⟨by simpa using hc, by dsimp only; rw [← hsw.at]; exact set_takeI ht, hsw.keep (by omega) hneg⟩ (by omega) (Sub.cons rfl (Sub.cons rfl (Sub.cons (by rw [placed_pos hneg, List.length_append]; simp [List.lookup]) (Sub.cons (by simp [List.lookup]) Sub.nil)))) (fun _ h => by rw [← hsw.at]; exact h)
      · skip
        replace h29 := not_false h29
        have hneg : xs.getD j 0 < 0 := by
          rw [← hsw.at]; simpa [negB] using h29
        refine Wk.skip ?_
        refine Kt.onSub (e' := [(0, .slice (some ⟨g, 0, none⟩) xs.length cap), (1, .func (.func 88) #[] #[]), (5, .int .i64 (((placed xs j).length : Int))), (6, .int .i64 ((j : Int)))]) (Sub.cons rfl (Sub.cons rfl (Sub.cons rfl (Sub.cons rfl Sub.nil)))) ?_
        refine Wk.regionQ ?_
        refine Lq.op (v := .int .i64 ((j : Int))) rfl rfl rfl (OpQ.move rfl rfl) ?_
        refine Lq.op (v := .int .i64 (((j : Int)) + (1 : Int))) rfl rfl rfl (OpQ.add rfl rfl rfl (by omega) (by omega)) ?_
        refine Lq.op (v := .int .i64 (((j : Int)) + (1 : Int))) rfl rfl rfl (OpQ.assign rfl rfl) ?_
        refine Lq.nil ?_
        refine Kt.again ((j + 1, u, M)) ⟨hc, ht, hsw.skip (by omega) hneg⟩ (by omega) (Sub.cons rfl (Sub.cons rfl (Sub.cons (by rw [placed_neg hneg]; rfl) (Sub.cons (by simp [List.lookup]) Sub.nil)))) (fun _ h => h)
    · skip
      replace h19 := of_decide_eq_false h19
      have hjx : j = xs.length := by omega
      refine Wk.exit rfl ?_
      refine Kt.onSub (e' := [(0, .slice (some ⟨g, 0, none⟩) xs.length cap), (5, .int .i64 (((placed xs j).length : Int)))]) (Sub.cons rfl (Sub.cons rfl Sub.nil)) ?_
      refine Wk.seq ?_
      refine Wk.region ?_
      refine Ll.op (v := .slice (some ⟨g, 0, none⟩) xs.length cap) rfl rfl rfl (OpQ.move rfl rfl) ?_
      refine Ll.op (v := .int .i64 (((placed xs j).length : Int))) rfl rfl rfl (OpQ.move rfl rfl) ?_
      refine Ll.op (v := .slice (some ⟨g, (((placed xs j).length : Int)).toNat, none⟩) (xs.length - (((placed xs j).length : Int)).toNat) (cap - (((placed xs j).length : Int)).toNat)) rfl rfl rfl (OpQ.dropS rfl Tryd.runUnderlying31 Tryd.sizeOf3 rfl rfl (by omega) (by omega) (by omega)) ?_
      refine Ll.clearTail 0 rfl rfl rfl Tryd.underlying31 Tryd.zeroValue3 rfl rfl rfl rfl (by omega) (by omega) fun v_cl hzv_cl hkv_cl => ?_
      show Ll _ _ (Own _ _ [(g, .cells v_cl 3 (0, 0))]) _ _ _ _ _ _
      refine Ll.nil ?_
      refine Kt.onSub (e' := [(0, .slice (some ⟨g, 0, none⟩) xs.length cap), (5, .int .i64 (((placed xs j).length : Int)))]) (Sub.cons rfl (Sub.cons rfl Sub.nil)) ?_
      refine Wk.seq ?_
      refine Wk.regionQ ?_
      refine Lq.op (v := .slice (some ⟨g, 0, none⟩) xs.length cap) rfl rfl rfl (OpQ.move rfl rfl) ?_
      refine Lq.op (v := .int .i64 (((placed xs j).length : Int))) rfl rfl rfl (OpQ.move rfl rfl) ?_
      refine Lq.op (v := .slice (some ⟨g, 0, none⟩) ((((placed xs j).length : Int)).toNat) cap) rfl rfl rfl (OpQ.takeS (i := ((placed xs j).length : Int)) rfl Tryd.runUnderlying31 Tryd.sizeOf3 rfl rfl (by omega) (by omega)) ?_
      refine Lq.op (v := .slice (some ⟨g, 0, none⟩) ((((placed xs j).length : Int)).toNat) cap) rfl rfl rfl (OpQ.assign rfl rfl) ?_
      refine Lq.nil ?_
      refine Kt.onSub (e' := [(4, .slice (some ⟨g, 0, none⟩) ((((placed xs j).length : Int)).toNat) cap)]) (Sub.cons rfl Sub.nil) ?_
      refine Wk.ret (Kt.end1 rfl rfl fun w' hw => ?_)
      -- ret 1: .slice (some ⟨g, 0, none⟩) ((((placed xs j).length : Int)).toNat) cap
      subst hjx
      have hcl : v_cl.toList.take (placed xs xs.length).length = u.toList.take (placed xs xs.length).length := by simpa using hkv_cl
      have hpr : u.toList.take (placed xs xs.length).length = ints (placed xs xs.length) := by
        have h9 := congrArg (List.take (placed xs xs.length).length) ht
        rw [Nat.mul_one, List.take_take, Nat.min_eq_left (by omega)] at h9
        rw [h9]
        have h8 := congrArg ints hsw.head
        rw [← h8]; simp [ints, List.map_take]
      exact ⟨v_cl, rfl, hzv_cl.trans hc, by omega, by rw [Nat.mul_one, hcl, hpr], hw⟩

set_option maxHeartbeats 400000 in
/-- impl.PebblesFit$1 -/
theorem lying_ok (va : Value) (xs : List Int) (w : World) (hva : Ints w va xs) (hs : xs.length ≤ 1000) :
    Calls Tryd.prog 86 [va].toArray w fun en w' => ∃ v, en = .returned v ∧ Below w.heap.size w w' ∧ NewRow w.heap.size 3 1 w' v (placed xs xs.length).length (ints (placed xs xs.length)) := by
  refine fnStart (n := 7) (e := [(0, va)]) Tryd.func86 rfl rfl rfl rfl Ends.both ?_
  refine Wk.seq ?_
  refine Wk.regionQ ?_
  refine Lq.op (v := .slice none 0 0) rfl rfl rfl (OpQ.assign rfl rfl) ?_
  refine Lq.nil ?_
  refine Kt.onSub (e' := [(0, va)]) (Sub.cons rfl Sub.nil) ?_
  refine Wk.seq ?_
  refine Wk.region ?_
  refine Ll.slice (xs := []) (vs := []) Base.elem31 rfl rfl rfl rfl rfl rfl (by decide) rfl fun p3 hp3 => ?_
  refine Ll.op (v := va) rfl rfl rfl (OpQ.move rfl rfl) ?_
  refine Ll.appendInts (xs := []) (ys := xs) Base.elem31 0 rfl rfl rfl rfl rfl rfl rfl rfl (by decide) rfl (fun w1 hw1 => (Row.own hva hw1)) ((xs).length) (by first | (simp; done) | (simp; omega)) (by first | (simp; done) | (simp; omega) | omega) fun p5 cap5 cur5 hp5 hcp5 hlp5 htp5 => ?_
  show Ll _ _ (Own _ _ [(p5, .cells cur5 3 (0, 0))]) _ _ ((5, .slice (some ⟨p5, 0, none⟩) (((xs).length)) cap5) :: _) _ _ _
  refine Ll.callTo (xs := [.tmp 5, .func 88]) (v := .slice (some ⟨p5, 0, none⟩) (placed xs xs.length).length cap5) (ok := fun u : Array Value => u.size = cap5 * 1 ∧ (placed xs xs.length).length ≤ cap5 ∧ u.toList.take ((placed xs xs.length).length * 1) = ints (placed xs xs.length)) (hs' := fun u : Array Value => [(p5, .cells u 3 (0, 0))]) rfl rfl rfl rfl Tryd.call87 rfl (fun w1 hw1 => (deleteFunc_ok _ _ p5 cap5 cur5 xs w1 hcp5 hlp5 (by simpa using htp5) (by first | omega | (simp; omega)) hw1).mono fun en w' ⟨c, h1, h2, h3, h4, h5⟩ => ⟨c, h1, ⟨h2, h3, h4⟩, h5⟩) fun w_dl ⟨hcw_dl, hlw_dl, htw_dl⟩ => ?_
  show Ll _ _ (Own _ _ [(p5, .cells w_dl 3 (0, 0))]) _ _ _ _ _ _
  refine Ll.op (v := .slice (some ⟨p5, 0, none⟩) ((placed xs xs.length).length) cap5) rfl rfl rfl (OpQ.assign rfl rfl) ?_
  refine Ll.nil ?_
  refine Kt.onSub (e' := [(2, .slice (some ⟨p5, 0, none⟩) ((placed xs xs.length).length) cap5)]) (Sub.cons rfl Sub.nil) ?_
  refine Wk.ret (Kt.end1 rfl rfl fun w' hw => ?_)
  -- ret 0: .slice (some ⟨p5, 0, none⟩) ((placed xs xs.length).length) cap5
  exact ⟨_, rfl, hw.below, hw.newRow (i := 0) (n := _) rfl hcw_dl hlw_dl htw_dl⟩

set_option maxHeartbeats 400000 in
/-- impl.PebblesFit -/
theorem iFit_ok (a b : St) (xs ys : List Int) (va vb : Value) (w : World) (hsa : a.Small) (hsb : b.Small) (hva : Ints w va xs) (hvb : Ints w vb ys) (hs1 : xs.length ≤ 140737488355328) (hs2 : ys.length ≤ 140737488355328) :
    Calls Tryd.prog 42 [vS a, va, vS b, vb].toArray w fun en w' => en = .returned (.bool (fitB a xs b ys)) ∧ Below w.heap.size w w' := by
  refine fnStart (n := 25) (e := [(0, vS a), (1, va), (2, vS b), (3, vb)]) Tryd.func42 rfl rfl rfl rfl Ends.both ?_
  refine Wk.seq ?_
  refine Wk.region ?_
  refine Ll.box (v := vS a) rfl rfl rfl rfl rfl fun p4 hp4 => ?_
  show Ll _ _ (Own _ _ [(p4, .cells #[.int .i64 a.n, str a.set, str a.rel] 26 (0, 0))]) _ _ ((4, .pointer (some ⟨p4, 0, none⟩)) :: _) _ _ _
  refine Ll.box (v := vS b) rfl rfl rfl rfl rfl fun p6 hp6 => ?_
  show Ll _ _ (Own _ _ [(p6, .cells #[.int .i64 b.n, str b.set, str b.rel] 26 (0, 0)), (p4, .cells #[.int .i64 a.n, str a.set, str a.rel] 26 (0, 0))]) _ _ ((6, .pointer (some ⟨p6, 0, none⟩)) :: _) _ _ _
  refine Ll.op (v := .bool false) rfl rfl rfl (OpQ.assign rfl rfl) ?_
  refine Ll.nil ?_
  refine Kt.onSub (e' := [(1, va), (3, vb), (4, .pointer (some ⟨p4, 0, none⟩)), (6, .pointer (some ⟨p6, 0, none⟩))]) (Sub.cons rfl (Sub.cons rfl (Sub.cons rfl (Sub.cons rfl Sub.nil)))) ?_
  refine Wk.seq ?_
  refine Wk.seq ?_
  refine Wk.regionQ ?_
  refine Lq.op (v := vS a) rfl rfl rfl (OpQ.loadBox (cs := #[.int .i64 a.n, str a.set, str a.rel]) 1 rfl Tryd.isAgg26 rfl rfl Tryd.sizeOf26) ?_
  refine Lq.op (v := va) rfl rfl rfl (OpQ.move rfl rfl) ?_
  refine Lq.op (v := vS b) rfl rfl rfl (OpQ.loadBox (cs := #[.int .i64 b.n, str b.set, str b.rel]) 0 rfl Tryd.isAgg26 rfl rfl Tryd.sizeOf26) ?_
  refine Lq.op (v := vb) rfl rfl rfl (OpQ.move rfl rfl) ?_
  refine Lq.op (v := .bool (readyB a xs b ys)) rfl rfl rfl (OpQ.call rfl Tryd.call85 rfl Own.stable (fun w1 hw1 => areReady_ok a b xs ys va vb w1 hsa hsb (Row.own hva hw1) (Row.own hvb hw1) (by first | (simp; done) | (simp; omega) | omega) (by first | (simp; done) | (simp; omega) | omega))) ?_
  refine Lq.op (v := .bool (!(readyB a xs b ys))) rfl rfl rfl (OpQ.not rfl rfl) ?_
  refine Lq.nil ?_
  refine Kt.onSub (e' := [(1, va), (3, vb), (4, .pointer (some ⟨p4, 0, none⟩)), (6, .pointer (some ⟨p6, 0, none⟩)), (15, .bool (!(readyB a xs b ys)))]) (Sub.cons rfl (Sub.cons rfl (Sub.cons rfl (Sub.cons rfl (Sub.cons rfl Sub.nil))))) ?_
  refine Wk.cond (b := !(readyB a xs b ys)) rfl (fun h15 => ?_) (fun h15 => ?_)
  · skip
    replace h15 := not_true h15
    refine Wk.seq ?_
    refine Wk.regionQ ?_
    refine Lq.op (v := .bool false) rfl rfl rfl (OpQ.assign rfl rfl) ?_
    refine Lq.nil ?_
    refine Kt.onSub (e' := [(8, .bool false)]) (Sub.cons rfl Sub.nil) ?_
    refine Wk.ret (Kt.end1 rfl rfl fun w' hw => ?_)
    -- ret 0: .bool false
    exact ⟨ret_b (by unfold fitB; simp_all), hw.below⟩
  · skip
    replace h15 := not_false h15
    replace h15 : readyB a xs b ys = true := by simpa using h15
    obtain ⟨Pa, Pb, hlen, hsg⟩ := readyB_true h15
    have ha := Pa.fine
    have hb := Pb.fine
    have h3 := Pa.hi
    have h4 := Pb.hi
    have hA := placed_els (n := xs.length) (Nat.le_refl _) Pa.top
    have hB := placed_els (n := ys.length) (Nat.le_refl _) Pb.top
    have hpl := placed_le xs xs.length
    have hpe : (placed xs xs.length).length = (placed ys ys.length).length := by
      rw [← hlen]; exact placed_len _ (signsB_true hsg)
    refine Wk.skip ?_
    refine Kt.onSub (e' := [(1, va), (3, vb), (4, .pointer (some ⟨p4, 0, none⟩)), (6, .pointer (some ⟨p6, 0, none⟩))]) (Sub.cons rfl (Sub.cons rfl (Sub.cons rfl (Sub.cons rfl Sub.nil)))) ?_
    refine Wk.seq ?_
    refine Wk.regionQ ?_
    refine Lq.op (v := .func (.func 86) #[] #[]) rfl rfl rfl (OpQ.assign rfl rfl) ?_
    refine Lq.nil ?_
    refine Kt.onSub (e' := [(1, va), (3, vb), (4, .pointer (some ⟨p4, 0, none⟩)), (6, .pointer (some ⟨p6, 0, none⟩)), (9, .func (.func 86) #[] #[])]) (Sub.cons rfl (Sub.cons rfl (Sub.cons rfl (Sub.cons rfl (Sub.cons rfl Sub.nil))))) ?_
    refine Wk.seq ?_
    refine Wk.regionO [(0, true), (1, true), (2, true), (4, true), (5, true), (6, true), (3, false), (7, false), (8, false), (9, true)] Base.mixed (fun _ h => h.drawn) (by kernel_rfl) ?_
    refine Ld.take (v := vS a) rfl rfl rfl rfl rfl (OpQ.loadBox (cs := #[.int .i64 a.n, str a.set, str a.rel]) 1 rfl Tryd.isAgg26 rfl rfl Tryd.sizeOf26) (fun _ h => h) ?_
    refine Ld.take (v := .func (.func 86) #[] #[]) rfl rfl rfl rfl rfl (OpQ.move rfl rfl) (fun _ h => h) ?_
    refine Ld.take (v := va) rfl rfl rfl rfl rfl (OpQ.move rfl rfl) (fun _ h => h) ?_
    refine Ld.take (v := vS b) rfl rfl rfl rfl rfl (OpQ.loadBox (cs := #[.int .i64 b.n, str b.set, str b.rel]) 0 rfl Tryd.isAgg26 rfl rfl Tryd.sizeOf26) (fun _ h => h) ?_
    refine Ld.take (v := .func (.func 86) #[] #[]) rfl rfl rfl rfl rfl (OpQ.move rfl rfl) (fun _ h => h) ?_
    refine Ld.take (v := vb) rfl rfl rfl rfl rfl (OpQ.move rfl rfl) (fun _ h => h) ?_
    refine Ld.loud rfl ?_
    refine Ll.callFnRow (xs := [.tmp 18]) (m := (placed xs xs.length).length) (vs := ints (placed xs xs.length)) (el := 3) (size := 1) rfl rfl rfl rfl rfl Tryd.call86 rfl (fun w1 hw1 => lying_ok va xs w1 (Row.own hva hw1) (by omega)) fun p19 cap19 cur19 hp19 hcp19 hlp19 htp19 => ?_
    refine Ll.nil (Ld.joint (fun _ h => h.tail) ?_)
    refine Ld.loud rfl ?_
    refine Ll.callFnRow (xs := [.tmp 22]) (m := (placed ys ys.length).length) (vs := ints (placed ys ys.length)) (el := 3) (size := 1) rfl rfl rfl rfl rfl Tryd.call86 rfl (fun w1 hw1 => lying_ok vb ys w1 (Row.own hvb hw1) (by omega)) fun p23 cap23 cur23 hp23 hcp23 hlp23 htp23 => ?_
    refine Ll.nil (Ld.joint (fun _ h => h.tail.tail) ?_)
    refine Ld.loud rfl ?_
    refine Ll.op (v := .bool (sameB a (placed xs xs.length) b (placed ys ys.length))) rfl rfl rfl (OpQ.call rfl Tryd.call83 rfl Own.stable (fun w1 hw1 => sameWay_ok a b (placed xs xs.length) (placed ys ys.length) (.slice (some ⟨p19, 0, none⟩) ((placed xs xs.length).length) cap19) (.slice (some ⟨p23, 0, none⟩) ((placed ys ys.length).length) cap23) w1 ha hb (Own.row hw1 (i := 1) rfl (by simpa using htp19) (by simp) hlp19) (Own.row hw1 (i := 0) rfl (by simpa using htp23) (by simp) hlp23) hA hB hpe (by omega))) ?_
    refine Ll.nil (Ld.joint (fun _ h => h.tail.tail) ?_)
    refine Ld.take (v := .bool (sameB a (placed xs xs.length) b (placed ys ys.length))) rfl rfl rfl rfl rfl (OpQ.assign rfl rfl) (fun _ h => h.tail.tail) ?_
    refine Ld.nil ?_
    refine Kt.onSub (e' := [(8, .bool (sameB a (placed xs xs.length) b (placed ys ys.length)))]) (Sub.cons rfl Sub.nil) ?_
    refine Wk.ret (Kt.end1 rfl rfl fun w' hw => ?_)
    -- ret 1: .bool (sameB a (placed xs xs.length) b (placed ys ys.length))
    exact ⟨ret_b (by unfold fitB; rw [h15]; rfl), hw.below⟩

end Go.Proofs.YtcanofailfbllaaDoor
