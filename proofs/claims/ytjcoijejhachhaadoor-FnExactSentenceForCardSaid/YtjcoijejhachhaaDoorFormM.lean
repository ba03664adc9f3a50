/-
  Walks: formulas of facts, texts joined, each once.
-/
import Derived.Test.YtjcoijejhachhaaDoorPlain53
import Derived.Test.YtjcoijejhachhaaDoorKindsM
import Derived.Test.YtjcoijejhachhaaDoorBase
namespace Go.Proofs.YtjcoijejhachhaaDoor
open Go.RowKit Go.Wk
set_option linter.unusedSimpArgs false

set_option maxHeartbeats 400000 in
/-- spec.l15Find -/
theorem l15Find_ok (s : List UInt8) (c : Int) (w : World) (hs : s.length ≤ 1048576) :
    Calls Tryd.prog 129 [str s, .int .u8 c].toArray w fun en w' => en = .returned (.int .i64 (findS s c)) ∧ Below w.heap.size w w' := by
 refine fnStart (n := 18) (e := [(0, str s), (1, .int .u8 c)]) Tryd.func129 rfl rfl rfl rfl Ends.both ?_
 refine Wk.seq ?_
 refine Wk.regionQ ?_
 refine Lq.run 1 rfl ?_
 refine Lq.nil ?_
 refine Kt.sel [0, 1] [_, _] rfl ?_
 refine Wk.seq ?_
 refine Wk.seq ?_
 refine Wk.regionQ ?_
 refine Lq.run 1 rfl ?_
 refine Lq.nil ?_
 refine Kt.sel [0, 1, 5] [_, _, _] rfl ?_
 refine Wk.block ?_
 refine Wk.loop (σ := Nat) (fun k => k ≤ s.length ∧ ∀ i : Nat, i < k → ¬ ((s.getD i 0).toNat : Int) = c) (fun k => [(0, str s), (1, .int .u8 c), (5, i6_ ((k : Int)))]) (fun k => Own w.heap.size w []) (fun k => s.length - k) (0) ⟨by omega, fun i hi => absurd hi (by omega)⟩ (Sub.sel [0, 1, 5] rfl) (fun _ h => h) ?_
 rintro k ⟨hk, hall⟩
 refine Wk.seq ?_
 refine Wk.seq ?_
 refine Wk.regionQ ?_
 refine Lq.run 2 rfl ?_
 refine Lq.op (v := i6_ ((s.length : Int))) rfl rfl rfl (OpQ.lenStr rfl Tryd.runUnderlying9 rfl) ?_
 refine Lq.run 1 rfl ?_
 refine Lq.nil ?_
 refine Kt.sel [0, 1, 5, 9] [_, _, _, _] rfl ?_
 refine Wk.cond (b := decide (((k : Int)) < ((s.length : Int)))) rfl (fun h9 => ?_) (fun h9 => ?_)
 ·
  replace h9 := of_decide_eq_true h9
  refine Wk.skip ?_
  refine Kt.sel [0, 1, 5] [_, _, _] rfl ?_
  refine Wk.seq ?_
  refine Wk.block ?_
  refine Wk.seq ?_
  refine Wk.regionQ ?_
  refine Lq.run 2 rfl ?_
  refine Lq.op (v := .int .u8 (((s.getD (((k : Int)).toNat) 0).toNat : Int))) rfl rfl rfl (OpQ.indexStr rfl Tryd.runUnderlying9 rfl rfl (by omega) (by omega)) ?_
  refine Lq.run 2 rfl ?_
  refine Lq.nil ?_
  refine Kt.sel [0, 1, 5, 16] [_, _, _, _] rfl ?_
  refine Wk.cond (b := decide ((((s.getD (((k : Int)).toNat) 0).toNat : Int)) = c)) rfl (fun h16 => ?_) (fun h16 => ?_)
  ·
   replace h16 := of_decide_eq_true h16
   refine Wk.seq ?_
   refine Wk.regionQ ?_
   refine Lq.run 2 rfl ?_
   refine Lq.nil ?_
   refine Kt.sel [4] [_] rfl ?_
   refine Wk.ret (Kt.end1 rfl rfl fun w' hw => ?_)
   -- ret 0: i6_ ((k : Int))
   exact ⟨ret_i (findS_at (by omega) hall h16).symm, hw.below⟩
  ·
   replace h16 := of_decide_eq_false h16
   refine Wk.skip ?_
   refine Kt.sel [0, 1, 5] [_, _, _] rfl ?_
   refine Wk.regionQ ?_
   refine Lq.run 1 rfl ?_
   refine Lq.op rfl rfl rfl (OpQ.add rfl rfl rfl (by omega) (by omega)) ?_
   refine Lq.run 1 rfl ?_
   refine Lq.nil ?_
   refine Kt.again (k + 1) ⟨by omega, fun i hi => (Nat.lt_succ_iff_lt_or_eq.1 hi).elim (hall i) (fun e => by subst e; exact h16)⟩ (by omega) (Sub.sel [0, 1, 5] rfl) (fun _ h => h)
 ·
  replace h9 := of_decide_eq_false h9
  refine Wk.exit rfl ?_
  refine Kt.sel [] [] rfl ?_
  refine Wk.seq ?_
  refine Wk.regionQ ?_
  refine Lq.run 1 rfl ?_
  refine Lq.nil ?_
  refine Kt.sel [4] [_] rfl ?_
  refine Wk.ret (Kt.end1 rfl rfl fun w' hw => ?_)
  -- ret 1: i6_ (-1)
  exact ⟨ret_i (findS_none (fun i hi => hall i (by omega))).symm, hw.below⟩

set_option maxHeartbeats 400000 in
/-- spec.l2Join -/
theorem l2Join_ok (l : List (List UInt8)) (vl : Value) (w : World) (hvl : Strs w vl l) (hl : ∀ s ∈ l, s.length ≤ 8) (hn : l.length ≤ 1000) :
    Calls Tryd.prog 87 [str (([38] : List UInt8)), vl].toArray w fun en w' => en = .returned (str (joinB [38] l)) ∧ Below w.heap.size w w' := by
 refine fnStart (n := 39) (e := [(0, str (([38] : List UInt8))), (1, vl)]) Tryd.func87 rfl rfl rfl rfl Ends.both ?_
 refine Wk.seq ?_
 refine Wk.regionQ ?_
 refine Lq.op (v := str ([])) rfl rfl rfl (OpQ.assign rfl rfl) ?_
 refine Lq.nil ?_
 refine Kt.sel [0, 1] [_, _] rfl ?_
 refine Wk.seq ?_
 refine Wk.seq ?_
 refine Wk.regionQ ?_
 refine Lq.run 1 rfl ?_
 refine Lq.op (v := i6_ ((l.length : Int))) rfl rfl rfl (OpQ.lenRow rfl Tryd.runUnderlying91 rfl (strs_length _) (fun w1 hw1 => Row.own hvl hw1)) ?_
 refine Lq.run 1 rfl ?_
 refine Lq.nil ?_
 refine Kt.sel [0, 1, 9] [_, _, _] rfl ?_
 refine Wk.cond (b := decide (((l.length : Int)) = (0 : Int))) rfl (fun h9 => ?_) (fun h9 => ?_)
 ·
  replace h9 := of_decide_eq_true h9
  refine Wk.seq ?_
  refine Wk.regionD Base.mixed (fun _ h => h.drawn) (by kernel_rfl) ?_
  refine Lq.run 1 rfl ?_
  refine Lq.op (v := .int .u8 ((((([38] : List UInt8)).getD ((0 : Int).toNat) 0).toNat : Int))) rfl rfl rfl (OpQ.indexStr rfl Tryd.runUnderlying9 rfl rfl (by omega) (by decide)) ?_
  refine Lq.op (v := i6_ (findS ([38, 124]) ((((([38] : List UInt8)).getD ((0 : Int).toNat) 0).toNat : Int)))) rfl rfl rfl (OpQ.call rfl Tryd.call129 rfl Own.stable (fun w1 hw1 => l15Find_ok ([38, 124]) ((((([38] : List UInt8)).getD ((0 : Int).toNat) 0).toNat : Int)) w1 (by decide))) ?_
  refine Lq.run 1 rfl ?_
  refine Lq.op (v := .int .u8 ((((([38] : List UInt8)).getD ((0 : Int).toNat) 0).toNat : Int))) rfl rfl rfl (OpQ.indexStr rfl Tryd.runUnderlying9 rfl rfl (by omega) (by decide)) ?_
  refine Lq.op (v := i6_ (findS ([38, 124]) ((((([38] : List UInt8)).getD ((0 : Int).toNat) 0).toNat : Int)))) rfl rfl rfl (OpQ.call rfl Tryd.call129 rfl Own.stable (fun w1 hw1 => l15Find_ok ([38, 124]) ((((([38] : List UInt8)).getD ((0 : Int).toNat) 0).toNat : Int)) w1 (by decide))) ?_
  refine Lq.op rfl rfl rfl (OpQ.add rfl rfl rfl (by decide) (by decide)) ?_
  refine Lq.op (v := str ((([116, 102]).drop ((findS ([38, 124]) ((((([38] : List UInt8)).getD ((0 : Int).toNat) 0).toNat : Int))).toNat)).take (((findS ([38, 124]) ((((([38] : List UInt8)).getD ((0 : Int).toNat) 0).toNat : Int))) + (1 : Int)).toNat - (findS ([38, 124]) ((((([38] : List UInt8)).getD ((0 : Int).toNat) 0).toNat : Int))).toNat))) rfl rfl rfl (OpQ.sliceStr rfl Tryd.underlying9 rfl rfl rfl (by decide) (by decide) (by decide)) ?_
  refine Lq.run 1 rfl ?_
  refine Lq.nil ?_
  refine Kt.sel [4] [_] rfl ?_
  refine Wk.ret (Kt.end1 rfl rfl fun w' hw => ?_)
  -- ret 0: str ((([116, 102]).drop ((findS ([38, 124]) ((((([38] : List UInt8)).getD ((0 : Int).toNat) 0).toNat : Int))).toNat)).take (((findS ([38, 124]) ((((([38] : List UInt8)).getD ((0 : Int).toNat) 0).toNat : Int))) + (1 : Int)).toNat - (findS ([38, 124]) ((((([38] : List UInt8)).getD ((0 : Int).toNat) 0).toNat : Int))).toNat))
  exact ⟨ret_s (by unfold joinB; rw [if_pos (by omega)]; decide), hw.below⟩
 ·
  replace h9 := of_decide_eq_false h9
  have h0 : l.length ≠ 0 := by omega
  refine Wk.skip ?_
  refine Kt.sel [0, 1] [_, _] rfl ?_
  refine Wk.seq ?_
  refine Wk.regionQ ?_
  refine Lq.op (v := str ([])) rfl rfl rfl (OpQ.assign rfl rfl) ?_
  refine Lq.nil ?_
  refine Kt.sel [0, 1, 5] [_, _, _] rfl ?_
  refine Wk.seq ?_
  refine Wk.seq ?_
  refine Wk.regionQ ?_
  refine Lq.run 1 rfl ?_
  refine Lq.nil ?_
  refine Kt.sel [0, 1, 5, 6] [_, _, _, _] rfl ?_
  refine Wk.block ?_
  refine Wk.loop (σ := Nat) (fun k => k ≤ l.length) (fun k => [(0, str (([38] : List UInt8))), (1, vl), (5, str (specJ [38] l k)), (6, i6_ ((k : Int)))]) (fun k => Own w.heap.size w []) (fun k => l.length - k) (0) (by omega) (Sub.cons rfl (Sub.cons rfl (Sub.cons (by rw [specJ_zero (by omega)]; rfl) (Sub.sel [6] rfl)))) (fun _ h => h) ?_
  rintro k hk
  refine Wk.seq ?_
  refine Wk.seq ?_
  refine Wk.regionQ ?_
  refine Lq.run 2 rfl ?_
  refine Lq.op (v := i6_ ((l.length : Int))) rfl rfl rfl (OpQ.lenRow rfl Tryd.runUnderlying91 rfl (strs_length _) (fun w1 hw1 => Row.own hvl hw1)) ?_
  refine Lq.run 1 rfl ?_
  refine Lq.nil ?_
  refine Kt.sel [0, 1, 5, 6, 21] [_, _, _, _, _] rfl ?_
  refine Wk.cond (b := decide (((k : Int)) < ((l.length : Int)))) rfl (fun h21 => ?_) (fun h21 => ?_)
  ·
   replace h21 := of_decide_eq_true h21
   have hg8 := get_len hl k
   have hp := specJ_len (op := [38]) (by decide) hl k
   refine Wk.skip ?_
   refine Kt.sel [0, 1, 5, 6] [_, _, _, _] rfl ?_
   refine Wk.seq ?_
   refine Wk.block ?_
   refine Wk.seq ?_
   refine Wk.seq ?_
   refine Wk.regionQ ?_
   refine Lq.run 1 rfl ?_
   refine Lq.op rfl rfl rfl (OpQ.add rfl rfl rfl (by omega) (by omega)) ?_
   refine Lq.run 1 rfl ?_
   refine Lq.op (v := i6_ ((l.length : Int))) rfl rfl rfl (OpQ.lenRow rfl Tryd.runUnderlying91 rfl (strs_length _) (fun w1 hw1 => Row.own hvl hw1)) ?_
   refine Lq.run 1 rfl ?_
   refine Lq.nil ?_
   refine Kt.sel [0, 1, 5, 6, 28] [_, _, _, _, _] rfl ?_
   refine Wk.cond (b := decide ((((k : Int)) + (1 : Int)) < ((l.length : Int)))) rfl (fun h28 => ?_) (fun h28 => ?_)
   ·
    replace h28 := of_decide_eq_true h28
    refine Wk.regionQ ?_
    refine Lq.run 2 rfl ?_
    refine Lq.op rfl rfl rfl (OpQ.sadd rfl rfl rfl (by simp only [List.length_append, List.length_cons, List.length_nil]; omega)) ?_
    refine Lq.run 1 rfl ?_
    refine Lq.nil ?_
    refine Kt.sel [0, 1, 5, 6] [_, _, _, _] rfl ?_
    refine Wk.regionQ ?_
    refine Lq.run 3 rfl ?_
    refine Lq.op (v := .pointer (some (sAt vl ((k : Int))))) rfl rfl rfl (OpQ.atRow rfl Tryd.runUnderlying91 Tryd.sizeOf9 rfl rfl (by omega) (by rw [strs_length]; omega) (fun w1 hw1 => Row.own hvl hw1)) ?_
    refine Lq.op (v := str (l.getD (((k : Int)).toNat) [])) rfl rfl rfl (OpQ.load1 rfl Tryd.isAgg9 rfl (fun w1 hw1 => Strs.cell (Row.own hvl hw1) (by omega) (by omega))) ?_
    refine Lq.op rfl rfl rfl (OpQ.sadd rfl rfl rfl (by simp only [List.length_append, List.length_cons, List.length_nil, Int.toNat_natCast] at *; omega)) ?_
    refine Lq.run 1 rfl ?_
    refine Lq.nil ?_
    refine Kt.sel [0, 1, 5, 6] [_, _, _, _] rfl ?_
    refine Wk.regionQ ?_
    refine Lq.run 1 rfl ?_
    refine Lq.op rfl rfl rfl (OpQ.add rfl rfl rfl (by omega) (by omega)) ?_
    refine Lq.run 1 rfl ?_
    refine Lq.nil ?_
    refine Kt.again (k + 1) (by omega) (by omega) (Sub.cons rfl (Sub.cons rfl (Sub.cons (by first | (rw [specJ_more (by omega)]; rfl) | (rw [specJ_last (by omega) (by omega)]; rfl)) (Sub.sel [6] rfl)))) (fun _ h => h)
   ·
    replace h28 := of_decide_eq_false h28
    refine Wk.skip ?_
    refine Kt.sel [0, 1, 5, 6] [_, _, _, _] rfl ?_
    refine Wk.regionQ ?_
    refine Lq.run 3 rfl ?_
    refine Lq.op (v := .pointer (some (sAt vl ((k : Int))))) rfl rfl rfl (OpQ.atRow rfl Tryd.runUnderlying91 Tryd.sizeOf9 rfl rfl (by omega) (by rw [strs_length]; omega) (fun w1 hw1 => Row.own hvl hw1)) ?_
    refine Lq.op (v := str (l.getD (((k : Int)).toNat) [])) rfl rfl rfl (OpQ.load1 rfl Tryd.isAgg9 rfl (fun w1 hw1 => Strs.cell (Row.own hvl hw1) (by omega) (by omega))) ?_
    refine Lq.op rfl rfl rfl (OpQ.sadd rfl rfl rfl (by simp only [List.length_append, List.length_cons, List.length_nil, Int.toNat_natCast] at *; omega)) ?_
    refine Lq.run 1 rfl ?_
    refine Lq.nil ?_
    refine Kt.sel [0, 1, 5, 6] [_, _, _, _] rfl ?_
    refine Wk.regionQ ?_
    refine Lq.run 1 rfl ?_
    refine Lq.op rfl rfl rfl (OpQ.add rfl rfl rfl (by omega) (by omega)) ?_
    refine Lq.run 1 rfl ?_
    refine Lq.nil ?_
    refine Kt.again (k + 1) (by omega) (by omega) (Sub.cons rfl (Sub.cons rfl (Sub.cons (by first | (rw [specJ_more (by omega)]; rfl) | (rw [specJ_last (by omega) (by omega)]; rfl)) (Sub.sel [6] rfl)))) (fun _ h => h)
  ·
   replace h21 := of_decide_eq_false h21
   refine Wk.exit rfl ?_
   refine Kt.sel [5] [_] rfl ?_
   refine Wk.seq ?_
   refine Wk.regionQ ?_
   refine Lq.run 2 rfl ?_
   refine Lq.nil ?_
   refine Kt.sel [4] [_] rfl ?_
   refine Wk.ret (Kt.end1 rfl rfl fun w' hw => ?_)
   -- ret 1: str (specJ [38] l k)
   exact ⟨ret_s (specJ_end (by omega) h0), hw.below⟩

set_option maxHeartbeats 400000 in
/-- spec.l3Describe -/
theorem l3Describe_ok (a : St) (va : Value) (xs : List Int) (w : World) (ha : a.Fine) (hva : Ints w va xs) (hA : a.Els xs) (hl4 : xs.length ≤ 4) :
    Calls Tryd.prog 84 [vS a, va].toArray w fun en w' => en = .returned (str (formB a xs)) ∧ Below w.heap.size w w' := by
 refine fnStart (n := 23) (e := [(0, vS a), (1, va)]) Tryd.func84 rfl rfl rfl rfl Ends.both ?_
 refine Wk.seq ?_
 refine Wk.region ?_
 refine Ll.box (v := vS a) rfl rfl rfl rfl rfl fun p2 hp2 => ?_
 show Ll _ _ (Own _ _ [_]) _ _ ((2, pt_ p2) :: _) _ _ _
 refine Ll.op (v := str ([])) rfl rfl rfl (OpQ.assign rfl rfl) ?_
 refine Ll.nil ?_
 refine Kt.sel [1, 2] [_, _] rfl ?_
 refine Wk.seq ?_
 refine Wk.region ?_
 refine Ll.slice (xs := []) (vs := []) Base.elem91 rfl rfl rfl rfl rfl rfl (by decide) rfl fun p7 hp7 => ?_
 refine Ll.run 1 rfl ?_
 refine Ll.nil ?_
 refine Kt.sel [1, 2, 5] [_, _, _] rfl ?_
 refine Wk.seq ?_
 refine Wk.seq ?_
 refine Wk.regionQ ?_
 refine Lq.run 1 rfl ?_
 refine Lq.nil ?_
 refine Kt.sel [1, 2, 5, 6] [_, _, _, _] rfl ?_
 refine Wk.block ?_
 refine Wk.loop (σ := Nat × Nat × Nat × Array Value) (fun ⟨k, g, c, cur⟩ => (k ≤ xs.length) ∧ w.heap.size ≤ g ∧ cur.size = c * 1 ∧ ((factsL a xs k).map signed).length ≤ c ∧ cur.toList.take (((factsL a xs k).map signed).length * 1) = strs ((factsL a xs k).map signed)) (fun ⟨k, g, c, cur⟩ => [(1, va), (2, pt_ p2), (5, sl_ g (((factsL a xs k).map signed).length) c), (6, i6_ ((k : Int) + 1))]) (fun ⟨k, g, c, cur⟩ => Own w.heap.size w [bk_ g cur 9, bk_ p2 #[i6_ a.n, str a.set, str a.rel] 28]) (fun ⟨k, g, c, cur⟩ => xs.length - k) ((0, p7, 0, #[])) ⟨by omega, hp7, rfl, Nat.le_refl 0, rfl⟩ (Sub.cons rfl (Sub.cons rfl (Sub.cons rfl (Sub.cons (by simp [List.lookup]) Sub.nil)))) (fun _ h => h) ?_
 rintro ⟨k, g, c, cur⟩ ⟨hk, hg, hc, hl, ht⟩
 dsimp only
 refine Wk.seq ?_
 refine Wk.seq ?_
 refine Wk.regionQ ?_
 refine Lq.run 2 rfl ?_
 refine Lq.op (v := i6_ ((xs.length : Int))) rfl rfl rfl (OpQ.lenRow rfl Tryd.runUnderlying24 rfl (ints_length _) (fun w1 hw1 => Row.own hva hw1)) ?_
 refine Lq.run 1 rfl ?_
 refine Lq.nil ?_
 refine Kt.sel [1, 2, 5, 6, 11] [_, _, _, _, _] rfl ?_
 refine Wk.cond (b := decide (((k : Int) + 1) ≤ ((xs.length : Int)))) rfl (fun h11 => ?_) (fun h11 => ?_)
 ·
  replace h11 := of_decide_eq_true h11
  have hk4 : k < 4 := by omega
  have hfl := factsL_length a xs k (by omega)
  refine Wk.skip ?_
  refine Kt.sel [1, 2, 5, 6] [_, _, _, _] rfl ?_
  refine Wk.seq ?_
  refine Wk.block ?_
  refine Wk.regionS (S := Own w.heap.size w [bk_ p2 #[i6_ a.n, str a.set, str a.rel] 28]) [(0, true), (1, true), (2, true), (3, true), (4, true), (5, false), (6, false), (7, true)] Base.mixed (fun _ h => h.drawn) (by kernel_rfl) ?_
  refine Ld.run 1 rfl (fun _ h => h.tail) ?_
  refine Ld.take rfl rfl rfl rfl rfl (OpQ.loadBox (cs := #[i6_ a.n, str a.set, str a.rel]) 0 rfl Tryd.isAgg28 rfl rfl Tryd.sizeOf28) (fun _ h => h.tail) ?_
  refine Ld.run 1 rfl (fun _ h => h.tail) ?_
  refine Ld.take (v := i6_ (((k + 1 : Nat) : Int))) rfl rfl rfl rfl rfl (OpQ.cast (by simp) (OpQ.move rfl rfl)) (fun _ h => h.tail) ?_
  refine Ld.take (v := sTake va ((k + 1))) rfl rfl rfl rfl rfl (OpQ.takeRow (i := ((k + 1 : Nat) : Int)) rfl Tryd.runUnderlying24 Tryd.sizeOf3 rfl rfl (by omega) (by rw [ints_length]; omega) (fun w1 hw1 => Row.own hva hw1)) (fun _ h => h.tail) ?_
  refine Ld.loud rfl ?_
  refine Ll.callRow (xs := [.tmp 15, .tmp 18]) (m := ((factL a xs k).map signed).length) (vs := strs ((factL a xs k).map signed)) (el := 9) (size := 1) rfl rfl rfl rfl Tryd.call127 rfl (fun w1 hw1 => l3Facts_ok a (sTake va ((k + 1))) (xs.take ((k + 1))) k ((factL a xs k).map signed) w1 ha (Ints.take (Row.own hva hw1) ((k + 1)) (by omega)) (hA.take _) (by simp; omega) (by omega) (by rw [fact_take (by omega)])) fun p19 cap19 cur19 hp19 hcp19 hlp19 htp19 => ?_
  refine Ll.nil (Ld.joint (fun _ h => h.tail.tail) ?_)
  refine Ld.loud rfl ?_
  refine Ll.appendStrs (xs := (factsL a xs k).map signed) (ys := (factL a xs k).map signed) Base.elem91 1 rfl rfl rfl rfl rfl rfl rfl hc hl (by simpa using ht) (fun w1 hw1 => (Own.row hw1 (i := 0) rfl (by simpa using htp19) (by simp) hlp19)) ((((factsL a xs k).map signed) ++ ((factL a xs k).map signed)).length) (by first | (simp; done) | (simp; omega)) (by first | (simp; done) | (simp; omega) | omega) fun p20 cap20 cur20 hp20 hcp20 hlp20 htp20 => ?_
  show Ll _ _ (Own _ _ [_, _, _]) _ _ ((20, sl_ p20 (((((factsL a xs k).map signed) ++ ((factL a xs k).map signed)).length)) cap20) :: _) _ _ _
  refine Ll.nil (Ld.joint (fun _ h => h.tail.tail) ?_)
  refine Ld.run 1 rfl (fun _ h => h.tail.tail) ?_
  refine Ld.nil ?_
  refine Kt.sel [1, 2, 5, 6] [_, _, _, _] rfl ?_
  refine Wk.regionQ ?_
  refine Lq.run 1 rfl ?_
  refine Lq.op rfl rfl rfl (OpQ.add rfl rfl rfl (by omega) (by omega)) ?_
  refine Lq.run 1 rfl ?_
  refine Lq.nil ?_
  refine Kt.again ((k + 1, p20, cap20, cur20)) ⟨(by omega), (by omega), hcp20, (by rw [facts_step]; exact hlp20), (by rw [facts_step]; exact htp20)⟩ (by omega) (Sub.cons rfl (Sub.cons rfl (Sub.cons (by rw [facts_step]; rfl) (Sub.cons (by simp [List.lookup]) Sub.nil)))) (fun _ h => h.tail)
 ·
  replace h11 := of_decide_eq_false h11
  have hfl := factsL_length a xs k (by omega)
  refine Wk.exit rfl ?_
  refine Kt.sel [5] [_] rfl ?_
  refine Wk.seq ?_
  refine Wk.regionQ ?_
  refine Lq.run 1 rfl ?_
  refine Lq.op (v := str (joinB [38] ((factsL a xs k).map signed))) rfl rfl rfl (OpQ.call rfl Tryd.call87 rfl Own.stable (fun w1 hw1 => l2Join_ok ((factsL a xs k).map signed) (sl_ g (((factsL a xs k).map signed).length) c) w1 (Own.row hw1 (i := 0) rfl (by simpa using ht) (by simp) hl) (signed_le _) (by simp; omega))) ?_
  refine Lq.run 1 rfl ?_
  refine Lq.nil ?_
  refine Kt.sel [4] [_] rfl ?_
  refine Wk.ret (Kt.end1 rfl rfl fun w' hw => ?_)
  -- ret 0: str (joinB [38] ((factsL a xs k).map signed))
  exact ⟨ret_s (by rw [show k = xs.length from by omega]; rfl), hw.below⟩

set_option maxHeartbeats 400000 in
/-- impl.signed -/
theorem signed_ok (s : List UInt8) (b : Bool) (w : World) (hs : s.length ≤ 1048576) :
    Calls Tryd.prog 133 [str s, bo_ b].toArray w fun en w' => en = .returned (str (signS b s)) ∧ Below w.heap.size w w' := by
 refine fnStart (n := 9) (e := [(0, str s), (1, bo_ b)]) Tryd.func133 rfl rfl rfl rfl Ends.both ?_
 refine Wk.seq ?_
 refine Wk.regionQ ?_
 refine Lq.op (v := str ([])) rfl rfl rfl (OpQ.assign rfl rfl) ?_
 refine Lq.nil ?_
 refine Kt.sel [0, 1] [_, _] rfl ?_
 refine Wk.seq ?_
 refine Wk.seq ?_
 refine Wk.regionQ ?_
 refine Lq.run 1 rfl ?_
 refine Lq.nil ?_
 refine Kt.sel [0, 5] [_, _] rfl ?_
 refine Wk.cond (b := b) rfl (fun h5 => ?_) (fun h5 => ?_)
 ·
  refine Wk.seq ?_
  refine Wk.regionQ ?_
  refine Lq.run 2 rfl ?_
  refine Lq.nil ?_
  refine Kt.sel [4] [_] rfl ?_
  refine Wk.ret (Kt.end1 rfl rfl fun w' hw => ?_)
  -- ret 0: str s
  exact ⟨by rw [‹b = _›]; rfl, hw.below⟩
 ·
  refine Wk.skip ?_
  refine Kt.sel [0] [_] rfl ?_
  refine Wk.seq ?_
  refine Wk.regionQ ?_
  refine Lq.run 1 rfl ?_
  refine Lq.op rfl rfl rfl (OpQ.sadd rfl rfl rfl (by first | omega | (simp only [List.length_append, List.length_cons, List.length_nil]; omega))) ?_
  refine Lq.run 1 rfl ?_
  refine Lq.nil ?_
  refine Kt.sel [4] [_] rfl ?_
  refine Wk.ret (Kt.end1 rfl rfl fun w' hw => ?_)
  -- ret 1: str (([33]) ++ s)
  exact ⟨by rw [‹b = _›]; rfl, hw.below⟩

set_option maxHeartbeats 400000 in
/-- impl.joined -/
theorem joined_ok (l : List (List UInt8)) (vl : Value) (w : World) (hvl : Strs w vl l) (hl : ∀ s ∈ l, s.length ≤ 8) (hn : l.length ≤ 1000) :
    Calls Tryd.prog 94 [str (([38] : List UInt8)), vl].toArray w fun en w' => en = .returned (str (joinB [38] l)) ∧ Below w.heap.size w w' := by
 refine fnStart (n := 37) (e := [(0, str (([38] : List UInt8))), (1, vl)]) Tryd.func94 rfl rfl rfl rfl Ends.both ?_
 refine Wk.seq ?_
 refine Wk.regionQ ?_
 refine Lq.op (v := str ([])) rfl rfl rfl (OpQ.assign rfl rfl) ?_
 refine Lq.nil ?_
 refine Kt.sel [0, 1] [_, _] rfl ?_
 refine Wk.seq ?_
 refine Wk.seq ?_
 refine Wk.regionQ ?_
 refine Lq.run 1 rfl ?_
 refine Lq.op (v := i6_ ((l.length : Int))) rfl rfl rfl (OpQ.lenRow rfl Tryd.runUnderlying91 rfl (strs_length _) (fun w1 hw1 => Row.own hvl hw1)) ?_
 refine Lq.run 1 rfl ?_
 refine Lq.nil ?_
 refine Kt.sel [0, 1, 10] [_, _, _] rfl ?_
 refine Wk.cond (b := decide (((l.length : Int)) = (0 : Int))) rfl (fun h10 => ?_) (fun h10 => ?_)
 ·
  replace h10 := of_decide_eq_true h10
  refine Wk.seq ?_
  refine Wk.seq ?_
  refine Wk.regionQ ?_
  refine Lq.run 1 rfl ?_
  refine Lq.op rfl rfl rfl (OpQ.seql rfl rfl rfl) ?_
  refine Lq.nil ?_
  refine Kt.sel [12] [_] rfl ?_
  refine Wk.cond (b := (([38] : List UInt8)) == ([38])) rfl (fun h12 => ?_) (fun h12 => ?_)
  ·
   refine Wk.seq ?_
   refine Wk.regionQ ?_
   refine Lq.op (v := str ([116])) rfl rfl rfl (OpQ.assign rfl rfl) ?_
   refine Lq.nil ?_
   refine Kt.sel [4] [_] rfl ?_
   refine Wk.ret (Kt.end1 rfl rfl fun w' hw => ?_)
   -- ret 0: str ([116])
   exact ⟨ret_s (by unfold joinB; rw [if_pos (by omega)]), hw.below⟩
  ·
   simp at h12
 ·
  replace h10 := of_decide_eq_false h10
  have h0 : l.length ≠ 0 := by omega
  have hg9 := get_len hl (l.length - 1)
  have hp9 := preJ_len (op := [38]) (by decide) hl (l.length - 1)
  refine Wk.skip ?_
  refine Kt.sel [0, 1] [_, _] rfl ?_
  refine Wk.seq ?_
  refine Wk.regionQ ?_
  refine Lq.op (v := str ([])) rfl rfl rfl (OpQ.assign rfl rfl) ?_
  refine Lq.nil ?_
  refine Kt.sel [0, 1, 5] [_, _, _] rfl ?_
  refine Wk.seq ?_
  refine Wk.seq ?_
  refine Wk.regionQ ?_
  refine Lq.run 2 rfl ?_
  refine Lq.op (v := i6_ ((l.length : Int))) rfl rfl rfl (OpQ.lenRow rfl Tryd.runUnderlying91 rfl (strs_length _) (fun w1 hw1 => Row.own hvl hw1)) ?_
  refine Lq.op (v := i6_ (((l.length - 1 : Nat) : Int))) rfl rfl rfl (OpQ.cast (by congr 1; omega) (OpQ.sub rfl rfl rfl (by omega) (by omega))) ?_
  refine Lq.op (v := sTake vl ((l.length - 1))) rfl rfl rfl (OpQ.takeRow (i := ((l.length - 1 : Nat) : Int)) rfl Tryd.runUnderlying91 Tryd.sizeOf9 rfl rfl (by omega) (by rw [strs_length]; omega) (fun w1 hw1 => Row.own hvl hw1)) ?_
  refine Lq.op (v := i6_ ((((l.length - 1) : Nat) : Int))) rfl rfl rfl (OpQ.lenRow rfl Tryd.runUnderlying91 rfl (by rw [strs_length, List.length_take]; omega) (fun w1 hw1 => Strs.take (Row.own hvl hw1) ((l.length - 1)) (by omega))) ?_
  refine Lq.run 1 rfl ?_
  refine Lq.nil ?_
  refine Kt.sel [0, 1, 5, 17, 18, 19] [_, _, _, _, _, _] rfl ?_
  refine Wk.block ?_
  refine Wk.loop (σ := Nat) (fun k => k ≤ l.length - 1) (fun k => [(0, str (([38] : List UInt8))), (1, vl), (5, str (preJ [38] l k)), (17, sTake vl ((l.length - 1))), (18, i6_ ((((l.length - 1) : Nat) : Int))), (19, i6_ ((k : Int)))]) (fun k => Own w.heap.size w []) (fun k => l.length - k) (0) (by omega) (Sub.cons rfl (Sub.cons rfl (Sub.cons rfl (Sub.sel [17, 18, 19] rfl)))) (fun _ h => h) ?_
  rintro k hk
  refine Wk.seq ?_
  refine Wk.regionQ ?_
  refine Lq.run 1 rfl ?_
  refine Lq.nil ?_
  refine Kt.sel [0, 1, 5, 17, 18, 19, 20] [_, _, _, _, _, _, _] rfl ?_
  refine Wk.seq ?_
  refine Wk.cond (b := decide (((k : Int)) < ((((l.length - 1) : Nat) : Int)))) rfl (fun h20 => ?_) (fun h20 => ?_)
  ·
   replace h20 := of_decide_eq_true h20
   have hlk : (l.take (l.length - 1)).length = l.length - 1 := by rw [List.length_take]; omega
   have hkl : k < l.length - 1 := by omega
   have hg8 := get_len hl k
   have hp := preJ_len (op := [38]) (by decide) hl k
   refine Wk.skip ?_
   refine Kt.sel [0, 1, 5, 17, 18, 19] [_, _, _, _, _, _] rfl ?_
   refine Wk.seq ?_
   refine Wk.block ?_
   refine Wk.seq ?_
   refine Wk.regionQ ?_
   refine Lq.op (v := .pointer (some (sAt (sTake vl ((l.length - 1))) ((k : Int))))) rfl rfl rfl (OpQ.atRow rfl Tryd.runUnderlying91 Tryd.sizeOf9 rfl rfl (by omega) (by rw [strs_length, List.length_take]; omega) (fun w1 hw1 => Strs.take (Row.own hvl hw1) ((l.length - 1)) (by omega))) ?_
   refine Lq.op (v := str (l.getD ((k : Int)).toNat [])) rfl rfl rfl (OpQ.cast (by rw [Int.toNat_natCast, take_getS hkl]) (OpQ.load1 rfl Tryd.isAgg9 rfl (fun w1 hw1 => Strs.cell (Strs.take (Row.own hvl hw1) ((l.length - 1)) (by omega)) (by omega) (by omega)))) ?_
   refine Lq.run 1 rfl ?_
   refine Lq.nil ?_
   refine Kt.sel [0, 1, 5, 7, 17, 18, 19] [_, _, _, _, _, _, _] rfl ?_
   refine Wk.regionQ ?_
   refine Lq.run 3 rfl ?_
   refine Lq.op rfl rfl rfl (OpQ.sadd rfl rfl rfl (by simp only [List.length_append, List.length_cons, List.length_nil, Int.toNat_natCast] at *; omega)) ?_
   refine Lq.op rfl rfl rfl (OpQ.sadd rfl rfl rfl (by simp only [List.length_append, List.length_cons, List.length_nil, Int.toNat_natCast] at *; omega)) ?_
   refine Lq.run 1 rfl ?_
   refine Lq.nil ?_
   refine Kt.sel [0, 1, 5, 17, 18, 19] [_, _, _, _, _, _] rfl ?_
   refine Wk.regionQ ?_
   refine Lq.op rfl rfl rfl (OpQ.add rfl rfl rfl (by omega) (by omega)) ?_
   refine Lq.run 1 rfl ?_
   refine Lq.nil ?_
   refine Kt.again (k + 1) (by omega) (by omega) (Sub.cons rfl (Sub.cons rfl (Sub.cons rfl (Sub.sel [17, 18, 19] rfl)))) (fun _ h => h)
  ·
   replace h20 := of_decide_eq_false h20
   have hp := preJ_len (op := [38]) (by decide) hl k
   refine Wk.exit rfl ?_
   refine Kt.sel [1, 5] [_, _] rfl ?_
   refine Wk.seq ?_
   refine Wk.regionQ ?_
   refine Lq.run 3 rfl ?_
   refine Lq.op (v := i6_ ((l.length : Int))) rfl rfl rfl (OpQ.lenRow rfl Tryd.runUnderlying91 rfl (strs_length _) (fun w1 hw1 => Row.own hvl hw1)) ?_
   refine Lq.op (v := i6_ (((l.length - 1 : Nat) : Int))) rfl rfl rfl (OpQ.cast (by congr 1; omega) (OpQ.sub rfl rfl rfl (by omega) (by omega))) ?_
   refine Lq.op (v := .pointer (some (sAt vl (((l.length - 1 : Nat) : Int))))) rfl rfl rfl (OpQ.atRow rfl Tryd.runUnderlying91 Tryd.sizeOf9 rfl rfl (by omega) (by rw [strs_length]; omega) (fun w1 hw1 => Row.own hvl hw1)) ?_
   refine Lq.op (v := str (l.getD ((((l.length - 1 : Nat) : Int)).toNat) [])) rfl rfl rfl (OpQ.load1 rfl Tryd.isAgg9 rfl (fun w1 hw1 => Strs.cell (Row.own hvl hw1) (by omega) (by omega))) ?_
   refine Lq.op rfl rfl rfl (OpQ.sadd rfl rfl rfl (by simp only [Int.toNat_natCast] at *; omega)) ?_
   refine Lq.run 1 rfl ?_
   refine Lq.nil ?_
   refine Kt.sel [4] [_] rfl ?_
   refine Wk.ret (Kt.end1 rfl rfl fun w' hw => ?_)
   -- ret 1: str ((preJ [38] l k) ++ (l.getD ((((l.length - 1 : Nat) : Int)).toNat) []))
   obtain rfl : k = l.length - 1 := by omega
   exact ⟨ret_s (by unfold joinB; rw [if_neg h0]; rfl), hw.below⟩

set_option maxHeartbeats 400000 in
/-- impl.factsFormula -/
theorem factsFormula_ok (a : St) (va : Value) (xs : List Int) (w : World) (ha : a.Fine) (hva : Ints w va xs) (hA : a.Els xs) (hl4 : xs.length ≤ 4) :
    Calls Tryd.prog 89 [vS a, va].toArray w fun en w' => en = .returned (str (formB a xs)) ∧ Below w.heap.size w w' := by
 refine fnStart (n := 34) (e := [(0, vS a), (1, va)]) Tryd.func89 rfl rfl rfl rfl Ends.both ?_
 have hfl := factsL_length a xs xs.length hl4
 refine Wk.seq ?_
 refine Wk.region ?_
 refine Ll.box (v := vS a) rfl rfl rfl rfl rfl fun p2 hp2 => ?_
 show Ll _ _ (Own _ _ [_]) _ _ ((2, pt_ p2) :: _) _ _ _
 refine Ll.op (v := str ([])) rfl rfl rfl (OpQ.assign rfl rfl) ?_
 refine Ll.nil ?_
 refine Kt.sel [1, 2] [_, _] rfl ?_
 refine Wk.seq ?_
 refine Wk.region ?_
 refine Ll.op rfl rfl rfl (OpQ.loadBox (cs := #[i6_ a.n, str a.set, str a.rel]) 0 rfl Tryd.isAgg28 rfl rfl Tryd.sizeOf28) ?_
 refine Ll.run 1 rfl ?_
 refine Ll.callRows (xs := [.tmp 9, .tmp 10]) (m1 := ((factsL a xs xs.length).map Prod.fst).length) (vs1 := strs ((factsL a xs xs.length).map Prod.fst)) (el1 := 9) (m2 := ((factsL a xs xs.length).map Prod.snd).length) (vs2 := bools ((factsL a xs xs.length).map Prod.snd)) (el2 := 4) rfl rfl rfl rfl Tryd.call132 rfl (fun w1 hw1 => factsOf_ok a va xs w1 ha (Row.own hva hw1) hA hl4) fun p11a cap11a cur11a p11b cap11b cur11b hp11a hcp11a hlp11a htp11a hp11b hcp11b hlp11b htp11b => ?_
 refine Ll.run 1 rfl ?_
 refine Ll.op (v := sl_ p11a (((factsL a xs xs.length).map Prod.fst).length) cap11a) rfl rfl rfl (OpQ.extract rfl rfl rfl) ?_
 refine Ll.op (v := sl_ p11b (((factsL a xs xs.length).map Prod.snd).length) cap11b) rfl rfl rfl (OpQ.extract rfl rfl rfl) ?_
 refine Ll.run 2 rfl ?_
 refine Ll.nil ?_
 refine Kt.sel [5, 6] [_, _] rfl ?_
 refine Wk.seq ?_
 refine Wk.seq ?_
 refine Wk.regionQ ?_
 refine Lq.run 1 rfl ?_
 refine Lq.op rfl rfl rfl (OpQ.lenS rfl Tryd.runUnderlying91 rfl) ?_
 refine Lq.run 1 rfl ?_
 refine Lq.nil ?_
 refine Kt.sel [5, 6, 15, 16] [_, _, _, _] rfl ?_
 refine Wk.block ?_
 refine Wk.loop (σ := Nat × Array Value) (fun ⟨k, u⟩ => k ≤ (factsL a xs xs.length).length ∧ u.size = cap11a * 1 ∧ u.toList.take (((factsL a xs xs.length).map Prod.fst).length * 1) = strs (mixL (factsL a xs xs.length) k)) (fun ⟨k, u⟩ => [(5, sl_ p11a (((factsL a xs xs.length).map Prod.fst).length) cap11a), (6, sl_ p11b (((factsL a xs xs.length).map Prod.snd).length) cap11b), (15, i6_ ((((factsL a xs xs.length).map Prod.fst).length : Int))), (16, i6_ ((k : Int)))]) (fun ⟨k, u⟩ => Own w.heap.size w [bk_ p11a u 9, bk_ p11b cur11b 4, bk_ p2 #[i6_ a.n, str a.set, str a.rel] 28]) (fun ⟨k, u⟩ => (factsL a xs xs.length).length - k) ((0, cur11a)) ⟨by omega, hcp11a, by rw [mixL_zero]; exact htp11a⟩ (Sub.sel [5, 6, 15, 16] rfl) (fun _ h => h) ?_
 rintro ⟨k, u⟩ ⟨hk, hc, ht⟩
 dsimp only
 refine Wk.seq ?_
 refine Wk.regionQ ?_
 refine Lq.run 1 rfl ?_
 refine Lq.nil ?_
 refine Kt.sel [5, 6, 15, 16, 17] [_, _, _, _, _] rfl ?_
 refine Wk.seq ?_
 refine Wk.cond (b := decide (((k : Int)) < ((((factsL a xs xs.length).map Prod.fst).length : Int)))) rfl (fun h17 => ?_) (fun h17 => ?_)
 ·
  replace h17 := of_decide_eq_true h17
  have hk2 : k < (factsL a xs xs.length).length := by rw [List.length_map] at h17; omega
  have hm8 := mixL_le hk2
  have hlm : ((factsL a xs xs.length).map Prod.fst).length = (factsL a xs xs.length).length := List.length_map _
  have hlm2 : ((factsL a xs xs.length).map Prod.snd).length = (factsL a xs xs.length).length := List.length_map _
  refine Wk.skip ?_
  refine Kt.sel [5, 6, 15, 16] [_, _, _, _] rfl ?_
  refine Wk.seq ?_
  refine Wk.block ?_
  refine Wk.seq ?_
  refine Wk.regionQ ?_
  refine Lq.run 2 rfl ?_
  refine Lq.nil ?_
  refine Kt.sel [5, 6, 7, 15, 16] [_, _, _, _, _] rfl ?_
  refine Wk.regionS (S := Own w.heap.size w [bk_ p11b cur11b 4, bk_ p2 #[i6_ a.n, str a.set, str a.rel] 28]) [(0, true), (1, true), (2, true), (3, true), (4, true), (6, true), (7, true), (8, true), (9, true), (5, false), (10, false), (11, true), (12, false)] Base.mixed (fun _ h => h.drawn) (by kernel_rfl) ?_
  refine Ld.run 4 rfl (fun _ h => h.tail) ?_
  refine Ld.take (v := pf_ p11a (((k : Int)).toNat)) rfl rfl rfl rfl rfl (OpQ.cast (by rw [Nat.zero_add]) (OpQ.indexAddr1 (i := (k : Int)) rfl Tryd.runUnderlying91 Tryd.sizeOf9 rfl rfl (by omega) (by omega))) (fun _ h => h.tail) ?_
  refine Ld.run 2 rfl (fun _ h => h.tail) ?_
  refine Ld.take (v := pf_ p11b (((k : Int)).toNat)) rfl rfl rfl rfl rfl (OpQ.cast (by rw [Nat.zero_add]) (OpQ.indexAddr1 (i := (k : Int)) rfl Tryd.runUnderlying64 Tryd.sizeOf4 rfl rfl (by omega) (by omega))) (fun _ h => h.tail) ?_
  refine Ld.take (v := bo_ (((factsL a xs xs.length).map Prod.snd).getD (((k : Int)).toNat) false)) rfl rfl rfl rfl rfl (OpQ.loadAt 0 rfl Tryd.isAgg4 rfl rfl (cur_at (by simpa using htp11b) (bools_at (c := (factsL a xs xs.length).map Prod.snd) (off := ((k : Int)).toNat) (by first | (simp; done) | (simp; omega) | omega)))) (fun _ h => h.tail) ?_
  refine Ld.loud rfl ?_
  refine Ll.op (v := str ((mixL (factsL a xs xs.length) k).getD (((k : Int)).toNat) [])) rfl rfl rfl (OpQ.loadAt 0 rfl Tryd.isAgg9 rfl rfl (cur_at (by simpa using ht) (strs_at (c := mixL (factsL a xs xs.length) k) (off := ((k : Int)).toNat) (by first | (simp; done) | (simp; omega) | omega)))) ?_
  refine Ll.nil (Ld.joint (fun _ h => h.tail) ?_)
  refine Ld.loud rfl ?_
  refine Ll.op (v := str (signS (((factsL a xs xs.length).map Prod.snd).getD (((k : Int)).toNat) false) ((mixL (factsL a xs xs.length) k).getD (((k : Int)).toNat) []))) rfl rfl rfl (OpQ.call rfl Tryd.call133 rfl Own.stable (fun w1 hw1 => signed_ok ((mixL (factsL a xs xs.length) k).getD (((k : Int)).toNat) []) (((factsL a xs xs.length).map Prod.snd).getD (((k : Int)).toNat) false) w1 (by simp only [Int.toNat_natCast] at *; omega))) ?_
  refine Ll.nil (Ld.joint (fun _ h => h.tail) ?_)
  refine Ld.take (v := pf_ p11a (((k : Int)).toNat)) rfl rfl rfl rfl rfl (OpQ.cast (by rw [Nat.zero_add]) (OpQ.indexAddr1 (i := (k : Int)) rfl Tryd.runUnderlying91 Tryd.sizeOf9 rfl rfl (by omega) (by omega))) (fun _ h => h.tail) ?_
  refine Ld.loud rfl ?_
  refine Ll.store1 (v := str (signS (((factsL a xs xs.length).map Prod.snd).getD (((k : Int)).toNat) false) ((mixL (factsL a xs xs.length) k).getD (((k : Int)).toNat) []))) (hs' := [bk_ p11a ((u.setIfInBounds (((k : Int)).toNat) (str (signS (((factsL a xs xs.length).map Prod.snd).getD (((k : Int)).toNat) false) ((mixL (factsL a xs xs.length) k).getD (((k : Int)).toNat) []))))) 9, _, _]) 0 rfl rfl rfl rfl rfl rfl Tryd.sizeOf9 rfl (by rw [hc]; omega) rfl ?_
  refine Ll.nil (Ld.joint (fun _ h => h.tail) ?_)
  refine Ld.nil ?_
  refine Kt.sel [5, 6, 15, 16] [_, _, _, _] rfl ?_
  refine Wk.regionQ ?_
  refine Lq.op rfl rfl rfl (OpQ.add rfl rfl rfl (by omega) (by omega)) ?_
  refine Lq.run 1 rfl ?_
  refine Lq.nil ?_
  refine Kt.again ((k + 1, (u.setIfInBounds (((k : Int)).toNat) (str (signS (((factsL a xs xs.length).map Prod.snd).getD (((k : Int)).toNat) false) ((mixL (factsL a xs xs.length) k).getD (((k : Int)).toNat) [])))))) ⟨by omega, by simpa using hc, by rw [← mixL_step hk2]; exact set_take ht⟩ (by omega) (Sub.sel [5, 6, 15, 16] rfl) (fun _ h => h)
 ·
  replace h17 := of_decide_eq_false h17
  have hmx := mixL_all (show (factsL a xs xs.length).length ≤ k from by rw [List.length_map] at h17; omega)
  refine Wk.exit rfl ?_
  refine Kt.sel [5] [_] rfl ?_
  refine Wk.seq ?_
  refine Wk.regionQ ?_
  refine Lq.run 1 rfl ?_
  refine Lq.op (v := str (joinB [38] (mixL (factsL a xs xs.length) k))) rfl rfl rfl (OpQ.call rfl Tryd.call94 rfl Own.stable (fun w1 hw1 => joined_ok (mixL (factsL a xs xs.length) k) (sl_ p11a (((factsL a xs xs.length).map Prod.fst).length) cap11a) w1 (Own.row hw1 (i := 0) rfl (by simpa using ht) (by simp) hlp11a) (by rw [hmx]; exact signed_le _) (by simp; omega))) ?_
  refine Lq.run 1 rfl ?_
  refine Lq.nil ?_
  refine Kt.sel [4] [_] rfl ?_
  refine Wk.ret (Kt.end1 rfl rfl fun w' hw => ?_)
  -- ret 0: str (joinB [38] (mixL (factsL a xs xs.length) k))
  exact ⟨ret_s (by rw [hmx]; rfl), hw.below⟩

set_option maxHeartbeats 400000 in
/-- spec.l2Join|m -/
theorem l2JoinM_ok (op : List UInt8) (l : List (List UInt8)) (vl : Value) (M : Nat) (w : World) (hvl : Strs w vl l) (hl : ∀ s ∈ l, s.length ≤ M) (hM : M ≤ 100000) (hop : op.length = 1) (hn : l.length ≤ 1000) (h0 : l.length ≠ 0) :
    Calls Tryd.prog 87 [str op, vl].toArray w fun en w' => en = .returned (str (joinN op l)) ∧ Below w.heap.size w w' := by
 refine fnStart (n := 39) (e := [(0, str op), (1, vl)]) Tryd.func87 rfl rfl rfl rfl Ends.both ?_
 refine Wk.seq ?_
 refine Wk.regionQ ?_
 refine Lq.op (v := str ([])) rfl rfl rfl (OpQ.assign rfl rfl) ?_
 refine Lq.nil ?_
 refine Kt.sel [0, 1] [_, _] rfl ?_
 refine Wk.seq ?_
 refine Wk.seq ?_
 refine Wk.regionQ ?_
 refine Lq.run 1 rfl ?_
 refine Lq.op (v := i6_ ((l.length : Int))) rfl rfl rfl (OpQ.lenRow rfl Tryd.runUnderlying91 rfl (strs_length _) (fun w1 hw1 => Row.own hvl hw1)) ?_
 refine Lq.run 1 rfl ?_
 refine Lq.nil ?_
 refine Kt.sel [0, 1, 9] [_, _, _] rfl ?_
 refine Wk.cond (b := decide (((l.length : Int)) = (0 : Int))) rfl (fun h9 => ?_) (fun h9 => ?_)
 ·
  replace h9 := of_decide_eq_true h9
  omega
 ·
  replace h9 := of_decide_eq_false h9
  refine Wk.skip ?_
  refine Kt.sel [0, 1] [_, _] rfl ?_
  refine Wk.seq ?_
  refine Wk.regionQ ?_
  refine Lq.op (v := str ([])) rfl rfl rfl (OpQ.assign rfl rfl) ?_
  refine Lq.nil ?_
  refine Kt.sel [0, 1, 5] [_, _, _] rfl ?_
  refine Wk.seq ?_
  refine Wk.seq ?_
  refine Wk.regionQ ?_
  refine Lq.run 1 rfl ?_
  refine Lq.nil ?_
  refine Kt.sel [0, 1, 5, 6] [_, _, _, _] rfl ?_
  refine Wk.block ?_
  refine Wk.loop (σ := Nat) (fun k => k ≤ l.length) (fun k => [(0, str op), (1, vl), (5, str (specJ op l k)), (6, i6_ ((k : Int)))]) (fun k => Own w.heap.size w []) (fun k => l.length - k) (0) (by omega) (Sub.cons rfl (Sub.cons rfl (Sub.cons (by rw [specJ_zero (by omega)]; rfl) (Sub.sel [6] rfl)))) (fun _ h => h) ?_
  rintro k hk
  refine Wk.seq ?_
  refine Wk.seq ?_
  refine Wk.regionQ ?_
  refine Lq.run 2 rfl ?_
  refine Lq.op (v := i6_ ((l.length : Int))) rfl rfl rfl (OpQ.lenRow rfl Tryd.runUnderlying91 rfl (strs_length _) (fun w1 hw1 => Row.own hvl hw1)) ?_
  refine Lq.run 1 rfl ?_
  refine Lq.nil ?_
  refine Kt.sel [0, 1, 5, 6, 21] [_, _, _, _, _] rfl ?_
  refine Wk.cond (b := decide (((k : Int)) < ((l.length : Int)))) rfl (fun h21 => ?_) (fun h21 => ?_)
  ·
   replace h21 := of_decide_eq_true h21
   have hg8 := getM_len hl k
   have hp := specJ_lenM (op := op) (by omega) hl k
   have hm1 := mulM (M := M) (k := k) (n := 1000) hM (by omega) (by omega)
   have hm2 := mulM (M := M) (k := l.length) (n := 1000) hM hn (by omega)
   refine Wk.skip ?_
   refine Kt.sel [0, 1, 5, 6] [_, _, _, _] rfl ?_
   refine Wk.seq ?_
   refine Wk.block ?_
   refine Wk.seq ?_
   refine Wk.seq ?_
   refine Wk.regionQ ?_
   refine Lq.run 1 rfl ?_
   refine Lq.op rfl rfl rfl (OpQ.add rfl rfl rfl (by omega) (by omega)) ?_
   refine Lq.run 1 rfl ?_
   refine Lq.op (v := i6_ ((l.length : Int))) rfl rfl rfl (OpQ.lenRow rfl Tryd.runUnderlying91 rfl (strs_length _) (fun w1 hw1 => Row.own hvl hw1)) ?_
   refine Lq.run 1 rfl ?_
   refine Lq.nil ?_
   refine Kt.sel [0, 1, 5, 6, 28] [_, _, _, _, _] rfl ?_
   refine Wk.cond (b := decide ((((k : Int)) + (1 : Int)) < ((l.length : Int)))) rfl (fun h28 => ?_) (fun h28 => ?_)
   ·
    replace h28 := of_decide_eq_true h28
    refine Wk.regionQ ?_
    refine Lq.run 2 rfl ?_
    refine Lq.op rfl rfl rfl (OpQ.sadd rfl rfl rfl (by first | omega | (simp only [List.length_append, Int.toNat_natCast] at *; omega))) ?_
    refine Lq.run 1 rfl ?_
    refine Lq.nil ?_
    refine Kt.sel [0, 1, 5, 6] [_, _, _, _] rfl ?_
    refine Wk.regionQ ?_
    refine Lq.run 3 rfl ?_
    refine Lq.op (v := .pointer (some (sAt vl ((k : Int))))) rfl rfl rfl (OpQ.atRow rfl Tryd.runUnderlying91 Tryd.sizeOf9 rfl rfl (by omega) (by rw [strs_length]; omega) (fun w1 hw1 => Row.own hvl hw1)) ?_
    refine Lq.op (v := str (l.getD (((k : Int)).toNat) [])) rfl rfl rfl (OpQ.load1 rfl Tryd.isAgg9 rfl (fun w1 hw1 => Strs.cell (Row.own hvl hw1) (by omega) (by omega))) ?_
    refine Lq.op rfl rfl rfl (OpQ.sadd rfl rfl rfl (by first | omega | (simp only [List.length_append, Int.toNat_natCast] at *; omega))) ?_
    refine Lq.run 1 rfl ?_
    refine Lq.nil ?_
    refine Kt.sel [0, 1, 5, 6] [_, _, _, _] rfl ?_
    refine Wk.regionQ ?_
    refine Lq.run 1 rfl ?_
    refine Lq.op rfl rfl rfl (OpQ.add rfl rfl rfl (by omega) (by omega)) ?_
    refine Lq.run 1 rfl ?_
    refine Lq.nil ?_
    refine Kt.again (k + 1) (by omega) (by omega) (Sub.cons rfl (Sub.cons rfl (Sub.cons (by first | (rw [specJ_more (by omega)]; rfl) | (rw [specJ_last (by omega) (by omega)]; rfl)) (Sub.sel [6] rfl)))) (fun _ h => h)
   ·
    replace h28 := of_decide_eq_false h28
    refine Wk.skip ?_
    refine Kt.sel [0, 1, 5, 6] [_, _, _, _] rfl ?_
    refine Wk.regionQ ?_
    refine Lq.run 3 rfl ?_
    refine Lq.op (v := .pointer (some (sAt vl ((k : Int))))) rfl rfl rfl (OpQ.atRow rfl Tryd.runUnderlying91 Tryd.sizeOf9 rfl rfl (by omega) (by rw [strs_length]; omega) (fun w1 hw1 => Row.own hvl hw1)) ?_
    refine Lq.op (v := str (l.getD (((k : Int)).toNat) [])) rfl rfl rfl (OpQ.load1 rfl Tryd.isAgg9 rfl (fun w1 hw1 => Strs.cell (Row.own hvl hw1) (by omega) (by omega))) ?_
    refine Lq.op rfl rfl rfl (OpQ.sadd rfl rfl rfl (by first | omega | (simp only [List.length_append, Int.toNat_natCast] at *; omega))) ?_
    refine Lq.run 1 rfl ?_
    refine Lq.nil ?_
    refine Kt.sel [0, 1, 5, 6] [_, _, _, _] rfl ?_
    refine Wk.regionQ ?_
    refine Lq.run 1 rfl ?_
    refine Lq.op rfl rfl rfl (OpQ.add rfl rfl rfl (by omega) (by omega)) ?_
    refine Lq.run 1 rfl ?_
    refine Lq.nil ?_
    refine Kt.again (k + 1) (by omega) (by omega) (Sub.cons rfl (Sub.cons rfl (Sub.cons (by first | (rw [specJ_more (by omega)]; rfl) | (rw [specJ_last (by omega) (by omega)]; rfl)) (Sub.sel [6] rfl)))) (fun _ h => h)
  ·
   replace h21 := of_decide_eq_false h21
   refine Wk.exit rfl ?_
   refine Kt.sel [5] [_] rfl ?_
   refine Wk.seq ?_
   refine Wk.regionQ ?_
   refine Lq.run 2 rfl ?_
   refine Lq.nil ?_
   refine Kt.sel [4] [_] rfl ?_
   refine Wk.ret (Kt.end1 rfl rfl fun w' hw => ?_)
   -- ret 0: str (specJ op l k)
   exact ⟨ret_s (specJ_end' (by omega)), hw.below⟩

set_option maxHeartbeats 400000 in
/-- impl.joined|m -/
theorem joinedM_ok (op : List UInt8) (l : List (List UInt8)) (vl : Value) (M : Nat) (w : World) (hvl : Strs w vl l) (hl : ∀ s ∈ l, s.length ≤ M) (hM : M ≤ 100000) (hop : op.length = 1) (hn : l.length ≤ 1000) (h0 : l.length ≠ 0) :
    Calls Tryd.prog 94 [str op, vl].toArray w fun en w' => en = .returned (str (joinN op l)) ∧ Below w.heap.size w w' := by
 refine fnStart (n := 37) (e := [(0, str op), (1, vl)]) Tryd.func94 rfl rfl rfl rfl Ends.both ?_
 refine Wk.seq ?_
 refine Wk.regionQ ?_
 refine Lq.op (v := str ([])) rfl rfl rfl (OpQ.assign rfl rfl) ?_
 refine Lq.nil ?_
 refine Kt.sel [0, 1] [_, _] rfl ?_
 refine Wk.seq ?_
 refine Wk.seq ?_
 refine Wk.regionQ ?_
 refine Lq.run 1 rfl ?_
 refine Lq.op (v := i6_ ((l.length : Int))) rfl rfl rfl (OpQ.lenRow rfl Tryd.runUnderlying91 rfl (strs_length _) (fun w1 hw1 => Row.own hvl hw1)) ?_
 refine Lq.run 1 rfl ?_
 refine Lq.nil ?_
 refine Kt.sel [0, 1, 10] [_, _, _] rfl ?_
 refine Wk.cond (b := decide (((l.length : Int)) = (0 : Int))) rfl (fun h10 => ?_) (fun h10 => ?_)
 ·
  replace h10 := of_decide_eq_true h10
  omega
 ·
  replace h10 := of_decide_eq_false h10
  have hg9 := getM_len hl (l.length - 1)
  refine Wk.skip ?_
  refine Kt.sel [0, 1] [_, _] rfl ?_
  refine Wk.seq ?_
  refine Wk.regionQ ?_
  refine Lq.op (v := str ([])) rfl rfl rfl (OpQ.assign rfl rfl) ?_
  refine Lq.nil ?_
  refine Kt.sel [0, 1, 5] [_, _, _] rfl ?_
  refine Wk.seq ?_
  refine Wk.seq ?_
  refine Wk.regionQ ?_
  refine Lq.run 2 rfl ?_
  refine Lq.op (v := i6_ ((l.length : Int))) rfl rfl rfl (OpQ.lenRow rfl Tryd.runUnderlying91 rfl (strs_length _) (fun w1 hw1 => Row.own hvl hw1)) ?_
  refine Lq.op (v := i6_ (((l.length - 1 : Nat) : Int))) rfl rfl rfl (OpQ.cast (by congr 1; omega) (OpQ.sub rfl rfl rfl (by omega) (by omega))) ?_
  refine Lq.op (v := sTake vl ((l.length - 1))) rfl rfl rfl (OpQ.takeRow (i := ((l.length - 1 : Nat) : Int)) rfl Tryd.runUnderlying91 Tryd.sizeOf9 rfl rfl (by omega) (by rw [strs_length]; omega) (fun w1 hw1 => Row.own hvl hw1)) ?_
  refine Lq.op (v := i6_ ((((l.length - 1) : Nat) : Int))) rfl rfl rfl (OpQ.lenRow rfl Tryd.runUnderlying91 rfl (by rw [strs_length, List.length_take]; omega) (fun w1 hw1 => Strs.take (Row.own hvl hw1) ((l.length - 1)) (by omega))) ?_
  refine Lq.run 1 rfl ?_
  refine Lq.nil ?_
  refine Kt.sel [0, 1, 5, 17, 18, 19] [_, _, _, _, _, _] rfl ?_
  refine Wk.block ?_
  refine Wk.loop (σ := Nat) (fun k => k ≤ l.length - 1) (fun k => [(0, str op), (1, vl), (5, str (preJ op l k)), (17, sTake vl ((l.length - 1))), (18, i6_ ((((l.length - 1) : Nat) : Int))), (19, i6_ ((k : Int)))]) (fun k => Own w.heap.size w []) (fun k => l.length - k) (0) (by omega) (Sub.cons rfl (Sub.cons rfl (Sub.cons rfl (Sub.sel [17, 18, 19] rfl)))) (fun _ h => h) ?_
  rintro k hk
  refine Wk.seq ?_
  refine Wk.regionQ ?_
  refine Lq.run 1 rfl ?_
  refine Lq.nil ?_
  refine Kt.sel [0, 1, 5, 17, 18, 19, 20] [_, _, _, _, _, _, _] rfl ?_
  refine Wk.seq ?_
  refine Wk.cond (b := decide (((k : Int)) < ((((l.length - 1) : Nat) : Int)))) rfl (fun h20 => ?_) (fun h20 => ?_)
  ·
   replace h20 := of_decide_eq_true h20
   have hlk : (l.take (l.length - 1)).length = l.length - 1 := by rw [List.length_take]; omega
   have hkl : k < l.length - 1 := by omega
   have hg8 := getM_len hl k
   have hp := preJ_lenM (op := op) (by omega) hl k
   have hm1 := mulM (M := M) (k := k) (n := 1000) hM (by omega) (by omega)
   refine Wk.skip ?_
   refine Kt.sel [0, 1, 5, 17, 18, 19] [_, _, _, _, _, _] rfl ?_
   refine Wk.seq ?_
   refine Wk.block ?_
   refine Wk.seq ?_
   refine Wk.regionQ ?_
   refine Lq.op (v := .pointer (some (sAt (sTake vl ((l.length - 1))) ((k : Int))))) rfl rfl rfl (OpQ.atRow rfl Tryd.runUnderlying91 Tryd.sizeOf9 rfl rfl (by omega) (by rw [strs_length, List.length_take]; omega) (fun w1 hw1 => Strs.take (Row.own hvl hw1) ((l.length - 1)) (by omega))) ?_
   refine Lq.op (v := str (l.getD ((k : Int)).toNat [])) rfl rfl rfl (OpQ.cast (by rw [Int.toNat_natCast, take_getS hkl]) (OpQ.load1 rfl Tryd.isAgg9 rfl (fun w1 hw1 => Strs.cell (Strs.take (Row.own hvl hw1) ((l.length - 1)) (by omega)) (by omega) (by omega)))) ?_
   refine Lq.run 1 rfl ?_
   refine Lq.nil ?_
   refine Kt.sel [0, 1, 5, 7, 17, 18, 19] [_, _, _, _, _, _, _] rfl ?_
   refine Wk.regionQ ?_
   refine Lq.run 3 rfl ?_
   refine Lq.op rfl rfl rfl (OpQ.sadd rfl rfl rfl (by first | omega | (simp only [List.length_append, Int.toNat_natCast] at *; omega))) ?_
   refine Lq.op rfl rfl rfl (OpQ.sadd rfl rfl rfl (by first | omega | (simp only [List.length_append, Int.toNat_natCast] at *; omega))) ?_
   refine Lq.run 1 rfl ?_
   refine Lq.nil ?_
   refine Kt.sel [0, 1, 5, 17, 18, 19] [_, _, _, _, _, _] rfl ?_
   refine Wk.regionQ ?_
   refine Lq.op rfl rfl rfl (OpQ.add rfl rfl rfl (by omega) (by omega)) ?_
   refine Lq.run 1 rfl ?_
   refine Lq.nil ?_
   refine Kt.again (k + 1) (by omega) (by omega) (Sub.cons rfl (Sub.cons rfl (Sub.cons rfl (Sub.sel [17, 18, 19] rfl)))) (fun _ h => h)
  ·
   replace h20 := of_decide_eq_false h20
   have hg8 := getM_len hl k
   have hp := preJ_lenM (op := op) (by omega) hl k
   have hm1 := mulM (M := M) (k := k) (n := 1000) hM (by omega) (by omega)
   refine Wk.exit rfl ?_
   refine Kt.sel [1, 5] [_, _] rfl ?_
   refine Wk.seq ?_
   refine Wk.regionQ ?_
   refine Lq.run 3 rfl ?_
   refine Lq.op (v := i6_ ((l.length : Int))) rfl rfl rfl (OpQ.lenRow rfl Tryd.runUnderlying91 rfl (strs_length _) (fun w1 hw1 => Row.own hvl hw1)) ?_
   refine Lq.op (v := i6_ (((l.length - 1 : Nat) : Int))) rfl rfl rfl (OpQ.cast (by congr 1; omega) (OpQ.sub rfl rfl rfl (by omega) (by omega))) ?_
   refine Lq.op (v := .pointer (some (sAt vl (((l.length - 1 : Nat) : Int))))) rfl rfl rfl (OpQ.atRow rfl Tryd.runUnderlying91 Tryd.sizeOf9 rfl rfl (by omega) (by rw [strs_length]; omega) (fun w1 hw1 => Row.own hvl hw1)) ?_
   refine Lq.op (v := str (l.getD ((((l.length - 1 : Nat) : Int)).toNat) [])) rfl rfl rfl (OpQ.load1 rfl Tryd.isAgg9 rfl (fun w1 hw1 => Strs.cell (Row.own hvl hw1) (by omega) (by omega))) ?_
   refine Lq.op rfl rfl rfl (OpQ.sadd rfl rfl rfl (by simp only [Int.toNat_natCast] at *; omega)) ?_
   refine Lq.run 1 rfl ?_
   refine Lq.nil ?_
   refine Kt.sel [4] [_] rfl ?_
   refine Wk.ret (Kt.end1 rfl rfl fun w' hw => ?_)
   -- ret 0: str ((preJ op l k) ++ (l.getD ((((l.length - 1 : Nat) : Int)).toNat) []))
   obtain rfl : k = l.length - 1 := by omega
   exact ⟨ret_s rfl, hw.below⟩

set_option maxHeartbeats 400000 in
/-- impl.shortFormula|g -/
theorem shortG_ok (s : List UInt8) (w : World) (hs : s.length ≤ 100000000) :
    Calls Tryd.prog 90 [str s, bo_ true].toArray w fun en w' => en = .returned (.tuple #[str (shortS s), .bool (shortB s)]) ∧ Below w.heap.size w w' := by
 refine fnStart (n := 14) (e := [(0, str s), (1, bo_ true)]) Tryd.func90 rfl rfl rfl rfl Ends.both ?_
 refine Wk.seq ?_
 refine Wk.regionQ ?_
 refine Lq.op (v := str ([])) rfl rfl rfl (OpQ.assign rfl rfl) ?_
 refine Lq.run 1 rfl ?_
 refine Lq.nil ?_
 refine Kt.sel [0, 1] [_, _] rfl ?_
 refine Wk.seq ?_
 refine Wk.seq ?_
 refine Wk.regionQ ?_
 refine Lq.run 4 rfl ?_
 refine Lq.op (v := i6_ ((s.length : Int))) rfl rfl rfl (OpQ.lenStr rfl Tryd.runUnderlying9 rfl) ?_
 refine Lq.run 2 rfl ?_
 refine Lq.nil ?_
 refine Kt.sel [0, 12] [_, _] rfl ?_
 refine Wk.cond (b := decide ((4000 : Int) < ((s.length : Int)))) rfl (fun h12 => ?_) (fun h12 => ?_)
 ·
  replace h12 := of_decide_eq_true h12
  refine Wk.seq ?_
  refine Wk.regionQ ?_
  refine Lq.op (v := str ([])) rfl rfl rfl (OpQ.assign rfl rfl) ?_
  refine Lq.run 1 rfl ?_
  refine Lq.nil ?_
  refine Kt.sel [4, 5] [_, _] rfl ?_
  refine Wk.ret (Kt.end2 rfl rfl rfl fun w' hw => ?_)
  -- ret 0: str ([]); bo_ false
  exact ⟨by unfold shortS shortB; rw [if_neg (by omega), decide_eq_false (by omega)], hw.below⟩
 ·
  replace h12 := of_decide_eq_false h12
  refine Wk.skip ?_
  refine Kt.sel [0] [_] rfl ?_
  refine Wk.seq ?_
  refine Wk.regionQ ?_
  refine Lq.run 3 rfl ?_
  refine Lq.nil ?_
  refine Kt.sel [4, 5] [_, _] rfl ?_
  refine Wk.ret (Kt.end2 rfl rfl rfl fun w' hw => ?_)
  -- ret 1: str s; bo_ true
  exact ⟨by unfold shortS shortB; rw [if_pos (by omega), decide_eq_true (by omega)], hw.below⟩

set_option maxHeartbeats 400000 in
/-- slices.Index[[]string,string] -/
theorem indexS_ok (va : Value) (l : List (List UInt8)) (s : List UInt8) (w : World) (hva : Strs w va l) (hs : l.length ≤ 100000) :
    Calls Tryd.prog 156 [va, str s].toArray w fun en w' => en = .returned (.int .i64 (seenI l s)) ∧ Below w.heap.size w w' := by
 refine fnStart (n := 19) (e := [(0, va), (1, str s)]) Tryd.func156 rfl rfl rfl rfl Ends.both ?_
 refine Wk.seq ?_
 refine Wk.regionQ ?_
 refine Lq.run 1 rfl ?_
 refine Lq.nil ?_
 refine Kt.sel [0, 1] [_, _] rfl ?_
 refine Wk.seq ?_
 refine Wk.seq ?_
 refine Wk.regionQ ?_
 refine Lq.run 1 rfl ?_
 refine Lq.op (v := i6_ ((l.length : Int))) rfl rfl rfl (OpQ.lenRow rfl Tryd.runUnderlying91 rfl (strs_length _) (fun w1 hw1 => Row.own hva hw1)) ?_
 refine Lq.run 1 rfl ?_
 refine Lq.nil ?_
 refine Kt.sel [0, 1, 7, 8] [_, _, _, _] rfl ?_
 refine Wk.block ?_
 refine Wk.loop (σ := Nat) (fun k => k ≤ l.length ∧ ∀ i : Nat, i < k → (l.getD i [] == s) = false) (fun k => [(0, va), (1, str s), (7, i6_ ((l.length : Int))), (8, i6_ ((k : Int)))]) (fun k => Own w.heap.size w []) (fun k => l.length - k) (0) ⟨by omega, fun i hi => absurd hi (by omega)⟩ (Sub.sel [0, 1, 7, 8] rfl) (fun _ h => h) ?_
 rintro k ⟨hk, hall⟩
 refine Wk.seq ?_
 refine Wk.regionQ ?_
 refine Lq.run 1 rfl ?_
 refine Lq.nil ?_
 refine Kt.sel [0, 1, 7, 8, 9] [_, _, _, _, _] rfl ?_
 refine Wk.seq ?_
 refine Wk.cond (b := decide (((k : Int)) < ((l.length : Int)))) rfl (fun h9 => ?_) (fun h9 => ?_)
 ·
  replace h9 := of_decide_eq_true h9
  refine Wk.skip ?_
  refine Kt.sel [0, 1, 7, 8] [_, _, _, _] rfl ?_
  refine Wk.seq ?_
  refine Wk.block ?_
  refine Wk.seq ?_
  refine Wk.regionQ ?_
  refine Lq.run 2 rfl ?_
  refine Lq.nil ?_
  refine Kt.sel [0, 1, 5, 7, 8] [_, _, _, _, _] rfl ?_
  refine Wk.seq ?_
  refine Wk.regionQ ?_
  refine Lq.run 3 rfl ?_
  refine Lq.op (v := .pointer (some (sAt va ((k : Int))))) rfl rfl rfl (OpQ.atRow rfl Tryd.runUnderlying91 Tryd.sizeOf9 rfl rfl (by omega) (by rw [strs_length]; omega) (fun w1 hw1 => Row.own hva hw1)) ?_
  refine Lq.op (v := str (l.getD (((k : Int)).toNat) [])) rfl rfl rfl (OpQ.load1 rfl Tryd.isAgg9 rfl (fun w1 hw1 => Strs.cell (Row.own hva hw1) (by omega) (by omega))) ?_
  refine Lq.op rfl rfl rfl (OpQ.seql rfl rfl rfl) ?_
  refine Lq.nil ?_
  refine Kt.sel [0, 1, 5, 7, 8, 16] [_, _, _, _, _, _] rfl ?_
  refine Wk.cond (b := s == (l.getD (((k : Int)).toNat) [])) rfl (fun h16 => ?_) (fun h16 => ?_)
  ·
   refine Wk.seq ?_
   refine Wk.regionQ ?_
   refine Lq.run 2 rfl ?_
   refine Lq.nil ?_
   refine Kt.sel [4] [_] rfl ?_
   refine Wk.ret (Kt.end1 rfl rfl fun w' hw => ?_)
   -- ret 0: i6_ ((k : Int))
   exact ⟨ret_i (seenI_at (k := k) (by omega) hall (by rw [beqS_comm]; simpa using h16)).symm, hw.below⟩
  ·
   refine Wk.skip ?_
   refine Kt.sel [0, 1, 7, 8] [_, _, _, _] rfl ?_
   refine Wk.regionQ ?_
   refine Lq.op rfl rfl rfl (OpQ.add rfl rfl rfl (by omega) (by omega)) ?_
   refine Lq.run 1 rfl ?_
   refine Lq.nil ?_
   refine Kt.again (k + 1) ⟨by omega, fun i hi => (Nat.lt_succ_iff_lt_or_eq.1 hi).elim (hall i) (fun e => by subst e; rw [beqS_comm]; simpa using h16)⟩ (by omega) (Sub.sel [0, 1, 7, 8] rfl) (fun _ h => h)
 ·
  replace h9 := of_decide_eq_false h9
  refine Wk.exit rfl ?_
  refine Kt.sel [] [] rfl ?_
  refine Wk.seq ?_
  refine Wk.regionQ ?_
  refine Lq.run 1 rfl ?_
  refine Lq.nil ?_
  refine Kt.sel [4] [_] rfl ?_
  refine Wk.ret (Kt.end1 rfl rfl fun w' hw => ?_)
  -- ret 1: i6_ (-1)
  exact ⟨ret_i (seenI_no (fun i hi => hall i (by omega))).symm, hw.below⟩

set_option maxHeartbeats 400000 in
/-- slices.Contains[[]string,string] -/
theorem containsS_ok (va : Value) (l : List (List UInt8)) (s : List UInt8) (w : World) (hva : Strs w va l) (hs : l.length ≤ 100000) :
    Calls Tryd.prog 134 [va, str s].toArray w fun en w' => en = .returned (.bool (decide (s ∈ l))) ∧ Below w.heap.size w w' := by
 refine fnStart (n := 9) (e := [(0, va), (1, str s)]) Tryd.func134 rfl rfl rfl rfl Ends.both ?_
 refine Wk.seq ?_
 refine Wk.regionQ ?_
 refine Lq.run 1 rfl ?_
 refine Lq.nil ?_
 refine Kt.sel [0, 1] [_, _] rfl ?_
 refine Wk.seq ?_
 refine Wk.regionQ ?_
 refine Lq.run 2 rfl ?_
 refine Lq.op (v := i6_ (seenI l s)) rfl rfl rfl (OpQ.call rfl Tryd.call156 rfl Own.stable (fun w1 hw1 => indexS_ok va l s w1 (Row.own hva hw1) (by omega))) ?_
 refine Lq.run 2 rfl ?_
 refine Lq.nil ?_
 refine Kt.sel [4] [_] rfl ?_
 refine Wk.ret (Kt.end1 rfl rfl fun w' hw => ?_)
 -- ret 0: bo_ (decide ((0 : Int) ≤ (seenI l s)))
 exact ⟨ret_b seenI_mem, hw.below⟩

set_option maxHeartbeats 400000 in
/-- impl.withoutEqual -/
theorem withoutEqual_ok (vl : Value) (l : List (List UInt8)) (w : World) (hvl : Strs w vl l) (hn : l.length ≤ 1000) :
    Calls Tryd.prog 92 [vl].toArray w fun en w' => ∃ v, en = .returned v ∧ Below w.heap.size w w' ∧ NewRow w.heap.size 9 1 w' v (dedup l).length (strs (dedup l)) := by
 refine fnStart (n := 23) (e := [(0, vl)]) Tryd.func92 rfl rfl rfl rfl Ends.both ?_
 refine Wk.seq ?_
 refine Wk.regionQ ?_
 refine Lq.run 1 rfl ?_
 refine Lq.nil ?_
 refine Kt.sel [0] [_] rfl ?_
 refine Wk.seq ?_
 refine Wk.region ?_
 refine Ll.slice (xs := []) (vs := []) Base.elem91 rfl rfl rfl rfl rfl rfl (by decide) rfl fun p6 hp6 => ?_
 refine Ll.run 1 rfl ?_
 refine Ll.nil ?_
 refine Kt.sel [0, 3] [_, _] rfl ?_
 refine Wk.seq ?_
 refine Wk.seq ?_
 refine Wk.regionQ ?_
 refine Lq.run 1 rfl ?_
 refine Lq.op (v := i6_ ((l.length : Int))) rfl rfl rfl (OpQ.lenRow rfl Tryd.runUnderlying91 rfl (strs_length _) (fun w1 hw1 => Row.own hvl hw1)) ?_
 refine Lq.run 1 rfl ?_
 refine Lq.nil ?_
 refine Kt.sel [3, 7, 8, 9] [_, _, _, _] rfl ?_
 refine Wk.block ?_
 refine Wk.loop (σ := Nat × Nat × Nat × Array Value) (fun ⟨k, g, c, cur⟩ => k ≤ l.length ∧ cur.size = c * 1 ∧ (dedup (l.take k)).length ≤ c ∧ cur.toList.take (dedup (l.take k)).length = strs (dedup (l.take k))) (fun ⟨k, g, c, cur⟩ => [(3, sl_ g ((dedup (l.take k)).length) c), (7, vl), (8, i6_ ((l.length : Int))), (9, i6_ ((k : Int)))]) (fun ⟨k, g, c, cur⟩ => Own w.heap.size w [bk_ g cur 9]) (fun ⟨k, g, c, cur⟩ => l.length - k) ((0, p6, 0, #[])) ⟨by omega, rfl, Nat.le_refl 0, rfl⟩ (Sub.sel [3, 7, 8, 9] rfl) (fun _ h => h) ?_
 rintro ⟨k, g, c, cur⟩ ⟨hk, hc, hl, ht⟩
 dsimp only
 have hdl := dedup_take l k
 refine Wk.seq ?_
 refine Wk.regionQ ?_
 refine Lq.run 1 rfl ?_
 refine Lq.nil ?_
 refine Kt.sel [3, 7, 8, 9, 10] [_, _, _, _, _] rfl ?_
 refine Wk.seq ?_
 refine Wk.cond (b := decide (((k : Int)) < ((l.length : Int)))) rfl (fun h10 => ?_) (fun h10 => ?_)
 ·
  replace h10 := of_decide_eq_true h10
  refine Wk.skip ?_
  refine Kt.sel [3, 7, 8, 9] [_, _, _, _] rfl ?_
  refine Wk.seq ?_
  refine Wk.block ?_
  refine Wk.seq ?_
  refine Wk.regionQ ?_
  refine Lq.op (v := .pointer (some (sAt vl ((k : Int))))) rfl rfl rfl (OpQ.atRow rfl Tryd.runUnderlying91 Tryd.sizeOf9 rfl rfl (by omega) (by rw [strs_length]; omega) (fun w1 hw1 => Row.own hvl hw1)) ?_
  refine Lq.op (v := str (l.getD (((k : Int)).toNat) [])) rfl rfl rfl (OpQ.load1 rfl Tryd.isAgg9 rfl (fun w1 hw1 => Strs.cell (Row.own hvl hw1) (by omega) (by omega))) ?_
  refine Lq.run 1 rfl ?_
  refine Lq.nil ?_
  refine Kt.sel [3, 5, 7, 8, 9] [_, _, _, _, _] rfl ?_
  refine Wk.seq ?_
  refine Wk.regionQ ?_
  refine Lq.run 2 rfl ?_
  refine Lq.op (v := bo_ (decide ((l.getD (((k : Int)).toNat) []) ∈ dedup (l.take k)))) rfl rfl rfl (OpQ.call rfl Tryd.call134 rfl Own.stable (fun w1 hw1 => containsS_ok (sl_ g ((dedup (l.take k)).length) c) (dedup (l.take k)) (l.getD (((k : Int)).toNat) []) w1 (Own.row hw1 (i := 0) rfl (by simpa using ht) (by simp) hl) (by omega))) ?_
  refine Lq.run 1 rfl ?_
  refine Lq.nil ?_
  refine Kt.sel [3, 5, 7, 8, 9, 16] [_, _, _, _, _, _] rfl ?_
  refine Wk.cond (b := !(decide ((l.getD (((k : Int)).toNat) []) ∈ dedup (l.take k)))) rfl (fun h16 => ?_) (fun h16 => ?_)
  ·
   replace h16 := not_true h16
   replace h16 := of_decide_eq_false h16
   have hE := dedup_new (l := l) (k := k) (by omega) (by simpa using h16)
   refine Wk.region ?_
   refine Ll.run 2 rfl ?_
   refine Ll.slice (xs := [.tmp 18]) (vs := [str (l.getD (((k : Int)).toNat) [])]) Base.elem91 rfl rfl rfl rfl rfl rfl (by decide) rfl fun p19 hp19 => ?_
   refine Ll.appendStrs (xs := dedup (l.take k)) (ys := ([l.getD (((k : Int)).toNat) []] : List (List UInt8))) Base.elem91 1 rfl rfl rfl rfl rfl rfl rfl hc hl (by simpa using ht) (fun w1 hw1 => (Own.row hw1 (i := 0) rfl (n := 1) (cap := 1) (vs := strs ([l.getD (((k : Int)).toNat) []] : List (List UInt8))) rfl rfl (by decide))) (((dedup (l.take k)) ++ (([l.getD (((k : Int)).toNat) []] : List (List UInt8)))).length) (by first | (simp; done) | (simp; omega)) (by first | (simp; done) | (simp; omega) | omega) fun p20 cap20 cur20 hp20 hcp20 hlp20 htp20 => ?_
   show Ll _ _ (Own _ _ [_, _]) _ _ ((20, sl_ p20 ((((dedup (l.take k)) ++ (([l.getD (((k : Int)).toNat) []] : List (List UInt8)))).length)) cap20) :: _) _ _ _
   refine Ll.run 1 rfl ?_
   refine Ll.nil ?_
   refine Kt.sel [3, 7, 8, 9] [_, _, _, _] rfl ?_
   refine Wk.regionQ ?_
   refine Lq.op rfl rfl rfl (OpQ.add rfl rfl rfl (by omega) (by omega)) ?_
   refine Lq.run 1 rfl ?_
   refine Lq.nil ?_
   refine Kt.again ((k + 1, p20, cap20, cur20)) ⟨by omega, by simpa using hcp20, by rw [hE]; exact hlp20, by rw [hE]; simpa using htp20⟩ (by omega) (Sub.cons (by rw [hE]; rfl) (Sub.sel [7, 8, 9] rfl)) (fun _ h => h.tail)
  ·
   replace h16 := not_false h16
   replace h16 := of_decide_eq_true h16
   have hE := dedup_old (l := l) (k := k) (by omega) (by simpa using h16)
   refine Wk.skip ?_
   refine Kt.sel [3, 7, 8, 9] [_, _, _, _] rfl ?_
   refine Wk.regionQ ?_
   refine Lq.op rfl rfl rfl (OpQ.add rfl rfl rfl (by omega) (by omega)) ?_
   refine Lq.run 1 rfl ?_
   refine Lq.nil ?_
   refine Kt.again ((k + 1, g, c, cur)) ⟨by omega, hc, by rw [hE]; exact hl, by rw [hE]; exact ht⟩ (by omega) (Sub.cons (by rw [hE]; rfl) (Sub.sel [7, 8, 9] rfl)) (fun _ h => h)
 ·
  replace h10 := of_decide_eq_false h10
  refine Wk.exit rfl ?_
  refine Kt.sel [3] [_] rfl ?_
  refine Wk.seq ?_
  refine Wk.regionQ ?_
  refine Lq.run 2 rfl ?_
  refine Lq.nil ?_
  refine Kt.sel [2] [_] rfl ?_
  refine Wk.ret (Kt.end1 rfl rfl fun w' hw => ?_)
  -- ret 0: sl_ g ((dedup (l.take k)).length) c
  have e : l.take k = l := List.take_of_length_le (by omega)
  rw [e] at hl ht
  refine ⟨_, rfl, hw.below, ?_⟩
  rw [e]
  exact hw.newRow (i := 0) rfl hc hl (by simpa using ht)

set_option maxHeartbeats 400000 in
/-- spec.l6Each -/
theorem l6Each_ok (vl : Value) (l : List (List UInt8)) (w : World) (hvl : Strs w vl l) (hn : l.length ≤ 1000) :
    Calls Tryd.prog 86 [vl].toArray w fun en w' => ∃ v, en = .returned v ∧ Below w.heap.size w w' ∧ NewRow w.heap.size 9 1 w' v (dedup l).length (strs (dedup l)) := by
 refine fnStart (n := 27) (e := [(0, vl)]) Tryd.func86 rfl rfl rfl rfl Ends.both ?_
 refine Wk.seq ?_
 refine Wk.regionQ ?_
 refine Lq.run 1 rfl ?_
 refine Lq.nil ?_
 refine Kt.sel [0] [_] rfl ?_
 refine Wk.seq ?_
 refine Wk.region ?_
 refine Ll.slice (xs := []) (vs := []) Base.elem91 rfl rfl rfl rfl rfl rfl (by decide) rfl fun p5 hp5 => ?_
 refine Ll.run 1 rfl ?_
 refine Ll.nil ?_
 refine Kt.sel [0, 3] [_, _] rfl ?_
 refine Wk.seq ?_
 refine Wk.seq ?_
 refine Wk.regionQ ?_
 refine Lq.run 1 rfl ?_
 refine Lq.nil ?_
 refine Kt.sel [0, 3, 4] [_, _, _] rfl ?_
 refine Wk.block ?_
 refine Wk.loop (σ := Nat × Nat × Nat × Array Value) (fun ⟨k, g, c, cur⟩ => k ≤ l.length ∧ cur.size = c * 1 ∧ (dedup (l.take k)).length ≤ c ∧ cur.toList.take (dedup (l.take k)).length = strs (dedup (l.take k))) (fun ⟨k, g, c, cur⟩ => [(0, vl), (3, sl_ g ((dedup (l.take k)).length) c), (4, i6_ ((k : Int)))]) (fun ⟨k, g, c, cur⟩ => Own w.heap.size w [bk_ g cur 9]) (fun ⟨k, g, c, cur⟩ => l.length - k) ((0, p5, 0, #[])) ⟨by omega, rfl, Nat.le_refl 0, rfl⟩ (Sub.sel [0, 3, 4] rfl) (fun _ h => h) ?_
 rintro ⟨k, g, c, cur⟩ ⟨hk, hc, hl, ht⟩
 dsimp only
 have hdl := dedup_take l k
 refine Wk.seq ?_
 refine Wk.seq ?_
 refine Wk.regionQ ?_
 refine Lq.run 2 rfl ?_
 refine Lq.op (v := i6_ ((l.length : Int))) rfl rfl rfl (OpQ.lenRow rfl Tryd.runUnderlying91 rfl (strs_length _) (fun w1 hw1 => Row.own hvl hw1)) ?_
 refine Lq.run 1 rfl ?_
 refine Lq.nil ?_
 refine Kt.sel [0, 3, 4, 9] [_, _, _, _] rfl ?_
 refine Wk.cond (b := decide (((k : Int)) < ((l.length : Int)))) rfl (fun h9 => ?_) (fun h9 => ?_)
 ·
  replace h9 := of_decide_eq_true h9
  refine Wk.skip ?_
  refine Kt.sel [0, 3, 4] [_, _, _] rfl ?_
  refine Wk.seq ?_
  refine Wk.block ?_
  refine Wk.seq ?_
  refine Wk.regionQ ?_
  refine Lq.run 3 rfl ?_
  refine Lq.op (v := .pointer (some (sAt vl ((k : Int))))) rfl rfl rfl (OpQ.atRow rfl Tryd.runUnderlying91 Tryd.sizeOf9 rfl rfl (by omega) (by rw [strs_length]; omega) (fun w1 hw1 => Row.own hvl hw1)) ?_
  refine Lq.op (v := str (l.getD (((k : Int)).toNat) [])) rfl rfl rfl (OpQ.load1 rfl Tryd.isAgg9 rfl (fun w1 hw1 => Strs.cell (Row.own hvl hw1) (by omega) (by omega))) ?_
  refine Lq.op (v := i6_ (seenI (dedup (l.take k)) (l.getD (((k : Int)).toNat) []))) rfl rfl rfl (OpQ.call rfl Tryd.call128 rfl Own.stable (fun w1 hw1 => l4Seen_ok (sl_ g ((dedup (l.take k)).length) c) (dedup (l.take k)) (l.getD (((k : Int)).toNat) []) w1 (Own.row hw1 (i := 0) rfl (by simpa using ht) (by simp) hl) (by omega))) ?_
  refine Lq.run 1 rfl ?_
  refine Lq.nil ?_
  refine Kt.sel [0, 3, 4, 18] [_, _, _, _] rfl ?_
  refine Wk.cond (b := decide ((seenI (dedup (l.take k)) (l.getD (((k : Int)).toNat) [])) < (0 : Int))) rfl (fun h18 => ?_) (fun h18 => ?_)
  ·
   replace h18 := of_decide_eq_true h18
   have hE := dedup_new (l := l) (k := k) (by omega) (seenI_neg.1 h18)
   refine Wk.region ?_
   refine Ll.run 3 rfl ?_
   refine Ll.op (v := .pointer (some (sAt vl ((k : Int))))) rfl rfl rfl (OpQ.atRow rfl Tryd.runUnderlying91 Tryd.sizeOf9 rfl rfl (by omega) (by rw [strs_length]; omega) (fun w1 hw1 => Row.own hvl hw1)) ?_
   refine Ll.op (v := str (l.getD (((k : Int)).toNat) [])) rfl rfl rfl (OpQ.load1 rfl Tryd.isAgg9 rfl (fun w1 hw1 => Strs.cell (Row.own hvl hw1) (by omega) (by omega))) ?_
   refine Ll.slice (xs := [.tmp 23]) (vs := [str (l.getD (((k : Int)).toNat) [])]) Base.elem91 rfl rfl rfl rfl rfl rfl (by decide) rfl fun p24 hp24 => ?_
   refine Ll.appendStrs (xs := dedup (l.take k)) (ys := ([l.getD (((k : Int)).toNat) []] : List (List UInt8))) Base.elem91 1 rfl rfl rfl rfl rfl rfl rfl hc hl (by simpa using ht) (fun w1 hw1 => (Own.row hw1 (i := 0) rfl (n := 1) (cap := 1) (vs := strs ([l.getD (((k : Int)).toNat) []] : List (List UInt8))) rfl rfl (by decide))) (((dedup (l.take k)) ++ (([l.getD (((k : Int)).toNat) []] : List (List UInt8)))).length) (by first | (simp; done) | (simp; omega)) (by first | (simp; done) | (simp; omega) | omega) fun p25 cap25 cur25 hp25 hcp25 hlp25 htp25 => ?_
   show Ll _ _ (Own _ _ [_, _]) _ _ ((25, sl_ p25 ((((dedup (l.take k)) ++ (([l.getD (((k : Int)).toNat) []] : List (List UInt8)))).length)) cap25) :: _) _ _ _
   refine Ll.run 1 rfl ?_
   refine Ll.nil ?_
   refine Kt.sel [0, 3, 4] [_, _, _] rfl ?_
   refine Wk.regionQ ?_
   refine Lq.run 1 rfl ?_
   refine Lq.op rfl rfl rfl (OpQ.add rfl rfl rfl (by omega) (by omega)) ?_
   refine Lq.run 1 rfl ?_
   refine Lq.nil ?_
   refine Kt.again ((k + 1, p25, cap25, cur25)) ⟨by omega, by simpa using hcp25, by rw [hE]; exact hlp25, by rw [hE]; simpa using htp25⟩ (by omega) (Sub.cons rfl (Sub.cons (by rw [hE]; rfl) (Sub.sel [4] rfl))) (fun _ h => h.tail)
  ·
   replace h18 := of_decide_eq_false h18
   have hE := dedup_old (l := l) (k := k) (by omega) (Classical.byContradiction fun e => h18 (seenI_neg.2 e))
   refine Wk.skip ?_
   refine Kt.sel [0, 3, 4] [_, _, _] rfl ?_
   refine Wk.regionQ ?_
   refine Lq.run 1 rfl ?_
   refine Lq.op rfl rfl rfl (OpQ.add rfl rfl rfl (by omega) (by omega)) ?_
   refine Lq.run 1 rfl ?_
   refine Lq.nil ?_
   refine Kt.again ((k + 1, g, c, cur)) ⟨by omega, hc, by rw [hE]; exact hl, by rw [hE]; exact ht⟩ (by omega) (Sub.cons rfl (Sub.cons (by rw [hE]; rfl) (Sub.sel [4] rfl))) (fun _ h => h)
 ·
  replace h9 := of_decide_eq_false h9
  refine Wk.exit rfl ?_
  refine Kt.sel [3] [_] rfl ?_
  refine Wk.seq ?_
  refine Wk.regionQ ?_
  refine Lq.run 2 rfl ?_
  refine Lq.nil ?_
  refine Kt.sel [2] [_] rfl ?_
  refine Wk.ret (Kt.end1 rfl rfl fun w' hw => ?_)
  -- ret 0: sl_ g ((dedup (l.take k)).length) c
  have e : l.take k = l := List.take_of_length_le (by omega)
  rw [e] at hl ht
  refine ⟨_, rfl, hw.below, ?_⟩
  rw [e]
  exact hw.newRow (i := 0) rfl hc hl (by simpa using ht)

end Go.Proofs.YtjcoijejhachhaaDoor
