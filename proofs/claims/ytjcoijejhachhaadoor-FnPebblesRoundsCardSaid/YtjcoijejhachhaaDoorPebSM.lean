/-
  Walks: pebble games by states.
-/
import Derived.Test.YtjcoijejhachhaaDoorPlain45
import Derived.Test.YtjcoijejhachhaaDoorPebM
import Derived.Test.YtjcoijejhachhaaDoorBase
namespace Go.Proofs.YtjcoijejhachhaaDoor
open Go.RowKit Go.Wk
set_option linter.unusedSimpArgs false

set_option maxHeartbeats 400000 in
/-- slices.Index[[]bool,bool] -/
theorem indexB_ok (vb : Value) (bs : List Bool) (y : Bool) (w : World) (hvb : Bools w vb bs) (hs1 : bs.length ≤ 1000000) :
    Calls Tryd.prog 165 [vb, bo_ y].toArray w fun en w' => en = .returned (.int .i64 (idxB bs y)) ∧ Below w.heap.size w w' := by
 refine fnStart (n := 19) (e := [(0, vb), (1, bo_ y)]) Tryd.func165 rfl rfl rfl rfl Ends.both ?_
 refine Wk.seq ?_
 refine Wk.regionQ ?_
 refine Lq.run 1 rfl ?_
 refine Lq.nil ?_
 refine Kt.sel [0, 1] [_, _] rfl ?_
 refine Wk.seq ?_
 refine Wk.seq ?_
 refine Wk.regionQ ?_
 refine Lq.run 1 rfl ?_
 refine Lq.op (v := i6_ ((bs.length : Int))) rfl rfl rfl (OpQ.lenRow rfl Tryd.runUnderlying64 rfl (bools_length _) (fun w1 hw1 => Row.own hvb hw1)) ?_
 refine Lq.run 1 rfl ?_
 refine Lq.nil ?_
 refine Kt.sel [0, 1, 7, 8] [_, _, _, _] rfl ?_
 refine Wk.block ?_
 refine Wk.loop (σ := Nat) (fun k => k ≤ bs.length ∧ ∀ i : Nat, i < k → (y == bs.getD i false) = false) (fun k => [(0, vb), (1, bo_ y), (7, i6_ ((bs.length : Int))), (8, i6_ ((k : Int)))]) (fun k => Own w.heap.size w []) (fun k => bs.length - k) (0) ⟨by omega, fun i hi => absurd hi (by omega)⟩ (Sub.sel [0, 1, 7, 8] rfl) (fun _ h => h) ?_
 rintro k ⟨hk, hall⟩
 refine Wk.seq ?_
 refine Wk.regionQ ?_
 refine Lq.run 1 rfl ?_
 refine Lq.nil ?_
 refine Kt.sel [0, 1, 7, 8, 9] [_, _, _, _, _] rfl ?_
 refine Wk.seq ?_
 refine Wk.cond (b := decide (((k : Int)) < ((bs.length : Int)))) rfl (fun h9 => ?_) (fun h9 => ?_)
 ·
  replace h9 := of_decide_eq_true h9
  refine Wk.skip ?_
  refine Kt.sel [0, 1, 7, 8] [_, _, _, _] rfl ?_
  refine Wk.seq ?_
  refine Wk.block ?_
  refine Wk.seq ?_
  refine Wk.regionQ ?_
  refine Lq.run 2 rfl ?_
  refine Lq.nil ?_
  refine Kt.sel [0, 1, 5, 7, 8] [_, _, _, _, _] rfl ?_
  refine Wk.seq ?_
  refine Wk.regionQ ?_
  refine Lq.run 3 rfl ?_
  refine Lq.op (v := .pointer (some (sAt vb ((k : Int))))) rfl rfl rfl (OpQ.atRow rfl Tryd.runUnderlying64 Tryd.sizeOf4 rfl rfl (by omega) (by rw [bools_length]; omega) (fun w1 hw1 => Row.own hvb hw1)) ?_
  refine Lq.op (v := bo_ (bs.getD (((k : Int)).toNat) false)) rfl rfl rfl (OpQ.load1 rfl Tryd.isAgg4 rfl (fun w1 hw1 => Bools.cell (Row.own hvb hw1) (by omega) (by omega))) ?_
  refine Lq.op rfl rfl rfl (OpQ.beq rfl Tryd.runUnderlying4 rfl rfl) ?_
  refine Lq.nil ?_
  refine Kt.sel [0, 1, 5, 7, 8, 16] [_, _, _, _, _, _] rfl ?_
  refine Wk.cond (b := y == (bs.getD (((k : Int)).toNat) false)) rfl (fun h16 => ?_) (fun h16 => ?_)
  ·
   refine Wk.seq ?_
   refine Wk.regionQ ?_
   refine Lq.run 2 rfl ?_
   refine Lq.nil ?_
   refine Kt.sel [4] [_] rfl ?_
   refine Wk.ret (Kt.end1 rfl rfl fun w' hw => ?_)
   -- ret 0: i6_ ((k : Int))
   exact ⟨ret_i (idxB_at (by omega) hall (by simpa using h16)).symm, hw.below⟩
  ·
   refine Wk.skip ?_
   refine Kt.sel [0, 1, 7, 8] [_, _, _, _] rfl ?_
   refine Wk.regionQ ?_
   refine Lq.op rfl rfl rfl (OpQ.add rfl rfl rfl (by omega) (by omega)) ?_
   refine Lq.run 1 rfl ?_
   refine Lq.nil ?_
   refine Kt.again (k + 1) ⟨by omega, fun i hi => (Nat.lt_succ_iff_lt_or_eq.1 hi).elim (hall i) (fun e => by subst e; simpa using h16)⟩ (by omega) (Sub.sel [0, 1, 7, 8] rfl) (fun _ h => h)
 ·
  replace h9 := of_decide_eq_false h9
  refine Wk.exit rfl ?_
  refine Kt.sel [] [] rfl ?_
  refine Wk.seq ?_
  refine Wk.regionQ ?_
  refine Lq.run 1 rfl ?_
  refine Lq.nil ?_
  refine Kt.sel [4] [_] rfl ?_
  refine Wk.ret (Kt.end1 rfl rfl fun w' hw => ?_)
  -- ret 1: i6_ (-1)
  exact ⟨ret_i (idxB_none (fun i hi => hall i (by omega))).symm, hw.below⟩

set_option maxHeartbeats 400000 in
/-- slices.Contains[[]bool,bool] -/
theorem containsB_ok (vb : Value) (bs : List Bool) (y : Bool) (w : World) (hvb : Bools w vb bs) (hs1 : bs.length ≤ 1000000) :
    Calls Tryd.prog 146 [vb, bo_ y].toArray w fun en w' => en = .returned (.bool (decide (y ∈ bs))) ∧ Below w.heap.size w w' := by
 refine fnStart (n := 9) (e := [(0, vb), (1, bo_ y)]) Tryd.func146 rfl rfl rfl rfl Ends.both ?_
 refine Wk.seq ?_
 refine Wk.regionQ ?_
 refine Lq.run 1 rfl ?_
 refine Lq.nil ?_
 refine Kt.sel [0, 1] [_, _] rfl ?_
 refine Wk.seq ?_
 refine Wk.regionQ ?_
 refine Lq.run 2 rfl ?_
 refine Lq.op (v := i6_ (idxB bs y)) rfl rfl rfl (OpQ.call rfl Tryd.call165 rfl Own.stable (fun w1 hw1 => indexB_ok vb bs y w1 (Row.own hvb hw1) (by omega))) ?_
 refine Lq.run 2 rfl ?_
 refine Lq.nil ?_
 refine Kt.sel [4] [_] rfl ?_
 refine Wk.ret (Kt.end1 rfl rfl fun w' hw => ?_)
 -- ret 0: bo_ (decide ((0 : Int) ≤ (idxB bs y)))
 exact ⟨ret_b (idxB_has bs y), hw.below⟩

set_option maxHeartbeats 400000 in
/-- slices.Equal[[]bool,bool] -/
theorem equalB_ok (va vb : Value) (xs ys : List Bool) (w : World) (hva : Bools w va xs) (hvb : Bools w vb ys) (hs1 : xs.length ≤ 1000000) :
    Calls Tryd.prog 113 [va, vb].toArray w fun en w' => en = .returned (.bool (xs == ys)) ∧ Below w.heap.size w w' := by
 refine fnStart (n := 26) (e := [(0, va), (1, vb)]) Tryd.func113 rfl rfl rfl rfl Ends.both ?_
 refine Wk.seq ?_
 refine Wk.regionQ ?_
 refine Lq.run 1 rfl ?_
 refine Lq.nil ?_
 refine Kt.sel [0, 1] [_, _] rfl ?_
 refine Wk.seq ?_
 refine Wk.seq ?_
 refine Wk.regionQ ?_
 refine Lq.run 1 rfl ?_
 refine Lq.op (v := i6_ ((xs.length : Int))) rfl rfl rfl (OpQ.lenRow rfl Tryd.runUnderlying64 rfl (bools_length _) (fun w1 hw1 => Row.own hva hw1)) ?_
 refine Lq.run 1 rfl ?_
 refine Lq.op (v := i6_ ((ys.length : Int))) rfl rfl rfl (OpQ.lenRow rfl Tryd.runUnderlying64 rfl (bools_length _) (fun w1 hw1 => Row.own hvb hw1)) ?_
 refine Lq.run 1 rfl ?_
 refine Lq.nil ?_
 refine Kt.sel [0, 1, 10] [_, _, _] rfl ?_
 refine Wk.cond (b := !(decide (((xs.length : Int)) = ((ys.length : Int))))) rfl (fun h10 => ?_) (fun h10 => ?_)
 ·
  replace h10 := not_true h10
  replace h10 := of_decide_eq_false h10
  refine Wk.seq ?_
  refine Wk.regionQ ?_
  refine Lq.run 1 rfl ?_
  refine Lq.nil ?_
  refine Kt.sel [4] [_] rfl ?_
  refine Wk.ret (Kt.end1 rfl rfl fun w' hw => ?_)
  -- ret 0: bo_ false
  exact ⟨ret_b (beq_no (fun e => by simp_all)).symm, hw.below⟩
 ·
  replace h10 := not_false h10
  replace h10 := of_decide_eq_true h10
  have hle : xs.length = ys.length := by omega
  refine Wk.skip ?_
  refine Kt.sel [0, 1] [_, _] rfl ?_
  refine Wk.seq ?_
  refine Wk.seq ?_
  refine Wk.regionQ ?_
  refine Lq.run 1 rfl ?_
  refine Lq.op (v := i6_ ((xs.length : Int))) rfl rfl rfl (OpQ.lenRow rfl Tryd.runUnderlying64 rfl (bools_length _) (fun w1 hw1 => Row.own hva hw1)) ?_
  refine Lq.run 1 rfl ?_
  refine Lq.nil ?_
  refine Kt.sel [0, 1, 12, 13] [_, _, _, _] rfl ?_
  refine Wk.block ?_
  refine Wk.loop (σ := Nat) (fun k => k ≤ xs.length ∧ ∀ i : Nat, i < k → xs.getD i false = ys.getD i false) (fun k => [(0, va), (1, vb), (12, i6_ ((xs.length : Int))), (13, i6_ ((k : Int)))]) (fun k => Own w.heap.size w []) (fun k => xs.length - k) (0) ⟨by omega, fun i hi => absurd hi (by omega)⟩ (Sub.sel [0, 1, 12, 13] rfl) (fun _ h => h) ?_
  rintro k ⟨hk, hall⟩
  refine Wk.seq ?_
  refine Wk.regionQ ?_
  refine Lq.run 1 rfl ?_
  refine Lq.nil ?_
  refine Kt.sel [0, 1, 12, 13, 14] [_, _, _, _, _] rfl ?_
  refine Wk.seq ?_
  refine Wk.cond (b := decide (((k : Int)) < ((xs.length : Int)))) rfl (fun h14 => ?_) (fun h14 => ?_)
  ·
   replace h14 := of_decide_eq_true h14
   refine Wk.skip ?_
   refine Kt.sel [0, 1, 12, 13] [_, _, _, _] rfl ?_
   refine Wk.seq ?_
   refine Wk.block ?_
   refine Wk.seq ?_
   refine Wk.regionQ ?_
   refine Lq.run 2 rfl ?_
   refine Lq.nil ?_
   refine Kt.sel [0, 1, 5, 12, 13] [_, _, _, _, _] rfl ?_
   refine Wk.seq ?_
   refine Wk.regionD Base.mixed (fun _ h => h.drawn) (by kernel_rfl) ?_
   refine Lq.run 2 rfl ?_
   refine Lq.op (v := .pointer (some (sAt va ((k : Int))))) rfl rfl rfl (OpQ.atRow rfl Tryd.runUnderlying64 Tryd.sizeOf4 rfl rfl (by omega) (by rw [bools_length]; omega) (fun w1 hw1 => Row.own hva hw1)) ?_
   refine Lq.op (v := bo_ (xs.getD (((k : Int)).toNat) false)) rfl rfl rfl (OpQ.load1 rfl Tryd.isAgg4 rfl (fun w1 hw1 => Bools.cell (Row.own hva hw1) (by omega) (by omega))) ?_
   refine Lq.run 2 rfl ?_
   refine Lq.op (v := .pointer (some (sAt vb ((k : Int))))) rfl rfl rfl (OpQ.atRow rfl Tryd.runUnderlying64 Tryd.sizeOf4 rfl rfl (by omega) (by rw [bools_length]; omega) (fun w1 hw1 => Row.own hvb hw1)) ?_
   refine Lq.op (v := bo_ (ys.getD (((k : Int)).toNat) false)) rfl rfl rfl (OpQ.load1 rfl Tryd.isAgg4 rfl (fun w1 hw1 => Bools.cell (Row.own hvb hw1) (by omega) (by omega))) ?_
   refine Lq.op rfl rfl rfl (OpQ.bne rfl Tryd.runUnderlying4 rfl rfl) ?_
   refine Lq.nil ?_
   refine Kt.sel [0, 1, 12, 13, 24] [_, _, _, _, _] rfl ?_
   refine Wk.cond (b := (xs.getD (((k : Int)).toNat) false) != (ys.getD (((k : Int)).toNat) false)) rfl (fun h24 => ?_) (fun h24 => ?_)
   ·
    refine Wk.seq ?_
    refine Wk.regionQ ?_
    refine Lq.run 1 rfl ?_
    refine Lq.nil ?_
    refine Kt.sel [4] [_] rfl ?_
    refine Wk.ret (Kt.end1 rfl rfl fun w' hw => ?_)
    -- ret 1: bo_ false
    exact ⟨ret_b (beq_no (fun e => by simp_all)).symm, hw.below⟩
   ·
    refine Wk.skip ?_
    refine Kt.sel [0, 1, 12, 13] [_, _, _, _] rfl ?_
    refine Wk.regionQ ?_
    refine Lq.op rfl rfl rfl (OpQ.add rfl rfl rfl (by omega) (by omega)) ?_
    refine Lq.run 1 rfl ?_
    refine Lq.nil ?_
    refine Kt.again (k + 1) ⟨by omega, fun i hi => (Nat.lt_succ_iff_lt_or_eq.1 hi).elim (hall i) (fun e => by subst e; simpa using h24)⟩ (by omega) (Sub.sel [0, 1, 12, 13] rfl) (fun _ h => h)
  ·
   replace h14 := of_decide_eq_false h14
   refine Wk.exit rfl ?_
   refine Kt.sel [] [] rfl ?_
   refine Wk.seq ?_
   refine Wk.regionQ ?_
   refine Lq.run 1 rfl ?_
   refine Lq.nil ?_
   refine Kt.sel [4] [_] rfl ?_
   refine Wk.ret (Kt.end1 rfl rfl fun w' hw => ?_)
   -- ret 2: bo_ true
   exact ⟨ret_b (by rw [bools_same hle (fun i hi => hall i (by omega))]; simp), hw.below⟩

set_option maxHeartbeats 400000 in
/-- (*impl.pebbleGame).stateOf -/
theorem stateOf_ok (a b : St) (k p Tp : Nat) (fv wv : Value) (va vb : Value) (xs ys : List Int) (w : World) (hp : w.heap[p]? = some (.cells #[.int .i64 a.n, str a.set, str a.rel, .int .i64 b.n, str b.set, str b.rel, .int .i64 (k : Int), .int .i64 ((prN a b : Nat) : Int), fv, wv, .bool false] Tp (0, 0))) (hva : Ints w va xs) (hvb : Ints w vb ys) (hVa : validB a = true) (hVb : validB b = true) (hk3 : k ≤ 3) (hx : Peb a.n.toNat k xs) (hy : Peb b.n.toNat k ys) (hsg : ∀ i : Nat, i < k → (xs.getD i 0 < 0 ↔ ys.getD i 0 < 0)) :
    Calls Tryd.prog 58 [.pointer (some ⟨p, 0, none⟩), va, vb].toArray w fun en w' => en = .returned (.int .i64 ((stU b.n.toNat (prN a b) xs ys k (k) : Nat) : Int)) ∧ Below w.heap.size w w' := by
 refine fnStart (n := 48) (e := [(0, .pointer (some ⟨p, 0, none⟩)), (1, va), (2, vb)]) Tryd.func58 rfl rfl rfl rfl Ends.both ?_
 have ha := validB_fine hVa
 have hb := validB_fine hVb
 have hm8 := ha.hi
 have hm1 := ha.lo
 have hb8 := hb.hi
 have hb1 := hb.lo
 have hpr := prN_le (a := a) (b := b) (by omega) (by omega)
 have hpp := prN_pos a b
 have hxl := hx.1
 have hyl := hy.1
 have hcl := code_lt hx hy hsg
 refine Wk.seq ?_
 refine Wk.regionQ ?_
 refine Lq.run 1 rfl ?_
 refine Lq.nil ?_
 refine Kt.sel [0, 1, 2] [_, _, _] rfl ?_
 refine Wk.seq ?_
 refine Wk.regionQ ?_
 refine Lq.run 1 rfl ?_
 refine Lq.nil ?_
 refine Kt.sel [0, 1, 2, 7] [_, _, _, _] rfl ?_
 refine Wk.seq ?_
 refine Wk.seq ?_
 refine Wk.regionQ ?_
 refine Lq.run 1 rfl ?_
 refine Lq.op (v := .pointer (some ⟨p, 0, none⟩)) rfl rfl rfl (OpQ.nilCheck rfl rfl) ?_
 refine Lq.op rfl rfl rfl (OpQ.fieldAddr rfl Tryd.runUnderlying66 rfl Tryd.sizeOf3 rfl rfl) ?_
 refine Lq.op (v := i6_ ((k : Int))) rfl rfl rfl (OpQ.load1 rfl Tryd.isAgg3 rfl (fun w1 hw1 => at_box hp hw1 6 rfl)) ?_
 refine Lq.op rfl rfl rfl (OpQ.sub rfl rfl rfl (by omega) (by omega)) ?_
 refine Lq.run 1 rfl ?_
 refine Lq.nil ?_
 refine Kt.sel [0, 1, 2, 7, 8] [_, _, _, _, _] rfl ?_
 refine Wk.block ?_
 refine Wk.loop (σ := Nat) (fun j => j ≤ k) (fun j => [(0, .pointer (some ⟨p, 0, none⟩)), (1, va), (2, vb), (7, i6_ (((stU b.n.toNat (prN a b) xs ys k (j) : Nat) : Int))), (8, i6_ ((k : Int) - 1 - (j : Int)))]) (fun j => Own w.heap.size w []) (fun j => k - j) (0) (by omega) (Sub.cons rfl (Sub.cons rfl (Sub.cons rfl (Sub.cons (by rfl) (Sub.cons (by simp [List.lookup]) Sub.nil))))) (fun _ h => h) ?_
 rintro j hj
 have hsl := stU_lt hcl j hj
 have hpj := pow65 hpr (show j ≤ 3 by omega)
 have hml := mul65 (x := stU b.n.toNat (prN a b) xs ys k j) (by omega) hpr
 refine Wk.seq ?_
 refine Wk.seq ?_
 refine Wk.regionQ ?_
 refine Lq.run 2 rfl ?_
 refine Lq.nil ?_
 refine Kt.sel [0, 1, 2, 7, 8, 15] [_, _, _, _, _, _] rfl ?_
 refine Wk.cond (b := decide ((0 : Int) ≤ ((k : Int) - 1 - (j : Int)))) rfl (fun h15 => ?_) (fun h15 => ?_)
 ·
  replace h15 := of_decide_eq_true h15
  have hjk : j < k := by omega
  obtain ⟨hx0, hx1⟩ := peb_at hx (i := k - 1 - j) (by omega)
  obtain ⟨hy0, hy1⟩ := peb_at hy (i := k - 1 - j) (by omega)
  have hs1 := hsg (k - 1 - j) (by omega)
  refine Wk.skip ?_
  refine Kt.sel [0, 1, 2, 7, 8] [_, _, _, _, _] rfl ?_
  refine Wk.seq ?_
  refine Wk.block ?_
  refine Wk.seq ?_
  refine Wk.regionQ ?_
  refine Lq.run 2 rfl ?_
  refine Lq.op (v := .pointer (some ⟨p, 0, none⟩)) rfl rfl rfl (OpQ.nilCheck rfl rfl) ?_
  refine Lq.op rfl rfl rfl (OpQ.fieldAddr rfl Tryd.runUnderlying66 rfl Tryd.sizeOf3 rfl rfl) ?_
  refine Lq.op (v := i6_ (((prN a b : Nat) : Int))) rfl rfl rfl (OpQ.load1 rfl Tryd.isAgg3 rfl (fun w1 hw1 => at_box hp hw1 7 rfl)) ?_
  refine Lq.op rfl rfl rfl (OpQ.mul rfl rfl rfl (by omega) (by omega)) ?_
  refine Lq.run 1 rfl ?_
  refine Lq.nil ?_
  refine Kt.sel [0, 1, 2, 7, 8] [_, _, _, _, _] rfl ?_
  refine Wk.seq ?_
  refine Wk.regionQ ?_
  refine Lq.run 2 rfl ?_
  refine Lq.op (v := .pointer (some (sAt va ((k : Int) - 1 - (j : Int))))) rfl rfl rfl (OpQ.atRow rfl Tryd.runUnderlying24 Tryd.sizeOf3 rfl rfl (by omega) (by rw [ints_length]; omega) (fun w1 hw1 => Row.own hva hw1)) ?_
  refine Lq.op (v := i6_ (xs.getD (k - 1 - j) 0)) rfl rfl rfl (OpQ.cast (by congr 2; omega) (OpQ.load1 rfl Tryd.isAgg3 rfl (fun w1 hw1 => Ints.cell (Row.own hva hw1) (by omega) (by omega)))) ?_
  refine Lq.run 1 rfl ?_
  refine Lq.nil ?_
  refine Kt.sel [0, 1, 2, 7, 8, 28] [_, _, _, _, _, _] rfl ?_
  refine Wk.cond (b := decide ((0 : Int) ≤ (xs.getD (k - 1 - j) 0))) rfl (fun h28 => ?_) (fun h28 => ?_)
  ·
   replace h28 := of_decide_eq_true h28
   have hxb := mul8 (x := xs.getD (k - 1 - j) 0) (y := b.n) (by omega) (by omega) (by omega) (by omega)
   refine Wk.regionD Base.mixed (fun _ h => h.drawn) (by kernel_rfl) ?_
   refine Lq.run 3 rfl ?_
   refine Lq.op (v := .pointer (some (sAt va ((k : Int) - 1 - (j : Int))))) rfl rfl rfl (OpQ.atRow rfl Tryd.runUnderlying24 Tryd.sizeOf3 rfl rfl (by omega) (by rw [ints_length]; omega) (fun w1 hw1 => Row.own hva hw1)) ?_
   refine Lq.op (v := i6_ (xs.getD (k - 1 - j) 0)) rfl rfl rfl (OpQ.cast (by congr 2; omega) (OpQ.load1 rfl Tryd.isAgg3 rfl (fun w1 hw1 => Ints.cell (Row.own hva hw1) (by omega) (by omega)))) ?_
   refine Lq.run 1 rfl ?_
   refine Lq.op (v := .pointer (some ⟨p, 0, none⟩)) rfl rfl rfl (OpQ.nilCheck rfl rfl) ?_
   refine Lq.op rfl rfl rfl (OpQ.fieldAddr rfl Tryd.runUnderlying66 rfl Tryd.sizeOf28 rfl rfl) ?_
   refine Lq.op rfl rfl rfl (OpQ.fieldAddr rfl Tryd.runUnderlying28 rfl Tryd.sizeOf3 rfl rfl) ?_
   refine Lq.op (v := i6_ b.n) rfl rfl rfl (OpQ.load1 rfl Tryd.isAgg3 rfl (fun w1 hw1 => at_box hp hw1 3 rfl)) ?_
   refine Lq.op rfl rfl rfl (OpQ.mul rfl rfl rfl (by omega) (by omega)) ?_
   refine Lq.op rfl rfl rfl (OpQ.add rfl rfl rfl (by omega) (by omega)) ?_
   refine Lq.run 2 rfl ?_
   refine Lq.op (v := .pointer (some (sAt vb ((k : Int) - 1 - (j : Int))))) rfl rfl rfl (OpQ.atRow rfl Tryd.runUnderlying24 Tryd.sizeOf3 rfl rfl (by omega) (by rw [ints_length]; omega) (fun w1 hw1 => Row.own hvb hw1)) ?_
   refine Lq.op (v := i6_ (ys.getD (k - 1 - j) 0)) rfl rfl rfl (OpQ.cast (by congr 2; omega) (OpQ.load1 rfl Tryd.isAgg3 rfl (fun w1 hw1 => Ints.cell (Row.own hvb hw1) (by omega) (by omega)))) ?_
   refine Lq.op rfl rfl rfl (OpQ.add rfl rfl rfl (by omega) (by omega)) ?_
   refine Lq.op rfl rfl rfl (OpQ.add rfl rfl rfl (by omega) (by omega)) ?_
   refine Lq.run 1 rfl ?_
   refine Lq.nil ?_
   refine Kt.sel [0, 1, 2, 7, 8] [_, _, _, _, _] rfl ?_
   refine Wk.regionQ ?_
   refine Lq.run 1 rfl ?_
   refine Lq.op rfl rfl rfl (OpQ.sub rfl rfl rfl (by omega) (by omega)) ?_
   refine Lq.run 1 rfl ?_
   refine Lq.nil ?_
   refine Kt.again (j + 1) (by omega) (by omega) (Sub.cons rfl (Sub.cons rfl (Sub.cons rfl (Sub.cons (by first | (rw [stU_pos (by omega) (by omega) (by omega)]; rfl) | (rw [stU_neg (by omega)]; rfl)) (Sub.cons (by simp [List.lookup]; omega) Sub.nil))))) (fun _ h => h)
  ·
   replace h28 := of_decide_eq_false h28
   refine Wk.skip ?_
   refine Kt.sel [0, 1, 2, 7, 8] [_, _, _, _, _] rfl ?_
   refine Wk.regionQ ?_
   refine Lq.run 1 rfl ?_
   refine Lq.op rfl rfl rfl (OpQ.sub rfl rfl rfl (by omega) (by omega)) ?_
   refine Lq.run 1 rfl ?_
   refine Lq.nil ?_
   refine Kt.again (j + 1) (by omega) (by omega) (Sub.cons rfl (Sub.cons rfl (Sub.cons rfl (Sub.cons (by first | (rw [stU_pos (by omega) (by omega) (by omega)]; rfl) | (rw [stU_neg (by omega)]; rfl)) (Sub.cons (by simp [List.lookup]; omega) Sub.nil))))) (fun _ h => h)
 ·
  replace h15 := of_decide_eq_false h15
  refine Wk.exit rfl ?_
  refine Kt.sel [7] [_] rfl ?_
  refine Wk.seq ?_
  refine Wk.regionQ ?_
  refine Lq.run 2 rfl ?_
  refine Lq.nil ?_
  refine Kt.sel [6] [_] rfl ?_
  refine Wk.ret (Kt.end1 rfl rfl fun w' hw => ?_)
  -- ret 0: i6_ (((stU b.n.toNat (prN a b) xs ys k (j) : Nat) : Int))
  exact ⟨ret_i (by rw [show j = k from by omega]), hw.below⟩

def answered_ok_o3x : OV := (.one 1 (.take 2 (.take 3 (.one 4 (.one 5 (.take 12 (.take 13 .done)))))))
theorem answered_ok_o3x_c : ovB (opsOf 3 Tryd.f112.body) answered_ok_o3x 7 true #[true, false, false, false, false, false, true, true, true, true, true, true, false, false] = true := (ovB_one (by kernel_rfl) (ovB_take (by kernel_rfl) (ovB_take (by kernel_rfl) (ovB_one (by kernel_rfl) (ovB_one (by kernel_rfl) (ovB_take (by kernel_rfl) (ovB_take (by kernel_rfl) (ovB_done (by kernel_rfl)))))))))
def answered_ok_o3_1x : OV := (.one 4 (.one 5 (.take 12 (.take 13 .done))))
theorem answered_ok_o3_1x_c : ovB (opsOf 3 Tryd.f112.body) answered_ok_o3_1x 4 true #[true, true, true, true, false, false, true, true, true, true, true, true, false, false] = true := (ovB_one (by kernel_rfl) (ovB_one (by kernel_rfl) (ovB_take (by kernel_rfl) (ovB_take (by kernel_rfl) (ovB_done (by kernel_rfl))))))
def answered_ok_o3_2x : OV := (.one 5 (.take 12 (.take 13 .done)))
theorem answered_ok_o3_2x_c : ovB (opsOf 3 Tryd.f112.body) answered_ok_o3_2x 3 true #[true, true, true, true, true, false, true, true, true, true, true, true, false, false] = true := (ovB_one (by kernel_rfl) (ovB_take (by kernel_rfl) (ovB_take (by kernel_rfl) (ovB_done (by kernel_rfl)))))
def answered_ok_o3_3x : OV := (.take 12 (.one 11 (.take 13 .done)))
theorem answered_ok_o3_3x_c : ovB (opsOf 3 Tryd.f112.body) answered_ok_o3_3x 3 true #[true, true, true, true, true, true, true, true, true, true, true, false, false, false] = true := (ovB_take (by kernel_rfl) (ovB_one (by kernel_rfl) (ovB_take (by kernel_rfl) (ovB_done (by kernel_rfl)))))
def answered_ok_o3_4x : OV := (.alt 5 answered_ok_o3_3x (.one 11 answered_ok_o3_2x))
theorem answered_ok_o3_4x_c : ovB (opsOf 3 Tryd.f112.body) answered_ok_o3_4x 4 true #[true, true, true, true, true, false, true, true, true, true, true, false, false, false] = true := (ovB_alt (by kernel_rfl) (ovB_at (by kernel_rfl) answered_ok_o3_3x_c) (ovB_last (ovB_at (by kernel_rfl) answered_ok_o3_2x_c)))
def answered_ok_o3_5x : OV := (.take 2 (.take 3 (.alt 4 answered_ok_o3_4x (.one 11 answered_ok_o3_1x))))
theorem answered_ok_o3_5x_c : ovB (opsOf 3 Tryd.f112.body) answered_ok_o3_5x 7 true #[true, true, false, false, false, false, true, true, true, true, true, false, false, false] = true := (ovB_take (by kernel_rfl) (ovB_take (by kernel_rfl) (ovB_alt (by kernel_rfl) (ovB_at (by kernel_rfl) answered_ok_o3_4x_c) (ovB_last (ovB_at (by kernel_rfl) answered_ok_o3_1x_c)))))
def answered_ok_o3_6x : OV := (.alt 1 answered_ok_o3_5x (.one 11 answered_ok_o3x))
theorem answered_ok_o3_6x_c : ovB (opsOf 3 Tryd.f112.body) answered_ok_o3_6x 8 true #[true, false, false, false, false, false, true, true, true, true, true, false, false, false] = true := (ovB_alt (by kernel_rfl) (ovB_at (by kernel_rfl) answered_ok_o3_5x_c) (ovB_last (ovB_at (by kernel_rfl) answered_ok_o3x_c)))
def answered_ok_o3_7x : OV := (.alt 4 answered_ok_o3_4x (.one 11 answered_ok_o3_1x))
theorem answered_ok_o3_7x_c : ovB (opsOf 3 Tryd.f112.body) answered_ok_o3_7x 5 true #[true, true, true, true, false, false, true, true, true, true, true, false, false, false] = true := (ovB_alt (by kernel_rfl) (ovB_at (by kernel_rfl) answered_ok_o3_4x_c) (ovB_last (ovB_at (by kernel_rfl) answered_ok_o3_1x_c)))
def answered_ok_o3_8x : OV := (.take 12 (.one 10 (.one 11 (.take 13 .done))))
theorem answered_ok_o3_8x_c : ovB (opsOf 3 Tryd.f112.body) answered_ok_o3_8x 4 true #[true, true, true, true, true, true, true, true, true, true, false, false, false, false] = true := (ovB_take (by kernel_rfl) (ovB_one (by kernel_rfl) (ovB_one (by kernel_rfl) (ovB_take (by kernel_rfl) (ovB_done (by kernel_rfl))))))
def answered_ok_o3_9x : OV := (.alt 5 answered_ok_o3_8x (.one 10 answered_ok_o3_4x))
theorem answered_ok_o3_9x_c : ovB (opsOf 3 Tryd.f112.body) answered_ok_o3_9x 5 true #[true, true, true, true, true, false, true, true, true, true, false, false, false, false] = true := (ovB_alt (by kernel_rfl) (ovB_at (by kernel_rfl) answered_ok_o3_8x_c) (ovB_last (ovB_at (by kernel_rfl) answered_ok_o3_4x_c)))
def answered_ok_o3_10x : OV := (.take 2 (.take 3 (.alt 4 answered_ok_o3_9x (.one 10 answered_ok_o3_7x))))
theorem answered_ok_o3_10x_c : ovB (opsOf 3 Tryd.f112.body) answered_ok_o3_10x 8 true #[true, true, false, false, false, false, true, true, true, true, false, false, false, false] = true := (ovB_take (by kernel_rfl) (ovB_take (by kernel_rfl) (ovB_alt (by kernel_rfl) (ovB_at (by kernel_rfl) answered_ok_o3_9x_c) (ovB_last (ovB_at (by kernel_rfl) answered_ok_o3_7x_c)))))
def answered_ok_o3_11x : OV := (.take 8 (.take 9 (.alt 1 answered_ok_o3_10x (.one 10 answered_ok_o3_6x))))
theorem answered_ok_o3_11x_c : ovB (opsOf 3 Tryd.f112.body) answered_ok_o3_11x 11 true #[true, false, false, false, false, false, true, true, false, false, false, false, false, false] = true := (ovB_take (by kernel_rfl) (ovB_take (by kernel_rfl) (ovB_alt (by kernel_rfl) (ovB_at (by kernel_rfl) answered_ok_o3_10x_c) (ovB_last (ovB_at (by kernel_rfl) answered_ok_o3_6x_c)))))
def answered_ok_o3_12x : OV := (.take 8 (.take 9 (.alt 4 answered_ok_o3_9x (.one 10 answered_ok_o3_7x))))
theorem answered_ok_o3_12x_c : ovB (opsOf 3 Tryd.f112.body) answered_ok_o3_12x 8 true #[true, true, true, true, false, false, true, true, false, false, false, false, false, false] = true := (ovB_take (by kernel_rfl) (ovB_take (by kernel_rfl) (ovB_alt (by kernel_rfl) (ovB_at (by kernel_rfl) answered_ok_o3_9x_c) (ovB_last (ovB_at (by kernel_rfl) answered_ok_o3_7x_c)))))
def answered_ok_o3_13x : OV := (.take 8 (.take 9 (.alt 5 answered_ok_o3_8x (.one 10 answered_ok_o3_4x))))
theorem answered_ok_o3_13x_c : ovB (opsOf 3 Tryd.f112.body) answered_ok_o3_13x 7 true #[true, true, true, true, true, false, true, true, false, false, false, false, false, false] = true := (ovB_take (by kernel_rfl) (ovB_take (by kernel_rfl) (ovB_alt (by kernel_rfl) (ovB_at (by kernel_rfl) answered_ok_o3_8x_c) (ovB_last (ovB_at (by kernel_rfl) answered_ok_o3_4x_c)))))
def answered_ok_o3_14x : OV := (.take 12 (.one 7 (.take 8 (.take 9 (.one 10 (.one 11 (.take 13 .done)))))))
theorem answered_ok_o3_14x_c : ovB (opsOf 3 Tryd.f112.body) answered_ok_o3_14x 7 true #[true, true, true, true, true, true, true, false, false, false, false, false, false, false] = true := (ovB_take (by kernel_rfl) (ovB_one (by kernel_rfl) (ovB_take (by kernel_rfl) (ovB_take (by kernel_rfl) (ovB_one (by kernel_rfl) (ovB_one (by kernel_rfl) (ovB_take (by kernel_rfl) (ovB_done (by kernel_rfl)))))))))
def answered_ok_o3_15x : OV := (.alt 5 answered_ok_o3_14x (.one 7 answered_ok_o3_13x))
theorem answered_ok_o3_15x_c : ovB (opsOf 3 Tryd.f112.body) answered_ok_o3_15x 8 true #[true, true, true, true, true, false, true, false, false, false, false, false, false, false] = true := (ovB_alt (by kernel_rfl) (ovB_at (by kernel_rfl) answered_ok_o3_14x_c) (ovB_last (ovB_at (by kernel_rfl) answered_ok_o3_13x_c)))
def answered_ok_o3_16x : OV := (.take 2 (.take 3 (.alt 4 answered_ok_o3_15x (.one 7 answered_ok_o3_12x))))
theorem answered_ok_o3_16x_c : ovB (opsOf 3 Tryd.f112.body) answered_ok_o3_16x 11 true #[true, true, false, false, false, false, true, false, false, false, false, false, false, false] = true := (ovB_take (by kernel_rfl) (ovB_take (by kernel_rfl) (ovB_alt (by kernel_rfl) (ovB_at (by kernel_rfl) answered_ok_o3_15x_c) (ovB_last (ovB_at (by kernel_rfl) answered_ok_o3_12x_c)))))
def answered_ok_o3_17x : OV := (.take 0 (.take 6 (.alt 1 answered_ok_o3_16x (.one 7 answered_ok_o3_11x))))
theorem answered_ok_o3_17x_c : ovB (opsOf 3 Tryd.f112.body) answered_ok_o3_17x 14 true #[false, false, false, false, false, false, false, false, false, false, false, false, false, false] = true := (ovB_take (by kernel_rfl) (ovB_take (by kernel_rfl) (ovB_alt (by kernel_rfl) (ovB_at (by kernel_rfl) answered_ok_o3_16x_c) (ovB_last (ovB_at (by kernel_rfl) answered_ok_o3_11x_c)))))
def answered_ok_o3_18x : OV := .done
theorem answered_ok_o3_18x_c : ovB (opsOf 3 Tryd.f112.body) answered_ok_o3_18x 0 true #[true, true, true, true, true, true, true, true, true, true, true, true, true, true] = true := (ovB_done (by kernel_rfl))
set_option maxHeartbeats 400000 in
/-- (*impl.pebbleGame).answered -/
theorem answered_ok (a b : St) (k p Tp : Nat) (fv wv : Value) (W : List Bool) (rest step : Nat) (w : World) (hp : w.heap[p]? = some (.cells #[.int .i64 a.n, str a.set, str a.rel, .int .i64 b.n, str b.set, str b.rel, .int .i64 (k : Int), .int .i64 ((prN a b : Nat) : Int), fv, wv, .bool false] Tp (0, 0))) (hwv : Bools w wv W) (hVa : validB a = true) (hVb : validB b = true) (hWl : W.length ≤ 300000) (hq : ∀ q : Nat, q < prN a b → rest + step * q < W.length) :
    Calls Tryd.prog 112 [.pointer (some ⟨p, 0, none⟩), i6_ ((rest : Int)), i6_ ((step : Int))].toArray w fun en w' => en = .returned (.bool (ansB (fun s => W.getD s false) a.n.toNat b.n.toNat rest step)) ∧ Below w.heap.size w w' := by
 refine fnStart (n := 77) (e := [(0, .pointer (some ⟨p, 0, none⟩)), (1, i6_ ((rest : Int))), (2, i6_ ((step : Int)))]) Tryd.func112 rfl rfl rfl rfl Ends.both ?_
 have ha := validB_fine hVa
 have hb := validB_fine hVb
 have hm8 := ha.hi
 have hm1 := ha.lo
 have hb8 := hb.hi
 have hb1 := hb.lo
 have hpr := prN_le (a := a) (b := b) (by omega) (by omega)
 have hpp := prN_pos a b
 refine Wk.seq ?_
 refine Wk.regionQ ?_
 refine Lq.run 1 rfl ?_
 refine Lq.nil ?_
 refine Kt.sel [0, 1, 2] [_, _, _] rfl ?_
 refine Wk.seq ?_
 refine Wk.seq ?_
 refine Wk.regionQ ?_
 refine Lq.run 1 rfl ?_
 refine Lq.op (v := .pointer (some ⟨p, 0, none⟩)) rfl rfl rfl (OpQ.nilCheck rfl rfl) ?_
 refine Lq.op rfl rfl rfl (OpQ.fieldAddr rfl Tryd.runUnderlying66 rfl Tryd.sizeOf4 rfl rfl) ?_
 refine Lq.op (v := bo_ false) rfl rfl rfl (OpQ.load1 rfl Tryd.isAgg4 rfl (fun w1 hw1 => at_box hp hw1 10 rfl)) ?_
 refine Lq.nil ?_
 refine Kt.sel [0, 1, 2, 14] [_, _, _, _] rfl ?_
 refine Wk.condF rfl ?_
 refine Wk.skip ?_
 refine Kt.sel [0, 1, 2] [_, _, _] rfl ?_
 refine Wk.seq ?_
 refine Wk.regionV (S := Own w.heap.size w []) answered_ok_o3_17x Base.mixed (fun _ h => h.drawn) (ovOk_at (by kernel_rfl) (by kernel_rfl) (by kernel_rfl) (by kernel_rfl) answered_ok_o3_17x_c) ?_
 refine Lv.share (σ := Nat × Nat) answered_ok_o3_18x (fun ⟨p24, p30⟩ => True) (fun ⟨p24, p30⟩ => [(0, .pointer (some ⟨p, 0, none⟩)), (1, i6_ ((rest : Int))), (2, i6_ ((step : Int))), (7, sl_ p24 a.n.toNat a.n.toNat), (8, sl_ p30 b.n.toNat b.n.toNat)]) (fun ⟨p24, p30⟩ => Own w.heap.size w [bk_ p24 ((List.replicate a.n.toNat (bo_ false)).toArray) 4, bk_ p30 ((List.replicate b.n.toNat (bo_ false)).toArray) 4]) ?_ fun H3_ => ?_
 ·
  rintro ⟨p24, p30⟩ -
  dsimp only
  refine Lv.nil ?_
  refine Kt.sel [0, 1, 2, 7, 8] [_, _, _, _, _] rfl ?_
  refine Wk.seq ?_
  refine Wk.seq ?_
  refine Wk.regionQ ?_
  refine Lq.run 1 rfl ?_
  refine Lq.op rfl rfl rfl (OpQ.lenS rfl Tryd.runUnderlying64 rfl) ?_
  refine Lq.run 1 rfl ?_
  refine Lq.nil ?_
  refine Kt.sel [0, 1, 2, 7, 8, 32, 33] [_, _, _, _, _, _, _] rfl ?_
  refine Wk.block ?_
  refine Wk.loop (σ := Nat × List Bool × List Bool) (fun ⟨x, R, C⟩ => x ≤ a.n.toNat ∧ Marks (fun x y => W.getD (rest + step * (1 + x * b.n.toNat + y)) false) a.n.toNat b.n.toNat x 0 R C) (fun ⟨x, R, C⟩ => [(0, .pointer (some ⟨p, 0, none⟩)), (1, i6_ ((rest : Int))), (2, i6_ ((step : Int))), (7, sl_ p24 a.n.toNat a.n.toNat), (8, sl_ p30 b.n.toNat b.n.toNat), (32, i6_ ((a.n.toNat : Int))), (33, i6_ ((x : Int)))]) (fun ⟨x, R, C⟩ => Own w.heap.size w [bk_ p24 (((R.map Value.bool)).toArray) 4, bk_ p30 (((C.map Value.bool)).toArray) 4]) (fun ⟨x, R, C⟩ => a.n.toNat - x) ((0, List.replicate a.n.toNat false, List.replicate b.n.toNat false)) ⟨by omega, marks_zero _ _ _⟩ (Sub.sel [0, 1, 2, 7, 8, 32, 33] rfl) (fun _ h => by simpa using h) ?_
  rintro ⟨x, R, C⟩ ⟨hx, hMk⟩
  dsimp only
  have hRl := hMk.rl
  have hCl := hMk.cl
  refine Wk.seq ?_
  refine Wk.regionQ ?_
  refine Lq.run 1 rfl ?_
  refine Lq.nil ?_
  refine Kt.sel [0, 1, 2, 7, 8, 32, 33, 34] [_, _, _, _, _, _, _, _] rfl ?_
  refine Wk.seq ?_
  refine Wk.cond (b := decide (((x : Int)) < ((a.n.toNat : Int)))) rfl (fun h34 => ?_) (fun h34 => ?_)
  ·
   replace h34 := of_decide_eq_true h34
   have hxn : x < a.n.toNat := by omega
   refine Wk.skip ?_
   refine Kt.sel [0, 1, 2, 7, 8, 32, 33] [_, _, _, _, _, _, _] rfl ?_
   refine Wk.seq ?_
   refine Wk.block ?_
   refine Wk.seq ?_
   refine Wk.regionQ ?_
   refine Lq.run 2 rfl ?_
   refine Lq.nil ?_
   refine Kt.sel [0, 1, 2, 7, 8, 9, 32, 33] [_, _, _, _, _, _, _, _] rfl ?_
   refine Wk.seq ?_
   refine Wk.regionQ ?_
   refine Lq.run 1 rfl ?_
   refine Lq.op rfl rfl rfl (OpQ.lenS rfl Tryd.runUnderlying64 rfl) ?_
   refine Lq.run 1 rfl ?_
   refine Lq.nil ?_
   refine Kt.sel [0, 1, 2, 7, 8, 9, 32, 33, 37, 38] [_, _, _, _, _, _, _, _, _, _] rfl ?_
   refine Wk.block ?_
   refine Wk.loop (σ := Nat × List Bool × List Bool) (fun ⟨y, R, C⟩ => y ≤ b.n.toNat ∧ Marks (fun x y => W.getD (rest + step * (1 + x * b.n.toNat + y)) false) a.n.toNat b.n.toNat x y R C) (fun ⟨y, R, C⟩ => [(0, .pointer (some ⟨p, 0, none⟩)), (1, i6_ ((rest : Int))), (2, i6_ ((step : Int))), (7, sl_ p24 a.n.toNat a.n.toNat), (8, sl_ p30 b.n.toNat b.n.toNat), (9, i6_ ((x : Int))), (32, i6_ ((a.n.toNat : Int))), (33, i6_ ((x : Int))), (37, i6_ ((b.n.toNat : Int))), (38, i6_ ((y : Int)))]) (fun ⟨y, R, C⟩ => Own w.heap.size w [bk_ p24 (((R.map Value.bool)).toArray) 4, bk_ p30 (((C.map Value.bool)).toArray) 4]) (fun ⟨y, R, C⟩ => b.n.toNat - y) ((0, R, C)) ⟨by omega, hMk⟩ (Sub.sel [0, 1, 2, 7, 8, 9, 32, 33, 37, 38] rfl) (fun _ h => h) ?_
   rintro ⟨y, R, C⟩ ⟨hy, hMk⟩
   dsimp only
   have hRl := hMk.rl
   have hCl := hMk.cl
   refine Wk.seq ?_
   refine Wk.regionQ ?_
   refine Lq.run 1 rfl ?_
   refine Lq.nil ?_
   refine Kt.sel [0, 1, 2, 7, 8, 9, 32, 33, 37, 38, 39] [_, _, _, _, _, _, _, _, _, _, _] rfl ?_
   refine Wk.seq ?_
   refine Wk.cond (b := decide (((y : Int)) < ((b.n.toNat : Int)))) rfl (fun h39 => ?_) (fun h39 => ?_)
   ·
    replace h39 := of_decide_eq_true h39
    have hyn : y < b.n.toNat := by omega
    have hqq := hq (1 + x * b.n.toNat + y) (pair_lt hxn hyn)
    have hqm : (step : Int) * (((1 + x * b.n.toNat + y) : Nat) : Int) = ((step * (1 + x * b.n.toNat + y) : Nat) : Int) := by rw [Int.natCast_mul]
    have hxb := mul8 (x := (x : Int)) (y := b.n) (by omega) (by omega) (by omega) (by omega)
    have hxc : ((x * b.n.toNat : Nat) : Int) = (x : Int) * b.n := by rw [Int.natCast_mul, Int.toNat_of_nonneg (by omega)]
    refine Wk.skip ?_
    refine Kt.sel [0, 1, 2, 7, 8, 9, 32, 33, 37, 38] [_, _, _, _, _, _, _, _, _, _] rfl ?_
    refine Wk.seq ?_
    refine Wk.block ?_
    refine Wk.seq ?_
    refine Wk.regionQ ?_
    refine Lq.run 2 rfl ?_
    refine Lq.nil ?_
    refine Kt.sel [0, 1, 2, 7, 8, 9, 10, 32, 33, 37, 38] [_, _, _, _, _, _, _, _, _, _, _] rfl ?_
    refine Wk.seq ?_
    refine Wk.regionD Base.mixed (fun _ h => h.drawn) (by kernel_rfl) ?_
    refine Lq.run 1 rfl ?_
    refine Lq.op (v := .pointer (some ⟨p, 0, none⟩)) rfl rfl rfl (OpQ.nilCheck rfl rfl) ?_
    refine Lq.op rfl rfl rfl (OpQ.fieldAddr rfl Tryd.runUnderlying66 rfl Tryd.sizeOf64 rfl rfl) ?_
    refine Lq.op (v := wv) rfl rfl rfl (OpQ.load1 rfl Tryd.isAgg64 rfl (fun w1 hw1 => at_box hp hw1 9 rfl)) ?_
    refine Lq.run 4 rfl ?_
    refine Lq.op (v := .pointer (some ⟨p, 0, none⟩)) rfl rfl rfl (OpQ.nilCheck rfl rfl) ?_
    refine Lq.op rfl rfl rfl (OpQ.fieldAddr rfl Tryd.runUnderlying66 rfl Tryd.sizeOf28 rfl rfl) ?_
    refine Lq.op rfl rfl rfl (OpQ.fieldAddr rfl Tryd.runUnderlying28 rfl Tryd.sizeOf3 rfl rfl) ?_
    refine Lq.op (v := i6_ b.n) rfl rfl rfl (OpQ.load1 rfl Tryd.isAgg3 rfl (fun w1 hw1 => at_box hp hw1 3 rfl)) ?_
    refine Lq.op (v := i6_ (((x * b.n.toNat : Nat) : Int))) rfl rfl rfl (OpQ.cast (by rw [Int.natCast_mul, show ((b.n.toNat : Nat) : Int) = b.n from by omega]) (OpQ.mul rfl rfl rfl (by omega) (by omega))) ?_
    refine Lq.op rfl rfl rfl (OpQ.add rfl rfl rfl (by omega) (by omega)) ?_
    refine Lq.run 1 rfl ?_
    refine Lq.op (v := i6_ ((((1 + x * b.n.toNat + y) : Nat) : Int))) rfl rfl rfl (OpQ.cast (by congr 1) (OpQ.add rfl rfl rfl (by omega) (by omega))) ?_
    refine Lq.op (v := i6_ (((step * (1 + x * b.n.toNat + y) : Nat) : Int))) rfl rfl rfl (OpQ.cast (by rw [← hqm]) (OpQ.mul rfl rfl rfl (by omega) (by omega))) ?_
    refine Lq.op (v := i6_ (((rest + step * (1 + x * b.n.toNat + y) : Nat) : Int))) rfl rfl rfl (OpQ.cast (by congr 1) (OpQ.add rfl rfl rfl (by omega) (by omega))) ?_
    refine Lq.op (v := .pointer (some (sAt wv (((rest + step * (1 + x * b.n.toNat + y) : Nat) : Int))))) rfl rfl rfl (OpQ.atRow rfl Tryd.runUnderlying64 Tryd.sizeOf4 rfl rfl (by omega) (by rw [bools_length]; omega) (fun w1 hw1 => Row.own hwv hw1)) ?_
    refine Lq.op (v := bo_ (W.getD (rest + step * (1 + x * b.n.toNat + y)) false)) rfl rfl rfl (OpQ.cast rfl (OpQ.load1 rfl Tryd.isAgg4 rfl (fun w1 hw1 => Bools.cell (Row.own hwv hw1) (by omega) (by omega)))) ?_
    refine Lq.nil ?_
    refine Kt.sel [0, 1, 2, 7, 8, 9, 10, 32, 33, 37, 38, 60] [_, _, _, _, _, _, _, _, _, _, _, _] rfl ?_
    refine Wk.cond (b := W.getD (rest + step * (1 + x * b.n.toNat + y)) false) rfl (fun h60 => ?_) (fun h60 => ?_)
    ·
     refine Wk.seq ?_
     refine Wk.region ?_
     refine Ll.run 2 rfl ?_
     refine Ll.op (v := pf_ p24 (((x : Int)).toNat)) rfl rfl rfl (OpQ.cast (by rw [Nat.zero_add]) (OpQ.indexAddr1 (i := (x : Int)) rfl Tryd.runUnderlying64 Tryd.sizeOf4 rfl rfl (by omega) (by omega))) ?_
     refine Ll.store1 (v := bo_ true) (hs' := [bk_ p24 ((((R.map Value.bool)).set (((x : Int)).toNat) (bo_ true)).toArray) 4, _]) 0 rfl rfl rfl rfl rfl rfl Tryd.sizeOf4 rfl (by first | (simp; done) | (simp; omega) | omega) (by first | (rw [list_set]; rfl) | (simp only [Nat.zero_add]; rw [list_set]; rfl)) ?_
     refine Ll.nil ?_
     refine Kt.sel [0, 1, 2, 7, 8, 9, 10, 32, 33, 37, 38] [_, _, _, _, _, _, _, _, _, _, _] rfl ?_
     refine Wk.region ?_
     refine Ll.run 2 rfl ?_
     refine Ll.op (v := pf_ p30 (((y : Int)).toNat)) rfl rfl rfl (OpQ.cast (by rw [Nat.zero_add]) (OpQ.indexAddr1 (i := (y : Int)) rfl Tryd.runUnderlying64 Tryd.sizeOf4 rfl rfl (by omega) (by omega))) ?_
     refine Ll.store1 (v := bo_ true) (hs' := [_, bk_ p30 ((((C.map Value.bool)).set (((y : Int)).toNat) (bo_ true)).toArray) 4]) 1 rfl rfl rfl rfl rfl rfl Tryd.sizeOf4 rfl (by first | (simp; done) | (simp; omega) | omega) (by first | (rw [list_set]; rfl) | (simp only [Nat.zero_add]; rw [list_set]; rfl)) ?_
     refine Ll.nil ?_
     refine Kt.sel [0, 1, 2, 7, 8, 9, 32, 33, 37, 38] [_, _, _, _, _, _, _, _, _, _] rfl ?_
     refine Wk.regionQ ?_
     refine Lq.op rfl rfl rfl (OpQ.add rfl rfl rfl (by omega) (by omega)) ?_
     refine Lq.run 1 rfl ?_
     refine Lq.nil ?_
     refine Kt.again ((y + 1, R.set x true, C.set y true)) ⟨by omega, marks_yes hMk (by omega) (by omega) (by simpa using h60)⟩ (by omega) (Sub.sel [0, 1, 2, 7, 8, 9, 32, 33, 37, 38] rfl) (fun _ h => by rw [List.map_set, List.map_set]; exact h)
    ·
     refine Wk.skip ?_
     refine Kt.sel [0, 1, 2, 7, 8, 9, 32, 33, 37, 38] [_, _, _, _, _, _, _, _, _, _] rfl ?_
     refine Wk.regionQ ?_
     refine Lq.op rfl rfl rfl (OpQ.add rfl rfl rfl (by omega) (by omega)) ?_
     refine Lq.run 1 rfl ?_
     refine Lq.nil ?_
     refine Kt.again ((y + 1, R, C)) ⟨by omega, marks_no hMk (by simpa using h60)⟩ (by omega) (Sub.sel [0, 1, 2, 7, 8, 9, 32, 33, 37, 38] rfl) (fun _ h => h)
   ·
    replace h39 := of_decide_eq_false h39
    have hye : y = b.n.toNat := by omega
    refine Wk.exit rfl ?_
    refine Kt.sel [0, 1, 2, 7, 8, 32, 33] [_, _, _, _, _, _, _] rfl ?_
    refine Wk.regionQ ?_
    refine Lq.op rfl rfl rfl (OpQ.add rfl rfl rfl (by omega) (by omega)) ?_
    refine Lq.run 1 rfl ?_
    refine Lq.nil ?_
    refine Kt.again ((x + 1, R, C)) ⟨by omega, marks_next (hye ▸ hMk)⟩ (by omega) (Sub.sel [0, 1, 2, 7, 8, 32, 33] rfl) (fun _ h => h)
  ·
   replace h34 := of_decide_eq_false h34
   obtain rfl : x = a.n.toNat := by omega
   refine Wk.exit rfl ?_
   refine Kt.sel [7, 8] [_, _] rfl ?_
   refine Wk.seq ?_
   refine Wk.regionQ ?_
   refine Lq.run 1 rfl ?_
   refine Lq.op (v := bo_ (decide (false ∈ R))) rfl rfl rfl (OpQ.call rfl Tryd.call146 rfl Own.stable (fun w1 hw1 => containsB_ok (sl_ p24 a.n.toNat a.n.toNat) R false w1 (Own.row hw1 (i := 0) rfl (by rw [← hRl]; exact bools_all R) (by simpa using hRl) (by omega)) (by omega))) ?_
   refine Lq.run 2 rfl ?_
   refine Lq.bool fun b72 hg72 => ?_
   cases b72
   ·
    replace hg72 := not_false hg72
    refine Lq.pass rfl rfl rfl ?_
    refine Lq.pass rfl rfl rfl ?_
    refine Lq.pass rfl rfl rfl ?_
    refine Lq.run 2 rfl ?_
    refine Lq.nil ?_
    refine Kt.sel [6] [_] rfl ?_
    refine Wk.ret (Kt.end1 rfl rfl fun w' hw => ?_)
    -- ret 0: bo_ false
    exact ⟨ret_b (by rw [← marks_end hMk]; simp [*]), hw.below⟩
   ·
    replace hg72 := not_true hg72
    refine Lq.run 1 rfl ?_
    refine Lq.op (v := bo_ (decide (false ∈ C))) rfl rfl rfl (OpQ.call rfl Tryd.call146 rfl Own.stable (fun w1 hw1 => containsB_ok (sl_ p30 b.n.toNat b.n.toNat) C false w1 (Own.row hw1 (i := 1) rfl (by rw [← hCl]; exact bools_all C) (by simpa using hCl) (by omega)) (by omega))) ?_
    refine Lq.run 3 rfl ?_
    refine Lq.nil ?_
    refine Kt.sel [6] [_] rfl ?_
    refine Wk.ret (Kt.end1 rfl rfl fun w' hw => ?_)
    -- ret 1: bo_ (!(decide (false ∈ C)))
    exact ⟨ret_b (by rw [← marks_end hMk]; simp [*]), hw.below⟩
 refine Lv.share (σ := Nat) answered_ok_o3_8x (fun p24 => True) (fun p24 => [(0, .pointer (some ⟨p, 0, none⟩)), (1, i6_ ((rest : Int))), (2, i6_ ((step : Int))), (24, sl_ p24 a.n.toNat a.n.toNat), (28, .pointer (some (⟨p, 3, none⟩)))]) (fun p24 => Own w.heap.size w [bk_ p24 ((List.replicate a.n.toNat (bo_ false)).toArray) 4]) ?_ fun H3__1 => ?_
 ·
  rintro p24 -
  refine Lv.run 1 rfl (fun _ h => h.tail) ?_
  refine Lv.loud rfl ?_
  refine Ll.op (v := i6_ ((b.n.toNat : Int))) rfl rfl rfl (OpQ.cast (by rw [show ((b.n.toNat : Nat) : Int) = b.n from by omega] <;> rfl) (OpQ.load1 rfl Tryd.isAgg3 rfl (fun w1 hw1 => at_box hp hw1 3 rfl))) ?_
  refine Ll.nil (Lv.joint (fun _ h => h.tail) ?_)
  refine Lv.loud rfl ?_
  refine Ll.make (k := b.n.toNat) Base.elem64 Tryd.zeroValue4 rfl rfl rfl rfl rfl (by omega) fun p30 hp30 => ?_
  rw [show madeCells (Value.cells (bo_ false)) (b.n.toNat * 1) = (List.replicate b.n.toNat (bo_ false)).toArray from made_list _ _ rfl]
  refine Ll.nil (Lv.joint (fun _ h => h.tail.tail) ?_)
  refine Lv.run 1 rfl (fun _ h => h.tail.tail) ?_
  exact Lv.to (H3_ ⟨p24, p30⟩ trivial) (Sub.sel [0, 1, 2, 7, 8] rfl) (fun _ h => Own.pickT (hs := [_, _]) (hs' := [_, _]) h [1, 0] rfl (by decide))
 refine Lv.share (σ := Unit) answered_ok_o3_4x (fun _u => True) (fun _u => [(0, .pointer (some ⟨p, 0, none⟩)), (1, i6_ ((rest : Int))), (2, i6_ ((step : Int))), (23, i6_ ((a.n.toNat : Int))), (29, i6_ ((b.n.toNat : Int)))]) (fun _u => Own w.heap.size w []) ?_ fun H3__2 => ?_
 ·
  rintro _u -
  refine Lv.alt rfl ?_ (Lv.loud rfl ?_)
  ·
   refine Ll.make (k := a.n.toNat) Base.elem64 Tryd.zeroValue4 rfl rfl rfl rfl rfl (by omega) fun p24 hp24 => ?_
   rw [show madeCells (Value.cells (bo_ false)) (a.n.toNat * 1) = (List.replicate a.n.toNat (bo_ false)).toArray from made_list _ _ rfl]
   refine Ll.nil (Lv.joint (fun _ h => h.tail) ?_)
   refine Lv.run 1 rfl (fun _ h => h.tail) ?_
   refine Lv.loud rfl ?_
   refine Ll.make (k := b.n.toNat) Base.elem64 Tryd.zeroValue4 rfl rfl rfl rfl rfl (by omega) fun p30_1 hp30_1 => ?_
   rw [show madeCells (Value.cells (bo_ false)) (b.n.toNat * 1) = (List.replicate b.n.toNat (bo_ false)).toArray from made_list _ _ rfl]
   refine Ll.nil (Lv.joint (fun _ h => h.tail.tail) ?_)
   refine Lv.run 1 rfl (fun _ h => h.tail.tail) ?_
   exact Lv.to (H3_ ⟨p24, p30_1⟩ trivial) (Sub.sel [0, 1, 2, 7, 8] rfl) (fun _ h => Own.pickT (hs := [_, _]) (hs' := [_, _]) h [1, 0] rfl (by decide))
  ·
   refine Ll.make (k := b.n.toNat) Base.elem64 Tryd.zeroValue4 rfl rfl rfl rfl rfl (by omega) fun p30_2 hp30_2 => ?_
   rw [show madeCells (Value.cells (bo_ false)) (b.n.toNat * 1) = (List.replicate b.n.toNat (bo_ false)).toArray from made_list _ _ rfl]
   refine Ll.nil (Lv.joint (fun _ h => h.tail) ?_)
   refine Lv.loud rfl ?_
   refine Ll.make (k := a.n.toNat) Base.elem64 Tryd.zeroValue4 rfl rfl rfl rfl rfl (by omega) fun p24_1 hp24_1 => ?_
   rw [show madeCells (Value.cells (bo_ false)) (a.n.toNat * 1) = (List.replicate a.n.toNat (bo_ false)).toArray from made_list _ _ rfl]
   refine Ll.nil (Lv.joint (fun _ h => h.tail.tail) ?_)
   refine Lv.run 2 rfl (fun _ h => h.tail.tail) ?_
   exact Lv.to (H3_ ⟨p24_1, p30_2⟩ trivial) (Sub.sel [0, 1, 2, 7, 8] rfl) (fun _ h => h)
 refine Lv.share (σ := Nat) answered_ok_o3_1x (fun p30 => True) (fun p30 => [(0, .pointer (some ⟨p, 0, none⟩)), (1, i6_ ((rest : Int))), (2, i6_ ((step : Int))), (22, .pointer (some (⟨p, 0, none⟩))), (30, sl_ p30 b.n.toNat b.n.toNat)]) (fun p30 => Own w.heap.size w [bk_ p30 ((List.replicate b.n.toNat (bo_ false)).toArray) 4]) ?_ fun H3__3 => ?_
 ·
  rintro p30 -
  refine Lv.loud rfl ?_
  refine Ll.op (v := i6_ ((a.n.toNat : Int))) rfl rfl rfl (OpQ.cast (by rw [show ((a.n.toNat : Nat) : Int) = a.n from by omega] <;> rfl) (OpQ.load1 rfl Tryd.isAgg3 rfl (fun w1 hw1 => at_box hp hw1 0 rfl))) ?_
  refine Ll.nil (Lv.joint (fun _ h => h.tail) ?_)
  refine Lv.loud rfl ?_
  refine Ll.make (k := a.n.toNat) Base.elem64 Tryd.zeroValue4 rfl rfl rfl rfl rfl (by omega) fun p24_2 hp24_2 => ?_
  rw [show madeCells (Value.cells (bo_ false)) (a.n.toNat * 1) = (List.replicate a.n.toNat (bo_ false)).toArray from made_list _ _ rfl]
  refine Ll.nil (Lv.joint (fun _ h => h.tail.tail) ?_)
  refine Lv.run 2 rfl (fun _ h => h.tail.tail) ?_
  exact Lv.to (H3_ ⟨p24_2, p30⟩ trivial) (Sub.sel [0, 1, 2, 7, 8] rfl) (fun _ h => h)
 refine Lv.share (σ := Unit) answered_ok_o3_9x (fun _u => True) (fun _u => [(0, .pointer (some ⟨p, 0, none⟩)), (1, i6_ ((rest : Int))), (2, i6_ ((step : Int))), (23, i6_ ((a.n.toNat : Int))), (28, .pointer (some (⟨p, 3, none⟩)))]) (fun _u => Own w.heap.size w []) ?_ fun H3__4 => ?_
 ·
  rintro _u -
  refine Lv.alt rfl ?_ (Lv.loud rfl ?_)
  ·
   refine Ll.make (k := a.n.toNat) Base.elem64 Tryd.zeroValue4 rfl rfl rfl rfl rfl (by omega) fun p24_3 hp24_3 => ?_
   rw [show madeCells (Value.cells (bo_ false)) (a.n.toNat * 1) = (List.replicate a.n.toNat (bo_ false)).toArray from made_list _ _ rfl]
   refine Ll.nil (Lv.joint (fun _ h => h.tail) ?_)
   exact Lv.to (H3__1 p24_3 trivial) (Sub.sel [0, 1, 2, 24, 28] rfl) (fun _ h => h)
  ·
   refine Ll.op (v := i6_ ((b.n.toNat : Int))) rfl rfl rfl (OpQ.cast (by rw [show ((b.n.toNat : Nat) : Int) = b.n from by omega] <;> rfl) (OpQ.load1 rfl Tryd.isAgg3 rfl (fun w1 hw1 => at_box hp hw1 3 rfl))) ?_
   refine Ll.nil (Lv.joint (fun _ h => h) ?_)
   exact Lv.to (H3__2 () trivial) (Sub.sel [0, 1, 2, 23, 29] rfl) (fun _ h => h)
 refine Lv.share (σ := Unit) answered_ok_o3_7x (fun _u => True) (fun _u => [(0, .pointer (some ⟨p, 0, none⟩)), (1, i6_ ((rest : Int))), (2, i6_ ((step : Int))), (22, .pointer (some (⟨p, 0, none⟩))), (29, i6_ ((b.n.toNat : Int)))]) (fun _u => Own w.heap.size w []) ?_ fun H3__5 => ?_
 ·
  rintro _u -
  refine Lv.alt rfl ?_ (Lv.loud rfl ?_)
  ·
   refine Ll.op (v := i6_ ((a.n.toNat : Int))) rfl rfl rfl (OpQ.cast (by rw [show ((a.n.toNat : Nat) : Int) = a.n from by omega] <;> rfl) (OpQ.load1 rfl Tryd.isAgg3 rfl (fun w1 hw1 => at_box hp hw1 0 rfl))) ?_
   refine Ll.nil (Lv.joint (fun _ h => h) ?_)
   exact Lv.to (H3__2 () trivial) (Sub.sel [0, 1, 2, 23, 29] rfl) (fun _ h => h)
  ·
   refine Ll.make (k := b.n.toNat) Base.elem64 Tryd.zeroValue4 rfl rfl rfl rfl rfl (by omega) fun p30_3 hp30_3 => ?_
   rw [show madeCells (Value.cells (bo_ false)) (b.n.toNat * 1) = (List.replicate b.n.toNat (bo_ false)).toArray from made_list _ _ rfl]
   refine Ll.nil (Lv.joint (fun _ h => h.tail) ?_)
   exact Lv.to (H3__3 p30_3 trivial) (Sub.sel [0, 1, 2, 22, 30] rfl) (fun _ h => h)
 refine Lv.run 2 rfl (fun _ h => h) ?_
 refine Lv.alt rfl ?_ (Lv.loud rfl ?_)
 ·
  refine Ll.op (v := .pointer (some ⟨p, 0, none⟩)) rfl rfl rfl (OpQ.nilCheck rfl rfl) ?_
  refine Ll.nil (Lv.joint (fun _ h => h) ?_)
  refine Lv.take rfl rfl rfl rfl rfl (OpQ.fieldAddr rfl Tryd.runUnderlying66 rfl Tryd.sizeOf28 rfl rfl) (fun _ h => h) ?_
  refine Lv.take rfl rfl rfl rfl rfl (OpQ.fieldAddr rfl Tryd.runUnderlying28 rfl Tryd.sizeOf3 rfl rfl) (fun _ h => h) ?_
  refine Lv.alt rfl ?_ (Lv.loud rfl ?_)
  ·
   refine Ll.op (v := i6_ ((a.n.toNat : Int))) rfl rfl rfl (OpQ.cast (by rw [show ((a.n.toNat : Nat) : Int) = a.n from by omega] <;> rfl) (OpQ.load1 rfl Tryd.isAgg3 rfl (fun w1 hw1 => at_box hp hw1 0 rfl))) ?_
   refine Ll.nil (Lv.joint (fun _ h => h) ?_)
   refine Lv.alt rfl ?_ (Lv.loud rfl ?_)
   ·
    refine Ll.make (k := a.n.toNat) Base.elem64 Tryd.zeroValue4 rfl rfl rfl rfl rfl (by omega) fun p24_4 hp24_4 => ?_
    rw [show madeCells (Value.cells (bo_ false)) (a.n.toNat * 1) = (List.replicate a.n.toNat (bo_ false)).toArray from made_list _ _ rfl]
    refine Ll.nil (Lv.joint (fun _ h => h.tail) ?_)
    refine Lv.run 1 rfl (fun _ h => h.tail) ?_
    refine Lv.loud rfl ?_
    refine Ll.op (v := .pointer (some ⟨p, 0, none⟩)) rfl rfl rfl (OpQ.nilCheck rfl rfl) ?_
    refine Ll.nil (Lv.joint (fun _ h => h.tail) ?_)
    refine Lv.take rfl rfl rfl rfl rfl (OpQ.fieldAddr rfl Tryd.runUnderlying66 rfl Tryd.sizeOf28 rfl rfl) (fun _ h => h.tail) ?_
    refine Lv.take rfl rfl rfl rfl rfl (OpQ.fieldAddr rfl Tryd.runUnderlying28 rfl Tryd.sizeOf3 rfl rfl) (fun _ h => h.tail) ?_
    refine Lv.loud rfl ?_
    refine Ll.op (v := i6_ ((b.n.toNat : Int))) rfl rfl rfl (OpQ.cast (by rw [show ((b.n.toNat : Nat) : Int) = b.n from by omega] <;> rfl) (OpQ.load1 rfl Tryd.isAgg3 rfl (fun w1 hw1 => at_box hp hw1 3 rfl))) ?_
    refine Ll.nil (Lv.joint (fun _ h => h.tail) ?_)
    refine Lv.loud rfl ?_
    refine Ll.make (k := b.n.toNat) Base.elem64 Tryd.zeroValue4 rfl rfl rfl rfl rfl (by omega) fun p30_4 hp30_4 => ?_
    rw [show madeCells (Value.cells (bo_ false)) (b.n.toNat * 1) = (List.replicate b.n.toNat (bo_ false)).toArray from made_list _ _ rfl]
    refine Ll.nil (Lv.joint (fun _ h => h.tail.tail) ?_)
    refine Lv.run 1 rfl (fun _ h => h.tail.tail) ?_
    exact Lv.to (H3_ ⟨p24_4, p30_4⟩ trivial) (Sub.sel [0, 1, 2, 7, 8] rfl) (fun _ h => Own.pickT (hs := [_, _]) (hs' := [_, _]) h [1, 0] rfl (by decide))
   ·
    refine Ll.op (v := .pointer (some ⟨p, 0, none⟩)) rfl rfl rfl (OpQ.nilCheck rfl rfl) ?_
    refine Ll.nil (Lv.joint (fun _ h => h) ?_)
    refine Lv.take rfl rfl rfl rfl rfl (OpQ.fieldAddr rfl Tryd.runUnderlying66 rfl Tryd.sizeOf28 rfl rfl) (fun _ h => h) ?_
    refine Lv.take rfl rfl rfl rfl rfl (OpQ.fieldAddr rfl Tryd.runUnderlying28 rfl Tryd.sizeOf3 rfl rfl) (fun _ h => h) ?_
    refine Lv.alt rfl ?_ (Lv.loud rfl ?_)
    ·
     refine Ll.make (k := a.n.toNat) Base.elem64 Tryd.zeroValue4 rfl rfl rfl rfl rfl (by omega) fun p24_5 hp24_5 => ?_
     rw [show madeCells (Value.cells (bo_ false)) (a.n.toNat * 1) = (List.replicate a.n.toNat (bo_ false)).toArray from made_list _ _ rfl]
     refine Ll.nil (Lv.joint (fun _ h => h.tail) ?_)
     exact Lv.to (H3__1 p24_5 trivial) (Sub.sel [0, 1, 2, 24, 28] rfl) (fun _ h => h)
    ·
     refine Ll.op (v := i6_ ((b.n.toNat : Int))) rfl rfl rfl (OpQ.cast (by rw [show ((b.n.toNat : Nat) : Int) = b.n from by omega] <;> rfl) (OpQ.load1 rfl Tryd.isAgg3 rfl (fun w1 hw1 => at_box hp hw1 3 rfl))) ?_
     refine Ll.nil (Lv.joint (fun _ h => h) ?_)
     exact Lv.to (H3__2 () trivial) (Sub.sel [0, 1, 2, 23, 29] rfl) (fun _ h => h)
  ·
   refine Ll.op (v := .pointer (some ⟨p, 0, none⟩)) rfl rfl rfl (OpQ.nilCheck rfl rfl) ?_
   refine Ll.nil (Lv.joint (fun _ h => h) ?_)
   refine Lv.take rfl rfl rfl rfl rfl (OpQ.fieldAddr rfl Tryd.runUnderlying66 rfl Tryd.sizeOf28 rfl rfl) (fun _ h => h) ?_
   refine Lv.take rfl rfl rfl rfl rfl (OpQ.fieldAddr rfl Tryd.runUnderlying28 rfl Tryd.sizeOf3 rfl rfl) (fun _ h => h) ?_
   refine Lv.alt rfl ?_ (Lv.loud rfl ?_)
   ·
    refine Ll.op (v := i6_ ((a.n.toNat : Int))) rfl rfl rfl (OpQ.cast (by rw [show ((a.n.toNat : Nat) : Int) = a.n from by omega] <;> rfl) (OpQ.load1 rfl Tryd.isAgg3 rfl (fun w1 hw1 => at_box hp hw1 0 rfl))) ?_
    refine Ll.nil (Lv.joint (fun _ h => h) ?_)
    exact Lv.to (H3__4 () trivial) (Sub.sel [0, 1, 2, 23, 28] rfl) (fun _ h => h)
   ·
    refine Ll.op (v := i6_ ((b.n.toNat : Int))) rfl rfl rfl (OpQ.cast (by rw [show ((b.n.toNat : Nat) : Int) = b.n from by omega] <;> rfl) (OpQ.load1 rfl Tryd.isAgg3 rfl (fun w1 hw1 => at_box hp hw1 3 rfl))) ?_
    refine Ll.nil (Lv.joint (fun _ h => h) ?_)
    exact Lv.to (H3__5 () trivial) (Sub.sel [0, 1, 2, 22, 29] rfl) (fun _ h => h)
 ·
  refine Ll.op (v := .pointer (some ⟨p, 0, none⟩)) rfl rfl rfl (OpQ.nilCheck rfl rfl) ?_
  refine Ll.nil (Lv.joint (fun _ h => h) ?_)
  refine Lv.take rfl rfl rfl rfl rfl (OpQ.fieldAddr rfl Tryd.runUnderlying66 rfl Tryd.sizeOf28 rfl rfl) (fun _ h => h) ?_
  refine Lv.take rfl rfl rfl rfl rfl (OpQ.fieldAddr rfl Tryd.runUnderlying28 rfl Tryd.sizeOf3 rfl rfl) (fun _ h => h) ?_
  refine Lv.alt rfl ?_ (Lv.loud rfl ?_)
  ·
   refine Ll.op (v := .pointer (some ⟨p, 0, none⟩)) rfl rfl rfl (OpQ.nilCheck rfl rfl) ?_
   refine Ll.nil (Lv.joint (fun _ h => h) ?_)
   refine Lv.take rfl rfl rfl rfl rfl (OpQ.fieldAddr rfl Tryd.runUnderlying66 rfl Tryd.sizeOf28 rfl rfl) (fun _ h => h) ?_
   refine Lv.take rfl rfl rfl rfl rfl (OpQ.fieldAddr rfl Tryd.runUnderlying28 rfl Tryd.sizeOf3 rfl rfl) (fun _ h => h) ?_
   refine Lv.alt rfl ?_ (Lv.loud rfl ?_)
   ·
    refine Ll.op (v := i6_ ((a.n.toNat : Int))) rfl rfl rfl (OpQ.cast (by rw [show ((a.n.toNat : Nat) : Int) = a.n from by omega] <;> rfl) (OpQ.load1 rfl Tryd.isAgg3 rfl (fun w1 hw1 => at_box hp hw1 0 rfl))) ?_
    refine Ll.nil (Lv.joint (fun _ h => h) ?_)
    exact Lv.to (H3__4 () trivial) (Sub.sel [0, 1, 2, 23, 28] rfl) (fun _ h => h)
   ·
    refine Ll.op (v := i6_ ((b.n.toNat : Int))) rfl rfl rfl (OpQ.cast (by rw [show ((b.n.toNat : Nat) : Int) = b.n from by omega] <;> rfl) (OpQ.load1 rfl Tryd.isAgg3 rfl (fun w1 hw1 => at_box hp hw1 3 rfl))) ?_
    refine Ll.nil (Lv.joint (fun _ h => h) ?_)
    exact Lv.to (H3__5 () trivial) (Sub.sel [0, 1, 2, 22, 29] rfl) (fun _ h => h)
  ·
   refine Ll.op (v := i6_ ((b.n.toNat : Int))) rfl rfl rfl (OpQ.cast (by rw [show ((b.n.toNat : Nat) : Int) = b.n from by omega] <;> rfl) (OpQ.load1 rfl Tryd.isAgg3 rfl (fun w1 hw1 => at_box hp hw1 3 rfl))) ?_
   refine Ll.nil (Lv.joint (fun _ h => h) ?_)
   refine Lv.alt rfl ?_ (Lv.loud rfl ?_)
   ·
    refine Ll.op (v := .pointer (some ⟨p, 0, none⟩)) rfl rfl rfl (OpQ.nilCheck rfl rfl) ?_
    refine Ll.nil (Lv.joint (fun _ h => h) ?_)
    refine Lv.take rfl rfl rfl rfl rfl (OpQ.fieldAddr rfl Tryd.runUnderlying66 rfl Tryd.sizeOf28 rfl rfl) (fun _ h => h) ?_
    refine Lv.take rfl rfl rfl rfl rfl (OpQ.fieldAddr rfl Tryd.runUnderlying28 rfl Tryd.sizeOf3 rfl rfl) (fun _ h => h) ?_
    refine Lv.alt rfl ?_ (Lv.loud rfl ?_)
    ·
     refine Ll.op (v := i6_ ((a.n.toNat : Int))) rfl rfl rfl (OpQ.cast (by rw [show ((a.n.toNat : Nat) : Int) = a.n from by omega] <;> rfl) (OpQ.load1 rfl Tryd.isAgg3 rfl (fun w1 hw1 => at_box hp hw1 0 rfl))) ?_
     refine Ll.nil (Lv.joint (fun _ h => h) ?_)
     exact Lv.to (H3__2 () trivial) (Sub.sel [0, 1, 2, 23, 29] rfl) (fun _ h => h)
    ·
     refine Ll.make (k := b.n.toNat) Base.elem64 Tryd.zeroValue4 rfl rfl rfl rfl rfl (by omega) fun p30_5 hp30_5 => ?_
     rw [show madeCells (Value.cells (bo_ false)) (b.n.toNat * 1) = (List.replicate b.n.toNat (bo_ false)).toArray from made_list _ _ rfl]
     refine Ll.nil (Lv.joint (fun _ h => h.tail) ?_)
     exact Lv.to (H3__3 p30_5 trivial) (Sub.sel [0, 1, 2, 22, 30] rfl) (fun _ h => h)
   ·
    refine Ll.make (k := b.n.toNat) Base.elem64 Tryd.zeroValue4 rfl rfl rfl rfl rfl (by omega) fun p30_6 hp30_6 => ?_
    rw [show madeCells (Value.cells (bo_ false)) (b.n.toNat * 1) = (List.replicate b.n.toNat (bo_ false)).toArray from made_list _ _ rfl]
    refine Ll.nil (Lv.joint (fun _ h => h.tail) ?_)
    refine Lv.loud rfl ?_
    refine Ll.op (v := .pointer (some ⟨p, 0, none⟩)) rfl rfl rfl (OpQ.nilCheck rfl rfl) ?_
    refine Ll.nil (Lv.joint (fun _ h => h.tail) ?_)
    refine Lv.take rfl rfl rfl rfl rfl (OpQ.fieldAddr rfl Tryd.runUnderlying66 rfl Tryd.sizeOf28 rfl rfl) (fun _ h => h.tail) ?_
    refine Lv.take rfl rfl rfl rfl rfl (OpQ.fieldAddr rfl Tryd.runUnderlying28 rfl Tryd.sizeOf3 rfl rfl) (fun _ h => h.tail) ?_
    refine Lv.loud rfl ?_
    refine Ll.op (v := i6_ ((a.n.toNat : Int))) rfl rfl rfl (OpQ.cast (by rw [show ((a.n.toNat : Nat) : Int) = a.n from by omega] <;> rfl) (OpQ.load1 rfl Tryd.isAgg3 rfl (fun w1 hw1 => at_box hp hw1 0 rfl))) ?_
    refine Ll.nil (Lv.joint (fun _ h => h.tail) ?_)
    refine Lv.loud rfl ?_
    refine Ll.make (k := a.n.toNat) Base.elem64 Tryd.zeroValue4 rfl rfl rfl rfl rfl (by omega) fun p24_6 hp24_6 => ?_
    rw [show madeCells (Value.cells (bo_ false)) (a.n.toNat * 1) = (List.replicate a.n.toNat (bo_ false)).toArray from made_list _ _ rfl]
    refine Ll.nil (Lv.joint (fun _ h => h.tail.tail) ?_)
    refine Lv.run 2 rfl (fun _ h => h.tail.tail) ?_
    exact Lv.to (H3_ ⟨p24_6, p30_6⟩ trivial) (Sub.sel [0, 1, 2, 7, 8] rfl) (fun _ h => h)

set_option maxHeartbeats 400000 in
/-- (*impl.pebbleGame).listsAt -/
theorem listsAt_ok (a b : St) (k p Tp : Nat) (fv wv : Value) (s : Nat) (w : World) (hp : w.heap[p]? = some (.cells #[.int .i64 a.n, str a.set, str a.rel, .int .i64 b.n, str b.set, str b.rel, .int .i64 (k : Int), .int .i64 ((prN a b : Nat) : Int), fv, wv, .bool false] Tp (0, 0))) (hVa : validB a = true) (hVb : validB b = true) (hk3 : k ≤ 3) (hs : s ≤ 300000) :
    Calls Tryd.prog 108 [.pointer (some ⟨p, 0, none⟩), i6_ ((s : Int))].toArray w fun en w' => ∃ v, en = .returned v ∧ Below w.heap.size w w' ∧ NewRows w.heap.size 3 3 w' v (placed (stX a b k s) k).length (ints (placed (stX a b k s) k)) (placed (stY a b k s) k).length (ints (placed (stY a b k s) k)) := by
 refine fnStart (n := 56) (e := [(0, .pointer (some ⟨p, 0, none⟩)), (1, i6_ ((s : Int)))]) Tryd.func108 rfl rfl rfl rfl Ends.both ?_
 have ha := validB_fine hVa
 have hb := validB_fine hVb
 have hm8 := ha.hi
 have hm1 := ha.lo
 have hb8 := hb.hi
 have hb1 := hb.lo
 have hpr := prN_le (a := a) (b := b) (by omega) (by omega)
 have hpp := prN_pos a b
 refine Wk.seq ?_
 refine Wk.regionQ ?_
 refine Lq.run 2 rfl ?_
 refine Lq.nil ?_
 refine Kt.sel [0, 1] [_, _] rfl ?_
 refine Wk.seq ?_
 refine Wk.region ?_
 refine Ll.slice (xs := []) (vs := []) Base.elem24 rfl rfl rfl rfl rfl rfl (by decide) rfl fun p9 hp9 => ?_
 refine Ll.slice (xs := []) (vs := []) Base.elem24 rfl rfl rfl rfl rfl rfl (by decide) rfl fun p10 hp10 => ?_
 refine Ll.run 2 rfl ?_
 refine Ll.nil ?_
 refine Kt.sel [0, 1, 6, 7] [_, _, _, _] rfl ?_
 refine Wk.seq ?_
 refine Wk.seq ?_
 refine Wk.regionQ ?_
 refine Lq.run 1 rfl ?_
 refine Lq.op (v := .pointer (some ⟨p, 0, none⟩)) rfl rfl rfl (OpQ.nilCheck rfl rfl) ?_
 refine Lq.op rfl rfl rfl (OpQ.fieldAddr rfl Tryd.runUnderlying66 rfl Tryd.sizeOf3 rfl rfl) ?_
 refine Lq.op (v := i6_ ((k : Int))) rfl rfl rfl (OpQ.load1 rfl Tryd.isAgg3 rfl (fun w1 hw1 => at_box hp hw1 6 rfl)) ?_
 refine Lq.run 1 rfl ?_
 refine Lq.nil ?_
 refine Kt.sel [0, 1, 6, 7, 14, 15] [_, _, _, _, _, _] rfl ?_
 refine Wk.block ?_
 refine Wk.loop (σ := Nat × Nat × Nat × Nat × Array Value × Nat × Nat × Array Value) (fun ⟨i, N, g1, c1, u1, g2, c2, u2⟩ => i ≤ k ∧ (N = s / prN a b ^ i ∧ N ≤ 300000) ∧ (u1.size = c1 * 1 ∧ (placed (stX a b k s) i).length ≤ c1 ∧ u1.toList.take (placed (stX a b k s) i).length = ints (placed (stX a b k s) i)) ∧ (u2.size = c2 * 1 ∧ (placed (stY a b k s) i).length ≤ c2 ∧ u2.toList.take (placed (stY a b k s) i).length = ints (placed (stY a b k s) i))) (fun ⟨i, N, g1, c1, u1, g2, c2, u2⟩ => [(0, .pointer (some ⟨p, 0, none⟩)), (1, i6_ ((N : Int))), (6, sl_ g1 ((placed (stX a b k s) i).length) c1), (7, sl_ g2 ((placed (stY a b k s) i).length) c2), (14, i6_ ((k : Int))), (15, i6_ ((i : Int)))]) (fun ⟨i, N, g1, c1, u1, g2, c2, u2⟩ => Own w.heap.size w [bk_ g1 u1 3, bk_ g2 u2 3]) (fun ⟨i, N, g1, c1, u1, g2, c2, u2⟩ => k - i) ((0, s, p9, 0, #[], p10, 0, #[])) ⟨by omega, ⟨by simp, hs⟩, ⟨rfl, Nat.le_refl _, rfl⟩, ⟨rfl, Nat.le_refl _, rfl⟩⟩ (Sub.cons rfl (Sub.cons rfl (Sub.cons rfl (Sub.cons rfl (Sub.sel [14, 15] rfl))))) (fun _ h => h.pick [1, 0] rfl (by decide)) ?_
 rintro ⟨i, N, g1, c1, u1, g2, c2, u2⟩ ⟨hi, ⟨hN, hN3⟩, ⟨hc1, hl1, ht1⟩, ⟨hc2, hl2, ht2⟩⟩
 dsimp only
 have hp1 := placed_le (stX a b k s) i
 have hp2 := placed_le (stY a b k s) i
 have hNd := Nat.div_le_self N (prN a b)
 refine Wk.seq ?_
 refine Wk.regionQ ?_
 refine Lq.run 1 rfl ?_
 refine Lq.nil ?_
 refine Kt.sel [0, 1, 6, 7, 14, 15, 16] [_, _, _, _, _, _, _] rfl ?_
 refine Wk.seq ?_
 refine Wk.cond (b := decide (((i : Int)) < ((k : Int)))) rfl (fun h16 => ?_) (fun h16 => ?_)
 ·
  replace h16 := of_decide_eq_true h16
  have hik : i < k := by omega
  obtain ⟨hdx0, hdx1, hdx2⟩ := dig_x (a := a) (b := b) (s := s) hik
  obtain ⟨hdy0, hdy1, hdy2⟩ := dig_y (a := a) (b := b) (s := s) (by omega) hik
  have hdl := dig_lt (s := s) (i := i) hpp
  refine Wk.skip ?_
  refine Kt.sel [0, 1, 6, 7, 14, 15] [_, _, _, _, _, _] rfl ?_
  refine Wk.seq ?_
  refine Wk.block ?_
  refine Wk.seq ?_
  refine Wk.seq ?_
  refine Wk.regionQ ?_
  refine Lq.run 2 rfl ?_
  refine Lq.op (v := .pointer (some ⟨p, 0, none⟩)) rfl rfl rfl (OpQ.nilCheck rfl rfl) ?_
  refine Lq.op rfl rfl rfl (OpQ.fieldAddr rfl Tryd.runUnderlying66 rfl Tryd.sizeOf3 rfl rfl) ?_
  refine Lq.op (v := i6_ (((prN a b : Nat) : Int))) rfl rfl rfl (OpQ.load1 rfl Tryd.isAgg3 rfl (fun w1 hw1 => at_box hp hw1 7 rfl)) ?_
  refine Lq.op (v := i6_ (((dig (prN a b) s i) : Int))) rfl rfl rfl (OpQ.cast (by rw [show (dig (prN a b) s i) = N % prN a b from by rw [hN]; rfl]; rfl) (OpQ.rem rfl rfl rfl (by omega) (by omega))) ?_
  refine Lq.run 1 rfl ?_
  refine Lq.nil ?_
  refine Kt.sel [0, 1, 6, 7, 8, 14, 15] [_, _, _, _, _, _, _] rfl ?_
  refine Wk.seq ?_
  refine Wk.regionQ ?_
  refine Lq.run 2 rfl ?_
  refine Lq.nil ?_
  refine Kt.sel [0, 1, 6, 7, 8, 14, 15, 24] [_, _, _, _, _, _, _, _] rfl ?_
  refine Wk.cond (b := decide ((0 : Int) < (((dig (prN a b) s i) : Int)))) rfl (fun h24 => ?_) (fun h24 => ?_)
  ·
   replace h24 := of_decide_eq_true h24
   have hpx := placed_pos (xs := stX a b k s) (k := i) (by omega)
   have hpy := placed_pos (xs := stY a b k s) (k := i) (by omega)
   refine Wk.seq ?_
   refine Wk.region ?_
   refine Ll.run 2 rfl ?_
   refine Ll.op rfl rfl rfl (OpQ.sub rfl rfl rfl (by omega) (by omega)) ?_
   refine Ll.run 1 rfl ?_
   refine Ll.op (v := .pointer (some ⟨p, 0, none⟩)) rfl rfl rfl (OpQ.nilCheck rfl rfl) ?_
   refine Ll.op rfl rfl rfl (OpQ.fieldAddr rfl Tryd.runUnderlying66 rfl Tryd.sizeOf28 rfl rfl) ?_
   refine Ll.op rfl rfl rfl (OpQ.fieldAddr rfl Tryd.runUnderlying28 rfl Tryd.sizeOf3 rfl rfl) ?_
   refine Ll.op (v := i6_ b.n) rfl rfl rfl (OpQ.load1 rfl Tryd.isAgg3 rfl (fun w1 hw1 => at_box hp hw1 3 rfl)) ?_
   refine Ll.op (v := i6_ ((stX a b k s).getD i 0)) rfl rfl rfl (OpQ.cast (dig_xv (a := a) (b := b) (k := k) (s := s) hik (by omega) rfl (by omega)) (OpQ.quo rfl rfl rfl (by omega) (by omega) (by omega))) ?_
   refine Ll.slice (xs := [.tmp 33]) (vs := [i6_ ((stX a b k s).getD i 0)]) Base.elem24 rfl rfl rfl rfl rfl rfl (by decide) rfl fun p34 hp34 => ?_
   refine Ll.appendInts (xs := (placed (stX a b k s) i)) (ys := [(stX a b k s).getD i 0]) Base.elem24 1 rfl rfl rfl rfl rfl rfl rfl hc1 hl1 ht1 (fun w1 hw1 => (Own.row hw1 (i := 0) rfl (n := 1) (cap := 1) (vs := ints [(stX a b k s).getD i 0]) rfl rfl (by decide))) ((((placed (stX a b k s) i)) ++ ([(stX a b k s).getD i 0])).length) (by first | (simp; done) | (simp; omega)) (by first | (simp; done) | (simp; omega) | omega) fun p35 cap35 cur35 hp35 hcp35 hlp35 htp35 => ?_
   show Ll _ _ (Own _ _ [_, _, _]) _ _ ((35, sl_ p35 (((((placed (stX a b k s) i)) ++ ([(stX a b k s).getD i 0])).length)) cap35) :: _) _ _ _
   refine Ll.run 1 rfl ?_
   refine Ll.nil ?_
   refine Kt.sel [0, 1, 6, 7, 8, 14, 15] [_, _, _, _, _, _, _] rfl ?_
   refine Wk.region ?_
   refine Ll.run 2 rfl ?_
   refine Ll.op rfl rfl rfl (OpQ.sub rfl rfl rfl (by omega) (by omega)) ?_
   refine Ll.run 1 rfl ?_
   refine Ll.op (v := .pointer (some ⟨p, 0, none⟩)) rfl rfl rfl (OpQ.nilCheck rfl rfl) ?_
   refine Ll.op rfl rfl rfl (OpQ.fieldAddr rfl Tryd.runUnderlying66 rfl Tryd.sizeOf28 rfl rfl) ?_
   refine Ll.op rfl rfl rfl (OpQ.fieldAddr rfl Tryd.runUnderlying28 rfl Tryd.sizeOf3 rfl rfl) ?_
   refine Ll.op (v := i6_ b.n) rfl rfl rfl (OpQ.load1 rfl Tryd.isAgg3 rfl (fun w1 hw1 => at_box hp hw1 3 rfl)) ?_
   refine Ll.op (v := i6_ ((stY a b k s).getD i 0)) rfl rfl rfl (OpQ.cast (dig_yv (a := a) (b := b) (k := k) (s := s) hik (by omega) rfl (by omega)) (OpQ.rem rfl rfl rfl (by omega) (by omega))) ?_
   refine Ll.slice (xs := [.tmp 44]) (vs := [i6_ ((stY a b k s).getD i 0)]) Base.elem24 rfl rfl rfl rfl rfl rfl (by decide) rfl fun p45 hp45 => ?_
   refine Ll.appendInts (xs := (placed (stY a b k s) i)) (ys := [(stY a b k s).getD i 0]) Base.elem24 3 rfl rfl rfl rfl rfl rfl rfl hc2 hl2 ht2 (fun w1 hw1 => (Own.row hw1 (i := 0) rfl (n := 1) (cap := 1) (vs := ints [(stY a b k s).getD i 0]) rfl rfl (by decide))) ((((placed (stY a b k s) i)) ++ ([(stY a b k s).getD i 0])).length) (by first | (simp; done) | (simp; omega)) (by first | (simp; done) | (simp; omega) | omega) fun p46 cap46 cur46 hp46 hcp46 hlp46 htp46 => ?_
   show Ll _ _ (Own _ _ [_, _, _, _]) _ _ ((46, sl_ p46 (((((placed (stY a b k s) i)) ++ ([(stY a b k s).getD i 0])).length)) cap46) :: _) _ _ _
   refine Ll.run 1 rfl ?_
   refine Ll.nil ?_
   refine Kt.sel [0, 1, 6, 7, 14, 15] [_, _, _, _, _, _] rfl ?_
   refine Wk.regionQ ?_
   refine Lq.run 2 rfl ?_
   refine Lq.op (v := .pointer (some ⟨p, 0, none⟩)) rfl rfl rfl (OpQ.nilCheck rfl rfl) ?_
   refine Lq.op rfl rfl rfl (OpQ.fieldAddr rfl Tryd.runUnderlying66 rfl Tryd.sizeOf3 rfl rfl) ?_
   refine Lq.op (v := i6_ (((prN a b : Nat) : Int))) rfl rfl rfl (OpQ.load1 rfl Tryd.isAgg3 rfl (fun w1 hw1 => at_box hp hw1 7 rfl)) ?_
   refine Lq.op (v := i6_ (((N / prN a b : Nat) : Int))) rfl rfl rfl (OpQ.cast (by rfl) (OpQ.quo rfl rfl rfl (by omega) (by omega) (by omega))) ?_
   refine Lq.run 1 rfl ?_
   refine Lq.nil ?_
   refine Kt.sel [0, 1, 6, 7, 14, 15] [_, _, _, _, _, _] rfl ?_
   refine Wk.regionQ ?_
   refine Lq.op rfl rfl rfl (OpQ.add rfl rfl rfl (by omega) (by omega)) ?_
   refine Lq.run 1 rfl ?_
   refine Lq.nil ?_
   refine Kt.again ((i + 1, N / prN a b, p35, cap35, cur35, p46, cap46, cur46)) ⟨by omega, ⟨by rw [hN, dig_down], by dsimp only; omega⟩, ⟨hcp35, by rw [hpx]; simpa using hlp35, by rw [hpx]; simpa using htp35⟩, ⟨hcp46, by rw [hpy]; simpa using hlp46, by rw [hpy]; simpa using htp46⟩⟩ (by omega) (Sub.cons rfl (Sub.cons rfl (Sub.cons (by rw [hpx]; simp [List.lookup]) (Sub.cons (by rw [hpy]; simp [List.lookup]) (Sub.sel [14, 15] rfl))))) (fun _ h => h.pick [2, 3] rfl (by decide))
  ·
   replace h24 := of_decide_eq_false h24
   have hpx := placed_neg (xs := stX a b k s) (k := i) (by omega)
   have hpy := placed_neg (xs := stY a b k s) (k := i) (by omega)
   refine Wk.skip ?_
   refine Kt.sel [0, 1, 6, 7, 14, 15] [_, _, _, _, _, _] rfl ?_
   refine Wk.regionQ ?_
   refine Lq.run 2 rfl ?_
   refine Lq.op (v := .pointer (some ⟨p, 0, none⟩)) rfl rfl rfl (OpQ.nilCheck rfl rfl) ?_
   refine Lq.op rfl rfl rfl (OpQ.fieldAddr rfl Tryd.runUnderlying66 rfl Tryd.sizeOf3 rfl rfl) ?_
   refine Lq.op (v := i6_ (((prN a b : Nat) : Int))) rfl rfl rfl (OpQ.load1 rfl Tryd.isAgg3 rfl (fun w1 hw1 => at_box hp hw1 7 rfl)) ?_
   refine Lq.op (v := i6_ (((N / prN a b : Nat) : Int))) rfl rfl rfl (OpQ.cast (by rfl) (OpQ.quo rfl rfl rfl (by omega) (by omega) (by omega))) ?_
   refine Lq.run 1 rfl ?_
   refine Lq.nil ?_
   refine Kt.sel [0, 1, 6, 7, 14, 15] [_, _, _, _, _, _] rfl ?_
   refine Wk.regionQ ?_
   refine Lq.op rfl rfl rfl (OpQ.add rfl rfl rfl (by omega) (by omega)) ?_
   refine Lq.run 1 rfl ?_
   refine Lq.nil ?_
   refine Kt.again ((i + 1, N / prN a b, g1, c1, u1, g2, c2, u2)) ⟨by omega, ⟨by rw [hN, dig_down], by dsimp only; omega⟩, ⟨hc1, by rw [hpx]; exact hl1, by rw [hpx]; exact ht1⟩, ⟨hc2, by rw [hpy]; exact hl2, by rw [hpy]; exact ht2⟩⟩ (by omega) (Sub.cons rfl (Sub.cons rfl (Sub.cons (by rw [hpx]; rfl) (Sub.cons (by rw [hpy]; rfl) (Sub.sel [14, 15] rfl))))) (fun _ h => h)
 ·
  replace h16 := of_decide_eq_false h16
  refine Wk.exit rfl ?_
  refine Kt.sel [6, 7] [_, _] rfl ?_
  refine Wk.seq ?_
  refine Wk.regionQ ?_
  refine Lq.run 4 rfl ?_
  refine Lq.nil ?_
  refine Kt.sel [4, 5] [_, _] rfl ?_
  refine Wk.ret (Kt.end2 rfl rfl rfl fun w' hw => ?_)
  -- ret 0: sl_ g1 ((placed (stX a b k s) i).length) c1; sl_ g2 ((placed (stY a b k s) i).length) c2
  obtain rfl : k = i := by omega
  exact ⟨_, rfl, hw.below, hw.newRows (i := 0) (j := 1) rfl rfl (by decide) hc1 hl1 (by simpa using ht1) hc2 hl2 (by simpa using ht2)⟩

set_option maxHeartbeats 400000 in
/-- (*impl.pebbleGame).turn -/
theorem turn_ok (B : Nat) (w0 : World) (hs : List (Nat × Obj)) (a b : St) (k n p gf cf : Nat) (uf : Array Value) (gw cw : Nat) (uw : Array Value) (w : World) (hVa : validB a = true) (hVb : validB b = true) (hk3 : k ≤ 3) (hlf : (WL 0 a b k).length ≤ cf) (htf : uf.toList.take (WL 0 a b k).length = bools (WL 0 a b k)) (hlw : (WL n a b k).length ≤ cw) (htw : uw.toList.take (WL n a b k).length = bools (WL n a b k)) (hw : Own B w0 (bk_ p #[i6_ a.n, str a.set, str a.rel, i6_ b.n, str b.set, str b.rel, i6_ ((k : Int)), i6_ (((prN a b : Nat) : Int)), sl_ gf ((WL 0 a b k).length) cf, sl_ gw ((WL n a b k).length) cw, bo_ false] 66 :: bk_ gf uf 4 :: bk_ gw uw 4 :: hs) w) :
    Calls Tryd.prog 61 [pt_ p].toArray w fun en w' => ∃ (g c : Nat) (u : Array Value), en = .returned (.bool (!(WL (n + 1) a b k == WL n a b k))) ∧ (u.size = c * 1 ∧ (WL (n + 1) a b k).length ≤ c ∧ u.toList.take (WL (n + 1) a b k).length = bools (WL (n + 1) a b k)) ∧ Own B w0 (bk_ p #[i6_ a.n, str a.set, str a.rel, i6_ b.n, str b.set, str b.rel, i6_ ((k : Int)), i6_ (((prN a b : Nat) : Int)), sl_ gf ((WL 0 a b k).length) cf, sl_ g ((WL (n + 1) a b k).length) c, bo_ false] 66 :: bk_ gf uf 4 :: bk_ g u 4 :: hs) w' := by
 refine fnStartC (Own B w0 (bk_ p #[i6_ a.n, str a.set, str a.rel, i6_ b.n, str b.set, str b.rel, i6_ ((k : Int)), i6_ (((prN a b : Nat) : Int)), sl_ gf ((WL 0 a b k).length) cf, sl_ gw ((WL n a b k).length) cw, bo_ false] 66 :: bk_ gf uf 4 :: bk_ gw uw 4 :: hs)) (n := 75) (e := [(0, pt_ p)]) Tryd.func61 rfl rfl rfl rfl Ends.both hw ?_
 have ha := validB_fine hVa
 have hb := validB_fine hVb
 have hm8 := ha.hi
 have hm1 := ha.lo
 have hb8 := hb.hi
 have hb1 := hb.lo
 have hpr := prN_le (a := a) (b := b) (by omega) (by omega)
 have hpp := prN_pos a b
 have hNl := pow65 hpr hk3
 have hWl : (WL 0 a b k).length = prN a b ^ k := WL_len _ _ _ _
 have hWn : (WL n a b k).length = prN a b ^ k := WL_len _ _ _ _
 have hWm : (WL (n + 1) a b k).length = prN a b ^ k := WL_len _ _ _ _
 refine Wk.seq ?_
 refine Wk.regionQ ?_
 refine Lq.run 1 rfl ?_
 refine Lq.nil ?_
 refine Kt.sel [0] [_] rfl ?_
 refine Wk.seq ?_
 refine Wk.region ?_
 refine Ll.slice (xs := []) (vs := []) Base.elem64 rfl rfl rfl rfl rfl rfl (by decide) rfl fun p8 hp8 => ?_
 refine Ll.run 1 rfl ?_
 refine Ll.op (v := pt_ p) rfl rfl rfl (OpQ.nilCheck rfl rfl) ?_
 refine Ll.op rfl rfl rfl (OpQ.fieldAddr rfl Tryd.runUnderlying66 rfl Tryd.sizeOf64 rfl rfl) ?_
 refine Ll.op rfl rfl rfl (OpQ.loadOwn 1 rfl Tryd.isAgg64 rfl rfl rfl) ?_
 refine Ll.appendBools (xs := ([] : List Bool)) (ys := (WL 0 a b k)) Base.elem64 0 rfl rfl rfl rfl rfl rfl rfl rfl (by decide) rfl (fun w1 hw1 => (Own.row hw1 (i := 2) rfl htf (by simp) hlf)) (((WL 0 a b k)).length) (by first | (simp; done) | (simp; omega)) (by first | (simp; done) | (simp; omega) | omega) fun p13 cap13 cur13 hp13 hcp13 hlp13 htp13 => ?_
 show Ll _ _ (Own _ _ (_ :: _ :: _ :: _ :: hs)) _ _ ((13, sl_ p13 ((((WL 0 a b k)).length)) cap13) :: _) _ _ _
 refine Ll.run 1 rfl ?_
 refine Ll.nil ?_
 refine Kt.sel [0, 3] [_, _] rfl ?_
 refine Wk.seq ?_
 refine Wk.regionQ ?_
 refine Lq.run 1 rfl ?_
 refine Lq.nil ?_
 refine Kt.sel [0, 3, 4] [_, _, _] rfl ?_
 refine Wk.seq ?_
 refine Wk.seq ?_
 refine Wk.regionQ ?_
 refine Lq.run 1 rfl ?_
 refine Lq.op (v := pt_ p) rfl rfl rfl (OpQ.nilCheck rfl rfl) ?_
 refine Lq.op rfl rfl rfl (OpQ.fieldAddr rfl Tryd.runUnderlying66 rfl Tryd.sizeOf3 rfl rfl) ?_
 refine Lq.op rfl rfl rfl (OpQ.loadOwn 1 rfl Tryd.isAgg3 rfl rfl rfl) ?_
 refine Lq.run 1 rfl ?_
 refine Lq.nil ?_
 refine Kt.sel [0, 3, 4, 17, 18] [_, _, _, _, _] rfl ?_
 refine Wk.block ?_
 refine Wk.loop (σ := Nat × Array Value × List Bool) (fun ⟨i, u, X⟩ => i ≤ k ∧ (u.size = cap13 * 1 ∧ u.toList.take (WL 0 a b k).length = bools X) ∧ TurnAt (fun s => (WL 0 a b k).getD s false) (fun s => (WL n a b k).getD s false) a b k i 0 X) (fun ⟨i, u, X⟩ => [(0, pt_ p), (3, sl_ p13 ((((WL 0 a b k)).length)) cap13), (4, i6_ (((prN a b ^ i : Nat) : Int))), (17, i6_ ((k : Int))), (18, i6_ ((i : Int)))]) (fun ⟨i, u, X⟩ => Own B w0 (bk_ p13 u 4 :: bk_ p #[i6_ a.n, str a.set, str a.rel, i6_ b.n, str b.set, str b.rel, i6_ ((k : Int)), i6_ (((prN a b : Nat) : Int)), sl_ gf ((WL 0 a b k).length) cf, sl_ gw ((WL n a b k).length) cw, bo_ false] 66 :: bk_ gf uf 4 :: bk_ gw uw 4 :: hs)) (fun ⟨i, u, X⟩ => k - i) ((0, cur13, (WL 0 a b k))) ⟨by omega, ⟨hcp13, by simpa using htp13⟩, turn_zero (by simp)⟩ (Sub.cons rfl (Sub.cons rfl (Sub.cons rfl (Sub.sel [17, 18] rfl)))) (fun _ h => h) ?_
 rintro ⟨i, u, X⟩ ⟨hi, ⟨hcu, htu⟩, hX⟩
 dsimp only
 refine Wk.seq ?_
 refine Wk.regionQ ?_
 refine Lq.run 1 rfl ?_
 refine Lq.nil ?_
 refine Kt.sel [0, 3, 4, 17, 18, 19] [_, _, _, _, _, _] rfl ?_
 refine Wk.seq ?_
 refine Wk.cond (b := decide (((i : Int)) < ((k : Int)))) rfl (fun h19 => ?_) (fun h19 => ?_)
 ·
  replace h19 := of_decide_eq_true h19
  have hik : i < k := by omega
  have hpi : 0 < prN a b ^ i := Nat.pow_pos hpp
  have hpi3 := pow65 hpr (show i + 1 ≤ 3 by omega)
  have hpm : ((prN a b ^ i : Nat) : Int) * ((prN a b : Nat) : Int) = ((prN a b ^ (i + 1) : Nat) : Int) := by rw [Nat.pow_succ, Int.natCast_mul]
  refine Wk.skip ?_
  refine Kt.sel [0, 3, 4, 17, 18] [_, _, _, _, _] rfl ?_
  refine Wk.seq ?_
  refine Wk.block ?_
  refine Wk.seq ?_
  refine Wk.seq ?_
  refine Wk.regionQ ?_
  refine Lq.run 1 rfl ?_
  refine Lq.op rfl rfl rfl (OpQ.lenS rfl Tryd.runUnderlying64 rfl) ?_
  refine Lq.run 1 rfl ?_
  refine Lq.nil ?_
  refine Kt.sel [0, 3, 4, 17, 18, 21, 22] [_, _, _, _, _, _, _] rfl ?_
  refine Wk.block ?_
  refine Wk.loop (σ := Nat × Array Value × List Bool) (fun ⟨S, u, X⟩ => S ≤ (prN a b ^ k) ∧ (u.size = cap13 * 1 ∧ u.toList.take (WL 0 a b k).length = bools X) ∧ TurnAt (fun s => (WL 0 a b k).getD s false) (fun s => (WL n a b k).getD s false) a b k i S X) (fun ⟨S, u, X⟩ => [(0, pt_ p), (3, sl_ p13 ((((WL 0 a b k)).length)) cap13), (4, i6_ (((prN a b ^ i : Nat) : Int))), (17, i6_ ((k : Int))), (18, i6_ ((i : Int))), (21, i6_ (((((WL 0 a b k)).length) : Int))), (22, i6_ ((S : Int)))]) (fun ⟨S, u, X⟩ => Own B w0 (bk_ p13 u 4 :: bk_ p #[i6_ a.n, str a.set, str a.rel, i6_ b.n, str b.set, str b.rel, i6_ ((k : Int)), i6_ (((prN a b : Nat) : Int)), sl_ gf ((WL 0 a b k).length) cf, sl_ gw ((WL n a b k).length) cw, bo_ false] 66 :: bk_ gf uf 4 :: bk_ gw uw 4 :: hs)) (fun ⟨S, u, X⟩ => (prN a b ^ k) - S) ((0, u, X)) ⟨by omega, ⟨hcu, htu⟩, hX⟩ (Sub.sel [0, 3, 4, 17, 18, 21, 22] rfl) (fun _ h => h) ?_
  rintro ⟨S, u, X⟩ ⟨hS, ⟨hcu, htu⟩, hX⟩
  dsimp only
  refine Wk.seq ?_
  refine Wk.regionQ ?_
  refine Lq.run 1 rfl ?_
  refine Lq.nil ?_
  refine Kt.sel [0, 3, 4, 17, 18, 21, 22, 23] [_, _, _, _, _, _, _, _] rfl ?_
  refine Wk.seq ?_
  refine Wk.cond (b := decide (((S : Int)) < (((((WL 0 a b k)).length) : Int)))) rfl (fun h23 => ?_) (fun h23 => ?_)
  ·
   replace h23 := of_decide_eq_true h23
   have hSN : S < prN a b ^ k := by omega
   have hS0 : (0 : Int) ≤ ((S / prN a b ^ i : Nat) : Int) := Int.natCast_nonneg _
   refine Wk.skip ?_
   refine Kt.sel [0, 3, 4, 17, 18, 21, 22] [_, _, _, _, _, _, _] rfl ?_
   refine Wk.seq ?_
   refine Wk.block ?_
   refine Wk.seq ?_
   refine Wk.regionQ ?_
   refine Lq.run 2 rfl ?_
   refine Lq.nil ?_
   refine Kt.sel [0, 3, 4, 5, 17, 18, 21, 22] [_, _, _, _, _, _, _, _] rfl ?_
   refine Wk.seq ?_
   refine Wk.seq ?_
   refine Wk.regionD Base.mixed (fun _ h => h.drawn) (by kernel_rfl) ?_
   refine Lq.run 2 rfl ?_
   refine Lq.op (v := i6_ (((S / prN a b ^ i : Nat) : Int))) rfl rfl rfl (OpQ.cast (by rfl) (OpQ.quo rfl rfl rfl (by omega) (by omega) (by omega))) ?_
   refine Lq.run 1 rfl ?_
   refine Lq.op (v := pt_ p) rfl rfl rfl (OpQ.nilCheck rfl rfl) ?_
   refine Lq.op rfl rfl rfl (OpQ.fieldAddr rfl Tryd.runUnderlying66 rfl Tryd.sizeOf3 rfl rfl) ?_
   refine Lq.op rfl rfl rfl (OpQ.loadOwn 1 rfl Tryd.isAgg3 rfl rfl rfl) ?_
   refine Lq.op (v := i6_ ((dig (prN a b) S i : Int))) rfl rfl rfl (OpQ.cast (by rfl) (OpQ.rem rfl rfl rfl (by omega) (by omega))) ?_
   refine Lq.run 2 rfl ?_
   refine Lq.bool fun b34 hg34 => ?_
   cases b34
   ·
    replace hg34 := not_false hg34
    replace hg34 := of_decide_eq_true hg34
    have hd0 : dig (prN a b) S i = 0 := by omega
    have hqs : ∀ q : Nat, q < prN a b → S + prN a b ^ i * q < (WL n a b k).length := fun q hq => by rw [WL_len]; exact put_lt hpp hd0 hq hik hSN
    refine Lq.run 3 rfl ?_
    refine Lq.op (v := bo_ (ansB (fun s => (WL n a b k).getD s false) a.n.toNat b.n.toNat S (prN a b ^ i))) rfl rfl rfl (OpQ.call rfl Tryd.call112 rfl Own.stable (fun w1 hw1 => answered_ok a b k p 66 (sl_ gf ((WL 0 a b k).length) cf) (sl_ gw ((WL n a b k).length) cw) (WL n a b k) S (prN a b ^ i) w1 (hw1.has 1 _ _ rfl).2 (Own.row hw1 (i := 3) rfl htw (by simp) hlw) hVa hVb (by rw [WL_len]; omega) hqs)) ?_
    refine Lq.run 1 rfl ?_
    refine Lq.nil ?_
    refine Kt.sel [0, 3, 4, 5, 17, 18, 21, 22, 39] [_, _, _, _, _, _, _, _, _] rfl ?_
    refine Wk.cond (b := ansB (fun s => (WL n a b k).getD s false) a.n.toNat b.n.toNat S (prN a b ^ i)) rfl (fun h39 => ?_) (fun h39 => ?_)
    ·
     refine Wk.exit rfl ?_
     refine Kt.sel [0, 3, 4, 17, 18, 21, 22] [_, _, _, _, _, _, _] rfl ?_
     refine Wk.regionQ ?_
     refine Lq.op rfl rfl rfl (OpQ.add rfl rfl rfl (by omega) (by omega)) ?_
     refine Lq.run 1 rfl ?_
     refine Lq.nil ?_
     refine Kt.again ((S + 1, u, X)) ⟨by omega, ⟨hcu, htu⟩, by first | exact turn_skip hX (by omega) | exact turn_yes hX (ansB_true.1 (by assumption)) | exact turn_no hX (by omega) (fun e => by have := ansB_true.2 e; simp_all) (hQe ▸ hC)⟩ (by omega) (Sub.sel [0, 3, 4, 17, 18, 21, 22] rfl) (fun _ h => h)
    ·
     refine Wk.skip ?_
     refine Kt.sel [0, 3, 4, 5, 17, 18, 21, 22] [_, _, _, _, _, _, _, _] rfl ?_
     refine Wk.seq ?_
     refine Wk.regionQ ?_
     refine Lq.run 1 rfl ?_
     refine Lq.op (v := pt_ p) rfl rfl rfl (OpQ.nilCheck rfl rfl) ?_
     refine Lq.op rfl rfl rfl (OpQ.fieldAddr rfl Tryd.runUnderlying66 rfl Tryd.sizeOf3 rfl rfl) ?_
     refine Lq.op rfl rfl rfl (OpQ.loadOwn 1 rfl Tryd.isAgg3 rfl rfl rfl) ?_
     refine Lq.run 1 rfl ?_
     refine Lq.nil ?_
     refine Kt.sel [0, 3, 4, 5, 17, 18, 21, 22, 43, 44] [_, _, _, _, _, _, _, _, _, _] rfl ?_
     refine Wk.block ?_
     refine Wk.loop (σ := Nat × Array Value × List Bool) (fun ⟨Q, u, Y⟩ => Q ≤ prN a b ∧ (u.size = cap13 * 1 ∧ u.toList.take (WL 0 a b k).length = bools Y) ∧ Cleared X Y S (prN a b ^ i) Q) (fun ⟨Q, u, Y⟩ => [(0, pt_ p), (3, sl_ p13 ((((WL 0 a b k)).length)) cap13), (4, i6_ (((prN a b ^ i : Nat) : Int))), (5, i6_ ((S : Int))), (17, i6_ ((k : Int))), (18, i6_ ((i : Int))), (21, i6_ (((((WL 0 a b k)).length) : Int))), (22, i6_ ((S : Int))), (43, i6_ (((prN a b : Nat) : Int))), (44, i6_ ((Q : Int)))]) (fun ⟨Q, u, Y⟩ => Own B w0 (bk_ p13 u 4 :: bk_ p #[i6_ a.n, str a.set, str a.rel, i6_ b.n, str b.set, str b.rel, i6_ ((k : Int)), i6_ (((prN a b : Nat) : Int)), sl_ gf ((WL 0 a b k).length) cf, sl_ gw ((WL n a b k).length) cw, bo_ false] 66 :: bk_ gf uf 4 :: bk_ gw uw 4 :: hs)) (fun ⟨Q, u, Y⟩ => prN a b - Q) ((0, u, X)) ⟨by omega, ⟨hcu, htu⟩, clear_zero _ _ _⟩ (Sub.sel [0, 3, 4, 5, 17, 18, 21, 22, 43, 44] rfl) (fun _ h => h) ?_
     rintro ⟨Q, u, Y⟩ ⟨hQ, ⟨hcu, htu⟩, hC⟩
     dsimp only
     refine Wk.seq ?_
     refine Wk.regionQ ?_
     refine Lq.run 1 rfl ?_
     refine Lq.nil ?_
     refine Kt.sel [0, 3, 4, 5, 17, 18, 21, 22, 43, 44, 45] [_, _, _, _, _, _, _, _, _, _, _] rfl ?_
     refine Wk.seq ?_
     refine Wk.cond (b := decide (((Q : Int)) < (((prN a b : Nat) : Int)))) rfl (fun h45 => ?_) (fun h45 => ?_)
     ·
      replace h45 := of_decide_eq_true h45
      have hQp : Q < prN a b := by omega
      have hQQ := hqs Q hQp
      have hQm : ((prN a b ^ i : Nat) : Int) * (Q : Int) = ((prN a b ^ i * Q : Nat) : Int) := by rw [Int.natCast_mul]
      refine Wk.skip ?_
      refine Kt.sel [0, 3, 4, 5, 17, 18, 21, 22, 43, 44] [_, _, _, _, _, _, _, _, _, _] rfl ?_
      refine Wk.seq ?_
      refine Wk.block ?_
      refine Wk.seq ?_
      refine Wk.regionQ ?_
      refine Lq.run 2 rfl ?_
      refine Lq.nil ?_
      refine Kt.sel [0, 3, 4, 5, 6, 17, 18, 21, 22, 43, 44] [_, _, _, _, _, _, _, _, _, _, _] rfl ?_
      refine Wk.region ?_
      refine Ll.run 4 rfl ?_
      refine Ll.op (v := i6_ (((prN a b ^ i * Q : Nat) : Int))) rfl rfl rfl (OpQ.cast (by rw [hQm]) (OpQ.mul rfl rfl rfl (by omega) (by omega))) ?_
      refine Ll.op (v := i6_ (((S + prN a b ^ i * Q : Nat) : Int))) rfl rfl rfl (OpQ.cast (by rfl) (OpQ.add rfl rfl rfl (by omega) (by omega))) ?_
      refine Ll.op (v := pf_ p13 ((((S + prN a b ^ i * Q : Nat) : Int)).toNat)) rfl rfl rfl (OpQ.cast (by rw [Nat.zero_add]) (OpQ.indexAddr1 (i := ((S + prN a b ^ i * Q : Nat) : Int)) rfl Tryd.runUnderlying64 Tryd.sizeOf4 rfl rfl (by omega) (by omega))) ?_
      refine Ll.store1 (v := .bool false) (hs' := (bk_ p13 ((u.setIfInBounds (S + prN a b ^ i * Q) (.bool false))) 4 :: _ :: _ :: _ :: hs)) 0 rfl rfl rfl rfl rfl rfl Tryd.sizeOf4 rfl (by rw [hcu]; have := hqs Q (by omega); omega) (by rfl) ?_
      refine Ll.nil ?_
      refine Kt.sel [0, 3, 4, 5, 17, 18, 21, 22, 43, 44] [_, _, _, _, _, _, _, _, _, _] rfl ?_
      refine Wk.regionQ ?_
      refine Lq.op rfl rfl rfl (OpQ.add rfl rfl rfl (by omega) (by omega)) ?_
      refine Lq.run 1 rfl ?_
      refine Lq.nil ?_
      refine Kt.again ((Q + 1, u.setIfInBounds (S + prN a b ^ i * Q) (.bool false), Y.set (S + prN a b ^ i * Q) false)) ⟨by omega, ⟨by simpa using hcu, row_put htu⟩, clear_next hC (by have := hqs Q (by omega); rw [hX.len]; omega)⟩ (by omega) (Sub.sel [0, 3, 4, 5, 17, 18, 21, 22, 43, 44] rfl) (fun _ h => h)
     ·
      replace h45 := of_decide_eq_false h45
      have hQe : Q = prN a b := by omega
      refine Wk.exit rfl ?_
      refine Kt.sel [0, 3, 4, 17, 18, 21, 22] [_, _, _, _, _, _, _] rfl ?_
      refine Wk.regionQ ?_
      refine Lq.op rfl rfl rfl (OpQ.add rfl rfl rfl (by omega) (by omega)) ?_
      refine Lq.run 1 rfl ?_
      refine Lq.nil ?_
      refine Kt.again ((S + 1, u, Y)) ⟨by omega, ⟨hcu, htu⟩, by first | exact turn_skip hX (by omega) | exact turn_yes hX (ansB_true.1 (by assumption)) | exact turn_no hX (by omega) (fun e => by have := ansB_true.2 e; simp_all) (hQe ▸ hC)⟩ (by omega) (Sub.sel [0, 3, 4, 17, 18, 21, 22] rfl) (fun _ h => h)
   ·
    replace hg34 := not_true hg34
    replace hg34 := of_decide_eq_false hg34
    refine Lq.pass rfl rfl rfl ?_
    refine Lq.pass rfl rfl rfl ?_
    refine Lq.pass rfl rfl rfl ?_
    refine Lq.pass rfl rfl rfl ?_
    refine Lq.run 1 rfl ?_
    refine Lq.nil ?_
    refine Kt.sel [0, 3, 4, 5, 17, 18, 21, 22, 39] [_, _, _, _, _, _, _, _, _] rfl ?_
    refine Wk.condT rfl ?_
    refine Wk.exit rfl ?_
    refine Kt.sel [0, 3, 4, 17, 18, 21, 22] [_, _, _, _, _, _, _] rfl ?_
    refine Wk.regionQ ?_
    refine Lq.op rfl rfl rfl (OpQ.add rfl rfl rfl (by omega) (by omega)) ?_
    refine Lq.run 1 rfl ?_
    refine Lq.nil ?_
    refine Kt.again ((S + 1, u, X)) ⟨by omega, ⟨hcu, htu⟩, by first | exact turn_skip hX (by omega) | exact turn_yes hX (ansB_true.1 (by assumption)) | exact turn_no hX (by omega) (fun e => by have := ansB_true.2 e; simp_all) (hQe ▸ hC)⟩ (by omega) (Sub.sel [0, 3, 4, 17, 18, 21, 22] rfl) (fun _ h => h)
  ·
   replace h23 := of_decide_eq_false h23
   have hSe : S = prN a b ^ k := by omega
   refine Wk.exit rfl ?_
   refine Kt.sel [0, 3, 4, 17, 18] [_, _, _, _, _] rfl ?_
   refine Wk.regionQ ?_
   refine Lq.run 2 rfl ?_
   refine Lq.op (v := pt_ p) rfl rfl rfl (OpQ.nilCheck rfl rfl) ?_
   refine Lq.op rfl rfl rfl (OpQ.fieldAddr rfl Tryd.runUnderlying66 rfl Tryd.sizeOf3 rfl rfl) ?_
   refine Lq.op rfl rfl rfl (OpQ.loadOwn 1 rfl Tryd.isAgg3 rfl rfl rfl) ?_
   refine Lq.op (v := i6_ (((prN a b ^ (i + 1) : Nat) : Int))) rfl rfl rfl (OpQ.cast (by rw [hpm]) (OpQ.mul rfl rfl rfl (by omega) (by omega))) ?_
   refine Lq.run 1 rfl ?_
   refine Lq.nil ?_
   refine Kt.sel [0, 3, 4, 17, 18] [_, _, _, _, _] rfl ?_
   refine Wk.regionQ ?_
   refine Lq.op rfl rfl rfl (OpQ.add rfl rfl rfl (by omega) (by omega)) ?_
   refine Lq.run 1 rfl ?_
   refine Lq.nil ?_
   refine Kt.again ((i + 1, u, X)) ⟨by omega, ⟨hcu, htu⟩, turn_round (hSe ▸ hX)⟩ (by omega) (Sub.cons rfl (Sub.cons rfl (Sub.cons (by rfl) (Sub.sel [17, 18] rfl)))) (fun _ h => h)
 ·
  replace h19 := of_decide_eq_false h19
  have hie : i = k := by omega
  have hXl := hX.len
  refine Wk.exit rfl ?_
  refine Kt.sel [0, 3] [_, _] rfl ?_
  refine Wk.seq ?_
  refine Wk.regionQ ?_
  refine Lq.run 2 rfl ?_
  refine Lq.op (v := pt_ p) rfl rfl rfl (OpQ.nilCheck rfl rfl) ?_
  refine Lq.op rfl rfl rfl (OpQ.fieldAddr rfl Tryd.runUnderlying66 rfl Tryd.sizeOf64 rfl rfl) ?_
  refine Lq.op rfl rfl rfl (OpQ.loadOwn 1 rfl Tryd.isAgg64 rfl rfl rfl) ?_
  refine Lq.op (v := bo_ (X == ((WL n a b k)))) rfl rfl rfl (OpQ.call rfl Tryd.call113 rfl Own.stable (fun w1 hw1 => equalB_ok (sl_ p13 ((((WL 0 a b k)).length)) cap13) (sl_ gw ((WL n a b k).length) cw) X ((WL n a b k)) w1 (Own.row hw1 (i := 0) rfl htu (by simpa using hX.len) (by omega)) (Own.row hw1 (i := 3) rfl htw (by simp) hlw) (by omega))) ?_
  refine Lq.run 2 rfl ?_
  refine Lq.nil ?_
  refine Kt.sel [0, 3, 7] [_, _, _] rfl ?_
  refine Wk.seq ?_
  refine Wk.region ?_
  refine Ll.run 2 rfl ?_
  refine Ll.op (v := pt_ p) rfl rfl rfl (OpQ.nilCheck rfl rfl) ?_
  refine Ll.op rfl rfl rfl (OpQ.fieldAddr rfl Tryd.runUnderlying66 rfl Tryd.sizeOf64 rfl rfl) ?_
  refine Ll.store1 (v := sl_ p13 ((((WL 0 a b k)).length)) cap13) (hs' := (_ :: bk_ p #[i6_ a.n, str a.set, str a.rel, i6_ b.n, str b.set, str b.rel, i6_ ((k : Int)), i6_ (((prN a b : Nat) : Int)), sl_ gf ((WL 0 a b k).length) cf, sl_ p13 ((((WL 0 a b k)).length)) cap13, bo_ false] 66 :: _ :: _ :: hs)) 1 rfl rfl rfl rfl rfl rfl Tryd.sizeOf64 rfl (by simp) rfl ?_
  refine Ll.nil ?_
  refine Kt.sel [7] [_] rfl ?_
  refine Wk.seq ?_
  refine Wk.regionQ ?_
  refine Lq.run 2 rfl ?_
  refine Lq.nil ?_
  refine Kt.sel [2] [_] rfl ?_
  refine Wk.ret (Kt.end1 rfl rfl fun w' hw => ?_)
  -- ret 0: bo_ (!(X == ((WL n a b k))))
  have hE := turn_end (hie ▸ hX)
  subst hE
  exact ⟨p13, cap13, u, by simp, ⟨hcu, by omega, by simpa using htu⟩, by rw [hWm, ← hWl]; exact Own.pickT (hs := [_, _, _, _]) (hs' := [_, _, _]) hw [1, 2, 0] rfl (by decide)⟩

set_option maxHeartbeats 400000 in
/-- (*impl.pebbleGame).play -/
theorem play_ok (B : Nat) (w0 : World) (hs : List (Nat × Obj)) (a b : St) (k t p gf cf : Nat) (uf : Array Value) (gw cw : Nat) (uw : Array Value) (w : World) (hVa : validB a = true) (hVb : validB b = true) (hk3 : k ≤ 3) (ht : t ≤ 2000) (hlf : (WL 0 a b k).length ≤ cf) (htf : uf.toList.take (WL 0 a b k).length = bools (WL 0 a b k)) (hlw : (WL 0 a b k).length ≤ cw) (htw : uw.toList.take (WL 0 a b k).length = bools (WL 0 a b k)) (hw : Own B w0 (bk_ p #[i6_ a.n, str a.set, str a.rel, i6_ b.n, str b.set, str b.rel, i6_ ((k : Int)), i6_ (((prN a b : Nat) : Int)), sl_ gf ((WL 0 a b k).length) cf, sl_ gw ((WL 0 a b k).length) cw, bo_ false] 66 :: bk_ gf uf 4 :: bk_ gw uw 4 :: hs) w) :
    Calls Tryd.prog 57 [pt_ p, i6_ ((t : Int))].toArray w fun en w' => ∃ (g c : Nat) (u : Array Value), en = .returned (.tuple #[]) ∧ ((WL t a b k).length ≤ c ∧ u.toList.take (WL t a b k).length = bools (WL t a b k)) ∧ Own B w0 (bk_ p #[i6_ a.n, str a.set, str a.rel, i6_ b.n, str b.set, str b.rel, i6_ ((k : Int)), i6_ (((prN a b : Nat) : Int)), sl_ gf ((WL 0 a b k).length) cf, sl_ g ((WL t a b k).length) c, bo_ false] 66 :: bk_ gf uf 4 :: bk_ g u 4 :: hs) w' := by
 refine fnStartC (Own B w0 (bk_ p #[i6_ a.n, str a.set, str a.rel, i6_ b.n, str b.set, str b.rel, i6_ ((k : Int)), i6_ (((prN a b : Nat) : Int)), sl_ gf ((WL 0 a b k).length) cf, sl_ gw ((WL 0 a b k).length) cw, bo_ false] 66 :: bk_ gf uf 4 :: bk_ gw uw 4 :: hs)) (n := 10) (e := [(0, pt_ p), (1, i6_ ((t : Int)))]) Tryd.func57 rfl rfl rfl rfl Ends.both hw ?_
 refine Wk.seq ?_
 refine Wk.regionQ ?_
 refine Lq.run 2 rfl ?_
 refine Lq.nil ?_
 refine Kt.sel [0, 4, 5] [_, _, _] rfl ?_
 refine Wk.block ?_
 refine Wk.loop (σ := Nat × Nat × Nat × Array Value) (fun ⟨m, g, c, u⟩ => m ≤ t ∧ (WL m a b k).length ≤ c ∧ u.toList.take (WL m a b k).length = bools (WL m a b k)) (fun ⟨m, g, c, u⟩ => [(0, pt_ p), (4, i6_ ((t : Int))), (5, i6_ ((m : Int)))]) (fun ⟨m, g, c, u⟩ => Own B w0 (bk_ p #[i6_ a.n, str a.set, str a.rel, i6_ b.n, str b.set, str b.rel, i6_ ((k : Int)), i6_ (((prN a b : Nat) : Int)), sl_ gf ((WL 0 a b k).length) cf, sl_ g ((WL m a b k).length) c, bo_ false] 66 :: bk_ gf uf 4 :: bk_ g u 4 :: hs)) (fun ⟨m, g, c, u⟩ => t - m) ((0, gw, cw, uw)) ⟨by omega, hlw, htw⟩ (Sub.sel [0, 4, 5] rfl) (fun _ h => h) ?_
 rintro ⟨m, g, c, u⟩ ⟨hm, hlu, htu⟩
 dsimp only
 refine Wk.seq ?_
 refine Wk.regionQ ?_
 refine Lq.run 1 rfl ?_
 refine Lq.nil ?_
 refine Kt.sel [0, 4, 5, 6] [_, _, _, _] rfl ?_
 refine Wk.seq ?_
 refine Wk.cond (b := decide (((m : Int)) < ((t : Int)))) rfl (fun h6 => ?_) (fun h6 => ?_)
 ·
  replace h6 := of_decide_eq_true h6
  refine Wk.skip ?_
  refine Kt.sel [0, 4, 5] [_, _, _] rfl ?_
  refine Wk.seq ?_
  refine Wk.block ?_
  refine Wk.region ?_
  refine Ll.run 1 rfl ?_
  refine Ll.callGet (σ := Nat × Nat × Array Value) (ok := fun (g, c', u) => u.size = c' * 1 ∧ (WL (m + 1) a b k).length ≤ c' ∧ u.toList.take (WL (m + 1) a b k).length = bools (WL (m + 1) a b k)) (v := fun _ => .bool (!((WL (m + 1) a b k) == (WL m a b k)))) (xs := [.tmp 7]) (vs := [pt_ p]) (hs' := fun (g, c', u) => (bk_ p #[i6_ a.n, str a.set, str a.rel, i6_ b.n, str b.set, str b.rel, i6_ ((k : Int)), i6_ (((prN a b : Nat) : Int)), sl_ gf ((WL 0 a b k).length) cf, sl_ g ((WL (m + 1) a b k).length) c', bo_ false] 66 :: bk_ gf uf 4 :: bk_ g u 4 :: hs)) rfl rfl rfl rfl Tryd.call61 rfl (fun w1 hw1 => (turn_ok _ _ _ a b k m p gf cf uf g c u w1 hVa hVb hk3 hlf htf hlu htu hw1).mono fun en w' ⟨g, c', u, h1, h2, h3⟩ => ⟨(g, c', u), h1, h2, h3⟩) fun ⟨gt, ct, ut⟩ ⟨hcgt, hlgt, htgt⟩ => ?_
  show Ll _ _ (Own _ _ (_ :: _ :: _ :: hs)) _ _ ((8, bo_ (!((WL (m + 1) a b k) == (WL m a b k)))) :: _) _ _ _
  refine Ll.nil ?_
  refine Kt.sel [0, 4, 5] [_, _, _] rfl ?_
  refine Wk.regionQ ?_
  refine Lq.op rfl rfl rfl (OpQ.add rfl rfl rfl (by omega) (by omega)) ?_
  refine Lq.run 1 rfl ?_
  refine Lq.nil ?_
  refine Kt.again ((m + 1, gt, ct, ut)) ⟨by omega, hlgt, htgt⟩ (by omega) (Sub.sel [0, 4, 5] rfl) (fun _ h => h)
 ·
  replace h6 := of_decide_eq_false h6
  refine Wk.exit rfl ?_
  refine (Kt.end0 rfl fun w' hw => ?_)
  obtain rfl : t = m := by omega
  exact ⟨g, c, u, rfl, ⟨hlu, htu⟩, hw⟩

end Go.Proofs.YtjcoijejhachhaaDoor
