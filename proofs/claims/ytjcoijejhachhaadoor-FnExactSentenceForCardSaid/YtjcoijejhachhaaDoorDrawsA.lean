/-
  Walks: the source of draws.
-/
import Derived.Test.YtjcoijejhachhaaDoorCore2
import Derived.Test.YtjcoijejhachhaaDoorPartM
import Derived.Test.YtjcoijejhachhaaDoorBase
namespace Go.Proofs.YtjcoijejhachhaaDoor
open Go.RowKit Go.Wk
set_option linter.unusedSimpArgs false

set_option maxHeartbeats 400000 in
/-- spec.l1Bit|d -/
theorem bitD_ok (b : Bool) (w : World) :
    Calls Tryd.prog 147 [bo_ b].toArray w fun en w' => en = .returned (str (if b then [49] else [48])) ∧ Below w.heap.size w w' := by
 refine fnStart (n := 4) (e := [(0, bo_ b)]) Tryd.func147 rfl rfl rfl rfl Ends.both ?_
 refine Wk.seq ?_
 refine Wk.regionQ ?_
 refine Lq.op (v := str ([])) rfl rfl rfl (OpQ.assign rfl rfl) ?_
 refine Lq.nil ?_
 refine Kt.sel [0] [_] rfl ?_
 refine Wk.seq ?_
 refine Wk.seq ?_
 refine Wk.regionQ ?_
 refine Lq.run 1 rfl ?_
 refine Lq.nil ?_
 refine Kt.sel [3] [_] rfl ?_
 refine Wk.cond (b := b) rfl (fun h3 => ?_) (fun h3 => ?_)
 ·
  refine Wk.seq ?_
  refine Wk.regionQ ?_
  refine Lq.op (v := str ([49])) rfl rfl rfl (OpQ.assign rfl rfl) ?_
  refine Lq.nil ?_
  refine Kt.sel [2] [_] rfl ?_
  refine Wk.ret (Kt.end1 rfl rfl fun w' hw => ?_)
  -- ret 0: str ([49])
  exact ⟨by rw [‹b = _›]; rfl, hw.below⟩
 ·
  refine Wk.skip ?_
  refine Kt.sel [] [] rfl ?_
  refine Wk.seq ?_
  refine Wk.regionQ ?_
  refine Lq.op (v := str ([48])) rfl rfl rfl (OpQ.assign rfl rfl) ?_
  refine Lq.nil ?_
  refine Kt.sel [2] [_] rfl ?_
  refine Wk.ret (Kt.end1 rfl rfl fun w' hw => ?_)
  -- ret 1: str ([48])
  exact ⟨by rw [‹b = _›]; rfl, hw.below⟩

set_option maxHeartbeats 400000 in
/-- (*spec.l15Rd).pick -/
theorem pick_ok (B : Nat) (w0 : World) (hs : List (Nat × Obj)) (rp p : Nat) (bv : Value) (L : List Int) (n : Int) (w : World) (hb : ∀ w, Own B w0 hs w → Row w bv (u8s L)) (hL8 : Bytes8 L) (hL : L.length ≤ 2000) (hp : p ≤ 1000000) (hw : Own B w0 ((rp, .cells #[bv, .int .i64 (p : Int)] 110 (0, 0)) :: hs) w) :
    Calls Tryd.prog 80 [pt_ rp, i6_ n].toArray w fun en w' => ∃ k : Int, ∃ p' : Nat, en = .returned (i6_ k) ∧ (0 ≤ k ∧ (1 ≤ n → k < n) ∧ p' = p + 1) ∧ Own B w0 (((rp, .cells #[bv, .int .i64 (p' : Int)] 110 (0, 0)) :: hs)) w' := by
 refine fnStartC (Own B w0 ((rp, .cells #[bv, .int .i64 (p : Int)] 110 (0, 0)) :: hs)) (n := 99) (e := [(0, pt_ rp), (1, i6_ n)]) Tryd.func80 rfl rfl rfl rfl Ends.both hw ?_
 refine Wk.seq ?_
 refine Wk.regionQ ?_
 refine Lq.run 1 rfl ?_
 refine Lq.nil ?_
 refine Kt.sel [0, 1] [_, _] rfl ?_
 refine Wk.seq ?_
 refine Wk.region ?_
 refine Ll.run 2 rfl ?_
 refine Ll.op (v := pt_ rp) rfl rfl rfl (OpQ.nilCheck rfl rfl) ?_
 refine Ll.op rfl rfl rfl (OpQ.fieldAddr rfl Tryd.runUnderlying110 rfl Tryd.sizeOf3 rfl rfl) ?_
 refine Ll.op rfl rfl rfl (OpQ.loadOwn 0 rfl Tryd.isAgg3 rfl rfl rfl) ?_
 refine Ll.op rfl rfl rfl (OpQ.add rfl rfl rfl (by omega) (by omega)) ?_
 refine Ll.op (v := pt_ rp) rfl rfl rfl (OpQ.nilCheck rfl rfl) ?_
 refine Ll.op rfl rfl rfl (OpQ.fieldAddr rfl Tryd.runUnderlying110 rfl Tryd.sizeOf3 rfl rfl) ?_
 refine Ll.store1 (v := i6_ (((p : Int)) + (1 : Int))) (hs' := (bk_ rp #[bv, i6_ (((p : Int)) + (1 : Int))] 110 :: hs)) 0 rfl rfl rfl rfl rfl rfl Tryd.sizeOf3 rfl (by simp) rfl ?_
 refine Ll.nil ?_
 refine Kt.sel [0, 1] [_, _] rfl ?_
 refine Wk.seq ?_
 refine Wk.seq ?_
 refine Wk.regionQ ?_
 refine Lq.run 3 rfl ?_
 refine Lq.bool fun b17 hg17 => ?_
 cases b17
 ·
  replace hg17 := of_decide_eq_false hg17
  refine Lq.run 1 rfl ?_
  refine Lq.op (v := pt_ rp) rfl rfl rfl (OpQ.nilCheck rfl rfl) ?_
  refine Lq.op rfl rfl rfl (OpQ.fieldAddr rfl Tryd.runUnderlying110 rfl Tryd.sizeOf45 rfl rfl) ?_
  refine Lq.op rfl rfl rfl (OpQ.loadOwn 0 rfl Tryd.isAgg45 rfl rfl rfl) ?_
  refine Lq.op (v := i6_ ((L.length : Int))) rfl rfl rfl (OpQ.lenRow rfl Tryd.runUnderlying45 rfl (u8s_length _) (fun w1 hw1 => hb _ (Own.drop (f := [_]) hw1))) ?_
  refine Lq.run 2 rfl ?_
  refine Lq.nil ?_
  refine Kt.sel [0, 1, 24] [_, _, _] rfl ?_
  refine Wk.cond (b := decide (((L.length : Int)) = (0 : Int))) rfl (fun h24 => ?_) (fun h24 => ?_)
  ·
   replace h24 := of_decide_eq_true h24
   refine Wk.seq ?_
   refine Wk.regionQ ?_
   refine Lq.run 1 rfl ?_
   refine Lq.nil ?_
   refine Kt.sel [4] [_] rfl ?_
   refine Wk.ret (Kt.end1 rfl rfl fun w' hw => ?_)
   -- ret 0: i6_ 0
   exact ⟨0, p + 1, rfl, ⟨Int.le_refl 0, fun _ => by omega, rfl⟩, hw⟩
  ·
   replace h24 := of_decide_eq_false h24
   have hlp : 0 < L.length := by omega
   refine Wk.skip ?_
   refine Kt.sel [0, 1] [_, _] rfl ?_
   refine Wk.seq ?_
   refine Wk.regionQ ?_
   refine Lq.run 1 rfl ?_
   refine Lq.op (v := pt_ rp) rfl rfl rfl (OpQ.nilCheck rfl rfl) ?_
   refine Lq.op rfl rfl rfl (OpQ.fieldAddr rfl Tryd.runUnderlying110 rfl Tryd.sizeOf3 rfl rfl) ?_
   refine Lq.op rfl rfl rfl (OpQ.loadOwn 0 rfl Tryd.isAgg3 rfl rfl rfl) ?_
   refine Lq.op (v := i6_ ((p : Int))) rfl rfl rfl (OpQ.cast (by congr 1; omega) (OpQ.sub rfl rfl rfl (by omega) (by omega))) ?_
   refine Lq.run 1 rfl ?_
   refine Lq.nil ?_
   refine Kt.sel [0, 1, 5] [_, _, _] rfl ?_
   refine Wk.seq ?_
   refine Wk.seq ?_
   refine Wk.regionQ ?_
   refine Lq.run 2 rfl ?_
   refine Lq.op (v := pt_ rp) rfl rfl rfl (OpQ.nilCheck rfl rfl) ?_
   refine Lq.op rfl rfl rfl (OpQ.fieldAddr rfl Tryd.runUnderlying110 rfl Tryd.sizeOf45 rfl rfl) ?_
   refine Lq.op rfl rfl rfl (OpQ.loadOwn 0 rfl Tryd.isAgg45 rfl rfl rfl) ?_
   refine Lq.op (v := i6_ ((L.length : Int))) rfl rfl rfl (OpQ.lenRow rfl Tryd.runUnderlying45 rfl (u8s_length _) (fun w1 hw1 => hb _ (Own.drop (f := [_]) hw1))) ?_
   refine Lq.run 1 rfl ?_
   refine Lq.nil ?_
   refine Kt.sel [0, 1, 5, 36] [_, _, _, _] rfl ?_
   refine Wk.cond (b := decide (((p : Int)) < ((L.length : Int)))) rfl (fun h36 => ?_) (fun h36 => ?_)
   ·
    replace h36 := of_decide_eq_true h36
    have hb0 := hL8.at (i := ((p : Int)).toNat) (by omega)
    refine Wk.seq ?_
    refine Wk.regionQ ?_
    refine Lq.run 1 rfl ?_
    refine Lq.op (v := pt_ rp) rfl rfl rfl (OpQ.nilCheck rfl rfl) ?_
    refine Lq.op rfl rfl rfl (OpQ.fieldAddr rfl Tryd.runUnderlying110 rfl Tryd.sizeOf45 rfl rfl) ?_
    refine Lq.op rfl rfl rfl (OpQ.loadOwn 0 rfl Tryd.isAgg45 rfl rfl rfl) ?_
    refine Lq.run 1 rfl ?_
    refine Lq.op (v := .pointer (some (sAt bv ((p : Int))))) rfl rfl rfl (OpQ.atRow rfl Tryd.runUnderlying45 Tryd.sizeOf5 rfl rfl (by omega) (by rw [u8s_length]; omega) (fun w1 hw1 => hb _ (Own.drop (f := [_]) hw1))) ?_
    refine Lq.op (v := .int .u8 (L.getD (((p : Int)).toNat) 0)) rfl rfl rfl (OpQ.load1 rfl Tryd.isAgg5 rfl (fun w1 hw1 => u8s_cell (hb _ (Own.drop (f := [_]) hw1)) (by omega) (by omega))) ?_
    refine Lq.op (v := i6_ (L.getD (((p : Int)).toNat) 0)) rfl rfl rfl (OpQ.convInt .i64 rfl Tryd.underlying5 Tryd.underlying3 rfl (IntWalk.i64_in _ (by omega))) ?_
    refine Lq.run 1 rfl ?_
    refine Lq.op (v := i6_ ((L.getD (((p : Int)).toNat) 0) % n)) rfl rfl rfl (OpQ.rem rfl rfl rfl (by omega) (by omega)) ?_
    refine Lq.run 1 rfl ?_
    refine Lq.nil ?_
    refine Kt.sel [4] [_] rfl ?_
    refine Wk.ret (Kt.end1 rfl rfl fun w' hw => ?_)
    -- ret 1: i6_ ((L.getD (((p : Int)).toNat) 0) % n)
    exact ⟨_, p + 1, rfl, ⟨Int.emod_nonneg _ (by omega), fun _ => Int.emod_lt_of_pos _ (by omega), rfl⟩, hw⟩
   ·
    replace h36 := of_decide_eq_false h36
    have hm1 := Int.emod_nonneg (p : Int) (b := (L.length : Int)) (by omega)
    have hm2 := Int.emod_lt_of_pos (p : Int) (b := (L.length : Int)) (by omega)
    have hm3 := Int.emod_nonneg ((p : Int) * (7 : Int) + (3 : Int)) (b := (L.length : Int)) (by omega)
    have hm4 := Int.emod_lt_of_pos ((p : Int) * (7 : Int) + (3 : Int)) (b := (L.length : Int)) (by omega)
    have hd1 := Int.ediv_nonneg (a := (p : Int)) (b := (L.length : Int)) (by omega) (by omega)
    have hd2 := Int.ediv_le_self (L.length : Int) (show (0 : Int) ≤ (p : Int) by omega)
    have hb1 := hL8.at (i := ((p : Int) % (L.length : Int)).toNat) (by omega)
    have hb2 := hL8.at (i := (((p : Int) * (7 : Int) + (3 : Int)) % (L.length : Int)).toNat) (by omega)
    refine Wk.skip ?_
    refine Kt.sel [0, 1, 5] [_, _, _] rfl ?_
    refine Wk.seq ?_
    refine Wk.regionD Base.mixed (fun _ h => h.drawn) (by kernel_rfl) ?_
    refine Lq.run 1 rfl ?_
    refine Lq.op (v := pt_ rp) rfl rfl rfl (OpQ.nilCheck rfl rfl) ?_
    refine Lq.op rfl rfl rfl (OpQ.fieldAddr rfl Tryd.runUnderlying110 rfl Tryd.sizeOf45 rfl rfl) ?_
    refine Lq.op rfl rfl rfl (OpQ.loadOwn 0 rfl Tryd.isAgg45 rfl rfl rfl) ?_
    refine Lq.run 2 rfl ?_
    refine Lq.op (v := pt_ rp) rfl rfl rfl (OpQ.nilCheck rfl rfl) ?_
    refine Lq.op rfl rfl rfl (OpQ.fieldAddr rfl Tryd.runUnderlying110 rfl Tryd.sizeOf45 rfl rfl) ?_
    refine Lq.op rfl rfl rfl (OpQ.loadOwn 0 rfl Tryd.isAgg45 rfl rfl rfl) ?_
    refine Lq.op (v := i6_ ((L.length : Int))) rfl rfl rfl (OpQ.lenRow rfl Tryd.runUnderlying45 rfl (u8s_length _) (fun w1 hw1 => hb _ (Own.drop (f := [_]) hw1))) ?_
    refine Lq.op (v := i6_ (((p : Int)) % ((L.length : Int)))) rfl rfl rfl (OpQ.rem rfl rfl rfl (by omega) (by omega)) ?_
    refine Lq.op (v := .pointer (some (sAt bv (((p : Int)) % ((L.length : Int)))))) rfl rfl rfl (OpQ.atRow rfl Tryd.runUnderlying45 Tryd.sizeOf5 rfl rfl (by omega) (by rw [u8s_length]; omega) (fun w1 hw1 => hb _ (Own.drop (f := [_]) hw1))) ?_
    refine Lq.op (v := .int .u8 (L.getD ((((p : Int)) % ((L.length : Int))).toNat) 0)) rfl rfl rfl (OpQ.load1 rfl Tryd.isAgg5 rfl (fun w1 hw1 => u8s_cell (hb _ (Own.drop (f := [_]) hw1)) (by omega) (by omega))) ?_
    refine Lq.op (v := i6_ (L.getD ((((p : Int)) % ((L.length : Int))).toNat) 0)) rfl rfl rfl (OpQ.convInt .i64 rfl Tryd.underlying5 Tryd.underlying3 rfl (IntWalk.i64_in _ (by omega))) ?_
    refine Lq.op rfl rfl rfl (OpQ.mul rfl rfl rfl (by omega) (by omega)) ?_
    refine Lq.run 1 rfl ?_
    refine Lq.op (v := pt_ rp) rfl rfl rfl (OpQ.nilCheck rfl rfl) ?_
    refine Lq.op rfl rfl rfl (OpQ.fieldAddr rfl Tryd.runUnderlying110 rfl Tryd.sizeOf45 rfl rfl) ?_
    refine Lq.op rfl rfl rfl (OpQ.loadOwn 0 rfl Tryd.isAgg45 rfl rfl rfl) ?_
    refine Lq.run 1 rfl ?_
    refine Lq.op rfl rfl rfl (OpQ.mul rfl rfl rfl (by omega) (by omega)) ?_
    refine Lq.op rfl rfl rfl (OpQ.add rfl rfl rfl (by omega) (by omega)) ?_
    refine Lq.run 1 rfl ?_
    refine Lq.op (v := pt_ rp) rfl rfl rfl (OpQ.nilCheck rfl rfl) ?_
    refine Lq.op rfl rfl rfl (OpQ.fieldAddr rfl Tryd.runUnderlying110 rfl Tryd.sizeOf45 rfl rfl) ?_
    refine Lq.op rfl rfl rfl (OpQ.loadOwn 0 rfl Tryd.isAgg45 rfl rfl rfl) ?_
    refine Lq.op (v := i6_ ((L.length : Int))) rfl rfl rfl (OpQ.lenRow rfl Tryd.runUnderlying45 rfl (u8s_length _) (fun w1 hw1 => hb _ (Own.drop (f := [_]) hw1))) ?_
    refine Lq.op (v := i6_ (((((p : Int)) * (7 : Int)) + (3 : Int)) % ((L.length : Int)))) rfl rfl rfl (OpQ.rem rfl rfl rfl (by omega) (by omega)) ?_
    refine Lq.op (v := .pointer (some (sAt bv (((((p : Int)) * (7 : Int)) + (3 : Int)) % ((L.length : Int)))))) rfl rfl rfl (OpQ.atRow rfl Tryd.runUnderlying45 Tryd.sizeOf5 rfl rfl (by omega) (by rw [u8s_length]; omega) (fun w1 hw1 => hb _ (Own.drop (f := [_]) hw1))) ?_
    refine Lq.op (v := .int .u8 (L.getD ((((((p : Int)) * (7 : Int)) + (3 : Int)) % ((L.length : Int))).toNat) 0)) rfl rfl rfl (OpQ.load1 rfl Tryd.isAgg5 rfl (fun w1 hw1 => u8s_cell (hb _ (Own.drop (f := [_]) hw1)) (by omega) (by omega))) ?_
    refine Lq.op (v := i6_ (L.getD ((((((p : Int)) * (7 : Int)) + (3 : Int)) % ((L.length : Int))).toNat) 0)) rfl rfl rfl (OpQ.convInt .i64 rfl Tryd.underlying5 Tryd.underlying3 rfl (IntWalk.i64_in _ (by omega))) ?_
    refine Lq.op rfl rfl rfl (OpQ.mul rfl rfl rfl (by omega) (by omega)) ?_
    refine Lq.op rfl rfl rfl (OpQ.add rfl rfl rfl (by omega) (by omega)) ?_
    refine Lq.run 1 rfl ?_
    refine Lq.op rfl rfl rfl (OpQ.mul rfl rfl rfl (by omega) (by omega)) ?_
    refine Lq.op rfl rfl rfl (OpQ.add rfl rfl rfl (by omega) (by omega)) ?_
    refine Lq.run 2 rfl ?_
    refine Lq.op (v := pt_ rp) rfl rfl rfl (OpQ.nilCheck rfl rfl) ?_
    refine Lq.op rfl rfl rfl (OpQ.fieldAddr rfl Tryd.runUnderlying110 rfl Tryd.sizeOf45 rfl rfl) ?_
    refine Lq.op rfl rfl rfl (OpQ.loadOwn 0 rfl Tryd.isAgg45 rfl rfl rfl) ?_
    refine Lq.op (v := i6_ ((L.length : Int))) rfl rfl rfl (OpQ.lenRow rfl Tryd.runUnderlying45 rfl (u8s_length _) (fun w1 hw1 => hb _ (Own.drop (f := [_]) hw1))) ?_
    refine Lq.op (v := i6_ (((p : Int)) / ((L.length : Int)))) rfl rfl rfl (OpQ.quo rfl rfl rfl (by omega) (by omega) (by omega)) ?_
    refine Lq.op rfl rfl rfl (OpQ.mul rfl rfl rfl (by omega) (by omega)) ?_
    refine Lq.op rfl rfl rfl (OpQ.add rfl rfl rfl (by omega) (by omega)) ?_
    refine Lq.run 1 rfl ?_
    refine Lq.nil ?_
    refine Kt.sel [1, 6] [_, _] rfl ?_
    refine Wk.seq ?_
    refine Wk.regionQ ?_
    refine Lq.run 2 rfl ?_
    refine Lq.op (v := i6_ ((((((L.getD ((((p : Int)) % ((L.length : Int))).toNat) 0) * (131 : Int)) + ((L.getD ((((((p : Int)) * (7 : Int)) + (3 : Int)) % ((L.length : Int))).toNat) 0) * (1117 : Int))) + (((p : Int)) * (29 : Int))) + ((((p : Int)) / ((L.length : Int))) * (53 : Int))) / (64 : Int))) rfl rfl rfl (OpQ.quo rfl rfl rfl (by omega) (by omega) (by decide)) ?_
    refine Lq.op (v := i6_ (bits .xor .i64 (((((L.getD ((((p : Int)) % ((L.length : Int))).toNat) 0) * (131 : Int)) + ((L.getD ((((((p : Int)) * (7 : Int)) + (3 : Int)) % ((L.length : Int))).toNat) 0) * (1117 : Int))) + (((p : Int)) * (29 : Int))) + ((((p : Int)) / ((L.length : Int))) * (53 : Int))) ((((((L.getD ((((p : Int)) % ((L.length : Int))).toNat) 0) * (131 : Int)) + ((L.getD ((((((p : Int)) * (7 : Int)) + (3 : Int)) % ((L.length : Int))).toNat) 0) * (1117 : Int))) + (((p : Int)) * (29 : Int))) + ((((p : Int)) / ((L.length : Int))) * (53 : Int))) / (64 : Int)))) rfl rfl rfl (OpQ.xor rfl rfl rfl) ?_
    refine Lq.run 1 rfl ?_
    refine Lq.nil ?_
    refine Kt.sel [1, 6] [_, _] rfl ?_
    refine Wk.seq ?_
    refine Wk.regionQ ?_
    have hx0 : 0 ≤ bits .xor .i64 (((((L.getD ((((p : Int)) % ((L.length : Int))).toNat) 0) * (131 : Int)) + ((L.getD ((((((p : Int)) * (7 : Int)) + (3 : Int)) % ((L.length : Int))).toNat) 0) * (1117 : Int))) + (((p : Int)) * (29 : Int))) + ((((p : Int)) / ((L.length : Int))) * (53 : Int))) ((((((L.getD ((((p : Int)) % ((L.length : Int))).toNat) 0) * (131 : Int)) + ((L.getD ((((((p : Int)) * (7 : Int)) + (3 : Int)) % ((L.length : Int))).toNat) 0) * (1117 : Int))) + (((p : Int)) * (29 : Int))) + ((((p : Int)) / ((L.length : Int))) * (53 : Int))) / (64 : Int)) := xor_pos (by omega) (by omega) (Int.ediv_nonneg (by omega) (by decide)) (by omega)
    refine Lq.run 2 rfl ?_
    refine Lq.op (v := i6_ ((bits .xor .i64 (((((L.getD ((((p : Int)) % ((L.length : Int))).toNat) 0) * (131 : Int)) + ((L.getD ((((((p : Int)) * (7 : Int)) + (3 : Int)) % ((L.length : Int))).toNat) 0) * (1117 : Int))) + (((p : Int)) * (29 : Int))) + ((((p : Int)) / ((L.length : Int))) * (53 : Int))) ((((((L.getD ((((p : Int)) % ((L.length : Int))).toNat) 0) * (131 : Int)) + ((L.getD ((((((p : Int)) * (7 : Int)) + (3 : Int)) % ((L.length : Int))).toNat) 0) * (1117 : Int))) + (((p : Int)) * (29 : Int))) + ((((p : Int)) / ((L.length : Int))) * (53 : Int))) / (64 : Int))) % n)) rfl rfl rfl (OpQ.rem rfl rfl rfl hx0 (by omega)) ?_
    refine Lq.run 1 rfl ?_
    refine Lq.nil ?_
    refine Kt.sel [4] [_] rfl ?_
    refine Wk.ret (Kt.end1 rfl rfl fun w' hw => ?_)
    -- ret 2: i6_ ((bits .xor .i64 (((((L.getD ((((p : Int)) % ((L.length : Int))).toNat) 0) * (131 : Int)) + ((L.getD ((((((p : Int)) * (7 : Int)) + (3 : Int)) % ((L.length : Int))).toNat) 0) * (1117 : Int))) + (((p : Int)) * (29 : Int))) + ((((p : Int)) / ((L.length : Int))) * (53 : Int))) ((((((L.getD ((((p : Int)) % ((L.length : Int))).toNat) 0) * (131 : Int)) + ((L.getD ((((((p : Int)) * (7 : Int)) + (3 : Int)) % ((L.length : Int))).toNat) 0) * (1117 : Int))) + (((p : Int)) * (29 : Int))) + ((((p : Int)) / ((L.length : Int))) * (53 : Int))) / (64 : Int))) % n)
    exact ⟨_, p + 1, rfl, ⟨Int.emod_nonneg _ (by omega), fun _ => Int.emod_lt_of_pos _ (by omega), rfl⟩, hw⟩
 ·
  replace hg17 := of_decide_eq_true hg17
  refine Lq.pass rfl rfl rfl ?_
  refine Lq.pass rfl rfl rfl ?_
  refine Lq.pass rfl rfl rfl ?_
  refine Lq.pass rfl rfl rfl ?_
  refine Lq.pass rfl rfl rfl ?_
  refine Lq.pass rfl rfl rfl ?_
  refine Lq.run 1 rfl ?_
  refine Lq.nil ?_
  refine Kt.sel [0, 1, 24] [_, _, _] rfl ?_
  refine Wk.condT rfl ?_
  refine Wk.seq ?_
  refine Wk.regionQ ?_
  refine Lq.run 1 rfl ?_
  refine Lq.nil ?_
  refine Kt.sel [4] [_] rfl ?_
  refine Wk.ret (Kt.end1 rfl rfl fun w' hw => ?_)
  -- ret 3: i6_ 0
  exact ⟨0, p + 1, rfl, ⟨Int.le_refl 0, fun _ => by omega, rfl⟩, hw⟩

set_option maxHeartbeats 400000 in
/-- (*spec.l15Rd).num -/
theorem num_ok (B : Nat) (w0 : World) (hs : List (Nat × Obj)) (rp p : Nat) (bv : Value) (L : List Int) (va : Value) (xs : List Int) (w : World) (hb : ∀ w, Own B w0 hs w → Row w bv (u8s L)) (hL8 : Bytes8 L) (hL : L.length ≤ 2000) (hva : ∀ w, Own B w0 hs w → Ints w va xs) (hne : 0 < xs.length) (hp : p ≤ 1000000) (hw : Own B w0 ((rp, .cells #[bv, .int .i64 (p : Int)] 110 (0, 0)) :: hs) w) :
    Calls Tryd.prog 71 [pt_ rp, va].toArray w fun en w' => ∃ v : Int, ∃ p' : Nat, en = .returned (i6_ v) ∧ (v ∈ xs ∧ p' = p + 1) ∧ Own B w0 (((rp, .cells #[bv, .int .i64 (p' : Int)] 110 (0, 0)) :: hs)) w' := by
 refine fnStartC (Own B w0 ((rp, .cells #[bv, .int .i64 (p : Int)] 110 (0, 0)) :: hs)) (n := 12) (e := [(0, pt_ rp), (1, va)]) Tryd.func71 rfl rfl rfl rfl Ends.both hw ?_
 refine Wk.seq ?_
 refine Wk.regionQ ?_
 refine Lq.run 1 rfl ?_
 refine Lq.nil ?_
 refine Kt.sel [0, 1] [_, _] rfl ?_
 refine Wk.seq ?_
 refine Wk.region ?_
 refine Ll.run 3 rfl ?_
 refine Ll.op (v := i6_ ((xs.length : Int))) rfl rfl rfl (OpQ.lenRow rfl Tryd.runUnderlying24 rfl (ints_length _) (fun w1 hw1 => hva _ (Own.drop (f := [_]) hw1))) ?_
 refine Ll.callRd (rp := rp) (RT := 110) (p := p) (bv := bv) (hs := hs) (ok := fun (k : Int) p' => 0 ≤ k ∧ (1 ≤ ((xs.length : Int)) → k < ((xs.length : Int))) ∧ p' = p + 1) (v := fun (k : Int) => i6_ k) (new := fun (k : Int) => []) (xs := [.tmp 6, .tmp 8]) (vs := [pt_ rp, i6_ ((xs.length : Int))]) ([] : List (Nat × Obj)) rfl rfl rfl rfl Tryd.call80 rfl (fun w1 hw1 => (pick_ok B w0 (([] : List (Nat × Obj)) ++ hs) rp p bv L ((xs.length : Int)) w1 (fun w2 hw2 => hb w2 (Own.drop (f := ([] : List (Nat × Obj))) hw2)) hL8 hL (by omega) hw1).mono fun en w' ⟨k', p', h1, h2, h3⟩ => ⟨k', p', h1, h2, h3⟩) fun k9 p_9 hKp_9 => ?_
 show Ll _ _ (Own _ _ (_ :: hs)) _ _ ((9, i6_ k9) :: _) _ _ _
 obtain ⟨h0k9, h1k9, hep_9⟩ := hKp_9
 try have hltk9 := h1k9 (by first | omega | (split <;> omega) | decide)
 refine Ll.op (v := .pointer (some (sAt va k9))) rfl rfl rfl (OpQ.atRow rfl Tryd.runUnderlying24 Tryd.sizeOf3 rfl rfl (by omega) (by rw [ints_length]; omega) (fun w1 hw1 => hva _ (Own.drop (f := [_]) hw1))) ?_
 refine Ll.op (v := i6_ (xs.getD ((k9).toNat) 0)) rfl rfl rfl (OpQ.load1 rfl Tryd.isAgg3 rfl (fun w1 hw1 => Ints.cell (hva _ (Own.drop (f := [_]) hw1)) (by omega) (by omega))) ?_
 refine Ll.run 1 rfl ?_
 refine Ll.nil ?_
 refine Kt.sel [4] [_] rfl ?_
 refine Wk.ret (Kt.end1 rfl rfl fun w' hw => ?_)
 -- ret 0: i6_ (xs.getD ((k9).toNat) 0)
 exact ⟨_, p_9, rfl, ⟨by rw [getD_at (by omega)]; exact List.getElem_mem _, hep_9⟩, hw⟩

set_option maxHeartbeats 400000 in
/-- (*spec.l15Rd).of -/
theorem of_ok (B : Nat) (w0 : World) (hs : List (Nat × Obj)) (rp p : Nat) (bv : Value) (L : List Int) (va : Value) (xs : List (List UInt8)) (w : World) (hb : ∀ w, Own B w0 hs w → Row w bv (u8s L)) (hL8 : Bytes8 L) (hL : L.length ≤ 2000) (hva : ∀ w, Own B w0 hs w → Strs w va xs) (hne : 0 < xs.length) (hp : p ≤ 1000000) (hw : Own B w0 ((rp, .cells #[bv, .int .i64 (p : Int)] 110 (0, 0)) :: hs) w) :
    Calls Tryd.prog 125 [pt_ rp, va].toArray w fun en w' => ∃ v : List UInt8, ∃ p' : Nat, en = .returned (str v) ∧ (v ∈ xs ∧ p' = p + 1) ∧ Own B w0 (((rp, .cells #[bv, .int .i64 (p' : Int)] 110 (0, 0)) :: hs)) w' := by
 refine fnStartC (Own B w0 ((rp, .cells #[bv, .int .i64 (p : Int)] 110 (0, 0)) :: hs)) (n := 12) (e := [(0, pt_ rp), (1, va)]) Tryd.func125 rfl rfl rfl rfl Ends.both hw ?_
 refine Wk.seq ?_
 refine Wk.regionQ ?_
 refine Lq.op (v := str ([])) rfl rfl rfl (OpQ.assign rfl rfl) ?_
 refine Lq.nil ?_
 refine Kt.sel [0, 1] [_, _] rfl ?_
 refine Wk.seq ?_
 refine Wk.region ?_
 refine Ll.run 3 rfl ?_
 refine Ll.op (v := i6_ ((xs.length : Int))) rfl rfl rfl (OpQ.lenRow rfl Tryd.runUnderlying91 rfl (strs_length _) (fun w1 hw1 => hva _ (Own.drop (f := [_]) hw1))) ?_
 refine Ll.callRd (rp := rp) (RT := 110) (p := p) (bv := bv) (hs := hs) (ok := fun (k : Int) p' => 0 ≤ k ∧ (1 ≤ ((xs.length : Int)) → k < ((xs.length : Int))) ∧ p' = p + 1) (v := fun (k : Int) => i6_ k) (new := fun (k : Int) => []) (xs := [.tmp 6, .tmp 8]) (vs := [pt_ rp, i6_ ((xs.length : Int))]) ([] : List (Nat × Obj)) rfl rfl rfl rfl Tryd.call80 rfl (fun w1 hw1 => (pick_ok B w0 (([] : List (Nat × Obj)) ++ hs) rp p bv L ((xs.length : Int)) w1 (fun w2 hw2 => hb w2 (Own.drop (f := ([] : List (Nat × Obj))) hw2)) hL8 hL (by omega) hw1).mono fun en w' ⟨k', p', h1, h2, h3⟩ => ⟨k', p', h1, h2, h3⟩) fun k9 p_9 hKp_9 => ?_
 show Ll _ _ (Own _ _ (_ :: hs)) _ _ ((9, i6_ k9) :: _) _ _ _
 obtain ⟨h0k9, h1k9, hep_9⟩ := hKp_9
 try have hltk9 := h1k9 (by first | omega | (split <;> omega) | decide)
 refine Ll.op (v := .pointer (some (sAt va k9))) rfl rfl rfl (OpQ.atRow rfl Tryd.runUnderlying91 Tryd.sizeOf9 rfl rfl (by omega) (by rw [strs_length]; omega) (fun w1 hw1 => hva _ (Own.drop (f := [_]) hw1))) ?_
 refine Ll.op (v := str (xs.getD ((k9).toNat) [])) rfl rfl rfl (OpQ.load1 rfl Tryd.isAgg9 rfl (fun w1 hw1 => Strs.cell (hva _ (Own.drop (f := [_]) hw1)) (by omega) (by omega))) ?_
 refine Ll.run 1 rfl ?_
 refine Ll.nil ?_
 refine Kt.sel [4] [_] rfl ?_
 refine Wk.ret (Kt.end1 rfl rfl fun w' hw => ?_)
 -- ret 0: str (xs.getD ((k9).toNat) [])
 exact ⟨_, p_9, rfl, ⟨by rw [getD_at (by omega)]; exact List.getElem_mem _, hep_9⟩, hw⟩

set_option maxHeartbeats 400000 in
/-- spec.l15Many -/
theorem many_ok (s : List UInt8) (w : World) (n : Int) (hn0 : 0 ≤ n) (hn : n ≤ 100) (hs1 : s.length = 1) :
    Calls Tryd.prog 126 [str s, i6_ n].toArray w fun en w' => ∃ t : List UInt8, en = .returned (str t) ∧ (t.length ≤ 40000) ∧ Below w.heap.size w w' := by
 refine fnStart (n := 20) (e := [(0, str s), (1, i6_ n)]) Tryd.func126 rfl rfl rfl rfl Ends.both ?_
 refine Wk.seq ?_
 refine Wk.regionQ ?_
 refine Lq.op (v := str ([])) rfl rfl rfl (OpQ.assign rfl rfl) ?_
 refine Lq.nil ?_
 refine Kt.sel [0, 1] [_, _] rfl ?_
 refine Wk.seq ?_
 refine Wk.regionQ ?_
 refine Lq.op (v := str ([])) rfl rfl rfl (OpQ.assign rfl rfl) ?_
 refine Lq.nil ?_
 refine Kt.sel [0, 1, 5] [_, _, _] rfl ?_
 refine Wk.seq ?_
 refine Wk.block ?_
 refine Wk.loop (σ := Nat × List UInt8 × List UInt8 × Int) (fun ⟨i, t, u, m⟩ => (0 ≤ m ∧ m ≤ 100) ∧ m.toNat * 2 ^ i ≤ 100 ∧ u.length = 2 ^ i ∧ t.length ≤ 2 ^ i ∧ i ≤ 7) (fun ⟨i, t, u, m⟩ => [(0, str u), (1, i6_ m), (5, str t)]) (fun ⟨i, t, u, m⟩ => Own w.heap.size w []) (fun ⟨i, t, u, m⟩ => m.toNat) ((0, [], s, n)) ⟨by omega, by omega, hs1, by simp, by omega⟩ (Sub.sel [0, 1, 5] rfl) (fun _ h => h) ?_
 rintro ⟨i, t, u, m⟩ ⟨⟨hm0, hm9⟩, hm1, hu, ht, hi⟩
 dsimp only
 refine Wk.seq ?_
 refine Wk.seq ?_
 refine Wk.regionQ ?_
 refine Lq.run 2 rfl ?_
 refine Lq.nil ?_
 refine Kt.sel [0, 1, 5, 7] [_, _, _, _] rfl ?_
 refine Wk.cond (b := decide ((0 : Int) < m)) rfl (fun h7 => ?_) (fun h7 => ?_)
 ·
  replace h7 := of_decide_eq_true h7
  have h128 : 2 ^ i ≤ 128 := Nat.le_trans (Nat.pow_le_pow_right (by decide) hi) (by decide)
  refine Wk.skip ?_
  refine Kt.sel [0, 1, 5] [_, _, _] rfl ?_
  refine Wk.block ?_
  refine Wk.seq ?_
  refine Wk.seq ?_
  refine Wk.regionQ ?_
  refine Lq.run 1 rfl ?_
  refine Lq.op (v := i6_ (m % (2 : Int))) rfl rfl rfl (OpQ.rem rfl rfl rfl (by omega) (by decide)) ?_
  refine Lq.run 1 rfl ?_
  refine Lq.nil ?_
  refine Kt.sel [0, 1, 5, 10] [_, _, _, _] rfl ?_
  refine Wk.cond (b := decide ((m % (2 : Int)) = (1 : Int))) rfl (fun h10 => ?_) (fun h10 => ?_)
  ·
   replace h10 := of_decide_eq_true h10
   refine Wk.regionQ ?_
   refine Lq.run 2 rfl ?_
   refine Lq.op rfl rfl rfl (OpQ.sadd rfl rfl rfl (by first | omega | (simp only [List.length_append, List.length_cons, List.length_nil]; omega))) ?_
   refine Lq.run 1 rfl ?_
   refine Lq.nil ?_
   refine Kt.sel [0, 1, 5] [_, _, _] rfl ?_
   refine Wk.seq ?_
   refine Wk.regionQ ?_
   refine Lq.run 2 rfl ?_
   refine Lq.op rfl rfl rfl (OpQ.sadd rfl rfl rfl (by first | omega | (simp only [List.length_append, List.length_cons, List.length_nil]; omega))) ?_
   refine Lq.run 1 rfl ?_
   refine Lq.nil ?_
   refine Kt.sel [0, 1, 5] [_, _, _] rfl ?_
   refine Wk.regionQ ?_
   refine Lq.run 1 rfl ?_
   refine Lq.op (v := i6_ (m / (2 : Int))) rfl rfl rfl (OpQ.quo rfl rfl rfl (by omega) (by omega) (by decide)) ?_
   refine Lq.run 1 rfl ?_
   refine Lq.nil ?_
   refine Kt.again ((i + 1, t ++ u, u ++ u, m / (2 : Int))) ⟨by dsimp only; omega, many_half hm0 hm1, by rw [List.length_append, hu, Nat.pow_succ]; omega, by dsimp only; (try rw [List.length_append]); rw [Nat.pow_succ]; omega, many_more hm1 (by omega)⟩ (by dsimp only; omega) (Sub.sel [0, 1, 5] rfl) (fun _ h => h)
  ·
   replace h10 := of_decide_eq_false h10
   refine Wk.skip ?_
   refine Kt.sel [0, 1, 5] [_, _, _] rfl ?_
   refine Wk.seq ?_
   refine Wk.regionQ ?_
   refine Lq.run 2 rfl ?_
   refine Lq.op rfl rfl rfl (OpQ.sadd rfl rfl rfl (by first | omega | (simp only [List.length_append, List.length_cons, List.length_nil]; omega))) ?_
   refine Lq.run 1 rfl ?_
   refine Lq.nil ?_
   refine Kt.sel [0, 1, 5] [_, _, _] rfl ?_
   refine Wk.regionQ ?_
   refine Lq.run 1 rfl ?_
   refine Lq.op (v := i6_ (m / (2 : Int))) rfl rfl rfl (OpQ.quo rfl rfl rfl (by omega) (by omega) (by decide)) ?_
   refine Lq.run 1 rfl ?_
   refine Lq.nil ?_
   refine Kt.again ((i + 1, t, u ++ u, m / (2 : Int))) ⟨by dsimp only; omega, many_half hm0 hm1, by rw [List.length_append, hu, Nat.pow_succ]; omega, by dsimp only; (try rw [List.length_append]); rw [Nat.pow_succ]; omega, many_more hm1 (by omega)⟩ (by dsimp only; omega) (Sub.sel [0, 1, 5] rfl) (fun _ h => h)
 ·
  replace h7 := of_decide_eq_false h7
  refine Wk.exit rfl ?_
  refine Kt.sel [5] [_] rfl ?_
  refine Wk.seq ?_
  refine Wk.regionQ ?_
  refine Lq.run 2 rfl ?_
  refine Lq.nil ?_
  refine Kt.sel [4] [_] rfl ?_
  refine Wk.ret (Kt.end1 rfl rfl fun w' hw => ?_)
  -- ret 0: str t
  exact ⟨t, rfl, Nat.le_trans ht (Nat.le_trans (Nat.pow_le_pow_right (by decide) hi) (by decide)), hw.below⟩

end Go.Proofs.YtjcoijejhachhaaDoor
