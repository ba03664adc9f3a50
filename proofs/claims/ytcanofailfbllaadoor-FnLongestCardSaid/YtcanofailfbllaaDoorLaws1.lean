/-
  Walk: a law of drawn lists.
-/
import Derived.Test.YtcanofailfbllaaDoorPlain26
import Derived.Test.YtcanofailfbllaaDoorDrawsC
import Derived.Test.YtcanofailfbllaaDoorBase
namespace Go.Proofs.YtcanofailfbllaaDoor
open Go.RowKit Go.Wk
set_option linter.unusedSimpArgs false

set_option maxHeartbeats 400000 in
/-- laws.FnLongest -/
theorem lawFnLongest (bv : Value) (L : List Int) (w : World) (hbv : Row w bv (u8s L)) (hL8 : Bytes8 L) (hLm : L.length ≤ 9223372036854775807) :
    Calls Tryd.prog 11 [bv].toArray w fun en w' => en = .returned (.bool true) ∧ Below w.heap.size w w' := by
 refine fnStart (n := 65) (e := [(0, bv)]) Tryd.func11 rfl rfl rfl rfl Ends.both ?_
 refine Wk.seq ?_
 refine Wk.regionQ ?_
 refine Lq.op (v := .bool false) rfl rfl rfl (OpQ.assign rfl rfl) ?_
 refine Lq.nil ?_
 refine Kt.onSub (e' := [(0, bv)]) (Sub.cons rfl Sub.nil) ?_
 refine Wk.seq ?_
 refine Wk.seq ?_
 refine Wk.regionQ ?_
 refine Lq.op rfl rfl rfl (OpQ.move rfl rfl) ?_
 refine Lq.op (v := .int .i64 ((L.length : Int))) rfl rfl rfl (OpQ.lenRow rfl Tryd.runUnderlying47 rfl (u8s_length _) (fun w1 hw1 => Row.own hbv hw1)) ?_
 refine Lq.op (v := .bool (decide ((1048576 : Int) < ((L.length : Int))))) rfl rfl rfl (OpQ.gtr rfl rfl rfl) ?_
 refine Lq.nil ?_
 refine Kt.onSub (e' := [(0, bv), (11, .bool (decide ((1048576 : Int) < ((L.length : Int)))))]) (Sub.cons rfl (Sub.cons rfl Sub.nil)) ?_
 refine Wk.cond (b := decide ((1048576 : Int) < ((L.length : Int)))) rfl (fun h11 => ?_) (fun h11 => ?_)
 ·
  replace h11 := of_decide_eq_true h11
  refine Wk.seq ?_
  refine Wk.regionQ ?_
  refine Lq.op (v := .bool true) rfl rfl rfl (OpQ.assign rfl rfl) ?_
  refine Lq.nil ?_
  refine Kt.onSub (e' := [(2, .bool true)]) (Sub.cons rfl Sub.nil) ?_
  refine Wk.ret (Kt.end1 rfl rfl fun w' hw => ?_)
  -- ret 0: .bool true
  exact ⟨ret_b (by first | rfl | (simp_all; done) | (simp_all; omega)), hw.below⟩
 ·
  replace h11 := of_decide_eq_false h11
  refine Wk.skip ?_
  refine Kt.onSub (e' := [(0, bv)]) (Sub.cons rfl Sub.nil) ?_
  refine Wk.seq ?_
  refine Wk.region ?_
  refine Ll.op rfl rfl rfl (OpQ.move rfl rfl) ?_
  refine Ll.callBack (ok := fun ((a, b, v, xs, u, ys, new) : St × St × Value × List Int × Value × List Int × List (Nat × Obj)) => ((a.Tame ∧ b.Tame) ∧ (xs.length ≤ 40 ∧ ys.length ≤ 40) ∧ ∀ w1, Own w.heap.size w new w1 → Ints w1 v xs ∧ Ints w1 u ys) ∧ True) (v := fun ((a, b, v, xs, u, ys, new) : St × St × Value × List Int × Value × List Int × List (Nat × Obj)) => .tuple #[vS a, v, vS b, u]) (new := fun ((a, b, v, xs, u, ys, new) : St × St × Value × List Int × Value × List Int × List (Nat × Obj)) => new) (hs := []) (xs := [.tmp 13]) (vs := [bv]) ([] : List (Nat × Obj)) rfl rfl rfl rfl Tryd.call37 rfl (fun w1 hw1 => (drawLong_ok w.heap.size w (([] : List (Nat × Obj)) ++ ([])) bv L w1 (fun w2 hw2 => Row.own hbv hw2) hL8 (by omega) hw1).mono fun en w' ⟨a, b, v, xs, u, ys, new, h1, h2, h3⟩ => ⟨(a, b, v, xs, u, ys, new), h1, h2, h3⟩) fun ⟨a14, b14, v14, xs14, u14, ys14, new14⟩ hK => ?_
  dsimp only at hK
  obtain ⟨⟨⟨hta14, htb14⟩, ⟨hlxs14, hlys14⟩, hrw⟩, -⟩ := hK
  have hIv14 : ∀ w1, Own w.heap.size w new14 w1 → Ints w1 v14 xs14 := fun w1 h => (hrw w1 h).1
  have hIu14 : ∀ w1, Own w.heap.size w new14 w1 → Ints w1 u14 ys14 := fun w1 h => (hrw w1 h).2
  have hsa14 := hta14.small
  have loa14 := hta14.lo
  have hia14 := hta14.hi
  have hsb14 := htb14.small
  have lob14 := htb14.lo
  have hib14 := htb14.hi
  show Ll _ _ (Own _ _ ((new14 ++ ([])))) _ _ ((14, .tuple #[vS a14, v14, vS b14, u14]) :: _) _ _ _
  refine Ll.op rfl rfl rfl (OpQ.move rfl rfl) ?_
  refine Ll.op (v := vS a14) rfl rfl rfl (OpQ.extract rfl rfl rfl) ?_
  refine Ll.op (v := v14) rfl rfl rfl (OpQ.extract rfl rfl rfl) ?_
  refine Ll.op (v := vS b14) rfl rfl rfl (OpQ.extract rfl rfl rfl) ?_
  refine Ll.op (v := u14) rfl rfl rfl (OpQ.extract rfl rfl rfl) ?_
  refine Ll.alloc rfl rfl rfl rfl Tryd.zeroValue26 fun p3 hp3 => ?_
  show Ll _ _ (Own _ _ ((p3, .cells #[.int .i64 0, str ([]), str ([])] 26 (0, 0)) :: (new14 ++ ([])))) _ _ ((3, .pointer (some ⟨p3, 0, none⟩)) :: _) _ _ _
  refine Ll.alloc rfl rfl rfl rfl Tryd.zeroValue26 fun p5 hp5 => ?_
  show Ll _ _ (Own _ _ ((p5, .cells #[.int .i64 0, str ([]), str ([])] 26 (0, 0)) :: (p3, .cells #[.int .i64 0, str ([]), str ([])] 26 (0, 0)) :: (new14 ++ ([])))) _ _ ((5, .pointer (some ⟨p5, 0, none⟩)) :: _) _ _ _
  refine Ll.storeBox (cs' := #[.int .i64 a14.n, str a14.set, str a14.rel]) (hs' := ((p5, .cells #[.int .i64 0, str ([]), str ([])] 26 (0, 0)) :: (p3, .cells #[.int .i64 a14.n, str a14.set, str a14.rel] 26 (0, 0)) :: (new14 ++ ([])))) 1 rfl rfl rfl rfl rfl (by kernel_rfl : _ = some Tryd.t26) rfl rfl rfl rfl rfl ?_
  refine Ll.op rfl rfl rfl (OpQ.assign rfl rfl) ?_
  refine Ll.storeBox (cs' := #[.int .i64 b14.n, str b14.set, str b14.rel]) (hs' := ((p5, .cells #[.int .i64 b14.n, str b14.set, str b14.rel] 26 (0, 0)) :: (p3, .cells #[.int .i64 a14.n, str a14.set, str a14.rel] 26 (0, 0)) :: (new14 ++ ([])))) 0 rfl rfl rfl rfl rfl (by kernel_rfl : _ = some Tryd.t26) rfl rfl rfl rfl rfl ?_
  refine Ll.op rfl rfl rfl (OpQ.assign rfl rfl) ?_
  refine Ll.nil ?_
  refine Kt.onSub (e' := [(3, .pointer (some ⟨p3, 0, none⟩)), (4, v14), (5, .pointer (some ⟨p5, 0, none⟩)), (6, u14)]) (Sub.cons rfl (Sub.cons rfl (Sub.cons rfl (Sub.cons rfl Sub.nil)))) ?_
  refine Wk.seq ?_
  refine Wk.regionQ ?_
  refine Lq.op (v := vS a14) rfl rfl rfl (OpQ.loadBox (cs := #[.int .i64 a14.n, str a14.set, str a14.rel]) 1 rfl Tryd.isAgg26 rfl rfl Tryd.sizeOf26) ?_
  refine Lq.op rfl rfl rfl (OpQ.move rfl rfl) ?_
  refine Lq.op (v := vS b14) rfl rfl rfl (OpQ.loadBox (cs := #[.int .i64 b14.n, str b14.set, str b14.rel]) 0 rfl Tryd.isAgg26 rfl rfl Tryd.sizeOf26) ?_
  refine Lq.op rfl rfl rfl (OpQ.move rfl rfl) ?_
  refine Lq.op (v := .int .i64 (longI a14 xs14 b14 ys14)) rfl rfl rfl (OpQ.call rfl Tryd.call38 rfl Own.stable (fun w1 hw1 => iLong_ok a14 b14 xs14 ys14 v14 u14 w1 hsa14 hsb14 (hIv14 _ (Own.dropR (Own.drop (f := [_, _]) hw1))) (hIu14 _ (Own.dropR (Own.drop (f := [_, _]) hw1))) (by first | (simp; done) | (simp; omega) | omega) (by first | (simp; done) | (simp; omega) | omega))) ?_
  refine Lq.op rfl rfl rfl (OpQ.assign rfl rfl) ?_
  refine Lq.nil ?_
  refine Kt.onSub (e' := [(3, .pointer (some ⟨p3, 0, none⟩)), (4, v14), (5, .pointer (some ⟨p5, 0, none⟩)), (6, u14), (7, .int .i64 (longI a14 xs14 b14 ys14))]) (Sub.cons rfl (Sub.cons rfl (Sub.cons rfl (Sub.cons rfl (Sub.cons rfl Sub.nil))))) ?_
  refine Wk.seq ?_
  refine Wk.seq ?_
  refine Wk.regionQ ?_
  refine Lq.op rfl rfl rfl (OpQ.move rfl rfl) ?_
  refine Lq.op (v := vS a14) rfl rfl rfl (OpQ.loadBox (cs := #[.int .i64 a14.n, str a14.set, str a14.rel]) 1 rfl Tryd.isAgg26 rfl rfl Tryd.sizeOf26) ?_
  refine Lq.op rfl rfl rfl (OpQ.move rfl rfl) ?_
  refine Lq.op (v := vS b14) rfl rfl rfl (OpQ.loadBox (cs := #[.int .i64 b14.n, str b14.set, str b14.rel]) 0 rfl Tryd.isAgg26 rfl rfl Tryd.sizeOf26) ?_
  refine Lq.op rfl rfl rfl (OpQ.move rfl rfl) ?_
  refine Lq.op (v := .int .i64 (longI a14 xs14 b14 ys14)) rfl rfl rfl (OpQ.call rfl Tryd.call39 rfl Own.stable (fun w1 hw1 => sLong_ok a14 b14 xs14 ys14 v14 u14 w1 hsa14 hsb14 (hIv14 _ (Own.dropR (Own.drop (f := [_, _]) hw1))) (hIu14 _ (Own.dropR (Own.drop (f := [_, _]) hw1))) (by first | (simp; done) | (simp; omega) | omega) (by first | (simp; done) | (simp; omega) | omega) loa14 hia14 lob14 hib14)) ?_
  refine Lq.op (v := .bool (!(decide ((longI a14 xs14 b14 ys14) = (longI a14 xs14 b14 ys14))))) rfl rfl rfl (OpQ.neq rfl rfl rfl) ?_
  refine Lq.op (v := .bool (!(decide ((longI a14 xs14 b14 ys14) = (longI a14 xs14 b14 ys14))))) rfl rfl rfl (OpQ.move rfl rfl) ?_
  refine Lq.bool fun b31 hg31 => ?_
  cases b31
  ·
   replace hg31 := not_false hg31
   replace hg31 := of_decide_eq_true hg31
   refine Lq.op rfl rfl rfl (OpQ.move rfl rfl) ?_
   refine Lq.op (v := .bool (decide ((longI a14 xs14 b14 ys14) < (0 : Int)))) rfl rfl rfl (OpQ.lss rfl rfl rfl) ?_
   refine Lq.op (v := .bool (decide ((longI a14 xs14 b14 ys14) < (0 : Int)))) rfl rfl rfl (OpQ.pickF rfl rfl rfl) ?_
   refine Lq.nil ?_
   refine Kt.onSub (e' := [(3, .pointer (some ⟨p3, 0, none⟩)), (4, v14), (5, .pointer (some ⟨p5, 0, none⟩)), (6, u14), (7, .int .i64 (longI a14 xs14 b14 ys14)), (34, .bool (decide ((longI a14 xs14 b14 ys14) < (0 : Int))))]) (Sub.cons rfl (Sub.cons rfl (Sub.cons rfl (Sub.cons rfl (Sub.cons rfl (Sub.cons rfl Sub.nil)))))) ?_
   refine Wk.cond (b := decide ((longI a14 xs14 b14 ys14) < (0 : Int))) rfl (fun h34 => ?_) (fun h34 => ?_)
   ·
    replace h34 := of_decide_eq_true h34
    refine Wk.seq ?_
    refine Wk.regionQ ?_
    refine Lq.op rfl rfl rfl (OpQ.move rfl rfl) ?_
    refine Lq.op (v := vS a14) rfl rfl rfl (OpQ.loadBox (cs := #[.int .i64 a14.n, str a14.set, str a14.rel]) 1 rfl Tryd.isAgg26 rfl rfl Tryd.sizeOf26) ?_
    refine Lq.op rfl rfl rfl (OpQ.move rfl rfl) ?_
    refine Lq.op (v := vS b14) rfl rfl rfl (OpQ.loadBox (cs := #[.int .i64 b14.n, str b14.set, str b14.rel]) 0 rfl Tryd.isAgg26 rfl rfl Tryd.sizeOf26) ?_
    refine Lq.op rfl rfl rfl (OpQ.move rfl rfl) ?_
    refine Lq.op (v := .int .i64 (longI a14 xs14 b14 ys14)) rfl rfl rfl (OpQ.call rfl Tryd.call39 rfl Own.stable (fun w1 hw1 => sLong_ok a14 b14 xs14 ys14 v14 u14 w1 hsa14 hsb14 (hIv14 _ (Own.dropR (Own.drop (f := [_, _]) hw1))) (hIu14 _ (Own.dropR (Own.drop (f := [_, _]) hw1))) (by first | (simp; done) | (simp; omega) | omega) (by first | (simp; done) | (simp; omega) | omega) loa14 hia14 lob14 hib14)) ?_
    refine Lq.op (v := .bool (decide ((longI a14 xs14 b14 ys14) = (longI a14 xs14 b14 ys14)))) rfl rfl rfl (OpQ.eql rfl rfl rfl) ?_
    refine Lq.op (v := .bool (decide ((longI a14 xs14 b14 ys14) = (longI a14 xs14 b14 ys14)))) rfl rfl rfl (OpQ.assign rfl rfl) ?_
    refine Lq.nil ?_
    refine Kt.onSub (e' := [(2, .bool (decide ((longI a14 xs14 b14 ys14) = (longI a14 xs14 b14 ys14))))]) (Sub.cons rfl Sub.nil) ?_
    refine Wk.ret (Kt.end1 rfl rfl fun w' hw => ?_)
    -- ret 1: .bool (decide ((longI a14 xs14 b14 ys14) = (longI a14 xs14 b14 ys14)))
    exact ⟨ret_b (by first | rfl | (simp_all; done) | (simp_all; omega)), hw.below⟩
   ·
    replace h34 := of_decide_eq_false h34
    have hLL := longI_listed h34
    obtain ⟨LA, LB, hlen⟩ := listsB_true hLL
    have ha := LA.fine
    have hb := LB.fine
    have hA := LA.els
    have hB := LB.els
    have hl4 := LA.len
    refine Wk.skip ?_
    refine Kt.onSub (e' := [(3, .pointer (some ⟨p3, 0, none⟩)), (4, v14), (5, .pointer (some ⟨p5, 0, none⟩)), (6, u14), (7, .int .i64 (longI a14 xs14 b14 ys14))]) (Sub.cons rfl (Sub.cons rfl (Sub.cons rfl (Sub.cons rfl (Sub.cons rfl Sub.nil))))) ?_
    refine Wk.seq ?_
    refine Wk.seq ?_
    refine Wk.regionQ ?_
    refine Lq.op rfl rfl rfl (OpQ.assign rfl rfl) ?_
    refine Lq.nil ?_
    refine Kt.onSub (e' := [(3, .pointer (some ⟨p3, 0, none⟩)), (4, v14), (5, .pointer (some ⟨p5, 0, none⟩)), (6, u14), (7, .int .i64 (longI a14 xs14 b14 ys14)), (8, .int .i64 0)]) (Sub.cons rfl (Sub.cons rfl (Sub.cons rfl (Sub.cons rfl (Sub.cons rfl (Sub.cons rfl Sub.nil)))))) ?_
    refine Wk.block ?_
    refine Wk.loop (σ := Nat) (fun k => k ≤ xs14.length + 1) (fun k => [(3, .pointer (some ⟨p3, 0, none⟩)), (4, v14), (5, .pointer (some ⟨p5, 0, none⟩)), (6, u14), (7, .int .i64 (longI a14 xs14 b14 ys14)), (8, .int .i64 ((k : Int)))]) (fun k => Own w.heap.size w ((p5, .cells #[.int .i64 b14.n, str b14.set, str b14.rel] 26 (0, 0)) :: (p3, .cells #[.int .i64 a14.n, str a14.set, str a14.rel] 26 (0, 0)) :: (new14 ++ ([])))) (fun k => xs14.length + 1 - k) (0) (by omega) (Sub.cons rfl (Sub.cons rfl (Sub.cons rfl (Sub.cons rfl (Sub.cons rfl (Sub.cons rfl Sub.nil)))))) (fun _ h => h) ?_
    rintro k hk
    refine Wk.seq ?_
    refine Wk.seq ?_
    refine Wk.regionQ ?_
    refine Lq.op rfl rfl rfl (OpQ.move rfl rfl) ?_
    refine Lq.op rfl rfl rfl (OpQ.move rfl rfl) ?_
    refine Lq.op (v := .int .i64 ((xs14.length : Int))) rfl rfl rfl (OpQ.lenRow rfl Tryd.runUnderlying31 rfl (ints_length _) (fun w1 hw1 => hIv14 _ (Own.dropR (Own.drop (f := [_, _]) hw1)))) ?_
    refine Lq.op (v := .bool (decide (((k : Int)) ≤ ((xs14.length : Int))))) rfl rfl rfl (OpQ.leq rfl rfl rfl) ?_
    refine Lq.nil ?_
    refine Kt.onSub (e' := [(3, .pointer (some ⟨p3, 0, none⟩)), (4, v14), (5, .pointer (some ⟨p5, 0, none⟩)), (6, u14), (7, .int .i64 (longI a14 xs14 b14 ys14)), (8, .int .i64 ((k : Int))), (45, .bool (decide (((k : Int)) ≤ ((xs14.length : Int)))))]) (Sub.cons rfl (Sub.cons rfl (Sub.cons rfl (Sub.cons rfl (Sub.cons rfl (Sub.cons rfl (Sub.cons rfl Sub.nil))))))) ?_
    refine Wk.cond (b := decide (((k : Int)) ≤ ((xs14.length : Int)))) rfl (fun h45 => ?_) (fun h45 => ?_)
    ·
     replace h45 := of_decide_eq_true h45
     refine Wk.skip ?_
     refine Kt.onSub (e' := [(3, .pointer (some ⟨p3, 0, none⟩)), (4, v14), (5, .pointer (some ⟨p5, 0, none⟩)), (6, u14), (7, .int .i64 (longI a14 xs14 b14 ys14)), (8, .int .i64 ((k : Int)))]) (Sub.cons rfl (Sub.cons rfl (Sub.cons rfl (Sub.cons rfl (Sub.cons rfl (Sub.cons rfl Sub.nil)))))) ?_
     refine Wk.seq ?_
     refine Wk.block ?_
     refine Wk.seq ?_
     refine Wk.regionD Base.mixed (fun _ h => h.drawn) (by kernel_rfl) ?_
     refine Lq.op (v := vS a14) rfl rfl rfl (OpQ.loadBox (cs := #[.int .i64 a14.n, str a14.set, str a14.rel]) 1 rfl Tryd.isAgg26 rfl rfl Tryd.sizeOf26) ?_
     refine Lq.op rfl rfl rfl (OpQ.move rfl rfl) ?_
     refine Lq.op rfl rfl rfl (OpQ.move rfl rfl) ?_
     refine Lq.op (v := sTake v14 k) rfl rfl rfl (OpQ.takeRow (i := (k : Int)) rfl Tryd.runUnderlying31 Tryd.sizeOf3 rfl rfl (by omega) (by rw [ints_length]; omega) (fun w1 hw1 => hIv14 _ (Own.dropR (Own.drop (f := [_, _]) hw1)))) ?_
     refine Lq.op (v := vS b14) rfl rfl rfl (OpQ.loadBox (cs := #[.int .i64 b14.n, str b14.set, str b14.rel]) 0 rfl Tryd.isAgg26 rfl rfl Tryd.sizeOf26) ?_
     refine Lq.op rfl rfl rfl (OpQ.move rfl rfl) ?_
     refine Lq.op rfl rfl rfl (OpQ.move rfl rfl) ?_
     refine Lq.op (v := sTake u14 k) rfl rfl rfl (OpQ.takeRow (i := (k : Int)) rfl Tryd.runUnderlying31 Tryd.sizeOf3 rfl rfl (by omega) (by rw [ints_length]; omega) (fun w1 hw1 => hIu14 _ (Own.dropR (Own.drop (f := [_, _]) hw1)))) ?_
     refine Lq.op (v := .bool (wayB a14 (xs14.take k) b14 (ys14.take k))) rfl rfl rfl (OpQ.call rfl Tryd.call40 rfl Own.stable (fun w1 hw1 => iPart_ok a14 b14 (xs14.take k) (ys14.take k) (sTake v14 k) (sTake u14 k) w1 hsa14 hsb14 (Ints.take (hIv14 _ (Own.dropR (Own.drop (f := [_, _]) hw1))) k (by omega)) (Ints.take (hIu14 _ (Own.dropR (Own.drop (f := [_, _]) hw1))) k (by omega)) (by first | (simp; done) | (simp; omega) | omega) (by first | (simp; done) | (simp; omega) | omega))) ?_
     refine Lq.op rfl rfl rfl (OpQ.move rfl rfl) ?_
     refine Lq.op rfl rfl rfl (OpQ.move rfl rfl) ?_
     refine Lq.op (v := .bool (decide (((k : Int)) ≤ (longI a14 xs14 b14 ys14)))) rfl rfl rfl (OpQ.leq rfl rfl rfl) ?_
     refine Lq.op (v := .bool ((wayB a14 (xs14.take k) b14 (ys14.take k)) != (decide (((k : Int)) ≤ (longI a14 xs14 b14 ys14))))) rfl rfl rfl (OpQ.bne rfl Tryd.runUnderlying4 rfl rfl) ?_
     refine Lq.nil ?_
     refine Kt.onSub (e' := [(3, .pointer (some ⟨p3, 0, none⟩)), (4, v14), (5, .pointer (some ⟨p5, 0, none⟩)), (6, u14), (7, .int .i64 (longI a14 xs14 b14 ys14)), (8, .int .i64 ((k : Int))), (60, .bool ((wayB a14 (xs14.take k) b14 (ys14.take k)) != (decide (((k : Int)) ≤ (longI a14 xs14 b14 ys14)))))]) (Sub.cons rfl (Sub.cons rfl (Sub.cons rfl (Sub.cons rfl (Sub.cons rfl (Sub.cons rfl (Sub.cons rfl Sub.nil))))))) ?_
     refine Wk.cond (b := (wayB a14 (xs14.take k) b14 (ys14.take k)) != (decide (((k : Int)) ≤ (longI a14 xs14 b14 ys14)))) rfl (fun h60 => ?_) (fun h60 => ?_)
     ·
      rw [long_way hLL (by omega)] at h60; simp at h60
     ·
      refine Wk.skip ?_
      refine Kt.onSub (e' := [(3, .pointer (some ⟨p3, 0, none⟩)), (4, v14), (5, .pointer (some ⟨p5, 0, none⟩)), (6, u14), (7, .int .i64 (longI a14 xs14 b14 ys14)), (8, .int .i64 ((k : Int)))]) (Sub.cons rfl (Sub.cons rfl (Sub.cons rfl (Sub.cons rfl (Sub.cons rfl (Sub.cons rfl Sub.nil)))))) ?_
      refine Wk.regionQ ?_
      refine Lq.op rfl rfl rfl (OpQ.move rfl rfl) ?_
      refine Lq.op (v := .int .i64 (((k : Int)) + (1 : Int))) rfl rfl rfl (OpQ.add rfl rfl rfl (by omega) (by omega)) ?_
      refine Lq.op rfl rfl rfl (OpQ.assign rfl rfl) ?_
      refine Lq.nil ?_
      refine Kt.again (k + 1) (by omega) (by omega) (Sub.cons rfl (Sub.cons rfl (Sub.cons rfl (Sub.cons rfl (Sub.cons rfl (Sub.cons rfl Sub.nil)))))) (fun _ h => h)
    ·
     replace h45 := of_decide_eq_false h45
     refine Wk.exit rfl ?_
     refine Kt.onSub (e' := [(4, v14), (7, .int .i64 (longI a14 xs14 b14 ys14))]) (Sub.cons rfl (Sub.cons rfl Sub.nil)) ?_
     refine Wk.seq ?_
     refine Wk.regionQ ?_
     refine Lq.op rfl rfl rfl (OpQ.move rfl rfl) ?_
     refine Lq.op rfl rfl rfl (OpQ.move rfl rfl) ?_
     refine Lq.op (v := .int .i64 ((xs14.length : Int))) rfl rfl rfl (OpQ.lenRow rfl Tryd.runUnderlying31 rfl (ints_length _) (fun w1 hw1 => hIv14 _ (Own.dropR (Own.drop (f := [_, _]) hw1)))) ?_
     refine Lq.op (v := .bool (decide ((longI a14 xs14 b14 ys14) ≤ ((xs14.length : Int))))) rfl rfl rfl (OpQ.leq rfl rfl rfl) ?_
     refine Lq.op (v := .bool (decide ((longI a14 xs14 b14 ys14) ≤ ((xs14.length : Int))))) rfl rfl rfl (OpQ.assign rfl rfl) ?_
     refine Lq.nil ?_
     refine Kt.onSub (e' := [(2, .bool (decide ((longI a14 xs14 b14 ys14) ≤ ((xs14.length : Int)))))]) (Sub.cons rfl Sub.nil) ?_
     refine Wk.ret (Kt.end1 rfl rfl fun w' hw => ?_)
     -- ret 2: .bool (decide ((longI a14 xs14 b14 ys14) ≤ ((xs14.length : Int))))
     exact ⟨ret_b (decide_eq_true (longI_le hLL)), hw.below⟩
  ·
   replace hg31 := not_true hg31
   replace hg31 := of_decide_eq_false hg31
   exact absurd rfl hg31

end Go.Proofs.YtcanofailfbllaaDoor
