/-
  Walks: other structures.
-/
import Derived.Test.YtmannilblelfjaaDoorPlain35
import Derived.Test.YtmannilblelfjaaDoorKindsM
import Derived.Test.YtmannilblelfjaaDoorBase
namespace Go.Proofs.YtmannilblelfjaaDoor
open Go.RowKit Go.Wk
set_option linter.unusedSimpArgs false

set_option maxHeartbeats 400000 in
/-- impl.otherBits -/
theorem otherBits_ok (s : List UInt8) (w : World) (hs : s.length ≤ 1048576) :
    Calls Tryd.prog 93 [str s].toArray w fun en w' => en = .returned (str (flipTo s s.length)) ∧ Below w.heap.size w w' := by
 refine fnStart (n := 19) (e := [(0, str s)]) Tryd.func93 rfl rfl rfl rfl Ends.both ?_
 refine Wk.seq ?_
 refine Wk.regionQ ?_
 refine Lq.op (v := str ([])) rfl rfl rfl (OpQ.assign rfl rfl) ?_
 refine Lq.nil ?_
 refine Kt.sel [0] [_] rfl ?_
 refine Wk.seq ?_
 refine Wk.regionQ ?_
 refine Lq.op (v := str ([])) rfl rfl rfl (OpQ.assign rfl rfl) ?_
 refine Lq.nil ?_
 refine Kt.sel [0, 3] [_, _] rfl ?_
 refine Wk.seq ?_
 refine Wk.seq ?_
 refine Wk.regionQ ?_
 refine Lq.run 1 rfl ?_
 refine Lq.op (v := i6_ ((s.length : Int))) rfl rfl rfl (OpQ.lenStr rfl Tryd.runUnderlying9 rfl) ?_
 refine Lq.run 1 rfl ?_
 refine Lq.nil ?_
 refine Kt.sel [0, 3, 6, 7] [_, _, _, _] rfl ?_
 refine Wk.block ?_
 refine Wk.loop (σ := Nat) (fun k => k ≤ s.length) (fun k => [(0, str s), (3, str (flipTo s k)), (6, i6_ ((s.length : Int))), (7, i6_ ((k : Int)))]) (fun k => Own w.heap.size w []) (fun k => s.length - k) (0) (by omega) (Sub.cons rfl (Sub.cons (by rfl) (Sub.sel [6, 7] rfl))) (fun _ h => h) ?_
 rintro k hk
 refine Wk.seq ?_
 refine Wk.regionQ ?_
 refine Lq.run 1 rfl ?_
 refine Lq.nil ?_
 refine Kt.sel [0, 3, 6, 7, 8] [_, _, _, _, _] rfl ?_
 refine Wk.seq ?_
 refine Wk.cond (b := decide (((k : Int)) < ((s.length : Int)))) rfl (fun h8 => ?_) (fun h8 => ?_)
 ·
  replace h8 := of_decide_eq_true h8
  refine Wk.skip ?_
  refine Kt.sel [0, 3, 6, 7] [_, _, _, _] rfl ?_
  refine Wk.seq ?_
  refine Wk.block ?_
  refine Wk.seq ?_
  refine Wk.regionQ ?_
  refine Lq.run 2 rfl ?_
  refine Lq.nil ?_
  refine Kt.sel [0, 3, 4, 6, 7] [_, _, _, _, _] rfl ?_
  refine Wk.regionQ ?_
  refine Lq.run 3 rfl ?_
  refine Lq.op (v := .int .u8 (((s.getD (((k : Int)).toNat) 0).toNat : Int))) rfl rfl rfl (OpQ.indexStr rfl Tryd.runUnderlying9 rfl rfl (by omega) (by omega)) ?_
  refine Lq.run 1 rfl ?_
  refine Lq.op (v := str ((if decide ((((s.getD (((k : Int)).toNat) 0).toNat : Int)) = (48 : Int)) then [49] else [48]))) rfl rfl rfl (OpQ.call rfl Tryd.call141 rfl Own.stable (fun w1 hw1 => bitOf_ok (decide ((((s.getD (((k : Int)).toNat) 0).toNat : Int)) = (48 : Int))) w1 )) ?_
  refine Lq.op rfl rfl rfl (OpQ.sadd rfl rfl rfl (by rw [flip_len]; split <;> simp <;> omega)) ?_
  refine Lq.run 1 rfl ?_
  refine Lq.nil ?_
  refine Kt.sel [0, 3, 6, 7] [_, _, _, _] rfl ?_
  refine Wk.regionQ ?_
  refine Lq.op rfl rfl rfl (OpQ.add rfl rfl rfl (by omega) (by omega)) ?_
  refine Lq.run 1 rfl ?_
  refine Lq.nil ?_
  refine Kt.again (k + 1) (by omega) (by omega) (Sub.cons rfl (Sub.cons (by rw [flip_step]; rfl) (Sub.sel [6, 7] rfl))) (fun _ h => h)
 ·
  replace h8 := of_decide_eq_false h8
  refine Wk.exit rfl ?_
  refine Kt.sel [3] [_] rfl ?_
  refine Wk.seq ?_
  refine Wk.regionQ ?_
  refine Lq.run 2 rfl ?_
  refine Lq.nil ?_
  refine Kt.sel [2] [_] rfl ?_
  refine Wk.ret (Kt.end1 rfl rfl fun w' hw => ?_)
  -- ret 0: str (flipTo s k)
  exact ⟨ret_s (by rw [show k = s.length from by omega]), hw.below⟩

set_option maxHeartbeats 400000 in
/-- impl.OtherStructure -/
theorem iOther_ok (a : St) (w : World) (hsa : a.Small) :
    Calls Tryd.prog 32 [vS a].toArray w fun en w' => ∃ o : St, ∃ y : Bool, en = .returned (.tuple #[vS o, bo_ y]) ∧ ((o.Small ∧ -9223372036854775808 ≤ o.n ∧ o.n ≤ 9223372036854775807) ∧ (validB a = true → AltOf a o)) ∧ Below w.heap.size w w' := by
 refine fnStart (n := 17) (e := [(0, vS a)]) Tryd.func32 rfl rfl rfl rfl Ends.both ?_
 refine Wk.seq ?_
 refine Wk.region ?_
 refine Ll.box (v := vS a) rfl rfl rfl rfl rfl fun p1 hp1 => ?_
 show Ll _ _ (Own _ _ [_]) _ _ ((1, pt_ p1) :: _) _ _ _
 refine Ll.alloc rfl rfl rfl rfl Tryd.zeroValue24 fun p2 hp2 => ?_
 show Ll _ _ (Own _ _ [bk_ p2 #[i6_ 0, str ([]), str ([])] 24, _]) _ _ ((2, pt_ p2) :: _) _ _ _
 refine Ll.run 1 rfl ?_
 refine Ll.nil ?_
 refine Kt.sel [1, 2] [_, _] rfl ?_
 refine Wk.seq ?_
 refine Wk.seq ?_
 refine Wk.regionQ ?_
 refine Lq.op rfl rfl rfl (OpQ.loadBox (cs := #[i6_ a.n, str a.set, str a.rel]) 1 rfl Tryd.isAgg24 rfl rfl Tryd.sizeOf24) ?_
 refine Lq.op (v := bo_ (validB a)) rfl rfl rfl (OpQ.call rfl Tryd.call68 rfl Own.stable (fun w1 hw1 => isStructure_ok a w1 hsa)) ?_
 refine Lq.run 1 rfl ?_
 refine Lq.nil ?_
 refine Kt.sel [1, 2, 6] [_, _, _] rfl ?_
 refine Wk.cond (b := !(validB a)) rfl (fun h6 => ?_) (fun h6 => ?_)
 ·
  replace h6 := not_true h6
  refine Wk.seq ?_
  refine Wk.region ?_
  refine Ll.op (v := .agg #[i6_ 0, str ([]), str ([])]) rfl rfl rfl (OpQ.build (xs := []) (vs := []) rfl rfl (by kernel_rfl)) ?_
  refine Ll.storeBox (cs' := #[i6_ 0, str ([]), str ([])]) (hs' := [bk_ p2 #[i6_ 0, str ([]), str ([])] 24, _]) 0 rfl rfl rfl rfl rfl (by kernel_rfl : _ = some Tryd.t24) rfl rfl rfl rfl rfl ?_
  refine Ll.run 1 rfl ?_
  refine Ll.nil ?_
  refine Kt.sel [2, 3] [_, _] rfl ?_
  refine Wk.ret (Kt.endMany rfl (.cell (cs := #[i6_ 0, str ([]), str ([])]) rfl (fun w1 hw1 => hw1.loadBox 0 rfl Tryd.isAgg24 Tryd.sizeOf24) (.tmp (v := bo_ false) rfl ResAt.nil)) (by simp) fun w' hw => ?_)
  -- ret 0: .agg #[i6_ 0, str ([]), str ([])]; bo_ false
  exact ⟨⟨0, [], []⟩, false, rfl, ⟨⟨⟨by simp, by simp⟩, by decide, by decide⟩, fun h => by simp_all⟩, hw.below⟩
 ·
  replace h6 := not_false h6
  have hv : validB a = true := by simp_all
  have ha := validB_fine hv
  refine Wk.skip ?_
  refine Kt.sel [1, 2] [_, _] rfl ?_
  refine Wk.seq ?_
  refine Wk.regionS (S := Own w.heap.size w [bk_ p1 #[i6_ a.n, str a.set, str a.rel] 24]) [(0, true), (1, true), (2, true), (3, true), (5, true), (6, true), (4, false), (7, false), (8, true), (9, false), (10, true)] Base.mixed (fun _ h => h.drawn) (by kernel_rfl) ?_
  refine Ld.take rfl rfl rfl rfl rfl (OpQ.fieldAddr rfl Tryd.runUnderlying24 rfl Tryd.sizeOf3 rfl rfl) (fun _ h => h.tail) ?_
  refine Ld.take rfl rfl rfl rfl rfl (OpQ.loadOwn 0 rfl Tryd.isAgg3 rfl rfl rfl) (fun _ h => h.tail) ?_
  refine Ld.take rfl rfl rfl rfl rfl (OpQ.fieldAddr rfl Tryd.runUnderlying24 rfl Tryd.sizeOf9 rfl rfl) (fun _ h => h.tail) ?_
  refine Ld.take rfl rfl rfl rfl rfl (OpQ.loadOwn 0 rfl Tryd.isAgg9 rfl rfl rfl) (fun _ h => h.tail) ?_
  refine Ld.take rfl rfl rfl rfl rfl (OpQ.fieldAddr rfl Tryd.runUnderlying24 rfl Tryd.sizeOf9 rfl rfl) (fun _ h => h.tail) ?_
  refine Ld.take rfl rfl rfl rfl rfl (OpQ.loadOwn 0 rfl Tryd.isAgg9 rfl rfl rfl) (fun _ h => h.tail) ?_
  refine Ld.loud rfl ?_
  refine Ll.op (v := str (flipTo a.set a.set.length)) rfl rfl rfl (OpQ.call rfl Tryd.call93 rfl Own.stable (fun w1 hw1 => otherBits_ok a.set w1 (by have := hsa.set; omega))) ?_
  refine Ll.nil (Ld.joint (fun _ h => h.tail) ?_)
  refine Ld.loud rfl ?_
  refine Ll.op (v := str (flipTo a.rel a.rel.length)) rfl rfl rfl (OpQ.call rfl Tryd.call93 rfl Own.stable (fun w1 hw1 => otherBits_ok a.rel w1 (by have := hsa.rel; omega))) ?_
  refine Ll.nil (Ld.joint (fun _ h => h.tail) ?_)
  refine Ld.take (v := .agg #[i6_ a.n, str (flipTo a.set a.set.length), str (flipTo a.rel a.rel.length)]) rfl rfl rfl rfl rfl (OpQ.build (xs := [.tmp 9, .tmp 12, .tmp 15]) (vs := [i6_ a.n, str (flipTo a.set a.set.length), str (flipTo a.rel a.rel.length)]) rfl rfl (by kernel_rfl)) (fun _ h => h.tail) ?_
  refine Ld.loud rfl ?_
  refine Ll.storeBox (cs' := #[i6_ a.n, str (flipTo a.set a.set.length), str (flipTo a.rel a.rel.length)]) (hs' := [bk_ p2 #[i6_ a.n, str (flipTo a.set a.set.length), str (flipTo a.rel a.rel.length)] 24, _]) 0 rfl rfl rfl rfl rfl (by kernel_rfl : _ = some Tryd.t24) rfl rfl rfl rfl rfl ?_
  refine Ll.nil (Ld.joint (fun _ h => h.tail) ?_)
  refine Ld.run 1 rfl (fun _ h => h.tail) ?_
  refine Ld.nil ?_
  refine Kt.sel [2, 3] [_, _] rfl ?_
  refine Wk.ret (Kt.endMany rfl (.cell (cs := #[i6_ a.n, str (flipTo a.set a.set.length), str (flipTo a.rel a.rel.length)]) rfl (fun w1 hw1 => hw1.loadBox 0 rfl Tryd.isAgg24 Tryd.sizeOf24) (.tmp (v := bo_ true) rfl ResAt.nil)) (by simp) fun w' hw => ?_)
  -- ret 1: .agg #[i6_ a.n, str (flipTo a.set a.set.length), str (flipTo a.rel a.rel.length)]; bo_ true
  exact ⟨otherSt a, true, rfl, ⟨⟨alt_small hv (alt_other hv), by have := ha.lo; show -9223372036854775808 ≤ a.n; omega, by have := ha.hi; show a.n ≤ 9223372036854775807; omega⟩, fun _ => alt_other hv⟩, hw.below⟩

set_option maxHeartbeats 400000 in
/-- impl.makeStructure -/
theorem mkStruct_ok (N : Int) (p : Nat → Bool) (q : Nat → Nat → Bool) (F1 F2 : FuncId) (b1 c1 b2 c2 : Array Value) (w : World) (h1 : 1 ≤ N) (h8 : N ≤ 8) (hF1 : ∀ args w, (callFunc F1 args).run Tryd.prog w = .ok (.enter F1 args) w) (hF2 : ∀ args w, (callFunc F2 args).run Tryd.prog w = .ok (.enter F2 args) w) (hp : ∀ w1, Below w.heap.size w w1 → ∀ x : Nat, (x : Int) < N → Calls Tryd.prog F1 (b1 ++ #[.int .i64 x] ++ c1) w1 fun en w' => en = .returned (.bool (p x)) ∧ Below w1.heap.size w1 w') (hq : ∀ w1, Below w.heap.size w w1 → ∀ x y : Nat, (x : Int) < N → (y : Int) < N → Calls Tryd.prog F2 (b2 ++ #[.int .i64 x, .int .i64 y] ++ c2) w1 fun en w' => en = .returned (.bool (q x y)) ∧ Below w1.heap.size w1 w') :
    Calls Tryd.prog 94 [i6_ N, .func (.func F1) b1 c1, .func (.func F2) b2 c2].toArray w fun en w' => en = .returned (vS (mkSt N p q)) ∧ Below w.heap.size w w' := by
 refine fnStart (n := 40) (e := [(0, i6_ N), (1, .func (.func F1) b1 c1), (2, .func (.func F2) b2 c2)]) Tryd.func94 rfl rfl rfl rfl Ends.both ?_
 refine Wk.seq ?_
 refine Wk.region ?_
 refine Ll.alloc rfl rfl rfl rfl Tryd.zeroValue24 fun p6 hp6 => ?_
 show Ll _ _ (Own _ _ [bk_ p6 #[i6_ 0, str ([]), str ([])] 24]) _ _ ((6, pt_ p6) :: _) _ _ _
 refine Ll.nil ?_
 refine Kt.sel [0, 1, 2, 6] [_, _, _, _] rfl ?_
 refine Wk.seq ?_
 refine Wk.region ?_
 refine Ll.run 1 rfl ?_
 refine Ll.op (v := .agg #[i6_ N, str ([]), str ([])]) rfl rfl rfl (OpQ.build (xs := [.tmp 10]) (vs := [i6_ N]) rfl rfl (by kernel_rfl)) ?_
 refine Ll.alloc rfl rfl rfl rfl Tryd.zeroValue24 fun p7 hp7 => ?_
 show Ll _ _ (Own _ _ [bk_ p7 #[i6_ 0, str ([]), str ([])] 24, _]) _ _ ((7, pt_ p7) :: _) _ _ _
 refine Ll.storeBox (cs' := #[i6_ N, str ([]), str ([])]) (hs' := [bk_ p7 #[i6_ N, str ([]), str ([])] 24, _]) 0 rfl rfl rfl rfl rfl (by kernel_rfl : _ = some Tryd.t24) rfl rfl rfl rfl rfl ?_
 refine Ll.nil ?_
 refine Kt.sel [0, 1, 2, 6, 7] [_, _, _, _, _] rfl ?_
 refine Wk.seq ?_
 refine Wk.seq ?_
 refine Wk.regionQ ?_
 refine Lq.run 2 rfl ?_
 refine Lq.nil ?_
 refine Kt.sel [0, 1, 2, 6, 7, 12, 13] [_, _, _, _, _, _, _] rfl ?_
 refine Wk.block ?_
 refine Wk.loop (σ := Nat) (fun k => (k : Int) ≤ N) (fun k => [(0, i6_ N), (1, .func (.func F1) b1 c1), (2, .func (.func F2) b2 c2), (6, pt_ p6), (7, pt_ p7), (12, i6_ N), (13, i6_ ((k : Int)))]) (fun k => Own w.heap.size w [bk_ p7 #[i6_ N, str (mkSet p k), str (mkRel q N.toNat k)] 24, bk_ p6 #[i6_ 0, str ([]), str ([])] 24]) (fun k => (N - k).toNat) (0) (by omega) (Sub.sel [0, 1, 2, 6, 7, 12, 13] rfl) (fun _ h => h) ?_
 rintro k hk
 have hkn : k * N.toNat ≤ 8 * 8 := Nat.mul_le_mul (by omega) (by omega)
 refine Wk.seq ?_
 refine Wk.regionQ ?_
 refine Lq.run 1 rfl ?_
 refine Lq.nil ?_
 refine Kt.sel [0, 1, 2, 6, 7, 12, 13, 14] [_, _, _, _, _, _, _, _] rfl ?_
 refine Wk.seq ?_
 refine Wk.cond (b := decide (((k : Int)) < N)) rfl (fun h14 => ?_) (fun h14 => ?_)
 ·
  replace h14 := of_decide_eq_true h14
  refine Wk.skip ?_
  refine Kt.sel [0, 1, 2, 6, 7, 12, 13] [_, _, _, _, _, _, _] rfl ?_
  refine Wk.seq ?_
  refine Wk.block ?_
  refine Wk.seq ?_
  refine Wk.regionQ ?_
  refine Lq.run 2 rfl ?_
  refine Lq.nil ?_
  refine Kt.sel [0, 1, 2, 6, 7, 8, 12, 13] [_, _, _, _, _, _, _, _] rfl ?_
  refine Wk.seq ?_
  refine Wk.regionU (S := Own w.heap.size w [bk_ p6 #[i6_ 0, str ([]), str ([])] 24]) (.take 0 (.take 2 (.take 3 (.two 1 (.one 4 (.one 5 (.take 6 (.take 7 (.one 8 .done))))) 4 (.two 1 (.one 5 (.take 6 (.take 7 (.one 8 .done)))) 5 (.one 1 (.take 6 (.take 7 (.one 8 .done))))))))) Base.mixed (fun _ h => h.drawn) (by kernel_rfl) ?_
  refine Lu.take rfl rfl rfl rfl rfl (OpQ.fieldAddr rfl Tryd.runUnderlying24 rfl Tryd.sizeOf9 rfl rfl) (fun _ h => h.tail) ?_
  refine Lu.run 2 rfl (fun _ h => h.tail) ?_
  refine Lu.two rfl rfl ?_ ?_
  ·
   refine Ll.op rfl rfl rfl (OpQ.loadOwn 0 rfl Tryd.isAgg9 rfl rfl rfl) ?_
   refine Ll.nil (Lu.joint (fun _ h => h.tail) ?_)
   refine Lu.loud rfl ?_
   refine Ll.op (v := bo_ (p k)) rfl rfl rfl (OpQ.callFnB rfl rfl hF1 rfl Own.stable (fun w1 hw1 => hp w1 hw1.below k (by omega))) ?_
   refine Ll.nil (Lu.joint (fun _ h => h.tail) ?_)
   refine Lu.loud rfl ?_
   refine Ll.op (v := str ((if p k then [49] else [48]))) rfl rfl rfl (OpQ.call rfl Tryd.call141 rfl Own.stable (fun w1 hw1 => bitOf_ok (p k) w1 )) ?_
   refine Ll.nil (Lu.joint (fun _ h => h.tail) ?_)
   refine Lu.take rfl rfl rfl rfl rfl (OpQ.sadd rfl rfl rfl (by simp; split <;> simp <;> omega)) (fun _ h => h.tail) ?_
   refine Lu.take rfl rfl rfl rfl rfl (OpQ.fieldAddr rfl Tryd.runUnderlying24 rfl Tryd.sizeOf9 rfl rfl) (fun _ h => h.tail) ?_
   refine Lu.loud rfl ?_
   refine Ll.store1 (v := str ((mkSet p k) ++ ((if p k then [49] else [48])))) (hs' := [bk_ p7 #[i6_ N, str ((mkSet p k) ++ ((if p k then [49] else [48]))), str (mkRel q N.toNat k)] 24, _]) 0 rfl rfl rfl rfl rfl rfl Tryd.sizeOf9 rfl (by simp) rfl ?_
   refine Ll.nil (Lu.joint (fun _ h => h.tail) ?_)
   refine Lu.nil ?_
   refine Kt.sel [0, 1, 2, 6, 7, 8, 12, 13] [_, _, _, _, _, _, _, _] rfl ?_
   refine Wk.seq ?_
   refine Wk.regionQ ?_
   refine Lq.run 2 rfl ?_
   refine Lq.nil ?_
   refine Kt.sel [0, 1, 2, 6, 7, 8, 12, 13, 24, 25] [_, _, _, _, _, _, _, _, _, _] rfl ?_
   refine Wk.block ?_
   refine Wk.loop (σ := Nat) (fun j => (j : Int) ≤ N) (fun j => [(0, i6_ N), (1, .func (.func F1) b1 c1), (2, .func (.func F2) b2 c2), (6, pt_ p6), (7, pt_ p7), (8, i6_ ((k : Int))), (12, i6_ N), (13, i6_ ((k : Int))), (24, i6_ N), (25, i6_ ((j : Int)))]) (fun j => Own w.heap.size w [bk_ p7 #[i6_ N, str (mkSet p (k + 1)), str (mkRel q N.toNat k ++ mkSet (q k) j)] 24, bk_ p6 #[i6_ 0, str ([]), str ([])] 24]) (fun j => (N - j).toNat) (0) (by omega) (Sub.sel [0, 1, 2, 6, 7, 8, 12, 13, 24, 25] rfl) (fun _ h => by simpa [mkSet, bitC] using h) ?_
   rintro j hj
   refine Wk.seq ?_
   refine Wk.regionQ ?_
   refine Lq.run 1 rfl ?_
   refine Lq.nil ?_
   refine Kt.sel [0, 1, 2, 6, 7, 8, 12, 13, 24, 25, 26] [_, _, _, _, _, _, _, _, _, _, _] rfl ?_
   refine Wk.seq ?_
   refine Wk.cond (b := decide (((j : Int)) < N)) rfl (fun h26 => ?_) (fun h26 => ?_)
   ·
    replace h26 := of_decide_eq_true h26
    refine Wk.skip ?_
    refine Kt.sel [0, 1, 2, 6, 7, 8, 12, 13, 24, 25] [_, _, _, _, _, _, _, _, _, _] rfl ?_
    refine Wk.seq ?_
    refine Wk.block ?_
    refine Wk.seq ?_
    refine Wk.regionQ ?_
    refine Lq.run 2 rfl ?_
    refine Lq.nil ?_
    refine Kt.sel [0, 1, 2, 6, 7, 8, 9, 12, 13, 24, 25] [_, _, _, _, _, _, _, _, _, _, _] rfl ?_
    refine Wk.regionU (S := Own w.heap.size w [bk_ p6 #[i6_ 0, str ([]), str ([])] 24]) (.take 0 (.take 2 (.take 3 (.take 4 (.two 1 (.one 5 (.one 6 (.take 7 (.take 8 (.one 9 .done))))) 5 (.two 1 (.one 6 (.take 7 (.take 8 (.one 9 .done)))) 6 (.one 1 (.take 7 (.take 8 (.one 9 .done)))))))))) Base.mixed (fun _ h => h.drawn) (by kernel_rfl) ?_
    refine Lu.take rfl rfl rfl rfl rfl (OpQ.fieldAddr rfl Tryd.runUnderlying24 rfl Tryd.sizeOf9 rfl rfl) (fun _ h => h.tail) ?_
    refine Lu.run 3 rfl (fun _ h => h.tail) ?_
    refine Lu.two rfl rfl ?_ ?_
    ·
     refine Ll.op rfl rfl rfl (OpQ.loadOwn 0 rfl Tryd.isAgg9 rfl rfl rfl) ?_
     refine Ll.nil (Lu.joint (fun _ h => h.tail) ?_)
     refine Lu.loud rfl ?_
     refine Ll.op (v := bo_ (q k j)) rfl rfl rfl (OpQ.callFnB rfl rfl hF2 rfl Own.stable (fun w1 hw1 => hq w1 hw1.below k j (by omega) (by omega))) ?_
     refine Ll.nil (Lu.joint (fun _ h => h.tail) ?_)
     refine Lu.loud rfl ?_
     refine Ll.op (v := str ((if q k j then [49] else [48]))) rfl rfl rfl (OpQ.call rfl Tryd.call141 rfl Own.stable (fun w1 hw1 => bitOf_ok (q k j) w1 )) ?_
     refine Ll.nil (Lu.joint (fun _ h => h.tail) ?_)
     refine Lu.take rfl rfl rfl rfl rfl (OpQ.sadd rfl rfl rfl (by simp; split <;> simp <;> omega)) (fun _ h => h.tail) ?_
     refine Lu.take rfl rfl rfl rfl rfl (OpQ.fieldAddr rfl Tryd.runUnderlying24 rfl Tryd.sizeOf9 rfl rfl) (fun _ h => h.tail) ?_
     refine Lu.loud rfl ?_
     refine Ll.store1 (v := str ((mkRel q N.toNat k ++ mkSet (q k) j) ++ ((if q k j then [49] else [48])))) (hs' := [bk_ p7 #[i6_ N, str (mkSet p (k + 1)), str ((mkRel q N.toNat k ++ mkSet (q k) j) ++ ((if q k j then [49] else [48])))] 24, _]) 0 rfl rfl rfl rfl rfl rfl Tryd.sizeOf9 rfl (by simp) rfl ?_
     refine Ll.nil (Lu.joint (fun _ h => h.tail) ?_)
     refine Lu.nil ?_
     refine Kt.sel [0, 1, 2, 6, 7, 8, 12, 13, 24, 25] [_, _, _, _, _, _, _, _, _, _] rfl ?_
     refine Wk.regionQ ?_
     refine Lq.op rfl rfl rfl (OpQ.add rfl rfl rfl (by omega) (by omega)) ?_
     refine Lq.run 1 rfl ?_
     refine Lq.nil ?_
     refine Kt.again (j + 1) (by omega) (by omega) (Sub.sel [0, 1, 2, 6, 7, 8, 12, 13, 24, 25] rfl) (fun _ h => by simpa [mkSet, bitC] using h)
    ·
     refine Ll.op (v := bo_ (q k j)) rfl rfl rfl (OpQ.callFnB rfl rfl hF2 rfl Own.stable (fun w1 hw1 => hq w1 hw1.below k j (by omega) (by omega))) ?_
     refine Ll.nil (Lu.joint (fun _ h => h.tail) ?_)
     refine Lu.two rfl rfl ?_ ?_
     ·
      refine Ll.op rfl rfl rfl (OpQ.loadOwn 0 rfl Tryd.isAgg9 rfl rfl rfl) ?_
      refine Ll.nil (Lu.joint (fun _ h => h.tail) ?_)
      refine Lu.loud rfl ?_
      refine Ll.op (v := str ((if q k j then [49] else [48]))) rfl rfl rfl (OpQ.call rfl Tryd.call141 rfl Own.stable (fun w1 hw1 => bitOf_ok (q k j) w1 )) ?_
      refine Ll.nil (Lu.joint (fun _ h => h.tail) ?_)
      refine Lu.take rfl rfl rfl rfl rfl (OpQ.sadd rfl rfl rfl (by simp; split <;> simp <;> omega)) (fun _ h => h.tail) ?_
      refine Lu.take rfl rfl rfl rfl rfl (OpQ.fieldAddr rfl Tryd.runUnderlying24 rfl Tryd.sizeOf9 rfl rfl) (fun _ h => h.tail) ?_
      refine Lu.loud rfl ?_
      refine Ll.store1 (v := str ((mkRel q N.toNat k ++ mkSet (q k) j) ++ ((if q k j then [49] else [48])))) (hs' := [bk_ p7 #[i6_ N, str (mkSet p (k + 1)), str ((mkRel q N.toNat k ++ mkSet (q k) j) ++ ((if q k j then [49] else [48])))] 24, _]) 0 rfl rfl rfl rfl rfl rfl Tryd.sizeOf9 rfl (by simp) rfl ?_
      refine Ll.nil (Lu.joint (fun _ h => h.tail) ?_)
      refine Lu.nil ?_
      refine Kt.sel [0, 1, 2, 6, 7, 8, 12, 13, 24, 25] [_, _, _, _, _, _, _, _, _, _] rfl ?_
      refine Wk.regionQ ?_
      refine Lq.op rfl rfl rfl (OpQ.add rfl rfl rfl (by omega) (by omega)) ?_
      refine Lq.run 1 rfl ?_
      refine Lq.nil ?_
      refine Kt.again (j + 1) (by omega) (by omega) (Sub.sel [0, 1, 2, 6, 7, 8, 12, 13, 24, 25] rfl) (fun _ h => by simpa [mkSet, bitC] using h)
     ·
      refine Ll.op (v := str ((if q k j then [49] else [48]))) rfl rfl rfl (OpQ.call rfl Tryd.call141 rfl Own.stable (fun w1 hw1 => bitOf_ok (q k j) w1 )) ?_
      refine Ll.nil (Lu.joint (fun _ h => h.tail) ?_)
      refine Lu.loud rfl ?_
      refine Ll.op rfl rfl rfl (OpQ.loadOwn 0 rfl Tryd.isAgg9 rfl rfl rfl) ?_
      refine Ll.nil (Lu.joint (fun _ h => h.tail) ?_)
      refine Lu.take rfl rfl rfl rfl rfl (OpQ.sadd rfl rfl rfl (by simp; split <;> simp <;> omega)) (fun _ h => h.tail) ?_
      refine Lu.take rfl rfl rfl rfl rfl (OpQ.fieldAddr rfl Tryd.runUnderlying24 rfl Tryd.sizeOf9 rfl rfl) (fun _ h => h.tail) ?_
      refine Lu.loud rfl ?_
      refine Ll.store1 (v := str ((mkRel q N.toNat k ++ mkSet (q k) j) ++ ((if q k j then [49] else [48])))) (hs' := [bk_ p7 #[i6_ N, str (mkSet p (k + 1)), str ((mkRel q N.toNat k ++ mkSet (q k) j) ++ ((if q k j then [49] else [48])))] 24, _]) 0 rfl rfl rfl rfl rfl rfl Tryd.sizeOf9 rfl (by simp) rfl ?_
      refine Ll.nil (Lu.joint (fun _ h => h.tail) ?_)
      refine Lu.nil ?_
      refine Kt.sel [0, 1, 2, 6, 7, 8, 12, 13, 24, 25] [_, _, _, _, _, _, _, _, _, _] rfl ?_
      refine Wk.regionQ ?_
      refine Lq.op rfl rfl rfl (OpQ.add rfl rfl rfl (by omega) (by omega)) ?_
      refine Lq.run 1 rfl ?_
      refine Lq.nil ?_
      refine Kt.again (j + 1) (by omega) (by omega) (Sub.sel [0, 1, 2, 6, 7, 8, 12, 13, 24, 25] rfl) (fun _ h => by simpa [mkSet, bitC] using h)
   ·
    replace h26 := of_decide_eq_false h26
    refine Wk.exit rfl ?_
    refine Kt.sel [0, 1, 2, 6, 7, 12, 13] [_, _, _, _, _, _, _] rfl ?_
    refine Wk.regionQ ?_
    refine Lq.op rfl rfl rfl (OpQ.add rfl rfl rfl (by omega) (by omega)) ?_
    refine Lq.run 1 rfl ?_
    refine Lq.nil ?_
    refine Kt.again (k + 1) (by omega) (by omega) (Sub.sel [0, 1, 2, 6, 7, 12, 13] rfl) (fun _ h => by rw [show j = N.toNat from by omega] at h; exact h)
  ·
   refine Ll.op (v := bo_ (p k)) rfl rfl rfl (OpQ.callFnB rfl rfl hF1 rfl Own.stable (fun w1 hw1 => hp w1 hw1.below k (by omega))) ?_
   refine Ll.nil (Lu.joint (fun _ h => h.tail) ?_)
   refine Lu.two rfl rfl ?_ ?_
   ·
    refine Ll.op rfl rfl rfl (OpQ.loadOwn 0 rfl Tryd.isAgg9 rfl rfl rfl) ?_
    refine Ll.nil (Lu.joint (fun _ h => h.tail) ?_)
    refine Lu.loud rfl ?_
    refine Ll.op (v := str ((if p k then [49] else [48]))) rfl rfl rfl (OpQ.call rfl Tryd.call141 rfl Own.stable (fun w1 hw1 => bitOf_ok (p k) w1 )) ?_
    refine Ll.nil (Lu.joint (fun _ h => h.tail) ?_)
    refine Lu.take rfl rfl rfl rfl rfl (OpQ.sadd rfl rfl rfl (by simp; split <;> simp <;> omega)) (fun _ h => h.tail) ?_
    refine Lu.take rfl rfl rfl rfl rfl (OpQ.fieldAddr rfl Tryd.runUnderlying24 rfl Tryd.sizeOf9 rfl rfl) (fun _ h => h.tail) ?_
    refine Lu.loud rfl ?_
    refine Ll.store1 (v := str ((mkSet p k) ++ ((if p k then [49] else [48])))) (hs' := [bk_ p7 #[i6_ N, str ((mkSet p k) ++ ((if p k then [49] else [48]))), str (mkRel q N.toNat k)] 24, _]) 0 rfl rfl rfl rfl rfl rfl Tryd.sizeOf9 rfl (by simp) rfl ?_
    refine Ll.nil (Lu.joint (fun _ h => h.tail) ?_)
    refine Lu.nil ?_
    refine Kt.sel [0, 1, 2, 6, 7, 8, 12, 13] [_, _, _, _, _, _, _, _] rfl ?_
    refine Wk.seq ?_
    refine Wk.regionQ ?_
    refine Lq.run 2 rfl ?_
    refine Lq.nil ?_
    refine Kt.sel [0, 1, 2, 6, 7, 8, 12, 13, 24, 25] [_, _, _, _, _, _, _, _, _, _] rfl ?_
    refine Wk.block ?_
    refine Wk.loop (σ := Nat) (fun j => (j : Int) ≤ N) (fun j => [(0, i6_ N), (1, .func (.func F1) b1 c1), (2, .func (.func F2) b2 c2), (6, pt_ p6), (7, pt_ p7), (8, i6_ ((k : Int))), (12, i6_ N), (13, i6_ ((k : Int))), (24, i6_ N), (25, i6_ ((j : Int)))]) (fun j => Own w.heap.size w [bk_ p7 #[i6_ N, str (mkSet p (k + 1)), str (mkRel q N.toNat k ++ mkSet (q k) j)] 24, bk_ p6 #[i6_ 0, str ([]), str ([])] 24]) (fun j => (N - j).toNat) (0) (by omega) (Sub.sel [0, 1, 2, 6, 7, 8, 12, 13, 24, 25] rfl) (fun _ h => by simpa [mkSet, bitC] using h) ?_
    rintro j hj
    refine Wk.seq ?_
    refine Wk.regionQ ?_
    refine Lq.run 1 rfl ?_
    refine Lq.nil ?_
    refine Kt.sel [0, 1, 2, 6, 7, 8, 12, 13, 24, 25, 26] [_, _, _, _, _, _, _, _, _, _, _] rfl ?_
    refine Wk.seq ?_
    refine Wk.cond (b := decide (((j : Int)) < N)) rfl (fun h26_1 => ?_) (fun h26_1 => ?_)
    ·
     replace h26_1 := of_decide_eq_true h26_1
     refine Wk.skip ?_
     refine Kt.sel [0, 1, 2, 6, 7, 8, 12, 13, 24, 25] [_, _, _, _, _, _, _, _, _, _] rfl ?_
     refine Wk.seq ?_
     refine Wk.block ?_
     refine Wk.seq ?_
     refine Wk.regionQ ?_
     refine Lq.run 2 rfl ?_
     refine Lq.nil ?_
     refine Kt.sel [0, 1, 2, 6, 7, 8, 9, 12, 13, 24, 25] [_, _, _, _, _, _, _, _, _, _, _] rfl ?_
     refine Wk.regionU (S := Own w.heap.size w [bk_ p6 #[i6_ 0, str ([]), str ([])] 24]) (.take 0 (.take 2 (.take 3 (.take 4 (.two 1 (.one 5 (.one 6 (.take 7 (.take 8 (.one 9 .done))))) 5 (.two 1 (.one 6 (.take 7 (.take 8 (.one 9 .done)))) 6 (.one 1 (.take 7 (.take 8 (.one 9 .done)))))))))) Base.mixed (fun _ h => h.drawn) (by kernel_rfl) ?_
     refine Lu.take rfl rfl rfl rfl rfl (OpQ.fieldAddr rfl Tryd.runUnderlying24 rfl Tryd.sizeOf9 rfl rfl) (fun _ h => h.tail) ?_
     refine Lu.run 3 rfl (fun _ h => h.tail) ?_
     refine Lu.two rfl rfl ?_ ?_
     ·
      refine Ll.op rfl rfl rfl (OpQ.loadOwn 0 rfl Tryd.isAgg9 rfl rfl rfl) ?_
      refine Ll.nil (Lu.joint (fun _ h => h.tail) ?_)
      refine Lu.loud rfl ?_
      refine Ll.op (v := bo_ (q k j)) rfl rfl rfl (OpQ.callFnB rfl rfl hF2 rfl Own.stable (fun w1 hw1 => hq w1 hw1.below k j (by omega) (by omega))) ?_
      refine Ll.nil (Lu.joint (fun _ h => h.tail) ?_)
      refine Lu.loud rfl ?_
      refine Ll.op (v := str ((if q k j then [49] else [48]))) rfl rfl rfl (OpQ.call rfl Tryd.call141 rfl Own.stable (fun w1 hw1 => bitOf_ok (q k j) w1 )) ?_
      refine Ll.nil (Lu.joint (fun _ h => h.tail) ?_)
      refine Lu.take rfl rfl rfl rfl rfl (OpQ.sadd rfl rfl rfl (by simp; split <;> simp <;> omega)) (fun _ h => h.tail) ?_
      refine Lu.take rfl rfl rfl rfl rfl (OpQ.fieldAddr rfl Tryd.runUnderlying24 rfl Tryd.sizeOf9 rfl rfl) (fun _ h => h.tail) ?_
      refine Lu.loud rfl ?_
      refine Ll.store1 (v := str ((mkRel q N.toNat k ++ mkSet (q k) j) ++ ((if q k j then [49] else [48])))) (hs' := [bk_ p7 #[i6_ N, str (mkSet p (k + 1)), str ((mkRel q N.toNat k ++ mkSet (q k) j) ++ ((if q k j then [49] else [48])))] 24, _]) 0 rfl rfl rfl rfl rfl rfl Tryd.sizeOf9 rfl (by simp) rfl ?_
      refine Ll.nil (Lu.joint (fun _ h => h.tail) ?_)
      refine Lu.nil ?_
      refine Kt.sel [0, 1, 2, 6, 7, 8, 12, 13, 24, 25] [_, _, _, _, _, _, _, _, _, _] rfl ?_
      refine Wk.regionQ ?_
      refine Lq.op rfl rfl rfl (OpQ.add rfl rfl rfl (by omega) (by omega)) ?_
      refine Lq.run 1 rfl ?_
      refine Lq.nil ?_
      refine Kt.again (j + 1) (by omega) (by omega) (Sub.sel [0, 1, 2, 6, 7, 8, 12, 13, 24, 25] rfl) (fun _ h => by simpa [mkSet, bitC] using h)
     ·
      refine Ll.op (v := bo_ (q k j)) rfl rfl rfl (OpQ.callFnB rfl rfl hF2 rfl Own.stable (fun w1 hw1 => hq w1 hw1.below k j (by omega) (by omega))) ?_
      refine Ll.nil (Lu.joint (fun _ h => h.tail) ?_)
      refine Lu.two rfl rfl ?_ ?_
      ·
       refine Ll.op rfl rfl rfl (OpQ.loadOwn 0 rfl Tryd.isAgg9 rfl rfl rfl) ?_
       refine Ll.nil (Lu.joint (fun _ h => h.tail) ?_)
       refine Lu.loud rfl ?_
       refine Ll.op (v := str ((if q k j then [49] else [48]))) rfl rfl rfl (OpQ.call rfl Tryd.call141 rfl Own.stable (fun w1 hw1 => bitOf_ok (q k j) w1 )) ?_
       refine Ll.nil (Lu.joint (fun _ h => h.tail) ?_)
       refine Lu.take rfl rfl rfl rfl rfl (OpQ.sadd rfl rfl rfl (by simp; split <;> simp <;> omega)) (fun _ h => h.tail) ?_
       refine Lu.take rfl rfl rfl rfl rfl (OpQ.fieldAddr rfl Tryd.runUnderlying24 rfl Tryd.sizeOf9 rfl rfl) (fun _ h => h.tail) ?_
       refine Lu.loud rfl ?_
       refine Ll.store1 (v := str ((mkRel q N.toNat k ++ mkSet (q k) j) ++ ((if q k j then [49] else [48])))) (hs' := [bk_ p7 #[i6_ N, str (mkSet p (k + 1)), str ((mkRel q N.toNat k ++ mkSet (q k) j) ++ ((if q k j then [49] else [48])))] 24, _]) 0 rfl rfl rfl rfl rfl rfl Tryd.sizeOf9 rfl (by simp) rfl ?_
       refine Ll.nil (Lu.joint (fun _ h => h.tail) ?_)
       refine Lu.nil ?_
       refine Kt.sel [0, 1, 2, 6, 7, 8, 12, 13, 24, 25] [_, _, _, _, _, _, _, _, _, _] rfl ?_
       refine Wk.regionQ ?_
       refine Lq.op rfl rfl rfl (OpQ.add rfl rfl rfl (by omega) (by omega)) ?_
       refine Lq.run 1 rfl ?_
       refine Lq.nil ?_
       refine Kt.again (j + 1) (by omega) (by omega) (Sub.sel [0, 1, 2, 6, 7, 8, 12, 13, 24, 25] rfl) (fun _ h => by simpa [mkSet, bitC] using h)
      ·
       refine Ll.op (v := str ((if q k j then [49] else [48]))) rfl rfl rfl (OpQ.call rfl Tryd.call141 rfl Own.stable (fun w1 hw1 => bitOf_ok (q k j) w1 )) ?_
       refine Ll.nil (Lu.joint (fun _ h => h.tail) ?_)
       refine Lu.loud rfl ?_
       refine Ll.op rfl rfl rfl (OpQ.loadOwn 0 rfl Tryd.isAgg9 rfl rfl rfl) ?_
       refine Ll.nil (Lu.joint (fun _ h => h.tail) ?_)
       refine Lu.take rfl rfl rfl rfl rfl (OpQ.sadd rfl rfl rfl (by simp; split <;> simp <;> omega)) (fun _ h => h.tail) ?_
       refine Lu.take rfl rfl rfl rfl rfl (OpQ.fieldAddr rfl Tryd.runUnderlying24 rfl Tryd.sizeOf9 rfl rfl) (fun _ h => h.tail) ?_
       refine Lu.loud rfl ?_
       refine Ll.store1 (v := str ((mkRel q N.toNat k ++ mkSet (q k) j) ++ ((if q k j then [49] else [48])))) (hs' := [bk_ p7 #[i6_ N, str (mkSet p (k + 1)), str ((mkRel q N.toNat k ++ mkSet (q k) j) ++ ((if q k j then [49] else [48])))] 24, _]) 0 rfl rfl rfl rfl rfl rfl Tryd.sizeOf9 rfl (by simp) rfl ?_
       refine Ll.nil (Lu.joint (fun _ h => h.tail) ?_)
       refine Lu.nil ?_
       refine Kt.sel [0, 1, 2, 6, 7, 8, 12, 13, 24, 25] [_, _, _, _, _, _, _, _, _, _] rfl ?_
       refine Wk.regionQ ?_
       refine Lq.op rfl rfl rfl (OpQ.add rfl rfl rfl (by omega) (by omega)) ?_
       refine Lq.run 1 rfl ?_
       refine Lq.nil ?_
       refine Kt.again (j + 1) (by omega) (by omega) (Sub.sel [0, 1, 2, 6, 7, 8, 12, 13, 24, 25] rfl) (fun _ h => by simpa [mkSet, bitC] using h)
    ·
     replace h26_1 := of_decide_eq_false h26_1
     refine Wk.exit rfl ?_
     refine Kt.sel [0, 1, 2, 6, 7, 12, 13] [_, _, _, _, _, _, _] rfl ?_
     refine Wk.regionQ ?_
     refine Lq.op rfl rfl rfl (OpQ.add rfl rfl rfl (by omega) (by omega)) ?_
     refine Lq.run 1 rfl ?_
     refine Lq.nil ?_
     refine Kt.again (k + 1) (by omega) (by omega) (Sub.sel [0, 1, 2, 6, 7, 12, 13] rfl) (fun _ h => by rw [show j = N.toNat from by omega] at h; exact h)
   ·
    refine Ll.op (v := str ((if p k then [49] else [48]))) rfl rfl rfl (OpQ.call rfl Tryd.call141 rfl Own.stable (fun w1 hw1 => bitOf_ok (p k) w1 )) ?_
    refine Ll.nil (Lu.joint (fun _ h => h.tail) ?_)
    refine Lu.loud rfl ?_
    refine Ll.op rfl rfl rfl (OpQ.loadOwn 0 rfl Tryd.isAgg9 rfl rfl rfl) ?_
    refine Ll.nil (Lu.joint (fun _ h => h.tail) ?_)
    refine Lu.take rfl rfl rfl rfl rfl (OpQ.sadd rfl rfl rfl (by simp; split <;> simp <;> omega)) (fun _ h => h.tail) ?_
    refine Lu.take rfl rfl rfl rfl rfl (OpQ.fieldAddr rfl Tryd.runUnderlying24 rfl Tryd.sizeOf9 rfl rfl) (fun _ h => h.tail) ?_
    refine Lu.loud rfl ?_
    refine Ll.store1 (v := str ((mkSet p k) ++ ((if p k then [49] else [48])))) (hs' := [bk_ p7 #[i6_ N, str ((mkSet p k) ++ ((if p k then [49] else [48]))), str (mkRel q N.toNat k)] 24, _]) 0 rfl rfl rfl rfl rfl rfl Tryd.sizeOf9 rfl (by simp) rfl ?_
    refine Ll.nil (Lu.joint (fun _ h => h.tail) ?_)
    refine Lu.nil ?_
    refine Kt.sel [0, 1, 2, 6, 7, 8, 12, 13] [_, _, _, _, _, _, _, _] rfl ?_
    refine Wk.seq ?_
    refine Wk.regionQ ?_
    refine Lq.run 2 rfl ?_
    refine Lq.nil ?_
    refine Kt.sel [0, 1, 2, 6, 7, 8, 12, 13, 24, 25] [_, _, _, _, _, _, _, _, _, _] rfl ?_
    refine Wk.block ?_
    refine Wk.loop (σ := Nat) (fun j => (j : Int) ≤ N) (fun j => [(0, i6_ N), (1, .func (.func F1) b1 c1), (2, .func (.func F2) b2 c2), (6, pt_ p6), (7, pt_ p7), (8, i6_ ((k : Int))), (12, i6_ N), (13, i6_ ((k : Int))), (24, i6_ N), (25, i6_ ((j : Int)))]) (fun j => Own w.heap.size w [bk_ p7 #[i6_ N, str (mkSet p (k + 1)), str (mkRel q N.toNat k ++ mkSet (q k) j)] 24, bk_ p6 #[i6_ 0, str ([]), str ([])] 24]) (fun j => (N - j).toNat) (0) (by omega) (Sub.sel [0, 1, 2, 6, 7, 8, 12, 13, 24, 25] rfl) (fun _ h => by simpa [mkSet, bitC] using h) ?_
    rintro j hj
    refine Wk.seq ?_
    refine Wk.regionQ ?_
    refine Lq.run 1 rfl ?_
    refine Lq.nil ?_
    refine Kt.sel [0, 1, 2, 6, 7, 8, 12, 13, 24, 25, 26] [_, _, _, _, _, _, _, _, _, _, _] rfl ?_
    refine Wk.seq ?_
    refine Wk.cond (b := decide (((j : Int)) < N)) rfl (fun h26_2 => ?_) (fun h26_2 => ?_)
    ·
     replace h26_2 := of_decide_eq_true h26_2
     refine Wk.skip ?_
     refine Kt.sel [0, 1, 2, 6, 7, 8, 12, 13, 24, 25] [_, _, _, _, _, _, _, _, _, _] rfl ?_
     refine Wk.seq ?_
     refine Wk.block ?_
     refine Wk.seq ?_
     refine Wk.regionQ ?_
     refine Lq.run 2 rfl ?_
     refine Lq.nil ?_
     refine Kt.sel [0, 1, 2, 6, 7, 8, 9, 12, 13, 24, 25] [_, _, _, _, _, _, _, _, _, _, _] rfl ?_
     refine Wk.regionU (S := Own w.heap.size w [bk_ p6 #[i6_ 0, str ([]), str ([])] 24]) (.take 0 (.take 2 (.take 3 (.take 4 (.two 1 (.one 5 (.one 6 (.take 7 (.take 8 (.one 9 .done))))) 5 (.two 1 (.one 6 (.take 7 (.take 8 (.one 9 .done)))) 6 (.one 1 (.take 7 (.take 8 (.one 9 .done)))))))))) Base.mixed (fun _ h => h.drawn) (by kernel_rfl) ?_
     refine Lu.take rfl rfl rfl rfl rfl (OpQ.fieldAddr rfl Tryd.runUnderlying24 rfl Tryd.sizeOf9 rfl rfl) (fun _ h => h.tail) ?_
     refine Lu.run 3 rfl (fun _ h => h.tail) ?_
     refine Lu.two rfl rfl ?_ ?_
     ·
      refine Ll.op rfl rfl rfl (OpQ.loadOwn 0 rfl Tryd.isAgg9 rfl rfl rfl) ?_
      refine Ll.nil (Lu.joint (fun _ h => h.tail) ?_)
      refine Lu.loud rfl ?_
      refine Ll.op (v := bo_ (q k j)) rfl rfl rfl (OpQ.callFnB rfl rfl hF2 rfl Own.stable (fun w1 hw1 => hq w1 hw1.below k j (by omega) (by omega))) ?_
      refine Ll.nil (Lu.joint (fun _ h => h.tail) ?_)
      refine Lu.loud rfl ?_
      refine Ll.op (v := str ((if q k j then [49] else [48]))) rfl rfl rfl (OpQ.call rfl Tryd.call141 rfl Own.stable (fun w1 hw1 => bitOf_ok (q k j) w1 )) ?_
      refine Ll.nil (Lu.joint (fun _ h => h.tail) ?_)
      refine Lu.take rfl rfl rfl rfl rfl (OpQ.sadd rfl rfl rfl (by simp; split <;> simp <;> omega)) (fun _ h => h.tail) ?_
      refine Lu.take rfl rfl rfl rfl rfl (OpQ.fieldAddr rfl Tryd.runUnderlying24 rfl Tryd.sizeOf9 rfl rfl) (fun _ h => h.tail) ?_
      refine Lu.loud rfl ?_
      refine Ll.store1 (v := str ((mkRel q N.toNat k ++ mkSet (q k) j) ++ ((if q k j then [49] else [48])))) (hs' := [bk_ p7 #[i6_ N, str (mkSet p (k + 1)), str ((mkRel q N.toNat k ++ mkSet (q k) j) ++ ((if q k j then [49] else [48])))] 24, _]) 0 rfl rfl rfl rfl rfl rfl Tryd.sizeOf9 rfl (by simp) rfl ?_
      refine Ll.nil (Lu.joint (fun _ h => h.tail) ?_)
      refine Lu.nil ?_
      refine Kt.sel [0, 1, 2, 6, 7, 8, 12, 13, 24, 25] [_, _, _, _, _, _, _, _, _, _] rfl ?_
      refine Wk.regionQ ?_
      refine Lq.op rfl rfl rfl (OpQ.add rfl rfl rfl (by omega) (by omega)) ?_
      refine Lq.run 1 rfl ?_
      refine Lq.nil ?_
      refine Kt.again (j + 1) (by omega) (by omega) (Sub.sel [0, 1, 2, 6, 7, 8, 12, 13, 24, 25] rfl) (fun _ h => by simpa [mkSet, bitC] using h)
     ·
      refine Ll.op (v := bo_ (q k j)) rfl rfl rfl (OpQ.callFnB rfl rfl hF2 rfl Own.stable (fun w1 hw1 => hq w1 hw1.below k j (by omega) (by omega))) ?_
      refine Ll.nil (Lu.joint (fun _ h => h.tail) ?_)
      refine Lu.two rfl rfl ?_ ?_
      ·
       refine Ll.op rfl rfl rfl (OpQ.loadOwn 0 rfl Tryd.isAgg9 rfl rfl rfl) ?_
       refine Ll.nil (Lu.joint (fun _ h => h.tail) ?_)
       refine Lu.loud rfl ?_
       refine Ll.op (v := str ((if q k j then [49] else [48]))) rfl rfl rfl (OpQ.call rfl Tryd.call141 rfl Own.stable (fun w1 hw1 => bitOf_ok (q k j) w1 )) ?_
       refine Ll.nil (Lu.joint (fun _ h => h.tail) ?_)
       refine Lu.take rfl rfl rfl rfl rfl (OpQ.sadd rfl rfl rfl (by simp; split <;> simp <;> omega)) (fun _ h => h.tail) ?_
       refine Lu.take rfl rfl rfl rfl rfl (OpQ.fieldAddr rfl Tryd.runUnderlying24 rfl Tryd.sizeOf9 rfl rfl) (fun _ h => h.tail) ?_
       refine Lu.loud rfl ?_
       refine Ll.store1 (v := str ((mkRel q N.toNat k ++ mkSet (q k) j) ++ ((if q k j then [49] else [48])))) (hs' := [bk_ p7 #[i6_ N, str (mkSet p (k + 1)), str ((mkRel q N.toNat k ++ mkSet (q k) j) ++ ((if q k j then [49] else [48])))] 24, _]) 0 rfl rfl rfl rfl rfl rfl Tryd.sizeOf9 rfl (by simp) rfl ?_
       refine Ll.nil (Lu.joint (fun _ h => h.tail) ?_)
       refine Lu.nil ?_
       refine Kt.sel [0, 1, 2, 6, 7, 8, 12, 13, 24, 25] [_, _, _, _, _, _, _, _, _, _] rfl ?_
       refine Wk.regionQ ?_
       refine Lq.op rfl rfl rfl (OpQ.add rfl rfl rfl (by omega) (by omega)) ?_
       refine Lq.run 1 rfl ?_
       refine Lq.nil ?_
       refine Kt.again (j + 1) (by omega) (by omega) (Sub.sel [0, 1, 2, 6, 7, 8, 12, 13, 24, 25] rfl) (fun _ h => by simpa [mkSet, bitC] using h)
      ·
       refine Ll.op (v := str ((if q k j then [49] else [48]))) rfl rfl rfl (OpQ.call rfl Tryd.call141 rfl Own.stable (fun w1 hw1 => bitOf_ok (q k j) w1 )) ?_
       refine Ll.nil (Lu.joint (fun _ h => h.tail) ?_)
       refine Lu.loud rfl ?_
       refine Ll.op rfl rfl rfl (OpQ.loadOwn 0 rfl Tryd.isAgg9 rfl rfl rfl) ?_
       refine Ll.nil (Lu.joint (fun _ h => h.tail) ?_)
       refine Lu.take rfl rfl rfl rfl rfl (OpQ.sadd rfl rfl rfl (by simp; split <;> simp <;> omega)) (fun _ h => h.tail) ?_
       refine Lu.take rfl rfl rfl rfl rfl (OpQ.fieldAddr rfl Tryd.runUnderlying24 rfl Tryd.sizeOf9 rfl rfl) (fun _ h => h.tail) ?_
       refine Lu.loud rfl ?_
       refine Ll.store1 (v := str ((mkRel q N.toNat k ++ mkSet (q k) j) ++ ((if q k j then [49] else [48])))) (hs' := [bk_ p7 #[i6_ N, str (mkSet p (k + 1)), str ((mkRel q N.toNat k ++ mkSet (q k) j) ++ ((if q k j then [49] else [48])))] 24, _]) 0 rfl rfl rfl rfl rfl rfl Tryd.sizeOf9 rfl (by simp) rfl ?_
       refine Ll.nil (Lu.joint (fun _ h => h.tail) ?_)
       refine Lu.nil ?_
       refine Kt.sel [0, 1, 2, 6, 7, 8, 12, 13, 24, 25] [_, _, _, _, _, _, _, _, _, _] rfl ?_
       refine Wk.regionQ ?_
       refine Lq.op rfl rfl rfl (OpQ.add rfl rfl rfl (by omega) (by omega)) ?_
       refine Lq.run 1 rfl ?_
       refine Lq.nil ?_
       refine Kt.again (j + 1) (by omega) (by omega) (Sub.sel [0, 1, 2, 6, 7, 8, 12, 13, 24, 25] rfl) (fun _ h => by simpa [mkSet, bitC] using h)
    ·
     replace h26_2 := of_decide_eq_false h26_2
     refine Wk.exit rfl ?_
     refine Kt.sel [0, 1, 2, 6, 7, 12, 13] [_, _, _, _, _, _, _] rfl ?_
     refine Wk.regionQ ?_
     refine Lq.op rfl rfl rfl (OpQ.add rfl rfl rfl (by omega) (by omega)) ?_
     refine Lq.run 1 rfl ?_
     refine Lq.nil ?_
     refine Kt.again (k + 1) (by omega) (by omega) (Sub.sel [0, 1, 2, 6, 7, 12, 13] rfl) (fun _ h => by rw [show j = N.toNat from by omega] at h; exact h)
 ·
  replace h14 := of_decide_eq_false h14
  refine Wk.exit rfl ?_
  refine Kt.sel [6, 7] [_, _] rfl ?_
  refine Wk.seq ?_
  refine Wk.region ?_
  refine Ll.op rfl rfl rfl (OpQ.loadBox (cs := #[i6_ N, str (mkSet p k), str (mkRel q N.toNat k)]) 0 rfl Tryd.isAgg24 rfl rfl Tryd.sizeOf24) ?_
  refine Ll.storeBox (cs' := #[i6_ N, str (mkSet p k), str (mkRel q N.toNat k)]) (hs' := [_, bk_ p6 #[i6_ N, str (mkSet p k), str (mkRel q N.toNat k)] 24]) 1 rfl rfl rfl rfl rfl (by kernel_rfl : _ = some Tryd.t24) rfl rfl rfl rfl rfl ?_
  refine Ll.nil ?_
  refine Kt.sel [6] [_] rfl ?_
  refine Wk.ret (Kt.endBox (cs := #[i6_ N, str (mkSet p k), str (mkRel q N.toNat k)]) 1 rfl rfl rfl Tryd.isAgg24 Tryd.sizeOf24 fun w' hw => ?_)
  -- ret 0: pt_ p6
  obtain rfl : k = N.toNat := by omega
  exact ⟨rfl, hw.below⟩

set_option maxHeartbeats 400000 in
/-- impl.TurnStructure$1 -/
theorem turn1_ok (a : St) (g T1 : Nat) (x y : Int) (w : World) (hg : w.heap[g]? = some (.cells #[.int .i64 a.n, str a.set, str a.rel] T1 (0, 0))) (ha : a.Fine) (hx : a.El x) (hy : a.El y) :
    Calls Tryd.prog 96 [i6_ x, i6_ y, .pointer (some ⟨g, 0, none⟩)].toArray w fun en w' => en = .returned (.bool (a.inRel y x)) ∧ Below w.heap.size w w' := by
 refine fnStart (n := 10) (e := [(0, i6_ x), (1, i6_ y), (2, .pointer (some ⟨g, 0, none⟩))]) Tryd.func96 rfl rfl rfl rfl Ends.both ?_
 refine Wk.seq ?_
 refine Wk.regionQ ?_
 refine Lq.run 1 rfl ?_
 refine Lq.nil ?_
 refine Kt.sel [0, 1, 2] [_, _, _] rfl ?_
 refine Wk.seq ?_
 refine Wk.regionQ ?_
 refine Lq.op (v := vS a) rfl rfl rfl (OpQ.loadN (cs := #[i6_ a.n, str a.set, str a.rel]) rfl Tryd.isAgg24 Tryd.sizeOf24 rfl (fun w1 hw1 j v hj => box_cells hg hw1 j v hj)) ?_
 refine Lq.run 2 rfl ?_
 refine Lq.op (v := bo_ (a.inRel y x)) rfl rfl rfl (OpQ.call rfl Tryd.call97 rfl Own.stable (fun w1 hw1 => inRel_ok a y x w1 ha (by first | assumption | exact St.Els.at (by assumption) (by omega) (by omega)) (by first | assumption | exact St.Els.at (by assumption) (by omega) (by omega)))) ?_
 refine Lq.run 1 rfl ?_
 refine Lq.nil ?_
 refine Kt.sel [5] [_] rfl ?_
 refine Wk.ret (Kt.end1 rfl rfl fun w' hw => ?_)
 -- ret 0: bo_ (a.inRel y x)
 exact ⟨rfl, hw.below⟩

set_option maxHeartbeats 400000 in
/-- impl.TurnStructure -/
theorem iTurn_ok (a : St) (w : World) (hsa : a.Small) :
    Calls Tryd.prog 33 [vS a].toArray w fun en w' => ∃ o : St, ∃ y : Bool, en = .returned (.tuple #[vS o, bo_ y]) ∧ ((o.Small ∧ -9223372036854775808 ≤ o.n ∧ o.n ≤ 9223372036854775807) ∧ (validB a = true → AltOf a o)) ∧ Below w.heap.size w w' := by
 refine fnStart (n := 14) (e := [(0, vS a)]) Tryd.func33 rfl rfl rfl rfl Ends.both ?_
 refine Wk.seq ?_
 refine Wk.region ?_
 refine Ll.box (v := vS a) rfl rfl rfl rfl rfl fun p1 hp1 => ?_
 show Ll _ _ (Own _ _ [_]) _ _ ((1, pt_ p1) :: _) _ _ _
 refine Ll.alloc rfl rfl rfl rfl Tryd.zeroValue24 fun p2 hp2 => ?_
 show Ll _ _ (Own _ _ [bk_ p2 #[i6_ 0, str ([]), str ([])] 24, _]) _ _ ((2, pt_ p2) :: _) _ _ _
 refine Ll.run 1 rfl ?_
 refine Ll.nil ?_
 refine Kt.sel [1, 2] [_, _] rfl ?_
 refine Wk.seq ?_
 refine Wk.seq ?_
 refine Wk.regionQ ?_
 refine Lq.op rfl rfl rfl (OpQ.loadBox (cs := #[i6_ a.n, str a.set, str a.rel]) 1 rfl Tryd.isAgg24 rfl rfl Tryd.sizeOf24) ?_
 refine Lq.op (v := bo_ (validB a)) rfl rfl rfl (OpQ.call rfl Tryd.call68 rfl Own.stable (fun w1 hw1 => isStructure_ok a w1 hsa)) ?_
 refine Lq.run 1 rfl ?_
 refine Lq.nil ?_
 refine Kt.sel [1, 2, 6] [_, _, _] rfl ?_
 refine Wk.cond (b := !(validB a)) rfl (fun h6 => ?_) (fun h6 => ?_)
 ·
  replace h6 := not_true h6
  refine Wk.seq ?_
  refine Wk.region ?_
  refine Ll.op (v := .agg #[i6_ 0, str ([]), str ([])]) rfl rfl rfl (OpQ.build (xs := []) (vs := []) rfl rfl (by kernel_rfl)) ?_
  refine Ll.storeBox (cs' := #[i6_ 0, str ([]), str ([])]) (hs' := [bk_ p2 #[i6_ 0, str ([]), str ([])] 24, _]) 0 rfl rfl rfl rfl rfl (by kernel_rfl : _ = some Tryd.t24) rfl rfl rfl rfl rfl ?_
  refine Ll.run 1 rfl ?_
  refine Ll.nil ?_
  refine Kt.sel [2, 3] [_, _] rfl ?_
  refine Wk.ret (Kt.endMany rfl (.cell (cs := #[i6_ 0, str ([]), str ([])]) rfl (fun w1 hw1 => hw1.loadBox 0 rfl Tryd.isAgg24 Tryd.sizeOf24) (.tmp (v := bo_ false) rfl ResAt.nil)) (by simp) fun w' hw => ?_)
  -- ret 0: .agg #[i6_ 0, str ([]), str ([])]; bo_ false
  exact ⟨⟨0, [], []⟩, false, rfl, ⟨⟨⟨by simp, by simp⟩, by decide, by decide⟩, fun h => by simp_all⟩, hw.below⟩
 ·
  replace h6 := not_false h6
  have hv : validB a = true := by simp_all
  have ha := validB_fine hv
  refine Wk.skip ?_
  refine Kt.sel [1, 2] [_, _] rfl ?_
  refine Wk.seq ?_
  refine Wk.region ?_
  refine Ll.op rfl rfl rfl (OpQ.fieldAddr rfl Tryd.runUnderlying24 rfl Tryd.sizeOf3 rfl rfl) ?_
  refine Ll.op rfl rfl rfl (OpQ.loadOwn 1 rfl Tryd.isAgg3 rfl rfl rfl) ?_
  refine Ll.op rfl rfl rfl (OpQ.loadBox (cs := #[i6_ a.n, str a.set, str a.rel]) 1 rfl Tryd.isAgg24 rfl rfl Tryd.sizeOf24) ?_
  refine Ll.op (v := .func (.func 95) #[vS a] #[]) rfl rfl rfl (OpQ.funcB (b := [.tmp 10]) (cap := []) rfl rfl rfl) ?_
  refine Ll.op (v := .func (.func 96) #[] #[pt_ p1]) rfl rfl rfl (OpQ.func' (cap := [.tmp 1]) rfl rfl) ?_
  refine Ll.op (v := vS (turnSt a)) rfl rfl rfl (OpQ.call rfl Tryd.call94 rfl Own.stable (fun w1 hw1 => mkStruct_ok a.n (fun x => a.inSet x) (fun x y => a.inRel y x) 95 96 #[vS a] #[] #[] #[pt_ p1] w1 ha.lo ha.hi Tryd.call95 Tryd.call96 (fun w2 hb x hx => inSet_ok a x w2 ha ⟨by omega, hx⟩) (fun w2 hb x y hx hy => turn1_ok a p1 _ x y w2 ((hw1.stable _ _ hb).has 1 _ _ rfl).2 ha ⟨by omega, hx⟩ ⟨by omega, hy⟩))) ?_
  refine Ll.storeBox (cs' := #[i6_ ((turnSt a).n), str ((turnSt a).set), str ((turnSt a).rel)]) (hs' := [bk_ p2 #[i6_ ((turnSt a).n), str ((turnSt a).set), str ((turnSt a).rel)] 24, _]) 0 rfl rfl rfl rfl rfl (by kernel_rfl : _ = some Tryd.t24) rfl rfl rfl rfl rfl ?_
  refine Ll.run 1 rfl ?_
  refine Ll.nil ?_
  refine Kt.sel [2, 3] [_, _] rfl ?_
  refine Wk.ret (Kt.endMany rfl (.cell (cs := #[i6_ ((turnSt a).n), str ((turnSt a).set), str ((turnSt a).rel)]) rfl (fun w1 hw1 => hw1.loadBox 0 rfl Tryd.isAgg24 Tryd.sizeOf24) (.tmp (v := bo_ true) rfl ResAt.nil)) (by simp) fun w' hw => ?_)
  -- ret 1: vS (turnSt a); bo_ true
  exact ⟨turnSt a, true, rfl, ⟨⟨alt_small hv (alt_turn hv), by have := ha.lo; show -9223372036854775808 ≤ a.n; omega, by have := ha.hi; show a.n ≤ 9223372036854775807; omega⟩, fun _ => alt_turn hv⟩, hw.below⟩

end Go.Proofs.YtmannilblelfjaaDoor
