/-
  Walks: the law of games without an end, of drawn pebbles.
-/
import Derived.Test.YtjcoijejhachhaaDoorPebFM
import Derived.Test.YtjcoijejhachhaaDoorFitM
import Derived.Test.YtjcoijejhachhaaDoorDrawsE
import Derived.Test.YtjcoijejhachhaaDoorBase
namespace Go.Proofs.YtjcoijejhachhaaDoor
open Go.RowKit Go.Wk
set_option linter.unusedSimpArgs false

set_option maxHeartbeats 400000 in
/-- spec.DrawPebblesForever -/
theorem drawEver_ok (B : Nat) (w0 : World) (hs : List (Nat × Obj)) (bv : Value) (L : List Int) (w : World) (hb : ∀ w, Own B w0 hs w → Row w bv (u8s L)) (hL8 : Bytes8 L) (hLs : L.length ≤ 1048576) (hw : Own B w0 hs w) :
    Calls Tryd.prog 34 [bv].toArray w fun en w' => ∃ a : St, ∃ b : St, ∃ v : Value, ∃ xs : List Int, ∃ u : Value, ∃ ys : List Int, ∃ new : List (Nat × Obj), en = .returned (.tuple #[vS a, v, vS b, u]) ∧ (((a.Tame ∧ b.Tame) ∧ (xs.length ≤ 40 ∧ ys.length ≤ 40) ∧ ∀ w1, Own B w0 new w1 → Ints w1 v xs ∧ Ints w1 u ys) ∧ True) ∧ Own B w0 (new ++ hs) w' := by
 refine fnStartC (Own B w0 hs) (n := 13) (e := [(0, bv)]) Tryd.func34 rfl rfl rfl rfl Ends.both hw ?_
 refine Wk.seq ?_
 refine Wk.region ?_
 refine Ll.alloc rfl rfl rfl rfl Tryd.zeroValue28 fun p2 hp2 => ?_
 show Ll _ _ (Own _ _ (bk_ p2 #[i6_ 0, str ([]), str ([])] 28 :: hs)) _ _ ((2, pt_ p2) :: _) _ _ _
 refine Ll.run 1 rfl ?_
 refine Ll.alloc rfl rfl rfl rfl Tryd.zeroValue28 fun p4 hp4 => ?_
 show Ll _ _ (Own _ _ (bk_ p4 #[i6_ 0, str ([]), str ([])] 28 :: _ :: hs)) _ _ ((4, pt_ p4) :: _) _ _ _
 refine Ll.run 1 rfl ?_
 refine Ll.nil ?_
 refine Kt.sel [0, 2, 4] [_, _, _] rfl ?_
 refine Wk.seq ?_
 refine Wk.region ?_
 refine Ll.run 1 rfl ?_
 refine Ll.callBack (ok := fun ((rp, v, M) : Nat × Value × List Int) => M.length ≤ 2000 ∧ Bytes8 M ∧ ∀ w1, Own B w0 hs w1 → Row w1 v (u8s M)) (v := fun ((rp, v, M) : Nat × Value × List Int) => .pointer (some ⟨rp, 0, none⟩)) (new := fun ((rp, v, M) : Nat × Value × List Int) => [(rp, .cells #[v, .int .i64 ((0 : Nat) : Int)] 110 (0, 0))]) (hs := hs) (xs := [.tmp 6]) (vs := [bv]) ([bk_ p4 #[i6_ 0, str ([]), str ([])] 28, bk_ p2 #[i6_ 0, str ([]), str ([])] 28] : List (Nat × Obj)) rfl rfl rfl rfl Tryd.call69 rfl (fun w1 hw1 => (open_ok B w0 ([bk_ p4 #[i6_ 0, str ([]), str ([])] 28, bk_ p2 #[i6_ 0, str ([]), str ([])] 28] : List (Nat × Obj)) hs _ _ w1 hb hL8 hLs hw1).mono fun en w' ⟨rp, v, M, h1, h2, h3⟩ => ⟨(rp, v, M), h1, h2, h3⟩) fun ⟨rp, dv, M⟩ hO => ?_
 dsimp only at hO
 obtain ⟨hM2, hM8, hMb⟩ := hO
 show Ll _ _ (Own _ _ (_ :: _ :: _ :: hs)) _ _ ((7, pt_ rp) :: _) _ _ _
 refine Ll.callRdL (rp := rp) (RT := 110) (p := 0) (bv := dv) (hs := hs) (ok := fun ((a, b, v, xs, u, ys, new) : St × St × Value × List Int × Value × List Int × List (Nat × Obj)) p' => ((a.Tame ∧ b.Tame) ∧ (xs.length ≤ 40 ∧ ys.length ≤ 40) ∧ ∀ w1, Own B w0 new w1 → Ints w1 v xs ∧ Ints w1 u ys) ∧ p' ≤ 0 + 2000) (v := fun ((a, b, v, xs, u, ys, new) : St × St × Value × List Int × Value × List Int × List (Nat × Obj)) => .tuple #[vS a, v, vS b, u]) (new := fun ((a, b, v, xs, u, ys, new) : St × St × Value × List Int × Value × List Int × List (Nat × Obj)) => new) (xs := [.tmp 7]) (vs := [pt_ rp]) ([bk_ p4 #[i6_ 0, str ([]), str ([])] 28, bk_ p2 #[i6_ 0, str ([]), str ([])] 28] : List (Nat × Obj)) rfl rfl rfl rfl Tryd.call70 rfl (fun w1 hw1 => (l7Some_ok B w0 (([bk_ p4 #[i6_ 0, str ([]), str ([])] 28, bk_ p2 #[i6_ 0, str ([]), str ([])] 28] : List (Nat × Obj)) ++ hs) rp 0 dv M w1 (fun w2 hw2 => hMb w2 (Own.drop (f := ([bk_ p4 #[i6_ 0, str ([]), str ([])] 28, bk_ p2 #[i6_ 0, str ([]), str ([])] 28] : List (Nat × Obj))) hw2)) hM8 hM2 (by omega) hw1).mono fun en w' ⟨a, b, v, xs, u, ys, new, p', h1, h2, h3⟩ => ⟨(a, b, v, xs, u, ys, new), p', h1, h2, h3⟩) fun ⟨a8, b8, v8, xs8, u8, ys8, new8⟩ p_8 hK => ?_
 dsimp only at hK
 obtain ⟨⟨⟨hta8, htb8⟩, ⟨hlxs8, hlys8⟩, hrw⟩, hep_8⟩ := hK
 have hIv8 : ∀ w1, Own B w0 new8 w1 → Ints w1 v8 xs8 := fun w1 h => (hrw w1 h).1
 have hIu8 : ∀ w1, Own B w0 new8 w1 → Ints w1 u8 ys8 := fun w1 h => (hrw w1 h).2
 show Ll _ _ (Own _ _ (_ :: _ :: _ :: (new8 ++ hs))) _ _ ((8, .tuple #[vS a8, v8, vS b8, u8]) :: _) _ _ _
 refine Ll.op (v := vS a8) rfl rfl rfl (OpQ.extract rfl rfl rfl) ?_
 refine Ll.op (v := v8) rfl rfl rfl (OpQ.extract rfl rfl rfl) ?_
 refine Ll.op (v := vS b8) rfl rfl rfl (OpQ.extract rfl rfl rfl) ?_
 refine Ll.op (v := u8) rfl rfl rfl (OpQ.extract rfl rfl rfl) ?_
 refine Ll.storeBox (cs' := #[i6_ a8.n, str a8.set, str a8.rel]) (hs' := (_ :: bk_ p2 #[i6_ a8.n, str a8.set, str a8.rel] 28 :: _ :: (new8 ++ hs))) 1 rfl rfl rfl rfl rfl (by kernel_rfl : _ = some Tryd.t28) rfl rfl rfl rfl rfl ?_
 refine Ll.run 1 rfl ?_
 refine Ll.storeBox (cs' := #[i6_ b8.n, str b8.set, str b8.rel]) (hs' := (bk_ p4 #[i6_ b8.n, str b8.set, str b8.rel] 28 :: _ :: _ :: (new8 ++ hs))) 0 rfl rfl rfl rfl rfl (by kernel_rfl : _ = some Tryd.t28) rfl rfl rfl rfl rfl ?_
 refine Ll.run 1 rfl ?_
 refine Ll.nil ?_
 refine Kt.sel [2, 3, 4, 5] [_, _, _, _] rfl ?_
 refine Wk.ret (Kt.endMany rfl (.cell (cs := #[i6_ a8.n, str a8.set, str a8.rel]) rfl (fun w1 hw1 => hw1.loadBox 1 rfl Tryd.isAgg28 Tryd.sizeOf28) (.tmp (v := v8) rfl (.cell (cs := #[i6_ b8.n, str b8.set, str b8.rel]) rfl (fun w1 hw1 => hw1.loadBox 0 rfl Tryd.isAgg28 Tryd.sizeOf28) (.tmp (v := u8) rfl ResAt.nil)))) (by simp) fun w' hw => ?_)
 -- ret 0: vS a8; v8; vS b8; u8
 exact ⟨a8, b8, v8, xs8, u8, ys8, ([bk_ p4 #[i6_ b8.n, str b8.set, str b8.rel] 28, bk_ p2 #[i6_ a8.n, str a8.set, str a8.rel] 28, bk_ rp #[dv, i6_ ((p_8 : Int))] 110] : List (Nat × Obj)) ++ new8, rfl, ⟨⟨⟨hta8, htb8⟩, ⟨(by first | omega | (simp only [List.length_append, List.length_cons, List.length_nil, List.length_take, List.length_set]; omega)), (by first | omega | (simp only [List.length_append, List.length_cons, List.length_nil, List.length_take, List.length_set]; omega))⟩, fun w1 h1 => ⟨(hIv8 _ (Own.drop (f := [_, _, _]) h1)), (hIu8 _ (Own.drop (f := [_, _, _]) h1))⟩⟩, trivial⟩, hw⟩

set_option maxHeartbeats 400000 in
/-- laws.FnForever -/
theorem lawFnEver (bv cv : Value) (L L2 : List Int) (w : World) (hbv : Row w bv (u8s L)) (hcv : Row w cv (u8s L2)) (hL8 : Bytes8 L) (_hL82 : Bytes8 L2) (hLm : L.length ≤ 9223372036854775807) (hLm2 : L2.length ≤ 9223372036854775807) :
    Calls Tryd.prog 11 [bv, cv].toArray w fun en w' => en = .returned (.bool true) ∧ Below w.heap.size w w' := by
 refine fnStart (n := 140) (e := [(0, bv), (1, cv)]) Tryd.func11 rfl rfl rfl rfl Ends.both ?_
 refine Wk.seq ?_
 refine Wk.regionQ ?_
 refine Lq.run 1 rfl ?_
 refine Lq.nil ?_
 refine Kt.sel [0, 1] [_, _] rfl ?_
 refine Wk.seq ?_
 refine Wk.seq ?_
 refine Wk.regionQ ?_
 refine Lq.run 1 rfl ?_
 refine Lq.op (v := i6_ ((L.length : Int))) rfl rfl rfl (OpQ.lenRow rfl Tryd.runUnderlying45 rfl (u8s_length _) (fun w1 hw1 => Row.own hbv hw1)) ?_
 refine Lq.run 2 rfl ?_
 refine Lq.bool fun b19 hg19 => ?_
 cases b19
 ·
  replace hg19 := of_decide_eq_false hg19
  refine Lq.run 1 rfl ?_
  refine Lq.op (v := i6_ ((L2.length : Int))) rfl rfl rfl (OpQ.lenRow rfl Tryd.runUnderlying45 rfl (u8s_length _) (fun w1 hw1 => Row.own hcv hw1)) ?_
  refine Lq.run 2 rfl ?_
  refine Lq.nil ?_
  refine Kt.sel [0, 1, 23] [_, _, _] rfl ?_
  refine Wk.cond (b := decide ((1048576 : Int) < ((L2.length : Int)))) rfl (fun h23 => ?_) (fun h23 => ?_)
  ·
   replace h23 := of_decide_eq_true h23
   refine Wk.seq ?_
   refine Wk.regionQ ?_
   refine Lq.run 1 rfl ?_
   refine Lq.nil ?_
   refine Kt.sel [4] [_] rfl ?_
   refine Wk.ret (Kt.end1 rfl rfl fun w' hw => ?_)
   -- ret 0: bo_ true
   exact ⟨ret_b (by first | rfl | (rw [ever_comm]; exact (beq_self_eq_true _).symm) | (rw [ever_comm]; exact beq_self_eq_true _)), hw.below⟩
  ·
   replace h23 := of_decide_eq_false h23
   refine Wk.skip ?_
   refine Kt.sel [0, 1] [_, _] rfl ?_
   refine Wk.seq ?_
   refine Wk.region ?_
   refine Ll.run 1 rfl ?_
   refine Ll.callBack (ok := fun ((a, b, v, xs, u, ys, new) : St × St × Value × List Int × Value × List Int × List (Nat × Obj)) => ((a.Tame ∧ b.Tame) ∧ (xs.length ≤ 40 ∧ ys.length ≤ 40) ∧ ∀ w1, Own w.heap.size w new w1 → Ints w1 v xs ∧ Ints w1 u ys) ∧ True) (v := fun ((a, b, v, xs, u, ys, new) : St × St × Value × List Int × Value × List Int × List (Nat × Obj)) => .tuple #[vS a, v, vS b, u]) (new := fun ((a, b, v, xs, u, ys, new) : St × St × Value × List Int × Value × List Int × List (Nat × Obj)) => new) (hs := []) (xs := [.tmp 25]) (vs := [bv]) ([] : List (Nat × Obj)) rfl rfl rfl rfl Tryd.call34 rfl (fun w1 hw1 => (drawEver_ok w.heap.size w (([] : List (Nat × Obj)) ++ ([])) bv L w1 (fun w2 hw2 => Row.own hbv hw2) hL8 (by omega) hw1).mono fun en w' ⟨a, b, v, xs, u, ys, new, h1, h2, h3⟩ => ⟨(a, b, v, xs, u, ys, new), h1, h2, h3⟩) fun ⟨a26, b26, v26, xs26, u26, ys26, new26⟩ hK => ?_
   dsimp only at hK
   obtain ⟨⟨⟨hta26, htb26⟩, ⟨hlxs26, hlys26⟩, hrw⟩, -⟩ := hK
   have hIv26 : ∀ w1, Own w.heap.size w new26 w1 → Ints w1 v26 xs26 := fun w1 h => (hrw w1 h).1
   have hIu26 : ∀ w1, Own w.heap.size w new26 w1 → Ints w1 u26 ys26 := fun w1 h => (hrw w1 h).2
   have hsa26 := hta26.small
   have loa26 := hta26.lo
   have hia26 := hta26.hi
   have hsb26 := htb26.small
   have lob26 := htb26.lo
   have hib26 := htb26.hi
   show Ll _ _ (Own _ _ ((new26 ++ ([])))) _ _ ((26, .tuple #[vS a26, v26, vS b26, u26]) :: _) _ _ _
   refine Ll.run 1 rfl ?_
   refine Ll.op (v := vS a26) rfl rfl rfl (OpQ.extract rfl rfl rfl) ?_
   refine Ll.op (v := v26) rfl rfl rfl (OpQ.extract rfl rfl rfl) ?_
   refine Ll.op (v := vS b26) rfl rfl rfl (OpQ.extract rfl rfl rfl) ?_
   refine Ll.op (v := u26) rfl rfl rfl (OpQ.extract rfl rfl rfl) ?_
   refine Ll.alloc rfl rfl rfl rfl Tryd.zeroValue28 fun p5 hp5 => ?_
   show Ll _ _ (Own _ _ (bk_ p5 #[i6_ 0, str ([]), str ([])] 28 :: (new26 ++ ([])))) _ _ ((5, pt_ p5) :: _) _ _ _
   refine Ll.alloc rfl rfl rfl rfl Tryd.zeroValue28 fun p7 hp7 => ?_
   show Ll _ _ (Own _ _ (bk_ p7 #[i6_ 0, str ([]), str ([])] 28 :: _ :: (new26 ++ ([])))) _ _ ((7, pt_ p7) :: _) _ _ _
   refine Ll.storeBox (cs' := #[i6_ a26.n, str a26.set, str a26.rel]) (hs' := (_ :: bk_ p5 #[i6_ a26.n, str a26.set, str a26.rel] 28 :: (new26 ++ ([])))) 1 rfl rfl rfl rfl rfl (by kernel_rfl : _ = some Tryd.t28) rfl rfl rfl rfl rfl ?_
   refine Ll.run 1 rfl ?_
   refine Ll.storeBox (cs' := #[i6_ b26.n, str b26.set, str b26.rel]) (hs' := (bk_ p7 #[i6_ b26.n, str b26.set, str b26.rel] 28 :: _ :: (new26 ++ ([])))) 0 rfl rfl rfl rfl rfl (by kernel_rfl : _ = some Tryd.t28) rfl rfl rfl rfl rfl ?_
   refine Ll.run 1 rfl ?_
   refine Ll.nil ?_
   refine Kt.sel [1, 5, 6, 7, 8] [_, _, _, _, _] rfl ?_
   refine Wk.seq ?_
   refine Wk.regionQ ?_
   refine Lq.op rfl rfl rfl (OpQ.loadBox (cs := #[i6_ a26.n, str a26.set, str a26.rel]) 1 rfl Tryd.isAgg28 rfl rfl Tryd.sizeOf28) ?_
   refine Lq.run 1 rfl ?_
   refine Lq.op rfl rfl rfl (OpQ.loadBox (cs := #[i6_ b26.n, str b26.set, str b26.rel]) 0 rfl Tryd.isAgg28 rfl rfl Tryd.sizeOf28) ?_
   refine Lq.run 1 rfl ?_
   refine Lq.op (v := bo_ (pebEverB a26 xs26 b26 ys26)) rfl rfl rfl (OpQ.call rfl Tryd.call29 rfl Own.stable (fun w1 hw1 => iEver_ok a26 b26 xs26 ys26 v26 u26 w1 hsa26 hsb26 (hIv26 _ (Own.dropR (Own.drop (f := [_, _]) hw1))) (hIu26 _ (Own.dropR (Own.drop (f := [_, _]) hw1))) (by first | (simp; done) | (simp; omega) | omega) (by first | (simp; done) | (simp; omega) | omega))) ?_
   refine Lq.run 1 rfl ?_
   refine Lq.nil ?_
   refine Kt.sel [1, 5, 6, 7, 8, 9] [_, _, _, _, _, _] rfl ?_
   refine Wk.seq ?_
   refine Wk.seq ?_
   refine Wk.regionQ ?_
   refine Lq.run 1 rfl ?_
   refine Lq.op rfl rfl rfl (OpQ.loadBox (cs := #[i6_ a26.n, str a26.set, str a26.rel]) 1 rfl Tryd.isAgg28 rfl rfl Tryd.sizeOf28) ?_
   refine Lq.run 1 rfl ?_
   refine Lq.op rfl rfl rfl (OpQ.loadBox (cs := #[i6_ b26.n, str b26.set, str b26.rel]) 0 rfl Tryd.isAgg28 rfl rfl Tryd.sizeOf28) ?_
   refine Lq.run 1 rfl ?_
   refine Lq.op (v := bo_ (pebEverB a26 xs26 b26 ys26)) rfl rfl rfl (OpQ.call rfl Tryd.call28 rfl Own.stable (fun w1 hw1 => sEver_ok a26 b26 xs26 ys26 v26 u26 w1 hsa26 hsb26 (hIv26 _ (Own.dropR (Own.drop (f := [_, _]) hw1))) (hIu26 _ (Own.dropR (Own.drop (f := [_, _]) hw1))) (by first | (simp; done) | (simp; omega) | omega) (by first | (simp; done) | (simp; omega) | omega) loa26 hia26 lob26 hib26)) ?_
   refine Lq.op rfl rfl rfl (OpQ.bne rfl Tryd.runUnderlying4 rfl rfl) ?_
   refine Lq.run 1 rfl ?_
   refine Lq.bool fun b43 hg43 => ?_
   cases b43
   ·
    refine Lq.op rfl rfl rfl (OpQ.loadBox (cs := #[i6_ a26.n, str a26.set, str a26.rel]) 1 rfl Tryd.isAgg28 rfl rfl Tryd.sizeOf28) ?_
    refine Lq.run 1 rfl ?_
    refine Lq.op rfl rfl rfl (OpQ.loadBox (cs := #[i6_ b26.n, str b26.set, str b26.rel]) 0 rfl Tryd.isAgg28 rfl rfl Tryd.sizeOf28) ?_
    refine Lq.run 1 rfl ?_
    refine Lq.op (v := bo_ (fitB a26 xs26 b26 ys26)) rfl rfl rfl (OpQ.call rfl Tryd.call33 rfl Own.stable (fun w1 hw1 => iFit_ok a26 b26 xs26 ys26 v26 u26 w1 hsa26 hsb26 (hIv26 _ (Own.dropR (Own.drop (f := [_, _]) hw1))) (hIu26 _ (Own.dropR (Own.drop (f := [_, _]) hw1))) (by first | (simp; done) | (simp; omega) | omega) (by first | (simp; done) | (simp; omega) | omega))) ?_
    refine Lq.run 2 rfl ?_
    refine Lq.nil ?_
    refine Kt.sel [1, 5, 6, 7, 8, 9, 50] [_, _, _, _, _, _, _] rfl ?_
    refine Wk.cond (b := !(fitB a26 xs26 b26 ys26)) rfl (fun h50 => ?_) (fun h50 => ?_)
    ·
     replace h50 := not_true h50
     refine Wk.seq ?_
     refine Wk.regionQ ?_
     refine Lq.run 1 rfl ?_
     refine Lq.op rfl rfl rfl (OpQ.loadBox (cs := #[i6_ a26.n, str a26.set, str a26.rel]) 1 rfl Tryd.isAgg28 rfl rfl Tryd.sizeOf28) ?_
     refine Lq.run 1 rfl ?_
     refine Lq.op rfl rfl rfl (OpQ.loadBox (cs := #[i6_ b26.n, str b26.set, str b26.rel]) 0 rfl Tryd.isAgg28 rfl rfl Tryd.sizeOf28) ?_
     refine Lq.run 1 rfl ?_
     refine Lq.op (v := bo_ (pebEverB a26 xs26 b26 ys26)) rfl rfl rfl (OpQ.call rfl Tryd.call28 rfl Own.stable (fun w1 hw1 => sEver_ok a26 b26 xs26 ys26 v26 u26 w1 hsa26 hsb26 (hIv26 _ (Own.dropR (Own.drop (f := [_, _]) hw1))) (hIu26 _ (Own.dropR (Own.drop (f := [_, _]) hw1))) (by first | (simp; done) | (simp; omega) | omega) (by first | (simp; done) | (simp; omega) | omega) loa26 hia26 lob26 hib26)) ?_
     refine Lq.op rfl rfl rfl (OpQ.beq rfl Tryd.runUnderlying4 rfl rfl) ?_
     refine Lq.run 1 rfl ?_
     refine Lq.bool fun b58 hg58 => ?_
     cases b58
     ·
      exact absurd hg58 (by simp)
     ·
      refine Lq.op rfl rfl rfl (OpQ.loadBox (cs := #[i6_ a26.n, str a26.set, str a26.rel]) 1 rfl Tryd.isAgg28 rfl rfl Tryd.sizeOf28) ?_
      refine Lq.run 1 rfl ?_
      refine Lq.op rfl rfl rfl (OpQ.loadBox (cs := #[i6_ b26.n, str b26.set, str b26.rel]) 0 rfl Tryd.isAgg28 rfl rfl Tryd.sizeOf28) ?_
      refine Lq.run 1 rfl ?_
      refine Lq.op (v := bo_ (fitB a26 xs26 b26 ys26)) rfl rfl rfl (OpQ.call rfl Tryd.call33 rfl Own.stable (fun w1 hw1 => iFit_ok a26 b26 xs26 ys26 v26 u26 w1 hsa26 hsb26 (hIv26 _ (Own.dropR (Own.drop (f := [_, _]) hw1))) (hIu26 _ (Own.dropR (Own.drop (f := [_, _]) hw1))) (by first | (simp; done) | (simp; omega) | omega) (by first | (simp; done) | (simp; omega) | omega))) ?_
      refine Lq.run 1 rfl ?_
      refine Lq.bool fun b64 hg64 => ?_
      cases b64
      ·
       refine Lq.run 5 rfl ?_
       refine Lq.nil ?_
       refine Kt.sel [4] [_] rfl ?_
       refine Wk.ret (Kt.end1 rfl rfl fun w' hw => ?_)
       -- ret 1: bo_ (!(pebEverB a26 xs26 b26 ys26))
       exact ⟨ret_b (by rw [pF_fit (by first | assumption | (simp_all; done))]; rfl), hw.below⟩
      ·
       refine Lq.pass rfl rfl rfl ?_
       refine Lq.pass rfl rfl rfl ?_
       refine Lq.run 3 rfl ?_
       refine Lq.nil ?_
       refine Kt.sel [4] [_] rfl ?_
       refine Wk.ret (Kt.end1 rfl rfl fun w' hw => ?_)
       -- ret 2: bo_ true
       exact ⟨ret_b (by first | rfl | (rw [ever_comm]; exact (beq_self_eq_true _).symm) | (rw [ever_comm]; exact beq_self_eq_true _)), hw.below⟩
    ·
     replace h50 := not_false h50
     have hf : fitB a26 xs26 b26 ys26 = true := by simp_all
     have hr : readyB a26 xs26 b26 ys26 = true := by unfold fitB at hf; simp only [Bool.and_eq_true] at hf; exact hf.1
     obtain ⟨hVa, hVb, hr1, hr3, hrl, hrx, hry⟩ := ready_peb hr
     have hfa := validB_fine hVa
     have hfb := validB_fine hVb
     have hlo1 := hfa.lo
     have hlo2 := hfb.lo
     have hhi1 := hfa.hi
     have hhi2 := hfb.hi
     refine Wk.skip ?_
     refine Kt.sel [1, 5, 6, 7, 8, 9] [_, _, _, _, _, _] rfl ?_
     refine Wk.seq ?_
     refine Wk.seq ?_
     refine Wk.regionQ ?_
     refine Lq.run 1 rfl ?_
     refine Lq.nil ?_
     refine Kt.sel [1, 5, 6, 7, 8, 9, 10] [_, _, _, _, _, _, _] rfl ?_
     refine Wk.block ?_
     refine Wk.loop (σ := Nat) (fun n => n ≤ 5) (fun n => [(1, cv), (5, pt_ p5), (6, v26), (7, pt_ p7), (8, u26), (9, bo_ (pebEverB a26 xs26 b26 ys26)), (10, i6_ ((n : Int)))]) (fun n => Own w.heap.size w (bk_ p7 #[i6_ b26.n, str b26.set, str b26.rel] 28 :: bk_ p5 #[i6_ a26.n, str a26.set, str a26.rel] 28 :: (new26 ++ ([])))) (fun n => 5 - n) (0) (by omega) (Sub.sel [1, 5, 6, 7, 8, 9, 10] rfl) (fun _ h => h) ?_
     rintro n hn5
     refine Wk.seq ?_
     refine Wk.seq ?_
     refine Wk.regionQ ?_
     refine Lq.run 2 rfl ?_
     refine Lq.bool fun b70 hg70 => ?_
     cases b70
     ·
      refine Lq.pass rfl rfl rfl ?_
      refine Lq.pass rfl rfl rfl ?_
      refine Lq.run 1 rfl ?_
      refine Lq.nil ?_
      refine Kt.sel [1, 5, 6, 7, 8, 9, 10, 73] [_, _, _, _, _, _, _, _] rfl ?_
      refine Wk.condF rfl ?_
      refine Wk.exit rfl ?_
      refine Kt.sel [1, 5, 6, 7, 8, 9] [_, _, _, _, _, _] rfl ?_
      refine Wk.seq ?_
      refine Wk.seq ?_
      refine Wk.regionQ ?_
      refine Lq.run 1 rfl ?_
      refine Lq.nil ?_
      refine Kt.sel [1, 5, 6, 7, 8, 9, 11] [_, _, _, _, _, _, _] rfl ?_
      refine Wk.block ?_
      refine Wk.loop (σ := Nat) (fun i => i ≤ xs26.length) (fun i => [(1, cv), (5, pt_ p5), (6, v26), (7, pt_ p7), (8, u26), (9, bo_ (pebEverB a26 xs26 b26 ys26)), (11, i6_ ((i : Int)))]) (fun i => Own w.heap.size w (bk_ p7 #[i6_ b26.n, str b26.set, str b26.rel] 28 :: bk_ p5 #[i6_ a26.n, str a26.set, str a26.rel] 28 :: (new26 ++ ([])))) (fun i => xs26.length - i) (0) (by omega) (Sub.sel [1, 5, 6, 7, 8, 9, 11] rfl) (fun _ h => h) ?_
      rintro i hi
      refine Wk.seq ?_
      refine Wk.seq ?_
      refine Wk.regionQ ?_
      refine Lq.run 2 rfl ?_
      refine Lq.bool fun b84 hg84 => ?_
      cases b84
      ·
       refine Lq.pass rfl rfl rfl ?_
       refine Lq.pass rfl rfl rfl ?_
       refine Lq.pass rfl rfl rfl ?_
       refine Lq.pass rfl rfl rfl ?_
       refine Lq.run 1 rfl ?_
       refine Lq.nil ?_
       refine Kt.sel [1, 5, 6, 7, 8, 9, 11, 89] [_, _, _, _, _, _, _, _] rfl ?_
       refine Wk.condF rfl ?_
       refine Wk.exit rfl ?_
       refine Kt.sel [5, 6, 7, 8, 9] [_, _, _, _, _] rfl ?_
       refine Wk.seq ?_
       refine Wk.regionQ ?_
       refine Lq.op rfl rfl rfl (OpQ.loadBox (cs := #[i6_ a26.n, str a26.set, str a26.rel]) 1 rfl Tryd.isAgg28 rfl rfl Tryd.sizeOf28) ?_
       refine Lq.run 1 rfl ?_
       refine Lq.op rfl rfl rfl (OpQ.loadBox (cs := #[i6_ a26.n, str a26.set, str a26.rel]) 1 rfl Tryd.isAgg28 rfl rfl Tryd.sizeOf28) ?_
       refine Lq.run 1 rfl ?_
       refine Lq.op (v := bo_ (pebEverB a26 xs26 a26 xs26)) rfl rfl rfl (OpQ.call rfl Tryd.call29 rfl Own.stable (fun w1 hw1 => iEver_ok a26 a26 xs26 xs26 v26 v26 w1 hsa26 hsa26 (hIv26 _ (Own.dropR (Own.drop (f := [_, _]) hw1))) (hIv26 _ (Own.dropR (Own.drop (f := [_, _]) hw1))) (by first | (simp; done) | (simp; omega) | omega) (by first | (simp; done) | (simp; omega) | omega))) ?_
       refine Lq.run 1 rfl ?_
       refine Lq.bool fun b131 hg131 => ?_
       cases b131
       ·
        exact absurd (ever_refl hr) (by rw [hg131]; decide)
       ·
        refine Lq.op rfl rfl rfl (OpQ.loadBox (cs := #[i6_ b26.n, str b26.set, str b26.rel]) 0 rfl Tryd.isAgg28 rfl rfl Tryd.sizeOf28) ?_
        refine Lq.run 1 rfl ?_
        refine Lq.op rfl rfl rfl (OpQ.loadBox (cs := #[i6_ a26.n, str a26.set, str a26.rel]) 1 rfl Tryd.isAgg28 rfl rfl Tryd.sizeOf28) ?_
        refine Lq.run 1 rfl ?_
        refine Lq.op (v := bo_ (pebEverB b26 ys26 a26 xs26)) rfl rfl rfl (OpQ.call rfl Tryd.call29 rfl Own.stable (fun w1 hw1 => iEver_ok b26 a26 ys26 xs26 u26 v26 w1 hsb26 hsa26 (hIu26 _ (Own.dropR (Own.drop (f := [_, _]) hw1))) (hIv26 _ (Own.dropR (Own.drop (f := [_, _]) hw1))) (by first | (simp; done) | (simp; omega) | omega) (by first | (simp; done) | (simp; omega) | omega))) ?_
        refine Lq.run 1 rfl ?_
        refine Lq.op rfl rfl rfl (OpQ.beq rfl Tryd.runUnderlying4 rfl rfl) ?_
        refine Lq.run 2 rfl ?_
        refine Lq.nil ?_
        refine Kt.sel [4] [_] rfl ?_
        refine Wk.ret (Kt.end1 rfl rfl fun w' hw => ?_)
        -- ret 3: bo_ ((pebEverB b26 ys26 a26 xs26) == (pebEverB a26 xs26 b26 ys26))
        exact ⟨ret_b (by first | rfl | (rw [ever_comm]; exact (beq_self_eq_true _).symm) | (rw [ever_comm]; exact beq_self_eq_true _)), hw.below⟩
      ·
       refine Lq.run 2 rfl ?_
       refine Lq.op (v := i6_ ((xs26.length : Int))) rfl rfl rfl (OpQ.lenRow rfl Tryd.runUnderlying24 rfl (ints_length _) (fun w1 hw1 => hIv26 _ (Own.dropR (Own.drop (f := [_, _]) hw1)))) ?_
       refine Lq.run 2 rfl ?_
       refine Lq.nil ?_
       refine Kt.sel [1, 5, 6, 7, 8, 9, 11, 89] [_, _, _, _, _, _, _, _] rfl ?_
       refine Wk.cond (b := decide (((i : Int)) < ((xs26.length : Int)))) rfl (fun h89 => ?_) (fun h89 => ?_)
       ·
        replace h89 := of_decide_eq_true h89
        have hil : i < xs26.length := by omega
        refine Wk.skip ?_
        refine Kt.sel [1, 5, 6, 7, 8, 9, 11] [_, _, _, _, _, _, _] rfl ?_
        refine Wk.seq ?_
        refine Wk.block ?_
        refine Wk.seq ?_
        refine Wk.region ?_
        refine Ll.slice (xs := []) (vs := []) Base.elem24 rfl rfl rfl rfl rfl rfl (by decide) rfl fun p92 hp92 => ?_
        refine Ll.run 1 rfl ?_
        refine Ll.appendInts (xs := []) (ys := xs26) Base.elem24 0 rfl rfl rfl rfl rfl rfl rfl rfl (by decide) rfl (fun w1 hw1 => (hIv26 _ (Own.dropR (Own.drop (f := [_, _, _]) hw1)))) ((xs26).length) (by first | (simp; done) | (simp; omega)) (by first | (simp; done) | (simp; omega) | omega) fun p94 cap94 cur94 hp94 hcp94 hlp94 htp94 => ?_
        show Ll _ _ (Own _ _ (_ :: _ :: _ :: (new26 ++ ([])))) _ _ ((94, sl_ p94 (((xs26).length)) cap94) :: _) _ _ _
        refine Ll.run 1 rfl ?_
        refine Ll.nil ?_
        refine Kt.sel [1, 5, 6, 7, 8, 9, 11, 12] [_, _, _, _, _, _, _, _] rfl ?_
        refine Wk.seq ?_
        refine Wk.region ?_
        refine Ll.slice (xs := []) (vs := []) Base.elem24 rfl rfl rfl rfl rfl rfl (by decide) rfl fun p95 hp95 => ?_
        refine Ll.run 1 rfl ?_
        refine Ll.appendInts (xs := []) (ys := ys26) Base.elem24 0 rfl rfl rfl rfl rfl rfl rfl rfl (by decide) rfl (fun w1 hw1 => (hIu26 _ (Own.dropR (Own.drop (f := [_, _, _, _]) hw1)))) ((ys26).length) (by first | (simp; done) | (simp; omega)) (by first | (simp; done) | (simp; omega) | omega) fun p97 cap97 cur97 hp97 hcp97 hlp97 htp97 => ?_
        show Ll _ _ (Own _ _ (_ :: _ :: _ :: _ :: (new26 ++ ([])))) _ _ ((97, sl_ p97 (((ys26).length)) cap97) :: _) _ _ _
        refine Ll.run 1 rfl ?_
        refine Ll.nil ?_
        refine Kt.sel [1, 5, 6, 7, 8, 9, 11, 12, 13] [_, _, _, _, _, _, _, _, _] rfl ?_
        refine Wk.seq ?_
        refine Wk.region ?_
        refine Ll.run 3 rfl ?_
        refine Ll.op (v := i6_ ((L2.length : Int))) rfl rfl rfl (OpQ.lenRow rfl Tryd.runUnderlying45 rfl (u8s_length _) (fun w1 hw1 => Row.own hcv hw1)) ?_
        refine Ll.op rfl rfl rfl (OpQ.fieldAddr rfl Tryd.runUnderlying28 rfl Tryd.sizeOf3 rfl rfl) ?_
        refine Ll.op rfl rfl rfl (OpQ.loadOwn 3 rfl Tryd.isAgg3 rfl rfl rfl) ?_
        refine Ll.op (v := i6_ (((L2.length % a26.n.toNat : Nat) : Int))) rfl rfl rfl (OpQ.cast (by rw [Int.natCast_emod, Int.toNat_of_nonneg (by omega)]) (OpQ.rem rfl rfl rfl (by omega) (by omega))) ?_
        refine Ll.op (v := pf_ p94 i) rfl rfl rfl (OpQ.cast (by simp) (OpQ.indexAddr1 rfl Tryd.runUnderlying24 Tryd.sizeOf3 rfl rfl (by omega) (by omega))) ?_
        refine Ll.store1 (v := i6_ (((L2.length % a26.n.toNat : Nat) : Int))) (hs' := (_ :: bk_ p94 ((cur94.setIfInBounds i (i6_ (((L2.length % a26.n.toNat : Nat) : Int))))) 3 :: _ :: _ :: (new26 ++ ([])))) 1 rfl rfl rfl rfl rfl rfl Tryd.sizeOf3 rfl (by rw [hcp94]; omega) rfl ?_
        refine Ll.nil ?_
        refine Kt.sel [1, 5, 6, 7, 8, 9, 11, 12, 13] [_, _, _, _, _, _, _, _, _] rfl ?_
        refine Wk.seq ?_
        refine Wk.regionQ ?_
        refine Lq.run 1 rfl ?_
        refine Lq.nil ?_
        refine Kt.sel [1, 5, 6, 7, 8, 9, 11, 12, 13, 14] [_, _, _, _, _, _, _, _, _, _] rfl ?_
        refine Wk.seq ?_
        refine Wk.seq ?_
        refine Wk.regionQ ?_
        refine Lq.run 1 rfl ?_
        refine Lq.nil ?_
        refine Kt.sel [1, 5, 6, 7, 8, 9, 11, 12, 13, 14, 15] [_, _, _, _, _, _, _, _, _, _, _] rfl ?_
        refine Wk.block ?_
        refine Wk.loop (σ := Nat × Array Value × List Int) (fun ⟨y, u, Q⟩ => (y : Int) ≤ b26.n ∧ (u.size = cap97 * 1 ∧ ys26.length ≤ cap97 ∧ u.toList.take ys26.length = ints Q) ∧ (Q.length = ys26.length ∧ ∀ z : Int, Q.set i z = ys26.set i z)) (fun ⟨y, u, Q⟩ => [(1, cv), (5, pt_ p5), (6, v26), (7, pt_ p7), (8, u26), (9, bo_ (pebEverB a26 xs26 b26 ys26)), (11, i6_ ((i : Int))), (12, sl_ p94 (((xs26).length)) cap94), (13, sl_ p97 ys26.length cap97), (14, bo_ (someW (evF a26 xs26 b26 ys26 i) (L2.length % a26.n.toNat) y)), (15, i6_ ((y : Int)))]) (fun ⟨y, u, Q⟩ => Own w.heap.size w (bk_ p97 u 3 :: bk_ p94 ((cur94.setIfInBounds i (i6_ (((L2.length % a26.n.toNat : Nat) : Int))))) 3 :: bk_ p7 #[i6_ b26.n, str b26.set, str b26.rel] 28 :: bk_ p5 #[i6_ a26.n, str a26.set, str a26.rel] 28 :: (new26 ++ ([])))) (fun ⟨y, u, Q⟩ => (b26.n - y).toNat) ((0, cur97, ys26)) ⟨by omega, ⟨hcp97, by simpa using hlp97, by simpa using (by simpa using htp97)⟩, rfl, fun _ => rfl⟩ (Sub.cons rfl (Sub.cons rfl (Sub.cons rfl (Sub.cons rfl (Sub.cons rfl (Sub.cons rfl (Sub.cons rfl (Sub.cons rfl (Sub.cons (by rfl) (Sub.cons (by rfl) (Sub.sel [15] rfl))))))))))) (fun _ h => h) ?_
        rintro ⟨y, u, Q⟩ ⟨hy, ⟨hcq, hlq, htq⟩, ⟨hQl, hQ⟩⟩
        dsimp only
        refine Wk.seq ?_
        refine Wk.seq ?_
        refine Wk.regionQ ?_
        refine Lq.run 1 rfl ?_
        refine Lq.op rfl rfl rfl (OpQ.fieldAddr rfl Tryd.runUnderlying28 rfl Tryd.sizeOf3 rfl rfl) ?_
        refine Lq.op rfl rfl rfl (OpQ.loadOwn 2 rfl Tryd.isAgg3 rfl rfl rfl) ?_
        refine Lq.run 1 rfl ?_
        refine Lq.nil ?_
        refine Kt.sel [1, 5, 6, 7, 8, 9, 11, 12, 13, 14, 15, 109] [_, _, _, _, _, _, _, _, _, _, _, _] rfl ?_
        refine Wk.cond (b := decide (((y : Int)) < b26.n)) rfl (fun h109 => ?_) (fun h109 => ?_)
        ·
         replace h109 := of_decide_eq_true h109
         refine Wk.skip ?_
         refine Kt.sel [1, 5, 6, 7, 8, 9, 11, 12, 13, 14, 15] [_, _, _, _, _, _, _, _, _, _, _] rfl ?_
         refine Wk.seq ?_
         refine Wk.block ?_
         refine Wk.seq ?_
         refine Wk.region ?_
         refine Ll.run 3 rfl ?_
         refine Ll.op (v := pf_ p97 i) rfl rfl rfl (OpQ.cast (by simp) (OpQ.indexAddr1 rfl Tryd.runUnderlying24 Tryd.sizeOf3 rfl rfl (by omega) (by omega))) ?_
         refine Ll.store1 (v := i6_ ((y : Int))) (hs' := (bk_ p97 ((u.setIfInBounds i (i6_ ((y : Int))))) 3 :: _ :: _ :: _ :: (new26 ++ ([])))) 0 rfl rfl rfl rfl rfl rfl Tryd.sizeOf3 rfl (by rw [hcq]; omega) rfl ?_
         refine Ll.nil ?_
         refine Kt.sel [1, 5, 6, 7, 8, 9, 11, 12, 13, 14, 15] [_, _, _, _, _, _, _, _, _, _, _] rfl ?_
         refine Wk.regionQ ?_
         refine Lq.run 2 rfl ?_
         refine Lq.bool fun b117 hg117 => ?_
         cases b117
         ·
          skip
          refine Lq.op rfl rfl rfl (OpQ.loadBox (cs := #[i6_ a26.n, str a26.set, str a26.rel]) 3 rfl Tryd.isAgg28 rfl rfl Tryd.sizeOf28) ?_
          refine Lq.run 1 rfl ?_
          refine Lq.op rfl rfl rfl (OpQ.loadBox (cs := #[i6_ b26.n, str b26.set, str b26.rel]) 2 rfl Tryd.isAgg28 rfl rfl Tryd.sizeOf28) ?_
          refine Lq.run 1 rfl ?_
          refine Lq.op (v := bo_ (pebEverB a26 (xs26.set i (((L2.length % a26.n.toNat : Nat) : Int))) b26 (Q.set i ((y : Int))))) rfl rfl rfl (OpQ.call rfl Tryd.call29 rfl Own.stable (fun w1 hw1 => iEver_ok a26 b26 (xs26.set i (((L2.length % a26.n.toNat : Nat) : Int))) (Q.set i ((y : Int))) (sl_ p94 (((xs26).length)) cap94) (sl_ p97 ys26.length cap97) w1 hsa26 hsb26 (Own.row hw1 (i := 1) rfl (set_takeI (by simpa using htp94)) (by simp) hlp94) (Own.row hw1 (i := 0) rfl (set_takeI htq) (by simpa using hQl) hlq) (by first | (simp; done) | (simp; omega) | omega) (by first | (simp; done) | (simp; omega) | omega))) ?_
          refine Lq.run 2 rfl ?_
          refine Lq.nil ?_
          refine Kt.sel [1, 5, 6, 7, 8, 9, 11, 12, 13, 14, 15] [_, _, _, _, _, _, _, _, _, _, _] rfl ?_
          refine Wk.regionQ ?_
          refine Lq.run 1 rfl ?_
          refine Lq.op rfl rfl rfl (OpQ.add rfl rfl rfl (by omega) (by omega)) ?_
          refine Lq.run 1 rfl ?_
          refine Lq.nil ?_
          refine Kt.again ((y + 1, (u.setIfInBounds i (i6_ ((y : Int)))), Q.set i ((y : Int)))) ⟨by omega, ⟨by simpa using hcq, hlq, (set_takeI htq)⟩, ⟨by simpa using hQl, fun z => by dsimp only; rw [List.set_set]; exact hQ z⟩⟩ (by omega) (Sub.cons rfl (Sub.cons rfl (Sub.cons rfl (Sub.cons rfl (Sub.cons rfl (Sub.cons rfl (Sub.cons rfl (Sub.cons rfl (Sub.cons rfl (Sub.cons (by rw [someW_succ, hg117]; first | rfl | (unfold evF; rw [← hQ]; rfl)) (Sub.sel [15] rfl))))))))))) (fun _ h => h)
         ·
          skip
          refine Lq.pass rfl rfl rfl ?_
          refine Lq.pass rfl rfl rfl ?_
          refine Lq.pass rfl rfl rfl ?_
          refine Lq.pass rfl rfl rfl ?_
          refine Lq.pass rfl rfl rfl ?_
          refine Lq.run 2 rfl ?_
          refine Lq.nil ?_
          refine Kt.sel [1, 5, 6, 7, 8, 9, 11, 12, 13, 14, 15] [_, _, _, _, _, _, _, _, _, _, _] rfl ?_
          refine Wk.regionQ ?_
          refine Lq.run 1 rfl ?_
          refine Lq.op rfl rfl rfl (OpQ.add rfl rfl rfl (by omega) (by omega)) ?_
          refine Lq.run 1 rfl ?_
          refine Lq.nil ?_
          refine Kt.again ((y + 1, (u.setIfInBounds i (i6_ ((y : Int)))), Q.set i ((y : Int)))) ⟨by omega, ⟨by simpa using hcq, hlq, (set_takeI htq)⟩, ⟨by simpa using hQl, fun z => by dsimp only; rw [List.set_set]; exact hQ z⟩⟩ (by omega) (Sub.cons rfl (Sub.cons rfl (Sub.cons rfl (Sub.cons rfl (Sub.cons rfl (Sub.cons rfl (Sub.cons rfl (Sub.cons rfl (Sub.cons rfl (Sub.cons (by rw [someW_succ, hg117]; first | rfl | (unfold evF; rw [← hQ]; rfl)) (Sub.sel [15] rfl))))))))))) (fun _ h => h)
        ·
         replace h109 := of_decide_eq_false h109
         have hyn : y = b26.n.toNat := by omega
         refine Wk.exit rfl ?_
         refine Kt.sel [1, 5, 6, 7, 8, 9, 11, 14] [_, _, _, _, _, _, _, _] rfl ?_
         refine Wk.seq ?_
         refine Wk.regionQ ?_
         refine Lq.run 2 rfl ?_
         refine Lq.nil ?_
         refine Kt.sel [1, 5, 6, 7, 8, 9, 11, 125] [_, _, _, _, _, _, _, _] rfl ?_
         refine Wk.cond (b := !(someW (evF a26 xs26 b26 ys26 i) (L2.length % a26.n.toNat) y)) rfl (fun h125 => ?_) (fun h125 => ?_)
         ·
          replace h125 := not_true h125
          exact absurd (ever_moves (i := i) (x := L2.length % a26.n.toNat) (by assumption) hil (Nat.mod_lt _ (by omega))) (by rw [← hyn, h125]; decide)
         ·
          replace h125 := not_false h125
          refine Wk.skip ?_
          refine Kt.sel [1, 5, 6, 7, 8, 9, 11] [_, _, _, _, _, _, _] rfl ?_
          refine Wk.regionQ ?_
          refine Lq.run 1 rfl ?_
          refine Lq.op rfl rfl rfl (OpQ.add rfl rfl rfl (by omega) (by omega)) ?_
          refine Lq.run 1 rfl ?_
          refine Lq.nil ?_
          refine Kt.again (i + 1) (by omega) (by omega) (Sub.sel [1, 5, 6, 7, 8, 9, 11] rfl) (fun _ h => h.sub (List.Sublist.cons _ (List.Sublist.cons _ (List.Sublist.cons_cons _ (List.Sublist.cons_cons _ (List.Sublist.refl _))))))
       ·
        replace h89 := of_decide_eq_false h89
        refine Wk.exit rfl ?_
        refine Kt.sel [5, 6, 7, 8, 9] [_, _, _, _, _] rfl ?_
        refine Wk.seq ?_
        refine Wk.regionQ ?_
        refine Lq.op rfl rfl rfl (OpQ.loadBox (cs := #[i6_ a26.n, str a26.set, str a26.rel]) 1 rfl Tryd.isAgg28 rfl rfl Tryd.sizeOf28) ?_
        refine Lq.run 1 rfl ?_
        refine Lq.op rfl rfl rfl (OpQ.loadBox (cs := #[i6_ a26.n, str a26.set, str a26.rel]) 1 rfl Tryd.isAgg28 rfl rfl Tryd.sizeOf28) ?_
        refine Lq.run 1 rfl ?_
        refine Lq.op (v := bo_ (pebEverB a26 xs26 a26 xs26)) rfl rfl rfl (OpQ.call rfl Tryd.call29 rfl Own.stable (fun w1 hw1 => iEver_ok a26 a26 xs26 xs26 v26 v26 w1 hsa26 hsa26 (hIv26 _ (Own.dropR (Own.drop (f := [_, _]) hw1))) (hIv26 _ (Own.dropR (Own.drop (f := [_, _]) hw1))) (by first | (simp; done) | (simp; omega) | omega) (by first | (simp; done) | (simp; omega) | omega))) ?_
        refine Lq.run 1 rfl ?_
        refine Lq.bool fun b131 hg131_1 => ?_
        cases b131
        ·
         exact absurd (ever_refl hr) (by rw [hg131_1]; decide)
        ·
         refine Lq.op rfl rfl rfl (OpQ.loadBox (cs := #[i6_ b26.n, str b26.set, str b26.rel]) 0 rfl Tryd.isAgg28 rfl rfl Tryd.sizeOf28) ?_
         refine Lq.run 1 rfl ?_
         refine Lq.op rfl rfl rfl (OpQ.loadBox (cs := #[i6_ a26.n, str a26.set, str a26.rel]) 1 rfl Tryd.isAgg28 rfl rfl Tryd.sizeOf28) ?_
         refine Lq.run 1 rfl ?_
         refine Lq.op (v := bo_ (pebEverB b26 ys26 a26 xs26)) rfl rfl rfl (OpQ.call rfl Tryd.call29 rfl Own.stable (fun w1 hw1 => iEver_ok b26 a26 ys26 xs26 u26 v26 w1 hsb26 hsa26 (hIu26 _ (Own.dropR (Own.drop (f := [_, _]) hw1))) (hIv26 _ (Own.dropR (Own.drop (f := [_, _]) hw1))) (by first | (simp; done) | (simp; omega) | omega) (by first | (simp; done) | (simp; omega) | omega))) ?_
         refine Lq.run 1 rfl ?_
         refine Lq.op rfl rfl rfl (OpQ.beq rfl Tryd.runUnderlying4 rfl rfl) ?_
         refine Lq.run 2 rfl ?_
         refine Lq.nil ?_
         refine Kt.sel [4] [_] rfl ?_
         refine Wk.ret (Kt.end1 rfl rfl fun w' hw => ?_)
         -- ret 4: bo_ ((pebEverB b26 ys26 a26 xs26) == (pebEverB a26 xs26 b26 ys26))
         exact ⟨ret_b (by first | rfl | (rw [ever_comm]; exact (beq_self_eq_true _).symm) | (rw [ever_comm]; exact beq_self_eq_true _)), hw.below⟩
     ·
      refine Lq.run 3 rfl ?_
      refine Lq.nil ?_
      refine Kt.sel [1, 5, 6, 7, 8, 9, 10, 73] [_, _, _, _, _, _, _, _] rfl ?_
      refine Wk.cond (b := decide (((n : Int)) ≤ (4 : Int))) rfl (fun h73 => ?_) (fun h73 => ?_)
      ·
       replace h73 := of_decide_eq_true h73
       refine Wk.skip ?_
       refine Kt.sel [1, 5, 6, 7, 8, 9, 10] [_, _, _, _, _, _, _] rfl ?_
       refine Wk.seq ?_
       refine Wk.block ?_
       refine Wk.seq ?_
       refine Wk.regionQ ?_
       refine Lq.op rfl rfl rfl (OpQ.loadBox (cs := #[i6_ a26.n, str a26.set, str a26.rel]) 1 rfl Tryd.isAgg28 rfl rfl Tryd.sizeOf28) ?_
       refine Lq.run 1 rfl ?_
       refine Lq.op rfl rfl rfl (OpQ.loadBox (cs := #[i6_ b26.n, str b26.set, str b26.rel]) 0 rfl Tryd.isAgg28 rfl rfl Tryd.sizeOf28) ?_
       refine Lq.run 2 rfl ?_
       refine Lq.op (v := bo_ (pebWinB a26 xs26 b26 ys26 ((n : Int)))) rfl rfl rfl (OpQ.call rfl Tryd.call25 rfl Own.stable (fun w1 hw1 => iPWin_ok a26 b26 xs26 ys26 v26 u26 w1 hsa26 hsb26 (hIv26 _ (Own.dropR (Own.drop (f := [_, _]) hw1))) (hIu26 _ (Own.dropR (Own.drop (f := [_, _]) hw1))) (by first | (simp; done) | (simp; omega) | omega) (by first | (simp; done) | (simp; omega) | omega) ((n : Int)))) ?_
       refine Lq.run 1 rfl ?_
       refine Lq.nil ?_
       refine Kt.sel [1, 5, 6, 7, 8, 9, 10, 82] [_, _, _, _, _, _, _, _] rfl ?_
       refine Wk.cond (b := !(pebWinB a26 xs26 b26 ys26 ((n : Int)))) rfl (fun h82 => ?_) (fun h82 => ?_)
       ·
        replace h82 := not_true h82
        exact absurd h82 (by rw [show pebWinB a26 xs26 b26 ys26 (n : Int) = true from ever_win (by assumption) (by omega) (by omega)]; decide)
       ·
        replace h82 := not_false h82
        refine Wk.skip ?_
        refine Kt.sel [1, 5, 6, 7, 8, 9, 10] [_, _, _, _, _, _, _] rfl ?_
        refine Wk.regionQ ?_
        refine Lq.run 1 rfl ?_
        refine Lq.op rfl rfl rfl (OpQ.add rfl rfl rfl (by omega) (by omega)) ?_
        refine Lq.run 1 rfl ?_
        refine Lq.nil ?_
        refine Kt.again (n + 1) (by omega) (by omega) (Sub.sel [1, 5, 6, 7, 8, 9, 10] rfl) (fun _ h => h)
      ·
       replace h73 := of_decide_eq_false h73
       refine Wk.exit rfl ?_
       refine Kt.sel [1, 5, 6, 7, 8, 9] [_, _, _, _, _, _] rfl ?_
       refine Wk.seq ?_
       refine Wk.seq ?_
       refine Wk.regionQ ?_
       refine Lq.run 1 rfl ?_
       refine Lq.nil ?_
       refine Kt.sel [1, 5, 6, 7, 8, 9, 11] [_, _, _, _, _, _, _] rfl ?_
       refine Wk.block ?_
       refine Wk.loop (σ := Nat) (fun i => i ≤ xs26.length) (fun i => [(1, cv), (5, pt_ p5), (6, v26), (7, pt_ p7), (8, u26), (9, bo_ (pebEverB a26 xs26 b26 ys26)), (11, i6_ ((i : Int)))]) (fun i => Own w.heap.size w (bk_ p7 #[i6_ b26.n, str b26.set, str b26.rel] 28 :: bk_ p5 #[i6_ a26.n, str a26.set, str a26.rel] 28 :: (new26 ++ ([])))) (fun i => xs26.length - i) (0) (by omega) (Sub.sel [1, 5, 6, 7, 8, 9, 11] rfl) (fun _ h => h) ?_
       rintro i hi
       refine Wk.seq ?_
       refine Wk.seq ?_
       refine Wk.regionQ ?_
       refine Lq.run 2 rfl ?_
       refine Lq.bool fun b84 hg84_1 => ?_
       cases b84
       ·
        refine Lq.pass rfl rfl rfl ?_
        refine Lq.pass rfl rfl rfl ?_
        refine Lq.pass rfl rfl rfl ?_
        refine Lq.pass rfl rfl rfl ?_
        refine Lq.run 1 rfl ?_
        refine Lq.nil ?_
        refine Kt.sel [1, 5, 6, 7, 8, 9, 11, 89] [_, _, _, _, _, _, _, _] rfl ?_
        refine Wk.condF rfl ?_
        refine Wk.exit rfl ?_
        refine Kt.sel [5, 6, 7, 8, 9] [_, _, _, _, _] rfl ?_
        refine Wk.seq ?_
        refine Wk.regionQ ?_
        refine Lq.op rfl rfl rfl (OpQ.loadBox (cs := #[i6_ a26.n, str a26.set, str a26.rel]) 1 rfl Tryd.isAgg28 rfl rfl Tryd.sizeOf28) ?_
        refine Lq.run 1 rfl ?_
        refine Lq.op rfl rfl rfl (OpQ.loadBox (cs := #[i6_ a26.n, str a26.set, str a26.rel]) 1 rfl Tryd.isAgg28 rfl rfl Tryd.sizeOf28) ?_
        refine Lq.run 1 rfl ?_
        refine Lq.op (v := bo_ (pebEverB a26 xs26 a26 xs26)) rfl rfl rfl (OpQ.call rfl Tryd.call29 rfl Own.stable (fun w1 hw1 => iEver_ok a26 a26 xs26 xs26 v26 v26 w1 hsa26 hsa26 (hIv26 _ (Own.dropR (Own.drop (f := [_, _]) hw1))) (hIv26 _ (Own.dropR (Own.drop (f := [_, _]) hw1))) (by first | (simp; done) | (simp; omega) | omega) (by first | (simp; done) | (simp; omega) | omega))) ?_
        refine Lq.run 1 rfl ?_
        refine Lq.bool fun b131 hg131_2 => ?_
        cases b131
        ·
         exact absurd (ever_refl hr) (by rw [hg131_2]; decide)
        ·
         refine Lq.op rfl rfl rfl (OpQ.loadBox (cs := #[i6_ b26.n, str b26.set, str b26.rel]) 0 rfl Tryd.isAgg28 rfl rfl Tryd.sizeOf28) ?_
         refine Lq.run 1 rfl ?_
         refine Lq.op rfl rfl rfl (OpQ.loadBox (cs := #[i6_ a26.n, str a26.set, str a26.rel]) 1 rfl Tryd.isAgg28 rfl rfl Tryd.sizeOf28) ?_
         refine Lq.run 1 rfl ?_
         refine Lq.op (v := bo_ (pebEverB b26 ys26 a26 xs26)) rfl rfl rfl (OpQ.call rfl Tryd.call29 rfl Own.stable (fun w1 hw1 => iEver_ok b26 a26 ys26 xs26 u26 v26 w1 hsb26 hsa26 (hIu26 _ (Own.dropR (Own.drop (f := [_, _]) hw1))) (hIv26 _ (Own.dropR (Own.drop (f := [_, _]) hw1))) (by first | (simp; done) | (simp; omega) | omega) (by first | (simp; done) | (simp; omega) | omega))) ?_
         refine Lq.run 1 rfl ?_
         refine Lq.op rfl rfl rfl (OpQ.beq rfl Tryd.runUnderlying4 rfl rfl) ?_
         refine Lq.run 2 rfl ?_
         refine Lq.nil ?_
         refine Kt.sel [4] [_] rfl ?_
         refine Wk.ret (Kt.end1 rfl rfl fun w' hw => ?_)
         -- ret 5: bo_ ((pebEverB b26 ys26 a26 xs26) == (pebEverB a26 xs26 b26 ys26))
         exact ⟨ret_b (by first | rfl | (rw [ever_comm]; exact (beq_self_eq_true _).symm) | (rw [ever_comm]; exact beq_self_eq_true _)), hw.below⟩
       ·
        refine Lq.run 2 rfl ?_
        refine Lq.op (v := i6_ ((xs26.length : Int))) rfl rfl rfl (OpQ.lenRow rfl Tryd.runUnderlying24 rfl (ints_length _) (fun w1 hw1 => hIv26 _ (Own.dropR (Own.drop (f := [_, _]) hw1)))) ?_
        refine Lq.run 2 rfl ?_
        refine Lq.nil ?_
        refine Kt.sel [1, 5, 6, 7, 8, 9, 11, 89] [_, _, _, _, _, _, _, _] rfl ?_
        refine Wk.cond (b := decide (((i : Int)) < ((xs26.length : Int)))) rfl (fun h89_1 => ?_) (fun h89_1 => ?_)
        ·
         replace h89_1 := of_decide_eq_true h89_1
         have hil : i < xs26.length := by omega
         refine Wk.skip ?_
         refine Kt.sel [1, 5, 6, 7, 8, 9, 11] [_, _, _, _, _, _, _] rfl ?_
         refine Wk.seq ?_
         refine Wk.block ?_
         refine Wk.seq ?_
         refine Wk.region ?_
         refine Ll.slice (xs := []) (vs := []) Base.elem24 rfl rfl rfl rfl rfl rfl (by decide) rfl fun p92_1 hp92_1 => ?_
         refine Ll.run 1 rfl ?_
         refine Ll.appendInts (xs := []) (ys := xs26) Base.elem24 0 rfl rfl rfl rfl rfl rfl rfl rfl (by decide) rfl (fun w1 hw1 => (hIv26 _ (Own.dropR (Own.drop (f := [_, _, _]) hw1)))) ((xs26).length) (by first | (simp; done) | (simp; omega)) (by first | (simp; done) | (simp; omega) | omega) fun p94_1 cap94_1 cur94_1 hp94_1 hcp94_1 hlp94_1 htp94_1 => ?_
         show Ll _ _ (Own _ _ (_ :: _ :: _ :: (new26 ++ ([])))) _ _ ((94, sl_ p94_1 (((xs26).length)) cap94_1) :: _) _ _ _
         refine Ll.run 1 rfl ?_
         refine Ll.nil ?_
         refine Kt.sel [1, 5, 6, 7, 8, 9, 11, 12] [_, _, _, _, _, _, _, _] rfl ?_
         refine Wk.seq ?_
         refine Wk.region ?_
         refine Ll.slice (xs := []) (vs := []) Base.elem24 rfl rfl rfl rfl rfl rfl (by decide) rfl fun p95_1 hp95_1 => ?_
         refine Ll.run 1 rfl ?_
         refine Ll.appendInts (xs := []) (ys := ys26) Base.elem24 0 rfl rfl rfl rfl rfl rfl rfl rfl (by decide) rfl (fun w1 hw1 => (hIu26 _ (Own.dropR (Own.drop (f := [_, _, _, _]) hw1)))) ((ys26).length) (by first | (simp; done) | (simp; omega)) (by first | (simp; done) | (simp; omega) | omega) fun p97_1 cap97_1 cur97_1 hp97_1 hcp97_1 hlp97_1 htp97_1 => ?_
         show Ll _ _ (Own _ _ (_ :: _ :: _ :: _ :: (new26 ++ ([])))) _ _ ((97, sl_ p97_1 (((ys26).length)) cap97_1) :: _) _ _ _
         refine Ll.run 1 rfl ?_
         refine Ll.nil ?_
         refine Kt.sel [1, 5, 6, 7, 8, 9, 11, 12, 13] [_, _, _, _, _, _, _, _, _] rfl ?_
         refine Wk.seq ?_
         refine Wk.region ?_
         refine Ll.run 3 rfl ?_
         refine Ll.op (v := i6_ ((L2.length : Int))) rfl rfl rfl (OpQ.lenRow rfl Tryd.runUnderlying45 rfl (u8s_length _) (fun w1 hw1 => Row.own hcv hw1)) ?_
         refine Ll.op rfl rfl rfl (OpQ.fieldAddr rfl Tryd.runUnderlying28 rfl Tryd.sizeOf3 rfl rfl) ?_
         refine Ll.op rfl rfl rfl (OpQ.loadOwn 3 rfl Tryd.isAgg3 rfl rfl rfl) ?_
         refine Ll.op (v := i6_ (((L2.length % a26.n.toNat : Nat) : Int))) rfl rfl rfl (OpQ.cast (by rw [Int.natCast_emod, Int.toNat_of_nonneg (by omega)]) (OpQ.rem rfl rfl rfl (by omega) (by omega))) ?_
         refine Ll.op (v := pf_ p94_1 i) rfl rfl rfl (OpQ.cast (by simp) (OpQ.indexAddr1 rfl Tryd.runUnderlying24 Tryd.sizeOf3 rfl rfl (by omega) (by omega))) ?_
         refine Ll.store1 (v := i6_ (((L2.length % a26.n.toNat : Nat) : Int))) (hs' := (_ :: bk_ p94_1 ((cur94_1.setIfInBounds i (i6_ (((L2.length % a26.n.toNat : Nat) : Int))))) 3 :: _ :: _ :: (new26 ++ ([])))) 1 rfl rfl rfl rfl rfl rfl Tryd.sizeOf3 rfl (by rw [hcp94_1]; omega) rfl ?_
         refine Ll.nil ?_
         refine Kt.sel [1, 5, 6, 7, 8, 9, 11, 12, 13] [_, _, _, _, _, _, _, _, _] rfl ?_
         refine Wk.seq ?_
         refine Wk.regionQ ?_
         refine Lq.run 1 rfl ?_
         refine Lq.nil ?_
         refine Kt.sel [1, 5, 6, 7, 8, 9, 11, 12, 13, 14] [_, _, _, _, _, _, _, _, _, _] rfl ?_
         refine Wk.seq ?_
         refine Wk.seq ?_
         refine Wk.regionQ ?_
         refine Lq.run 1 rfl ?_
         refine Lq.nil ?_
         refine Kt.sel [1, 5, 6, 7, 8, 9, 11, 12, 13, 14, 15] [_, _, _, _, _, _, _, _, _, _, _] rfl ?_
         refine Wk.block ?_
         refine Wk.loop (σ := Nat × Array Value × List Int) (fun ⟨y, u, Q⟩ => (y : Int) ≤ b26.n ∧ (u.size = cap97_1 * 1 ∧ ys26.length ≤ cap97_1 ∧ u.toList.take ys26.length = ints Q) ∧ (Q.length = ys26.length ∧ ∀ z : Int, Q.set i z = ys26.set i z)) (fun ⟨y, u, Q⟩ => [(1, cv), (5, pt_ p5), (6, v26), (7, pt_ p7), (8, u26), (9, bo_ (pebEverB a26 xs26 b26 ys26)), (11, i6_ ((i : Int))), (12, sl_ p94_1 (((xs26).length)) cap94_1), (13, sl_ p97_1 ys26.length cap97_1), (14, bo_ (someW (evF a26 xs26 b26 ys26 i) (L2.length % a26.n.toNat) y)), (15, i6_ ((y : Int)))]) (fun ⟨y, u, Q⟩ => Own w.heap.size w (bk_ p97_1 u 3 :: bk_ p94_1 ((cur94_1.setIfInBounds i (i6_ (((L2.length % a26.n.toNat : Nat) : Int))))) 3 :: bk_ p7 #[i6_ b26.n, str b26.set, str b26.rel] 28 :: bk_ p5 #[i6_ a26.n, str a26.set, str a26.rel] 28 :: (new26 ++ ([])))) (fun ⟨y, u, Q⟩ => (b26.n - y).toNat) ((0, cur97_1, ys26)) ⟨by omega, ⟨hcp97_1, by simpa using hlp97_1, by simpa using (by simpa using htp97_1)⟩, rfl, fun _ => rfl⟩ (Sub.cons rfl (Sub.cons rfl (Sub.cons rfl (Sub.cons rfl (Sub.cons rfl (Sub.cons rfl (Sub.cons rfl (Sub.cons rfl (Sub.cons (by rfl) (Sub.cons (by rfl) (Sub.sel [15] rfl))))))))))) (fun _ h => h) ?_
         rintro ⟨y, u, Q⟩ ⟨hy, ⟨hcq, hlq, htq⟩, ⟨hQl, hQ⟩⟩
         dsimp only
         refine Wk.seq ?_
         refine Wk.seq ?_
         refine Wk.regionQ ?_
         refine Lq.run 1 rfl ?_
         refine Lq.op rfl rfl rfl (OpQ.fieldAddr rfl Tryd.runUnderlying28 rfl Tryd.sizeOf3 rfl rfl) ?_
         refine Lq.op rfl rfl rfl (OpQ.loadOwn 2 rfl Tryd.isAgg3 rfl rfl rfl) ?_
         refine Lq.run 1 rfl ?_
         refine Lq.nil ?_
         refine Kt.sel [1, 5, 6, 7, 8, 9, 11, 12, 13, 14, 15, 109] [_, _, _, _, _, _, _, _, _, _, _, _] rfl ?_
         refine Wk.cond (b := decide (((y : Int)) < b26.n)) rfl (fun h109_1 => ?_) (fun h109_1 => ?_)
         ·
          replace h109_1 := of_decide_eq_true h109_1
          refine Wk.skip ?_
          refine Kt.sel [1, 5, 6, 7, 8, 9, 11, 12, 13, 14, 15] [_, _, _, _, _, _, _, _, _, _, _] rfl ?_
          refine Wk.seq ?_
          refine Wk.block ?_
          refine Wk.seq ?_
          refine Wk.region ?_
          refine Ll.run 3 rfl ?_
          refine Ll.op (v := pf_ p97_1 i) rfl rfl rfl (OpQ.cast (by simp) (OpQ.indexAddr1 rfl Tryd.runUnderlying24 Tryd.sizeOf3 rfl rfl (by omega) (by omega))) ?_
          refine Ll.store1 (v := i6_ ((y : Int))) (hs' := (bk_ p97_1 ((u.setIfInBounds i (i6_ ((y : Int))))) 3 :: _ :: _ :: _ :: (new26 ++ ([])))) 0 rfl rfl rfl rfl rfl rfl Tryd.sizeOf3 rfl (by rw [hcq]; omega) rfl ?_
          refine Ll.nil ?_
          refine Kt.sel [1, 5, 6, 7, 8, 9, 11, 12, 13, 14, 15] [_, _, _, _, _, _, _, _, _, _, _] rfl ?_
          refine Wk.regionQ ?_
          refine Lq.run 2 rfl ?_
          refine Lq.bool fun b117 hg117_1 => ?_
          cases b117
          ·
           skip
           refine Lq.op rfl rfl rfl (OpQ.loadBox (cs := #[i6_ a26.n, str a26.set, str a26.rel]) 3 rfl Tryd.isAgg28 rfl rfl Tryd.sizeOf28) ?_
           refine Lq.run 1 rfl ?_
           refine Lq.op rfl rfl rfl (OpQ.loadBox (cs := #[i6_ b26.n, str b26.set, str b26.rel]) 2 rfl Tryd.isAgg28 rfl rfl Tryd.sizeOf28) ?_
           refine Lq.run 1 rfl ?_
           refine Lq.op (v := bo_ (pebEverB a26 (xs26.set i (((L2.length % a26.n.toNat : Nat) : Int))) b26 (Q.set i ((y : Int))))) rfl rfl rfl (OpQ.call rfl Tryd.call29 rfl Own.stable (fun w1 hw1 => iEver_ok a26 b26 (xs26.set i (((L2.length % a26.n.toNat : Nat) : Int))) (Q.set i ((y : Int))) (sl_ p94_1 (((xs26).length)) cap94_1) (sl_ p97_1 ys26.length cap97_1) w1 hsa26 hsb26 (Own.row hw1 (i := 1) rfl (set_takeI (by simpa using htp94_1)) (by simp) hlp94_1) (Own.row hw1 (i := 0) rfl (set_takeI htq) (by simpa using hQl) hlq) (by first | (simp; done) | (simp; omega) | omega) (by first | (simp; done) | (simp; omega) | omega))) ?_
           refine Lq.run 2 rfl ?_
           refine Lq.nil ?_
           refine Kt.sel [1, 5, 6, 7, 8, 9, 11, 12, 13, 14, 15] [_, _, _, _, _, _, _, _, _, _, _] rfl ?_
           refine Wk.regionQ ?_
           refine Lq.run 1 rfl ?_
           refine Lq.op rfl rfl rfl (OpQ.add rfl rfl rfl (by omega) (by omega)) ?_
           refine Lq.run 1 rfl ?_
           refine Lq.nil ?_
           refine Kt.again ((y + 1, (u.setIfInBounds i (i6_ ((y : Int)))), Q.set i ((y : Int)))) ⟨by omega, ⟨by simpa using hcq, hlq, (set_takeI htq)⟩, ⟨by simpa using hQl, fun z => by dsimp only; rw [List.set_set]; exact hQ z⟩⟩ (by omega) (Sub.cons rfl (Sub.cons rfl (Sub.cons rfl (Sub.cons rfl (Sub.cons rfl (Sub.cons rfl (Sub.cons rfl (Sub.cons rfl (Sub.cons rfl (Sub.cons (by rw [someW_succ, hg117_1]; first | rfl | (unfold evF; rw [← hQ]; rfl)) (Sub.sel [15] rfl))))))))))) (fun _ h => h)
          ·
           skip
           refine Lq.pass rfl rfl rfl ?_
           refine Lq.pass rfl rfl rfl ?_
           refine Lq.pass rfl rfl rfl ?_
           refine Lq.pass rfl rfl rfl ?_
           refine Lq.pass rfl rfl rfl ?_
           refine Lq.run 2 rfl ?_
           refine Lq.nil ?_
           refine Kt.sel [1, 5, 6, 7, 8, 9, 11, 12, 13, 14, 15] [_, _, _, _, _, _, _, _, _, _, _] rfl ?_
           refine Wk.regionQ ?_
           refine Lq.run 1 rfl ?_
           refine Lq.op rfl rfl rfl (OpQ.add rfl rfl rfl (by omega) (by omega)) ?_
           refine Lq.run 1 rfl ?_
           refine Lq.nil ?_
           refine Kt.again ((y + 1, (u.setIfInBounds i (i6_ ((y : Int)))), Q.set i ((y : Int)))) ⟨by omega, ⟨by simpa using hcq, hlq, (set_takeI htq)⟩, ⟨by simpa using hQl, fun z => by dsimp only; rw [List.set_set]; exact hQ z⟩⟩ (by omega) (Sub.cons rfl (Sub.cons rfl (Sub.cons rfl (Sub.cons rfl (Sub.cons rfl (Sub.cons rfl (Sub.cons rfl (Sub.cons rfl (Sub.cons rfl (Sub.cons (by rw [someW_succ, hg117_1]; first | rfl | (unfold evF; rw [← hQ]; rfl)) (Sub.sel [15] rfl))))))))))) (fun _ h => h)
         ·
          replace h109_1 := of_decide_eq_false h109_1
          have hyn : y = b26.n.toNat := by omega
          refine Wk.exit rfl ?_
          refine Kt.sel [1, 5, 6, 7, 8, 9, 11, 14] [_, _, _, _, _, _, _, _] rfl ?_
          refine Wk.seq ?_
          refine Wk.regionQ ?_
          refine Lq.run 2 rfl ?_
          refine Lq.nil ?_
          refine Kt.sel [1, 5, 6, 7, 8, 9, 11, 125] [_, _, _, _, _, _, _, _] rfl ?_
          refine Wk.cond (b := !(someW (evF a26 xs26 b26 ys26 i) (L2.length % a26.n.toNat) y)) rfl (fun h125_1 => ?_) (fun h125_1 => ?_)
          ·
           replace h125_1 := not_true h125_1
           exact absurd (ever_moves (i := i) (x := L2.length % a26.n.toNat) (by assumption) hil (Nat.mod_lt _ (by omega))) (by rw [← hyn, h125_1]; decide)
          ·
           replace h125_1 := not_false h125_1
           refine Wk.skip ?_
           refine Kt.sel [1, 5, 6, 7, 8, 9, 11] [_, _, _, _, _, _, _] rfl ?_
           refine Wk.regionQ ?_
           refine Lq.run 1 rfl ?_
           refine Lq.op rfl rfl rfl (OpQ.add rfl rfl rfl (by omega) (by omega)) ?_
           refine Lq.run 1 rfl ?_
           refine Lq.nil ?_
           refine Kt.again (i + 1) (by omega) (by omega) (Sub.sel [1, 5, 6, 7, 8, 9, 11] rfl) (fun _ h => h.sub (List.Sublist.cons _ (List.Sublist.cons _ (List.Sublist.cons_cons _ (List.Sublist.cons_cons _ (List.Sublist.refl _))))))
        ·
         replace h89_1 := of_decide_eq_false h89_1
         refine Wk.exit rfl ?_
         refine Kt.sel [5, 6, 7, 8, 9] [_, _, _, _, _] rfl ?_
         refine Wk.seq ?_
         refine Wk.regionQ ?_
         refine Lq.op rfl rfl rfl (OpQ.loadBox (cs := #[i6_ a26.n, str a26.set, str a26.rel]) 1 rfl Tryd.isAgg28 rfl rfl Tryd.sizeOf28) ?_
         refine Lq.run 1 rfl ?_
         refine Lq.op rfl rfl rfl (OpQ.loadBox (cs := #[i6_ a26.n, str a26.set, str a26.rel]) 1 rfl Tryd.isAgg28 rfl rfl Tryd.sizeOf28) ?_
         refine Lq.run 1 rfl ?_
         refine Lq.op (v := bo_ (pebEverB a26 xs26 a26 xs26)) rfl rfl rfl (OpQ.call rfl Tryd.call29 rfl Own.stable (fun w1 hw1 => iEver_ok a26 a26 xs26 xs26 v26 v26 w1 hsa26 hsa26 (hIv26 _ (Own.dropR (Own.drop (f := [_, _]) hw1))) (hIv26 _ (Own.dropR (Own.drop (f := [_, _]) hw1))) (by first | (simp; done) | (simp; omega) | omega) (by first | (simp; done) | (simp; omega) | omega))) ?_
         refine Lq.run 1 rfl ?_
         refine Lq.bool fun b131 hg131_3 => ?_
         cases b131
         ·
          exact absurd (ever_refl hr) (by rw [hg131_3]; decide)
         ·
          refine Lq.op rfl rfl rfl (OpQ.loadBox (cs := #[i6_ b26.n, str b26.set, str b26.rel]) 0 rfl Tryd.isAgg28 rfl rfl Tryd.sizeOf28) ?_
          refine Lq.run 1 rfl ?_
          refine Lq.op rfl rfl rfl (OpQ.loadBox (cs := #[i6_ a26.n, str a26.set, str a26.rel]) 1 rfl Tryd.isAgg28 rfl rfl Tryd.sizeOf28) ?_
          refine Lq.run 1 rfl ?_
          refine Lq.op (v := bo_ (pebEverB b26 ys26 a26 xs26)) rfl rfl rfl (OpQ.call rfl Tryd.call29 rfl Own.stable (fun w1 hw1 => iEver_ok b26 a26 ys26 xs26 u26 v26 w1 hsb26 hsa26 (hIu26 _ (Own.dropR (Own.drop (f := [_, _]) hw1))) (hIv26 _ (Own.dropR (Own.drop (f := [_, _]) hw1))) (by first | (simp; done) | (simp; omega) | omega) (by first | (simp; done) | (simp; omega) | omega))) ?_
          refine Lq.run 1 rfl ?_
          refine Lq.op rfl rfl rfl (OpQ.beq rfl Tryd.runUnderlying4 rfl rfl) ?_
          refine Lq.run 2 rfl ?_
          refine Lq.nil ?_
          refine Kt.sel [4] [_] rfl ?_
          refine Wk.ret (Kt.end1 rfl rfl fun w' hw => ?_)
          -- ret 6: bo_ ((pebEverB b26 ys26 a26 xs26) == (pebEverB a26 xs26 b26 ys26))
          exact ⟨ret_b (by first | rfl | (rw [ever_comm]; exact (beq_self_eq_true _).symm) | (rw [ever_comm]; exact beq_self_eq_true _)), hw.below⟩
   ·
    exact absurd hg43 (by simp)
 ·
  replace hg19 := of_decide_eq_true hg19
  refine Lq.pass rfl rfl rfl ?_
  refine Lq.pass rfl rfl rfl ?_
  refine Lq.pass rfl rfl rfl ?_
  refine Lq.run 1 rfl ?_
  refine Lq.nil ?_
  refine Kt.sel [0, 1, 23] [_, _, _] rfl ?_
  refine Wk.condT rfl ?_
  refine Wk.seq ?_
  refine Wk.regionQ ?_
  refine Lq.run 1 rfl ?_
  refine Lq.nil ?_
  refine Kt.sel [4] [_] rfl ?_
  refine Wk.ret (Kt.end1 rfl rfl fun w' hw => ?_)
  -- ret 7: bo_ true
  exact ⟨ret_b (by first | rfl | (rw [ever_comm]; exact (beq_self_eq_true _).symm) | (rw [ever_comm]; exact beq_self_eq_true _)), hw.below⟩

end Go.Proofs.YtjcoijejhachhaaDoor
