/-
  Walks: the law of first moves.
-/
import Derived.Test.YtmannilblelfjaaDoorMovesM
import Derived.Test.YtmannilblelfjaaDoorDrawsD
import Derived.Test.YtmannilblelfjaaDoorBase
namespace Go.Proofs.YtmannilblelfjaaDoor
open Go.RowKit Go.Wk
set_option linter.unusedSimpArgs false

set_option maxHeartbeats 400000 in
/-- spec.DrawFirstMove -/
theorem drawMove_ok (B : Nat) (w0 : World) (hs : List (Nat × Obj)) (bv : Value) (L : List Int) (w : World) (hb : ∀ w, Own B w0 hs w → Row w bv (u8s L)) (hL8 : Bytes8 L) (hLs : L.length ≤ 1048576) (hw : Own B w0 hs w) :
    Calls Tryd.prog 44 [bv].toArray w fun en w' => ∃ a : St, ∃ b : St, ∃ v : Value, ∃ xs : List Int, ∃ u : Value, ∃ ys : List Int, ∃ new : List (Nat × Obj), ∃ r : Int, en = .returned (.tuple #[vS a, v, vS b, u, .int .i64 r]) ∧ (((a.Tame ∧ b.Tame) ∧ (xs.length ≤ 40 ∧ ys.length ≤ 40) ∧ ∀ w1, Own B w0 new w1 → Ints w1 v xs ∧ Ints w1 u ys) ∧ -1 ≤ r ∧ r ≤ 4) ∧ Own B w0 (new ++ hs) w' := by
 refine fnStartC (Own B w0 hs) (n := 15) (e := [(0, bv)]) Tryd.func44 rfl rfl rfl rfl Ends.both hw ?_
 refine Wk.seq ?_
 refine Wk.region ?_
 refine Ll.alloc rfl rfl rfl rfl Tryd.zeroValue24 fun p2 hp2 => ?_
 show Ll _ _ (Own _ _ (_ :: hs)) _ _ ((2, pt_ p2) :: _) _ _ _
 refine Ll.run 1 rfl ?_
 refine Ll.alloc rfl rfl rfl rfl Tryd.zeroValue24 fun p4 hp4 => ?_
 show Ll _ _ (Own _ _ (_ :: _ :: hs)) _ _ ((4, pt_ p4) :: _) _ _ _
 refine Ll.run 2 rfl ?_
 refine Ll.nil ?_
 refine Kt.sel [0, 2, 4] [_, _, _] rfl ?_
 refine Wk.seq ?_
 refine Wk.region ?_
 refine Ll.run 1 rfl ?_
 refine Ll.callBack (ok := fun ((rp, v, M) : Nat × Value × List Int) => M.length ≤ 2000 ∧ Bytes8 M ∧ ∀ w1, Own B w0 hs w1 → Row w1 v (u8s M)) (v := fun ((rp, v, M) : Nat × Value × List Int) => .pointer (some ⟨rp, 0, none⟩)) (new := fun ((rp, v, M) : Nat × Value × List Int) => [(rp, .cells #[v, .int .i64 ((0 : Nat) : Int)] 119 (0, 0))]) (hs := hs) (xs := [.tmp 7]) (vs := [bv]) ([bk_ p4 #[i6_ 0, str ([]), str ([])] 24, bk_ p2 #[i6_ 0, str ([]), str ([])] 24] : List (Nat × Obj)) rfl rfl rfl rfl Tryd.call60 rfl (fun w1 hw1 => (open_ok B w0 ([bk_ p4 #[i6_ 0, str ([]), str ([])] 24, bk_ p2 #[i6_ 0, str ([]), str ([])] 24] : List (Nat × Obj)) hs _ _ w1 hb hL8 hLs hw1).mono fun en w' ⟨rp, v, M, h1, h2, h3⟩ => ⟨(rp, v, M), h1, h2, h3⟩) fun ⟨rp, dv, M⟩ hO => ?_
 dsimp only at hO
 obtain ⟨hM2, hM8, hMb⟩ := hO
 show Ll _ _ (Own _ _ (_ :: _ :: _ :: hs)) _ _ ((8, pt_ rp) :: _) _ _ _
 refine Ll.callRdL (rp := rp) (RT := 119) (p := 0) (bv := dv) (hs := hs) (ok := fun ((a, b, v, xs, u, ys, new, r) : St × St × Value × List Int × Value × List Int × List (Nat × Obj) × Int) p' => ((a.Tame ∧ b.Tame) ∧ (xs.length ≤ 40 ∧ ys.length ≤ 40) ∧ ∀ w1, Own B w0 new w1 → Ints w1 v xs ∧ Ints w1 u ys) ∧ (-1 ≤ r ∧ r ≤ 4) ∧ p' ≤ 0 + 2010) (v := fun ((a, b, v, xs, u, ys, new, r) : St × St × Value × List Int × Value × List Int × List (Nat × Obj) × Int) => .tuple #[vS a, v, vS b, u, .int .i64 r]) (new := fun ((a, b, v, xs, u, ys, new, r) : St × St × Value × List Int × Value × List Int × List (Nat × Obj) × Int) => new) (xs := [.tmp 8]) (vs := [pt_ rp]) ([bk_ p4 #[i6_ 0, str ([]), str ([])] 24, bk_ p2 #[i6_ 0, str ([]), str ([])] 24] : List (Nat × Obj)) rfl rfl rfl rfl Tryd.call79 rfl (fun w1 hw1 => (l5Draw_ok B w0 (([bk_ p4 #[i6_ 0, str ([]), str ([])] 24, bk_ p2 #[i6_ 0, str ([]), str ([])] 24] : List (Nat × Obj)) ++ hs) rp 0 dv M w1 (fun w2 hw2 => hMb w2 (Own.drop (f := ([bk_ p4 #[i6_ 0, str ([]), str ([])] 24, bk_ p2 #[i6_ 0, str ([]), str ([])] 24] : List (Nat × Obj))) hw2)) hM8 hM2 (by omega) hw1).mono fun en w' ⟨a, b, v, xs, u, ys, new, r, p', h1, h2, h3⟩ => ⟨(a, b, v, xs, u, ys, new, r), p', h1, h2, h3⟩) fun ⟨a9, b9, v9, xs9, u9, ys9, new9, r9⟩ p_9 hK => ?_
 dsimp only at hK
 obtain ⟨⟨⟨hta9, htb9⟩, ⟨hlxs9, hlys9⟩, hrw⟩, ⟨hlor9, hhir9⟩, hep_9⟩ := hK
 have hIv9 : ∀ w1, Own B w0 new9 w1 → Ints w1 v9 xs9 := fun w1 h => (hrw w1 h).1
 have hIu9 : ∀ w1, Own B w0 new9 w1 → Ints w1 u9 ys9 := fun w1 h => (hrw w1 h).2
 show Ll _ _ (Own _ _ (_ :: _ :: _ :: (new9 ++ hs))) _ _ ((9, .tuple #[vS a9, v9, vS b9, u9, i6_ r9]) :: _) _ _ _
 refine Ll.op (v := vS a9) rfl rfl rfl (OpQ.extract rfl rfl rfl) ?_
 refine Ll.op (v := v9) rfl rfl rfl (OpQ.extract rfl rfl rfl) ?_
 refine Ll.op (v := vS b9) rfl rfl rfl (OpQ.extract rfl rfl rfl) ?_
 refine Ll.op (v := u9) rfl rfl rfl (OpQ.extract rfl rfl rfl) ?_
 refine Ll.op (v := i6_ r9) rfl rfl rfl (OpQ.extract rfl rfl rfl) ?_
 refine Ll.storeBox (cs' := #[i6_ a9.n, str a9.set, str a9.rel]) (hs' := (_ :: bk_ p2 #[i6_ a9.n, str a9.set, str a9.rel] 24 :: _ :: (new9 ++ hs))) 1 rfl rfl rfl rfl rfl (by kernel_rfl : _ = some Tryd.t24) rfl rfl rfl rfl rfl ?_
 refine Ll.run 1 rfl ?_
 refine Ll.storeBox (cs' := #[i6_ b9.n, str b9.set, str b9.rel]) (hs' := (bk_ p4 #[i6_ b9.n, str b9.set, str b9.rel] 24 :: _ :: _ :: (new9 ++ hs))) 0 rfl rfl rfl rfl rfl (by kernel_rfl : _ = some Tryd.t24) rfl rfl rfl rfl rfl ?_
 refine Ll.run 2 rfl ?_
 refine Ll.nil ?_
 refine Kt.sel [2, 3, 4, 5, 6] [_, _, _, _, _] rfl ?_
 refine Wk.ret (Kt.endMany rfl (.cell (cs := #[i6_ a9.n, str a9.set, str a9.rel]) rfl (fun w1 hw1 => hw1.loadBox 1 rfl Tryd.isAgg24 Tryd.sizeOf24) (.tmp (v := v9) rfl (.cell (cs := #[i6_ b9.n, str b9.set, str b9.rel]) rfl (fun w1 hw1 => hw1.loadBox 0 rfl Tryd.isAgg24 Tryd.sizeOf24) (.tmp (v := u9) rfl (.tmp (v := i6_ r9) rfl ResAt.nil))))) (by simp) fun w' hw => ?_)
 -- ret 0: vS a9; v9; vS b9; u9; i6_ r9
 exact ⟨a9, b9, v9, xs9, u9, ys9, ([bk_ p4 #[i6_ b9.n, str b9.set, str b9.rel] 24, bk_ p2 #[i6_ a9.n, str a9.set, str a9.rel] 24, bk_ rp #[dv, i6_ ((p_9 : Int))] 119] : List (Nat × Obj)) ++ new9, r9, rfl, ⟨⟨⟨hta9, htb9⟩, ⟨(by first | omega | (simp only [List.length_append, List.length_cons, List.length_nil, List.length_take, List.length_set]; omega)), (by first | omega | (simp only [List.length_append, List.length_cons, List.length_nil, List.length_take, List.length_set]; omega))⟩, fun w1 h1 => ⟨(hIv9 _ (Own.drop (f := [_, _, _]) h1)), (hIu9 _ (Own.drop (f := [_, _, _]) h1))⟩⟩, ⟨by omega, by omega⟩⟩, hw⟩

set_option maxHeartbeats 400000 in
/-- laws.FnFirstMove -/
theorem lawFnMove (bv : Value) (L : List Int) (w : World) (hbv : Row w bv (u8s L)) (hL8 : Bytes8 L) (hLm : L.length ≤ 9223372036854775807) :
    Calls Tryd.prog 11 [bv].toArray w fun en w' => en = .returned (.bool true) ∧ Below w.heap.size w w' := by
 refine fnStart (n := 140) (e := [(0, bv)]) Tryd.func11 rfl rfl rfl rfl Ends.both ?_
 refine Wk.seq ?_
 refine Wk.regionQ ?_
 refine Lq.run 1 rfl ?_
 refine Lq.nil ?_
 refine Kt.sel [0] [_] rfl ?_
 refine Wk.seq ?_
 refine Wk.seq ?_
 refine Wk.regionQ ?_
 refine Lq.run 1 rfl ?_
 refine Lq.op rfl rfl rfl (OpQ.lenRow rfl Tryd.runUnderlying22 rfl (u8s_length _) (fun w1 hw1 => Row.own hbv hw1)) ?_
 refine Lq.run 1 rfl ?_
 refine Lq.nil ?_
 refine Kt.sel [0, 21] [_, _] rfl ?_
 refine Wk.cond (b := decide ((1048576 : Int) < ((L.length : Int)))) rfl (fun h21 => ?_) (fun h21 => ?_)
 ·
  replace h21 := of_decide_eq_true h21
  refine Wk.seq ?_
  refine Wk.regionQ ?_
  refine Lq.run 1 rfl ?_
  refine Lq.nil ?_
  refine Kt.sel [2] [_] rfl ?_
  refine Wk.ret (Kt.end1 rfl rfl fun w' hw => ?_)
  -- ret 0: bo_ true
  exact ⟨ret_b (by first | rfl | (simp_all; done) | (rw [fm_lost (by assumption)]; rfl)), hw.below⟩
 ·
  replace h21 := of_decide_eq_false h21
  refine Wk.skip ?_
  refine Kt.sel [0] [_] rfl ?_
  refine Wk.seq ?_
  refine Wk.region ?_
  refine Ll.run 1 rfl ?_
  refine Ll.callBack (ok := fun ((a, b, v, xs, u, ys, new, r) : St × St × Value × List Int × Value × List Int × List (Nat × Obj) × Int) => ((a.Tame ∧ b.Tame) ∧ (xs.length ≤ 40 ∧ ys.length ≤ 40) ∧ ∀ w1, Own w.heap.size w new w1 → Ints w1 v xs ∧ Ints w1 u ys) ∧ -1 ≤ r ∧ r ≤ 4) (v := fun ((a, b, v, xs, u, ys, new, r) : St × St × Value × List Int × Value × List Int × List (Nat × Obj) × Int) => .tuple #[vS a, v, vS b, u, .int .i64 r]) (new := fun ((a, b, v, xs, u, ys, new, r) : St × St × Value × List Int × Value × List Int × List (Nat × Obj) × Int) => new) (hs := []) (xs := [.tmp 23]) (vs := [bv]) ([] : List (Nat × Obj)) rfl rfl rfl rfl Tryd.call44 rfl (fun w1 hw1 => (drawMove_ok w.heap.size w (([] : List (Nat × Obj)) ++ ([])) bv L w1 (fun w2 hw2 => Row.own hbv hw2) hL8 (by omega) hw1).mono fun en w' ⟨a, b, v, xs, u, ys, new, r, h1, h2, h3⟩ => ⟨(a, b, v, xs, u, ys, new, r), h1, h2, h3⟩) fun ⟨a24, b24, v24, xs24, u24, ys24, new24, r24⟩ hK => ?_
  dsimp only at hK
  obtain ⟨⟨⟨hta24, htb24⟩, ⟨hlxs24, hlys24⟩, hrw⟩, ⟨hlor24, hhir24⟩⟩ := hK
  have hIv24 : ∀ w1, Own w.heap.size w new24 w1 → Ints w1 v24 xs24 := fun w1 h => (hrw w1 h).1
  have hIu24 : ∀ w1, Own w.heap.size w new24 w1 → Ints w1 u24 ys24 := fun w1 h => (hrw w1 h).2
  have hsa24 := hta24.small
  have loa24 := hta24.lo
  have hia24 := hta24.hi
  have hsb24 := htb24.small
  have lob24 := htb24.lo
  have hib24 := htb24.hi
  show Ll _ _ (Own _ _ ((new24 ++ ([])))) _ _ ((24, .tuple #[vS a24, v24, vS b24, u24, i6_ r24]) :: _) _ _ _
  refine Ll.run 1 rfl ?_
  refine Ll.op (v := vS a24) rfl rfl rfl (OpQ.extract rfl rfl rfl) ?_
  refine Ll.op (v := v24) rfl rfl rfl (OpQ.extract rfl rfl rfl) ?_
  refine Ll.op (v := vS b24) rfl rfl rfl (OpQ.extract rfl rfl rfl) ?_
  refine Ll.op (v := u24) rfl rfl rfl (OpQ.extract rfl rfl rfl) ?_
  refine Ll.op (v := i6_ r24) rfl rfl rfl (OpQ.extract rfl rfl rfl) ?_
  refine Ll.alloc rfl rfl rfl rfl Tryd.zeroValue24 fun p3 hp3 => ?_
  show Ll _ _ (Own _ _ (_ :: (new24 ++ ([])))) _ _ ((3, pt_ p3) :: _) _ _ _
  refine Ll.alloc rfl rfl rfl rfl Tryd.zeroValue24 fun p5 hp5 => ?_
  show Ll _ _ (Own _ _ (_ :: _ :: (new24 ++ ([])))) _ _ ((5, pt_ p5) :: _) _ _ _
  refine Ll.storeBox (cs' := #[i6_ a24.n, str a24.set, str a24.rel]) (hs' := (_ :: bk_ p3 #[i6_ a24.n, str a24.set, str a24.rel] 24 :: (new24 ++ ([])))) 1 rfl rfl rfl rfl rfl (by kernel_rfl : _ = some Tryd.t24) rfl rfl rfl rfl rfl ?_
  refine Ll.run 1 rfl ?_
  refine Ll.storeBox (cs' := #[i6_ b24.n, str b24.set, str b24.rel]) (hs' := (bk_ p5 #[i6_ b24.n, str b24.set, str b24.rel] 24 :: _ :: (new24 ++ ([])))) 0 rfl rfl rfl rfl rfl (by kernel_rfl : _ = some Tryd.t24) rfl rfl rfl rfl rfl ?_
  refine Ll.run 2 rfl ?_
  refine Ll.nil ?_
  refine Kt.sel [3, 4, 5, 6, 7] [_, _, _, _, _] rfl ?_
  refine Wk.seq ?_
  refine Wk.regionQ ?_
  refine Lq.op rfl rfl rfl (OpQ.loadBox (cs := #[i6_ a24.n, str a24.set, str a24.rel]) 1 rfl Tryd.isAgg24 rfl rfl Tryd.sizeOf24) ?_
  refine Lq.run 1 rfl ?_
  refine Lq.op rfl rfl rfl (OpQ.loadBox (cs := #[i6_ b24.n, str b24.set, str b24.rel]) 0 rfl Tryd.isAgg24 rfl rfl Tryd.sizeOf24) ?_
  refine Lq.run 2 rfl ?_
  refine Lq.op (v := .tuple #[str (sideS (fmO a24 xs24 b24 ys24 r24)), i6_ (moveI (fmO a24 xs24 b24 ys24 r24)), bo_ ((fmO a24 xs24 b24 ys24 r24).isSome)]) rfl rfl rfl (OpQ.call rfl Tryd.call45 rfl Own.stable (fun w1 hw1 => iMove_ok a24 b24 xs24 ys24 v24 u24 w1 hsa24 hsb24 (hIv24 _ (Own.dropR (Own.drop (f := [_, _]) hw1))) (hIu24 _ (Own.dropR (Own.drop (f := [_, _]) hw1))) (by first | (simp; done) | (simp; omega) | omega) (by first | (simp; done) | (simp; omega) | omega) r24)) ?_
  refine Lq.run 1 rfl ?_
  refine Lq.op (v := str (sideS (fmO a24 xs24 b24 ys24 r24))) rfl rfl rfl (OpQ.extract rfl rfl rfl) ?_
  refine Lq.op (v := i6_ (moveI (fmO a24 xs24 b24 ys24 r24))) rfl rfl rfl (OpQ.extract rfl rfl rfl) ?_
  refine Lq.op (v := bo_ ((fmO a24 xs24 b24 ys24 r24).isSome)) rfl rfl rfl (OpQ.extract rfl rfl rfl) ?_
  refine Lq.run 3 rfl ?_
  refine Lq.nil ?_
  refine Kt.sel [3, 4, 5, 6, 7, 8, 9, 10] [_, _, _, _, _, _, _, _] rfl ?_
  refine Wk.seq ?_
  refine Wk.regionQ ?_
  refine Lq.op rfl rfl rfl (OpQ.loadBox (cs := #[i6_ a24.n, str a24.set, str a24.rel]) 1 rfl Tryd.isAgg24 rfl rfl Tryd.sizeOf24) ?_
  refine Lq.run 1 rfl ?_
  refine Lq.op rfl rfl rfl (OpQ.loadBox (cs := #[i6_ b24.n, str b24.set, str b24.rel]) 0 rfl Tryd.isAgg24 rfl rfl Tryd.sizeOf24) ?_
  refine Lq.run 2 rfl ?_
  refine Lq.op (v := .tuple #[str (sideS (fmO a24 xs24 b24 ys24 r24)), i6_ (moveI (fmO a24 xs24 b24 ys24 r24)), bo_ ((fmO a24 xs24 b24 ys24 r24).isSome)]) rfl rfl rfl (OpQ.call rfl Tryd.call46 rfl Own.stable (fun w1 hw1 => sMove_ok a24 b24 xs24 ys24 v24 u24 w1 hsa24 hsb24 (hIv24 _ (Own.dropR (Own.drop (f := [_, _]) hw1))) (hIu24 _ (Own.dropR (Own.drop (f := [_, _]) hw1))) (by first | (simp; done) | (simp; omega) | omega) (by first | (simp; done) | (simp; omega) | omega) loa24 hia24 lob24 hib24 r24)) ?_
  refine Lq.run 1 rfl ?_
  refine Lq.op (v := str (sideS (fmO a24 xs24 b24 ys24 r24))) rfl rfl rfl (OpQ.extract rfl rfl rfl) ?_
  refine Lq.op (v := i6_ (moveI (fmO a24 xs24 b24 ys24 r24))) rfl rfl rfl (OpQ.extract rfl rfl rfl) ?_
  refine Lq.op (v := bo_ ((fmO a24 xs24 b24 ys24 r24).isSome)) rfl rfl rfl (OpQ.extract rfl rfl rfl) ?_
  refine Lq.run 3 rfl ?_
  refine Lq.nil ?_
  refine Kt.sel [3, 4, 5, 6, 7, 8, 9, 10, 11, 12, 13] [_, _, _, _, _, _, _, _, _, _, _] rfl ?_
  refine Wk.seq ?_
  refine Wk.seq ?_
  refine Wk.regionQ ?_
  refine Lq.run 2 rfl ?_
  refine Lq.op rfl rfl rfl (OpQ.sneq rfl rfl rfl) ?_
  refine Lq.run 1 rfl ?_
  refine Lq.bool fun b53 hg53 => ?_
  cases b53
  ·
   replace hg53 := not_false hg53
   refine Lq.run 5 rfl ?_
   refine Lq.bool fun b58 hg58 => ?_
   cases b58
   ·
    replace hg58 := not_false hg58
    replace hg58 := of_decide_eq_true hg58
    refine Lq.run 2 rfl ?_
    refine Lq.op rfl rfl rfl (OpQ.bne rfl Tryd.runUnderlying4 rfl rfl) ?_
    refine Lq.run 2 rfl ?_
    refine Lq.bool fun b63 hg63 => ?_
    cases b63
    ·
     refine Lq.op rfl rfl rfl (OpQ.loadBox (cs := #[i6_ a24.n, str a24.set, str a24.rel]) 1 rfl Tryd.isAgg24 rfl rfl Tryd.sizeOf24) ?_
     refine Lq.run 1 rfl ?_
     refine Lq.op rfl rfl rfl (OpQ.loadBox (cs := #[i6_ b24.n, str b24.set, str b24.rel]) 0 rfl Tryd.isAgg24 rfl rfl Tryd.sizeOf24) ?_
     refine Lq.run 1 rfl ?_
     refine Lq.op (v := bo_ (wayB a24 xs24 b24 ys24)) rfl rfl rfl (OpQ.call rfl Tryd.call19 rfl Own.stable (fun w1 hw1 => iPart_ok a24 b24 xs24 ys24 v24 u24 w1 hsa24 hsb24 (hIv24 _ (Own.dropR (Own.drop (f := [_, _]) hw1))) (hIu24 _ (Own.dropR (Own.drop (f := [_, _]) hw1))) (by first | (simp; done) | (simp; omega) | omega) (by first | (simp; done) | (simp; omega) | omega))) ?_
     refine Lq.run 3 rfl ?_
     refine Lq.bool fun b71 hg71 => ?_
     cases b71
     ·
      replace hg71 := not_false hg71
      refine Lq.run 4 rfl ?_
      refine Lq.bool fun b75 hg75 => ?_
      cases b75
      ·
       replace hg75 := of_decide_eq_false hg75
       refine Lq.run 3 rfl ?_
       refine Lq.nil ?_
       refine Kt.sel [3, 4, 5, 6, 7, 8, 9, 10, 11, 12, 13, 78] [_, _, _, _, _, _, _, _, _, _, _, _] rfl ?_
       refine Wk.cond (b := decide ((3 : Int) < r24)) rfl (fun h78 => ?_) (fun h78 => ?_)
       ·
        replace h78 := of_decide_eq_true h78
        refine Wk.seq ?_
        refine Wk.regionQ ?_
        refine Lq.run 2 rfl ?_
        refine Lq.op rfl rfl rfl (OpQ.seql rfl rfl rfl) ?_
        refine Lq.run 1 rfl ?_
        refine Lq.bool fun b82 hg82 => ?_
        cases b82
        ·
         exact absurd hg82 (by simp)
        ·
         refine Lq.run 5 rfl ?_
         refine Lq.bool fun b87 hg87 => ?_
         cases b87
         ·
          replace hg87 := of_decide_eq_false hg87
          exact absurd rfl hg87
         ·
          replace hg87 := of_decide_eq_true hg87
          refine Lq.run 2 rfl ?_
          refine Lq.op rfl rfl rfl (OpQ.beq rfl Tryd.runUnderlying4 rfl rfl) ?_
          refine Lq.run 2 rfl ?_
          refine Lq.nil ?_
          refine Kt.sel [2] [_] rfl ?_
          refine Wk.ret (Kt.end1 rfl rfl fun w' hw => ?_)
          -- ret 1: bo_ (((fmO a24 xs24 b24 ys24 r24).isSome) == ((fmO a24 xs24 b24 ys24 r24).isSome))
          exact ⟨ret_b (by first | rfl | (simp_all; done) | (rw [fm_lost (by assumption)]; rfl)), hw.below⟩
       ·
        replace h78 := of_decide_eq_false h78
        obtain ⟨hLL, hway⟩ := way_listed hg71
        obtain ⟨LA, LB, hlen⟩ := listsB_true hLL
        have ha := LA.fine
        have hb := LB.fine
        have hA := LA.els
        have hB := LB.els
        have hl4 := LA.len
        have hlo1 := ha.lo
        have hlo2 := hb.lo
        have hhi1 := ha.hi
        have hhi2 := hb.hi
        refine Wk.skip ?_
        refine Kt.sel [3, 4, 5, 6, 7, 8, 9, 10] [_, _, _, _, _, _, _, _] rfl ?_
        refine Wk.seq ?_
        refine Wk.seq ?_
        refine Wk.regionQ ?_
        refine Lq.run 2 rfl ?_
        refine Lq.nil ?_
        refine Kt.sel [3, 4, 5, 6, 7, 8, 9, 93] [_, _, _, _, _, _, _, _] rfl ?_
        refine Wk.cond (b := !((fmO a24 xs24 b24 ys24 r24).isSome)) rfl (fun h93 => ?_) (fun h93 => ?_)
        ·
         replace h93 := not_true h93
         refine Wk.seq ?_
         refine Wk.regionQ ?_
         refine Lq.op rfl rfl rfl (OpQ.loadBox (cs := #[i6_ a24.n, str a24.set, str a24.rel]) 1 rfl Tryd.isAgg24 rfl rfl Tryd.sizeOf24) ?_
         refine Lq.run 1 rfl ?_
         refine Lq.op rfl rfl rfl (OpQ.loadBox (cs := #[i6_ b24.n, str b24.set, str b24.rel]) 0 rfl Tryd.isAgg24 rfl rfl Tryd.sizeOf24) ?_
         refine Lq.run 2 rfl ?_
         refine Lq.op (v := bo_ (secB a24 xs24 b24 ys24 r24)) rfl rfl rfl (OpQ.call rfl Tryd.call26 rfl Own.stable (fun w1 hw1 => iWins_ok a24 b24 xs24 ys24 v24 u24 w1 hsa24 hsb24 (hIv24 _ (Own.dropR (Own.drop (f := [_, _]) hw1))) (hIu24 _ (Own.dropR (Own.drop (f := [_, _]) hw1))) (by first | (simp; done) | (simp; omega) | omega) (by first | (simp; done) | (simp; omega) | omega) r24)) ?_
         refine Lq.run 1 rfl ?_
         refine Lq.nil ?_
         refine Kt.sel [2] [_] rfl ?_
         refine Wk.ret (Kt.end1 rfl rfl fun w' hw => ?_)
         -- ret 2: bo_ (secB a24 xs24 b24 ys24 r24)
         exact ⟨ret_b (fm_wins (by first | assumption | (simp_all; done)) hg71 (by omega) (by omega)), hw.below⟩
        ·
         replace h93 := not_false h93
         obtain ⟨hm0, hm8⟩ := fm_small a24 xs24 b24 ys24 r24 hhi1 hhi2
         refine Wk.skip ?_
         refine Kt.sel [3, 4, 5, 6, 7, 8, 9] [_, _, _, _, _, _, _] rfl ?_
         refine Wk.seq ?_
         refine Wk.regionQ ?_
         refine Lq.op rfl rfl rfl (OpQ.loadBox (cs := #[i6_ a24.n, str a24.set, str a24.rel]) 1 rfl Tryd.isAgg24 rfl rfl Tryd.sizeOf24) ?_
         refine Lq.run 1 rfl ?_
         refine Lq.op rfl rfl rfl (OpQ.loadBox (cs := #[i6_ b24.n, str b24.set, str b24.rel]) 0 rfl Tryd.isAgg24 rfl rfl Tryd.sizeOf24) ?_
         refine Lq.run 4 rfl ?_
         refine Lq.op (v := .tuple #[i6_ ((((srO a24 xs24 b24 ys24 r24 (sideS (fmO a24 xs24 b24 ys24 r24)) (moveI (fmO a24 xs24 b24 ys24 r24))).getD 0 : Nat) : Int)), bo_ ((srO a24 xs24 b24 ys24 r24 (sideS (fmO a24 xs24 b24 ys24 r24)) (moveI (fmO a24 xs24 b24 ys24 r24))).isSome)]) rfl rfl rfl (OpQ.call rfl Tryd.call42 rfl Own.stable (fun w1 hw1 => iRep_ok a24 b24 xs24 ys24 v24 u24 w1 hsa24 hsb24 (hIv24 _ (Own.dropR (Own.drop (f := [_, _]) hw1))) (hIu24 _ (Own.dropR (Own.drop (f := [_, _]) hw1))) (by first | (simp; done) | (simp; omega) | omega) (by first | (simp; done) | (simp; omega) | omega) r24 (sideS (fmO a24 xs24 b24 ys24 r24)) (moveI (fmO a24 xs24 b24 ys24 r24)))) ?_
         refine Lq.run 1 rfl ?_
         refine Lq.op (v := i6_ ((((srO a24 xs24 b24 ys24 r24 (sideS (fmO a24 xs24 b24 ys24 r24)) (moveI (fmO a24 xs24 b24 ys24 r24))).getD 0 : Nat) : Int))) rfl rfl rfl (OpQ.extract rfl rfl rfl) ?_
         refine Lq.op (v := bo_ ((srO a24 xs24 b24 ys24 r24 (sideS (fmO a24 xs24 b24 ys24 r24)) (moveI (fmO a24 xs24 b24 ys24 r24))).isSome)) rfl rfl rfl (OpQ.extract rfl rfl rfl) ?_
         refine Lq.run 2 rfl ?_
         refine Lq.nil ?_
         refine Kt.sel [3, 4, 5, 6, 7, 8, 9, 15] [_, _, _, _, _, _, _, _] rfl ?_
         refine Wk.seq ?_
         refine Wk.seq ?_
         refine Wk.regionQ ?_
         refine Lq.run 1 rfl ?_
         refine Lq.nil ?_
         refine Kt.sel [3, 4, 5, 6, 7, 8, 9, 15, 16] [_, _, _, _, _, _, _, _, _] rfl ?_
         refine Wk.block ?_
         refine Wk.loop (σ := Nat) (fun k => (k : Int) ≤ moveI (fmO a24 xs24 b24 ys24 r24)) (fun k => [(3, pt_ p3), (4, v24), (5, pt_ p5), (6, u24), (7, i6_ r24), (8, str (sideS (fmO a24 xs24 b24 ys24 r24))), (9, i6_ (moveI (fmO a24 xs24 b24 ys24 r24))), (15, bo_ ((srO a24 xs24 b24 ys24 r24 (sideS (fmO a24 xs24 b24 ys24 r24)) (moveI (fmO a24 xs24 b24 ys24 r24))).isSome)), (16, i6_ ((k : Int)))]) (fun k => Own w.heap.size w (bk_ p5 #[i6_ b24.n, str b24.set, str b24.rel] 24 :: bk_ p3 #[i6_ a24.n, str a24.set, str a24.rel] 24 :: (new24 ++ ([])))) (fun k => (moveI (fmO a24 xs24 b24 ys24 r24) - k).toNat) (0) (by omega) (Sub.sel [3, 4, 5, 6, 7, 8, 9, 15, 16] rfl) (fun _ h => h) ?_
         rintro k hk
         refine Wk.seq ?_
         refine Wk.seq ?_
         refine Wk.regionQ ?_
         refine Lq.run 3 rfl ?_
         refine Lq.nil ?_
         refine Kt.sel [3, 4, 5, 6, 7, 8, 9, 15, 16, 113] [_, _, _, _, _, _, _, _, _, _] rfl ?_
         refine Wk.cond (b := decide (((k : Int)) < (moveI (fmO a24 xs24 b24 ys24 r24)))) rfl (fun h113 => ?_) (fun h113 => ?_)
         ·
          replace h113 := of_decide_eq_true h113
          refine Wk.skip ?_
          refine Kt.sel [3, 4, 5, 6, 7, 8, 9, 15, 16] [_, _, _, _, _, _, _, _, _] rfl ?_
          refine Wk.seq ?_
          refine Wk.block ?_
          refine Wk.seq ?_
          refine Wk.regionQ ?_
          refine Lq.op rfl rfl rfl (OpQ.loadBox (cs := #[i6_ a24.n, str a24.set, str a24.rel]) 1 rfl Tryd.isAgg24 rfl rfl Tryd.sizeOf24) ?_
          refine Lq.run 1 rfl ?_
          refine Lq.op rfl rfl rfl (OpQ.loadBox (cs := #[i6_ b24.n, str b24.set, str b24.rel]) 0 rfl Tryd.isAgg24 rfl rfl Tryd.sizeOf24) ?_
          refine Lq.run 4 rfl ?_
          refine Lq.op (v := .tuple #[i6_ ((((srO a24 xs24 b24 ys24 r24 (sideS (fmO a24 xs24 b24 ys24 r24)) ((k : Int))).getD 0 : Nat) : Int)), bo_ ((srO a24 xs24 b24 ys24 r24 (sideS (fmO a24 xs24 b24 ys24 r24)) ((k : Int))).isSome)]) rfl rfl rfl (OpQ.call rfl Tryd.call42 rfl Own.stable (fun w1 hw1 => iRep_ok a24 b24 xs24 ys24 v24 u24 w1 hsa24 hsb24 (hIv24 _ (Own.dropR (Own.drop (f := [_, _]) hw1))) (hIu24 _ (Own.dropR (Own.drop (f := [_, _]) hw1))) (by first | (simp; done) | (simp; omega) | omega) (by first | (simp; done) | (simp; omega) | omega) r24 (sideS (fmO a24 xs24 b24 ys24 r24)) ((k : Int)))) ?_
          refine Lq.run 1 rfl ?_
          refine Lq.op (v := i6_ ((((srO a24 xs24 b24 ys24 r24 (sideS (fmO a24 xs24 b24 ys24 r24)) ((k : Int))).getD 0 : Nat) : Int))) rfl rfl rfl (OpQ.extract rfl rfl rfl) ?_
          refine Lq.op (v := bo_ ((srO a24 xs24 b24 ys24 r24 (sideS (fmO a24 xs24 b24 ys24 r24)) ((k : Int))).isSome)) rfl rfl rfl (OpQ.extract rfl rfl rfl) ?_
          refine Lq.run 2 rfl ?_
          refine Lq.nil ?_
          refine Kt.sel [3, 4, 5, 6, 7, 8, 9, 15, 16, 18] [_, _, _, _, _, _, _, _, _, _] rfl ?_
          refine Wk.seq ?_
          refine Wk.regionQ ?_
          refine Lq.run 2 rfl ?_
          refine Lq.nil ?_
          refine Kt.sel [3, 4, 5, 6, 7, 8, 9, 15, 16, 128] [_, _, _, _, _, _, _, _, _, _] rfl ?_
          refine Wk.cond (b := !((srO a24 xs24 b24 ys24 r24 (sideS (fmO a24 xs24 b24 ys24 r24)) ((k : Int))).isSome)) rfl (fun h128 => ?_) (fun h128 => ?_)
          ·
           replace h128 := not_true h128
           exact absurd (fm_before (by assumption) h113) (by rw [h128]; decide)
          ·
           replace h128 := not_false h128
           refine Wk.skip ?_
           refine Kt.sel [3, 4, 5, 6, 7, 8, 9, 15, 16] [_, _, _, _, _, _, _, _, _] rfl ?_
           refine Wk.regionQ ?_
           refine Lq.run 1 rfl ?_
           refine Lq.op rfl rfl rfl (OpQ.add rfl rfl rfl (by omega) (by omega)) ?_
           refine Lq.run 1 rfl ?_
           refine Lq.nil ?_
           refine Kt.again (k + 1) (by omega) (by omega) (Sub.sel [3, 4, 5, 6, 7, 8, 9, 15, 16] rfl) (fun _ h => h)
         ·
          replace h113 := of_decide_eq_false h113
          refine Wk.exit rfl ?_
          refine Kt.sel [3, 4, 5, 6, 7, 15] [_, _, _, _, _, _] rfl ?_
          refine Wk.seq ?_
          refine Wk.regionQ ?_
          refine Lq.run 3 rfl ?_
          refine Lq.bool fun b131 hg131 => ?_
          cases b131
          ·
           replace hg131 := not_false hg131
           exact absurd (fm_reply (by assumption)) (by rw [hg131]; decide)
          ·
           replace hg131 := not_true hg131
           refine Lq.op rfl rfl rfl (OpQ.loadBox (cs := #[i6_ a24.n, str a24.set, str a24.rel]) 1 rfl Tryd.isAgg24 rfl rfl Tryd.sizeOf24) ?_
           refine Lq.run 1 rfl ?_
           refine Lq.op rfl rfl rfl (OpQ.loadBox (cs := #[i6_ b24.n, str b24.set, str b24.rel]) 0 rfl Tryd.isAgg24 rfl rfl Tryd.sizeOf24) ?_
           refine Lq.run 2 rfl ?_
           refine Lq.op (v := bo_ (secB a24 xs24 b24 ys24 r24)) rfl rfl rfl (OpQ.call rfl Tryd.call26 rfl Own.stable (fun w1 hw1 => iWins_ok a24 b24 xs24 ys24 v24 u24 w1 hsa24 hsb24 (hIv24 _ (Own.dropR (Own.drop (f := [_, _]) hw1))) (hIu24 _ (Own.dropR (Own.drop (f := [_, _]) hw1))) (by first | (simp; done) | (simp; omega) | omega) (by first | (simp; done) | (simp; omega) | omega) r24)) ?_
           refine Lq.run 3 rfl ?_
           refine Lq.nil ?_
           refine Kt.sel [2] [_] rfl ?_
           refine Wk.ret (Kt.end1 rfl rfl fun w' hw => ?_)
           -- ret 3: bo_ (!(secB a24 xs24 b24 ys24 r24))
           exact ⟨ret_b (by first | rfl | (simp_all; done) | (rw [fm_lost (by assumption)]; rfl)), hw.below⟩
      ·
       replace hg75 := of_decide_eq_true hg75
       refine Lq.pass rfl rfl rfl ?_
       refine Lq.pass rfl rfl rfl ?_
       refine Lq.run 1 rfl ?_
       refine Lq.nil ?_
       refine Kt.sel [3, 4, 5, 6, 7, 8, 9, 10, 11, 12, 13, 78] [_, _, _, _, _, _, _, _, _, _, _, _] rfl ?_
       refine Wk.condT rfl ?_
       refine Wk.seq ?_
       refine Wk.regionQ ?_
       refine Lq.run 2 rfl ?_
       refine Lq.op rfl rfl rfl (OpQ.seql rfl rfl rfl) ?_
       refine Lq.run 1 rfl ?_
       refine Lq.bool fun b82 hg82_1 => ?_
       cases b82
       ·
        exact absurd hg82_1 (by simp)
       ·
        refine Lq.run 5 rfl ?_
        refine Lq.bool fun b87 hg87_1 => ?_
        cases b87
        ·
         replace hg87_1 := of_decide_eq_false hg87_1
         exact absurd rfl hg87_1
        ·
         replace hg87_1 := of_decide_eq_true hg87_1
         refine Lq.run 2 rfl ?_
         refine Lq.op rfl rfl rfl (OpQ.beq rfl Tryd.runUnderlying4 rfl rfl) ?_
         refine Lq.run 2 rfl ?_
         refine Lq.nil ?_
         refine Kt.sel [2] [_] rfl ?_
         refine Wk.ret (Kt.end1 rfl rfl fun w' hw => ?_)
         -- ret 4: bo_ (((fmO a24 xs24 b24 ys24 r24).isSome) == ((fmO a24 xs24 b24 ys24 r24).isSome))
         exact ⟨ret_b (by first | rfl | (simp_all; done) | (rw [fm_lost (by assumption)]; rfl)), hw.below⟩
     ·
      replace hg71 := not_true hg71
      refine Lq.pass rfl rfl rfl ?_
      refine Lq.pass rfl rfl rfl ?_
      refine Lq.run 2 rfl ?_
      refine Lq.pass rfl rfl rfl ?_
      refine Lq.pass rfl rfl rfl ?_
      refine Lq.run 1 rfl ?_
      refine Lq.nil ?_
      refine Kt.sel [3, 4, 5, 6, 7, 8, 9, 10, 11, 12, 13, 78] [_, _, _, _, _, _, _, _, _, _, _, _] rfl ?_
      refine Wk.condT rfl ?_
      refine Wk.seq ?_
      refine Wk.regionQ ?_
      refine Lq.run 2 rfl ?_
      refine Lq.op rfl rfl rfl (OpQ.seql rfl rfl rfl) ?_
      refine Lq.run 1 rfl ?_
      refine Lq.bool fun b82 hg82_2 => ?_
      cases b82
      ·
       exact absurd hg82_2 (by simp)
      ·
       refine Lq.run 5 rfl ?_
       refine Lq.bool fun b87 hg87_2 => ?_
       cases b87
       ·
        replace hg87_2 := of_decide_eq_false hg87_2
        exact absurd rfl hg87_2
       ·
        replace hg87_2 := of_decide_eq_true hg87_2
        refine Lq.run 2 rfl ?_
        refine Lq.op rfl rfl rfl (OpQ.beq rfl Tryd.runUnderlying4 rfl rfl) ?_
        refine Lq.run 2 rfl ?_
        refine Lq.nil ?_
        refine Kt.sel [2] [_] rfl ?_
        refine Wk.ret (Kt.end1 rfl rfl fun w' hw => ?_)
        -- ret 5: bo_ (((fmO a24 xs24 b24 ys24 r24).isSome) == ((fmO a24 xs24 b24 ys24 r24).isSome))
        exact ⟨ret_b (by first | rfl | (simp_all; done) | (rw [fm_lost (by assumption)]; rfl)), hw.below⟩
    ·
     exact absurd hg63 (by simp)
   ·
    replace hg58 := not_true hg58
    replace hg58 := of_decide_eq_false hg58
    exact absurd rfl hg58
  ·
   replace hg53 := not_true hg53
   exact absurd hg53 (by simp)

end Go.Proofs.YtmannilblelfjaaDoor
