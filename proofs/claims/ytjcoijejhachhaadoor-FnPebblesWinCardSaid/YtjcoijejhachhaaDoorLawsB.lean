/-
  Walks: the law of a turn of drawn pebbles.
-/
import Derived.Test.YtjcoijejhachhaaDoorPebWM
import Derived.Test.YtjcoijejhachhaaDoorPebLM
import Derived.Test.YtjcoijejhachhaaDoorDrawsE
import Derived.Test.YtjcoijejhachhaaDoorBase
namespace Go.Proofs.YtjcoijejhachhaaDoor
open Go.RowKit Go.Wk
set_option linter.unusedSimpArgs false

set_option maxHeartbeats 400000 in
/-- spec.DrawPebblesWin -/
theorem drawPWin_ok (B : Nat) (w0 : World) (hs : List (Nat × Obj)) (bv : Value) (L : List Int) (w : World) (hb : ∀ w, Own B w0 hs w → Row w bv (u8s L)) (hL8 : Bytes8 L) (hLs : L.length ≤ 1048576) (hw : Own B w0 hs w) :
    Calls Tryd.prog 32 [bv].toArray w fun en w' => ∃ a : St, ∃ b : St, ∃ v : Value, ∃ xs : List Int, ∃ u : Value, ∃ ys : List Int, ∃ new : List (Nat × Obj), ∃ r : Int, en = .returned (.tuple #[vS a, v, vS b, u, .int .i64 r]) ∧ (((a.Tame ∧ b.Tame) ∧ (xs.length ≤ 40 ∧ ys.length ≤ 40) ∧ ∀ w1, Own B w0 new w1 → Ints w1 v xs ∧ Ints w1 u ys) ∧ -1 ≤ r ∧ r ≤ 5) ∧ Own B w0 (new ++ hs) w' := by
 refine fnStartC (Own B w0 hs) (n := 28) (e := [(0, bv)]) Tryd.func32 rfl rfl rfl rfl Ends.both hw ?_
 refine Wk.seq ?_
 refine Wk.region ?_
 refine Ll.alloc rfl rfl rfl rfl Tryd.zeroValue28 fun p2 hp2 => ?_
 show Ll _ _ (Own _ _ (bk_ p2 #[i6_ 0, str ([]), str ([])] 28 :: hs)) _ _ ((2, pt_ p2) :: _) _ _ _
 refine Ll.run 1 rfl ?_
 refine Ll.alloc rfl rfl rfl rfl Tryd.zeroValue28 fun p4 hp4 => ?_
 show Ll _ _ (Own _ _ (bk_ p4 #[i6_ 0, str ([]), str ([])] 28 :: _ :: hs)) _ _ ((4, pt_ p4) :: _) _ _ _
 refine Ll.run 2 rfl ?_
 refine Ll.nil ?_
 refine Kt.sel [0, 2, 4] [_, _, _] rfl ?_
 refine Wk.seq ?_
 refine Wk.region ?_
 refine Ll.run 1 rfl ?_
 refine Ll.callBack (ok := fun ((rp, v, M) : Nat × Value × List Int) => M.length ≤ 2000 ∧ Bytes8 M ∧ ∀ w1, Own B w0 hs w1 → Row w1 v (u8s M)) (v := fun ((rp, v, M) : Nat × Value × List Int) => .pointer (some ⟨rp, 0, none⟩)) (new := fun ((rp, v, M) : Nat × Value × List Int) => [(rp, .cells #[v, .int .i64 ((0 : Nat) : Int)] 110 (0, 0))]) (hs := hs) (xs := [.tmp 12]) (vs := [bv]) ([bk_ p4 #[i6_ 0, str ([]), str ([])] 28, bk_ p2 #[i6_ 0, str ([]), str ([])] 28] : List (Nat × Obj)) rfl rfl rfl rfl Tryd.call69 rfl (fun w1 hw1 => (open_ok B w0 ([bk_ p4 #[i6_ 0, str ([]), str ([])] 28, bk_ p2 #[i6_ 0, str ([]), str ([])] 28] : List (Nat × Obj)) hs _ _ w1 hb hL8 hLs hw1).mono fun en w' ⟨rp, v, M, h1, h2, h3⟩ => ⟨(rp, v, M), h1, h2, h3⟩) fun ⟨rp, dv, M⟩ hO => ?_
 dsimp only at hO
 obtain ⟨hM2, hM8, hMb⟩ := hO
 show Ll _ _ (Own _ _ (_ :: _ :: _ :: hs)) _ _ ((13, pt_ rp) :: _) _ _ _
 refine Ll.run 1 rfl ?_
 refine Ll.nil ?_
 refine Kt.sel [2, 4, 7] [_, _, _] rfl ?_
 refine Wk.seq ?_
 refine Wk.region ?_
 refine Ll.run 1 rfl ?_
 refine Ll.callRdL (rp := rp) (RT := 110) (p := 0) (bv := dv) (hs := hs) (ok := fun ((a, b, v, xs, u, ys, new) : St × St × Value × List Int × Value × List Int × List (Nat × Obj)) p' => ((a.Tame ∧ b.Tame) ∧ (xs.length ≤ 40 ∧ ys.length ≤ 40) ∧ ∀ w1, Own B w0 new w1 → Ints w1 v xs ∧ Ints w1 u ys) ∧ p' ≤ 0 + 2000) (v := fun ((a, b, v, xs, u, ys, new) : St × St × Value × List Int × Value × List Int × List (Nat × Obj)) => .tuple #[vS a, v, vS b, u]) (new := fun ((a, b, v, xs, u, ys, new) : St × St × Value × List Int × Value × List Int × List (Nat × Obj)) => new) (xs := [.tmp 15]) (vs := [pt_ rp]) ([bk_ p4 #[i6_ 0, str ([]), str ([])] 28, bk_ p2 #[i6_ 0, str ([]), str ([])] 28] : List (Nat × Obj)) rfl rfl rfl rfl Tryd.call70 rfl (fun w1 hw1 => (l7Some_ok B w0 (([bk_ p4 #[i6_ 0, str ([]), str ([])] 28, bk_ p2 #[i6_ 0, str ([]), str ([])] 28] : List (Nat × Obj)) ++ hs) rp 0 dv M w1 (fun w2 hw2 => hMb w2 (Own.drop (f := ([bk_ p4 #[i6_ 0, str ([]), str ([])] 28, bk_ p2 #[i6_ 0, str ([]), str ([])] 28] : List (Nat × Obj))) hw2)) hM8 hM2 (by omega) hw1).mono fun en w' ⟨a, b, v, xs, u, ys, new, p', h1, h2, h3⟩ => ⟨(a, b, v, xs, u, ys, new), p', h1, h2, h3⟩) fun ⟨a16, b16, v16, xs16, u16, ys16, new16⟩ p_16 hK => ?_
 dsimp only at hK
 obtain ⟨⟨⟨hta16, htb16⟩, ⟨hlxs16, hlys16⟩, hrw⟩, hep_16⟩ := hK
 have hIv16 : ∀ w1, Own B w0 new16 w1 → Ints w1 v16 xs16 := fun w1 h => (hrw w1 h).1
 have hIu16 : ∀ w1, Own B w0 new16 w1 → Ints w1 u16 ys16 := fun w1 h => (hrw w1 h).2
 show Ll _ _ (Own _ _ (_ :: _ :: _ :: (new16 ++ hs))) _ _ ((16, .tuple #[vS a16, v16, vS b16, u16]) :: _) _ _ _
 refine Ll.run 1 rfl ?_
 refine Ll.op (v := vS a16) rfl rfl rfl (OpQ.extract rfl rfl rfl) ?_
 refine Ll.op (v := v16) rfl rfl rfl (OpQ.extract rfl rfl rfl) ?_
 refine Ll.op (v := vS b16) rfl rfl rfl (OpQ.extract rfl rfl rfl) ?_
 refine Ll.op (v := u16) rfl rfl rfl (OpQ.extract rfl rfl rfl) ?_
 refine Ll.alloc rfl rfl rfl rfl Tryd.zeroValue28 fun p8 hp8 => ?_
 show Ll _ _ (Own _ _ (bk_ p8 #[i6_ 0, str ([]), str ([])] 28 :: _ :: _ :: _ :: (new16 ++ hs))) _ _ ((8, pt_ p8) :: _) _ _ _
 refine Ll.alloc rfl rfl rfl rfl Tryd.zeroValue28 fun p10 hp10 => ?_
 show Ll _ _ (Own _ _ (bk_ p10 #[i6_ 0, str ([]), str ([])] 28 :: _ :: _ :: _ :: _ :: (new16 ++ hs))) _ _ ((10, pt_ p10) :: _) _ _ _
 refine Ll.storeBox (cs' := #[i6_ a16.n, str a16.set, str a16.rel]) (hs' := (_ :: bk_ p8 #[i6_ a16.n, str a16.set, str a16.rel] 28 :: _ :: _ :: _ :: (new16 ++ hs))) 1 rfl rfl rfl rfl rfl (by kernel_rfl : _ = some Tryd.t28) rfl rfl rfl rfl rfl ?_
 refine Ll.run 1 rfl ?_
 refine Ll.storeBox (cs' := #[i6_ b16.n, str b16.set, str b16.rel]) (hs' := (bk_ p10 #[i6_ b16.n, str b16.set, str b16.rel] 28 :: _ :: _ :: _ :: _ :: (new16 ++ hs))) 0 rfl rfl rfl rfl rfl (by kernel_rfl : _ = some Tryd.t28) rfl rfl rfl rfl rfl ?_
 refine Ll.run 1 rfl ?_
 refine Ll.nil ?_
 refine Kt.sel [2, 4, 7, 8, 9, 10, 11] [_, _, _, _, _, _, _] rfl ?_
 refine Wk.seq ?_
 refine Wk.regionS (S := Own B w0 [bk_ p10 #[i6_ b16.n, str b16.set, str b16.rel] 28, bk_ p8 #[i6_ a16.n, str a16.set, str a16.rel] 28]) [(0, true), (1, true), (2, true), (3, true), (4, true), (5, false), (6, false), (7, false), (8, true), (9, false), (10, true), (11, true)] Base.mixed (fun _ h => h.drawn) (by kernel_rfl) ?_
 refine Ld.take rfl rfl rfl rfl rfl (OpQ.loadBox (cs := #[i6_ a16.n, str a16.set, str a16.rel]) 1 rfl Tryd.isAgg28 rfl rfl Tryd.sizeOf28) (pk [0, 1] rfl rfl) ?_
 refine Ld.run 1 rfl (pk [0, 1] rfl rfl) ?_
 refine Ld.take rfl rfl rfl rfl rfl (OpQ.loadBox (cs := #[i6_ b16.n, str b16.set, str b16.rel]) 0 rfl Tryd.isAgg28 rfl rfl Tryd.sizeOf28) (pk [0, 1] rfl rfl) ?_
 refine Ld.run 2 rfl (pk [0, 1] rfl rfl) ?_
 refine Ld.loud rfl ?_
 refine Ll.slice (xs := [.const (i6_ 1), .const (i6_ 2), .const (i6_ 0), .const (i6_ 3), .const (i6_ 2), .const (i6_ 4), .const (i6_ 5), .const (i6_ (-1))]) (vs := [i6_ 1, i6_ 2, i6_ 0, i6_ 3, i6_ 2, i6_ 4, i6_ 5, i6_ (-1)]) Base.elem24 rfl rfl rfl rfl rfl rfl (by decide) rfl fun p26 hp26 => ?_
 refine Ll.nil (Ld.joint (pk [1, 2] rfl rfl) ?_)
 refine Ld.loud rfl ?_
 refine Ll.callRd (rp := rp) (RT := 110) (p := p_16) (bv := dv) (hs := (new16 ++ hs)) (ok := fun (v : Int) p' => v ∈ ([1, 2, 0, 3, 2, 4, 5, -1]) ∧ p' = p_16 + 1) (v := fun (v : Int) => i6_ v) (new := fun (v : Int) => []) (xs := [.tmp 25, .tmp 26]) (vs := [pt_ rp, sl_ p26 8 8]) ([bk_ p26 #[i6_ 1, i6_ 2, i6_ 0, i6_ 3, i6_ 2, i6_ 4, i6_ 5, i6_ (-1)] 3, bk_ p10 #[i6_ b16.n, str b16.set, str b16.rel] 28, bk_ p8 #[i6_ a16.n, str a16.set, str a16.rel] 28, bk_ p4 #[i6_ 0, str ([]), str ([])] 28, bk_ p2 #[i6_ 0, str ([]), str ([])] 28] : List (Nat × Obj)) rfl rfl rfl rfl Tryd.call71 rfl (fun w1 hw1 => (num_ok B w0 (([bk_ p26 #[i6_ 1, i6_ 2, i6_ 0, i6_ 3, i6_ 2, i6_ 4, i6_ 5, i6_ (-1)] 3, bk_ p10 #[i6_ b16.n, str b16.set, str b16.rel] 28, bk_ p8 #[i6_ a16.n, str a16.set, str a16.rel] 28, bk_ p4 #[i6_ 0, str ([]), str ([])] 28, bk_ p2 #[i6_ 0, str ([]), str ([])] 28] : List (Nat × Obj)) ++ (new16 ++ hs)) rp p_16 dv M (sl_ p26 8 8) ([1, 2, 0, 3, 2, 4, 5, -1]) w1 (fun w2 hw2 => (fun w h => hMb w (Own.drop (f := new16) h)) w2 (Own.drop (f := ([bk_ p26 #[i6_ 1, i6_ 2, i6_ 0, i6_ 3, i6_ 2, i6_ 4, i6_ 5, i6_ (-1)] 3, bk_ p10 #[i6_ b16.n, str b16.set, str b16.rel] 28, bk_ p8 #[i6_ a16.n, str a16.set, str a16.rel] 28, bk_ p4 #[i6_ 0, str ([]), str ([])] 28, bk_ p2 #[i6_ 0, str ([]), str ([])] 28] : List (Nat × Obj))) hw2)) hM8 hM2 (fun w2 h2 => (Own.row h2 (i := 0) rfl (n := 8) (cap := 8) (vs := ints [1, 2, 0, 3, 2, 4, 5, -1]) rfl rfl (by decide))) (by simp) (by omega) hw1).mono fun en w' ⟨v', p', h1, h2, h3⟩ => ⟨v', p', h1, h2, h3⟩) fun v27 p_27 hKp_27 => ?_
 show Ll _ _ (Own _ _ (_ :: _ :: _ :: _ :: _ :: _ :: (new16 ++ hs))) _ _ ((27, i6_ v27) :: _) _ _ _
 obtain ⟨hmv27, hep_27⟩ := hKp_27
 have hvv27 : -1 ≤ v27 ∧ v27 ≤ 5 := by simp at hmv27; omega
 refine Ll.nil (Ld.joint (pk [1, 2] rfl rfl) ?_)
 refine Ld.loud rfl ?_
 refine Ll.storeBox (cs' := #[i6_ a16.n, str a16.set, str a16.rel]) (hs' := (_ :: _ :: _ :: _ :: bk_ p2 #[i6_ a16.n, str a16.set, str a16.rel] 28 :: _ :: (new16 ++ hs))) 4 rfl rfl rfl rfl rfl (by kernel_rfl : _ = some Tryd.t28) rfl rfl rfl rfl rfl ?_
 refine Ll.nil (Ld.joint (pk [1, 2] rfl rfl) ?_)
 refine Ld.run 1 rfl (pk [1, 2] rfl rfl) ?_
 refine Ld.loud rfl ?_
 refine Ll.storeBox (cs' := #[i6_ b16.n, str b16.set, str b16.rel]) (hs' := (_ :: _ :: _ :: bk_ p4 #[i6_ b16.n, str b16.set, str b16.rel] 28 :: _ :: _ :: (new16 ++ hs))) 3 rfl rfl rfl rfl rfl (by kernel_rfl : _ = some Tryd.t28) rfl rfl rfl rfl rfl ?_
 refine Ll.nil (Ld.joint (pk [1, 2] rfl rfl) ?_)
 refine Ld.run 2 rfl (pk [1, 2] rfl rfl) ?_
 refine Ld.nil ?_
 refine Kt.sel [2, 3, 4, 5, 6] [_, _, _, _, _] rfl ?_
 refine Wk.ret (Kt.endMany rfl (.cell (cs := #[i6_ a16.n, str a16.set, str a16.rel]) rfl (fun w1 hw1 => hw1.loadBox 4 rfl Tryd.isAgg28 Tryd.sizeOf28) (.tmp (v := v16) rfl (.cell (cs := #[i6_ b16.n, str b16.set, str b16.rel]) rfl (fun w1 hw1 => hw1.loadBox 3 rfl Tryd.isAgg28 Tryd.sizeOf28) (.tmp (v := u16) rfl (.tmp (v := i6_ v27) rfl ResAt.nil))))) (by simp) fun w' hw => ?_)
 -- ret 0: vS a16; v16; vS b16; u16; i6_ v27
 exact ⟨a16, b16, v16, xs16, u16, ys16, ([bk_ p26 #[i6_ 1, i6_ 2, i6_ 0, i6_ 3, i6_ 2, i6_ 4, i6_ 5, i6_ (-1)] 3, bk_ p10 #[i6_ b16.n, str b16.set, str b16.rel] 28, bk_ p8 #[i6_ a16.n, str a16.set, str a16.rel] 28, bk_ p4 #[i6_ b16.n, str b16.set, str b16.rel] 28, bk_ p2 #[i6_ a16.n, str a16.set, str a16.rel] 28, bk_ rp #[dv, i6_ ((p_27 : Int))] 110] : List (Nat × Obj)) ++ new16, v27, rfl, ⟨⟨⟨hta16, htb16⟩, ⟨(by first | omega | (simp only [List.length_append, List.length_cons, List.length_nil, List.length_take, List.length_set]; omega)), (by first | omega | (simp only [List.length_append, List.length_cons, List.length_nil, List.length_take, List.length_set]; omega))⟩, fun w1 h1 => ⟨(hIv16 _ (Own.drop (f := [_, _, _, _, _, _]) h1)), (hIu16 _ (Own.drop (f := [_, _, _, _, _, _]) h1))⟩⟩, ⟨by omega, by omega⟩⟩, hw⟩

set_option maxHeartbeats 400000 in
/-- laws.FnPebblesWin -/
theorem lawFnPWin (bv : Value) (L : List Int) (w : World) (hbv : Row w bv (u8s L)) (hL8 : Bytes8 L) (hLm : L.length ≤ 9223372036854775807) :
    Calls Tryd.prog 10 [bv].toArray w fun en w' => en = .returned (.bool true) ∧ Below w.heap.size w w' := by
 refine fnStart (n := 174) (e := [(0, bv)]) Tryd.func10 rfl rfl rfl rfl Ends.both ?_
 refine Wk.seq ?_
 refine Wk.regionQ ?_
 refine Lq.run 1 rfl ?_
 refine Lq.nil ?_
 refine Kt.sel [0] [_] rfl ?_
 refine Wk.seq ?_
 refine Wk.seq ?_
 refine Wk.regionQ ?_
 refine Lq.run 1 rfl ?_
 refine Lq.op (v := i6_ ((L.length : Int))) rfl rfl rfl (OpQ.lenRow rfl Tryd.runUnderlying45 rfl (u8s_length _) (fun w1 hw1 => Row.own hbv hw1)) ?_
 refine Lq.run 1 rfl ?_
 refine Lq.nil ?_
 refine Kt.sel [0, 21] [_, _] rfl ?_
 refine Wk.cond (b := decide ((1048576 : Int) < ((L.length : Int)))) rfl (fun h21 => ?_) (fun h21 => ?_)
 ·
  replace h21 := of_decide_eq_true h21
  refine Wk.seq ?_
  refine Wk.regionQ ?_
  refine Lq.run 1 rfl ?_
  refine Lq.nil ?_
  refine Kt.sel [2] [_] rfl ?_
  refine Wk.ret (Kt.end1 rfl rfl fun w' hw => ?_)
  -- ret 0: bo_ true
  exact ⟨ret_b (by first | rfl | (rw [pebWin_comm]; exact beq_self_eq_true _)), hw.below⟩
 ·
  replace h21 := of_decide_eq_false h21
  refine Wk.skip ?_
  refine Kt.sel [0] [_] rfl ?_
  refine Wk.seq ?_
  refine Wk.region ?_
  refine Ll.run 1 rfl ?_
  refine Ll.callBack (ok := fun ((a, b, v, xs, u, ys, new, r) : St × St × Value × List Int × Value × List Int × List (Nat × Obj) × Int) => ((a.Tame ∧ b.Tame) ∧ (xs.length ≤ 40 ∧ ys.length ≤ 40) ∧ ∀ w1, Own w.heap.size w new w1 → Ints w1 v xs ∧ Ints w1 u ys) ∧ -1 ≤ r ∧ r ≤ 5) (v := fun ((a, b, v, xs, u, ys, new, r) : St × St × Value × List Int × Value × List Int × List (Nat × Obj) × Int) => .tuple #[vS a, v, vS b, u, .int .i64 r]) (new := fun ((a, b, v, xs, u, ys, new, r) : St × St × Value × List Int × Value × List Int × List (Nat × Obj) × Int) => new) (hs := []) (xs := [.tmp 23]) (vs := [bv]) ([] : List (Nat × Obj)) rfl rfl rfl rfl Tryd.call32 rfl (fun w1 hw1 => (drawPWin_ok w.heap.size w (([] : List (Nat × Obj)) ++ ([])) bv L w1 (fun w2 hw2 => Row.own hbv hw2) hL8 (by omega) hw1).mono fun en w' ⟨a, b, v, xs, u, ys, new, r, h1, h2, h3⟩ => ⟨(a, b, v, xs, u, ys, new, r), h1, h2, h3⟩) fun ⟨a24, b24, v24, xs24, u24, ys24, new24, r24⟩ hK => ?_
  dsimp only at hK
  obtain ⟨⟨⟨hta24, htb24⟩, ⟨hlxs24, hlys24⟩, hrw⟩, ⟨hlor24, hhir24⟩⟩ := hK
  have hIv24 : ∀ w1, Own w.heap.size w new24 w1 → Ints w1 v24 xs24 := fun w1 h => (hrw w1 h).1
  have hIu24 : ∀ w1, Own w.heap.size w new24 w1 → Ints w1 u24 ys24 := fun w1 h => (hrw w1 h).2
  have hsa24 := hta24.small
  have loa24 := hta24.lo
  have hia24 := hta24.hi
  have hsb24 := htb24.small
  have lob24 := htb24.lo
  have hib24 := htb24.hi
  show Ll _ _ (Own _ _ ((new24 ++ ([])))) _ _ ((24, .tuple #[vS a24, v24, vS b24, u24, i6_ r24]) :: _) _ _ _
  refine Ll.run 1 rfl ?_
  refine Ll.op (v := vS a24) rfl rfl rfl (OpQ.extract rfl rfl rfl) ?_
  refine Ll.op (v := v24) rfl rfl rfl (OpQ.extract rfl rfl rfl) ?_
  refine Ll.op (v := vS b24) rfl rfl rfl (OpQ.extract rfl rfl rfl) ?_
  refine Ll.op (v := u24) rfl rfl rfl (OpQ.extract rfl rfl rfl) ?_
  refine Ll.op (v := i6_ r24) rfl rfl rfl (OpQ.extract rfl rfl rfl) ?_
  refine Ll.alloc rfl rfl rfl rfl Tryd.zeroValue28 fun p3 hp3 => ?_
  show Ll _ _ (Own _ _ (bk_ p3 #[i6_ 0, str ([]), str ([])] 28 :: (new24 ++ ([])))) _ _ ((3, pt_ p3) :: _) _ _ _
  refine Ll.alloc rfl rfl rfl rfl Tryd.zeroValue28 fun p5 hp5 => ?_
  show Ll _ _ (Own _ _ (bk_ p5 #[i6_ 0, str ([]), str ([])] 28 :: _ :: (new24 ++ ([])))) _ _ ((5, pt_ p5) :: _) _ _ _
  refine Ll.storeBox (cs' := #[i6_ a24.n, str a24.set, str a24.rel]) (hs' := (_ :: bk_ p3 #[i6_ a24.n, str a24.set, str a24.rel] 28 :: (new24 ++ ([])))) 1 rfl rfl rfl rfl rfl (by kernel_rfl : _ = some Tryd.t28) rfl rfl rfl rfl rfl ?_
  refine Ll.run 1 rfl ?_
  refine Ll.storeBox (cs' := #[i6_ b24.n, str b24.set, str b24.rel]) (hs' := (bk_ p5 #[i6_ b24.n, str b24.set, str b24.rel] 28 :: _ :: (new24 ++ ([])))) 0 rfl rfl rfl rfl rfl (by kernel_rfl : _ = some Tryd.t28) rfl rfl rfl rfl rfl ?_
  refine Ll.run 2 rfl ?_
  refine Ll.nil ?_
  refine Kt.sel [3, 4, 5, 6, 7] [_, _, _, _, _] rfl ?_
  refine Wk.seq ?_
  refine Wk.regionQ ?_
  refine Lq.op rfl rfl rfl (OpQ.loadBox (cs := #[i6_ a24.n, str a24.set, str a24.rel]) 1 rfl Tryd.isAgg28 rfl rfl Tryd.sizeOf28) ?_
  refine Lq.run 1 rfl ?_
  refine Lq.op rfl rfl rfl (OpQ.loadBox (cs := #[i6_ b24.n, str b24.set, str b24.rel]) 0 rfl Tryd.isAgg28 rfl rfl Tryd.sizeOf28) ?_
  refine Lq.run 2 rfl ?_
  refine Lq.op (v := bo_ (pebWinB a24 xs24 b24 ys24 r24)) rfl rfl rfl (OpQ.call rfl Tryd.call25 rfl Own.stable (fun w1 hw1 => iPWin_ok a24 b24 xs24 ys24 v24 u24 w1 hsa24 hsb24 (hIv24 _ (Own.dropR (Own.drop (f := [_, _]) hw1))) (hIu24 _ (Own.dropR (Own.drop (f := [_, _]) hw1))) (by first | (simp; done) | (simp; omega) | omega) (by first | (simp; done) | (simp; omega) | omega) r24)) ?_
  refine Lq.run 1 rfl ?_
  refine Lq.nil ?_
  refine Kt.sel [3, 4, 5, 6, 7, 8] [_, _, _, _, _, _] rfl ?_
  refine Wk.seq ?_
  refine Wk.seq ?_
  refine Wk.regionQ ?_
  refine Lq.run 1 rfl ?_
  refine Lq.op rfl rfl rfl (OpQ.loadBox (cs := #[i6_ a24.n, str a24.set, str a24.rel]) 1 rfl Tryd.isAgg28 rfl rfl Tryd.sizeOf28) ?_
  refine Lq.run 1 rfl ?_
  refine Lq.op rfl rfl rfl (OpQ.loadBox (cs := #[i6_ b24.n, str b24.set, str b24.rel]) 0 rfl Tryd.isAgg28 rfl rfl Tryd.sizeOf28) ?_
  refine Lq.run 2 rfl ?_
  refine Lq.op (v := bo_ (pebWinB a24 xs24 b24 ys24 r24)) rfl rfl rfl (OpQ.call rfl Tryd.call24 rfl Own.stable (fun w1 hw1 => sPWin_ok a24 b24 xs24 ys24 v24 u24 w1 hsa24 hsb24 (hIv24 _ (Own.dropR (Own.drop (f := [_, _]) hw1))) (hIu24 _ (Own.dropR (Own.drop (f := [_, _]) hw1))) (by first | (simp; done) | (simp; omega) | omega) (by first | (simp; done) | (simp; omega) | omega) loa24 hia24 lob24 hib24 r24)) ?_
  refine Lq.op rfl rfl rfl (OpQ.bne rfl Tryd.runUnderlying4 rfl rfl) ?_
  refine Lq.run 1 rfl ?_
  refine Lq.bool fun b44 hg44 => ?_
  cases b44
  ·
   refine Lq.run 4 rfl ?_
   refine Lq.bool fun b48 hg48 => ?_
   cases b48
   ·
    replace hg48 := of_decide_eq_false hg48
    refine Lq.run 4 rfl ?_
    refine Lq.bool fun b52 hg52 => ?_
    cases b52
    ·
     replace hg52 := of_decide_eq_false hg52
     refine Lq.op rfl rfl rfl (OpQ.loadBox (cs := #[i6_ a24.n, str a24.set, str a24.rel]) 1 rfl Tryd.isAgg28 rfl rfl Tryd.sizeOf28) ?_
     refine Lq.run 1 rfl ?_
     refine Lq.op rfl rfl rfl (OpQ.loadBox (cs := #[i6_ b24.n, str b24.set, str b24.rel]) 0 rfl Tryd.isAgg28 rfl rfl Tryd.sizeOf28) ?_
     refine Lq.run 1 rfl ?_
     refine Lq.op (v := bo_ (fitB a24 xs24 b24 ys24)) rfl rfl rfl (OpQ.call rfl Tryd.call33 rfl Own.stable (fun w1 hw1 => iFit_ok a24 b24 xs24 ys24 v24 u24 w1 hsa24 hsb24 (hIv24 _ (Own.dropR (Own.drop (f := [_, _]) hw1))) (hIu24 _ (Own.dropR (Own.drop (f := [_, _]) hw1))) (by first | (simp; done) | (simp; omega) | omega) (by first | (simp; done) | (simp; omega) | omega))) ?_
     refine Lq.run 2 rfl ?_
     refine Lq.nil ?_
     refine Kt.sel [3, 4, 5, 6, 7, 8, 59] [_, _, _, _, _, _, _] rfl ?_
     refine Wk.cond (b := !(fitB a24 xs24 b24 ys24)) rfl (fun h59 => ?_) (fun h59 => ?_)
     ·
      replace h59 := not_true h59
      refine Wk.seq ?_
      refine Wk.regionQ ?_
      refine Lq.run 1 rfl ?_
      refine Lq.op rfl rfl rfl (OpQ.loadBox (cs := #[i6_ a24.n, str a24.set, str a24.rel]) 1 rfl Tryd.isAgg28 rfl rfl Tryd.sizeOf28) ?_
      refine Lq.run 1 rfl ?_
      refine Lq.op rfl rfl rfl (OpQ.loadBox (cs := #[i6_ b24.n, str b24.set, str b24.rel]) 0 rfl Tryd.isAgg28 rfl rfl Tryd.sizeOf28) ?_
      refine Lq.run 2 rfl ?_
      refine Lq.op (v := bo_ (pebWinB a24 xs24 b24 ys24 r24)) rfl rfl rfl (OpQ.call rfl Tryd.call24 rfl Own.stable (fun w1 hw1 => sPWin_ok a24 b24 xs24 ys24 v24 u24 w1 hsa24 hsb24 (hIv24 _ (Own.dropR (Own.drop (f := [_, _]) hw1))) (hIu24 _ (Own.dropR (Own.drop (f := [_, _]) hw1))) (by first | (simp; done) | (simp; omega) | omega) (by first | (simp; done) | (simp; omega) | omega) loa24 hia24 lob24 hib24 r24)) ?_
      refine Lq.op rfl rfl rfl (OpQ.beq rfl Tryd.runUnderlying4 rfl rfl) ?_
      refine Lq.run 1 rfl ?_
      refine Lq.bool fun b68 hg68 => ?_
      cases b68
      ·
       exact absurd hg68 (by simp)
      ·
       refine Lq.run 3 rfl ?_
       refine Lq.bool fun b71 hg71 => ?_
       cases b71
       ·
        replace hg71 := not_false hg71
        replace hg71 := of_decide_eq_true hg71
        refine Lq.run 1 rfl ?_
        refine Lq.op rfl rfl rfl (OpQ.loadBox (cs := #[i6_ a24.n, str a24.set, str a24.rel]) 1 rfl Tryd.isAgg28 rfl rfl Tryd.sizeOf28) ?_
        refine Lq.run 1 rfl ?_
        refine Lq.op rfl rfl rfl (OpQ.loadBox (cs := #[i6_ b24.n, str b24.set, str b24.rel]) 0 rfl Tryd.isAgg28 rfl rfl Tryd.sizeOf28) ?_
        refine Lq.run 1 rfl ?_
        refine Lq.op (v := bo_ (fitB a24 xs24 b24 ys24)) rfl rfl rfl (OpQ.call rfl Tryd.call33 rfl Own.stable (fun w1 hw1 => iFit_ok a24 b24 xs24 ys24 v24 u24 w1 hsa24 hsb24 (hIv24 _ (Own.dropR (Own.drop (f := [_, _]) hw1))) (hIu24 _ (Own.dropR (Own.drop (f := [_, _]) hw1))) (by first | (simp; done) | (simp; omega) | omega) (by first | (simp; done) | (simp; omega) | omega))) ?_
        refine Lq.op rfl rfl rfl (OpQ.beq rfl Tryd.runUnderlying4 rfl rfl) ?_
        refine Lq.run 3 rfl ?_
        refine Lq.nil ?_
        refine Kt.sel [2] [_] rfl ?_
        refine Wk.ret (Kt.end1 rfl rfl fun w' hw => ?_)
        -- ret 1: bo_ ((pebWinB a24 xs24 b24 ys24 r24) == (fitB a24 xs24 b24 ys24))
        exact ⟨ret_b (by rw [pebWin_zero _ _ _ _ (by omega)]; exact beq_self_eq_true _), hw.below⟩
       ·
        replace hg71 := not_true hg71
        replace hg71 := of_decide_eq_false hg71
        refine Lq.pass rfl rfl rfl ?_
        refine Lq.pass rfl rfl rfl ?_
        refine Lq.pass rfl rfl rfl ?_
        refine Lq.pass rfl rfl rfl ?_
        refine Lq.pass rfl rfl rfl ?_
        refine Lq.pass rfl rfl rfl ?_
        refine Lq.pass rfl rfl rfl ?_
        refine Lq.run 3 rfl ?_
        refine Lq.nil ?_
        refine Kt.sel [2] [_] rfl ?_
        refine Wk.ret (Kt.end1 rfl rfl fun w' hw => ?_)
        -- ret 2: bo_ true
        exact ⟨ret_b (by first | rfl | (rw [pebWin_comm]; exact beq_self_eq_true _)), hw.below⟩
     ·
      replace h59 := not_false h59
      have hf : fitB a24 xs24 b24 ys24 = true := by simp_all
      have hr : readyB a24 xs24 b24 ys24 = true := by unfold fitB at hf; simp only [Bool.and_eq_true] at hf; exact hf.1
      obtain ⟨hVa, hVb, hr1, hr3, hrl, hrx, hry⟩ := ready_peb hr
      have hfa := validB_fine hVa
      have hfb := validB_fine hVb
      have hlo1 := hfa.lo
      have hlo2 := hfb.lo
      have hhi1 := hfa.hi
      have hhi2 := hfb.hi
      refine Wk.skip ?_
      refine Kt.sel [3, 4, 5, 6, 7, 8] [_, _, _, _, _, _] rfl ?_
      refine Wk.seq ?_
      refine Wk.regionQ ?_
      refine Lq.run 1 rfl ?_
      refine Lq.nil ?_
      refine Kt.sel [3, 4, 5, 6, 7, 8, 9] [_, _, _, _, _, _, _] rfl ?_
      refine Wk.seq ?_
      refine Wk.seq ?_
      refine Wk.regionQ ?_
      refine Lq.run 1 rfl ?_
      refine Lq.nil ?_
      refine Kt.sel [3, 4, 5, 6, 7, 8, 9, 10] [_, _, _, _, _, _, _, _] rfl ?_
      refine Wk.block ?_
      refine Wk.loop (σ := Nat) (fun i => i ≤ xs24.length) (fun i => [(3, pt_ p3), (4, v24), (5, pt_ p5), (6, u24), (7, i6_ r24), (8, bo_ (pebWinB a24 xs24 b24 ys24 r24)), (9, bo_ (pwA a24 xs24 b24 ys24 r24 i)), (10, i6_ ((i : Int)))]) (fun i => Own w.heap.size w (bk_ p5 #[i6_ b24.n, str b24.set, str b24.rel] 28 :: bk_ p3 #[i6_ a24.n, str a24.set, str a24.rel] 28 :: (new24 ++ ([])))) (fun i => xs24.length - i) (0) (by omega) (Sub.cons rfl (Sub.cons rfl (Sub.cons rfl (Sub.cons rfl (Sub.cons rfl (Sub.cons rfl (Sub.cons (by rfl) (Sub.sel [10] rfl)))))))) (fun _ h => h) ?_
      rintro i hi
      refine Wk.seq ?_
      refine Wk.seq ?_
      refine Wk.regionQ ?_
      refine Lq.run 2 rfl ?_
      refine Lq.op (v := i6_ ((xs24.length : Int))) rfl rfl rfl (OpQ.lenRow rfl Tryd.runUnderlying24 rfl (ints_length _) (fun w1 hw1 => hIv24 _ (Own.dropR (Own.drop (f := [_, _]) hw1)))) ?_
      refine Lq.run 1 rfl ?_
      refine Lq.nil ?_
      refine Kt.sel [3, 4, 5, 6, 7, 8, 9, 10, 84] [_, _, _, _, _, _, _, _, _] rfl ?_
      refine Wk.cond (b := decide (((i : Int)) < ((xs24.length : Int)))) rfl (fun h84 => ?_) (fun h84 => ?_)
      ·
       replace h84 := of_decide_eq_true h84
       have hil : i < xs24.length := by omega
       refine Wk.skip ?_
       refine Kt.sel [3, 4, 5, 6, 7, 8, 9, 10] [_, _, _, _, _, _, _, _] rfl ?_
       refine Wk.seq ?_
       refine Wk.block ?_
       refine Wk.seq ?_
       refine Wk.region ?_
       refine Ll.slice (xs := []) (vs := []) Base.elem24 rfl rfl rfl rfl rfl rfl (by decide) rfl fun p87 hp87 => ?_
       refine Ll.run 1 rfl ?_
       refine Ll.appendInts (xs := []) (ys := xs24) Base.elem24 0 rfl rfl rfl rfl rfl rfl rfl rfl (by decide) rfl (fun w1 hw1 => (hIv24 _ (Own.dropR (Own.drop (f := [_, _, _]) hw1)))) ((xs24).length) (by first | (simp; done) | (simp; omega)) (by first | (simp; done) | (simp; omega) | omega) fun p89 cap89 cur89 hp89 hcp89 hlp89 htp89 => ?_
       show Ll _ _ (Own _ _ (_ :: _ :: _ :: (new24 ++ ([])))) _ _ ((89, sl_ p89 (((xs24).length)) cap89) :: _) _ _ _
       refine Ll.run 1 rfl ?_
       refine Ll.nil ?_
       refine Kt.sel [3, 4, 5, 6, 7, 8, 9, 10, 11] [_, _, _, _, _, _, _, _, _] rfl ?_
       refine Wk.seq ?_
       refine Wk.region ?_
       refine Ll.slice (xs := []) (vs := []) Base.elem24 rfl rfl rfl rfl rfl rfl (by decide) rfl fun p90 hp90 => ?_
       refine Ll.run 1 rfl ?_
       refine Ll.appendInts (xs := []) (ys := ys24) Base.elem24 0 rfl rfl rfl rfl rfl rfl rfl rfl (by decide) rfl (fun w1 hw1 => (hIu24 _ (Own.dropR (Own.drop (f := [_, _, _, _]) hw1)))) ((ys24).length) (by first | (simp; done) | (simp; omega)) (by first | (simp; done) | (simp; omega) | omega) fun p92 cap92 cur92 hp92 hcp92 hlp92 htp92 => ?_
       show Ll _ _ (Own _ _ (_ :: _ :: _ :: _ :: (new24 ++ ([])))) _ _ ((92, sl_ p92 (((ys24).length)) cap92) :: _) _ _ _
       refine Ll.run 1 rfl ?_
       refine Ll.nil ?_
       refine Kt.sel [3, 4, 5, 6, 7, 8, 9, 10, 11, 12] [_, _, _, _, _, _, _, _, _, _] rfl ?_
       refine Wk.seq ?_
       refine Wk.seq ?_
       refine Wk.regionQ ?_
       refine Lq.run 1 rfl ?_
       refine Lq.nil ?_
       refine Kt.sel [3, 4, 5, 6, 7, 8, 9, 10, 11, 12, 13] [_, _, _, _, _, _, _, _, _, _, _] rfl ?_
       refine Wk.block ?_
       refine Wk.loop (σ := Nat × Array Value × List Int × Array Value × List Int) (fun ⟨x, u, P, u2, Q⟩ => (x : Int) ≤ a24.n ∧ (u.size = cap89 * 1 ∧ xs24.length ≤ cap89 ∧ u.toList.take xs24.length = ints P ∧ P.length = xs24.length ∧ ∀ z : Int, P.set i z = xs24.set i z) ∧ (u2.size = cap92 * 1 ∧ ys24.length ≤ cap92 ∧ u2.toList.take ys24.length = ints Q ∧ Q.length = ys24.length ∧ ∀ z : Int, Q.set i z = ys24.set i z)) (fun ⟨x, u, P, u2, Q⟩ => [(3, pt_ p3), (4, v24), (5, pt_ p5), (6, u24), (7, i6_ r24), (8, bo_ (pebWinB a24 xs24 b24 ys24 r24)), (9, bo_ (pwA a24 xs24 b24 ys24 r24 i && allW (pwF a24 xs24 b24 ys24 r24 i) x b24.n.toNat)), (10, i6_ ((i : Int))), (11, sl_ p89 xs24.length cap89), (12, sl_ p92 ys24.length cap92), (13, i6_ ((x : Int)))]) (fun ⟨x, u, P, u2, Q⟩ => Own w.heap.size w (bk_ p92 u2 3 :: bk_ p89 u 3 :: bk_ p5 #[i6_ b24.n, str b24.set, str b24.rel] 28 :: bk_ p3 #[i6_ a24.n, str a24.set, str a24.rel] 28 :: (new24 ++ ([])))) (fun ⟨x, u, P, u2, Q⟩ => (a24.n - x).toNat) ((0, cur89, xs24, cur92, ys24)) ⟨by omega, ⟨hcp89, by simpa using hlp89, by simpa using (by simpa using htp89), rfl, fun _ => rfl⟩, ⟨hcp92, by simpa using hlp92, by simpa using (by simpa using htp92), rfl, fun _ => rfl⟩⟩ (Sub.cons rfl (Sub.cons rfl (Sub.cons rfl (Sub.cons rfl (Sub.cons rfl (Sub.cons rfl (Sub.cons (by rw [show allW _ 0 _ = true from rfl, Bool.and_true]; rfl) (Sub.cons rfl (Sub.cons (by rfl) (Sub.cons (by rfl) (Sub.sel [13] rfl))))))))))) (fun _ h => h) ?_
       rintro ⟨x, u, P, u2, Q⟩ ⟨hx, ⟨hcP, hlP, htP, hPl, hP⟩, ⟨hcQ, hlQ, htQ, hQl, hQ⟩⟩
       dsimp only
       refine Wk.seq ?_
       refine Wk.seq ?_
       refine Wk.regionQ ?_
       refine Lq.run 1 rfl ?_
       refine Lq.op rfl rfl rfl (OpQ.fieldAddr rfl Tryd.runUnderlying28 rfl Tryd.sizeOf3 rfl rfl) ?_
       refine Lq.op rfl rfl rfl (OpQ.loadOwn 3 rfl Tryd.isAgg3 rfl rfl rfl) ?_
       refine Lq.run 1 rfl ?_
       refine Lq.nil ?_
       refine Kt.sel [3, 4, 5, 6, 7, 8, 9, 10, 11, 12, 13, 96] [_, _, _, _, _, _, _, _, _, _, _, _] rfl ?_
       refine Wk.cond (b := decide (((x : Int)) < a24.n)) rfl (fun h96 => ?_) (fun h96 => ?_)
       ·
        replace h96 := of_decide_eq_true h96
        refine Wk.skip ?_
        refine Kt.sel [3, 4, 5, 6, 7, 8, 9, 10, 11, 12, 13] [_, _, _, _, _, _, _, _, _, _, _] rfl ?_
        refine Wk.seq ?_
        refine Wk.block ?_
        refine Wk.seq ?_
        refine Wk.regionQ ?_
        refine Lq.run 1 rfl ?_
        refine Lq.nil ?_
        refine Kt.sel [3, 4, 5, 6, 7, 8, 9, 10, 11, 12, 13, 14] [_, _, _, _, _, _, _, _, _, _, _, _] rfl ?_
        refine Wk.seq ?_
        refine Wk.region ?_
        refine Ll.run 3 rfl ?_
        refine Ll.op (v := pf_ p89 i) rfl rfl rfl (OpQ.cast (by simp) (OpQ.indexAddr1 rfl Tryd.runUnderlying24 Tryd.sizeOf3 rfl rfl (by omega) (by omega))) ?_
        refine Ll.store1 (v := i6_ ((x : Int))) (hs' := (_ :: bk_ p89 ((u.setIfInBounds i (i6_ ((x : Int))))) 3 :: _ :: _ :: (new24 ++ ([])))) 1 rfl rfl rfl rfl rfl rfl Tryd.sizeOf3 rfl (by rw [hcP]; omega) rfl ?_
        refine Ll.nil ?_
        refine Kt.sel [3, 4, 5, 6, 7, 8, 9, 10, 11, 12, 13, 14] [_, _, _, _, _, _, _, _, _, _, _, _] rfl ?_
        refine Wk.seq ?_
        refine Wk.seq ?_
        refine Wk.regionQ ?_
        refine Lq.run 1 rfl ?_
        refine Lq.nil ?_
        refine Kt.sel [3, 4, 5, 6, 7, 8, 9, 10, 11, 12, 13, 14, 15] [_, _, _, _, _, _, _, _, _, _, _, _, _] rfl ?_
        refine Wk.block ?_
        refine Wk.loop (σ := Nat × Array Value × List Int) (fun ⟨y, u2, Q⟩ => (y : Int) ≤ b24.n ∧ (u2.size = cap92 * 1 ∧ ys24.length ≤ cap92 ∧ u2.toList.take ys24.length = ints Q ∧ Q.length = ys24.length ∧ ∀ z : Int, Q.set i z = ys24.set i z)) (fun ⟨y, u2, Q⟩ => [(3, pt_ p3), (4, v24), (5, pt_ p5), (6, u24), (7, i6_ r24), (8, bo_ (pebWinB a24 xs24 b24 ys24 r24)), (9, bo_ (pwA a24 xs24 b24 ys24 r24 i && allW (pwF a24 xs24 b24 ys24 r24 i) x b24.n.toNat)), (10, i6_ ((i : Int))), (11, sl_ p89 xs24.length cap89), (12, sl_ p92 ys24.length cap92), (13, i6_ ((x : Int))), (14, bo_ (someW (pwF a24 xs24 b24 ys24 r24 i) x y)), (15, i6_ ((y : Int)))]) (fun ⟨y, u2, Q⟩ => Own w.heap.size w (bk_ p92 u2 3 :: bk_ p89 ((u.setIfInBounds i (i6_ ((x : Int))))) 3 :: bk_ p5 #[i6_ b24.n, str b24.set, str b24.rel] 28 :: bk_ p3 #[i6_ a24.n, str a24.set, str a24.rel] 28 :: (new24 ++ ([])))) (fun ⟨y, u2, Q⟩ => (b24.n - y).toNat) ((0, u2, Q)) ⟨by omega, ⟨hcQ, hlQ, htQ, hQl, hQ⟩⟩ (Sub.cons rfl (Sub.cons rfl (Sub.cons rfl (Sub.cons rfl (Sub.cons rfl (Sub.cons rfl (Sub.cons rfl (Sub.cons rfl (Sub.cons rfl (Sub.cons (by rfl) (Sub.cons rfl (Sub.cons (by rfl) (Sub.sel [15] rfl))))))))))))) (fun _ h => h) ?_
        rintro ⟨y, u2, Q⟩ ⟨hy, ⟨hcQ, hlQ, htQ, hQl, hQ⟩⟩
        dsimp only
        refine Wk.seq ?_
        refine Wk.seq ?_
        refine Wk.regionQ ?_
        refine Lq.run 1 rfl ?_
        refine Lq.op rfl rfl rfl (OpQ.fieldAddr rfl Tryd.runUnderlying28 rfl Tryd.sizeOf3 rfl rfl) ?_
        refine Lq.op rfl rfl rfl (OpQ.loadOwn 2 rfl Tryd.isAgg3 rfl rfl rfl) ?_
        refine Lq.run 1 rfl ?_
        refine Lq.nil ?_
        refine Kt.sel [3, 4, 5, 6, 7, 8, 9, 10, 11, 12, 13, 14, 15, 106] [_, _, _, _, _, _, _, _, _, _, _, _, _, _] rfl ?_
        refine Wk.cond (b := decide (((y : Int)) < b24.n)) rfl (fun h106 => ?_) (fun h106 => ?_)
        ·
         replace h106 := of_decide_eq_true h106
         refine Wk.skip ?_
         refine Kt.sel [3, 4, 5, 6, 7, 8, 9, 10, 11, 12, 13, 14, 15] [_, _, _, _, _, _, _, _, _, _, _, _, _] rfl ?_
         refine Wk.seq ?_
         refine Wk.block ?_
         refine Wk.seq ?_
         refine Wk.region ?_
         refine Ll.run 3 rfl ?_
         refine Ll.op (v := pf_ p92 i) rfl rfl rfl (OpQ.cast (by simp) (OpQ.indexAddr1 rfl Tryd.runUnderlying24 Tryd.sizeOf3 rfl rfl (by omega) (by omega))) ?_
         refine Ll.store1 (v := i6_ ((y : Int))) (hs' := (bk_ p92 ((u2.setIfInBounds i (i6_ ((y : Int))))) 3 :: _ :: _ :: _ :: (new24 ++ ([])))) 0 rfl rfl rfl rfl rfl rfl Tryd.sizeOf3 rfl (by rw [hcQ]; omega) rfl ?_
         refine Ll.nil ?_
         refine Kt.sel [3, 4, 5, 6, 7, 8, 9, 10, 11, 12, 13, 14, 15] [_, _, _, _, _, _, _, _, _, _, _, _, _] rfl ?_
         refine Wk.regionQ ?_
         refine Lq.run 2 rfl ?_
         refine Lq.bool fun b114 hg114 => ?_
         cases b114
         ·
          skip
          refine Lq.op rfl rfl rfl (OpQ.loadBox (cs := #[i6_ a24.n, str a24.set, str a24.rel]) 3 rfl Tryd.isAgg28 rfl rfl Tryd.sizeOf28) ?_
          refine Lq.run 1 rfl ?_
          refine Lq.op rfl rfl rfl (OpQ.loadBox (cs := #[i6_ b24.n, str b24.set, str b24.rel]) 2 rfl Tryd.isAgg28 rfl rfl Tryd.sizeOf28) ?_
          refine Lq.run 2 rfl ?_
          refine Lq.op rfl rfl rfl (OpQ.sub rfl rfl rfl (by omega) (by omega)) ?_
          refine Lq.op (v := bo_ (pebWinB a24 (P.set i ((x : Int))) b24 (Q.set i ((y : Int))) (r24 - (1 : Int)))) rfl rfl rfl (OpQ.call rfl Tryd.call25 rfl Own.stable (fun w1 hw1 => iPWin_ok a24 b24 (P.set i ((x : Int))) (Q.set i ((y : Int))) (sl_ p89 xs24.length cap89) (sl_ p92 ys24.length cap92) w1 hsa24 hsb24 (Own.row hw1 (i := 1) rfl (set_takeI htP) (by simpa using hPl) hlP) (Own.row hw1 (i := 0) rfl (set_takeI htQ) (by simpa using hQl) hlQ) (by first | (simp; done) | (simp; omega) | omega) (by first | (simp; done) | (simp; omega) | omega) (r24 - (1 : Int)))) ?_
          refine Lq.run 2 rfl ?_
          refine Lq.nil ?_
          refine Kt.sel [3, 4, 5, 6, 7, 8, 9, 10, 11, 12, 13, 14, 15] [_, _, _, _, _, _, _, _, _, _, _, _, _] rfl ?_
          refine Wk.regionQ ?_
          refine Lq.run 1 rfl ?_
          refine Lq.op rfl rfl rfl (OpQ.add rfl rfl rfl (by omega) (by omega)) ?_
          refine Lq.run 1 rfl ?_
          refine Lq.nil ?_
          refine Kt.again ((y + 1, (u2.setIfInBounds i (i6_ ((y : Int)))), Q.set i ((y : Int)))) ⟨by omega, ⟨by simpa using hcQ, hlQ, (set_takeI htQ), by simpa using hQl, fun z => by dsimp only; rw [List.set_set]; exact hQ z⟩⟩ (by omega) (Sub.cons rfl (Sub.cons rfl (Sub.cons rfl (Sub.cons rfl (Sub.cons rfl (Sub.cons rfl (Sub.cons rfl (Sub.cons rfl (Sub.cons rfl (Sub.cons rfl (Sub.cons rfl (Sub.cons (by rw [someW_succ, hg114]; first | rfl | (unfold pwF; rw [← hP, ← hQ]; rfl)) (Sub.sel [15] rfl))))))))))))) (fun _ h => h)
         ·
          skip
          refine Lq.pass rfl rfl rfl ?_
          refine Lq.pass rfl rfl rfl ?_
          refine Lq.pass rfl rfl rfl ?_
          refine Lq.pass rfl rfl rfl ?_
          refine Lq.pass rfl rfl rfl ?_
          refine Lq.pass rfl rfl rfl ?_
          refine Lq.pass rfl rfl rfl ?_
          refine Lq.run 2 rfl ?_
          refine Lq.nil ?_
          refine Kt.sel [3, 4, 5, 6, 7, 8, 9, 10, 11, 12, 13, 14, 15] [_, _, _, _, _, _, _, _, _, _, _, _, _] rfl ?_
          refine Wk.regionQ ?_
          refine Lq.run 1 rfl ?_
          refine Lq.op rfl rfl rfl (OpQ.add rfl rfl rfl (by omega) (by omega)) ?_
          refine Lq.run 1 rfl ?_
          refine Lq.nil ?_
          refine Kt.again ((y + 1, (u2.setIfInBounds i (i6_ ((y : Int)))), Q.set i ((y : Int)))) ⟨by omega, ⟨by simpa using hcQ, hlQ, (set_takeI htQ), by simpa using hQl, fun z => by dsimp only; rw [List.set_set]; exact hQ z⟩⟩ (by omega) (Sub.cons rfl (Sub.cons rfl (Sub.cons rfl (Sub.cons rfl (Sub.cons rfl (Sub.cons rfl (Sub.cons rfl (Sub.cons rfl (Sub.cons rfl (Sub.cons rfl (Sub.cons rfl (Sub.cons (by rw [someW_succ, hg114]; first | rfl | (unfold pwF; rw [← hP, ← hQ]; rfl)) (Sub.sel [15] rfl))))))))))))) (fun _ h => h)
        ·
         replace h106 := of_decide_eq_false h106
         obtain rfl : y = b24.n.toNat := by omega
         refine Wk.exit rfl ?_
         refine Kt.sel [3, 4, 5, 6, 7, 8, 9, 10, 11, 12, 13, 14] [_, _, _, _, _, _, _, _, _, _, _, _] rfl ?_
         refine Wk.regionQ ?_
         refine Lq.run 2 rfl ?_
         refine Lq.bool fun b124 hg124 => ?_
         cases b124
         ·
          skip
          refine Lq.pass rfl rfl rfl ?_
          refine Lq.run 2 rfl ?_
          refine Lq.nil ?_
          refine Kt.sel [3, 4, 5, 6, 7, 8, 9, 10, 11, 12, 13] [_, _, _, _, _, _, _, _, _, _, _] rfl ?_
          refine Wk.regionQ ?_
          refine Lq.run 1 rfl ?_
          refine Lq.op rfl rfl rfl (OpQ.add rfl rfl rfl (by omega) (by omega)) ?_
          refine Lq.run 1 rfl ?_
          refine Lq.nil ?_
          refine Kt.again ((x + 1, (u.setIfInBounds i (i6_ ((x : Int)))), P.set i ((x : Int)), u2, Q)) ⟨by omega, ⟨by simpa using hcP, hlP, (set_takeI htP), by simpa using hPl, fun z => by dsimp only; rw [List.set_set]; exact hP z⟩, ⟨hcQ, hlQ, htQ, hQl, hQ⟩⟩ (by omega) (Sub.cons rfl (Sub.cons rfl (Sub.cons rfl (Sub.cons rfl (Sub.cons rfl (Sub.cons rfl (Sub.cons (by rw [allW_succ, ← Bool.and_assoc, hg124]; rfl) (Sub.sel [10, 11, 12, 13] rfl)))))))) (fun _ h => h)
         ·
          skip
          refine Lq.run 3 rfl ?_
          refine Lq.nil ?_
          refine Kt.sel [3, 4, 5, 6, 7, 8, 9, 10, 11, 12, 13] [_, _, _, _, _, _, _, _, _, _, _] rfl ?_
          refine Wk.regionQ ?_
          refine Lq.run 1 rfl ?_
          refine Lq.op rfl rfl rfl (OpQ.add rfl rfl rfl (by omega) (by omega)) ?_
          refine Lq.run 1 rfl ?_
          refine Lq.nil ?_
          refine Kt.again ((x + 1, (u.setIfInBounds i (i6_ ((x : Int)))), P.set i ((x : Int)), u2, Q)) ⟨by omega, ⟨by simpa using hcP, hlP, (set_takeI htP), by simpa using hPl, fun z => by dsimp only; rw [List.set_set]; exact hP z⟩, ⟨hcQ, hlQ, htQ, hQl, hQ⟩⟩ (by omega) (Sub.cons rfl (Sub.cons rfl (Sub.cons rfl (Sub.cons rfl (Sub.cons rfl (Sub.cons rfl (Sub.cons (by rw [allW_succ, ← Bool.and_assoc, hg124]; rfl) (Sub.sel [10, 11, 12, 13] rfl)))))))) (fun _ h => h)
       ·
        replace h96 := of_decide_eq_false h96
        obtain rfl : x = a24.n.toNat := by omega
        refine Wk.exit rfl ?_
        refine Kt.sel [3, 4, 5, 6, 7, 8, 9, 10, 11, 12] [_, _, _, _, _, _, _, _, _, _] rfl ?_
        refine Wk.seq ?_
        refine Wk.regionQ ?_
        refine Lq.run 1 rfl ?_
        refine Lq.nil ?_
        refine Kt.sel [3, 4, 5, 6, 7, 8, 9, 10, 11, 12, 16] [_, _, _, _, _, _, _, _, _, _, _] rfl ?_
        refine Wk.block ?_
        refine Wk.loop (σ := Nat × Array Value × List Int × Array Value × List Int) (fun ⟨y, u, P, u2, Q⟩ => (y : Int) ≤ b24.n ∧ (u.size = cap89 * 1 ∧ xs24.length ≤ cap89 ∧ u.toList.take xs24.length = ints P ∧ P.length = xs24.length ∧ ∀ z : Int, P.set i z = xs24.set i z) ∧ (u2.size = cap92 * 1 ∧ ys24.length ≤ cap92 ∧ u2.toList.take ys24.length = ints Q ∧ Q.length = ys24.length ∧ ∀ z : Int, Q.set i z = ys24.set i z)) (fun ⟨y, u, P, u2, Q⟩ => [(3, pt_ p3), (4, v24), (5, pt_ p5), (6, u24), (7, i6_ r24), (8, bo_ (pebWinB a24 xs24 b24 ys24 r24)), (9, bo_ (pwA a24 xs24 b24 ys24 r24 i && allW (pwF a24 xs24 b24 ys24 r24 i) a24.n.toNat b24.n.toNat && allW (pwG a24 xs24 b24 ys24 r24 i) y a24.n.toNat)), (10, i6_ ((i : Int))), (11, sl_ p89 xs24.length cap89), (12, sl_ p92 ys24.length cap92), (16, i6_ ((y : Int)))]) (fun ⟨y, u, P, u2, Q⟩ => Own w.heap.size w (bk_ p92 u2 3 :: bk_ p89 u 3 :: bk_ p5 #[i6_ b24.n, str b24.set, str b24.rel] 28 :: bk_ p3 #[i6_ a24.n, str a24.set, str a24.rel] 28 :: (new24 ++ ([])))) (fun ⟨y, u, P, u2, Q⟩ => (b24.n - y).toNat) ((0, u, P, u2, Q)) ⟨by omega, ⟨hcP, hlP, htP, hPl, hP⟩, ⟨hcQ, hlQ, htQ, hQl, hQ⟩⟩ (Sub.cons rfl (Sub.cons rfl (Sub.cons rfl (Sub.cons rfl (Sub.cons rfl (Sub.cons rfl (Sub.cons (by rw [show allW _ 0 _ = true from rfl, Bool.and_true]; rfl) (Sub.cons rfl (Sub.cons (by rfl) (Sub.cons (by rfl) (Sub.sel [16] rfl))))))))))) (fun _ h => h) ?_
        rintro ⟨y, u, P, u2, Q⟩ ⟨hy, ⟨hcP, hlP, htP, hPl, hP⟩, ⟨hcQ, hlQ, htQ, hQl, hQ⟩⟩
        dsimp only
        refine Wk.seq ?_
        refine Wk.seq ?_
        refine Wk.regionQ ?_
        refine Lq.run 1 rfl ?_
        refine Lq.op rfl rfl rfl (OpQ.fieldAddr rfl Tryd.runUnderlying28 rfl Tryd.sizeOf3 rfl rfl) ?_
        refine Lq.op rfl rfl rfl (OpQ.loadOwn 2 rfl Tryd.isAgg3 rfl rfl rfl) ?_
        refine Lq.run 1 rfl ?_
        refine Lq.nil ?_
        refine Kt.sel [3, 4, 5, 6, 7, 8, 9, 10, 11, 12, 16, 130] [_, _, _, _, _, _, _, _, _, _, _, _] rfl ?_
        refine Wk.cond (b := decide (((y : Int)) < b24.n)) rfl (fun h130 => ?_) (fun h130 => ?_)
        ·
         replace h130 := of_decide_eq_true h130
         refine Wk.skip ?_
         refine Kt.sel [3, 4, 5, 6, 7, 8, 9, 10, 11, 12, 16] [_, _, _, _, _, _, _, _, _, _, _] rfl ?_
         refine Wk.seq ?_
         refine Wk.block ?_
         refine Wk.seq ?_
         refine Wk.regionQ ?_
         refine Lq.run 1 rfl ?_
         refine Lq.nil ?_
         refine Kt.sel [3, 4, 5, 6, 7, 8, 9, 10, 11, 12, 16, 17] [_, _, _, _, _, _, _, _, _, _, _, _] rfl ?_
         refine Wk.seq ?_
         refine Wk.region ?_
         refine Ll.run 3 rfl ?_
         refine Ll.op (v := pf_ p92 i) rfl rfl rfl (OpQ.cast (by simp) (OpQ.indexAddr1 rfl Tryd.runUnderlying24 Tryd.sizeOf3 rfl rfl (by omega) (by omega))) ?_
         refine Ll.store1 (v := i6_ ((y : Int))) (hs' := (bk_ p92 ((u2.setIfInBounds i (i6_ ((y : Int))))) 3 :: _ :: _ :: _ :: (new24 ++ ([])))) 0 rfl rfl rfl rfl rfl rfl Tryd.sizeOf3 rfl (by rw [hcQ]; omega) rfl ?_
         refine Ll.nil ?_
         refine Kt.sel [3, 4, 5, 6, 7, 8, 9, 10, 11, 12, 16, 17] [_, _, _, _, _, _, _, _, _, _, _, _] rfl ?_
         refine Wk.seq ?_
         refine Wk.seq ?_
         refine Wk.regionQ ?_
         refine Lq.run 1 rfl ?_
         refine Lq.nil ?_
         refine Kt.sel [3, 4, 5, 6, 7, 8, 9, 10, 11, 12, 16, 17, 18] [_, _, _, _, _, _, _, _, _, _, _, _, _] rfl ?_
         refine Wk.block ?_
         refine Wk.loop (σ := Nat × Array Value × List Int) (fun ⟨x, u, P⟩ => (x : Int) ≤ a24.n ∧ (u.size = cap89 * 1 ∧ xs24.length ≤ cap89 ∧ u.toList.take xs24.length = ints P ∧ P.length = xs24.length ∧ ∀ z : Int, P.set i z = xs24.set i z)) (fun ⟨x, u, P⟩ => [(3, pt_ p3), (4, v24), (5, pt_ p5), (6, u24), (7, i6_ r24), (8, bo_ (pebWinB a24 xs24 b24 ys24 r24)), (9, bo_ (pwA a24 xs24 b24 ys24 r24 i && allW (pwF a24 xs24 b24 ys24 r24 i) a24.n.toNat b24.n.toNat && allW (pwG a24 xs24 b24 ys24 r24 i) y a24.n.toNat)), (10, i6_ ((i : Int))), (11, sl_ p89 xs24.length cap89), (12, sl_ p92 ys24.length cap92), (16, i6_ ((y : Int))), (17, bo_ (someW (pwG a24 xs24 b24 ys24 r24 i) y x)), (18, i6_ ((x : Int)))]) (fun ⟨x, u, P⟩ => Own w.heap.size w (bk_ p92 ((u2.setIfInBounds i (i6_ ((y : Int))))) 3 :: bk_ p89 u 3 :: bk_ p5 #[i6_ b24.n, str b24.set, str b24.rel] 28 :: bk_ p3 #[i6_ a24.n, str a24.set, str a24.rel] 28 :: (new24 ++ ([])))) (fun ⟨x, u, P⟩ => (a24.n - x).toNat) ((0, u, P)) ⟨by omega, ⟨hcP, hlP, htP, hPl, hP⟩⟩ (Sub.cons rfl (Sub.cons rfl (Sub.cons rfl (Sub.cons rfl (Sub.cons rfl (Sub.cons rfl (Sub.cons rfl (Sub.cons rfl (Sub.cons (by rfl) (Sub.cons rfl (Sub.cons rfl (Sub.cons (by rfl) (Sub.sel [18] rfl))))))))))))) (fun _ h => h) ?_
         rintro ⟨x, u, P⟩ ⟨hx, ⟨hcP, hlP, htP, hPl, hP⟩⟩
         dsimp only
         refine Wk.seq ?_
         refine Wk.seq ?_
         refine Wk.regionQ ?_
         refine Lq.run 1 rfl ?_
         refine Lq.op rfl rfl rfl (OpQ.fieldAddr rfl Tryd.runUnderlying28 rfl Tryd.sizeOf3 rfl rfl) ?_
         refine Lq.op rfl rfl rfl (OpQ.loadOwn 3 rfl Tryd.isAgg3 rfl rfl rfl) ?_
         refine Lq.run 1 rfl ?_
         refine Lq.nil ?_
         refine Kt.sel [3, 4, 5, 6, 7, 8, 9, 10, 11, 12, 16, 17, 18, 140] [_, _, _, _, _, _, _, _, _, _, _, _, _, _] rfl ?_
         refine Wk.cond (b := decide (((x : Int)) < a24.n)) rfl (fun h140 => ?_) (fun h140 => ?_)
         ·
          replace h140 := of_decide_eq_true h140
          refine Wk.skip ?_
          refine Kt.sel [3, 4, 5, 6, 7, 8, 9, 10, 11, 12, 16, 17, 18] [_, _, _, _, _, _, _, _, _, _, _, _, _] rfl ?_
          refine Wk.seq ?_
          refine Wk.block ?_
          refine Wk.seq ?_
          refine Wk.region ?_
          refine Ll.run 3 rfl ?_
          refine Ll.op (v := pf_ p89 i) rfl rfl rfl (OpQ.cast (by simp) (OpQ.indexAddr1 rfl Tryd.runUnderlying24 Tryd.sizeOf3 rfl rfl (by omega) (by omega))) ?_
          refine Ll.store1 (v := i6_ ((x : Int))) (hs' := (_ :: bk_ p89 ((u.setIfInBounds i (i6_ ((x : Int))))) 3 :: _ :: _ :: (new24 ++ ([])))) 1 rfl rfl rfl rfl rfl rfl Tryd.sizeOf3 rfl (by rw [hcP]; omega) rfl ?_
          refine Ll.nil ?_
          refine Kt.sel [3, 4, 5, 6, 7, 8, 9, 10, 11, 12, 16, 17, 18] [_, _, _, _, _, _, _, _, _, _, _, _, _] rfl ?_
          refine Wk.regionQ ?_
          refine Lq.run 2 rfl ?_
          refine Lq.bool fun b148 hg148 => ?_
          cases b148
          ·
           skip
           refine Lq.op rfl rfl rfl (OpQ.loadBox (cs := #[i6_ a24.n, str a24.set, str a24.rel]) 3 rfl Tryd.isAgg28 rfl rfl Tryd.sizeOf28) ?_
           refine Lq.run 1 rfl ?_
           refine Lq.op rfl rfl rfl (OpQ.loadBox (cs := #[i6_ b24.n, str b24.set, str b24.rel]) 2 rfl Tryd.isAgg28 rfl rfl Tryd.sizeOf28) ?_
           refine Lq.run 2 rfl ?_
           refine Lq.op rfl rfl rfl (OpQ.sub rfl rfl rfl (by omega) (by omega)) ?_
           refine Lq.op (v := bo_ (pebWinB a24 (P.set i ((x : Int))) b24 (Q.set i ((y : Int))) (r24 - (1 : Int)))) rfl rfl rfl (OpQ.call rfl Tryd.call25 rfl Own.stable (fun w1 hw1 => iPWin_ok a24 b24 (P.set i ((x : Int))) (Q.set i ((y : Int))) (sl_ p89 xs24.length cap89) (sl_ p92 ys24.length cap92) w1 hsa24 hsb24 (Own.row hw1 (i := 1) rfl (set_takeI htP) (by simpa using hPl) hlP) (Own.row hw1 (i := 0) rfl (set_takeI htQ) (by simpa using hQl) hlQ) (by first | (simp; done) | (simp; omega) | omega) (by first | (simp; done) | (simp; omega) | omega) (r24 - (1 : Int)))) ?_
           refine Lq.run 2 rfl ?_
           refine Lq.nil ?_
           refine Kt.sel [3, 4, 5, 6, 7, 8, 9, 10, 11, 12, 16, 17, 18] [_, _, _, _, _, _, _, _, _, _, _, _, _] rfl ?_
           refine Wk.regionQ ?_
           refine Lq.run 1 rfl ?_
           refine Lq.op rfl rfl rfl (OpQ.add rfl rfl rfl (by omega) (by omega)) ?_
           refine Lq.run 1 rfl ?_
           refine Lq.nil ?_
           refine Kt.again ((x + 1, (u.setIfInBounds i (i6_ ((x : Int)))), P.set i ((x : Int)))) ⟨by omega, ⟨by simpa using hcP, hlP, (set_takeI htP), by simpa using hPl, fun z => by dsimp only; rw [List.set_set]; exact hP z⟩⟩ (by omega) (Sub.cons rfl (Sub.cons rfl (Sub.cons rfl (Sub.cons rfl (Sub.cons rfl (Sub.cons rfl (Sub.cons rfl (Sub.cons rfl (Sub.cons rfl (Sub.cons rfl (Sub.cons rfl (Sub.cons (by rw [someW_succ, hg148]; first | rfl | (unfold pwG pwF; rw [← hP, ← hQ]; rfl)) (Sub.sel [18] rfl))))))))))))) (fun _ h => h)
          ·
           skip
           refine Lq.pass rfl rfl rfl ?_
           refine Lq.pass rfl rfl rfl ?_
           refine Lq.pass rfl rfl rfl ?_
           refine Lq.pass rfl rfl rfl ?_
           refine Lq.pass rfl rfl rfl ?_
           refine Lq.pass rfl rfl rfl ?_
           refine Lq.pass rfl rfl rfl ?_
           refine Lq.run 2 rfl ?_
           refine Lq.nil ?_
           refine Kt.sel [3, 4, 5, 6, 7, 8, 9, 10, 11, 12, 16, 17, 18] [_, _, _, _, _, _, _, _, _, _, _, _, _] rfl ?_
           refine Wk.regionQ ?_
           refine Lq.run 1 rfl ?_
           refine Lq.op rfl rfl rfl (OpQ.add rfl rfl rfl (by omega) (by omega)) ?_
           refine Lq.run 1 rfl ?_
           refine Lq.nil ?_
           refine Kt.again ((x + 1, (u.setIfInBounds i (i6_ ((x : Int)))), P.set i ((x : Int)))) ⟨by omega, ⟨by simpa using hcP, hlP, (set_takeI htP), by simpa using hPl, fun z => by dsimp only; rw [List.set_set]; exact hP z⟩⟩ (by omega) (Sub.cons rfl (Sub.cons rfl (Sub.cons rfl (Sub.cons rfl (Sub.cons rfl (Sub.cons rfl (Sub.cons rfl (Sub.cons rfl (Sub.cons rfl (Sub.cons rfl (Sub.cons rfl (Sub.cons (by rw [someW_succ, hg148]; first | rfl | (unfold pwG pwF; rw [← hP, ← hQ]; rfl)) (Sub.sel [18] rfl))))))))))))) (fun _ h => h)
         ·
          replace h140 := of_decide_eq_false h140
          obtain rfl : x = a24.n.toNat := by omega
          refine Wk.exit rfl ?_
          refine Kt.sel [3, 4, 5, 6, 7, 8, 9, 10, 11, 12, 16, 17] [_, _, _, _, _, _, _, _, _, _, _, _] rfl ?_
          refine Wk.regionQ ?_
          refine Lq.run 2 rfl ?_
          refine Lq.bool fun b158 hg158 => ?_
          cases b158
          ·
           skip
           refine Lq.pass rfl rfl rfl ?_
           refine Lq.run 2 rfl ?_
           refine Lq.nil ?_
           refine Kt.sel [3, 4, 5, 6, 7, 8, 9, 10, 11, 12, 16] [_, _, _, _, _, _, _, _, _, _, _] rfl ?_
           refine Wk.regionQ ?_
           refine Lq.run 1 rfl ?_
           refine Lq.op rfl rfl rfl (OpQ.add rfl rfl rfl (by omega) (by omega)) ?_
           refine Lq.run 1 rfl ?_
           refine Lq.nil ?_
           refine Kt.again ((y + 1, u, P, (u2.setIfInBounds i (i6_ ((y : Int)))), Q.set i ((y : Int)))) ⟨by omega, ⟨hcP, hlP, htP, hPl, hP⟩, ⟨by simpa using hcQ, hlQ, (set_takeI htQ), by simpa using hQl, fun z => by dsimp only; rw [List.set_set]; exact hQ z⟩⟩ (by omega) (Sub.cons rfl (Sub.cons rfl (Sub.cons rfl (Sub.cons rfl (Sub.cons rfl (Sub.cons rfl (Sub.cons (by rw [allW_succ, ← Bool.and_assoc, hg158]; rfl) (Sub.sel [10, 11, 12, 16] rfl)))))))) (fun _ h => h)
          ·
           skip
           refine Lq.run 3 rfl ?_
           refine Lq.nil ?_
           refine Kt.sel [3, 4, 5, 6, 7, 8, 9, 10, 11, 12, 16] [_, _, _, _, _, _, _, _, _, _, _] rfl ?_
           refine Wk.regionQ ?_
           refine Lq.run 1 rfl ?_
           refine Lq.op rfl rfl rfl (OpQ.add rfl rfl rfl (by omega) (by omega)) ?_
           refine Lq.run 1 rfl ?_
           refine Lq.nil ?_
           refine Kt.again ((y + 1, u, P, (u2.setIfInBounds i (i6_ ((y : Int)))), Q.set i ((y : Int)))) ⟨by omega, ⟨hcP, hlP, htP, hPl, hP⟩, ⟨by simpa using hcQ, hlQ, (set_takeI htQ), by simpa using hQl, fun z => by dsimp only; rw [List.set_set]; exact hQ z⟩⟩ (by omega) (Sub.cons rfl (Sub.cons rfl (Sub.cons rfl (Sub.cons rfl (Sub.cons rfl (Sub.cons rfl (Sub.cons (by rw [allW_succ, ← Bool.and_assoc, hg158]; rfl) (Sub.sel [10, 11, 12, 16] rfl)))))))) (fun _ h => h)
        ·
         replace h130 := of_decide_eq_false h130
         obtain rfl : y = b24.n.toNat := by omega
         refine Wk.exit rfl ?_
         refine Kt.sel [3, 4, 5, 6, 7, 8, 9, 10] [_, _, _, _, _, _, _, _] rfl ?_
         refine Wk.regionQ ?_
         refine Lq.run 1 rfl ?_
         refine Lq.op rfl rfl rfl (OpQ.add rfl rfl rfl (by omega) (by omega)) ?_
         refine Lq.run 1 rfl ?_
         refine Lq.nil ?_
         refine Kt.again (i + 1) (by omega) (by omega) (Sub.cons rfl (Sub.cons rfl (Sub.cons rfl (Sub.cons rfl (Sub.cons rfl (Sub.cons rfl (Sub.cons (by rfl) (Sub.sel [10] rfl)))))))) (fun _ h => h.sub (List.Sublist.cons _ (List.Sublist.cons _ (List.Sublist.cons_cons _ (List.Sublist.cons_cons _ (List.Sublist.refl _))))))
      ·
       replace h84 := of_decide_eq_false h84
       obtain rfl : i = xs24.length := by omega
       refine Wk.exit rfl ?_
       refine Kt.sel [3, 4, 5, 6, 7, 8, 9] [_, _, _, _, _, _, _] rfl ?_
       refine Wk.seq ?_
       refine Wk.regionQ ?_
       refine Lq.run 2 rfl ?_
       refine Lq.op rfl rfl rfl (OpQ.beq rfl Tryd.runUnderlying4 rfl rfl) ?_
       refine Lq.run 1 rfl ?_
       refine Lq.bool fun b164 hg164 => ?_
       cases b164
       ·
        exact absurd hg164 (by rw [pebWin_moves hf (by omega) (by omega), beq_self_eq_true]; decide)
       ·
        refine Lq.op rfl rfl rfl (OpQ.loadBox (cs := #[i6_ b24.n, str b24.set, str b24.rel]) 0 rfl Tryd.isAgg28 rfl rfl Tryd.sizeOf28) ?_
        refine Lq.run 1 rfl ?_
        refine Lq.op rfl rfl rfl (OpQ.loadBox (cs := #[i6_ a24.n, str a24.set, str a24.rel]) 1 rfl Tryd.isAgg28 rfl rfl Tryd.sizeOf28) ?_
        refine Lq.run 2 rfl ?_
        refine Lq.op (v := bo_ (pebWinB b24 ys24 a24 xs24 r24)) rfl rfl rfl (OpQ.call rfl Tryd.call25 rfl Own.stable (fun w1 hw1 => iPWin_ok b24 a24 ys24 xs24 u24 v24 w1 hsb24 hsa24 (hIu24 _ (Own.dropR (Own.drop (f := [_, _]) hw1))) (hIv24 _ (Own.dropR (Own.drop (f := [_, _]) hw1))) (by first | (simp; done) | (simp; omega) | omega) (by first | (simp; done) | (simp; omega) | omega) r24)) ?_
        refine Lq.run 1 rfl ?_
        refine Lq.op rfl rfl rfl (OpQ.beq rfl Tryd.runUnderlying4 rfl rfl) ?_
        refine Lq.run 2 rfl ?_
        refine Lq.nil ?_
        refine Kt.sel [2] [_] rfl ?_
        refine Wk.ret (Kt.end1 rfl rfl fun w' hw => ?_)
        -- ret 3: bo_ ((pebWinB b24 ys24 a24 xs24 r24) == (pebWinB a24 xs24 b24 ys24 r24))
        exact ⟨ret_b (by first | rfl | (rw [pebWin_comm]; exact beq_self_eq_true _)), hw.below⟩
    ·
     replace hg52 := of_decide_eq_true hg52
     refine Lq.pass rfl rfl rfl ?_
     refine Lq.pass rfl rfl rfl ?_
     refine Lq.pass rfl rfl rfl ?_
     refine Lq.pass rfl rfl rfl ?_
     refine Lq.pass rfl rfl rfl ?_
     refine Lq.pass rfl rfl rfl ?_
     refine Lq.run 1 rfl ?_
     refine Lq.nil ?_
     refine Kt.sel [3, 4, 5, 6, 7, 8, 59] [_, _, _, _, _, _, _] rfl ?_
     refine Wk.condT rfl ?_
     refine Wk.seq ?_
     refine Wk.regionQ ?_
     refine Lq.run 1 rfl ?_
     refine Lq.op rfl rfl rfl (OpQ.loadBox (cs := #[i6_ a24.n, str a24.set, str a24.rel]) 1 rfl Tryd.isAgg28 rfl rfl Tryd.sizeOf28) ?_
     refine Lq.run 1 rfl ?_
     refine Lq.op rfl rfl rfl (OpQ.loadBox (cs := #[i6_ b24.n, str b24.set, str b24.rel]) 0 rfl Tryd.isAgg28 rfl rfl Tryd.sizeOf28) ?_
     refine Lq.run 2 rfl ?_
     refine Lq.op (v := bo_ (pebWinB a24 xs24 b24 ys24 r24)) rfl rfl rfl (OpQ.call rfl Tryd.call24 rfl Own.stable (fun w1 hw1 => sPWin_ok a24 b24 xs24 ys24 v24 u24 w1 hsa24 hsb24 (hIv24 _ (Own.dropR (Own.drop (f := [_, _]) hw1))) (hIu24 _ (Own.dropR (Own.drop (f := [_, _]) hw1))) (by first | (simp; done) | (simp; omega) | omega) (by first | (simp; done) | (simp; omega) | omega) loa24 hia24 lob24 hib24 r24)) ?_
     refine Lq.op rfl rfl rfl (OpQ.beq rfl Tryd.runUnderlying4 rfl rfl) ?_
     refine Lq.run 1 rfl ?_
     refine Lq.bool fun b68 hg68_1 => ?_
     cases b68
     ·
      exact absurd hg68_1 (by simp)
     ·
      refine Lq.run 3 rfl ?_
      refine Lq.bool fun b71 hg71_1 => ?_
      cases b71
      ·
       replace hg71_1 := not_false hg71_1
       replace hg71_1 := of_decide_eq_true hg71_1
       refine Lq.run 1 rfl ?_
       refine Lq.op rfl rfl rfl (OpQ.loadBox (cs := #[i6_ a24.n, str a24.set, str a24.rel]) 1 rfl Tryd.isAgg28 rfl rfl Tryd.sizeOf28) ?_
       refine Lq.run 1 rfl ?_
       refine Lq.op rfl rfl rfl (OpQ.loadBox (cs := #[i6_ b24.n, str b24.set, str b24.rel]) 0 rfl Tryd.isAgg28 rfl rfl Tryd.sizeOf28) ?_
       refine Lq.run 1 rfl ?_
       refine Lq.op (v := bo_ (fitB a24 xs24 b24 ys24)) rfl rfl rfl (OpQ.call rfl Tryd.call33 rfl Own.stable (fun w1 hw1 => iFit_ok a24 b24 xs24 ys24 v24 u24 w1 hsa24 hsb24 (hIv24 _ (Own.dropR (Own.drop (f := [_, _]) hw1))) (hIu24 _ (Own.dropR (Own.drop (f := [_, _]) hw1))) (by first | (simp; done) | (simp; omega) | omega) (by first | (simp; done) | (simp; omega) | omega))) ?_
       refine Lq.op rfl rfl rfl (OpQ.beq rfl Tryd.runUnderlying4 rfl rfl) ?_
       refine Lq.run 3 rfl ?_
       refine Lq.nil ?_
       refine Kt.sel [2] [_] rfl ?_
       refine Wk.ret (Kt.end1 rfl rfl fun w' hw => ?_)
       -- ret 4: bo_ ((pebWinB a24 xs24 b24 ys24 r24) == (fitB a24 xs24 b24 ys24))
       exact ⟨ret_b (by rw [pebWin_zero _ _ _ _ (by omega)]; exact beq_self_eq_true _), hw.below⟩
      ·
       replace hg71_1 := not_true hg71_1
       replace hg71_1 := of_decide_eq_false hg71_1
       refine Lq.pass rfl rfl rfl ?_
       refine Lq.pass rfl rfl rfl ?_
       refine Lq.pass rfl rfl rfl ?_
       refine Lq.pass rfl rfl rfl ?_
       refine Lq.pass rfl rfl rfl ?_
       refine Lq.pass rfl rfl rfl ?_
       refine Lq.pass rfl rfl rfl ?_
       refine Lq.run 3 rfl ?_
       refine Lq.nil ?_
       refine Kt.sel [2] [_] rfl ?_
       refine Wk.ret (Kt.end1 rfl rfl fun w' hw => ?_)
       -- ret 5: bo_ true
       exact ⟨ret_b (by first | rfl | (rw [pebWin_comm]; exact beq_self_eq_true _)), hw.below⟩
   ·
    replace hg48 := of_decide_eq_true hg48
    refine Lq.pass rfl rfl rfl ?_
    refine Lq.pass rfl rfl rfl ?_
    refine Lq.run 2 rfl ?_
    refine Lq.pass rfl rfl rfl ?_
    refine Lq.pass rfl rfl rfl ?_
    refine Lq.pass rfl rfl rfl ?_
    refine Lq.pass rfl rfl rfl ?_
    refine Lq.pass rfl rfl rfl ?_
    refine Lq.pass rfl rfl rfl ?_
    refine Lq.run 1 rfl ?_
    refine Lq.nil ?_
    refine Kt.sel [3, 4, 5, 6, 7, 8, 59] [_, _, _, _, _, _, _] rfl ?_
    refine Wk.condT rfl ?_
    refine Wk.seq ?_
    refine Wk.regionQ ?_
    refine Lq.run 1 rfl ?_
    refine Lq.op rfl rfl rfl (OpQ.loadBox (cs := #[i6_ a24.n, str a24.set, str a24.rel]) 1 rfl Tryd.isAgg28 rfl rfl Tryd.sizeOf28) ?_
    refine Lq.run 1 rfl ?_
    refine Lq.op rfl rfl rfl (OpQ.loadBox (cs := #[i6_ b24.n, str b24.set, str b24.rel]) 0 rfl Tryd.isAgg28 rfl rfl Tryd.sizeOf28) ?_
    refine Lq.run 2 rfl ?_
    refine Lq.op (v := bo_ (pebWinB a24 xs24 b24 ys24 r24)) rfl rfl rfl (OpQ.call rfl Tryd.call24 rfl Own.stable (fun w1 hw1 => sPWin_ok a24 b24 xs24 ys24 v24 u24 w1 hsa24 hsb24 (hIv24 _ (Own.dropR (Own.drop (f := [_, _]) hw1))) (hIu24 _ (Own.dropR (Own.drop (f := [_, _]) hw1))) (by first | (simp; done) | (simp; omega) | omega) (by first | (simp; done) | (simp; omega) | omega) loa24 hia24 lob24 hib24 r24)) ?_
    refine Lq.op rfl rfl rfl (OpQ.beq rfl Tryd.runUnderlying4 rfl rfl) ?_
    refine Lq.run 1 rfl ?_
    refine Lq.bool fun b68 hg68_2 => ?_
    cases b68
    ·
     exact absurd hg68_2 (by simp)
    ·
     refine Lq.run 3 rfl ?_
     refine Lq.bool fun b71 hg71_2 => ?_
     cases b71
     ·
      replace hg71_2 := not_false hg71_2
      replace hg71_2 := of_decide_eq_true hg71_2
      refine Lq.run 1 rfl ?_
      refine Lq.op rfl rfl rfl (OpQ.loadBox (cs := #[i6_ a24.n, str a24.set, str a24.rel]) 1 rfl Tryd.isAgg28 rfl rfl Tryd.sizeOf28) ?_
      refine Lq.run 1 rfl ?_
      refine Lq.op rfl rfl rfl (OpQ.loadBox (cs := #[i6_ b24.n, str b24.set, str b24.rel]) 0 rfl Tryd.isAgg28 rfl rfl Tryd.sizeOf28) ?_
      refine Lq.run 1 rfl ?_
      refine Lq.op (v := bo_ (fitB a24 xs24 b24 ys24)) rfl rfl rfl (OpQ.call rfl Tryd.call33 rfl Own.stable (fun w1 hw1 => iFit_ok a24 b24 xs24 ys24 v24 u24 w1 hsa24 hsb24 (hIv24 _ (Own.dropR (Own.drop (f := [_, _]) hw1))) (hIu24 _ (Own.dropR (Own.drop (f := [_, _]) hw1))) (by first | (simp; done) | (simp; omega) | omega) (by first | (simp; done) | (simp; omega) | omega))) ?_
      refine Lq.op rfl rfl rfl (OpQ.beq rfl Tryd.runUnderlying4 rfl rfl) ?_
      refine Lq.run 3 rfl ?_
      refine Lq.nil ?_
      refine Kt.sel [2] [_] rfl ?_
      refine Wk.ret (Kt.end1 rfl rfl fun w' hw => ?_)
      -- ret 6: bo_ ((pebWinB a24 xs24 b24 ys24 r24) == (fitB a24 xs24 b24 ys24))
      exact ⟨ret_b (by rw [pebWin_zero _ _ _ _ (by omega)]; exact beq_self_eq_true _), hw.below⟩
     ·
      replace hg71_2 := not_true hg71_2
      replace hg71_2 := of_decide_eq_false hg71_2
      refine Lq.pass rfl rfl rfl ?_
      refine Lq.pass rfl rfl rfl ?_
      refine Lq.pass rfl rfl rfl ?_
      refine Lq.pass rfl rfl rfl ?_
      refine Lq.pass rfl rfl rfl ?_
      refine Lq.pass rfl rfl rfl ?_
      refine Lq.pass rfl rfl rfl ?_
      refine Lq.run 3 rfl ?_
      refine Lq.nil ?_
      refine Kt.sel [2] [_] rfl ?_
      refine Wk.ret (Kt.end1 rfl rfl fun w' hw => ?_)
      -- ret 7: bo_ true
      exact ⟨ret_b (by first | rfl | (rw [pebWin_comm]; exact beq_self_eq_true _)), hw.below⟩
  ·
   exact absurd hg44 (by simp)

end Go.Proofs.YtjcoijejhachhaaDoor
