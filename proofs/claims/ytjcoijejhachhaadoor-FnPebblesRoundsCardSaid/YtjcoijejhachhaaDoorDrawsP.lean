/-
  Walks: orders, pairs of structures, the source opened.
-/
import Derived.Test.YtjcoijejhachhaaDoorCore2
import Derived.Test.YtjcoijejhachhaaDoorDrawsB
import Derived.Test.YtjcoijejhachhaaDoorBase
namespace Go.Proofs.YtjcoijejhachhaaDoor
open Go.RowKit Go.Wk
set_option linter.unusedSimpArgs false

set_option maxHeartbeats 400000 in
/-- spec.l1Flip -/
theorem flip_ok (s : List UInt8) (w : World) (hs : s.length ≤ 1000000) :
    Calls Tryd.prog 123 [str s].toArray w fun en w' => ∃ t : List UInt8, en = .returned (str t) ∧ (t.length = s.length) ∧ Below w.heap.size w w' := by
 refine fnStart (n := 23) (e := [(0, str s)]) Tryd.func123 rfl rfl rfl rfl Ends.both ?_
 refine Wk.seq ?_
 refine Wk.regionQ ?_
 refine Lq.op (v := str ([])) rfl rfl rfl (OpQ.assign rfl rfl) ?_
 refine Lq.nil ?_
 refine Kt.sel [0] [_] rfl ?_
 refine Wk.seq ?_
 refine Wk.region ?_
 refine Ll.run 1 rfl ?_
 refine Ll.strBytes (s := s) rfl rfl rfl rfl Tryd.underlying9 Tryd.underlying45 Tryd.underlying5 rfl fun g cap cur hg hc ht => ?_
 show Ll _ _ (Own _ _ [_]) _ _ ((6, sl_ g s.length cap) :: _) _ _ _
 refine Ll.run 1 rfl ?_
 refine Ll.nil ?_
 refine Kt.sel [3] [_] rfl ?_
 refine Wk.seq ?_
 refine Wk.seq ?_
 refine Wk.regionQ ?_
 refine Lq.run 1 rfl ?_
 refine Lq.nil ?_
 refine Kt.sel [3, 4] [_, _] rfl ?_
 refine Wk.block ?_
 refine Wk.loop (σ := Nat × Array Value × List Int) (fun ⟨i, cu, V⟩ => i ≤ s.length ∧ cu.size = cur.size ∧ V.length = s.length ∧ Bytes8 V ∧ cu.toList.take s.length = u8s V) (fun ⟨i, cu, V⟩ => [(3, sl_ g s.length cap), (4, i6_ ((i : Int)))]) (fun ⟨i, cu, V⟩ => Own w.heap.size w [(g, .cells cu 5 (cur.size, cur.size + 1))]) (fun ⟨i, cu, V⟩ => s.length - i) ((0, cur, byts s)) ⟨by omega, rfl, by simp, byts_8 s, ht⟩ (Sub.sel [3, 4] rfl) (fun _ h => h) ?_
 rintro ⟨i, cu, V⟩ ⟨hi, hsz, hVl, hV8, hV⟩
 dsimp only
 refine Wk.seq ?_
 refine Wk.seq ?_
 refine Wk.regionQ ?_
 refine Lq.run 2 rfl ?_
 refine Lq.op rfl rfl rfl (OpQ.lenS rfl Tryd.runUnderlying45 rfl) ?_
 refine Lq.run 1 rfl ?_
 refine Lq.nil ?_
 refine Kt.sel [3, 4, 10] [_, _, _] rfl ?_
 refine Wk.cond (b := decide (((i : Int)) < ((s.length : Int)))) rfl (fun h10 => ?_) (fun h10 => ?_)
 ·
  replace h10 := of_decide_eq_true h10
  refine Wk.skip ?_
  refine Kt.sel [3, 4] [_, _] rfl ?_
  refine Wk.seq ?_
  refine Wk.block ?_
  refine Wk.region ?_
  refine Ll.run 4 rfl ?_
  refine Ll.op (v := pf_ g (0 + ((i : Int)).toNat)) rfl rfl rfl (OpQ.indexAddr1 rfl Tryd.runUnderlying45 Tryd.sizeOf5 rfl rfl (by omega) (by omega)) ?_
  refine Ll.op (v := .int .u8 (V.getD (((i : Int)).toNat) 0)) rfl rfl rfl (OpQ.loadAt 0 rfl Tryd.isAgg5 rfl rfl (by rw [Nat.zero_add]; exact cur_at hV (u8s_at (by omega)))) ?_
  refine Ll.op (v := .int .u8 (IntKind.u8.wrap (97 - V.getD (((i : Int)).toNat) 0))) rfl rfl rfl (OpQ.subU8 rfl rfl rfl) ?_
  refine Ll.op (v := pf_ g (0 + ((i : Int)).toNat)) rfl rfl rfl (OpQ.indexAddr1 rfl Tryd.runUnderlying45 Tryd.sizeOf5 rfl rfl (by omega) (by omega)) ?_
  refine Ll.storeFr (v := .int .u8 (IntKind.u8.wrap (97 - V.getD (((i : Int)).toNat) 0))) 0 rfl rfl rfl rfl rfl rfl Tryd.sizeOf5 rfl (by omega) (by dsimp only; omega) ?_
  show Ll _ _ (Own _ _ [_]) _ _ _ _ _ _
  refine Ll.nil ?_
  refine Kt.sel [3, 4] [_, _] rfl ?_
  refine Wk.regionQ ?_
  refine Lq.run 1 rfl ?_
  refine Lq.op rfl rfl rfl (OpQ.add rfl rfl rfl (by omega) (by omega)) ?_
  refine Lq.run 1 rfl ?_
  refine Lq.nil ?_
  refine Kt.again ((i + 1, (cu.setIfInBounds (0 + ((i : Int)).toNat) (.int .u8 (IntKind.u8.wrap (97 - V.getD (((i : Int)).toNat) 0)))), V.set (0 + ((i : Int)).toNat) (IntKind.u8.wrap (97 - V.getD (((i : Int)).toNat) 0)))) ⟨by omega, by simpa using hsz, by simpa using hVl, hV8.set (wrap8 _).1 (wrap8 _).2, (set_takeU hV)⟩ (by omega) (Sub.sel [3, 4] rfl) (fun _ h => h)
 ·
  replace h10 := of_decide_eq_false h10
  refine Wk.exit rfl ?_
  refine Kt.sel [3] [_] rfl ?_
  refine Wk.seq ?_
  refine Wk.regionQ ?_
  refine Lq.run 1 rfl ?_
  refine Lq.op (v := str (u8of V)) rfl rfl rfl (OpQ.bytesStr (V := V) 0 rfl Tryd.underlying45 Tryd.underlying5 Tryd.underlying9 (by first | rfl | (rw [hVl]; rfl)) rfl (by rw [hVl]; exact hV) hV8) ?_
  refine Lq.run 1 rfl ?_
  refine Lq.nil ?_
  refine Kt.sel [2] [_] rfl ?_
  refine Wk.ret (Kt.end1 rfl rfl fun w' hw => ?_)
  -- ret 0: str (u8of V)
  exact ⟨_, rfl, by simp [hVl], hw.below⟩

set_option maxHeartbeats 400000 in
/-- spec.l1Pair -/
theorem l1Pair_ok (B : Nat) (w0 : World) (hs : List (Nat × Obj)) (rp p : Nat) (bv : Value) (L : List Int) (w : World) (hb : ∀ w, Own B w0 hs w → Row w bv (u8s L)) (hL8 : Bytes8 L) (hL : L.length ≤ 2000) (hp : p ≤ 700000) (hw : Own B w0 ((rp, .cells #[bv, .int .i64 (p : Int)] 110 (0, 0)) :: hs) w) :
    Calls Tryd.prog 79 [pt_ rp].toArray w fun en w' => ∃ a : St, ∃ b : St, ∃ p' : Nat, en = .returned (.tuple #[vS a, vS b]) ∧ (((a.Fine ∧ a.n ≤ 5) ∧ (b.Fine ∧ b.n ≤ 5)) ∧ p' ≤ p + 1000) ∧ Own B w0 (((rp, .cells #[bv, .int .i64 (p' : Int)] 110 (0, 0)) :: hs)) w' := by
 refine fnStartC (Own B w0 ((rp, .cells #[bv, .int .i64 (p : Int)] 110 (0, 0)) :: hs)) (n := 64) (e := [(0, pt_ rp)]) Tryd.func79 rfl rfl rfl rfl Ends.both hw ?_
 refine Wk.seq ?_
 refine Wk.region ?_
 refine Ll.alloc rfl rfl rfl rfl Tryd.zeroValue28 fun p2 hp2 => ?_
 show Ll _ _ (Own _ _ (bk_ p2 #[i6_ 0, str ([]), str ([])] 28 :: _ :: hs)) _ _ ((2, pt_ p2) :: _) _ _ _
 refine Ll.alloc rfl rfl rfl rfl Tryd.zeroValue28 fun p3 hp3 => ?_
 show Ll _ _ (Own _ _ (bk_ p3 #[i6_ 0, str ([]), str ([])] 28 :: _ :: _ :: hs)) _ _ ((3, pt_ p3) :: _) _ _ _
 refine Ll.nil ?_
 refine Kt.sel [0, 2, 3] [_, _, _] rfl ?_
 refine Wk.seq ?_
 refine Wk.region ?_
 refine Ll.run 1 rfl ?_
 refine Ll.callRd (rp := rp) (RT := 110) (p := p) (bv := bv) (hs := hs) (ok := fun (a : St) p' => (a.Fine ∧ a.n ≤ 5) ∧ p' ≤ p + 200) (v := fun (a : St) => vS a) (new := fun (a : St) => []) (xs := [.tmp 7]) (vs := [pt_ rp]) ([bk_ p3 #[i6_ 0, str ([]), str ([])] 28, bk_ p2 #[i6_ 0, str ([]), str ([])] 28] : List (Nat × Obj)) rfl rfl rfl rfl Tryd.call121 rfl (fun w1 hw1 => (l1Some_ok B w0 (([bk_ p3 #[i6_ 0, str ([]), str ([])] 28, bk_ p2 #[i6_ 0, str ([]), str ([])] 28] : List (Nat × Obj)) ++ hs) rp p bv L w1 (fun w2 hw2 => hb w2 (Own.drop (f := ([bk_ p3 #[i6_ 0, str ([]), str ([])] 28, bk_ p2 #[i6_ 0, str ([]), str ([])] 28] : List (Nat × Obj))) hw2)) hL8 hL (by omega) hw1).mono fun en w' ⟨a', p', h1, h2, h3⟩ => ⟨a', p', h1, h2, h3⟩) fun a8 p_8 hKp_8 => ?_
 show Ll _ _ (Own _ _ (_ :: _ :: _ :: hs)) _ _ ((8, vS a8) :: _) _ _ _
 obtain ⟨⟨hfa8, h5a8⟩, hep_8⟩ := hKp_8
 have hloa8 := hfa8.lo
 refine Ll.alloc rfl rfl rfl rfl Tryd.zeroValue28 fun p4 hp4 => ?_
 show Ll _ _ (Own _ _ (bk_ p4 #[i6_ 0, str ([]), str ([])] 28 :: _ :: _ :: _ :: hs)) _ _ ((4, pt_ p4) :: _) _ _ _
 refine Ll.storeBox (cs' := #[i6_ a8.n, str a8.set, str a8.rel]) (hs' := (bk_ p4 #[i6_ a8.n, str a8.set, str a8.rel] 28 :: _ :: _ :: _ :: hs)) 0 rfl rfl rfl rfl rfl (by kernel_rfl : _ = some Tryd.t28) rfl rfl rfl rfl rfl ?_
 refine Ll.nil ?_
 refine Kt.sel [0, 2, 3, 4] [_, _, _, _] rfl ?_
 refine Wk.seq ?_
 refine Wk.seq ?_
 refine Wk.region ?_
 refine Ll.run 1 rfl ?_
 refine Ll.callRd (rp := rp) (RT := 110) (p := p_8) (bv := bv) (hs := hs) (ok := fun (k : Int) p' => 0 ≤ k ∧ (1 ≤ (4 : Int) → k < 4) ∧ p' = p_8 + 1) (v := fun (k : Int) => i6_ k) (new := fun (k : Int) => []) (xs := [.tmp 9, .const (i6_ 4)]) (vs := [pt_ rp, i6_ 4]) ([bk_ p4 #[i6_ a8.n, str a8.set, str a8.rel] 28, bk_ p3 #[i6_ 0, str ([]), str ([])] 28, bk_ p2 #[i6_ 0, str ([]), str ([])] 28] : List (Nat × Obj)) rfl rfl rfl rfl Tryd.call80 rfl (fun w1 hw1 => (pick_ok B w0 (([bk_ p4 #[i6_ a8.n, str a8.set, str a8.rel] 28, bk_ p3 #[i6_ 0, str ([]), str ([])] 28, bk_ p2 #[i6_ 0, str ([]), str ([])] 28] : List (Nat × Obj)) ++ hs) rp p_8 bv L 4 w1 (fun w2 hw2 => hb w2 (Own.drop (f := ([bk_ p4 #[i6_ a8.n, str a8.set, str a8.rel] 28, bk_ p3 #[i6_ 0, str ([]), str ([])] 28, bk_ p2 #[i6_ 0, str ([]), str ([])] 28] : List (Nat × Obj))) hw2)) hL8 hL (by omega) hw1).mono fun en w' ⟨k', p', h1, h2, h3⟩ => ⟨k', p', h1, h2, h3⟩) fun k10 p_10 hKp_10 => ?_
 show Ll _ _ (Own _ _ (_ :: _ :: _ :: _ :: hs)) _ _ ((10, i6_ k10) :: _) _ _ _
 obtain ⟨h0k10, h1k10, hep_10⟩ := hKp_10
 try have hltk10 := h1k10 (by first | omega | (split <;> omega) | decide)
 refine Ll.nil ?_
 refine Kt.sel [0, 2, 3, 4, 10] [_, _, _, _, _] rfl ?_
 refine Wk.block ?_
 refine Wk.seq ?_
 refine Wk.regionQ ?_
 refine Lq.run 2 rfl ?_
 refine Lq.nil ?_
 refine Kt.sel [0, 2, 3, 4, 10, 11] [_, _, _, _, _, _] rfl ?_
 refine Wk.cond (b := decide (k10 = (0 : Int))) rfl (fun h11 => ?_) (fun h11 => ?_)
 ·
  replace h11 := of_decide_eq_true h11
  refine Wk.seq ?_
  refine Wk.regionS (S := Own B w0 [bk_ p4 #[i6_ a8.n, str a8.set, str a8.rel] 28]) [(0, true), (1, true), (2, true), (3, true), (4, true), (5, false), (6, false), (7, false), (8, false)] Base.mixed (fun _ h => h.drawn) (by kernel_rfl) ?_
  refine Ld.take rfl rfl rfl rfl rfl (OpQ.loadBox (cs := #[i6_ a8.n, str a8.set, str a8.rel]) 0 rfl Tryd.isAgg28 rfl rfl Tryd.sizeOf28) (pk [0] rfl rfl) ?_
  refine Ld.take rfl rfl rfl rfl rfl (OpQ.loadBox (cs := #[i6_ a8.n, str a8.set, str a8.rel]) 0 rfl Tryd.isAgg28 rfl rfl Tryd.sizeOf28) (pk [0] rfl rfl) ?_
  refine Ld.run 1 rfl (pk [0] rfl rfl) ?_
  refine Ld.take rfl rfl rfl rfl rfl (OpQ.fieldAddr rfl Tryd.runUnderlying28 rfl Tryd.sizeOf3 rfl rfl) (pk [0] rfl rfl) ?_
  refine Ld.take rfl rfl rfl rfl rfl (OpQ.loadOwn 0 rfl Tryd.isAgg3 rfl rfl rfl) (pk [0] rfl rfl) ?_
  refine Ld.loud rfl ?_
  refine Ll.callRd (rp := rp) (RT := 110) (p := p_10) (bv := bv) (hs := hs) (ok := fun ((g, c, u, xs) : Nat × Nat × Array Value × List Int) p' => (u.size = c * 1 ∧ xs.length ≤ c ∧ u.toList.take xs.length = ints xs) ∧ (xs.length = a8.n.toNat ∧ ∀ x ∈ xs, 0 ≤ x ∧ x < a8.n) ∧ p' ≤ p_10 + 10) (v := fun ((g, c, u, xs) : Nat × Nat × Array Value × List Int) => sl_ g xs.length c) (new := fun ((g, c, u, xs) : Nat × Nat × Array Value × List Int) => [bk_ g u 3]) (xs := [.tmp 15, .tmp 17]) (vs := [pt_ rp, i6_ a8.n]) ([bk_ p4 #[i6_ a8.n, str a8.set, str a8.rel] 28, bk_ p3 #[i6_ 0, str ([]), str ([])] 28, bk_ p2 #[i6_ 0, str ([]), str ([])] 28] : List (Nat × Obj)) rfl rfl rfl rfl Tryd.call122 rfl (fun w1 hw1 => (shuffle_ok B w0 (([bk_ p4 #[i6_ a8.n, str a8.set, str a8.rel] 28, bk_ p3 #[i6_ 0, str ([]), str ([])] 28, bk_ p2 #[i6_ 0, str ([]), str ([])] 28] : List (Nat × Obj)) ++ hs) rp p_10 bv L a8.n w1 (fun w2 hw2 => hb w2 (Own.drop (f := ([bk_ p4 #[i6_ a8.n, str a8.set, str a8.rel] 28, bk_ p3 #[i6_ 0, str ([]), str ([])] 28, bk_ p2 #[i6_ 0, str ([]), str ([])] 28] : List (Nat × Obj))) hw2)) hL8 hL (by omega) (by omega) (by omega) hw1).mono fun en w' ⟨g', c', u', xs', p', h1, h2, h3⟩ => ⟨(g', c', u', xs'), p', h1, h2, h3⟩) fun ⟨g18, c18, u18, xs18⟩ p_18 hKp_18 => ?_
  show Ll _ _ (Own _ _ (_ :: _ :: _ :: _ :: _ :: hs)) _ _ ((18, sl_ g18 xs18.length c18) :: _) _ _ _
  obtain ⟨⟨hcg18, hlg18, htg18⟩, ⟨hng18, hrg18⟩, hep_18⟩ := hKp_18
  refine Ll.nil (Ld.joint (pk [1] rfl rfl) ?_)
  refine Ld.loud rfl ?_
  refine Ll.callSome (ok := fun (b : St) => b.n = xs18.length ∧ (b.set.length : Int) = xs18.length ∧ b.rel.length = xs18.length * xs18.length) (v := fun (b : St) => vS b) (xs := [.tmp 14, .tmp 18]) (vs := [vS a8, sl_ g18 xs18.length c18]) rfl rfl rfl rfl Tryd.call114 rfl (fun w1 hw1 => (part_ok a8 (sl_ g18 xs18.length c18) xs18 w1 hfa8 (Own.row hw1 (i := 0) rfl htg18 (by simp) hlg18) hrg18 (by omega)).mono fun en w' ⟨b, h1, h2, h3⟩ => ⟨b, h1, h2, h3⟩) fun b19 hS19 => ?_
  show Ll _ _ (Own _ _ (_ :: _ :: _ :: _ :: _ :: hs)) _ _ ((19, vS b19) :: _) _ _ _
  obtain ⟨hnb19, hsb19, hrb19⟩ := hS19
  refine Ll.nil (Ld.joint (pk [1] rfl rfl) ?_)
  refine Ld.loud rfl ?_
  refine Ll.storeBox (cs' := #[i6_ a8.n, str a8.set, str a8.rel]) (hs' := (_ :: _ :: _ :: bk_ p2 #[i6_ a8.n, str a8.set, str a8.rel] 28 :: _ :: hs)) 3 rfl rfl rfl rfl rfl (by kernel_rfl : _ = some Tryd.t28) rfl rfl rfl rfl rfl ?_
  refine Ll.nil (Ld.joint (pk [1] rfl rfl) ?_)
  refine Ld.loud rfl ?_
  refine Ll.storeBox (cs' := #[i6_ b19.n, str b19.set, str b19.rel]) (hs' := (_ :: _ :: bk_ p3 #[i6_ b19.n, str b19.set, str b19.rel] 28 :: _ :: _ :: hs)) 2 rfl rfl rfl rfl rfl (by kernel_rfl : _ = some Tryd.t28) rfl rfl rfl rfl rfl ?_
  refine Ll.nil (Ld.joint (pk [1] rfl rfl) ?_)
  refine Ld.nil ?_
  refine Kt.sel [2, 3] [_, _] rfl ?_
  refine Wk.ret (Kt.endMany rfl (.cell (cs := #[i6_ a8.n, str a8.set, str a8.rel]) rfl (fun w1 hw1 => hw1.loadBox 3 rfl Tryd.isAgg28 Tryd.sizeOf28) (.cell (cs := #[i6_ b19.n, str b19.set, str b19.rel]) rfl (fun w1 hw1 => hw1.loadBox 2 rfl Tryd.isAgg28 Tryd.sizeOf28) ResAt.nil)) (by simp) fun w' hw => ?_)
  -- ret 0: vS a8; vS b19
  exact ⟨a8, b19, p_18, rfl, ⟨⟨⟨hfa8, h5a8⟩, part_fine hnb19 hsb19 hrb19 hng18 (by omega) (by omega)⟩, by omega⟩, hw.sub (List.Sublist.cons _ (List.Sublist.cons _ (List.Sublist.cons _ (List.Sublist.cons _ (List.Sublist.cons_cons _ (List.Sublist.refl _))))))⟩
 ·
  replace h11 := of_decide_eq_false h11
  refine Wk.seq ?_
  refine Wk.regionQ ?_
  refine Lq.run 2 rfl ?_
  refine Lq.nil ?_
  refine Kt.sel [0, 2, 3, 4, 10, 20] [_, _, _, _, _, _] rfl ?_
  refine Wk.cond (b := decide (k10 = (1 : Int))) rfl (fun h20 => ?_) (fun h20 => ?_)
  ·
   replace h20 := of_decide_eq_true h20
   refine Wk.seq ?_
   refine Wk.join (σ := Nat × St × Nat) (fun ⟨q, b, p6⟩ => (b.Fine ∧ b.n ≤ 5) ∧ p6 ≤ p + 300) (fun ⟨q, b, p6⟩ => [(0, pt_ rp), (2, pt_ p2), (3, pt_ p3), (4, pt_ p4), (5, pt_ q)]) (fun ⟨q, b, p6⟩ => Own B w0 (bk_ q #[i6_ b.n, str b.set, str b.rel] 28 :: bk_ p4 #[i6_ a8.n, str a8.set, str a8.rel] 28 :: bk_ p3 #[i6_ 0, str ([]), str ([])] 28 :: bk_ p2 #[i6_ 0, str ([]), str ([])] 28 :: bk_ rp #[bv, i6_ ((p6 : Int))] 110 :: hs)) ?_ ?_
   ·
    refine Wk.regionU (S := Own B w0 [bk_ p4 #[i6_ a8.n, str a8.set, str a8.rel] 28, bk_ p3 #[i6_ 0, str ([]), str ([])] 28, bk_ p2 #[i6_ 0, str ([]), str ([])] 28]) (.take 0 (.take 1 (.take 2 (.take 3 (.two 4 (.two 5 (.one 6 (.one 7 .done)) 6 (.one 5 (.one 7 .done))) 6 (.one 4 (.one 5 (.one 7 .done)))))))) Base.mixed (fun _ h => h.drawn) (by kernel_rfl) ?_
    refine Lu.take rfl rfl rfl rfl rfl (OpQ.loadBox (cs := #[i6_ a8.n, str a8.set, str a8.rel]) 0 rfl Tryd.isAgg28 rfl rfl Tryd.sizeOf28) (pk [0, 1, 2] rfl rfl) ?_
    refine Lu.run 1 rfl (pk [0, 1, 2] rfl rfl) ?_
    refine Lu.take rfl rfl rfl rfl rfl (OpQ.fieldAddr rfl Tryd.runUnderlying28 rfl Tryd.sizeOf3 rfl rfl) (pk [0, 1, 2] rfl rfl) ?_
    refine Lu.take rfl rfl rfl rfl rfl (OpQ.loadOwn 0 rfl Tryd.isAgg3 rfl rfl rfl) (pk [0, 1, 2] rfl rfl) ?_
    refine Lu.two rfl rfl ?_ ?_
    ·
     refine Ll.callRd (rp := rp) (RT := 110) (p := p_10) (bv := bv) (hs := hs) (ok := fun ((g, c, u, xs) : Nat × Nat × Array Value × List Int) p' => (u.size = c * 1 ∧ xs.length ≤ c ∧ u.toList.take xs.length = ints xs) ∧ (xs.length = a8.n.toNat ∧ ∀ x ∈ xs, 0 ≤ x ∧ x < a8.n) ∧ p' ≤ p_10 + 10) (v := fun ((g, c, u, xs) : Nat × Nat × Array Value × List Int) => sl_ g xs.length c) (new := fun ((g, c, u, xs) : Nat × Nat × Array Value × List Int) => [bk_ g u 3]) (xs := [.tmp 23, .tmp 25]) (vs := [pt_ rp, i6_ a8.n]) ([bk_ p4 #[i6_ a8.n, str a8.set, str a8.rel] 28, bk_ p3 #[i6_ 0, str ([]), str ([])] 28, bk_ p2 #[i6_ 0, str ([]), str ([])] 28] : List (Nat × Obj)) rfl rfl rfl rfl Tryd.call122 rfl (fun w1 hw1 => (shuffle_ok B w0 (([bk_ p4 #[i6_ a8.n, str a8.set, str a8.rel] 28, bk_ p3 #[i6_ 0, str ([]), str ([])] 28, bk_ p2 #[i6_ 0, str ([]), str ([])] 28] : List (Nat × Obj)) ++ hs) rp p_10 bv L a8.n w1 (fun w2 hw2 => hb w2 (Own.drop (f := ([bk_ p4 #[i6_ a8.n, str a8.set, str a8.rel] 28, bk_ p3 #[i6_ 0, str ([]), str ([])] 28, bk_ p2 #[i6_ 0, str ([]), str ([])] 28] : List (Nat × Obj))) hw2)) hL8 hL (by omega) (by omega) (by omega) hw1).mono fun en w' ⟨g', c', u', xs', p', h1, h2, h3⟩ => ⟨(g', c', u', xs'), p', h1, h2, h3⟩) fun ⟨g26, c26, u26, xs26⟩ p_26 hKp_26 => ?_
     show Ll _ _ (Own _ _ (_ :: _ :: _ :: _ :: _ :: hs)) _ _ ((26, sl_ g26 xs26.length c26) :: _) _ _ _
     obtain ⟨⟨hcg26, hlg26, htg26⟩, ⟨hng26, hrg26⟩, hep_26⟩ := hKp_26
     refine Ll.nil (Lu.joint (pk [1, 2, 3] rfl rfl) ?_)
     refine Lu.two rfl rfl ?_ ?_
     ·
      refine Ll.callSome (ok := fun (b : St) => b.n = xs26.length ∧ (b.set.length : Int) = xs26.length ∧ b.rel.length = xs26.length * xs26.length) (v := fun (b : St) => vS b) (xs := [.tmp 22, .tmp 26]) (vs := [vS a8, sl_ g26 xs26.length c26]) rfl rfl rfl rfl Tryd.call114 rfl (fun w1 hw1 => (part_ok a8 (sl_ g26 xs26.length c26) xs26 w1 hfa8 (Own.row hw1 (i := 0) rfl htg26 (by simp) hlg26) hrg26 (by omega)).mono fun en w' ⟨b, h1, h2, h3⟩ => ⟨b, h1, h2, h3⟩) fun b27 hS27 => ?_
      show Ll _ _ (Own _ _ (_ :: _ :: _ :: _ :: _ :: hs)) _ _ ((27, vS b27) :: _) _ _ _
      obtain ⟨hnb27, hsb27, hrb27⟩ := hS27
      refine Ll.nil (Lu.joint (pk [1, 2, 3] rfl rfl) ?_)
      refine Lu.loud rfl ?_
      refine Ll.alloc rfl rfl rfl rfl Tryd.zeroValue28 fun p5 hp5 => ?_
      show Ll _ _ (Own _ _ (bk_ p5 #[i6_ 0, str ([]), str ([])] 28 :: _ :: _ :: _ :: _ :: _ :: hs)) _ _ ((5, pt_ p5) :: _) _ _ _
      refine Ll.nil (Lu.joint (pk [2, 3, 4] rfl rfl) ?_)
      refine Lu.loud rfl ?_
      refine Ll.storeBox (cs' := #[i6_ b27.n, str b27.set, str b27.rel]) (hs' := (bk_ p5 #[i6_ b27.n, str b27.set, str b27.rel] 28 :: _ :: _ :: _ :: _ :: _ :: hs)) 0 rfl rfl rfl rfl rfl (by kernel_rfl : _ = some Tryd.t28) rfl rfl rfl rfl rfl ?_
      refine Ll.nil (Lu.joint (pk [2, 3, 4] rfl rfl) ?_)
      refine Lu.nil ?_
      refine Kt.joined ((p5, b27, p_26)) ⟨part_fine hnb27 hsb27 hrb27 hng26 (by omega) (by omega), by (try dsimp only); omega⟩ (Sub.sel [0, 2, 3, 4, 5] rfl) (fun _ h => h.sub (List.Sublist.cons_cons _ (List.Sublist.cons _ (List.Sublist.cons_cons _ (List.Sublist.cons_cons _ (List.Sublist.cons_cons _ (List.Sublist.cons_cons _ (List.Sublist.refl _))))))))
     ·
      refine Ll.alloc rfl rfl rfl rfl Tryd.zeroValue28 fun p5_1 hp5_1 => ?_
      show Ll _ _ (Own _ _ (bk_ p5_1 #[i6_ 0, str ([]), str ([])] 28 :: _ :: _ :: _ :: _ :: _ :: hs)) _ _ ((5, pt_ p5_1) :: _) _ _ _
      refine Ll.nil (Lu.joint (pk [2, 3, 4] rfl rfl) ?_)
      refine Lu.loud rfl ?_
      refine Ll.callSome (ok := fun (b : St) => b.n = xs26.length ∧ (b.set.length : Int) = xs26.length ∧ b.rel.length = xs26.length * xs26.length) (v := fun (b : St) => vS b) (xs := [.tmp 22, .tmp 26]) (vs := [vS a8, sl_ g26 xs26.length c26]) rfl rfl rfl rfl Tryd.call114 rfl (fun w1 hw1 => (part_ok a8 (sl_ g26 xs26.length c26) xs26 w1 hfa8 (Own.row hw1 (i := 1) rfl htg26 (by simp) hlg26) hrg26 (by omega)).mono fun en w' ⟨b, h1, h2, h3⟩ => ⟨b, h1, h2, h3⟩) fun b27_1 hS27_1 => ?_
      show Ll _ _ (Own _ _ (_ :: _ :: _ :: _ :: _ :: _ :: hs)) _ _ ((27, vS b27_1) :: _) _ _ _
      obtain ⟨hnb27_1, hsb27_1, hrb27_1⟩ := hS27_1
      refine Ll.nil (Lu.joint (pk [2, 3, 4] rfl rfl) ?_)
      refine Lu.loud rfl ?_
      refine Ll.storeBox (cs' := #[i6_ b27_1.n, str b27_1.set, str b27_1.rel]) (hs' := (bk_ p5_1 #[i6_ b27_1.n, str b27_1.set, str b27_1.rel] 28 :: _ :: _ :: _ :: _ :: _ :: hs)) 0 rfl rfl rfl rfl rfl (by kernel_rfl : _ = some Tryd.t28) rfl rfl rfl rfl rfl ?_
      refine Ll.nil (Lu.joint (pk [2, 3, 4] rfl rfl) ?_)
      refine Lu.nil ?_
      refine Kt.joined ((p5_1, b27_1, p_26)) ⟨part_fine hnb27_1 hsb27_1 hrb27_1 hng26 (by omega) (by omega), by (try dsimp only); omega⟩ (Sub.sel [0, 2, 3, 4, 5] rfl) (fun _ h => h.sub (List.Sublist.cons_cons _ (List.Sublist.cons _ (List.Sublist.cons_cons _ (List.Sublist.cons_cons _ (List.Sublist.cons_cons _ (List.Sublist.cons_cons _ (List.Sublist.refl _))))))))
    ·
     refine Ll.alloc rfl rfl rfl rfl Tryd.zeroValue28 fun p5_2 hp5_2 => ?_
     show Ll _ _ (Own _ _ (bk_ p5_2 #[i6_ 0, str ([]), str ([])] 28 :: _ :: _ :: _ :: _ :: hs)) _ _ ((5, pt_ p5_2) :: _) _ _ _
     refine Ll.nil (Lu.joint (pk [1, 2, 3] rfl rfl) ?_)
     refine Lu.loud rfl ?_
     refine Ll.callRd (rp := rp) (RT := 110) (p := p_10) (bv := bv) (hs := hs) (ok := fun ((g, c, u, xs) : Nat × Nat × Array Value × List Int) p' => (u.size = c * 1 ∧ xs.length ≤ c ∧ u.toList.take xs.length = ints xs) ∧ (xs.length = a8.n.toNat ∧ ∀ x ∈ xs, 0 ≤ x ∧ x < a8.n) ∧ p' ≤ p_10 + 10) (v := fun ((g, c, u, xs) : Nat × Nat × Array Value × List Int) => sl_ g xs.length c) (new := fun ((g, c, u, xs) : Nat × Nat × Array Value × List Int) => [bk_ g u 3]) (xs := [.tmp 23, .tmp 25]) (vs := [pt_ rp, i6_ a8.n]) ([bk_ p5_2 #[i6_ 0, str ([]), str ([])] 28, bk_ p4 #[i6_ a8.n, str a8.set, str a8.rel] 28, bk_ p3 #[i6_ 0, str ([]), str ([])] 28, bk_ p2 #[i6_ 0, str ([]), str ([])] 28] : List (Nat × Obj)) rfl rfl rfl rfl Tryd.call122 rfl (fun w1 hw1 => (shuffle_ok B w0 (([bk_ p5_2 #[i6_ 0, str ([]), str ([])] 28, bk_ p4 #[i6_ a8.n, str a8.set, str a8.rel] 28, bk_ p3 #[i6_ 0, str ([]), str ([])] 28, bk_ p2 #[i6_ 0, str ([]), str ([])] 28] : List (Nat × Obj)) ++ hs) rp p_10 bv L a8.n w1 (fun w2 hw2 => hb w2 (Own.drop (f := ([bk_ p5_2 #[i6_ 0, str ([]), str ([])] 28, bk_ p4 #[i6_ a8.n, str a8.set, str a8.rel] 28, bk_ p3 #[i6_ 0, str ([]), str ([])] 28, bk_ p2 #[i6_ 0, str ([]), str ([])] 28] : List (Nat × Obj))) hw2)) hL8 hL (by omega) (by omega) (by omega) hw1).mono fun en w' ⟨g', c', u', xs', p', h1, h2, h3⟩ => ⟨(g', c', u', xs'), p', h1, h2, h3⟩) fun ⟨g26_1, c26_1, u26_1, xs26_1⟩ p_26_1 hKp_26_1 => ?_
     show Ll _ _ (Own _ _ (_ :: _ :: _ :: _ :: _ :: _ :: hs)) _ _ ((26, sl_ g26_1 xs26_1.length c26_1) :: _) _ _ _
     obtain ⟨⟨hcg26_1, hlg26_1, htg26_1⟩, ⟨hng26_1, hrg26_1⟩, hep_26_1⟩ := hKp_26_1
     refine Ll.nil (Lu.joint (pk [2, 3, 4] rfl rfl) ?_)
     refine Lu.loud rfl ?_
     refine Ll.callSome (ok := fun (b : St) => b.n = xs26_1.length ∧ (b.set.length : Int) = xs26_1.length ∧ b.rel.length = xs26_1.length * xs26_1.length) (v := fun (b : St) => vS b) (xs := [.tmp 22, .tmp 26]) (vs := [vS a8, sl_ g26_1 xs26_1.length c26_1]) rfl rfl rfl rfl Tryd.call114 rfl (fun w1 hw1 => (part_ok a8 (sl_ g26_1 xs26_1.length c26_1) xs26_1 w1 hfa8 (Own.row hw1 (i := 0) rfl htg26_1 (by simp) hlg26_1) hrg26_1 (by omega)).mono fun en w' ⟨b, h1, h2, h3⟩ => ⟨b, h1, h2, h3⟩) fun b27_2 hS27_2 => ?_
     show Ll _ _ (Own _ _ (_ :: _ :: _ :: _ :: _ :: _ :: hs)) _ _ ((27, vS b27_2) :: _) _ _ _
     obtain ⟨hnb27_2, hsb27_2, hrb27_2⟩ := hS27_2
     refine Ll.nil (Lu.joint (pk [2, 3, 4] rfl rfl) ?_)
     refine Lu.loud rfl ?_
     refine Ll.storeBox (cs' := #[i6_ b27_2.n, str b27_2.set, str b27_2.rel]) (hs' := (_ :: bk_ p5_2 #[i6_ b27_2.n, str b27_2.set, str b27_2.rel] 28 :: _ :: _ :: _ :: _ :: hs)) 1 rfl rfl rfl rfl rfl (by kernel_rfl : _ = some Tryd.t28) rfl rfl rfl rfl rfl ?_
     refine Ll.nil (Lu.joint (pk [2, 3, 4] rfl rfl) ?_)
     refine Lu.nil ?_
     refine Kt.joined ((p5_2, b27_2, p_26_1)) ⟨part_fine hnb27_2 hsb27_2 hrb27_2 hng26_1 (by omega) (by omega), by (try dsimp only); omega⟩ (Sub.sel [0, 2, 3, 4, 5] rfl) (fun _ h => h.sub (List.Sublist.cons _ (List.Sublist.cons_cons _ (List.Sublist.cons_cons _ (List.Sublist.cons_cons _ (List.Sublist.cons_cons _ (List.Sublist.cons_cons _ (List.Sublist.refl _))))))))
   rintro ⟨q, b, p6⟩ ⟨⟨hfb, h5b⟩, hp6⟩
   dsimp only
   obtain ⟨hl1, hl25⟩ := fine_len hfb h5b
   refine Kt.sel [0, 2, 3, 4, 5] [_, _, _, _, _] rfl ?_
   refine Wk.seq ?_
   refine Wk.region ?_
   refine Ll.run 1 rfl ?_
   refine Ll.op rfl rfl rfl (OpQ.fieldAddr rfl Tryd.runUnderlying28 rfl Tryd.sizeOf9 rfl rfl) ?_
   refine Ll.op rfl rfl rfl (OpQ.loadOwn 0 rfl Tryd.isAgg9 rfl rfl rfl) ?_
   refine Ll.op (v := i6_ ((b.rel.length : Int))) rfl rfl rfl (OpQ.lenStr rfl Tryd.runUnderlying9 rfl) ?_
   refine Ll.callRd (rp := rp) (RT := 110) (p := p6) (bv := bv) (hs := hs) (ok := fun (k : Int) p' => 0 ≤ k ∧ (1 ≤ ((b.rel.length : Int)) → k < ((b.rel.length : Int))) ∧ p' = p6 + 1) (v := fun (k : Int) => i6_ k) (new := fun (k : Int) => []) (xs := [.tmp 28, .tmp 31]) (vs := [pt_ rp, i6_ ((b.rel.length : Int))]) ([bk_ q #[i6_ b.n, str b.set, str b.rel] 28, bk_ p4 #[i6_ a8.n, str a8.set, str a8.rel] 28, bk_ p3 #[i6_ 0, str ([]), str ([])] 28, bk_ p2 #[i6_ 0, str ([]), str ([])] 28] : List (Nat × Obj)) rfl rfl rfl rfl Tryd.call80 rfl (fun w1 hw1 => (pick_ok B w0 (([bk_ q #[i6_ b.n, str b.set, str b.rel] 28, bk_ p4 #[i6_ a8.n, str a8.set, str a8.rel] 28, bk_ p3 #[i6_ 0, str ([]), str ([])] 28, bk_ p2 #[i6_ 0, str ([]), str ([])] 28] : List (Nat × Obj)) ++ hs) rp p6 bv L ((b.rel.length : Int)) w1 (fun w2 hw2 => hb w2 (Own.drop (f := ([bk_ q #[i6_ b.n, str b.set, str b.rel] 28, bk_ p4 #[i6_ a8.n, str a8.set, str a8.rel] 28, bk_ p3 #[i6_ 0, str ([]), str ([])] 28, bk_ p2 #[i6_ 0, str ([]), str ([])] 28] : List (Nat × Obj))) hw2)) hL8 hL (by omega) hw1).mono fun en w' ⟨k', p', h1, h2, h3⟩ => ⟨k', p', h1, h2, h3⟩) fun k32 p_32 hKp_32 => ?_
   show Ll _ _ (Own _ _ (_ :: _ :: _ :: _ :: _ :: hs)) _ _ ((32, i6_ k32) :: _) _ _ _
   obtain ⟨h0k32, h1k32, hep_32⟩ := hKp_32
   try have hltk32 := h1k32 (by first | omega | (split <;> omega) | decide)
   refine Ll.run 1 rfl ?_
   refine Ll.nil ?_
   refine Kt.sel [2, 3, 4, 5, 6] [_, _, _, _, _] rfl ?_
   refine Wk.seq ?_
   refine Wk.join (σ := List UInt8) (fun R => R.length = b.rel.length) (fun R => [(2, pt_ p2), (3, pt_ p3), (4, pt_ p4), (5, pt_ q)]) (fun R => Own B w0 (bk_ q #[i6_ b.n, str b.set, str R] 28 :: bk_ p4 #[i6_ a8.n, str a8.set, str a8.rel] 28 :: bk_ p3 #[i6_ 0, str ([]), str ([])] 28 :: bk_ p2 #[i6_ 0, str ([]), str ([])] 28 :: bk_ rp #[bv, i6_ ((p_32 : Int))] 110 :: hs)) ?_ ?_
   ·
    refine Wk.regionU (S := Own B w0 [bk_ p4 #[i6_ a8.n, str a8.set, str a8.rel] 28, bk_ p3 #[i6_ 0, str ([]), str ([])] 28, bk_ p2 #[i6_ 0, str ([]), str ([])] 28, bk_ rp #[bv, i6_ ((p_32 : Int))] 110]) (.take 0 (.take 2 (.take 4 (.take 6 (.take 7 (.take 8 (.take 12 (.take 14 (.take 15 (.three 1 (.take 3 (.two 5 (.take 9 (.two 10 (.take 11 (.one 13 (.take 16 (.take 17 (.take 18 (.one 19 .done)))))) 13 (.take 16 (.one 10 (.take 11 (.take 17 (.take 18 (.one 19 .done)))))))) 13 (.take 16 (.one 5 (.take 9 (.one 10 (.take 11 (.take 17 (.take 18 (.one 19 .done)))))))))) 5 (.take 9 (.three 1 (.take 3 (.two 10 (.take 11 (.one 13 (.take 16 (.take 17 (.take 18 (.one 19 .done)))))) 13 (.take 16 (.one 10 (.take 11 (.take 17 (.take 18 (.one 19 .done)))))))) 10 (.two 1 (.take 3 (.take 11 (.one 13 (.take 16 (.take 17 (.take 18 (.one 19 .done))))))) 13 (.take 16 (.one 1 (.take 3 (.take 11 (.take 17 (.take 18 (.one 19 .done)))))))) 13 (.take 16 (.two 1 (.take 3 (.one 10 (.take 11 (.take 17 (.take 18 (.one 19 .done)))))) 10 (.one 1 (.take 3 (.take 11 (.take 17 (.take 18 (.one 19 .done)))))))))) 13 (.take 16 (.two 1 (.take 3 (.one 5 (.take 9 (.one 10 (.take 11 (.take 17 (.take 18 (.one 19 .done)))))))) 5 (.take 9 (.two 1 (.take 3 (.one 10 (.take 11 (.take 17 (.take 18 (.one 19 .done)))))) 10 (.one 1 (.take 3 (.take 11 (.take 17 (.take 18 (.one 19 .done)))))))))))))))))))) Base.mixed (fun _ h => h.drawn) (by kernel_rfl) ?_
    refine Lu.take rfl rfl rfl rfl rfl (OpQ.fieldAddr rfl Tryd.runUnderlying28 rfl Tryd.sizeOf9 rfl rfl) (pk [1, 2, 3, 4] rfl rfl) ?_
    refine Lu.run 1 rfl (pk [1, 2, 3, 4] rfl rfl) ?_
    refine Lu.take rfl rfl rfl rfl rfl (OpQ.fieldAddr rfl Tryd.runUnderlying28 rfl Tryd.sizeOf9 rfl rfl) (pk [1, 2, 3, 4] rfl rfl) ?_
    refine Lu.run 2 rfl (pk [1, 2, 3, 4] rfl rfl) ?_
    refine Lu.take rfl rfl rfl rfl rfl (OpQ.add rfl rfl rfl (by omega) (by omega)) (pk [1, 2, 3, 4] rfl rfl) ?_
    refine Lu.take rfl rfl rfl rfl rfl (OpQ.fieldAddr rfl Tryd.runUnderlying28 rfl Tryd.sizeOf9 rfl rfl) (pk [1, 2, 3, 4] rfl rfl) ?_
    refine Lu.run 1 rfl (pk [1, 2, 3, 4] rfl rfl) ?_
    refine Lu.take rfl rfl rfl rfl rfl (OpQ.add rfl rfl rfl (by omega) (by omega)) (pk [1, 2, 3, 4] rfl rfl) ?_
    refine Lu.three rfl rfl rfl ?_ ?_ ?_
    ·
     refine Ll.op rfl rfl rfl (OpQ.loadOwn 0 rfl Tryd.isAgg9 rfl rfl rfl) ?_
     refine Ll.nil (Lu.joint (pk [1, 2, 3, 4] rfl rfl) ?_)
     refine Lu.take (v := str (b.rel.take ((k32).toNat))) rfl rfl rfl rfl rfl (OpQ.sliceStrTo rfl Tryd.underlying9 rfl rfl (by omega) (by omega)) (pk [1, 2, 3, 4] rfl rfl) ?_
     refine Lu.two rfl rfl ?_ ?_
     ·
      refine Ll.op rfl rfl rfl (OpQ.loadOwn 0 rfl Tryd.isAgg9 rfl rfl rfl) ?_
      refine Ll.nil (Lu.joint (pk [1, 2, 3, 4] rfl rfl) ?_)
      refine Lu.take (v := str ((b.rel.drop ((k32).toNat)).take ((k32 + (1 : Int)).toNat - (k32).toNat))) rfl rfl rfl rfl rfl (OpQ.sliceStr rfl Tryd.underlying9 rfl rfl rfl (by omega) (by omega) (by first | omega | (simp; omega))) (pk [1, 2, 3, 4] rfl rfl) ?_
      refine Lu.two rfl rfl ?_ ?_
      ·
       refine Ll.callSome (ok := fun (t : List UInt8) => t.length = ((b.rel.drop ((k32).toNat)).take ((k32 + (1 : Int)).toNat - (k32).toNat)).length) (v := fun (t : List UInt8) => str t) (xs := [.tmp 42]) (vs := [str ((b.rel.drop ((k32).toNat)).take ((k32 + (1 : Int)).toNat - (k32).toNat))]) rfl rfl rfl rfl Tryd.call123 rfl (fun w1 hw1 => (flip_ok ((b.rel.drop ((k32).toNat)).take ((k32 + (1 : Int)).toNat - (k32).toNat)) w1 (by rw [List.length_take, List.length_drop]; omega)).mono fun en w' ⟨t, h1, h2, h3⟩ => ⟨t, h1, h2, h3⟩) fun t43 hS43 => ?_
       show Ll _ _ (Own _ _ (_ :: _ :: _ :: _ :: _ :: hs)) _ _ ((43, str t43) :: _) _ _ _
       have hlt43 := hS43
       refine Ll.nil (Lu.joint (pk [1, 2, 3, 4] rfl rfl) ?_)
       refine Lu.take rfl rfl rfl rfl rfl (OpQ.sadd rfl rfl rfl (by (try simp only [List.length_append]); rw [List.length_take, hlt43, List.length_take, List.length_drop]; omega)) (pk [1, 2, 3, 4] rfl rfl) ?_
       refine Lu.loud rfl ?_
       refine Ll.op rfl rfl rfl (OpQ.loadOwn 0 rfl Tryd.isAgg9 rfl rfl rfl) ?_
       refine Ll.nil (Lu.joint (pk [1, 2, 3, 4] rfl rfl) ?_)
       refine Lu.take (v := str (b.rel.drop ((k32 + (1 : Int)).toNat))) rfl rfl rfl rfl rfl (OpQ.sliceStrFrom rfl Tryd.underlying9 rfl rfl (by omega) (by omega)) (pk [1, 2, 3, 4] rfl rfl) ?_
       refine Lu.take rfl rfl rfl rfl rfl (OpQ.sadd rfl rfl rfl (by (try simp only [List.length_append]); rw [List.length_take, hlt43, List.length_take, List.length_drop, List.length_drop]; omega)) (pk [1, 2, 3, 4] rfl rfl) ?_
       refine Lu.take rfl rfl rfl rfl rfl (OpQ.fieldAddr rfl Tryd.runUnderlying28 rfl Tryd.sizeOf9 rfl rfl) (pk [1, 2, 3, 4] rfl rfl) ?_
       refine Lu.loud rfl ?_
       refine Ll.store1 (v := str (((b.rel.take ((k32).toNat)) ++ t43) ++ (b.rel.drop ((k32 + (1 : Int)).toNat)))) (hs' := (bk_ q #[i6_ b.n, str b.set, str (((b.rel.take ((k32).toNat)) ++ t43) ++ (b.rel.drop ((k32 + (1 : Int)).toNat)))] 28 :: _ :: _ :: _ :: _ :: hs)) 0 rfl rfl rfl rfl rfl rfl Tryd.sizeOf9 rfl (by simp) rfl ?_
       refine Ll.nil (Lu.joint (pk [1, 2, 3, 4] rfl rfl) ?_)
       refine Lu.nil ?_
       refine Kt.joined (((b.rel.take ((k32).toNat)) ++ t43) ++ (b.rel.drop ((k32 + (1 : Int)).toNat))) (turned_fine h0k32 hltk32 hlt43) (Sub.sel [2, 3, 4, 5] rfl) (fun _ h => h)
      ·
       refine Ll.op rfl rfl rfl (OpQ.loadOwn 0 rfl Tryd.isAgg9 rfl rfl rfl) ?_
       refine Ll.nil (Lu.joint (pk [1, 2, 3, 4] rfl rfl) ?_)
       refine Lu.take (v := str (b.rel.drop ((k32 + (1 : Int)).toNat))) rfl rfl rfl rfl rfl (OpQ.sliceStrFrom rfl Tryd.underlying9 rfl rfl (by omega) (by omega)) (pk [1, 2, 3, 4] rfl rfl) ?_
       refine Lu.loud rfl ?_
       refine Ll.callSome (ok := fun (t : List UInt8) => t.length = ((b.rel.drop ((k32).toNat)).take ((k32 + (1 : Int)).toNat - (k32).toNat)).length) (v := fun (t : List UInt8) => str t) (xs := [.tmp 42]) (vs := [str ((b.rel.drop ((k32).toNat)).take ((k32 + (1 : Int)).toNat - (k32).toNat))]) rfl rfl rfl rfl Tryd.call123 rfl (fun w1 hw1 => (flip_ok ((b.rel.drop ((k32).toNat)).take ((k32 + (1 : Int)).toNat - (k32).toNat)) w1 (by rw [List.length_take, List.length_drop]; omega)).mono fun en w' ⟨t, h1, h2, h3⟩ => ⟨t, h1, h2, h3⟩) fun t43_1 hS43_1 => ?_
       show Ll _ _ (Own _ _ (_ :: _ :: _ :: _ :: _ :: hs)) _ _ ((43, str t43_1) :: _) _ _ _
       have hlt43_1 := hS43_1
       refine Ll.nil (Lu.joint (pk [1, 2, 3, 4] rfl rfl) ?_)
       refine Lu.take rfl rfl rfl rfl rfl (OpQ.sadd rfl rfl rfl (by (try simp only [List.length_append]); rw [List.length_take, hlt43_1, List.length_take, List.length_drop]; omega)) (pk [1, 2, 3, 4] rfl rfl) ?_
       refine Lu.take rfl rfl rfl rfl rfl (OpQ.sadd rfl rfl rfl (by (try simp only [List.length_append]); rw [List.length_take, hlt43_1, List.length_take, List.length_drop, List.length_drop]; omega)) (pk [1, 2, 3, 4] rfl rfl) ?_
       refine Lu.take rfl rfl rfl rfl rfl (OpQ.fieldAddr rfl Tryd.runUnderlying28 rfl Tryd.sizeOf9 rfl rfl) (pk [1, 2, 3, 4] rfl rfl) ?_
       refine Lu.loud rfl ?_
       refine Ll.store1 (v := str (((b.rel.take ((k32).toNat)) ++ t43_1) ++ (b.rel.drop ((k32 + (1 : Int)).toNat)))) (hs' := (bk_ q #[i6_ b.n, str b.set, str (((b.rel.take ((k32).toNat)) ++ t43_1) ++ (b.rel.drop ((k32 + (1 : Int)).toNat)))] 28 :: _ :: _ :: _ :: _ :: hs)) 0 rfl rfl rfl rfl rfl rfl Tryd.sizeOf9 rfl (by simp) rfl ?_
       refine Ll.nil (Lu.joint (pk [1, 2, 3, 4] rfl rfl) ?_)
       refine Lu.nil ?_
       refine Kt.joined (((b.rel.take ((k32).toNat)) ++ t43_1) ++ (b.rel.drop ((k32 + (1 : Int)).toNat))) (turned_fine h0k32 hltk32 hlt43_1) (Sub.sel [2, 3, 4, 5] rfl) (fun _ h => h)
     ·
      refine Ll.op rfl rfl rfl (OpQ.loadOwn 0 rfl Tryd.isAgg9 rfl rfl rfl) ?_
      refine Ll.nil (Lu.joint (pk [1, 2, 3, 4] rfl rfl) ?_)
      refine Lu.take (v := str (b.rel.drop ((k32 + (1 : Int)).toNat))) rfl rfl rfl rfl rfl (OpQ.sliceStrFrom rfl Tryd.underlying9 rfl rfl (by omega) (by omega)) (pk [1, 2, 3, 4] rfl rfl) ?_
      refine Lu.loud rfl ?_
      refine Ll.op rfl rfl rfl (OpQ.loadOwn 0 rfl Tryd.isAgg9 rfl rfl rfl) ?_
      refine Ll.nil (Lu.joint (pk [1, 2, 3, 4] rfl rfl) ?_)
      refine Lu.take (v := str ((b.rel.drop ((k32).toNat)).take ((k32 + (1 : Int)).toNat - (k32).toNat))) rfl rfl rfl rfl rfl (OpQ.sliceStr rfl Tryd.underlying9 rfl rfl rfl (by omega) (by omega) (by first | omega | (simp; omega))) (pk [1, 2, 3, 4] rfl rfl) ?_
      refine Lu.loud rfl ?_
      refine Ll.callSome (ok := fun (t : List UInt8) => t.length = ((b.rel.drop ((k32).toNat)).take ((k32 + (1 : Int)).toNat - (k32).toNat)).length) (v := fun (t : List UInt8) => str t) (xs := [.tmp 42]) (vs := [str ((b.rel.drop ((k32).toNat)).take ((k32 + (1 : Int)).toNat - (k32).toNat))]) rfl rfl rfl rfl Tryd.call123 rfl (fun w1 hw1 => (flip_ok ((b.rel.drop ((k32).toNat)).take ((k32 + (1 : Int)).toNat - (k32).toNat)) w1 (by rw [List.length_take, List.length_drop]; omega)).mono fun en w' ⟨t, h1, h2, h3⟩ => ⟨t, h1, h2, h3⟩) fun t43_2 hS43_2 => ?_
      show Ll _ _ (Own _ _ (_ :: _ :: _ :: _ :: _ :: hs)) _ _ ((43, str t43_2) :: _) _ _ _
      have hlt43_2 := hS43_2
      refine Ll.nil (Lu.joint (pk [1, 2, 3, 4] rfl rfl) ?_)
      refine Lu.take rfl rfl rfl rfl rfl (OpQ.sadd rfl rfl rfl (by (try simp only [List.length_append]); rw [List.length_take, hlt43_2, List.length_take, List.length_drop]; omega)) (pk [1, 2, 3, 4] rfl rfl) ?_
      refine Lu.take rfl rfl rfl rfl rfl (OpQ.sadd rfl rfl rfl (by (try simp only [List.length_append]); rw [List.length_take, hlt43_2, List.length_take, List.length_drop, List.length_drop]; omega)) (pk [1, 2, 3, 4] rfl rfl) ?_
      refine Lu.take rfl rfl rfl rfl rfl (OpQ.fieldAddr rfl Tryd.runUnderlying28 rfl Tryd.sizeOf9 rfl rfl) (pk [1, 2, 3, 4] rfl rfl) ?_
      refine Lu.loud rfl ?_
      refine Ll.store1 (v := str (((b.rel.take ((k32).toNat)) ++ t43_2) ++ (b.rel.drop ((k32 + (1 : Int)).toNat)))) (hs' := (bk_ q #[i6_ b.n, str b.set, str (((b.rel.take ((k32).toNat)) ++ t43_2) ++ (b.rel.drop ((k32 + (1 : Int)).toNat)))] 28 :: _ :: _ :: _ :: _ :: hs)) 0 rfl rfl rfl rfl rfl rfl Tryd.sizeOf9 rfl (by simp) rfl ?_
      refine Ll.nil (Lu.joint (pk [1, 2, 3, 4] rfl rfl) ?_)
      refine Lu.nil ?_
      refine Kt.joined (((b.rel.take ((k32).toNat)) ++ t43_2) ++ (b.rel.drop ((k32 + (1 : Int)).toNat))) (turned_fine h0k32 hltk32 hlt43_2) (Sub.sel [2, 3, 4, 5] rfl) (fun _ h => h)
    ·
     refine Ll.op rfl rfl rfl (OpQ.loadOwn 0 rfl Tryd.isAgg9 rfl rfl rfl) ?_
     refine Ll.nil (Lu.joint (pk [1, 2, 3, 4] rfl rfl) ?_)
     refine Lu.take (v := str ((b.rel.drop ((k32).toNat)).take ((k32 + (1 : Int)).toNat - (k32).toNat))) rfl rfl rfl rfl rfl (OpQ.sliceStr rfl Tryd.underlying9 rfl rfl rfl (by omega) (by omega) (by first | omega | (simp; omega))) (pk [1, 2, 3, 4] rfl rfl) ?_
     refine Lu.three rfl rfl rfl ?_ ?_ ?_
     ·
      refine Ll.op rfl rfl rfl (OpQ.loadOwn 0 rfl Tryd.isAgg9 rfl rfl rfl) ?_
      refine Ll.nil (Lu.joint (pk [1, 2, 3, 4] rfl rfl) ?_)
      refine Lu.take (v := str (b.rel.take ((k32).toNat))) rfl rfl rfl rfl rfl (OpQ.sliceStrTo rfl Tryd.underlying9 rfl rfl (by omega) (by omega)) (pk [1, 2, 3, 4] rfl rfl) ?_
      refine Lu.two rfl rfl ?_ ?_
      ·
       refine Ll.callSome (ok := fun (t : List UInt8) => t.length = ((b.rel.drop ((k32).toNat)).take ((k32 + (1 : Int)).toNat - (k32).toNat)).length) (v := fun (t : List UInt8) => str t) (xs := [.tmp 42]) (vs := [str ((b.rel.drop ((k32).toNat)).take ((k32 + (1 : Int)).toNat - (k32).toNat))]) rfl rfl rfl rfl Tryd.call123 rfl (fun w1 hw1 => (flip_ok ((b.rel.drop ((k32).toNat)).take ((k32 + (1 : Int)).toNat - (k32).toNat)) w1 (by rw [List.length_take, List.length_drop]; omega)).mono fun en w' ⟨t, h1, h2, h3⟩ => ⟨t, h1, h2, h3⟩) fun t43_3 hS43_3 => ?_
       show Ll _ _ (Own _ _ (_ :: _ :: _ :: _ :: _ :: hs)) _ _ ((43, str t43_3) :: _) _ _ _
       have hlt43_3 := hS43_3
       refine Ll.nil (Lu.joint (pk [1, 2, 3, 4] rfl rfl) ?_)
       refine Lu.take rfl rfl rfl rfl rfl (OpQ.sadd rfl rfl rfl (by (try simp only [List.length_append]); rw [List.length_take, hlt43_3, List.length_take, List.length_drop]; omega)) (pk [1, 2, 3, 4] rfl rfl) ?_
       refine Lu.loud rfl ?_
       refine Ll.op rfl rfl rfl (OpQ.loadOwn 0 rfl Tryd.isAgg9 rfl rfl rfl) ?_
       refine Ll.nil (Lu.joint (pk [1, 2, 3, 4] rfl rfl) ?_)
       refine Lu.take (v := str (b.rel.drop ((k32 + (1 : Int)).toNat))) rfl rfl rfl rfl rfl (OpQ.sliceStrFrom rfl Tryd.underlying9 rfl rfl (by omega) (by omega)) (pk [1, 2, 3, 4] rfl rfl) ?_
       refine Lu.take rfl rfl rfl rfl rfl (OpQ.sadd rfl rfl rfl (by (try simp only [List.length_append]); rw [List.length_take, hlt43_3, List.length_take, List.length_drop, List.length_drop]; omega)) (pk [1, 2, 3, 4] rfl rfl) ?_
       refine Lu.take rfl rfl rfl rfl rfl (OpQ.fieldAddr rfl Tryd.runUnderlying28 rfl Tryd.sizeOf9 rfl rfl) (pk [1, 2, 3, 4] rfl rfl) ?_
       refine Lu.loud rfl ?_
       refine Ll.store1 (v := str (((b.rel.take ((k32).toNat)) ++ t43_3) ++ (b.rel.drop ((k32 + (1 : Int)).toNat)))) (hs' := (bk_ q #[i6_ b.n, str b.set, str (((b.rel.take ((k32).toNat)) ++ t43_3) ++ (b.rel.drop ((k32 + (1 : Int)).toNat)))] 28 :: _ :: _ :: _ :: _ :: hs)) 0 rfl rfl rfl rfl rfl rfl Tryd.sizeOf9 rfl (by simp) rfl ?_
       refine Ll.nil (Lu.joint (pk [1, 2, 3, 4] rfl rfl) ?_)
       refine Lu.nil ?_
       refine Kt.joined (((b.rel.take ((k32).toNat)) ++ t43_3) ++ (b.rel.drop ((k32 + (1 : Int)).toNat))) (turned_fine h0k32 hltk32 hlt43_3) (Sub.sel [2, 3, 4, 5] rfl) (fun _ h => h)
      ·
       refine Ll.op rfl rfl rfl (OpQ.loadOwn 0 rfl Tryd.isAgg9 rfl rfl rfl) ?_
       refine Ll.nil (Lu.joint (pk [1, 2, 3, 4] rfl rfl) ?_)
       refine Lu.take (v := str (b.rel.drop ((k32 + (1 : Int)).toNat))) rfl rfl rfl rfl rfl (OpQ.sliceStrFrom rfl Tryd.underlying9 rfl rfl (by omega) (by omega)) (pk [1, 2, 3, 4] rfl rfl) ?_
       refine Lu.loud rfl ?_
       refine Ll.callSome (ok := fun (t : List UInt8) => t.length = ((b.rel.drop ((k32).toNat)).take ((k32 + (1 : Int)).toNat - (k32).toNat)).length) (v := fun (t : List UInt8) => str t) (xs := [.tmp 42]) (vs := [str ((b.rel.drop ((k32).toNat)).take ((k32 + (1 : Int)).toNat - (k32).toNat))]) rfl rfl rfl rfl Tryd.call123 rfl (fun w1 hw1 => (flip_ok ((b.rel.drop ((k32).toNat)).take ((k32 + (1 : Int)).toNat - (k32).toNat)) w1 (by rw [List.length_take, List.length_drop]; omega)).mono fun en w' ⟨t, h1, h2, h3⟩ => ⟨t, h1, h2, h3⟩) fun t43_4 hS43_4 => ?_
       show Ll _ _ (Own _ _ (_ :: _ :: _ :: _ :: _ :: hs)) _ _ ((43, str t43_4) :: _) _ _ _
       have hlt43_4 := hS43_4
       refine Ll.nil (Lu.joint (pk [1, 2, 3, 4] rfl rfl) ?_)
       refine Lu.take rfl rfl rfl rfl rfl (OpQ.sadd rfl rfl rfl (by (try simp only [List.length_append]); rw [List.length_take, hlt43_4, List.length_take, List.length_drop]; omega)) (pk [1, 2, 3, 4] rfl rfl) ?_
       refine Lu.take rfl rfl rfl rfl rfl (OpQ.sadd rfl rfl rfl (by (try simp only [List.length_append]); rw [List.length_take, hlt43_4, List.length_take, List.length_drop, List.length_drop]; omega)) (pk [1, 2, 3, 4] rfl rfl) ?_
       refine Lu.take rfl rfl rfl rfl rfl (OpQ.fieldAddr rfl Tryd.runUnderlying28 rfl Tryd.sizeOf9 rfl rfl) (pk [1, 2, 3, 4] rfl rfl) ?_
       refine Lu.loud rfl ?_
       refine Ll.store1 (v := str (((b.rel.take ((k32).toNat)) ++ t43_4) ++ (b.rel.drop ((k32 + (1 : Int)).toNat)))) (hs' := (bk_ q #[i6_ b.n, str b.set, str (((b.rel.take ((k32).toNat)) ++ t43_4) ++ (b.rel.drop ((k32 + (1 : Int)).toNat)))] 28 :: _ :: _ :: _ :: _ :: hs)) 0 rfl rfl rfl rfl rfl rfl Tryd.sizeOf9 rfl (by simp) rfl ?_
       refine Ll.nil (Lu.joint (pk [1, 2, 3, 4] rfl rfl) ?_)
       refine Lu.nil ?_
       refine Kt.joined (((b.rel.take ((k32).toNat)) ++ t43_4) ++ (b.rel.drop ((k32 + (1 : Int)).toNat))) (turned_fine h0k32 hltk32 hlt43_4) (Sub.sel [2, 3, 4, 5] rfl) (fun _ h => h)
     ·
      refine Ll.callSome (ok := fun (t : List UInt8) => t.length = ((b.rel.drop ((k32).toNat)).take ((k32 + (1 : Int)).toNat - (k32).toNat)).length) (v := fun (t : List UInt8) => str t) (xs := [.tmp 42]) (vs := [str ((b.rel.drop ((k32).toNat)).take ((k32 + (1 : Int)).toNat - (k32).toNat))]) rfl rfl rfl rfl Tryd.call123 rfl (fun w1 hw1 => (flip_ok ((b.rel.drop ((k32).toNat)).take ((k32 + (1 : Int)).toNat - (k32).toNat)) w1 (by rw [List.length_take, List.length_drop]; omega)).mono fun en w' ⟨t, h1, h2, h3⟩ => ⟨t, h1, h2, h3⟩) fun t43_5 hS43_5 => ?_
      show Ll _ _ (Own _ _ (_ :: _ :: _ :: _ :: _ :: hs)) _ _ ((43, str t43_5) :: _) _ _ _
      have hlt43_5 := hS43_5
      refine Ll.nil (Lu.joint (pk [1, 2, 3, 4] rfl rfl) ?_)
      refine Lu.two rfl rfl ?_ ?_
      ·
       refine Ll.op rfl rfl rfl (OpQ.loadOwn 0 rfl Tryd.isAgg9 rfl rfl rfl) ?_
       refine Ll.nil (Lu.joint (pk [1, 2, 3, 4] rfl rfl) ?_)
       refine Lu.take (v := str (b.rel.take ((k32).toNat))) rfl rfl rfl rfl rfl (OpQ.sliceStrTo rfl Tryd.underlying9 rfl rfl (by omega) (by omega)) (pk [1, 2, 3, 4] rfl rfl) ?_
       refine Lu.take rfl rfl rfl rfl rfl (OpQ.sadd rfl rfl rfl (by (try simp only [List.length_append]); rw [List.length_take, hlt43_5, List.length_take, List.length_drop]; omega)) (pk [1, 2, 3, 4] rfl rfl) ?_
       refine Lu.loud rfl ?_
       refine Ll.op rfl rfl rfl (OpQ.loadOwn 0 rfl Tryd.isAgg9 rfl rfl rfl) ?_
       refine Ll.nil (Lu.joint (pk [1, 2, 3, 4] rfl rfl) ?_)
       refine Lu.take (v := str (b.rel.drop ((k32 + (1 : Int)).toNat))) rfl rfl rfl rfl rfl (OpQ.sliceStrFrom rfl Tryd.underlying9 rfl rfl (by omega) (by omega)) (pk [1, 2, 3, 4] rfl rfl) ?_
       refine Lu.take rfl rfl rfl rfl rfl (OpQ.sadd rfl rfl rfl (by (try simp only [List.length_append]); rw [List.length_take, hlt43_5, List.length_take, List.length_drop, List.length_drop]; omega)) (pk [1, 2, 3, 4] rfl rfl) ?_
       refine Lu.take rfl rfl rfl rfl rfl (OpQ.fieldAddr rfl Tryd.runUnderlying28 rfl Tryd.sizeOf9 rfl rfl) (pk [1, 2, 3, 4] rfl rfl) ?_
       refine Lu.loud rfl ?_
       refine Ll.store1 (v := str (((b.rel.take ((k32).toNat)) ++ t43_5) ++ (b.rel.drop ((k32 + (1 : Int)).toNat)))) (hs' := (bk_ q #[i6_ b.n, str b.set, str (((b.rel.take ((k32).toNat)) ++ t43_5) ++ (b.rel.drop ((k32 + (1 : Int)).toNat)))] 28 :: _ :: _ :: _ :: _ :: hs)) 0 rfl rfl rfl rfl rfl rfl Tryd.sizeOf9 rfl (by simp) rfl ?_
       refine Ll.nil (Lu.joint (pk [1, 2, 3, 4] rfl rfl) ?_)
       refine Lu.nil ?_
       refine Kt.joined (((b.rel.take ((k32).toNat)) ++ t43_5) ++ (b.rel.drop ((k32 + (1 : Int)).toNat))) (turned_fine h0k32 hltk32 hlt43_5) (Sub.sel [2, 3, 4, 5] rfl) (fun _ h => h)
      ·
       refine Ll.op rfl rfl rfl (OpQ.loadOwn 0 rfl Tryd.isAgg9 rfl rfl rfl) ?_
       refine Ll.nil (Lu.joint (pk [1, 2, 3, 4] rfl rfl) ?_)
       refine Lu.take (v := str (b.rel.drop ((k32 + (1 : Int)).toNat))) rfl rfl rfl rfl rfl (OpQ.sliceStrFrom rfl Tryd.underlying9 rfl rfl (by omega) (by omega)) (pk [1, 2, 3, 4] rfl rfl) ?_
       refine Lu.loud rfl ?_
       refine Ll.op rfl rfl rfl (OpQ.loadOwn 0 rfl Tryd.isAgg9 rfl rfl rfl) ?_
       refine Ll.nil (Lu.joint (pk [1, 2, 3, 4] rfl rfl) ?_)
       refine Lu.take (v := str (b.rel.take ((k32).toNat))) rfl rfl rfl rfl rfl (OpQ.sliceStrTo rfl Tryd.underlying9 rfl rfl (by omega) (by omega)) (pk [1, 2, 3, 4] rfl rfl) ?_
       refine Lu.take rfl rfl rfl rfl rfl (OpQ.sadd rfl rfl rfl (by (try simp only [List.length_append]); rw [List.length_take, hlt43_5, List.length_take, List.length_drop]; omega)) (pk [1, 2, 3, 4] rfl rfl) ?_
       refine Lu.take rfl rfl rfl rfl rfl (OpQ.sadd rfl rfl rfl (by (try simp only [List.length_append]); rw [List.length_take, hlt43_5, List.length_take, List.length_drop, List.length_drop]; omega)) (pk [1, 2, 3, 4] rfl rfl) ?_
       refine Lu.take rfl rfl rfl rfl rfl (OpQ.fieldAddr rfl Tryd.runUnderlying28 rfl Tryd.sizeOf9 rfl rfl) (pk [1, 2, 3, 4] rfl rfl) ?_
       refine Lu.loud rfl ?_
       refine Ll.store1 (v := str (((b.rel.take ((k32).toNat)) ++ t43_5) ++ (b.rel.drop ((k32 + (1 : Int)).toNat)))) (hs' := (bk_ q #[i6_ b.n, str b.set, str (((b.rel.take ((k32).toNat)) ++ t43_5) ++ (b.rel.drop ((k32 + (1 : Int)).toNat)))] 28 :: _ :: _ :: _ :: _ :: hs)) 0 rfl rfl rfl rfl rfl rfl Tryd.sizeOf9 rfl (by simp) rfl ?_
       refine Ll.nil (Lu.joint (pk [1, 2, 3, 4] rfl rfl) ?_)
       refine Lu.nil ?_
       refine Kt.joined (((b.rel.take ((k32).toNat)) ++ t43_5) ++ (b.rel.drop ((k32 + (1 : Int)).toNat))) (turned_fine h0k32 hltk32 hlt43_5) (Sub.sel [2, 3, 4, 5] rfl) (fun _ h => h)
     ·
      refine Ll.op rfl rfl rfl (OpQ.loadOwn 0 rfl Tryd.isAgg9 rfl rfl rfl) ?_
      refine Ll.nil (Lu.joint (pk [1, 2, 3, 4] rfl rfl) ?_)
      refine Lu.take (v := str (b.rel.drop ((k32 + (1 : Int)).toNat))) rfl rfl rfl rfl rfl (OpQ.sliceStrFrom rfl Tryd.underlying9 rfl rfl (by omega) (by omega)) (pk [1, 2, 3, 4] rfl rfl) ?_
      refine Lu.two rfl rfl ?_ ?_
      ·
       refine Ll.op rfl rfl rfl (OpQ.loadOwn 0 rfl Tryd.isAgg9 rfl rfl rfl) ?_
       refine Ll.nil (Lu.joint (pk [1, 2, 3, 4] rfl rfl) ?_)
       refine Lu.take (v := str (b.rel.take ((k32).toNat))) rfl rfl rfl rfl rfl (OpQ.sliceStrTo rfl Tryd.underlying9 rfl rfl (by omega) (by omega)) (pk [1, 2, 3, 4] rfl rfl) ?_
       refine Lu.loud rfl ?_
       refine Ll.callSome (ok := fun (t : List UInt8) => t.length = ((b.rel.drop ((k32).toNat)).take ((k32 + (1 : Int)).toNat - (k32).toNat)).length) (v := fun (t : List UInt8) => str t) (xs := [.tmp 42]) (vs := [str ((b.rel.drop ((k32).toNat)).take ((k32 + (1 : Int)).toNat - (k32).toNat))]) rfl rfl rfl rfl Tryd.call123 rfl (fun w1 hw1 => (flip_ok ((b.rel.drop ((k32).toNat)).take ((k32 + (1 : Int)).toNat - (k32).toNat)) w1 (by rw [List.length_take, List.length_drop]; omega)).mono fun en w' ⟨t, h1, h2, h3⟩ => ⟨t, h1, h2, h3⟩) fun t43_6 hS43_6 => ?_
       show Ll _ _ (Own _ _ (_ :: _ :: _ :: _ :: _ :: hs)) _ _ ((43, str t43_6) :: _) _ _ _
       have hlt43_6 := hS43_6
       refine Ll.nil (Lu.joint (pk [1, 2, 3, 4] rfl rfl) ?_)
       refine Lu.take rfl rfl rfl rfl rfl (OpQ.sadd rfl rfl rfl (by (try simp only [List.length_append]); rw [List.length_take, hlt43_6, List.length_take, List.length_drop]; omega)) (pk [1, 2, 3, 4] rfl rfl) ?_
       refine Lu.take rfl rfl rfl rfl rfl (OpQ.sadd rfl rfl rfl (by (try simp only [List.length_append]); rw [List.length_take, hlt43_6, List.length_take, List.length_drop, List.length_drop]; omega)) (pk [1, 2, 3, 4] rfl rfl) ?_
       refine Lu.take rfl rfl rfl rfl rfl (OpQ.fieldAddr rfl Tryd.runUnderlying28 rfl Tryd.sizeOf9 rfl rfl) (pk [1, 2, 3, 4] rfl rfl) ?_
       refine Lu.loud rfl ?_
       refine Ll.store1 (v := str (((b.rel.take ((k32).toNat)) ++ t43_6) ++ (b.rel.drop ((k32 + (1 : Int)).toNat)))) (hs' := (bk_ q #[i6_ b.n, str b.set, str (((b.rel.take ((k32).toNat)) ++ t43_6) ++ (b.rel.drop ((k32 + (1 : Int)).toNat)))] 28 :: _ :: _ :: _ :: _ :: hs)) 0 rfl rfl rfl rfl rfl rfl Tryd.sizeOf9 rfl (by simp) rfl ?_
       refine Ll.nil (Lu.joint (pk [1, 2, 3, 4] rfl rfl) ?_)
       refine Lu.nil ?_
       refine Kt.joined (((b.rel.take ((k32).toNat)) ++ t43_6) ++ (b.rel.drop ((k32 + (1 : Int)).toNat))) (turned_fine h0k32 hltk32 hlt43_6) (Sub.sel [2, 3, 4, 5] rfl) (fun _ h => h)
      ·
       refine Ll.callSome (ok := fun (t : List UInt8) => t.length = ((b.rel.drop ((k32).toNat)).take ((k32 + (1 : Int)).toNat - (k32).toNat)).length) (v := fun (t : List UInt8) => str t) (xs := [.tmp 42]) (vs := [str ((b.rel.drop ((k32).toNat)).take ((k32 + (1 : Int)).toNat - (k32).toNat))]) rfl rfl rfl rfl Tryd.call123 rfl (fun w1 hw1 => (flip_ok ((b.rel.drop ((k32).toNat)).take ((k32 + (1 : Int)).toNat - (k32).toNat)) w1 (by rw [List.length_take, List.length_drop]; omega)).mono fun en w' ⟨t, h1, h2, h3⟩ => ⟨t, h1, h2, h3⟩) fun t43_7 hS43_7 => ?_
       show Ll _ _ (Own _ _ (_ :: _ :: _ :: _ :: _ :: hs)) _ _ ((43, str t43_7) :: _) _ _ _
       have hlt43_7 := hS43_7
       refine Ll.nil (Lu.joint (pk [1, 2, 3, 4] rfl rfl) ?_)
       refine Lu.loud rfl ?_
       refine Ll.op rfl rfl rfl (OpQ.loadOwn 0 rfl Tryd.isAgg9 rfl rfl rfl) ?_
       refine Ll.nil (Lu.joint (pk [1, 2, 3, 4] rfl rfl) ?_)
       refine Lu.take (v := str (b.rel.take ((k32).toNat))) rfl rfl rfl rfl rfl (OpQ.sliceStrTo rfl Tryd.underlying9 rfl rfl (by omega) (by omega)) (pk [1, 2, 3, 4] rfl rfl) ?_
       refine Lu.take rfl rfl rfl rfl rfl (OpQ.sadd rfl rfl rfl (by (try simp only [List.length_append]); rw [List.length_take, hlt43_7, List.length_take, List.length_drop]; omega)) (pk [1, 2, 3, 4] rfl rfl) ?_
       refine Lu.take rfl rfl rfl rfl rfl (OpQ.sadd rfl rfl rfl (by (try simp only [List.length_append]); rw [List.length_take, hlt43_7, List.length_take, List.length_drop, List.length_drop]; omega)) (pk [1, 2, 3, 4] rfl rfl) ?_
       refine Lu.take rfl rfl rfl rfl rfl (OpQ.fieldAddr rfl Tryd.runUnderlying28 rfl Tryd.sizeOf9 rfl rfl) (pk [1, 2, 3, 4] rfl rfl) ?_
       refine Lu.loud rfl ?_
       refine Ll.store1 (v := str (((b.rel.take ((k32).toNat)) ++ t43_7) ++ (b.rel.drop ((k32 + (1 : Int)).toNat)))) (hs' := (bk_ q #[i6_ b.n, str b.set, str (((b.rel.take ((k32).toNat)) ++ t43_7) ++ (b.rel.drop ((k32 + (1 : Int)).toNat)))] 28 :: _ :: _ :: _ :: _ :: hs)) 0 rfl rfl rfl rfl rfl rfl Tryd.sizeOf9 rfl (by simp) rfl ?_
       refine Ll.nil (Lu.joint (pk [1, 2, 3, 4] rfl rfl) ?_)
       refine Lu.nil ?_
       refine Kt.joined (((b.rel.take ((k32).toNat)) ++ t43_7) ++ (b.rel.drop ((k32 + (1 : Int)).toNat))) (turned_fine h0k32 hltk32 hlt43_7) (Sub.sel [2, 3, 4, 5] rfl) (fun _ h => h)
    ·
     refine Ll.op rfl rfl rfl (OpQ.loadOwn 0 rfl Tryd.isAgg9 rfl rfl rfl) ?_
     refine Ll.nil (Lu.joint (pk [1, 2, 3, 4] rfl rfl) ?_)
     refine Lu.take (v := str (b.rel.drop ((k32 + (1 : Int)).toNat))) rfl rfl rfl rfl rfl (OpQ.sliceStrFrom rfl Tryd.underlying9 rfl rfl (by omega) (by omega)) (pk [1, 2, 3, 4] rfl rfl) ?_
     refine Lu.two rfl rfl ?_ ?_
     ·
      refine Ll.op rfl rfl rfl (OpQ.loadOwn 0 rfl Tryd.isAgg9 rfl rfl rfl) ?_
      refine Ll.nil (Lu.joint (pk [1, 2, 3, 4] rfl rfl) ?_)
      refine Lu.take (v := str (b.rel.take ((k32).toNat))) rfl rfl rfl rfl rfl (OpQ.sliceStrTo rfl Tryd.underlying9 rfl rfl (by omega) (by omega)) (pk [1, 2, 3, 4] rfl rfl) ?_
      refine Lu.loud rfl ?_
      refine Ll.op rfl rfl rfl (OpQ.loadOwn 0 rfl Tryd.isAgg9 rfl rfl rfl) ?_
      refine Ll.nil (Lu.joint (pk [1, 2, 3, 4] rfl rfl) ?_)
      refine Lu.take (v := str ((b.rel.drop ((k32).toNat)).take ((k32 + (1 : Int)).toNat - (k32).toNat))) rfl rfl rfl rfl rfl (OpQ.sliceStr rfl Tryd.underlying9 rfl rfl rfl (by omega) (by omega) (by first | omega | (simp; omega))) (pk [1, 2, 3, 4] rfl rfl) ?_
      refine Lu.loud rfl ?_
      refine Ll.callSome (ok := fun (t : List UInt8) => t.length = ((b.rel.drop ((k32).toNat)).take ((k32 + (1 : Int)).toNat - (k32).toNat)).length) (v := fun (t : List UInt8) => str t) (xs := [.tmp 42]) (vs := [str ((b.rel.drop ((k32).toNat)).take ((k32 + (1 : Int)).toNat - (k32).toNat))]) rfl rfl rfl rfl Tryd.call123 rfl (fun w1 hw1 => (flip_ok ((b.rel.drop ((k32).toNat)).take ((k32 + (1 : Int)).toNat - (k32).toNat)) w1 (by rw [List.length_take, List.length_drop]; omega)).mono fun en w' ⟨t, h1, h2, h3⟩ => ⟨t, h1, h2, h3⟩) fun t43_8 hS43_8 => ?_
      show Ll _ _ (Own _ _ (_ :: _ :: _ :: _ :: _ :: hs)) _ _ ((43, str t43_8) :: _) _ _ _
      have hlt43_8 := hS43_8
      refine Ll.nil (Lu.joint (pk [1, 2, 3, 4] rfl rfl) ?_)
      refine Lu.take rfl rfl rfl rfl rfl (OpQ.sadd rfl rfl rfl (by (try simp only [List.length_append]); rw [List.length_take, hlt43_8, List.length_take, List.length_drop]; omega)) (pk [1, 2, 3, 4] rfl rfl) ?_
      refine Lu.take rfl rfl rfl rfl rfl (OpQ.sadd rfl rfl rfl (by (try simp only [List.length_append]); rw [List.length_take, hlt43_8, List.length_take, List.length_drop, List.length_drop]; omega)) (pk [1, 2, 3, 4] rfl rfl) ?_
      refine Lu.take rfl rfl rfl rfl rfl (OpQ.fieldAddr rfl Tryd.runUnderlying28 rfl Tryd.sizeOf9 rfl rfl) (pk [1, 2, 3, 4] rfl rfl) ?_
      refine Lu.loud rfl ?_
      refine Ll.store1 (v := str (((b.rel.take ((k32).toNat)) ++ t43_8) ++ (b.rel.drop ((k32 + (1 : Int)).toNat)))) (hs' := (bk_ q #[i6_ b.n, str b.set, str (((b.rel.take ((k32).toNat)) ++ t43_8) ++ (b.rel.drop ((k32 + (1 : Int)).toNat)))] 28 :: _ :: _ :: _ :: _ :: hs)) 0 rfl rfl rfl rfl rfl rfl Tryd.sizeOf9 rfl (by simp) rfl ?_
      refine Ll.nil (Lu.joint (pk [1, 2, 3, 4] rfl rfl) ?_)
      refine Lu.nil ?_
      refine Kt.joined (((b.rel.take ((k32).toNat)) ++ t43_8) ++ (b.rel.drop ((k32 + (1 : Int)).toNat))) (turned_fine h0k32 hltk32 hlt43_8) (Sub.sel [2, 3, 4, 5] rfl) (fun _ h => h)
     ·
      refine Ll.op rfl rfl rfl (OpQ.loadOwn 0 rfl Tryd.isAgg9 rfl rfl rfl) ?_
      refine Ll.nil (Lu.joint (pk [1, 2, 3, 4] rfl rfl) ?_)
      refine Lu.take (v := str ((b.rel.drop ((k32).toNat)).take ((k32 + (1 : Int)).toNat - (k32).toNat))) rfl rfl rfl rfl rfl (OpQ.sliceStr rfl Tryd.underlying9 rfl rfl rfl (by omega) (by omega) (by first | omega | (simp; omega))) (pk [1, 2, 3, 4] rfl rfl) ?_
      refine Lu.two rfl rfl ?_ ?_
      ·
       refine Ll.op rfl rfl rfl (OpQ.loadOwn 0 rfl Tryd.isAgg9 rfl rfl rfl) ?_
       refine Ll.nil (Lu.joint (pk [1, 2, 3, 4] rfl rfl) ?_)
       refine Lu.take (v := str (b.rel.take ((k32).toNat))) rfl rfl rfl rfl rfl (OpQ.sliceStrTo rfl Tryd.underlying9 rfl rfl (by omega) (by omega)) (pk [1, 2, 3, 4] rfl rfl) ?_
       refine Lu.loud rfl ?_
       refine Ll.callSome (ok := fun (t : List UInt8) => t.length = ((b.rel.drop ((k32).toNat)).take ((k32 + (1 : Int)).toNat - (k32).toNat)).length) (v := fun (t : List UInt8) => str t) (xs := [.tmp 42]) (vs := [str ((b.rel.drop ((k32).toNat)).take ((k32 + (1 : Int)).toNat - (k32).toNat))]) rfl rfl rfl rfl Tryd.call123 rfl (fun w1 hw1 => (flip_ok ((b.rel.drop ((k32).toNat)).take ((k32 + (1 : Int)).toNat - (k32).toNat)) w1 (by rw [List.length_take, List.length_drop]; omega)).mono fun en w' ⟨t, h1, h2, h3⟩ => ⟨t, h1, h2, h3⟩) fun t43_9 hS43_9 => ?_
       show Ll _ _ (Own _ _ (_ :: _ :: _ :: _ :: _ :: hs)) _ _ ((43, str t43_9) :: _) _ _ _
       have hlt43_9 := hS43_9
       refine Ll.nil (Lu.joint (pk [1, 2, 3, 4] rfl rfl) ?_)
       refine Lu.take rfl rfl rfl rfl rfl (OpQ.sadd rfl rfl rfl (by (try simp only [List.length_append]); rw [List.length_take, hlt43_9, List.length_take, List.length_drop]; omega)) (pk [1, 2, 3, 4] rfl rfl) ?_
       refine Lu.take rfl rfl rfl rfl rfl (OpQ.sadd rfl rfl rfl (by (try simp only [List.length_append]); rw [List.length_take, hlt43_9, List.length_take, List.length_drop, List.length_drop]; omega)) (pk [1, 2, 3, 4] rfl rfl) ?_
       refine Lu.take rfl rfl rfl rfl rfl (OpQ.fieldAddr rfl Tryd.runUnderlying28 rfl Tryd.sizeOf9 rfl rfl) (pk [1, 2, 3, 4] rfl rfl) ?_
       refine Lu.loud rfl ?_
       refine Ll.store1 (v := str (((b.rel.take ((k32).toNat)) ++ t43_9) ++ (b.rel.drop ((k32 + (1 : Int)).toNat)))) (hs' := (bk_ q #[i6_ b.n, str b.set, str (((b.rel.take ((k32).toNat)) ++ t43_9) ++ (b.rel.drop ((k32 + (1 : Int)).toNat)))] 28 :: _ :: _ :: _ :: _ :: hs)) 0 rfl rfl rfl rfl rfl rfl Tryd.sizeOf9 rfl (by simp) rfl ?_
       refine Ll.nil (Lu.joint (pk [1, 2, 3, 4] rfl rfl) ?_)
       refine Lu.nil ?_
       refine Kt.joined (((b.rel.take ((k32).toNat)) ++ t43_9) ++ (b.rel.drop ((k32 + (1 : Int)).toNat))) (turned_fine h0k32 hltk32 hlt43_9) (Sub.sel [2, 3, 4, 5] rfl) (fun _ h => h)
      ·
       refine Ll.callSome (ok := fun (t : List UInt8) => t.length = ((b.rel.drop ((k32).toNat)).take ((k32 + (1 : Int)).toNat - (k32).toNat)).length) (v := fun (t : List UInt8) => str t) (xs := [.tmp 42]) (vs := [str ((b.rel.drop ((k32).toNat)).take ((k32 + (1 : Int)).toNat - (k32).toNat))]) rfl rfl rfl rfl Tryd.call123 rfl (fun w1 hw1 => (flip_ok ((b.rel.drop ((k32).toNat)).take ((k32 + (1 : Int)).toNat - (k32).toNat)) w1 (by rw [List.length_take, List.length_drop]; omega)).mono fun en w' ⟨t, h1, h2, h3⟩ => ⟨t, h1, h2, h3⟩) fun t43_10 hS43_10 => ?_
       show Ll _ _ (Own _ _ (_ :: _ :: _ :: _ :: _ :: hs)) _ _ ((43, str t43_10) :: _) _ _ _
       have hlt43_10 := hS43_10
       refine Ll.nil (Lu.joint (pk [1, 2, 3, 4] rfl rfl) ?_)
       refine Lu.loud rfl ?_
       refine Ll.op rfl rfl rfl (OpQ.loadOwn 0 rfl Tryd.isAgg9 rfl rfl rfl) ?_
       refine Ll.nil (Lu.joint (pk [1, 2, 3, 4] rfl rfl) ?_)
       refine Lu.take (v := str (b.rel.take ((k32).toNat))) rfl rfl rfl rfl rfl (OpQ.sliceStrTo rfl Tryd.underlying9 rfl rfl (by omega) (by omega)) (pk [1, 2, 3, 4] rfl rfl) ?_
       refine Lu.take rfl rfl rfl rfl rfl (OpQ.sadd rfl rfl rfl (by (try simp only [List.length_append]); rw [List.length_take, hlt43_10, List.length_take, List.length_drop]; omega)) (pk [1, 2, 3, 4] rfl rfl) ?_
       refine Lu.take rfl rfl rfl rfl rfl (OpQ.sadd rfl rfl rfl (by (try simp only [List.length_append]); rw [List.length_take, hlt43_10, List.length_take, List.length_drop, List.length_drop]; omega)) (pk [1, 2, 3, 4] rfl rfl) ?_
       refine Lu.take rfl rfl rfl rfl rfl (OpQ.fieldAddr rfl Tryd.runUnderlying28 rfl Tryd.sizeOf9 rfl rfl) (pk [1, 2, 3, 4] rfl rfl) ?_
       refine Lu.loud rfl ?_
       refine Ll.store1 (v := str (((b.rel.take ((k32).toNat)) ++ t43_10) ++ (b.rel.drop ((k32 + (1 : Int)).toNat)))) (hs' := (bk_ q #[i6_ b.n, str b.set, str (((b.rel.take ((k32).toNat)) ++ t43_10) ++ (b.rel.drop ((k32 + (1 : Int)).toNat)))] 28 :: _ :: _ :: _ :: _ :: hs)) 0 rfl rfl rfl rfl rfl rfl Tryd.sizeOf9 rfl (by simp) rfl ?_
       refine Ll.nil (Lu.joint (pk [1, 2, 3, 4] rfl rfl) ?_)
       refine Lu.nil ?_
       refine Kt.joined (((b.rel.take ((k32).toNat)) ++ t43_10) ++ (b.rel.drop ((k32 + (1 : Int)).toNat))) (turned_fine h0k32 hltk32 hlt43_10) (Sub.sel [2, 3, 4, 5] rfl) (fun _ h => h)
   rintro R hRl
   refine Kt.sel [2, 3, 4, 5] [_, _, _, _] rfl ?_
   refine Wk.seq ?_
   refine Wk.regionS (S := Own B w0 [bk_ q #[i6_ b.n, str b.set, str R] 28, bk_ p4 #[i6_ a8.n, str a8.set, str a8.rel] 28, bk_ rp #[bv, i6_ ((p_32 : Int))] 110]) [(0, true), (1, true), (2, false), (3, false)] Base.mixed (fun _ h => h.drawn) (by kernel_rfl) ?_
   refine Ld.take rfl rfl rfl rfl rfl (OpQ.loadBox (cs := #[i6_ a8.n, str a8.set, str a8.rel]) 1 rfl Tryd.isAgg28 rfl rfl Tryd.sizeOf28) (pk [0, 1, 4] rfl rfl) ?_
   refine Ld.take rfl rfl rfl rfl rfl (OpQ.loadBox (cs := #[i6_ b.n, str b.set, str R]) 0 rfl Tryd.isAgg28 rfl rfl Tryd.sizeOf28) (pk [0, 1, 4] rfl rfl) ?_
   refine Ld.loud rfl ?_
   refine Ll.storeBox (cs' := #[i6_ a8.n, str a8.set, str a8.rel]) (hs' := (_ :: _ :: _ :: bk_ p2 #[i6_ a8.n, str a8.set, str a8.rel] 28 :: _ :: hs)) 3 rfl rfl rfl rfl rfl (by kernel_rfl : _ = some Tryd.t28) rfl rfl rfl rfl rfl ?_
   refine Ll.nil (Ld.joint (pk [0, 1, 4] rfl rfl) ?_)
   refine Ld.loud rfl ?_
   refine Ll.storeBox (cs' := #[i6_ b.n, str b.set, str R]) (hs' := (_ :: _ :: bk_ p3 #[i6_ b.n, str b.set, str R] 28 :: _ :: _ :: hs)) 2 rfl rfl rfl rfl rfl (by kernel_rfl : _ = some Tryd.t28) rfl rfl rfl rfl rfl ?_
   refine Ll.nil (Ld.joint (pk [0, 1, 4] rfl rfl) ?_)
   refine Ld.nil ?_
   refine Kt.sel [2, 3] [_, _] rfl ?_
   refine Wk.ret (Kt.endMany rfl (.cell (cs := #[i6_ a8.n, str a8.set, str a8.rel]) rfl (fun w1 hw1 => hw1.loadBox 3 rfl Tryd.isAgg28 Tryd.sizeOf28) (.cell (cs := #[i6_ b.n, str b.set, str R]) rfl (fun w1 hw1 => hw1.loadBox 2 rfl Tryd.isAgg28 Tryd.sizeOf28) ResAt.nil)) (by simp) fun w' hw => ?_)
   -- ret 1: vS a8; .agg #[i6_ b.n, str b.set, str R]
   exact ⟨a8, ⟨b.n, b.set, R⟩, p_32, rfl, ⟨⟨⟨hfa8, h5a8⟩, ⟨⟨hfb.lo, hfb.hi, hfb.set, by rw [show (_ : List UInt8).length = b.rel.length from hRl]; exact hfb.rel⟩, h5b⟩⟩, by omega⟩, hw.sub (List.Sublist.cons _ (List.Sublist.cons _ (List.Sublist.cons _ (List.Sublist.cons _ (List.Sublist.cons_cons _ (List.Sublist.refl _))))))⟩
  ·
   replace h20 := of_decide_eq_false h20
   refine Wk.seq ?_
   refine Wk.regionQ ?_
   refine Lq.run 2 rfl ?_
   refine Lq.nil ?_
   refine Kt.sel [0, 2, 3, 4, 54] [_, _, _, _, _] rfl ?_
   refine Wk.cond (b := decide (k10 = (2 : Int))) rfl (fun h54 => ?_) (fun h54 => ?_)
   ·
    replace h54 := of_decide_eq_true h54
    refine Wk.seq ?_
    refine Wk.regionS (S := Own B w0 [bk_ p4 #[i6_ a8.n, str a8.set, str a8.rel] 28]) [(0, true), (1, true), (2, true), (3, true), (4, false), (5, false), (6, false)] Base.mixed (fun _ h => h.drawn) (by kernel_rfl) ?_
    refine Ld.take rfl rfl rfl rfl rfl (OpQ.loadBox (cs := #[i6_ a8.n, str a8.set, str a8.rel]) 0 rfl Tryd.isAgg28 rfl rfl Tryd.sizeOf28) (pk [0] rfl rfl) ?_
    refine Ld.run 1 rfl (pk [0] rfl rfl) ?_
    refine Ld.take rfl rfl rfl rfl rfl (OpQ.fieldAddr rfl Tryd.runUnderlying28 rfl Tryd.sizeOf3 rfl rfl) (pk [0] rfl rfl) ?_
    refine Ld.take rfl rfl rfl rfl rfl (OpQ.loadOwn 0 rfl Tryd.isAgg3 rfl rfl rfl) (pk [0] rfl rfl) ?_
    refine Ld.loud rfl ?_
    refine Ll.callRd (rp := rp) (RT := 110) (p := p_10) (bv := bv) (hs := hs) (ok := fun (a : St) p' => (a.n = a8.n ∧ (a.set.length : Int) = a8.n ∧ a.rel.length = a8.n.toNat * a8.n.toNat) ∧ p' ≤ p_10 + 100) (v := fun (a : St) => vS a) (new := fun (a : St) => []) (xs := [.tmp 57, .tmp 59]) (vs := [pt_ rp, i6_ a8.n]) ([bk_ p4 #[i6_ a8.n, str a8.set, str a8.rel] 28, bk_ p3 #[i6_ 0, str ([]), str ([])] 28, bk_ p2 #[i6_ 0, str ([]), str ([])] 28] : List (Nat × Obj)) rfl rfl rfl rfl Tryd.call124 rfl (fun w1 hw1 => (l1Draw_ok B w0 (([bk_ p4 #[i6_ a8.n, str a8.set, str a8.rel] 28, bk_ p3 #[i6_ 0, str ([]), str ([])] 28, bk_ p2 #[i6_ 0, str ([]), str ([])] 28] : List (Nat × Obj)) ++ hs) rp p_10 bv L a8.n w1 (fun w2 hw2 => hb w2 (Own.drop (f := ([bk_ p4 #[i6_ a8.n, str a8.set, str a8.rel] 28, bk_ p3 #[i6_ 0, str ([]), str ([])] 28, bk_ p2 #[i6_ 0, str ([]), str ([])] 28] : List (Nat × Obj))) hw2)) hL8 hL (by omega) (by omega) (by omega) hw1).mono fun en w' ⟨a', p', h1, h2, h3⟩ => ⟨a', p', h1, h2, h3⟩) fun a60 p_60 hKp_60 => ?_
    show Ll _ _ (Own _ _ (_ :: _ :: _ :: _ :: hs)) _ _ ((60, vS a60) :: _) _ _ _
    obtain ⟨⟨hna60, hsa60, hra60⟩, hep_60⟩ := hKp_60
    refine Ll.nil (Ld.joint (pk [0] rfl rfl) ?_)
    refine Ld.loud rfl ?_
    refine Ll.storeBox (cs' := #[i6_ a8.n, str a8.set, str a8.rel]) (hs' := (_ :: _ :: bk_ p2 #[i6_ a8.n, str a8.set, str a8.rel] 28 :: _ :: hs)) 2 rfl rfl rfl rfl rfl (by kernel_rfl : _ = some Tryd.t28) rfl rfl rfl rfl rfl ?_
    refine Ll.nil (Ld.joint (pk [0] rfl rfl) ?_)
    refine Ld.loud rfl ?_
    refine Ll.storeBox (cs' := #[i6_ a60.n, str a60.set, str a60.rel]) (hs' := (_ :: bk_ p3 #[i6_ a60.n, str a60.set, str a60.rel] 28 :: _ :: _ :: hs)) 1 rfl rfl rfl rfl rfl (by kernel_rfl : _ = some Tryd.t28) rfl rfl rfl rfl rfl ?_
    refine Ll.nil (Ld.joint (pk [0] rfl rfl) ?_)
    refine Ld.nil ?_
    refine Kt.sel [2, 3] [_, _] rfl ?_
    refine Wk.ret (Kt.endMany rfl (.cell (cs := #[i6_ a8.n, str a8.set, str a8.rel]) rfl (fun w1 hw1 => hw1.loadBox 2 rfl Tryd.isAgg28 Tryd.sizeOf28) (.cell (cs := #[i6_ a60.n, str a60.set, str a60.rel]) rfl (fun w1 hw1 => hw1.loadBox 1 rfl Tryd.isAgg28 Tryd.sizeOf28) ResAt.nil)) (by simp) fun w' hw => ?_)
    -- ret 2: vS a8; vS a60
    exact ⟨a8, a60, p_60, rfl, ⟨⟨⟨hfa8, h5a8⟩, draw_fine hna60 hsa60 hra60 (by omega) (by omega)⟩, by omega⟩, hw.sub (List.Sublist.cons _ (List.Sublist.cons _ (List.Sublist.cons _ (List.Sublist.cons_cons _ (List.Sublist.refl _)))))⟩
   ·
    replace h54 := of_decide_eq_false h54
    refine Wk.skip ?_
    refine Kt.sel [0, 2, 3, 4] [_, _, _, _] rfl ?_
    refine Wk.seq ?_
    refine Wk.regionS (S := Own B w0 [bk_ p4 #[i6_ a8.n, str a8.set, str a8.rel] 28]) [(0, true), (1, true), (2, false), (3, false), (4, false)] Base.mixed (fun _ h => h.drawn) (by kernel_rfl) ?_
    refine Ld.take rfl rfl rfl rfl rfl (OpQ.loadBox (cs := #[i6_ a8.n, str a8.set, str a8.rel]) 0 rfl Tryd.isAgg28 rfl rfl Tryd.sizeOf28) (pk [0] rfl rfl) ?_
    refine Ld.run 1 rfl (pk [0] rfl rfl) ?_
    refine Ld.loud rfl ?_
    refine Ll.callRd (rp := rp) (RT := 110) (p := p_10) (bv := bv) (hs := hs) (ok := fun (a : St) p' => (a.Fine ∧ a.n ≤ 5) ∧ p' ≤ p_10 + 200) (v := fun (a : St) => vS a) (new := fun (a : St) => []) (xs := [.tmp 62]) (vs := [pt_ rp]) ([bk_ p4 #[i6_ a8.n, str a8.set, str a8.rel] 28, bk_ p3 #[i6_ 0, str ([]), str ([])] 28, bk_ p2 #[i6_ 0, str ([]), str ([])] 28] : List (Nat × Obj)) rfl rfl rfl rfl Tryd.call121 rfl (fun w1 hw1 => (l1Some_ok B w0 (([bk_ p4 #[i6_ a8.n, str a8.set, str a8.rel] 28, bk_ p3 #[i6_ 0, str ([]), str ([])] 28, bk_ p2 #[i6_ 0, str ([]), str ([])] 28] : List (Nat × Obj)) ++ hs) rp p_10 bv L w1 (fun w2 hw2 => hb w2 (Own.drop (f := ([bk_ p4 #[i6_ a8.n, str a8.set, str a8.rel] 28, bk_ p3 #[i6_ 0, str ([]), str ([])] 28, bk_ p2 #[i6_ 0, str ([]), str ([])] 28] : List (Nat × Obj))) hw2)) hL8 hL (by omega) hw1).mono fun en w' ⟨a', p', h1, h2, h3⟩ => ⟨a', p', h1, h2, h3⟩) fun a63 p_63 hKp_63 => ?_
    show Ll _ _ (Own _ _ (_ :: _ :: _ :: _ :: hs)) _ _ ((63, vS a63) :: _) _ _ _
    obtain ⟨⟨hfa63, h5a63⟩, hep_63⟩ := hKp_63
    have hloa63 := hfa63.lo
    refine Ll.nil (Ld.joint (pk [0] rfl rfl) ?_)
    refine Ld.loud rfl ?_
    refine Ll.storeBox (cs' := #[i6_ a8.n, str a8.set, str a8.rel]) (hs' := (_ :: _ :: bk_ p2 #[i6_ a8.n, str a8.set, str a8.rel] 28 :: _ :: hs)) 2 rfl rfl rfl rfl rfl (by kernel_rfl : _ = some Tryd.t28) rfl rfl rfl rfl rfl ?_
    refine Ll.nil (Ld.joint (pk [0] rfl rfl) ?_)
    refine Ld.loud rfl ?_
    refine Ll.storeBox (cs' := #[i6_ a63.n, str a63.set, str a63.rel]) (hs' := (_ :: bk_ p3 #[i6_ a63.n, str a63.set, str a63.rel] 28 :: _ :: _ :: hs)) 1 rfl rfl rfl rfl rfl (by kernel_rfl : _ = some Tryd.t28) rfl rfl rfl rfl rfl ?_
    refine Ll.nil (Ld.joint (pk [0] rfl rfl) ?_)
    refine Ld.nil ?_
    refine Kt.sel [2, 3] [_, _] rfl ?_
    refine Wk.ret (Kt.endMany rfl (.cell (cs := #[i6_ a8.n, str a8.set, str a8.rel]) rfl (fun w1 hw1 => hw1.loadBox 2 rfl Tryd.isAgg28 Tryd.sizeOf28) (.cell (cs := #[i6_ a63.n, str a63.set, str a63.rel]) rfl (fun w1 hw1 => hw1.loadBox 1 rfl Tryd.isAgg28 Tryd.sizeOf28) ResAt.nil)) (by simp) fun w' hw => ?_)
    -- ret 3: vS a8; vS a63
    exact ⟨a8, a63, p_63, rfl, ⟨⟨⟨hfa8, h5a8⟩, ⟨hfa63, h5a63⟩⟩, by omega⟩, hw.sub (List.Sublist.cons _ (List.Sublist.cons _ (List.Sublist.cons _ (List.Sublist.cons_cons _ (List.Sublist.refl _)))))⟩

set_option maxHeartbeats 400000 in
/-- spec.l15Open -/
theorem open_ok (B : Nat) (w0 : World) (fr hs : List (Nat × Obj)) (bv : Value) (L : List Int) (w : World) (hb : ∀ w, Own B w0 hs w → Row w bv (u8s L)) (hL8 : Bytes8 L) (hLs : L.length ≤ 1048576) (hw : Own B w0 (fr ++ hs) w) :
    Calls Tryd.prog 69 [bv].toArray w fun en w' => ∃ (rp : Nat) (v : Value) (M : List Int), en = .returned (.pointer (some ⟨rp, 0, none⟩)) ∧ (M.length ≤ 2000 ∧ Bytes8 M ∧ ∀ w, Own B w0 hs w → Row w v (u8s M)) ∧ Own B w0 ([(rp, .cells #[v, .int .i64 ((0 : Nat) : Int)] 110 (0, 0))] ++ (fr ++ hs)) w' := by
 refine fnStartC (Own B w0 (fr ++ hs)) (n := 11) (e := [(0, bv)]) Tryd.func69 rfl rfl rfl rfl Ends.both hw ?_
 obtain ⟨ad, cap, hbv, -⟩ := hb w (Own.drop (f := fr) hw)
 refine Wk.seq ?_
 refine Wk.regionQ ?_
 refine Lq.run 1 rfl ?_
 refine Lq.nil ?_
 refine Kt.sel [0] [_] rfl ?_
 refine Wk.seq ?_
 refine Wk.seq ?_
 refine Wk.regionQ ?_
 refine Lq.run 1 rfl ?_
 refine Lq.op (v := i6_ ((L.length : Int))) rfl rfl rfl (OpQ.lenRow rfl Tryd.runUnderlying45 rfl (u8s_length _) (fun w1 hw1 => hb _ (Own.drop (f := fr) hw1))) ?_
 refine Lq.run 1 rfl ?_
 refine Lq.nil ?_
 refine Kt.sel [0, 5] [_, _] rfl ?_
 refine Wk.cond (b := decide ((2000 : Int) < ((L.length : Int)))) rfl (fun h5 => ?_) (fun h5 => ?_)
 ·
  replace h5 := of_decide_eq_true h5
  refine Wk.regionQ ?_
  refine Lq.run 1 rfl ?_
  refine Lq.op (v := sTake bv ((2000 : Int).toNat)) rfl rfl rfl (OpQ.takeRow (i := 2000) rfl Tryd.runUnderlying45 Tryd.sizeOf5 rfl rfl (by omega) (by rw [u8s_length]; omega) (fun w1 hw1 => hb _ (Own.drop (f := fr) hw1))) ?_
  refine Lq.run 1 rfl ?_
  refine Lq.nil ?_
  refine Kt.sel [0] [_] rfl ?_
  refine Wk.seq ?_
  refine Wk.region ?_
  refine Ll.run 1 rfl ?_
  refine Ll.op (v := .agg #[sTake bv ((2000 : Int).toNat), i6_ (((0 : Nat) : Int))]) rfl rfl rfl (OpQ.build (xs := [.tmp 8]) (vs := [sTake bv ((2000 : Int).toNat)]) rfl rfl (by rw [hbv]; kernel_rfl)) ?_
  refine Ll.box (v := .agg #[sTake bv ((2000 : Int).toNat), i6_ (((0 : Nat) : Int))]) rfl rfl rfl rfl rfl fun p10 hp10 => ?_
  show Ll _ _ (Own _ _ (_ :: (fr ++ hs))) _ _ ((10, pt_ p10) :: _) _ _ _
  refine Ll.run 1 rfl ?_
  refine Ll.nil ?_
  refine Kt.sel [2] [_] rfl ?_
  refine Wk.ret (Kt.end1 rfl rfl fun w' hw => ?_)
  -- ret 0: pt_ p10
  exact ⟨p10, _, L.take 2000, rfl, ⟨by rw [List.length_take]; omega, hL8.take _, fun w1 h1 => by rw [u8s_take]; exact Row.take (hb _ h1) 2000 (by rw [u8s_length]; omega)⟩, hw⟩
 ·
  replace h5 := of_decide_eq_false h5
  refine Wk.skip ?_
  refine Kt.sel [0] [_] rfl ?_
  refine Wk.seq ?_
  refine Wk.region ?_
  refine Ll.run 1 rfl ?_
  refine Ll.op (v := .agg #[bv, i6_ (((0 : Nat) : Int))]) rfl rfl rfl (OpQ.build (xs := [.tmp 8]) (vs := [bv]) rfl rfl (by rw [hbv]; kernel_rfl)) ?_
  refine Ll.box (v := .agg #[bv, i6_ (((0 : Nat) : Int))]) rfl rfl rfl rfl rfl fun p10_1 hp10_1 => ?_
  show Ll _ _ (Own _ _ (_ :: (fr ++ hs))) _ _ ((10, pt_ p10_1) :: _) _ _ _
  refine Ll.run 1 rfl ?_
  refine Ll.nil ?_
  refine Kt.sel [2] [_] rfl ?_
  refine Wk.ret (Kt.end1 rfl rfl fun w' hw => ?_)
  -- ret 1: pt_ p10_1
  exact ⟨p10_1, bv, L, rfl, ⟨by omega, hL8, hb⟩, hw⟩

end Go.Proofs.YtjcoijejhachhaaDoor
