/-
  Walks: the law of rounds and turns.
-/
import Derived.Test.YtjcoijejhachhaaDoorPlain52
import Derived.Test.YtjcoijejhachhaaDoorPebWM
import Derived.Test.YtjcoijejhachhaaDoorGamesM
import Derived.Test.YtjcoijejhachhaaDoorDrawsP
import Derived.Test.YtjcoijejhachhaaDoorDrawsQ
import Derived.Test.YtjcoijejhachhaaDoorBase
namespace Go.Proofs.YtjcoijejhachhaaDoor
open Go.RowKit Go.Wk
set_option linter.unusedSimpArgs false

set_option maxHeartbeats 400000 in
/-- impl.StructureValid -/
theorem iValid_ok (a : St) (w : World) (ha : a.Small) :
    Calls Tryd.prog 40 [vS a].toArray w fun en w' => en = .returned (.bool (validB a)) ∧ Below w.heap.size w w' := by
 refine fnStart (n := 5) (e := [(0, vS a)]) Tryd.func40 rfl rfl rfl rfl Ends.both ?_
 have hsa := ha
 refine Wk.seq ?_
 refine Wk.region ?_
 refine Ll.box (v := vS a) rfl rfl rfl rfl rfl fun p1 hp1 => ?_
 show Ll _ _ (Own _ _ [_]) _ _ ((1, pt_ p1) :: _) _ _ _
 refine Ll.run 1 rfl ?_
 refine Ll.nil ?_
 refine Kt.sel [1] [_] rfl ?_
 refine Wk.seq ?_
 refine Wk.regionQ ?_
 refine Lq.op rfl rfl rfl (OpQ.loadBox (cs := #[i6_ a.n, str a.set, str a.rel]) 0 rfl Tryd.isAgg28 rfl rfl Tryd.sizeOf28) ?_
 refine Lq.op (v := bo_ (validB a)) rfl rfl rfl (OpQ.call rfl Tryd.call53 rfl Own.stable (fun w1 hw1 => isStructure_ok a w1 hsa)) ?_
 refine Lq.run 1 rfl ?_
 refine Lq.nil ?_
 refine Kt.sel [2] [_] rfl ?_
 refine Wk.ret (Kt.end1 rfl rfl fun w' hw => ?_)
 -- ret 0: bo_ (validB a)
 exact ⟨rfl, hw.below⟩

set_option maxHeartbeats 400000 in
/-- spec.DrawSameRank -/
theorem drawRank_ok (B : Nat) (w0 : World) (hs : List (Nat × Obj)) (bv : Value) (L : List Int) (w : World) (hb : ∀ w, Own B w0 hs w → Row w bv (u8s L)) (hL8 : Bytes8 L) (hLs : L.length ≤ 1048576) (hw : Own B w0 hs w) :
    Calls Tryd.prog 37 [bv].toArray w fun en w' => ∃ a : St, ∃ b : St, ∃ x : Int, en = .returned (.tuple #[vS a, vS b, .int .i64 x]) ∧ ((a.Tame ∧ b.Tame) ∧ -1 ≤ x ∧ x ≤ 4) ∧ Own B w0 hs w' := by
 refine fnStartC (Own B w0 hs) (n := 30) (e := [(0, bv)]) Tryd.func37 rfl rfl rfl rfl Ends.both hw ?_
 refine Wk.seq ?_
 refine Wk.region ?_
 refine Ll.alloc rfl rfl rfl rfl Tryd.zeroValue28 fun p2 hp2 => ?_
 show Ll _ _ (Own _ _ (bk_ p2 #[i6_ 0, str ([]), str ([])] 28 :: hs)) _ _ ((2, pt_ p2) :: _) _ _ _
 refine Ll.alloc rfl rfl rfl rfl Tryd.zeroValue28 fun p3 hp3 => ?_
 show Ll _ _ (Own _ _ (bk_ p3 #[i6_ 0, str ([]), str ([])] 28 :: _ :: hs)) _ _ ((3, pt_ p3) :: _) _ _ _
 refine Ll.run 1 rfl ?_
 refine Ll.nil ?_
 refine Kt.sel [0, 2, 3] [_, _, _] rfl ?_
 refine Wk.seq ?_
 refine Wk.region ?_
 refine Ll.run 1 rfl ?_
 refine Ll.callBack (ok := fun ((rp, v, M) : Nat × Value × List Int) => M.length ≤ 2000 ∧ Bytes8 M ∧ ∀ w1, Own B w0 hs w1 → Row w1 v (u8s M)) (v := fun ((rp, v, M) : Nat × Value × List Int) => .pointer (some ⟨rp, 0, none⟩)) (new := fun ((rp, v, M) : Nat × Value × List Int) => [(rp, .cells #[v, .int .i64 ((0 : Nat) : Int)] 110 (0, 0))]) (hs := hs) (xs := [.tmp 8]) (vs := [bv]) ([bk_ p3 #[i6_ 0, str ([]), str ([])] 28, bk_ p2 #[i6_ 0, str ([]), str ([])] 28] : List (Nat × Obj)) rfl rfl rfl rfl Tryd.call69 rfl (fun w1 hw1 => (open_ok B w0 ([bk_ p3 #[i6_ 0, str ([]), str ([])] 28, bk_ p2 #[i6_ 0, str ([]), str ([])] 28] : List (Nat × Obj)) hs _ _ w1 hb hL8 hLs hw1).mono fun en w' ⟨rp, v, M, h1, h2, h3⟩ => ⟨(rp, v, M), h1, h2, h3⟩) fun ⟨rp, dv, M⟩ hO => ?_
 dsimp only at hO
 obtain ⟨hM2, hM8, hMb⟩ := hO
 show Ll _ _ (Own _ _ (_ :: _ :: _ :: hs)) _ _ ((9, pt_ rp) :: _) _ _ _
 refine Ll.run 1 rfl ?_
 refine Ll.nil ?_
 refine Kt.sel [2, 3, 5] [_, _, _] rfl ?_
 refine Wk.seq ?_
 refine Wk.region ?_
 refine Ll.run 1 rfl ?_
 refine Ll.callRd (rp := rp) (RT := 110) (p := 0) (bv := dv) (hs := hs) (ok := fun ((a, b) : St × St) p' => ((a.Fine ∧ a.n ≤ 5) ∧ (b.Fine ∧ b.n ≤ 5)) ∧ p' ≤ 0 + 1000) (v := fun ((a, b) : St × St) => .tuple #[vS a, vS b]) (new := fun ((a, b) : St × St) => []) (xs := [.tmp 11]) (vs := [pt_ rp]) ([bk_ p3 #[i6_ 0, str ([]), str ([])] 28, bk_ p2 #[i6_ 0, str ([]), str ([])] 28] : List (Nat × Obj)) rfl rfl rfl rfl Tryd.call79 rfl (fun w1 hw1 => (l1Pair_ok B w0 (([bk_ p3 #[i6_ 0, str ([]), str ([])] 28, bk_ p2 #[i6_ 0, str ([]), str ([])] 28] : List (Nat × Obj)) ++ hs) rp 0 dv M w1 (fun w2 hw2 => hMb w2 (Own.drop (f := ([bk_ p3 #[i6_ 0, str ([]), str ([])] 28, bk_ p2 #[i6_ 0, str ([]), str ([])] 28] : List (Nat × Obj))) hw2)) hM8 hM2 (by omega) hw1).mono fun en w' ⟨a', b', p', h1, h2, h3⟩ => ⟨(a', b'), p', h1, h2, h3⟩) fun ⟨a12, b12⟩ p_12 hKp_12 => ?_
 show Ll _ _ (Own _ _ (_ :: _ :: _ :: hs)) _ _ ((12, .tuple #[vS a12, vS b12]) :: _) _ _ _
 obtain ⟨⟨⟨hfa12, h5a12⟩, ⟨hfb12, h5b12⟩⟩, hep_12⟩ := hKp_12
 refine Ll.run 1 rfl ?_
 refine Ll.op (v := vS a12) rfl rfl rfl (OpQ.extract rfl rfl rfl) ?_
 refine Ll.op (v := vS b12) rfl rfl rfl (OpQ.extract rfl rfl rfl) ?_
 refine Ll.alloc rfl rfl rfl rfl Tryd.zeroValue28 fun p6 hp6 => ?_
 show Ll _ _ (Own _ _ (bk_ p6 #[i6_ 0, str ([]), str ([])] 28 :: _ :: _ :: _ :: hs)) _ _ ((6, pt_ p6) :: _) _ _ _
 refine Ll.alloc rfl rfl rfl rfl Tryd.zeroValue28 fun p7 hp7 => ?_
 show Ll _ _ (Own _ _ (bk_ p7 #[i6_ 0, str ([]), str ([])] 28 :: _ :: _ :: _ :: _ :: hs)) _ _ ((7, pt_ p7) :: _) _ _ _
 refine Ll.storeBox (cs' := #[i6_ a12.n, str a12.set, str a12.rel]) (hs' := (_ :: bk_ p6 #[i6_ a12.n, str a12.set, str a12.rel] 28 :: _ :: _ :: _ :: hs)) 1 rfl rfl rfl rfl rfl (by kernel_rfl : _ = some Tryd.t28) rfl rfl rfl rfl rfl ?_
 refine Ll.storeBox (cs' := #[i6_ b12.n, str b12.set, str b12.rel]) (hs' := (bk_ p7 #[i6_ b12.n, str b12.set, str b12.rel] 28 :: _ :: _ :: _ :: _ :: hs)) 0 rfl rfl rfl rfl rfl (by kernel_rfl : _ = some Tryd.t28) rfl rfl rfl rfl rfl ?_
 refine Ll.nil ?_
 refine Kt.sel [2, 3, 5, 6, 7] [_, _, _, _, _] rfl ?_
 refine Wk.seq ?_
 refine Wk.seq ?_
 refine Wk.region ?_
 refine Ll.run 1 rfl ?_
 refine Ll.callRd (rp := rp) (RT := 110) (p := p_12) (bv := dv) (hs := hs) (ok := fun (k : Int) p' => 0 ≤ k ∧ (1 ≤ (30 : Int) → k < 30) ∧ p' = p_12 + 1) (v := fun (k : Int) => i6_ k) (new := fun (k : Int) => []) (xs := [.tmp 15, .const (i6_ 30)]) (vs := [pt_ rp, i6_ 30]) ([bk_ p7 #[i6_ b12.n, str b12.set, str b12.rel] 28, bk_ p6 #[i6_ a12.n, str a12.set, str a12.rel] 28, bk_ p3 #[i6_ 0, str ([]), str ([])] 28, bk_ p2 #[i6_ 0, str ([]), str ([])] 28] : List (Nat × Obj)) rfl rfl rfl rfl Tryd.call80 rfl (fun w1 hw1 => (pick_ok B w0 (([bk_ p7 #[i6_ b12.n, str b12.set, str b12.rel] 28, bk_ p6 #[i6_ a12.n, str a12.set, str a12.rel] 28, bk_ p3 #[i6_ 0, str ([]), str ([])] 28, bk_ p2 #[i6_ 0, str ([]), str ([])] 28] : List (Nat × Obj)) ++ hs) rp p_12 dv M 30 w1 (fun w2 hw2 => hMb w2 (Own.drop (f := ([bk_ p7 #[i6_ b12.n, str b12.set, str b12.rel] 28, bk_ p6 #[i6_ a12.n, str a12.set, str a12.rel] 28, bk_ p3 #[i6_ 0, str ([]), str ([])] 28, bk_ p2 #[i6_ 0, str ([]), str ([])] 28] : List (Nat × Obj))) hw2)) hM8 hM2 (by omega) hw1).mono fun en w' ⟨k', p', h1, h2, h3⟩ => ⟨k', p', h1, h2, h3⟩) fun k16 p_16 hKp_16 => ?_
 show Ll _ _ (Own _ _ (_ :: _ :: _ :: _ :: _ :: hs)) _ _ ((16, i6_ k16) :: _) _ _ _
 obtain ⟨h0k16, h1k16, hep_16⟩ := hKp_16
 try have hltk16 := h1k16 (by first | omega | (split <;> omega) | decide)
 refine Ll.run 1 rfl ?_
 refine Ll.nil ?_
 refine Kt.sel [2, 3, 5, 6, 7, 17] [_, _, _, _, _, _] rfl ?_
 refine Wk.cond (b := decide (k16 = (0 : Int))) rfl (fun h17 => ?_) (fun h17 => ?_)
 ·
  replace h17 := of_decide_eq_true h17
  refine Wk.seq ?_
  refine Wk.regionU (S := Own B w0 [bk_ p7 #[i6_ b12.n, str b12.set, str b12.rel] 28, bk_ p6 #[i6_ a12.n, str a12.set, str a12.rel] 28]) (.take 0 (.take 1 (.take 3 (.take 4 (.two 2 (.one 5 (.one 6 (.one 7 (.one 8 (.take 9 .done))))) 5 (.one 2 (.one 6 (.one 7 (.one 8 (.take 9 .done)))))))))) Base.mixed (fun _ h => h.drawn) (by kernel_rfl) ?_
  refine Lu.run 1 rfl (pk [0, 1] rfl rfl) ?_
  refine Lu.take rfl rfl rfl rfl rfl (OpQ.loadBox (cs := #[i6_ a12.n, str a12.set, str a12.rel]) 1 rfl Tryd.isAgg28 rfl rfl Tryd.sizeOf28) (pk [0, 1] rfl rfl) ?_
  refine Lu.take rfl rfl rfl rfl rfl (OpQ.loadBox (cs := #[i6_ b12.n, str b12.set, str b12.rel]) 0 rfl Tryd.isAgg28 rfl rfl Tryd.sizeOf28) (pk [0, 1] rfl rfl) ?_
  refine Lu.run 1 rfl (pk [0, 1] rfl rfl) ?_
  refine Lu.two rfl rfl ?_ ?_
  ·
   refine Ll.callRd (rp := rp) (RT := 110) (p := p_16) (bv := dv) (hs := hs) (ok := fun (b : St) p' => ((-9223372036854775808 ≤ b.n ∧ b.n ≤ 9223372036854775807) ∧ b.set.length ≤ 50000 ∧ b.rel.length ≤ 50000) ∧ p' ≤ p_16 + 10) (v := fun (b : St) => vS b) (new := fun (b : St) => []) (xs := [.tmp 18, .tmp 19]) (vs := [pt_ rp, vS a12]) ([bk_ p7 #[i6_ b12.n, str b12.set, str b12.rel] 28, bk_ p6 #[i6_ a12.n, str a12.set, str a12.rel] 28, bk_ p3 #[i6_ 0, str ([]), str ([])] 28, bk_ p2 #[i6_ 0, str ([]), str ([])] 28] : List (Nat × Obj)) rfl rfl rfl rfl Tryd.call81 rfl (fun w1 hw1 => (l1Bad_ok B w0 (([bk_ p7 #[i6_ b12.n, str b12.set, str b12.rel] 28, bk_ p6 #[i6_ a12.n, str a12.set, str a12.rel] 28, bk_ p3 #[i6_ 0, str ([]), str ([])] 28, bk_ p2 #[i6_ 0, str ([]), str ([])] 28] : List (Nat × Obj)) ++ hs) rp p_16 dv M a12 w1 (fun w2 hw2 => hMb w2 (Own.drop (f := ([bk_ p7 #[i6_ b12.n, str b12.set, str b12.rel] 28, bk_ p6 #[i6_ a12.n, str a12.set, str a12.rel] 28, bk_ p3 #[i6_ 0, str ([]), str ([])] 28, bk_ p2 #[i6_ 0, str ([]), str ([])] 28] : List (Nat × Obj))) hw2)) hM8 hM2 hfa12 (by omega) hw1).mono fun en w' ⟨b', p', h1, h2, h3⟩ => ⟨b', p', h1, h2, h3⟩) fun b20 p_20 hKp_20 => ?_
   show Ll _ _ (Own _ _ (_ :: _ :: _ :: _ :: _ :: hs)) _ _ ((20, vS b20) :: _) _ _ _
   obtain ⟨⟨⟨hlob20, hhib20⟩, hssb20, hrrb20⟩, hep_20⟩ := hKp_20
   refine Ll.nil (Lu.joint (pk [0, 1] rfl rfl) ?_)
   refine Lu.loud rfl ?_
   refine Ll.slice (xs := [.const (i6_ (-1)), .const (i6_ 4), .const (i6_ 0)]) (vs := [i6_ (-1), i6_ 4, i6_ 0]) Base.elem24 rfl rfl rfl rfl rfl rfl (by decide) rfl fun p23 hp23 => ?_
   refine Ll.nil (Lu.joint (pk [1, 2] rfl rfl) ?_)
   refine Lu.loud rfl ?_
   refine Ll.callRd (rp := rp) (RT := 110) (p := p_20) (bv := dv) (hs := hs) (ok := fun (v : Int) p' => v ∈ ([-1, 4, 0]) ∧ p' = p_20 + 1) (v := fun (v : Int) => i6_ v) (new := fun (v : Int) => []) (xs := [.tmp 22, .tmp 23]) (vs := [pt_ rp, sl_ p23 3 3]) ([bk_ p23 #[i6_ (-1), i6_ 4, i6_ 0] 3, bk_ p7 #[i6_ b12.n, str b12.set, str b12.rel] 28, bk_ p6 #[i6_ a12.n, str a12.set, str a12.rel] 28, bk_ p3 #[i6_ 0, str ([]), str ([])] 28, bk_ p2 #[i6_ 0, str ([]), str ([])] 28] : List (Nat × Obj)) rfl rfl rfl rfl Tryd.call71 rfl (fun w1 hw1 => (num_ok B w0 (([bk_ p23 #[i6_ (-1), i6_ 4, i6_ 0] 3, bk_ p7 #[i6_ b12.n, str b12.set, str b12.rel] 28, bk_ p6 #[i6_ a12.n, str a12.set, str a12.rel] 28, bk_ p3 #[i6_ 0, str ([]), str ([])] 28, bk_ p2 #[i6_ 0, str ([]), str ([])] 28] : List (Nat × Obj)) ++ hs) rp p_20 dv M (sl_ p23 3 3) ([-1, 4, 0]) w1 (fun w2 hw2 => hMb w2 (Own.drop (f := ([bk_ p23 #[i6_ (-1), i6_ 4, i6_ 0] 3, bk_ p7 #[i6_ b12.n, str b12.set, str b12.rel] 28, bk_ p6 #[i6_ a12.n, str a12.set, str a12.rel] 28, bk_ p3 #[i6_ 0, str ([]), str ([])] 28, bk_ p2 #[i6_ 0, str ([]), str ([])] 28] : List (Nat × Obj))) hw2)) hM8 hM2 (fun w2 h2 => (Own.row h2 (i := 0) rfl (n := 3) (cap := 3) (vs := ints [-1, 4, 0]) rfl rfl (by decide))) (by simp) (by omega) hw1).mono fun en w' ⟨v', p', h1, h2, h3⟩ => ⟨v', p', h1, h2, h3⟩) fun v24 p_24 hKp_24 => ?_
   show Ll _ _ (Own _ _ (_ :: _ :: _ :: _ :: _ :: _ :: hs)) _ _ ((24, i6_ v24) :: _) _ _ _
   obtain ⟨hmv24, hep_24⟩ := hKp_24
   have hvv24 : -1 ≤ v24 ∧ v24 ≤ 4 := by simp at hmv24; omega
   refine Ll.nil (Lu.joint (pk [1, 2] rfl rfl) ?_)
   refine Lu.loud rfl ?_
   refine Ll.storeBox (cs' := #[i6_ b20.n, str b20.set, str b20.rel]) (hs' := (_ :: _ :: _ :: _ :: bk_ p2 #[i6_ b20.n, str b20.set, str b20.rel] 28 :: _ :: hs)) 4 rfl rfl rfl rfl rfl (by kernel_rfl : _ = some Tryd.t28) rfl rfl rfl rfl rfl ?_
   refine Ll.nil (Lu.joint (pk [1, 2] rfl rfl) ?_)
   refine Lu.loud rfl ?_
   refine Ll.storeBox (cs' := #[i6_ b12.n, str b12.set, str b12.rel]) (hs' := (_ :: _ :: _ :: bk_ p3 #[i6_ b12.n, str b12.set, str b12.rel] 28 :: _ :: _ :: hs)) 3 rfl rfl rfl rfl rfl (by kernel_rfl : _ = some Tryd.t28) rfl rfl rfl rfl rfl ?_
   refine Ll.nil (Lu.joint (pk [1, 2] rfl rfl) ?_)
   refine Lu.run 1 rfl (pk [1, 2] rfl rfl) ?_
   refine Lu.nil ?_
   refine Kt.sel [2, 3, 4] [_, _, _] rfl ?_
   refine Wk.ret (Kt.endMany rfl (.cell (cs := #[i6_ b20.n, str b20.set, str b20.rel]) rfl (fun w1 hw1 => hw1.loadBox 4 rfl Tryd.isAgg28 Tryd.sizeOf28) (.cell (cs := #[i6_ b12.n, str b12.set, str b12.rel]) rfl (fun w1 hw1 => hw1.loadBox 3 rfl Tryd.isAgg28 Tryd.sizeOf28) (.tmp (v := i6_ v24) rfl ResAt.nil))) (by simp) fun w' hw => ?_)
   -- ret 0: vS b20; vS b12; i6_ v24
   exact ⟨b20, b12, v24, rfl, ⟨⟨⟨hlob20, hhib20, hssb20, hrrb20⟩, hfb12.tame⟩, ⟨by omega, by omega⟩⟩, Own.drop (f := [_, _, _, _, _, _]) hw⟩
  ·
   refine Ll.slice (xs := [.const (i6_ (-1)), .const (i6_ 4), .const (i6_ 0)]) (vs := [i6_ (-1), i6_ 4, i6_ 0]) Base.elem24 rfl rfl rfl rfl rfl rfl (by decide) rfl fun p23_1 hp23_1 => ?_
   refine Ll.nil (Lu.joint (pk [1, 2] rfl rfl) ?_)
   refine Lu.loud rfl ?_
   refine Ll.callRd (rp := rp) (RT := 110) (p := p_16) (bv := dv) (hs := hs) (ok := fun (b : St) p' => ((-9223372036854775808 ≤ b.n ∧ b.n ≤ 9223372036854775807) ∧ b.set.length ≤ 50000 ∧ b.rel.length ≤ 50000) ∧ p' ≤ p_16 + 10) (v := fun (b : St) => vS b) (new := fun (b : St) => []) (xs := [.tmp 18, .tmp 19]) (vs := [pt_ rp, vS a12]) ([bk_ p23_1 #[i6_ (-1), i6_ 4, i6_ 0] 3, bk_ p7 #[i6_ b12.n, str b12.set, str b12.rel] 28, bk_ p6 #[i6_ a12.n, str a12.set, str a12.rel] 28, bk_ p3 #[i6_ 0, str ([]), str ([])] 28, bk_ p2 #[i6_ 0, str ([]), str ([])] 28] : List (Nat × Obj)) rfl rfl rfl rfl Tryd.call81 rfl (fun w1 hw1 => (l1Bad_ok B w0 (([bk_ p23_1 #[i6_ (-1), i6_ 4, i6_ 0] 3, bk_ p7 #[i6_ b12.n, str b12.set, str b12.rel] 28, bk_ p6 #[i6_ a12.n, str a12.set, str a12.rel] 28, bk_ p3 #[i6_ 0, str ([]), str ([])] 28, bk_ p2 #[i6_ 0, str ([]), str ([])] 28] : List (Nat × Obj)) ++ hs) rp p_16 dv M a12 w1 (fun w2 hw2 => hMb w2 (Own.drop (f := ([bk_ p23_1 #[i6_ (-1), i6_ 4, i6_ 0] 3, bk_ p7 #[i6_ b12.n, str b12.set, str b12.rel] 28, bk_ p6 #[i6_ a12.n, str a12.set, str a12.rel] 28, bk_ p3 #[i6_ 0, str ([]), str ([])] 28, bk_ p2 #[i6_ 0, str ([]), str ([])] 28] : List (Nat × Obj))) hw2)) hM8 hM2 hfa12 (by omega) hw1).mono fun en w' ⟨b', p', h1, h2, h3⟩ => ⟨b', p', h1, h2, h3⟩) fun b20_1 p_20_1 hKp_20_1 => ?_
   show Ll _ _ (Own _ _ (_ :: _ :: _ :: _ :: _ :: _ :: hs)) _ _ ((20, vS b20_1) :: _) _ _ _
   obtain ⟨⟨⟨hlob20_1, hhib20_1⟩, hssb20_1, hrrb20_1⟩, hep_20_1⟩ := hKp_20_1
   refine Ll.nil (Lu.joint (pk [1, 2] rfl rfl) ?_)
   refine Lu.loud rfl ?_
   refine Ll.callRd (rp := rp) (RT := 110) (p := p_20_1) (bv := dv) (hs := hs) (ok := fun (v : Int) p' => v ∈ ([-1, 4, 0]) ∧ p' = p_20_1 + 1) (v := fun (v : Int) => i6_ v) (new := fun (v : Int) => []) (xs := [.tmp 22, .tmp 23]) (vs := [pt_ rp, sl_ p23_1 3 3]) ([bk_ p23_1 #[i6_ (-1), i6_ 4, i6_ 0] 3, bk_ p7 #[i6_ b12.n, str b12.set, str b12.rel] 28, bk_ p6 #[i6_ a12.n, str a12.set, str a12.rel] 28, bk_ p3 #[i6_ 0, str ([]), str ([])] 28, bk_ p2 #[i6_ 0, str ([]), str ([])] 28] : List (Nat × Obj)) rfl rfl rfl rfl Tryd.call71 rfl (fun w1 hw1 => (num_ok B w0 (([bk_ p23_1 #[i6_ (-1), i6_ 4, i6_ 0] 3, bk_ p7 #[i6_ b12.n, str b12.set, str b12.rel] 28, bk_ p6 #[i6_ a12.n, str a12.set, str a12.rel] 28, bk_ p3 #[i6_ 0, str ([]), str ([])] 28, bk_ p2 #[i6_ 0, str ([]), str ([])] 28] : List (Nat × Obj)) ++ hs) rp p_20_1 dv M (sl_ p23_1 3 3) ([-1, 4, 0]) w1 (fun w2 hw2 => hMb w2 (Own.drop (f := ([bk_ p23_1 #[i6_ (-1), i6_ 4, i6_ 0] 3, bk_ p7 #[i6_ b12.n, str b12.set, str b12.rel] 28, bk_ p6 #[i6_ a12.n, str a12.set, str a12.rel] 28, bk_ p3 #[i6_ 0, str ([]), str ([])] 28, bk_ p2 #[i6_ 0, str ([]), str ([])] 28] : List (Nat × Obj))) hw2)) hM8 hM2 (fun w2 h2 => (Own.row h2 (i := 0) rfl (n := 3) (cap := 3) (vs := ints [-1, 4, 0]) rfl rfl (by decide))) (by simp) (by omega) hw1).mono fun en w' ⟨v', p', h1, h2, h3⟩ => ⟨v', p', h1, h2, h3⟩) fun v24_1 p_24_1 hKp_24_1 => ?_
   show Ll _ _ (Own _ _ (_ :: _ :: _ :: _ :: _ :: _ :: hs)) _ _ ((24, i6_ v24_1) :: _) _ _ _
   obtain ⟨hmv24_1, hep_24_1⟩ := hKp_24_1
   have hvv24_1 : -1 ≤ v24_1 ∧ v24_1 ≤ 4 := by simp at hmv24_1; omega
   refine Ll.nil (Lu.joint (pk [1, 2] rfl rfl) ?_)
   refine Lu.loud rfl ?_
   refine Ll.storeBox (cs' := #[i6_ b20_1.n, str b20_1.set, str b20_1.rel]) (hs' := (_ :: _ :: _ :: _ :: bk_ p2 #[i6_ b20_1.n, str b20_1.set, str b20_1.rel] 28 :: _ :: hs)) 4 rfl rfl rfl rfl rfl (by kernel_rfl : _ = some Tryd.t28) rfl rfl rfl rfl rfl ?_
   refine Ll.nil (Lu.joint (pk [1, 2] rfl rfl) ?_)
   refine Lu.loud rfl ?_
   refine Ll.storeBox (cs' := #[i6_ b12.n, str b12.set, str b12.rel]) (hs' := (_ :: _ :: _ :: bk_ p3 #[i6_ b12.n, str b12.set, str b12.rel] 28 :: _ :: _ :: hs)) 3 rfl rfl rfl rfl rfl (by kernel_rfl : _ = some Tryd.t28) rfl rfl rfl rfl rfl ?_
   refine Ll.nil (Lu.joint (pk [1, 2] rfl rfl) ?_)
   refine Lu.run 1 rfl (pk [1, 2] rfl rfl) ?_
   refine Lu.nil ?_
   refine Kt.sel [2, 3, 4] [_, _, _] rfl ?_
   refine Wk.ret (Kt.endMany rfl (.cell (cs := #[i6_ b20_1.n, str b20_1.set, str b20_1.rel]) rfl (fun w1 hw1 => hw1.loadBox 4 rfl Tryd.isAgg28 Tryd.sizeOf28) (.cell (cs := #[i6_ b12.n, str b12.set, str b12.rel]) rfl (fun w1 hw1 => hw1.loadBox 3 rfl Tryd.isAgg28 Tryd.sizeOf28) (.tmp (v := i6_ v24_1) rfl ResAt.nil))) (by simp) fun w' hw => ?_)
   -- ret 1: vS b20_1; vS b12; i6_ v24_1
   exact ⟨b20_1, b12, v24_1, rfl, ⟨⟨⟨hlob20_1, hhib20_1, hssb20_1, hrrb20_1⟩, hfb12.tame⟩, ⟨by omega, by omega⟩⟩, Own.drop (f := [_, _, _, _, _, _]) hw⟩
 ·
  replace h17 := of_decide_eq_false h17
  refine Wk.skip ?_
  refine Kt.sel [2, 3, 5, 6, 7] [_, _, _, _, _] rfl ?_
  refine Wk.seq ?_
  refine Wk.regionS (S := Own B w0 [bk_ p7 #[i6_ b12.n, str b12.set, str b12.rel] 28, bk_ p6 #[i6_ a12.n, str a12.set, str a12.rel] 28]) [(0, true), (1, true), (2, true), (3, false), (4, false), (5, false), (6, false), (7, true)] Base.mixed (fun _ h => h.drawn) (by kernel_rfl) ?_
  refine Ld.take rfl rfl rfl rfl rfl (OpQ.loadBox (cs := #[i6_ a12.n, str a12.set, str a12.rel]) 1 rfl Tryd.isAgg28 rfl rfl Tryd.sizeOf28) (pk [0, 1] rfl rfl) ?_
  refine Ld.take rfl rfl rfl rfl rfl (OpQ.loadBox (cs := #[i6_ b12.n, str b12.set, str b12.rel]) 0 rfl Tryd.isAgg28 rfl rfl Tryd.sizeOf28) (pk [0, 1] rfl rfl) ?_
  refine Ld.run 1 rfl (pk [0, 1] rfl rfl) ?_
  refine Ld.loud rfl ?_
  refine Ll.slice (xs := [.const (i6_ 2), .const (i6_ 1), .const (i6_ 3), .const (i6_ 2), .const (i6_ 0)]) (vs := [i6_ 2, i6_ 1, i6_ 3, i6_ 2, i6_ 0]) Base.elem24 rfl rfl rfl rfl rfl rfl (by decide) rfl fun p28 hp28 => ?_
  refine Ll.nil (Ld.joint (pk [1, 2] rfl rfl) ?_)
  refine Ld.loud rfl ?_
  refine Ll.callRd (rp := rp) (RT := 110) (p := p_16) (bv := dv) (hs := hs) (ok := fun (v : Int) p' => v ∈ ([2, 1, 3, 2, 0]) ∧ p' = p_16 + 1) (v := fun (v : Int) => i6_ v) (new := fun (v : Int) => []) (xs := [.tmp 27, .tmp 28]) (vs := [pt_ rp, sl_ p28 5 5]) ([bk_ p28 #[i6_ 2, i6_ 1, i6_ 3, i6_ 2, i6_ 0] 3, bk_ p7 #[i6_ b12.n, str b12.set, str b12.rel] 28, bk_ p6 #[i6_ a12.n, str a12.set, str a12.rel] 28, bk_ p3 #[i6_ 0, str ([]), str ([])] 28, bk_ p2 #[i6_ 0, str ([]), str ([])] 28] : List (Nat × Obj)) rfl rfl rfl rfl Tryd.call71 rfl (fun w1 hw1 => (num_ok B w0 (([bk_ p28 #[i6_ 2, i6_ 1, i6_ 3, i6_ 2, i6_ 0] 3, bk_ p7 #[i6_ b12.n, str b12.set, str b12.rel] 28, bk_ p6 #[i6_ a12.n, str a12.set, str a12.rel] 28, bk_ p3 #[i6_ 0, str ([]), str ([])] 28, bk_ p2 #[i6_ 0, str ([]), str ([])] 28] : List (Nat × Obj)) ++ hs) rp p_16 dv M (sl_ p28 5 5) ([2, 1, 3, 2, 0]) w1 (fun w2 hw2 => hMb w2 (Own.drop (f := ([bk_ p28 #[i6_ 2, i6_ 1, i6_ 3, i6_ 2, i6_ 0] 3, bk_ p7 #[i6_ b12.n, str b12.set, str b12.rel] 28, bk_ p6 #[i6_ a12.n, str a12.set, str a12.rel] 28, bk_ p3 #[i6_ 0, str ([]), str ([])] 28, bk_ p2 #[i6_ 0, str ([]), str ([])] 28] : List (Nat × Obj))) hw2)) hM8 hM2 (fun w2 h2 => (Own.row h2 (i := 0) rfl (n := 5) (cap := 5) (vs := ints [2, 1, 3, 2, 0]) rfl rfl (by decide))) (by simp) (by omega) hw1).mono fun en w' ⟨v', p', h1, h2, h3⟩ => ⟨v', p', h1, h2, h3⟩) fun v29 p_29 hKp_29 => ?_
  show Ll _ _ (Own _ _ (_ :: _ :: _ :: _ :: _ :: _ :: hs)) _ _ ((29, i6_ v29) :: _) _ _ _
  obtain ⟨hmv29, hep_29⟩ := hKp_29
  have hvv29 : 0 ≤ v29 ∧ v29 ≤ 3 := by simp at hmv29; omega
  refine Ll.nil (Ld.joint (pk [1, 2] rfl rfl) ?_)
  refine Ld.loud rfl ?_
  refine Ll.storeBox (cs' := #[i6_ a12.n, str a12.set, str a12.rel]) (hs' := (_ :: _ :: _ :: _ :: bk_ p2 #[i6_ a12.n, str a12.set, str a12.rel] 28 :: _ :: hs)) 4 rfl rfl rfl rfl rfl (by kernel_rfl : _ = some Tryd.t28) rfl rfl rfl rfl rfl ?_
  refine Ll.nil (Ld.joint (pk [1, 2] rfl rfl) ?_)
  refine Ld.loud rfl ?_
  refine Ll.storeBox (cs' := #[i6_ b12.n, str b12.set, str b12.rel]) (hs' := (_ :: _ :: _ :: bk_ p3 #[i6_ b12.n, str b12.set, str b12.rel] 28 :: _ :: _ :: hs)) 3 rfl rfl rfl rfl rfl (by kernel_rfl : _ = some Tryd.t28) rfl rfl rfl rfl rfl ?_
  refine Ll.nil (Ld.joint (pk [1, 2] rfl rfl) ?_)
  refine Ld.run 1 rfl (pk [1, 2] rfl rfl) ?_
  refine Ld.nil ?_
  refine Kt.sel [2, 3, 4] [_, _, _] rfl ?_
  refine Wk.ret (Kt.endMany rfl (.cell (cs := #[i6_ a12.n, str a12.set, str a12.rel]) rfl (fun w1 hw1 => hw1.loadBox 4 rfl Tryd.isAgg28 Tryd.sizeOf28) (.cell (cs := #[i6_ b12.n, str b12.set, str b12.rel]) rfl (fun w1 hw1 => hw1.loadBox 3 rfl Tryd.isAgg28 Tryd.sizeOf28) (.tmp (v := i6_ v29) rfl ResAt.nil))) (by simp) fun w' hw => ?_)
  -- ret 2: vS a12; vS b12; i6_ v29
  exact ⟨a12, b12, v29, rfl, ⟨⟨hfa12.tame, hfb12.tame⟩, ⟨by omega, by omega⟩⟩, Own.drop (f := [_, _, _, _, _, _]) hw⟩

set_option maxHeartbeats 400000 in
/-- impl.SameRank -/
theorem iSame_ok (a b : St) (w : World) (hsa : a.Small) (hsb : b.Small) (r : Int) :
    Calls Tryd.prog 38 [vS a, vS b, i6_ r].toArray w fun en w' => en = .returned (.bool (secB a [] b [] r)) ∧ Below w.heap.size w w' := by
 refine fnStart (n := 11) (e := [(0, vS a), (1, vS b), (2, i6_ r)]) Tryd.func38 rfl rfl rfl rfl Ends.both ?_
 refine Wk.seq ?_
 refine Wk.region ?_
 refine Ll.box (v := vS a) rfl rfl rfl rfl rfl fun p3 hp3 => ?_
 show Ll _ _ (Own _ _ [_]) _ _ ((3, pt_ p3) :: _) _ _ _
 refine Ll.box (v := vS b) rfl rfl rfl rfl rfl fun p4 hp4 => ?_
 show Ll _ _ (Own _ _ [_, _]) _ _ ((4, pt_ p4) :: _) _ _ _
 refine Ll.run 1 rfl ?_
 refine Ll.nil ?_
 refine Kt.sel [2, 3, 4] [_, _, _] rfl ?_
 refine Wk.seq ?_
 refine Wk.regionQ ?_
 refine Lq.op rfl rfl rfl (OpQ.loadBox (cs := #[i6_ a.n, str a.set, str a.rel]) 1 rfl Tryd.isAgg28 rfl rfl Tryd.sizeOf28) ?_
 refine Lq.op rfl rfl rfl (OpQ.loadBox (cs := #[i6_ b.n, str b.set, str b.rel]) 0 rfl Tryd.isAgg28 rfl rfl Tryd.sizeOf28) ?_
 refine Lq.run 1 rfl ?_
 refine Lq.op (v := bo_ (secB a ([]) b ([]) r)) rfl rfl rfl (OpQ.call rfl Tryd.call82 rfl Own.stable (fun w1 hw1 => iWins_ok a b ([]) ([]) (.slice none 0 0) (.slice none 0 0) w1 hsa hsb Ints.nil Ints.nil (by first | (simp; done) | (simp; omega) | omega) (by first | (simp; done) | (simp; omega) | omega) r)) ?_
 refine Lq.run 1 rfl ?_
 refine Lq.nil ?_
 refine Kt.sel [6] [_] rfl ?_
 refine Wk.ret (Kt.end1 rfl rfl fun w' hw => ?_)
 -- ret 0: bo_ (secB a ([]) b ([]) r)
 exact ⟨rfl, hw.below⟩

set_option maxHeartbeats 400000 in
/-- spec.SameRank -/
theorem sSame_ok (a b : St) (w : World) (hsa : a.Small) (hsb : b.Small) (loa : -9223372036854775808 ≤ a.n) (hia : a.n ≤ 9223372036854775807) (lob : -9223372036854775808 ≤ b.n) (hib : b.n ≤ 9223372036854775807) (r : Int) :
    Calls Tryd.prog 39 [vS a, vS b, i6_ r].toArray w fun en w' => en = .returned (.bool (secB a [] b [] r)) ∧ Below w.heap.size w w' := by
 refine fnStart (n := 13) (e := [(0, vS a), (1, vS b), (2, i6_ r)]) Tryd.func39 rfl rfl rfl rfl Ends.both ?_
 refine Wk.seq ?_
 refine Wk.region ?_
 refine Ll.box (v := vS a) rfl rfl rfl rfl rfl fun p3 hp3 => ?_
 show Ll _ _ (Own _ _ [_]) _ _ ((3, pt_ p3) :: _) _ _ _
 refine Ll.box (v := vS b) rfl rfl rfl rfl rfl fun p4 hp4 => ?_
 show Ll _ _ (Own _ _ [_, _]) _ _ ((4, pt_ p4) :: _) _ _ _
 refine Ll.run 1 rfl ?_
 refine Ll.nil ?_
 refine Kt.sel [2, 3, 4] [_, _, _] rfl ?_
 refine Wk.seq ?_
 refine Wk.region ?_
 refine Ll.op rfl rfl rfl (OpQ.loadBox (cs := #[i6_ a.n, str a.set, str a.rel]) 1 rfl Tryd.isAgg28 rfl rfl Tryd.sizeOf28) ?_
 refine Ll.slice (xs := []) (vs := []) Base.elem24 rfl rfl rfl rfl rfl rfl (by decide) rfl fun p8 hp8 => ?_
 refine Ll.op rfl rfl rfl (OpQ.loadBox (cs := #[i6_ b.n, str b.set, str b.rel]) 1 rfl Tryd.isAgg28 rfl rfl Tryd.sizeOf28) ?_
 refine Ll.slice (xs := []) (vs := []) Base.elem24 rfl rfl rfl rfl rfl rfl (by decide) rfl fun p10 hp10 => ?_
 refine Ll.run 1 rfl ?_
 refine Ll.op (v := bo_ (secB a ([]) b ([]) r)) rfl rfl rfl (OpQ.call rfl Tryd.call83 rfl Own.stable (fun w1 hw1 => sWins_ok a b ([]) ([]) (sl_ p8 0 0) (sl_ p10 0 0) w1 hsa hsb (Own.row hw1 (i := 1) rfl (n := 0) (cap := 0) (vs := ints []) rfl rfl (by decide)) (Own.row hw1 (i := 0) rfl (n := 0) (cap := 0) (vs := ints []) rfl rfl (by decide)) (by first | (simp; done) | (simp; omega) | omega) (by first | (simp; done) | (simp; omega) | omega) loa hia lob hib r)) ?_
 refine Ll.run 1 rfl ?_
 refine Ll.nil ?_
 refine Kt.sel [6] [_] rfl ?_
 refine Wk.ret (Kt.end1 rfl rfl fun w' hw => ?_)
 -- ret 0: bo_ (secB a ([]) b ([]) r)
 exact ⟨rfl, hw.below⟩

set_option maxHeartbeats 400000 in
/-- laws.FnPebblesRounds -/
theorem lawFnRounds (bv : Value) (L : List Int) (w : World) (hbv : Row w bv (u8s L)) (hL8 : Bytes8 L) (hLm : L.length ≤ 9223372036854775807) :
    Calls Tryd.prog 13 [bv].toArray w fun en w' => en = .returned (.bool true) ∧ Below w.heap.size w w' := by
 refine fnStart (n := 93) (e := [(0, bv)]) Tryd.func13 rfl rfl rfl rfl Ends.both ?_
 refine Wk.seq ?_
 refine Wk.regionQ ?_
 refine Lq.run 1 rfl ?_
 refine Lq.nil ?_
 refine Kt.sel [0] [_] rfl ?_
 refine Wk.seq ?_
 refine Wk.seq ?_
 refine Wk.regionQ ?_
 refine Lq.run 1 rfl ?_
 refine Lq.op (v := i6_ ((L.length : Int))) rfl rfl rfl (OpQ.lenRow rfl Tryd.runUnderlying45 rfl (u8s_length _) (fun w1 hw1 => Row.own hbv hw1)) ?_
 refine Lq.run 1 rfl ?_
 refine Lq.nil ?_
 refine Kt.sel [0, 13] [_, _] rfl ?_
 refine Wk.cond (b := decide ((1048576 : Int) < ((L.length : Int)))) rfl (fun h13 => ?_) (fun h13 => ?_)
 ·
  replace h13 := of_decide_eq_true h13
  refine Wk.seq ?_
  refine Wk.regionQ ?_
  refine Lq.run 1 rfl ?_
  refine Lq.nil ?_
  refine Kt.sel [2] [_] rfl ?_
  refine Wk.ret (Kt.end1 rfl rfl fun w' hw => ?_)
  -- ret 0: bo_ true
  exact ⟨ret_b (by first | rfl | (simp_all; done)), hw.below⟩
 ·
  replace h13 := of_decide_eq_false h13
  refine Wk.skip ?_
  refine Kt.sel [0] [_] rfl ?_
  refine Wk.seq ?_
  refine Wk.region ?_
  refine Ll.run 1 rfl ?_
  refine Ll.callGet (σ := St × St × Int) (ok := fun (a, b, x) => (a.Tame ∧ b.Tame) ∧ -1 ≤ x ∧ x ≤ 4) (v := fun (a, b, x) => .tuple #[vS a, vS b, .int .i64 x]) (hs' := fun _ => []) (xs := [.tmp 15]) (vs := [bv]) rfl rfl rfl rfl Tryd.call37 rfl (fun w1 hw1 => (drawRank_ok w.heap.size w [] bv L w1 (fun w2 hw2 => Row.own hbv hw2) hL8 (by omega) hw1).mono fun en w' ⟨a, b, x, h1, h2, h3⟩ => ⟨(a, b, x), h1, h2, h3⟩) fun ⟨a16, b16, x16⟩ hK => ?_
  dsimp only at hK
  obtain ⟨⟨hta16, htb16⟩, hbx16⟩ := hK
  have hsa16 := hta16.small
  have loa16 := hta16.lo
  have hia16 := hta16.hi
  have hsb16 := htb16.small
  have lob16 := htb16.lo
  have hib16 := htb16.hi
  show Ll _ _ (Own _ _ []) _ _ ((16, .tuple #[vS a16, vS b16, i6_ x16]) :: _) _ _ _
  refine Ll.run 1 rfl ?_
  refine Ll.op (v := vS a16) rfl rfl rfl (OpQ.extract rfl rfl rfl) ?_
  refine Ll.op (v := vS b16) rfl rfl rfl (OpQ.extract rfl rfl rfl) ?_
  refine Ll.op (v := i6_ x16) rfl rfl rfl (OpQ.extract rfl rfl rfl) ?_
  refine Ll.alloc rfl rfl rfl rfl Tryd.zeroValue28 fun p3 hp3 => ?_
  show Ll _ _ (Own _ _ [bk_ p3 #[i6_ 0, str ([]), str ([])] 28]) _ _ ((3, pt_ p3) :: _) _ _ _
  refine Ll.alloc rfl rfl rfl rfl Tryd.zeroValue28 fun p4 hp4 => ?_
  show Ll _ _ (Own _ _ [bk_ p4 #[i6_ 0, str ([]), str ([])] 28, _]) _ _ ((4, pt_ p4) :: _) _ _ _
  refine Ll.storeBox (cs' := #[i6_ a16.n, str a16.set, str a16.rel]) (hs' := [_, bk_ p3 #[i6_ a16.n, str a16.set, str a16.rel] 28]) 1 rfl rfl rfl rfl rfl (by kernel_rfl : _ = some Tryd.t28) rfl rfl rfl rfl rfl ?_
  refine Ll.storeBox (cs' := #[i6_ b16.n, str b16.set, str b16.rel]) (hs' := [bk_ p4 #[i6_ b16.n, str b16.set, str b16.rel] 28, _]) 0 rfl rfl rfl rfl rfl (by kernel_rfl : _ = some Tryd.t28) rfl rfl rfl rfl rfl ?_
  refine Ll.run 1 rfl ?_
  refine Ll.nil ?_
  refine Kt.sel [3, 4, 5] [_, _, _] rfl ?_
  refine Wk.seq ?_
  refine Wk.regionQ ?_
  refine Lq.op rfl rfl rfl (OpQ.loadBox (cs := #[i6_ a16.n, str a16.set, str a16.rel]) 1 rfl Tryd.isAgg28 rfl rfl Tryd.sizeOf28) ?_
  refine Lq.op rfl rfl rfl (OpQ.loadBox (cs := #[i6_ b16.n, str b16.set, str b16.rel]) 0 rfl Tryd.isAgg28 rfl rfl Tryd.sizeOf28) ?_
  refine Lq.run 1 rfl ?_
  refine Lq.op (v := bo_ (secB a16 [] b16 [] x16)) rfl rfl rfl (OpQ.call rfl Tryd.call38 rfl Own.stable (fun w1 hw1 => iSame_ok a16 b16 w1 hsa16 hsb16 x16)) ?_
  refine Lq.run 1 rfl ?_
  refine Lq.nil ?_
  refine Kt.sel [3, 4, 5, 6] [_, _, _, _] rfl ?_
  refine Wk.seq ?_
  refine Wk.seq ?_
  refine Wk.regionQ ?_
  refine Lq.run 1 rfl ?_
  refine Lq.op rfl rfl rfl (OpQ.loadBox (cs := #[i6_ a16.n, str a16.set, str a16.rel]) 1 rfl Tryd.isAgg28 rfl rfl Tryd.sizeOf28) ?_
  refine Lq.op rfl rfl rfl (OpQ.loadBox (cs := #[i6_ b16.n, str b16.set, str b16.rel]) 0 rfl Tryd.isAgg28 rfl rfl Tryd.sizeOf28) ?_
  refine Lq.run 1 rfl ?_
  refine Lq.op (v := bo_ (secB a16 [] b16 [] x16)) rfl rfl rfl (OpQ.call rfl Tryd.call39 rfl Own.stable (fun w1 hw1 => sSame_ok a16 b16 w1 hsa16 hsb16 loa16 hia16 lob16 hib16 x16)) ?_
  refine Lq.op rfl rfl rfl (OpQ.bne rfl Tryd.runUnderlying4 rfl rfl) ?_
  refine Lq.run 1 rfl ?_
  refine Lq.bool fun b30 hg30 => ?_
  cases b30
  ·
   refine Lq.run 4 rfl ?_
   refine Lq.bool fun b34 hg34 => ?_
   cases b34
   ·
    replace hg34 := of_decide_eq_false hg34
    refine Lq.run 4 rfl ?_
    refine Lq.bool fun b38 hg38 => ?_
    cases b38
    ·
     replace hg38 := of_decide_eq_false hg38
     refine Lq.op rfl rfl rfl (OpQ.loadBox (cs := #[i6_ a16.n, str a16.set, str a16.rel]) 1 rfl Tryd.isAgg28 rfl rfl Tryd.sizeOf28) ?_
     refine Lq.op (v := bo_ (validB a16)) rfl rfl rfl (OpQ.call rfl Tryd.call40 rfl Own.stable (fun w1 hw1 => iValid_ok a16 w1 hsa16)) ?_
     refine Lq.run 3 rfl ?_
     refine Lq.bool fun b43 hg43 => ?_
     cases b43
     ·
      replace hg43 := not_false hg43
      refine Lq.op rfl rfl rfl (OpQ.fieldAddr rfl Tryd.runUnderlying28 rfl Tryd.sizeOf3 rfl rfl) ?_
      refine Lq.op rfl rfl rfl (OpQ.loadOwn 1 rfl Tryd.isAgg3 rfl rfl rfl) ?_
      refine Lq.run 3 rfl ?_
      refine Lq.bool fun b48 hg48 => ?_
      cases b48
      ·
       replace hg48 := of_decide_eq_false hg48
       refine Lq.op rfl rfl rfl (OpQ.fieldAddr rfl Tryd.runUnderlying28 rfl Tryd.sizeOf3 rfl rfl) ?_
       refine Lq.op rfl rfl rfl (OpQ.loadOwn 0 rfl Tryd.isAgg3 rfl rfl rfl) ?_
       refine Lq.run 2 rfl ?_
       refine Lq.nil ?_
       refine Kt.sel [3, 4, 5, 6, 52] [_, _, _, _, _] rfl ?_
       refine Wk.cond (b := decide ((4 : Int) < b16.n)) rfl (fun h52 => ?_) (fun h52 => ?_)
       ·
        replace h52 := of_decide_eq_true h52
        refine Wk.seq ?_
        refine Wk.regionQ ?_
        refine Lq.run 1 rfl ?_
        refine Lq.op rfl rfl rfl (OpQ.loadBox (cs := #[i6_ a16.n, str a16.set, str a16.rel]) 1 rfl Tryd.isAgg28 rfl rfl Tryd.sizeOf28) ?_
        refine Lq.op rfl rfl rfl (OpQ.loadBox (cs := #[i6_ b16.n, str b16.set, str b16.rel]) 0 rfl Tryd.isAgg28 rfl rfl Tryd.sizeOf28) ?_
        refine Lq.run 1 rfl ?_
        refine Lq.op (v := bo_ (secB a16 [] b16 [] x16)) rfl rfl rfl (OpQ.call rfl Tryd.call39 rfl Own.stable (fun w1 hw1 => sSame_ok a16 b16 w1 hsa16 hsb16 loa16 hia16 lob16 hib16 x16)) ?_
        refine Lq.op rfl rfl rfl (OpQ.beq rfl Tryd.runUnderlying4 rfl rfl) ?_
        refine Lq.run 1 rfl ?_
        refine Lq.nil ?_
        refine Kt.sel [2] [_] rfl ?_
        refine Wk.ret (Kt.end1 rfl rfl fun w' hw => ?_)
        -- ret 1: bo_ ((secB a16 [] b16 [] x16) == (secB a16 [] b16 [] x16))
        exact ⟨ret_b (by first | rfl | (simp_all; done)), hw.below⟩
       ·
        replace h52 := of_decide_eq_false h52
        refine Wk.skip ?_
        refine Kt.sel [3, 4, 5, 6] [_, _, _, _] rfl ?_
        refine Wk.seq ?_
        refine Wk.seq ?_
        refine Wk.regionQ ?_
        refine Lq.run 1 rfl ?_
        refine Lq.nil ?_
        refine Kt.sel [3, 4, 5, 6, 7] [_, _, _, _, _] rfl ?_
        refine Wk.block ?_
        refine Wk.loop (σ := Nat) (fun m => 1 ≤ m ∧ m ≤ 4) (fun m => [(3, pt_ p3), (4, pt_ p4), (5, i6_ x16), (6, bo_ (secB a16 [] b16 [] x16)), (7, i6_ ((m : Int)))]) (fun m => Own w.heap.size w [bk_ p4 #[i6_ b16.n, str b16.set, str b16.rel] 28, bk_ p3 #[i6_ a16.n, str a16.set, str a16.rel] 28]) (fun m => 4 - m) (1) (by omega) (Sub.sel [3, 4, 5, 6, 7] rfl) (fun _ h => h) ?_
        rintro m hm4
        refine Wk.seq ?_
        refine Wk.seq ?_
        refine Wk.regionQ ?_
        refine Lq.run 2 rfl ?_
        refine Lq.nil ?_
        refine Kt.sel [3, 4, 5, 6, 7, 60] [_, _, _, _, _, _] rfl ?_
        refine Wk.cond (b := decide (((m : Int)) ≤ (3 : Int))) rfl (fun h60 => ?_) (fun h60 => ?_)
        ·
         replace h60 := of_decide_eq_true h60
         refine Wk.skip ?_
         refine Kt.sel [3, 4, 5, 6, 7] [_, _, _, _, _] rfl ?_
         refine Wk.seq ?_
         refine Wk.block ?_
         refine Wk.seq ?_
         refine Wk.region ?_
         refine Ll.slice (xs := []) (vs := []) Base.elem24 rfl rfl rfl rfl rfl rfl (by decide) rfl fun p63 hp63 => ?_
         refine Ll.run 1 rfl ?_
         refine Ll.nil ?_
         refine Kt.sel [3, 4, 5, 6, 7, 8] [_, _, _, _, _, _] rfl ?_
         refine Wk.seq ?_
         refine Wk.seq ?_
         refine Wk.regionQ ?_
         refine Lq.run 1 rfl ?_
         refine Lq.nil ?_
         refine Kt.sel [3, 4, 5, 6, 7, 8, 9] [_, _, _, _, _, _, _] rfl ?_
         refine Wk.block ?_
         refine Wk.loop (σ := Nat × Nat × Nat × Array Value) (fun ⟨j, g, c, cur⟩ => (j ≤ m) ∧ w.heap.size ≤ g ∧ cur.size = c * 1 ∧ (bes j).length ≤ c ∧ cur.toList.take ((bes j).length * 1) = ints (bes j)) (fun ⟨j, g, c, cur⟩ => [(3, pt_ p3), (4, pt_ p4), (5, i6_ x16), (6, bo_ (secB a16 [] b16 [] x16)), (7, i6_ ((m : Int))), (8, sl_ g ((bes j).length) c), (9, i6_ ((j : Int)))]) (fun ⟨j, g, c, cur⟩ => Own w.heap.size w [bk_ g cur 3, bk_ p4 #[i6_ b16.n, str b16.set, str b16.rel] 28, bk_ p3 #[i6_ a16.n, str a16.set, str a16.rel] 28]) (fun ⟨j, g, c, cur⟩ => m - j) ((0, p63, 0, #[])) ⟨by omega, by omega, rfl, Nat.le_refl _, rfl⟩ (Sub.sel [3, 4, 5, 6, 7, 8, 9] rfl) (fun _ h => h) ?_
         rintro ⟨j, g, c, cur⟩ ⟨hk, hg, hc, hl, ht⟩
         dsimp only
         refine Wk.seq ?_
         refine Wk.seq ?_
         refine Wk.regionQ ?_
         refine Lq.run 3 rfl ?_
         refine Lq.nil ?_
         refine Kt.sel [3, 4, 5, 6, 7, 8, 9, 66] [_, _, _, _, _, _, _, _] rfl ?_
         refine Wk.cond (b := decide (((j : Int)) < ((m : Int)))) rfl (fun h66 => ?_) (fun h66 => ?_)
         ·
          replace h66 := of_decide_eq_true h66
          refine Wk.skip ?_
          refine Kt.sel [3, 4, 5, 6, 7, 8, 9] [_, _, _, _, _, _, _] rfl ?_
          refine Wk.seq ?_
          refine Wk.block ?_
          refine Wk.region ?_
          refine Ll.run 1 rfl ?_
          refine Ll.slice (xs := [.const (i6_ (-1))]) (vs := [i6_ (-1)]) Base.elem24 rfl rfl rfl rfl rfl rfl (by decide) rfl fun p70 hp70 => ?_
          refine Ll.appendInts (xs := bes j) (ys := [-1]) Base.elem24 1 rfl rfl rfl rfl rfl rfl rfl hc hl (by simpa using ht) (fun w1 hw1 => (Own.row hw1 (i := 0) rfl (n := 1) (cap := 1) (vs := ints [-1]) rfl rfl (by decide))) (((bes j) ++ ([-1])).length) (by first | (simp; done) | (simp; omega)) (by first | (simp; done) | (simp; omega) | omega) fun p71 cap71 cur71 hp71 hcp71 hlp71 htp71 => ?_
          show Ll _ _ (Own _ _ [_, _, _, _]) _ _ ((71, sl_ p71 ((((bes j) ++ ([-1])).length)) cap71) :: _) _ _ _
          refine Ll.run 1 rfl ?_
          refine Ll.nil ?_
          refine Kt.sel [3, 4, 5, 6, 7, 8, 9] [_, _, _, _, _, _, _] rfl ?_
          refine Wk.regionQ ?_
          refine Lq.run 1 rfl ?_
          refine Lq.op rfl rfl rfl (OpQ.add rfl rfl rfl (by omega) (by omega)) ?_
          refine Lq.run 1 rfl ?_
          refine Lq.nil ?_
          refine Kt.again ((j + 1, p71, cap71, cur71)) ⟨(by omega), (by omega), hcp71, (by rw [bes_snoc]; exact hlp71), (by rw [bes_snoc]; exact htp71)⟩ (by omega) (Sub.cons rfl (Sub.cons rfl (Sub.cons rfl (Sub.cons rfl (Sub.cons rfl (Sub.cons (by rw [bes_snoc]; rfl) (Sub.sel [9] rfl))))))) (fun _ h => h.tail)
         ·
          replace h66 := of_decide_eq_false h66
          obtain rfl : m = j := by omega
          refine Wk.exit rfl ?_
          refine Kt.sel [3, 4, 5, 6, 7, 8] [_, _, _, _, _, _] rfl ?_
          refine Wk.seq ?_
          refine Wk.regionQ ?_
          refine Lq.op rfl rfl rfl (OpQ.loadBox (cs := #[i6_ a16.n, str a16.set, str a16.rel]) 2 rfl Tryd.isAgg28 rfl rfl Tryd.sizeOf28) ?_
          refine Lq.run 1 rfl ?_
          refine Lq.op rfl rfl rfl (OpQ.loadBox (cs := #[i6_ b16.n, str b16.set, str b16.rel]) 1 rfl Tryd.isAgg28 rfl rfl Tryd.sizeOf28) ?_
          refine Lq.run 2 rfl ?_
          refine Lq.op (v := bo_ (pebWinB a16 (bes m) b16 (bes m) x16)) rfl rfl rfl (OpQ.call rfl Tryd.call25 rfl Own.stable (fun w1 hw1 => iPWin_ok a16 b16 (bes m) (bes m) (sl_ g ((bes m).length) c) (sl_ g ((bes m).length) c) w1 hsa16 hsb16 (Own.row hw1 (i := 0) rfl (by simpa using ht) (by simp) hl) (Own.row hw1 (i := 0) rfl (by simpa using ht) (by simp) hl) (by first | (simp; done) | (simp; omega) | omega) (by first | (simp; done) | (simp; omega) | omega) x16)) ?_
          refine Lq.run 1 rfl ?_
          refine Lq.nil ?_
          refine Kt.sel [3, 4, 5, 6, 7, 10] [_, _, _, _, _, _] rfl ?_
          refine Wk.seq ?_
          refine Wk.regionQ ?_
          refine Lq.run 2 rfl ?_
          refine Lq.bool fun b79 hg79 => ?_
          cases b79
          ·
           refine Lq.pass rfl rfl rfl ?_
           refine Lq.pass rfl rfl rfl ?_
           refine Lq.run 6 rfl ?_
           refine Lq.bool fun b87 hg87 => ?_
           cases b87
           ·
            replace hg87 := of_decide_eq_false hg87
            refine Lq.pass rfl rfl rfl ?_
            refine Lq.pass rfl rfl rfl ?_
            refine Lq.pass rfl rfl rfl ?_
            refine Lq.run 2 rfl ?_
            refine Lq.nil ?_
            refine Kt.sel [3, 4, 5, 6, 7, 92] [_, _, _, _, _, _] rfl ?_
            refine Wk.condF rfl ?_
            refine Wk.skip ?_
            refine Kt.sel [3, 4, 5, 6, 7] [_, _, _, _, _] rfl ?_
            refine Wk.regionQ ?_
            refine Lq.run 1 rfl ?_
            refine Lq.op rfl rfl rfl (OpQ.add rfl rfl rfl (by omega) (by omega)) ?_
            refine Lq.run 1 rfl ?_
            refine Lq.nil ?_
            refine Kt.again (m + 1) (by omega) (by omega) (Sub.sel [3, 4, 5, 6, 7] rfl) (fun _ h => h.sub (List.Sublist.cons _ (List.Sublist.cons_cons _ (List.Sublist.cons_cons _ (List.Sublist.refl _)))))
           ·
            replace hg87 := of_decide_eq_true hg87
            refine Lq.run 2 rfl ?_
            refine Lq.op rfl rfl rfl (OpQ.bne rfl Tryd.runUnderlying4 rfl rfl) ?_
            refine Lq.run 2 rfl ?_
            refine Lq.nil ?_
            refine Kt.sel [3, 4, 5, 6, 7, 92] [_, _, _, _, _, _] rfl ?_
            refine Wk.cond (b := (pebWinB a16 (bes m) b16 (bes m) x16) != (secB a16 [] b16 [] x16)) rfl (fun h92 => ?_) (fun h92 => ?_)
            ·
             exact absurd h92 (by rw [show pebWinB a16 (bes m) b16 (bes m) x16 = secB a16 [] b16 [] x16 from rounds_same (k := (m : Int)) (by omega) (by omega) (by omega) (by omega) (by omega)]; simp)
            ·
             refine Wk.skip ?_
             refine Kt.sel [3, 4, 5, 6, 7] [_, _, _, _, _] rfl ?_
             refine Wk.regionQ ?_
             refine Lq.run 1 rfl ?_
             refine Lq.op rfl rfl rfl (OpQ.add rfl rfl rfl (by omega) (by omega)) ?_
             refine Lq.run 1 rfl ?_
             refine Lq.nil ?_
             refine Kt.again (m + 1) (by omega) (by omega) (Sub.sel [3, 4, 5, 6, 7] rfl) (fun _ h => h.sub (List.Sublist.cons _ (List.Sublist.cons_cons _ (List.Sublist.cons_cons _ (List.Sublist.refl _)))))
          ·
           refine Lq.run 4 rfl ?_
           refine Lq.bool fun b83 hg83 => ?_
           cases b83
           ·
            replace hg83 := not_false hg83
            refine Lq.run 4 rfl ?_
            refine Lq.bool fun b87 hg87_1 => ?_
            cases b87
            ·
             replace hg87_1 := of_decide_eq_false hg87_1
             refine Lq.pass rfl rfl rfl ?_
             refine Lq.pass rfl rfl rfl ?_
             refine Lq.pass rfl rfl rfl ?_
             refine Lq.run 2 rfl ?_
             refine Lq.nil ?_
             refine Kt.sel [3, 4, 5, 6, 7, 92] [_, _, _, _, _, _] rfl ?_
             refine Wk.condF rfl ?_
             refine Wk.skip ?_
             refine Kt.sel [3, 4, 5, 6, 7] [_, _, _, _, _] rfl ?_
             refine Wk.regionQ ?_
             refine Lq.run 1 rfl ?_
             refine Lq.op rfl rfl rfl (OpQ.add rfl rfl rfl (by omega) (by omega)) ?_
             refine Lq.run 1 rfl ?_
             refine Lq.nil ?_
             refine Kt.again (m + 1) (by omega) (by omega) (Sub.sel [3, 4, 5, 6, 7] rfl) (fun _ h => h.sub (List.Sublist.cons _ (List.Sublist.cons_cons _ (List.Sublist.cons_cons _ (List.Sublist.refl _)))))
            ·
             replace hg87_1 := of_decide_eq_true hg87_1
             refine Lq.run 2 rfl ?_
             refine Lq.op rfl rfl rfl (OpQ.bne rfl Tryd.runUnderlying4 rfl rfl) ?_
             refine Lq.run 2 rfl ?_
             refine Lq.nil ?_
             refine Kt.sel [3, 4, 5, 6, 7, 92] [_, _, _, _, _, _] rfl ?_
             refine Wk.cond (b := (pebWinB a16 (bes m) b16 (bes m) x16) != (secB a16 [] b16 [] x16)) rfl (fun h92_1 => ?_) (fun h92_1 => ?_)
             ·
              exact absurd h92_1 (by rw [show pebWinB a16 (bes m) b16 (bes m) x16 = secB a16 [] b16 [] x16 from rounds_same (k := (m : Int)) (by omega) (by omega) (by omega) (by omega) (by omega)]; simp)
             ·
              refine Wk.skip ?_
              refine Kt.sel [3, 4, 5, 6, 7] [_, _, _, _, _] rfl ?_
              refine Wk.regionQ ?_
              refine Lq.run 1 rfl ?_
              refine Lq.op rfl rfl rfl (OpQ.add rfl rfl rfl (by omega) (by omega)) ?_
              refine Lq.run 1 rfl ?_
              refine Lq.nil ?_
              refine Kt.again (m + 1) (by omega) (by omega) (Sub.sel [3, 4, 5, 6, 7] rfl) (fun _ h => h.sub (List.Sublist.cons _ (List.Sublist.cons_cons _ (List.Sublist.cons_cons _ (List.Sublist.refl _)))))
           ·
            replace hg83 := not_true hg83
            exact absurd (rounds_win (a := a16) (b := b16) (r := x16) (k := (m : Int)) (by omega) (by omega) (by omega) (by omega) (by assumption)) (by rw [Int.toNat_natCast, hg83]; decide)
        ·
         replace h60 := of_decide_eq_false h60
         refine Wk.exit rfl ?_
         refine Kt.sel [] [] rfl ?_
         refine Wk.seq ?_
         refine Wk.regionQ ?_
         refine Lq.run 1 rfl ?_
         refine Lq.nil ?_
         refine Kt.sel [2] [_] rfl ?_
         refine Wk.ret (Kt.end1 rfl rfl fun w' hw => ?_)
         -- ret 2: bo_ true
         exact ⟨ret_b (by first | rfl | (simp_all; done)), hw.below⟩
      ·
       replace hg48 := of_decide_eq_true hg48
       refine Lq.pass rfl rfl rfl ?_
       refine Lq.pass rfl rfl rfl ?_
       refine Lq.pass rfl rfl rfl ?_
       refine Lq.run 1 rfl ?_
       refine Lq.nil ?_
       refine Kt.sel [3, 4, 5, 6, 52] [_, _, _, _, _] rfl ?_
       refine Wk.condT rfl ?_
       refine Wk.seq ?_
       refine Wk.regionQ ?_
       refine Lq.run 1 rfl ?_
       refine Lq.op rfl rfl rfl (OpQ.loadBox (cs := #[i6_ a16.n, str a16.set, str a16.rel]) 1 rfl Tryd.isAgg28 rfl rfl Tryd.sizeOf28) ?_
       refine Lq.op rfl rfl rfl (OpQ.loadBox (cs := #[i6_ b16.n, str b16.set, str b16.rel]) 0 rfl Tryd.isAgg28 rfl rfl Tryd.sizeOf28) ?_
       refine Lq.run 1 rfl ?_
       refine Lq.op (v := bo_ (secB a16 [] b16 [] x16)) rfl rfl rfl (OpQ.call rfl Tryd.call39 rfl Own.stable (fun w1 hw1 => sSame_ok a16 b16 w1 hsa16 hsb16 loa16 hia16 lob16 hib16 x16)) ?_
       refine Lq.op rfl rfl rfl (OpQ.beq rfl Tryd.runUnderlying4 rfl rfl) ?_
       refine Lq.run 1 rfl ?_
       refine Lq.nil ?_
       refine Kt.sel [2] [_] rfl ?_
       refine Wk.ret (Kt.end1 rfl rfl fun w' hw => ?_)
       -- ret 3: bo_ ((secB a16 [] b16 [] x16) == (secB a16 [] b16 [] x16))
       exact ⟨ret_b (by first | rfl | (simp_all; done)), hw.below⟩
     ·
      replace hg43 := not_true hg43
      refine Lq.pass rfl rfl rfl ?_
      refine Lq.pass rfl rfl rfl ?_
      refine Lq.pass rfl rfl rfl ?_
      refine Lq.run 2 rfl ?_
      refine Lq.pass rfl rfl rfl ?_
      refine Lq.pass rfl rfl rfl ?_
      refine Lq.pass rfl rfl rfl ?_
      refine Lq.run 1 rfl ?_
      refine Lq.nil ?_
      refine Kt.sel [3, 4, 5, 6, 52] [_, _, _, _, _] rfl ?_
      refine Wk.condT rfl ?_
      refine Wk.seq ?_
      refine Wk.regionQ ?_
      refine Lq.run 1 rfl ?_
      refine Lq.op rfl rfl rfl (OpQ.loadBox (cs := #[i6_ a16.n, str a16.set, str a16.rel]) 1 rfl Tryd.isAgg28 rfl rfl Tryd.sizeOf28) ?_
      refine Lq.op rfl rfl rfl (OpQ.loadBox (cs := #[i6_ b16.n, str b16.set, str b16.rel]) 0 rfl Tryd.isAgg28 rfl rfl Tryd.sizeOf28) ?_
      refine Lq.run 1 rfl ?_
      refine Lq.op (v := bo_ (secB a16 [] b16 [] x16)) rfl rfl rfl (OpQ.call rfl Tryd.call39 rfl Own.stable (fun w1 hw1 => sSame_ok a16 b16 w1 hsa16 hsb16 loa16 hia16 lob16 hib16 x16)) ?_
      refine Lq.op rfl rfl rfl (OpQ.beq rfl Tryd.runUnderlying4 rfl rfl) ?_
      refine Lq.run 1 rfl ?_
      refine Lq.nil ?_
      refine Kt.sel [2] [_] rfl ?_
      refine Wk.ret (Kt.end1 rfl rfl fun w' hw => ?_)
      -- ret 4: bo_ ((secB a16 [] b16 [] x16) == (secB a16 [] b16 [] x16))
      exact ⟨ret_b (by first | rfl | (simp_all; done)), hw.below⟩
    ·
     replace hg38 := of_decide_eq_true hg38
     refine Lq.pass rfl rfl rfl ?_
     refine Lq.pass rfl rfl rfl ?_
     refine Lq.pass rfl rfl rfl ?_
     refine Lq.run 2 rfl ?_
     refine Lq.pass rfl rfl rfl ?_
     refine Lq.pass rfl rfl rfl ?_
     refine Lq.pass rfl rfl rfl ?_
     refine Lq.run 2 rfl ?_
     refine Lq.pass rfl rfl rfl ?_
     refine Lq.pass rfl rfl rfl ?_
     refine Lq.pass rfl rfl rfl ?_
     refine Lq.run 1 rfl ?_
     refine Lq.nil ?_
     refine Kt.sel [3, 4, 5, 6, 52] [_, _, _, _, _] rfl ?_
     refine Wk.condT rfl ?_
     refine Wk.seq ?_
     refine Wk.regionQ ?_
     refine Lq.run 1 rfl ?_
     refine Lq.op rfl rfl rfl (OpQ.loadBox (cs := #[i6_ a16.n, str a16.set, str a16.rel]) 1 rfl Tryd.isAgg28 rfl rfl Tryd.sizeOf28) ?_
     refine Lq.op rfl rfl rfl (OpQ.loadBox (cs := #[i6_ b16.n, str b16.set, str b16.rel]) 0 rfl Tryd.isAgg28 rfl rfl Tryd.sizeOf28) ?_
     refine Lq.run 1 rfl ?_
     refine Lq.op (v := bo_ (secB a16 [] b16 [] x16)) rfl rfl rfl (OpQ.call rfl Tryd.call39 rfl Own.stable (fun w1 hw1 => sSame_ok a16 b16 w1 hsa16 hsb16 loa16 hia16 lob16 hib16 x16)) ?_
     refine Lq.op rfl rfl rfl (OpQ.beq rfl Tryd.runUnderlying4 rfl rfl) ?_
     refine Lq.run 1 rfl ?_
     refine Lq.nil ?_
     refine Kt.sel [2] [_] rfl ?_
     refine Wk.ret (Kt.end1 rfl rfl fun w' hw => ?_)
     -- ret 5: bo_ ((secB a16 [] b16 [] x16) == (secB a16 [] b16 [] x16))
     exact ⟨ret_b (by first | rfl | (simp_all; done)), hw.below⟩
   ·
    replace hg34 := of_decide_eq_true hg34
    refine Lq.pass rfl rfl rfl ?_
    refine Lq.pass rfl rfl rfl ?_
    refine Lq.run 2 rfl ?_
    refine Lq.pass rfl rfl rfl ?_
    refine Lq.pass rfl rfl rfl ?_
    refine Lq.pass rfl rfl rfl ?_
    refine Lq.run 2 rfl ?_
    refine Lq.pass rfl rfl rfl ?_
    refine Lq.pass rfl rfl rfl ?_
    refine Lq.pass rfl rfl rfl ?_
    refine Lq.run 2 rfl ?_
    refine Lq.pass rfl rfl rfl ?_
    refine Lq.pass rfl rfl rfl ?_
    refine Lq.pass rfl rfl rfl ?_
    refine Lq.run 1 rfl ?_
    refine Lq.nil ?_
    refine Kt.sel [3, 4, 5, 6, 52] [_, _, _, _, _] rfl ?_
    refine Wk.condT rfl ?_
    refine Wk.seq ?_
    refine Wk.regionQ ?_
    refine Lq.run 1 rfl ?_
    refine Lq.op rfl rfl rfl (OpQ.loadBox (cs := #[i6_ a16.n, str a16.set, str a16.rel]) 1 rfl Tryd.isAgg28 rfl rfl Tryd.sizeOf28) ?_
    refine Lq.op rfl rfl rfl (OpQ.loadBox (cs := #[i6_ b16.n, str b16.set, str b16.rel]) 0 rfl Tryd.isAgg28 rfl rfl Tryd.sizeOf28) ?_
    refine Lq.run 1 rfl ?_
    refine Lq.op (v := bo_ (secB a16 [] b16 [] x16)) rfl rfl rfl (OpQ.call rfl Tryd.call39 rfl Own.stable (fun w1 hw1 => sSame_ok a16 b16 w1 hsa16 hsb16 loa16 hia16 lob16 hib16 x16)) ?_
    refine Lq.op rfl rfl rfl (OpQ.beq rfl Tryd.runUnderlying4 rfl rfl) ?_
    refine Lq.run 1 rfl ?_
    refine Lq.nil ?_
    refine Kt.sel [2] [_] rfl ?_
    refine Wk.ret (Kt.end1 rfl rfl fun w' hw => ?_)
    -- ret 6: bo_ ((secB a16 [] b16 [] x16) == (secB a16 [] b16 [] x16))
    exact ⟨ret_b (by first | rfl | (simp_all; done)), hw.below⟩
  ·
   exact absurd hg30 (by simp)

end Go.Proofs.YtjcoijejhachhaaDoor
