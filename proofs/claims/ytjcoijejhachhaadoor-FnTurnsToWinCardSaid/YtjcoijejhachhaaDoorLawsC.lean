/-
  Walks: the law of turns, of drawn structures.
-/
import Derived.Test.YtjcoijejhachhaaDoorPlain51
import Derived.Test.YtjcoijejhachhaaDoorPebTM
import Derived.Test.YtjcoijejhachhaaDoorPebFM
import Derived.Test.YtjcoijejhachhaaDoorShapeM
import Derived.Test.YtjcoijejhachhaaDoorDrawsE
import Derived.Test.YtjcoijejhachhaaDoorBase
namespace Go.Proofs.YtjcoijejhachhaaDoor
open Go.RowKit Go.Wk
set_option linter.unusedSimpArgs false

set_option maxHeartbeats 400000 in
/-- spec.DrawTurnsToWin -/
theorem drawTurns_ok (B : Nat) (w0 : World) (hs : List (Nat × Obj)) (bv : Value) (L : List Int) (w : World) (hb : ∀ w, Own B w0 hs w → Row w bv (u8s L)) (hL8 : Bytes8 L) (hLs : L.length ≤ 1048576) (hw : Own B w0 hs w) :
    Calls Tryd.prog 35 [bv].toArray w fun en w' => ∃ a : St, ∃ b : St, ∃ x : Int, en = .returned (.tuple #[vS a, vS b, .int .i64 x]) ∧ ((a.Tame ∧ b.Tame) ∧ 0 ≤ x ∧ x ≤ 4) ∧ Own B w0 hs w' := by
 refine fnStartC (Own B w0 hs) (n := 24) (e := [(0, bv)]) Tryd.func35 rfl rfl rfl rfl Ends.both hw ?_
 refine Wk.seq ?_
 refine Wk.region ?_
 refine Ll.alloc rfl rfl rfl rfl Tryd.zeroValue28 fun p2 hp2 => ?_
 show Ll _ _ (Own _ _ (bk_ p2 #[i6_ 0, str ([]), str ([])] 28 :: hs)) _ _ ((2, pt_ p2) :: _) _ _ _
 refine Ll.alloc rfl rfl rfl rfl Tryd.zeroValue28 fun p3 hp3 => ?_
 show Ll _ _ (Own _ _ (bk_ p3 #[i6_ 0, str ([]), str ([])] 28 :: _ :: hs)) _ _ ((3, pt_ p3) :: _) _ _ _
 refine Ll.run 1 rfl ?_
 refine Ll.nil ?_
 refine Kt.sel [0, 2, 3] [_, _, _] rfl ?_
 refine Wk.seq ?_
 refine Wk.region ?_
 refine Ll.run 1 rfl ?_
 refine Ll.callBack (ok := fun ((rp, v, M) : Nat × Value × List Int) => M.length ≤ 2000 ∧ Bytes8 M ∧ ∀ w1, Own B w0 hs w1 → Row w1 v (u8s M)) (v := fun ((rp, v, M) : Nat × Value × List Int) => .pointer (some ⟨rp, 0, none⟩)) (new := fun ((rp, v, M) : Nat × Value × List Int) => [(rp, .cells #[v, .int .i64 ((0 : Nat) : Int)] 110 (0, 0))]) (hs := hs) (xs := [.tmp 10]) (vs := [bv]) ([bk_ p3 #[i6_ 0, str ([]), str ([])] 28, bk_ p2 #[i6_ 0, str ([]), str ([])] 28] : List (Nat × Obj)) rfl rfl rfl rfl Tryd.call69 rfl (fun w1 hw1 => (open_ok B w0 ([bk_ p3 #[i6_ 0, str ([]), str ([])] 28, bk_ p2 #[i6_ 0, str ([]), str ([])] 28] : List (Nat × Obj)) hs _ _ w1 hb hL8 hLs hw1).mono fun en w' ⟨rp, v, M, h1, h2, h3⟩ => ⟨(rp, v, M), h1, h2, h3⟩) fun ⟨rp, dv, M⟩ hO => ?_
 dsimp only at hO
 obtain ⟨hM2, hM8, hMb⟩ := hO
 show Ll _ _ (Own _ _ (_ :: _ :: _ :: hs)) _ _ ((11, pt_ rp) :: _) _ _ _
 refine Ll.run 1 rfl ?_
 refine Ll.nil ?_
 refine Kt.sel [2, 3, 5] [_, _, _] rfl ?_
 refine Wk.seq ?_
 refine Wk.region ?_
 refine Ll.run 1 rfl ?_
 refine Ll.callRdL (rp := rp) (RT := 110) (p := 0) (bv := dv) (hs := hs) (ok := fun ((a, b, v, xs, u, ys, new) : St × St × Value × List Int × Value × List Int × List (Nat × Obj)) p' => ((a.Tame ∧ b.Tame) ∧ (xs.length ≤ 40 ∧ ys.length ≤ 40) ∧ ∀ w1, Own B w0 new w1 → Ints w1 v xs ∧ Ints w1 u ys) ∧ p' ≤ 0 + 2000) (v := fun ((a, b, v, xs, u, ys, new) : St × St × Value × List Int × Value × List Int × List (Nat × Obj)) => .tuple #[vS a, v, vS b, u]) (new := fun ((a, b, v, xs, u, ys, new) : St × St × Value × List Int × Value × List Int × List (Nat × Obj)) => new) (xs := [.tmp 13]) (vs := [pt_ rp]) ([bk_ p3 #[i6_ 0, str ([]), str ([])] 28, bk_ p2 #[i6_ 0, str ([]), str ([])] 28] : List (Nat × Obj)) rfl rfl rfl rfl Tryd.call70 rfl (fun w1 hw1 => (l7Some_ok B w0 (([bk_ p3 #[i6_ 0, str ([]), str ([])] 28, bk_ p2 #[i6_ 0, str ([]), str ([])] 28] : List (Nat × Obj)) ++ hs) rp 0 dv M w1 (fun w2 hw2 => hMb w2 (Own.drop (f := ([bk_ p3 #[i6_ 0, str ([]), str ([])] 28, bk_ p2 #[i6_ 0, str ([]), str ([])] 28] : List (Nat × Obj))) hw2)) hM8 hM2 (by omega) hw1).mono fun en w' ⟨a, b, v, xs, u, ys, new, p', h1, h2, h3⟩ => ⟨(a, b, v, xs, u, ys, new), p', h1, h2, h3⟩) fun ⟨a14, b14, v14, xs14, u14, ys14, new14⟩ p_14 hK => ?_
 dsimp only at hK
 obtain ⟨⟨⟨hta14, htb14⟩, ⟨hlxs14, hlys14⟩, hrw⟩, hep_14⟩ := hK
 have hIv14 : ∀ w1, Own B w0 new14 w1 → Ints w1 v14 xs14 := fun w1 h => (hrw w1 h).1
 have hIu14 : ∀ w1, Own B w0 new14 w1 → Ints w1 u14 ys14 := fun w1 h => (hrw w1 h).2
 show Ll _ _ (Own _ _ (_ :: _ :: _ :: (new14 ++ hs))) _ _ ((14, .tuple #[vS a14, v14, vS b14, u14]) :: _) _ _ _
 refine Ll.run 1 rfl ?_
 refine Ll.op (v := vS a14) rfl rfl rfl (OpQ.extract rfl rfl rfl) ?_
 refine Ll.op (v := v14) rfl rfl rfl (OpQ.extract rfl rfl rfl) ?_
 refine Ll.op (v := vS b14) rfl rfl rfl (OpQ.extract rfl rfl rfl) ?_
 refine Ll.op (v := u14) rfl rfl rfl (OpQ.extract rfl rfl rfl) ?_
 refine Ll.alloc rfl rfl rfl rfl Tryd.zeroValue28 fun p6 hp6 => ?_
 show Ll _ _ (Own _ _ (bk_ p6 #[i6_ 0, str ([]), str ([])] 28 :: _ :: _ :: _ :: (new14 ++ hs))) _ _ ((6, pt_ p6) :: _) _ _ _
 refine Ll.alloc rfl rfl rfl rfl Tryd.zeroValue28 fun p8 hp8 => ?_
 show Ll _ _ (Own _ _ (bk_ p8 #[i6_ 0, str ([]), str ([])] 28 :: _ :: _ :: _ :: _ :: (new14 ++ hs))) _ _ ((8, pt_ p8) :: _) _ _ _
 refine Ll.storeBox (cs' := #[i6_ a14.n, str a14.set, str a14.rel]) (hs' := (_ :: bk_ p6 #[i6_ a14.n, str a14.set, str a14.rel] 28 :: _ :: _ :: _ :: (new14 ++ hs))) 1 rfl rfl rfl rfl rfl (by kernel_rfl : _ = some Tryd.t28) rfl rfl rfl rfl rfl ?_
 refine Ll.run 1 rfl ?_
 refine Ll.storeBox (cs' := #[i6_ b14.n, str b14.set, str b14.rel]) (hs' := (bk_ p8 #[i6_ b14.n, str b14.set, str b14.rel] 28 :: _ :: _ :: _ :: _ :: (new14 ++ hs))) 0 rfl rfl rfl rfl rfl (by kernel_rfl : _ = some Tryd.t28) rfl rfl rfl rfl rfl ?_
 refine Ll.run 1 rfl ?_
 refine Ll.nil ?_
 refine Kt.sel [2, 3, 5, 6, 8] [_, _, _, _, _] rfl ?_
 refine Wk.seq ?_
 refine Wk.regionS (S := Own B w0 [bk_ p8 #[i6_ b14.n, str b14.set, str b14.rel] 28, bk_ p6 #[i6_ a14.n, str a14.set, str a14.rel] 28]) [(0, true), (1, true), (2, true), (3, false), (4, false), (5, false), (6, false), (7, true)] Base.mixed (fun _ h => h.drawn) (by kernel_rfl) ?_
 refine Ld.take rfl rfl rfl rfl rfl (OpQ.loadBox (cs := #[i6_ a14.n, str a14.set, str a14.rel]) 1 rfl Tryd.isAgg28 rfl rfl Tryd.sizeOf28) (pk [0, 1] rfl rfl) ?_
 refine Ld.take rfl rfl rfl rfl rfl (OpQ.loadBox (cs := #[i6_ b14.n, str b14.set, str b14.rel]) 0 rfl Tryd.isAgg28 rfl rfl Tryd.sizeOf28) (pk [0, 1] rfl rfl) ?_
 refine Ld.run 1 rfl (pk [0, 1] rfl rfl) ?_
 refine Ld.loud rfl ?_
 refine Ll.slice (xs := [.const (i6_ 2), .const (i6_ 1), .const (i6_ 2), .const (i6_ 3), .const (i6_ 0), .const (i6_ 4)]) (vs := [i6_ 2, i6_ 1, i6_ 2, i6_ 3, i6_ 0, i6_ 4]) Base.elem24 rfl rfl rfl rfl rfl rfl (by decide) rfl fun p22 hp22 => ?_
 refine Ll.nil (Ld.joint (pk [1, 2] rfl rfl) ?_)
 refine Ld.loud rfl ?_
 refine Ll.callRd (rp := rp) (RT := 110) (p := p_14) (bv := dv) (hs := (new14 ++ hs)) (ok := fun (v : Int) p' => v ∈ ([2, 1, 2, 3, 0, 4]) ∧ p' = p_14 + 1) (v := fun (v : Int) => i6_ v) (new := fun (v : Int) => []) (xs := [.tmp 21, .tmp 22]) (vs := [pt_ rp, sl_ p22 6 6]) ([bk_ p22 #[i6_ 2, i6_ 1, i6_ 2, i6_ 3, i6_ 0, i6_ 4] 3, bk_ p8 #[i6_ b14.n, str b14.set, str b14.rel] 28, bk_ p6 #[i6_ a14.n, str a14.set, str a14.rel] 28, bk_ p3 #[i6_ 0, str ([]), str ([])] 28, bk_ p2 #[i6_ 0, str ([]), str ([])] 28] : List (Nat × Obj)) rfl rfl rfl rfl Tryd.call71 rfl (fun w1 hw1 => (num_ok B w0 (([bk_ p22 #[i6_ 2, i6_ 1, i6_ 2, i6_ 3, i6_ 0, i6_ 4] 3, bk_ p8 #[i6_ b14.n, str b14.set, str b14.rel] 28, bk_ p6 #[i6_ a14.n, str a14.set, str a14.rel] 28, bk_ p3 #[i6_ 0, str ([]), str ([])] 28, bk_ p2 #[i6_ 0, str ([]), str ([])] 28] : List (Nat × Obj)) ++ (new14 ++ hs)) rp p_14 dv M (sl_ p22 6 6) ([2, 1, 2, 3, 0, 4]) w1 (fun w2 hw2 => (fun w h => hMb w (Own.drop (f := new14) h)) w2 (Own.drop (f := ([bk_ p22 #[i6_ 2, i6_ 1, i6_ 2, i6_ 3, i6_ 0, i6_ 4] 3, bk_ p8 #[i6_ b14.n, str b14.set, str b14.rel] 28, bk_ p6 #[i6_ a14.n, str a14.set, str a14.rel] 28, bk_ p3 #[i6_ 0, str ([]), str ([])] 28, bk_ p2 #[i6_ 0, str ([]), str ([])] 28] : List (Nat × Obj))) hw2)) hM8 hM2 (fun w2 h2 => (Own.row h2 (i := 0) rfl (n := 6) (cap := 6) (vs := ints [2, 1, 2, 3, 0, 4]) rfl rfl (by decide))) (by simp) (by omega) hw1).mono fun en w' ⟨v', p', h1, h2, h3⟩ => ⟨v', p', h1, h2, h3⟩) fun v23 p_23 hKp_23 => ?_
 show Ll _ _ (Own _ _ (_ :: _ :: _ :: _ :: _ :: _ :: (new14 ++ hs))) _ _ ((23, i6_ v23) :: _) _ _ _
 obtain ⟨hmv23, hep_23⟩ := hKp_23
 have hvv23 : 0 ≤ v23 ∧ v23 ≤ 4 := by simp at hmv23; omega
 refine Ll.nil (Ld.joint (pk [1, 2] rfl rfl) ?_)
 refine Ld.loud rfl ?_
 refine Ll.storeBox (cs' := #[i6_ a14.n, str a14.set, str a14.rel]) (hs' := (_ :: _ :: _ :: _ :: bk_ p2 #[i6_ a14.n, str a14.set, str a14.rel] 28 :: _ :: (new14 ++ hs))) 4 rfl rfl rfl rfl rfl (by kernel_rfl : _ = some Tryd.t28) rfl rfl rfl rfl rfl ?_
 refine Ll.nil (Ld.joint (pk [1, 2] rfl rfl) ?_)
 refine Ld.loud rfl ?_
 refine Ll.storeBox (cs' := #[i6_ b14.n, str b14.set, str b14.rel]) (hs' := (_ :: _ :: _ :: bk_ p3 #[i6_ b14.n, str b14.set, str b14.rel] 28 :: _ :: _ :: (new14 ++ hs))) 3 rfl rfl rfl rfl rfl (by kernel_rfl : _ = some Tryd.t28) rfl rfl rfl rfl rfl ?_
 refine Ll.nil (Ld.joint (pk [1, 2] rfl rfl) ?_)
 refine Ld.run 1 rfl (pk [1, 2] rfl rfl) ?_
 refine Ld.nil ?_
 refine Kt.sel [2, 3, 4] [_, _, _] rfl ?_
 refine Wk.ret (Kt.endMany rfl (.cell (cs := #[i6_ a14.n, str a14.set, str a14.rel]) rfl (fun w1 hw1 => hw1.loadBox 4 rfl Tryd.isAgg28 Tryd.sizeOf28) (.cell (cs := #[i6_ b14.n, str b14.set, str b14.rel]) rfl (fun w1 hw1 => hw1.loadBox 3 rfl Tryd.isAgg28 Tryd.sizeOf28) (.tmp (v := i6_ v23) rfl ResAt.nil))) (by simp) fun w' hw => ?_)
 -- ret 0: vS a14; vS b14; i6_ v23
 exact ⟨a14, b14, v23, rfl, ⟨⟨hta14, htb14⟩, ⟨by omega, by omega⟩⟩, Own.drop (f := new14) (Own.drop (f := [_, _, _, _, _, _]) hw)⟩

set_option maxHeartbeats 400000 in
/-- laws.FnTurnsToWin -/
theorem lawFnTurns (bv : Value) (L : List Int) (w : World) (hbv : Row w bv (u8s L)) (hL8 : Bytes8 L) (hLm : L.length ≤ 9223372036854775807) :
    Calls Tryd.prog 12 [bv].toArray w fun en w' => en = .returned (.bool true) ∧ Below w.heap.size w w' := by
 refine fnStart (n := 117) (e := [(0, bv)]) Tryd.func12 rfl rfl rfl rfl Ends.both ?_
 refine Wk.seq ?_
 refine Wk.regionQ ?_
 refine Lq.run 1 rfl ?_
 refine Lq.nil ?_
 refine Kt.sel [0] [_] rfl ?_
 refine Wk.seq ?_
 refine Wk.seq ?_
 refine Wk.regionQ ?_
 refine Lq.run 1 rfl ?_
 refine Lq.op (v := i6_ ((L.length : Int))) rfl rfl rfl (OpQ.lenRow rfl Tryd.runUnderlying45 rfl (u8s_length _) (fun w1 hw1 => Row.own hbv hw1)) ?_
 refine Lq.run 1 rfl ?_
 refine Lq.nil ?_
 refine Kt.sel [0, 15] [_, _] rfl ?_
 refine Wk.cond (b := decide ((1048576 : Int) < ((L.length : Int)))) rfl (fun h15 => ?_) (fun h15 => ?_)
 ·
  replace h15 := of_decide_eq_true h15
  refine Wk.seq ?_
  refine Wk.regionQ ?_
  refine Lq.run 1 rfl ?_
  refine Lq.nil ?_
  refine Kt.sel [2] [_] rfl ?_
  refine Wk.ret (Kt.end1 rfl rfl fun w' hw => ?_)
  -- ret 0: bo_ true
  exact ⟨ret_b (by first | rfl | (simp_all; done)), hw.below⟩
 ·
  replace h15 := of_decide_eq_false h15
  refine Wk.skip ?_
  refine Kt.sel [0] [_] rfl ?_
  refine Wk.seq ?_
  refine Wk.region ?_
  refine Ll.run 1 rfl ?_
  refine Ll.callGet (σ := St × St × Int) (ok := fun (a, b, x) => (a.Tame ∧ b.Tame) ∧ 0 ≤ x ∧ x ≤ 4) (v := fun (a, b, x) => .tuple #[vS a, vS b, .int .i64 x]) (hs' := fun _ => []) (xs := [.tmp 17]) (vs := [bv]) rfl rfl rfl rfl Tryd.call35 rfl (fun w1 hw1 => (drawTurns_ok w.heap.size w [] bv L w1 (fun w2 hw2 => Row.own hbv hw2) hL8 (by omega) hw1).mono fun en w' ⟨a, b, x, h1, h2, h3⟩ => ⟨(a, b, x), h1, h2, h3⟩) fun ⟨a18, b18, x18⟩ hK => ?_
  dsimp only at hK
  obtain ⟨⟨hta18, htb18⟩, hbx18⟩ := hK
  have hsa18 := hta18.small
  have loa18 := hta18.lo
  have hia18 := hta18.hi
  have hsb18 := htb18.small
  have lob18 := htb18.lo
  have hib18 := htb18.hi
  show Ll _ _ (Own _ _ []) _ _ ((18, .tuple #[vS a18, vS b18, i6_ x18]) :: _) _ _ _
  refine Ll.run 1 rfl ?_
  refine Ll.op (v := vS a18) rfl rfl rfl (OpQ.extract rfl rfl rfl) ?_
  refine Ll.op (v := vS b18) rfl rfl rfl (OpQ.extract rfl rfl rfl) ?_
  refine Ll.op (v := i6_ x18) rfl rfl rfl (OpQ.extract rfl rfl rfl) ?_
  refine Ll.alloc rfl rfl rfl rfl Tryd.zeroValue28 fun p3 hp3 => ?_
  show Ll _ _ (Own _ _ [bk_ p3 #[i6_ 0, str ([]), str ([])] 28]) _ _ ((3, pt_ p3) :: _) _ _ _
  refine Ll.alloc rfl rfl rfl rfl Tryd.zeroValue28 fun p4 hp4 => ?_
  show Ll _ _ (Own _ _ [bk_ p4 #[i6_ 0, str ([]), str ([])] 28, _]) _ _ ((4, pt_ p4) :: _) _ _ _
  refine Ll.storeBox (cs' := #[i6_ a18.n, str a18.set, str a18.rel]) (hs' := [_, bk_ p3 #[i6_ a18.n, str a18.set, str a18.rel] 28]) 1 rfl rfl rfl rfl rfl (by kernel_rfl : _ = some Tryd.t28) rfl rfl rfl rfl rfl ?_
  refine Ll.storeBox (cs' := #[i6_ b18.n, str b18.set, str b18.rel]) (hs' := [bk_ p4 #[i6_ b18.n, str b18.set, str b18.rel] 28, _]) 0 rfl rfl rfl rfl rfl (by kernel_rfl : _ = some Tryd.t28) rfl rfl rfl rfl rfl ?_
  refine Ll.run 1 rfl ?_
  refine Ll.nil ?_
  refine Kt.sel [3, 4, 5] [_, _, _] rfl ?_
  refine Wk.seq ?_
  refine Wk.regionQ ?_
  refine Lq.op rfl rfl rfl (OpQ.loadBox (cs := #[i6_ a18.n, str a18.set, str a18.rel]) 1 rfl Tryd.isAgg28 rfl rfl Tryd.sizeOf28) ?_
  refine Lq.op rfl rfl rfl (OpQ.loadBox (cs := #[i6_ b18.n, str b18.set, str b18.rel]) 0 rfl Tryd.isAgg28 rfl rfl Tryd.sizeOf28) ?_
  refine Lq.run 1 rfl ?_
  refine Lq.op (v := i6_ (turnsB a18 b18 x18)) rfl rfl rfl (OpQ.call rfl Tryd.call27 rfl Own.stable (fun w1 hw1 => iTurns_ok a18 b18 x18 w1 hsa18 hsb18)) ?_
  refine Lq.run 1 rfl ?_
  refine Lq.nil ?_
  refine Kt.sel [3, 4, 5, 6] [_, _, _, _] rfl ?_
  refine Wk.seq ?_
  refine Wk.seq ?_
  refine Wk.regionQ ?_
  refine Lq.run 1 rfl ?_
  refine Lq.op rfl rfl rfl (OpQ.loadBox (cs := #[i6_ a18.n, str a18.set, str a18.rel]) 1 rfl Tryd.isAgg28 rfl rfl Tryd.sizeOf28) ?_
  refine Lq.op rfl rfl rfl (OpQ.loadBox (cs := #[i6_ b18.n, str b18.set, str b18.rel]) 0 rfl Tryd.isAgg28 rfl rfl Tryd.sizeOf28) ?_
  refine Lq.run 1 rfl ?_
  refine Lq.op (v := i6_ (turnsB a18 b18 x18)) rfl rfl rfl (OpQ.call rfl Tryd.call26 rfl Own.stable (fun w1 hw1 => sTurns_ok a18 b18 x18 w1 hsa18 hsb18 loa18 hia18 lob18 hib18)) ?_
  refine Lq.run 2 rfl ?_
  refine Lq.bool fun b32 hg32 => ?_
  cases b32
  ·
   replace hg32 := not_false hg32
   replace hg32 := of_decide_eq_true hg32
   refine Lq.run 3 rfl ?_
   refine Lq.nil ?_
   refine Kt.sel [3, 4, 5, 6, 35] [_, _, _, _, _] rfl ?_
   refine Wk.cond (b := decide ((turnsB a18 b18 x18) = (-2 : Int))) rfl (fun h35 => ?_) (fun h35 => ?_)
   ·
    replace h35 := of_decide_eq_true h35
    refine Wk.seq ?_
    refine Wk.regionQ ?_
    refine Lq.run 1 rfl ?_
    refine Lq.op rfl rfl rfl (OpQ.loadBox (cs := #[i6_ a18.n, str a18.set, str a18.rel]) 1 rfl Tryd.isAgg28 rfl rfl Tryd.sizeOf28) ?_
    refine Lq.op rfl rfl rfl (OpQ.loadBox (cs := #[i6_ b18.n, str b18.set, str b18.rel]) 0 rfl Tryd.isAgg28 rfl rfl Tryd.sizeOf28) ?_
    refine Lq.run 1 rfl ?_
    refine Lq.op (v := i6_ (turnsB a18 b18 x18)) rfl rfl rfl (OpQ.call rfl Tryd.call26 rfl Own.stable (fun w1 hw1 => sTurns_ok a18 b18 x18 w1 hsa18 hsb18 loa18 hia18 lob18 hib18)) ?_
    refine Lq.run 2 rfl ?_
    refine Lq.nil ?_
    refine Kt.sel [2] [_] rfl ?_
    refine Wk.ret (Kt.end1 rfl rfl fun w' hw => ?_)
    -- ret 1: bo_ (decide ((turnsB a18 b18 x18) = (turnsB a18 b18 x18)))
    exact ⟨ret_b (by first | rfl | (simp_all; done)), hw.below⟩
   ·
    replace h35 := of_decide_eq_false h35
    obtain ⟨hVa, hVb, hq1, hq3⟩ := turnsB_ok (a := a18) (b := b18) (q := x18) (by first | assumption | (simp_all; done))
    obtain ⟨k, rfl⟩ : ∃ k : Nat, x18 = (k : Int) := ⟨x18.toNat, by omega⟩
    have h1 : 1 ≤ k := by omega
    have h3 : k ≤ 3 := by omega
    have hT := turnsB_has hVa hVb h1 h3
    refine Wk.skip ?_
    refine Kt.sel [3, 4, 5, 6] [_, _, _, _] rfl ?_
    refine Wk.seq ?_
    refine Wk.region ?_
    refine Ll.slice (xs := []) (vs := []) Base.elem24 rfl rfl rfl rfl rfl rfl (by decide) rfl fun p42 hp42 => ?_
    refine Ll.run 1 rfl ?_
    refine Ll.nil ?_
    refine Kt.sel [3, 4, 5, 6, 7] [_, _, _, _, _] rfl ?_
    refine Wk.seq ?_
    refine Wk.seq ?_
    refine Wk.regionQ ?_
    refine Lq.run 1 rfl ?_
    refine Lq.nil ?_
    refine Kt.sel [3, 4, 5, 6, 7, 8] [_, _, _, _, _, _] rfl ?_
    refine Wk.block ?_
    refine Wk.loop (σ := Nat × Nat × Nat × Array Value) (fun ⟨j, g, c, cur⟩ => (j ≤ k) ∧ w.heap.size ≤ g ∧ cur.size = c * 1 ∧ (bes j).length ≤ c ∧ cur.toList.take ((bes j).length * 1) = ints (bes j)) (fun ⟨j, g, c, cur⟩ => [(3, pt_ p3), (4, pt_ p4), (5, i6_ ((k : Int))), (6, i6_ (turnsB a18 b18 (k : Int))), (7, sl_ g ((bes j).length) c), (8, i6_ ((j : Int)))]) (fun ⟨j, g, c, cur⟩ => Own w.heap.size w [bk_ g cur 3, bk_ p4 #[i6_ b18.n, str b18.set, str b18.rel] 28, bk_ p3 #[i6_ a18.n, str a18.set, str a18.rel] 28]) (fun ⟨j, g, c, cur⟩ => k - j) ((0, p42, 0, #[])) ⟨by omega, by omega, rfl, Nat.le_refl _, rfl⟩ (Sub.sel [3, 4, 5, 6, 7, 8] rfl) (fun _ h => h) ?_
    rintro ⟨j, g, c, cur⟩ ⟨hk, hg, hc, hl, ht⟩
    dsimp only
    refine Wk.seq ?_
    refine Wk.seq ?_
    refine Wk.regionQ ?_
    refine Lq.run 3 rfl ?_
    refine Lq.nil ?_
    refine Kt.sel [3, 4, 5, 6, 7, 8, 45] [_, _, _, _, _, _, _] rfl ?_
    refine Wk.cond (b := decide (((j : Int)) < ((k : Int)))) rfl (fun h45 => ?_) (fun h45 => ?_)
    ·
     replace h45 := of_decide_eq_true h45
     refine Wk.skip ?_
     refine Kt.sel [3, 4, 5, 6, 7, 8] [_, _, _, _, _, _] rfl ?_
     refine Wk.seq ?_
     refine Wk.block ?_
     refine Wk.region ?_
     refine Ll.run 1 rfl ?_
     refine Ll.slice (xs := [.const (i6_ (-1))]) (vs := [i6_ (-1)]) Base.elem24 rfl rfl rfl rfl rfl rfl (by decide) rfl fun p49 hp49 => ?_
     refine Ll.appendInts (xs := bes j) (ys := [-1]) Base.elem24 1 rfl rfl rfl rfl rfl rfl rfl hc hl (by simpa using ht) (fun w1 hw1 => (Own.row hw1 (i := 0) rfl (n := 1) (cap := 1) (vs := ints [-1]) rfl rfl (by decide))) (((bes j) ++ ([-1])).length) (by first | (simp; done) | (simp; omega)) (by first | (simp; done) | (simp; omega) | omega) fun p50 cap50 cur50 hp50 hcp50 hlp50 htp50 => ?_
     show Ll _ _ (Own _ _ [_, _, _, _]) _ _ ((50, sl_ p50 ((((bes j) ++ ([-1])).length)) cap50) :: _) _ _ _
     refine Ll.run 1 rfl ?_
     refine Ll.nil ?_
     refine Kt.sel [3, 4, 5, 6, 7, 8] [_, _, _, _, _, _] rfl ?_
     refine Wk.regionQ ?_
     refine Lq.run 1 rfl ?_
     refine Lq.op rfl rfl rfl (OpQ.add rfl rfl rfl (by omega) (by omega)) ?_
     refine Lq.run 1 rfl ?_
     refine Lq.nil ?_
     refine Kt.again ((j + 1, p50, cap50, cur50)) ⟨(by omega), (by omega), hcp50, (by rw [bes_snoc]; exact hlp50), (by rw [bes_snoc]; exact htp50)⟩ (by omega) (Sub.cons rfl (Sub.cons rfl (Sub.cons rfl (Sub.cons rfl (Sub.cons (by rw [bes_snoc]; rfl) (Sub.sel [8] rfl)))))) (fun _ h => h.tail)
    ·
     replace h45 := of_decide_eq_false h45
     obtain rfl : j = k := by omega
     refine Wk.exit rfl ?_
     refine Kt.sel [3, 4, 5, 6, 7] [_, _, _, _, _] rfl ?_
     refine Wk.seq ?_
     refine Wk.seq ?_
     refine Wk.regionQ ?_
     refine Lq.run 1 rfl ?_
     refine Lq.nil ?_
     refine Kt.sel [3, 4, 5, 6, 7, 9] [_, _, _, _, _, _] rfl ?_
     refine Wk.block ?_
     refine Wk.loop (σ := Nat) (fun m => m ≤ 5) (fun m => [(3, pt_ p3), (4, pt_ p4), (5, i6_ ((j : Int))), (6, i6_ (turnsB a18 b18 (j : Int))), (7, sl_ g ((bes j).length) c), (9, i6_ ((m : Int)))]) (fun m => Own w.heap.size w [bk_ g cur 3, bk_ p4 #[i6_ b18.n, str b18.set, str b18.rel] 28, bk_ p3 #[i6_ a18.n, str a18.set, str a18.rel] 28]) (fun m => 5 - m) (0) (by omega) (Sub.sel [3, 4, 5, 6, 7, 9] rfl) (fun _ h => h) ?_
     rintro m hm5
     refine Wk.seq ?_
     refine Wk.seq ?_
     refine Wk.regionQ ?_
     refine Lq.run 2 rfl ?_
     refine Lq.nil ?_
     refine Kt.sel [3, 4, 5, 6, 7, 9, 52] [_, _, _, _, _, _, _] rfl ?_
     refine Wk.cond (b := decide (((m : Int)) ≤ (4 : Int))) rfl (fun h52 => ?_) (fun h52 => ?_)
     ·
      replace h52 := of_decide_eq_true h52
      refine Wk.skip ?_
      refine Kt.sel [3, 4, 5, 6, 7, 9] [_, _, _, _, _, _] rfl ?_
      refine Wk.seq ?_
      refine Wk.block ?_
      refine Wk.seq ?_
      refine Wk.regionQ ?_
      refine Lq.op rfl rfl rfl (OpQ.loadBox (cs := #[i6_ a18.n, str a18.set, str a18.rel]) 2 rfl Tryd.isAgg28 rfl rfl Tryd.sizeOf28) ?_
      refine Lq.run 1 rfl ?_
      refine Lq.op rfl rfl rfl (OpQ.loadBox (cs := #[i6_ b18.n, str b18.set, str b18.rel]) 1 rfl Tryd.isAgg28 rfl rfl Tryd.sizeOf28) ?_
      refine Lq.run 2 rfl ?_
      refine Lq.op (v := bo_ (pebWinB a18 (bes j) b18 (bes j) ((m : Int)))) rfl rfl rfl (OpQ.call rfl Tryd.call25 rfl Own.stable (fun w1 hw1 => iPWin_ok a18 b18 (bes j) (bes j) (sl_ g ((bes j).length) c) (sl_ g ((bes j).length) c) w1 hsa18 hsb18 (Own.row hw1 (i := 0) rfl (by simpa using ht) (by simp) hl) (Own.row hw1 (i := 0) rfl (by simpa using ht) (by simp) hl) (by first | (simp; done) | (simp; omega) | omega) (by first | (simp; done) | (simp; omega) | omega) ((m : Int)))) ?_
      refine Lq.run 3 rfl ?_
      refine Lq.bool fun b63 hg63 => ?_
      cases b63
      ·
       replace hg63 := of_decide_eq_false hg63
       refine Lq.run 4 rfl ?_
       refine Lq.op rfl rfl rfl (OpQ.bne rfl Tryd.runUnderlying4 rfl rfl) ?_
       refine Lq.nil ?_
       refine Kt.sel [3, 4, 5, 6, 7, 9, 68] [_, _, _, _, _, _, _] rfl ?_
       refine Wk.cond (b := (pebWinB a18 (bes j) b18 (bes j) ((m : Int))) != (decide (((m : Int)) < (turnsB a18 b18 (j : Int))))) rfl (fun h68 => ?_) (fun h68 => ?_)
       ·
        first | exact absurd h68 (by rw [turns_never_win hVa hVb h1 h3 hT (by assumption) (by omega) (by omega)]; decide) | exact absurd h68 (by rw [turns_some_win hVa hVb h1 h3 hT (by assumption) (by omega) (by omega)]; simp)
       ·
        refine Wk.skip ?_
        refine Kt.sel [3, 4, 5, 6, 7, 9] [_, _, _, _, _, _] rfl ?_
        refine Wk.regionQ ?_
        refine Lq.run 1 rfl ?_
        refine Lq.op rfl rfl rfl (OpQ.add rfl rfl rfl (by omega) (by omega)) ?_
        refine Lq.run 1 rfl ?_
        refine Lq.nil ?_
        refine Kt.again (m + 1) (by omega) (by omega) (Sub.sel [3, 4, 5, 6, 7, 9] rfl) (fun _ h => h)
      ·
       replace hg63 := of_decide_eq_true hg63
       refine Lq.pass rfl rfl rfl ?_
       refine Lq.pass rfl rfl rfl ?_
       refine Lq.pass rfl rfl rfl ?_
       refine Lq.run 1 rfl ?_
       refine Lq.op rfl rfl rfl (OpQ.bne rfl Tryd.runUnderlying4 rfl rfl) ?_
       refine Lq.nil ?_
       refine Kt.sel [3, 4, 5, 6, 7, 9, 68] [_, _, _, _, _, _, _] rfl ?_
       refine Wk.cond (b := (pebWinB a18 (bes j) b18 (bes j) ((m : Int))) != true) rfl (fun h68_1 => ?_) (fun h68_1 => ?_)
       ·
        first | exact absurd h68_1 (by rw [turns_never_win hVa hVb h1 h3 hT (by assumption) (by omega) (by omega)]; decide) | exact absurd h68_1 (by rw [turns_some_win hVa hVb h1 h3 hT (by assumption) (by omega) (by omega)]; simp)
       ·
        refine Wk.skip ?_
        refine Kt.sel [3, 4, 5, 6, 7, 9] [_, _, _, _, _, _] rfl ?_
        refine Wk.regionQ ?_
        refine Lq.run 1 rfl ?_
        refine Lq.op rfl rfl rfl (OpQ.add rfl rfl rfl (by omega) (by omega)) ?_
        refine Lq.run 1 rfl ?_
        refine Lq.nil ?_
        refine Kt.again (m + 1) (by omega) (by omega) (Sub.sel [3, 4, 5, 6, 7, 9] rfl) (fun _ h => h)
     ·
      replace h52 := of_decide_eq_false h52
      refine Wk.exit rfl ?_
      refine Kt.sel [3, 4, 5, 6, 7] [_, _, _, _, _] rfl ?_
      refine Wk.seq ?_
      refine Wk.region ?_
      refine Ll.op rfl rfl rfl (OpQ.loadBox (cs := #[i6_ a18.n, str a18.set, str a18.rel]) 2 rfl Tryd.isAgg28 rfl rfl Tryd.sizeOf28) ?_
      refine Ll.op rfl rfl rfl (OpQ.loadBox (cs := #[i6_ b18.n, str b18.set, str b18.rel]) 1 rfl Tryd.isAgg28 rfl rfl Tryd.sizeOf28) ?_
      refine Ll.callSome (ok := fun ((v, y) : Value × Bool) => y = true → Shaped a18 b18) (v := fun ((v, y) : Value × Bool) => .tuple #[v, bo_ y]) (xs := [.tmp 70, .tmp 71]) (vs := [vS a18, vS b18]) rfl rfl rfl rfl Tryd.call36 rfl (fun w1 hw1 => (iShape_ok a18 b18 w1 hsa18 hsb18).mono fun en w' ⟨v, y, h1, h2, h3⟩ => ⟨(v, y), h1, h2, h3⟩) fun ⟨v72, y72⟩ hS72 => ?_
      show Ll _ _ (Own _ _ [_, _, _]) _ _ ((72, .tuple #[v72, bo_ y72]) :: _) _ _ _
      have hshy72 := hS72
      refine Ll.run 1 rfl ?_
      refine Ll.op (v := v72) rfl rfl rfl (OpQ.extract rfl rfl rfl) ?_
      refine Ll.op (v := bo_ y72) rfl rfl rfl (OpQ.extract rfl rfl rfl) ?_
      refine Ll.run 2 rfl ?_
      refine Ll.nil ?_
      refine Kt.sel [3, 4, 5, 6, 7, 11] [_, _, _, _, _, _] rfl ?_
      refine Wk.seq ?_
      refine Wk.regionQ ?_
      refine Lq.op rfl rfl rfl (OpQ.loadBox (cs := #[i6_ a18.n, str a18.set, str a18.rel]) 2 rfl Tryd.isAgg28 rfl rfl Tryd.sizeOf28) ?_
      refine Lq.op rfl rfl rfl (OpQ.loadBox (cs := #[i6_ b18.n, str b18.set, str b18.rel]) 1 rfl Tryd.isAgg28 rfl rfl Tryd.sizeOf28) ?_
      refine Lq.run 1 rfl ?_
      refine Lq.op rfl rfl rfl (OpQ.sub rfl rfl rfl (by omega) (by omega)) ?_
      refine Lq.op (v := i6_ (turnsB a18 b18 (((j : Int)) - (1 : Int)))) rfl rfl rfl (OpQ.call rfl Tryd.call27 rfl Own.stable (fun w1 hw1 => iTurns_ok a18 b18 (((j : Int)) - (1 : Int)) w1 hsa18 hsb18)) ?_
      refine Lq.run 1 rfl ?_
      refine Lq.nil ?_
      refine Kt.sel [3, 4, 5, 6, 7, 11, 12] [_, _, _, _, _, _, _] rfl ?_
      refine Wk.seq ?_
      refine Wk.regionQ ?_
      refine Lq.op rfl rfl rfl (OpQ.loadBox (cs := #[i6_ a18.n, str a18.set, str a18.rel]) 2 rfl Tryd.isAgg28 rfl rfl Tryd.sizeOf28) ?_
      refine Lq.run 1 rfl ?_
      refine Lq.op rfl rfl rfl (OpQ.loadBox (cs := #[i6_ b18.n, str b18.set, str b18.rel]) 1 rfl Tryd.isAgg28 rfl rfl Tryd.sizeOf28) ?_
      refine Lq.run 1 rfl ?_
      refine Lq.op (v := bo_ (pebEverB a18 (bes j) b18 (bes j))) rfl rfl rfl (OpQ.call rfl Tryd.call29 rfl Own.stable (fun w1 hw1 => iEver_ok a18 b18 (bes j) (bes j) (sl_ g ((bes j).length) c) (sl_ g ((bes j).length) c) w1 hsa18 hsb18 (Own.row hw1 (i := 0) rfl (by simpa using ht) (by simp) hl) (Own.row hw1 (i := 0) rfl (by simpa using ht) (by simp) hl) (by first | (simp; done) | (simp; omega) | omega) (by first | (simp; done) | (simp; omega) | omega))) ?_
      refine Lq.run 2 rfl ?_
      refine Lq.op rfl rfl rfl (OpQ.beq rfl Tryd.runUnderlying4 rfl rfl) ?_
      refine Lq.run 1 rfl ?_
      refine Lq.bool fun b88 hg88 => ?_
      cases b88
      ·
       exact absurd hg88 (by rw [turns_ever hVa hVb h1 h3 hT, beq_self_eq_true]; decide)
      ·
       refine Lq.run 3 rfl ?_
       refine Lq.bool fun b91 hg91 => ?_
       cases b91
       ·
        replace hg91 := not_false hg91
        refine Lq.run 5 rfl ?_
        refine Lq.bool fun b96 hg96 => ?_
        cases b96
        ·
         replace hg96 := of_decide_eq_false hg96
         exact absurd (shaped_turns (hshy72 (by simp_all)) hT) hg96
        ·
         replace hg96 := of_decide_eq_true hg96
         refine Lq.op rfl rfl rfl (OpQ.loadBox (cs := #[i6_ b18.n, str b18.set, str b18.rel]) 1 rfl Tryd.isAgg28 rfl rfl Tryd.sizeOf28) ?_
         refine Lq.op rfl rfl rfl (OpQ.loadBox (cs := #[i6_ a18.n, str a18.set, str a18.rel]) 2 rfl Tryd.isAgg28 rfl rfl Tryd.sizeOf28) ?_
         refine Lq.run 1 rfl ?_
         refine Lq.op (v := i6_ (turnsB b18 a18 ((j : Int)))) rfl rfl rfl (OpQ.call rfl Tryd.call27 rfl Own.stable (fun w1 hw1 => iTurns_ok b18 a18 ((j : Int)) w1 hsb18 hsa18)) ?_
         refine Lq.run 4 rfl ?_
         refine Lq.bool fun b104 hg104 => ?_
         cases b104
         ·
          replace hg104 := of_decide_eq_false hg104
          exact absurd (turnsB_swap hVa hVb h1 h3) hg104
         ·
          replace hg104 := of_decide_eq_true hg104
          refine Lq.run 3 rfl ?_
          refine Lq.bool fun b107 hg107 => ?_
          cases b107
          ·
           replace hg107 := of_decide_eq_false hg107
           refine Lq.run 3 rfl ?_
           refine Lq.bool fun b110 hg110 => ?_
           cases b110
           ·
            replace hg110 := of_decide_eq_false hg110
            exact absurd (turnsB_fewer hVa hVb h1 h3 (by assumption)).1 hg110
           ·
            replace hg110 := of_decide_eq_true hg110
            refine Lq.run 7 rfl ?_
            refine Lq.nil ?_
            refine Kt.sel [2] [_] rfl ?_
            refine Wk.ret (Kt.end1 rfl rfl fun w' hw => ?_)
            -- ret 2: bo_ (decide ((turnsB a18 b18 (j : Int)) ≤ (turnsB a18 b18 (((j : Int)) - (1 : Int)))))
            exact ⟨ret_b (decide_eq_true (turnsB_fewer hVa hVb h1 h3 (by assumption)).2), hw.below⟩
          ·
           replace hg107 := of_decide_eq_true hg107
           refine Lq.pass rfl rfl rfl ?_
           refine Lq.pass rfl rfl rfl ?_
           refine Lq.pass rfl rfl rfl ?_
           refine Lq.pass rfl rfl rfl ?_
           refine Lq.pass rfl rfl rfl ?_
           refine Lq.pass rfl rfl rfl ?_
           refine Lq.pass rfl rfl rfl ?_
           refine Lq.run 3 rfl ?_
           refine Lq.nil ?_
           refine Kt.sel [2] [_] rfl ?_
           refine Wk.ret (Kt.end1 rfl rfl fun w' hw => ?_)
           -- ret 3: bo_ true
           exact ⟨ret_b (by first | rfl | (simp_all; done)), hw.below⟩
       ·
        replace hg91 := not_true hg91
        refine Lq.pass rfl rfl rfl ?_
        refine Lq.pass rfl rfl rfl ?_
        refine Lq.run 3 rfl ?_
        refine Lq.op rfl rfl rfl (OpQ.loadBox (cs := #[i6_ b18.n, str b18.set, str b18.rel]) 1 rfl Tryd.isAgg28 rfl rfl Tryd.sizeOf28) ?_
        refine Lq.op rfl rfl rfl (OpQ.loadBox (cs := #[i6_ a18.n, str a18.set, str a18.rel]) 2 rfl Tryd.isAgg28 rfl rfl Tryd.sizeOf28) ?_
        refine Lq.run 1 rfl ?_
        refine Lq.op (v := i6_ (turnsB b18 a18 ((j : Int)))) rfl rfl rfl (OpQ.call rfl Tryd.call27 rfl Own.stable (fun w1 hw1 => iTurns_ok b18 a18 ((j : Int)) w1 hsb18 hsa18)) ?_
        refine Lq.run 4 rfl ?_
        refine Lq.bool fun b104 hg104_1 => ?_
        cases b104
        ·
         replace hg104_1 := of_decide_eq_false hg104_1
         exact absurd (turnsB_swap hVa hVb h1 h3) hg104_1
        ·
         replace hg104_1 := of_decide_eq_true hg104_1
         refine Lq.run 3 rfl ?_
         refine Lq.bool fun b107 hg107_1 => ?_
         cases b107
         ·
          replace hg107_1 := of_decide_eq_false hg107_1
          refine Lq.run 3 rfl ?_
          refine Lq.bool fun b110 hg110_1 => ?_
          cases b110
          ·
           replace hg110_1 := of_decide_eq_false hg110_1
           exact absurd (turnsB_fewer hVa hVb h1 h3 (by assumption)).1 hg110_1
          ·
           replace hg110_1 := of_decide_eq_true hg110_1
           refine Lq.run 7 rfl ?_
           refine Lq.nil ?_
           refine Kt.sel [2] [_] rfl ?_
           refine Wk.ret (Kt.end1 rfl rfl fun w' hw => ?_)
           -- ret 4: bo_ (decide ((turnsB a18 b18 (j : Int)) ≤ (turnsB a18 b18 (((j : Int)) - (1 : Int)))))
           exact ⟨ret_b (decide_eq_true (turnsB_fewer hVa hVb h1 h3 (by assumption)).2), hw.below⟩
         ·
          replace hg107_1 := of_decide_eq_true hg107_1
          refine Lq.pass rfl rfl rfl ?_
          refine Lq.pass rfl rfl rfl ?_
          refine Lq.pass rfl rfl rfl ?_
          refine Lq.pass rfl rfl rfl ?_
          refine Lq.pass rfl rfl rfl ?_
          refine Lq.pass rfl rfl rfl ?_
          refine Lq.pass rfl rfl rfl ?_
          refine Lq.run 3 rfl ?_
          refine Lq.nil ?_
          refine Kt.sel [2] [_] rfl ?_
          refine Wk.ret (Kt.end1 rfl rfl fun w' hw => ?_)
          -- ret 5: bo_ true
          exact ⟨ret_b (by first | rfl | (simp_all; done)), hw.below⟩
  ·
   replace hg32 := not_true hg32
   replace hg32 := of_decide_eq_false hg32
   exact absurd rfl hg32

end Go.Proofs.YtjcoijejhachhaaDoor
