/-
  Walks: draws of pairs with lists.
-/
import Derived.Test.YtmannilblelfjaaDoorDrawsP
import Derived.Test.YtmannilblelfjaaDoorBase
namespace Go.Proofs.YtmannilblelfjaaDoor
open Go.RowKit Go.Wk
set_option linter.unusedSimpArgs false

set_option maxHeartbeats 400000 in
/-- spec.l4Pair -/
theorem l4Pair_ok (B : Nat) (w0 : World) (hs : List (Nat × Obj)) (rp p : Nat) (bv : Value) (L : List Int) (w : World) (hb : ∀ w, Own B w0 hs w → Row w bv (u8s L)) (hL8 : Bytes8 L) (hL : L.length ≤ 2000) (hp : p ≤ 600000) (hw : Own B w0 ((rp, .cells #[bv, .int .i64 (p : Int)] 119 (0, 0)) :: hs) w) :
    Calls Tryd.prog 70 [pt_ rp].toArray w fun en w' => ∃ a : St, ∃ b : St, ∃ v : Value, ∃ xs : List Int, ∃ u : Value, ∃ ys : List Int, ∃ new : List (Nat × Obj), ∃ p' : Nat, en = .returned (.tuple #[vS a, v, vS b, u]) ∧ (((a.Tame ∧ b.Tame) ∧ (xs.length ≤ 40 ∧ ys.length ≤ 40) ∧ ∀ w1, Own B w0 new w1 → Ints w1 v xs ∧ Ints w1 u ys) ∧ p' ≤ p + 2000) ∧ Own B w0 ((rp, .cells #[bv, .int .i64 (p' : Int)] 119 (0, 0)) :: (new ++ hs)) w' := by
 refine fnStartC (Own B w0 ((rp, .cells #[bv, .int .i64 (p : Int)] 119 (0, 0)) :: hs)) (n := 92) (e := [(0, pt_ rp)]) Tryd.func70 rfl rfl rfl rfl Ends.both hw ?_
 refine Wk.seq ?_
 refine Wk.region ?_
 refine Ll.alloc rfl rfl rfl rfl Tryd.zeroValue24 fun p2 hp2 => ?_
 show Ll _ _ (Own _ _ (bk_ p2 #[i6_ 0, str ([]), str ([])] 24 :: _ :: hs)) _ _ ((2, pt_ p2) :: _) _ _ _
 refine Ll.run 1 rfl ?_
 refine Ll.alloc rfl rfl rfl rfl Tryd.zeroValue24 fun p4 hp4 => ?_
 show Ll _ _ (Own _ _ (bk_ p4 #[i6_ 0, str ([]), str ([])] 24 :: _ :: _ :: hs)) _ _ ((4, pt_ p4) :: _) _ _ _
 refine Ll.run 1 rfl ?_
 refine Ll.nil ?_
 refine Kt.sel [0, 2, 4] [_, _, _] rfl ?_
 refine Wk.seq ?_
 refine Wk.region ?_
 refine Ll.run 1 rfl ?_
 refine Ll.callRd (rp := rp) (RT := 119) (p := p) (bv := bv) (hs := hs) (ok := fun ((a, b) : St × St) p' => ((a.Fine ∧ a.n ≤ 5) ∧ (b.Fine ∧ b.n ≤ 5)) ∧ p' ≤ p + 1000) (v := fun ((a, b) : St × St) => .tuple #[vS a, vS b]) (new := fun ((a, b) : St × St) => []) (xs := [.tmp 16]) (vs := [pt_ rp]) ([bk_ p4 #[i6_ 0, str ([]), str ([])] 24, bk_ p2 #[i6_ 0, str ([]), str ([])] 24] : List (Nat × Obj)) rfl rfl rfl rfl Tryd.call121 rfl (fun w1 hw1 => (l1Pair_ok B w0 (([bk_ p4 #[i6_ 0, str ([]), str ([])] 24, bk_ p2 #[i6_ 0, str ([]), str ([])] 24] : List (Nat × Obj)) ++ hs) rp p bv L w1 (fun w2 hw2 => hb w2 (Own.drop (f := ([bk_ p4 #[i6_ 0, str ([]), str ([])] 24, bk_ p2 #[i6_ 0, str ([]), str ([])] 24] : List (Nat × Obj))) hw2)) hL8 hL (by omega) hw1).mono fun en w' ⟨a', b', p', h1, h2, h3⟩ => ⟨(a', b'), p', h1, h2, h3⟩) fun ⟨a17, b17⟩ p_17 hKp_17 => ?_
 show Ll _ _ (Own _ _ (_ :: _ :: _ :: hs)) _ _ ((17, .tuple #[vS a17, vS b17]) :: _) _ _ _
 obtain ⟨⟨⟨hfa17, h5a17⟩, ⟨hfb17, h5b17⟩⟩, hep_17⟩ := hKp_17
 refine Ll.run 1 rfl ?_
 refine Ll.op (v := vS a17) rfl rfl rfl (OpQ.extract rfl rfl rfl) ?_
 refine Ll.op (v := vS b17) rfl rfl rfl (OpQ.extract rfl rfl rfl) ?_
 refine Ll.alloc rfl rfl rfl rfl Tryd.zeroValue24 fun p6 hp6 => ?_
 show Ll _ _ (Own _ _ (bk_ p6 #[i6_ 0, str ([]), str ([])] 24 :: _ :: _ :: _ :: hs)) _ _ ((6, pt_ p6) :: _) _ _ _
 refine Ll.alloc rfl rfl rfl rfl Tryd.zeroValue24 fun p7 hp7 => ?_
 show Ll _ _ (Own _ _ (bk_ p7 #[i6_ 0, str ([]), str ([])] 24 :: _ :: _ :: _ :: _ :: hs)) _ _ ((7, pt_ p7) :: _) _ _ _
 refine Ll.storeBox (cs' := #[i6_ a17.n, str a17.set, str a17.rel]) (hs' := (_ :: bk_ p6 #[i6_ a17.n, str a17.set, str a17.rel] 24 :: _ :: _ :: _ :: hs)) 1 rfl rfl rfl rfl rfl (by kernel_rfl : _ = some Tryd.t24) rfl rfl rfl rfl rfl ?_
 refine Ll.storeBox (cs' := #[i6_ b17.n, str b17.set, str b17.rel]) (hs' := (bk_ p7 #[i6_ b17.n, str b17.set, str b17.rel] 24 :: _ :: _ :: _ :: _ :: hs)) 0 rfl rfl rfl rfl rfl (by kernel_rfl : _ = some Tryd.t24) rfl rfl rfl rfl rfl ?_
 refine Ll.nil ?_
 refine Kt.sel [0, 2, 4, 6, 7] [_, _, _, _, _] rfl ?_
 refine Wk.seq ?_
 refine Wk.region ?_
 refine Ll.run 1 rfl ?_
 refine Ll.slice (xs := [.const (i6_ 1), .const (i6_ 2), .const (i6_ 0), .const (i6_ 3), .const (i6_ 2), .const (i6_ 1), .const (i6_ 4)]) (vs := [i6_ 1, i6_ 2, i6_ 0, i6_ 3, i6_ 2, i6_ 1, i6_ 4]) Base.elem25 rfl rfl rfl rfl rfl rfl (by decide) rfl fun p21 hp21 => ?_
 refine Ll.callRd (rp := rp) (RT := 119) (p := p_17) (bv := bv) (hs := hs) (ok := fun (v : Int) p' => v ∈ ([1, 2, 0, 3, 2, 1, 4]) ∧ p' = p_17 + 1) (v := fun (v : Int) => i6_ v) (new := fun (v : Int) => []) (xs := [.tmp 20, .tmp 21]) (vs := [pt_ rp, sl_ p21 7 7]) ([bk_ p21 #[i6_ 1, i6_ 2, i6_ 0, i6_ 3, i6_ 2, i6_ 1, i6_ 4] 3, bk_ p7 #[i6_ b17.n, str b17.set, str b17.rel] 24, bk_ p6 #[i6_ a17.n, str a17.set, str a17.rel] 24, bk_ p4 #[i6_ 0, str ([]), str ([])] 24, bk_ p2 #[i6_ 0, str ([]), str ([])] 24] : List (Nat × Obj)) rfl rfl rfl rfl Tryd.call85 rfl (fun w1 hw1 => (num_ok B w0 (([bk_ p21 #[i6_ 1, i6_ 2, i6_ 0, i6_ 3, i6_ 2, i6_ 1, i6_ 4] 3, bk_ p7 #[i6_ b17.n, str b17.set, str b17.rel] 24, bk_ p6 #[i6_ a17.n, str a17.set, str a17.rel] 24, bk_ p4 #[i6_ 0, str ([]), str ([])] 24, bk_ p2 #[i6_ 0, str ([]), str ([])] 24] : List (Nat × Obj)) ++ hs) rp p_17 bv L (sl_ p21 7 7) ([1, 2, 0, 3, 2, 1, 4]) w1 (fun w2 hw2 => hb w2 (Own.drop (f := ([bk_ p21 #[i6_ 1, i6_ 2, i6_ 0, i6_ 3, i6_ 2, i6_ 1, i6_ 4] 3, bk_ p7 #[i6_ b17.n, str b17.set, str b17.rel] 24, bk_ p6 #[i6_ a17.n, str a17.set, str a17.rel] 24, bk_ p4 #[i6_ 0, str ([]), str ([])] 24, bk_ p2 #[i6_ 0, str ([]), str ([])] 24] : List (Nat × Obj))) hw2)) hL8 hL (fun w2 h2 => (Own.row h2 (i := 0) rfl (n := 7) (cap := 7) (vs := ints [1, 2, 0, 3, 2, 1, 4]) rfl rfl (by decide))) (by simp) (by omega) hw1).mono fun en w' ⟨v', p', h1, h2, h3⟩ => ⟨v', p', h1, h2, h3⟩) fun v22 p_22 hKp_22 => ?_
 show Ll _ _ (Own _ _ (_ :: _ :: _ :: _ :: _ :: _ :: hs)) _ _ ((22, i6_ v22) :: _) _ _ _
 obtain ⟨hmv22, hep_22⟩ := hKp_22
 have hvv22 : 0 ≤ v22 ∧ v22 ≤ 4 := by simp at hmv22; omega
 refine Ll.run 1 rfl ?_
 refine Ll.nil ?_
 refine Kt.sel [0, 2, 4, 6, 7, 8] [_, _, _, _, _, _] rfl ?_
 refine Wk.seq ?_
 refine Wk.region ?_
 refine Ll.run 1 rfl ?_
 refine Ll.op rfl rfl rfl (OpQ.loadBox (cs := #[i6_ a17.n, str a17.set, str a17.rel]) 2 rfl Tryd.isAgg24 rfl rfl Tryd.sizeOf24) ?_
 refine Ll.run 1 rfl ?_
 refine Ll.callRd (rp := rp) (RT := 119) (p := p_22) (bv := bv) (hs := hs) (ok := fun ((g, c, u, xs) : Nat × Nat × Array Value × List Int) p' => (u.size = c * 1 ∧ xs.length ≤ c ∧ u.toList.take xs.length = ints xs) ∧ xs.length = v22.toNat ∧ p' ≤ p_22 + 10) (v := fun ((g, c, u, xs) : Nat × Nat × Array Value × List Int) => sl_ g xs.length c) (new := fun ((g, c, u, xs) : Nat × Nat × Array Value × List Int) => [bk_ g u 3]) (xs := [.tmp 23, .tmp 24, .tmp 25]) (vs := [pt_ rp, vS a17, i6_ v22]) ([bk_ p21 #[i6_ 1, i6_ 2, i6_ 0, i6_ 3, i6_ 2, i6_ 1, i6_ 4] 3, bk_ p7 #[i6_ b17.n, str b17.set, str b17.rel] 24, bk_ p6 #[i6_ a17.n, str a17.set, str a17.rel] 24, bk_ p4 #[i6_ 0, str ([]), str ([])] 24, bk_ p2 #[i6_ 0, str ([]), str ([])] 24] : List (Nat × Obj)) rfl rfl rfl rfl Tryd.call131 rfl (fun w1 hw1 => (l4Some_ok B w0 (([bk_ p21 #[i6_ 1, i6_ 2, i6_ 0, i6_ 3, i6_ 2, i6_ 1, i6_ 4] 3, bk_ p7 #[i6_ b17.n, str b17.set, str b17.rel] 24, bk_ p6 #[i6_ a17.n, str a17.set, str a17.rel] 24, bk_ p4 #[i6_ 0, str ([]), str ([])] 24, bk_ p2 #[i6_ 0, str ([]), str ([])] 24] : List (Nat × Obj)) ++ hs) rp p_22 bv L a17 v22 w1 (fun w2 hw2 => hb w2 (Own.drop (f := ([bk_ p21 #[i6_ 1, i6_ 2, i6_ 0, i6_ 3, i6_ 2, i6_ 1, i6_ 4] 3, bk_ p7 #[i6_ b17.n, str b17.set, str b17.rel] 24, bk_ p6 #[i6_ a17.n, str a17.set, str a17.rel] 24, bk_ p4 #[i6_ 0, str ([]), str ([])] 24, bk_ p2 #[i6_ 0, str ([]), str ([])] 24] : List (Nat × Obj))) hw2)) hL8 hL (by omega) (by omega) (by omega) hw1).mono fun en w' ⟨g', c', u', xs', p', h1, h2, h3⟩ => ⟨(g', c', u', xs'), p', h1, h2, h3⟩) fun ⟨g26, c26, u26, xs26⟩ p_26 hKp_26 => ?_
 show Ll _ _ (Own _ _ (_ :: _ :: _ :: _ :: _ :: _ :: _ :: hs)) _ _ ((26, sl_ g26 xs26.length c26) :: _) _ _ _
 obtain ⟨⟨hcg26, hlg26, htg26⟩, hng26, hep_26⟩ := hKp_26
 refine Ll.run 1 rfl ?_
 refine Ll.nil ?_
 refine Kt.sel [0, 2, 4, 6, 7, 8, 9] [_, _, _, _, _, _, _] rfl ?_
 refine Wk.seq ?_
 refine Wk.region ?_
 refine Ll.run 1 rfl ?_
 refine Ll.op rfl rfl rfl (OpQ.loadBox (cs := #[i6_ b17.n, str b17.set, str b17.rel]) 2 rfl Tryd.isAgg24 rfl rfl Tryd.sizeOf24) ?_
 refine Ll.run 1 rfl ?_
 refine Ll.callRd (rp := rp) (RT := 119) (p := p_26) (bv := bv) (hs := hs) (ok := fun ((g, c, u, xs) : Nat × Nat × Array Value × List Int) p' => (u.size = c * 1 ∧ xs.length ≤ c ∧ u.toList.take xs.length = ints xs) ∧ xs.length = v22.toNat ∧ p' ≤ p_26 + 10) (v := fun ((g, c, u, xs) : Nat × Nat × Array Value × List Int) => sl_ g xs.length c) (new := fun ((g, c, u, xs) : Nat × Nat × Array Value × List Int) => [bk_ g u 3]) (xs := [.tmp 27, .tmp 28, .tmp 29]) (vs := [pt_ rp, vS b17, i6_ v22]) ([bk_ g26 u26 3, bk_ p21 #[i6_ 1, i6_ 2, i6_ 0, i6_ 3, i6_ 2, i6_ 1, i6_ 4] 3, bk_ p7 #[i6_ b17.n, str b17.set, str b17.rel] 24, bk_ p6 #[i6_ a17.n, str a17.set, str a17.rel] 24, bk_ p4 #[i6_ 0, str ([]), str ([])] 24, bk_ p2 #[i6_ 0, str ([]), str ([])] 24] : List (Nat × Obj)) rfl rfl rfl rfl Tryd.call131 rfl (fun w1 hw1 => (l4Some_ok B w0 (([bk_ g26 u26 3, bk_ p21 #[i6_ 1, i6_ 2, i6_ 0, i6_ 3, i6_ 2, i6_ 1, i6_ 4] 3, bk_ p7 #[i6_ b17.n, str b17.set, str b17.rel] 24, bk_ p6 #[i6_ a17.n, str a17.set, str a17.rel] 24, bk_ p4 #[i6_ 0, str ([]), str ([])] 24, bk_ p2 #[i6_ 0, str ([]), str ([])] 24] : List (Nat × Obj)) ++ hs) rp p_26 bv L b17 v22 w1 (fun w2 hw2 => hb w2 (Own.drop (f := ([bk_ g26 u26 3, bk_ p21 #[i6_ 1, i6_ 2, i6_ 0, i6_ 3, i6_ 2, i6_ 1, i6_ 4] 3, bk_ p7 #[i6_ b17.n, str b17.set, str b17.rel] 24, bk_ p6 #[i6_ a17.n, str a17.set, str a17.rel] 24, bk_ p4 #[i6_ 0, str ([]), str ([])] 24, bk_ p2 #[i6_ 0, str ([]), str ([])] 24] : List (Nat × Obj))) hw2)) hL8 hL (by omega) (by omega) (by omega) hw1).mono fun en w' ⟨g', c', u', xs', p', h1, h2, h3⟩ => ⟨(g', c', u', xs'), p', h1, h2, h3⟩) fun ⟨g30, c30, u30, xs30⟩ p_30 hKp_30 => ?_
 show Ll _ _ (Own _ _ (_ :: _ :: _ :: _ :: _ :: _ :: _ :: _ :: hs)) _ _ ((30, sl_ g30 xs30.length c30) :: _) _ _ _
 obtain ⟨⟨hcg30, hlg30, htg30⟩, hng30, hep_30⟩ := hKp_30
 refine Ll.run 1 rfl ?_
 refine Ll.nil ?_
 refine Kt.sel [0, 2, 4, 6, 7, 8, 9, 10] [_, _, _, _, _, _, _, _] rfl ?_
 refine Wk.seq ?_
 refine Wk.region ?_
 refine Ll.op rfl rfl rfl (OpQ.loadBox (cs := #[i6_ a17.n, str a17.set, str a17.rel]) 4 rfl Tryd.isAgg24 rfl rfl Tryd.sizeOf24) ?_
 refine Ll.op rfl rfl rfl (OpQ.loadBox (cs := #[i6_ b17.n, str b17.set, str b17.rel]) 3 rfl Tryd.isAgg24 rfl rfl Tryd.sizeOf24) ?_
 refine Ll.callBack (ok := fun ((v, b, ys, new) : Value × Bool × List Int × List (Nat × Obj)) => ys.length ≤ 8 ∧ (b = true → a17.n = b17.n ∧ (ys.length : Int) = a17.n ∧ a17.Els ys ∧ sameB a17 ys b17 (upto ys.length) = true) ∧ ∀ w, Own B w0 new w → Ints w v ys) (v := fun ((v, b, ys, new) : Value × Bool × List Int × List (Nat × Obj)) => .tuple #[v, .bool b]) (new := fun ((v, b, ys, new) : Value × Bool × List Int × List (Nat × Obj)) => new) (hs := hs) (xs := [.tmp 32, .tmp 33]) (vs := [vS a17, vS b17]) ([bk_ g30 u30 3, bk_ g26 u26 3, bk_ p21 #[i6_ 1, i6_ 2, i6_ 0, i6_ 3, i6_ 2, i6_ 1, i6_ 4] 3, bk_ p7 #[i6_ b17.n, str b17.set, str b17.rel] 24, bk_ p6 #[i6_ a17.n, str a17.set, str a17.rel] 24, bk_ p4 #[i6_ 0, str ([]), str ([])] 24, bk_ p2 #[i6_ 0, str ([]), str ([])] 24, bk_ rp #[bv, i6_ ((p_30 : Int))] 119] : List (Nat × Obj)) rfl rfl rfl rfl Tryd.call132 rfl (fun w1 hw1 => (shape_ok a17 b17 B w0 (([bk_ g30 u30 3, bk_ g26 u26 3, bk_ p21 #[i6_ 1, i6_ 2, i6_ 0, i6_ 3, i6_ 2, i6_ 1, i6_ 4] 3, bk_ p7 #[i6_ b17.n, str b17.set, str b17.rel] 24, bk_ p6 #[i6_ a17.n, str a17.set, str a17.rel] 24, bk_ p4 #[i6_ 0, str ([]), str ([])] 24, bk_ p2 #[i6_ 0, str ([]), str ([])] 24, bk_ rp #[bv, i6_ ((p_30 : Int))] 119] : List (Nat × Obj)) ++ hs) w1 hfa17 hfb17 hw1).mono fun en w' ⟨v, b, ys, new, h1, h2, h3⟩ => ⟨(v, b, ys, new), h1, h2, h3⟩) fun ⟨v2, b2, ys2, new2⟩ hO => ?_
 dsimp only at hO
 obtain ⟨hy8, hyT, hyI⟩ := hO
 show Ll _ _ (Own _ _ (_ :: _ :: _ :: _ :: _ :: _ :: _ :: _ :: (new2 ++ hs))) _ _ ((34, .tuple #[v2, bo_ b2]) :: _) _ _ _
 refine Ll.run 1 rfl ?_
 refine Ll.op (v := v2) rfl rfl rfl (OpQ.extract rfl rfl rfl) ?_
 refine Ll.op (v := bo_ b2) rfl rfl rfl (OpQ.extract rfl rfl rfl) ?_
 refine Ll.run 2 rfl ?_
 refine Ll.nil ?_
 refine Kt.sel [0, 2, 4, 6, 7, 8, 9, 10, 11, 12] [_, _, _, _, _, _, _, _, _, _] rfl ?_
 refine Wk.seq ?_
 refine Wk.seq ?_
 refine Wk.join (σ := Bool × Nat) (fun ⟨b9, p9⟩ => p9 ≤ p_30 + 1) (fun ⟨b9, p9⟩ => [(0, pt_ rp), (2, pt_ p2), (4, pt_ p4), (6, pt_ p6), (7, pt_ p7), (8, i6_ v22), (9, sl_ g26 xs26.length c26), (10, sl_ g30 xs30.length c30), (11, v2), (42, bo_ b9)]) (fun ⟨b9, p9⟩ => Own B w0 (bk_ g30 u30 3 :: bk_ g26 u26 3 :: bk_ p21 #[i6_ 1, i6_ 2, i6_ 0, i6_ 3, i6_ 2, i6_ 1, i6_ 4] 3 :: bk_ p7 #[i6_ b17.n, str b17.set, str b17.rel] 24 :: bk_ p6 #[i6_ a17.n, str a17.set, str a17.rel] 24 :: bk_ p4 #[i6_ 0, str ([]), str ([])] 24 :: bk_ p2 #[i6_ 0, str ([]), str ([])] 24 :: bk_ rp #[bv, i6_ ((p9 : Int))] 119 :: (new2 ++ hs))) ?_ ?_
 ·
  refine Wk.region ?_
  refine Ll.run 2 rfl ?_
  refine Ll.bool fun b38 hg38 => ?_
  cases b38
  ·
   refine Ll.pass rfl rfl rfl ?_
   refine Ll.pass rfl rfl rfl ?_
   refine Ll.pass rfl rfl rfl ?_
   refine Ll.run 1 rfl ?_
   refine Ll.nil ?_
   refine Kt.joined ((false, p_30)) (by (try dsimp only); omega) (Sub.sel [0, 2, 4, 6, 7, 8, 9, 10, 11, 42] rfl) (fun _ h => h)
  ·
   refine Ll.run 1 rfl ?_
   refine Ll.callRd (rp := rp) (RT := 119) (p := p_30) (bv := bv) (hs := (new2 ++ hs)) (ok := fun (k : Int) p' => 0 ≤ k ∧ (1 ≤ (4 : Int) → k < 4) ∧ p' = p_30 + 1) (v := fun (k : Int) => i6_ k) (new := fun (k : Int) => []) (xs := [.tmp 39, .const (i6_ 4)]) (vs := [pt_ rp, i6_ 4]) ([bk_ g30 u30 3, bk_ g26 u26 3, bk_ p21 #[i6_ 1, i6_ 2, i6_ 0, i6_ 3, i6_ 2, i6_ 1, i6_ 4] 3, bk_ p7 #[i6_ b17.n, str b17.set, str b17.rel] 24, bk_ p6 #[i6_ a17.n, str a17.set, str a17.rel] 24, bk_ p4 #[i6_ 0, str ([]), str ([])] 24, bk_ p2 #[i6_ 0, str ([]), str ([])] 24] : List (Nat × Obj)) rfl rfl rfl rfl Tryd.call123 rfl (fun w1 hw1 => (pick_ok B w0 (([bk_ g30 u30 3, bk_ g26 u26 3, bk_ p21 #[i6_ 1, i6_ 2, i6_ 0, i6_ 3, i6_ 2, i6_ 1, i6_ 4] 3, bk_ p7 #[i6_ b17.n, str b17.set, str b17.rel] 24, bk_ p6 #[i6_ a17.n, str a17.set, str a17.rel] 24, bk_ p4 #[i6_ 0, str ([]), str ([])] 24, bk_ p2 #[i6_ 0, str ([]), str ([])] 24] : List (Nat × Obj)) ++ (new2 ++ hs)) rp p_30 bv L 4 w1 (fun w2 hw2 => (fun w h => hb w (Own.drop (f := new2) h)) w2 (Own.drop (f := ([bk_ g30 u30 3, bk_ g26 u26 3, bk_ p21 #[i6_ 1, i6_ 2, i6_ 0, i6_ 3, i6_ 2, i6_ 1, i6_ 4] 3, bk_ p7 #[i6_ b17.n, str b17.set, str b17.rel] 24, bk_ p6 #[i6_ a17.n, str a17.set, str a17.rel] 24, bk_ p4 #[i6_ 0, str ([]), str ([])] 24, bk_ p2 #[i6_ 0, str ([]), str ([])] 24] : List (Nat × Obj))) hw2)) hL8 hL (by omega) hw1).mono fun en w' ⟨k', p', h1, h2, h3⟩ => ⟨k', p', h1, h2, h3⟩) fun k40 p_40 hKp_40 => ?_
   show Ll _ _ (Own _ _ (_ :: _ :: _ :: _ :: _ :: _ :: _ :: _ :: (new2 ++ hs))) _ _ ((40, i6_ k40) :: _) _ _ _
   obtain ⟨h0k40, h1k40, hep_40⟩ := hKp_40
   try have hltk40 := h1k40 (by first | omega | (split <;> omega) | decide)
   refine Ll.run 2 rfl ?_
   refine Ll.nil ?_
   refine Kt.joined ((decide ((0 : Int) < k40), p_40)) (by (try dsimp only); omega) (Sub.sel [0, 2, 4, 6, 7, 8, 9, 10, 11, 42] rfl) (fun _ h => h)
 rintro ⟨b9, p9⟩ hp9
 dsimp only
 refine Kt.sel [0, 2, 4, 6, 7, 8, 9, 10, 11, 42] [_, _, _, _, _, _, _, _, _, _] rfl ?_
 refine Wk.join (σ := Nat × Nat × Array Value × List Int) (fun ⟨g, c, u, zs⟩ => (u.size = c * 1 ∧ zs.length ≤ c ∧ u.toList.take zs.length = ints zs) ∧ zs.length ≤ 32) (fun ⟨g, c, u, zs⟩ => [(0, pt_ rp), (2, pt_ p2), (4, pt_ p4), (6, pt_ p6), (7, pt_ p7), (9, sl_ g26 xs26.length c26), (10, sl_ g zs.length c)]) (fun ⟨g, c, u, zs⟩ => Own B w0 (bk_ g u 3 :: bk_ g26 u26 3 :: bk_ p21 #[i6_ 1, i6_ 2, i6_ 0, i6_ 3, i6_ 2, i6_ 1, i6_ 4] 3 :: bk_ p7 #[i6_ b17.n, str b17.set, str b17.rel] 24 :: bk_ p6 #[i6_ a17.n, str a17.set, str a17.rel] 24 :: bk_ p4 #[i6_ 0, str ([]), str ([])] 24 :: bk_ p2 #[i6_ 0, str ([]), str ([])] 24 :: bk_ rp #[bv, i6_ ((p9 : Int))] 119 :: (new2 ++ hs))) ?_ ?_
 ·
  refine Wk.cond (b := b9) rfl (fun h42 => ?_) (fun h42 => ?_)
  ·
   refine Wk.seq ?_
   refine Wk.region ?_
   refine Ll.slice (xs := []) (vs := []) Base.elem25 rfl rfl rfl rfl rfl rfl (by decide) rfl fun p43 hp43 => ?_
   refine Ll.run 1 rfl ?_
   refine Ll.nil ?_
   refine Kt.sel [0, 2, 4, 6, 7, 8, 9, 10, 11] [_, _, _, _, _, _, _, _, _] rfl ?_
   refine Wk.seq ?_
   refine Wk.regionQ ?_
   refine Lq.run 1 rfl ?_
   refine Lq.nil ?_
   refine Kt.sel [0, 2, 4, 6, 7, 8, 9, 10, 11, 13] [_, _, _, _, _, _, _, _, _, _] rfl ?_
   refine Wk.block ?_
   refine Wk.loop (σ := Nat × Nat × Nat × Array Value × List Int) (fun ⟨k, g, c, u, zs⟩ => (k : Int) ≤ v22 ∧ (u.size = c * 1 ∧ zs.length ≤ c ∧ u.toList.take zs.length = ints zs) ∧ zs.length ≤ 8 * k) (fun ⟨k, g, c, u, zs⟩ => [(0, pt_ rp), (2, pt_ p2), (4, pt_ p4), (6, pt_ p6), (7, pt_ p7), (8, i6_ v22), (9, sl_ g26 xs26.length c26), (10, sl_ g zs.length c), (11, v2), (13, i6_ ((k : Int)))]) (fun ⟨k, g, c, u, zs⟩ => Own B w0 (bk_ g u 3 :: bk_ g30 u30 3 :: bk_ g26 u26 3 :: bk_ p21 #[i6_ 1, i6_ 2, i6_ 0, i6_ 3, i6_ 2, i6_ 1, i6_ 4] 3 :: bk_ p7 #[i6_ b17.n, str b17.set, str b17.rel] 24 :: bk_ p6 #[i6_ a17.n, str a17.set, str a17.rel] 24 :: bk_ p4 #[i6_ 0, str ([]), str ([])] 24 :: bk_ p2 #[i6_ 0, str ([]), str ([])] 24 :: bk_ rp #[bv, i6_ ((p9 : Int))] 119 :: (new2 ++ hs))) (fun ⟨k, g, c, u, zs⟩ => (v22 - k).toNat) ((0, p43, 0, #[], [])) ⟨by omega, ⟨rfl, Nat.le_refl 0, rfl⟩, by simp⟩ (Sub.sel [0, 2, 4, 6, 7, 8, 9, 10, 11, 13] rfl) (fun _ h => h) ?_
   rintro ⟨k, g, c, u, zs⟩ ⟨hk, ⟨hcg, hlg, htg⟩, hz⟩
   dsimp only
   refine Wk.seq ?_
   refine Wk.seq ?_
   refine Wk.regionQ ?_
   refine Lq.run 3 rfl ?_
   refine Lq.nil ?_
   refine Kt.sel [0, 2, 4, 6, 7, 8, 9, 10, 11, 13, 46] [_, _, _, _, _, _, _, _, _, _, _] rfl ?_
   refine Wk.cond (b := decide (((k : Int)) < v22)) rfl (fun h46 => ?_) (fun h46 => ?_)
   ·
    replace h46 := of_decide_eq_true h46
    refine Wk.skip ?_
    refine Kt.sel [0, 2, 4, 6, 7, 8, 9, 10, 11, 13] [_, _, _, _, _, _, _, _, _, _] rfl ?_
    refine Wk.seq ?_
    refine Wk.block ?_
    refine Wk.seq ?_
    refine Wk.regionQ ?_
    refine Lq.run 1 rfl ?_
    refine Lq.nil ?_
    refine Kt.sel [0, 2, 4, 6, 7, 8, 9, 10, 11, 13, 14] [_, _, _, _, _, _, _, _, _, _, _] rfl ?_
    refine Wk.block ?_
    refine Wk.loop (σ := Nat × Nat × Nat × Array Value × List Int) (fun ⟨j, g1, c1, u1, zs1⟩ => j ≤ ys2.length ∧ (u1.size = c1 * 1 ∧ zs1.length ≤ c1 ∧ u1.toList.take zs1.length = ints zs1) ∧ zs1.length ≤ 8 * k + j) (fun ⟨j, g1, c1, u1, zs1⟩ => [(0, pt_ rp), (2, pt_ p2), (4, pt_ p4), (6, pt_ p6), (7, pt_ p7), (8, i6_ v22), (9, sl_ g26 xs26.length c26), (10, sl_ g1 zs1.length c1), (11, v2), (13, i6_ ((k : Int))), (14, i6_ ((j : Int)))]) (fun ⟨j, g1, c1, u1, zs1⟩ => Own B w0 (bk_ g1 u1 3 :: bk_ g30 u30 3 :: bk_ g26 u26 3 :: bk_ p21 #[i6_ 1, i6_ 2, i6_ 0, i6_ 3, i6_ 2, i6_ 1, i6_ 4] 3 :: bk_ p7 #[i6_ b17.n, str b17.set, str b17.rel] 24 :: bk_ p6 #[i6_ a17.n, str a17.set, str a17.rel] 24 :: bk_ p4 #[i6_ 0, str ([]), str ([])] 24 :: bk_ p2 #[i6_ 0, str ([]), str ([])] 24 :: bk_ rp #[bv, i6_ ((p9 : Int))] 119 :: (new2 ++ hs))) (fun ⟨j, g1, c1, u1, zs1⟩ => ys2.length - j) ((0, g, c, u, zs)) ⟨by omega, ⟨by simpa using hcg, hlg, by simpa using htg⟩, by omega⟩ (Sub.sel [0, 2, 4, 6, 7, 8, 9, 10, 11, 13, 14] rfl) (fun _ h => h) ?_
    rintro ⟨j, g1, c1, u1, zs1⟩ ⟨hj, ⟨hcg1, hlg1, htg1⟩, hz1⟩
    dsimp only
    refine Wk.seq ?_
    refine Wk.seq ?_
    refine Wk.regionQ ?_
    refine Lq.run 2 rfl ?_
    refine Lq.op rfl rfl rfl (OpQ.lenRow rfl Tryd.runUnderlying25 rfl (ints_length _) (fun w1 hw1 => hyI _ (Own.dropR (Own.drop (f := [_, _, _, _, _, _, _, _, _]) hw1)))) ?_
    refine Lq.run 1 rfl ?_
    refine Lq.nil ?_
    refine Kt.sel [0, 2, 4, 6, 7, 8, 9, 10, 11, 13, 14, 52] [_, _, _, _, _, _, _, _, _, _, _, _] rfl ?_
    refine Wk.cond (b := decide (((j : Int)) < ((ys2.length : Int)))) rfl (fun h52 => ?_) (fun h52 => ?_)
    ·
     replace h52 := of_decide_eq_true h52
     refine Wk.skip ?_
     refine Kt.sel [0, 2, 4, 6, 7, 8, 9, 10, 11, 13, 14] [_, _, _, _, _, _, _, _, _, _, _] rfl ?_
     refine Wk.seq ?_
     refine Wk.block ?_
     refine Wk.seq ?_
     refine Wk.regionD Base.mixed (fun _ h => h.drawn) (by kernel_rfl) ?_
     refine Lq.run 2 rfl ?_
     refine Lq.op (v := .pointer (some (sAt v2 ((j : Int))))) rfl rfl rfl (OpQ.atRow rfl Tryd.runUnderlying25 Tryd.sizeOf3 rfl rfl (by omega) (by rw [ints_length]; omega) (fun w1 hw1 => hyI _ (Own.dropR (Own.drop (f := [_, _, _, _, _, _, _, _, _]) hw1)))) ?_
     refine Lq.op (v := i6_ (ys2.getD (((j : Int)).toNat) 0)) rfl rfl rfl (OpQ.load1 rfl Tryd.isAgg3 rfl (fun w1 hw1 => Ints.cell (hyI _ (Own.dropR (Own.drop (f := [_, _, _, _, _, _, _, _, _]) hw1))) (by omega) (by omega))) ?_
     refine Lq.run 2 rfl ?_
     refine Lq.op (v := pf_ g26 (0 + ((k : Int)).toNat)) rfl rfl rfl (OpQ.indexAddr1 rfl Tryd.runUnderlying25 Tryd.sizeOf3 rfl rfl (by omega) (by omega)) ?_
     refine Lq.op (v := i6_ (xs26.getD (0 + ((k : Int)).toNat) 0)) rfl rfl rfl (OpQ.loadAt 2 rfl Tryd.isAgg3 rfl rfl (cur_at htg26 (by rw [Nat.zero_add]; exact ints_at2 (by omega)))) ?_
     refine Lq.run 1 rfl ?_
     refine Lq.nil ?_
     refine Kt.sel [0, 2, 4, 6, 7, 8, 9, 10, 11, 13, 14, 63] [_, _, _, _, _, _, _, _, _, _, _, _] rfl ?_
     refine Wk.cond (b := decide ((ys2.getD (((j : Int)).toNat) 0) = (xs26.getD (0 + ((k : Int)).toNat) 0))) rfl (fun h63 => ?_) (fun h63 => ?_)
     ·
      replace h63 := of_decide_eq_true h63
      refine Wk.region ?_
      refine Ll.run 2 rfl ?_
      refine Ll.slice (xs := [.tmp 65]) (vs := [i6_ ((j : Int))]) Base.elem25 rfl rfl rfl rfl rfl rfl (by decide) rfl fun p66 hp66 => ?_
      refine Ll.appendInts (xs := zs1) (ys := [(j : Int)]) Base.elem25 1 rfl rfl rfl rfl rfl rfl rfl hcg1 hlg1 htg1 (fun w1 hw1 => (Own.row hw1 (i := 0) rfl (n := 1) (cap := 1) (vs := ints [(j : Int)]) rfl rfl (by decide))) ((zs1 ++ ([(j : Int)])).length) (by first | (simp; done) | (simp; omega)) (by first | (simp; done) | (simp; omega) | omega) fun p67 cap67 cur67 hp67 hcp67 hlp67 htp67 => ?_
      show Ll _ _ (Own _ _ (_ :: _ :: _ :: _ :: _ :: _ :: _ :: _ :: _ :: _ :: (new2 ++ hs))) _ _ ((67, sl_ p67 (((zs1 ++ ([(j : Int)])).length)) cap67) :: _) _ _ _
      refine Ll.run 1 rfl ?_
      refine Ll.nil ?_
      refine Kt.sel [0, 2, 4, 6, 7, 8, 9, 10, 11, 13, 14] [_, _, _, _, _, _, _, _, _, _, _] rfl ?_
      refine Wk.regionQ ?_
      refine Lq.run 1 rfl ?_
      refine Lq.op rfl rfl rfl (OpQ.add rfl rfl rfl (by omega) (by omega)) ?_
      refine Lq.run 1 rfl ?_
      refine Lq.nil ?_
      refine Kt.again ((j + 1, p67, cap67, cur67, zs1 ++ ([(j : Int)]))) ⟨by omega, ⟨by simpa using hcp67, hlp67, by simpa using (by simpa using htp67)⟩, (by (try dsimp only); (try simp only [List.length_append, List.length_cons, List.length_nil]); omega)⟩ (by omega) (Sub.sel [0, 2, 4, 6, 7, 8, 9, 10, 11, 13, 14] rfl) (fun _ h => h.sub (List.Sublist.cons _ (List.Sublist.cons_cons _ (List.Sublist.cons_cons _ (List.Sublist.cons_cons _ (List.Sublist.cons_cons _ (List.Sublist.cons_cons _ (List.Sublist.cons_cons _ (List.Sublist.cons_cons _ (List.Sublist.cons_cons _ (List.Sublist.cons_cons _ (List.Sublist.refl _))))))))))))
     ·
      replace h63 := of_decide_eq_false h63
      refine Wk.skip ?_
      refine Kt.sel [0, 2, 4, 6, 7, 8, 9, 10, 11, 13, 14] [_, _, _, _, _, _, _, _, _, _, _] rfl ?_
      refine Wk.regionQ ?_
      refine Lq.run 1 rfl ?_
      refine Lq.op rfl rfl rfl (OpQ.add rfl rfl rfl (by omega) (by omega)) ?_
      refine Lq.run 1 rfl ?_
      refine Lq.nil ?_
      refine Kt.again ((j + 1, g1, c1, u1, zs1)) ⟨by omega, ⟨by simpa using hcg1, hlg1, by simpa using htg1⟩, (by (try dsimp only); (try simp only [List.length_append, List.length_cons, List.length_nil]); omega)⟩ (by omega) (Sub.sel [0, 2, 4, 6, 7, 8, 9, 10, 11, 13, 14] rfl) (fun _ h => h.sub (List.Sublist.cons_cons _ (List.Sublist.cons_cons _ (List.Sublist.cons_cons _ (List.Sublist.cons_cons _ (List.Sublist.cons_cons _ (List.Sublist.cons_cons _ (List.Sublist.cons_cons _ (List.Sublist.cons_cons _ (List.Sublist.cons_cons _ (List.Sublist.refl _)))))))))))
    ·
     replace h52 := of_decide_eq_false h52
     refine Wk.exit rfl ?_
     refine Kt.sel [0, 2, 4, 6, 7, 8, 9, 10, 11, 13] [_, _, _, _, _, _, _, _, _, _] rfl ?_
     refine Wk.regionQ ?_
     refine Lq.run 1 rfl ?_
     refine Lq.op rfl rfl rfl (OpQ.add rfl rfl rfl (by omega) (by omega)) ?_
     refine Lq.run 1 rfl ?_
     refine Lq.nil ?_
     refine Kt.again ((k + 1, g1, c1, u1, zs1)) ⟨by omega, ⟨by simpa using hcg1, hlg1, by simpa using htg1⟩, (by (try dsimp only); omega)⟩ (by omega) (Sub.sel [0, 2, 4, 6, 7, 8, 9, 10, 11, 13] rfl) (fun _ h => h.sub (List.Sublist.cons_cons _ (List.Sublist.cons_cons _ (List.Sublist.cons_cons _ (List.Sublist.cons_cons _ (List.Sublist.cons_cons _ (List.Sublist.cons_cons _ (List.Sublist.cons_cons _ (List.Sublist.cons_cons _ (List.Sublist.cons_cons _ (List.Sublist.refl _)))))))))))
   ·
    replace h46 := of_decide_eq_false h46
    refine Wk.exit rfl ?_
    refine Kt.joined ((g, c, u, zs)) ⟨⟨by simpa using hcg, hlg, by simpa using htg⟩, by (try dsimp only); omega⟩ (Sub.sel [0, 2, 4, 6, 7, 9, 10] rfl) (fun _ h => h.sub (List.Sublist.cons_cons _ (List.Sublist.cons _ (List.Sublist.cons_cons _ (List.Sublist.cons_cons _ (List.Sublist.cons_cons _ (List.Sublist.cons_cons _ (List.Sublist.cons_cons _ (List.Sublist.cons_cons _ (List.Sublist.cons_cons _ (List.Sublist.refl _)))))))))))
  ·
   refine Wk.skip ?_
   refine Kt.joined ((g30, c30, u30, xs30)) ⟨⟨by simpa using hcg30, hlg30, by simpa using htg30⟩, by (try dsimp only); omega⟩ (Sub.sel [0, 2, 4, 6, 7, 9, 10] rfl) (fun _ h => h.sub (List.Sublist.cons_cons _ (List.Sublist.cons_cons _ (List.Sublist.cons_cons _ (List.Sublist.cons_cons _ (List.Sublist.cons_cons _ (List.Sublist.cons_cons _ (List.Sublist.cons_cons _ (List.Sublist.cons_cons _ (List.Sublist.refl _))))))))))
 rintro ⟨g, c, u, zs⟩ ⟨⟨hcg, hlg, htg⟩, hz⟩
 dsimp only
 refine Kt.sel [0, 2, 4, 6, 7, 9, 10] [_, _, _, _, _, _, _] rfl ?_
 refine Wk.seq ?_
 refine Wk.seq ?_
 refine Wk.region ?_
 refine Ll.run 1 rfl ?_
 refine Ll.callRd (rp := rp) (RT := 119) (p := p9) (bv := bv) (hs := (new2 ++ hs)) (ok := fun (k : Int) p' => 0 ≤ k ∧ (1 ≤ (40 : Int) → k < 40) ∧ p' = p9 + 1) (v := fun (k : Int) => i6_ k) (new := fun (k : Int) => []) (xs := [.tmp 68, .const (i6_ 40)]) (vs := [pt_ rp, i6_ 40]) ([bk_ g u 3, bk_ g26 u26 3, bk_ p21 #[i6_ 1, i6_ 2, i6_ 0, i6_ 3, i6_ 2, i6_ 1, i6_ 4] 3, bk_ p7 #[i6_ b17.n, str b17.set, str b17.rel] 24, bk_ p6 #[i6_ a17.n, str a17.set, str a17.rel] 24, bk_ p4 #[i6_ 0, str ([]), str ([])] 24, bk_ p2 #[i6_ 0, str ([]), str ([])] 24] : List (Nat × Obj)) rfl rfl rfl rfl Tryd.call123 rfl (fun w1 hw1 => (pick_ok B w0 (([bk_ g u 3, bk_ g26 u26 3, bk_ p21 #[i6_ 1, i6_ 2, i6_ 0, i6_ 3, i6_ 2, i6_ 1, i6_ 4] 3, bk_ p7 #[i6_ b17.n, str b17.set, str b17.rel] 24, bk_ p6 #[i6_ a17.n, str a17.set, str a17.rel] 24, bk_ p4 #[i6_ 0, str ([]), str ([])] 24, bk_ p2 #[i6_ 0, str ([]), str ([])] 24] : List (Nat × Obj)) ++ (new2 ++ hs)) rp p9 bv L 40 w1 (fun w2 hw2 => (fun w h => hb w (Own.drop (f := new2) h)) w2 (Own.drop (f := ([bk_ g u 3, bk_ g26 u26 3, bk_ p21 #[i6_ 1, i6_ 2, i6_ 0, i6_ 3, i6_ 2, i6_ 1, i6_ 4] 3, bk_ p7 #[i6_ b17.n, str b17.set, str b17.rel] 24, bk_ p6 #[i6_ a17.n, str a17.set, str a17.rel] 24, bk_ p4 #[i6_ 0, str ([]), str ([])] 24, bk_ p2 #[i6_ 0, str ([]), str ([])] 24] : List (Nat × Obj))) hw2)) hL8 hL (by omega) hw1).mono fun en w' ⟨k', p', h1, h2, h3⟩ => ⟨k', p', h1, h2, h3⟩) fun k69 p_69 hKp_69 => ?_
 show Ll _ _ (Own _ _ (_ :: _ :: _ :: _ :: _ :: _ :: _ :: _ :: (new2 ++ hs))) _ _ ((69, i6_ k69) :: _) _ _ _
 obtain ⟨h0k69, h1k69, hep_69⟩ := hKp_69
 try have hltk69 := h1k69 (by first | omega | (split <;> omega) | decide)
 refine Ll.nil ?_
 refine Kt.sel [0, 2, 4, 6, 7, 9, 10, 69] [_, _, _, _, _, _, _, _] rfl ?_
 refine Wk.join (σ := Nat × Nat × Array Value × List Int × Nat × Nat × Array Value × List Int × St × Nat) (fun ⟨ga, ca, ua, xa, gb, cb, ub, xb, aa, p8⟩ => (ua.size = ca * 1 ∧ xa.length ≤ ca ∧ ua.toList.take xa.length = ints xa) ∧ (ub.size = cb * 1 ∧ xb.length ≤ cb ∧ ub.toList.take xb.length = ints xb) ∧ xa.length ≤ 5 ∧ xb.length ≤ 33 ∧ aa.Tame ∧ p8 ≤ p_69 + 20) (fun ⟨ga, ca, ua, xa, gb, cb, ub, xb, aa, p8⟩ => [(2, pt_ p2), (4, pt_ p4), (6, pt_ p6), (7, pt_ p7), (9, sl_ ga xa.length ca), (10, sl_ gb xb.length cb)]) (fun ⟨ga, ca, ua, xa, gb, cb, ub, xb, aa, p8⟩ => Own B w0 (bk_ gb ub 3 :: bk_ ga ua 3 :: bk_ p21 #[i6_ 1, i6_ 2, i6_ 0, i6_ 3, i6_ 2, i6_ 1, i6_ 4] 3 :: bk_ p7 #[i6_ b17.n, str b17.set, str b17.rel] 24 :: bk_ p6 #[i6_ aa.n, str aa.set, str aa.rel] 24 :: bk_ p4 #[i6_ 0, str ([]), str ([])] 24 :: bk_ p2 #[i6_ 0, str ([]), str ([])] 24 :: bk_ rp #[bv, i6_ ((p8 : Int))] 119 :: (new2 ++ hs))) ?_ ?_
 ·
  refine Wk.block ?_
  refine Wk.seq ?_
  refine Wk.regionQ ?_
  refine Lq.run 2 rfl ?_
  refine Lq.nil ?_
  refine Kt.sel [0, 2, 4, 6, 7, 9, 10, 69, 70] [_, _, _, _, _, _, _, _, _] rfl ?_
  refine Wk.cond (b := decide (k69 = (0 : Int))) rfl (fun h70 => ?_) (fun h70 => ?_)
  ·
   replace h70 := of_decide_eq_true h70
   refine Wk.region ?_
   refine Ll.run 2 rfl ?_
   refine Ll.slice (xs := [.const (i6_ (-1)), .const (i6_ 8), .const (i6_ 0)]) (vs := [i6_ (-1), i6_ 8, i6_ 0]) Base.elem25 rfl rfl rfl rfl rfl rfl (by decide) rfl fun p74 hp74 => ?_
   refine Ll.callRd (rp := rp) (RT := 119) (p := p_69) (bv := bv) (hs := (new2 ++ hs)) (ok := fun (v : Int) p' => v ∈ ([-1, 8, 0]) ∧ p' = p_69 + 1) (v := fun (v : Int) => i6_ v) (new := fun (v : Int) => []) (xs := [.tmp 73, .tmp 74]) (vs := [pt_ rp, sl_ p74 3 3]) ([bk_ p74 #[i6_ (-1), i6_ 8, i6_ 0] 3, bk_ g u 3, bk_ g26 u26 3, bk_ p21 #[i6_ 1, i6_ 2, i6_ 0, i6_ 3, i6_ 2, i6_ 1, i6_ 4] 3, bk_ p7 #[i6_ b17.n, str b17.set, str b17.rel] 24, bk_ p6 #[i6_ a17.n, str a17.set, str a17.rel] 24, bk_ p4 #[i6_ 0, str ([]), str ([])] 24, bk_ p2 #[i6_ 0, str ([]), str ([])] 24] : List (Nat × Obj)) rfl rfl rfl rfl Tryd.call85 rfl (fun w1 hw1 => (num_ok B w0 (([bk_ p74 #[i6_ (-1), i6_ 8, i6_ 0] 3, bk_ g u 3, bk_ g26 u26 3, bk_ p21 #[i6_ 1, i6_ 2, i6_ 0, i6_ 3, i6_ 2, i6_ 1, i6_ 4] 3, bk_ p7 #[i6_ b17.n, str b17.set, str b17.rel] 24, bk_ p6 #[i6_ a17.n, str a17.set, str a17.rel] 24, bk_ p4 #[i6_ 0, str ([]), str ([])] 24, bk_ p2 #[i6_ 0, str ([]), str ([])] 24] : List (Nat × Obj)) ++ (new2 ++ hs)) rp p_69 bv L (sl_ p74 3 3) ([-1, 8, 0]) w1 (fun w2 hw2 => (fun w h => hb w (Own.drop (f := new2) h)) w2 (Own.drop (f := ([bk_ p74 #[i6_ (-1), i6_ 8, i6_ 0] 3, bk_ g u 3, bk_ g26 u26 3, bk_ p21 #[i6_ 1, i6_ 2, i6_ 0, i6_ 3, i6_ 2, i6_ 1, i6_ 4] 3, bk_ p7 #[i6_ b17.n, str b17.set, str b17.rel] 24, bk_ p6 #[i6_ a17.n, str a17.set, str a17.rel] 24, bk_ p4 #[i6_ 0, str ([]), str ([])] 24, bk_ p2 #[i6_ 0, str ([]), str ([])] 24] : List (Nat × Obj))) hw2)) hL8 hL (fun w2 h2 => (Own.row h2 (i := 0) rfl (n := 3) (cap := 3) (vs := ints [-1, 8, 0]) rfl rfl (by decide))) (by simp) (by omega) hw1).mono fun en w' ⟨v', p', h1, h2, h3⟩ => ⟨v', p', h1, h2, h3⟩) fun v75 p_75 hKp_75 => ?_
   show Ll _ _ (Own _ _ (_ :: _ :: _ :: _ :: _ :: _ :: _ :: _ :: _ :: (new2 ++ hs))) _ _ ((75, i6_ v75) :: _) _ _ _
   obtain ⟨hmv75, hep_75⟩ := hKp_75
   have hvv75 : -1 ≤ v75 ∧ v75 ≤ 8 := by simp at hmv75; omega
   refine Ll.slice (xs := [.tmp 75]) (vs := [i6_ v75]) Base.elem25 rfl rfl rfl rfl rfl rfl (by decide) rfl fun p76 hp76 => ?_
   refine Ll.appendInts (xs := xs26) (ys := [v75]) Base.elem25 3 rfl rfl rfl rfl rfl rfl rfl hcg26 hlg26 htg26 (fun w1 hw1 => (Own.row hw1 (i := 0) rfl (n := 1) (cap := 1) (vs := ints [v75]) rfl rfl (by decide))) ((xs26 ++ ([v75])).length) (by first | (simp; done) | (simp; omega)) (by first | (simp; done) | (simp; omega) | omega) fun p77 cap77 cur77 hp77 hcp77 hlp77 htp77 => ?_
   show Ll _ _ (Own _ _ (_ :: _ :: _ :: _ :: _ :: _ :: _ :: _ :: _ :: _ :: (new2 ++ hs))) _ _ ((77, sl_ p77 (((xs26 ++ ([v75])).length)) cap77) :: _) _ _ _
   refine Ll.run 1 rfl ?_
   refine Ll.nil ?_
   refine Kt.joined ((p77, cap77, cur77, xs26 ++ ([v75]), g, c, u, zs, a17, p_75)) ⟨⟨by simpa using hcp77, hlp77, by simpa using (by simpa using htp77)⟩, ⟨by simpa using hcg, hlg, by simpa using htg⟩, (by (try dsimp only); (try simp only [List.length_append, List.length_cons, List.length_nil]); omega), (by (try dsimp only); (try simp only [List.length_append, List.length_cons, List.length_nil]); omega), hfa17.tame, by (try dsimp only); omega⟩ (Sub.sel [2, 4, 6, 7, 9, 10] rfl) (fun _ h => h.sub (List.Sublist.cons _ (List.Sublist.cons _ (List.Sublist.cons_cons _ (List.Sublist.cons_cons _ (List.Sublist.cons_cons _ (List.Sublist.cons_cons _ (List.Sublist.cons_cons _ (List.Sublist.cons_cons _ (List.Sublist.cons_cons _ (List.Sublist.cons_cons _ (List.Sublist.refl _))))))))))))
  ·
   replace h70 := of_decide_eq_false h70
   refine Wk.seq ?_
   refine Wk.regionQ ?_
   refine Lq.run 2 rfl ?_
   refine Lq.nil ?_
   refine Kt.sel [0, 2, 4, 6, 7, 9, 10, 69, 78] [_, _, _, _, _, _, _, _, _] rfl ?_
   refine Wk.cond (b := decide (k69 = (1 : Int))) rfl (fun h78 => ?_) (fun h78 => ?_)
   ·
    replace h78 := of_decide_eq_true h78
    refine Wk.region ?_
    refine Ll.run 1 rfl ?_
    refine Ll.slice (xs := [.const (i6_ 0)]) (vs := [i6_ 0]) Base.elem25 rfl rfl rfl rfl rfl rfl (by decide) rfl fun p81 hp81 => ?_
    refine Ll.appendInts (xs := zs) (ys := [0]) Base.elem25 1 rfl rfl rfl rfl rfl rfl rfl hcg hlg htg (fun w1 hw1 => (Own.row hw1 (i := 0) rfl (n := 1) (cap := 1) (vs := ints [0]) rfl rfl (by decide))) ((zs ++ ([0])).length) (by first | (simp; done) | (simp; omega)) (by first | (simp; done) | (simp; omega) | omega) fun p82 cap82 cur82 hp82 hcp82 hlp82 htp82 => ?_
    show Ll _ _ (Own _ _ (_ :: _ :: _ :: _ :: _ :: _ :: _ :: _ :: _ :: (new2 ++ hs))) _ _ ((82, sl_ p82 (((zs ++ ([0])).length)) cap82) :: _) _ _ _
    refine Ll.run 1 rfl ?_
    refine Ll.nil ?_
    refine Kt.joined ((g26, c26, u26, xs26, p82, cap82, cur82, zs ++ ([0]), a17, p_69)) ⟨⟨by simpa using hcg26, hlg26, by simpa using htg26⟩, ⟨by simpa using hcp82, hlp82, by simpa using (by simpa using htp82)⟩, (by (try dsimp only); (try simp only [List.length_append, List.length_cons, List.length_nil]); omega), (by (try dsimp only); (try simp only [List.length_append, List.length_cons, List.length_nil]); omega), hfa17.tame, by (try dsimp only); omega⟩ (Sub.sel [2, 4, 6, 7, 9, 10] rfl) (fun _ h => h.sub (List.Sublist.cons _ (List.Sublist.cons_cons _ (List.Sublist.cons_cons _ (List.Sublist.cons_cons _ (List.Sublist.cons_cons _ (List.Sublist.cons_cons _ (List.Sublist.cons_cons _ (List.Sublist.cons_cons _ (List.Sublist.cons_cons _ (List.Sublist.refl _)))))))))))
   ·
    replace h78 := of_decide_eq_false h78
    refine Wk.seq ?_
    refine Wk.regionQ ?_
    refine Lq.run 2 rfl ?_
    refine Lq.nil ?_
    refine Kt.sel [0, 2, 4, 6, 7, 9, 10, 83] [_, _, _, _, _, _, _, _] rfl ?_
    refine Wk.cond (b := decide (k69 = (2 : Int))) rfl (fun h83 => ?_) (fun h83 => ?_)
    ·
     replace h83 := of_decide_eq_true h83
     refine Wk.region ?_
     refine Ll.run 1 rfl ?_
     refine Ll.op rfl rfl rfl (OpQ.loadBox (cs := #[i6_ a17.n, str a17.set, str a17.rel]) 4 rfl Tryd.isAgg24 rfl rfl Tryd.sizeOf24) ?_
     refine Ll.callRd (rp := rp) (RT := 119) (p := p_69) (bv := bv) (hs := (new2 ++ hs)) (ok := fun (b : St) p' => ((-9223372036854775808 ≤ b.n ∧ b.n ≤ 9223372036854775807) ∧ b.set.length ≤ 50000 ∧ b.rel.length ≤ 50000) ∧ p' ≤ p_69 + 10) (v := fun (b : St) => vS b) (new := fun (b : St) => []) (xs := [.tmp 85, .tmp 86]) (vs := [pt_ rp, vS a17]) ([bk_ g u 3, bk_ g26 u26 3, bk_ p21 #[i6_ 1, i6_ 2, i6_ 0, i6_ 3, i6_ 2, i6_ 1, i6_ 4] 3, bk_ p7 #[i6_ b17.n, str b17.set, str b17.rel] 24, bk_ p6 #[i6_ a17.n, str a17.set, str a17.rel] 24, bk_ p4 #[i6_ 0, str ([]), str ([])] 24, bk_ p2 #[i6_ 0, str ([]), str ([])] 24] : List (Nat × Obj)) rfl rfl rfl rfl Tryd.call124 rfl (fun w1 hw1 => (l1Bad_ok B w0 (([bk_ g u 3, bk_ g26 u26 3, bk_ p21 #[i6_ 1, i6_ 2, i6_ 0, i6_ 3, i6_ 2, i6_ 1, i6_ 4] 3, bk_ p7 #[i6_ b17.n, str b17.set, str b17.rel] 24, bk_ p6 #[i6_ a17.n, str a17.set, str a17.rel] 24, bk_ p4 #[i6_ 0, str ([]), str ([])] 24, bk_ p2 #[i6_ 0, str ([]), str ([])] 24] : List (Nat × Obj)) ++ (new2 ++ hs)) rp p_69 bv L a17 w1 (fun w2 hw2 => (fun w h => hb w (Own.drop (f := new2) h)) w2 (Own.drop (f := ([bk_ g u 3, bk_ g26 u26 3, bk_ p21 #[i6_ 1, i6_ 2, i6_ 0, i6_ 3, i6_ 2, i6_ 1, i6_ 4] 3, bk_ p7 #[i6_ b17.n, str b17.set, str b17.rel] 24, bk_ p6 #[i6_ a17.n, str a17.set, str a17.rel] 24, bk_ p4 #[i6_ 0, str ([]), str ([])] 24, bk_ p2 #[i6_ 0, str ([]), str ([])] 24] : List (Nat × Obj))) hw2)) hL8 hL hfa17 (by omega) hw1).mono fun en w' ⟨b', p', h1, h2, h3⟩ => ⟨b', p', h1, h2, h3⟩) fun b87 p_87 hKp_87 => ?_
     show Ll _ _ (Own _ _ (_ :: _ :: _ :: _ :: _ :: _ :: _ :: _ :: (new2 ++ hs))) _ _ ((87, vS b87) :: _) _ _ _
     obtain ⟨⟨⟨hlob87, hhib87⟩, hssb87, hrrb87⟩, hep_87⟩ := hKp_87
     refine Ll.storeBox (cs' := #[i6_ b87.n, str b87.set, str b87.rel]) (hs' := (_ :: _ :: _ :: _ :: bk_ p6 #[i6_ b87.n, str b87.set, str b87.rel] 24 :: _ :: _ :: _ :: (new2 ++ hs))) 4 rfl rfl rfl rfl rfl (by kernel_rfl : _ = some Tryd.t24) rfl rfl rfl rfl rfl ?_
     refine Ll.nil ?_
     refine Kt.joined ((g26, c26, u26, xs26, g, c, u, zs, b87, p_87)) ⟨⟨by simpa using hcg26, hlg26, by simpa using htg26⟩, ⟨by simpa using hcg, hlg, by simpa using htg⟩, (by (try dsimp only); (try simp only [List.length_append, List.length_cons, List.length_nil]); omega), (by (try dsimp only); (try simp only [List.length_append, List.length_cons, List.length_nil]); omega), ⟨hlob87, hhib87, hssb87, hrrb87⟩, by (try dsimp only); omega⟩ (Sub.sel [2, 4, 6, 7, 9, 10] rfl) (fun _ h => h.sub (List.Sublist.cons_cons _ (List.Sublist.cons_cons _ (List.Sublist.cons_cons _ (List.Sublist.cons_cons _ (List.Sublist.cons_cons _ (List.Sublist.cons_cons _ (List.Sublist.cons_cons _ (List.Sublist.cons_cons _ (List.Sublist.refl _))))))))))
    ·
     replace h83 := of_decide_eq_false h83
     refine Wk.skip ?_
     refine Kt.joined ((g26, c26, u26, xs26, g, c, u, zs, a17, p_69)) ⟨⟨by simpa using hcg26, hlg26, by simpa using htg26⟩, ⟨by simpa using hcg, hlg, by simpa using htg⟩, (by (try dsimp only); (try simp only [List.length_append, List.length_cons, List.length_nil]); omega), (by (try dsimp only); (try simp only [List.length_append, List.length_cons, List.length_nil]); omega), hfa17.tame, by (try dsimp only); omega⟩ (Sub.sel [2, 4, 6, 7, 9, 10] rfl) (fun _ h => h.sub (List.Sublist.cons_cons _ (List.Sublist.cons_cons _ (List.Sublist.cons_cons _ (List.Sublist.cons_cons _ (List.Sublist.cons_cons _ (List.Sublist.cons_cons _ (List.Sublist.cons_cons _ (List.Sublist.cons_cons _ (List.Sublist.refl _))))))))))
 rintro ⟨ga, ca, ua, xa, gb, cb, ub, xb, aa, p8⟩ ⟨⟨hcga, hlga, htga⟩, ⟨hcgb, hlgb, htgb⟩, hxa, hxb, htaa, hp8⟩
 dsimp only
 refine Kt.sel [2, 4, 6, 7, 9, 10] [_, _, _, _, _, _] rfl ?_
 refine Wk.seq ?_
 refine Wk.regionS (S := Own B w0 [bk_ gb ub 3, bk_ ga ua 3, bk_ p21 #[i6_ 1, i6_ 2, i6_ 0, i6_ 3, i6_ 2, i6_ 1, i6_ 4] 3, bk_ p7 #[i6_ b17.n, str b17.set, str b17.rel] 24, bk_ p6 #[i6_ aa.n, str aa.set, str aa.rel] 24, bk_ rp #[bv, i6_ ((p8 : Int))] 119]) [(0, true), (1, true), (2, true), (3, true), (4, false), (5, true), (6, false), (7, true)] Base.mixed (fun _ h => h.drawn) (by kernel_rfl) ?_
 refine Ld.take rfl rfl rfl rfl rfl (OpQ.loadBox (cs := #[i6_ aa.n, str aa.set, str aa.rel]) 4 rfl Tryd.isAgg24 rfl rfl Tryd.sizeOf24) (pk [0, 1, 2, 3, 4, 7] rfl rfl) ?_
 refine Ld.run 1 rfl (pk [0, 1, 2, 3, 4, 7] rfl rfl) ?_
 refine Ld.take rfl rfl rfl rfl rfl (OpQ.loadBox (cs := #[i6_ b17.n, str b17.set, str b17.rel]) 3 rfl Tryd.isAgg24 rfl rfl Tryd.sizeOf24) (pk [0, 1, 2, 3, 4, 7] rfl rfl) ?_
 refine Ld.run 1 rfl (pk [0, 1, 2, 3, 4, 7] rfl rfl) ?_
 refine Ld.loud rfl ?_
 refine Ll.storeBox (cs' := #[i6_ aa.n, str aa.set, str aa.rel]) (hs' := (_ :: _ :: _ :: _ :: _ :: _ :: bk_ p2 #[i6_ aa.n, str aa.set, str aa.rel] 24 :: _ :: (new2 ++ hs))) 6 rfl rfl rfl rfl rfl (by kernel_rfl : _ = some Tryd.t24) rfl rfl rfl rfl rfl ?_
 refine Ll.nil (Ld.joint (pk [0, 1, 2, 3, 4, 7] rfl rfl) ?_)
 refine Ld.run 1 rfl (pk [0, 1, 2, 3, 4, 7] rfl rfl) ?_
 refine Ld.loud rfl ?_
 refine Ll.storeBox (cs' := #[i6_ b17.n, str b17.set, str b17.rel]) (hs' := (_ :: _ :: _ :: _ :: _ :: bk_ p4 #[i6_ b17.n, str b17.set, str b17.rel] 24 :: _ :: _ :: (new2 ++ hs))) 5 rfl rfl rfl rfl rfl (by kernel_rfl : _ = some Tryd.t24) rfl rfl rfl rfl rfl ?_
 refine Ll.nil (Ld.joint (pk [0, 1, 2, 3, 4, 7] rfl rfl) ?_)
 refine Ld.run 1 rfl (pk [0, 1, 2, 3, 4, 7] rfl rfl) ?_
 refine Ld.nil ?_
 refine Kt.sel [2, 3, 4, 5] [_, _, _, _] rfl ?_
 refine Wk.ret (Kt.endMany rfl (.cell (cs := #[i6_ aa.n, str aa.set, str aa.rel]) rfl (fun w1 hw1 => hw1.loadBox 6 rfl Tryd.isAgg24 Tryd.sizeOf24) (.tmp (v := sl_ ga xa.length ca) rfl (.cell (cs := #[i6_ b17.n, str b17.set, str b17.rel]) rfl (fun w1 hw1 => hw1.loadBox 5 rfl Tryd.isAgg24 Tryd.sizeOf24) (.tmp (v := sl_ gb xb.length cb) rfl ResAt.nil)))) (by simp) fun w' hw => ?_)
 -- ret 0: vS aa; sl_ ga xa.length ca; vS b17; sl_ gb xb.length cb
 exact ⟨aa, b17, sl_ ga xa.length ca, xa, sl_ gb xb.length cb, xb, ([bk_ gb ub 3, bk_ ga ua 3, bk_ p21 #[i6_ 1, i6_ 2, i6_ 0, i6_ 3, i6_ 2, i6_ 1, i6_ 4] 3, bk_ p7 #[i6_ b17.n, str b17.set, str b17.rel] 24, bk_ p6 #[i6_ aa.n, str aa.set, str aa.rel] 24, bk_ p4 #[i6_ b17.n, str b17.set, str b17.rel] 24, bk_ p2 #[i6_ aa.n, str aa.set, str aa.rel] 24] : List (Nat × Obj)) ++ new2, p8, rfl, ⟨⟨⟨htaa, hfb17.tame⟩, ⟨(by first | omega | (simp only [List.length_append, List.length_cons, List.length_nil, List.length_take, List.length_set]; omega)), (by first | omega | (simp only [List.length_append, List.length_cons, List.length_nil, List.length_take, List.length_set]; omega))⟩, fun w1 h1 => ⟨(Own.row h1 (i := 1) rfl htga (by simp) hlga), (Own.row h1 (i := 0) rfl htgb (by simp) hlgb)⟩⟩, by omega⟩, hw.perm (List.perm_middle (l₁ := ([bk_ gb ub 3, bk_ ga ua 3, bk_ p21 #[i6_ 1, i6_ 2, i6_ 0, i6_ 3, i6_ 2, i6_ 1, i6_ 4] 3, bk_ p7 #[i6_ b17.n, str b17.set, str b17.rel] 24, bk_ p6 #[i6_ aa.n, str aa.set, str aa.rel] 24, bk_ p4 #[i6_ b17.n, str b17.set, str b17.rel] 24, bk_ p2 #[i6_ aa.n, str aa.set, str aa.rel] 24] : List (Nat × Obj))) (l₂ := new2 ++ hs))⟩

end Go.Proofs.YtmannilblelfjaaDoor
