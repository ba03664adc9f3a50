/-
  Walks: drawn structures, lists.
-/
import Derived.Test.YtjcoijejhachhaaDoorCore2
import Derived.Test.YtjcoijejhachhaaDoorDrawsA
import Derived.Test.YtjcoijejhachhaaDoorBase
namespace Go.Proofs.YtjcoijejhachhaaDoor
open Go.RowKit Go.Wk
set_option linter.unusedSimpArgs false

set_option maxHeartbeats 400000 in
/-- spec.l1Draw -/
theorem l1Draw_ok (B : Nat) (w0 : World) (hs : List (Nat × Obj)) (rp p : Nat) (bv : Value) (L : List Int) (n : Int) (w : World) (hb : ∀ w, Own B w0 hs w → Row w bv (u8s L)) (hL8 : Bytes8 L) (hL : L.length ≤ 2000) (hn0 : 0 ≤ n) (hn8 : n ≤ 8) (hp : p ≤ 900000) (hw : Own B w0 ((rp, .cells #[bv, .int .i64 (p : Int)] 110 (0, 0)) :: hs) w) :
    Calls Tryd.prog 124 [pt_ rp, i6_ n].toArray w fun en w' => ∃ a : St, ∃ p' : Nat, en = .returned (vS a) ∧ ((a.n = n ∧ (a.set.length : Int) = n ∧ a.rel.length = n.toNat * n.toNat) ∧ p' ≤ p + 100) ∧ Own B w0 (((rp, .cells #[bv, .int .i64 (p' : Int)] 110 (0, 0)) :: hs)) w' := by
 refine fnStartC (Own B w0 ((rp, .cells #[bv, .int .i64 (p : Int)] 110 (0, 0)) :: hs)) (n := 111) (e := [(0, pt_ rp), (1, i6_ n)]) Tryd.func124 rfl rfl rfl rfl Ends.both hw ?_
 refine Wk.seq ?_
 refine Wk.region ?_
 refine Ll.alloc rfl rfl rfl rfl Tryd.zeroValue28 fun p4 hp4 => ?_
 show Ll _ _ (Own _ _ (bk_ p4 #[i6_ 0, str ([]), str ([])] 28 :: _ :: hs)) _ _ ((4, pt_ p4) :: _) _ _ _
 refine Ll.nil ?_
 refine Kt.sel [0, 1, 4] [_, _, _] rfl ?_
 refine Wk.seq ?_
 refine Wk.region ?_
 refine Ll.run 1 rfl ?_
 refine Ll.op (v := .agg #[i6_ n, str ([]), str ([])]) rfl rfl rfl (OpQ.build (xs := [.tmp 10]) (vs := [i6_ n]) rfl rfl (by kernel_rfl)) ?_
 refine Ll.alloc rfl rfl rfl rfl Tryd.zeroValue28 fun p5 hp5 => ?_
 show Ll _ _ (Own _ _ (bk_ p5 #[i6_ 0, str ([]), str ([])] 28 :: _ :: _ :: hs)) _ _ ((5, pt_ p5) :: _) _ _ _
 refine Ll.storeBox (cs' := #[i6_ n, str ([]), str ([])]) (hs' := (bk_ p5 #[i6_ n, str ([]), str ([])] 28 :: _ :: _ :: hs)) 0 rfl rfl rfl rfl rfl (by kernel_rfl : _ = some Tryd.t28) rfl rfl rfl rfl rfl ?_
 refine Ll.nil ?_
 refine Kt.sel [0, 1, 4, 5] [_, _, _, _] rfl ?_
 refine Wk.seq ?_
 refine Wk.region ?_
 refine Ll.run 1 rfl ?_
 refine Ll.callRd (rp := rp) (RT := 110) (p := p) (bv := bv) (hs := hs) (ok := fun (k : Int) p' => 0 ≤ k ∧ (1 ≤ (8 : Int) → k < 8) ∧ p' = p + 1) (v := fun (k : Int) => i6_ k) (new := fun (k : Int) => []) (xs := [.tmp 12, .const (i6_ 8)]) (vs := [pt_ rp, i6_ 8]) ([bk_ p5 #[i6_ n, str ([]), str ([])] 28, bk_ p4 #[i6_ 0, str ([]), str ([])] 28] : List (Nat × Obj)) rfl rfl rfl rfl Tryd.call80 rfl (fun w1 hw1 => (pick_ok B w0 (([bk_ p5 #[i6_ n, str ([]), str ([])] 28, bk_ p4 #[i6_ 0, str ([]), str ([])] 28] : List (Nat × Obj)) ++ hs) rp p bv L 8 w1 (fun w2 hw2 => hb w2 (Own.drop (f := ([bk_ p5 #[i6_ n, str ([]), str ([])] 28, bk_ p4 #[i6_ 0, str ([]), str ([])] 28] : List (Nat × Obj))) hw2)) hL8 hL (by omega) hw1).mono fun en w' ⟨k', p', h1, h2, h3⟩ => ⟨k', p', h1, h2, h3⟩) fun k13 p_13 hKp_13 => ?_
 show Ll _ _ (Own _ _ (_ :: _ :: _ :: hs)) _ _ ((13, i6_ k13) :: _) _ _ _
 obtain ⟨h0k13, h1k13, hep_13⟩ := hKp_13
 try have hltk13 := h1k13 (by first | omega | (split <;> omega) | decide)
 refine Ll.run 1 rfl ?_
 refine Ll.nil ?_
 refine Kt.sel [0, 1, 4, 5, 6] [_, _, _, _, _] rfl ?_
 refine Wk.seq ?_
 refine Wk.seq ?_
 refine Wk.regionQ ?_
 refine Lq.run 1 rfl ?_
 refine Lq.nil ?_
 refine Kt.sel [0, 1, 4, 5, 6, 7] [_, _, _, _, _, _] rfl ?_
 refine Wk.block ?_
 refine Wk.loop (σ := Nat × List UInt8 × List UInt8 × Nat) (fun ⟨k, S, R, p0⟩ => (k : Int) ≤ n ∧ S.length = k ∧ R.length = k * n.toNat ∧ p0 ≤ p + 2 + k * 9) (fun ⟨k, S, R, p0⟩ => [(0, pt_ rp), (1, i6_ n), (4, pt_ p4), (5, pt_ p5), (6, i6_ k13), (7, i6_ ((k : Int)))]) (fun ⟨k, S, R, p0⟩ => Own B w0 (bk_ p5 #[i6_ n, str S, str R] 28 :: bk_ p4 #[i6_ 0, str ([]), str ([])] 28 :: bk_ rp #[bv, i6_ ((p0 : Int))] 110 :: hs)) (fun ⟨k, S, R, p0⟩ => (n - k).toNat) ((0, [], [], p_13)) ⟨by omega, rfl, by simp, by omega⟩ (Sub.sel [0, 1, 4, 5, 6, 7] rfl) (fun _ h => h) ?_
 rintro ⟨k, S, R, p0⟩ ⟨hk, hS, hR, hp0⟩
 dsimp only
 have hkn : k * n.toNat ≤ 8 * 8 := Nat.mul_le_mul (by omega) (by omega)
 refine Wk.seq ?_
 refine Wk.seq ?_
 refine Wk.regionQ ?_
 refine Lq.run 3 rfl ?_
 refine Lq.nil ?_
 refine Kt.sel [0, 1, 4, 5, 6, 7, 16] [_, _, _, _, _, _, _] rfl ?_
 refine Wk.cond (b := decide (((k : Int)) < n)) rfl (fun h16 => ?_) (fun h16 => ?_)
 ·
  replace h16 := of_decide_eq_true h16
  refine Wk.skip ?_
  refine Kt.sel [0, 1, 4, 5, 6, 7] [_, _, _, _, _, _] rfl ?_
  refine Wk.seq ?_
  refine Wk.block ?_
  refine Wk.seq ?_
  refine Wk.join (σ := List UInt8 × Nat) (fun ⟨S2, p2⟩ => S2.length = k + 1 ∧ p2 ≤ p0 + 1) (fun ⟨S2, p2⟩ => [(0, pt_ rp), (1, i6_ n), (4, pt_ p4), (5, pt_ p5), (6, i6_ k13), (7, i6_ ((k : Int)))]) (fun ⟨S2, p2⟩ => Own B w0 (bk_ p5 #[i6_ n, str S2, str R] 28 :: bk_ p4 #[i6_ 0, str ([]), str ([])] 28 :: bk_ rp #[bv, i6_ ((p2 : Int))] 110 :: hs)) ?_ ?_
  ·
   refine Wk.regionU (S := Own B w0 [bk_ p4 #[i6_ 0, str ([]), str ([])] 28]) (.take 0 (.take 2 (.take 3 (.take 4 (.take 5 (.two 1 (.one 6 (.take 7 (.take 8 (.one 9 (.take 10 (.take 11 (.one 12 .done))))))) 6 (.take 7 (.take 8 (.two 1 (.one 9 (.take 10 (.take 11 (.one 12 .done)))) 9 (.one 1 (.take 10 (.take 11 (.one 12 .done))))))))))))) Base.mixed (fun _ h => h.drawn) (by kernel_rfl) ?_
   refine Lu.take rfl rfl rfl rfl rfl (OpQ.fieldAddr rfl Tryd.runUnderlying28 rfl Tryd.sizeOf9 rfl rfl) (pk [1] rfl rfl) ?_
   refine Lu.run 3 rfl (pk [1] rfl rfl) ?_
   refine Lu.bool fun b23 hg23 => ?_
   cases b23
   ·
    replace hg23 := of_decide_eq_false hg23
    refine Lu.pass rfl rfl rfl rfl (pk [1] rfl rfl) ?_
    refine Lu.two rfl rfl ?_ ?_
    ·
     refine Ll.op rfl rfl rfl (OpQ.loadOwn 0 rfl Tryd.isAgg9 rfl rfl rfl) ?_
     refine Ll.nil (Lu.joint (pk [1] rfl rfl) ?_)
     refine Lu.loud rfl ?_
     refine Ll.pass rfl rfl rfl ?_
     refine Ll.nil (Lu.joint (pk [1] rfl rfl) ?_)
     refine Lu.pass rfl rfl rfl rfl (pk [1] rfl rfl) ?_
     refine Lu.run 1 rfl (pk [1] rfl rfl) ?_
     refine Lu.loud rfl ?_
     refine Ll.op (v := str ((if false then [49] else [48]))) rfl rfl rfl (OpQ.call rfl Tryd.call147 rfl Own.stable (fun w1 hw1 => bitD_ok false w1 )) ?_
     refine Ll.nil (Lu.joint (pk [1] rfl rfl) ?_)
     refine Lu.take rfl rfl rfl rfl rfl (OpQ.sadd rfl rfl rfl (by first | (rw [bit_len]; omega) | omega)) (pk [1] rfl rfl) ?_
     refine Lu.take rfl rfl rfl rfl rfl (OpQ.fieldAddr rfl Tryd.runUnderlying28 rfl Tryd.sizeOf9 rfl rfl) (pk [1] rfl rfl) ?_
     refine Lu.loud rfl ?_
     refine Ll.store1 (v := str (S ++ ((if false then [49] else [48])))) (hs' := (bk_ p5 #[i6_ n, str (S ++ ((if false then [49] else [48]))), str R] 28 :: _ :: _ :: hs)) 0 rfl rfl rfl rfl rfl rfl Tryd.sizeOf9 rfl (by simp) rfl ?_
     refine Ll.nil (Lu.joint (pk [1] rfl rfl) ?_)
     refine Lu.nil ?_
     refine Kt.joined ((S ++ ((if false then [49] else [48])), p0)) ⟨by (try dsimp only); rw [List.length_append]; first | (rw [bit_len]; omega) | (simp; omega), by (try dsimp only); omega⟩ (Sub.sel [0, 1, 4, 5, 6, 7] rfl) (fun _ h => h)
    ·
     refine Ll.pass rfl rfl rfl ?_
     refine Ll.nil (Lu.joint (pk [1] rfl rfl) ?_)
     refine Lu.pass rfl rfl rfl rfl (pk [1] rfl rfl) ?_
     refine Lu.run 1 rfl (pk [1] rfl rfl) ?_
     refine Lu.two rfl rfl ?_ ?_
     ·
      refine Ll.op rfl rfl rfl (OpQ.loadOwn 0 rfl Tryd.isAgg9 rfl rfl rfl) ?_
      refine Ll.nil (Lu.joint (pk [1] rfl rfl) ?_)
      refine Lu.loud rfl ?_
      refine Ll.op (v := str ((if false then [49] else [48]))) rfl rfl rfl (OpQ.call rfl Tryd.call147 rfl Own.stable (fun w1 hw1 => bitD_ok false w1 )) ?_
      refine Ll.nil (Lu.joint (pk [1] rfl rfl) ?_)
      refine Lu.take rfl rfl rfl rfl rfl (OpQ.sadd rfl rfl rfl (by first | (rw [bit_len]; omega) | omega)) (pk [1] rfl rfl) ?_
      refine Lu.take rfl rfl rfl rfl rfl (OpQ.fieldAddr rfl Tryd.runUnderlying28 rfl Tryd.sizeOf9 rfl rfl) (pk [1] rfl rfl) ?_
      refine Lu.loud rfl ?_
      refine Ll.store1 (v := str (S ++ ((if false then [49] else [48])))) (hs' := (bk_ p5 #[i6_ n, str (S ++ ((if false then [49] else [48]))), str R] 28 :: _ :: _ :: hs)) 0 rfl rfl rfl rfl rfl rfl Tryd.sizeOf9 rfl (by simp) rfl ?_
      refine Ll.nil (Lu.joint (pk [1] rfl rfl) ?_)
      refine Lu.nil ?_
      refine Kt.joined ((S ++ ((if false then [49] else [48])), p0)) ⟨by (try dsimp only); rw [List.length_append]; first | (rw [bit_len]; omega) | (simp; omega), by (try dsimp only); omega⟩ (Sub.sel [0, 1, 4, 5, 6, 7] rfl) (fun _ h => h)
     ·
      refine Ll.op (v := str ((if false then [49] else [48]))) rfl rfl rfl (OpQ.call rfl Tryd.call147 rfl Own.stable (fun w1 hw1 => bitD_ok false w1 )) ?_
      refine Ll.nil (Lu.joint (pk [1] rfl rfl) ?_)
      refine Lu.loud rfl ?_
      refine Ll.op rfl rfl rfl (OpQ.loadOwn 0 rfl Tryd.isAgg9 rfl rfl rfl) ?_
      refine Ll.nil (Lu.joint (pk [1] rfl rfl) ?_)
      refine Lu.take rfl rfl rfl rfl rfl (OpQ.sadd rfl rfl rfl (by first | (rw [bit_len]; omega) | omega)) (pk [1] rfl rfl) ?_
      refine Lu.take rfl rfl rfl rfl rfl (OpQ.fieldAddr rfl Tryd.runUnderlying28 rfl Tryd.sizeOf9 rfl rfl) (pk [1] rfl rfl) ?_
      refine Lu.loud rfl ?_
      refine Ll.store1 (v := str (S ++ ((if false then [49] else [48])))) (hs' := (bk_ p5 #[i6_ n, str (S ++ ((if false then [49] else [48]))), str R] 28 :: _ :: _ :: hs)) 0 rfl rfl rfl rfl rfl rfl Tryd.sizeOf9 rfl (by simp) rfl ?_
      refine Ll.nil (Lu.joint (pk [1] rfl rfl) ?_)
      refine Lu.nil ?_
      refine Kt.joined ((S ++ ((if false then [49] else [48])), p0)) ⟨by (try dsimp only); rw [List.length_append]; first | (rw [bit_len]; omega) | (simp; omega), by (try dsimp only); omega⟩ (Sub.sel [0, 1, 4, 5, 6, 7] rfl) (fun _ h => h)
   ·
    replace hg23 := of_decide_eq_true hg23
    refine Lu.run 1 rfl (pk [1] rfl rfl) ?_
    refine Lu.two rfl rfl ?_ ?_
    ·
     refine Ll.op rfl rfl rfl (OpQ.loadOwn 0 rfl Tryd.isAgg9 rfl rfl rfl) ?_
     refine Ll.nil (Lu.joint (pk [1] rfl rfl) ?_)
     refine Lu.loud rfl ?_
     refine Ll.callRd (rp := rp) (RT := 110) (p := p0) (bv := bv) (hs := hs) (ok := fun (k : Int) p' => 0 ≤ k ∧ (1 ≤ (3 : Int) → k < 3) ∧ p' = p0 + 1) (v := fun (k : Int) => i6_ k) (new := fun (k : Int) => []) (xs := [.tmp 24, .const (i6_ 3)]) (vs := [pt_ rp, i6_ 3]) ([bk_ p5 #[i6_ n, str S, str R] 28, bk_ p4 #[i6_ 0, str ([]), str ([])] 28] : List (Nat × Obj)) rfl rfl rfl rfl Tryd.call80 rfl (fun w1 hw1 => (pick_ok B w0 (([bk_ p5 #[i6_ n, str S, str R] 28, bk_ p4 #[i6_ 0, str ([]), str ([])] 28] : List (Nat × Obj)) ++ hs) rp p0 bv L 3 w1 (fun w2 hw2 => hb w2 (Own.drop (f := ([bk_ p5 #[i6_ n, str S, str R] 28, bk_ p4 #[i6_ 0, str ([]), str ([])] 28] : List (Nat × Obj))) hw2)) hL8 hL (by omega) hw1).mono fun en w' ⟨k', p', h1, h2, h3⟩ => ⟨k', p', h1, h2, h3⟩) fun k25 p_25 hKp_25 => ?_
     show Ll _ _ (Own _ _ (_ :: _ :: _ :: hs)) _ _ ((25, i6_ k25) :: _) _ _ _
     obtain ⟨h0k25, h1k25, hep_25⟩ := hKp_25
     try have hltk25 := h1k25 (by first | omega | (split <;> omega) | decide)
     refine Ll.nil (Lu.joint (pk [1] rfl rfl) ?_)
     refine Lu.run 2 rfl (pk [1] rfl rfl) ?_
     refine Lu.loud rfl ?_
     refine Ll.op (v := str ((if decide (k25 = (0 : Int)) then [49] else [48]))) rfl rfl rfl (OpQ.call rfl Tryd.call147 rfl Own.stable (fun w1 hw1 => bitD_ok (decide (k25 = (0 : Int))) w1 )) ?_
     refine Ll.nil (Lu.joint (pk [1] rfl rfl) ?_)
     refine Lu.take rfl rfl rfl rfl rfl (OpQ.sadd rfl rfl rfl (by first | (rw [bit_len]; omega) | omega)) (pk [1] rfl rfl) ?_
     refine Lu.take rfl rfl rfl rfl rfl (OpQ.fieldAddr rfl Tryd.runUnderlying28 rfl Tryd.sizeOf9 rfl rfl) (pk [1] rfl rfl) ?_
     refine Lu.loud rfl ?_
     refine Ll.store1 (v := str (S ++ ((if decide (k25 = (0 : Int)) then [49] else [48])))) (hs' := (bk_ p5 #[i6_ n, str (S ++ ((if decide (k25 = (0 : Int)) then [49] else [48]))), str R] 28 :: _ :: _ :: hs)) 0 rfl rfl rfl rfl rfl rfl Tryd.sizeOf9 rfl (by simp) rfl ?_
     refine Ll.nil (Lu.joint (pk [1] rfl rfl) ?_)
     refine Lu.nil ?_
     refine Kt.joined ((S ++ ((if decide (k25 = (0 : Int)) then [49] else [48])), p_25)) ⟨by (try dsimp only); rw [List.length_append]; first | (rw [bit_len]; omega) | (simp; omega), by (try dsimp only); omega⟩ (Sub.sel [0, 1, 4, 5, 6, 7] rfl) (fun _ h => h)
    ·
     refine Ll.callRd (rp := rp) (RT := 110) (p := p0) (bv := bv) (hs := hs) (ok := fun (k : Int) p' => 0 ≤ k ∧ (1 ≤ (3 : Int) → k < 3) ∧ p' = p0 + 1) (v := fun (k : Int) => i6_ k) (new := fun (k : Int) => []) (xs := [.tmp 24, .const (i6_ 3)]) (vs := [pt_ rp, i6_ 3]) ([bk_ p5 #[i6_ n, str S, str R] 28, bk_ p4 #[i6_ 0, str ([]), str ([])] 28] : List (Nat × Obj)) rfl rfl rfl rfl Tryd.call80 rfl (fun w1 hw1 => (pick_ok B w0 (([bk_ p5 #[i6_ n, str S, str R] 28, bk_ p4 #[i6_ 0, str ([]), str ([])] 28] : List (Nat × Obj)) ++ hs) rp p0 bv L 3 w1 (fun w2 hw2 => hb w2 (Own.drop (f := ([bk_ p5 #[i6_ n, str S, str R] 28, bk_ p4 #[i6_ 0, str ([]), str ([])] 28] : List (Nat × Obj))) hw2)) hL8 hL (by omega) hw1).mono fun en w' ⟨k', p', h1, h2, h3⟩ => ⟨k', p', h1, h2, h3⟩) fun k25_1 p_25_1 hKp_25_1 => ?_
     show Ll _ _ (Own _ _ (_ :: _ :: _ :: hs)) _ _ ((25, i6_ k25_1) :: _) _ _ _
     obtain ⟨h0k25_1, h1k25_1, hep_25_1⟩ := hKp_25_1
     try have hltk25_1 := h1k25_1 (by first | omega | (split <;> omega) | decide)
     refine Ll.nil (Lu.joint (pk [1] rfl rfl) ?_)
     refine Lu.run 2 rfl (pk [1] rfl rfl) ?_
     refine Lu.two rfl rfl ?_ ?_
     ·
      refine Ll.op rfl rfl rfl (OpQ.loadOwn 0 rfl Tryd.isAgg9 rfl rfl rfl) ?_
      refine Ll.nil (Lu.joint (pk [1] rfl rfl) ?_)
      refine Lu.loud rfl ?_
      refine Ll.op (v := str ((if decide (k25_1 = (0 : Int)) then [49] else [48]))) rfl rfl rfl (OpQ.call rfl Tryd.call147 rfl Own.stable (fun w1 hw1 => bitD_ok (decide (k25_1 = (0 : Int))) w1 )) ?_
      refine Ll.nil (Lu.joint (pk [1] rfl rfl) ?_)
      refine Lu.take rfl rfl rfl rfl rfl (OpQ.sadd rfl rfl rfl (by first | (rw [bit_len]; omega) | omega)) (pk [1] rfl rfl) ?_
      refine Lu.take rfl rfl rfl rfl rfl (OpQ.fieldAddr rfl Tryd.runUnderlying28 rfl Tryd.sizeOf9 rfl rfl) (pk [1] rfl rfl) ?_
      refine Lu.loud rfl ?_
      refine Ll.store1 (v := str (S ++ ((if decide (k25_1 = (0 : Int)) then [49] else [48])))) (hs' := (bk_ p5 #[i6_ n, str (S ++ ((if decide (k25_1 = (0 : Int)) then [49] else [48]))), str R] 28 :: _ :: _ :: hs)) 0 rfl rfl rfl rfl rfl rfl Tryd.sizeOf9 rfl (by simp) rfl ?_
      refine Ll.nil (Lu.joint (pk [1] rfl rfl) ?_)
      refine Lu.nil ?_
      refine Kt.joined ((S ++ ((if decide (k25_1 = (0 : Int)) then [49] else [48])), p_25_1)) ⟨by (try dsimp only); rw [List.length_append]; first | (rw [bit_len]; omega) | (simp; omega), by (try dsimp only); omega⟩ (Sub.sel [0, 1, 4, 5, 6, 7] rfl) (fun _ h => h)
     ·
      refine Ll.op (v := str ((if decide (k25_1 = (0 : Int)) then [49] else [48]))) rfl rfl rfl (OpQ.call rfl Tryd.call147 rfl Own.stable (fun w1 hw1 => bitD_ok (decide (k25_1 = (0 : Int))) w1 )) ?_
      refine Ll.nil (Lu.joint (pk [1] rfl rfl) ?_)
      refine Lu.loud rfl ?_
      refine Ll.op rfl rfl rfl (OpQ.loadOwn 0 rfl Tryd.isAgg9 rfl rfl rfl) ?_
      refine Ll.nil (Lu.joint (pk [1] rfl rfl) ?_)
      refine Lu.take rfl rfl rfl rfl rfl (OpQ.sadd rfl rfl rfl (by first | (rw [bit_len]; omega) | omega)) (pk [1] rfl rfl) ?_
      refine Lu.take rfl rfl rfl rfl rfl (OpQ.fieldAddr rfl Tryd.runUnderlying28 rfl Tryd.sizeOf9 rfl rfl) (pk [1] rfl rfl) ?_
      refine Lu.loud rfl ?_
      refine Ll.store1 (v := str (S ++ ((if decide (k25_1 = (0 : Int)) then [49] else [48])))) (hs' := (bk_ p5 #[i6_ n, str (S ++ ((if decide (k25_1 = (0 : Int)) then [49] else [48]))), str R] 28 :: _ :: _ :: hs)) 0 rfl rfl rfl rfl rfl rfl Tryd.sizeOf9 rfl (by simp) rfl ?_
      refine Ll.nil (Lu.joint (pk [1] rfl rfl) ?_)
      refine Lu.nil ?_
      refine Kt.joined ((S ++ ((if decide (k25_1 = (0 : Int)) then [49] else [48])), p_25_1)) ⟨by (try dsimp only); rw [List.length_append]; first | (rw [bit_len]; omega) | (simp; omega), by (try dsimp only); omega⟩ (Sub.sel [0, 1, 4, 5, 6, 7] rfl) (fun _ h => h)
  rintro ⟨S2, p2⟩ ⟨hS2, hp2⟩
  dsimp only
  refine Kt.sel [0, 1, 4, 5, 6, 7] [_, _, _, _, _, _] rfl ?_
  refine Wk.seq ?_
  refine Wk.regionQ ?_
  refine Lq.run 1 rfl ?_
  refine Lq.nil ?_
  refine Kt.sel [0, 1, 4, 5, 6, 7, 8] [_, _, _, _, _, _, _] rfl ?_
  refine Wk.block ?_
  refine Wk.loop (σ := Nat × List UInt8 × Nat) (fun ⟨j, R1, p1⟩ => (j : Int) ≤ n ∧ R1.length = k * n.toNat + j ∧ p1 ≤ p + 3 + k * 9 + j) (fun ⟨j, R1, p1⟩ => [(0, pt_ rp), (1, i6_ n), (4, pt_ p4), (5, pt_ p5), (6, i6_ k13), (7, i6_ ((k : Int))), (8, i6_ ((j : Int)))]) (fun ⟨j, R1, p1⟩ => Own B w0 (bk_ p5 #[i6_ n, str S2, str R1] 28 :: bk_ p4 #[i6_ 0, str ([]), str ([])] 28 :: bk_ rp #[bv, i6_ ((p1 : Int))] 110 :: hs)) (fun ⟨j, R1, p1⟩ => (n - j).toNat) ((0, R, p2)) ⟨by omega, by omega, by omega⟩ (Sub.sel [0, 1, 4, 5, 6, 7, 8] rfl) (fun _ h => h) ?_
  rintro ⟨j, R1, p1⟩ ⟨hj, hR1, hp1⟩
  dsimp only
  have hj8 : j ≤ 8 := by omega
  refine Wk.seq ?_
  refine Wk.seq ?_
  refine Wk.regionQ ?_
  refine Lq.run 3 rfl ?_
  refine Lq.nil ?_
  refine Kt.sel [0, 1, 4, 5, 6, 7, 8, 33] [_, _, _, _, _, _, _, _] rfl ?_
  refine Wk.cond (b := decide (((j : Int)) < n)) rfl (fun h33 => ?_) (fun h33 => ?_)
  ·
   replace h33 := of_decide_eq_true h33
   refine Wk.skip ?_
   refine Kt.sel [0, 1, 4, 5, 6, 7, 8] [_, _, _, _, _, _, _] rfl ?_
   refine Wk.seq ?_
   refine Wk.block ?_
   refine Wk.seq ?_
   refine Wk.region ?_
   refine Ll.run 1 rfl ?_
   refine Ll.callRd (rp := rp) (RT := 110) (p := p1) (bv := bv) (hs := hs) (ok := fun (k : Int) p' => 0 ≤ k ∧ (1 ≤ (3 : Int) → k < 3) ∧ p' = p1 + 1) (v := fun (k : Int) => i6_ k) (new := fun (k : Int) => []) (xs := [.tmp 36, .const (i6_ 3)]) (vs := [pt_ rp, i6_ 3]) ([bk_ p5 #[i6_ n, str S2, str R1] 28, bk_ p4 #[i6_ 0, str ([]), str ([])] 28] : List (Nat × Obj)) rfl rfl rfl rfl Tryd.call80 rfl (fun w1 hw1 => (pick_ok B w0 (([bk_ p5 #[i6_ n, str S2, str R1] 28, bk_ p4 #[i6_ 0, str ([]), str ([])] 28] : List (Nat × Obj)) ++ hs) rp p1 bv L 3 w1 (fun w2 hw2 => hb w2 (Own.drop (f := ([bk_ p5 #[i6_ n, str S2, str R1] 28, bk_ p4 #[i6_ 0, str ([]), str ([])] 28] : List (Nat × Obj))) hw2)) hL8 hL (by omega) hw1).mono fun en w' ⟨k', p', h1, h2, h3⟩ => ⟨k', p', h1, h2, h3⟩) fun k37 p_37 hKp_37 => ?_
   show Ll _ _ (Own _ _ (_ :: _ :: _ :: hs)) _ _ ((37, i6_ k37) :: _) _ _ _
   obtain ⟨h0k37, h1k37, hep_37⟩ := hKp_37
   try have hltk37 := h1k37 (by first | omega | (split <;> omega) | decide)
   refine Ll.run 2 rfl ?_
   refine Ll.nil ?_
   refine Kt.sel [0, 1, 4, 5, 6, 7, 8, 9] [_, _, _, _, _, _, _, _] rfl ?_
   refine Wk.seq ?_
   refine Wk.seq ?_
   refine Wk.regionQ ?_
   refine Lq.run 1 rfl ?_
   refine Lq.nil ?_
   refine Kt.sel [0, 1, 4, 5, 6, 7, 8, 9, 39] [_, _, _, _, _, _, _, _, _] rfl ?_
   refine Wk.join (σ := Bool) (fun b9 => True) (fun b9 => [(0, pt_ rp), (1, i6_ n), (4, pt_ p4), (5, pt_ p5), (6, i6_ k13), (7, i6_ ((k : Int))), (8, i6_ ((j : Int))), (9, bo_ b9)]) (fun b9 => Own B w0 (bk_ p5 #[i6_ n, str S2, str R1] 28 :: bk_ p4 #[i6_ 0, str ([]), str ([])] 28 :: bk_ rp #[bv, i6_ ((p_37 : Int))] 110 :: hs)) ?_ ?_
   ·
    refine Wk.block ?_
    refine Wk.seq ?_
    refine Wk.regionQ ?_
    refine Lq.run 2 rfl ?_
    refine Lq.nil ?_
    refine Kt.sel [0, 1, 4, 5, 6, 7, 8, 9, 39, 40] [_, _, _, _, _, _, _, _, _, _] rfl ?_
    refine Wk.cond (b := decide (k13 = (0 : Int))) rfl (fun h40 => ?_) (fun h40 => ?_)
    ·
     replace h40 := of_decide_eq_true h40
     refine Wk.regionQ ?_
     refine Lq.run 2 rfl ?_
     refine Lq.op rfl rfl rfl (OpQ.add rfl rfl rfl (by omega) (by omega)) ?_
     refine Lq.run 1 rfl ?_
     refine Lq.op (v := i6_ ((((k : Int)) + (1 : Int)) % n)) rfl rfl rfl (OpQ.rem rfl rfl rfl (by omega) (by omega)) ?_
     refine Lq.run 2 rfl ?_
     refine Lq.nil ?_
     refine Kt.joined (decide (((j : Int)) = ((((k : Int)) + (1 : Int)) % n))) trivial (Sub.sel [0, 1, 4, 5, 6, 7, 8, 9] rfl) (fun _ h => h)
    ·
     replace h40 := of_decide_eq_false h40
     refine Wk.seq ?_
     refine Wk.regionQ ?_
     refine Lq.run 2 rfl ?_
     refine Lq.nil ?_
     refine Kt.sel [0, 1, 4, 5, 6, 7, 8, 9, 39, 48] [_, _, _, _, _, _, _, _, _, _] rfl ?_
     refine Wk.cond (b := decide (k13 = (1 : Int))) rfl (fun h48 => ?_) (fun h48 => ?_)
     ·
      replace h48 := of_decide_eq_true h48
      refine Wk.regionQ ?_
      refine Lq.run 4 rfl ?_
      refine Lq.nil ?_
      refine Kt.joined (decide (((k : Int)) < ((j : Int)))) trivial (Sub.sel [0, 1, 4, 5, 6, 7, 8, 9] rfl) (fun _ h => h)
     ·
      replace h48 := of_decide_eq_false h48
      refine Wk.seq ?_
      refine Wk.regionQ ?_
      refine Lq.run 2 rfl ?_
      refine Lq.nil ?_
      refine Kt.sel [0, 1, 4, 5, 6, 7, 8, 9, 39, 53] [_, _, _, _, _, _, _, _, _, _] rfl ?_
      refine Wk.cond (b := decide (k13 = (2 : Int))) rfl (fun h53 => ?_) (fun h53 => ?_)
      ·
       replace h53 := of_decide_eq_true h53
       refine Wk.regionQ ?_
       refine Lq.run 4 rfl ?_
       refine Lq.bool fun b58 hg58 => ?_
       cases b58
       ·
        replace hg58 := not_false hg58
        replace hg58 := of_decide_eq_true hg58
        refine Lq.pass rfl rfl rfl ?_
        refine Lq.pass rfl rfl rfl ?_
        refine Lq.pass rfl rfl rfl ?_
        refine Lq.pass rfl rfl rfl ?_
        refine Lq.pass rfl rfl rfl ?_
        refine Lq.run 2 rfl ?_
        refine Lq.nil ?_
        refine Kt.joined (false) trivial (Sub.sel [0, 1, 4, 5, 6, 7, 8, 9] rfl) (fun _ h => h)
       ·
        replace hg58 := not_true hg58
        replace hg58 := of_decide_eq_false hg58
        refine Lq.run 2 rfl ?_
        refine Lq.op rfl rfl rfl (OpQ.add rfl rfl rfl (by omega) (by omega)) ?_
        refine Lq.op (v := i6_ ((((k : Int)) + ((j : Int))) % (2 : Int))) rfl rfl rfl (OpQ.rem rfl rfl rfl (by omega) (by decide)) ?_
        refine Lq.run 3 rfl ?_
        refine Lq.nil ?_
        refine Kt.joined (decide (((((k : Int)) + ((j : Int))) % (2 : Int)) = (1 : Int))) trivial (Sub.sel [0, 1, 4, 5, 6, 7, 8, 9] rfl) (fun _ h => h)
      ·
       replace h53 := of_decide_eq_false h53
       refine Wk.seq ?_
       refine Wk.regionQ ?_
       refine Lq.run 2 rfl ?_
       refine Lq.nil ?_
       refine Kt.sel [0, 1, 4, 5, 6, 7, 8, 9, 39, 65] [_, _, _, _, _, _, _, _, _, _] rfl ?_
       refine Wk.cond (b := decide (k13 = (3 : Int))) rfl (fun h65 => ?_) (fun h65 => ?_)
       ·
        replace h65 := of_decide_eq_true h65
        refine Wk.regionQ ?_
        refine Lq.run 4 rfl ?_
        refine Lq.bool fun b70 hg70 => ?_
        cases b70
        ·
         replace hg70 := of_decide_eq_false hg70
         refine Lq.run 2 rfl ?_
         refine Lq.op rfl rfl rfl (OpQ.add rfl rfl rfl (by omega) (by omega)) ?_
         refine Lq.run 3 rfl ?_
         refine Lq.bool fun b76 hg76 => ?_
         cases b76
         ·
          replace hg76 := of_decide_eq_false hg76
          refine Lq.run 2 rfl ?_
          refine Lq.op rfl rfl rfl (OpQ.add rfl rfl rfl (by omega) (by omega)) ?_
          refine Lq.run 3 rfl ?_
          refine Lq.nil ?_
          refine Kt.joined (decide (((k : Int)) = (((j : Int)) + (1 : Int)))) trivial (Sub.sel [0, 1, 4, 5, 6, 7, 8, 9] rfl) (fun _ h => h)
         ·
          replace hg76 := of_decide_eq_true hg76
          refine Lq.pass rfl rfl rfl ?_
          refine Lq.pass rfl rfl rfl ?_
          refine Lq.pass rfl rfl rfl ?_
          refine Lq.pass rfl rfl rfl ?_
          refine Lq.run 2 rfl ?_
          refine Lq.nil ?_
          refine Kt.joined (true) trivial (Sub.sel [0, 1, 4, 5, 6, 7, 8, 9] rfl) (fun _ h => h)
        ·
         replace hg70 := of_decide_eq_true hg70
         refine Lq.pass rfl rfl rfl ?_
         refine Lq.pass rfl rfl rfl ?_
         refine Lq.pass rfl rfl rfl ?_
         refine Lq.pass rfl rfl rfl ?_
         refine Lq.run 2 rfl ?_
         refine Lq.pass rfl rfl rfl ?_
         refine Lq.pass rfl rfl rfl ?_
         refine Lq.pass rfl rfl rfl ?_
         refine Lq.pass rfl rfl rfl ?_
         refine Lq.run 2 rfl ?_
         refine Lq.nil ?_
         refine Kt.joined (true) trivial (Sub.sel [0, 1, 4, 5, 6, 7, 8, 9] rfl) (fun _ h => h)
       ·
        replace h65 := of_decide_eq_false h65
        refine Wk.seq ?_
        refine Wk.regionQ ?_
        refine Lq.run 2 rfl ?_
        refine Lq.nil ?_
        refine Kt.sel [0, 1, 4, 5, 6, 7, 8, 9, 39, 82] [_, _, _, _, _, _, _, _, _, _] rfl ?_
        refine Wk.cond (b := decide (k13 = (4 : Int))) rfl (fun h82 => ?_) (fun h82 => ?_)
        ·
         replace h82 := of_decide_eq_true h82
         refine Wk.regionQ ?_
         refine Lq.run 2 rfl ?_
         refine Lq.bool fun b85 hg85 => ?_
         cases b85
         ·
          replace hg85 := of_decide_eq_false hg85
          refine Lq.pass rfl rfl rfl ?_
          refine Lq.pass rfl rfl rfl ?_
          refine Lq.pass rfl rfl rfl ?_
          refine Lq.run 2 rfl ?_
          refine Lq.nil ?_
          refine Kt.joined (false) trivial (Sub.sel [0, 1, 4, 5, 6, 7, 8, 9] rfl) (fun _ h => h)
         ·
          replace hg85 := of_decide_eq_true hg85
          refine Lq.run 5 rfl ?_
          refine Lq.nil ?_
          refine Kt.joined (!(decide (((k : Int)) = ((j : Int))))) trivial (Sub.sel [0, 1, 4, 5, 6, 7, 8, 9] rfl) (fun _ h => h)
        ·
         replace h82 := of_decide_eq_false h82
         refine Wk.seq ?_
         refine Wk.regionQ ?_
         refine Lq.run 2 rfl ?_
         refine Lq.nil ?_
         refine Kt.sel [0, 1, 4, 5, 6, 7, 8, 9, 90] [_, _, _, _, _, _, _, _, _] rfl ?_
         refine Wk.cond (b := decide (k13 = (5 : Int))) rfl (fun h90 => ?_) (fun h90 => ?_)
         ·
          replace h90 := of_decide_eq_true h90
          refine Wk.regionQ ?_
          refine Lq.run 1 rfl ?_
          refine Lq.op rfl rfl rfl (OpQ.add rfl rfl rfl (by omega) (by omega)) ?_
          refine Lq.op (v := i6_ ((((k : Int)) + (1 : Int)) / (2 : Int))) rfl rfl rfl (OpQ.quo rfl rfl rfl (by omega) (by omega) (by decide)) ?_
          refine Lq.run 1 rfl ?_
          refine Lq.op rfl rfl rfl (OpQ.add rfl rfl rfl (by omega) (by omega)) ?_
          refine Lq.op (v := i6_ ((((j : Int)) + (1 : Int)) / (2 : Int))) rfl rfl rfl (OpQ.quo rfl rfl rfl (by omega) (by omega) (by decide)) ?_
          refine Lq.run 2 rfl ?_
          refine Lq.bool fun b99 hg99 => ?_
          cases b99
          ·
           replace hg99 := of_decide_eq_false hg99
           refine Lq.pass rfl rfl rfl ?_
           refine Lq.pass rfl rfl rfl ?_
           refine Lq.pass rfl rfl rfl ?_
           refine Lq.run 2 rfl ?_
           refine Lq.nil ?_
           refine Kt.joined (false) trivial (Sub.sel [0, 1, 4, 5, 6, 7, 8, 9] rfl) (fun _ h => h)
          ·
           replace hg99 := of_decide_eq_true hg99
           refine Lq.run 5 rfl ?_
           refine Lq.nil ?_
           refine Kt.joined (!(decide (((k : Int)) = ((j : Int))))) trivial (Sub.sel [0, 1, 4, 5, 6, 7, 8, 9] rfl) (fun _ h => h)
         ·
          replace h90 := of_decide_eq_false h90
          refine Wk.skip ?_
          refine Kt.joined (decide (k37 = (0 : Int))) trivial (Sub.sel [0, 1, 4, 5, 6, 7, 8, 9] rfl) (fun _ h => h)
   rintro b9 _
   refine Kt.sel [0, 1, 4, 5, 6, 7, 8, 9] [_, _, _, _, _, _, _, _] rfl ?_
   refine Wk.regionU (S := Own B w0 [bk_ p4 #[i6_ 0, str ([]), str ([])] 28, bk_ rp #[bv, i6_ ((p_37 : Int))] 110]) (.take 0 (.take 2 (.two 1 (.one 3 (.take 4 (.take 5 (.one 6 .done)))) 3 (.one 1 (.take 4 (.take 5 (.one 6 .done))))))) Base.mixed (fun _ h => h.drawn) (by kernel_rfl) ?_
   refine Lu.take rfl rfl rfl rfl rfl (OpQ.fieldAddr rfl Tryd.runUnderlying28 rfl Tryd.sizeOf9 rfl rfl) (pk [1, 2] rfl rfl) ?_
   refine Lu.run 1 rfl (pk [1, 2] rfl rfl) ?_
   refine Lu.two rfl rfl ?_ ?_
   ·
    refine Ll.op rfl rfl rfl (OpQ.loadOwn 0 rfl Tryd.isAgg9 rfl rfl rfl) ?_
    refine Ll.nil (Lu.joint (pk [1, 2] rfl rfl) ?_)
    refine Lu.loud rfl ?_
    refine Ll.op (v := str ((if b9 then [49] else [48]))) rfl rfl rfl (OpQ.call rfl Tryd.call147 rfl Own.stable (fun w1 hw1 => bitD_ok b9 w1 )) ?_
    refine Ll.nil (Lu.joint (pk [1, 2] rfl rfl) ?_)
    refine Lu.take rfl rfl rfl rfl rfl (OpQ.sadd rfl rfl rfl (by first | (rw [bit_len]; omega) | omega)) (pk [1, 2] rfl rfl) ?_
    refine Lu.take rfl rfl rfl rfl rfl (OpQ.fieldAddr rfl Tryd.runUnderlying28 rfl Tryd.sizeOf9 rfl rfl) (pk [1, 2] rfl rfl) ?_
    refine Lu.loud rfl ?_
    refine Ll.store1 (v := str (R1 ++ ((if b9 then [49] else [48])))) (hs' := (bk_ p5 #[i6_ n, str S2, str (R1 ++ ((if b9 then [49] else [48])))] 28 :: _ :: _ :: hs)) 0 rfl rfl rfl rfl rfl rfl Tryd.sizeOf9 rfl (by simp) rfl ?_
    refine Ll.nil (Lu.joint (pk [1, 2] rfl rfl) ?_)
    refine Lu.nil ?_
    refine Kt.sel [0, 1, 4, 5, 6, 7, 8] [_, _, _, _, _, _, _] rfl ?_
    refine Wk.regionQ ?_
    refine Lq.run 1 rfl ?_
    refine Lq.op rfl rfl rfl (OpQ.add rfl rfl rfl (by omega) (by omega)) ?_
    refine Lq.run 1 rfl ?_
    refine Lq.nil ?_
    refine Kt.again ((j + 1, R1 ++ ((if b9 then [49] else [48])), p_37)) ⟨by omega, by (try dsimp only); rw [List.length_append, bit_len]; omega, by (try dsimp only); omega⟩ (by omega) (Sub.sel [0, 1, 4, 5, 6, 7, 8] rfl) (fun _ h => h)
   ·
    refine Ll.op (v := str ((if b9 then [49] else [48]))) rfl rfl rfl (OpQ.call rfl Tryd.call147 rfl Own.stable (fun w1 hw1 => bitD_ok b9 w1 )) ?_
    refine Ll.nil (Lu.joint (pk [1, 2] rfl rfl) ?_)
    refine Lu.loud rfl ?_
    refine Ll.op rfl rfl rfl (OpQ.loadOwn 0 rfl Tryd.isAgg9 rfl rfl rfl) ?_
    refine Ll.nil (Lu.joint (pk [1, 2] rfl rfl) ?_)
    refine Lu.take rfl rfl rfl rfl rfl (OpQ.sadd rfl rfl rfl (by first | (rw [bit_len]; omega) | omega)) (pk [1, 2] rfl rfl) ?_
    refine Lu.take rfl rfl rfl rfl rfl (OpQ.fieldAddr rfl Tryd.runUnderlying28 rfl Tryd.sizeOf9 rfl rfl) (pk [1, 2] rfl rfl) ?_
    refine Lu.loud rfl ?_
    refine Ll.store1 (v := str (R1 ++ ((if b9 then [49] else [48])))) (hs' := (bk_ p5 #[i6_ n, str S2, str (R1 ++ ((if b9 then [49] else [48])))] 28 :: _ :: _ :: hs)) 0 rfl rfl rfl rfl rfl rfl Tryd.sizeOf9 rfl (by simp) rfl ?_
    refine Ll.nil (Lu.joint (pk [1, 2] rfl rfl) ?_)
    refine Lu.nil ?_
    refine Kt.sel [0, 1, 4, 5, 6, 7, 8] [_, _, _, _, _, _, _] rfl ?_
    refine Wk.regionQ ?_
    refine Lq.run 1 rfl ?_
    refine Lq.op rfl rfl rfl (OpQ.add rfl rfl rfl (by omega) (by omega)) ?_
    refine Lq.run 1 rfl ?_
    refine Lq.nil ?_
    refine Kt.again ((j + 1, R1 ++ ((if b9 then [49] else [48])), p_37)) ⟨by omega, by (try dsimp only); rw [List.length_append, bit_len]; omega, by (try dsimp only); omega⟩ (by omega) (Sub.sel [0, 1, 4, 5, 6, 7, 8] rfl) (fun _ h => h)
  ·
   replace h33 := of_decide_eq_false h33
   refine Wk.exit rfl ?_
   refine Kt.sel [0, 1, 4, 5, 6, 7] [_, _, _, _, _, _] rfl ?_
   refine Wk.regionQ ?_
   refine Lq.run 1 rfl ?_
   refine Lq.op rfl rfl rfl (OpQ.add rfl rfl rfl (by omega) (by omega)) ?_
   refine Lq.run 1 rfl ?_
   refine Lq.nil ?_
   refine Kt.again ((k + 1, S2, R1, p1)) ⟨by omega, by (try dsimp only); omega, by (try dsimp only); rw [Nat.add_mul, Nat.one_mul]; omega, by (try dsimp only); omega⟩ (by omega) (Sub.sel [0, 1, 4, 5, 6, 7] rfl) (fun _ h => h)
 ·
  replace h16 := of_decide_eq_false h16
  refine Wk.exit rfl ?_
  refine Kt.sel [4, 5] [_, _] rfl ?_
  refine Wk.seq ?_
  refine Wk.region ?_
  refine Ll.op rfl rfl rfl (OpQ.loadBox (cs := #[i6_ n, str S, str R]) 0 rfl Tryd.isAgg28 rfl rfl Tryd.sizeOf28) ?_
  refine Ll.storeBox (cs' := #[i6_ n, str S, str R]) (hs' := (_ :: bk_ p4 #[i6_ n, str S, str R] 28 :: _ :: hs)) 1 rfl rfl rfl rfl rfl (by kernel_rfl : _ = some Tryd.t28) rfl rfl rfl rfl rfl ?_
  refine Ll.nil ?_
  refine Kt.sel [4] [_] rfl ?_
  refine Wk.ret (Kt.endBox (cs := #[i6_ n, str S, str R]) 1 rfl rfl rfl Tryd.isAgg28 Tryd.sizeOf28 fun w' hw => ?_)
  -- ret 0: pt_ p4
  exact ⟨⟨n, S, R⟩, p0, rfl, ⟨⟨rfl, by dsimp only; omega, by dsimp only; rw [hR, show k = n.toNat from by omega]⟩, by omega⟩, hw.sub (List.Sublist.cons _ (List.Sublist.cons _ (List.Sublist.cons_cons _ (List.Sublist.refl _))))⟩

set_option maxHeartbeats 400000 in
/-- spec.l1Some -/
theorem l1Some_ok (B : Nat) (w0 : World) (hs : List (Nat × Obj)) (rp p : Nat) (bv : Value) (L : List Int) (w : World) (hb : ∀ w, Own B w0 hs w → Row w bv (u8s L)) (hL8 : Bytes8 L) (hL : L.length ≤ 2000) (hp : p ≤ 800000) (hw : Own B w0 ((rp, .cells #[bv, .int .i64 (p : Int)] 110 (0, 0)) :: hs) w) :
    Calls Tryd.prog 121 [pt_ rp].toArray w fun en w' => ∃ a : St, ∃ p' : Nat, en = .returned (vS a) ∧ ((a.Fine ∧ a.n ≤ 5) ∧ p' ≤ p + 200) ∧ Own B w0 (((rp, .cells #[bv, .int .i64 (p' : Int)] 110 (0, 0)) :: hs)) w' := by
 refine fnStartC (Own B w0 ((rp, .cells #[bv, .int .i64 (p : Int)] 110 (0, 0)) :: hs)) (n := 8) (e := [(0, pt_ rp)]) Tryd.func121 rfl rfl rfl rfl Ends.both hw ?_
 refine Wk.seq ?_
 refine Wk.region ?_
 refine Ll.alloc rfl rfl rfl rfl Tryd.zeroValue28 fun p2 hp2 => ?_
 show Ll _ _ (Own _ _ (bk_ p2 #[i6_ 0, str ([]), str ([])] 28 :: _ :: hs)) _ _ ((2, pt_ p2) :: _) _ _ _
 refine Ll.nil ?_
 refine Kt.sel [0, 2] [_, _] rfl ?_
 refine Wk.seq ?_
 refine Wk.region ?_
 refine Ll.run 2 rfl ?_
 refine Ll.slice (xs := [.const (i6_ 3), .const (i6_ 4), .const (i6_ 2), .const (i6_ 1), .const (i6_ 5), .const (i6_ 3)]) (vs := [i6_ 3, i6_ 4, i6_ 2, i6_ 1, i6_ 5, i6_ 3]) Base.elem24 rfl rfl rfl rfl rfl rfl (by decide) rfl fun p5 hp5 => ?_
 refine Ll.callRd (rp := rp) (RT := 110) (p := p) (bv := bv) (hs := hs) (ok := fun (v : Int) p' => v ∈ ([3, 4, 2, 1, 5, 3]) ∧ p' = p + 1) (v := fun (v : Int) => i6_ v) (new := fun (v : Int) => []) (xs := [.tmp 4, .tmp 5]) (vs := [pt_ rp, sl_ p5 6 6]) ([bk_ p5 #[i6_ 3, i6_ 4, i6_ 2, i6_ 1, i6_ 5, i6_ 3] 3, bk_ p2 #[i6_ 0, str ([]), str ([])] 28] : List (Nat × Obj)) rfl rfl rfl rfl Tryd.call71 rfl (fun w1 hw1 => (num_ok B w0 (([bk_ p5 #[i6_ 3, i6_ 4, i6_ 2, i6_ 1, i6_ 5, i6_ 3] 3, bk_ p2 #[i6_ 0, str ([]), str ([])] 28] : List (Nat × Obj)) ++ hs) rp p bv L (sl_ p5 6 6) ([3, 4, 2, 1, 5, 3]) w1 (fun w2 hw2 => hb w2 (Own.drop (f := ([bk_ p5 #[i6_ 3, i6_ 4, i6_ 2, i6_ 1, i6_ 5, i6_ 3] 3, bk_ p2 #[i6_ 0, str ([]), str ([])] 28] : List (Nat × Obj))) hw2)) hL8 hL (fun w2 h2 => (Own.row h2 (i := 0) rfl (n := 6) (cap := 6) (vs := ints [3, 4, 2, 1, 5, 3]) rfl rfl (by decide))) (by simp) (by omega) hw1).mono fun en w' ⟨v', p', h1, h2, h3⟩ => ⟨v', p', h1, h2, h3⟩) fun v6 p_6 hKp_6 => ?_
 show Ll _ _ (Own _ _ (_ :: _ :: _ :: hs)) _ _ ((6, i6_ v6) :: _) _ _ _
 obtain ⟨hmv6, hep_6⟩ := hKp_6
 have hvv6 : 1 ≤ v6 ∧ v6 ≤ 5 := by simp at hmv6; omega
 have hv6 : 1 ≤ v6 ∧ v6 ≤ 5 := by simp at hmv6; omega
 refine Ll.callRd (rp := rp) (RT := 110) (p := p_6) (bv := bv) (hs := hs) (ok := fun (a : St) p' => (a.n = v6 ∧ (a.set.length : Int) = v6 ∧ a.rel.length = v6.toNat * v6.toNat) ∧ p' ≤ p_6 + 100) (v := fun (a : St) => vS a) (new := fun (a : St) => []) (xs := [.tmp 3, .tmp 6]) (vs := [pt_ rp, i6_ v6]) ([bk_ p5 #[i6_ 3, i6_ 4, i6_ 2, i6_ 1, i6_ 5, i6_ 3] 3, bk_ p2 #[i6_ 0, str ([]), str ([])] 28] : List (Nat × Obj)) rfl rfl rfl rfl Tryd.call124 rfl (fun w1 hw1 => (l1Draw_ok B w0 (([bk_ p5 #[i6_ 3, i6_ 4, i6_ 2, i6_ 1, i6_ 5, i6_ 3] 3, bk_ p2 #[i6_ 0, str ([]), str ([])] 28] : List (Nat × Obj)) ++ hs) rp p_6 bv L v6 w1 (fun w2 hw2 => hb w2 (Own.drop (f := ([bk_ p5 #[i6_ 3, i6_ 4, i6_ 2, i6_ 1, i6_ 5, i6_ 3] 3, bk_ p2 #[i6_ 0, str ([]), str ([])] 28] : List (Nat × Obj))) hw2)) hL8 hL (by omega) (by omega) (by omega) hw1).mono fun en w' ⟨a', p', h1, h2, h3⟩ => ⟨a', p', h1, h2, h3⟩) fun a7 p_7 hKp_7 => ?_
 show Ll _ _ (Own _ _ (_ :: _ :: _ :: hs)) _ _ ((7, vS a7) :: _) _ _ _
 obtain ⟨⟨hna7, hsa7, hra7⟩, hep_7⟩ := hKp_7
 refine Ll.storeBox (cs' := #[i6_ a7.n, str a7.set, str a7.rel]) (hs' := (_ :: bk_ p2 #[i6_ a7.n, str a7.set, str a7.rel] 28 :: _ :: hs)) 1 rfl rfl rfl rfl rfl (by kernel_rfl : _ = some Tryd.t28) rfl rfl rfl rfl rfl ?_
 refine Ll.nil ?_
 refine Kt.sel [2] [_] rfl ?_
 refine Wk.ret (Kt.endBox (cs := #[i6_ a7.n, str a7.set, str a7.rel]) 1 rfl rfl rfl Tryd.isAgg28 Tryd.sizeOf28 fun w' hw => ?_)
 -- ret 0: pt_ p2
 exact ⟨a7, p_7, rfl, ⟨⟨⟨by omega, by omega, by omega, by rw [hra7, hna7]; exact sq_cast (by omega)⟩, by omega⟩, by omega⟩, hw.sub (List.Sublist.cons _ (List.Sublist.cons _ (List.Sublist.cons_cons _ (List.Sublist.refl _))))⟩

set_option maxHeartbeats 400000 in
/-- spec.l1Shuffle -/
theorem shuffle_ok (B : Nat) (w0 : World) (hs : List (Nat × Obj)) (rp p : Nat) (bv : Value) (L : List Int) (n : Int) (w : World) (hb : ∀ w, Own B w0 hs w → Row w bv (u8s L)) (hL8 : Bytes8 L) (hL : L.length ≤ 2000) (hn0 : 0 ≤ n) (hn8 : n ≤ 8) (hp : p ≤ 900000) (hw : Own B w0 ((rp, .cells #[bv, .int .i64 (p : Int)] 110 (0, 0)) :: hs) w) :
    Calls Tryd.prog 122 [pt_ rp, i6_ n].toArray w fun en w' => ∃ g : Nat, ∃ c : Nat, ∃ u : Array Value, ∃ xs : List Int, ∃ p' : Nat, en = .returned (sl_ g xs.length c) ∧ ((u.size = c * 1 ∧ xs.length ≤ c ∧ u.toList.take xs.length = ints xs) ∧ (xs.length = n.toNat ∧ ∀ x ∈ xs, 0 ≤ x ∧ x < n) ∧ p' ≤ p + 10) ∧ Own B w0 ([bk_ g u 3] ++ ((rp, .cells #[bv, .int .i64 (p' : Int)] 110 (0, 0)) :: hs)) w' := by
 refine fnStartC (Own B w0 ((rp, .cells #[bv, .int .i64 (p : Int)] 110 (0, 0)) :: hs)) (n := 32) (e := [(0, pt_ rp), (1, i6_ n)]) Tryd.func122 rfl rfl rfl rfl Ends.both hw ?_
 refine Wk.seq ?_
 refine Wk.regionQ ?_
 refine Lq.run 1 rfl ?_
 refine Lq.nil ?_
 refine Kt.sel [0, 1] [_, _] rfl ?_
 refine Wk.seq ?_
 refine Wk.region ?_
 refine Ll.slice (xs := []) (vs := []) Base.elem24 rfl rfl rfl rfl rfl rfl (by decide) rfl fun p8 hp8 => ?_
 refine Ll.run 1 rfl ?_
 refine Ll.nil ?_
 refine Kt.sel [0, 1, 5] [_, _, _] rfl ?_
 refine Wk.seq ?_
 refine Wk.seq ?_
 refine Wk.regionQ ?_
 refine Lq.run 1 rfl ?_
 refine Lq.nil ?_
 refine Kt.sel [0, 1, 5, 6] [_, _, _, _] rfl ?_
 refine Wk.block ?_
 refine Wk.loop (σ := Nat × Nat × Nat × Array Value × List Int × Nat) (fun ⟨k, g, c, u, xs, p0⟩ => (k : Int) ≤ n ∧ (u.size = c * 1 ∧ xs.length ≤ c ∧ u.toList.take xs.length = ints xs) ∧ (xs.length = k ∧ ∀ x ∈ xs, 0 ≤ x ∧ x < (k : Int)) ∧ p0 ≤ p + k) (fun ⟨k, g, c, u, xs, p0⟩ => [(0, pt_ rp), (1, i6_ n), (5, sl_ g xs.length c), (6, i6_ ((k : Int)))]) (fun ⟨k, g, c, u, xs, p0⟩ => Own B w0 (bk_ g u 3 :: bk_ rp #[bv, i6_ ((p0 : Int))] 110 :: hs)) (fun ⟨k, g, c, u, xs, p0⟩ => (n - k).toNat) ((0, p8, 0, #[], [], p)) ⟨by omega, ⟨rfl, Nat.le_refl 0, rfl⟩, ⟨rfl, fun x hx => by cases hx⟩, by omega⟩ (Sub.sel [0, 1, 5, 6] rfl) (fun _ h => h) ?_
 rintro ⟨k, g, c, u, xs, p0⟩ ⟨hk, ⟨hcg, hlg, htg⟩, ⟨hxl, hxr⟩, hp0⟩
 dsimp only
 refine Wk.seq ?_
 refine Wk.seq ?_
 refine Wk.regionQ ?_
 refine Lq.run 3 rfl ?_
 refine Lq.nil ?_
 refine Kt.sel [0, 1, 5, 6, 11] [_, _, _, _, _] rfl ?_
 refine Wk.cond (b := decide (((k : Int)) < n)) rfl (fun h11 => ?_) (fun h11 => ?_)
 ·
  replace h11 := of_decide_eq_true h11
  have hxl8 : xs.length ≤ 8 := by omega
  refine Wk.skip ?_
  refine Kt.sel [0, 1, 5, 6] [_, _, _, _] rfl ?_
  refine Wk.seq ?_
  refine Wk.block ?_
  refine Wk.seq ?_
  refine Wk.region ?_
  refine Ll.run 2 rfl ?_
  refine Ll.op rfl rfl rfl (OpQ.lenS rfl Tryd.runUnderlying24 rfl) ?_
  refine Ll.op rfl rfl rfl (OpQ.add rfl rfl rfl (by omega) (by omega)) ?_
  refine Ll.callRd (rp := rp) (RT := 110) (p := p0) (bv := bv) (hs := hs) (ok := fun (k : Int) p' => 0 ≤ k ∧ (1 ≤ (((xs.length : Int)) + (1 : Int)) → k < (((xs.length : Int)) + (1 : Int))) ∧ p' = p0 + 1) (v := fun (k : Int) => i6_ k) (new := fun (k : Int) => []) (xs := [.tmp 14, .tmp 17]) (vs := [pt_ rp, i6_ (((xs.length : Int)) + (1 : Int))]) ([bk_ g u 3] : List (Nat × Obj)) rfl rfl rfl rfl Tryd.call80 rfl (fun w1 hw1 => (pick_ok B w0 (([bk_ g u 3] : List (Nat × Obj)) ++ hs) rp p0 bv L (((xs.length : Int)) + (1 : Int)) w1 (fun w2 hw2 => hb w2 (Own.drop (f := ([bk_ g u 3] : List (Nat × Obj))) hw2)) hL8 hL (by omega) hw1).mono fun en w' ⟨k', p', h1, h2, h3⟩ => ⟨k', p', h1, h2, h3⟩) fun k18 p_18 hKp_18 => ?_
  show Ll _ _ (Own _ _ (_ :: _ :: hs)) _ _ ((18, i6_ k18) :: _) _ _ _
  obtain ⟨h0k18, h1k18, hep_18⟩ := hKp_18
  try have hltk18 := h1k18 (by first | omega | (split <;> omega) | decide)
  refine Ll.run 1 rfl ?_
  refine Ll.nil ?_
  refine Kt.sel [0, 1, 5, 6, 7] [_, _, _, _, _] rfl ?_
  refine Wk.regionU (S := Own B w0 [bk_ g u 3, bk_ rp #[bv, i6_ ((p_18 : Int))] 110]) (.take 1 (.take 2 (.take 3 (.take 5 (.take 8 (.take 9 (.take 10 (.two 0 (.two 4 (.one 6 (.one 7 (.one 11 (.take 12 .done)))) 6 (.one 4 (.one 7 (.one 11 (.take 12 .done))))) 6 (.one 0 (.one 4 (.one 7 (.one 11 (.take 12 .done))))))))))))) Base.mixed (fun _ h => h.drawn) (by kernel_rfl) ?_
  refine Lu.run 2 rfl (pk [0, 1] rfl rfl) ?_
  refine Lu.take (v := sl_ g ((k18).toNat) c) rfl rfl rfl rfl rfl (OpQ.takeS (i := k18) rfl Tryd.runUnderlying24 Tryd.sizeOf3 rfl rfl (by omega) (by omega)) (pk [0, 1] rfl rfl) ?_
  refine Lu.run 3 rfl (pk [0, 1] rfl rfl) ?_
  refine Lu.take (v := .slice (some ⟨g, (dropOff (k18).toNat c), none⟩) (xs.length - (k18).toNat) (c - (k18).toNat)) rfl rfl rfl rfl rfl (OpQ.dropE rfl Tryd.runUnderlying24 Tryd.sizeOf3 rfl rfl (by omega) (by omega) (by omega)) (pk [0, 1] rfl rfl) ?_
  refine Lu.two rfl rfl ?_ ?_
  ·
   refine Ll.slice (xs := []) (vs := []) Base.elem24 rfl rfl rfl rfl rfl rfl (by decide) rfl fun p19 hp19 => ?_
   refine Ll.nil (Lu.joint (pk [1, 2] rfl rfl) ?_)
   refine Lu.two rfl rfl ?_ ?_
   ·
    refine Ll.appendInts (xs := []) (ys := (xs).take ((k18).toNat)) Base.elem24 0 rfl rfl rfl rfl rfl rfl rfl rfl (by decide) rfl (fun w1 hw1 => (Own.rowTake hw1 (i := 1) rfl htg (by omega) hlg)) (((xs).take ((k18).toNat)).length) (by first | (simp; done) | (simp; omega)) (by first | (simp; done) | (simp; omega) | omega) fun p23 cap23 cur23 hp23 hcp23 hlp23 htp23 => ?_
    show Ll _ _ (Own _ _ (_ :: _ :: _ :: hs)) _ _ ((23, sl_ p23 ((((xs).take ((k18).toNat)).length)) cap23) :: _) _ _ _
    refine Ll.nil (Lu.joint (pk [1, 2] rfl rfl) ?_)
    refine Lu.loud rfl ?_
    refine Ll.slice (xs := [.tmp 24]) (vs := [i6_ ((k : Int))]) Base.elem24 rfl rfl rfl rfl rfl rfl (by decide) rfl fun p25 hp25 => ?_
    refine Ll.nil (Lu.joint (pk [2, 3] rfl rfl) ?_)
    refine Lu.loud rfl ?_
    refine Ll.appendInts (xs := (xs).take ((k18).toNat)) (ys := [(k : Int)]) Base.elem24 1 rfl rfl rfl rfl rfl rfl rfl hcp23 hlp23 (by simpa using htp23) (fun w1 hw1 => (Own.row hw1 (i := 0) rfl (n := 1) (cap := 1) (vs := ints [(k : Int)]) rfl rfl (by decide))) ((((xs).take ((k18).toNat)) ++ ([(k : Int)])).length) (by first | (simp; done) | (simp; omega)) (by first | (simp; done) | (simp; omega) | omega) fun p26 cap26 cur26 hp26 hcp26 hlp26 htp26 => ?_
    show Ll _ _ (Own _ _ (_ :: _ :: _ :: _ :: hs)) _ _ ((26, sl_ p26 (((((xs).take ((k18).toNat)) ++ ([(k : Int)])).length)) cap26) :: _) _ _ _
    refine Ll.nil (Lu.joint (pk [2, 3] rfl rfl) ?_)
    refine Lu.loud rfl ?_
    refine Ll.appendInts (xs := ((xs).take ((k18).toNat)) ++ ([(k : Int)])) (ys := xs.drop (k18).toNat) Base.elem24 1 rfl rfl rfl rfl rfl rfl rfl hcp26 hlp26 (by simpa using htp26) (fun w1 hw1 => (Own.rowDropE hw1 (i := 2) rfl htg (by omega) hlg)) (((((xs).take ((k18).toNat)) ++ ([(k : Int)])) ++ (xs.drop (k18).toNat)).length) (by first | (simp; done) | (simp; omega)) (by first | (simp; done) | (simp; omega) | omega) fun p30 cap30 cur30 hp30 hcp30 hlp30 htp30 => ?_
    show Ll _ _ (Own _ _ (_ :: _ :: _ :: _ :: hs)) _ _ ((30, sl_ p30 ((((((xs).take ((k18).toNat)) ++ ([(k : Int)])) ++ (xs.drop (k18).toNat)).length)) cap30) :: _) _ _ _
    refine Ll.nil (Lu.joint (pk [2, 3] rfl rfl) ?_)
    refine Lu.run 1 rfl (pk [2, 3] rfl rfl) ?_
    refine Lu.nil ?_
    refine Kt.sel [0, 1, 5, 6] [_, _, _, _] rfl ?_
    refine Wk.regionQ ?_
    refine Lq.run 1 rfl ?_
    refine Lq.op rfl rfl rfl (OpQ.add rfl rfl rfl (by omega) (by omega)) ?_
    refine Lq.run 1 rfl ?_
    refine Lq.nil ?_
    refine Kt.again ((k + 1, p30, cap30, cur30, (((xs).take ((k18).toNat)) ++ ([(k : Int)])) ++ (xs.drop (k18).toNat), p_18)) ⟨by omega, ⟨by simpa using hcp30, hlp30, by simpa using (by simpa using htp30)⟩, ⟨by (try dsimp only); simp; omega, shuf_all hxr⟩, by (try dsimp only); omega⟩ (by omega) (Sub.sel [0, 1, 5, 6] rfl) (fun _ h => h.sub (List.Sublist.cons _ (List.Sublist.cons_cons _ (List.Sublist.cons _ (List.Sublist.cons_cons _ (List.Sublist.refl _))))))
   ·
    refine Ll.slice (xs := [.tmp 24]) (vs := [i6_ ((k : Int))]) Base.elem24 rfl rfl rfl rfl rfl rfl (by decide) rfl fun p25_1 hp25_1 => ?_
    refine Ll.nil (Lu.joint (pk [2, 3] rfl rfl) ?_)
    refine Lu.loud rfl ?_
    refine Ll.appendInts (xs := []) (ys := (xs).take ((k18).toNat)) Base.elem24 1 rfl rfl rfl rfl rfl rfl rfl rfl (by decide) rfl (fun w1 hw1 => (Own.rowTake hw1 (i := 2) rfl htg (by omega) hlg)) (((xs).take ((k18).toNat)).length) (by first | (simp; done) | (simp; omega)) (by first | (simp; done) | (simp; omega) | omega) fun p23_1 cap23_1 cur23_1 hp23_1 hcp23_1 hlp23_1 htp23_1 => ?_
    show Ll _ _ (Own _ _ (_ :: _ :: _ :: _ :: hs)) _ _ ((23, sl_ p23_1 ((((xs).take ((k18).toNat)).length)) cap23_1) :: _) _ _ _
    refine Ll.nil (Lu.joint (pk [2, 3] rfl rfl) ?_)
    refine Lu.loud rfl ?_
    refine Ll.appendInts (xs := (xs).take ((k18).toNat)) (ys := [(k : Int)]) Base.elem24 1 rfl rfl rfl rfl rfl rfl rfl hcp23_1 hlp23_1 (by simpa using htp23_1) (fun w1 hw1 => (Own.row hw1 (i := 0) rfl (n := 1) (cap := 1) (vs := ints [(k : Int)]) rfl rfl (by decide))) ((((xs).take ((k18).toNat)) ++ ([(k : Int)])).length) (by first | (simp; done) | (simp; omega)) (by first | (simp; done) | (simp; omega) | omega) fun p26_1 cap26_1 cur26_1 hp26_1 hcp26_1 hlp26_1 htp26_1 => ?_
    show Ll _ _ (Own _ _ (_ :: _ :: _ :: _ :: hs)) _ _ ((26, sl_ p26_1 (((((xs).take ((k18).toNat)) ++ ([(k : Int)])).length)) cap26_1) :: _) _ _ _
    refine Ll.nil (Lu.joint (pk [2, 3] rfl rfl) ?_)
    refine Lu.loud rfl ?_
    refine Ll.appendInts (xs := ((xs).take ((k18).toNat)) ++ ([(k : Int)])) (ys := xs.drop (k18).toNat) Base.elem24 1 rfl rfl rfl rfl rfl rfl rfl hcp26_1 hlp26_1 (by simpa using htp26_1) (fun w1 hw1 => (Own.rowDropE hw1 (i := 2) rfl htg (by omega) hlg)) (((((xs).take ((k18).toNat)) ++ ([(k : Int)])) ++ (xs.drop (k18).toNat)).length) (by first | (simp; done) | (simp; omega)) (by first | (simp; done) | (simp; omega) | omega) fun p30_1 cap30_1 cur30_1 hp30_1 hcp30_1 hlp30_1 htp30_1 => ?_
    show Ll _ _ (Own _ _ (_ :: _ :: _ :: _ :: hs)) _ _ ((30, sl_ p30_1 ((((((xs).take ((k18).toNat)) ++ ([(k : Int)])) ++ (xs.drop (k18).toNat)).length)) cap30_1) :: _) _ _ _
    refine Ll.nil (Lu.joint (pk [2, 3] rfl rfl) ?_)
    refine Lu.run 1 rfl (pk [2, 3] rfl rfl) ?_
    refine Lu.nil ?_
    refine Kt.sel [0, 1, 5, 6] [_, _, _, _] rfl ?_
    refine Wk.regionQ ?_
    refine Lq.run 1 rfl ?_
    refine Lq.op rfl rfl rfl (OpQ.add rfl rfl rfl (by omega) (by omega)) ?_
    refine Lq.run 1 rfl ?_
    refine Lq.nil ?_
    refine Kt.again ((k + 1, p30_1, cap30_1, cur30_1, (((xs).take ((k18).toNat)) ++ ([(k : Int)])) ++ (xs.drop (k18).toNat), p_18)) ⟨by omega, ⟨by simpa using hcp30_1, hlp30_1, by simpa using (by simpa using htp30_1)⟩, ⟨by (try dsimp only); simp; omega, shuf_all hxr⟩, by (try dsimp only); omega⟩ (by omega) (Sub.sel [0, 1, 5, 6] rfl) (fun _ h => h.sub (List.Sublist.cons _ (List.Sublist.cons_cons _ (List.Sublist.cons _ (List.Sublist.cons_cons _ (List.Sublist.refl _))))))
  ·
   refine Ll.slice (xs := [.tmp 24]) (vs := [i6_ ((k : Int))]) Base.elem24 rfl rfl rfl rfl rfl rfl (by decide) rfl fun p25_2 hp25_2 => ?_
   refine Ll.nil (Lu.joint (pk [1, 2] rfl rfl) ?_)
   refine Lu.loud rfl ?_
   refine Ll.slice (xs := []) (vs := []) Base.elem24 rfl rfl rfl rfl rfl rfl (by decide) rfl fun p19_1 hp19_1 => ?_
   refine Ll.nil (Lu.joint (pk [2, 3] rfl rfl) ?_)
   refine Lu.loud rfl ?_
   refine Ll.appendInts (xs := []) (ys := (xs).take ((k18).toNat)) Base.elem24 0 rfl rfl rfl rfl rfl rfl rfl rfl (by decide) rfl (fun w1 hw1 => (Own.rowTake hw1 (i := 2) rfl htg (by omega) hlg)) (((xs).take ((k18).toNat)).length) (by first | (simp; done) | (simp; omega)) (by first | (simp; done) | (simp; omega) | omega) fun p23_2 cap23_2 cur23_2 hp23_2 hcp23_2 hlp23_2 htp23_2 => ?_
   show Ll _ _ (Own _ _ (_ :: _ :: _ :: _ :: hs)) _ _ ((23, sl_ p23_2 ((((xs).take ((k18).toNat)).length)) cap23_2) :: _) _ _ _
   refine Ll.nil (Lu.joint (pk [2, 3] rfl rfl) ?_)
   refine Lu.loud rfl ?_
   refine Ll.appendInts (xs := (xs).take ((k18).toNat)) (ys := [(k : Int)]) Base.elem24 0 rfl rfl rfl rfl rfl rfl rfl hcp23_2 hlp23_2 (by simpa using htp23_2) (fun w1 hw1 => (Own.row hw1 (i := 1) rfl (n := 1) (cap := 1) (vs := ints [(k : Int)]) rfl rfl (by decide))) ((((xs).take ((k18).toNat)) ++ ([(k : Int)])).length) (by first | (simp; done) | (simp; omega)) (by first | (simp; done) | (simp; omega) | omega) fun p26_2 cap26_2 cur26_2 hp26_2 hcp26_2 hlp26_2 htp26_2 => ?_
   show Ll _ _ (Own _ _ (_ :: _ :: _ :: _ :: hs)) _ _ ((26, sl_ p26_2 (((((xs).take ((k18).toNat)) ++ ([(k : Int)])).length)) cap26_2) :: _) _ _ _
   refine Ll.nil (Lu.joint (pk [2, 3] rfl rfl) ?_)
   refine Lu.loud rfl ?_
   refine Ll.appendInts (xs := ((xs).take ((k18).toNat)) ++ ([(k : Int)])) (ys := xs.drop (k18).toNat) Base.elem24 0 rfl rfl rfl rfl rfl rfl rfl hcp26_2 hlp26_2 (by simpa using htp26_2) (fun w1 hw1 => (Own.rowDropE hw1 (i := 2) rfl htg (by omega) hlg)) (((((xs).take ((k18).toNat)) ++ ([(k : Int)])) ++ (xs.drop (k18).toNat)).length) (by first | (simp; done) | (simp; omega)) (by first | (simp; done) | (simp; omega) | omega) fun p30_2 cap30_2 cur30_2 hp30_2 hcp30_2 hlp30_2 htp30_2 => ?_
   show Ll _ _ (Own _ _ (_ :: _ :: _ :: _ :: hs)) _ _ ((30, sl_ p30_2 ((((((xs).take ((k18).toNat)) ++ ([(k : Int)])) ++ (xs.drop (k18).toNat)).length)) cap30_2) :: _) _ _ _
   refine Ll.nil (Lu.joint (pk [2, 3] rfl rfl) ?_)
   refine Lu.run 1 rfl (pk [2, 3] rfl rfl) ?_
   refine Lu.nil ?_
   refine Kt.sel [0, 1, 5, 6] [_, _, _, _] rfl ?_
   refine Wk.regionQ ?_
   refine Lq.run 1 rfl ?_
   refine Lq.op rfl rfl rfl (OpQ.add rfl rfl rfl (by omega) (by omega)) ?_
   refine Lq.run 1 rfl ?_
   refine Lq.nil ?_
   refine Kt.again ((k + 1, p30_2, cap30_2, cur30_2, (((xs).take ((k18).toNat)) ++ ([(k : Int)])) ++ (xs.drop (k18).toNat), p_18)) ⟨by omega, ⟨by simpa using hcp30_2, hlp30_2, by simpa using (by simpa using htp30_2)⟩, ⟨by (try dsimp only); simp; omega, shuf_all hxr⟩, by (try dsimp only); omega⟩ (by omega) (Sub.sel [0, 1, 5, 6] rfl) (fun _ h => h.sub (List.Sublist.cons_cons _ (List.Sublist.cons _ (List.Sublist.cons _ (List.Sublist.cons_cons _ (List.Sublist.refl _))))))
 ·
  replace h11 := of_decide_eq_false h11
  refine Wk.exit rfl ?_
  refine Kt.sel [5] [_] rfl ?_
  refine Wk.seq ?_
  refine Wk.regionQ ?_
  refine Lq.run 2 rfl ?_
  refine Lq.nil ?_
  refine Kt.sel [4] [_] rfl ?_
  refine Wk.ret (Kt.end1 rfl rfl fun w' hw => ?_)
  -- ret 0: sl_ g xs.length c
  exact ⟨g, c, u, xs, p0, rfl, ⟨⟨by simpa using hcg, hlg, by simpa using htg⟩, ⟨by omega, fun x hx => by have := hxr x hx; omega⟩, by omega⟩, hw.sub (List.Sublist.cons_cons _ (List.Sublist.cons_cons _ (List.Sublist.refl _)))⟩

set_option maxHeartbeats 400000 in
/-- spec.l1Part -/
theorem part_ok (a : St) (va : Value) (xs : List Int) (w : World) (ha : a.Fine) (hva : Ints w va xs) (hA : a.Els xs) (h8 : xs.length ≤ 8) :
    Calls Tryd.prog 114 [vS a, va].toArray w fun en w' => ∃ b : St, en = .returned (vS b) ∧ (b.n = xs.length ∧ (b.set.length : Int) = xs.length ∧ b.rel.length = xs.length * xs.length) ∧ Below w.heap.size w w' := by
 refine fnStart (n := 50) (e := [(0, vS a), (1, va)]) Tryd.func114 rfl rfl rfl rfl Ends.both ?_
 refine Wk.seq ?_
 refine Wk.region ?_
 refine Ll.box (v := vS a) rfl rfl rfl rfl rfl fun p2 hp2 => ?_
 show Ll _ _ (Own _ _ [_]) _ _ ((2, pt_ p2) :: _) _ _ _
 refine Ll.alloc rfl rfl rfl rfl Tryd.zeroValue28 fun p4 hp4 => ?_
 show Ll _ _ (Own _ _ [bk_ p4 #[i6_ 0, str ([]), str ([])] 28, _]) _ _ ((4, pt_ p4) :: _) _ _ _
 refine Ll.nil ?_
 refine Kt.sel [1, 2, 4] [_, _, _] rfl ?_
 refine Wk.seq ?_
 refine Wk.region ?_
 refine Ll.run 1 rfl ?_
 refine Ll.op (v := i6_ ((xs.length : Int))) rfl rfl rfl (OpQ.lenRow rfl Tryd.runUnderlying24 rfl (ints_length _) (fun w1 hw1 => Row.own hva hw1)) ?_
 refine Ll.op (v := .agg #[i6_ ((xs.length : Int)), str ([]), str ([])]) rfl rfl rfl (OpQ.build (xs := [.tmp 9]) (vs := [i6_ ((xs.length : Int))]) rfl rfl (by kernel_rfl)) ?_
 refine Ll.alloc rfl rfl rfl rfl Tryd.zeroValue28 fun p5 hp5 => ?_
 show Ll _ _ (Own _ _ [bk_ p5 #[i6_ 0, str ([]), str ([])] 28, _, _]) _ _ ((5, pt_ p5) :: _) _ _ _
 refine Ll.storeBox (cs' := #[i6_ ((xs.length : Int)), str ([]), str ([])]) (hs' := [bk_ p5 #[i6_ ((xs.length : Int)), str ([]), str ([])] 28, _, _]) 0 rfl rfl rfl rfl rfl (by kernel_rfl : _ = some Tryd.t28) rfl rfl rfl rfl rfl ?_
 refine Ll.nil ?_
 refine Kt.sel [1, 2, 4, 5] [_, _, _, _] rfl ?_
 refine Wk.seq ?_
 refine Wk.seq ?_
 refine Wk.regionQ ?_
 refine Lq.run 1 rfl ?_
 refine Lq.nil ?_
 refine Kt.sel [1, 2, 4, 5, 6] [_, _, _, _, _] rfl ?_
 refine Wk.block ?_
 refine Wk.loop (σ := Nat × List UInt8 × List UInt8) (fun ⟨k, S, R⟩ => k ≤ xs.length ∧ S.length = k ∧ R.length = k * xs.length) (fun ⟨k, S, R⟩ => [(1, va), (2, pt_ p2), (4, pt_ p4), (5, pt_ p5), (6, i6_ ((k : Int)))]) (fun ⟨k, S, R⟩ => Own w.heap.size w [bk_ p5 #[i6_ ((xs.length : Int)), str S, str R] 28, bk_ p4 #[i6_ 0, str ([]), str ([])] 28, bk_ p2 #[i6_ a.n, str a.set, str a.rel] 28]) (fun ⟨k, S, R⟩ => xs.length - k) ((0, [], [])) ⟨by omega, rfl, by simp⟩ (Sub.sel [1, 2, 4, 5, 6] rfl) (fun _ h => h) ?_
 rintro ⟨k, S, R⟩ ⟨hk, hS, hR⟩
 dsimp only
 have hkn : k * xs.length ≤ 8 * 8 := Nat.mul_le_mul (by omega) (by omega)
 refine Wk.seq ?_
 refine Wk.seq ?_
 refine Wk.regionQ ?_
 refine Lq.run 2 rfl ?_
 refine Lq.op (v := i6_ ((xs.length : Int))) rfl rfl rfl (OpQ.lenRow rfl Tryd.runUnderlying24 rfl (ints_length _) (fun w1 hw1 => Row.own hva hw1)) ?_
 refine Lq.run 1 rfl ?_
 refine Lq.nil ?_
 refine Kt.sel [1, 2, 4, 5, 6, 14] [_, _, _, _, _, _] rfl ?_
 refine Wk.cond (b := decide (((k : Int)) < ((xs.length : Int)))) rfl (fun h14 => ?_) (fun h14 => ?_)
 ·
  replace h14 := of_decide_eq_true h14
  refine Wk.skip ?_
  refine Kt.sel [1, 2, 4, 5, 6] [_, _, _, _, _] rfl ?_
  refine Wk.seq ?_
  refine Wk.block ?_
  refine Wk.seq ?_
  refine Wk.regionU (S := Own w.heap.size w [bk_ p4 #[i6_ 0, str ([]), str ([])] 28, bk_ p2 #[i6_ a.n, str a.set, str a.rel] 28]) (.take 0 (.take 2 (.take 3 (.take 4 (.take 5 (.take 6 (.two 1 (.one 7 (.one 8 (.take 9 (.take 10 (.one 11 .done))))) 7 (.two 1 (.one 8 (.take 9 (.take 10 (.one 11 .done)))) 8 (.one 1 (.take 9 (.take 10 (.one 11 .done)))))))))))) Base.mixed (fun _ h => h.drawn) (by kernel_rfl) ?_
  refine Lu.take rfl rfl rfl rfl rfl (OpQ.fieldAddr rfl Tryd.runUnderlying28 rfl Tryd.sizeOf9 rfl rfl) (fun _ h => h.tail) ?_
  refine Lu.take rfl rfl rfl rfl rfl (OpQ.loadBox (cs := #[i6_ a.n, str a.set, str a.rel]) 1 rfl Tryd.isAgg28 rfl rfl Tryd.sizeOf28) (fun _ h => h.tail) ?_
  refine Lu.run 2 rfl (fun _ h => h.tail) ?_
  refine Lu.take (v := .pointer (some (sAt va ((k : Int))))) rfl rfl rfl rfl rfl (OpQ.atRow rfl Tryd.runUnderlying24 Tryd.sizeOf3 rfl rfl (by omega) (by rw [ints_length]; omega) (fun w1 hw1 => Row.own hva hw1)) (fun _ h => h.tail) ?_
  refine Lu.take (v := i6_ (xs.getD (((k : Int)).toNat) 0)) rfl rfl rfl rfl rfl (OpQ.load1 rfl Tryd.isAgg3 rfl (fun w1 hw1 => Ints.cell (Row.own hva hw1) (by omega) (by omega))) (fun _ h => h.tail) ?_
  refine Lu.two rfl rfl ?_ ?_
  ·
   refine Ll.op rfl rfl rfl (OpQ.loadOwn 0 rfl Tryd.isAgg9 rfl rfl rfl) ?_
   refine Ll.nil (Lu.joint (fun _ h => h.tail) ?_)
   refine Lu.loud rfl ?_
   refine Ll.op (v := bo_ (a.inSet (xs.getD (((k : Int)).toNat) 0))) rfl rfl rfl (OpQ.call rfl Tryd.call148 rfl Own.stable (fun w1 hw1 => l1Set_ok a (xs.getD (((k : Int)).toNat) 0) w1 ha (by first | assumption | exact St.Els.at (by assumption) (by omega) (by omega)))) ?_
   refine Ll.nil (Lu.joint (fun _ h => h.tail) ?_)
   refine Lu.loud rfl ?_
   refine Ll.op (v := str ((if a.inSet (xs.getD (((k : Int)).toNat) 0) then [49] else [48]))) rfl rfl rfl (OpQ.call rfl Tryd.call147 rfl Own.stable (fun w1 hw1 => bitD_ok (a.inSet (xs.getD (((k : Int)).toNat) 0)) w1 )) ?_
   refine Ll.nil (Lu.joint (fun _ h => h.tail) ?_)
   refine Lu.take rfl rfl rfl rfl rfl (OpQ.sadd rfl rfl rfl (by first | (rw [bit_len]; omega) | omega)) (fun _ h => h.tail) ?_
   refine Lu.take rfl rfl rfl rfl rfl (OpQ.fieldAddr rfl Tryd.runUnderlying28 rfl Tryd.sizeOf9 rfl rfl) (fun _ h => h.tail) ?_
   refine Lu.loud rfl ?_
   refine Ll.store1 (v := str (S ++ ((if a.inSet (xs.getD (((k : Int)).toNat) 0) then [49] else [48])))) (hs' := [bk_ p5 #[i6_ ((xs.length : Int)), str (S ++ ((if a.inSet (xs.getD (((k : Int)).toNat) 0) then [49] else [48]))), str R] 28, _, _]) 0 rfl rfl rfl rfl rfl rfl Tryd.sizeOf9 rfl (by simp) rfl ?_
   refine Ll.nil (Lu.joint (fun _ h => h.tail) ?_)
   refine Lu.nil ?_
   refine Kt.sel [1, 2, 4, 5, 6] [_, _, _, _, _] rfl ?_
   refine Wk.seq ?_
   refine Wk.regionQ ?_
   refine Lq.run 1 rfl ?_
   refine Lq.nil ?_
   refine Kt.sel [1, 2, 4, 5, 6, 7] [_, _, _, _, _, _] rfl ?_
   refine Wk.block ?_
   refine Wk.loop (σ := Nat × List UInt8) (fun ⟨j, R1⟩ => j ≤ xs.length ∧ R1.length = k * xs.length + j) (fun ⟨j, R1⟩ => [(1, va), (2, pt_ p2), (4, pt_ p4), (5, pt_ p5), (6, i6_ ((k : Int))), (7, i6_ ((j : Int)))]) (fun ⟨j, R1⟩ => Own w.heap.size w [bk_ p5 #[i6_ ((xs.length : Int)), str (S ++ ((if a.inSet (xs.getD (((k : Int)).toNat) 0) then [49] else [48]))), str R1] 28, bk_ p4 #[i6_ 0, str ([]), str ([])] 28, bk_ p2 #[i6_ a.n, str a.set, str a.rel] 28]) (fun ⟨j, R1⟩ => xs.length - j) ((0, R)) ⟨by omega, by omega⟩ (Sub.sel [1, 2, 4, 5, 6, 7] rfl) (fun _ h => h) ?_
   rintro ⟨j, R1⟩ ⟨hj, hR1⟩
   dsimp only
   refine Wk.seq ?_
   refine Wk.seq ?_
   refine Wk.regionQ ?_
   refine Lq.run 2 rfl ?_
   refine Lq.op (v := i6_ ((xs.length : Int))) rfl rfl rfl (OpQ.lenRow rfl Tryd.runUnderlying24 rfl (ints_length _) (fun w1 hw1 => Row.own hva hw1)) ?_
   refine Lq.run 1 rfl ?_
   refine Lq.nil ?_
   refine Kt.sel [1, 2, 4, 5, 6, 7, 31] [_, _, _, _, _, _, _] rfl ?_
   refine Wk.cond (b := decide (((j : Int)) < ((xs.length : Int)))) rfl (fun h31 => ?_) (fun h31 => ?_)
   ·
    replace h31 := of_decide_eq_true h31
    refine Wk.skip ?_
    refine Kt.sel [1, 2, 4, 5, 6, 7] [_, _, _, _, _, _] rfl ?_
    refine Wk.seq ?_
    refine Wk.block ?_
    refine Wk.regionU (S := Own w.heap.size w [bk_ p4 #[i6_ 0, str ([]), str ([])] 28, bk_ p2 #[i6_ a.n, str a.set, str a.rel] 28]) (.take 0 (.take 2 (.take 3 (.take 4 (.take 5 (.take 6 (.take 7 (.take 8 (.take 9 (.take 10 (.two 1 (.one 11 (.one 12 (.take 13 (.take 14 (.one 15 .done))))) 11 (.two 1 (.one 12 (.take 13 (.take 14 (.one 15 .done)))) 12 (.one 1 (.take 13 (.take 14 (.one 15 .done)))))))))))))))) Base.mixed (fun _ h => h.drawn) (by kernel_rfl) ?_
    refine Lu.take rfl rfl rfl rfl rfl (OpQ.fieldAddr rfl Tryd.runUnderlying28 rfl Tryd.sizeOf9 rfl rfl) (fun _ h => h.tail) ?_
    refine Lu.take rfl rfl rfl rfl rfl (OpQ.loadBox (cs := #[i6_ a.n, str a.set, str a.rel]) 1 rfl Tryd.isAgg28 rfl rfl Tryd.sizeOf28) (fun _ h => h.tail) ?_
    refine Lu.run 2 rfl (fun _ h => h.tail) ?_
    refine Lu.take (v := .pointer (some (sAt va ((k : Int))))) rfl rfl rfl rfl rfl (OpQ.atRow rfl Tryd.runUnderlying24 Tryd.sizeOf3 rfl rfl (by omega) (by rw [ints_length]; omega) (fun w1 hw1 => Row.own hva hw1)) (fun _ h => h.tail) ?_
    refine Lu.take (v := i6_ (xs.getD (((k : Int)).toNat) 0)) rfl rfl rfl rfl rfl (OpQ.load1 rfl Tryd.isAgg3 rfl (fun w1 hw1 => Ints.cell (Row.own hva hw1) (by omega) (by omega))) (fun _ h => h.tail) ?_
    refine Lu.run 2 rfl (fun _ h => h.tail) ?_
    refine Lu.take (v := .pointer (some (sAt va ((j : Int))))) rfl rfl rfl rfl rfl (OpQ.atRow rfl Tryd.runUnderlying24 Tryd.sizeOf3 rfl rfl (by omega) (by rw [ints_length]; omega) (fun w1 hw1 => Row.own hva hw1)) (fun _ h => h.tail) ?_
    refine Lu.take (v := i6_ (xs.getD (((j : Int)).toNat) 0)) rfl rfl rfl rfl rfl (OpQ.load1 rfl Tryd.isAgg3 rfl (fun w1 hw1 => Ints.cell (Row.own hva hw1) (by omega) (by omega))) (fun _ h => h.tail) ?_
    refine Lu.two rfl rfl ?_ ?_
    ·
     refine Ll.op rfl rfl rfl (OpQ.loadOwn 0 rfl Tryd.isAgg9 rfl rfl rfl) ?_
     refine Ll.nil (Lu.joint (fun _ h => h.tail) ?_)
     refine Lu.loud rfl ?_
     refine Ll.op (v := bo_ (a.inRel (xs.getD (((k : Int)).toNat) 0) (xs.getD (((j : Int)).toNat) 0))) rfl rfl rfl (OpQ.call rfl Tryd.call149 rfl Own.stable (fun w1 hw1 => l1Rel_ok a (xs.getD (((k : Int)).toNat) 0) (xs.getD (((j : Int)).toNat) 0) w1 ha (by first | assumption | exact St.Els.at (by assumption) (by omega) (by omega)) (by first | assumption | exact St.Els.at (by assumption) (by omega) (by omega)))) ?_
     refine Ll.nil (Lu.joint (fun _ h => h.tail) ?_)
     refine Lu.loud rfl ?_
     refine Ll.op (v := str ((if a.inRel (xs.getD (((k : Int)).toNat) 0) (xs.getD (((j : Int)).toNat) 0) then [49] else [48]))) rfl rfl rfl (OpQ.call rfl Tryd.call147 rfl Own.stable (fun w1 hw1 => bitD_ok (a.inRel (xs.getD (((k : Int)).toNat) 0) (xs.getD (((j : Int)).toNat) 0)) w1 )) ?_
     refine Ll.nil (Lu.joint (fun _ h => h.tail) ?_)
     refine Lu.take rfl rfl rfl rfl rfl (OpQ.sadd rfl rfl rfl (by first | (rw [bit_len]; omega) | omega)) (fun _ h => h.tail) ?_
     refine Lu.take rfl rfl rfl rfl rfl (OpQ.fieldAddr rfl Tryd.runUnderlying28 rfl Tryd.sizeOf9 rfl rfl) (fun _ h => h.tail) ?_
     refine Lu.loud rfl ?_
     refine Ll.store1 (v := str (R1 ++ ((if a.inRel (xs.getD (((k : Int)).toNat) 0) (xs.getD (((j : Int)).toNat) 0) then [49] else [48])))) (hs' := [bk_ p5 #[i6_ ((xs.length : Int)), str (S ++ ((if a.inSet (xs.getD (((k : Int)).toNat) 0) then [49] else [48]))), str (R1 ++ ((if a.inRel (xs.getD (((k : Int)).toNat) 0) (xs.getD (((j : Int)).toNat) 0) then [49] else [48])))] 28, _, _]) 0 rfl rfl rfl rfl rfl rfl Tryd.sizeOf9 rfl (by simp) rfl ?_
     refine Ll.nil (Lu.joint (fun _ h => h.tail) ?_)
     refine Lu.nil ?_
     refine Kt.sel [1, 2, 4, 5, 6, 7] [_, _, _, _, _, _] rfl ?_
     refine Wk.regionQ ?_
     refine Lq.run 1 rfl ?_
     refine Lq.op rfl rfl rfl (OpQ.add rfl rfl rfl (by omega) (by omega)) ?_
     refine Lq.run 1 rfl ?_
     refine Lq.nil ?_
     refine Kt.again ((j + 1, R1 ++ ((if a.inRel (xs.getD (((k : Int)).toNat) 0) (xs.getD (((j : Int)).toNat) 0) then [49] else [48])))) ⟨by omega, by (try dsimp only); rw [List.length_append, bit_len]; omega⟩ (by omega) (Sub.sel [1, 2, 4, 5, 6, 7] rfl) (fun _ h => h)
    ·
     refine Ll.op (v := bo_ (a.inRel (xs.getD (((k : Int)).toNat) 0) (xs.getD (((j : Int)).toNat) 0))) rfl rfl rfl (OpQ.call rfl Tryd.call149 rfl Own.stable (fun w1 hw1 => l1Rel_ok a (xs.getD (((k : Int)).toNat) 0) (xs.getD (((j : Int)).toNat) 0) w1 ha (by first | assumption | exact St.Els.at (by assumption) (by omega) (by omega)) (by first | assumption | exact St.Els.at (by assumption) (by omega) (by omega)))) ?_
     refine Ll.nil (Lu.joint (fun _ h => h.tail) ?_)
     refine Lu.two rfl rfl ?_ ?_
     ·
      refine Ll.op rfl rfl rfl (OpQ.loadOwn 0 rfl Tryd.isAgg9 rfl rfl rfl) ?_
      refine Ll.nil (Lu.joint (fun _ h => h.tail) ?_)
      refine Lu.loud rfl ?_
      refine Ll.op (v := str ((if a.inRel (xs.getD (((k : Int)).toNat) 0) (xs.getD (((j : Int)).toNat) 0) then [49] else [48]))) rfl rfl rfl (OpQ.call rfl Tryd.call147 rfl Own.stable (fun w1 hw1 => bitD_ok (a.inRel (xs.getD (((k : Int)).toNat) 0) (xs.getD (((j : Int)).toNat) 0)) w1 )) ?_
      refine Ll.nil (Lu.joint (fun _ h => h.tail) ?_)
      refine Lu.take rfl rfl rfl rfl rfl (OpQ.sadd rfl rfl rfl (by first | (rw [bit_len]; omega) | omega)) (fun _ h => h.tail) ?_
      refine Lu.take rfl rfl rfl rfl rfl (OpQ.fieldAddr rfl Tryd.runUnderlying28 rfl Tryd.sizeOf9 rfl rfl) (fun _ h => h.tail) ?_
      refine Lu.loud rfl ?_
      refine Ll.store1 (v := str (R1 ++ ((if a.inRel (xs.getD (((k : Int)).toNat) 0) (xs.getD (((j : Int)).toNat) 0) then [49] else [48])))) (hs' := [bk_ p5 #[i6_ ((xs.length : Int)), str (S ++ ((if a.inSet (xs.getD (((k : Int)).toNat) 0) then [49] else [48]))), str (R1 ++ ((if a.inRel (xs.getD (((k : Int)).toNat) 0) (xs.getD (((j : Int)).toNat) 0) then [49] else [48])))] 28, _, _]) 0 rfl rfl rfl rfl rfl rfl Tryd.sizeOf9 rfl (by simp) rfl ?_
      refine Ll.nil (Lu.joint (fun _ h => h.tail) ?_)
      refine Lu.nil ?_
      refine Kt.sel [1, 2, 4, 5, 6, 7] [_, _, _, _, _, _] rfl ?_
      refine Wk.regionQ ?_
      refine Lq.run 1 rfl ?_
      refine Lq.op rfl rfl rfl (OpQ.add rfl rfl rfl (by omega) (by omega)) ?_
      refine Lq.run 1 rfl ?_
      refine Lq.nil ?_
      refine Kt.again ((j + 1, R1 ++ ((if a.inRel (xs.getD (((k : Int)).toNat) 0) (xs.getD (((j : Int)).toNat) 0) then [49] else [48])))) ⟨by omega, by (try dsimp only); rw [List.length_append, bit_len]; omega⟩ (by omega) (Sub.sel [1, 2, 4, 5, 6, 7] rfl) (fun _ h => h)
     ·
      refine Ll.op (v := str ((if a.inRel (xs.getD (((k : Int)).toNat) 0) (xs.getD (((j : Int)).toNat) 0) then [49] else [48]))) rfl rfl rfl (OpQ.call rfl Tryd.call147 rfl Own.stable (fun w1 hw1 => bitD_ok (a.inRel (xs.getD (((k : Int)).toNat) 0) (xs.getD (((j : Int)).toNat) 0)) w1 )) ?_
      refine Ll.nil (Lu.joint (fun _ h => h.tail) ?_)
      refine Lu.loud rfl ?_
      refine Ll.op rfl rfl rfl (OpQ.loadOwn 0 rfl Tryd.isAgg9 rfl rfl rfl) ?_
      refine Ll.nil (Lu.joint (fun _ h => h.tail) ?_)
      refine Lu.take rfl rfl rfl rfl rfl (OpQ.sadd rfl rfl rfl (by first | (rw [bit_len]; omega) | omega)) (fun _ h => h.tail) ?_
      refine Lu.take rfl rfl rfl rfl rfl (OpQ.fieldAddr rfl Tryd.runUnderlying28 rfl Tryd.sizeOf9 rfl rfl) (fun _ h => h.tail) ?_
      refine Lu.loud rfl ?_
      refine Ll.store1 (v := str (R1 ++ ((if a.inRel (xs.getD (((k : Int)).toNat) 0) (xs.getD (((j : Int)).toNat) 0) then [49] else [48])))) (hs' := [bk_ p5 #[i6_ ((xs.length : Int)), str (S ++ ((if a.inSet (xs.getD (((k : Int)).toNat) 0) then [49] else [48]))), str (R1 ++ ((if a.inRel (xs.getD (((k : Int)).toNat) 0) (xs.getD (((j : Int)).toNat) 0) then [49] else [48])))] 28, _, _]) 0 rfl rfl rfl rfl rfl rfl Tryd.sizeOf9 rfl (by simp) rfl ?_
      refine Ll.nil (Lu.joint (fun _ h => h.tail) ?_)
      refine Lu.nil ?_
      refine Kt.sel [1, 2, 4, 5, 6, 7] [_, _, _, _, _, _] rfl ?_
      refine Wk.regionQ ?_
      refine Lq.run 1 rfl ?_
      refine Lq.op rfl rfl rfl (OpQ.add rfl rfl rfl (by omega) (by omega)) ?_
      refine Lq.run 1 rfl ?_
      refine Lq.nil ?_
      refine Kt.again ((j + 1, R1 ++ ((if a.inRel (xs.getD (((k : Int)).toNat) 0) (xs.getD (((j : Int)).toNat) 0) then [49] else [48])))) ⟨by omega, by (try dsimp only); rw [List.length_append, bit_len]; omega⟩ (by omega) (Sub.sel [1, 2, 4, 5, 6, 7] rfl) (fun _ h => h)
   ·
    replace h31 := of_decide_eq_false h31
    refine Wk.exit rfl ?_
    refine Kt.sel [1, 2, 4, 5, 6] [_, _, _, _, _] rfl ?_
    refine Wk.regionQ ?_
    refine Lq.run 1 rfl ?_
    refine Lq.op rfl rfl rfl (OpQ.add rfl rfl rfl (by omega) (by omega)) ?_
    refine Lq.run 1 rfl ?_
    refine Lq.nil ?_
    refine Kt.again ((k + 1, S ++ ((if a.inSet (xs.getD (((k : Int)).toNat) 0) then [49] else [48])), R1)) ⟨by omega, by (try dsimp only); rw [List.length_append, bit_len]; omega, by (try dsimp only); rw [Nat.add_mul, Nat.one_mul]; omega⟩ (by omega) (Sub.sel [1, 2, 4, 5, 6] rfl) (fun _ h => h)
  ·
   refine Ll.op (v := bo_ (a.inSet (xs.getD (((k : Int)).toNat) 0))) rfl rfl rfl (OpQ.call rfl Tryd.call148 rfl Own.stable (fun w1 hw1 => l1Set_ok a (xs.getD (((k : Int)).toNat) 0) w1 ha (by first | assumption | exact St.Els.at (by assumption) (by omega) (by omega)))) ?_
   refine Ll.nil (Lu.joint (fun _ h => h.tail) ?_)
   refine Lu.two rfl rfl ?_ ?_
   ·
    refine Ll.op rfl rfl rfl (OpQ.loadOwn 0 rfl Tryd.isAgg9 rfl rfl rfl) ?_
    refine Ll.nil (Lu.joint (fun _ h => h.tail) ?_)
    refine Lu.loud rfl ?_
    refine Ll.op (v := str ((if a.inSet (xs.getD (((k : Int)).toNat) 0) then [49] else [48]))) rfl rfl rfl (OpQ.call rfl Tryd.call147 rfl Own.stable (fun w1 hw1 => bitD_ok (a.inSet (xs.getD (((k : Int)).toNat) 0)) w1 )) ?_
    refine Ll.nil (Lu.joint (fun _ h => h.tail) ?_)
    refine Lu.take rfl rfl rfl rfl rfl (OpQ.sadd rfl rfl rfl (by first | (rw [bit_len]; omega) | omega)) (fun _ h => h.tail) ?_
    refine Lu.take rfl rfl rfl rfl rfl (OpQ.fieldAddr rfl Tryd.runUnderlying28 rfl Tryd.sizeOf9 rfl rfl) (fun _ h => h.tail) ?_
    refine Lu.loud rfl ?_
    refine Ll.store1 (v := str (S ++ ((if a.inSet (xs.getD (((k : Int)).toNat) 0) then [49] else [48])))) (hs' := [bk_ p5 #[i6_ ((xs.length : Int)), str (S ++ ((if a.inSet (xs.getD (((k : Int)).toNat) 0) then [49] else [48]))), str R] 28, _, _]) 0 rfl rfl rfl rfl rfl rfl Tryd.sizeOf9 rfl (by simp) rfl ?_
    refine Ll.nil (Lu.joint (fun _ h => h.tail) ?_)
    refine Lu.nil ?_
    refine Kt.sel [1, 2, 4, 5, 6] [_, _, _, _, _] rfl ?_
    refine Wk.seq ?_
    refine Wk.regionQ ?_
    refine Lq.run 1 rfl ?_
    refine Lq.nil ?_
    refine Kt.sel [1, 2, 4, 5, 6, 7] [_, _, _, _, _, _] rfl ?_
    refine Wk.block ?_
    refine Wk.loop (σ := Nat × List UInt8) (fun ⟨j, R1⟩ => j ≤ xs.length ∧ R1.length = k * xs.length + j) (fun ⟨j, R1⟩ => [(1, va), (2, pt_ p2), (4, pt_ p4), (5, pt_ p5), (6, i6_ ((k : Int))), (7, i6_ ((j : Int)))]) (fun ⟨j, R1⟩ => Own w.heap.size w [bk_ p5 #[i6_ ((xs.length : Int)), str (S ++ ((if a.inSet (xs.getD (((k : Int)).toNat) 0) then [49] else [48]))), str R1] 28, bk_ p4 #[i6_ 0, str ([]), str ([])] 28, bk_ p2 #[i6_ a.n, str a.set, str a.rel] 28]) (fun ⟨j, R1⟩ => xs.length - j) ((0, R)) ⟨by omega, by omega⟩ (Sub.sel [1, 2, 4, 5, 6, 7] rfl) (fun _ h => h) ?_
    rintro ⟨j, R1⟩ ⟨hj, hR1⟩
    dsimp only
    refine Wk.seq ?_
    refine Wk.seq ?_
    refine Wk.regionQ ?_
    refine Lq.run 2 rfl ?_
    refine Lq.op (v := i6_ ((xs.length : Int))) rfl rfl rfl (OpQ.lenRow rfl Tryd.runUnderlying24 rfl (ints_length _) (fun w1 hw1 => Row.own hva hw1)) ?_
    refine Lq.run 1 rfl ?_
    refine Lq.nil ?_
    refine Kt.sel [1, 2, 4, 5, 6, 7, 31] [_, _, _, _, _, _, _] rfl ?_
    refine Wk.cond (b := decide (((j : Int)) < ((xs.length : Int)))) rfl (fun h31_1 => ?_) (fun h31_1 => ?_)
    ·
     replace h31_1 := of_decide_eq_true h31_1
     refine Wk.skip ?_
     refine Kt.sel [1, 2, 4, 5, 6, 7] [_, _, _, _, _, _] rfl ?_
     refine Wk.seq ?_
     refine Wk.block ?_
     refine Wk.regionU (S := Own w.heap.size w [bk_ p4 #[i6_ 0, str ([]), str ([])] 28, bk_ p2 #[i6_ a.n, str a.set, str a.rel] 28]) (.take 0 (.take 2 (.take 3 (.take 4 (.take 5 (.take 6 (.take 7 (.take 8 (.take 9 (.take 10 (.two 1 (.one 11 (.one 12 (.take 13 (.take 14 (.one 15 .done))))) 11 (.two 1 (.one 12 (.take 13 (.take 14 (.one 15 .done)))) 12 (.one 1 (.take 13 (.take 14 (.one 15 .done)))))))))))))))) Base.mixed (fun _ h => h.drawn) (by kernel_rfl) ?_
     refine Lu.take rfl rfl rfl rfl rfl (OpQ.fieldAddr rfl Tryd.runUnderlying28 rfl Tryd.sizeOf9 rfl rfl) (fun _ h => h.tail) ?_
     refine Lu.take rfl rfl rfl rfl rfl (OpQ.loadBox (cs := #[i6_ a.n, str a.set, str a.rel]) 1 rfl Tryd.isAgg28 rfl rfl Tryd.sizeOf28) (fun _ h => h.tail) ?_
     refine Lu.run 2 rfl (fun _ h => h.tail) ?_
     refine Lu.take (v := .pointer (some (sAt va ((k : Int))))) rfl rfl rfl rfl rfl (OpQ.atRow rfl Tryd.runUnderlying24 Tryd.sizeOf3 rfl rfl (by omega) (by rw [ints_length]; omega) (fun w1 hw1 => Row.own hva hw1)) (fun _ h => h.tail) ?_
     refine Lu.take (v := i6_ (xs.getD (((k : Int)).toNat) 0)) rfl rfl rfl rfl rfl (OpQ.load1 rfl Tryd.isAgg3 rfl (fun w1 hw1 => Ints.cell (Row.own hva hw1) (by omega) (by omega))) (fun _ h => h.tail) ?_
     refine Lu.run 2 rfl (fun _ h => h.tail) ?_
     refine Lu.take (v := .pointer (some (sAt va ((j : Int))))) rfl rfl rfl rfl rfl (OpQ.atRow rfl Tryd.runUnderlying24 Tryd.sizeOf3 rfl rfl (by omega) (by rw [ints_length]; omega) (fun w1 hw1 => Row.own hva hw1)) (fun _ h => h.tail) ?_
     refine Lu.take (v := i6_ (xs.getD (((j : Int)).toNat) 0)) rfl rfl rfl rfl rfl (OpQ.load1 rfl Tryd.isAgg3 rfl (fun w1 hw1 => Ints.cell (Row.own hva hw1) (by omega) (by omega))) (fun _ h => h.tail) ?_
     refine Lu.two rfl rfl ?_ ?_
     ·
      refine Ll.op rfl rfl rfl (OpQ.loadOwn 0 rfl Tryd.isAgg9 rfl rfl rfl) ?_
      refine Ll.nil (Lu.joint (fun _ h => h.tail) ?_)
      refine Lu.loud rfl ?_
      refine Ll.op (v := bo_ (a.inRel (xs.getD (((k : Int)).toNat) 0) (xs.getD (((j : Int)).toNat) 0))) rfl rfl rfl (OpQ.call rfl Tryd.call149 rfl Own.stable (fun w1 hw1 => l1Rel_ok a (xs.getD (((k : Int)).toNat) 0) (xs.getD (((j : Int)).toNat) 0) w1 ha (by first | assumption | exact St.Els.at (by assumption) (by omega) (by omega)) (by first | assumption | exact St.Els.at (by assumption) (by omega) (by omega)))) ?_
      refine Ll.nil (Lu.joint (fun _ h => h.tail) ?_)
      refine Lu.loud rfl ?_
      refine Ll.op (v := str ((if a.inRel (xs.getD (((k : Int)).toNat) 0) (xs.getD (((j : Int)).toNat) 0) then [49] else [48]))) rfl rfl rfl (OpQ.call rfl Tryd.call147 rfl Own.stable (fun w1 hw1 => bitD_ok (a.inRel (xs.getD (((k : Int)).toNat) 0) (xs.getD (((j : Int)).toNat) 0)) w1 )) ?_
      refine Ll.nil (Lu.joint (fun _ h => h.tail) ?_)
      refine Lu.take rfl rfl rfl rfl rfl (OpQ.sadd rfl rfl rfl (by first | (rw [bit_len]; omega) | omega)) (fun _ h => h.tail) ?_
      refine Lu.take rfl rfl rfl rfl rfl (OpQ.fieldAddr rfl Tryd.runUnderlying28 rfl Tryd.sizeOf9 rfl rfl) (fun _ h => h.tail) ?_
      refine Lu.loud rfl ?_
      refine Ll.store1 (v := str (R1 ++ ((if a.inRel (xs.getD (((k : Int)).toNat) 0) (xs.getD (((j : Int)).toNat) 0) then [49] else [48])))) (hs' := [bk_ p5 #[i6_ ((xs.length : Int)), str (S ++ ((if a.inSet (xs.getD (((k : Int)).toNat) 0) then [49] else [48]))), str (R1 ++ ((if a.inRel (xs.getD (((k : Int)).toNat) 0) (xs.getD (((j : Int)).toNat) 0) then [49] else [48])))] 28, _, _]) 0 rfl rfl rfl rfl rfl rfl Tryd.sizeOf9 rfl (by simp) rfl ?_
      refine Ll.nil (Lu.joint (fun _ h => h.tail) ?_)
      refine Lu.nil ?_
      refine Kt.sel [1, 2, 4, 5, 6, 7] [_, _, _, _, _, _] rfl ?_
      refine Wk.regionQ ?_
      refine Lq.run 1 rfl ?_
      refine Lq.op rfl rfl rfl (OpQ.add rfl rfl rfl (by omega) (by omega)) ?_
      refine Lq.run 1 rfl ?_
      refine Lq.nil ?_
      refine Kt.again ((j + 1, R1 ++ ((if a.inRel (xs.getD (((k : Int)).toNat) 0) (xs.getD (((j : Int)).toNat) 0) then [49] else [48])))) ⟨by omega, by (try dsimp only); rw [List.length_append, bit_len]; omega⟩ (by omega) (Sub.sel [1, 2, 4, 5, 6, 7] rfl) (fun _ h => h)
     ·
      refine Ll.op (v := bo_ (a.inRel (xs.getD (((k : Int)).toNat) 0) (xs.getD (((j : Int)).toNat) 0))) rfl rfl rfl (OpQ.call rfl Tryd.call149 rfl Own.stable (fun w1 hw1 => l1Rel_ok a (xs.getD (((k : Int)).toNat) 0) (xs.getD (((j : Int)).toNat) 0) w1 ha (by first | assumption | exact St.Els.at (by assumption) (by omega) (by omega)) (by first | assumption | exact St.Els.at (by assumption) (by omega) (by omega)))) ?_
      refine Ll.nil (Lu.joint (fun _ h => h.tail) ?_)
      refine Lu.two rfl rfl ?_ ?_
      ·
       refine Ll.op rfl rfl rfl (OpQ.loadOwn 0 rfl Tryd.isAgg9 rfl rfl rfl) ?_
       refine Ll.nil (Lu.joint (fun _ h => h.tail) ?_)
       refine Lu.loud rfl ?_
       refine Ll.op (v := str ((if a.inRel (xs.getD (((k : Int)).toNat) 0) (xs.getD (((j : Int)).toNat) 0) then [49] else [48]))) rfl rfl rfl (OpQ.call rfl Tryd.call147 rfl Own.stable (fun w1 hw1 => bitD_ok (a.inRel (xs.getD (((k : Int)).toNat) 0) (xs.getD (((j : Int)).toNat) 0)) w1 )) ?_
       refine Ll.nil (Lu.joint (fun _ h => h.tail) ?_)
       refine Lu.take rfl rfl rfl rfl rfl (OpQ.sadd rfl rfl rfl (by first | (rw [bit_len]; omega) | omega)) (fun _ h => h.tail) ?_
       refine Lu.take rfl rfl rfl rfl rfl (OpQ.fieldAddr rfl Tryd.runUnderlying28 rfl Tryd.sizeOf9 rfl rfl) (fun _ h => h.tail) ?_
       refine Lu.loud rfl ?_
       refine Ll.store1 (v := str (R1 ++ ((if a.inRel (xs.getD (((k : Int)).toNat) 0) (xs.getD (((j : Int)).toNat) 0) then [49] else [48])))) (hs' := [bk_ p5 #[i6_ ((xs.length : Int)), str (S ++ ((if a.inSet (xs.getD (((k : Int)).toNat) 0) then [49] else [48]))), str (R1 ++ ((if a.inRel (xs.getD (((k : Int)).toNat) 0) (xs.getD (((j : Int)).toNat) 0) then [49] else [48])))] 28, _, _]) 0 rfl rfl rfl rfl rfl rfl Tryd.sizeOf9 rfl (by simp) rfl ?_
       refine Ll.nil (Lu.joint (fun _ h => h.tail) ?_)
       refine Lu.nil ?_
       refine Kt.sel [1, 2, 4, 5, 6, 7] [_, _, _, _, _, _] rfl ?_
       refine Wk.regionQ ?_
       refine Lq.run 1 rfl ?_
       refine Lq.op rfl rfl rfl (OpQ.add rfl rfl rfl (by omega) (by omega)) ?_
       refine Lq.run 1 rfl ?_
       refine Lq.nil ?_
       refine Kt.again ((j + 1, R1 ++ ((if a.inRel (xs.getD (((k : Int)).toNat) 0) (xs.getD (((j : Int)).toNat) 0) then [49] else [48])))) ⟨by omega, by (try dsimp only); rw [List.length_append, bit_len]; omega⟩ (by omega) (Sub.sel [1, 2, 4, 5, 6, 7] rfl) (fun _ h => h)
      ·
       refine Ll.op (v := str ((if a.inRel (xs.getD (((k : Int)).toNat) 0) (xs.getD (((j : Int)).toNat) 0) then [49] else [48]))) rfl rfl rfl (OpQ.call rfl Tryd.call147 rfl Own.stable (fun w1 hw1 => bitD_ok (a.inRel (xs.getD (((k : Int)).toNat) 0) (xs.getD (((j : Int)).toNat) 0)) w1 )) ?_
       refine Ll.nil (Lu.joint (fun _ h => h.tail) ?_)
       refine Lu.loud rfl ?_
       refine Ll.op rfl rfl rfl (OpQ.loadOwn 0 rfl Tryd.isAgg9 rfl rfl rfl) ?_
       refine Ll.nil (Lu.joint (fun _ h => h.tail) ?_)
       refine Lu.take rfl rfl rfl rfl rfl (OpQ.sadd rfl rfl rfl (by first | (rw [bit_len]; omega) | omega)) (fun _ h => h.tail) ?_
       refine Lu.take rfl rfl rfl rfl rfl (OpQ.fieldAddr rfl Tryd.runUnderlying28 rfl Tryd.sizeOf9 rfl rfl) (fun _ h => h.tail) ?_
       refine Lu.loud rfl ?_
       refine Ll.store1 (v := str (R1 ++ ((if a.inRel (xs.getD (((k : Int)).toNat) 0) (xs.getD (((j : Int)).toNat) 0) then [49] else [48])))) (hs' := [bk_ p5 #[i6_ ((xs.length : Int)), str (S ++ ((if a.inSet (xs.getD (((k : Int)).toNat) 0) then [49] else [48]))), str (R1 ++ ((if a.inRel (xs.getD (((k : Int)).toNat) 0) (xs.getD (((j : Int)).toNat) 0) then [49] else [48])))] 28, _, _]) 0 rfl rfl rfl rfl rfl rfl Tryd.sizeOf9 rfl (by simp) rfl ?_
       refine Ll.nil (Lu.joint (fun _ h => h.tail) ?_)
       refine Lu.nil ?_
       refine Kt.sel [1, 2, 4, 5, 6, 7] [_, _, _, _, _, _] rfl ?_
       refine Wk.regionQ ?_
       refine Lq.run 1 rfl ?_
       refine Lq.op rfl rfl rfl (OpQ.add rfl rfl rfl (by omega) (by omega)) ?_
       refine Lq.run 1 rfl ?_
       refine Lq.nil ?_
       refine Kt.again ((j + 1, R1 ++ ((if a.inRel (xs.getD (((k : Int)).toNat) 0) (xs.getD (((j : Int)).toNat) 0) then [49] else [48])))) ⟨by omega, by (try dsimp only); rw [List.length_append, bit_len]; omega⟩ (by omega) (Sub.sel [1, 2, 4, 5, 6, 7] rfl) (fun _ h => h)
    ·
     replace h31_1 := of_decide_eq_false h31_1
     refine Wk.exit rfl ?_
     refine Kt.sel [1, 2, 4, 5, 6] [_, _, _, _, _] rfl ?_
     refine Wk.regionQ ?_
     refine Lq.run 1 rfl ?_
     refine Lq.op rfl rfl rfl (OpQ.add rfl rfl rfl (by omega) (by omega)) ?_
     refine Lq.run 1 rfl ?_
     refine Lq.nil ?_
     refine Kt.again ((k + 1, S ++ ((if a.inSet (xs.getD (((k : Int)).toNat) 0) then [49] else [48])), R1)) ⟨by omega, by (try dsimp only); rw [List.length_append, bit_len]; omega, by (try dsimp only); rw [Nat.add_mul, Nat.one_mul]; omega⟩ (by omega) (Sub.sel [1, 2, 4, 5, 6] rfl) (fun _ h => h)
   ·
    refine Ll.op (v := str ((if a.inSet (xs.getD (((k : Int)).toNat) 0) then [49] else [48]))) rfl rfl rfl (OpQ.call rfl Tryd.call147 rfl Own.stable (fun w1 hw1 => bitD_ok (a.inSet (xs.getD (((k : Int)).toNat) 0)) w1 )) ?_
    refine Ll.nil (Lu.joint (fun _ h => h.tail) ?_)
    refine Lu.loud rfl ?_
    refine Ll.op rfl rfl rfl (OpQ.loadOwn 0 rfl Tryd.isAgg9 rfl rfl rfl) ?_
    refine Ll.nil (Lu.joint (fun _ h => h.tail) ?_)
    refine Lu.take rfl rfl rfl rfl rfl (OpQ.sadd rfl rfl rfl (by first | (rw [bit_len]; omega) | omega)) (fun _ h => h.tail) ?_
    refine Lu.take rfl rfl rfl rfl rfl (OpQ.fieldAddr rfl Tryd.runUnderlying28 rfl Tryd.sizeOf9 rfl rfl) (fun _ h => h.tail) ?_
    refine Lu.loud rfl ?_
    refine Ll.store1 (v := str (S ++ ((if a.inSet (xs.getD (((k : Int)).toNat) 0) then [49] else [48])))) (hs' := [bk_ p5 #[i6_ ((xs.length : Int)), str (S ++ ((if a.inSet (xs.getD (((k : Int)).toNat) 0) then [49] else [48]))), str R] 28, _, _]) 0 rfl rfl rfl rfl rfl rfl Tryd.sizeOf9 rfl (by simp) rfl ?_
    refine Ll.nil (Lu.joint (fun _ h => h.tail) ?_)
    refine Lu.nil ?_
    refine Kt.sel [1, 2, 4, 5, 6] [_, _, _, _, _] rfl ?_
    refine Wk.seq ?_
    refine Wk.regionQ ?_
    refine Lq.run 1 rfl ?_
    refine Lq.nil ?_
    refine Kt.sel [1, 2, 4, 5, 6, 7] [_, _, _, _, _, _] rfl ?_
    refine Wk.block ?_
    refine Wk.loop (σ := Nat × List UInt8) (fun ⟨j, R1⟩ => j ≤ xs.length ∧ R1.length = k * xs.length + j) (fun ⟨j, R1⟩ => [(1, va), (2, pt_ p2), (4, pt_ p4), (5, pt_ p5), (6, i6_ ((k : Int))), (7, i6_ ((j : Int)))]) (fun ⟨j, R1⟩ => Own w.heap.size w [bk_ p5 #[i6_ ((xs.length : Int)), str (S ++ ((if a.inSet (xs.getD (((k : Int)).toNat) 0) then [49] else [48]))), str R1] 28, bk_ p4 #[i6_ 0, str ([]), str ([])] 28, bk_ p2 #[i6_ a.n, str a.set, str a.rel] 28]) (fun ⟨j, R1⟩ => xs.length - j) ((0, R)) ⟨by omega, by omega⟩ (Sub.sel [1, 2, 4, 5, 6, 7] rfl) (fun _ h => h) ?_
    rintro ⟨j, R1⟩ ⟨hj, hR1⟩
    dsimp only
    refine Wk.seq ?_
    refine Wk.seq ?_
    refine Wk.regionQ ?_
    refine Lq.run 2 rfl ?_
    refine Lq.op (v := i6_ ((xs.length : Int))) rfl rfl rfl (OpQ.lenRow rfl Tryd.runUnderlying24 rfl (ints_length _) (fun w1 hw1 => Row.own hva hw1)) ?_
    refine Lq.run 1 rfl ?_
    refine Lq.nil ?_
    refine Kt.sel [1, 2, 4, 5, 6, 7, 31] [_, _, _, _, _, _, _] rfl ?_
    refine Wk.cond (b := decide (((j : Int)) < ((xs.length : Int)))) rfl (fun h31_2 => ?_) (fun h31_2 => ?_)
    ·
     replace h31_2 := of_decide_eq_true h31_2
     refine Wk.skip ?_
     refine Kt.sel [1, 2, 4, 5, 6, 7] [_, _, _, _, _, _] rfl ?_
     refine Wk.seq ?_
     refine Wk.block ?_
     refine Wk.regionU (S := Own w.heap.size w [bk_ p4 #[i6_ 0, str ([]), str ([])] 28, bk_ p2 #[i6_ a.n, str a.set, str a.rel] 28]) (.take 0 (.take 2 (.take 3 (.take 4 (.take 5 (.take 6 (.take 7 (.take 8 (.take 9 (.take 10 (.two 1 (.one 11 (.one 12 (.take 13 (.take 14 (.one 15 .done))))) 11 (.two 1 (.one 12 (.take 13 (.take 14 (.one 15 .done)))) 12 (.one 1 (.take 13 (.take 14 (.one 15 .done)))))))))))))))) Base.mixed (fun _ h => h.drawn) (by kernel_rfl) ?_
     refine Lu.take rfl rfl rfl rfl rfl (OpQ.fieldAddr rfl Tryd.runUnderlying28 rfl Tryd.sizeOf9 rfl rfl) (fun _ h => h.tail) ?_
     refine Lu.take rfl rfl rfl rfl rfl (OpQ.loadBox (cs := #[i6_ a.n, str a.set, str a.rel]) 1 rfl Tryd.isAgg28 rfl rfl Tryd.sizeOf28) (fun _ h => h.tail) ?_
     refine Lu.run 2 rfl (fun _ h => h.tail) ?_
     refine Lu.take (v := .pointer (some (sAt va ((k : Int))))) rfl rfl rfl rfl rfl (OpQ.atRow rfl Tryd.runUnderlying24 Tryd.sizeOf3 rfl rfl (by omega) (by rw [ints_length]; omega) (fun w1 hw1 => Row.own hva hw1)) (fun _ h => h.tail) ?_
     refine Lu.take (v := i6_ (xs.getD (((k : Int)).toNat) 0)) rfl rfl rfl rfl rfl (OpQ.load1 rfl Tryd.isAgg3 rfl (fun w1 hw1 => Ints.cell (Row.own hva hw1) (by omega) (by omega))) (fun _ h => h.tail) ?_
     refine Lu.run 2 rfl (fun _ h => h.tail) ?_
     refine Lu.take (v := .pointer (some (sAt va ((j : Int))))) rfl rfl rfl rfl rfl (OpQ.atRow rfl Tryd.runUnderlying24 Tryd.sizeOf3 rfl rfl (by omega) (by rw [ints_length]; omega) (fun w1 hw1 => Row.own hva hw1)) (fun _ h => h.tail) ?_
     refine Lu.take (v := i6_ (xs.getD (((j : Int)).toNat) 0)) rfl rfl rfl rfl rfl (OpQ.load1 rfl Tryd.isAgg3 rfl (fun w1 hw1 => Ints.cell (Row.own hva hw1) (by omega) (by omega))) (fun _ h => h.tail) ?_
     refine Lu.two rfl rfl ?_ ?_
     ·
      refine Ll.op rfl rfl rfl (OpQ.loadOwn 0 rfl Tryd.isAgg9 rfl rfl rfl) ?_
      refine Ll.nil (Lu.joint (fun _ h => h.tail) ?_)
      refine Lu.loud rfl ?_
      refine Ll.op (v := bo_ (a.inRel (xs.getD (((k : Int)).toNat) 0) (xs.getD (((j : Int)).toNat) 0))) rfl rfl rfl (OpQ.call rfl Tryd.call149 rfl Own.stable (fun w1 hw1 => l1Rel_ok a (xs.getD (((k : Int)).toNat) 0) (xs.getD (((j : Int)).toNat) 0) w1 ha (by first | assumption | exact St.Els.at (by assumption) (by omega) (by omega)) (by first | assumption | exact St.Els.at (by assumption) (by omega) (by omega)))) ?_
      refine Ll.nil (Lu.joint (fun _ h => h.tail) ?_)
      refine Lu.loud rfl ?_
      refine Ll.op (v := str ((if a.inRel (xs.getD (((k : Int)).toNat) 0) (xs.getD (((j : Int)).toNat) 0) then [49] else [48]))) rfl rfl rfl (OpQ.call rfl Tryd.call147 rfl Own.stable (fun w1 hw1 => bitD_ok (a.inRel (xs.getD (((k : Int)).toNat) 0) (xs.getD (((j : Int)).toNat) 0)) w1 )) ?_
      refine Ll.nil (Lu.joint (fun _ h => h.tail) ?_)
      refine Lu.take rfl rfl rfl rfl rfl (OpQ.sadd rfl rfl rfl (by first | (rw [bit_len]; omega) | omega)) (fun _ h => h.tail) ?_
      refine Lu.take rfl rfl rfl rfl rfl (OpQ.fieldAddr rfl Tryd.runUnderlying28 rfl Tryd.sizeOf9 rfl rfl) (fun _ h => h.tail) ?_
      refine Lu.loud rfl ?_
      refine Ll.store1 (v := str (R1 ++ ((if a.inRel (xs.getD (((k : Int)).toNat) 0) (xs.getD (((j : Int)).toNat) 0) then [49] else [48])))) (hs' := [bk_ p5 #[i6_ ((xs.length : Int)), str (S ++ ((if a.inSet (xs.getD (((k : Int)).toNat) 0) then [49] else [48]))), str (R1 ++ ((if a.inRel (xs.getD (((k : Int)).toNat) 0) (xs.getD (((j : Int)).toNat) 0) then [49] else [48])))] 28, _, _]) 0 rfl rfl rfl rfl rfl rfl Tryd.sizeOf9 rfl (by simp) rfl ?_
      refine Ll.nil (Lu.joint (fun _ h => h.tail) ?_)
      refine Lu.nil ?_
      refine Kt.sel [1, 2, 4, 5, 6, 7] [_, _, _, _, _, _] rfl ?_
      refine Wk.regionQ ?_
      refine Lq.run 1 rfl ?_
      refine Lq.op rfl rfl rfl (OpQ.add rfl rfl rfl (by omega) (by omega)) ?_
      refine Lq.run 1 rfl ?_
      refine Lq.nil ?_
      refine Kt.again ((j + 1, R1 ++ ((if a.inRel (xs.getD (((k : Int)).toNat) 0) (xs.getD (((j : Int)).toNat) 0) then [49] else [48])))) ⟨by omega, by (try dsimp only); rw [List.length_append, bit_len]; omega⟩ (by omega) (Sub.sel [1, 2, 4, 5, 6, 7] rfl) (fun _ h => h)
     ·
      refine Ll.op (v := bo_ (a.inRel (xs.getD (((k : Int)).toNat) 0) (xs.getD (((j : Int)).toNat) 0))) rfl rfl rfl (OpQ.call rfl Tryd.call149 rfl Own.stable (fun w1 hw1 => l1Rel_ok a (xs.getD (((k : Int)).toNat) 0) (xs.getD (((j : Int)).toNat) 0) w1 ha (by first | assumption | exact St.Els.at (by assumption) (by omega) (by omega)) (by first | assumption | exact St.Els.at (by assumption) (by omega) (by omega)))) ?_
      refine Ll.nil (Lu.joint (fun _ h => h.tail) ?_)
      refine Lu.two rfl rfl ?_ ?_
      ·
       refine Ll.op rfl rfl rfl (OpQ.loadOwn 0 rfl Tryd.isAgg9 rfl rfl rfl) ?_
       refine Ll.nil (Lu.joint (fun _ h => h.tail) ?_)
       refine Lu.loud rfl ?_
       refine Ll.op (v := str ((if a.inRel (xs.getD (((k : Int)).toNat) 0) (xs.getD (((j : Int)).toNat) 0) then [49] else [48]))) rfl rfl rfl (OpQ.call rfl Tryd.call147 rfl Own.stable (fun w1 hw1 => bitD_ok (a.inRel (xs.getD (((k : Int)).toNat) 0) (xs.getD (((j : Int)).toNat) 0)) w1 )) ?_
       refine Ll.nil (Lu.joint (fun _ h => h.tail) ?_)
       refine Lu.take rfl rfl rfl rfl rfl (OpQ.sadd rfl rfl rfl (by first | (rw [bit_len]; omega) | omega)) (fun _ h => h.tail) ?_
       refine Lu.take rfl rfl rfl rfl rfl (OpQ.fieldAddr rfl Tryd.runUnderlying28 rfl Tryd.sizeOf9 rfl rfl) (fun _ h => h.tail) ?_
       refine Lu.loud rfl ?_
       refine Ll.store1 (v := str (R1 ++ ((if a.inRel (xs.getD (((k : Int)).toNat) 0) (xs.getD (((j : Int)).toNat) 0) then [49] else [48])))) (hs' := [bk_ p5 #[i6_ ((xs.length : Int)), str (S ++ ((if a.inSet (xs.getD (((k : Int)).toNat) 0) then [49] else [48]))), str (R1 ++ ((if a.inRel (xs.getD (((k : Int)).toNat) 0) (xs.getD (((j : Int)).toNat) 0) then [49] else [48])))] 28, _, _]) 0 rfl rfl rfl rfl rfl rfl Tryd.sizeOf9 rfl (by simp) rfl ?_
       refine Ll.nil (Lu.joint (fun _ h => h.tail) ?_)
       refine Lu.nil ?_
       refine Kt.sel [1, 2, 4, 5, 6, 7] [_, _, _, _, _, _] rfl ?_
       refine Wk.regionQ ?_
       refine Lq.run 1 rfl ?_
       refine Lq.op rfl rfl rfl (OpQ.add rfl rfl rfl (by omega) (by omega)) ?_
       refine Lq.run 1 rfl ?_
       refine Lq.nil ?_
       refine Kt.again ((j + 1, R1 ++ ((if a.inRel (xs.getD (((k : Int)).toNat) 0) (xs.getD (((j : Int)).toNat) 0) then [49] else [48])))) ⟨by omega, by (try dsimp only); rw [List.length_append, bit_len]; omega⟩ (by omega) (Sub.sel [1, 2, 4, 5, 6, 7] rfl) (fun _ h => h)
      ·
       refine Ll.op (v := str ((if a.inRel (xs.getD (((k : Int)).toNat) 0) (xs.getD (((j : Int)).toNat) 0) then [49] else [48]))) rfl rfl rfl (OpQ.call rfl Tryd.call147 rfl Own.stable (fun w1 hw1 => bitD_ok (a.inRel (xs.getD (((k : Int)).toNat) 0) (xs.getD (((j : Int)).toNat) 0)) w1 )) ?_
       refine Ll.nil (Lu.joint (fun _ h => h.tail) ?_)
       refine Lu.loud rfl ?_
       refine Ll.op rfl rfl rfl (OpQ.loadOwn 0 rfl Tryd.isAgg9 rfl rfl rfl) ?_
       refine Ll.nil (Lu.joint (fun _ h => h.tail) ?_)
       refine Lu.take rfl rfl rfl rfl rfl (OpQ.sadd rfl rfl rfl (by first | (rw [bit_len]; omega) | omega)) (fun _ h => h.tail) ?_
       refine Lu.take rfl rfl rfl rfl rfl (OpQ.fieldAddr rfl Tryd.runUnderlying28 rfl Tryd.sizeOf9 rfl rfl) (fun _ h => h.tail) ?_
       refine Lu.loud rfl ?_
       refine Ll.store1 (v := str (R1 ++ ((if a.inRel (xs.getD (((k : Int)).toNat) 0) (xs.getD (((j : Int)).toNat) 0) then [49] else [48])))) (hs' := [bk_ p5 #[i6_ ((xs.length : Int)), str (S ++ ((if a.inSet (xs.getD (((k : Int)).toNat) 0) then [49] else [48]))), str (R1 ++ ((if a.inRel (xs.getD (((k : Int)).toNat) 0) (xs.getD (((j : Int)).toNat) 0) then [49] else [48])))] 28, _, _]) 0 rfl rfl rfl rfl rfl rfl Tryd.sizeOf9 rfl (by simp) rfl ?_
       refine Ll.nil (Lu.joint (fun _ h => h.tail) ?_)
       refine Lu.nil ?_
       refine Kt.sel [1, 2, 4, 5, 6, 7] [_, _, _, _, _, _] rfl ?_
       refine Wk.regionQ ?_
       refine Lq.run 1 rfl ?_
       refine Lq.op rfl rfl rfl (OpQ.add rfl rfl rfl (by omega) (by omega)) ?_
       refine Lq.run 1 rfl ?_
       refine Lq.nil ?_
       refine Kt.again ((j + 1, R1 ++ ((if a.inRel (xs.getD (((k : Int)).toNat) 0) (xs.getD (((j : Int)).toNat) 0) then [49] else [48])))) ⟨by omega, by (try dsimp only); rw [List.length_append, bit_len]; omega⟩ (by omega) (Sub.sel [1, 2, 4, 5, 6, 7] rfl) (fun _ h => h)
    ·
     replace h31_2 := of_decide_eq_false h31_2
     refine Wk.exit rfl ?_
     refine Kt.sel [1, 2, 4, 5, 6] [_, _, _, _, _] rfl ?_
     refine Wk.regionQ ?_
     refine Lq.run 1 rfl ?_
     refine Lq.op rfl rfl rfl (OpQ.add rfl rfl rfl (by omega) (by omega)) ?_
     refine Lq.run 1 rfl ?_
     refine Lq.nil ?_
     refine Kt.again ((k + 1, S ++ ((if a.inSet (xs.getD (((k : Int)).toNat) 0) then [49] else [48])), R1)) ⟨by omega, by (try dsimp only); rw [List.length_append, bit_len]; omega, by (try dsimp only); rw [Nat.add_mul, Nat.one_mul]; omega⟩ (by omega) (Sub.sel [1, 2, 4, 5, 6] rfl) (fun _ h => h)
 ·
  replace h14 := of_decide_eq_false h14
  refine Wk.exit rfl ?_
  refine Kt.sel [4, 5] [_, _] rfl ?_
  refine Wk.seq ?_
  refine Wk.region ?_
  refine Ll.op rfl rfl rfl (OpQ.loadBox (cs := #[i6_ ((xs.length : Int)), str S, str R]) 0 rfl Tryd.isAgg28 rfl rfl Tryd.sizeOf28) ?_
  refine Ll.storeBox (cs' := #[i6_ ((xs.length : Int)), str S, str R]) (hs' := [_, bk_ p4 #[i6_ ((xs.length : Int)), str S, str R] 28, _]) 1 rfl rfl rfl rfl rfl (by kernel_rfl : _ = some Tryd.t28) rfl rfl rfl rfl rfl ?_
  refine Ll.nil ?_
  refine Kt.sel [4] [_] rfl ?_
  refine Wk.ret (Kt.endBox (cs := #[i6_ ((xs.length : Int)), str S, str R]) 1 rfl rfl rfl Tryd.isAgg28 Tryd.sizeOf28 fun w' hw => ?_)
  -- ret 0: pt_ p4
  exact ⟨⟨(xs.length : Int), S, R⟩, rfl, ⟨rfl, by dsimp only; omega, by dsimp only; rw [hR, show k = xs.length from by omega]⟩, hw.below⟩

end Go.Proofs.YtjcoijejhachhaaDoor
