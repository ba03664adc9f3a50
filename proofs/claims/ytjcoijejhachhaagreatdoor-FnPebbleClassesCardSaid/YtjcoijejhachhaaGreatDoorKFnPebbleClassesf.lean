/-
  FnPebbleClasses: all that its proof names (part 6)
-/
import Derived.Test.YtjcoijejhachhaaGreatDoorKFnPebbleClassese
import Derived.Test.YtjcoijejhachhaaGreatDoorKFnPebbleClassesb
import Derived.Test.YtjcoijejhachhaaGreatDoorKFnPebbleClassesc
namespace Go.Proofs.YtjcoijejhachhaaGreatDoor
open Go.RowKit Go.Wk
set_option linter.unusedSimpArgs false
set_option maxHeartbeats 400000 in
/-- spec.l1Draw -/
theorem l1Draw_ok (B : Nat) (w0 : World) (hs : List (Nat × Obj)) (rp p : Nat) (bv : Value) (L : List Int) (n : Int) (w : World) (hb : ∀ w, Own B w0 hs w → Row w bv (u8s L)) (hL8 : Bytes8 L) (hL : L.length ≤ 2000) (hn0 : 0 ≤ n) (hn8 : n ≤ 8) (hp : p ≤ 900000) (hw : Own B w0 ((rp, .cells #[bv, .int .i64 (p : Int)] 59 (0, 0)) :: hs) w) :
    Calls Tryz.prog 53 [pt_ rp, i6_ n].toArray w fun en w' => ∃ a : St, ∃ p' : Nat, en = .returned (vS a) ∧ ((a.n = n ∧ (a.set.length : Int) = n ∧ a.rel.length = n.toNat * n.toNat) ∧ p' ≤ p + 100) ∧ Own B w0 (((rp, .cells #[bv, .int .i64 (p' : Int)] 59 (0, 0)) :: hs)) w' := by
 refine fnStartC (Own B w0 ((rp, .cells #[bv, .int .i64 (p : Int)] 59 (0, 0)) :: hs)) (n := 111) (e := [(0, pt_ rp), (1, i6_ n)]) Tryz.func53 rfl rfl rfl rfl Ends.both hw ?_
 refine Wk.seq ?_
 refine Wk.region ?_
 refine Ll.alloc rfl rfl rfl rfl Tryz.zeroValue24 fun p4 hp4 => ?_
 show Ll _ _ (Own _ _ (bk_ p4 #[i6_ 0, str ([]), str ([])] 24 :: _ :: hs)) _ _ ((4, pt_ p4) :: _) _ _ _
 refine Ll.nil ?_
 refine Kt.sel [0, 1, 4] [_, _, _] rfl ?_
 refine Wk.seq ?_
 refine Wk.region ?_
 refine Ll.run 1 rfl ?_
 refine Ll.op (v := .agg #[i6_ n, str ([]), str ([])]) rfl rfl rfl (OpQ.build (xs := [.tmp 10]) (vs := [i6_ n]) rfl rfl (by kernel_rfl)) ?_
 refine Ll.alloc rfl rfl rfl rfl Tryz.zeroValue24 fun p5 hp5 => ?_
 show Ll _ _ (Own _ _ (bk_ p5 #[i6_ 0, str ([]), str ([])] 24 :: _ :: _ :: hs)) _ _ ((5, pt_ p5) :: _) _ _ _
 refine Ll.storeBox (cs' := #[i6_ n, str ([]), str ([])]) (hs' := (bk_ p5 #[i6_ n, str ([]), str ([])] 24 :: _ :: _ :: hs)) 0 rfl rfl rfl rfl rfl (by kernel_rfl : _ = some Tryz.t24) rfl rfl rfl rfl rfl ?_
 refine Ll.nil ?_
 refine Kt.sel [0, 1, 4, 5] [_, _, _, _] rfl ?_
 refine Wk.seq ?_
 refine Wk.region ?_
 refine Ll.run 1 rfl ?_
 refine Ll.callRd (rp := rp) (RT := 59) (p := p) (bv := bv) (hs := hs) (ok := fun (k : Int) p' => 0 ≤ k ∧ (1 ≤ (8 : Int) → k < 8) ∧ p' = p + 1) (v := fun (k : Int) => i6_ k) (new := fun (k : Int) => []) (xs := [.tmp 12, .const (i6_ 8)]) (vs := [pt_ rp, i6_ 8]) ([bk_ p5 #[i6_ n, str ([]), str ([])] 24, bk_ p4 #[i6_ 0, str ([]), str ([])] 24] : List (Nat × Obj)) rfl rfl rfl rfl Tryz.call33 rfl (fun w1 hw1 => (pick_ok B w0 (([bk_ p5 #[i6_ n, str ([]), str ([])] 24, bk_ p4 #[i6_ 0, str ([]), str ([])] 24] : List (Nat × Obj)) ++ hs) rp p bv L 8 w1 (fun w2 hw2 => hb w2 (Own.drop (f := ([bk_ p5 #[i6_ n, str ([]), str ([])] 24, bk_ p4 #[i6_ 0, str ([]), str ([])] 24] : List (Nat × Obj))) hw2)) hL8 hL (by omega) hw1).mono fun en w' ⟨k', p', h1, h2, h3⟩ => ⟨k', p', h1, h2, h3⟩) fun k13 p_13 hKp_13 => ?_
 show Ll _ _ (Own _ _ (_ :: _ :: _ :: hs)) _ _ ((13, i6_ k13) :: _) _ _ _
 obtain ⟨h0k13, h1k13, hep_13⟩ := hKp_13
 try have hltk13 := h1k13 (by first | omega | (split <;> omega) | decide)
 refine Ll.run 1 rfl ?_
 refine Ll.nil ?_
 refine Kt.sel [0, 1, 4, 5, 6] [_, _, _, _, _] rfl ?_
 refine Wk.seq ?_
 refine Wk.seq ?_
 refine Wk.regionQ ?_
 refine Lq.run 1 rfl ?_
 refine Lq.nil ?_
 refine Kt.sel [0, 1, 4, 5, 6, 7] [_, _, _, _, _, _] rfl ?_
 refine Wk.block ?_
 refine Wk.loop (σ := Nat × List UInt8 × List UInt8 × Nat) (fun ⟨k, S, R, p0⟩ => (k : Int) ≤ n ∧ S.length = k ∧ R.length = k * n.toNat ∧ p0 ≤ p + 2 + k * 9) (fun ⟨k, S, R, p0⟩ => [(0, pt_ rp), (1, i6_ n), (4, pt_ p4), (5, pt_ p5), (6, i6_ k13), (7, i6_ ((k : Int)))]) (fun ⟨k, S, R, p0⟩ => Own B w0 (bk_ p5 #[i6_ n, str S, str R] 24 :: bk_ p4 #[i6_ 0, str ([]), str ([])] 24 :: bk_ rp #[bv, i6_ ((p0 : Int))] 59 :: hs)) (fun ⟨k, S, R, p0⟩ => (n - k).toNat) ((0, [], [], p_13)) ⟨by omega, rfl, by simp, by omega⟩ (Sub.sel [0, 1, 4, 5, 6, 7] rfl) (fun _ h => h) ?_
 rintro ⟨k, S, R, p0⟩ ⟨hk, hS, hR, hp0⟩
 dsimp only
 have hkn : k * n.toNat ≤ 8 * 8 := Nat.mul_le_mul (by omega) (by omega)
 refine Wk.seq ?_
 refine Wk.seq ?_
 refine Wk.regionQ ?_
 refine Lq.run 3 rfl ?_
 refine Lq.nil ?_
 refine Kt.sel [0, 1, 4, 5, 6, 7, 16] [_, _, _, _, _, _, _] rfl ?_
 refine Wk.cond (b := decide (((k : Int)) < n)) rfl (fun h16 => ?_) (fun h16 => ?_)
 ·
  replace h16 := of_decide_eq_true h16
  refine Wk.skip ?_
  refine Kt.sel [0, 1, 4, 5, 6, 7] [_, _, _, _, _, _] rfl ?_
  refine Wk.seq ?_
  refine Wk.block ?_
  refine Wk.seq ?_
  refine Wk.join (σ := List UInt8 × Nat) (fun ⟨S2, p2⟩ => S2.length = k + 1 ∧ p2 ≤ p0 + 1) (fun ⟨S2, p2⟩ => [(0, pt_ rp), (1, i6_ n), (4, pt_ p4), (5, pt_ p5), (6, i6_ k13), (7, i6_ ((k : Int)))]) (fun ⟨S2, p2⟩ => Own B w0 (bk_ p5 #[i6_ n, str S2, str R] 24 :: bk_ p4 #[i6_ 0, str ([]), str ([])] 24 :: bk_ rp #[bv, i6_ ((p2 : Int))] 59 :: hs)) ?_ ?_
  ·
   refine Wk.regionU (S := Own B w0 [bk_ p4 #[i6_ 0, str ([]), str ([])] 24]) (.take 0 (.take 2 (.take 3 (.take 4 (.take 5 (.two 1 (.one 6 (.take 7 (.take 8 (.one 9 (.take 10 (.take 11 (.one 12 .done))))))) 6 (.take 7 (.take 8 (.two 1 (.one 9 (.take 10 (.take 11 (.one 12 .done)))) 9 (.one 1 (.take 10 (.take 11 (.one 12 .done))))))))))))) Base.mixed (fun _ h => h.drawn) (by kernel_rfl) ?_
   refine Lu.take rfl rfl rfl rfl rfl (OpQ.fieldAddr rfl Tryz.runUnderlying24 rfl Tryz.sizeOf9 rfl rfl) (pk [1] rfl rfl) ?_
   refine Lu.run 3 rfl (pk [1] rfl rfl) ?_
   refine Lu.bool fun b23 hg23 => ?_
   cases b23
   ·
    replace hg23 := of_decide_eq_false hg23
    refine Lu.pass rfl rfl rfl rfl (pk [1] rfl rfl) ?_
    refine Lu.two rfl rfl ?_ ?_
    ·
     refine Ll.op rfl rfl rfl (OpQ.loadOwn 0 rfl Tryz.isAgg9 rfl rfl rfl) ?_
     refine Ll.nil (Lu.joint (pk [1] rfl rfl) ?_)
     refine Lu.loud rfl ?_
     refine Ll.pass rfl rfl rfl ?_
     refine Ll.nil (Lu.joint (pk [1] rfl rfl) ?_)
     refine Lu.pass rfl rfl rfl rfl (pk [1] rfl rfl) ?_
     refine Lu.run 1 rfl (pk [1] rfl rfl) ?_
     refine Lu.loud rfl ?_
     refine Ll.op (v := str ((if false then [49] else [48]))) rfl rfl rfl (OpQ.call rfl Tryz.call54 rfl Own.stable (fun w1 hw1 => bitD_ok false w1 )) ?_
     refine Ll.nil (Lu.joint (pk [1] rfl rfl) ?_)
     refine Lu.take rfl rfl rfl rfl rfl (OpQ.sadd rfl rfl rfl (by first | (rw [bit_len]; omega) | omega)) (pk [1] rfl rfl) ?_
     refine Lu.take rfl rfl rfl rfl rfl (OpQ.fieldAddr rfl Tryz.runUnderlying24 rfl Tryz.sizeOf9 rfl rfl) (pk [1] rfl rfl) ?_
     refine Lu.loud rfl ?_
     refine Ll.store1 (v := str (S ++ ((if false then [49] else [48])))) (hs' := (bk_ p5 #[i6_ n, str (S ++ ((if false then [49] else [48]))), str R] 24 :: _ :: _ :: hs)) 0 rfl rfl rfl rfl rfl rfl Tryz.sizeOf9 rfl (by simp) rfl ?_
     refine Ll.nil (Lu.joint (pk [1] rfl rfl) ?_)
     refine Lu.nil ?_
     refine Kt.joined ((S ++ ((if false then [49] else [48])), p0)) ⟨by (try dsimp only); rw [List.length_append]; first | (rw [bit_len]; omega) | (simp; omega), by (try dsimp only); omega⟩ (Sub.sel [0, 1, 4, 5, 6, 7] rfl) (fun _ h => h)
    ·
     refine Ll.pass rfl rfl rfl ?_
     refine Ll.nil (Lu.joint (pk [1] rfl rfl) ?_)
     refine Lu.pass rfl rfl rfl rfl (pk [1] rfl rfl) ?_
     refine Lu.run 1 rfl (pk [1] rfl rfl) ?_
     refine Lu.two rfl rfl ?_ ?_
     ·
      refine Ll.op rfl rfl rfl (OpQ.loadOwn 0 rfl Tryz.isAgg9 rfl rfl rfl) ?_
      refine Ll.nil (Lu.joint (pk [1] rfl rfl) ?_)
      refine Lu.loud rfl ?_
      refine Ll.op (v := str ((if false then [49] else [48]))) rfl rfl rfl (OpQ.call rfl Tryz.call54 rfl Own.stable (fun w1 hw1 => bitD_ok false w1 )) ?_
      refine Ll.nil (Lu.joint (pk [1] rfl rfl) ?_)
      refine Lu.take rfl rfl rfl rfl rfl (OpQ.sadd rfl rfl rfl (by first | (rw [bit_len]; omega) | omega)) (pk [1] rfl rfl) ?_
      refine Lu.take rfl rfl rfl rfl rfl (OpQ.fieldAddr rfl Tryz.runUnderlying24 rfl Tryz.sizeOf9 rfl rfl) (pk [1] rfl rfl) ?_
      refine Lu.loud rfl ?_
      refine Ll.store1 (v := str (S ++ ((if false then [49] else [48])))) (hs' := (bk_ p5 #[i6_ n, str (S ++ ((if false then [49] else [48]))), str R] 24 :: _ :: _ :: hs)) 0 rfl rfl rfl rfl rfl rfl Tryz.sizeOf9 rfl (by simp) rfl ?_
      refine Ll.nil (Lu.joint (pk [1] rfl rfl) ?_)
      refine Lu.nil ?_
      refine Kt.joined ((S ++ ((if false then [49] else [48])), p0)) ⟨by (try dsimp only); rw [List.length_append]; first | (rw [bit_len]; omega) | (simp; omega), by (try dsimp only); omega⟩ (Sub.sel [0, 1, 4, 5, 6, 7] rfl) (fun _ h => h)
     ·
      refine Ll.op (v := str ((if false then [49] else [48]))) rfl rfl rfl (OpQ.call rfl Tryz.call54 rfl Own.stable (fun w1 hw1 => bitD_ok false w1 )) ?_
      refine Ll.nil (Lu.joint (pk [1] rfl rfl) ?_)
      refine Lu.loud rfl ?_
      refine Ll.op rfl rfl rfl (OpQ.loadOwn 0 rfl Tryz.isAgg9 rfl rfl rfl) ?_
      refine Ll.nil (Lu.joint (pk [1] rfl rfl) ?_)
      refine Lu.take rfl rfl rfl rfl rfl (OpQ.sadd rfl rfl rfl (by first | (rw [bit_len]; omega) | omega)) (pk [1] rfl rfl) ?_
      refine Lu.take rfl rfl rfl rfl rfl (OpQ.fieldAddr rfl Tryz.runUnderlying24 rfl Tryz.sizeOf9 rfl rfl) (pk [1] rfl rfl) ?_
      refine Lu.loud rfl ?_
      refine Ll.store1 (v := str (S ++ ((if false then [49] else [48])))) (hs' := (bk_ p5 #[i6_ n, str (S ++ ((if false then [49] else [48]))), str R] 24 :: _ :: _ :: hs)) 0 rfl rfl rfl rfl rfl rfl Tryz.sizeOf9 rfl (by simp) rfl ?_
      refine Ll.nil (Lu.joint (pk [1] rfl rfl) ?_)
      refine Lu.nil ?_
      refine Kt.joined ((S ++ ((if false then [49] else [48])), p0)) ⟨by (try dsimp only); rw [List.length_append]; first | (rw [bit_len]; omega) | (simp; omega), by (try dsimp only); omega⟩ (Sub.sel [0, 1, 4, 5, 6, 7] rfl) (fun _ h => h)
   ·
    replace hg23 := of_decide_eq_true hg23
    refine Lu.run 1 rfl (pk [1] rfl rfl) ?_
    refine Lu.two rfl rfl ?_ ?_
    ·
     refine Ll.op rfl rfl rfl (OpQ.loadOwn 0 rfl Tryz.isAgg9 rfl rfl rfl) ?_
     refine Ll.nil (Lu.joint (pk [1] rfl rfl) ?_)
     refine Lu.loud rfl ?_
     refine Ll.callRd (rp := rp) (RT := 59) (p := p0) (bv := bv) (hs := hs) (ok := fun (k : Int) p' => 0 ≤ k ∧ (1 ≤ (3 : Int) → k < 3) ∧ p' = p0 + 1) (v := fun (k : Int) => i6_ k) (new := fun (k : Int) => []) (xs := [.tmp 24, .const (i6_ 3)]) (vs := [pt_ rp, i6_ 3]) ([bk_ p5 #[i6_ n, str S, str R] 24, bk_ p4 #[i6_ 0, str ([]), str ([])] 24] : List (Nat × Obj)) rfl rfl rfl rfl Tryz.call33 rfl (fun w1 hw1 => (pick_ok B w0 (([bk_ p5 #[i6_ n, str S, str R] 24, bk_ p4 #[i6_ 0, str ([]), str ([])] 24] : List (Nat × Obj)) ++ hs) rp p0 bv L 3 w1 (fun w2 hw2 => hb w2 (Own.drop (f := ([bk_ p5 #[i6_ n, str S, str R] 24, bk_ p4 #[i6_ 0, str ([]), str ([])] 24] : List (Nat × Obj))) hw2)) hL8 hL (by omega) hw1).mono fun en w' ⟨k', p', h1, h2, h3⟩ => ⟨k', p', h1, h2, h3⟩) fun k25 p_25 hKp_25 => ?_
     show Ll _ _ (Own _ _ (_ :: _ :: _ :: hs)) _ _ ((25, i6_ k25) :: _) _ _ _
     obtain ⟨h0k25, h1k25, hep_25⟩ := hKp_25
     try have hltk25 := h1k25 (by first | omega | (split <;> omega) | decide)
     refine Ll.nil (Lu.joint (pk [1] rfl rfl) ?_)
     refine Lu.run 2 rfl (pk [1] rfl rfl) ?_
     refine Lu.loud rfl ?_
     refine Ll.op (v := str ((if decide (k25 = (0 : Int)) then [49] else [48]))) rfl rfl rfl (OpQ.call rfl Tryz.call54 rfl Own.stable (fun w1 hw1 => bitD_ok (decide (k25 = (0 : Int))) w1 )) ?_
     refine Ll.nil (Lu.joint (pk [1] rfl rfl) ?_)
     refine Lu.take rfl rfl rfl rfl rfl (OpQ.sadd rfl rfl rfl (by first | (rw [bit_len]; omega) | omega)) (pk [1] rfl rfl) ?_
     refine Lu.take rfl rfl rfl rfl rfl (OpQ.fieldAddr rfl Tryz.runUnderlying24 rfl Tryz.sizeOf9 rfl rfl) (pk [1] rfl rfl) ?_
     refine Lu.loud rfl ?_
     refine Ll.store1 (v := str (S ++ ((if decide (k25 = (0 : Int)) then [49] else [48])))) (hs' := (bk_ p5 #[i6_ n, str (S ++ ((if decide (k25 = (0 : Int)) then [49] else [48]))), str R] 24 :: _ :: _ :: hs)) 0 rfl rfl rfl rfl rfl rfl Tryz.sizeOf9 rfl (by simp) rfl ?_
     refine Ll.nil (Lu.joint (pk [1] rfl rfl) ?_)
     refine Lu.nil ?_
     refine Kt.joined ((S ++ ((if decide (k25 = (0 : Int)) then [49] else [48])), p_25)) ⟨by (try dsimp only); rw [List.length_append]; first | (rw [bit_len]; omega) | (simp; omega), by (try dsimp only); omega⟩ (Sub.sel [0, 1, 4, 5, 6, 7] rfl) (fun _ h => h)
    ·
     refine Ll.callRd (rp := rp) (RT := 59) (p := p0) (bv := bv) (hs := hs) (ok := fun (k : Int) p' => 0 ≤ k ∧ (1 ≤ (3 : Int) → k < 3) ∧ p' = p0 + 1) (v := fun (k : Int) => i6_ k) (new := fun (k : Int) => []) (xs := [.tmp 24, .const (i6_ 3)]) (vs := [pt_ rp, i6_ 3]) ([bk_ p5 #[i6_ n, str S, str R] 24, bk_ p4 #[i6_ 0, str ([]), str ([])] 24] : List (Nat × Obj)) rfl rfl rfl rfl Tryz.call33 rfl (fun w1 hw1 => (pick_ok B w0 (([bk_ p5 #[i6_ n, str S, str R] 24, bk_ p4 #[i6_ 0, str ([]), str ([])] 24] : List (Nat × Obj)) ++ hs) rp p0 bv L 3 w1 (fun w2 hw2 => hb w2 (Own.drop (f := ([bk_ p5 #[i6_ n, str S, str R] 24, bk_ p4 #[i6_ 0, str ([]), str ([])] 24] : List (Nat × Obj))) hw2)) hL8 hL (by omega) hw1).mono fun en w' ⟨k', p', h1, h2, h3⟩ => ⟨k', p', h1, h2, h3⟩) fun k25_1 p_25_1 hKp_25_1 => ?_
     show Ll _ _ (Own _ _ (_ :: _ :: _ :: hs)) _ _ ((25, i6_ k25_1) :: _) _ _ _
     obtain ⟨h0k25_1, h1k25_1, hep_25_1⟩ := hKp_25_1
     try have hltk25_1 := h1k25_1 (by first | omega | (split <;> omega) | decide)
     refine Ll.nil (Lu.joint (pk [1] rfl rfl) ?_)
     refine Lu.run 2 rfl (pk [1] rfl rfl) ?_
     refine Lu.two rfl rfl ?_ ?_
     ·
      refine Ll.op rfl rfl rfl (OpQ.loadOwn 0 rfl Tryz.isAgg9 rfl rfl rfl) ?_
      refine Ll.nil (Lu.joint (pk [1] rfl rfl) ?_)
      refine Lu.loud rfl ?_
      refine Ll.op (v := str ((if decide (k25_1 = (0 : Int)) then [49] else [48]))) rfl rfl rfl (OpQ.call rfl Tryz.call54 rfl Own.stable (fun w1 hw1 => bitD_ok (decide (k25_1 = (0 : Int))) w1 )) ?_
      refine Ll.nil (Lu.joint (pk [1] rfl rfl) ?_)
      refine Lu.take rfl rfl rfl rfl rfl (OpQ.sadd rfl rfl rfl (by first | (rw [bit_len]; omega) | omega)) (pk [1] rfl rfl) ?_
      refine Lu.take rfl rfl rfl rfl rfl (OpQ.fieldAddr rfl Tryz.runUnderlying24 rfl Tryz.sizeOf9 rfl rfl) (pk [1] rfl rfl) ?_
      refine Lu.loud rfl ?_
      refine Ll.store1 (v := str (S ++ ((if decide (k25_1 = (0 : Int)) then [49] else [48])))) (hs' := (bk_ p5 #[i6_ n, str (S ++ ((if decide (k25_1 = (0 : Int)) then [49] else [48]))), str R] 24 :: _ :: _ :: hs)) 0 rfl rfl rfl rfl rfl rfl Tryz.sizeOf9 rfl (by simp) rfl ?_
      refine Ll.nil (Lu.joint (pk [1] rfl rfl) ?_)
      refine Lu.nil ?_
      refine Kt.joined ((S ++ ((if decide (k25_1 = (0 : Int)) then [49] else [48])), p_25_1)) ⟨by (try dsimp only); rw [List.length_append]; first | (rw [bit_len]; omega) | (simp; omega), by (try dsimp only); omega⟩ (Sub.sel [0, 1, 4, 5, 6, 7] rfl) (fun _ h => h)
     ·
      refine Ll.op (v := str ((if decide (k25_1 = (0 : Int)) then [49] else [48]))) rfl rfl rfl (OpQ.call rfl Tryz.call54 rfl Own.stable (fun w1 hw1 => bitD_ok (decide (k25_1 = (0 : Int))) w1 )) ?_
      refine Ll.nil (Lu.joint (pk [1] rfl rfl) ?_)
      refine Lu.loud rfl ?_
      refine Ll.op rfl rfl rfl (OpQ.loadOwn 0 rfl Tryz.isAgg9 rfl rfl rfl) ?_
      refine Ll.nil (Lu.joint (pk [1] rfl rfl) ?_)
      refine Lu.take rfl rfl rfl rfl rfl (OpQ.sadd rfl rfl rfl (by first | (rw [bit_len]; omega) | omega)) (pk [1] rfl rfl) ?_
      refine Lu.take rfl rfl rfl rfl rfl (OpQ.fieldAddr rfl Tryz.runUnderlying24 rfl Tryz.sizeOf9 rfl rfl) (pk [1] rfl rfl) ?_
      refine Lu.loud rfl ?_
      refine Ll.store1 (v := str (S ++ ((if decide (k25_1 = (0 : Int)) then [49] else [48])))) (hs' := (bk_ p5 #[i6_ n, str (S ++ ((if decide (k25_1 = (0 : Int)) then [49] else [48]))), str R] 24 :: _ :: _ :: hs)) 0 rfl rfl rfl rfl rfl rfl Tryz.sizeOf9 rfl (by simp) rfl ?_
      refine Ll.nil (Lu.joint (pk [1] rfl rfl) ?_)
      refine Lu.nil ?_
      refine Kt.joined ((S ++ ((if decide (k25_1 = (0 : Int)) then [49] else [48])), p_25_1)) ⟨by (try dsimp only); rw [List.length_append]; first | (rw [bit_len]; omega) | (simp; omega), by (try dsimp only); omega⟩ (Sub.sel [0, 1, 4, 5, 6, 7] rfl) (fun _ h => h)
  rintro ⟨S2, p2⟩ ⟨hS2, hp2⟩
  dsimp only
  refine Kt.sel [0, 1, 4, 5, 6, 7] [_, _, _, _, _, _] rfl ?_
  refine Wk.seq ?_
  refine Wk.regionQ ?_
  refine Lq.run 1 rfl ?_
  refine Lq.nil ?_
  refine Kt.sel [0, 1, 4, 5, 6, 7, 8] [_, _, _, _, _, _, _] rfl ?_
  refine Wk.block ?_
  refine Wk.loop (σ := Nat × List UInt8 × Nat) (fun ⟨j, R1, p1⟩ => (j : Int) ≤ n ∧ R1.length = k * n.toNat + j ∧ p1 ≤ p + 3 + k * 9 + j) (fun ⟨j, R1, p1⟩ => [(0, pt_ rp), (1, i6_ n), (4, pt_ p4), (5, pt_ p5), (6, i6_ k13), (7, i6_ ((k : Int))), (8, i6_ ((j : Int)))]) (fun ⟨j, R1, p1⟩ => Own B w0 (bk_ p5 #[i6_ n, str S2, str R1] 24 :: bk_ p4 #[i6_ 0, str ([]), str ([])] 24 :: bk_ rp #[bv, i6_ ((p1 : Int))] 59 :: hs)) (fun ⟨j, R1, p1⟩ => (n - j).toNat) ((0, R, p2)) ⟨by omega, by omega, by omega⟩ (Sub.sel [0, 1, 4, 5, 6, 7, 8] rfl) (fun _ h => h) ?_
  rintro ⟨j, R1, p1⟩ ⟨hj, hR1, hp1⟩
  dsimp only
  have hj8 : j ≤ 8 := by omega
  refine Wk.seq ?_
  refine Wk.seq ?_
  refine Wk.regionQ ?_
  refine Lq.run 3 rfl ?_
  refine Lq.nil ?_
  refine Kt.sel [0, 1, 4, 5, 6, 7, 8, 33] [_, _, _, _, _, _, _, _] rfl ?_
  refine Wk.cond (b := decide (((j : Int)) < n)) rfl (fun h33 => ?_) (fun h33 => ?_)
  ·
   replace h33 := of_decide_eq_true h33
   refine Wk.skip ?_
   refine Kt.sel [0, 1, 4, 5, 6, 7, 8] [_, _, _, _, _, _, _] rfl ?_
   refine Wk.seq ?_
   refine Wk.block ?_
   refine Wk.seq ?_
   refine Wk.region ?_
   refine Ll.run 1 rfl ?_
   refine Ll.callRd (rp := rp) (RT := 59) (p := p1) (bv := bv) (hs := hs) (ok := fun (k : Int) p' => 0 ≤ k ∧ (1 ≤ (3 : Int) → k < 3) ∧ p' = p1 + 1) (v := fun (k : Int) => i6_ k) (new := fun (k : Int) => []) (xs := [.tmp 36, .const (i6_ 3)]) (vs := [pt_ rp, i6_ 3]) ([bk_ p5 #[i6_ n, str S2, str R1] 24, bk_ p4 #[i6_ 0, str ([]), str ([])] 24] : List (Nat × Obj)) rfl rfl rfl rfl Tryz.call33 rfl (fun w1 hw1 => (pick_ok B w0 (([bk_ p5 #[i6_ n, str S2, str R1] 24, bk_ p4 #[i6_ 0, str ([]), str ([])] 24] : List (Nat × Obj)) ++ hs) rp p1 bv L 3 w1 (fun w2 hw2 => hb w2 (Own.drop (f := ([bk_ p5 #[i6_ n, str S2, str R1] 24, bk_ p4 #[i6_ 0, str ([]), str ([])] 24] : List (Nat × Obj))) hw2)) hL8 hL (by omega) hw1).mono fun en w' ⟨k', p', h1, h2, h3⟩ => ⟨k', p', h1, h2, h3⟩) fun k37 p_37 hKp_37 => ?_
   show Ll _ _ (Own _ _ (_ :: _ :: _ :: hs)) _ _ ((37, i6_ k37) :: _) _ _ _
   obtain ⟨h0k37, h1k37, hep_37⟩ := hKp_37
   try have hltk37 := h1k37 (by first | omega | (split <;> omega) | decide)
   refine Ll.run 2 rfl ?_
   refine Ll.nil ?_
   refine Kt.sel [0, 1, 4, 5, 6, 7, 8, 9] [_, _, _, _, _, _, _, _] rfl ?_
   refine Wk.seq ?_
   refine Wk.seq ?_
   refine Wk.regionQ ?_
   refine Lq.run 1 rfl ?_
   refine Lq.nil ?_
   refine Kt.sel [0, 1, 4, 5, 6, 7, 8, 9, 39] [_, _, _, _, _, _, _, _, _] rfl ?_
   refine Wk.join (σ := Bool) (fun b9 => True) (fun b9 => [(0, pt_ rp), (1, i6_ n), (4, pt_ p4), (5, pt_ p5), (6, i6_ k13), (7, i6_ ((k : Int))), (8, i6_ ((j : Int))), (9, bo_ b9)]) (fun b9 => Own B w0 (bk_ p5 #[i6_ n, str S2, str R1] 24 :: bk_ p4 #[i6_ 0, str ([]), str ([])] 24 :: bk_ rp #[bv, i6_ ((p_37 : Int))] 59 :: hs)) ?_ ?_
   ·
    refine Wk.block ?_
    refine Wk.seq ?_
    refine Wk.regionQ ?_
    refine Lq.run 2 rfl ?_
    refine Lq.nil ?_
    refine Kt.sel [0, 1, 4, 5, 6, 7, 8, 9, 39, 40] [_, _, _, _, _, _, _, _, _, _] rfl ?_
    refine Wk.cond (b := decide (k13 = (0 : Int))) rfl (fun h40 => ?_) (fun h40 => ?_)
    ·
     replace h40 := of_decide_eq_true h40
     refine Wk.regionQ ?_
     refine Lq.run 2 rfl ?_
     refine Lq.op rfl rfl rfl (OpQ.add rfl rfl rfl (by omega) (by omega)) ?_
     refine Lq.run 1 rfl ?_
     refine Lq.op (v := i6_ ((((k : Int)) + (1 : Int)) % n)) rfl rfl rfl (OpQ.rem rfl rfl rfl (by omega) (by omega)) ?_
     refine Lq.run 2 rfl ?_
     refine Lq.nil ?_
     refine Kt.joined (decide (((j : Int)) = ((((k : Int)) + (1 : Int)) % n))) trivial (Sub.sel [0, 1, 4, 5, 6, 7, 8, 9] rfl) (fun _ h => h)
    ·
     replace h40 := of_decide_eq_false h40
     refine Wk.seq ?_
     refine Wk.regionQ ?_
     refine Lq.run 2 rfl ?_
     refine Lq.nil ?_
     refine Kt.sel [0, 1, 4, 5, 6, 7, 8, 9, 39, 48] [_, _, _, _, _, _, _, _, _, _] rfl ?_
     refine Wk.cond (b := decide (k13 = (1 : Int))) rfl (fun h48 => ?_) (fun h48 => ?_)
     ·
      replace h48 := of_decide_eq_true h48
      refine Wk.regionQ ?_
      refine Lq.run 4 rfl ?_
      refine Lq.nil ?_
      refine Kt.joined (decide (((k : Int)) < ((j : Int)))) trivial (Sub.sel [0, 1, 4, 5, 6, 7, 8, 9] rfl) (fun _ h => h)
     ·
      replace h48 := of_decide_eq_false h48
      refine Wk.seq ?_
      refine Wk.regionQ ?_
      refine Lq.run 2 rfl ?_
      refine Lq.nil ?_
      refine Kt.sel [0, 1, 4, 5, 6, 7, 8, 9, 39, 53] [_, _, _, _, _, _, _, _, _, _] rfl ?_
      refine Wk.cond (b := decide (k13 = (2 : Int))) rfl (fun h53 => ?_) (fun h53 => ?_)
      ·
       replace h53 := of_decide_eq_true h53
       refine Wk.regionQ ?_
       refine Lq.run 4 rfl ?_
       refine Lq.bool fun b58 hg58 => ?_
       cases b58
       ·
        replace hg58 := not_false hg58
        replace hg58 := of_decide_eq_true hg58
        refine Lq.pass rfl rfl rfl ?_
        refine Lq.pass rfl rfl rfl ?_
        refine Lq.pass rfl rfl rfl ?_
        refine Lq.pass rfl rfl rfl ?_
        refine Lq.pass rfl rfl rfl ?_
        refine Lq.run 2 rfl ?_
        refine Lq.nil ?_
        refine Kt.joined (false) trivial (Sub.sel [0, 1, 4, 5, 6, 7, 8, 9] rfl) (fun _ h => h)
       ·
        replace hg58 := not_true hg58
        replace hg58 := of_decide_eq_false hg58
        refine Lq.run 2 rfl ?_
        refine Lq.op rfl rfl rfl (OpQ.add rfl rfl rfl (by omega) (by omega)) ?_
        refine Lq.op (v := i6_ ((((k : Int)) + ((j : Int))) % (2 : Int))) rfl rfl rfl (OpQ.rem rfl rfl rfl (by omega) (by decide)) ?_
        refine Lq.run 3 rfl ?_
        refine Lq.nil ?_
        refine Kt.joined (decide (((((k : Int)) + ((j : Int))) % (2 : Int)) = (1 : Int))) trivial (Sub.sel [0, 1, 4, 5, 6, 7, 8, 9] rfl) (fun _ h => h)
      ·
       replace h53 := of_decide_eq_false h53
       refine Wk.seq ?_
       refine Wk.regionQ ?_
       refine Lq.run 2 rfl ?_
       refine Lq.nil ?_
       refine Kt.sel [0, 1, 4, 5, 6, 7, 8, 9, 39, 65] [_, _, _, _, _, _, _, _, _, _] rfl ?_
       refine Wk.cond (b := decide (k13 = (3 : Int))) rfl (fun h65 => ?_) (fun h65 => ?_)
       ·
        replace h65 := of_decide_eq_true h65
        refine Wk.regionQ ?_
        refine Lq.run 4 rfl ?_
        refine Lq.bool fun b70 hg70 => ?_
        cases b70
        ·
         replace hg70 := of_decide_eq_false hg70
         refine Lq.run 2 rfl ?_
         refine Lq.op rfl rfl rfl (OpQ.add rfl rfl rfl (by omega) (by omega)) ?_
         refine Lq.run 3 rfl ?_
         refine Lq.bool fun b76 hg76 => ?_
         cases b76
         ·
          replace hg76 := of_decide_eq_false hg76
          refine Lq.run 2 rfl ?_
          refine Lq.op rfl rfl rfl (OpQ.add rfl rfl rfl (by omega) (by omega)) ?_
          refine Lq.run 3 rfl ?_
          refine Lq.nil ?_
          refine Kt.joined (decide (((k : Int)) = (((j : Int)) + (1 : Int)))) trivial (Sub.sel [0, 1, 4, 5, 6, 7, 8, 9] rfl) (fun _ h => h)
         ·
          replace hg76 := of_decide_eq_true hg76
          refine Lq.pass rfl rfl rfl ?_
          refine Lq.pass rfl rfl rfl ?_
          refine Lq.pass rfl rfl rfl ?_
          refine Lq.pass rfl rfl rfl ?_
          refine Lq.run 2 rfl ?_
          refine Lq.nil ?_
          refine Kt.joined (true) trivial (Sub.sel [0, 1, 4, 5, 6, 7, 8, 9] rfl) (fun _ h => h)
        ·
         replace hg70 := of_decide_eq_true hg70
         refine Lq.pass rfl rfl rfl ?_
         refine Lq.pass rfl rfl rfl ?_
         refine Lq.pass rfl rfl rfl ?_
         refine Lq.pass rfl rfl rfl ?_
         refine Lq.run 2 rfl ?_
         refine Lq.pass rfl rfl rfl ?_
         refine Lq.pass rfl rfl rfl ?_
         refine Lq.pass rfl rfl rfl ?_
         refine Lq.pass rfl rfl rfl ?_
         refine Lq.run 2 rfl ?_
         refine Lq.nil ?_
         refine Kt.joined (true) trivial (Sub.sel [0, 1, 4, 5, 6, 7, 8, 9] rfl) (fun _ h => h)
       ·
        replace h65 := of_decide_eq_false h65
        refine Wk.seq ?_
        refine Wk.regionQ ?_
        refine Lq.run 2 rfl ?_
        refine Lq.nil ?_
        refine Kt.sel [0, 1, 4, 5, 6, 7, 8, 9, 39, 82] [_, _, _, _, _, _, _, _, _, _] rfl ?_
        refine Wk.cond (b := decide (k13 = (4 : Int))) rfl (fun h82 => ?_) (fun h82 => ?_)
        ·
         replace h82 := of_decide_eq_true h82
         refine Wk.regionQ ?_
         refine Lq.run 2 rfl ?_
         refine Lq.bool fun b85 hg85 => ?_
         cases b85
         ·
          replace hg85 := of_decide_eq_false hg85
          refine Lq.pass rfl rfl rfl ?_
          refine Lq.pass rfl rfl rfl ?_
          refine Lq.pass rfl rfl rfl ?_
          refine Lq.run 2 rfl ?_
          refine Lq.nil ?_
          refine Kt.joined (false) trivial (Sub.sel [0, 1, 4, 5, 6, 7, 8, 9] rfl) (fun _ h => h)
         ·
          replace hg85 := of_decide_eq_true hg85
          refine Lq.run 5 rfl ?_
          refine Lq.nil ?_
          refine Kt.joined (!(decide (((k : Int)) = ((j : Int))))) trivial (Sub.sel [0, 1, 4, 5, 6, 7, 8, 9] rfl) (fun _ h => h)
        ·
         replace h82 := of_decide_eq_false h82
         refine Wk.seq ?_
         refine Wk.regionQ ?_
         refine Lq.run 2 rfl ?_
         refine Lq.nil ?_
         refine Kt.sel [0, 1, 4, 5, 6, 7, 8, 9, 90] [_, _, _, _, _, _, _, _, _] rfl ?_
         refine Wk.cond (b := decide (k13 = (5 : Int))) rfl (fun h90 => ?_) (fun h90 => ?_)
         ·
          replace h90 := of_decide_eq_true h90
          refine Wk.regionQ ?_
          refine Lq.run 1 rfl ?_
          refine Lq.op rfl rfl rfl (OpQ.add rfl rfl rfl (by omega) (by omega)) ?_
          refine Lq.op (v := i6_ ((((k : Int)) + (1 : Int)) / (2 : Int))) rfl rfl rfl (OpQ.quo rfl rfl rfl (by omega) (by omega) (by decide)) ?_
          refine Lq.run 1 rfl ?_
          refine Lq.op rfl rfl rfl (OpQ.add rfl rfl rfl (by omega) (by omega)) ?_
          refine Lq.op (v := i6_ ((((j : Int)) + (1 : Int)) / (2 : Int))) rfl rfl rfl (OpQ.quo rfl rfl rfl (by omega) (by omega) (by decide)) ?_
          refine Lq.run 2 rfl ?_
          refine Lq.bool fun b99 hg99 => ?_
          cases b99
          ·
           replace hg99 := of_decide_eq_false hg99
           refine Lq.pass rfl rfl rfl ?_
           refine Lq.pass rfl rfl rfl ?_
           refine Lq.pass rfl rfl rfl ?_
           refine Lq.run 2 rfl ?_
           refine Lq.nil ?_
           refine Kt.joined (false) trivial (Sub.sel [0, 1, 4, 5, 6, 7, 8, 9] rfl) (fun _ h => h)
          ·
           replace hg99 := of_decide_eq_true hg99
           refine Lq.run 5 rfl ?_
           refine Lq.nil ?_
           refine Kt.joined (!(decide (((k : Int)) = ((j : Int))))) trivial (Sub.sel [0, 1, 4, 5, 6, 7, 8, 9] rfl) (fun _ h => h)
         ·
          replace h90 := of_decide_eq_false h90
          refine Wk.skip ?_
          refine Kt.joined (decide (k37 = (0 : Int))) trivial (Sub.sel [0, 1, 4, 5, 6, 7, 8, 9] rfl) (fun _ h => h)
   rintro b9 _
   refine Kt.sel [0, 1, 4, 5, 6, 7, 8, 9] [_, _, _, _, _, _, _, _] rfl ?_
   refine Wk.regionU (S := Own B w0 [bk_ p4 #[i6_ 0, str ([]), str ([])] 24, bk_ rp #[bv, i6_ ((p_37 : Int))] 59]) (.take 0 (.take 2 (.two 1 (.one 3 (.take 4 (.take 5 (.one 6 .done)))) 3 (.one 1 (.take 4 (.take 5 (.one 6 .done))))))) Base.mixed (fun _ h => h.drawn) (by kernel_rfl) ?_
   refine Lu.take rfl rfl rfl rfl rfl (OpQ.fieldAddr rfl Tryz.runUnderlying24 rfl Tryz.sizeOf9 rfl rfl) (pk [1, 2] rfl rfl) ?_
   refine Lu.run 1 rfl (pk [1, 2] rfl rfl) ?_
   refine Lu.two rfl rfl ?_ ?_
   ·
    refine Ll.op rfl rfl rfl (OpQ.loadOwn 0 rfl Tryz.isAgg9 rfl rfl rfl) ?_
    refine Ll.nil (Lu.joint (pk [1, 2] rfl rfl) ?_)
    refine Lu.loud rfl ?_
    refine Ll.op (v := str ((if b9 then [49] else [48]))) rfl rfl rfl (OpQ.call rfl Tryz.call54 rfl Own.stable (fun w1 hw1 => bitD_ok b9 w1 )) ?_
    refine Ll.nil (Lu.joint (pk [1, 2] rfl rfl) ?_)
    refine Lu.take rfl rfl rfl rfl rfl (OpQ.sadd rfl rfl rfl (by first | (rw [bit_len]; omega) | omega)) (pk [1, 2] rfl rfl) ?_
    refine Lu.take rfl rfl rfl rfl rfl (OpQ.fieldAddr rfl Tryz.runUnderlying24 rfl Tryz.sizeOf9 rfl rfl) (pk [1, 2] rfl rfl) ?_
    refine Lu.loud rfl ?_
    refine Ll.store1 (v := str (R1 ++ ((if b9 then [49] else [48])))) (hs' := (bk_ p5 #[i6_ n, str S2, str (R1 ++ ((if b9 then [49] else [48])))] 24 :: _ :: _ :: hs)) 0 rfl rfl rfl rfl rfl rfl Tryz.sizeOf9 rfl (by simp) rfl ?_
    refine Ll.nil (Lu.joint (pk [1, 2] rfl rfl) ?_)
    refine Lu.nil ?_
    refine Kt.sel [0, 1, 4, 5, 6, 7, 8] [_, _, _, _, _, _, _] rfl ?_
    refine Wk.regionQ ?_
    refine Lq.run 1 rfl ?_
    refine Lq.op rfl rfl rfl (OpQ.add rfl rfl rfl (by omega) (by omega)) ?_
    refine Lq.run 1 rfl ?_
    refine Lq.nil ?_
    refine Kt.again ((j + 1, R1 ++ ((if b9 then [49] else [48])), p_37)) ⟨by omega, by (try dsimp only); rw [List.length_append, bit_len]; omega, by (try dsimp only); omega⟩ (by omega) (Sub.sel [0, 1, 4, 5, 6, 7, 8] rfl) (fun _ h => h)
   ·
    refine Ll.op (v := str ((if b9 then [49] else [48]))) rfl rfl rfl (OpQ.call rfl Tryz.call54 rfl Own.stable (fun w1 hw1 => bitD_ok b9 w1 )) ?_
    refine Ll.nil (Lu.joint (pk [1, 2] rfl rfl) ?_)
    refine Lu.loud rfl ?_
    refine Ll.op rfl rfl rfl (OpQ.loadOwn 0 rfl Tryz.isAgg9 rfl rfl rfl) ?_
    refine Ll.nil (Lu.joint (pk [1, 2] rfl rfl) ?_)
    refine Lu.take rfl rfl rfl rfl rfl (OpQ.sadd rfl rfl rfl (by first | (rw [bit_len]; omega) | omega)) (pk [1, 2] rfl rfl) ?_
    refine Lu.take rfl rfl rfl rfl rfl (OpQ.fieldAddr rfl Tryz.runUnderlying24 rfl Tryz.sizeOf9 rfl rfl) (pk [1, 2] rfl rfl) ?_
    refine Lu.loud rfl ?_
    refine Ll.store1 (v := str (R1 ++ ((if b9 then [49] else [48])))) (hs' := (bk_ p5 #[i6_ n, str S2, str (R1 ++ ((if b9 then [49] else [48])))] 24 :: _ :: _ :: hs)) 0 rfl rfl rfl rfl rfl rfl Tryz.sizeOf9 rfl (by simp) rfl ?_
    refine Ll.nil (Lu.joint (pk [1, 2] rfl rfl) ?_)
    refine Lu.nil ?_
    refine Kt.sel [0, 1, 4, 5, 6, 7, 8] [_, _, _, _, _, _, _] rfl ?_
    refine Wk.regionQ ?_
    refine Lq.run 1 rfl ?_
    refine Lq.op rfl rfl rfl (OpQ.add rfl rfl rfl (by omega) (by omega)) ?_
    refine Lq.run 1 rfl ?_
    refine Lq.nil ?_
    refine Kt.again ((j + 1, R1 ++ ((if b9 then [49] else [48])), p_37)) ⟨by omega, by (try dsimp only); rw [List.length_append, bit_len]; omega, by (try dsimp only); omega⟩ (by omega) (Sub.sel [0, 1, 4, 5, 6, 7, 8] rfl) (fun _ h => h)
  ·
   replace h33 := of_decide_eq_false h33
   refine Wk.exit rfl ?_
   refine Kt.sel [0, 1, 4, 5, 6, 7] [_, _, _, _, _, _] rfl ?_
   refine Wk.regionQ ?_
   refine Lq.run 1 rfl ?_
   refine Lq.op rfl rfl rfl (OpQ.add rfl rfl rfl (by omega) (by omega)) ?_
   refine Lq.run 1 rfl ?_
   refine Lq.nil ?_
   refine Kt.again ((k + 1, S2, R1, p1)) ⟨by omega, by (try dsimp only); omega, by (try dsimp only); rw [Nat.add_mul, Nat.one_mul]; omega, by (try dsimp only); omega⟩ (by omega) (Sub.sel [0, 1, 4, 5, 6, 7] rfl) (fun _ h => h)
 ·
  replace h16 := of_decide_eq_false h16
  refine Wk.exit rfl ?_
  refine Kt.sel [4, 5] [_, _] rfl ?_
  refine Wk.seq ?_
  refine Wk.region ?_
  refine Ll.op rfl rfl rfl (OpQ.loadBox (cs := #[i6_ n, str S, str R]) 0 rfl Tryz.isAgg24 rfl rfl Tryz.sizeOf24) ?_
  refine Ll.storeBox (cs' := #[i6_ n, str S, str R]) (hs' := (_ :: bk_ p4 #[i6_ n, str S, str R] 24 :: _ :: hs)) 1 rfl rfl rfl rfl rfl (by kernel_rfl : _ = some Tryz.t24) rfl rfl rfl rfl rfl ?_
  refine Ll.nil ?_
  refine Kt.sel [4] [_] rfl ?_
  refine Wk.ret (Kt.endBox (cs := #[i6_ n, str S, str R]) 1 rfl rfl rfl Tryz.isAgg24 Tryz.sizeOf24 fun w' hw => ?_)
  exact ⟨⟨n, S, R⟩, p0, rfl, ⟨⟨rfl, by dsimp only; omega, by dsimp only; rw [hR, show k = n.toNat from by omega]⟩, by omega⟩, hw.sub (List.Sublist.cons _ (List.Sublist.cons _ (List.Sublist.cons_cons _ (List.Sublist.refl _))))⟩
set_option maxHeartbeats 400000 in
/-- spec.l1Some -/
theorem l1Some_ok (B : Nat) (w0 : World) (hs : List (Nat × Obj)) (rp p : Nat) (bv : Value) (L : List Int) (w : World) (hb : ∀ w, Own B w0 hs w → Row w bv (u8s L)) (hL8 : Bytes8 L) (hL : L.length ≤ 2000) (hp : p ≤ 800000) (hw : Own B w0 ((rp, .cells #[bv, .int .i64 (p : Int)] 59 (0, 0)) :: hs) w) :
    Calls Tryz.prog 50 [pt_ rp].toArray w fun en w' => ∃ a : St, ∃ p' : Nat, en = .returned (vS a) ∧ ((a.Fine ∧ a.n ≤ 5) ∧ p' ≤ p + 200) ∧ Own B w0 (((rp, .cells #[bv, .int .i64 (p' : Int)] 59 (0, 0)) :: hs)) w' := by
 refine fnStartC (Own B w0 ((rp, .cells #[bv, .int .i64 (p : Int)] 59 (0, 0)) :: hs)) (n := 8) (e := [(0, pt_ rp)]) Tryz.func50 rfl rfl rfl rfl Ends.both hw ?_
 refine Wk.seq ?_
 refine Wk.region ?_
 refine Ll.alloc rfl rfl rfl rfl Tryz.zeroValue24 fun p2 hp2 => ?_
 show Ll _ _ (Own _ _ (bk_ p2 #[i6_ 0, str ([]), str ([])] 24 :: _ :: hs)) _ _ ((2, pt_ p2) :: _) _ _ _
 refine Ll.nil ?_
 refine Kt.sel [0, 2] [_, _] rfl ?_
 refine Wk.seq ?_
 refine Wk.region ?_
 refine Ll.run 2 rfl ?_
 refine Ll.slice (xs := [.const (i6_ 3), .const (i6_ 4), .const (i6_ 2), .const (i6_ 1), .const (i6_ 5), .const (i6_ 3)]) (vs := [i6_ 3, i6_ 4, i6_ 2, i6_ 1, i6_ 5, i6_ 3]) Base.elem28 rfl rfl rfl rfl rfl rfl (by decide) rfl fun p5 hp5 => ?_
 refine Ll.callRd (rp := rp) (RT := 59) (p := p) (bv := bv) (hs := hs) (ok := fun (v : Int) p' => v ∈ ([3, 4, 2, 1, 5, 3]) ∧ p' = p + 1) (v := fun (v : Int) => i6_ v) (new := fun (v : Int) => []) (xs := [.tmp 4, .tmp 5]) (vs := [pt_ rp, sl_ p5 6 6]) ([bk_ p5 #[i6_ 3, i6_ 4, i6_ 2, i6_ 1, i6_ 5, i6_ 3] 3, bk_ p2 #[i6_ 0, str ([]), str ([])] 24] : List (Nat × Obj)) rfl rfl rfl rfl Tryz.call11 rfl (fun w1 hw1 => (num_ok B w0 (([bk_ p5 #[i6_ 3, i6_ 4, i6_ 2, i6_ 1, i6_ 5, i6_ 3] 3, bk_ p2 #[i6_ 0, str ([]), str ([])] 24] : List (Nat × Obj)) ++ hs) rp p bv L (sl_ p5 6 6) ([3, 4, 2, 1, 5, 3]) w1 (fun w2 hw2 => hb w2 (Own.drop (f := ([bk_ p5 #[i6_ 3, i6_ 4, i6_ 2, i6_ 1, i6_ 5, i6_ 3] 3, bk_ p2 #[i6_ 0, str ([]), str ([])] 24] : List (Nat × Obj))) hw2)) hL8 hL (fun w2 h2 => (Own.row h2 (i := 0) rfl (n := 6) (cap := 6) (vs := ints [3, 4, 2, 1, 5, 3]) rfl rfl (by decide))) (by simp) (by omega) hw1).mono fun en w' ⟨v', p', h1, h2, h3⟩ => ⟨v', p', h1, h2, h3⟩) fun v6 p_6 hKp_6 => ?_
 show Ll _ _ (Own _ _ (_ :: _ :: _ :: hs)) _ _ ((6, i6_ v6) :: _) _ _ _
 obtain ⟨hmv6, hep_6⟩ := hKp_6
 have hvv6 : 1 ≤ v6 ∧ v6 ≤ 5 := by simp at hmv6; omega
 have hv6 : 1 ≤ v6 ∧ v6 ≤ 5 := by simp at hmv6; omega
 refine Ll.callRd (rp := rp) (RT := 59) (p := p_6) (bv := bv) (hs := hs) (ok := fun (a : St) p' => (a.n = v6 ∧ (a.set.length : Int) = v6 ∧ a.rel.length = v6.toNat * v6.toNat) ∧ p' ≤ p_6 + 100) (v := fun (a : St) => vS a) (new := fun (a : St) => []) (xs := [.tmp 3, .tmp 6]) (vs := [pt_ rp, i6_ v6]) ([bk_ p5 #[i6_ 3, i6_ 4, i6_ 2, i6_ 1, i6_ 5, i6_ 3] 3, bk_ p2 #[i6_ 0, str ([]), str ([])] 24] : List (Nat × Obj)) rfl rfl rfl rfl Tryz.call53 rfl (fun w1 hw1 => (l1Draw_ok B w0 (([bk_ p5 #[i6_ 3, i6_ 4, i6_ 2, i6_ 1, i6_ 5, i6_ 3] 3, bk_ p2 #[i6_ 0, str ([]), str ([])] 24] : List (Nat × Obj)) ++ hs) rp p_6 bv L v6 w1 (fun w2 hw2 => hb w2 (Own.drop (f := ([bk_ p5 #[i6_ 3, i6_ 4, i6_ 2, i6_ 1, i6_ 5, i6_ 3] 3, bk_ p2 #[i6_ 0, str ([]), str ([])] 24] : List (Nat × Obj))) hw2)) hL8 hL (by omega) (by omega) (by omega) hw1).mono fun en w' ⟨a', p', h1, h2, h3⟩ => ⟨a', p', h1, h2, h3⟩) fun a7 p_7 hKp_7 => ?_
 show Ll _ _ (Own _ _ (_ :: _ :: _ :: hs)) _ _ ((7, vS a7) :: _) _ _ _
 obtain ⟨⟨hna7, hsa7, hra7⟩, hep_7⟩ := hKp_7
 refine Ll.storeBox (cs' := #[i6_ a7.n, str a7.set, str a7.rel]) (hs' := (_ :: bk_ p2 #[i6_ a7.n, str a7.set, str a7.rel] 24 :: _ :: hs)) 1 rfl rfl rfl rfl rfl (by kernel_rfl : _ = some Tryz.t24) rfl rfl rfl rfl rfl ?_
 refine Ll.nil ?_
 refine Kt.sel [2] [_] rfl ?_
 refine Wk.ret (Kt.endBox (cs := #[i6_ a7.n, str a7.set, str a7.rel]) 1 rfl rfl rfl Tryz.isAgg24 Tryz.sizeOf24 fun w' hw => ?_)
 exact ⟨a7, p_7, rfl, ⟨⟨⟨by omega, by omega, by omega, by rw [hra7, hna7]; exact sq_cast (by omega)⟩, by omega⟩, by omega⟩, hw.sub (List.Sublist.cons _ (List.Sublist.cons _ (List.Sublist.cons_cons _ (List.Sublist.refl _))))⟩
set_option maxHeartbeats 400000 in
/-- spec.l1Shuffle -/
theorem shuffle_ok (B : Nat) (w0 : World) (hs : List (Nat × Obj)) (rp p : Nat) (bv : Value) (L : List Int) (n : Int) (w : World) (hb : ∀ w, Own B w0 hs w → Row w bv (u8s L)) (hL8 : Bytes8 L) (hL : L.length ≤ 2000) (hn0 : 0 ≤ n) (hn8 : n ≤ 8) (hp : p ≤ 900000) (hw : Own B w0 ((rp, .cells #[bv, .int .i64 (p : Int)] 59 (0, 0)) :: hs) w) :
    Calls Tryz.prog 51 [pt_ rp, i6_ n].toArray w fun en w' => ∃ g : Nat, ∃ c : Nat, ∃ u : Array Value, ∃ xs : List Int, ∃ p' : Nat, en = .returned (sl_ g xs.length c) ∧ ((u.size = c * 1 ∧ xs.length ≤ c ∧ u.toList.take xs.length = ints xs) ∧ (xs.length = n.toNat ∧ ∀ x ∈ xs, 0 ≤ x ∧ x < n) ∧ p' ≤ p + 10) ∧ Own B w0 ([bk_ g u 3] ++ ((rp, .cells #[bv, .int .i64 (p' : Int)] 59 (0, 0)) :: hs)) w' := by
 refine fnStartC (Own B w0 ((rp, .cells #[bv, .int .i64 (p : Int)] 59 (0, 0)) :: hs)) (n := 32) (e := [(0, pt_ rp), (1, i6_ n)]) Tryz.func51 rfl rfl rfl rfl Ends.both hw ?_
 refine Wk.seq ?_
 refine Wk.regionQ ?_
 refine Lq.run 1 rfl ?_
 refine Lq.nil ?_
 refine Kt.sel [0, 1] [_, _] rfl ?_
 refine Wk.seq ?_
 refine Wk.region ?_
 refine Ll.slice (xs := []) (vs := []) Base.elem28 rfl rfl rfl rfl rfl rfl (by decide) rfl fun p8 hp8 => ?_
 refine Ll.run 1 rfl ?_
 refine Ll.nil ?_
 refine Kt.sel [0, 1, 5] [_, _, _] rfl ?_
 refine Wk.seq ?_
 refine Wk.seq ?_
 refine Wk.regionQ ?_
 refine Lq.run 1 rfl ?_
 refine Lq.nil ?_
 refine Kt.sel [0, 1, 5, 6] [_, _, _, _] rfl ?_
 refine Wk.block ?_
 refine Wk.loop (σ := Nat × Nat × Nat × Array Value × List Int × Nat) (fun ⟨k, g, c, u, xs, p0⟩ => (k : Int) ≤ n ∧ (u.size = c * 1 ∧ xs.length ≤ c ∧ u.toList.take xs.length = ints xs) ∧ (xs.length = k ∧ ∀ x ∈ xs, 0 ≤ x ∧ x < (k : Int)) ∧ p0 ≤ p + k) (fun ⟨k, g, c, u, xs, p0⟩ => [(0, pt_ rp), (1, i6_ n), (5, sl_ g xs.length c), (6, i6_ ((k : Int)))]) (fun ⟨k, g, c, u, xs, p0⟩ => Own B w0 (bk_ g u 3 :: bk_ rp #[bv, i6_ ((p0 : Int))] 59 :: hs)) (fun ⟨k, g, c, u, xs, p0⟩ => (n - k).toNat) ((0, p8, 0, #[], [], p)) ⟨by omega, ⟨rfl, Nat.le_refl 0, rfl⟩, ⟨rfl, fun x hx => by cases hx⟩, by omega⟩ (Sub.sel [0, 1, 5, 6] rfl) (fun _ h => h) ?_
 rintro ⟨k, g, c, u, xs, p0⟩ ⟨hk, ⟨hcg, hlg, htg⟩, ⟨hxl, hxr⟩, hp0⟩
 dsimp only
 refine Wk.seq ?_
 refine Wk.seq ?_
 refine Wk.regionQ ?_
 refine Lq.run 3 rfl ?_
 refine Lq.nil ?_
 refine Kt.sel [0, 1, 5, 6, 11] [_, _, _, _, _] rfl ?_
 refine Wk.cond (b := decide (((k : Int)) < n)) rfl (fun h11 => ?_) (fun h11 => ?_)
 ·
  replace h11 := of_decide_eq_true h11
  have hxl8 : xs.length ≤ 8 := by omega
  refine Wk.skip ?_
  refine Kt.sel [0, 1, 5, 6] [_, _, _, _] rfl ?_
  refine Wk.seq ?_
  refine Wk.block ?_
  refine Wk.seq ?_
  refine Wk.region ?_
  refine Ll.run 2 rfl ?_
  refine Ll.op rfl rfl rfl (OpQ.lenS rfl Tryz.runUnderlying28 rfl) ?_
  refine Ll.op rfl rfl rfl (OpQ.add rfl rfl rfl (by omega) (by omega)) ?_
  refine Ll.callRd (rp := rp) (RT := 59) (p := p0) (bv := bv) (hs := hs) (ok := fun (k : Int) p' => 0 ≤ k ∧ (1 ≤ (((xs.length : Int)) + (1 : Int)) → k < (((xs.length : Int)) + (1 : Int))) ∧ p' = p0 + 1) (v := fun (k : Int) => i6_ k) (new := fun (k : Int) => []) (xs := [.tmp 14, .tmp 17]) (vs := [pt_ rp, i6_ (((xs.length : Int)) + (1 : Int))]) ([bk_ g u 3] : List (Nat × Obj)) rfl rfl rfl rfl Tryz.call33 rfl (fun w1 hw1 => (pick_ok B w0 (([bk_ g u 3] : List (Nat × Obj)) ++ hs) rp p0 bv L (((xs.length : Int)) + (1 : Int)) w1 (fun w2 hw2 => hb w2 (Own.drop (f := ([bk_ g u 3] : List (Nat × Obj))) hw2)) hL8 hL (by omega) hw1).mono fun en w' ⟨k', p', h1, h2, h3⟩ => ⟨k', p', h1, h2, h3⟩) fun k18 p_18 hKp_18 => ?_
  show Ll _ _ (Own _ _ (_ :: _ :: hs)) _ _ ((18, i6_ k18) :: _) _ _ _
  obtain ⟨h0k18, h1k18, hep_18⟩ := hKp_18
  try have hltk18 := h1k18 (by first | omega | (split <;> omega) | decide)
  refine Ll.run 1 rfl ?_
  refine Ll.nil ?_
  refine Kt.sel [0, 1, 5, 6, 7] [_, _, _, _, _] rfl ?_
  refine Wk.regionU (S := Own B w0 [bk_ g u 3, bk_ rp #[bv, i6_ ((p_18 : Int))] 59]) (.take 1 (.take 2 (.take 3 (.take 5 (.take 8 (.take 9 (.take 10 (.two 0 (.two 4 (.one 6 (.one 7 (.one 11 (.take 12 .done)))) 6 (.one 4 (.one 7 (.one 11 (.take 12 .done))))) 6 (.one 0 (.one 4 (.one 7 (.one 11 (.take 12 .done))))))))))))) Base.mixed (fun _ h => h.drawn) (by kernel_rfl) ?_
  refine Lu.run 2 rfl (pk [0, 1] rfl rfl) ?_
  refine Lu.take (v := sl_ g ((k18).toNat) c) rfl rfl rfl rfl rfl (OpQ.takeS (i := k18) rfl Tryz.runUnderlying28 Tryz.sizeOf3 rfl rfl (by omega) (by omega)) (pk [0, 1] rfl rfl) ?_
  refine Lu.run 3 rfl (pk [0, 1] rfl rfl) ?_
  refine Lu.take (v := .slice (some ⟨g, (dropOff (k18).toNat c), none⟩) (xs.length - (k18).toNat) (c - (k18).toNat)) rfl rfl rfl rfl rfl (OpQ.dropE rfl Tryz.runUnderlying28 Tryz.sizeOf3 rfl rfl (by omega) (by omega) (by omega)) (pk [0, 1] rfl rfl) ?_
  refine Lu.two rfl rfl ?_ ?_
  ·
   refine Ll.slice (xs := []) (vs := []) Base.elem28 rfl rfl rfl rfl rfl rfl (by decide) rfl fun p19 hp19 => ?_
   refine Ll.nil (Lu.joint (pk [1, 2] rfl rfl) ?_)
   refine Lu.two rfl rfl ?_ ?_
   ·
    refine Ll.appendInts (xs := []) (ys := (xs).take ((k18).toNat)) Base.elem28 0 rfl rfl rfl rfl rfl rfl rfl rfl (by decide) rfl (fun w1 hw1 => (Own.rowTake hw1 (i := 1) rfl htg (by omega) hlg)) (((xs).take ((k18).toNat)).length) (by first | (simp; done) | (simp; omega)) (by first | (simp; done) | (simp; omega) | omega) fun p23 cap23 cur23 hp23 hcp23 hlp23 htp23 => ?_
    show Ll _ _ (Own _ _ (_ :: _ :: _ :: hs)) _ _ ((23, sl_ p23 ((((xs).take ((k18).toNat)).length)) cap23) :: _) _ _ _
    refine Ll.nil (Lu.joint (pk [1, 2] rfl rfl) ?_)
    refine Lu.loud rfl ?_
    refine Ll.slice (xs := [.tmp 24]) (vs := [i6_ ((k : Int))]) Base.elem28 rfl rfl rfl rfl rfl rfl (by decide) rfl fun p25 hp25 => ?_
    refine Ll.nil (Lu.joint (pk [2, 3] rfl rfl) ?_)
    refine Lu.loud rfl ?_
    refine Ll.appendInts (xs := (xs).take ((k18).toNat)) (ys := [(k : Int)]) Base.elem28 1 rfl rfl rfl rfl rfl rfl rfl hcp23 hlp23 (by simpa using htp23) (fun w1 hw1 => (Own.row hw1 (i := 0) rfl (n := 1) (cap := 1) (vs := ints [(k : Int)]) rfl rfl (by decide))) ((((xs).take ((k18).toNat)) ++ ([(k : Int)])).length) (by first | (simp; done) | (simp; omega)) (by first | (simp; done) | (simp; omega) | omega) fun p26 cap26 cur26 hp26 hcp26 hlp26 htp26 => ?_
    show Ll _ _ (Own _ _ (_ :: _ :: _ :: _ :: hs)) _ _ ((26, sl_ p26 (((((xs).take ((k18).toNat)) ++ ([(k : Int)])).length)) cap26) :: _) _ _ _
    refine Ll.nil (Lu.joint (pk [2, 3] rfl rfl) ?_)
    refine Lu.loud rfl ?_
    refine Ll.appendInts (xs := ((xs).take ((k18).toNat)) ++ ([(k : Int)])) (ys := xs.drop (k18).toNat) Base.elem28 1 rfl rfl rfl rfl rfl rfl rfl hcp26 hlp26 (by simpa using htp26) (fun w1 hw1 => (Own.rowDropE hw1 (i := 2) rfl htg (by omega) hlg)) (((((xs).take ((k18).toNat)) ++ ([(k : Int)])) ++ (xs.drop (k18).toNat)).length) (by first | (simp; done) | (simp; omega)) (by first | (simp; done) | (simp; omega) | omega) fun p30 cap30 cur30 hp30 hcp30 hlp30 htp30 => ?_
    show Ll _ _ (Own _ _ (_ :: _ :: _ :: _ :: hs)) _ _ ((30, sl_ p30 ((((((xs).take ((k18).toNat)) ++ ([(k : Int)])) ++ (xs.drop (k18).toNat)).length)) cap30) :: _) _ _ _
    refine Ll.nil (Lu.joint (pk [2, 3] rfl rfl) ?_)
    refine Lu.run 1 rfl (pk [2, 3] rfl rfl) ?_
    refine Lu.nil ?_
    refine Kt.sel [0, 1, 5, 6] [_, _, _, _] rfl ?_
    refine Wk.regionQ ?_
    refine Lq.run 1 rfl ?_
    refine Lq.op rfl rfl rfl (OpQ.add rfl rfl rfl (by omega) (by omega)) ?_
    refine Lq.run 1 rfl ?_
    refine Lq.nil ?_
    refine Kt.again ((k + 1, p30, cap30, cur30, (((xs).take ((k18).toNat)) ++ ([(k : Int)])) ++ (xs.drop (k18).toNat), p_18)) ⟨by omega, ⟨by simpa using hcp30, hlp30, by simpa using (by simpa using htp30)⟩, ⟨by (try dsimp only); simp; omega, shuf_all hxr⟩, by (try dsimp only); omega⟩ (by omega) (Sub.sel [0, 1, 5, 6] rfl) (fun _ h => h.sub (List.Sublist.cons _ (List.Sublist.cons_cons _ (List.Sublist.cons _ (List.Sublist.cons_cons _ (List.Sublist.refl _))))))
   ·
    refine Ll.slice (xs := [.tmp 24]) (vs := [i6_ ((k : Int))]) Base.elem28 rfl rfl rfl rfl rfl rfl (by decide) rfl fun p25_1 hp25_1 => ?_
    refine Ll.nil (Lu.joint (pk [2, 3] rfl rfl) ?_)
    refine Lu.loud rfl ?_
    refine Ll.appendInts (xs := []) (ys := (xs).take ((k18).toNat)) Base.elem28 1 rfl rfl rfl rfl rfl rfl rfl rfl (by decide) rfl (fun w1 hw1 => (Own.rowTake hw1 (i := 2) rfl htg (by omega) hlg)) (((xs).take ((k18).toNat)).length) (by first | (simp; done) | (simp; omega)) (by first | (simp; done) | (simp; omega) | omega) fun p23_1 cap23_1 cur23_1 hp23_1 hcp23_1 hlp23_1 htp23_1 => ?_
    show Ll _ _ (Own _ _ (_ :: _ :: _ :: _ :: hs)) _ _ ((23, sl_ p23_1 ((((xs).take ((k18).toNat)).length)) cap23_1) :: _) _ _ _
    refine Ll.nil (Lu.joint (pk [2, 3] rfl rfl) ?_)
    refine Lu.loud rfl ?_
    refine Ll.appendInts (xs := (xs).take ((k18).toNat)) (ys := [(k : Int)]) Base.elem28 1 rfl rfl rfl rfl rfl rfl rfl hcp23_1 hlp23_1 (by simpa using htp23_1) (fun w1 hw1 => (Own.row hw1 (i := 0) rfl (n := 1) (cap := 1) (vs := ints [(k : Int)]) rfl rfl (by decide))) ((((xs).take ((k18).toNat)) ++ ([(k : Int)])).length) (by first | (simp; done) | (simp; omega)) (by first | (simp; done) | (simp; omega) | omega) fun p26_1 cap26_1 cur26_1 hp26_1 hcp26_1 hlp26_1 htp26_1 => ?_
    show Ll _ _ (Own _ _ (_ :: _ :: _ :: _ :: hs)) _ _ ((26, sl_ p26_1 (((((xs).take ((k18).toNat)) ++ ([(k : Int)])).length)) cap26_1) :: _) _ _ _
    refine Ll.nil (Lu.joint (pk [2, 3] rfl rfl) ?_)
    refine Lu.loud rfl ?_
    refine Ll.appendInts (xs := ((xs).take ((k18).toNat)) ++ ([(k : Int)])) (ys := xs.drop (k18).toNat) Base.elem28 1 rfl rfl rfl rfl rfl rfl rfl hcp26_1 hlp26_1 (by simpa using htp26_1) (fun w1 hw1 => (Own.rowDropE hw1 (i := 2) rfl htg (by omega) hlg)) (((((xs).take ((k18).toNat)) ++ ([(k : Int)])) ++ (xs.drop (k18).toNat)).length) (by first | (simp; done) | (simp; omega)) (by first | (simp; done) | (simp; omega) | omega) fun p30_1 cap30_1 cur30_1 hp30_1 hcp30_1 hlp30_1 htp30_1 => ?_
    show Ll _ _ (Own _ _ (_ :: _ :: _ :: _ :: hs)) _ _ ((30, sl_ p30_1 ((((((xs).take ((k18).toNat)) ++ ([(k : Int)])) ++ (xs.drop (k18).toNat)).length)) cap30_1) :: _) _ _ _
    refine Ll.nil (Lu.joint (pk [2, 3] rfl rfl) ?_)
    refine Lu.run 1 rfl (pk [2, 3] rfl rfl) ?_
    refine Lu.nil ?_
    refine Kt.sel [0, 1, 5, 6] [_, _, _, _] rfl ?_
    refine Wk.regionQ ?_
    refine Lq.run 1 rfl ?_
    refine Lq.op rfl rfl rfl (OpQ.add rfl rfl rfl (by omega) (by omega)) ?_
    refine Lq.run 1 rfl ?_
    refine Lq.nil ?_
    refine Kt.again ((k + 1, p30_1, cap30_1, cur30_1, (((xs).take ((k18).toNat)) ++ ([(k : Int)])) ++ (xs.drop (k18).toNat), p_18)) ⟨by omega, ⟨by simpa using hcp30_1, hlp30_1, by simpa using (by simpa using htp30_1)⟩, ⟨by (try dsimp only); simp; omega, shuf_all hxr⟩, by (try dsimp only); omega⟩ (by omega) (Sub.sel [0, 1, 5, 6] rfl) (fun _ h => h.sub (List.Sublist.cons _ (List.Sublist.cons_cons _ (List.Sublist.cons _ (List.Sublist.cons_cons _ (List.Sublist.refl _))))))
  ·
   refine Ll.slice (xs := [.tmp 24]) (vs := [i6_ ((k : Int))]) Base.elem28 rfl rfl rfl rfl rfl rfl (by decide) rfl fun p25_2 hp25_2 => ?_
   refine Ll.nil (Lu.joint (pk [1, 2] rfl rfl) ?_)
   refine Lu.loud rfl ?_
   refine Ll.slice (xs := []) (vs := []) Base.elem28 rfl rfl rfl rfl rfl rfl (by decide) rfl fun p19_1 hp19_1 => ?_
   refine Ll.nil (Lu.joint (pk [2, 3] rfl rfl) ?_)
   refine Lu.loud rfl ?_
   refine Ll.appendInts (xs := []) (ys := (xs).take ((k18).toNat)) Base.elem28 0 rfl rfl rfl rfl rfl rfl rfl rfl (by decide) rfl (fun w1 hw1 => (Own.rowTake hw1 (i := 2) rfl htg (by omega) hlg)) (((xs).take ((k18).toNat)).length) (by first | (simp; done) | (simp; omega)) (by first | (simp; done) | (simp; omega) | omega) fun p23_2 cap23_2 cur23_2 hp23_2 hcp23_2 hlp23_2 htp23_2 => ?_
   show Ll _ _ (Own _ _ (_ :: _ :: _ :: _ :: hs)) _ _ ((23, sl_ p23_2 ((((xs).take ((k18).toNat)).length)) cap23_2) :: _) _ _ _
   refine Ll.nil (Lu.joint (pk [2, 3] rfl rfl) ?_)
   refine Lu.loud rfl ?_
   refine Ll.appendInts (xs := (xs).take ((k18).toNat)) (ys := [(k : Int)]) Base.elem28 0 rfl rfl rfl rfl rfl rfl rfl hcp23_2 hlp23_2 (by simpa using htp23_2) (fun w1 hw1 => (Own.row hw1 (i := 1) rfl (n := 1) (cap := 1) (vs := ints [(k : Int)]) rfl rfl (by decide))) ((((xs).take ((k18).toNat)) ++ ([(k : Int)])).length) (by first | (simp; done) | (simp; omega)) (by first | (simp; done) | (simp; omega) | omega) fun p26_2 cap26_2 cur26_2 hp26_2 hcp26_2 hlp26_2 htp26_2 => ?_
   show Ll _ _ (Own _ _ (_ :: _ :: _ :: _ :: hs)) _ _ ((26, sl_ p26_2 (((((xs).take ((k18).toNat)) ++ ([(k : Int)])).length)) cap26_2) :: _) _ _ _
   refine Ll.nil (Lu.joint (pk [2, 3] rfl rfl) ?_)
   refine Lu.loud rfl ?_
   refine Ll.appendInts (xs := ((xs).take ((k18).toNat)) ++ ([(k : Int)])) (ys := xs.drop (k18).toNat) Base.elem28 0 rfl rfl rfl rfl rfl rfl rfl hcp26_2 hlp26_2 (by simpa using htp26_2) (fun w1 hw1 => (Own.rowDropE hw1 (i := 2) rfl htg (by omega) hlg)) (((((xs).take ((k18).toNat)) ++ ([(k : Int)])) ++ (xs.drop (k18).toNat)).length) (by first | (simp; done) | (simp; omega)) (by first | (simp; done) | (simp; omega) | omega) fun p30_2 cap30_2 cur30_2 hp30_2 hcp30_2 hlp30_2 htp30_2 => ?_
   show Ll _ _ (Own _ _ (_ :: _ :: _ :: _ :: hs)) _ _ ((30, sl_ p30_2 ((((((xs).take ((k18).toNat)) ++ ([(k : Int)])) ++ (xs.drop (k18).toNat)).length)) cap30_2) :: _) _ _ _
   refine Ll.nil (Lu.joint (pk [2, 3] rfl rfl) ?_)
   refine Lu.run 1 rfl (pk [2, 3] rfl rfl) ?_
   refine Lu.nil ?_
   refine Kt.sel [0, 1, 5, 6] [_, _, _, _] rfl ?_
   refine Wk.regionQ ?_
   refine Lq.run 1 rfl ?_
   refine Lq.op rfl rfl rfl (OpQ.add rfl rfl rfl (by omega) (by omega)) ?_
   refine Lq.run 1 rfl ?_
   refine Lq.nil ?_
   refine Kt.again ((k + 1, p30_2, cap30_2, cur30_2, (((xs).take ((k18).toNat)) ++ ([(k : Int)])) ++ (xs.drop (k18).toNat), p_18)) ⟨by omega, ⟨by simpa using hcp30_2, hlp30_2, by simpa using (by simpa using htp30_2)⟩, ⟨by (try dsimp only); simp; omega, shuf_all hxr⟩, by (try dsimp only); omega⟩ (by omega) (Sub.sel [0, 1, 5, 6] rfl) (fun _ h => h.sub (List.Sublist.cons_cons _ (List.Sublist.cons _ (List.Sublist.cons _ (List.Sublist.cons_cons _ (List.Sublist.refl _))))))
 ·
  replace h11 := of_decide_eq_false h11
  refine Wk.exit rfl ?_
  refine Kt.sel [5] [_] rfl ?_
  refine Wk.seq ?_
  refine Wk.regionQ ?_
  refine Lq.run 2 rfl ?_
  refine Lq.nil ?_
  refine Kt.sel [4] [_] rfl ?_
  refine Wk.ret (Kt.end1 rfl rfl fun w' hw => ?_)
  exact ⟨g, c, u, xs, p0, rfl, ⟨⟨by simpa using hcg, hlg, by simpa using htg⟩, ⟨by omega, fun x hx => by have := hxr x hx; omega⟩, by omega⟩, hw.sub (List.Sublist.cons_cons _ (List.Sublist.cons_cons _ (List.Sublist.refl _)))⟩
set_option maxHeartbeats 400000 in
/-- spec.l1Part -/
theorem part_ok (a : St) (va : Value) (xs : List Int) (w : World) (ha : a.Fine) (hva : Ints w va xs) (hA : a.Els xs) (h8 : xs.length ≤ 8) :
    Calls Tryz.prog 32 [vS a, va].toArray w fun en w' => ∃ b : St, en = .returned (vS b) ∧ (b.n = xs.length ∧ (b.set.length : Int) = xs.length ∧ b.rel.length = xs.length * xs.length) ∧ Below w.heap.size w w' := by
 refine fnStart (n := 50) (e := [(0, vS a), (1, va)]) Tryz.func32 rfl rfl rfl rfl Ends.both ?_
 refine Wk.seq ?_
 refine Wk.region ?_
 refine Ll.box (v := vS a) rfl rfl rfl rfl rfl fun p2 hp2 => ?_
 show Ll _ _ (Own _ _ [_]) _ _ ((2, pt_ p2) :: _) _ _ _
 refine Ll.alloc rfl rfl rfl rfl Tryz.zeroValue24 fun p4 hp4 => ?_
 show Ll _ _ (Own _ _ [bk_ p4 #[i6_ 0, str ([]), str ([])] 24, _]) _ _ ((4, pt_ p4) :: _) _ _ _
 refine Ll.nil ?_
 refine Kt.sel [1, 2, 4] [_, _, _] rfl ?_
 refine Wk.seq ?_
 refine Wk.region ?_
 refine Ll.run 1 rfl ?_
 refine Ll.op (v := i6_ ((xs.length : Int))) rfl rfl rfl (OpQ.lenRow rfl Tryz.runUnderlying28 rfl (ints_length _) (fun w1 hw1 => Row.own hva hw1)) ?_
 refine Ll.op (v := .agg #[i6_ ((xs.length : Int)), str ([]), str ([])]) rfl rfl rfl (OpQ.build (xs := [.tmp 9]) (vs := [i6_ ((xs.length : Int))]) rfl rfl (by kernel_rfl)) ?_
 refine Ll.alloc rfl rfl rfl rfl Tryz.zeroValue24 fun p5 hp5 => ?_
 show Ll _ _ (Own _ _ [bk_ p5 #[i6_ 0, str ([]), str ([])] 24, _, _]) _ _ ((5, pt_ p5) :: _) _ _ _
 refine Ll.storeBox (cs' := #[i6_ ((xs.length : Int)), str ([]), str ([])]) (hs' := [bk_ p5 #[i6_ ((xs.length : Int)), str ([]), str ([])] 24, _, _]) 0 rfl rfl rfl rfl rfl (by kernel_rfl : _ = some Tryz.t24) rfl rfl rfl rfl rfl ?_
 refine Ll.nil ?_
 refine Kt.sel [1, 2, 4, 5] [_, _, _, _] rfl ?_
 refine Wk.seq ?_
 refine Wk.seq ?_
 refine Wk.regionQ ?_
 refine Lq.run 1 rfl ?_
 refine Lq.nil ?_
 refine Kt.sel [1, 2, 4, 5, 6] [_, _, _, _, _] rfl ?_
 refine Wk.block ?_
 refine Wk.loop (σ := Nat × List UInt8 × List UInt8) (fun ⟨k, S, R⟩ => k ≤ xs.length ∧ S.length = k ∧ R.length = k * xs.length) (fun ⟨k, S, R⟩ => [(1, va), (2, pt_ p2), (4, pt_ p4), (5, pt_ p5), (6, i6_ ((k : Int)))]) (fun ⟨k, S, R⟩ => Own w.heap.size w [bk_ p5 #[i6_ ((xs.length : Int)), str S, str R] 24, bk_ p4 #[i6_ 0, str ([]), str ([])] 24, bk_ p2 #[i6_ a.n, str a.set, str a.rel] 24]) (fun ⟨k, S, R⟩ => xs.length - k) ((0, [], [])) ⟨by omega, rfl, by simp⟩ (Sub.sel [1, 2, 4, 5, 6] rfl) (fun _ h => h) ?_
 rintro ⟨k, S, R⟩ ⟨hk, hS, hR⟩
 dsimp only
 have hkn : k * xs.length ≤ 8 * 8 := Nat.mul_le_mul (by omega) (by omega)
 refine Wk.seq ?_
 refine Wk.seq ?_
 refine Wk.regionQ ?_
 refine Lq.run 2 rfl ?_
 refine Lq.op (v := i6_ ((xs.length : Int))) rfl rfl rfl (OpQ.lenRow rfl Tryz.runUnderlying28 rfl (ints_length _) (fun w1 hw1 => Row.own hva hw1)) ?_
 refine Lq.run 1 rfl ?_
 refine Lq.nil ?_
 refine Kt.sel [1, 2, 4, 5, 6, 14] [_, _, _, _, _, _] rfl ?_
 refine Wk.cond (b := decide (((k : Int)) < ((xs.length : Int)))) rfl (fun h14 => ?_) (fun h14 => ?_)
 ·
  replace h14 := of_decide_eq_true h14
  refine Wk.skip ?_
  refine Kt.sel [1, 2, 4, 5, 6] [_, _, _, _, _] rfl ?_
  refine Wk.seq ?_
  refine Wk.block ?_
  refine Wk.seq ?_
  refine Wk.regionU (S := Own w.heap.size w [bk_ p4 #[i6_ 0, str ([]), str ([])] 24, bk_ p2 #[i6_ a.n, str a.set, str a.rel] 24]) (.take 0 (.take 2 (.take 3 (.take 4 (.take 5 (.take 6 (.two 1 (.one 7 (.one 8 (.take 9 (.take 10 (.one 11 .done))))) 7 (.two 1 (.one 8 (.take 9 (.take 10 (.one 11 .done)))) 8 (.one 1 (.take 9 (.take 10 (.one 11 .done)))))))))))) Base.mixed (fun _ h => h.drawn) (by kernel_rfl) ?_
  refine Lu.take rfl rfl rfl rfl rfl (OpQ.fieldAddr rfl Tryz.runUnderlying24 rfl Tryz.sizeOf9 rfl rfl) (fun _ h => h.tail) ?_
  refine Lu.take rfl rfl rfl rfl rfl (OpQ.loadBox (cs := #[i6_ a.n, str a.set, str a.rel]) 1 rfl Tryz.isAgg24 rfl rfl Tryz.sizeOf24) (fun _ h => h.tail) ?_
  refine Lu.run 2 rfl (fun _ h => h.tail) ?_
  refine Lu.take (v := .pointer (some (sAt va ((k : Int))))) rfl rfl rfl rfl rfl (OpQ.atRow rfl Tryz.runUnderlying28 Tryz.sizeOf3 rfl rfl (by omega) (by rw [ints_length]; omega) (fun w1 hw1 => Row.own hva hw1)) (fun _ h => h.tail) ?_
  refine Lu.take (v := i6_ (xs.getD (((k : Int)).toNat) 0)) rfl rfl rfl rfl rfl (OpQ.load1 rfl Tryz.isAgg3 rfl (fun w1 hw1 => Ints.cell (Row.own hva hw1) (by omega) (by omega))) (fun _ h => h.tail) ?_
  refine Lu.two rfl rfl ?_ ?_
  ·
   refine Ll.op rfl rfl rfl (OpQ.loadOwn 0 rfl Tryz.isAgg9 rfl rfl rfl) ?_
   refine Ll.nil (Lu.joint (fun _ h => h.tail) ?_)
   refine Lu.loud rfl ?_
   refine Ll.op (v := bo_ (a.inSet (xs.getD (((k : Int)).toNat) 0))) rfl rfl rfl (OpQ.call rfl Tryz.call55 rfl Own.stable (fun w1 hw1 => l1Set_ok a (xs.getD (((k : Int)).toNat) 0) w1 ha (by first | assumption | exact St.Els.at (by assumption) (by omega) (by omega)))) ?_
   refine Ll.nil (Lu.joint (fun _ h => h.tail) ?_)
   refine Lu.loud rfl ?_
   refine Ll.op (v := str ((if a.inSet (xs.getD (((k : Int)).toNat) 0) then [49] else [48]))) rfl rfl rfl (OpQ.call rfl Tryz.call54 rfl Own.stable (fun w1 hw1 => bitD_ok (a.inSet (xs.getD (((k : Int)).toNat) 0)) w1 )) ?_
   refine Ll.nil (Lu.joint (fun _ h => h.tail) ?_)
   refine Lu.take rfl rfl rfl rfl rfl (OpQ.sadd rfl rfl rfl (by first | (rw [bit_len]; omega) | omega)) (fun _ h => h.tail) ?_
   refine Lu.take rfl rfl rfl rfl rfl (OpQ.fieldAddr rfl Tryz.runUnderlying24 rfl Tryz.sizeOf9 rfl rfl) (fun _ h => h.tail) ?_
   refine Lu.loud rfl ?_
   refine Ll.store1 (v := str (S ++ ((if a.inSet (xs.getD (((k : Int)).toNat) 0) then [49] else [48])))) (hs' := [bk_ p5 #[i6_ ((xs.length : Int)), str (S ++ ((if a.inSet (xs.getD (((k : Int)).toNat) 0) then [49] else [48]))), str R] 24, _, _]) 0 rfl rfl rfl rfl rfl rfl Tryz.sizeOf9 rfl (by simp) rfl ?_
   refine Ll.nil (Lu.joint (fun _ h => h.tail) ?_)
   refine Lu.nil ?_
   refine Kt.sel [1, 2, 4, 5, 6] [_, _, _, _, _] rfl ?_
   refine Wk.seq ?_
   refine Wk.regionQ ?_
   refine Lq.run 1 rfl ?_
   refine Lq.nil ?_
   refine Kt.sel [1, 2, 4, 5, 6, 7] [_, _, _, _, _, _] rfl ?_
   refine Wk.block ?_
   refine Wk.loop (σ := Nat × List UInt8) (fun ⟨j, R1⟩ => j ≤ xs.length ∧ R1.length = k * xs.length + j) (fun ⟨j, R1⟩ => [(1, va), (2, pt_ p2), (4, pt_ p4), (5, pt_ p5), (6, i6_ ((k : Int))), (7, i6_ ((j : Int)))]) (fun ⟨j, R1⟩ => Own w.heap.size w [bk_ p5 #[i6_ ((xs.length : Int)), str (S ++ ((if a.inSet (xs.getD (((k : Int)).toNat) 0) then [49] else [48]))), str R1] 24, bk_ p4 #[i6_ 0, str ([]), str ([])] 24, bk_ p2 #[i6_ a.n, str a.set, str a.rel] 24]) (fun ⟨j, R1⟩ => xs.length - j) ((0, R)) ⟨by omega, by omega⟩ (Sub.sel [1, 2, 4, 5, 6, 7] rfl) (fun _ h => h) ?_
   rintro ⟨j, R1⟩ ⟨hj, hR1⟩
   dsimp only
   refine Wk.seq ?_
   refine Wk.seq ?_
   refine Wk.regionQ ?_
   refine Lq.run 2 rfl ?_
   refine Lq.op (v := i6_ ((xs.length : Int))) rfl rfl rfl (OpQ.lenRow rfl Tryz.runUnderlying28 rfl (ints_length _) (fun w1 hw1 => Row.own hva hw1)) ?_
   refine Lq.run 1 rfl ?_
   refine Lq.nil ?_
   refine Kt.sel [1, 2, 4, 5, 6, 7, 31] [_, _, _, _, _, _, _] rfl ?_
   refine Wk.cond (b := decide (((j : Int)) < ((xs.length : Int)))) rfl (fun h31 => ?_) (fun h31 => ?_)
   ·
    replace h31 := of_decide_eq_true h31
    refine Wk.skip ?_
    refine Kt.sel [1, 2, 4, 5, 6, 7] [_, _, _, _, _, _] rfl ?_
    refine Wk.seq ?_
    refine Wk.block ?_
    refine Wk.regionU (S := Own w.heap.size w [bk_ p4 #[i6_ 0, str ([]), str ([])] 24, bk_ p2 #[i6_ a.n, str a.set, str a.rel] 24]) (.take 0 (.take 2 (.take 3 (.take 4 (.take 5 (.take 6 (.take 7 (.take 8 (.take 9 (.take 10 (.two 1 (.one 11 (.one 12 (.take 13 (.take 14 (.one 15 .done))))) 11 (.two 1 (.one 12 (.take 13 (.take 14 (.one 15 .done)))) 12 (.one 1 (.take 13 (.take 14 (.one 15 .done)))))))))))))))) Base.mixed (fun _ h => h.drawn) (by kernel_rfl) ?_
    refine Lu.take rfl rfl rfl rfl rfl (OpQ.fieldAddr rfl Tryz.runUnderlying24 rfl Tryz.sizeOf9 rfl rfl) (fun _ h => h.tail) ?_
    refine Lu.take rfl rfl rfl rfl rfl (OpQ.loadBox (cs := #[i6_ a.n, str a.set, str a.rel]) 1 rfl Tryz.isAgg24 rfl rfl Tryz.sizeOf24) (fun _ h => h.tail) ?_
    refine Lu.run 2 rfl (fun _ h => h.tail) ?_
    refine Lu.take (v := .pointer (some (sAt va ((k : Int))))) rfl rfl rfl rfl rfl (OpQ.atRow rfl Tryz.runUnderlying28 Tryz.sizeOf3 rfl rfl (by omega) (by rw [ints_length]; omega) (fun w1 hw1 => Row.own hva hw1)) (fun _ h => h.tail) ?_
    refine Lu.take (v := i6_ (xs.getD (((k : Int)).toNat) 0)) rfl rfl rfl rfl rfl (OpQ.load1 rfl Tryz.isAgg3 rfl (fun w1 hw1 => Ints.cell (Row.own hva hw1) (by omega) (by omega))) (fun _ h => h.tail) ?_
    refine Lu.run 2 rfl (fun _ h => h.tail) ?_
    refine Lu.take (v := .pointer (some (sAt va ((j : Int))))) rfl rfl rfl rfl rfl (OpQ.atRow rfl Tryz.runUnderlying28 Tryz.sizeOf3 rfl rfl (by omega) (by rw [ints_length]; omega) (fun w1 hw1 => Row.own hva hw1)) (fun _ h => h.tail) ?_
    refine Lu.take (v := i6_ (xs.getD (((j : Int)).toNat) 0)) rfl rfl rfl rfl rfl (OpQ.load1 rfl Tryz.isAgg3 rfl (fun w1 hw1 => Ints.cell (Row.own hva hw1) (by omega) (by omega))) (fun _ h => h.tail) ?_
    refine Lu.two rfl rfl ?_ ?_
    ·
     refine Ll.op rfl rfl rfl (OpQ.loadOwn 0 rfl Tryz.isAgg9 rfl rfl rfl) ?_
     refine Ll.nil (Lu.joint (fun _ h => h.tail) ?_)
     refine Lu.loud rfl ?_
     refine Ll.op (v := bo_ (a.inRel (xs.getD (((k : Int)).toNat) 0) (xs.getD (((j : Int)).toNat) 0))) rfl rfl rfl (OpQ.call rfl Tryz.call56 rfl Own.stable (fun w1 hw1 => l1Rel_ok a (xs.getD (((k : Int)).toNat) 0) (xs.getD (((j : Int)).toNat) 0) w1 ha (by first | assumption | exact St.Els.at (by assumption) (by omega) (by omega)) (by first | assumption | exact St.Els.at (by assumption) (by omega) (by omega)))) ?_
     refine Ll.nil (Lu.joint (fun _ h => h.tail) ?_)
     refine Lu.loud rfl ?_
     refine Ll.op (v := str ((if a.inRel (xs.getD (((k : Int)).toNat) 0) (xs.getD (((j : Int)).toNat) 0) then [49] else [48]))) rfl rfl rfl (OpQ.call rfl Tryz.call54 rfl Own.stable (fun w1 hw1 => bitD_ok (a.inRel (xs.getD (((k : Int)).toNat) 0) (xs.getD (((j : Int)).toNat) 0)) w1 )) ?_
     refine Ll.nil (Lu.joint (fun _ h => h.tail) ?_)
     refine Lu.take rfl rfl rfl rfl rfl (OpQ.sadd rfl rfl rfl (by first | (rw [bit_len]; omega) | omega)) (fun _ h => h.tail) ?_
     refine Lu.take rfl rfl rfl rfl rfl (OpQ.fieldAddr rfl Tryz.runUnderlying24 rfl Tryz.sizeOf9 rfl rfl) (fun _ h => h.tail) ?_
     refine Lu.loud rfl ?_
     refine Ll.store1 (v := str (R1 ++ ((if a.inRel (xs.getD (((k : Int)).toNat) 0) (xs.getD (((j : Int)).toNat) 0) then [49] else [48])))) (hs' := [bk_ p5 #[i6_ ((xs.length : Int)), str (S ++ ((if a.inSet (xs.getD (((k : Int)).toNat) 0) then [49] else [48]))), str (R1 ++ ((if a.inRel (xs.getD (((k : Int)).toNat) 0) (xs.getD (((j : Int)).toNat) 0) then [49] else [48])))] 24, _, _]) 0 rfl rfl rfl rfl rfl rfl Tryz.sizeOf9 rfl (by simp) rfl ?_
     refine Ll.nil (Lu.joint (fun _ h => h.tail) ?_)
     refine Lu.nil ?_
     refine Kt.sel [1, 2, 4, 5, 6, 7] [_, _, _, _, _, _] rfl ?_
     refine Wk.regionQ ?_
     refine Lq.run 1 rfl ?_
     refine Lq.op rfl rfl rfl (OpQ.add rfl rfl rfl (by omega) (by omega)) ?_
     refine Lq.run 1 rfl ?_
     refine Lq.nil ?_
     refine Kt.again ((j + 1, R1 ++ ((if a.inRel (xs.getD (((k : Int)).toNat) 0) (xs.getD (((j : Int)).toNat) 0) then [49] else [48])))) ⟨by omega, by (try dsimp only); rw [List.length_append, bit_len]; omega⟩ (by omega) (Sub.sel [1, 2, 4, 5, 6, 7] rfl) (fun _ h => h)
    ·
     refine Ll.op (v := bo_ (a.inRel (xs.getD (((k : Int)).toNat) 0) (xs.getD (((j : Int)).toNat) 0))) rfl rfl rfl (OpQ.call rfl Tryz.call56 rfl Own.stable (fun w1 hw1 => l1Rel_ok a (xs.getD (((k : Int)).toNat) 0) (xs.getD (((j : Int)).toNat) 0) w1 ha (by first | assumption | exact St.Els.at (by assumption) (by omega) (by omega)) (by first | assumption | exact St.Els.at (by assumption) (by omega) (by omega)))) ?_
     refine Ll.nil (Lu.joint (fun _ h => h.tail) ?_)
     refine Lu.two rfl rfl ?_ ?_
     ·
      refine Ll.op rfl rfl rfl (OpQ.loadOwn 0 rfl Tryz.isAgg9 rfl rfl rfl) ?_
      refine Ll.nil (Lu.joint (fun _ h => h.tail) ?_)
      refine Lu.loud rfl ?_
      refine Ll.op (v := str ((if a.inRel (xs.getD (((k : Int)).toNat) 0) (xs.getD (((j : Int)).toNat) 0) then [49] else [48]))) rfl rfl rfl (OpQ.call rfl Tryz.call54 rfl Own.stable (fun w1 hw1 => bitD_ok (a.inRel (xs.getD (((k : Int)).toNat) 0) (xs.getD (((j : Int)).toNat) 0)) w1 )) ?_
      refine Ll.nil (Lu.joint (fun _ h => h.tail) ?_)
      refine Lu.take rfl rfl rfl rfl rfl (OpQ.sadd rfl rfl rfl (by first | (rw [bit_len]; omega) | omega)) (fun _ h => h.tail) ?_
      refine Lu.take rfl rfl rfl rfl rfl (OpQ.fieldAddr rfl Tryz.runUnderlying24 rfl Tryz.sizeOf9 rfl rfl) (fun _ h => h.tail) ?_
      refine Lu.loud rfl ?_
      refine Ll.store1 (v := str (R1 ++ ((if a.inRel (xs.getD (((k : Int)).toNat) 0) (xs.getD (((j : Int)).toNat) 0) then [49] else [48])))) (hs' := [bk_ p5 #[i6_ ((xs.length : Int)), str (S ++ ((if a.inSet (xs.getD (((k : Int)).toNat) 0) then [49] else [48]))), str (R1 ++ ((if a.inRel (xs.getD (((k : Int)).toNat) 0) (xs.getD (((j : Int)).toNat) 0) then [49] else [48])))] 24, _, _]) 0 rfl rfl rfl rfl rfl rfl Tryz.sizeOf9 rfl (by simp) rfl ?_
      refine Ll.nil (Lu.joint (fun _ h => h.tail) ?_)
      refine Lu.nil ?_
      refine Kt.sel [1, 2, 4, 5, 6, 7] [_, _, _, _, _, _] rfl ?_
      refine Wk.regionQ ?_
      refine Lq.run 1 rfl ?_
      refine Lq.op rfl rfl rfl (OpQ.add rfl rfl rfl (by omega) (by omega)) ?_
      refine Lq.run 1 rfl ?_
      refine Lq.nil ?_
      refine Kt.again ((j + 1, R1 ++ ((if a.inRel (xs.getD (((k : Int)).toNat) 0) (xs.getD (((j : Int)).toNat) 0) then [49] else [48])))) ⟨by omega, by (try dsimp only); rw [List.length_append, bit_len]; omega⟩ (by omega) (Sub.sel [1, 2, 4, 5, 6, 7] rfl) (fun _ h => h)
     ·
      refine Ll.op (v := str ((if a.inRel (xs.getD (((k : Int)).toNat) 0) (xs.getD (((j : Int)).toNat) 0) then [49] else [48]))) rfl rfl rfl (OpQ.call rfl Tryz.call54 rfl Own.stable (fun w1 hw1 => bitD_ok (a.inRel (xs.getD (((k : Int)).toNat) 0) (xs.getD (((j : Int)).toNat) 0)) w1 )) ?_
      refine Ll.nil (Lu.joint (fun _ h => h.tail) ?_)
      refine Lu.loud rfl ?_
      refine Ll.op rfl rfl rfl (OpQ.loadOwn 0 rfl Tryz.isAgg9 rfl rfl rfl) ?_
      refine Ll.nil (Lu.joint (fun _ h => h.tail) ?_)
      refine Lu.take rfl rfl rfl rfl rfl (OpQ.sadd rfl rfl rfl (by first | (rw [bit_len]; omega) | omega)) (fun _ h => h.tail) ?_
      refine Lu.take rfl rfl rfl rfl rfl (OpQ.fieldAddr rfl Tryz.runUnderlying24 rfl Tryz.sizeOf9 rfl rfl) (fun _ h => h.tail) ?_
      refine Lu.loud rfl ?_
      refine Ll.store1 (v := str (R1 ++ ((if a.inRel (xs.getD (((k : Int)).toNat) 0) (xs.getD (((j : Int)).toNat) 0) then [49] else [48])))) (hs' := [bk_ p5 #[i6_ ((xs.length : Int)), str (S ++ ((if a.inSet (xs.getD (((k : Int)).toNat) 0) then [49] else [48]))), str (R1 ++ ((if a.inRel (xs.getD (((k : Int)).toNat) 0) (xs.getD (((j : Int)).toNat) 0) then [49] else [48])))] 24, _, _]) 0 rfl rfl rfl rfl rfl rfl Tryz.sizeOf9 rfl (by simp) rfl ?_
      refine Ll.nil (Lu.joint (fun _ h => h.tail) ?_)
      refine Lu.nil ?_
      refine Kt.sel [1, 2, 4, 5, 6, 7] [_, _, _, _, _, _] rfl ?_
      refine Wk.regionQ ?_
      refine Lq.run 1 rfl ?_
      refine Lq.op rfl rfl rfl (OpQ.add rfl rfl rfl (by omega) (by omega)) ?_
      refine Lq.run 1 rfl ?_
      refine Lq.nil ?_
      refine Kt.again ((j + 1, R1 ++ ((if a.inRel (xs.getD (((k : Int)).toNat) 0) (xs.getD (((j : Int)).toNat) 0) then [49] else [48])))) ⟨by omega, by (try dsimp only); rw [List.length_append, bit_len]; omega⟩ (by omega) (Sub.sel [1, 2, 4, 5, 6, 7] rfl) (fun _ h => h)
   ·
    replace h31 := of_decide_eq_false h31
    refine Wk.exit rfl ?_
    refine Kt.sel [1, 2, 4, 5, 6] [_, _, _, _, _] rfl ?_
    refine Wk.regionQ ?_
    refine Lq.run 1 rfl ?_
    refine Lq.op rfl rfl rfl (OpQ.add rfl rfl rfl (by omega) (by omega)) ?_
    refine Lq.run 1 rfl ?_
    refine Lq.nil ?_
    refine Kt.again ((k + 1, S ++ ((if a.inSet (xs.getD (((k : Int)).toNat) 0) then [49] else [48])), R1)) ⟨by omega, by (try dsimp only); rw [List.length_append, bit_len]; omega, by (try dsimp only); rw [Nat.add_mul, Nat.one_mul]; omega⟩ (by omega) (Sub.sel [1, 2, 4, 5, 6] rfl) (fun _ h => h)
  ·
   refine Ll.op (v := bo_ (a.inSet (xs.getD (((k : Int)).toNat) 0))) rfl rfl rfl (OpQ.call rfl Tryz.call55 rfl Own.stable (fun w1 hw1 => l1Set_ok a (xs.getD (((k : Int)).toNat) 0) w1 ha (by first | assumption | exact St.Els.at (by assumption) (by omega) (by omega)))) ?_
   refine Ll.nil (Lu.joint (fun _ h => h.tail) ?_)
   refine Lu.two rfl rfl ?_ ?_
   ·
    refine Ll.op rfl rfl rfl (OpQ.loadOwn 0 rfl Tryz.isAgg9 rfl rfl rfl) ?_
    refine Ll.nil (Lu.joint (fun _ h => h.tail) ?_)
    refine Lu.loud rfl ?_
    refine Ll.op (v := str ((if a.inSet (xs.getD (((k : Int)).toNat) 0) then [49] else [48]))) rfl rfl rfl (OpQ.call rfl Tryz.call54 rfl Own.stable (fun w1 hw1 => bitD_ok (a.inSet (xs.getD (((k : Int)).toNat) 0)) w1 )) ?_
    refine Ll.nil (Lu.joint (fun _ h => h.tail) ?_)
    refine Lu.take rfl rfl rfl rfl rfl (OpQ.sadd rfl rfl rfl (by first | (rw [bit_len]; omega) | omega)) (fun _ h => h.tail) ?_
    refine Lu.take rfl rfl rfl rfl rfl (OpQ.fieldAddr rfl Tryz.runUnderlying24 rfl Tryz.sizeOf9 rfl rfl) (fun _ h => h.tail) ?_
    refine Lu.loud rfl ?_
    refine Ll.store1 (v := str (S ++ ((if a.inSet (xs.getD (((k : Int)).toNat) 0) then [49] else [48])))) (hs' := [bk_ p5 #[i6_ ((xs.length : Int)), str (S ++ ((if a.inSet (xs.getD (((k : Int)).toNat) 0) then [49] else [48]))), str R] 24, _, _]) 0 rfl rfl rfl rfl rfl rfl Tryz.sizeOf9 rfl (by simp) rfl ?_
    refine Ll.nil (Lu.joint (fun _ h => h.tail) ?_)
    refine Lu.nil ?_
    refine Kt.sel [1, 2, 4, 5, 6] [_, _, _, _, _] rfl ?_
    refine Wk.seq ?_
    refine Wk.regionQ ?_
    refine Lq.run 1 rfl ?_
    refine Lq.nil ?_
    refine Kt.sel [1, 2, 4, 5, 6, 7] [_, _, _, _, _, _] rfl ?_
    refine Wk.block ?_
    refine Wk.loop (σ := Nat × List UInt8) (fun ⟨j, R1⟩ => j ≤ xs.length ∧ R1.length = k * xs.length + j) (fun ⟨j, R1⟩ => [(1, va), (2, pt_ p2), (4, pt_ p4), (5, pt_ p5), (6, i6_ ((k : Int))), (7, i6_ ((j : Int)))]) (fun ⟨j, R1⟩ => Own w.heap.size w [bk_ p5 #[i6_ ((xs.length : Int)), str (S ++ ((if a.inSet (xs.getD (((k : Int)).toNat) 0) then [49] else [48]))), str R1] 24, bk_ p4 #[i6_ 0, str ([]), str ([])] 24, bk_ p2 #[i6_ a.n, str a.set, str a.rel] 24]) (fun ⟨j, R1⟩ => xs.length - j) ((0, R)) ⟨by omega, by omega⟩ (Sub.sel [1, 2, 4, 5, 6, 7] rfl) (fun _ h => h) ?_
    rintro ⟨j, R1⟩ ⟨hj, hR1⟩
    dsimp only
    refine Wk.seq ?_
    refine Wk.seq ?_
    refine Wk.regionQ ?_
    refine Lq.run 2 rfl ?_
    refine Lq.op (v := i6_ ((xs.length : Int))) rfl rfl rfl (OpQ.lenRow rfl Tryz.runUnderlying28 rfl (ints_length _) (fun w1 hw1 => Row.own hva hw1)) ?_
    refine Lq.run 1 rfl ?_
    refine Lq.nil ?_
    refine Kt.sel [1, 2, 4, 5, 6, 7, 31] [_, _, _, _, _, _, _] rfl ?_
    refine Wk.cond (b := decide (((j : Int)) < ((xs.length : Int)))) rfl (fun h31_1 => ?_) (fun h31_1 => ?_)
    ·
     replace h31_1 := of_decide_eq_true h31_1
     refine Wk.skip ?_
     refine Kt.sel [1, 2, 4, 5, 6, 7] [_, _, _, _, _, _] rfl ?_
     refine Wk.seq ?_
     refine Wk.block ?_
     refine Wk.regionU (S := Own w.heap.size w [bk_ p4 #[i6_ 0, str ([]), str ([])] 24, bk_ p2 #[i6_ a.n, str a.set, str a.rel] 24]) (.take 0 (.take 2 (.take 3 (.take 4 (.take 5 (.take 6 (.take 7 (.take 8 (.take 9 (.take 10 (.two 1 (.one 11 (.one 12 (.take 13 (.take 14 (.one 15 .done))))) 11 (.two 1 (.one 12 (.take 13 (.take 14 (.one 15 .done)))) 12 (.one 1 (.take 13 (.take 14 (.one 15 .done)))))))))))))))) Base.mixed (fun _ h => h.drawn) (by kernel_rfl) ?_
     refine Lu.take rfl rfl rfl rfl rfl (OpQ.fieldAddr rfl Tryz.runUnderlying24 rfl Tryz.sizeOf9 rfl rfl) (fun _ h => h.tail) ?_
     refine Lu.take rfl rfl rfl rfl rfl (OpQ.loadBox (cs := #[i6_ a.n, str a.set, str a.rel]) 1 rfl Tryz.isAgg24 rfl rfl Tryz.sizeOf24) (fun _ h => h.tail) ?_
     refine Lu.run 2 rfl (fun _ h => h.tail) ?_
     refine Lu.take (v := .pointer (some (sAt va ((k : Int))))) rfl rfl rfl rfl rfl (OpQ.atRow rfl Tryz.runUnderlying28 Tryz.sizeOf3 rfl rfl (by omega) (by rw [ints_length]; omega) (fun w1 hw1 => Row.own hva hw1)) (fun _ h => h.tail) ?_
     refine Lu.take (v := i6_ (xs.getD (((k : Int)).toNat) 0)) rfl rfl rfl rfl rfl (OpQ.load1 rfl Tryz.isAgg3 rfl (fun w1 hw1 => Ints.cell (Row.own hva hw1) (by omega) (by omega))) (fun _ h => h.tail) ?_
     refine Lu.run 2 rfl (fun _ h => h.tail) ?_
     refine Lu.take (v := .pointer (some (sAt va ((j : Int))))) rfl rfl rfl rfl rfl (OpQ.atRow rfl Tryz.runUnderlying28 Tryz.sizeOf3 rfl rfl (by omega) (by rw [ints_length]; omega) (fun w1 hw1 => Row.own hva hw1)) (fun _ h => h.tail) ?_
     refine Lu.take (v := i6_ (xs.getD (((j : Int)).toNat) 0)) rfl rfl rfl rfl rfl (OpQ.load1 rfl Tryz.isAgg3 rfl (fun w1 hw1 => Ints.cell (Row.own hva hw1) (by omega) (by omega))) (fun _ h => h.tail) ?_
     refine Lu.two rfl rfl ?_ ?_
     ·
      refine Ll.op rfl rfl rfl (OpQ.loadOwn 0 rfl Tryz.isAgg9 rfl rfl rfl) ?_
      refine Ll.nil (Lu.joint (fun _ h => h.tail) ?_)
      refine Lu.loud rfl ?_
      refine Ll.op (v := bo_ (a.inRel (xs.getD (((k : Int)).toNat) 0) (xs.getD (((j : Int)).toNat) 0))) rfl rfl rfl (OpQ.call rfl Tryz.call56 rfl Own.stable (fun w1 hw1 => l1Rel_ok a (xs.getD (((k : Int)).toNat) 0) (xs.getD (((j : Int)).toNat) 0) w1 ha (by first | assumption | exact St.Els.at (by assumption) (by omega) (by omega)) (by first | assumption | exact St.Els.at (by assumption) (by omega) (by omega)))) ?_
      refine Ll.nil (Lu.joint (fun _ h => h.tail) ?_)
      refine Lu.loud rfl ?_
      refine Ll.op (v := str ((if a.inRel (xs.getD (((k : Int)).toNat) 0) (xs.getD (((j : Int)).toNat) 0) then [49] else [48]))) rfl rfl rfl (OpQ.call rfl Tryz.call54 rfl Own.stable (fun w1 hw1 => bitD_ok (a.inRel (xs.getD (((k : Int)).toNat) 0) (xs.getD (((j : Int)).toNat) 0)) w1 )) ?_
      refine Ll.nil (Lu.joint (fun _ h => h.tail) ?_)
      refine Lu.take rfl rfl rfl rfl rfl (OpQ.sadd rfl rfl rfl (by first | (rw [bit_len]; omega) | omega)) (fun _ h => h.tail) ?_
      refine Lu.take rfl rfl rfl rfl rfl (OpQ.fieldAddr rfl Tryz.runUnderlying24 rfl Tryz.sizeOf9 rfl rfl) (fun _ h => h.tail) ?_
      refine Lu.loud rfl ?_
      refine Ll.store1 (v := str (R1 ++ ((if a.inRel (xs.getD (((k : Int)).toNat) 0) (xs.getD (((j : Int)).toNat) 0) then [49] else [48])))) (hs' := [bk_ p5 #[i6_ ((xs.length : Int)), str (S ++ ((if a.inSet (xs.getD (((k : Int)).toNat) 0) then [49] else [48]))), str (R1 ++ ((if a.inRel (xs.getD (((k : Int)).toNat) 0) (xs.getD (((j : Int)).toNat) 0) then [49] else [48])))] 24, _, _]) 0 rfl rfl rfl rfl rfl rfl Tryz.sizeOf9 rfl (by simp) rfl ?_
      refine Ll.nil (Lu.joint (fun _ h => h.tail) ?_)
      refine Lu.nil ?_
      refine Kt.sel [1, 2, 4, 5, 6, 7] [_, _, _, _, _, _] rfl ?_
      refine Wk.regionQ ?_
      refine Lq.run 1 rfl ?_
      refine Lq.op rfl rfl rfl (OpQ.add rfl rfl rfl (by omega) (by omega)) ?_
      refine Lq.run 1 rfl ?_
      refine Lq.nil ?_
      refine Kt.again ((j + 1, R1 ++ ((if a.inRel (xs.getD (((k : Int)).toNat) 0) (xs.getD (((j : Int)).toNat) 0) then [49] else [48])))) ⟨by omega, by (try dsimp only); rw [List.length_append, bit_len]; omega⟩ (by omega) (Sub.sel [1, 2, 4, 5, 6, 7] rfl) (fun _ h => h)
     ·
      refine Ll.op (v := bo_ (a.inRel (xs.getD (((k : Int)).toNat) 0) (xs.getD (((j : Int)).toNat) 0))) rfl rfl rfl (OpQ.call rfl Tryz.call56 rfl Own.stable (fun w1 hw1 => l1Rel_ok a (xs.getD (((k : Int)).toNat) 0) (xs.getD (((j : Int)).toNat) 0) w1 ha (by first | assumption | exact St.Els.at (by assumption) (by omega) (by omega)) (by first | assumption | exact St.Els.at (by assumption) (by omega) (by omega)))) ?_
      refine Ll.nil (Lu.joint (fun _ h => h.tail) ?_)
      refine Lu.two rfl rfl ?_ ?_
      ·
       refine Ll.op rfl rfl rfl (OpQ.loadOwn 0 rfl Tryz.isAgg9 rfl rfl rfl) ?_
       refine Ll.nil (Lu.joint (fun _ h => h.tail) ?_)
       refine Lu.loud rfl ?_
       refine Ll.op (v := str ((if a.inRel (xs.getD (((k : Int)).toNat) 0) (xs.getD (((j : Int)).toNat) 0) then [49] else [48]))) rfl rfl rfl (OpQ.call rfl Tryz.call54 rfl Own.stable (fun w1 hw1 => bitD_ok (a.inRel (xs.getD (((k : Int)).toNat) 0) (xs.getD (((j : Int)).toNat) 0)) w1 )) ?_
       refine Ll.nil (Lu.joint (fun _ h => h.tail) ?_)
       refine Lu.take rfl rfl rfl rfl rfl (OpQ.sadd rfl rfl rfl (by first | (rw [bit_len]; omega) | omega)) (fun _ h => h.tail) ?_
       refine Lu.take rfl rfl rfl rfl rfl (OpQ.fieldAddr rfl Tryz.runUnderlying24 rfl Tryz.sizeOf9 rfl rfl) (fun _ h => h.tail) ?_
       refine Lu.loud rfl ?_
       refine Ll.store1 (v := str (R1 ++ ((if a.inRel (xs.getD (((k : Int)).toNat) 0) (xs.getD (((j : Int)).toNat) 0) then [49] else [48])))) (hs' := [bk_ p5 #[i6_ ((xs.length : Int)), str (S ++ ((if a.inSet (xs.getD (((k : Int)).toNat) 0) then [49] else [48]))), str (R1 ++ ((if a.inRel (xs.getD (((k : Int)).toNat) 0) (xs.getD (((j : Int)).toNat) 0) then [49] else [48])))] 24, _, _]) 0 rfl rfl rfl rfl rfl rfl Tryz.sizeOf9 rfl (by simp) rfl ?_
       refine Ll.nil (Lu.joint (fun _ h => h.tail) ?_)
       refine Lu.nil ?_
       refine Kt.sel [1, 2, 4, 5, 6, 7] [_, _, _, _, _, _] rfl ?_
       refine Wk.regionQ ?_
       refine Lq.run 1 rfl ?_
       refine Lq.op rfl rfl rfl (OpQ.add rfl rfl rfl (by omega) (by omega)) ?_
       refine Lq.run 1 rfl ?_
       refine Lq.nil ?_
       refine Kt.again ((j + 1, R1 ++ ((if a.inRel (xs.getD (((k : Int)).toNat) 0) (xs.getD (((j : Int)).toNat) 0) then [49] else [48])))) ⟨by omega, by (try dsimp only); rw [List.length_append, bit_len]; omega⟩ (by omega) (Sub.sel [1, 2, 4, 5, 6, 7] rfl) (fun _ h => h)
      ·
       refine Ll.op (v := str ((if a.inRel (xs.getD (((k : Int)).toNat) 0) (xs.getD (((j : Int)).toNat) 0) then [49] else [48]))) rfl rfl rfl (OpQ.call rfl Tryz.call54 rfl Own.stable (fun w1 hw1 => bitD_ok (a.inRel (xs.getD (((k : Int)).toNat) 0) (xs.getD (((j : Int)).toNat) 0)) w1 )) ?_
       refine Ll.nil (Lu.joint (fun _ h => h.tail) ?_)
       refine Lu.loud rfl ?_
       refine Ll.op rfl rfl rfl (OpQ.loadOwn 0 rfl Tryz.isAgg9 rfl rfl rfl) ?_
       refine Ll.nil (Lu.joint (fun _ h => h.tail) ?_)
       refine Lu.take rfl rfl rfl rfl rfl (OpQ.sadd rfl rfl rfl (by first | (rw [bit_len]; omega) | omega)) (fun _ h => h.tail) ?_
       refine Lu.take rfl rfl rfl rfl rfl (OpQ.fieldAddr rfl Tryz.runUnderlying24 rfl Tryz.sizeOf9 rfl rfl) (fun _ h => h.tail) ?_
       refine Lu.loud rfl ?_
       refine Ll.store1 (v := str (R1 ++ ((if a.inRel (xs.getD (((k : Int)).toNat) 0) (xs.getD (((j : Int)).toNat) 0) then [49] else [48])))) (hs' := [bk_ p5 #[i6_ ((xs.length : Int)), str (S ++ ((if a.inSet (xs.getD (((k : Int)).toNat) 0) then [49] else [48]))), str (R1 ++ ((if a.inRel (xs.getD (((k : Int)).toNat) 0) (xs.getD (((j : Int)).toNat) 0) then [49] else [48])))] 24, _, _]) 0 rfl rfl rfl rfl rfl rfl Tryz.sizeOf9 rfl (by simp) rfl ?_
       refine Ll.nil (Lu.joint (fun _ h => h.tail) ?_)
       refine Lu.nil ?_
       refine Kt.sel [1, 2, 4, 5, 6, 7] [_, _, _, _, _, _] rfl ?_
       refine Wk.regionQ ?_
       refine Lq.run 1 rfl ?_
       refine Lq.op rfl rfl rfl (OpQ.add rfl rfl rfl (by omega) (by omega)) ?_
       refine Lq.run 1 rfl ?_
       refine Lq.nil ?_
       refine Kt.again ((j + 1, R1 ++ ((if a.inRel (xs.getD (((k : Int)).toNat) 0) (xs.getD (((j : Int)).toNat) 0) then [49] else [48])))) ⟨by omega, by (try dsimp only); rw [List.length_append, bit_len]; omega⟩ (by omega) (Sub.sel [1, 2, 4, 5, 6, 7] rfl) (fun _ h => h)
    ·
     replace h31_1 := of_decide_eq_false h31_1
     refine Wk.exit rfl ?_
     refine Kt.sel [1, 2, 4, 5, 6] [_, _, _, _, _] rfl ?_
     refine Wk.regionQ ?_
     refine Lq.run 1 rfl ?_
     refine Lq.op rfl rfl rfl (OpQ.add rfl rfl rfl (by omega) (by omega)) ?_
     refine Lq.run 1 rfl ?_
     refine Lq.nil ?_
     refine Kt.again ((k + 1, S ++ ((if a.inSet (xs.getD (((k : Int)).toNat) 0) then [49] else [48])), R1)) ⟨by omega, by (try dsimp only); rw [List.length_append, bit_len]; omega, by (try dsimp only); rw [Nat.add_mul, Nat.one_mul]; omega⟩ (by omega) (Sub.sel [1, 2, 4, 5, 6] rfl) (fun _ h => h)
   ·
    refine Ll.op (v := str ((if a.inSet (xs.getD (((k : Int)).toNat) 0) then [49] else [48]))) rfl rfl rfl (OpQ.call rfl Tryz.call54 rfl Own.stable (fun w1 hw1 => bitD_ok (a.inSet (xs.getD (((k : Int)).toNat) 0)) w1 )) ?_
    refine Ll.nil (Lu.joint (fun _ h => h.tail) ?_)
    refine Lu.loud rfl ?_
    refine Ll.op rfl rfl rfl (OpQ.loadOwn 0 rfl Tryz.isAgg9 rfl rfl rfl) ?_
    refine Ll.nil (Lu.joint (fun _ h => h.tail) ?_)
    refine Lu.take rfl rfl rfl rfl rfl (OpQ.sadd rfl rfl rfl (by first | (rw [bit_len]; omega) | omega)) (fun _ h => h.tail) ?_
    refine Lu.take rfl rfl rfl rfl rfl (OpQ.fieldAddr rfl Tryz.runUnderlying24 rfl Tryz.sizeOf9 rfl rfl) (fun _ h => h.tail) ?_
    refine Lu.loud rfl ?_
    refine Ll.store1 (v := str (S ++ ((if a.inSet (xs.getD (((k : Int)).toNat) 0) then [49] else [48])))) (hs' := [bk_ p5 #[i6_ ((xs.length : Int)), str (S ++ ((if a.inSet (xs.getD (((k : Int)).toNat) 0) then [49] else [48]))), str R] 24, _, _]) 0 rfl rfl rfl rfl rfl rfl Tryz.sizeOf9 rfl (by simp) rfl ?_
    refine Ll.nil (Lu.joint (fun _ h => h.tail) ?_)
    refine Lu.nil ?_
    refine Kt.sel [1, 2, 4, 5, 6] [_, _, _, _, _] rfl ?_
    refine Wk.seq ?_
    refine Wk.regionQ ?_
    refine Lq.run 1 rfl ?_
    refine Lq.nil ?_
    refine Kt.sel [1, 2, 4, 5, 6, 7] [_, _, _, _, _, _] rfl ?_
    refine Wk.block ?_
    refine Wk.loop (σ := Nat × List UInt8) (fun ⟨j, R1⟩ => j ≤ xs.length ∧ R1.length = k * xs.length + j) (fun ⟨j, R1⟩ => [(1, va), (2, pt_ p2), (4, pt_ p4), (5, pt_ p5), (6, i6_ ((k : Int))), (7, i6_ ((j : Int)))]) (fun ⟨j, R1⟩ => Own w.heap.size w [bk_ p5 #[i6_ ((xs.length : Int)), str (S ++ ((if a.inSet (xs.getD (((k : Int)).toNat) 0) then [49] else [48]))), str R1] 24, bk_ p4 #[i6_ 0, str ([]), str ([])] 24, bk_ p2 #[i6_ a.n, str a.set, str a.rel] 24]) (fun ⟨j, R1⟩ => xs.length - j) ((0, R)) ⟨by omega, by omega⟩ (Sub.sel [1, 2, 4, 5, 6, 7] rfl) (fun _ h => h) ?_
    rintro ⟨j, R1⟩ ⟨hj, hR1⟩
    dsimp only
    refine Wk.seq ?_
    refine Wk.seq ?_
    refine Wk.regionQ ?_
    refine Lq.run 2 rfl ?_
    refine Lq.op (v := i6_ ((xs.length : Int))) rfl rfl rfl (OpQ.lenRow rfl Tryz.runUnderlying28 rfl (ints_length _) (fun w1 hw1 => Row.own hva hw1)) ?_
    refine Lq.run 1 rfl ?_
    refine Lq.nil ?_
    refine Kt.sel [1, 2, 4, 5, 6, 7, 31] [_, _, _, _, _, _, _] rfl ?_
    refine Wk.cond (b := decide (((j : Int)) < ((xs.length : Int)))) rfl (fun h31_2 => ?_) (fun h31_2 => ?_)
    ·
     replace h31_2 := of_decide_eq_true h31_2
     refine Wk.skip ?_
     refine Kt.sel [1, 2, 4, 5, 6, 7] [_, _, _, _, _, _] rfl ?_
     refine Wk.seq ?_
     refine Wk.block ?_
     refine Wk.regionU (S := Own w.heap.size w [bk_ p4 #[i6_ 0, str ([]), str ([])] 24, bk_ p2 #[i6_ a.n, str a.set, str a.rel] 24]) (.take 0 (.take 2 (.take 3 (.take 4 (.take 5 (.take 6 (.take 7 (.take 8 (.take 9 (.take 10 (.two 1 (.one 11 (.one 12 (.take 13 (.take 14 (.one 15 .done))))) 11 (.two 1 (.one 12 (.take 13 (.take 14 (.one 15 .done)))) 12 (.one 1 (.take 13 (.take 14 (.one 15 .done)))))))))))))))) Base.mixed (fun _ h => h.drawn) (by kernel_rfl) ?_
     refine Lu.take rfl rfl rfl rfl rfl (OpQ.fieldAddr rfl Tryz.runUnderlying24 rfl Tryz.sizeOf9 rfl rfl) (fun _ h => h.tail) ?_
     refine Lu.take rfl rfl rfl rfl rfl (OpQ.loadBox (cs := #[i6_ a.n, str a.set, str a.rel]) 1 rfl Tryz.isAgg24 rfl rfl Tryz.sizeOf24) (fun _ h => h.tail) ?_
     refine Lu.run 2 rfl (fun _ h => h.tail) ?_
     refine Lu.take (v := .pointer (some (sAt va ((k : Int))))) rfl rfl rfl rfl rfl (OpQ.atRow rfl Tryz.runUnderlying28 Tryz.sizeOf3 rfl rfl (by omega) (by rw [ints_length]; omega) (fun w1 hw1 => Row.own hva hw1)) (fun _ h => h.tail) ?_
     refine Lu.take (v := i6_ (xs.getD (((k : Int)).toNat) 0)) rfl rfl rfl rfl rfl (OpQ.load1 rfl Tryz.isAgg3 rfl (fun w1 hw1 => Ints.cell (Row.own hva hw1) (by omega) (by omega))) (fun _ h => h.tail) ?_
     refine Lu.run 2 rfl (fun _ h => h.tail) ?_
     refine Lu.take (v := .pointer (some (sAt va ((j : Int))))) rfl rfl rfl rfl rfl (OpQ.atRow rfl Tryz.runUnderlying28 Tryz.sizeOf3 rfl rfl (by omega) (by rw [ints_length]; omega) (fun w1 hw1 => Row.own hva hw1)) (fun _ h => h.tail) ?_
     refine Lu.take (v := i6_ (xs.getD (((j : Int)).toNat) 0)) rfl rfl rfl rfl rfl (OpQ.load1 rfl Tryz.isAgg3 rfl (fun w1 hw1 => Ints.cell (Row.own hva hw1) (by omega) (by omega))) (fun _ h => h.tail) ?_
     refine Lu.two rfl rfl ?_ ?_
     ·
      refine Ll.op rfl rfl rfl (OpQ.loadOwn 0 rfl Tryz.isAgg9 rfl rfl rfl) ?_
      refine Ll.nil (Lu.joint (fun _ h => h.tail) ?_)
      refine Lu.loud rfl ?_
      refine Ll.op (v := bo_ (a.inRel (xs.getD (((k : Int)).toNat) 0) (xs.getD (((j : Int)).toNat) 0))) rfl rfl rfl (OpQ.call rfl Tryz.call56 rfl Own.stable (fun w1 hw1 => l1Rel_ok a (xs.getD (((k : Int)).toNat) 0) (xs.getD (((j : Int)).toNat) 0) w1 ha (by first | assumption | exact St.Els.at (by assumption) (by omega) (by omega)) (by first | assumption | exact St.Els.at (by assumption) (by omega) (by omega)))) ?_
      refine Ll.nil (Lu.joint (fun _ h => h.tail) ?_)
      refine Lu.loud rfl ?_
      refine Ll.op (v := str ((if a.inRel (xs.getD (((k : Int)).toNat) 0) (xs.getD (((j : Int)).toNat) 0) then [49] else [48]))) rfl rfl rfl (OpQ.call rfl Tryz.call54 rfl Own.stable (fun w1 hw1 => bitD_ok (a.inRel (xs.getD (((k : Int)).toNat) 0) (xs.getD (((j : Int)).toNat) 0)) w1 )) ?_
      refine Ll.nil (Lu.joint (fun _ h => h.tail) ?_)
      refine Lu.take rfl rfl rfl rfl rfl (OpQ.sadd rfl rfl rfl (by first | (rw [bit_len]; omega) | omega)) (fun _ h => h.tail) ?_
      refine Lu.take rfl rfl rfl rfl rfl (OpQ.fieldAddr rfl Tryz.runUnderlying24 rfl Tryz.sizeOf9 rfl rfl) (fun _ h => h.tail) ?_
      refine Lu.loud rfl ?_
      refine Ll.store1 (v := str (R1 ++ ((if a.inRel (xs.getD (((k : Int)).toNat) 0) (xs.getD (((j : Int)).toNat) 0) then [49] else [48])))) (hs' := [bk_ p5 #[i6_ ((xs.length : Int)), str (S ++ ((if a.inSet (xs.getD (((k : Int)).toNat) 0) then [49] else [48]))), str (R1 ++ ((if a.inRel (xs.getD (((k : Int)).toNat) 0) (xs.getD (((j : Int)).toNat) 0) then [49] else [48])))] 24, _, _]) 0 rfl rfl rfl rfl rfl rfl Tryz.sizeOf9 rfl (by simp) rfl ?_
      refine Ll.nil (Lu.joint (fun _ h => h.tail) ?_)
      refine Lu.nil ?_
      refine Kt.sel [1, 2, 4, 5, 6, 7] [_, _, _, _, _, _] rfl ?_
      refine Wk.regionQ ?_
      refine Lq.run 1 rfl ?_
      refine Lq.op rfl rfl rfl (OpQ.add rfl rfl rfl (by omega) (by omega)) ?_
      refine Lq.run 1 rfl ?_
      refine Lq.nil ?_
      refine Kt.again ((j + 1, R1 ++ ((if a.inRel (xs.getD (((k : Int)).toNat) 0) (xs.getD (((j : Int)).toNat) 0) then [49] else [48])))) ⟨by omega, by (try dsimp only); rw [List.length_append, bit_len]; omega⟩ (by omega) (Sub.sel [1, 2, 4, 5, 6, 7] rfl) (fun _ h => h)
     ·
      refine Ll.op (v := bo_ (a.inRel (xs.getD (((k : Int)).toNat) 0) (xs.getD (((j : Int)).toNat) 0))) rfl rfl rfl (OpQ.call rfl Tryz.call56 rfl Own.stable (fun w1 hw1 => l1Rel_ok a (xs.getD (((k : Int)).toNat) 0) (xs.getD (((j : Int)).toNat) 0) w1 ha (by first | assumption | exact St.Els.at (by assumption) (by omega) (by omega)) (by first | assumption | exact St.Els.at (by assumption) (by omega) (by omega)))) ?_
      refine Ll.nil (Lu.joint (fun _ h => h.tail) ?_)
      refine Lu.two rfl rfl ?_ ?_
      ·
       refine Ll.op rfl rfl rfl (OpQ.loadOwn 0 rfl Tryz.isAgg9 rfl rfl rfl) ?_
       refine Ll.nil (Lu.joint (fun _ h => h.tail) ?_)
       refine Lu.loud rfl ?_
       refine Ll.op (v := str ((if a.inRel (xs.getD (((k : Int)).toNat) 0) (xs.getD (((j : Int)).toNat) 0) then [49] else [48]))) rfl rfl rfl (OpQ.call rfl Tryz.call54 rfl Own.stable (fun w1 hw1 => bitD_ok (a.inRel (xs.getD (((k : Int)).toNat) 0) (xs.getD (((j : Int)).toNat) 0)) w1 )) ?_
       refine Ll.nil (Lu.joint (fun _ h => h.tail) ?_)
       refine Lu.take rfl rfl rfl rfl rfl (OpQ.sadd rfl rfl rfl (by first | (rw [bit_len]; omega) | omega)) (fun _ h => h.tail) ?_
       refine Lu.take rfl rfl rfl rfl rfl (OpQ.fieldAddr rfl Tryz.runUnderlying24 rfl Tryz.sizeOf9 rfl rfl) (fun _ h => h.tail) ?_
       refine Lu.loud rfl ?_
       refine Ll.store1 (v := str (R1 ++ ((if a.inRel (xs.getD (((k : Int)).toNat) 0) (xs.getD (((j : Int)).toNat) 0) then [49] else [48])))) (hs' := [bk_ p5 #[i6_ ((xs.length : Int)), str (S ++ ((if a.inSet (xs.getD (((k : Int)).toNat) 0) then [49] else [48]))), str (R1 ++ ((if a.inRel (xs.getD (((k : Int)).toNat) 0) (xs.getD (((j : Int)).toNat) 0) then [49] else [48])))] 24, _, _]) 0 rfl rfl rfl rfl rfl rfl Tryz.sizeOf9 rfl (by simp) rfl ?_
       refine Ll.nil (Lu.joint (fun _ h => h.tail) ?_)
       refine Lu.nil ?_
       refine Kt.sel [1, 2, 4, 5, 6, 7] [_, _, _, _, _, _] rfl ?_
       refine Wk.regionQ ?_
       refine Lq.run 1 rfl ?_
       refine Lq.op rfl rfl rfl (OpQ.add rfl rfl rfl (by omega) (by omega)) ?_
       refine Lq.run 1 rfl ?_
       refine Lq.nil ?_
       refine Kt.again ((j + 1, R1 ++ ((if a.inRel (xs.getD (((k : Int)).toNat) 0) (xs.getD (((j : Int)).toNat) 0) then [49] else [48])))) ⟨by omega, by (try dsimp only); rw [List.length_append, bit_len]; omega⟩ (by omega) (Sub.sel [1, 2, 4, 5, 6, 7] rfl) (fun _ h => h)
      ·
       refine Ll.op (v := str ((if a.inRel (xs.getD (((k : Int)).toNat) 0) (xs.getD (((j : Int)).toNat) 0) then [49] else [48]))) rfl rfl rfl (OpQ.call rfl Tryz.call54 rfl Own.stable (fun w1 hw1 => bitD_ok (a.inRel (xs.getD (((k : Int)).toNat) 0) (xs.getD (((j : Int)).toNat) 0)) w1 )) ?_
       refine Ll.nil (Lu.joint (fun _ h => h.tail) ?_)
       refine Lu.loud rfl ?_
       refine Ll.op rfl rfl rfl (OpQ.loadOwn 0 rfl Tryz.isAgg9 rfl rfl rfl) ?_
       refine Ll.nil (Lu.joint (fun _ h => h.tail) ?_)
       refine Lu.take rfl rfl rfl rfl rfl (OpQ.sadd rfl rfl rfl (by first | (rw [bit_len]; omega) | omega)) (fun _ h => h.tail) ?_
       refine Lu.take rfl rfl rfl rfl rfl (OpQ.fieldAddr rfl Tryz.runUnderlying24 rfl Tryz.sizeOf9 rfl rfl) (fun _ h => h.tail) ?_
       refine Lu.loud rfl ?_
       refine Ll.store1 (v := str (R1 ++ ((if a.inRel (xs.getD (((k : Int)).toNat) 0) (xs.getD (((j : Int)).toNat) 0) then [49] else [48])))) (hs' := [bk_ p5 #[i6_ ((xs.length : Int)), str (S ++ ((if a.inSet (xs.getD (((k : Int)).toNat) 0) then [49] else [48]))), str (R1 ++ ((if a.inRel (xs.getD (((k : Int)).toNat) 0) (xs.getD (((j : Int)).toNat) 0) then [49] else [48])))] 24, _, _]) 0 rfl rfl rfl rfl rfl rfl Tryz.sizeOf9 rfl (by simp) rfl ?_
       refine Ll.nil (Lu.joint (fun _ h => h.tail) ?_)
       refine Lu.nil ?_
       refine Kt.sel [1, 2, 4, 5, 6, 7] [_, _, _, _, _, _] rfl ?_
       refine Wk.regionQ ?_
       refine Lq.run 1 rfl ?_
       refine Lq.op rfl rfl rfl (OpQ.add rfl rfl rfl (by omega) (by omega)) ?_
       refine Lq.run 1 rfl ?_
       refine Lq.nil ?_
       refine Kt.again ((j + 1, R1 ++ ((if a.inRel (xs.getD (((k : Int)).toNat) 0) (xs.getD (((j : Int)).toNat) 0) then [49] else [48])))) ⟨by omega, by (try dsimp only); rw [List.length_append, bit_len]; omega⟩ (by omega) (Sub.sel [1, 2, 4, 5, 6, 7] rfl) (fun _ h => h)
    ·
     replace h31_2 := of_decide_eq_false h31_2
     refine Wk.exit rfl ?_
     refine Kt.sel [1, 2, 4, 5, 6] [_, _, _, _, _] rfl ?_
     refine Wk.regionQ ?_
     refine Lq.run 1 rfl ?_
     refine Lq.op rfl rfl rfl (OpQ.add rfl rfl rfl (by omega) (by omega)) ?_
     refine Lq.run 1 rfl ?_
     refine Lq.nil ?_
     refine Kt.again ((k + 1, S ++ ((if a.inSet (xs.getD (((k : Int)).toNat) 0) then [49] else [48])), R1)) ⟨by omega, by (try dsimp only); rw [List.length_append, bit_len]; omega, by (try dsimp only); rw [Nat.add_mul, Nat.one_mul]; omega⟩ (by omega) (Sub.sel [1, 2, 4, 5, 6] rfl) (fun _ h => h)
 ·
  replace h14 := of_decide_eq_false h14
  refine Wk.exit rfl ?_
  refine Kt.sel [4, 5] [_, _] rfl ?_
  refine Wk.seq ?_
  refine Wk.region ?_
  refine Ll.op rfl rfl rfl (OpQ.loadBox (cs := #[i6_ ((xs.length : Int)), str S, str R]) 0 rfl Tryz.isAgg24 rfl rfl Tryz.sizeOf24) ?_
  refine Ll.storeBox (cs' := #[i6_ ((xs.length : Int)), str S, str R]) (hs' := [_, bk_ p4 #[i6_ ((xs.length : Int)), str S, str R] 24, _]) 1 rfl rfl rfl rfl rfl (by kernel_rfl : _ = some Tryz.t24) rfl rfl rfl rfl rfl ?_
  refine Ll.nil ?_
  refine Kt.sel [4] [_] rfl ?_
  refine Wk.ret (Kt.endBox (cs := #[i6_ ((xs.length : Int)), str S, str R]) 1 rfl rfl rfl Tryz.isAgg24 Tryz.sizeOf24 fun w' hw => ?_)
  exact ⟨⟨(xs.length : Int), S, R⟩, rfl, ⟨rfl, by dsimp only; omega, by dsimp only; rw [hR, show k = xs.length from by omega]⟩, hw.below⟩
end Go.Proofs.YtjcoijejhachhaaGreatDoor
namespace Go.Proofs.YtjcoijejhachhaaGreatDoor
open Go.RowKit Go.Wk
set_option linter.unusedSimpArgs false
set_option maxHeartbeats 400000 in
/-- spec.l1Flip -/
theorem flip_ok (s : List UInt8) (w : World) (hs : s.length ≤ 1000000) :
    Calls Tryz.prog 52 [str s].toArray w fun en w' => ∃ t : List UInt8, en = .returned (str t) ∧ (t.length = s.length) ∧ Below w.heap.size w w' := by
 refine fnStart (n := 23) (e := [(0, str s)]) Tryz.func52 rfl rfl rfl rfl Ends.both ?_
 refine Wk.seq ?_
 refine Wk.regionQ ?_
 refine Lq.op (v := str ([])) rfl rfl rfl (OpQ.assign rfl rfl) ?_
 refine Lq.nil ?_
 refine Kt.sel [0] [_] rfl ?_
 refine Wk.seq ?_
 refine Wk.region ?_
 refine Ll.run 1 rfl ?_
 refine Ll.strBytes (s := s) rfl rfl rfl rfl Tryz.underlying9 Tryz.underlying22 Tryz.underlying5 rfl fun g cap cur hg hc ht => ?_
 show Ll _ _ (Own _ _ [_]) _ _ ((6, sl_ g s.length cap) :: _) _ _ _
 refine Ll.run 1 rfl ?_
 refine Ll.nil ?_
 refine Kt.sel [3] [_] rfl ?_
 refine Wk.seq ?_
 refine Wk.seq ?_
 refine Wk.regionQ ?_
 refine Lq.run 1 rfl ?_
 refine Lq.nil ?_
 refine Kt.sel [3, 4] [_, _] rfl ?_
 refine Wk.block ?_
 refine Wk.loop (σ := Nat × Array Value × List Int) (fun ⟨i, cu, V⟩ => i ≤ s.length ∧ cu.size = cur.size ∧ V.length = s.length ∧ Bytes8 V ∧ cu.toList.take s.length = u8s V) (fun ⟨i, cu, V⟩ => [(3, sl_ g s.length cap), (4, i6_ ((i : Int)))]) (fun ⟨i, cu, V⟩ => Own w.heap.size w [(g, .cells cu 5 (cur.size, cur.size + 1))]) (fun ⟨i, cu, V⟩ => s.length - i) ((0, cur, byts s)) ⟨by omega, rfl, by simp, byts_8 s, ht⟩ (Sub.sel [3, 4] rfl) (fun _ h => h) ?_
 rintro ⟨i, cu, V⟩ ⟨hi, hsz, hVl, hV8, hV⟩
 dsimp only
 refine Wk.seq ?_
 refine Wk.seq ?_
 refine Wk.regionQ ?_
 refine Lq.run 2 rfl ?_
 refine Lq.op rfl rfl rfl (OpQ.lenS rfl Tryz.runUnderlying22 rfl) ?_
 refine Lq.run 1 rfl ?_
 refine Lq.nil ?_
 refine Kt.sel [3, 4, 10] [_, _, _] rfl ?_
 refine Wk.cond (b := decide (((i : Int)) < ((s.length : Int)))) rfl (fun h10 => ?_) (fun h10 => ?_)
 ·
  replace h10 := of_decide_eq_true h10
  refine Wk.skip ?_
  refine Kt.sel [3, 4] [_, _] rfl ?_
  refine Wk.seq ?_
  refine Wk.block ?_
  refine Wk.region ?_
  refine Ll.run 4 rfl ?_
  refine Ll.op (v := pf_ g (0 + ((i : Int)).toNat)) rfl rfl rfl (OpQ.indexAddr1 rfl Tryz.runUnderlying22 Tryz.sizeOf5 rfl rfl (by omega) (by omega)) ?_
  refine Ll.op (v := .int .u8 (V.getD (((i : Int)).toNat) 0)) rfl rfl rfl (OpQ.loadAt 0 rfl Tryz.isAgg5 rfl rfl (by rw [Nat.zero_add]; exact cur_at hV (u8s_at (by omega)))) ?_
  refine Ll.op (v := .int .u8 (IntKind.u8.wrap (97 - V.getD (((i : Int)).toNat) 0))) rfl rfl rfl (OpQ.subU8 rfl rfl rfl) ?_
  refine Ll.op (v := pf_ g (0 + ((i : Int)).toNat)) rfl rfl rfl (OpQ.indexAddr1 rfl Tryz.runUnderlying22 Tryz.sizeOf5 rfl rfl (by omega) (by omega)) ?_
  refine Ll.storeFr (v := .int .u8 (IntKind.u8.wrap (97 - V.getD (((i : Int)).toNat) 0))) 0 rfl rfl rfl rfl rfl rfl Tryz.sizeOf5 rfl (by omega) (by dsimp only; omega) ?_
  show Ll _ _ (Own _ _ [_]) _ _ _ _ _ _
  refine Ll.nil ?_
  refine Kt.sel [3, 4] [_, _] rfl ?_
  refine Wk.regionQ ?_
  refine Lq.run 1 rfl ?_
  refine Lq.op rfl rfl rfl (OpQ.add rfl rfl rfl (by omega) (by omega)) ?_
  refine Lq.run 1 rfl ?_
  refine Lq.nil ?_
  refine Kt.again ((i + 1, (cu.setIfInBounds (0 + ((i : Int)).toNat) (.int .u8 (IntKind.u8.wrap (97 - V.getD (((i : Int)).toNat) 0)))), V.set (0 + ((i : Int)).toNat) (IntKind.u8.wrap (97 - V.getD (((i : Int)).toNat) 0)))) ⟨by omega, by simpa using hsz, by simpa using hVl, hV8.set (wrap8 _).1 (wrap8 _).2, (set_takeU hV)⟩ (by omega) (Sub.sel [3, 4] rfl) (fun _ h => h)
 ·
  replace h10 := of_decide_eq_false h10
  refine Wk.exit rfl ?_
  refine Kt.sel [3] [_] rfl ?_
  refine Wk.seq ?_
  refine Wk.regionQ ?_
  refine Lq.run 1 rfl ?_
  refine Lq.op (v := str (u8of V)) rfl rfl rfl (OpQ.bytesStr (V := V) 0 rfl Tryz.underlying22 Tryz.underlying5 Tryz.underlying9 (by first | rfl | (rw [hVl]; rfl)) rfl (by rw [hVl]; exact hV) hV8) ?_
  refine Lq.run 1 rfl ?_
  refine Lq.nil ?_
  refine Kt.sel [2] [_] rfl ?_
  refine Wk.ret (Kt.end1 rfl rfl fun w' hw => ?_)
  exact ⟨_, rfl, by simp [hVl], hw.below⟩
set_option maxHeartbeats 400000 in
/-- spec.l1Pair -/
theorem l1Pair_ok (B : Nat) (w0 : World) (hs : List (Nat × Obj)) (rp p : Nat) (bv : Value) (L : List Int) (w : World) (hb : ∀ w, Own B w0 hs w → Row w bv (u8s L)) (hL8 : Bytes8 L) (hL : L.length ≤ 2000) (hp : p ≤ 700000) (hw : Own B w0 ((rp, .cells #[bv, .int .i64 (p : Int)] 59 (0, 0)) :: hs) w) :
    Calls Tryz.prog 31 [pt_ rp].toArray w fun en w' => ∃ a : St, ∃ b : St, ∃ p' : Nat, en = .returned (.tuple #[vS a, vS b]) ∧ (((a.Fine ∧ a.n ≤ 5) ∧ (b.Fine ∧ b.n ≤ 5)) ∧ p' ≤ p + 1000) ∧ Own B w0 (((rp, .cells #[bv, .int .i64 (p' : Int)] 59 (0, 0)) :: hs)) w' := by
 refine fnStartC (Own B w0 ((rp, .cells #[bv, .int .i64 (p : Int)] 59 (0, 0)) :: hs)) (n := 64) (e := [(0, pt_ rp)]) Tryz.func31 rfl rfl rfl rfl Ends.both hw ?_
 refine Wk.seq ?_
 refine Wk.region ?_
 refine Ll.alloc rfl rfl rfl rfl Tryz.zeroValue24 fun p2 hp2 => ?_
 show Ll _ _ (Own _ _ (bk_ p2 #[i6_ 0, str ([]), str ([])] 24 :: _ :: hs)) _ _ ((2, pt_ p2) :: _) _ _ _
 refine Ll.alloc rfl rfl rfl rfl Tryz.zeroValue24 fun p3 hp3 => ?_
 show Ll _ _ (Own _ _ (bk_ p3 #[i6_ 0, str ([]), str ([])] 24 :: _ :: _ :: hs)) _ _ ((3, pt_ p3) :: _) _ _ _
 refine Ll.nil ?_
 refine Kt.sel [0, 2, 3] [_, _, _] rfl ?_
 refine Wk.seq ?_
 refine Wk.region ?_
 refine Ll.run 1 rfl ?_
 refine Ll.callRd (rp := rp) (RT := 59) (p := p) (bv := bv) (hs := hs) (ok := fun (a : St) p' => (a.Fine ∧ a.n ≤ 5) ∧ p' ≤ p + 200) (v := fun (a : St) => vS a) (new := fun (a : St) => []) (xs := [.tmp 7]) (vs := [pt_ rp]) ([bk_ p3 #[i6_ 0, str ([]), str ([])] 24, bk_ p2 #[i6_ 0, str ([]), str ([])] 24] : List (Nat × Obj)) rfl rfl rfl rfl Tryz.call50 rfl (fun w1 hw1 => (l1Some_ok B w0 (([bk_ p3 #[i6_ 0, str ([]), str ([])] 24, bk_ p2 #[i6_ 0, str ([]), str ([])] 24] : List (Nat × Obj)) ++ hs) rp p bv L w1 (fun w2 hw2 => hb w2 (Own.drop (f := ([bk_ p3 #[i6_ 0, str ([]), str ([])] 24, bk_ p2 #[i6_ 0, str ([]), str ([])] 24] : List (Nat × Obj))) hw2)) hL8 hL (by omega) hw1).mono fun en w' ⟨a', p', h1, h2, h3⟩ => ⟨a', p', h1, h2, h3⟩) fun a8 p_8 hKp_8 => ?_
 show Ll _ _ (Own _ _ (_ :: _ :: _ :: hs)) _ _ ((8, vS a8) :: _) _ _ _
 obtain ⟨⟨hfa8, h5a8⟩, hep_8⟩ := hKp_8
 have hloa8 := hfa8.lo
 refine Ll.alloc rfl rfl rfl rfl Tryz.zeroValue24 fun p4 hp4 => ?_
 show Ll _ _ (Own _ _ (bk_ p4 #[i6_ 0, str ([]), str ([])] 24 :: _ :: _ :: _ :: hs)) _ _ ((4, pt_ p4) :: _) _ _ _
 refine Ll.storeBox (cs' := #[i6_ a8.n, str a8.set, str a8.rel]) (hs' := (bk_ p4 #[i6_ a8.n, str a8.set, str a8.rel] 24 :: _ :: _ :: _ :: hs)) 0 rfl rfl rfl rfl rfl (by kernel_rfl : _ = some Tryz.t24) rfl rfl rfl rfl rfl ?_
 refine Ll.nil ?_
 refine Kt.sel [0, 2, 3, 4] [_, _, _, _] rfl ?_
 refine Wk.seq ?_
 refine Wk.seq ?_
 refine Wk.region ?_
 refine Ll.run 1 rfl ?_
 refine Ll.callRd (rp := rp) (RT := 59) (p := p_8) (bv := bv) (hs := hs) (ok := fun (k : Int) p' => 0 ≤ k ∧ (1 ≤ (4 : Int) → k < 4) ∧ p' = p_8 + 1) (v := fun (k : Int) => i6_ k) (new := fun (k : Int) => []) (xs := [.tmp 9, .const (i6_ 4)]) (vs := [pt_ rp, i6_ 4]) ([bk_ p4 #[i6_ a8.n, str a8.set, str a8.rel] 24, bk_ p3 #[i6_ 0, str ([]), str ([])] 24, bk_ p2 #[i6_ 0, str ([]), str ([])] 24] : List (Nat × Obj)) rfl rfl rfl rfl Tryz.call33 rfl (fun w1 hw1 => (pick_ok B w0 (([bk_ p4 #[i6_ a8.n, str a8.set, str a8.rel] 24, bk_ p3 #[i6_ 0, str ([]), str ([])] 24, bk_ p2 #[i6_ 0, str ([]), str ([])] 24] : List (Nat × Obj)) ++ hs) rp p_8 bv L 4 w1 (fun w2 hw2 => hb w2 (Own.drop (f := ([bk_ p4 #[i6_ a8.n, str a8.set, str a8.rel] 24, bk_ p3 #[i6_ 0, str ([]), str ([])] 24, bk_ p2 #[i6_ 0, str ([]), str ([])] 24] : List (Nat × Obj))) hw2)) hL8 hL (by omega) hw1).mono fun en w' ⟨k', p', h1, h2, h3⟩ => ⟨k', p', h1, h2, h3⟩) fun k10 p_10 hKp_10 => ?_
 show Ll _ _ (Own _ _ (_ :: _ :: _ :: _ :: hs)) _ _ ((10, i6_ k10) :: _) _ _ _
 obtain ⟨h0k10, h1k10, hep_10⟩ := hKp_10
 try have hltk10 := h1k10 (by first | omega | (split <;> omega) | decide)
 refine Ll.nil ?_
 refine Kt.sel [0, 2, 3, 4, 10] [_, _, _, _, _] rfl ?_
 refine Wk.block ?_
 refine Wk.seq ?_
 refine Wk.regionQ ?_
 refine Lq.run 2 rfl ?_
 refine Lq.nil ?_
 refine Kt.sel [0, 2, 3, 4, 10, 11] [_, _, _, _, _, _] rfl ?_
 refine Wk.cond (b := decide (k10 = (0 : Int))) rfl (fun h11 => ?_) (fun h11 => ?_)
 ·
  replace h11 := of_decide_eq_true h11
  refine Wk.seq ?_
  refine Wk.regionS (S := Own B w0 [bk_ p4 #[i6_ a8.n, str a8.set, str a8.rel] 24]) [(0, true), (1, true), (2, true), (3, true), (4, true), (5, false), (6, false), (7, false), (8, false)] Base.mixed (fun _ h => h.drawn) (by kernel_rfl) ?_
  refine Ld.take rfl rfl rfl rfl rfl (OpQ.loadBox (cs := #[i6_ a8.n, str a8.set, str a8.rel]) 0 rfl Tryz.isAgg24 rfl rfl Tryz.sizeOf24) (pk [0] rfl rfl) ?_
  refine Ld.take rfl rfl rfl rfl rfl (OpQ.loadBox (cs := #[i6_ a8.n, str a8.set, str a8.rel]) 0 rfl Tryz.isAgg24 rfl rfl Tryz.sizeOf24) (pk [0] rfl rfl) ?_
  refine Ld.run 1 rfl (pk [0] rfl rfl) ?_
  refine Ld.take rfl rfl rfl rfl rfl (OpQ.fieldAddr rfl Tryz.runUnderlying24 rfl Tryz.sizeOf3 rfl rfl) (pk [0] rfl rfl) ?_
  refine Ld.take rfl rfl rfl rfl rfl (OpQ.loadOwn 0 rfl Tryz.isAgg3 rfl rfl rfl) (pk [0] rfl rfl) ?_
  refine Ld.loud rfl ?_
  refine Ll.callRd (rp := rp) (RT := 59) (p := p_10) (bv := bv) (hs := hs) (ok := fun ((g, c, u, xs) : Nat × Nat × Array Value × List Int) p' => (u.size = c * 1 ∧ xs.length ≤ c ∧ u.toList.take xs.length = ints xs) ∧ (xs.length = a8.n.toNat ∧ ∀ x ∈ xs, 0 ≤ x ∧ x < a8.n) ∧ p' ≤ p_10 + 10) (v := fun ((g, c, u, xs) : Nat × Nat × Array Value × List Int) => sl_ g xs.length c) (new := fun ((g, c, u, xs) : Nat × Nat × Array Value × List Int) => [bk_ g u 3]) (xs := [.tmp 15, .tmp 17]) (vs := [pt_ rp, i6_ a8.n]) ([bk_ p4 #[i6_ a8.n, str a8.set, str a8.rel] 24, bk_ p3 #[i6_ 0, str ([]), str ([])] 24, bk_ p2 #[i6_ 0, str ([]), str ([])] 24] : List (Nat × Obj)) rfl rfl rfl rfl Tryz.call51 rfl (fun w1 hw1 => (shuffle_ok B w0 (([bk_ p4 #[i6_ a8.n, str a8.set, str a8.rel] 24, bk_ p3 #[i6_ 0, str ([]), str ([])] 24, bk_ p2 #[i6_ 0, str ([]), str ([])] 24] : List (Nat × Obj)) ++ hs) rp p_10 bv L a8.n w1 (fun w2 hw2 => hb w2 (Own.drop (f := ([bk_ p4 #[i6_ a8.n, str a8.set, str a8.rel] 24, bk_ p3 #[i6_ 0, str ([]), str ([])] 24, bk_ p2 #[i6_ 0, str ([]), str ([])] 24] : List (Nat × Obj))) hw2)) hL8 hL (by omega) (by omega) (by omega) hw1).mono fun en w' ⟨g', c', u', xs', p', h1, h2, h3⟩ => ⟨(g', c', u', xs'), p', h1, h2, h3⟩) fun ⟨g18, c18, u18, xs18⟩ p_18 hKp_18 => ?_
  show Ll _ _ (Own _ _ (_ :: _ :: _ :: _ :: _ :: hs)) _ _ ((18, sl_ g18 xs18.length c18) :: _) _ _ _
  obtain ⟨⟨hcg18, hlg18, htg18⟩, ⟨hng18, hrg18⟩, hep_18⟩ := hKp_18
  refine Ll.nil (Ld.joint (pk [1] rfl rfl) ?_)
  refine Ld.loud rfl ?_
  refine Ll.callSome (ok := fun (b : St) => b.n = xs18.length ∧ (b.set.length : Int) = xs18.length ∧ b.rel.length = xs18.length * xs18.length) (v := fun (b : St) => vS b) (xs := [.tmp 14, .tmp 18]) (vs := [vS a8, sl_ g18 xs18.length c18]) rfl rfl rfl rfl Tryz.call32 rfl (fun w1 hw1 => (part_ok a8 (sl_ g18 xs18.length c18) xs18 w1 hfa8 (Own.row hw1 (i := 0) rfl htg18 (by simp) hlg18) hrg18 (by omega)).mono fun en w' ⟨b, h1, h2, h3⟩ => ⟨b, h1, h2, h3⟩) fun b19 hS19 => ?_
  show Ll _ _ (Own _ _ (_ :: _ :: _ :: _ :: _ :: hs)) _ _ ((19, vS b19) :: _) _ _ _
  obtain ⟨hnb19, hsb19, hrb19⟩ := hS19
  refine Ll.nil (Ld.joint (pk [1] rfl rfl) ?_)
  refine Ld.loud rfl ?_
  refine Ll.storeBox (cs' := #[i6_ a8.n, str a8.set, str a8.rel]) (hs' := (_ :: _ :: _ :: bk_ p2 #[i6_ a8.n, str a8.set, str a8.rel] 24 :: _ :: hs)) 3 rfl rfl rfl rfl rfl (by kernel_rfl : _ = some Tryz.t24) rfl rfl rfl rfl rfl ?_
  refine Ll.nil (Ld.joint (pk [1] rfl rfl) ?_)
  refine Ld.loud rfl ?_
  refine Ll.storeBox (cs' := #[i6_ b19.n, str b19.set, str b19.rel]) (hs' := (_ :: _ :: bk_ p3 #[i6_ b19.n, str b19.set, str b19.rel] 24 :: _ :: _ :: hs)) 2 rfl rfl rfl rfl rfl (by kernel_rfl : _ = some Tryz.t24) rfl rfl rfl rfl rfl ?_
  refine Ll.nil (Ld.joint (pk [1] rfl rfl) ?_)
  refine Ld.nil ?_
  refine Kt.sel [2, 3] [_, _] rfl ?_
  refine Wk.ret (Kt.endMany rfl (.cell (cs := #[i6_ a8.n, str a8.set, str a8.rel]) rfl (fun w1 hw1 => hw1.loadBox 3 rfl Tryz.isAgg24 Tryz.sizeOf24) (.cell (cs := #[i6_ b19.n, str b19.set, str b19.rel]) rfl (fun w1 hw1 => hw1.loadBox 2 rfl Tryz.isAgg24 Tryz.sizeOf24) ResAt.nil)) (by simp) fun w' hw => ?_)
  exact ⟨a8, b19, p_18, rfl, ⟨⟨⟨hfa8, h5a8⟩, part_fine hnb19 hsb19 hrb19 hng18 (by omega) (by omega)⟩, by omega⟩, hw.sub (List.Sublist.cons _ (List.Sublist.cons _ (List.Sublist.cons _ (List.Sublist.cons _ (List.Sublist.cons_cons _ (List.Sublist.refl _))))))⟩
 ·
  replace h11 := of_decide_eq_false h11
  refine Wk.seq ?_
  refine Wk.regionQ ?_
  refine Lq.run 2 rfl ?_
  refine Lq.nil ?_
  refine Kt.sel [0, 2, 3, 4, 10, 20] [_, _, _, _, _, _] rfl ?_
  refine Wk.cond (b := decide (k10 = (1 : Int))) rfl (fun h20 => ?_) (fun h20 => ?_)
  ·
   replace h20 := of_decide_eq_true h20
   refine Wk.seq ?_
   refine Wk.join (σ := Nat × St × Nat) (fun ⟨q, b, p6⟩ => (b.Fine ∧ b.n ≤ 5) ∧ p6 ≤ p + 300) (fun ⟨q, b, p6⟩ => [(0, pt_ rp), (2, pt_ p2), (3, pt_ p3), (4, pt_ p4), (5, pt_ q)]) (fun ⟨q, b, p6⟩ => Own B w0 (bk_ q #[i6_ b.n, str b.set, str b.rel] 24 :: bk_ p4 #[i6_ a8.n, str a8.set, str a8.rel] 24 :: bk_ p3 #[i6_ 0, str ([]), str ([])] 24 :: bk_ p2 #[i6_ 0, str ([]), str ([])] 24 :: bk_ rp #[bv, i6_ ((p6 : Int))] 59 :: hs)) ?_ ?_
   ·
    refine Wk.regionU (S := Own B w0 [bk_ p4 #[i6_ a8.n, str a8.set, str a8.rel] 24, bk_ p3 #[i6_ 0, str ([]), str ([])] 24, bk_ p2 #[i6_ 0, str ([]), str ([])] 24]) (.take 0 (.take 1 (.take 2 (.take 3 (.two 4 (.two 5 (.one 6 (.one 7 .done)) 6 (.one 5 (.one 7 .done))) 6 (.one 4 (.one 5 (.one 7 .done)))))))) Base.mixed (fun _ h => h.drawn) (by kernel_rfl) ?_
    refine Lu.take rfl rfl rfl rfl rfl (OpQ.loadBox (cs := #[i6_ a8.n, str a8.set, str a8.rel]) 0 rfl Tryz.isAgg24 rfl rfl Tryz.sizeOf24) (pk [0, 1, 2] rfl rfl) ?_
    refine Lu.run 1 rfl (pk [0, 1, 2] rfl rfl) ?_
    refine Lu.take rfl rfl rfl rfl rfl (OpQ.fieldAddr rfl Tryz.runUnderlying24 rfl Tryz.sizeOf3 rfl rfl) (pk [0, 1, 2] rfl rfl) ?_
    refine Lu.take rfl rfl rfl rfl rfl (OpQ.loadOwn 0 rfl Tryz.isAgg3 rfl rfl rfl) (pk [0, 1, 2] rfl rfl) ?_
    refine Lu.two rfl rfl ?_ ?_
    ·
     refine Ll.callRd (rp := rp) (RT := 59) (p := p_10) (bv := bv) (hs := hs) (ok := fun ((g, c, u, xs) : Nat × Nat × Array Value × List Int) p' => (u.size = c * 1 ∧ xs.length ≤ c ∧ u.toList.take xs.length = ints xs) ∧ (xs.length = a8.n.toNat ∧ ∀ x ∈ xs, 0 ≤ x ∧ x < a8.n) ∧ p' ≤ p_10 + 10) (v := fun ((g, c, u, xs) : Nat × Nat × Array Value × List Int) => sl_ g xs.length c) (new := fun ((g, c, u, xs) : Nat × Nat × Array Value × List Int) => [bk_ g u 3]) (xs := [.tmp 23, .tmp 25]) (vs := [pt_ rp, i6_ a8.n]) ([bk_ p4 #[i6_ a8.n, str a8.set, str a8.rel] 24, bk_ p3 #[i6_ 0, str ([]), str ([])] 24, bk_ p2 #[i6_ 0, str ([]), str ([])] 24] : List (Nat × Obj)) rfl rfl rfl rfl Tryz.call51 rfl (fun w1 hw1 => (shuffle_ok B w0 (([bk_ p4 #[i6_ a8.n, str a8.set, str a8.rel] 24, bk_ p3 #[i6_ 0, str ([]), str ([])] 24, bk_ p2 #[i6_ 0, str ([]), str ([])] 24] : List (Nat × Obj)) ++ hs) rp p_10 bv L a8.n w1 (fun w2 hw2 => hb w2 (Own.drop (f := ([bk_ p4 #[i6_ a8.n, str a8.set, str a8.rel] 24, bk_ p3 #[i6_ 0, str ([]), str ([])] 24, bk_ p2 #[i6_ 0, str ([]), str ([])] 24] : List (Nat × Obj))) hw2)) hL8 hL (by omega) (by omega) (by omega) hw1).mono fun en w' ⟨g', c', u', xs', p', h1, h2, h3⟩ => ⟨(g', c', u', xs'), p', h1, h2, h3⟩) fun ⟨g26, c26, u26, xs26⟩ p_26 hKp_26 => ?_
     show Ll _ _ (Own _ _ (_ :: _ :: _ :: _ :: _ :: hs)) _ _ ((26, sl_ g26 xs26.length c26) :: _) _ _ _
     obtain ⟨⟨hcg26, hlg26, htg26⟩, ⟨hng26, hrg26⟩, hep_26⟩ := hKp_26
     refine Ll.nil (Lu.joint (pk [1, 2, 3] rfl rfl) ?_)
     refine Lu.two rfl rfl ?_ ?_
     ·
      refine Ll.callSome (ok := fun (b : St) => b.n = xs26.length ∧ (b.set.length : Int) = xs26.length ∧ b.rel.length = xs26.length * xs26.length) (v := fun (b : St) => vS b) (xs := [.tmp 22, .tmp 26]) (vs := [vS a8, sl_ g26 xs26.length c26]) rfl rfl rfl rfl Tryz.call32 rfl (fun w1 hw1 => (part_ok a8 (sl_ g26 xs26.length c26) xs26 w1 hfa8 (Own.row hw1 (i := 0) rfl htg26 (by simp) hlg26) hrg26 (by omega)).mono fun en w' ⟨b, h1, h2, h3⟩ => ⟨b, h1, h2, h3⟩) fun b27 hS27 => ?_
      show Ll _ _ (Own _ _ (_ :: _ :: _ :: _ :: _ :: hs)) _ _ ((27, vS b27) :: _) _ _ _
      obtain ⟨hnb27, hsb27, hrb27⟩ := hS27
      refine Ll.nil (Lu.joint (pk [1, 2, 3] rfl rfl) ?_)
      refine Lu.loud rfl ?_
      refine Ll.alloc rfl rfl rfl rfl Tryz.zeroValue24 fun p5 hp5 => ?_
      show Ll _ _ (Own _ _ (bk_ p5 #[i6_ 0, str ([]), str ([])] 24 :: _ :: _ :: _ :: _ :: _ :: hs)) _ _ ((5, pt_ p5) :: _) _ _ _
      refine Ll.nil (Lu.joint (pk [2, 3, 4] rfl rfl) ?_)
      refine Lu.loud rfl ?_
      refine Ll.storeBox (cs' := #[i6_ b27.n, str b27.set, str b27.rel]) (hs' := (bk_ p5 #[i6_ b27.n, str b27.set, str b27.rel] 24 :: _ :: _ :: _ :: _ :: _ :: hs)) 0 rfl rfl rfl rfl rfl (by kernel_rfl : _ = some Tryz.t24) rfl rfl rfl rfl rfl ?_
      refine Ll.nil (Lu.joint (pk [2, 3, 4] rfl rfl) ?_)
      refine Lu.nil ?_
      refine Kt.joined ((p5, b27, p_26)) ⟨part_fine hnb27 hsb27 hrb27 hng26 (by omega) (by omega), by (try dsimp only); omega⟩ (Sub.sel [0, 2, 3, 4, 5] rfl) (fun _ h => h.sub (List.Sublist.cons_cons _ (List.Sublist.cons _ (List.Sublist.cons_cons _ (List.Sublist.cons_cons _ (List.Sublist.cons_cons _ (List.Sublist.cons_cons _ (List.Sublist.refl _))))))))
     ·
      refine Ll.alloc rfl rfl rfl rfl Tryz.zeroValue24 fun p5_1 hp5_1 => ?_
      show Ll _ _ (Own _ _ (bk_ p5_1 #[i6_ 0, str ([]), str ([])] 24 :: _ :: _ :: _ :: _ :: _ :: hs)) _ _ ((5, pt_ p5_1) :: _) _ _ _
      refine Ll.nil (Lu.joint (pk [2, 3, 4] rfl rfl) ?_)
      refine Lu.loud rfl ?_
      refine Ll.callSome (ok := fun (b : St) => b.n = xs26.length ∧ (b.set.length : Int) = xs26.length ∧ b.rel.length = xs26.length * xs26.length) (v := fun (b : St) => vS b) (xs := [.tmp 22, .tmp 26]) (vs := [vS a8, sl_ g26 xs26.length c26]) rfl rfl rfl rfl Tryz.call32 rfl (fun w1 hw1 => (part_ok a8 (sl_ g26 xs26.length c26) xs26 w1 hfa8 (Own.row hw1 (i := 1) rfl htg26 (by simp) hlg26) hrg26 (by omega)).mono fun en w' ⟨b, h1, h2, h3⟩ => ⟨b, h1, h2, h3⟩) fun b27_1 hS27_1 => ?_
      show Ll _ _ (Own _ _ (_ :: _ :: _ :: _ :: _ :: _ :: hs)) _ _ ((27, vS b27_1) :: _) _ _ _
      obtain ⟨hnb27_1, hsb27_1, hrb27_1⟩ := hS27_1
      refine Ll.nil (Lu.joint (pk [2, 3, 4] rfl rfl) ?_)
      refine Lu.loud rfl ?_
      refine Ll.storeBox (cs' := #[i6_ b27_1.n, str b27_1.set, str b27_1.rel]) (hs' := (bk_ p5_1 #[i6_ b27_1.n, str b27_1.set, str b27_1.rel] 24 :: _ :: _ :: _ :: _ :: _ :: hs)) 0 rfl rfl rfl rfl rfl (by kernel_rfl : _ = some Tryz.t24) rfl rfl rfl rfl rfl ?_
      refine Ll.nil (Lu.joint (pk [2, 3, 4] rfl rfl) ?_)
      refine Lu.nil ?_
      refine Kt.joined ((p5_1, b27_1, p_26)) ⟨part_fine hnb27_1 hsb27_1 hrb27_1 hng26 (by omega) (by omega), by (try dsimp only); omega⟩ (Sub.sel [0, 2, 3, 4, 5] rfl) (fun _ h => h.sub (List.Sublist.cons_cons _ (List.Sublist.cons _ (List.Sublist.cons_cons _ (List.Sublist.cons_cons _ (List.Sublist.cons_cons _ (List.Sublist.cons_cons _ (List.Sublist.refl _))))))))
    ·
     refine Ll.alloc rfl rfl rfl rfl Tryz.zeroValue24 fun p5_2 hp5_2 => ?_
     show Ll _ _ (Own _ _ (bk_ p5_2 #[i6_ 0, str ([]), str ([])] 24 :: _ :: _ :: _ :: _ :: hs)) _ _ ((5, pt_ p5_2) :: _) _ _ _
     refine Ll.nil (Lu.joint (pk [1, 2, 3] rfl rfl) ?_)
     refine Lu.loud rfl ?_
     refine Ll.callRd (rp := rp) (RT := 59) (p := p_10) (bv := bv) (hs := hs) (ok := fun ((g, c, u, xs) : Nat × Nat × Array Value × List Int) p' => (u.size = c * 1 ∧ xs.length ≤ c ∧ u.toList.take xs.length = ints xs) ∧ (xs.length = a8.n.toNat ∧ ∀ x ∈ xs, 0 ≤ x ∧ x < a8.n) ∧ p' ≤ p_10 + 10) (v := fun ((g, c, u, xs) : Nat × Nat × Array Value × List Int) => sl_ g xs.length c) (new := fun ((g, c, u, xs) : Nat × Nat × Array Value × List Int) => [bk_ g u 3]) (xs := [.tmp 23, .tmp 25]) (vs := [pt_ rp, i6_ a8.n]) ([bk_ p5_2 #[i6_ 0, str ([]), str ([])] 24, bk_ p4 #[i6_ a8.n, str a8.set, str a8.rel] 24, bk_ p3 #[i6_ 0, str ([]), str ([])] 24, bk_ p2 #[i6_ 0, str ([]), str ([])] 24] : List (Nat × Obj)) rfl rfl rfl rfl Tryz.call51 rfl (fun w1 hw1 => (shuffle_ok B w0 (([bk_ p5_2 #[i6_ 0, str ([]), str ([])] 24, bk_ p4 #[i6_ a8.n, str a8.set, str a8.rel] 24, bk_ p3 #[i6_ 0, str ([]), str ([])] 24, bk_ p2 #[i6_ 0, str ([]), str ([])] 24] : List (Nat × Obj)) ++ hs) rp p_10 bv L a8.n w1 (fun w2 hw2 => hb w2 (Own.drop (f := ([bk_ p5_2 #[i6_ 0, str ([]), str ([])] 24, bk_ p4 #[i6_ a8.n, str a8.set, str a8.rel] 24, bk_ p3 #[i6_ 0, str ([]), str ([])] 24, bk_ p2 #[i6_ 0, str ([]), str ([])] 24] : List (Nat × Obj))) hw2)) hL8 hL (by omega) (by omega) (by omega) hw1).mono fun en w' ⟨g', c', u', xs', p', h1, h2, h3⟩ => ⟨(g', c', u', xs'), p', h1, h2, h3⟩) fun ⟨g26_1, c26_1, u26_1, xs26_1⟩ p_26_1 hKp_26_1 => ?_
     show Ll _ _ (Own _ _ (_ :: _ :: _ :: _ :: _ :: _ :: hs)) _ _ ((26, sl_ g26_1 xs26_1.length c26_1) :: _) _ _ _
     obtain ⟨⟨hcg26_1, hlg26_1, htg26_1⟩, ⟨hng26_1, hrg26_1⟩, hep_26_1⟩ := hKp_26_1
     refine Ll.nil (Lu.joint (pk [2, 3, 4] rfl rfl) ?_)
     refine Lu.loud rfl ?_
     refine Ll.callSome (ok := fun (b : St) => b.n = xs26_1.length ∧ (b.set.length : Int) = xs26_1.length ∧ b.rel.length = xs26_1.length * xs26_1.length) (v := fun (b : St) => vS b) (xs := [.tmp 22, .tmp 26]) (vs := [vS a8, sl_ g26_1 xs26_1.length c26_1]) rfl rfl rfl rfl Tryz.call32 rfl (fun w1 hw1 => (part_ok a8 (sl_ g26_1 xs26_1.length c26_1) xs26_1 w1 hfa8 (Own.row hw1 (i := 0) rfl htg26_1 (by simp) hlg26_1) hrg26_1 (by omega)).mono fun en w' ⟨b, h1, h2, h3⟩ => ⟨b, h1, h2, h3⟩) fun b27_2 hS27_2 => ?_
     show Ll _ _ (Own _ _ (_ :: _ :: _ :: _ :: _ :: _ :: hs)) _ _ ((27, vS b27_2) :: _) _ _ _
     obtain ⟨hnb27_2, hsb27_2, hrb27_2⟩ := hS27_2
     refine Ll.nil (Lu.joint (pk [2, 3, 4] rfl rfl) ?_)
     refine Lu.loud rfl ?_
     refine Ll.storeBox (cs' := #[i6_ b27_2.n, str b27_2.set, str b27_2.rel]) (hs' := (_ :: bk_ p5_2 #[i6_ b27_2.n, str b27_2.set, str b27_2.rel] 24 :: _ :: _ :: _ :: _ :: hs)) 1 rfl rfl rfl rfl rfl (by kernel_rfl : _ = some Tryz.t24) rfl rfl rfl rfl rfl ?_
     refine Ll.nil (Lu.joint (pk [2, 3, 4] rfl rfl) ?_)
     refine Lu.nil ?_
     refine Kt.joined ((p5_2, b27_2, p_26_1)) ⟨part_fine hnb27_2 hsb27_2 hrb27_2 hng26_1 (by omega) (by omega), by (try dsimp only); omega⟩ (Sub.sel [0, 2, 3, 4, 5] rfl) (fun _ h => h.sub (List.Sublist.cons _ (List.Sublist.cons_cons _ (List.Sublist.cons_cons _ (List.Sublist.cons_cons _ (List.Sublist.cons_cons _ (List.Sublist.cons_cons _ (List.Sublist.refl _))))))))
   rintro ⟨q, b, p6⟩ ⟨⟨hfb, h5b⟩, hp6⟩
   dsimp only
   obtain ⟨hl1, hl25⟩ := fine_len hfb h5b
   refine Kt.sel [0, 2, 3, 4, 5] [_, _, _, _, _] rfl ?_
   refine Wk.seq ?_
   refine Wk.region ?_
   refine Ll.run 1 rfl ?_
   refine Ll.op rfl rfl rfl (OpQ.fieldAddr rfl Tryz.runUnderlying24 rfl Tryz.sizeOf9 rfl rfl) ?_
   refine Ll.op rfl rfl rfl (OpQ.loadOwn 0 rfl Tryz.isAgg9 rfl rfl rfl) ?_
   refine Ll.op (v := i6_ ((b.rel.length : Int))) rfl rfl rfl (OpQ.lenStr rfl Tryz.runUnderlying9 rfl) ?_
   refine Ll.callRd (rp := rp) (RT := 59) (p := p6) (bv := bv) (hs := hs) (ok := fun (k : Int) p' => 0 ≤ k ∧ (1 ≤ ((b.rel.length : Int)) → k < ((b.rel.length : Int))) ∧ p' = p6 + 1) (v := fun (k : Int) => i6_ k) (new := fun (k : Int) => []) (xs := [.tmp 28, .tmp 31]) (vs := [pt_ rp, i6_ ((b.rel.length : Int))]) ([bk_ q #[i6_ b.n, str b.set, str b.rel] 24, bk_ p4 #[i6_ a8.n, str a8.set, str a8.rel] 24, bk_ p3 #[i6_ 0, str ([]), str ([])] 24, bk_ p2 #[i6_ 0, str ([]), str ([])] 24] : List (Nat × Obj)) rfl rfl rfl rfl Tryz.call33 rfl (fun w1 hw1 => (pick_ok B w0 (([bk_ q #[i6_ b.n, str b.set, str b.rel] 24, bk_ p4 #[i6_ a8.n, str a8.set, str a8.rel] 24, bk_ p3 #[i6_ 0, str ([]), str ([])] 24, bk_ p2 #[i6_ 0, str ([]), str ([])] 24] : List (Nat × Obj)) ++ hs) rp p6 bv L ((b.rel.length : Int)) w1 (fun w2 hw2 => hb w2 (Own.drop (f := ([bk_ q #[i6_ b.n, str b.set, str b.rel] 24, bk_ p4 #[i6_ a8.n, str a8.set, str a8.rel] 24, bk_ p3 #[i6_ 0, str ([]), str ([])] 24, bk_ p2 #[i6_ 0, str ([]), str ([])] 24] : List (Nat × Obj))) hw2)) hL8 hL (by omega) hw1).mono fun en w' ⟨k', p', h1, h2, h3⟩ => ⟨k', p', h1, h2, h3⟩) fun k32 p_32 hKp_32 => ?_
   show Ll _ _ (Own _ _ (_ :: _ :: _ :: _ :: _ :: hs)) _ _ ((32, i6_ k32) :: _) _ _ _
   obtain ⟨h0k32, h1k32, hep_32⟩ := hKp_32
   try have hltk32 := h1k32 (by first | omega | (split <;> omega) | decide)
   refine Ll.run 1 rfl ?_
   refine Ll.nil ?_
   refine Kt.sel [2, 3, 4, 5, 6] [_, _, _, _, _] rfl ?_
   refine Wk.seq ?_
   refine Wk.join (σ := List UInt8) (fun R => R.length = b.rel.length) (fun R => [(2, pt_ p2), (3, pt_ p3), (4, pt_ p4), (5, pt_ q)]) (fun R => Own B w0 (bk_ q #[i6_ b.n, str b.set, str R] 24 :: bk_ p4 #[i6_ a8.n, str a8.set, str a8.rel] 24 :: bk_ p3 #[i6_ 0, str ([]), str ([])] 24 :: bk_ p2 #[i6_ 0, str ([]), str ([])] 24 :: bk_ rp #[bv, i6_ ((p_32 : Int))] 59 :: hs)) ?_ ?_
   ·
    refine Wk.regionU (S := Own B w0 [bk_ p4 #[i6_ a8.n, str a8.set, str a8.rel] 24, bk_ p3 #[i6_ 0, str ([]), str ([])] 24, bk_ p2 #[i6_ 0, str ([]), str ([])] 24, bk_ rp #[bv, i6_ ((p_32 : Int))] 59]) (.take 0 (.take 2 (.take 4 (.take 6 (.take 7 (.take 8 (.take 12 (.take 14 (.take 15 (.three 1 (.take 3 (.two 5 (.take 9 (.two 10 (.take 11 (.one 13 (.take 16 (.take 17 (.take 18 (.one 19 .done)))))) 13 (.take 16 (.one 10 (.take 11 (.take 17 (.take 18 (.one 19 .done)))))))) 13 (.take 16 (.one 5 (.take 9 (.one 10 (.take 11 (.take 17 (.take 18 (.one 19 .done)))))))))) 5 (.take 9 (.three 1 (.take 3 (.two 10 (.take 11 (.one 13 (.take 16 (.take 17 (.take 18 (.one 19 .done)))))) 13 (.take 16 (.one 10 (.take 11 (.take 17 (.take 18 (.one 19 .done)))))))) 10 (.two 1 (.take 3 (.take 11 (.one 13 (.take 16 (.take 17 (.take 18 (.one 19 .done))))))) 13 (.take 16 (.one 1 (.take 3 (.take 11 (.take 17 (.take 18 (.one 19 .done)))))))) 13 (.take 16 (.two 1 (.take 3 (.one 10 (.take 11 (.take 17 (.take 18 (.one 19 .done)))))) 10 (.one 1 (.take 3 (.take 11 (.take 17 (.take 18 (.one 19 .done)))))))))) 13 (.take 16 (.two 1 (.take 3 (.one 5 (.take 9 (.one 10 (.take 11 (.take 17 (.take 18 (.one 19 .done)))))))) 5 (.take 9 (.two 1 (.take 3 (.one 10 (.take 11 (.take 17 (.take 18 (.one 19 .done)))))) 10 (.one 1 (.take 3 (.take 11 (.take 17 (.take 18 (.one 19 .done)))))))))))))))))))) Base.mixed (fun _ h => h.drawn) (by kernel_rfl) ?_
    refine Lu.take rfl rfl rfl rfl rfl (OpQ.fieldAddr rfl Tryz.runUnderlying24 rfl Tryz.sizeOf9 rfl rfl) (pk [1, 2, 3, 4] rfl rfl) ?_
    refine Lu.run 1 rfl (pk [1, 2, 3, 4] rfl rfl) ?_
    refine Lu.take rfl rfl rfl rfl rfl (OpQ.fieldAddr rfl Tryz.runUnderlying24 rfl Tryz.sizeOf9 rfl rfl) (pk [1, 2, 3, 4] rfl rfl) ?_
    refine Lu.run 2 rfl (pk [1, 2, 3, 4] rfl rfl) ?_
    refine Lu.take rfl rfl rfl rfl rfl (OpQ.add rfl rfl rfl (by omega) (by omega)) (pk [1, 2, 3, 4] rfl rfl) ?_
    refine Lu.take rfl rfl rfl rfl rfl (OpQ.fieldAddr rfl Tryz.runUnderlying24 rfl Tryz.sizeOf9 rfl rfl) (pk [1, 2, 3, 4] rfl rfl) ?_
    refine Lu.run 1 rfl (pk [1, 2, 3, 4] rfl rfl) ?_
    refine Lu.take rfl rfl rfl rfl rfl (OpQ.add rfl rfl rfl (by omega) (by omega)) (pk [1, 2, 3, 4] rfl rfl) ?_
    refine Lu.three rfl rfl rfl ?_ ?_ ?_
    ·
     refine Ll.op rfl rfl rfl (OpQ.loadOwn 0 rfl Tryz.isAgg9 rfl rfl rfl) ?_
     refine Ll.nil (Lu.joint (pk [1, 2, 3, 4] rfl rfl) ?_)
     refine Lu.take (v := str (b.rel.take ((k32).toNat))) rfl rfl rfl rfl rfl (OpQ.sliceStrTo rfl Tryz.underlying9 rfl rfl (by omega) (by omega)) (pk [1, 2, 3, 4] rfl rfl) ?_
     refine Lu.two rfl rfl ?_ ?_
     ·
      refine Ll.op rfl rfl rfl (OpQ.loadOwn 0 rfl Tryz.isAgg9 rfl rfl rfl) ?_
      refine Ll.nil (Lu.joint (pk [1, 2, 3, 4] rfl rfl) ?_)
      refine Lu.take (v := str ((b.rel.drop ((k32).toNat)).take ((k32 + (1 : Int)).toNat - (k32).toNat))) rfl rfl rfl rfl rfl (OpQ.sliceStr rfl Tryz.underlying9 rfl rfl rfl (by omega) (by omega) (by first | omega | (simp; omega))) (pk [1, 2, 3, 4] rfl rfl) ?_
      refine Lu.two rfl rfl ?_ ?_
      ·
       refine Ll.callSome (ok := fun (t : List UInt8) => t.length = ((b.rel.drop ((k32).toNat)).take ((k32 + (1 : Int)).toNat - (k32).toNat)).length) (v := fun (t : List UInt8) => str t) (xs := [.tmp 42]) (vs := [str ((b.rel.drop ((k32).toNat)).take ((k32 + (1 : Int)).toNat - (k32).toNat))]) rfl rfl rfl rfl Tryz.call52 rfl (fun w1 hw1 => (flip_ok ((b.rel.drop ((k32).toNat)).take ((k32 + (1 : Int)).toNat - (k32).toNat)) w1 (by rw [List.length_take, List.length_drop]; omega)).mono fun en w' ⟨t, h1, h2, h3⟩ => ⟨t, h1, h2, h3⟩) fun t43 hS43 => ?_
       show Ll _ _ (Own _ _ (_ :: _ :: _ :: _ :: _ :: hs)) _ _ ((43, str t43) :: _) _ _ _
       have hlt43 := hS43
       refine Ll.nil (Lu.joint (pk [1, 2, 3, 4] rfl rfl) ?_)
       refine Lu.take rfl rfl rfl rfl rfl (OpQ.sadd rfl rfl rfl (by (try simp only [List.length_append]); rw [List.length_take, hlt43, List.length_take, List.length_drop]; omega)) (pk [1, 2, 3, 4] rfl rfl) ?_
       refine Lu.loud rfl ?_
       refine Ll.op rfl rfl rfl (OpQ.loadOwn 0 rfl Tryz.isAgg9 rfl rfl rfl) ?_
       refine Ll.nil (Lu.joint (pk [1, 2, 3, 4] rfl rfl) ?_)
       refine Lu.take (v := str (b.rel.drop ((k32 + (1 : Int)).toNat))) rfl rfl rfl rfl rfl (OpQ.sliceStrFrom rfl Tryz.underlying9 rfl rfl (by omega) (by omega)) (pk [1, 2, 3, 4] rfl rfl) ?_
       refine Lu.take rfl rfl rfl rfl rfl (OpQ.sadd rfl rfl rfl (by (try simp only [List.length_append]); rw [List.length_take, hlt43, List.length_take, List.length_drop, List.length_drop]; omega)) (pk [1, 2, 3, 4] rfl rfl) ?_
       refine Lu.take rfl rfl rfl rfl rfl (OpQ.fieldAddr rfl Tryz.runUnderlying24 rfl Tryz.sizeOf9 rfl rfl) (pk [1, 2, 3, 4] rfl rfl) ?_
       refine Lu.loud rfl ?_
       refine Ll.store1 (v := str (((b.rel.take ((k32).toNat)) ++ t43) ++ (b.rel.drop ((k32 + (1 : Int)).toNat)))) (hs' := (bk_ q #[i6_ b.n, str b.set, str (((b.rel.take ((k32).toNat)) ++ t43) ++ (b.rel.drop ((k32 + (1 : Int)).toNat)))] 24 :: _ :: _ :: _ :: _ :: hs)) 0 rfl rfl rfl rfl rfl rfl Tryz.sizeOf9 rfl (by simp) rfl ?_
       refine Ll.nil (Lu.joint (pk [1, 2, 3, 4] rfl rfl) ?_)
       refine Lu.nil ?_
       refine Kt.joined (((b.rel.take ((k32).toNat)) ++ t43) ++ (b.rel.drop ((k32 + (1 : Int)).toNat))) (turned_fine h0k32 hltk32 hlt43) (Sub.sel [2, 3, 4, 5] rfl) (fun _ h => h)
      ·
       refine Ll.op rfl rfl rfl (OpQ.loadOwn 0 rfl Tryz.isAgg9 rfl rfl rfl) ?_
       refine Ll.nil (Lu.joint (pk [1, 2, 3, 4] rfl rfl) ?_)
       refine Lu.take (v := str (b.rel.drop ((k32 + (1 : Int)).toNat))) rfl rfl rfl rfl rfl (OpQ.sliceStrFrom rfl Tryz.underlying9 rfl rfl (by omega) (by omega)) (pk [1, 2, 3, 4] rfl rfl) ?_
       refine Lu.loud rfl ?_
       refine Ll.callSome (ok := fun (t : List UInt8) => t.length = ((b.rel.drop ((k32).toNat)).take ((k32 + (1 : Int)).toNat - (k32).toNat)).length) (v := fun (t : List UInt8) => str t) (xs := [.tmp 42]) (vs := [str ((b.rel.drop ((k32).toNat)).take ((k32 + (1 : Int)).toNat - (k32).toNat))]) rfl rfl rfl rfl Tryz.call52 rfl (fun w1 hw1 => (flip_ok ((b.rel.drop ((k32).toNat)).take ((k32 + (1 : Int)).toNat - (k32).toNat)) w1 (by rw [List.length_take, List.length_drop]; omega)).mono fun en w' ⟨t, h1, h2, h3⟩ => ⟨t, h1, h2, h3⟩) fun t43_1 hS43_1 => ?_
       show Ll _ _ (Own _ _ (_ :: _ :: _ :: _ :: _ :: hs)) _ _ ((43, str t43_1) :: _) _ _ _
       have hlt43_1 := hS43_1
       refine Ll.nil (Lu.joint (pk [1, 2, 3, 4] rfl rfl) ?_)
       refine Lu.take rfl rfl rfl rfl rfl (OpQ.sadd rfl rfl rfl (by (try simp only [List.length_append]); rw [List.length_take, hlt43_1, List.length_take, List.length_drop]; omega)) (pk [1, 2, 3, 4] rfl rfl) ?_
       refine Lu.take rfl rfl rfl rfl rfl (OpQ.sadd rfl rfl rfl (by (try simp only [List.length_append]); rw [List.length_take, hlt43_1, List.length_take, List.length_drop, List.length_drop]; omega)) (pk [1, 2, 3, 4] rfl rfl) ?_
       refine Lu.take rfl rfl rfl rfl rfl (OpQ.fieldAddr rfl Tryz.runUnderlying24 rfl Tryz.sizeOf9 rfl rfl) (pk [1, 2, 3, 4] rfl rfl) ?_
       refine Lu.loud rfl ?_
       refine Ll.store1 (v := str (((b.rel.take ((k32).toNat)) ++ t43_1) ++ (b.rel.drop ((k32 + (1 : Int)).toNat)))) (hs' := (bk_ q #[i6_ b.n, str b.set, str (((b.rel.take ((k32).toNat)) ++ t43_1) ++ (b.rel.drop ((k32 + (1 : Int)).toNat)))] 24 :: _ :: _ :: _ :: _ :: hs)) 0 rfl rfl rfl rfl rfl rfl Tryz.sizeOf9 rfl (by simp) rfl ?_
       refine Ll.nil (Lu.joint (pk [1, 2, 3, 4] rfl rfl) ?_)
       refine Lu.nil ?_
       refine Kt.joined (((b.rel.take ((k32).toNat)) ++ t43_1) ++ (b.rel.drop ((k32 + (1 : Int)).toNat))) (turned_fine h0k32 hltk32 hlt43_1) (Sub.sel [2, 3, 4, 5] rfl) (fun _ h => h)
     ·
      refine Ll.op rfl rfl rfl (OpQ.loadOwn 0 rfl Tryz.isAgg9 rfl rfl rfl) ?_
      refine Ll.nil (Lu.joint (pk [1, 2, 3, 4] rfl rfl) ?_)
      refine Lu.take (v := str (b.rel.drop ((k32 + (1 : Int)).toNat))) rfl rfl rfl rfl rfl (OpQ.sliceStrFrom rfl Tryz.underlying9 rfl rfl (by omega) (by omega)) (pk [1, 2, 3, 4] rfl rfl) ?_
      refine Lu.loud rfl ?_
      refine Ll.op rfl rfl rfl (OpQ.loadOwn 0 rfl Tryz.isAgg9 rfl rfl rfl) ?_
      refine Ll.nil (Lu.joint (pk [1, 2, 3, 4] rfl rfl) ?_)
      refine Lu.take (v := str ((b.rel.drop ((k32).toNat)).take ((k32 + (1 : Int)).toNat - (k32).toNat))) rfl rfl rfl rfl rfl (OpQ.sliceStr rfl Tryz.underlying9 rfl rfl rfl (by omega) (by omega) (by first | omega | (simp; omega))) (pk [1, 2, 3, 4] rfl rfl) ?_
      refine Lu.loud rfl ?_
      refine Ll.callSome (ok := fun (t : List UInt8) => t.length = ((b.rel.drop ((k32).toNat)).take ((k32 + (1 : Int)).toNat - (k32).toNat)).length) (v := fun (t : List UInt8) => str t) (xs := [.tmp 42]) (vs := [str ((b.rel.drop ((k32).toNat)).take ((k32 + (1 : Int)).toNat - (k32).toNat))]) rfl rfl rfl rfl Tryz.call52 rfl (fun w1 hw1 => (flip_ok ((b.rel.drop ((k32).toNat)).take ((k32 + (1 : Int)).toNat - (k32).toNat)) w1 (by rw [List.length_take, List.length_drop]; omega)).mono fun en w' ⟨t, h1, h2, h3⟩ => ⟨t, h1, h2, h3⟩) fun t43_2 hS43_2 => ?_
      show Ll _ _ (Own _ _ (_ :: _ :: _ :: _ :: _ :: hs)) _ _ ((43, str t43_2) :: _) _ _ _
      have hlt43_2 := hS43_2
      refine Ll.nil (Lu.joint (pk [1, 2, 3, 4] rfl rfl) ?_)
      refine Lu.take rfl rfl rfl rfl rfl (OpQ.sadd rfl rfl rfl (by (try simp only [List.length_append]); rw [List.length_take, hlt43_2, List.length_take, List.length_drop]; omega)) (pk [1, 2, 3, 4] rfl rfl) ?_
      refine Lu.take rfl rfl rfl rfl rfl (OpQ.sadd rfl rfl rfl (by (try simp only [List.length_append]); rw [List.length_take, hlt43_2, List.length_take, List.length_drop, List.length_drop]; omega)) (pk [1, 2, 3, 4] rfl rfl) ?_
      refine Lu.take rfl rfl rfl rfl rfl (OpQ.fieldAddr rfl Tryz.runUnderlying24 rfl Tryz.sizeOf9 rfl rfl) (pk [1, 2, 3, 4] rfl rfl) ?_
      refine Lu.loud rfl ?_
      refine Ll.store1 (v := str (((b.rel.take ((k32).toNat)) ++ t43_2) ++ (b.rel.drop ((k32 + (1 : Int)).toNat)))) (hs' := (bk_ q #[i6_ b.n, str b.set, str (((b.rel.take ((k32).toNat)) ++ t43_2) ++ (b.rel.drop ((k32 + (1 : Int)).toNat)))] 24 :: _ :: _ :: _ :: _ :: hs)) 0 rfl rfl rfl rfl rfl rfl Tryz.sizeOf9 rfl (by simp) rfl ?_
      refine Ll.nil (Lu.joint (pk [1, 2, 3, 4] rfl rfl) ?_)
      refine Lu.nil ?_
      refine Kt.joined (((b.rel.take ((k32).toNat)) ++ t43_2) ++ (b.rel.drop ((k32 + (1 : Int)).toNat))) (turned_fine h0k32 hltk32 hlt43_2) (Sub.sel [2, 3, 4, 5] rfl) (fun _ h => h)
    ·
     refine Ll.op rfl rfl rfl (OpQ.loadOwn 0 rfl Tryz.isAgg9 rfl rfl rfl) ?_
     refine Ll.nil (Lu.joint (pk [1, 2, 3, 4] rfl rfl) ?_)
     refine Lu.take (v := str ((b.rel.drop ((k32).toNat)).take ((k32 + (1 : Int)).toNat - (k32).toNat))) rfl rfl rfl rfl rfl (OpQ.sliceStr rfl Tryz.underlying9 rfl rfl rfl (by omega) (by omega) (by first | omega | (simp; omega))) (pk [1, 2, 3, 4] rfl rfl) ?_
     refine Lu.three rfl rfl rfl ?_ ?_ ?_
     ·
      refine Ll.op rfl rfl rfl (OpQ.loadOwn 0 rfl Tryz.isAgg9 rfl rfl rfl) ?_
      refine Ll.nil (Lu.joint (pk [1, 2, 3, 4] rfl rfl) ?_)
      refine Lu.take (v := str (b.rel.take ((k32).toNat))) rfl rfl rfl rfl rfl (OpQ.sliceStrTo rfl Tryz.underlying9 rfl rfl (by omega) (by omega)) (pk [1, 2, 3, 4] rfl rfl) ?_
      refine Lu.two rfl rfl ?_ ?_
      ·
       refine Ll.callSome (ok := fun (t : List UInt8) => t.length = ((b.rel.drop ((k32).toNat)).take ((k32 + (1 : Int)).toNat - (k32).toNat)).length) (v := fun (t : List UInt8) => str t) (xs := [.tmp 42]) (vs := [str ((b.rel.drop ((k32).toNat)).take ((k32 + (1 : Int)).toNat - (k32).toNat))]) rfl rfl rfl rfl Tryz.call52 rfl (fun w1 hw1 => (flip_ok ((b.rel.drop ((k32).toNat)).take ((k32 + (1 : Int)).toNat - (k32).toNat)) w1 (by rw [List.length_take, List.length_drop]; omega)).mono fun en w' ⟨t, h1, h2, h3⟩ => ⟨t, h1, h2, h3⟩) fun t43_3 hS43_3 => ?_
       show Ll _ _ (Own _ _ (_ :: _ :: _ :: _ :: _ :: hs)) _ _ ((43, str t43_3) :: _) _ _ _
       have hlt43_3 := hS43_3
       refine Ll.nil (Lu.joint (pk [1, 2, 3, 4] rfl rfl) ?_)
       refine Lu.take rfl rfl rfl rfl rfl (OpQ.sadd rfl rfl rfl (by (try simp only [List.length_append]); rw [List.length_take, hlt43_3, List.length_take, List.length_drop]; omega)) (pk [1, 2, 3, 4] rfl rfl) ?_
       refine Lu.loud rfl ?_
       refine Ll.op rfl rfl rfl (OpQ.loadOwn 0 rfl Tryz.isAgg9 rfl rfl rfl) ?_
       refine Ll.nil (Lu.joint (pk [1, 2, 3, 4] rfl rfl) ?_)
       refine Lu.take (v := str (b.rel.drop ((k32 + (1 : Int)).toNat))) rfl rfl rfl rfl rfl (OpQ.sliceStrFrom rfl Tryz.underlying9 rfl rfl (by omega) (by omega)) (pk [1, 2, 3, 4] rfl rfl) ?_
       refine Lu.take rfl rfl rfl rfl rfl (OpQ.sadd rfl rfl rfl (by (try simp only [List.length_append]); rw [List.length_take, hlt43_3, List.length_take, List.length_drop, List.length_drop]; omega)) (pk [1, 2, 3, 4] rfl rfl) ?_
       refine Lu.take rfl rfl rfl rfl rfl (OpQ.fieldAddr rfl Tryz.runUnderlying24 rfl Tryz.sizeOf9 rfl rfl) (pk [1, 2, 3, 4] rfl rfl) ?_
       refine Lu.loud rfl ?_
       refine Ll.store1 (v := str (((b.rel.take ((k32).toNat)) ++ t43_3) ++ (b.rel.drop ((k32 + (1 : Int)).toNat)))) (hs' := (bk_ q #[i6_ b.n, str b.set, str (((b.rel.take ((k32).toNat)) ++ t43_3) ++ (b.rel.drop ((k32 + (1 : Int)).toNat)))] 24 :: _ :: _ :: _ :: _ :: hs)) 0 rfl rfl rfl rfl rfl rfl Tryz.sizeOf9 rfl (by simp) rfl ?_
       refine Ll.nil (Lu.joint (pk [1, 2, 3, 4] rfl rfl) ?_)
       refine Lu.nil ?_
       refine Kt.joined (((b.rel.take ((k32).toNat)) ++ t43_3) ++ (b.rel.drop ((k32 + (1 : Int)).toNat))) (turned_fine h0k32 hltk32 hlt43_3) (Sub.sel [2, 3, 4, 5] rfl) (fun _ h => h)
      ·
       refine Ll.op rfl rfl rfl (OpQ.loadOwn 0 rfl Tryz.isAgg9 rfl rfl rfl) ?_
       refine Ll.nil (Lu.joint (pk [1, 2, 3, 4] rfl rfl) ?_)
       refine Lu.take (v := str (b.rel.drop ((k32 + (1 : Int)).toNat))) rfl rfl rfl rfl rfl (OpQ.sliceStrFrom rfl Tryz.underlying9 rfl rfl (by omega) (by omega)) (pk [1, 2, 3, 4] rfl rfl) ?_
       refine Lu.loud rfl ?_
       refine Ll.callSome (ok := fun (t : List UInt8) => t.length = ((b.rel.drop ((k32).toNat)).take ((k32 + (1 : Int)).toNat - (k32).toNat)).length) (v := fun (t : List UInt8) => str t) (xs := [.tmp 42]) (vs := [str ((b.rel.drop ((k32).toNat)).take ((k32 + (1 : Int)).toNat - (k32).toNat))]) rfl rfl rfl rfl Tryz.call52 rfl (fun w1 hw1 => (flip_ok ((b.rel.drop ((k32).toNat)).take ((k32 + (1 : Int)).toNat - (k32).toNat)) w1 (by rw [List.length_take, List.length_drop]; omega)).mono fun en w' ⟨t, h1, h2, h3⟩ => ⟨t, h1, h2, h3⟩) fun t43_4 hS43_4 => ?_
       show Ll _ _ (Own _ _ (_ :: _ :: _ :: _ :: _ :: hs)) _ _ ((43, str t43_4) :: _) _ _ _
       have hlt43_4 := hS43_4
       refine Ll.nil (Lu.joint (pk [1, 2, 3, 4] rfl rfl) ?_)
       refine Lu.take rfl rfl rfl rfl rfl (OpQ.sadd rfl rfl rfl (by (try simp only [List.length_append]); rw [List.length_take, hlt43_4, List.length_take, List.length_drop]; omega)) (pk [1, 2, 3, 4] rfl rfl) ?_
       refine Lu.take rfl rfl rfl rfl rfl (OpQ.sadd rfl rfl rfl (by (try simp only [List.length_append]); rw [List.length_take, hlt43_4, List.length_take, List.length_drop, List.length_drop]; omega)) (pk [1, 2, 3, 4] rfl rfl) ?_
       refine Lu.take rfl rfl rfl rfl rfl (OpQ.fieldAddr rfl Tryz.runUnderlying24 rfl Tryz.sizeOf9 rfl rfl) (pk [1, 2, 3, 4] rfl rfl) ?_
       refine Lu.loud rfl ?_
       refine Ll.store1 (v := str (((b.rel.take ((k32).toNat)) ++ t43_4) ++ (b.rel.drop ((k32 + (1 : Int)).toNat)))) (hs' := (bk_ q #[i6_ b.n, str b.set, str (((b.rel.take ((k32).toNat)) ++ t43_4) ++ (b.rel.drop ((k32 + (1 : Int)).toNat)))] 24 :: _ :: _ :: _ :: _ :: hs)) 0 rfl rfl rfl rfl rfl rfl Tryz.sizeOf9 rfl (by simp) rfl ?_
       refine Ll.nil (Lu.joint (pk [1, 2, 3, 4] rfl rfl) ?_)
       refine Lu.nil ?_
       refine Kt.joined (((b.rel.take ((k32).toNat)) ++ t43_4) ++ (b.rel.drop ((k32 + (1 : Int)).toNat))) (turned_fine h0k32 hltk32 hlt43_4) (Sub.sel [2, 3, 4, 5] rfl) (fun _ h => h)
     ·
      refine Ll.callSome (ok := fun (t : List UInt8) => t.length = ((b.rel.drop ((k32).toNat)).take ((k32 + (1 : Int)).toNat - (k32).toNat)).length) (v := fun (t : List UInt8) => str t) (xs := [.tmp 42]) (vs := [str ((b.rel.drop ((k32).toNat)).take ((k32 + (1 : Int)).toNat - (k32).toNat))]) rfl rfl rfl rfl Tryz.call52 rfl (fun w1 hw1 => (flip_ok ((b.rel.drop ((k32).toNat)).take ((k32 + (1 : Int)).toNat - (k32).toNat)) w1 (by rw [List.length_take, List.length_drop]; omega)).mono fun en w' ⟨t, h1, h2, h3⟩ => ⟨t, h1, h2, h3⟩) fun t43_5 hS43_5 => ?_
      show Ll _ _ (Own _ _ (_ :: _ :: _ :: _ :: _ :: hs)) _ _ ((43, str t43_5) :: _) _ _ _
      have hlt43_5 := hS43_5
      refine Ll.nil (Lu.joint (pk [1, 2, 3, 4] rfl rfl) ?_)
      refine Lu.two rfl rfl ?_ ?_
      ·
       refine Ll.op rfl rfl rfl (OpQ.loadOwn 0 rfl Tryz.isAgg9 rfl rfl rfl) ?_
       refine Ll.nil (Lu.joint (pk [1, 2, 3, 4] rfl rfl) ?_)
       refine Lu.take (v := str (b.rel.take ((k32).toNat))) rfl rfl rfl rfl rfl (OpQ.sliceStrTo rfl Tryz.underlying9 rfl rfl (by omega) (by omega)) (pk [1, 2, 3, 4] rfl rfl) ?_
       refine Lu.take rfl rfl rfl rfl rfl (OpQ.sadd rfl rfl rfl (by (try simp only [List.length_append]); rw [List.length_take, hlt43_5, List.length_take, List.length_drop]; omega)) (pk [1, 2, 3, 4] rfl rfl) ?_
       refine Lu.loud rfl ?_
       refine Ll.op rfl rfl rfl (OpQ.loadOwn 0 rfl Tryz.isAgg9 rfl rfl rfl) ?_
       refine Ll.nil (Lu.joint (pk [1, 2, 3, 4] rfl rfl) ?_)
       refine Lu.take (v := str (b.rel.drop ((k32 + (1 : Int)).toNat))) rfl rfl rfl rfl rfl (OpQ.sliceStrFrom rfl Tryz.underlying9 rfl rfl (by omega) (by omega)) (pk [1, 2, 3, 4] rfl rfl) ?_
       refine Lu.take rfl rfl rfl rfl rfl (OpQ.sadd rfl rfl rfl (by (try simp only [List.length_append]); rw [List.length_take, hlt43_5, List.length_take, List.length_drop, List.length_drop]; omega)) (pk [1, 2, 3, 4] rfl rfl) ?_
       refine Lu.take rfl rfl rfl rfl rfl (OpQ.fieldAddr rfl Tryz.runUnderlying24 rfl Tryz.sizeOf9 rfl rfl) (pk [1, 2, 3, 4] rfl rfl) ?_
       refine Lu.loud rfl ?_
       refine Ll.store1 (v := str (((b.rel.take ((k32).toNat)) ++ t43_5) ++ (b.rel.drop ((k32 + (1 : Int)).toNat)))) (hs' := (bk_ q #[i6_ b.n, str b.set, str (((b.rel.take ((k32).toNat)) ++ t43_5) ++ (b.rel.drop ((k32 + (1 : Int)).toNat)))] 24 :: _ :: _ :: _ :: _ :: hs)) 0 rfl rfl rfl rfl rfl rfl Tryz.sizeOf9 rfl (by simp) rfl ?_
       refine Ll.nil (Lu.joint (pk [1, 2, 3, 4] rfl rfl) ?_)
       refine Lu.nil ?_
       refine Kt.joined (((b.rel.take ((k32).toNat)) ++ t43_5) ++ (b.rel.drop ((k32 + (1 : Int)).toNat))) (turned_fine h0k32 hltk32 hlt43_5) (Sub.sel [2, 3, 4, 5] rfl) (fun _ h => h)
      ·
       refine Ll.op rfl rfl rfl (OpQ.loadOwn 0 rfl Tryz.isAgg9 rfl rfl rfl) ?_
       refine Ll.nil (Lu.joint (pk [1, 2, 3, 4] rfl rfl) ?_)
       refine Lu.take (v := str (b.rel.drop ((k32 + (1 : Int)).toNat))) rfl rfl rfl rfl rfl (OpQ.sliceStrFrom rfl Tryz.underlying9 rfl rfl (by omega) (by omega)) (pk [1, 2, 3, 4] rfl rfl) ?_
       refine Lu.loud rfl ?_
       refine Ll.op rfl rfl rfl (OpQ.loadOwn 0 rfl Tryz.isAgg9 rfl rfl rfl) ?_
       refine Ll.nil (Lu.joint (pk [1, 2, 3, 4] rfl rfl) ?_)
       refine Lu.take (v := str (b.rel.take ((k32).toNat))) rfl rfl rfl rfl rfl (OpQ.sliceStrTo rfl Tryz.underlying9 rfl rfl (by omega) (by omega)) (pk [1, 2, 3, 4] rfl rfl) ?_
       refine Lu.take rfl rfl rfl rfl rfl (OpQ.sadd rfl rfl rfl (by (try simp only [List.length_append]); rw [List.length_take, hlt43_5, List.length_take, List.length_drop]; omega)) (pk [1, 2, 3, 4] rfl rfl) ?_
       refine Lu.take rfl rfl rfl rfl rfl (OpQ.sadd rfl rfl rfl (by (try simp only [List.length_append]); rw [List.length_take, hlt43_5, List.length_take, List.length_drop, List.length_drop]; omega)) (pk [1, 2, 3, 4] rfl rfl) ?_
       refine Lu.take rfl rfl rfl rfl rfl (OpQ.fieldAddr rfl Tryz.runUnderlying24 rfl Tryz.sizeOf9 rfl rfl) (pk [1, 2, 3, 4] rfl rfl) ?_
       refine Lu.loud rfl ?_
       refine Ll.store1 (v := str (((b.rel.take ((k32).toNat)) ++ t43_5) ++ (b.rel.drop ((k32 + (1 : Int)).toNat)))) (hs' := (bk_ q #[i6_ b.n, str b.set, str (((b.rel.take ((k32).toNat)) ++ t43_5) ++ (b.rel.drop ((k32 + (1 : Int)).toNat)))] 24 :: _ :: _ :: _ :: _ :: hs)) 0 rfl rfl rfl rfl rfl rfl Tryz.sizeOf9 rfl (by simp) rfl ?_
       refine Ll.nil (Lu.joint (pk [1, 2, 3, 4] rfl rfl) ?_)
       refine Lu.nil ?_
       refine Kt.joined (((b.rel.take ((k32).toNat)) ++ t43_5) ++ (b.rel.drop ((k32 + (1 : Int)).toNat))) (turned_fine h0k32 hltk32 hlt43_5) (Sub.sel [2, 3, 4, 5] rfl) (fun _ h => h)
     ·
      refine Ll.op rfl rfl rfl (OpQ.loadOwn 0 rfl Tryz.isAgg9 rfl rfl rfl) ?_
      refine Ll.nil (Lu.joint (pk [1, 2, 3, 4] rfl rfl) ?_)
      refine Lu.take (v := str (b.rel.drop ((k32 + (1 : Int)).toNat))) rfl rfl rfl rfl rfl (OpQ.sliceStrFrom rfl Tryz.underlying9 rfl rfl (by omega) (by omega)) (pk [1, 2, 3, 4] rfl rfl) ?_
      refine Lu.two rfl rfl ?_ ?_
      ·
       refine Ll.op rfl rfl rfl (OpQ.loadOwn 0 rfl Tryz.isAgg9 rfl rfl rfl) ?_
       refine Ll.nil (Lu.joint (pk [1, 2, 3, 4] rfl rfl) ?_)
       refine Lu.take (v := str (b.rel.take ((k32).toNat))) rfl rfl rfl rfl rfl (OpQ.sliceStrTo rfl Tryz.underlying9 rfl rfl (by omega) (by omega)) (pk [1, 2, 3, 4] rfl rfl) ?_
       refine Lu.loud rfl ?_
       refine Ll.callSome (ok := fun (t : List UInt8) => t.length = ((b.rel.drop ((k32).toNat)).take ((k32 + (1 : Int)).toNat - (k32).toNat)).length) (v := fun (t : List UInt8) => str t) (xs := [.tmp 42]) (vs := [str ((b.rel.drop ((k32).toNat)).take ((k32 + (1 : Int)).toNat - (k32).toNat))]) rfl rfl rfl rfl Tryz.call52 rfl (fun w1 hw1 => (flip_ok ((b.rel.drop ((k32).toNat)).take ((k32 + (1 : Int)).toNat - (k32).toNat)) w1 (by rw [List.length_take, List.length_drop]; omega)).mono fun en w' ⟨t, h1, h2, h3⟩ => ⟨t, h1, h2, h3⟩) fun t43_6 hS43_6 => ?_
       show Ll _ _ (Own _ _ (_ :: _ :: _ :: _ :: _ :: hs)) _ _ ((43, str t43_6) :: _) _ _ _
       have hlt43_6 := hS43_6
       refine Ll.nil (Lu.joint (pk [1, 2, 3, 4] rfl rfl) ?_)
       refine Lu.take rfl rfl rfl rfl rfl (OpQ.sadd rfl rfl rfl (by (try simp only [List.length_append]); rw [List.length_take, hlt43_6, List.length_take, List.length_drop]; omega)) (pk [1, 2, 3, 4] rfl rfl) ?_
       refine Lu.take rfl rfl rfl rfl rfl (OpQ.sadd rfl rfl rfl (by (try simp only [List.length_append]); rw [List.length_take, hlt43_6, List.length_take, List.length_drop, List.length_drop]; omega)) (pk [1, 2, 3, 4] rfl rfl) ?_
       refine Lu.take rfl rfl rfl rfl rfl (OpQ.fieldAddr rfl Tryz.runUnderlying24 rfl Tryz.sizeOf9 rfl rfl) (pk [1, 2, 3, 4] rfl rfl) ?_
       refine Lu.loud rfl ?_
       refine Ll.store1 (v := str (((b.rel.take ((k32).toNat)) ++ t43_6) ++ (b.rel.drop ((k32 + (1 : Int)).toNat)))) (hs' := (bk_ q #[i6_ b.n, str b.set, str (((b.rel.take ((k32).toNat)) ++ t43_6) ++ (b.rel.drop ((k32 + (1 : Int)).toNat)))] 24 :: _ :: _ :: _ :: _ :: hs)) 0 rfl rfl rfl rfl rfl rfl Tryz.sizeOf9 rfl (by simp) rfl ?_
       refine Ll.nil (Lu.joint (pk [1, 2, 3, 4] rfl rfl) ?_)
       refine Lu.nil ?_
       refine Kt.joined (((b.rel.take ((k32).toNat)) ++ t43_6) ++ (b.rel.drop ((k32 + (1 : Int)).toNat))) (turned_fine h0k32 hltk32 hlt43_6) (Sub.sel [2, 3, 4, 5] rfl) (fun _ h => h)
      ·
       refine Ll.callSome (ok := fun (t : List UInt8) => t.length = ((b.rel.drop ((k32).toNat)).take ((k32 + (1 : Int)).toNat - (k32).toNat)).length) (v := fun (t : List UInt8) => str t) (xs := [.tmp 42]) (vs := [str ((b.rel.drop ((k32).toNat)).take ((k32 + (1 : Int)).toNat - (k32).toNat))]) rfl rfl rfl rfl Tryz.call52 rfl (fun w1 hw1 => (flip_ok ((b.rel.drop ((k32).toNat)).take ((k32 + (1 : Int)).toNat - (k32).toNat)) w1 (by rw [List.length_take, List.length_drop]; omega)).mono fun en w' ⟨t, h1, h2, h3⟩ => ⟨t, h1, h2, h3⟩) fun t43_7 hS43_7 => ?_
       show Ll _ _ (Own _ _ (_ :: _ :: _ :: _ :: _ :: hs)) _ _ ((43, str t43_7) :: _) _ _ _
       have hlt43_7 := hS43_7
       refine Ll.nil (Lu.joint (pk [1, 2, 3, 4] rfl rfl) ?_)
       refine Lu.loud rfl ?_
       refine Ll.op rfl rfl rfl (OpQ.loadOwn 0 rfl Tryz.isAgg9 rfl rfl rfl) ?_
       refine Ll.nil (Lu.joint (pk [1, 2, 3, 4] rfl rfl) ?_)
       refine Lu.take (v := str (b.rel.take ((k32).toNat))) rfl rfl rfl rfl rfl (OpQ.sliceStrTo rfl Tryz.underlying9 rfl rfl (by omega) (by omega)) (pk [1, 2, 3, 4] rfl rfl) ?_
       refine Lu.take rfl rfl rfl rfl rfl (OpQ.sadd rfl rfl rfl (by (try simp only [List.length_append]); rw [List.length_take, hlt43_7, List.length_take, List.length_drop]; omega)) (pk [1, 2, 3, 4] rfl rfl) ?_
       refine Lu.take rfl rfl rfl rfl rfl (OpQ.sadd rfl rfl rfl (by (try simp only [List.length_append]); rw [List.length_take, hlt43_7, List.length_take, List.length_drop, List.length_drop]; omega)) (pk [1, 2, 3, 4] rfl rfl) ?_
       refine Lu.take rfl rfl rfl rfl rfl (OpQ.fieldAddr rfl Tryz.runUnderlying24 rfl Tryz.sizeOf9 rfl rfl) (pk [1, 2, 3, 4] rfl rfl) ?_
       refine Lu.loud rfl ?_
       refine Ll.store1 (v := str (((b.rel.take ((k32).toNat)) ++ t43_7) ++ (b.rel.drop ((k32 + (1 : Int)).toNat)))) (hs' := (bk_ q #[i6_ b.n, str b.set, str (((b.rel.take ((k32).toNat)) ++ t43_7) ++ (b.rel.drop ((k32 + (1 : Int)).toNat)))] 24 :: _ :: _ :: _ :: _ :: hs)) 0 rfl rfl rfl rfl rfl rfl Tryz.sizeOf9 rfl (by simp) rfl ?_
       refine Ll.nil (Lu.joint (pk [1, 2, 3, 4] rfl rfl) ?_)
       refine Lu.nil ?_
       refine Kt.joined (((b.rel.take ((k32).toNat)) ++ t43_7) ++ (b.rel.drop ((k32 + (1 : Int)).toNat))) (turned_fine h0k32 hltk32 hlt43_7) (Sub.sel [2, 3, 4, 5] rfl) (fun _ h => h)
    ·
     refine Ll.op rfl rfl rfl (OpQ.loadOwn 0 rfl Tryz.isAgg9 rfl rfl rfl) ?_
     refine Ll.nil (Lu.joint (pk [1, 2, 3, 4] rfl rfl) ?_)
     refine Lu.take (v := str (b.rel.drop ((k32 + (1 : Int)).toNat))) rfl rfl rfl rfl rfl (OpQ.sliceStrFrom rfl Tryz.underlying9 rfl rfl (by omega) (by omega)) (pk [1, 2, 3, 4] rfl rfl) ?_
     refine Lu.two rfl rfl ?_ ?_
     ·
      refine Ll.op rfl rfl rfl (OpQ.loadOwn 0 rfl Tryz.isAgg9 rfl rfl rfl) ?_
      refine Ll.nil (Lu.joint (pk [1, 2, 3, 4] rfl rfl) ?_)
      refine Lu.take (v := str (b.rel.take ((k32).toNat))) rfl rfl rfl rfl rfl (OpQ.sliceStrTo rfl Tryz.underlying9 rfl rfl (by omega) (by omega)) (pk [1, 2, 3, 4] rfl rfl) ?_
      refine Lu.loud rfl ?_
      refine Ll.op rfl rfl rfl (OpQ.loadOwn 0 rfl Tryz.isAgg9 rfl rfl rfl) ?_
      refine Ll.nil (Lu.joint (pk [1, 2, 3, 4] rfl rfl) ?_)
      refine Lu.take (v := str ((b.rel.drop ((k32).toNat)).take ((k32 + (1 : Int)).toNat - (k32).toNat))) rfl rfl rfl rfl rfl (OpQ.sliceStr rfl Tryz.underlying9 rfl rfl rfl (by omega) (by omega) (by first | omega | (simp; omega))) (pk [1, 2, 3, 4] rfl rfl) ?_
      refine Lu.loud rfl ?_
      refine Ll.callSome (ok := fun (t : List UInt8) => t.length = ((b.rel.drop ((k32).toNat)).take ((k32 + (1 : Int)).toNat - (k32).toNat)).length) (v := fun (t : List UInt8) => str t) (xs := [.tmp 42]) (vs := [str ((b.rel.drop ((k32).toNat)).take ((k32 + (1 : Int)).toNat - (k32).toNat))]) rfl rfl rfl rfl Tryz.call52 rfl (fun w1 hw1 => (flip_ok ((b.rel.drop ((k32).toNat)).take ((k32 + (1 : Int)).toNat - (k32).toNat)) w1 (by rw [List.length_take, List.length_drop]; omega)).mono fun en w' ⟨t, h1, h2, h3⟩ => ⟨t, h1, h2, h3⟩) fun t43_8 hS43_8 => ?_
      show Ll _ _ (Own _ _ (_ :: _ :: _ :: _ :: _ :: hs)) _ _ ((43, str t43_8) :: _) _ _ _
      have hlt43_8 := hS43_8
      refine Ll.nil (Lu.joint (pk [1, 2, 3, 4] rfl rfl) ?_)
      refine Lu.take rfl rfl rfl rfl rfl (OpQ.sadd rfl rfl rfl (by (try simp only [List.length_append]); rw [List.length_take, hlt43_8, List.length_take, List.length_drop]; omega)) (pk [1, 2, 3, 4] rfl rfl) ?_
      refine Lu.take rfl rfl rfl rfl rfl (OpQ.sadd rfl rfl rfl (by (try simp only [List.length_append]); rw [List.length_take, hlt43_8, List.length_take, List.length_drop, List.length_drop]; omega)) (pk [1, 2, 3, 4] rfl rfl) ?_
      refine Lu.take rfl rfl rfl rfl rfl (OpQ.fieldAddr rfl Tryz.runUnderlying24 rfl Tryz.sizeOf9 rfl rfl) (pk [1, 2, 3, 4] rfl rfl) ?_
      refine Lu.loud rfl ?_
      refine Ll.store1 (v := str (((b.rel.take ((k32).toNat)) ++ t43_8) ++ (b.rel.drop ((k32 + (1 : Int)).toNat)))) (hs' := (bk_ q #[i6_ b.n, str b.set, str (((b.rel.take ((k32).toNat)) ++ t43_8) ++ (b.rel.drop ((k32 + (1 : Int)).toNat)))] 24 :: _ :: _ :: _ :: _ :: hs)) 0 rfl rfl rfl rfl rfl rfl Tryz.sizeOf9 rfl (by simp) rfl ?_
      refine Ll.nil (Lu.joint (pk [1, 2, 3, 4] rfl rfl) ?_)
      refine Lu.nil ?_
      refine Kt.joined (((b.rel.take ((k32).toNat)) ++ t43_8) ++ (b.rel.drop ((k32 + (1 : Int)).toNat))) (turned_fine h0k32 hltk32 hlt43_8) (Sub.sel [2, 3, 4, 5] rfl) (fun _ h => h)
     ·
      refine Ll.op rfl rfl rfl (OpQ.loadOwn 0 rfl Tryz.isAgg9 rfl rfl rfl) ?_
      refine Ll.nil (Lu.joint (pk [1, 2, 3, 4] rfl rfl) ?_)
      refine Lu.take (v := str ((b.rel.drop ((k32).toNat)).take ((k32 + (1 : Int)).toNat - (k32).toNat))) rfl rfl rfl rfl rfl (OpQ.sliceStr rfl Tryz.underlying9 rfl rfl rfl (by omega) (by omega) (by first | omega | (simp; omega))) (pk [1, 2, 3, 4] rfl rfl) ?_
      refine Lu.two rfl rfl ?_ ?_
      ·
       refine Ll.op rfl rfl rfl (OpQ.loadOwn 0 rfl Tryz.isAgg9 rfl rfl rfl) ?_
       refine Ll.nil (Lu.joint (pk [1, 2, 3, 4] rfl rfl) ?_)
       refine Lu.take (v := str (b.rel.take ((k32).toNat))) rfl rfl rfl rfl rfl (OpQ.sliceStrTo rfl Tryz.underlying9 rfl rfl (by omega) (by omega)) (pk [1, 2, 3, 4] rfl rfl) ?_
       refine Lu.loud rfl ?_
       refine Ll.callSome (ok := fun (t : List UInt8) => t.length = ((b.rel.drop ((k32).toNat)).take ((k32 + (1 : Int)).toNat - (k32).toNat)).length) (v := fun (t : List UInt8) => str t) (xs := [.tmp 42]) (vs := [str ((b.rel.drop ((k32).toNat)).take ((k32 + (1 : Int)).toNat - (k32).toNat))]) rfl rfl rfl rfl Tryz.call52 rfl (fun w1 hw1 => (flip_ok ((b.rel.drop ((k32).toNat)).take ((k32 + (1 : Int)).toNat - (k32).toNat)) w1 (by rw [List.length_take, List.length_drop]; omega)).mono fun en w' ⟨t, h1, h2, h3⟩ => ⟨t, h1, h2, h3⟩) fun t43_9 hS43_9 => ?_
       show Ll _ _ (Own _ _ (_ :: _ :: _ :: _ :: _ :: hs)) _ _ ((43, str t43_9) :: _) _ _ _
       have hlt43_9 := hS43_9
       refine Ll.nil (Lu.joint (pk [1, 2, 3, 4] rfl rfl) ?_)
       refine Lu.take rfl rfl rfl rfl rfl (OpQ.sadd rfl rfl rfl (by (try simp only [List.length_append]); rw [List.length_take, hlt43_9, List.length_take, List.length_drop]; omega)) (pk [1, 2, 3, 4] rfl rfl) ?_
       refine Lu.take rfl rfl rfl rfl rfl (OpQ.sadd rfl rfl rfl (by (try simp only [List.length_append]); rw [List.length_take, hlt43_9, List.length_take, List.length_drop, List.length_drop]; omega)) (pk [1, 2, 3, 4] rfl rfl) ?_
       refine Lu.take rfl rfl rfl rfl rfl (OpQ.fieldAddr rfl Tryz.runUnderlying24 rfl Tryz.sizeOf9 rfl rfl) (pk [1, 2, 3, 4] rfl rfl) ?_
       refine Lu.loud rfl ?_
       refine Ll.store1 (v := str (((b.rel.take ((k32).toNat)) ++ t43_9) ++ (b.rel.drop ((k32 + (1 : Int)).toNat)))) (hs' := (bk_ q #[i6_ b.n, str b.set, str (((b.rel.take ((k32).toNat)) ++ t43_9) ++ (b.rel.drop ((k32 + (1 : Int)).toNat)))] 24 :: _ :: _ :: _ :: _ :: hs)) 0 rfl rfl rfl rfl rfl rfl Tryz.sizeOf9 rfl (by simp) rfl ?_
       refine Ll.nil (Lu.joint (pk [1, 2, 3, 4] rfl rfl) ?_)
       refine Lu.nil ?_
       refine Kt.joined (((b.rel.take ((k32).toNat)) ++ t43_9) ++ (b.rel.drop ((k32 + (1 : Int)).toNat))) (turned_fine h0k32 hltk32 hlt43_9) (Sub.sel [2, 3, 4, 5] rfl) (fun _ h => h)
      ·
       refine Ll.callSome (ok := fun (t : List UInt8) => t.length = ((b.rel.drop ((k32).toNat)).take ((k32 + (1 : Int)).toNat - (k32).toNat)).length) (v := fun (t : List UInt8) => str t) (xs := [.tmp 42]) (vs := [str ((b.rel.drop ((k32).toNat)).take ((k32 + (1 : Int)).toNat - (k32).toNat))]) rfl rfl rfl rfl Tryz.call52 rfl (fun w1 hw1 => (flip_ok ((b.rel.drop ((k32).toNat)).take ((k32 + (1 : Int)).toNat - (k32).toNat)) w1 (by rw [List.length_take, List.length_drop]; omega)).mono fun en w' ⟨t, h1, h2, h3⟩ => ⟨t, h1, h2, h3⟩) fun t43_10 hS43_10 => ?_
       show Ll _ _ (Own _ _ (_ :: _ :: _ :: _ :: _ :: hs)) _ _ ((43, str t43_10) :: _) _ _ _
       have hlt43_10 := hS43_10
       refine Ll.nil (Lu.joint (pk [1, 2, 3, 4] rfl rfl) ?_)
       refine Lu.loud rfl ?_
       refine Ll.op rfl rfl rfl (OpQ.loadOwn 0 rfl Tryz.isAgg9 rfl rfl rfl) ?_
       refine Ll.nil (Lu.joint (pk [1, 2, 3, 4] rfl rfl) ?_)
       refine Lu.take (v := str (b.rel.take ((k32).toNat))) rfl rfl rfl rfl rfl (OpQ.sliceStrTo rfl Tryz.underlying9 rfl rfl (by omega) (by omega)) (pk [1, 2, 3, 4] rfl rfl) ?_
       refine Lu.take rfl rfl rfl rfl rfl (OpQ.sadd rfl rfl rfl (by (try simp only [List.length_append]); rw [List.length_take, hlt43_10, List.length_take, List.length_drop]; omega)) (pk [1, 2, 3, 4] rfl rfl) ?_
       refine Lu.take rfl rfl rfl rfl rfl (OpQ.sadd rfl rfl rfl (by (try simp only [List.length_append]); rw [List.length_take, hlt43_10, List.length_take, List.length_drop, List.length_drop]; omega)) (pk [1, 2, 3, 4] rfl rfl) ?_
       refine Lu.take rfl rfl rfl rfl rfl (OpQ.fieldAddr rfl Tryz.runUnderlying24 rfl Tryz.sizeOf9 rfl rfl) (pk [1, 2, 3, 4] rfl rfl) ?_
       refine Lu.loud rfl ?_
       refine Ll.store1 (v := str (((b.rel.take ((k32).toNat)) ++ t43_10) ++ (b.rel.drop ((k32 + (1 : Int)).toNat)))) (hs' := (bk_ q #[i6_ b.n, str b.set, str (((b.rel.take ((k32).toNat)) ++ t43_10) ++ (b.rel.drop ((k32 + (1 : Int)).toNat)))] 24 :: _ :: _ :: _ :: _ :: hs)) 0 rfl rfl rfl rfl rfl rfl Tryz.sizeOf9 rfl (by simp) rfl ?_
       refine Ll.nil (Lu.joint (pk [1, 2, 3, 4] rfl rfl) ?_)
       refine Lu.nil ?_
       refine Kt.joined (((b.rel.take ((k32).toNat)) ++ t43_10) ++ (b.rel.drop ((k32 + (1 : Int)).toNat))) (turned_fine h0k32 hltk32 hlt43_10) (Sub.sel [2, 3, 4, 5] rfl) (fun _ h => h)
   rintro R hRl
   refine Kt.sel [2, 3, 4, 5] [_, _, _, _] rfl ?_
   refine Wk.seq ?_
   refine Wk.regionS (S := Own B w0 [bk_ q #[i6_ b.n, str b.set, str R] 24, bk_ p4 #[i6_ a8.n, str a8.set, str a8.rel] 24, bk_ rp #[bv, i6_ ((p_32 : Int))] 59]) [(0, true), (1, true), (2, false), (3, false)] Base.mixed (fun _ h => h.drawn) (by kernel_rfl) ?_
   refine Ld.take rfl rfl rfl rfl rfl (OpQ.loadBox (cs := #[i6_ a8.n, str a8.set, str a8.rel]) 1 rfl Tryz.isAgg24 rfl rfl Tryz.sizeOf24) (pk [0, 1, 4] rfl rfl) ?_
   refine Ld.take rfl rfl rfl rfl rfl (OpQ.loadBox (cs := #[i6_ b.n, str b.set, str R]) 0 rfl Tryz.isAgg24 rfl rfl Tryz.sizeOf24) (pk [0, 1, 4] rfl rfl) ?_
   refine Ld.loud rfl ?_
   refine Ll.storeBox (cs' := #[i6_ a8.n, str a8.set, str a8.rel]) (hs' := (_ :: _ :: _ :: bk_ p2 #[i6_ a8.n, str a8.set, str a8.rel] 24 :: _ :: hs)) 3 rfl rfl rfl rfl rfl (by kernel_rfl : _ = some Tryz.t24) rfl rfl rfl rfl rfl ?_
   refine Ll.nil (Ld.joint (pk [0, 1, 4] rfl rfl) ?_)
   refine Ld.loud rfl ?_
   refine Ll.storeBox (cs' := #[i6_ b.n, str b.set, str R]) (hs' := (_ :: _ :: bk_ p3 #[i6_ b.n, str b.set, str R] 24 :: _ :: _ :: hs)) 2 rfl rfl rfl rfl rfl (by kernel_rfl : _ = some Tryz.t24) rfl rfl rfl rfl rfl ?_
   refine Ll.nil (Ld.joint (pk [0, 1, 4] rfl rfl) ?_)
   refine Ld.nil ?_
   refine Kt.sel [2, 3] [_, _] rfl ?_
   refine Wk.ret (Kt.endMany rfl (.cell (cs := #[i6_ a8.n, str a8.set, str a8.rel]) rfl (fun w1 hw1 => hw1.loadBox 3 rfl Tryz.isAgg24 Tryz.sizeOf24) (.cell (cs := #[i6_ b.n, str b.set, str R]) rfl (fun w1 hw1 => hw1.loadBox 2 rfl Tryz.isAgg24 Tryz.sizeOf24) ResAt.nil)) (by simp) fun w' hw => ?_)
   exact ⟨a8, ⟨b.n, b.set, R⟩, p_32, rfl, ⟨⟨⟨hfa8, h5a8⟩, ⟨⟨hfb.lo, hfb.hi, hfb.set, by rw [show (_ : List UInt8).length = b.rel.length from hRl]; exact hfb.rel⟩, h5b⟩⟩, by omega⟩, hw.sub (List.Sublist.cons _ (List.Sublist.cons _ (List.Sublist.cons _ (List.Sublist.cons _ (List.Sublist.cons_cons _ (List.Sublist.refl _))))))⟩
  ·
   replace h20 := of_decide_eq_false h20
   refine Wk.seq ?_
   refine Wk.regionQ ?_
   refine Lq.run 2 rfl ?_
   refine Lq.nil ?_
   refine Kt.sel [0, 2, 3, 4, 54] [_, _, _, _, _] rfl ?_
   refine Wk.cond (b := decide (k10 = (2 : Int))) rfl (fun h54 => ?_) (fun h54 => ?_)
   ·
    replace h54 := of_decide_eq_true h54
    refine Wk.seq ?_
    refine Wk.regionS (S := Own B w0 [bk_ p4 #[i6_ a8.n, str a8.set, str a8.rel] 24]) [(0, true), (1, true), (2, true), (3, true), (4, false), (5, false), (6, false)] Base.mixed (fun _ h => h.drawn) (by kernel_rfl) ?_
    refine Ld.take rfl rfl rfl rfl rfl (OpQ.loadBox (cs := #[i6_ a8.n, str a8.set, str a8.rel]) 0 rfl Tryz.isAgg24 rfl rfl Tryz.sizeOf24) (pk [0] rfl rfl) ?_
    refine Ld.run 1 rfl (pk [0] rfl rfl) ?_
    refine Ld.take rfl rfl rfl rfl rfl (OpQ.fieldAddr rfl Tryz.runUnderlying24 rfl Tryz.sizeOf3 rfl rfl) (pk [0] rfl rfl) ?_
    refine Ld.take rfl rfl rfl rfl rfl (OpQ.loadOwn 0 rfl Tryz.isAgg3 rfl rfl rfl) (pk [0] rfl rfl) ?_
    refine Ld.loud rfl ?_
    refine Ll.callRd (rp := rp) (RT := 59) (p := p_10) (bv := bv) (hs := hs) (ok := fun (a : St) p' => (a.n = a8.n ∧ (a.set.length : Int) = a8.n ∧ a.rel.length = a8.n.toNat * a8.n.toNat) ∧ p' ≤ p_10 + 100) (v := fun (a : St) => vS a) (new := fun (a : St) => []) (xs := [.tmp 57, .tmp 59]) (vs := [pt_ rp, i6_ a8.n]) ([bk_ p4 #[i6_ a8.n, str a8.set, str a8.rel] 24, bk_ p3 #[i6_ 0, str ([]), str ([])] 24, bk_ p2 #[i6_ 0, str ([]), str ([])] 24] : List (Nat × Obj)) rfl rfl rfl rfl Tryz.call53 rfl (fun w1 hw1 => (l1Draw_ok B w0 (([bk_ p4 #[i6_ a8.n, str a8.set, str a8.rel] 24, bk_ p3 #[i6_ 0, str ([]), str ([])] 24, bk_ p2 #[i6_ 0, str ([]), str ([])] 24] : List (Nat × Obj)) ++ hs) rp p_10 bv L a8.n w1 (fun w2 hw2 => hb w2 (Own.drop (f := ([bk_ p4 #[i6_ a8.n, str a8.set, str a8.rel] 24, bk_ p3 #[i6_ 0, str ([]), str ([])] 24, bk_ p2 #[i6_ 0, str ([]), str ([])] 24] : List (Nat × Obj))) hw2)) hL8 hL (by omega) (by omega) (by omega) hw1).mono fun en w' ⟨a', p', h1, h2, h3⟩ => ⟨a', p', h1, h2, h3⟩) fun a60 p_60 hKp_60 => ?_
    show Ll _ _ (Own _ _ (_ :: _ :: _ :: _ :: hs)) _ _ ((60, vS a60) :: _) _ _ _
    obtain ⟨⟨hna60, hsa60, hra60⟩, hep_60⟩ := hKp_60
    refine Ll.nil (Ld.joint (pk [0] rfl rfl) ?_)
    refine Ld.loud rfl ?_
    refine Ll.storeBox (cs' := #[i6_ a8.n, str a8.set, str a8.rel]) (hs' := (_ :: _ :: bk_ p2 #[i6_ a8.n, str a8.set, str a8.rel] 24 :: _ :: hs)) 2 rfl rfl rfl rfl rfl (by kernel_rfl : _ = some Tryz.t24) rfl rfl rfl rfl rfl ?_
    refine Ll.nil (Ld.joint (pk [0] rfl rfl) ?_)
    refine Ld.loud rfl ?_
    refine Ll.storeBox (cs' := #[i6_ a60.n, str a60.set, str a60.rel]) (hs' := (_ :: bk_ p3 #[i6_ a60.n, str a60.set, str a60.rel] 24 :: _ :: _ :: hs)) 1 rfl rfl rfl rfl rfl (by kernel_rfl : _ = some Tryz.t24) rfl rfl rfl rfl rfl ?_
    refine Ll.nil (Ld.joint (pk [0] rfl rfl) ?_)
    refine Ld.nil ?_
    refine Kt.sel [2, 3] [_, _] rfl ?_
    refine Wk.ret (Kt.endMany rfl (.cell (cs := #[i6_ a8.n, str a8.set, str a8.rel]) rfl (fun w1 hw1 => hw1.loadBox 2 rfl Tryz.isAgg24 Tryz.sizeOf24) (.cell (cs := #[i6_ a60.n, str a60.set, str a60.rel]) rfl (fun w1 hw1 => hw1.loadBox 1 rfl Tryz.isAgg24 Tryz.sizeOf24) ResAt.nil)) (by simp) fun w' hw => ?_)
    exact ⟨a8, a60, p_60, rfl, ⟨⟨⟨hfa8, h5a8⟩, draw_fine hna60 hsa60 hra60 (by omega) (by omega)⟩, by omega⟩, hw.sub (List.Sublist.cons _ (List.Sublist.cons _ (List.Sublist.cons _ (List.Sublist.cons_cons _ (List.Sublist.refl _)))))⟩
   ·
    replace h54 := of_decide_eq_false h54
    refine Wk.skip ?_
    refine Kt.sel [0, 2, 3, 4] [_, _, _, _] rfl ?_
    refine Wk.seq ?_
    refine Wk.regionS (S := Own B w0 [bk_ p4 #[i6_ a8.n, str a8.set, str a8.rel] 24]) [(0, true), (1, true), (2, false), (3, false), (4, false)] Base.mixed (fun _ h => h.drawn) (by kernel_rfl) ?_
    refine Ld.take rfl rfl rfl rfl rfl (OpQ.loadBox (cs := #[i6_ a8.n, str a8.set, str a8.rel]) 0 rfl Tryz.isAgg24 rfl rfl Tryz.sizeOf24) (pk [0] rfl rfl) ?_
    refine Ld.run 1 rfl (pk [0] rfl rfl) ?_
    refine Ld.loud rfl ?_
    refine Ll.callRd (rp := rp) (RT := 59) (p := p_10) (bv := bv) (hs := hs) (ok := fun (a : St) p' => (a.Fine ∧ a.n ≤ 5) ∧ p' ≤ p_10 + 200) (v := fun (a : St) => vS a) (new := fun (a : St) => []) (xs := [.tmp 62]) (vs := [pt_ rp]) ([bk_ p4 #[i6_ a8.n, str a8.set, str a8.rel] 24, bk_ p3 #[i6_ 0, str ([]), str ([])] 24, bk_ p2 #[i6_ 0, str ([]), str ([])] 24] : List (Nat × Obj)) rfl rfl rfl rfl Tryz.call50 rfl (fun w1 hw1 => (l1Some_ok B w0 (([bk_ p4 #[i6_ a8.n, str a8.set, str a8.rel] 24, bk_ p3 #[i6_ 0, str ([]), str ([])] 24, bk_ p2 #[i6_ 0, str ([]), str ([])] 24] : List (Nat × Obj)) ++ hs) rp p_10 bv L w1 (fun w2 hw2 => hb w2 (Own.drop (f := ([bk_ p4 #[i6_ a8.n, str a8.set, str a8.rel] 24, bk_ p3 #[i6_ 0, str ([]), str ([])] 24, bk_ p2 #[i6_ 0, str ([]), str ([])] 24] : List (Nat × Obj))) hw2)) hL8 hL (by omega) hw1).mono fun en w' ⟨a', p', h1, h2, h3⟩ => ⟨a', p', h1, h2, h3⟩) fun a63 p_63 hKp_63 => ?_
    show Ll _ _ (Own _ _ (_ :: _ :: _ :: _ :: hs)) _ _ ((63, vS a63) :: _) _ _ _
    obtain ⟨⟨hfa63, h5a63⟩, hep_63⟩ := hKp_63
    have hloa63 := hfa63.lo
    refine Ll.nil (Ld.joint (pk [0] rfl rfl) ?_)
    refine Ld.loud rfl ?_
    refine Ll.storeBox (cs' := #[i6_ a8.n, str a8.set, str a8.rel]) (hs' := (_ :: _ :: bk_ p2 #[i6_ a8.n, str a8.set, str a8.rel] 24 :: _ :: hs)) 2 rfl rfl rfl rfl rfl (by kernel_rfl : _ = some Tryz.t24) rfl rfl rfl rfl rfl ?_
    refine Ll.nil (Ld.joint (pk [0] rfl rfl) ?_)
    refine Ld.loud rfl ?_
    refine Ll.storeBox (cs' := #[i6_ a63.n, str a63.set, str a63.rel]) (hs' := (_ :: bk_ p3 #[i6_ a63.n, str a63.set, str a63.rel] 24 :: _ :: _ :: hs)) 1 rfl rfl rfl rfl rfl (by kernel_rfl : _ = some Tryz.t24) rfl rfl rfl rfl rfl ?_
    refine Ll.nil (Ld.joint (pk [0] rfl rfl) ?_)
    refine Ld.nil ?_
    refine Kt.sel [2, 3] [_, _] rfl ?_
    refine Wk.ret (Kt.endMany rfl (.cell (cs := #[i6_ a8.n, str a8.set, str a8.rel]) rfl (fun w1 hw1 => hw1.loadBox 2 rfl Tryz.isAgg24 Tryz.sizeOf24) (.cell (cs := #[i6_ a63.n, str a63.set, str a63.rel]) rfl (fun w1 hw1 => hw1.loadBox 1 rfl Tryz.isAgg24 Tryz.sizeOf24) ResAt.nil)) (by simp) fun w' hw => ?_)
    exact ⟨a8, a63, p_63, rfl, ⟨⟨⟨hfa8, h5a8⟩, ⟨hfa63, h5a63⟩⟩, by omega⟩, hw.sub (List.Sublist.cons _ (List.Sublist.cons _ (List.Sublist.cons _ (List.Sublist.cons_cons _ (List.Sublist.refl _)))))⟩
set_option maxHeartbeats 400000 in
/-- spec.l15Open -/
theorem open_ok (B : Nat) (w0 : World) (fr hs : List (Nat × Obj)) (bv : Value) (L : List Int) (w : World) (hb : ∀ w, Own B w0 hs w → Row w bv (u8s L)) (hL8 : Bytes8 L) (hLs : L.length ≤ 1048576) (hw : Own B w0 (fr ++ hs) w) :
    Calls Tryz.prog 9 [bv].toArray w fun en w' => ∃ (rp : Nat) (v : Value) (M : List Int), en = .returned (.pointer (some ⟨rp, 0, none⟩)) ∧ (M.length ≤ 2000 ∧ Bytes8 M ∧ ∀ w, Own B w0 hs w → Row w v (u8s M)) ∧ Own B w0 ([(rp, .cells #[v, .int .i64 ((0 : Nat) : Int)] 59 (0, 0))] ++ (fr ++ hs)) w' := by
 refine fnStartC (Own B w0 (fr ++ hs)) (n := 11) (e := [(0, bv)]) Tryz.func9 rfl rfl rfl rfl Ends.both hw ?_
 obtain ⟨ad, cap, hbv, -⟩ := hb w (Own.drop (f := fr) hw)
 refine Wk.seq ?_
 refine Wk.regionQ ?_
 refine Lq.run 1 rfl ?_
 refine Lq.nil ?_
 refine Kt.sel [0] [_] rfl ?_
 refine Wk.seq ?_
 refine Wk.seq ?_
 refine Wk.regionQ ?_
 refine Lq.run 1 rfl ?_
 refine Lq.op (v := i6_ ((L.length : Int))) rfl rfl rfl (OpQ.lenRow rfl Tryz.runUnderlying22 rfl (u8s_length _) (fun w1 hw1 => hb _ (Own.drop (f := fr) hw1))) ?_
 refine Lq.run 1 rfl ?_
 refine Lq.nil ?_
 refine Kt.sel [0, 5] [_, _] rfl ?_
 refine Wk.cond (b := decide ((2000 : Int) < ((L.length : Int)))) rfl (fun h5 => ?_) (fun h5 => ?_)
 ·
  replace h5 := of_decide_eq_true h5
  refine Wk.regionQ ?_
  refine Lq.run 1 rfl ?_
  refine Lq.op (v := sTake bv ((2000 : Int).toNat)) rfl rfl rfl (OpQ.takeRow (i := 2000) rfl Tryz.runUnderlying22 Tryz.sizeOf5 rfl rfl (by omega) (by rw [u8s_length]; omega) (fun w1 hw1 => hb _ (Own.drop (f := fr) hw1))) ?_
  refine Lq.run 1 rfl ?_
  refine Lq.nil ?_
  refine Kt.sel [0] [_] rfl ?_
  refine Wk.seq ?_
  refine Wk.region ?_
  refine Ll.run 1 rfl ?_
  refine Ll.op (v := .agg #[sTake bv ((2000 : Int).toNat), i6_ (((0 : Nat) : Int))]) rfl rfl rfl (OpQ.build (xs := [.tmp 8]) (vs := [sTake bv ((2000 : Int).toNat)]) rfl rfl (by rw [hbv]; kernel_rfl)) ?_
  refine Ll.box (v := .agg #[sTake bv ((2000 : Int).toNat), i6_ (((0 : Nat) : Int))]) rfl rfl rfl rfl rfl fun p10 hp10 => ?_
  show Ll _ _ (Own _ _ (_ :: (fr ++ hs))) _ _ ((10, pt_ p10) :: _) _ _ _
  refine Ll.run 1 rfl ?_
  refine Ll.nil ?_
  refine Kt.sel [2] [_] rfl ?_
  refine Wk.ret (Kt.end1 rfl rfl fun w' hw => ?_)
  exact ⟨p10, _, L.take 2000, rfl, ⟨by rw [List.length_take]; omega, hL8.take _, fun w1 h1 => by rw [u8s_take]; exact Row.take (hb _ h1) 2000 (by rw [u8s_length]; omega)⟩, hw⟩
 ·
  replace h5 := of_decide_eq_false h5
  refine Wk.skip ?_
  refine Kt.sel [0] [_] rfl ?_
  refine Wk.seq ?_
  refine Wk.region ?_
  refine Ll.run 1 rfl ?_
  refine Ll.op (v := .agg #[bv, i6_ (((0 : Nat) : Int))]) rfl rfl rfl (OpQ.build (xs := [.tmp 8]) (vs := [bv]) rfl rfl (by rw [hbv]; kernel_rfl)) ?_
  refine Ll.box (v := .agg #[bv, i6_ (((0 : Nat) : Int))]) rfl rfl rfl rfl rfl fun p10_1 hp10_1 => ?_
  show Ll _ _ (Own _ _ (_ :: (fr ++ hs))) _ _ ((10, pt_ p10_1) :: _) _ _ _
  refine Ll.run 1 rfl ?_
  refine Ll.nil ?_
  refine Kt.sel [2] [_] rfl ?_
  refine Wk.ret (Kt.end1 rfl rfl fun w' hw => ?_)
  exact ⟨p10_1, bv, L, rfl, ⟨by omega, hL8, hb⟩, hw⟩
end Go.Proofs.YtjcoijejhachhaaGreatDoor
namespace Go.Proofs.YtjcoijejhachhaaGreatDoor
open Go.RowKit Go.Wk
set_option linter.unusedSimpArgs false
set_option maxHeartbeats 400000 in
/-- spec.l1Bad -/
theorem l1Bad_ok (B : Nat) (w0 : World) (hs : List (Nat × Obj)) (rp p : Nat) (bv : Value) (L : List Int) (a : St) (w : World) (hb : ∀ w, Own B w0 hs w → Row w bv (u8s L)) (hL8 : Bytes8 L) (hL : L.length ≤ 2000) (ha : a.Fine) (hp : p ≤ 800000) (hw : Own B w0 ((rp, .cells #[bv, .int .i64 (p : Int)] 59 (0, 0)) :: hs) w) :
    Calls Tryz.prog 34 [pt_ rp, vS a].toArray w fun en w' => ∃ b : St, ∃ p' : Nat, en = .returned (vS b) ∧ (((-9223372036854775808 ≤ b.n ∧ b.n ≤ 9223372036854775807) ∧ b.set.length ≤ 50000 ∧ b.rel.length ≤ 50000) ∧ p' ≤ p + 10) ∧ Own B w0 (((rp, .cells #[bv, .int .i64 (p' : Int)] 59 (0, 0)) :: hs)) w' := by
 refine fnStartC (Own B w0 ((rp, .cells #[bv, .int .i64 (p : Int)] 59 (0, 0)) :: hs)) (n := 42) (e := [(0, pt_ rp), (1, vS a)]) Tryz.func34 rfl rfl rfl rfl Ends.both hw ?_
 have hm8 := ha.hi
 have hm1 := ha.lo
 have hsl := ha.set
 have hrl := ha.rel
 have hq := sq_le hm1 hm8
 have hq1 : 1 ≤ a.n * a.n := sq_one hm1
 refine Wk.seq ?_
 refine Wk.region ?_
 refine Ll.box (v := vS a) rfl rfl rfl rfl rfl fun p3 hp3 => ?_
 show Ll _ _ (Own _ _ (_ :: _ :: hs)) _ _ ((3, pt_ p3) :: _) _ _ _
 refine Ll.alloc rfl rfl rfl rfl Tryz.zeroValue24 fun p4 hp4 => ?_
 show Ll _ _ (Own _ _ (bk_ p4 #[i6_ 0, str ([]), str ([])] 24 :: _ :: _ :: hs)) _ _ ((4, pt_ p4) :: _) _ _ _
 refine Ll.nil ?_
 refine Kt.sel [0, 3, 4] [_, _, _] rfl ?_
 refine Wk.seq ?_
 refine Wk.seq ?_
 refine Wk.region ?_
 refine Ll.run 1 rfl ?_
 refine Ll.callRd (rp := rp) (RT := 59) (p := p) (bv := bv) (hs := hs) (ok := fun (k : Int) p' => 0 ≤ k ∧ (1 ≤ (40 : Int) → k < 40) ∧ p' = p + 1) (v := fun (k : Int) => i6_ k) (new := fun (k : Int) => []) (xs := [.tmp 5, .const (i6_ 40)]) (vs := [pt_ rp, i6_ 40]) ([bk_ p4 #[i6_ 0, str ([]), str ([])] 24, bk_ p3 #[i6_ a.n, str a.set, str a.rel] 24] : List (Nat × Obj)) rfl rfl rfl rfl Tryz.call33 rfl (fun w1 hw1 => (pick_ok B w0 (([bk_ p4 #[i6_ 0, str ([]), str ([])] 24, bk_ p3 #[i6_ a.n, str a.set, str a.rel] 24] : List (Nat × Obj)) ++ hs) rp p bv L 40 w1 (fun w2 hw2 => hb w2 (Own.drop (f := ([bk_ p4 #[i6_ 0, str ([]), str ([])] 24, bk_ p3 #[i6_ a.n, str a.set, str a.rel] 24] : List (Nat × Obj))) hw2)) hL8 hL (by omega) hw1).mono fun en w' ⟨k', p', h1, h2, h3⟩ => ⟨k', p', h1, h2, h3⟩) fun k6 p_6 hKp_6 => ?_
 show Ll _ _ (Own _ _ (_ :: _ :: _ :: hs)) _ _ ((6, i6_ k6) :: _) _ _ _
 obtain ⟨h0k6, h1k6, hep_6⟩ := hKp_6
 try have hltk6 := h1k6 (by first | omega | (split <;> omega) | decide)
 refine Ll.nil ?_
 refine Kt.sel [0, 3, 4, 6] [_, _, _, _] rfl ?_
 refine Wk.join (σ := Int × List UInt8 × List UInt8 × Nat) (fun ⟨N, S, R, p9⟩ => (-9223372036854775808 ≤ N ∧ N ≤ 9223372036854775807) ∧ S.length ≤ 50000 ∧ R.length ≤ 50000 ∧ p9 ≤ p + 10) (fun ⟨N, S, R, p9⟩ => [(3, pt_ p3), (4, pt_ p4)]) (fun ⟨N, S, R, p9⟩ => Own B w0 (bk_ p4 #[i6_ 0, str ([]), str ([])] 24 :: bk_ p3 #[i6_ N, str S, str R] 24 :: bk_ rp #[bv, i6_ ((p9 : Int))] 59 :: hs)) ?_ ?_
 ·
  refine Wk.block ?_
  refine Wk.seq ?_
  refine Wk.regionQ ?_
  refine Lq.run 2 rfl ?_
  refine Lq.nil ?_
  refine Kt.sel [0, 3, 4, 6, 7] [_, _, _, _, _] rfl ?_
  refine Wk.cond (b := decide (k6 = (0 : Int))) rfl (fun h7 => ?_) (fun h7 => ?_)
  ·
   replace h7 := of_decide_eq_true h7
   refine Wk.region ?_
   refine Ll.run 1 rfl ?_
   refine Ll.op rfl rfl rfl (OpQ.fieldAddr rfl Tryz.runUnderlying24 rfl Tryz.sizeOf3 rfl rfl) ?_
   refine Ll.op rfl rfl rfl (OpQ.loadOwn 1 rfl Tryz.isAgg3 rfl rfl rfl) ?_
   refine Ll.op rfl rfl rfl (OpQ.add rfl rfl rfl (by omega) (by omega)) ?_
   refine Ll.slice (xs := [.const (i6_ 0), .const (i6_ (-1)), .tmp 12, .const (i6_ 9), .const (i6_ 9223372036854775807)]) (vs := [i6_ 0, i6_ (-1), i6_ (a.n + (1 : Int)), i6_ 9, i6_ 9223372036854775807]) Base.elem28 rfl rfl rfl rfl rfl rfl (by decide) rfl fun p13 hp13 => ?_
   refine Ll.callRd (rp := rp) (RT := 59) (p := p_6) (bv := bv) (hs := hs) (ok := fun (v : Int) p' => v ∈ ([0, -1, a.n + (1 : Int), 9, 9223372036854775807]) ∧ p' = p_6 + 1) (v := fun (v : Int) => i6_ v) (new := fun (v : Int) => []) (xs := [.tmp 9, .tmp 13]) (vs := [pt_ rp, sl_ p13 5 5]) ([bk_ p13 #[i6_ 0, i6_ (-1), i6_ (a.n + (1 : Int)), i6_ 9, i6_ 9223372036854775807] 3, bk_ p4 #[i6_ 0, str ([]), str ([])] 24, bk_ p3 #[i6_ a.n, str a.set, str a.rel] 24] : List (Nat × Obj)) rfl rfl rfl rfl Tryz.call11 rfl (fun w1 hw1 => (num_ok B w0 (([bk_ p13 #[i6_ 0, i6_ (-1), i6_ (a.n + (1 : Int)), i6_ 9, i6_ 9223372036854775807] 3, bk_ p4 #[i6_ 0, str ([]), str ([])] 24, bk_ p3 #[i6_ a.n, str a.set, str a.rel] 24] : List (Nat × Obj)) ++ hs) rp p_6 bv L (sl_ p13 5 5) ([0, -1, a.n + (1 : Int), 9, 9223372036854775807]) w1 (fun w2 hw2 => hb w2 (Own.drop (f := ([bk_ p13 #[i6_ 0, i6_ (-1), i6_ (a.n + (1 : Int)), i6_ 9, i6_ 9223372036854775807] 3, bk_ p4 #[i6_ 0, str ([]), str ([])] 24, bk_ p3 #[i6_ a.n, str a.set, str a.rel] 24] : List (Nat × Obj))) hw2)) hL8 hL (fun w2 h2 => (Own.row h2 (i := 0) rfl (n := 5) (cap := 5) (vs := ints [0, -1, a.n + (1 : Int), 9, 9223372036854775807]) rfl rfl (by decide))) (by simp) (by omega) hw1).mono fun en w' ⟨v', p', h1, h2, h3⟩ => ⟨v', p', h1, h2, h3⟩) fun v14 p_14 hKp_14 => ?_
   show Ll _ _ (Own _ _ (_ :: _ :: _ :: _ :: hs)) _ _ ((14, i6_ v14) :: _) _ _ _
   obtain ⟨hmv14, hep_14⟩ := hKp_14
   skip
   have hv14 : -9223372036854775808 ≤ v14 ∧ v14 ≤ 9223372036854775807 := by simp at hmv14; omega
   refine Ll.op rfl rfl rfl (OpQ.fieldAddr rfl Tryz.runUnderlying24 rfl Tryz.sizeOf3 rfl rfl) ?_
   refine Ll.store1 (v := i6_ v14) (hs' := (_ :: _ :: bk_ p3 #[i6_ v14, str a.set, str a.rel] 24 :: _ :: hs)) 2 rfl rfl rfl rfl rfl rfl Tryz.sizeOf3 rfl (by simp) rfl ?_
   refine Ll.nil ?_
   refine Kt.joined ((v14, a.set, a.rel, p_14)) ⟨⟨by (try dsimp only); omega, by (try dsimp only); omega⟩, by (try dsimp only); omega, by (try dsimp only); omega, by (try dsimp only); omega⟩ (Sub.sel [3, 4] rfl) (fun _ h => h.sub (List.Sublist.cons _ (List.Sublist.cons_cons _ (List.Sublist.cons_cons _ (List.Sublist.cons_cons _ (List.Sublist.refl _))))))
  ·
   replace h7 := of_decide_eq_false h7
   refine Wk.seq ?_
   refine Wk.regionQ ?_
   refine Lq.run 2 rfl ?_
   refine Lq.nil ?_
   refine Kt.sel [0, 3, 4, 6, 16] [_, _, _, _, _] rfl ?_
   refine Wk.cond (b := decide (k6 = (1 : Int))) rfl (fun h16 => ?_) (fun h16 => ?_)
   ·
    replace h16 := of_decide_eq_true h16
    refine Wk.region ?_
    refine Ll.op rfl rfl rfl (OpQ.fieldAddr rfl Tryz.runUnderlying24 rfl Tryz.sizeOf9 rfl rfl) ?_
    refine Ll.op rfl rfl rfl (OpQ.loadOwn 1 rfl Tryz.isAgg9 rfl rfl rfl) ?_
    refine Ll.op rfl rfl rfl (OpQ.sadd rfl rfl rfl (by simp; omega)) ?_
    refine Ll.op rfl rfl rfl (OpQ.fieldAddr rfl Tryz.runUnderlying24 rfl Tryz.sizeOf9 rfl rfl) ?_
    refine Ll.store1 (v := str (a.set ++ ([48]))) (hs' := (_ :: bk_ p3 #[i6_ a.n, str (a.set ++ ([48])), str a.rel] 24 :: _ :: hs)) 1 rfl rfl rfl rfl rfl rfl Tryz.sizeOf9 rfl (by simp) rfl ?_
    refine Ll.nil ?_
    refine Kt.joined ((a.n, a.set ++ ([48]), a.rel, p_6)) ⟨⟨by (try dsimp only); omega, by (try dsimp only); omega⟩, by (try dsimp only); simp only [List.length_append, List.length_take, List.length_cons, List.length_nil]; omega, by (try dsimp only); omega, by (try dsimp only); omega⟩ (Sub.sel [3, 4] rfl) (fun _ h => h.sub (List.Sublist.cons_cons _ (List.Sublist.cons_cons _ (List.Sublist.cons_cons _ (List.Sublist.refl _)))))
   ·
    replace h16 := of_decide_eq_false h16
    refine Wk.seq ?_
    refine Wk.regionQ ?_
    refine Lq.run 2 rfl ?_
    refine Lq.nil ?_
    refine Kt.sel [0, 3, 4, 6, 22] [_, _, _, _, _] rfl ?_
    refine Wk.cond (b := decide (k6 = (2 : Int))) rfl (fun h22 => ?_) (fun h22 => ?_)
    ·
     replace h22 := of_decide_eq_true h22
     refine Wk.regionU (S := Own B w0 [bk_ p4 #[i6_ 0, str ([]), str ([])] 24]) (.take 0 (.take 2 (.take 7 (.three 1 (.two 3 (.take 4 (.take 5 (.take 6 (.one 8 (.one 9 (.take 10 (.take 11 (.one 12 .done)))))))) 8 (.two 3 (.take 4 (.take 5 (.take 6 (.one 9 (.take 10 (.take 11 (.one 12 .done))))))) 9 (.one 3 (.take 4 (.take 5 (.take 6 (.take 10 (.take 11 (.one 12 .done))))))))) 3 (.take 4 (.take 5 (.two 1 (.take 6 (.one 8 (.one 9 (.take 10 (.take 11 (.one 12 .done)))))) 8 (.two 1 (.take 6 (.one 9 (.take 10 (.take 11 (.one 12 .done))))) 9 (.one 1 (.take 6 (.take 10 (.take 11 (.one 12 .done))))))))) 8 (.three 1 (.two 3 (.take 4 (.take 5 (.take 6 (.one 9 (.take 10 (.take 11 (.one 12 .done))))))) 9 (.one 3 (.take 4 (.take 5 (.take 6 (.take 10 (.take 11 (.one 12 .done)))))))) 3 (.take 4 (.take 5 (.two 1 (.take 6 (.one 9 (.take 10 (.take 11 (.one 12 .done))))) 9 (.one 1 (.take 6 (.take 10 (.take 11 (.one 12 .done)))))))) 9 (.two 1 (.one 3 (.take 4 (.take 5 (.take 6 (.take 10 (.take 11 (.one 12 .done))))))) 3 (.take 4 (.take 5 (.one 1 (.take 6 (.take 10 (.take 11 (.one 12 .done))))))))))))) Base.mixed (fun _ h => h.drawn) (by kernel_rfl) ?_
     refine Lu.take rfl rfl rfl rfl rfl (OpQ.fieldAddr rfl Tryz.runUnderlying24 rfl Tryz.sizeOf9 rfl rfl) (pk [0] rfl rfl) ?_
     refine Lu.take rfl rfl rfl rfl rfl (OpQ.fieldAddr rfl Tryz.runUnderlying24 rfl Tryz.sizeOf9 rfl rfl) (pk [0] rfl rfl) ?_
     refine Lu.run 1 rfl (pk [0] rfl rfl) ?_
     refine Lu.three rfl rfl rfl ?_ ?_ ?_
     ·
      refine Ll.op rfl rfl rfl (OpQ.loadOwn 1 rfl Tryz.isAgg9 rfl rfl rfl) ?_
      refine Ll.nil (Lu.joint (pk [0] rfl rfl) ?_)
      refine Lu.two rfl rfl ?_ ?_
      ·
       refine Ll.op rfl rfl rfl (OpQ.loadOwn 1 rfl Tryz.isAgg9 rfl rfl rfl) ?_
       refine Ll.nil (Lu.joint (pk [0] rfl rfl) ?_)
       refine Lu.take (v := i6_ ((a.rel.length : Int))) rfl rfl rfl rfl rfl (OpQ.lenStr rfl Tryz.runUnderlying9 rfl) (pk [0] rfl rfl) ?_
       refine Lu.take rfl rfl rfl rfl rfl (OpQ.sub rfl rfl rfl (by omega) (by omega)) (pk [0] rfl rfl) ?_
       refine Lu.take (v := str (a.rel.take ((((a.rel.length : Int)) - (1 : Int)).toNat))) rfl rfl rfl rfl rfl (OpQ.sliceStrTo rfl Tryz.underlying9 rfl rfl (by omega) (by omega)) (pk [0] rfl rfl) ?_
       refine Lu.loud rfl ?_
       refine Ll.slice (xs := [.const (str ([])), .const (str ([50])), .const (str ([48, 49]))]) (vs := [str ([]), str ([50]), str ([48, 49])]) Base.elem78 rfl rfl rfl rfl rfl rfl (by decide) rfl fun p32 hp32 => ?_
       refine Ll.nil (Lu.joint (pk [1] rfl rfl) ?_)
       refine Lu.loud rfl ?_
       refine Ll.callRd (rp := rp) (RT := 59) (p := p_6) (bv := bv) (hs := hs) (ok := fun (v : List UInt8) p' => v ∈ (([[], [50], [48, 49]] : List (List UInt8))) ∧ p' = p_6 + 1) (v := fun (v : List UInt8) => str v) (new := fun (v : List UInt8) => []) (xs := [.tmp 31, .tmp 32]) (vs := [pt_ rp, sl_ p32 3 3]) ([bk_ p32 #[str ([]), str ([50]), str ([48, 49])] 9, bk_ p4 #[i6_ 0, str ([]), str ([])] 24, bk_ p3 #[i6_ a.n, str a.set, str a.rel] 24] : List (Nat × Obj)) rfl rfl rfl rfl Tryz.call57 rfl (fun w1 hw1 => (of_ok B w0 (([bk_ p32 #[str ([]), str ([50]), str ([48, 49])] 9, bk_ p4 #[i6_ 0, str ([]), str ([])] 24, bk_ p3 #[i6_ a.n, str a.set, str a.rel] 24] : List (Nat × Obj)) ++ hs) rp p_6 bv L (sl_ p32 3 3) (([[], [50], [48, 49]] : List (List UInt8))) w1 (fun w2 hw2 => hb w2 (Own.drop (f := ([bk_ p32 #[str ([]), str ([50]), str ([48, 49])] 9, bk_ p4 #[i6_ 0, str ([]), str ([])] 24, bk_ p3 #[i6_ a.n, str a.set, str a.rel] 24] : List (Nat × Obj))) hw2)) hL8 hL (fun w2 h2 => (Own.row h2 (i := 0) rfl (n := 3) (cap := 3) (vs := strs ([[], [50], [48, 49]] : List (List UInt8))) rfl rfl (by decide))) (by simp) (by omega) hw1).mono fun en w' ⟨v', p', h1, h2, h3⟩ => ⟨v', p', h1, h2, h3⟩) fun v33 p_33 hKp_33 => ?_
       show Ll _ _ (Own _ _ (_ :: _ :: _ :: _ :: hs)) _ _ ((33, str v33) :: _) _ _ _
       obtain ⟨hmv33, hep_33⟩ := hKp_33
       refine Ll.nil (Lu.joint (pk [1] rfl rfl) ?_)
       have hv33 : v33.length ≤ 2 := by simp at hmv33; rcases hmv33 with h | h | h <;> subst h <;> decide
       refine Lu.take rfl rfl rfl rfl rfl (OpQ.sadd rfl rfl rfl (by simp only [List.length_take]; omega)) (pk [1] rfl rfl) ?_
       refine Lu.take rfl rfl rfl rfl rfl (OpQ.fieldAddr rfl Tryz.runUnderlying24 rfl Tryz.sizeOf9 rfl rfl) (pk [1] rfl rfl) ?_
       refine Lu.loud rfl ?_
       refine Ll.store1 (v := str ((a.rel.take ((((a.rel.length : Int)) - (1 : Int)).toNat)) ++ v33)) (hs' := (_ :: _ :: bk_ p3 #[i6_ a.n, str a.set, str ((a.rel.take ((((a.rel.length : Int)) - (1 : Int)).toNat)) ++ v33)] 24 :: _ :: hs)) 2 rfl rfl rfl rfl rfl rfl Tryz.sizeOf9 rfl (by simp) rfl ?_
       refine Ll.nil (Lu.joint (pk [1] rfl rfl) ?_)
       refine Lu.nil ?_
       refine Kt.joined ((a.n, a.set, (a.rel.take ((((a.rel.length : Int)) - (1 : Int)).toNat)) ++ v33, p_33)) ⟨⟨by (try dsimp only); omega, by (try dsimp only); omega⟩, by (try dsimp only); omega, by (try dsimp only); simp only [List.length_append, List.length_take, List.length_cons, List.length_nil]; omega, by (try dsimp only); omega⟩ (Sub.sel [3, 4] rfl) (fun _ h => h.sub (List.Sublist.cons _ (List.Sublist.cons_cons _ (List.Sublist.cons_cons _ (List.Sublist.cons_cons _ (List.Sublist.refl _))))))
      ·
       refine Ll.slice (xs := [.const (str ([])), .const (str ([50])), .const (str ([48, 49]))]) (vs := [str ([]), str ([50]), str ([48, 49])]) Base.elem78 rfl rfl rfl rfl rfl rfl (by decide) rfl fun p32_1 hp32_1 => ?_
       refine Ll.nil (Lu.joint (pk [1] rfl rfl) ?_)
       refine Lu.two rfl rfl ?_ ?_
       ·
        refine Ll.op rfl rfl rfl (OpQ.loadOwn 2 rfl Tryz.isAgg9 rfl rfl rfl) ?_
        refine Ll.nil (Lu.joint (pk [1] rfl rfl) ?_)
        refine Lu.take (v := i6_ ((a.rel.length : Int))) rfl rfl rfl rfl rfl (OpQ.lenStr rfl Tryz.runUnderlying9 rfl) (pk [1] rfl rfl) ?_
        refine Lu.take rfl rfl rfl rfl rfl (OpQ.sub rfl rfl rfl (by omega) (by omega)) (pk [1] rfl rfl) ?_
        refine Lu.take (v := str (a.rel.take ((((a.rel.length : Int)) - (1 : Int)).toNat))) rfl rfl rfl rfl rfl (OpQ.sliceStrTo rfl Tryz.underlying9 rfl rfl (by omega) (by omega)) (pk [1] rfl rfl) ?_
        refine Lu.loud rfl ?_
        refine Ll.callRd (rp := rp) (RT := 59) (p := p_6) (bv := bv) (hs := hs) (ok := fun (v : List UInt8) p' => v ∈ (([[], [50], [48, 49]] : List (List UInt8))) ∧ p' = p_6 + 1) (v := fun (v : List UInt8) => str v) (new := fun (v : List UInt8) => []) (xs := [.tmp 31, .tmp 32]) (vs := [pt_ rp, sl_ p32_1 3 3]) ([bk_ p32_1 #[str ([]), str ([50]), str ([48, 49])] 9, bk_ p4 #[i6_ 0, str ([]), str ([])] 24, bk_ p3 #[i6_ a.n, str a.set, str a.rel] 24] : List (Nat × Obj)) rfl rfl rfl rfl Tryz.call57 rfl (fun w1 hw1 => (of_ok B w0 (([bk_ p32_1 #[str ([]), str ([50]), str ([48, 49])] 9, bk_ p4 #[i6_ 0, str ([]), str ([])] 24, bk_ p3 #[i6_ a.n, str a.set, str a.rel] 24] : List (Nat × Obj)) ++ hs) rp p_6 bv L (sl_ p32_1 3 3) (([[], [50], [48, 49]] : List (List UInt8))) w1 (fun w2 hw2 => hb w2 (Own.drop (f := ([bk_ p32_1 #[str ([]), str ([50]), str ([48, 49])] 9, bk_ p4 #[i6_ 0, str ([]), str ([])] 24, bk_ p3 #[i6_ a.n, str a.set, str a.rel] 24] : List (Nat × Obj))) hw2)) hL8 hL (fun w2 h2 => (Own.row h2 (i := 0) rfl (n := 3) (cap := 3) (vs := strs ([[], [50], [48, 49]] : List (List UInt8))) rfl rfl (by decide))) (by simp) (by omega) hw1).mono fun en w' ⟨v', p', h1, h2, h3⟩ => ⟨v', p', h1, h2, h3⟩) fun v33_1 p_33_1 hKp_33_1 => ?_
        show Ll _ _ (Own _ _ (_ :: _ :: _ :: _ :: hs)) _ _ ((33, str v33_1) :: _) _ _ _
        obtain ⟨hmv33_1, hep_33_1⟩ := hKp_33_1
        refine Ll.nil (Lu.joint (pk [1] rfl rfl) ?_)
        have hv33 : v33_1.length ≤ 2 := by simp at hmv33_1; rcases hmv33_1 with h | h | h <;> subst h <;> decide
        refine Lu.take rfl rfl rfl rfl rfl (OpQ.sadd rfl rfl rfl (by simp only [List.length_take]; omega)) (pk [1] rfl rfl) ?_
        refine Lu.take rfl rfl rfl rfl rfl (OpQ.fieldAddr rfl Tryz.runUnderlying24 rfl Tryz.sizeOf9 rfl rfl) (pk [1] rfl rfl) ?_
        refine Lu.loud rfl ?_
        refine Ll.store1 (v := str ((a.rel.take ((((a.rel.length : Int)) - (1 : Int)).toNat)) ++ v33_1)) (hs' := (_ :: _ :: bk_ p3 #[i6_ a.n, str a.set, str ((a.rel.take ((((a.rel.length : Int)) - (1 : Int)).toNat)) ++ v33_1)] 24 :: _ :: hs)) 2 rfl rfl rfl rfl rfl rfl Tryz.sizeOf9 rfl (by simp) rfl ?_
        refine Ll.nil (Lu.joint (pk [1] rfl rfl) ?_)
        refine Lu.nil ?_
        refine Kt.joined ((a.n, a.set, (a.rel.take ((((a.rel.length : Int)) - (1 : Int)).toNat)) ++ v33_1, p_33_1)) ⟨⟨by (try dsimp only); omega, by (try dsimp only); omega⟩, by (try dsimp only); omega, by (try dsimp only); simp only [List.length_append, List.length_take, List.length_cons, List.length_nil]; omega, by (try dsimp only); omega⟩ (Sub.sel [3, 4] rfl) (fun _ h => h.sub (List.Sublist.cons _ (List.Sublist.cons_cons _ (List.Sublist.cons_cons _ (List.Sublist.cons_cons _ (List.Sublist.refl _))))))
       ·
        refine Ll.callRd (rp := rp) (RT := 59) (p := p_6) (bv := bv) (hs := hs) (ok := fun (v : List UInt8) p' => v ∈ (([[], [50], [48, 49]] : List (List UInt8))) ∧ p' = p_6 + 1) (v := fun (v : List UInt8) => str v) (new := fun (v : List UInt8) => []) (xs := [.tmp 31, .tmp 32]) (vs := [pt_ rp, sl_ p32_1 3 3]) ([bk_ p32_1 #[str ([]), str ([50]), str ([48, 49])] 9, bk_ p4 #[i6_ 0, str ([]), str ([])] 24, bk_ p3 #[i6_ a.n, str a.set, str a.rel] 24] : List (Nat × Obj)) rfl rfl rfl rfl Tryz.call57 rfl (fun w1 hw1 => (of_ok B w0 (([bk_ p32_1 #[str ([]), str ([50]), str ([48, 49])] 9, bk_ p4 #[i6_ 0, str ([]), str ([])] 24, bk_ p3 #[i6_ a.n, str a.set, str a.rel] 24] : List (Nat × Obj)) ++ hs) rp p_6 bv L (sl_ p32_1 3 3) (([[], [50], [48, 49]] : List (List UInt8))) w1 (fun w2 hw2 => hb w2 (Own.drop (f := ([bk_ p32_1 #[str ([]), str ([50]), str ([48, 49])] 9, bk_ p4 #[i6_ 0, str ([]), str ([])] 24, bk_ p3 #[i6_ a.n, str a.set, str a.rel] 24] : List (Nat × Obj))) hw2)) hL8 hL (fun w2 h2 => (Own.row h2 (i := 0) rfl (n := 3) (cap := 3) (vs := strs ([[], [50], [48, 49]] : List (List UInt8))) rfl rfl (by decide))) (by simp) (by omega) hw1).mono fun en w' ⟨v', p', h1, h2, h3⟩ => ⟨v', p', h1, h2, h3⟩) fun v33_2 p_33_2 hKp_33_2 => ?_
        show Ll _ _ (Own _ _ (_ :: _ :: _ :: _ :: hs)) _ _ ((33, str v33_2) :: _) _ _ _
        obtain ⟨hmv33_2, hep_33_2⟩ := hKp_33_2
        refine Ll.nil (Lu.joint (pk [1] rfl rfl) ?_)
        refine Lu.loud rfl ?_
        refine Ll.op rfl rfl rfl (OpQ.loadOwn 2 rfl Tryz.isAgg9 rfl rfl rfl) ?_
        refine Ll.nil (Lu.joint (pk [1] rfl rfl) ?_)
        refine Lu.take (v := i6_ ((a.rel.length : Int))) rfl rfl rfl rfl rfl (OpQ.lenStr rfl Tryz.runUnderlying9 rfl) (pk [1] rfl rfl) ?_
        refine Lu.take rfl rfl rfl rfl rfl (OpQ.sub rfl rfl rfl (by omega) (by omega)) (pk [1] rfl rfl) ?_
        refine Lu.take (v := str (a.rel.take ((((a.rel.length : Int)) - (1 : Int)).toNat))) rfl rfl rfl rfl rfl (OpQ.sliceStrTo rfl Tryz.underlying9 rfl rfl (by omega) (by omega)) (pk [1] rfl rfl) ?_
        have hv33 : v33_2.length ≤ 2 := by simp at hmv33_2; rcases hmv33_2 with h | h | h <;> subst h <;> decide
        refine Lu.take rfl rfl rfl rfl rfl (OpQ.sadd rfl rfl rfl (by simp only [List.length_take]; omega)) (pk [1] rfl rfl) ?_
        refine Lu.take rfl rfl rfl rfl rfl (OpQ.fieldAddr rfl Tryz.runUnderlying24 rfl Tryz.sizeOf9 rfl rfl) (pk [1] rfl rfl) ?_
        refine Lu.loud rfl ?_
        refine Ll.store1 (v := str ((a.rel.take ((((a.rel.length : Int)) - (1 : Int)).toNat)) ++ v33_2)) (hs' := (_ :: _ :: bk_ p3 #[i6_ a.n, str a.set, str ((a.rel.take ((((a.rel.length : Int)) - (1 : Int)).toNat)) ++ v33_2)] 24 :: _ :: hs)) 2 rfl rfl rfl rfl rfl rfl Tryz.sizeOf9 rfl (by simp) rfl ?_
        refine Ll.nil (Lu.joint (pk [1] rfl rfl) ?_)
        refine Lu.nil ?_
        refine Kt.joined ((a.n, a.set, (a.rel.take ((((a.rel.length : Int)) - (1 : Int)).toNat)) ++ v33_2, p_33_2)) ⟨⟨by (try dsimp only); omega, by (try dsimp only); omega⟩, by (try dsimp only); omega, by (try dsimp only); simp only [List.length_append, List.length_take, List.length_cons, List.length_nil]; omega, by (try dsimp only); omega⟩ (Sub.sel [3, 4] rfl) (fun _ h => h.sub (List.Sublist.cons _ (List.Sublist.cons_cons _ (List.Sublist.cons_cons _ (List.Sublist.cons_cons _ (List.Sublist.refl _))))))
     ·
      refine Ll.op rfl rfl rfl (OpQ.loadOwn 1 rfl Tryz.isAgg9 rfl rfl rfl) ?_
      refine Ll.nil (Lu.joint (pk [0] rfl rfl) ?_)
      refine Lu.take (v := i6_ ((a.rel.length : Int))) rfl rfl rfl rfl rfl (OpQ.lenStr rfl Tryz.runUnderlying9 rfl) (pk [0] rfl rfl) ?_
      refine Lu.take rfl rfl rfl rfl rfl (OpQ.sub rfl rfl rfl (by omega) (by omega)) (pk [0] rfl rfl) ?_
      refine Lu.two rfl rfl ?_ ?_
      ·
       refine Ll.op rfl rfl rfl (OpQ.loadOwn 1 rfl Tryz.isAgg9 rfl rfl rfl) ?_
       refine Ll.nil (Lu.joint (pk [0] rfl rfl) ?_)
       refine Lu.take (v := str (a.rel.take ((((a.rel.length : Int)) - (1 : Int)).toNat))) rfl rfl rfl rfl rfl (OpQ.sliceStrTo rfl Tryz.underlying9 rfl rfl (by omega) (by omega)) (pk [0] rfl rfl) ?_
       refine Lu.loud rfl ?_
       refine Ll.slice (xs := [.const (str ([])), .const (str ([50])), .const (str ([48, 49]))]) (vs := [str ([]), str ([50]), str ([48, 49])]) Base.elem78 rfl rfl rfl rfl rfl rfl (by decide) rfl fun p32_2 hp32_2 => ?_
       refine Ll.nil (Lu.joint (pk [1] rfl rfl) ?_)
       refine Lu.loud rfl ?_
       refine Ll.callRd (rp := rp) (RT := 59) (p := p_6) (bv := bv) (hs := hs) (ok := fun (v : List UInt8) p' => v ∈ (([[], [50], [48, 49]] : List (List UInt8))) ∧ p' = p_6 + 1) (v := fun (v : List UInt8) => str v) (new := fun (v : List UInt8) => []) (xs := [.tmp 31, .tmp 32]) (vs := [pt_ rp, sl_ p32_2 3 3]) ([bk_ p32_2 #[str ([]), str ([50]), str ([48, 49])] 9, bk_ p4 #[i6_ 0, str ([]), str ([])] 24, bk_ p3 #[i6_ a.n, str a.set, str a.rel] 24] : List (Nat × Obj)) rfl rfl rfl rfl Tryz.call57 rfl (fun w1 hw1 => (of_ok B w0 (([bk_ p32_2 #[str ([]), str ([50]), str ([48, 49])] 9, bk_ p4 #[i6_ 0, str ([]), str ([])] 24, bk_ p3 #[i6_ a.n, str a.set, str a.rel] 24] : List (Nat × Obj)) ++ hs) rp p_6 bv L (sl_ p32_2 3 3) (([[], [50], [48, 49]] : List (List UInt8))) w1 (fun w2 hw2 => hb w2 (Own.drop (f := ([bk_ p32_2 #[str ([]), str ([50]), str ([48, 49])] 9, bk_ p4 #[i6_ 0, str ([]), str ([])] 24, bk_ p3 #[i6_ a.n, str a.set, str a.rel] 24] : List (Nat × Obj))) hw2)) hL8 hL (fun w2 h2 => (Own.row h2 (i := 0) rfl (n := 3) (cap := 3) (vs := strs ([[], [50], [48, 49]] : List (List UInt8))) rfl rfl (by decide))) (by simp) (by omega) hw1).mono fun en w' ⟨v', p', h1, h2, h3⟩ => ⟨v', p', h1, h2, h3⟩) fun v33_3 p_33_3 hKp_33_3 => ?_
       show Ll _ _ (Own _ _ (_ :: _ :: _ :: _ :: hs)) _ _ ((33, str v33_3) :: _) _ _ _
       obtain ⟨hmv33_3, hep_33_3⟩ := hKp_33_3
       refine Ll.nil (Lu.joint (pk [1] rfl rfl) ?_)
       have hv33 : v33_3.length ≤ 2 := by simp at hmv33_3; rcases hmv33_3 with h | h | h <;> subst h <;> decide
       refine Lu.take rfl rfl rfl rfl rfl (OpQ.sadd rfl rfl rfl (by simp only [List.length_take]; omega)) (pk [1] rfl rfl) ?_
       refine Lu.take rfl rfl rfl rfl rfl (OpQ.fieldAddr rfl Tryz.runUnderlying24 rfl Tryz.sizeOf9 rfl rfl) (pk [1] rfl rfl) ?_
       refine Lu.loud rfl ?_
       refine Ll.store1 (v := str ((a.rel.take ((((a.rel.length : Int)) - (1 : Int)).toNat)) ++ v33_3)) (hs' := (_ :: _ :: bk_ p3 #[i6_ a.n, str a.set, str ((a.rel.take ((((a.rel.length : Int)) - (1 : Int)).toNat)) ++ v33_3)] 24 :: _ :: hs)) 2 rfl rfl rfl rfl rfl rfl Tryz.sizeOf9 rfl (by simp) rfl ?_
       refine Ll.nil (Lu.joint (pk [1] rfl rfl) ?_)
       refine Lu.nil ?_
       refine Kt.joined ((a.n, a.set, (a.rel.take ((((a.rel.length : Int)) - (1 : Int)).toNat)) ++ v33_3, p_33_3)) ⟨⟨by (try dsimp only); omega, by (try dsimp only); omega⟩, by (try dsimp only); omega, by (try dsimp only); simp only [List.length_append, List.length_take, List.length_cons, List.length_nil]; omega, by (try dsimp only); omega⟩ (Sub.sel [3, 4] rfl) (fun _ h => h.sub (List.Sublist.cons _ (List.Sublist.cons_cons _ (List.Sublist.cons_cons _ (List.Sublist.cons_cons _ (List.Sublist.refl _))))))
      ·
       refine Ll.slice (xs := [.const (str ([])), .const (str ([50])), .const (str ([48, 49]))]) (vs := [str ([]), str ([50]), str ([48, 49])]) Base.elem78 rfl rfl rfl rfl rfl rfl (by decide) rfl fun p32_3 hp32_3 => ?_
       refine Ll.nil (Lu.joint (pk [1] rfl rfl) ?_)
       refine Lu.two rfl rfl ?_ ?_
       ·
        refine Ll.op rfl rfl rfl (OpQ.loadOwn 2 rfl Tryz.isAgg9 rfl rfl rfl) ?_
        refine Ll.nil (Lu.joint (pk [1] rfl rfl) ?_)
        refine Lu.take (v := str (a.rel.take ((((a.rel.length : Int)) - (1 : Int)).toNat))) rfl rfl rfl rfl rfl (OpQ.sliceStrTo rfl Tryz.underlying9 rfl rfl (by omega) (by omega)) (pk [1] rfl rfl) ?_
        refine Lu.loud rfl ?_
        refine Ll.callRd (rp := rp) (RT := 59) (p := p_6) (bv := bv) (hs := hs) (ok := fun (v : List UInt8) p' => v ∈ (([[], [50], [48, 49]] : List (List UInt8))) ∧ p' = p_6 + 1) (v := fun (v : List UInt8) => str v) (new := fun (v : List UInt8) => []) (xs := [.tmp 31, .tmp 32]) (vs := [pt_ rp, sl_ p32_3 3 3]) ([bk_ p32_3 #[str ([]), str ([50]), str ([48, 49])] 9, bk_ p4 #[i6_ 0, str ([]), str ([])] 24, bk_ p3 #[i6_ a.n, str a.set, str a.rel] 24] : List (Nat × Obj)) rfl rfl rfl rfl Tryz.call57 rfl (fun w1 hw1 => (of_ok B w0 (([bk_ p32_3 #[str ([]), str ([50]), str ([48, 49])] 9, bk_ p4 #[i6_ 0, str ([]), str ([])] 24, bk_ p3 #[i6_ a.n, str a.set, str a.rel] 24] : List (Nat × Obj)) ++ hs) rp p_6 bv L (sl_ p32_3 3 3) (([[], [50], [48, 49]] : List (List UInt8))) w1 (fun w2 hw2 => hb w2 (Own.drop (f := ([bk_ p32_3 #[str ([]), str ([50]), str ([48, 49])] 9, bk_ p4 #[i6_ 0, str ([]), str ([])] 24, bk_ p3 #[i6_ a.n, str a.set, str a.rel] 24] : List (Nat × Obj))) hw2)) hL8 hL (fun w2 h2 => (Own.row h2 (i := 0) rfl (n := 3) (cap := 3) (vs := strs ([[], [50], [48, 49]] : List (List UInt8))) rfl rfl (by decide))) (by simp) (by omega) hw1).mono fun en w' ⟨v', p', h1, h2, h3⟩ => ⟨v', p', h1, h2, h3⟩) fun v33_4 p_33_4 hKp_33_4 => ?_
        show Ll _ _ (Own _ _ (_ :: _ :: _ :: _ :: hs)) _ _ ((33, str v33_4) :: _) _ _ _
        obtain ⟨hmv33_4, hep_33_4⟩ := hKp_33_4
        refine Ll.nil (Lu.joint (pk [1] rfl rfl) ?_)
        have hv33 : v33_4.length ≤ 2 := by simp at hmv33_4; rcases hmv33_4 with h | h | h <;> subst h <;> decide
        refine Lu.take rfl rfl rfl rfl rfl (OpQ.sadd rfl rfl rfl (by simp only [List.length_take]; omega)) (pk [1] rfl rfl) ?_
        refine Lu.take rfl rfl rfl rfl rfl (OpQ.fieldAddr rfl Tryz.runUnderlying24 rfl Tryz.sizeOf9 rfl rfl) (pk [1] rfl rfl) ?_
        refine Lu.loud rfl ?_
        refine Ll.store1 (v := str ((a.rel.take ((((a.rel.length : Int)) - (1 : Int)).toNat)) ++ v33_4)) (hs' := (_ :: _ :: bk_ p3 #[i6_ a.n, str a.set, str ((a.rel.take ((((a.rel.length : Int)) - (1 : Int)).toNat)) ++ v33_4)] 24 :: _ :: hs)) 2 rfl rfl rfl rfl rfl rfl Tryz.sizeOf9 rfl (by simp) rfl ?_
        refine Ll.nil (Lu.joint (pk [1] rfl rfl) ?_)
        refine Lu.nil ?_
        refine Kt.joined ((a.n, a.set, (a.rel.take ((((a.rel.length : Int)) - (1 : Int)).toNat)) ++ v33_4, p_33_4)) ⟨⟨by (try dsimp only); omega, by (try dsimp only); omega⟩, by (try dsimp only); omega, by (try dsimp only); simp only [List.length_append, List.length_take, List.length_cons, List.length_nil]; omega, by (try dsimp only); omega⟩ (Sub.sel [3, 4] rfl) (fun _ h => h.sub (List.Sublist.cons _ (List.Sublist.cons_cons _ (List.Sublist.cons_cons _ (List.Sublist.cons_cons _ (List.Sublist.refl _))))))
       ·
        refine Ll.callRd (rp := rp) (RT := 59) (p := p_6) (bv := bv) (hs := hs) (ok := fun (v : List UInt8) p' => v ∈ (([[], [50], [48, 49]] : List (List UInt8))) ∧ p' = p_6 + 1) (v := fun (v : List UInt8) => str v) (new := fun (v : List UInt8) => []) (xs := [.tmp 31, .tmp 32]) (vs := [pt_ rp, sl_ p32_3 3 3]) ([bk_ p32_3 #[str ([]), str ([50]), str ([48, 49])] 9, bk_ p4 #[i6_ 0, str ([]), str ([])] 24, bk_ p3 #[i6_ a.n, str a.set, str a.rel] 24] : List (Nat × Obj)) rfl rfl rfl rfl Tryz.call57 rfl (fun w1 hw1 => (of_ok B w0 (([bk_ p32_3 #[str ([]), str ([50]), str ([48, 49])] 9, bk_ p4 #[i6_ 0, str ([]), str ([])] 24, bk_ p3 #[i6_ a.n, str a.set, str a.rel] 24] : List (Nat × Obj)) ++ hs) rp p_6 bv L (sl_ p32_3 3 3) (([[], [50], [48, 49]] : List (List UInt8))) w1 (fun w2 hw2 => hb w2 (Own.drop (f := ([bk_ p32_3 #[str ([]), str ([50]), str ([48, 49])] 9, bk_ p4 #[i6_ 0, str ([]), str ([])] 24, bk_ p3 #[i6_ a.n, str a.set, str a.rel] 24] : List (Nat × Obj))) hw2)) hL8 hL (fun w2 h2 => (Own.row h2 (i := 0) rfl (n := 3) (cap := 3) (vs := strs ([[], [50], [48, 49]] : List (List UInt8))) rfl rfl (by decide))) (by simp) (by omega) hw1).mono fun en w' ⟨v', p', h1, h2, h3⟩ => ⟨v', p', h1, h2, h3⟩) fun v33_5 p_33_5 hKp_33_5 => ?_
        show Ll _ _ (Own _ _ (_ :: _ :: _ :: _ :: hs)) _ _ ((33, str v33_5) :: _) _ _ _
        obtain ⟨hmv33_5, hep_33_5⟩ := hKp_33_5
        refine Ll.nil (Lu.joint (pk [1] rfl rfl) ?_)
        refine Lu.loud rfl ?_
        refine Ll.op rfl rfl rfl (OpQ.loadOwn 2 rfl Tryz.isAgg9 rfl rfl rfl) ?_
        refine Ll.nil (Lu.joint (pk [1] rfl rfl) ?_)
        refine Lu.take (v := str (a.rel.take ((((a.rel.length : Int)) - (1 : Int)).toNat))) rfl rfl rfl rfl rfl (OpQ.sliceStrTo rfl Tryz.underlying9 rfl rfl (by omega) (by omega)) (pk [1] rfl rfl) ?_
        have hv33 : v33_5.length ≤ 2 := by simp at hmv33_5; rcases hmv33_5 with h | h | h <;> subst h <;> decide
        refine Lu.take rfl rfl rfl rfl rfl (OpQ.sadd rfl rfl rfl (by simp only [List.length_take]; omega)) (pk [1] rfl rfl) ?_
        refine Lu.take rfl rfl rfl rfl rfl (OpQ.fieldAddr rfl Tryz.runUnderlying24 rfl Tryz.sizeOf9 rfl rfl) (pk [1] rfl rfl) ?_
        refine Lu.loud rfl ?_
        refine Ll.store1 (v := str ((a.rel.take ((((a.rel.length : Int)) - (1 : Int)).toNat)) ++ v33_5)) (hs' := (_ :: _ :: bk_ p3 #[i6_ a.n, str a.set, str ((a.rel.take ((((a.rel.length : Int)) - (1 : Int)).toNat)) ++ v33_5)] 24 :: _ :: hs)) 2 rfl rfl rfl rfl rfl rfl Tryz.sizeOf9 rfl (by simp) rfl ?_
        refine Ll.nil (Lu.joint (pk [1] rfl rfl) ?_)
        refine Lu.nil ?_
        refine Kt.joined ((a.n, a.set, (a.rel.take ((((a.rel.length : Int)) - (1 : Int)).toNat)) ++ v33_5, p_33_5)) ⟨⟨by (try dsimp only); omega, by (try dsimp only); omega⟩, by (try dsimp only); omega, by (try dsimp only); simp only [List.length_append, List.length_take, List.length_cons, List.length_nil]; omega, by (try dsimp only); omega⟩ (Sub.sel [3, 4] rfl) (fun _ h => h.sub (List.Sublist.cons _ (List.Sublist.cons_cons _ (List.Sublist.cons_cons _ (List.Sublist.cons_cons _ (List.Sublist.refl _))))))
     ·
      refine Ll.slice (xs := [.const (str ([])), .const (str ([50])), .const (str ([48, 49]))]) (vs := [str ([]), str ([50]), str ([48, 49])]) Base.elem78 rfl rfl rfl rfl rfl rfl (by decide) rfl fun p32_4 hp32_4 => ?_
      refine Ll.nil (Lu.joint (pk [1] rfl rfl) ?_)
      refine Lu.three rfl rfl rfl ?_ ?_ ?_
      ·
       refine Ll.op rfl rfl rfl (OpQ.loadOwn 2 rfl Tryz.isAgg9 rfl rfl rfl) ?_
       refine Ll.nil (Lu.joint (pk [1] rfl rfl) ?_)
       refine Lu.two rfl rfl ?_ ?_
       ·
        refine Ll.op rfl rfl rfl (OpQ.loadOwn 2 rfl Tryz.isAgg9 rfl rfl rfl) ?_
        refine Ll.nil (Lu.joint (pk [1] rfl rfl) ?_)
        refine Lu.take (v := i6_ ((a.rel.length : Int))) rfl rfl rfl rfl rfl (OpQ.lenStr rfl Tryz.runUnderlying9 rfl) (pk [1] rfl rfl) ?_
        refine Lu.take rfl rfl rfl rfl rfl (OpQ.sub rfl rfl rfl (by omega) (by omega)) (pk [1] rfl rfl) ?_
        refine Lu.take (v := str (a.rel.take ((((a.rel.length : Int)) - (1 : Int)).toNat))) rfl rfl rfl rfl rfl (OpQ.sliceStrTo rfl Tryz.underlying9 rfl rfl (by omega) (by omega)) (pk [1] rfl rfl) ?_
        refine Lu.loud rfl ?_
        refine Ll.callRd (rp := rp) (RT := 59) (p := p_6) (bv := bv) (hs := hs) (ok := fun (v : List UInt8) p' => v ∈ (([[], [50], [48, 49]] : List (List UInt8))) ∧ p' = p_6 + 1) (v := fun (v : List UInt8) => str v) (new := fun (v : List UInt8) => []) (xs := [.tmp 31, .tmp 32]) (vs := [pt_ rp, sl_ p32_4 3 3]) ([bk_ p32_4 #[str ([]), str ([50]), str ([48, 49])] 9, bk_ p4 #[i6_ 0, str ([]), str ([])] 24, bk_ p3 #[i6_ a.n, str a.set, str a.rel] 24] : List (Nat × Obj)) rfl rfl rfl rfl Tryz.call57 rfl (fun w1 hw1 => (of_ok B w0 (([bk_ p32_4 #[str ([]), str ([50]), str ([48, 49])] 9, bk_ p4 #[i6_ 0, str ([]), str ([])] 24, bk_ p3 #[i6_ a.n, str a.set, str a.rel] 24] : List (Nat × Obj)) ++ hs) rp p_6 bv L (sl_ p32_4 3 3) (([[], [50], [48, 49]] : List (List UInt8))) w1 (fun w2 hw2 => hb w2 (Own.drop (f := ([bk_ p32_4 #[str ([]), str ([50]), str ([48, 49])] 9, bk_ p4 #[i6_ 0, str ([]), str ([])] 24, bk_ p3 #[i6_ a.n, str a.set, str a.rel] 24] : List (Nat × Obj))) hw2)) hL8 hL (fun w2 h2 => (Own.row h2 (i := 0) rfl (n := 3) (cap := 3) (vs := strs ([[], [50], [48, 49]] : List (List UInt8))) rfl rfl (by decide))) (by simp) (by omega) hw1).mono fun en w' ⟨v', p', h1, h2, h3⟩ => ⟨v', p', h1, h2, h3⟩) fun v33_6 p_33_6 hKp_33_6 => ?_
        show Ll _ _ (Own _ _ (_ :: _ :: _ :: _ :: hs)) _ _ ((33, str v33_6) :: _) _ _ _
        obtain ⟨hmv33_6, hep_33_6⟩ := hKp_33_6
        refine Ll.nil (Lu.joint (pk [1] rfl rfl) ?_)
        have hv33 : v33_6.length ≤ 2 := by simp at hmv33_6; rcases hmv33_6 with h | h | h <;> subst h <;> decide
        refine Lu.take rfl rfl rfl rfl rfl (OpQ.sadd rfl rfl rfl (by simp only [List.length_take]; omega)) (pk [1] rfl rfl) ?_
        refine Lu.take rfl rfl rfl rfl rfl (OpQ.fieldAddr rfl Tryz.runUnderlying24 rfl Tryz.sizeOf9 rfl rfl) (pk [1] rfl rfl) ?_
        refine Lu.loud rfl ?_
        refine Ll.store1 (v := str ((a.rel.take ((((a.rel.length : Int)) - (1 : Int)).toNat)) ++ v33_6)) (hs' := (_ :: _ :: bk_ p3 #[i6_ a.n, str a.set, str ((a.rel.take ((((a.rel.length : Int)) - (1 : Int)).toNat)) ++ v33_6)] 24 :: _ :: hs)) 2 rfl rfl rfl rfl rfl rfl Tryz.sizeOf9 rfl (by simp) rfl ?_
        refine Ll.nil (Lu.joint (pk [1] rfl rfl) ?_)
        refine Lu.nil ?_
        refine Kt.joined ((a.n, a.set, (a.rel.take ((((a.rel.length : Int)) - (1 : Int)).toNat)) ++ v33_6, p_33_6)) ⟨⟨by (try dsimp only); omega, by (try dsimp only); omega⟩, by (try dsimp only); omega, by (try dsimp only); simp only [List.length_append, List.length_take, List.length_cons, List.length_nil]; omega, by (try dsimp only); omega⟩ (Sub.sel [3, 4] rfl) (fun _ h => h.sub (List.Sublist.cons _ (List.Sublist.cons_cons _ (List.Sublist.cons_cons _ (List.Sublist.cons_cons _ (List.Sublist.refl _))))))
       ·
        refine Ll.callRd (rp := rp) (RT := 59) (p := p_6) (bv := bv) (hs := hs) (ok := fun (v : List UInt8) p' => v ∈ (([[], [50], [48, 49]] : List (List UInt8))) ∧ p' = p_6 + 1) (v := fun (v : List UInt8) => str v) (new := fun (v : List UInt8) => []) (xs := [.tmp 31, .tmp 32]) (vs := [pt_ rp, sl_ p32_4 3 3]) ([bk_ p32_4 #[str ([]), str ([50]), str ([48, 49])] 9, bk_ p4 #[i6_ 0, str ([]), str ([])] 24, bk_ p3 #[i6_ a.n, str a.set, str a.rel] 24] : List (Nat × Obj)) rfl rfl rfl rfl Tryz.call57 rfl (fun w1 hw1 => (of_ok B w0 (([bk_ p32_4 #[str ([]), str ([50]), str ([48, 49])] 9, bk_ p4 #[i6_ 0, str ([]), str ([])] 24, bk_ p3 #[i6_ a.n, str a.set, str a.rel] 24] : List (Nat × Obj)) ++ hs) rp p_6 bv L (sl_ p32_4 3 3) (([[], [50], [48, 49]] : List (List UInt8))) w1 (fun w2 hw2 => hb w2 (Own.drop (f := ([bk_ p32_4 #[str ([]), str ([50]), str ([48, 49])] 9, bk_ p4 #[i6_ 0, str ([]), str ([])] 24, bk_ p3 #[i6_ a.n, str a.set, str a.rel] 24] : List (Nat × Obj))) hw2)) hL8 hL (fun w2 h2 => (Own.row h2 (i := 0) rfl (n := 3) (cap := 3) (vs := strs ([[], [50], [48, 49]] : List (List UInt8))) rfl rfl (by decide))) (by simp) (by omega) hw1).mono fun en w' ⟨v', p', h1, h2, h3⟩ => ⟨v', p', h1, h2, h3⟩) fun v33_7 p_33_7 hKp_33_7 => ?_
        show Ll _ _ (Own _ _ (_ :: _ :: _ :: _ :: hs)) _ _ ((33, str v33_7) :: _) _ _ _
        obtain ⟨hmv33_7, hep_33_7⟩ := hKp_33_7
        refine Ll.nil (Lu.joint (pk [1] rfl rfl) ?_)
        refine Lu.loud rfl ?_
        refine Ll.op rfl rfl rfl (OpQ.loadOwn 2 rfl Tryz.isAgg9 rfl rfl rfl) ?_
        refine Ll.nil (Lu.joint (pk [1] rfl rfl) ?_)
        refine Lu.take (v := i6_ ((a.rel.length : Int))) rfl rfl rfl rfl rfl (OpQ.lenStr rfl Tryz.runUnderlying9 rfl) (pk [1] rfl rfl) ?_
        refine Lu.take rfl rfl rfl rfl rfl (OpQ.sub rfl rfl rfl (by omega) (by omega)) (pk [1] rfl rfl) ?_
        refine Lu.take (v := str (a.rel.take ((((a.rel.length : Int)) - (1 : Int)).toNat))) rfl rfl rfl rfl rfl (OpQ.sliceStrTo rfl Tryz.underlying9 rfl rfl (by omega) (by omega)) (pk [1] rfl rfl) ?_
        have hv33 : v33_7.length ≤ 2 := by simp at hmv33_7; rcases hmv33_7 with h | h | h <;> subst h <;> decide
        refine Lu.take rfl rfl rfl rfl rfl (OpQ.sadd rfl rfl rfl (by simp only [List.length_take]; omega)) (pk [1] rfl rfl) ?_
        refine Lu.take rfl rfl rfl rfl rfl (OpQ.fieldAddr rfl Tryz.runUnderlying24 rfl Tryz.sizeOf9 rfl rfl) (pk [1] rfl rfl) ?_
        refine Lu.loud rfl ?_
        refine Ll.store1 (v := str ((a.rel.take ((((a.rel.length : Int)) - (1 : Int)).toNat)) ++ v33_7)) (hs' := (_ :: _ :: bk_ p3 #[i6_ a.n, str a.set, str ((a.rel.take ((((a.rel.length : Int)) - (1 : Int)).toNat)) ++ v33_7)] 24 :: _ :: hs)) 2 rfl rfl rfl rfl rfl rfl Tryz.sizeOf9 rfl (by simp) rfl ?_
        refine Ll.nil (Lu.joint (pk [1] rfl rfl) ?_)
        refine Lu.nil ?_
        refine Kt.joined ((a.n, a.set, (a.rel.take ((((a.rel.length : Int)) - (1 : Int)).toNat)) ++ v33_7, p_33_7)) ⟨⟨by (try dsimp only); omega, by (try dsimp only); omega⟩, by (try dsimp only); omega, by (try dsimp only); simp only [List.length_append, List.length_take, List.length_cons, List.length_nil]; omega, by (try dsimp only); omega⟩ (Sub.sel [3, 4] rfl) (fun _ h => h.sub (List.Sublist.cons _ (List.Sublist.cons_cons _ (List.Sublist.cons_cons _ (List.Sublist.cons_cons _ (List.Sublist.refl _))))))
      ·
       refine Ll.op rfl rfl rfl (OpQ.loadOwn 2 rfl Tryz.isAgg9 rfl rfl rfl) ?_
       refine Ll.nil (Lu.joint (pk [1] rfl rfl) ?_)
       refine Lu.take (v := i6_ ((a.rel.length : Int))) rfl rfl rfl rfl rfl (OpQ.lenStr rfl Tryz.runUnderlying9 rfl) (pk [1] rfl rfl) ?_
       refine Lu.take rfl rfl rfl rfl rfl (OpQ.sub rfl rfl rfl (by omega) (by omega)) (pk [1] rfl rfl) ?_
       refine Lu.two rfl rfl ?_ ?_
       ·
        refine Ll.op rfl rfl rfl (OpQ.loadOwn 2 rfl Tryz.isAgg9 rfl rfl rfl) ?_
        refine Ll.nil (Lu.joint (pk [1] rfl rfl) ?_)
        refine Lu.take (v := str (a.rel.take ((((a.rel.length : Int)) - (1 : Int)).toNat))) rfl rfl rfl rfl rfl (OpQ.sliceStrTo rfl Tryz.underlying9 rfl rfl (by omega) (by omega)) (pk [1] rfl rfl) ?_
        refine Lu.loud rfl ?_
        refine Ll.callRd (rp := rp) (RT := 59) (p := p_6) (bv := bv) (hs := hs) (ok := fun (v : List UInt8) p' => v ∈ (([[], [50], [48, 49]] : List (List UInt8))) ∧ p' = p_6 + 1) (v := fun (v : List UInt8) => str v) (new := fun (v : List UInt8) => []) (xs := [.tmp 31, .tmp 32]) (vs := [pt_ rp, sl_ p32_4 3 3]) ([bk_ p32_4 #[str ([]), str ([50]), str ([48, 49])] 9, bk_ p4 #[i6_ 0, str ([]), str ([])] 24, bk_ p3 #[i6_ a.n, str a.set, str a.rel] 24] : List (Nat × Obj)) rfl rfl rfl rfl Tryz.call57 rfl (fun w1 hw1 => (of_ok B w0 (([bk_ p32_4 #[str ([]), str ([50]), str ([48, 49])] 9, bk_ p4 #[i6_ 0, str ([]), str ([])] 24, bk_ p3 #[i6_ a.n, str a.set, str a.rel] 24] : List (Nat × Obj)) ++ hs) rp p_6 bv L (sl_ p32_4 3 3) (([[], [50], [48, 49]] : List (List UInt8))) w1 (fun w2 hw2 => hb w2 (Own.drop (f := ([bk_ p32_4 #[str ([]), str ([50]), str ([48, 49])] 9, bk_ p4 #[i6_ 0, str ([]), str ([])] 24, bk_ p3 #[i6_ a.n, str a.set, str a.rel] 24] : List (Nat × Obj))) hw2)) hL8 hL (fun w2 h2 => (Own.row h2 (i := 0) rfl (n := 3) (cap := 3) (vs := strs ([[], [50], [48, 49]] : List (List UInt8))) rfl rfl (by decide))) (by simp) (by omega) hw1).mono fun en w' ⟨v', p', h1, h2, h3⟩ => ⟨v', p', h1, h2, h3⟩) fun v33_8 p_33_8 hKp_33_8 => ?_
        show Ll _ _ (Own _ _ (_ :: _ :: _ :: _ :: hs)) _ _ ((33, str v33_8) :: _) _ _ _
        obtain ⟨hmv33_8, hep_33_8⟩ := hKp_33_8
        refine Ll.nil (Lu.joint (pk [1] rfl rfl) ?_)
        have hv33 : v33_8.length ≤ 2 := by simp at hmv33_8; rcases hmv33_8 with h | h | h <;> subst h <;> decide
        refine Lu.take rfl rfl rfl rfl rfl (OpQ.sadd rfl rfl rfl (by simp only [List.length_take]; omega)) (pk [1] rfl rfl) ?_
        refine Lu.take rfl rfl rfl rfl rfl (OpQ.fieldAddr rfl Tryz.runUnderlying24 rfl Tryz.sizeOf9 rfl rfl) (pk [1] rfl rfl) ?_
        refine Lu.loud rfl ?_
        refine Ll.store1 (v := str ((a.rel.take ((((a.rel.length : Int)) - (1 : Int)).toNat)) ++ v33_8)) (hs' := (_ :: _ :: bk_ p3 #[i6_ a.n, str a.set, str ((a.rel.take ((((a.rel.length : Int)) - (1 : Int)).toNat)) ++ v33_8)] 24 :: _ :: hs)) 2 rfl rfl rfl rfl rfl rfl Tryz.sizeOf9 rfl (by simp) rfl ?_
        refine Ll.nil (Lu.joint (pk [1] rfl rfl) ?_)
        refine Lu.nil ?_
        refine Kt.joined ((a.n, a.set, (a.rel.take ((((a.rel.length : Int)) - (1 : Int)).toNat)) ++ v33_8, p_33_8)) ⟨⟨by (try dsimp only); omega, by (try dsimp only); omega⟩, by (try dsimp only); omega, by (try dsimp only); simp only [List.length_append, List.length_take, List.length_cons, List.length_nil]; omega, by (try dsimp only); omega⟩ (Sub.sel [3, 4] rfl) (fun _ h => h.sub (List.Sublist.cons _ (List.Sublist.cons_cons _ (List.Sublist.cons_cons _ (List.Sublist.cons_cons _ (List.Sublist.refl _))))))
       ·
        refine Ll.callRd (rp := rp) (RT := 59) (p := p_6) (bv := bv) (hs := hs) (ok := fun (v : List UInt8) p' => v ∈ (([[], [50], [48, 49]] : List (List UInt8))) ∧ p' = p_6 + 1) (v := fun (v : List UInt8) => str v) (new := fun (v : List UInt8) => []) (xs := [.tmp 31, .tmp 32]) (vs := [pt_ rp, sl_ p32_4 3 3]) ([bk_ p32_4 #[str ([]), str ([50]), str ([48, 49])] 9, bk_ p4 #[i6_ 0, str ([]), str ([])] 24, bk_ p3 #[i6_ a.n, str a.set, str a.rel] 24] : List (Nat × Obj)) rfl rfl rfl rfl Tryz.call57 rfl (fun w1 hw1 => (of_ok B w0 (([bk_ p32_4 #[str ([]), str ([50]), str ([48, 49])] 9, bk_ p4 #[i6_ 0, str ([]), str ([])] 24, bk_ p3 #[i6_ a.n, str a.set, str a.rel] 24] : List (Nat × Obj)) ++ hs) rp p_6 bv L (sl_ p32_4 3 3) (([[], [50], [48, 49]] : List (List UInt8))) w1 (fun w2 hw2 => hb w2 (Own.drop (f := ([bk_ p32_4 #[str ([]), str ([50]), str ([48, 49])] 9, bk_ p4 #[i6_ 0, str ([]), str ([])] 24, bk_ p3 #[i6_ a.n, str a.set, str a.rel] 24] : List (Nat × Obj))) hw2)) hL8 hL (fun w2 h2 => (Own.row h2 (i := 0) rfl (n := 3) (cap := 3) (vs := strs ([[], [50], [48, 49]] : List (List UInt8))) rfl rfl (by decide))) (by simp) (by omega) hw1).mono fun en w' ⟨v', p', h1, h2, h3⟩ => ⟨v', p', h1, h2, h3⟩) fun v33_9 p_33_9 hKp_33_9 => ?_
        show Ll _ _ (Own _ _ (_ :: _ :: _ :: _ :: hs)) _ _ ((33, str v33_9) :: _) _ _ _
        obtain ⟨hmv33_9, hep_33_9⟩ := hKp_33_9
        refine Ll.nil (Lu.joint (pk [1] rfl rfl) ?_)
        refine Lu.loud rfl ?_
        refine Ll.op rfl rfl rfl (OpQ.loadOwn 2 rfl Tryz.isAgg9 rfl rfl rfl) ?_
        refine Ll.nil (Lu.joint (pk [1] rfl rfl) ?_)
        refine Lu.take (v := str (a.rel.take ((((a.rel.length : Int)) - (1 : Int)).toNat))) rfl rfl rfl rfl rfl (OpQ.sliceStrTo rfl Tryz.underlying9 rfl rfl (by omega) (by omega)) (pk [1] rfl rfl) ?_
        have hv33 : v33_9.length ≤ 2 := by simp at hmv33_9; rcases hmv33_9 with h | h | h <;> subst h <;> decide
        refine Lu.take rfl rfl rfl rfl rfl (OpQ.sadd rfl rfl rfl (by simp only [List.length_take]; omega)) (pk [1] rfl rfl) ?_
        refine Lu.take rfl rfl rfl rfl rfl (OpQ.fieldAddr rfl Tryz.runUnderlying24 rfl Tryz.sizeOf9 rfl rfl) (pk [1] rfl rfl) ?_
        refine Lu.loud rfl ?_
        refine Ll.store1 (v := str ((a.rel.take ((((a.rel.length : Int)) - (1 : Int)).toNat)) ++ v33_9)) (hs' := (_ :: _ :: bk_ p3 #[i6_ a.n, str a.set, str ((a.rel.take ((((a.rel.length : Int)) - (1 : Int)).toNat)) ++ v33_9)] 24 :: _ :: hs)) 2 rfl rfl rfl rfl rfl rfl Tryz.sizeOf9 rfl (by simp) rfl ?_
        refine Ll.nil (Lu.joint (pk [1] rfl rfl) ?_)
        refine Lu.nil ?_
        refine Kt.joined ((a.n, a.set, (a.rel.take ((((a.rel.length : Int)) - (1 : Int)).toNat)) ++ v33_9, p_33_9)) ⟨⟨by (try dsimp only); omega, by (try dsimp only); omega⟩, by (try dsimp only); omega, by (try dsimp only); simp only [List.length_append, List.length_take, List.length_cons, List.length_nil]; omega, by (try dsimp only); omega⟩ (Sub.sel [3, 4] rfl) (fun _ h => h.sub (List.Sublist.cons _ (List.Sublist.cons_cons _ (List.Sublist.cons_cons _ (List.Sublist.cons_cons _ (List.Sublist.refl _))))))
      ·
       refine Ll.callRd (rp := rp) (RT := 59) (p := p_6) (bv := bv) (hs := hs) (ok := fun (v : List UInt8) p' => v ∈ (([[], [50], [48, 49]] : List (List UInt8))) ∧ p' = p_6 + 1) (v := fun (v : List UInt8) => str v) (new := fun (v : List UInt8) => []) (xs := [.tmp 31, .tmp 32]) (vs := [pt_ rp, sl_ p32_4 3 3]) ([bk_ p32_4 #[str ([]), str ([50]), str ([48, 49])] 9, bk_ p4 #[i6_ 0, str ([]), str ([])] 24, bk_ p3 #[i6_ a.n, str a.set, str a.rel] 24] : List (Nat × Obj)) rfl rfl rfl rfl Tryz.call57 rfl (fun w1 hw1 => (of_ok B w0 (([bk_ p32_4 #[str ([]), str ([50]), str ([48, 49])] 9, bk_ p4 #[i6_ 0, str ([]), str ([])] 24, bk_ p3 #[i6_ a.n, str a.set, str a.rel] 24] : List (Nat × Obj)) ++ hs) rp p_6 bv L (sl_ p32_4 3 3) (([[], [50], [48, 49]] : List (List UInt8))) w1 (fun w2 hw2 => hb w2 (Own.drop (f := ([bk_ p32_4 #[str ([]), str ([50]), str ([48, 49])] 9, bk_ p4 #[i6_ 0, str ([]), str ([])] 24, bk_ p3 #[i6_ a.n, str a.set, str a.rel] 24] : List (Nat × Obj))) hw2)) hL8 hL (fun w2 h2 => (Own.row h2 (i := 0) rfl (n := 3) (cap := 3) (vs := strs ([[], [50], [48, 49]] : List (List UInt8))) rfl rfl (by decide))) (by simp) (by omega) hw1).mono fun en w' ⟨v', p', h1, h2, h3⟩ => ⟨v', p', h1, h2, h3⟩) fun v33_10 p_33_10 hKp_33_10 => ?_
       show Ll _ _ (Own _ _ (_ :: _ :: _ :: _ :: hs)) _ _ ((33, str v33_10) :: _) _ _ _
       obtain ⟨hmv33_10, hep_33_10⟩ := hKp_33_10
       refine Ll.nil (Lu.joint (pk [1] rfl rfl) ?_)
       refine Lu.two rfl rfl ?_ ?_
       ·
        refine Ll.op rfl rfl rfl (OpQ.loadOwn 2 rfl Tryz.isAgg9 rfl rfl rfl) ?_
        refine Ll.nil (Lu.joint (pk [1] rfl rfl) ?_)
        refine Lu.loud rfl ?_
        refine Ll.op rfl rfl rfl (OpQ.loadOwn 2 rfl Tryz.isAgg9 rfl rfl rfl) ?_
        refine Ll.nil (Lu.joint (pk [1] rfl rfl) ?_)
        refine Lu.take (v := i6_ ((a.rel.length : Int))) rfl rfl rfl rfl rfl (OpQ.lenStr rfl Tryz.runUnderlying9 rfl) (pk [1] rfl rfl) ?_
        refine Lu.take rfl rfl rfl rfl rfl (OpQ.sub rfl rfl rfl (by omega) (by omega)) (pk [1] rfl rfl) ?_
        refine Lu.take (v := str (a.rel.take ((((a.rel.length : Int)) - (1 : Int)).toNat))) rfl rfl rfl rfl rfl (OpQ.sliceStrTo rfl Tryz.underlying9 rfl rfl (by omega) (by omega)) (pk [1] rfl rfl) ?_
        have hv33 : v33_10.length ≤ 2 := by simp at hmv33_10; rcases hmv33_10 with h | h | h <;> subst h <;> decide
        refine Lu.take rfl rfl rfl rfl rfl (OpQ.sadd rfl rfl rfl (by simp only [List.length_take]; omega)) (pk [1] rfl rfl) ?_
        refine Lu.take rfl rfl rfl rfl rfl (OpQ.fieldAddr rfl Tryz.runUnderlying24 rfl Tryz.sizeOf9 rfl rfl) (pk [1] rfl rfl) ?_
        refine Lu.loud rfl ?_
        refine Ll.store1 (v := str ((a.rel.take ((((a.rel.length : Int)) - (1 : Int)).toNat)) ++ v33_10)) (hs' := (_ :: _ :: bk_ p3 #[i6_ a.n, str a.set, str ((a.rel.take ((((a.rel.length : Int)) - (1 : Int)).toNat)) ++ v33_10)] 24 :: _ :: hs)) 2 rfl rfl rfl rfl rfl rfl Tryz.sizeOf9 rfl (by simp) rfl ?_
        refine Ll.nil (Lu.joint (pk [1] rfl rfl) ?_)
        refine Lu.nil ?_
        refine Kt.joined ((a.n, a.set, (a.rel.take ((((a.rel.length : Int)) - (1 : Int)).toNat)) ++ v33_10, p_33_10)) ⟨⟨by (try dsimp only); omega, by (try dsimp only); omega⟩, by (try dsimp only); omega, by (try dsimp only); simp only [List.length_append, List.length_take, List.length_cons, List.length_nil]; omega, by (try dsimp only); omega⟩ (Sub.sel [3, 4] rfl) (fun _ h => h.sub (List.Sublist.cons _ (List.Sublist.cons_cons _ (List.Sublist.cons_cons _ (List.Sublist.cons_cons _ (List.Sublist.refl _))))))
       ·
        refine Ll.op rfl rfl rfl (OpQ.loadOwn 2 rfl Tryz.isAgg9 rfl rfl rfl) ?_
        refine Ll.nil (Lu.joint (pk [1] rfl rfl) ?_)
        refine Lu.take (v := i6_ ((a.rel.length : Int))) rfl rfl rfl rfl rfl (OpQ.lenStr rfl Tryz.runUnderlying9 rfl) (pk [1] rfl rfl) ?_
        refine Lu.take rfl rfl rfl rfl rfl (OpQ.sub rfl rfl rfl (by omega) (by omega)) (pk [1] rfl rfl) ?_
        refine Lu.loud rfl ?_
        refine Ll.op rfl rfl rfl (OpQ.loadOwn 2 rfl Tryz.isAgg9 rfl rfl rfl) ?_
        refine Ll.nil (Lu.joint (pk [1] rfl rfl) ?_)
        refine Lu.take (v := str (a.rel.take ((((a.rel.length : Int)) - (1 : Int)).toNat))) rfl rfl rfl rfl rfl (OpQ.sliceStrTo rfl Tryz.underlying9 rfl rfl (by omega) (by omega)) (pk [1] rfl rfl) ?_
        have hv33 : v33_10.length ≤ 2 := by simp at hmv33_10; rcases hmv33_10 with h | h | h <;> subst h <;> decide
        refine Lu.take rfl rfl rfl rfl rfl (OpQ.sadd rfl rfl rfl (by simp only [List.length_take]; omega)) (pk [1] rfl rfl) ?_
        refine Lu.take rfl rfl rfl rfl rfl (OpQ.fieldAddr rfl Tryz.runUnderlying24 rfl Tryz.sizeOf9 rfl rfl) (pk [1] rfl rfl) ?_
        refine Lu.loud rfl ?_
        refine Ll.store1 (v := str ((a.rel.take ((((a.rel.length : Int)) - (1 : Int)).toNat)) ++ v33_10)) (hs' := (_ :: _ :: bk_ p3 #[i6_ a.n, str a.set, str ((a.rel.take ((((a.rel.length : Int)) - (1 : Int)).toNat)) ++ v33_10)] 24 :: _ :: hs)) 2 rfl rfl rfl rfl rfl rfl Tryz.sizeOf9 rfl (by simp) rfl ?_
        refine Ll.nil (Lu.joint (pk [1] rfl rfl) ?_)
        refine Lu.nil ?_
        refine Kt.joined ((a.n, a.set, (a.rel.take ((((a.rel.length : Int)) - (1 : Int)).toNat)) ++ v33_10, p_33_10)) ⟨⟨by (try dsimp only); omega, by (try dsimp only); omega⟩, by (try dsimp only); omega, by (try dsimp only); simp only [List.length_append, List.length_take, List.length_cons, List.length_nil]; omega, by (try dsimp only); omega⟩ (Sub.sel [3, 4] rfl) (fun _ h => h.sub (List.Sublist.cons _ (List.Sublist.cons_cons _ (List.Sublist.cons_cons _ (List.Sublist.cons_cons _ (List.Sublist.refl _))))))
    ·
     replace h22 := of_decide_eq_false h22
     refine Wk.seq ?_
     refine Wk.regionQ ?_
     refine Lq.run 2 rfl ?_
     refine Lq.nil ?_
     refine Kt.sel [3, 4, 36] [_, _, _] rfl ?_
     refine Wk.cond (b := decide (k6 = (3 : Int))) rfl (fun h36 => ?_) (fun h36 => ?_)
     ·
      replace h36 := of_decide_eq_true h36
      refine Wk.seq ?_
      refine Wk.region ?_
      refine Ll.callSome (ok := fun (t : List UInt8) => t.length ≤ 40000) (v := fun (t : List UInt8) => str t) (xs := [.const (str ([48])), .const (i6_ 9)]) (vs := [str ([48]), i6_ 9]) rfl rfl rfl rfl Tryz.call58 rfl (fun w1 hw1 => (many_ok ([48]) w1 9 (by decide) (by decide) rfl).mono fun en w' ⟨t, h1, h2, h3⟩ => ⟨t, h1, h2, h3⟩) fun t38 hS38 => ?_
      show Ll _ _ (Own _ _ (_ :: _ :: _ :: hs)) _ _ ((38, str t38) :: _) _ _ _
      have hlt38 := hS38
      refine Ll.callSome (ok := fun (t : List UInt8) => t.length ≤ 40000) (v := fun (t : List UInt8) => str t) (xs := [.const (str ([49])), .const (i6_ 81)]) (vs := [str ([49]), i6_ 81]) rfl rfl rfl rfl Tryz.call58 rfl (fun w1 hw1 => (many_ok ([49]) w1 81 (by decide) (by decide) rfl).mono fun en w' ⟨t, h1, h2, h3⟩ => ⟨t, h1, h2, h3⟩) fun t39 hS39 => ?_
      show Ll _ _ (Own _ _ (_ :: _ :: _ :: hs)) _ _ ((39, str t39) :: _) _ _ _
      have hlt39 := hS39
      refine Ll.op (v := .agg #[i6_ 9, str t38, str t39]) rfl rfl rfl (OpQ.build (xs := [.const (i6_ 9), .tmp 38, .tmp 39]) (vs := [i6_ 9, str t38, str t39]) rfl rfl (by kernel_rfl)) ?_
      refine Ll.storeBox (cs' := #[i6_ 9, str t38, str t39]) (hs' := (bk_ p4 #[i6_ 9, str t38, str t39] 24 :: _ :: _ :: hs)) 0 rfl rfl rfl rfl rfl (by kernel_rfl : _ = some Tryz.t24) rfl rfl rfl rfl rfl ?_
      refine Ll.nil ?_
      refine Kt.sel [4] [_] rfl ?_
      refine Wk.ret (Kt.endBox (cs := #[i6_ 9, str t38, str t39]) 0 rfl rfl rfl Tryz.isAgg24 Tryz.sizeOf24 fun w' hw => ?_)
      exact ⟨⟨9, t38, t39⟩, p_6, rfl, ⟨⟨⟨by dsimp only; omega, by dsimp only; omega⟩, by dsimp only; omega, by dsimp only; omega⟩, by omega⟩, hw.sub (List.Sublist.cons _ (List.Sublist.cons _ (List.Sublist.cons_cons _ (List.Sublist.refl _))))⟩
     ·
      replace h36 := of_decide_eq_false h36
      refine Wk.skip ?_
      refine Kt.joined ((a.n, a.set, a.rel, p_6)) ⟨⟨by (try dsimp only); omega, by (try dsimp only); omega⟩, by (try dsimp only); omega, by (try dsimp only); omega, by (try dsimp only); omega⟩ (Sub.sel [3, 4] rfl) (fun _ h => h.sub (List.Sublist.cons_cons _ (List.Sublist.cons_cons _ (List.Sublist.cons_cons _ (List.Sublist.refl _)))))
 rintro ⟨N, S, R, p9⟩ ⟨⟨hN0, hN1⟩, hS, hR, hp9⟩
 dsimp only
 refine Kt.sel [3, 4] [_, _] rfl ?_
 refine Wk.seq ?_
 refine Wk.region ?_
 refine Ll.op rfl rfl rfl (OpQ.loadBox (cs := #[i6_ N, str S, str R]) 1 rfl Tryz.isAgg24 rfl rfl Tryz.sizeOf24) ?_
 refine Ll.storeBox (cs' := #[i6_ N, str S, str R]) (hs' := (bk_ p4 #[i6_ N, str S, str R] 24 :: _ :: _ :: hs)) 0 rfl rfl rfl rfl rfl (by kernel_rfl : _ = some Tryz.t24) rfl rfl rfl rfl rfl ?_
 refine Ll.nil ?_
 refine Kt.sel [4] [_] rfl ?_
 refine Wk.ret (Kt.endBox (cs := #[i6_ N, str S, str R]) 0 rfl rfl rfl Tryz.isAgg24 Tryz.sizeOf24 fun w' hw => ?_)
 exact ⟨⟨N, S, R⟩, p9, rfl, ⟨⟨⟨by dsimp only; omega, by dsimp only; omega⟩, by dsimp only; omega, by dsimp only; omega⟩, by omega⟩, hw.sub (List.Sublist.cons _ (List.Sublist.cons _ (List.Sublist.cons_cons _ (List.Sublist.refl _))))⟩
end Go.Proofs.YtjcoijejhachhaaGreatDoor
