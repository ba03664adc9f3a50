/-
  Walks: drawn structures that are not valid.
-/
import Derived.Test.YtjcoijejhachhaaDoorDrawsB
import Derived.Test.YtjcoijejhachhaaDoorBase
namespace Go.Proofs.YtjcoijejhachhaaDoor
open Go.RowKit Go.Wk
set_option linter.unusedSimpArgs false

set_option maxHeartbeats 400000 in
/-- spec.l1Bad -/
theorem l1Bad_ok (B : Nat) (w0 : World) (hs : List (Nat × Obj)) (rp p : Nat) (bv : Value) (L : List Int) (a : St) (w : World) (hb : ∀ w, Own B w0 hs w → Row w bv (u8s L)) (hL8 : Bytes8 L) (hL : L.length ≤ 2000) (ha : a.Fine) (hp : p ≤ 800000) (hw : Own B w0 ((rp, .cells #[bv, .int .i64 (p : Int)] 110 (0, 0)) :: hs) w) :
    Calls Tryd.prog 81 [pt_ rp, vS a].toArray w fun en w' => ∃ b : St, ∃ p' : Nat, en = .returned (vS b) ∧ (((-9223372036854775808 ≤ b.n ∧ b.n ≤ 9223372036854775807) ∧ b.set.length ≤ 50000 ∧ b.rel.length ≤ 50000) ∧ p' ≤ p + 10) ∧ Own B w0 (((rp, .cells #[bv, .int .i64 (p' : Int)] 110 (0, 0)) :: hs)) w' := by
 refine fnStartC (Own B w0 ((rp, .cells #[bv, .int .i64 (p : Int)] 110 (0, 0)) :: hs)) (n := 42) (e := [(0, pt_ rp), (1, vS a)]) Tryd.func81 rfl rfl rfl rfl Ends.both hw ?_
 have hm8 := ha.hi
 have hm1 := ha.lo
 have hsl := ha.set
 have hrl := ha.rel
 have hq := sq_le hm1 hm8
 have hq1 : 1 ≤ a.n * a.n := sq_one hm1
 refine Wk.seq ?_
 refine Wk.region ?_
 refine Ll.box (v := vS a) rfl rfl rfl rfl rfl fun p3 hp3 => ?_
 show Ll _ _ (Own _ _ (_ :: _ :: hs)) _ _ ((3, pt_ p3) :: _) _ _ _
 refine Ll.alloc rfl rfl rfl rfl Tryd.zeroValue28 fun p4 hp4 => ?_
 show Ll _ _ (Own _ _ (bk_ p4 #[i6_ 0, str ([]), str ([])] 28 :: _ :: _ :: hs)) _ _ ((4, pt_ p4) :: _) _ _ _
 refine Ll.nil ?_
 refine Kt.sel [0, 3, 4] [_, _, _] rfl ?_
 refine Wk.seq ?_
 refine Wk.seq ?_
 refine Wk.region ?_
 refine Ll.run 1 rfl ?_
 refine Ll.callRd (rp := rp) (RT := 110) (p := p) (bv := bv) (hs := hs) (ok := fun (k : Int) p' => 0 ≤ k ∧ (1 ≤ (40 : Int) → k < 40) ∧ p' = p + 1) (v := fun (k : Int) => i6_ k) (new := fun (k : Int) => []) (xs := [.tmp 5, .const (i6_ 40)]) (vs := [pt_ rp, i6_ 40]) ([bk_ p4 #[i6_ 0, str ([]), str ([])] 28, bk_ p3 #[i6_ a.n, str a.set, str a.rel] 28] : List (Nat × Obj)) rfl rfl rfl rfl Tryd.call80 rfl (fun w1 hw1 => (pick_ok B w0 (([bk_ p4 #[i6_ 0, str ([]), str ([])] 28, bk_ p3 #[i6_ a.n, str a.set, str a.rel] 28] : List (Nat × Obj)) ++ hs) rp p bv L 40 w1 (fun w2 hw2 => hb w2 (Own.drop (f := ([bk_ p4 #[i6_ 0, str ([]), str ([])] 28, bk_ p3 #[i6_ a.n, str a.set, str a.rel] 28] : List (Nat × Obj))) hw2)) hL8 hL (by omega) hw1).mono fun en w' ⟨k', p', h1, h2, h3⟩ => ⟨k', p', h1, h2, h3⟩) fun k6 p_6 hKp_6 => ?_
 show Ll _ _ (Own _ _ (_ :: _ :: _ :: hs)) _ _ ((6, i6_ k6) :: _) _ _ _
 obtain ⟨h0k6, h1k6, hep_6⟩ := hKp_6
 try have hltk6 := h1k6 (by first | omega | (split <;> omega) | decide)
 refine Ll.nil ?_
 refine Kt.sel [0, 3, 4, 6] [_, _, _, _] rfl ?_
 refine Wk.join (σ := Int × List UInt8 × List UInt8 × Nat) (fun ⟨N, S, R, p9⟩ => (-9223372036854775808 ≤ N ∧ N ≤ 9223372036854775807) ∧ S.length ≤ 50000 ∧ R.length ≤ 50000 ∧ p9 ≤ p + 10) (fun ⟨N, S, R, p9⟩ => [(3, pt_ p3), (4, pt_ p4)]) (fun ⟨N, S, R, p9⟩ => Own B w0 (bk_ p4 #[i6_ 0, str ([]), str ([])] 28 :: bk_ p3 #[i6_ N, str S, str R] 28 :: bk_ rp #[bv, i6_ ((p9 : Int))] 110 :: hs)) ?_ ?_
 ·
  refine Wk.block ?_
  refine Wk.seq ?_
  refine Wk.regionQ ?_
  refine Lq.run 2 rfl ?_
  refine Lq.nil ?_
  refine Kt.sel [0, 3, 4, 6, 7] [_, _, _, _, _] rfl ?_
  refine Wk.cond (b := decide (k6 = (0 : Int))) rfl (fun h7 => ?_) (fun h7 => ?_)
  ·
   replace h7 := of_decide_eq_true h7
   refine Wk.region ?_
   refine Ll.run 1 rfl ?_
   refine Ll.op rfl rfl rfl (OpQ.fieldAddr rfl Tryd.runUnderlying28 rfl Tryd.sizeOf3 rfl rfl) ?_
   refine Ll.op rfl rfl rfl (OpQ.loadOwn 1 rfl Tryd.isAgg3 rfl rfl rfl) ?_
   refine Ll.op rfl rfl rfl (OpQ.add rfl rfl rfl (by omega) (by omega)) ?_
   refine Ll.slice (xs := [.const (i6_ 0), .const (i6_ (-1)), .tmp 12, .const (i6_ 9), .const (i6_ 9223372036854775807)]) (vs := [i6_ 0, i6_ (-1), i6_ (a.n + (1 : Int)), i6_ 9, i6_ 9223372036854775807]) Base.elem24 rfl rfl rfl rfl rfl rfl (by decide) rfl fun p13 hp13 => ?_
   refine Ll.callRd (rp := rp) (RT := 110) (p := p_6) (bv := bv) (hs := hs) (ok := fun (v : Int) p' => v ∈ ([0, -1, a.n + (1 : Int), 9, 9223372036854775807]) ∧ p' = p_6 + 1) (v := fun (v : Int) => i6_ v) (new := fun (v : Int) => []) (xs := [.tmp 9, .tmp 13]) (vs := [pt_ rp, sl_ p13 5 5]) ([bk_ p13 #[i6_ 0, i6_ (-1), i6_ (a.n + (1 : Int)), i6_ 9, i6_ 9223372036854775807] 3, bk_ p4 #[i6_ 0, str ([]), str ([])] 28, bk_ p3 #[i6_ a.n, str a.set, str a.rel] 28] : List (Nat × Obj)) rfl rfl rfl rfl Tryd.call71 rfl (fun w1 hw1 => (num_ok B w0 (([bk_ p13 #[i6_ 0, i6_ (-1), i6_ (a.n + (1 : Int)), i6_ 9, i6_ 9223372036854775807] 3, bk_ p4 #[i6_ 0, str ([]), str ([])] 28, bk_ p3 #[i6_ a.n, str a.set, str a.rel] 28] : List (Nat × Obj)) ++ hs) rp p_6 bv L (sl_ p13 5 5) ([0, -1, a.n + (1 : Int), 9, 9223372036854775807]) w1 (fun w2 hw2 => hb w2 (Own.drop (f := ([bk_ p13 #[i6_ 0, i6_ (-1), i6_ (a.n + (1 : Int)), i6_ 9, i6_ 9223372036854775807] 3, bk_ p4 #[i6_ 0, str ([]), str ([])] 28, bk_ p3 #[i6_ a.n, str a.set, str a.rel] 28] : List (Nat × Obj))) hw2)) hL8 hL (fun w2 h2 => (Own.row h2 (i := 0) rfl (n := 5) (cap := 5) (vs := ints [0, -1, a.n + (1 : Int), 9, 9223372036854775807]) rfl rfl (by decide))) (by simp) (by omega) hw1).mono fun en w' ⟨v', p', h1, h2, h3⟩ => ⟨v', p', h1, h2, h3⟩) fun v14 p_14 hKp_14 => ?_
   show Ll _ _ (Own _ _ (_ :: _ :: _ :: _ :: hs)) _ _ ((14, i6_ v14) :: _) _ _ _
   obtain ⟨hmv14, hep_14⟩ := hKp_14
   skip
   have hv14 : -9223372036854775808 ≤ v14 ∧ v14 ≤ 9223372036854775807 := by simp at hmv14; omega
   refine Ll.op rfl rfl rfl (OpQ.fieldAddr rfl Tryd.runUnderlying28 rfl Tryd.sizeOf3 rfl rfl) ?_
   refine Ll.store1 (v := i6_ v14) (hs' := (_ :: _ :: bk_ p3 #[i6_ v14, str a.set, str a.rel] 28 :: _ :: hs)) 2 rfl rfl rfl rfl rfl rfl Tryd.sizeOf3 rfl (by simp) rfl ?_
   refine Ll.nil ?_
   refine Kt.joined ((v14, a.set, a.rel, p_14)) ⟨⟨by (try dsimp only); omega, by (try dsimp only); omega⟩, by (try dsimp only); omega, by (try dsimp only); omega, by (try dsimp only); omega⟩ (Sub.sel [3, 4] rfl) (fun _ h => h.sub (List.Sublist.cons _ (List.Sublist.cons_cons _ (List.Sublist.cons_cons _ (List.Sublist.cons_cons _ (List.Sublist.refl _))))))
  ·
   replace h7 := of_decide_eq_false h7
   refine Wk.seq ?_
   refine Wk.regionQ ?_
   refine Lq.run 2 rfl ?_
   refine Lq.nil ?_
   refine Kt.sel [0, 3, 4, 6, 16] [_, _, _, _, _] rfl ?_
   refine Wk.cond (b := decide (k6 = (1 : Int))) rfl (fun h16 => ?_) (fun h16 => ?_)
   ·
    replace h16 := of_decide_eq_true h16
    refine Wk.region ?_
    refine Ll.op rfl rfl rfl (OpQ.fieldAddr rfl Tryd.runUnderlying28 rfl Tryd.sizeOf9 rfl rfl) ?_
    refine Ll.op rfl rfl rfl (OpQ.loadOwn 1 rfl Tryd.isAgg9 rfl rfl rfl) ?_
    refine Ll.op rfl rfl rfl (OpQ.sadd rfl rfl rfl (by simp; omega)) ?_
    refine Ll.op rfl rfl rfl (OpQ.fieldAddr rfl Tryd.runUnderlying28 rfl Tryd.sizeOf9 rfl rfl) ?_
    refine Ll.store1 (v := str (a.set ++ ([48]))) (hs' := (_ :: bk_ p3 #[i6_ a.n, str (a.set ++ ([48])), str a.rel] 28 :: _ :: hs)) 1 rfl rfl rfl rfl rfl rfl Tryd.sizeOf9 rfl (by simp) rfl ?_
    refine Ll.nil ?_
    refine Kt.joined ((a.n, a.set ++ ([48]), a.rel, p_6)) ⟨⟨by (try dsimp only); omega, by (try dsimp only); omega⟩, by (try dsimp only); simp only [List.length_append, List.length_take, List.length_cons, List.length_nil]; omega, by (try dsimp only); omega, by (try dsimp only); omega⟩ (Sub.sel [3, 4] rfl) (fun _ h => h.sub (List.Sublist.cons_cons _ (List.Sublist.cons_cons _ (List.Sublist.cons_cons _ (List.Sublist.refl _)))))
   ·
    replace h16 := of_decide_eq_false h16
    refine Wk.seq ?_
    refine Wk.regionQ ?_
    refine Lq.run 2 rfl ?_
    refine Lq.nil ?_
    refine Kt.sel [0, 3, 4, 6, 22] [_, _, _, _, _] rfl ?_
    refine Wk.cond (b := decide (k6 = (2 : Int))) rfl (fun h22 => ?_) (fun h22 => ?_)
    ·
     replace h22 := of_decide_eq_true h22
     refine Wk.regionU (S := Own B w0 [bk_ p4 #[i6_ 0, str ([]), str ([])] 28]) (.take 0 (.take 2 (.take 7 (.three 1 (.two 3 (.take 4 (.take 5 (.take 6 (.one 8 (.one 9 (.take 10 (.take 11 (.one 12 .done)))))))) 8 (.two 3 (.take 4 (.take 5 (.take 6 (.one 9 (.take 10 (.take 11 (.one 12 .done))))))) 9 (.one 3 (.take 4 (.take 5 (.take 6 (.take 10 (.take 11 (.one 12 .done))))))))) 3 (.take 4 (.take 5 (.two 1 (.take 6 (.one 8 (.one 9 (.take 10 (.take 11 (.one 12 .done)))))) 8 (.two 1 (.take 6 (.one 9 (.take 10 (.take 11 (.one 12 .done))))) 9 (.one 1 (.take 6 (.take 10 (.take 11 (.one 12 .done))))))))) 8 (.three 1 (.two 3 (.take 4 (.take 5 (.take 6 (.one 9 (.take 10 (.take 11 (.one 12 .done))))))) 9 (.one 3 (.take 4 (.take 5 (.take 6 (.take 10 (.take 11 (.one 12 .done)))))))) 3 (.take 4 (.take 5 (.two 1 (.take 6 (.one 9 (.take 10 (.take 11 (.one 12 .done))))) 9 (.one 1 (.take 6 (.take 10 (.take 11 (.one 12 .done)))))))) 9 (.two 1 (.one 3 (.take 4 (.take 5 (.take 6 (.take 10 (.take 11 (.one 12 .done))))))) 3 (.take 4 (.take 5 (.one 1 (.take 6 (.take 10 (.take 11 (.one 12 .done))))))))))))) Base.mixed (fun _ h => h.drawn) (by kernel_rfl) ?_
     refine Lu.take rfl rfl rfl rfl rfl (OpQ.fieldAddr rfl Tryd.runUnderlying28 rfl Tryd.sizeOf9 rfl rfl) (pk [0] rfl rfl) ?_
     refine Lu.take rfl rfl rfl rfl rfl (OpQ.fieldAddr rfl Tryd.runUnderlying28 rfl Tryd.sizeOf9 rfl rfl) (pk [0] rfl rfl) ?_
     refine Lu.run 1 rfl (pk [0] rfl rfl) ?_
     refine Lu.three rfl rfl rfl ?_ ?_ ?_
     ·
      refine Ll.op rfl rfl rfl (OpQ.loadOwn 1 rfl Tryd.isAgg9 rfl rfl rfl) ?_
      refine Ll.nil (Lu.joint (pk [0] rfl rfl) ?_)
      refine Lu.two rfl rfl ?_ ?_
      ·
       refine Ll.op rfl rfl rfl (OpQ.loadOwn 1 rfl Tryd.isAgg9 rfl rfl rfl) ?_
       refine Ll.nil (Lu.joint (pk [0] rfl rfl) ?_)
       refine Lu.take (v := i6_ ((a.rel.length : Int))) rfl rfl rfl rfl rfl (OpQ.lenStr rfl Tryd.runUnderlying9 rfl) (pk [0] rfl rfl) ?_
       refine Lu.take rfl rfl rfl rfl rfl (OpQ.sub rfl rfl rfl (by omega) (by omega)) (pk [0] rfl rfl) ?_
       refine Lu.take (v := str (a.rel.take ((((a.rel.length : Int)) - (1 : Int)).toNat))) rfl rfl rfl rfl rfl (OpQ.sliceStrTo rfl Tryd.underlying9 rfl rfl (by omega) (by omega)) (pk [0] rfl rfl) ?_
       refine Lu.loud rfl ?_
       refine Ll.slice (xs := [.const (str ([])), .const (str ([50])), .const (str ([48, 49]))]) (vs := [str ([]), str ([50]), str ([48, 49])]) Base.elem91 rfl rfl rfl rfl rfl rfl (by decide) rfl fun p32 hp32 => ?_
       refine Ll.nil (Lu.joint (pk [1] rfl rfl) ?_)
       refine Lu.loud rfl ?_
       refine Ll.callRd (rp := rp) (RT := 110) (p := p_6) (bv := bv) (hs := hs) (ok := fun (v : List UInt8) p' => v ∈ (([[], [50], [48, 49]] : List (List UInt8))) ∧ p' = p_6 + 1) (v := fun (v : List UInt8) => str v) (new := fun (v : List UInt8) => []) (xs := [.tmp 31, .tmp 32]) (vs := [pt_ rp, sl_ p32 3 3]) ([bk_ p32 #[str ([]), str ([50]), str ([48, 49])] 9, bk_ p4 #[i6_ 0, str ([]), str ([])] 28, bk_ p3 #[i6_ a.n, str a.set, str a.rel] 28] : List (Nat × Obj)) rfl rfl rfl rfl Tryd.call125 rfl (fun w1 hw1 => (of_ok B w0 (([bk_ p32 #[str ([]), str ([50]), str ([48, 49])] 9, bk_ p4 #[i6_ 0, str ([]), str ([])] 28, bk_ p3 #[i6_ a.n, str a.set, str a.rel] 28] : List (Nat × Obj)) ++ hs) rp p_6 bv L (sl_ p32 3 3) (([[], [50], [48, 49]] : List (List UInt8))) w1 (fun w2 hw2 => hb w2 (Own.drop (f := ([bk_ p32 #[str ([]), str ([50]), str ([48, 49])] 9, bk_ p4 #[i6_ 0, str ([]), str ([])] 28, bk_ p3 #[i6_ a.n, str a.set, str a.rel] 28] : List (Nat × Obj))) hw2)) hL8 hL (fun w2 h2 => (Own.row h2 (i := 0) rfl (n := 3) (cap := 3) (vs := strs ([[], [50], [48, 49]] : List (List UInt8))) rfl rfl (by decide))) (by simp) (by omega) hw1).mono fun en w' ⟨v', p', h1, h2, h3⟩ => ⟨v', p', h1, h2, h3⟩) fun v33 p_33 hKp_33 => ?_
       show Ll _ _ (Own _ _ (_ :: _ :: _ :: _ :: hs)) _ _ ((33, str v33) :: _) _ _ _
       obtain ⟨hmv33, hep_33⟩ := hKp_33
       refine Ll.nil (Lu.joint (pk [1] rfl rfl) ?_)
       have hv33 : v33.length ≤ 2 := by simp at hmv33; rcases hmv33 with h | h | h <;> subst h <;> decide
       refine Lu.take rfl rfl rfl rfl rfl (OpQ.sadd rfl rfl rfl (by simp only [List.length_take]; omega)) (pk [1] rfl rfl) ?_
       refine Lu.take rfl rfl rfl rfl rfl (OpQ.fieldAddr rfl Tryd.runUnderlying28 rfl Tryd.sizeOf9 rfl rfl) (pk [1] rfl rfl) ?_
       refine Lu.loud rfl ?_
       refine Ll.store1 (v := str ((a.rel.take ((((a.rel.length : Int)) - (1 : Int)).toNat)) ++ v33)) (hs' := (_ :: _ :: bk_ p3 #[i6_ a.n, str a.set, str ((a.rel.take ((((a.rel.length : Int)) - (1 : Int)).toNat)) ++ v33)] 28 :: _ :: hs)) 2 rfl rfl rfl rfl rfl rfl Tryd.sizeOf9 rfl (by simp) rfl ?_
       refine Ll.nil (Lu.joint (pk [1] rfl rfl) ?_)
       refine Lu.nil ?_
       refine Kt.joined ((a.n, a.set, (a.rel.take ((((a.rel.length : Int)) - (1 : Int)).toNat)) ++ v33, p_33)) ⟨⟨by (try dsimp only); omega, by (try dsimp only); omega⟩, by (try dsimp only); omega, by (try dsimp only); simp only [List.length_append, List.length_take, List.length_cons, List.length_nil]; omega, by (try dsimp only); omega⟩ (Sub.sel [3, 4] rfl) (fun _ h => h.sub (List.Sublist.cons _ (List.Sublist.cons_cons _ (List.Sublist.cons_cons _ (List.Sublist.cons_cons _ (List.Sublist.refl _))))))
      ·
       refine Ll.slice (xs := [.const (str ([])), .const (str ([50])), .const (str ([48, 49]))]) (vs := [str ([]), str ([50]), str ([48, 49])]) Base.elem91 rfl rfl rfl rfl rfl rfl (by decide) rfl fun p32_1 hp32_1 => ?_
       refine Ll.nil (Lu.joint (pk [1] rfl rfl) ?_)
       refine Lu.two rfl rfl ?_ ?_
       ·
        refine Ll.op rfl rfl rfl (OpQ.loadOwn 2 rfl Tryd.isAgg9 rfl rfl rfl) ?_
        refine Ll.nil (Lu.joint (pk [1] rfl rfl) ?_)
        refine Lu.take (v := i6_ ((a.rel.length : Int))) rfl rfl rfl rfl rfl (OpQ.lenStr rfl Tryd.runUnderlying9 rfl) (pk [1] rfl rfl) ?_
        refine Lu.take rfl rfl rfl rfl rfl (OpQ.sub rfl rfl rfl (by omega) (by omega)) (pk [1] rfl rfl) ?_
        refine Lu.take (v := str (a.rel.take ((((a.rel.length : Int)) - (1 : Int)).toNat))) rfl rfl rfl rfl rfl (OpQ.sliceStrTo rfl Tryd.underlying9 rfl rfl (by omega) (by omega)) (pk [1] rfl rfl) ?_
        refine Lu.loud rfl ?_
        refine Ll.callRd (rp := rp) (RT := 110) (p := p_6) (bv := bv) (hs := hs) (ok := fun (v : List UInt8) p' => v ∈ (([[], [50], [48, 49]] : List (List UInt8))) ∧ p' = p_6 + 1) (v := fun (v : List UInt8) => str v) (new := fun (v : List UInt8) => []) (xs := [.tmp 31, .tmp 32]) (vs := [pt_ rp, sl_ p32_1 3 3]) ([bk_ p32_1 #[str ([]), str ([50]), str ([48, 49])] 9, bk_ p4 #[i6_ 0, str ([]), str ([])] 28, bk_ p3 #[i6_ a.n, str a.set, str a.rel] 28] : List (Nat × Obj)) rfl rfl rfl rfl Tryd.call125 rfl (fun w1 hw1 => (of_ok B w0 (([bk_ p32_1 #[str ([]), str ([50]), str ([48, 49])] 9, bk_ p4 #[i6_ 0, str ([]), str ([])] 28, bk_ p3 #[i6_ a.n, str a.set, str a.rel] 28] : List (Nat × Obj)) ++ hs) rp p_6 bv L (sl_ p32_1 3 3) (([[], [50], [48, 49]] : List (List UInt8))) w1 (fun w2 hw2 => hb w2 (Own.drop (f := ([bk_ p32_1 #[str ([]), str ([50]), str ([48, 49])] 9, bk_ p4 #[i6_ 0, str ([]), str ([])] 28, bk_ p3 #[i6_ a.n, str a.set, str a.rel] 28] : List (Nat × Obj))) hw2)) hL8 hL (fun w2 h2 => (Own.row h2 (i := 0) rfl (n := 3) (cap := 3) (vs := strs ([[], [50], [48, 49]] : List (List UInt8))) rfl rfl (by decide))) (by simp) (by omega) hw1).mono fun en w' ⟨v', p', h1, h2, h3⟩ => ⟨v', p', h1, h2, h3⟩) fun v33_1 p_33_1 hKp_33_1 => ?_
        show Ll _ _ (Own _ _ (_ :: _ :: _ :: _ :: hs)) _ _ ((33, str v33_1) :: _) _ _ _
        obtain ⟨hmv33_1, hep_33_1⟩ := hKp_33_1
        refine Ll.nil (Lu.joint (pk [1] rfl rfl) ?_)
        have hv33 : v33_1.length ≤ 2 := by simp at hmv33_1; rcases hmv33_1 with h | h | h <;> subst h <;> decide
        refine Lu.take rfl rfl rfl rfl rfl (OpQ.sadd rfl rfl rfl (by simp only [List.length_take]; omega)) (pk [1] rfl rfl) ?_
        refine Lu.take rfl rfl rfl rfl rfl (OpQ.fieldAddr rfl Tryd.runUnderlying28 rfl Tryd.sizeOf9 rfl rfl) (pk [1] rfl rfl) ?_
        refine Lu.loud rfl ?_
        refine Ll.store1 (v := str ((a.rel.take ((((a.rel.length : Int)) - (1 : Int)).toNat)) ++ v33_1)) (hs' := (_ :: _ :: bk_ p3 #[i6_ a.n, str a.set, str ((a.rel.take ((((a.rel.length : Int)) - (1 : Int)).toNat)) ++ v33_1)] 28 :: _ :: hs)) 2 rfl rfl rfl rfl rfl rfl Tryd.sizeOf9 rfl (by simp) rfl ?_
        refine Ll.nil (Lu.joint (pk [1] rfl rfl) ?_)
        refine Lu.nil ?_
        refine Kt.joined ((a.n, a.set, (a.rel.take ((((a.rel.length : Int)) - (1 : Int)).toNat)) ++ v33_1, p_33_1)) ⟨⟨by (try dsimp only); omega, by (try dsimp only); omega⟩, by (try dsimp only); omega, by (try dsimp only); simp only [List.length_append, List.length_take, List.length_cons, List.length_nil]; omega, by (try dsimp only); omega⟩ (Sub.sel [3, 4] rfl) (fun _ h => h.sub (List.Sublist.cons _ (List.Sublist.cons_cons _ (List.Sublist.cons_cons _ (List.Sublist.cons_cons _ (List.Sublist.refl _))))))
       ·
        refine Ll.callRd (rp := rp) (RT := 110) (p := p_6) (bv := bv) (hs := hs) (ok := fun (v : List UInt8) p' => v ∈ (([[], [50], [48, 49]] : List (List UInt8))) ∧ p' = p_6 + 1) (v := fun (v : List UInt8) => str v) (new := fun (v : List UInt8) => []) (xs := [.tmp 31, .tmp 32]) (vs := [pt_ rp, sl_ p32_1 3 3]) ([bk_ p32_1 #[str ([]), str ([50]), str ([48, 49])] 9, bk_ p4 #[i6_ 0, str ([]), str ([])] 28, bk_ p3 #[i6_ a.n, str a.set, str a.rel] 28] : List (Nat × Obj)) rfl rfl rfl rfl Tryd.call125 rfl (fun w1 hw1 => (of_ok B w0 (([bk_ p32_1 #[str ([]), str ([50]), str ([48, 49])] 9, bk_ p4 #[i6_ 0, str ([]), str ([])] 28, bk_ p3 #[i6_ a.n, str a.set, str a.rel] 28] : List (Nat × Obj)) ++ hs) rp p_6 bv L (sl_ p32_1 3 3) (([[], [50], [48, 49]] : List (List UInt8))) w1 (fun w2 hw2 => hb w2 (Own.drop (f := ([bk_ p32_1 #[str ([]), str ([50]), str ([48, 49])] 9, bk_ p4 #[i6_ 0, str ([]), str ([])] 28, bk_ p3 #[i6_ a.n, str a.set, str a.rel] 28] : List (Nat × Obj))) hw2)) hL8 hL (fun w2 h2 => (Own.row h2 (i := 0) rfl (n := 3) (cap := 3) (vs := strs ([[], [50], [48, 49]] : List (List UInt8))) rfl rfl (by decide))) (by simp) (by omega) hw1).mono fun en w' ⟨v', p', h1, h2, h3⟩ => ⟨v', p', h1, h2, h3⟩) fun v33_2 p_33_2 hKp_33_2 => ?_
        show Ll _ _ (Own _ _ (_ :: _ :: _ :: _ :: hs)) _ _ ((33, str v33_2) :: _) _ _ _
        obtain ⟨hmv33_2, hep_33_2⟩ := hKp_33_2
        refine Ll.nil (Lu.joint (pk [1] rfl rfl) ?_)
        refine Lu.loud rfl ?_
        refine Ll.op rfl rfl rfl (OpQ.loadOwn 2 rfl Tryd.isAgg9 rfl rfl rfl) ?_
        refine Ll.nil (Lu.joint (pk [1] rfl rfl) ?_)
        refine Lu.take (v := i6_ ((a.rel.length : Int))) rfl rfl rfl rfl rfl (OpQ.lenStr rfl Tryd.runUnderlying9 rfl) (pk [1] rfl rfl) ?_
        refine Lu.take rfl rfl rfl rfl rfl (OpQ.sub rfl rfl rfl (by omega) (by omega)) (pk [1] rfl rfl) ?_
        refine Lu.take (v := str (a.rel.take ((((a.rel.length : Int)) - (1 : Int)).toNat))) rfl rfl rfl rfl rfl (OpQ.sliceStrTo rfl Tryd.underlying9 rfl rfl (by omega) (by omega)) (pk [1] rfl rfl) ?_
        have hv33 : v33_2.length ≤ 2 := by simp at hmv33_2; rcases hmv33_2 with h | h | h <;> subst h <;> decide
        refine Lu.take rfl rfl rfl rfl rfl (OpQ.sadd rfl rfl rfl (by simp only [List.length_take]; omega)) (pk [1] rfl rfl) ?_
        refine Lu.take rfl rfl rfl rfl rfl (OpQ.fieldAddr rfl Tryd.runUnderlying28 rfl Tryd.sizeOf9 rfl rfl) (pk [1] rfl rfl) ?_
        refine Lu.loud rfl ?_
        refine Ll.store1 (v := str ((a.rel.take ((((a.rel.length : Int)) - (1 : Int)).toNat)) ++ v33_2)) (hs' := (_ :: _ :: bk_ p3 #[i6_ a.n, str a.set, str ((a.rel.take ((((a.rel.length : Int)) - (1 : Int)).toNat)) ++ v33_2)] 28 :: _ :: hs)) 2 rfl rfl rfl rfl rfl rfl Tryd.sizeOf9 rfl (by simp) rfl ?_
        refine Ll.nil (Lu.joint (pk [1] rfl rfl) ?_)
        refine Lu.nil ?_
        refine Kt.joined ((a.n, a.set, (a.rel.take ((((a.rel.length : Int)) - (1 : Int)).toNat)) ++ v33_2, p_33_2)) ⟨⟨by (try dsimp only); omega, by (try dsimp only); omega⟩, by (try dsimp only); omega, by (try dsimp only); simp only [List.length_append, List.length_take, List.length_cons, List.length_nil]; omega, by (try dsimp only); omega⟩ (Sub.sel [3, 4] rfl) (fun _ h => h.sub (List.Sublist.cons _ (List.Sublist.cons_cons _ (List.Sublist.cons_cons _ (List.Sublist.cons_cons _ (List.Sublist.refl _))))))
     ·
      refine Ll.op rfl rfl rfl (OpQ.loadOwn 1 rfl Tryd.isAgg9 rfl rfl rfl) ?_
      refine Ll.nil (Lu.joint (pk [0] rfl rfl) ?_)
      refine Lu.take (v := i6_ ((a.rel.length : Int))) rfl rfl rfl rfl rfl (OpQ.lenStr rfl Tryd.runUnderlying9 rfl) (pk [0] rfl rfl) ?_
      refine Lu.take rfl rfl rfl rfl rfl (OpQ.sub rfl rfl rfl (by omega) (by omega)) (pk [0] rfl rfl) ?_
      refine Lu.two rfl rfl ?_ ?_
      ·
       refine Ll.op rfl rfl rfl (OpQ.loadOwn 1 rfl Tryd.isAgg9 rfl rfl rfl) ?_
       refine Ll.nil (Lu.joint (pk [0] rfl rfl) ?_)
       refine Lu.take (v := str (a.rel.take ((((a.rel.length : Int)) - (1 : Int)).toNat))) rfl rfl rfl rfl rfl (OpQ.sliceStrTo rfl Tryd.underlying9 rfl rfl (by omega) (by omega)) (pk [0] rfl rfl) ?_
       refine Lu.loud rfl ?_
       refine Ll.slice (xs := [.const (str ([])), .const (str ([50])), .const (str ([48, 49]))]) (vs := [str ([]), str ([50]), str ([48, 49])]) Base.elem91 rfl rfl rfl rfl rfl rfl (by decide) rfl fun p32_2 hp32_2 => ?_
       refine Ll.nil (Lu.joint (pk [1] rfl rfl) ?_)
       refine Lu.loud rfl ?_
       refine Ll.callRd (rp := rp) (RT := 110) (p := p_6) (bv := bv) (hs := hs) (ok := fun (v : List UInt8) p' => v ∈ (([[], [50], [48, 49]] : List (List UInt8))) ∧ p' = p_6 + 1) (v := fun (v : List UInt8) => str v) (new := fun (v : List UInt8) => []) (xs := [.tmp 31, .tmp 32]) (vs := [pt_ rp, sl_ p32_2 3 3]) ([bk_ p32_2 #[str ([]), str ([50]), str ([48, 49])] 9, bk_ p4 #[i6_ 0, str ([]), str ([])] 28, bk_ p3 #[i6_ a.n, str a.set, str a.rel] 28] : List (Nat × Obj)) rfl rfl rfl rfl Tryd.call125 rfl (fun w1 hw1 => (of_ok B w0 (([bk_ p32_2 #[str ([]), str ([50]), str ([48, 49])] 9, bk_ p4 #[i6_ 0, str ([]), str ([])] 28, bk_ p3 #[i6_ a.n, str a.set, str a.rel] 28] : List (Nat × Obj)) ++ hs) rp p_6 bv L (sl_ p32_2 3 3) (([[], [50], [48, 49]] : List (List UInt8))) w1 (fun w2 hw2 => hb w2 (Own.drop (f := ([bk_ p32_2 #[str ([]), str ([50]), str ([48, 49])] 9, bk_ p4 #[i6_ 0, str ([]), str ([])] 28, bk_ p3 #[i6_ a.n, str a.set, str a.rel] 28] : List (Nat × Obj))) hw2)) hL8 hL (fun w2 h2 => (Own.row h2 (i := 0) rfl (n := 3) (cap := 3) (vs := strs ([[], [50], [48, 49]] : List (List UInt8))) rfl rfl (by decide))) (by simp) (by omega) hw1).mono fun en w' ⟨v', p', h1, h2, h3⟩ => ⟨v', p', h1, h2, h3⟩) fun v33_3 p_33_3 hKp_33_3 => ?_
       show Ll _ _ (Own _ _ (_ :: _ :: _ :: _ :: hs)) _ _ ((33, str v33_3) :: _) _ _ _
       obtain ⟨hmv33_3, hep_33_3⟩ := hKp_33_3
       refine Ll.nil (Lu.joint (pk [1] rfl rfl) ?_)
       have hv33 : v33_3.length ≤ 2 := by simp at hmv33_3; rcases hmv33_3 with h | h | h <;> subst h <;> decide
       refine Lu.take rfl rfl rfl rfl rfl (OpQ.sadd rfl rfl rfl (by simp only [List.length_take]; omega)) (pk [1] rfl rfl) ?_
       refine Lu.take rfl rfl rfl rfl rfl (OpQ.fieldAddr rfl Tryd.runUnderlying28 rfl Tryd.sizeOf9 rfl rfl) (pk [1] rfl rfl) ?_
       refine Lu.loud rfl ?_
       refine Ll.store1 (v := str ((a.rel.take ((((a.rel.length : Int)) - (1 : Int)).toNat)) ++ v33_3)) (hs' := (_ :: _ :: bk_ p3 #[i6_ a.n, str a.set, str ((a.rel.take ((((a.rel.length : Int)) - (1 : Int)).toNat)) ++ v33_3)] 28 :: _ :: hs)) 2 rfl rfl rfl rfl rfl rfl Tryd.sizeOf9 rfl (by simp) rfl ?_
       refine Ll.nil (Lu.joint (pk [1] rfl rfl) ?_)
       refine Lu.nil ?_
       refine Kt.joined ((a.n, a.set, (a.rel.take ((((a.rel.length : Int)) - (1 : Int)).toNat)) ++ v33_3, p_33_3)) ⟨⟨by (try dsimp only); omega, by (try dsimp only); omega⟩, by (try dsimp only); omega, by (try dsimp only); simp only [List.length_append, List.length_take, List.length_cons, List.length_nil]; omega, by (try dsimp only); omega⟩ (Sub.sel [3, 4] rfl) (fun _ h => h.sub (List.Sublist.cons _ (List.Sublist.cons_cons _ (List.Sublist.cons_cons _ (List.Sublist.cons_cons _ (List.Sublist.refl _))))))
      ·
       refine Ll.slice (xs := [.const (str ([])), .const (str ([50])), .const (str ([48, 49]))]) (vs := [str ([]), str ([50]), str ([48, 49])]) Base.elem91 rfl rfl rfl rfl rfl rfl (by decide) rfl fun p32_3 hp32_3 => ?_
       refine Ll.nil (Lu.joint (pk [1] rfl rfl) ?_)
       refine Lu.two rfl rfl ?_ ?_
       ·
        refine Ll.op rfl rfl rfl (OpQ.loadOwn 2 rfl Tryd.isAgg9 rfl rfl rfl) ?_
        refine Ll.nil (Lu.joint (pk [1] rfl rfl) ?_)
        refine Lu.take (v := str (a.rel.take ((((a.rel.length : Int)) - (1 : Int)).toNat))) rfl rfl rfl rfl rfl (OpQ.sliceStrTo rfl Tryd.underlying9 rfl rfl (by omega) (by omega)) (pk [1] rfl rfl) ?_
        refine Lu.loud rfl ?_
        refine Ll.callRd (rp := rp) (RT := 110) (p := p_6) (bv := bv) (hs := hs) (ok := fun (v : List UInt8) p' => v ∈ (([[], [50], [48, 49]] : List (List UInt8))) ∧ p' = p_6 + 1) (v := fun (v : List UInt8) => str v) (new := fun (v : List UInt8) => []) (xs := [.tmp 31, .tmp 32]) (vs := [pt_ rp, sl_ p32_3 3 3]) ([bk_ p32_3 #[str ([]), str ([50]), str ([48, 49])] 9, bk_ p4 #[i6_ 0, str ([]), str ([])] 28, bk_ p3 #[i6_ a.n, str a.set, str a.rel] 28] : List (Nat × Obj)) rfl rfl rfl rfl Tryd.call125 rfl (fun w1 hw1 => (of_ok B w0 (([bk_ p32_3 #[str ([]), str ([50]), str ([48, 49])] 9, bk_ p4 #[i6_ 0, str ([]), str ([])] 28, bk_ p3 #[i6_ a.n, str a.set, str a.rel] 28] : List (Nat × Obj)) ++ hs) rp p_6 bv L (sl_ p32_3 3 3) (([[], [50], [48, 49]] : List (List UInt8))) w1 (fun w2 hw2 => hb w2 (Own.drop (f := ([bk_ p32_3 #[str ([]), str ([50]), str ([48, 49])] 9, bk_ p4 #[i6_ 0, str ([]), str ([])] 28, bk_ p3 #[i6_ a.n, str a.set, str a.rel] 28] : List (Nat × Obj))) hw2)) hL8 hL (fun w2 h2 => (Own.row h2 (i := 0) rfl (n := 3) (cap := 3) (vs := strs ([[], [50], [48, 49]] : List (List UInt8))) rfl rfl (by decide))) (by simp) (by omega) hw1).mono fun en w' ⟨v', p', h1, h2, h3⟩ => ⟨v', p', h1, h2, h3⟩) fun v33_4 p_33_4 hKp_33_4 => ?_
        show Ll _ _ (Own _ _ (_ :: _ :: _ :: _ :: hs)) _ _ ((33, str v33_4) :: _) _ _ _
        obtain ⟨hmv33_4, hep_33_4⟩ := hKp_33_4
        refine Ll.nil (Lu.joint (pk [1] rfl rfl) ?_)
        have hv33 : v33_4.length ≤ 2 := by simp at hmv33_4; rcases hmv33_4 with h | h | h <;> subst h <;> decide
        refine Lu.take rfl rfl rfl rfl rfl (OpQ.sadd rfl rfl rfl (by simp only [List.length_take]; omega)) (pk [1] rfl rfl) ?_
        refine Lu.take rfl rfl rfl rfl rfl (OpQ.fieldAddr rfl Tryd.runUnderlying28 rfl Tryd.sizeOf9 rfl rfl) (pk [1] rfl rfl) ?_
        refine Lu.loud rfl ?_
        refine Ll.store1 (v := str ((a.rel.take ((((a.rel.length : Int)) - (1 : Int)).toNat)) ++ v33_4)) (hs' := (_ :: _ :: bk_ p3 #[i6_ a.n, str a.set, str ((a.rel.take ((((a.rel.length : Int)) - (1 : Int)).toNat)) ++ v33_4)] 28 :: _ :: hs)) 2 rfl rfl rfl rfl rfl rfl Tryd.sizeOf9 rfl (by simp) rfl ?_
        refine Ll.nil (Lu.joint (pk [1] rfl rfl) ?_)
        refine Lu.nil ?_
        refine Kt.joined ((a.n, a.set, (a.rel.take ((((a.rel.length : Int)) - (1 : Int)).toNat)) ++ v33_4, p_33_4)) ⟨⟨by (try dsimp only); omega, by (try dsimp only); omega⟩, by (try dsimp only); omega, by (try dsimp only); simp only [List.length_append, List.length_take, List.length_cons, List.length_nil]; omega, by (try dsimp only); omega⟩ (Sub.sel [3, 4] rfl) (fun _ h => h.sub (List.Sublist.cons _ (List.Sublist.cons_cons _ (List.Sublist.cons_cons _ (List.Sublist.cons_cons _ (List.Sublist.refl _))))))
       ·
        refine Ll.callRd (rp := rp) (RT := 110) (p := p_6) (bv := bv) (hs := hs) (ok := fun (v : List UInt8) p' => v ∈ (([[], [50], [48, 49]] : List (List UInt8))) ∧ p' = p_6 + 1) (v := fun (v : List UInt8) => str v) (new := fun (v : List UInt8) => []) (xs := [.tmp 31, .tmp 32]) (vs := [pt_ rp, sl_ p32_3 3 3]) ([bk_ p32_3 #[str ([]), str ([50]), str ([48, 49])] 9, bk_ p4 #[i6_ 0, str ([]), str ([])] 28, bk_ p3 #[i6_ a.n, str a.set, str a.rel] 28] : List (Nat × Obj)) rfl rfl rfl rfl Tryd.call125 rfl (fun w1 hw1 => (of_ok B w0 (([bk_ p32_3 #[str ([]), str ([50]), str ([48, 49])] 9, bk_ p4 #[i6_ 0, str ([]), str ([])] 28, bk_ p3 #[i6_ a.n, str a.set, str a.rel] 28] : List (Nat × Obj)) ++ hs) rp p_6 bv L (sl_ p32_3 3 3) (([[], [50], [48, 49]] : List (List UInt8))) w1 (fun w2 hw2 => hb w2 (Own.drop (f := ([bk_ p32_3 #[str ([]), str ([50]), str ([48, 49])] 9, bk_ p4 #[i6_ 0, str ([]), str ([])] 28, bk_ p3 #[i6_ a.n, str a.set, str a.rel] 28] : List (Nat × Obj))) hw2)) hL8 hL (fun w2 h2 => (Own.row h2 (i := 0) rfl (n := 3) (cap := 3) (vs := strs ([[], [50], [48, 49]] : List (List UInt8))) rfl rfl (by decide))) (by simp) (by omega) hw1).mono fun en w' ⟨v', p', h1, h2, h3⟩ => ⟨v', p', h1, h2, h3⟩) fun v33_5 p_33_5 hKp_33_5 => ?_
        show Ll _ _ (Own _ _ (_ :: _ :: _ :: _ :: hs)) _ _ ((33, str v33_5) :: _) _ _ _
        obtain ⟨hmv33_5, hep_33_5⟩ := hKp_33_5
        refine Ll.nil (Lu.joint (pk [1] rfl rfl) ?_)
        refine Lu.loud rfl ?_
        refine Ll.op rfl rfl rfl (OpQ.loadOwn 2 rfl Tryd.isAgg9 rfl rfl rfl) ?_
        refine Ll.nil (Lu.joint (pk [1] rfl rfl) ?_)
        refine Lu.take (v := str (a.rel.take ((((a.rel.length : Int)) - (1 : Int)).toNat))) rfl rfl rfl rfl rfl (OpQ.sliceStrTo rfl Tryd.underlying9 rfl rfl (by omega) (by omega)) (pk [1] rfl rfl) ?_
        have hv33 : v33_5.length ≤ 2 := by simp at hmv33_5; rcases hmv33_5 with h | h | h <;> subst h <;> decide
        refine Lu.take rfl rfl rfl rfl rfl (OpQ.sadd rfl rfl rfl (by simp only [List.length_take]; omega)) (pk [1] rfl rfl) ?_
        refine Lu.take rfl rfl rfl rfl rfl (OpQ.fieldAddr rfl Tryd.runUnderlying28 rfl Tryd.sizeOf9 rfl rfl) (pk [1] rfl rfl) ?_
        refine Lu.loud rfl ?_
        refine Ll.store1 (v := str ((a.rel.take ((((a.rel.length : Int)) - (1 : Int)).toNat)) ++ v33_5)) (hs' := (_ :: _ :: bk_ p3 #[i6_ a.n, str a.set, str ((a.rel.take ((((a.rel.length : Int)) - (1 : Int)).toNat)) ++ v33_5)] 28 :: _ :: hs)) 2 rfl rfl rfl rfl rfl rfl Tryd.sizeOf9 rfl (by simp) rfl ?_
        refine Ll.nil (Lu.joint (pk [1] rfl rfl) ?_)
        refine Lu.nil ?_
        refine Kt.joined ((a.n, a.set, (a.rel.take ((((a.rel.length : Int)) - (1 : Int)).toNat)) ++ v33_5, p_33_5)) ⟨⟨by (try dsimp only); omega, by (try dsimp only); omega⟩, by (try dsimp only); omega, by (try dsimp only); simp only [List.length_append, List.length_take, List.length_cons, List.length_nil]; omega, by (try dsimp only); omega⟩ (Sub.sel [3, 4] rfl) (fun _ h => h.sub (List.Sublist.cons _ (List.Sublist.cons_cons _ (List.Sublist.cons_cons _ (List.Sublist.cons_cons _ (List.Sublist.refl _))))))
     ·
      refine Ll.slice (xs := [.const (str ([])), .const (str ([50])), .const (str ([48, 49]))]) (vs := [str ([]), str ([50]), str ([48, 49])]) Base.elem91 rfl rfl rfl rfl rfl rfl (by decide) rfl fun p32_4 hp32_4 => ?_
      refine Ll.nil (Lu.joint (pk [1] rfl rfl) ?_)
      refine Lu.three rfl rfl rfl ?_ ?_ ?_
      ·
       refine Ll.op rfl rfl rfl (OpQ.loadOwn 2 rfl Tryd.isAgg9 rfl rfl rfl) ?_
       refine Ll.nil (Lu.joint (pk [1] rfl rfl) ?_)
       refine Lu.two rfl rfl ?_ ?_
       ·
        refine Ll.op rfl rfl rfl (OpQ.loadOwn 2 rfl Tryd.isAgg9 rfl rfl rfl) ?_
        refine Ll.nil (Lu.joint (pk [1] rfl rfl) ?_)
        refine Lu.take (v := i6_ ((a.rel.length : Int))) rfl rfl rfl rfl rfl (OpQ.lenStr rfl Tryd.runUnderlying9 rfl) (pk [1] rfl rfl) ?_
        refine Lu.take rfl rfl rfl rfl rfl (OpQ.sub rfl rfl rfl (by omega) (by omega)) (pk [1] rfl rfl) ?_
        refine Lu.take (v := str (a.rel.take ((((a.rel.length : Int)) - (1 : Int)).toNat))) rfl rfl rfl rfl rfl (OpQ.sliceStrTo rfl Tryd.underlying9 rfl rfl (by omega) (by omega)) (pk [1] rfl rfl) ?_
        refine Lu.loud rfl ?_
        refine Ll.callRd (rp := rp) (RT := 110) (p := p_6) (bv := bv) (hs := hs) (ok := fun (v : List UInt8) p' => v ∈ (([[], [50], [48, 49]] : List (List UInt8))) ∧ p' = p_6 + 1) (v := fun (v : List UInt8) => str v) (new := fun (v : List UInt8) => []) (xs := [.tmp 31, .tmp 32]) (vs := [pt_ rp, sl_ p32_4 3 3]) ([bk_ p32_4 #[str ([]), str ([50]), str ([48, 49])] 9, bk_ p4 #[i6_ 0, str ([]), str ([])] 28, bk_ p3 #[i6_ a.n, str a.set, str a.rel] 28] : List (Nat × Obj)) rfl rfl rfl rfl Tryd.call125 rfl (fun w1 hw1 => (of_ok B w0 (([bk_ p32_4 #[str ([]), str ([50]), str ([48, 49])] 9, bk_ p4 #[i6_ 0, str ([]), str ([])] 28, bk_ p3 #[i6_ a.n, str a.set, str a.rel] 28] : List (Nat × Obj)) ++ hs) rp p_6 bv L (sl_ p32_4 3 3) (([[], [50], [48, 49]] : List (List UInt8))) w1 (fun w2 hw2 => hb w2 (Own.drop (f := ([bk_ p32_4 #[str ([]), str ([50]), str ([48, 49])] 9, bk_ p4 #[i6_ 0, str ([]), str ([])] 28, bk_ p3 #[i6_ a.n, str a.set, str a.rel] 28] : List (Nat × Obj))) hw2)) hL8 hL (fun w2 h2 => (Own.row h2 (i := 0) rfl (n := 3) (cap := 3) (vs := strs ([[], [50], [48, 49]] : List (List UInt8))) rfl rfl (by decide))) (by simp) (by omega) hw1).mono fun en w' ⟨v', p', h1, h2, h3⟩ => ⟨v', p', h1, h2, h3⟩) fun v33_6 p_33_6 hKp_33_6 => ?_
        show Ll _ _ (Own _ _ (_ :: _ :: _ :: _ :: hs)) _ _ ((33, str v33_6) :: _) _ _ _
        obtain ⟨hmv33_6, hep_33_6⟩ := hKp_33_6
        refine Ll.nil (Lu.joint (pk [1] rfl rfl) ?_)
        have hv33 : v33_6.length ≤ 2 := by simp at hmv33_6; rcases hmv33_6 with h | h | h <;> subst h <;> decide
        refine Lu.take rfl rfl rfl rfl rfl (OpQ.sadd rfl rfl rfl (by simp only [List.length_take]; omega)) (pk [1] rfl rfl) ?_
        refine Lu.take rfl rfl rfl rfl rfl (OpQ.fieldAddr rfl Tryd.runUnderlying28 rfl Tryd.sizeOf9 rfl rfl) (pk [1] rfl rfl) ?_
        refine Lu.loud rfl ?_
        refine Ll.store1 (v := str ((a.rel.take ((((a.rel.length : Int)) - (1 : Int)).toNat)) ++ v33_6)) (hs' := (_ :: _ :: bk_ p3 #[i6_ a.n, str a.set, str ((a.rel.take ((((a.rel.length : Int)) - (1 : Int)).toNat)) ++ v33_6)] 28 :: _ :: hs)) 2 rfl rfl rfl rfl rfl rfl Tryd.sizeOf9 rfl (by simp) rfl ?_
        refine Ll.nil (Lu.joint (pk [1] rfl rfl) ?_)
        refine Lu.nil ?_
        refine Kt.joined ((a.n, a.set, (a.rel.take ((((a.rel.length : Int)) - (1 : Int)).toNat)) ++ v33_6, p_33_6)) ⟨⟨by (try dsimp only); omega, by (try dsimp only); omega⟩, by (try dsimp only); omega, by (try dsimp only); simp only [List.length_append, List.length_take, List.length_cons, List.length_nil]; omega, by (try dsimp only); omega⟩ (Sub.sel [3, 4] rfl) (fun _ h => h.sub (List.Sublist.cons _ (List.Sublist.cons_cons _ (List.Sublist.cons_cons _ (List.Sublist.cons_cons _ (List.Sublist.refl _))))))
       ·
        refine Ll.callRd (rp := rp) (RT := 110) (p := p_6) (bv := bv) (hs := hs) (ok := fun (v : List UInt8) p' => v ∈ (([[], [50], [48, 49]] : List (List UInt8))) ∧ p' = p_6 + 1) (v := fun (v : List UInt8) => str v) (new := fun (v : List UInt8) => []) (xs := [.tmp 31, .tmp 32]) (vs := [pt_ rp, sl_ p32_4 3 3]) ([bk_ p32_4 #[str ([]), str ([50]), str ([48, 49])] 9, bk_ p4 #[i6_ 0, str ([]), str ([])] 28, bk_ p3 #[i6_ a.n, str a.set, str a.rel] 28] : List (Nat × Obj)) rfl rfl rfl rfl Tryd.call125 rfl (fun w1 hw1 => (of_ok B w0 (([bk_ p32_4 #[str ([]), str ([50]), str ([48, 49])] 9, bk_ p4 #[i6_ 0, str ([]), str ([])] 28, bk_ p3 #[i6_ a.n, str a.set, str a.rel] 28] : List (Nat × Obj)) ++ hs) rp p_6 bv L (sl_ p32_4 3 3) (([[], [50], [48, 49]] : List (List UInt8))) w1 (fun w2 hw2 => hb w2 (Own.drop (f := ([bk_ p32_4 #[str ([]), str ([50]), str ([48, 49])] 9, bk_ p4 #[i6_ 0, str ([]), str ([])] 28, bk_ p3 #[i6_ a.n, str a.set, str a.rel] 28] : List (Nat × Obj))) hw2)) hL8 hL (fun w2 h2 => (Own.row h2 (i := 0) rfl (n := 3) (cap := 3) (vs := strs ([[], [50], [48, 49]] : List (List UInt8))) rfl rfl (by decide))) (by simp) (by omega) hw1).mono fun en w' ⟨v', p', h1, h2, h3⟩ => ⟨v', p', h1, h2, h3⟩) fun v33_7 p_33_7 hKp_33_7 => ?_
        show Ll _ _ (Own _ _ (_ :: _ :: _ :: _ :: hs)) _ _ ((33, str v33_7) :: _) _ _ _
        obtain ⟨hmv33_7, hep_33_7⟩ := hKp_33_7
        refine Ll.nil (Lu.joint (pk [1] rfl rfl) ?_)
        refine Lu.loud rfl ?_
        refine Ll.op rfl rfl rfl (OpQ.loadOwn 2 rfl Tryd.isAgg9 rfl rfl rfl) ?_
        refine Ll.nil (Lu.joint (pk [1] rfl rfl) ?_)
        refine Lu.take (v := i6_ ((a.rel.length : Int))) rfl rfl rfl rfl rfl (OpQ.lenStr rfl Tryd.runUnderlying9 rfl) (pk [1] rfl rfl) ?_
        refine Lu.take rfl rfl rfl rfl rfl (OpQ.sub rfl rfl rfl (by omega) (by omega)) (pk [1] rfl rfl) ?_
        refine Lu.take (v := str (a.rel.take ((((a.rel.length : Int)) - (1 : Int)).toNat))) rfl rfl rfl rfl rfl (OpQ.sliceStrTo rfl Tryd.underlying9 rfl rfl (by omega) (by omega)) (pk [1] rfl rfl) ?_
        have hv33 : v33_7.length ≤ 2 := by simp at hmv33_7; rcases hmv33_7 with h | h | h <;> subst h <;> decide
        refine Lu.take rfl rfl rfl rfl rfl (OpQ.sadd rfl rfl rfl (by simp only [List.length_take]; omega)) (pk [1] rfl rfl) ?_
        refine Lu.take rfl rfl rfl rfl rfl (OpQ.fieldAddr rfl Tryd.runUnderlying28 rfl Tryd.sizeOf9 rfl rfl) (pk [1] rfl rfl) ?_
        refine Lu.loud rfl ?_
        refine Ll.store1 (v := str ((a.rel.take ((((a.rel.length : Int)) - (1 : Int)).toNat)) ++ v33_7)) (hs' := (_ :: _ :: bk_ p3 #[i6_ a.n, str a.set, str ((a.rel.take ((((a.rel.length : Int)) - (1 : Int)).toNat)) ++ v33_7)] 28 :: _ :: hs)) 2 rfl rfl rfl rfl rfl rfl Tryd.sizeOf9 rfl (by simp) rfl ?_
        refine Ll.nil (Lu.joint (pk [1] rfl rfl) ?_)
        refine Lu.nil ?_
        refine Kt.joined ((a.n, a.set, (a.rel.take ((((a.rel.length : Int)) - (1 : Int)).toNat)) ++ v33_7, p_33_7)) ⟨⟨by (try dsimp only); omega, by (try dsimp only); omega⟩, by (try dsimp only); omega, by (try dsimp only); simp only [List.length_append, List.length_take, List.length_cons, List.length_nil]; omega, by (try dsimp only); omega⟩ (Sub.sel [3, 4] rfl) (fun _ h => h.sub (List.Sublist.cons _ (List.Sublist.cons_cons _ (List.Sublist.cons_cons _ (List.Sublist.cons_cons _ (List.Sublist.refl _))))))
      ·
       refine Ll.op rfl rfl rfl (OpQ.loadOwn 2 rfl Tryd.isAgg9 rfl rfl rfl) ?_
       refine Ll.nil (Lu.joint (pk [1] rfl rfl) ?_)
       refine Lu.take (v := i6_ ((a.rel.length : Int))) rfl rfl rfl rfl rfl (OpQ.lenStr rfl Tryd.runUnderlying9 rfl) (pk [1] rfl rfl) ?_
       refine Lu.take rfl rfl rfl rfl rfl (OpQ.sub rfl rfl rfl (by omega) (by omega)) (pk [1] rfl rfl) ?_
       refine Lu.two rfl rfl ?_ ?_
       ·
        refine Ll.op rfl rfl rfl (OpQ.loadOwn 2 rfl Tryd.isAgg9 rfl rfl rfl) ?_
        refine Ll.nil (Lu.joint (pk [1] rfl rfl) ?_)
        refine Lu.take (v := str (a.rel.take ((((a.rel.length : Int)) - (1 : Int)).toNat))) rfl rfl rfl rfl rfl (OpQ.sliceStrTo rfl Tryd.underlying9 rfl rfl (by omega) (by omega)) (pk [1] rfl rfl) ?_
        refine Lu.loud rfl ?_
        refine Ll.callRd (rp := rp) (RT := 110) (p := p_6) (bv := bv) (hs := hs) (ok := fun (v : List UInt8) p' => v ∈ (([[], [50], [48, 49]] : List (List UInt8))) ∧ p' = p_6 + 1) (v := fun (v : List UInt8) => str v) (new := fun (v : List UInt8) => []) (xs := [.tmp 31, .tmp 32]) (vs := [pt_ rp, sl_ p32_4 3 3]) ([bk_ p32_4 #[str ([]), str ([50]), str ([48, 49])] 9, bk_ p4 #[i6_ 0, str ([]), str ([])] 28, bk_ p3 #[i6_ a.n, str a.set, str a.rel] 28] : List (Nat × Obj)) rfl rfl rfl rfl Tryd.call125 rfl (fun w1 hw1 => (of_ok B w0 (([bk_ p32_4 #[str ([]), str ([50]), str ([48, 49])] 9, bk_ p4 #[i6_ 0, str ([]), str ([])] 28, bk_ p3 #[i6_ a.n, str a.set, str a.rel] 28] : List (Nat × Obj)) ++ hs) rp p_6 bv L (sl_ p32_4 3 3) (([[], [50], [48, 49]] : List (List UInt8))) w1 (fun w2 hw2 => hb w2 (Own.drop (f := ([bk_ p32_4 #[str ([]), str ([50]), str ([48, 49])] 9, bk_ p4 #[i6_ 0, str ([]), str ([])] 28, bk_ p3 #[i6_ a.n, str a.set, str a.rel] 28] : List (Nat × Obj))) hw2)) hL8 hL (fun w2 h2 => (Own.row h2 (i := 0) rfl (n := 3) (cap := 3) (vs := strs ([[], [50], [48, 49]] : List (List UInt8))) rfl rfl (by decide))) (by simp) (by omega) hw1).mono fun en w' ⟨v', p', h1, h2, h3⟩ => ⟨v', p', h1, h2, h3⟩) fun v33_8 p_33_8 hKp_33_8 => ?_
        show Ll _ _ (Own _ _ (_ :: _ :: _ :: _ :: hs)) _ _ ((33, str v33_8) :: _) _ _ _
        obtain ⟨hmv33_8, hep_33_8⟩ := hKp_33_8
        refine Ll.nil (Lu.joint (pk [1] rfl rfl) ?_)
        have hv33 : v33_8.length ≤ 2 := by simp at hmv33_8; rcases hmv33_8 with h | h | h <;> subst h <;> decide
        refine Lu.take rfl rfl rfl rfl rfl (OpQ.sadd rfl rfl rfl (by simp only [List.length_take]; omega)) (pk [1] rfl rfl) ?_
        refine Lu.take rfl rfl rfl rfl rfl (OpQ.fieldAddr rfl Tryd.runUnderlying28 rfl Tryd.sizeOf9 rfl rfl) (pk [1] rfl rfl) ?_
        refine Lu.loud rfl ?_
        refine Ll.store1 (v := str ((a.rel.take ((((a.rel.length : Int)) - (1 : Int)).toNat)) ++ v33_8)) (hs' := (_ :: _ :: bk_ p3 #[i6_ a.n, str a.set, str ((a.rel.take ((((a.rel.length : Int)) - (1 : Int)).toNat)) ++ v33_8)] 28 :: _ :: hs)) 2 rfl rfl rfl rfl rfl rfl Tryd.sizeOf9 rfl (by simp) rfl ?_
        refine Ll.nil (Lu.joint (pk [1] rfl rfl) ?_)
        refine Lu.nil ?_
        refine Kt.joined ((a.n, a.set, (a.rel.take ((((a.rel.length : Int)) - (1 : Int)).toNat)) ++ v33_8, p_33_8)) ⟨⟨by (try dsimp only); omega, by (try dsimp only); omega⟩, by (try dsimp only); omega, by (try dsimp only); simp only [List.length_append, List.length_take, List.length_cons, List.length_nil]; omega, by (try dsimp only); omega⟩ (Sub.sel [3, 4] rfl) (fun _ h => h.sub (List.Sublist.cons _ (List.Sublist.cons_cons _ (List.Sublist.cons_cons _ (List.Sublist.cons_cons _ (List.Sublist.refl _))))))
       ·
        refine Ll.callRd (rp := rp) (RT := 110) (p := p_6) (bv := bv) (hs := hs) (ok := fun (v : List UInt8) p' => v ∈ (([[], [50], [48, 49]] : List (List UInt8))) ∧ p' = p_6 + 1) (v := fun (v : List UInt8) => str v) (new := fun (v : List UInt8) => []) (xs := [.tmp 31, .tmp 32]) (vs := [pt_ rp, sl_ p32_4 3 3]) ([bk_ p32_4 #[str ([]), str ([50]), str ([48, 49])] 9, bk_ p4 #[i6_ 0, str ([]), str ([])] 28, bk_ p3 #[i6_ a.n, str a.set, str a.rel] 28] : List (Nat × Obj)) rfl rfl rfl rfl Tryd.call125 rfl (fun w1 hw1 => (of_ok B w0 (([bk_ p32_4 #[str ([]), str ([50]), str ([48, 49])] 9, bk_ p4 #[i6_ 0, str ([]), str ([])] 28, bk_ p3 #[i6_ a.n, str a.set, str a.rel] 28] : List (Nat × Obj)) ++ hs) rp p_6 bv L (sl_ p32_4 3 3) (([[], [50], [48, 49]] : List (List UInt8))) w1 (fun w2 hw2 => hb w2 (Own.drop (f := ([bk_ p32_4 #[str ([]), str ([50]), str ([48, 49])] 9, bk_ p4 #[i6_ 0, str ([]), str ([])] 28, bk_ p3 #[i6_ a.n, str a.set, str a.rel] 28] : List (Nat × Obj))) hw2)) hL8 hL (fun w2 h2 => (Own.row h2 (i := 0) rfl (n := 3) (cap := 3) (vs := strs ([[], [50], [48, 49]] : List (List UInt8))) rfl rfl (by decide))) (by simp) (by omega) hw1).mono fun en w' ⟨v', p', h1, h2, h3⟩ => ⟨v', p', h1, h2, h3⟩) fun v33_9 p_33_9 hKp_33_9 => ?_
        show Ll _ _ (Own _ _ (_ :: _ :: _ :: _ :: hs)) _ _ ((33, str v33_9) :: _) _ _ _
        obtain ⟨hmv33_9, hep_33_9⟩ := hKp_33_9
        refine Ll.nil (Lu.joint (pk [1] rfl rfl) ?_)
        refine Lu.loud rfl ?_
        refine Ll.op rfl rfl rfl (OpQ.loadOwn 2 rfl Tryd.isAgg9 rfl rfl rfl) ?_
        refine Ll.nil (Lu.joint (pk [1] rfl rfl) ?_)
        refine Lu.take (v := str (a.rel.take ((((a.rel.length : Int)) - (1 : Int)).toNat))) rfl rfl rfl rfl rfl (OpQ.sliceStrTo rfl Tryd.underlying9 rfl rfl (by omega) (by omega)) (pk [1] rfl rfl) ?_
        have hv33 : v33_9.length ≤ 2 := by simp at hmv33_9; rcases hmv33_9 with h | h | h <;> subst h <;> decide
        refine Lu.take rfl rfl rfl rfl rfl (OpQ.sadd rfl rfl rfl (by simp only [List.length_take]; omega)) (pk [1] rfl rfl) ?_
        refine Lu.take rfl rfl rfl rfl rfl (OpQ.fieldAddr rfl Tryd.runUnderlying28 rfl Tryd.sizeOf9 rfl rfl) (pk [1] rfl rfl) ?_
        refine Lu.loud rfl ?_
        refine Ll.store1 (v := str ((a.rel.take ((((a.rel.length : Int)) - (1 : Int)).toNat)) ++ v33_9)) (hs' := (_ :: _ :: bk_ p3 #[i6_ a.n, str a.set, str ((a.rel.take ((((a.rel.length : Int)) - (1 : Int)).toNat)) ++ v33_9)] 28 :: _ :: hs)) 2 rfl rfl rfl rfl rfl rfl Tryd.sizeOf9 rfl (by simp) rfl ?_
        refine Ll.nil (Lu.joint (pk [1] rfl rfl) ?_)
        refine Lu.nil ?_
        refine Kt.joined ((a.n, a.set, (a.rel.take ((((a.rel.length : Int)) - (1 : Int)).toNat)) ++ v33_9, p_33_9)) ⟨⟨by (try dsimp only); omega, by (try dsimp only); omega⟩, by (try dsimp only); omega, by (try dsimp only); simp only [List.length_append, List.length_take, List.length_cons, List.length_nil]; omega, by (try dsimp only); omega⟩ (Sub.sel [3, 4] rfl) (fun _ h => h.sub (List.Sublist.cons _ (List.Sublist.cons_cons _ (List.Sublist.cons_cons _ (List.Sublist.cons_cons _ (List.Sublist.refl _))))))
      ·
       refine Ll.callRd (rp := rp) (RT := 110) (p := p_6) (bv := bv) (hs := hs) (ok := fun (v : List UInt8) p' => v ∈ (([[], [50], [48, 49]] : List (List UInt8))) ∧ p' = p_6 + 1) (v := fun (v : List UInt8) => str v) (new := fun (v : List UInt8) => []) (xs := [.tmp 31, .tmp 32]) (vs := [pt_ rp, sl_ p32_4 3 3]) ([bk_ p32_4 #[str ([]), str ([50]), str ([48, 49])] 9, bk_ p4 #[i6_ 0, str ([]), str ([])] 28, bk_ p3 #[i6_ a.n, str a.set, str a.rel] 28] : List (Nat × Obj)) rfl rfl rfl rfl Tryd.call125 rfl (fun w1 hw1 => (of_ok B w0 (([bk_ p32_4 #[str ([]), str ([50]), str ([48, 49])] 9, bk_ p4 #[i6_ 0, str ([]), str ([])] 28, bk_ p3 #[i6_ a.n, str a.set, str a.rel] 28] : List (Nat × Obj)) ++ hs) rp p_6 bv L (sl_ p32_4 3 3) (([[], [50], [48, 49]] : List (List UInt8))) w1 (fun w2 hw2 => hb w2 (Own.drop (f := ([bk_ p32_4 #[str ([]), str ([50]), str ([48, 49])] 9, bk_ p4 #[i6_ 0, str ([]), str ([])] 28, bk_ p3 #[i6_ a.n, str a.set, str a.rel] 28] : List (Nat × Obj))) hw2)) hL8 hL (fun w2 h2 => (Own.row h2 (i := 0) rfl (n := 3) (cap := 3) (vs := strs ([[], [50], [48, 49]] : List (List UInt8))) rfl rfl (by decide))) (by simp) (by omega) hw1).mono fun en w' ⟨v', p', h1, h2, h3⟩ => ⟨v', p', h1, h2, h3⟩) fun v33_10 p_33_10 hKp_33_10 => ?_
       show Ll _ _ (Own _ _ (_ :: _ :: _ :: _ :: hs)) _ _ ((33, str v33_10) :: _) _ _ _
       obtain ⟨hmv33_10, hep_33_10⟩ := hKp_33_10
       refine Ll.nil (Lu.joint (pk [1] rfl rfl) ?_)
       refine Lu.two rfl rfl ?_ ?_
       ·
        refine Ll.op rfl rfl rfl (OpQ.loadOwn 2 rfl Tryd.isAgg9 rfl rfl rfl) ?_
        refine Ll.nil (Lu.joint (pk [1] rfl rfl) ?_)
        refine Lu.loud rfl ?_
        refine Ll.op rfl rfl rfl (OpQ.loadOwn 2 rfl Tryd.isAgg9 rfl rfl rfl) ?_
        refine Ll.nil (Lu.joint (pk [1] rfl rfl) ?_)
        refine Lu.take (v := i6_ ((a.rel.length : Int))) rfl rfl rfl rfl rfl (OpQ.lenStr rfl Tryd.runUnderlying9 rfl) (pk [1] rfl rfl) ?_
        refine Lu.take rfl rfl rfl rfl rfl (OpQ.sub rfl rfl rfl (by omega) (by omega)) (pk [1] rfl rfl) ?_
        refine Lu.take (v := str (a.rel.take ((((a.rel.length : Int)) - (1 : Int)).toNat))) rfl rfl rfl rfl rfl (OpQ.sliceStrTo rfl Tryd.underlying9 rfl rfl (by omega) (by omega)) (pk [1] rfl rfl) ?_
        have hv33 : v33_10.length ≤ 2 := by simp at hmv33_10; rcases hmv33_10 with h | h | h <;> subst h <;> decide
        refine Lu.take rfl rfl rfl rfl rfl (OpQ.sadd rfl rfl rfl (by simp only [List.length_take]; omega)) (pk [1] rfl rfl) ?_
        refine Lu.take rfl rfl rfl rfl rfl (OpQ.fieldAddr rfl Tryd.runUnderlying28 rfl Tryd.sizeOf9 rfl rfl) (pk [1] rfl rfl) ?_
        refine Lu.loud rfl ?_
        refine Ll.store1 (v := str ((a.rel.take ((((a.rel.length : Int)) - (1 : Int)).toNat)) ++ v33_10)) (hs' := (_ :: _ :: bk_ p3 #[i6_ a.n, str a.set, str ((a.rel.take ((((a.rel.length : Int)) - (1 : Int)).toNat)) ++ v33_10)] 28 :: _ :: hs)) 2 rfl rfl rfl rfl rfl rfl Tryd.sizeOf9 rfl (by simp) rfl ?_
        refine Ll.nil (Lu.joint (pk [1] rfl rfl) ?_)
        refine Lu.nil ?_
        refine Kt.joined ((a.n, a.set, (a.rel.take ((((a.rel.length : Int)) - (1 : Int)).toNat)) ++ v33_10, p_33_10)) ⟨⟨by (try dsimp only); omega, by (try dsimp only); omega⟩, by (try dsimp only); omega, by (try dsimp only); simp only [List.length_append, List.length_take, List.length_cons, List.length_nil]; omega, by (try dsimp only); omega⟩ (Sub.sel [3, 4] rfl) (fun _ h => h.sub (List.Sublist.cons _ (List.Sublist.cons_cons _ (List.Sublist.cons_cons _ (List.Sublist.cons_cons _ (List.Sublist.refl _))))))
       ·
        refine Ll.op rfl rfl rfl (OpQ.loadOwn 2 rfl Tryd.isAgg9 rfl rfl rfl) ?_
        refine Ll.nil (Lu.joint (pk [1] rfl rfl) ?_)
        refine Lu.take (v := i6_ ((a.rel.length : Int))) rfl rfl rfl rfl rfl (OpQ.lenStr rfl Tryd.runUnderlying9 rfl) (pk [1] rfl rfl) ?_
        refine Lu.take rfl rfl rfl rfl rfl (OpQ.sub rfl rfl rfl (by omega) (by omega)) (pk [1] rfl rfl) ?_
        refine Lu.loud rfl ?_
        refine Ll.op rfl rfl rfl (OpQ.loadOwn 2 rfl Tryd.isAgg9 rfl rfl rfl) ?_
        refine Ll.nil (Lu.joint (pk [1] rfl rfl) ?_)
        refine Lu.take (v := str (a.rel.take ((((a.rel.length : Int)) - (1 : Int)).toNat))) rfl rfl rfl rfl rfl (OpQ.sliceStrTo rfl Tryd.underlying9 rfl rfl (by omega) (by omega)) (pk [1] rfl rfl) ?_
        have hv33 : v33_10.length ≤ 2 := by simp at hmv33_10; rcases hmv33_10 with h | h | h <;> subst h <;> decide
        refine Lu.take rfl rfl rfl rfl rfl (OpQ.sadd rfl rfl rfl (by simp only [List.length_take]; omega)) (pk [1] rfl rfl) ?_
        refine Lu.take rfl rfl rfl rfl rfl (OpQ.fieldAddr rfl Tryd.runUnderlying28 rfl Tryd.sizeOf9 rfl rfl) (pk [1] rfl rfl) ?_
        refine Lu.loud rfl ?_
        refine Ll.store1 (v := str ((a.rel.take ((((a.rel.length : Int)) - (1 : Int)).toNat)) ++ v33_10)) (hs' := (_ :: _ :: bk_ p3 #[i6_ a.n, str a.set, str ((a.rel.take ((((a.rel.length : Int)) - (1 : Int)).toNat)) ++ v33_10)] 28 :: _ :: hs)) 2 rfl rfl rfl rfl rfl rfl Tryd.sizeOf9 rfl (by simp) rfl ?_
        refine Ll.nil (Lu.joint (pk [1] rfl rfl) ?_)
        refine Lu.nil ?_
        refine Kt.joined ((a.n, a.set, (a.rel.take ((((a.rel.length : Int)) - (1 : Int)).toNat)) ++ v33_10, p_33_10)) ⟨⟨by (try dsimp only); omega, by (try dsimp only); omega⟩, by (try dsimp only); omega, by (try dsimp only); simp only [List.length_append, List.length_take, List.length_cons, List.length_nil]; omega, by (try dsimp only); omega⟩ (Sub.sel [3, 4] rfl) (fun _ h => h.sub (List.Sublist.cons _ (List.Sublist.cons_cons _ (List.Sublist.cons_cons _ (List.Sublist.cons_cons _ (List.Sublist.refl _))))))
    ·
     replace h22 := of_decide_eq_false h22
     refine Wk.seq ?_
     refine Wk.regionQ ?_
     refine Lq.run 2 rfl ?_
     refine Lq.nil ?_
     refine Kt.sel [3, 4, 36] [_, _, _] rfl ?_
     refine Wk.cond (b := decide (k6 = (3 : Int))) rfl (fun h36 => ?_) (fun h36 => ?_)
     ·
      replace h36 := of_decide_eq_true h36
      refine Wk.seq ?_
      refine Wk.region ?_
      refine Ll.callSome (ok := fun (t : List UInt8) => t.length ≤ 40000) (v := fun (t : List UInt8) => str t) (xs := [.const (str ([48])), .const (i6_ 9)]) (vs := [str ([48]), i6_ 9]) rfl rfl rfl rfl Tryd.call126 rfl (fun w1 hw1 => (many_ok ([48]) w1 9 (by decide) (by decide) rfl).mono fun en w' ⟨t, h1, h2, h3⟩ => ⟨t, h1, h2, h3⟩) fun t38 hS38 => ?_
      show Ll _ _ (Own _ _ (_ :: _ :: _ :: hs)) _ _ ((38, str t38) :: _) _ _ _
      have hlt38 := hS38
      refine Ll.callSome (ok := fun (t : List UInt8) => t.length ≤ 40000) (v := fun (t : List UInt8) => str t) (xs := [.const (str ([49])), .const (i6_ 81)]) (vs := [str ([49]), i6_ 81]) rfl rfl rfl rfl Tryd.call126 rfl (fun w1 hw1 => (many_ok ([49]) w1 81 (by decide) (by decide) rfl).mono fun en w' ⟨t, h1, h2, h3⟩ => ⟨t, h1, h2, h3⟩) fun t39 hS39 => ?_
      show Ll _ _ (Own _ _ (_ :: _ :: _ :: hs)) _ _ ((39, str t39) :: _) _ _ _
      have hlt39 := hS39
      refine Ll.op (v := .agg #[i6_ 9, str t38, str t39]) rfl rfl rfl (OpQ.build (xs := [.const (i6_ 9), .tmp 38, .tmp 39]) (vs := [i6_ 9, str t38, str t39]) rfl rfl (by kernel_rfl)) ?_
      refine Ll.storeBox (cs' := #[i6_ 9, str t38, str t39]) (hs' := (bk_ p4 #[i6_ 9, str t38, str t39] 28 :: _ :: _ :: hs)) 0 rfl rfl rfl rfl rfl (by kernel_rfl : _ = some Tryd.t28) rfl rfl rfl rfl rfl ?_
      refine Ll.nil ?_
      refine Kt.sel [4] [_] rfl ?_
      refine Wk.ret (Kt.endBox (cs := #[i6_ 9, str t38, str t39]) 0 rfl rfl rfl Tryd.isAgg28 Tryd.sizeOf28 fun w' hw => ?_)
      -- ret 0: pt_ p4
      exact ⟨⟨9, t38, t39⟩, p_6, rfl, ⟨⟨⟨by dsimp only; omega, by dsimp only; omega⟩, by dsimp only; omega, by dsimp only; omega⟩, by omega⟩, hw.sub (List.Sublist.cons _ (List.Sublist.cons _ (List.Sublist.cons_cons _ (List.Sublist.refl _))))⟩
     ·
      replace h36 := of_decide_eq_false h36
      refine Wk.skip ?_
      refine Kt.joined ((a.n, a.set, a.rel, p_6)) ⟨⟨by (try dsimp only); omega, by (try dsimp only); omega⟩, by (try dsimp only); omega, by (try dsimp only); omega, by (try dsimp only); omega⟩ (Sub.sel [3, 4] rfl) (fun _ h => h.sub (List.Sublist.cons_cons _ (List.Sublist.cons_cons _ (List.Sublist.cons_cons _ (List.Sublist.refl _)))))
 rintro ⟨N, S, R, p9⟩ ⟨⟨hN0, hN1⟩, hS, hR, hp9⟩
 dsimp only
 refine Kt.sel [3, 4] [_, _] rfl ?_
 refine Wk.seq ?_
 refine Wk.region ?_
 refine Ll.op rfl rfl rfl (OpQ.loadBox (cs := #[i6_ N, str S, str R]) 1 rfl Tryd.isAgg28 rfl rfl Tryd.sizeOf28) ?_
 refine Ll.storeBox (cs' := #[i6_ N, str S, str R]) (hs' := (bk_ p4 #[i6_ N, str S, str R] 28 :: _ :: _ :: hs)) 0 rfl rfl rfl rfl rfl (by kernel_rfl : _ = some Tryd.t28) rfl rfl rfl rfl rfl ?_
 refine Ll.nil ?_
 refine Kt.sel [4] [_] rfl ?_
 refine Wk.ret (Kt.endBox (cs := #[i6_ N, str S, str R]) 0 rfl rfl rfl Tryd.isAgg28 Tryd.sizeOf28 fun w' hw => ?_)
 -- ret 1: pt_ p4
 exact ⟨⟨N, S, R⟩, p9, rfl, ⟨⟨⟨by dsimp only; omega, by dsimp only; omega⟩, by dsimp only; omega, by dsimp only; omega⟩, by omega⟩, hw.sub (List.Sublist.cons _ (List.Sublist.cons _ (List.Sublist.cons_cons _ (List.Sublist.refl _))))⟩

end Go.Proofs.YtjcoijejhachhaaDoor
