/-
  Walks: draws of games.
-/
import Derived.Test.YtmannilblelfjaaDoorDrawsC
import Derived.Test.YtmannilblelfjaaDoorBase
namespace Go.Proofs.YtmannilblelfjaaDoor
open Go.RowKit Go.Wk
set_option linter.unusedSimpArgs false

set_option maxHeartbeats 400000 in
/-- spec.l5Draw -/
theorem l5Draw_ok (B : Nat) (w0 : World) (hs : List (Nat × Obj)) (rp p : Nat) (bv : Value) (L : List Int) (w : World) (hb : ∀ w, Own B w0 hs w → Row w bv (u8s L)) (hL8 : Bytes8 L) (hL : L.length ≤ 2000) (hp : p ≤ 500000) (hw : Own B w0 ((rp, .cells #[bv, .int .i64 (p : Int)] 119 (0, 0)) :: hs) w) :
    Calls Tryd.prog 79 [pt_ rp].toArray w fun en w' => ∃ a : St, ∃ b : St, ∃ v : Value, ∃ xs : List Int, ∃ u : Value, ∃ ys : List Int, ∃ new : List (Nat × Obj), ∃ r : Int, ∃ p' : Nat, en = .returned (.tuple #[vS a, v, vS b, u, .int .i64 r]) ∧ (((a.Tame ∧ b.Tame) ∧ (xs.length ≤ 40 ∧ ys.length ≤ 40) ∧ ∀ w1, Own B w0 new w1 → Ints w1 v xs ∧ Ints w1 u ys) ∧ (-1 ≤ r ∧ r ≤ 4) ∧ p' ≤ p + 2010) ∧ Own B w0 ((rp, .cells #[bv, .int .i64 (p' : Int)] 119 (0, 0)) :: (new ++ hs)) w' := by
 refine fnStartC (Own B w0 ((rp, .cells #[bv, .int .i64 (p : Int)] 119 (0, 0)) :: hs)) (n := 49) (e := [(0, pt_ rp)]) Tryd.func79 rfl rfl rfl rfl Ends.both hw ?_
 refine Wk.seq ?_
 refine Wk.region ?_
 refine Ll.alloc rfl rfl rfl rfl Tryd.zeroValue24 fun p2 hp2 => ?_
 show Ll _ _ (Own _ _ (bk_ p2 #[i6_ 0, str ([]), str ([])] 24 :: _ :: hs)) _ _ ((2, pt_ p2) :: _) _ _ _
 refine Ll.run 1 rfl ?_
 refine Ll.alloc rfl rfl rfl rfl Tryd.zeroValue24 fun p4 hp4 => ?_
 show Ll _ _ (Own _ _ (bk_ p4 #[i6_ 0, str ([]), str ([])] 24 :: _ :: _ :: hs)) _ _ ((4, pt_ p4) :: _) _ _ _
 refine Ll.run 2 rfl ?_
 refine Ll.nil ?_
 refine Kt.sel [0, 2, 4] [_, _, _] rfl ?_
 refine Wk.seq ?_
 refine Wk.region ?_
 refine Ll.run 1 rfl ?_
 refine Ll.callRdL (rp := rp) (RT := 119) (p := p) (bv := bv) (hs := hs) (ok := fun ((a, b, v, xs, u, ys, new) : St × St × Value × List Int × Value × List Int × List (Nat × Obj)) p' => ((a.Tame ∧ b.Tame) ∧ (xs.length ≤ 40 ∧ ys.length ≤ 40) ∧ ∀ w1, Own B w0 new w1 → Ints w1 v xs ∧ Ints w1 u ys) ∧ p' ≤ p + 2000) (v := fun ((a, b, v, xs, u, ys, new) : St × St × Value × List Int × Value × List Int × List (Nat × Obj)) => .tuple #[vS a, v, vS b, u]) (new := fun ((a, b, v, xs, u, ys, new) : St × St × Value × List Int × Value × List Int × List (Nat × Obj)) => new) (xs := [.tmp 12]) (vs := [pt_ rp]) ([bk_ p4 #[i6_ 0, str ([]), str ([])] 24, bk_ p2 #[i6_ 0, str ([]), str ([])] 24] : List (Nat × Obj)) rfl rfl rfl rfl Tryd.call70 rfl (fun w1 hw1 => (l4Pair_ok B w0 (([bk_ p4 #[i6_ 0, str ([]), str ([])] 24, bk_ p2 #[i6_ 0, str ([]), str ([])] 24] : List (Nat × Obj)) ++ hs) rp p bv L w1 (fun w2 hw2 => hb w2 (Own.drop (f := ([bk_ p4 #[i6_ 0, str ([]), str ([])] 24, bk_ p2 #[i6_ 0, str ([]), str ([])] 24] : List (Nat × Obj))) hw2)) hL8 hL (by omega) hw1).mono fun en w' ⟨a, b, v, xs, u, ys, new, p', h1, h2, h3⟩ => ⟨(a, b, v, xs, u, ys, new), p', h1, h2, h3⟩) fun ⟨a13, b13, v13, xs13, u13, ys13, new13⟩ p_13 hK => ?_
 dsimp only at hK
 obtain ⟨⟨⟨hta13, htb13⟩, ⟨hlxs13, hlys13⟩, hrw⟩, hep_13⟩ := hK
 have hIv13 : ∀ w1, Own B w0 new13 w1 → Ints w1 v13 xs13 := fun w1 h => (hrw w1 h).1
 have hIu13 : ∀ w1, Own B w0 new13 w1 → Ints w1 u13 ys13 := fun w1 h => (hrw w1 h).2
 show Ll _ _ (Own _ _ (_ :: _ :: _ :: (new13 ++ hs))) _ _ ((13, .tuple #[vS a13, v13, vS b13, u13]) :: _) _ _ _
 refine Ll.run 1 rfl ?_
 refine Ll.op (v := vS a13) rfl rfl rfl (OpQ.extract rfl rfl rfl) ?_
 refine Ll.op (v := v13) rfl rfl rfl (OpQ.extract rfl rfl rfl) ?_
 refine Ll.op (v := vS b13) rfl rfl rfl (OpQ.extract rfl rfl rfl) ?_
 refine Ll.op (v := u13) rfl rfl rfl (OpQ.extract rfl rfl rfl) ?_
 refine Ll.alloc rfl rfl rfl rfl Tryd.zeroValue24 fun p7 hp7 => ?_
 show Ll _ _ (Own _ _ (bk_ p7 #[i6_ 0, str ([]), str ([])] 24 :: _ :: _ :: _ :: (new13 ++ hs))) _ _ ((7, pt_ p7) :: _) _ _ _
 refine Ll.alloc rfl rfl rfl rfl Tryd.zeroValue24 fun p9 hp9 => ?_
 show Ll _ _ (Own _ _ (bk_ p9 #[i6_ 0, str ([]), str ([])] 24 :: _ :: _ :: _ :: _ :: (new13 ++ hs))) _ _ ((9, pt_ p9) :: _) _ _ _
 refine Ll.storeBox (cs' := #[i6_ a13.n, str a13.set, str a13.rel]) (hs' := (_ :: bk_ p7 #[i6_ a13.n, str a13.set, str a13.rel] 24 :: _ :: _ :: _ :: (new13 ++ hs))) 1 rfl rfl rfl rfl rfl (by kernel_rfl : _ = some Tryd.t24) rfl rfl rfl rfl rfl ?_
 refine Ll.run 1 rfl ?_
 refine Ll.storeBox (cs' := #[i6_ b13.n, str b13.set, str b13.rel]) (hs' := (bk_ p9 #[i6_ b13.n, str b13.set, str b13.rel] 24 :: _ :: _ :: _ :: _ :: (new13 ++ hs))) 0 rfl rfl rfl rfl rfl (by kernel_rfl : _ = some Tryd.t24) rfl rfl rfl rfl rfl ?_
 refine Ll.run 1 rfl ?_
 refine Ll.nil ?_
 refine Kt.sel [0, 2, 4, 7, 8, 9, 10] [_, _, _, _, _, _, _] rfl ?_
 refine Wk.seq ?_
 refine Wk.seq ?_
 refine Wk.regionQ ?_
 refine Lq.run 1 rfl ?_
 refine Lq.op rfl rfl rfl (OpQ.lenRow rfl Tryd.runUnderlying25 rfl (ints_length _) (fun w1 hw1 => hIv13 _ (Own.dropR (Own.drop (f := [_, _, _, _, _]) hw1)))) ?_
 refine Lq.run 2 rfl ?_
 refine Lq.bool fun b21 hg21 => ?_
 cases b21
 ·
  replace hg21 := of_decide_eq_false hg21
  refine Lq.pass rfl rfl rfl ?_
  refine Lq.pass rfl rfl rfl ?_
  refine Lq.pass rfl rfl rfl ?_
  refine Lq.pass rfl rfl rfl ?_
  refine Lq.pass rfl rfl rfl ?_
  refine Lq.run 1 rfl ?_
  refine Lq.nil ?_
  refine Kt.sel [0, 2, 4, 7, 8, 9, 10, 27] [_, _, _, _, _, _, _, _] rfl ?_
  refine Wk.condF rfl ?_
  refine Wk.skip ?_
  refine Kt.sel [0, 2, 4, 7, 8, 9, 10] [_, _, _, _, _, _, _] rfl ?_
  refine Wk.seq ?_
  refine Wk.seq ?_
  refine Wk.region ?_
  refine Ll.run 1 rfl ?_
  refine Ll.callRd (rp := rp) (RT := 119) (p := p_13) (bv := bv) (hs := (new13 ++ hs)) (ok := fun (k : Int) p' => 0 ≤ k ∧ (1 ≤ (30 : Int) → k < 30) ∧ p' = p_13 + 1) (v := fun (k : Int) => i6_ k) (new := fun (k : Int) => []) (xs := [.tmp 32, .const (i6_ 30)]) (vs := [pt_ rp, i6_ 30]) ([bk_ p9 #[i6_ b13.n, str b13.set, str b13.rel] 24, bk_ p7 #[i6_ a13.n, str a13.set, str a13.rel] 24, bk_ p4 #[i6_ 0, str ([]), str ([])] 24, bk_ p2 #[i6_ 0, str ([]), str ([])] 24] : List (Nat × Obj)) rfl rfl rfl rfl Tryd.call123 rfl (fun w1 hw1 => (pick_ok B w0 (([bk_ p9 #[i6_ b13.n, str b13.set, str b13.rel] 24, bk_ p7 #[i6_ a13.n, str a13.set, str a13.rel] 24, bk_ p4 #[i6_ 0, str ([]), str ([])] 24, bk_ p2 #[i6_ 0, str ([]), str ([])] 24] : List (Nat × Obj)) ++ (new13 ++ hs)) rp p_13 bv L 30 w1 (fun w2 hw2 => (fun w h => hb w (Own.drop (f := new13) h)) w2 (Own.drop (f := ([bk_ p9 #[i6_ b13.n, str b13.set, str b13.rel] 24, bk_ p7 #[i6_ a13.n, str a13.set, str a13.rel] 24, bk_ p4 #[i6_ 0, str ([]), str ([])] 24, bk_ p2 #[i6_ 0, str ([]), str ([])] 24] : List (Nat × Obj))) hw2)) hL8 hL (by omega) hw1).mono fun en w' ⟨k', p', h1, h2, h3⟩ => ⟨k', p', h1, h2, h3⟩) fun k33 p_33 hKp_33 => ?_
  show Ll _ _ (Own _ _ (_ :: _ :: _ :: _ :: _ :: (new13 ++ hs))) _ _ ((33, i6_ k33) :: _) _ _ _
  obtain ⟨h0k33, h1k33, hep_33⟩ := hKp_33
  try have hltk33 := h1k33 (by first | omega | (split <;> omega) | decide)
  refine Ll.run 1 rfl ?_
  refine Ll.nil ?_
  refine Kt.sel [0, 2, 4, 7, 8, 9, 10, 34] [_, _, _, _, _, _, _, _] rfl ?_
  refine Wk.cond (b := decide (k33 = (0 : Int))) rfl (fun h34 => ?_) (fun h34 => ?_)
  ·
   replace h34 := of_decide_eq_true h34
   refine Wk.seq ?_
   refine Wk.regionS (S := Own B w0 [bk_ p9 #[i6_ b13.n, str b13.set, str b13.rel] 24, bk_ p7 #[i6_ a13.n, str a13.set, str a13.rel] 24]) [(0, true), (1, true), (2, true), (3, true), (4, true), (5, false), (6, false), (7, false), (8, true), (9, false), (10, true), (11, true)] Base.mixed (fun _ h => h.drawn) (by kernel_rfl) ?_
   refine Ld.take rfl rfl rfl rfl rfl (OpQ.loadBox (cs := #[i6_ a13.n, str a13.set, str a13.rel]) 1 rfl Tryd.isAgg24 rfl rfl Tryd.sizeOf24) (pk [0, 1] rfl rfl) ?_
   refine Ld.run 1 rfl (pk [0, 1] rfl rfl) ?_
   refine Ld.take rfl rfl rfl rfl rfl (OpQ.loadBox (cs := #[i6_ b13.n, str b13.set, str b13.rel]) 0 rfl Tryd.isAgg24 rfl rfl Tryd.sizeOf24) (pk [0, 1] rfl rfl) ?_
   refine Ld.run 2 rfl (pk [0, 1] rfl rfl) ?_
   refine Ld.loud rfl ?_
   refine Ll.slice (xs := [.const (i6_ (-1)), .const (i6_ 4)]) (vs := [i6_ (-1), i6_ 4]) Base.elem25 rfl rfl rfl rfl rfl rfl (by decide) rfl fun p40 hp40 => ?_
   refine Ll.nil (Ld.joint (pk [1, 2] rfl rfl) ?_)
   refine Ld.loud rfl ?_
   refine Ll.callRd (rp := rp) (RT := 119) (p := p_33) (bv := bv) (hs := (new13 ++ hs)) (ok := fun (v : Int) p' => v ∈ ([-1, 4]) ∧ p' = p_33 + 1) (v := fun (v : Int) => i6_ v) (new := fun (v : Int) => []) (xs := [.tmp 39, .tmp 40]) (vs := [pt_ rp, sl_ p40 2 2]) ([bk_ p40 #[i6_ (-1), i6_ 4] 3, bk_ p9 #[i6_ b13.n, str b13.set, str b13.rel] 24, bk_ p7 #[i6_ a13.n, str a13.set, str a13.rel] 24, bk_ p4 #[i6_ 0, str ([]), str ([])] 24, bk_ p2 #[i6_ 0, str ([]), str ([])] 24] : List (Nat × Obj)) rfl rfl rfl rfl Tryd.call85 rfl (fun w1 hw1 => (num_ok B w0 (([bk_ p40 #[i6_ (-1), i6_ 4] 3, bk_ p9 #[i6_ b13.n, str b13.set, str b13.rel] 24, bk_ p7 #[i6_ a13.n, str a13.set, str a13.rel] 24, bk_ p4 #[i6_ 0, str ([]), str ([])] 24, bk_ p2 #[i6_ 0, str ([]), str ([])] 24] : List (Nat × Obj)) ++ (new13 ++ hs)) rp p_33 bv L (sl_ p40 2 2) ([-1, 4]) w1 (fun w2 hw2 => (fun w h => hb w (Own.drop (f := new13) h)) w2 (Own.drop (f := ([bk_ p40 #[i6_ (-1), i6_ 4] 3, bk_ p9 #[i6_ b13.n, str b13.set, str b13.rel] 24, bk_ p7 #[i6_ a13.n, str a13.set, str a13.rel] 24, bk_ p4 #[i6_ 0, str ([]), str ([])] 24, bk_ p2 #[i6_ 0, str ([]), str ([])] 24] : List (Nat × Obj))) hw2)) hL8 hL (fun w2 h2 => (Own.row h2 (i := 0) rfl (n := 2) (cap := 2) (vs := ints [-1, 4]) rfl rfl (by decide))) (by simp) (by omega) hw1).mono fun en w' ⟨v', p', h1, h2, h3⟩ => ⟨v', p', h1, h2, h3⟩) fun v41 p_41 hKp_41 => ?_
   show Ll _ _ (Own _ _ (_ :: _ :: _ :: _ :: _ :: _ :: (new13 ++ hs))) _ _ ((41, i6_ v41) :: _) _ _ _
   obtain ⟨hmv41, hep_41⟩ := hKp_41
   have hvv41 : -1 ≤ v41 ∧ v41 ≤ 4 := by simp at hmv41; omega
   refine Ll.nil (Ld.joint (pk [1, 2] rfl rfl) ?_)
   refine Ld.loud rfl ?_
   refine Ll.storeBox (cs' := #[i6_ a13.n, str a13.set, str a13.rel]) (hs' := (_ :: _ :: _ :: _ :: bk_ p2 #[i6_ a13.n, str a13.set, str a13.rel] 24 :: _ :: (new13 ++ hs))) 4 rfl rfl rfl rfl rfl (by kernel_rfl : _ = some Tryd.t24) rfl rfl rfl rfl rfl ?_
   refine Ll.nil (Ld.joint (pk [1, 2] rfl rfl) ?_)
   refine Ld.run 1 rfl (pk [1, 2] rfl rfl) ?_
   refine Ld.loud rfl ?_
   refine Ll.storeBox (cs' := #[i6_ b13.n, str b13.set, str b13.rel]) (hs' := (_ :: _ :: _ :: bk_ p4 #[i6_ b13.n, str b13.set, str b13.rel] 24 :: _ :: _ :: (new13 ++ hs))) 3 rfl rfl rfl rfl rfl (by kernel_rfl : _ = some Tryd.t24) rfl rfl rfl rfl rfl ?_
   refine Ll.nil (Ld.joint (pk [1, 2] rfl rfl) ?_)
   refine Ld.run 2 rfl (pk [1, 2] rfl rfl) ?_
   refine Ld.nil ?_
   refine Kt.sel [2, 3, 4, 5, 6] [_, _, _, _, _] rfl ?_
   refine Wk.ret (Kt.endMany rfl (.cell (cs := #[i6_ a13.n, str a13.set, str a13.rel]) rfl (fun w1 hw1 => hw1.loadBox 4 rfl Tryd.isAgg24 Tryd.sizeOf24) (.tmp (v := v13) rfl (.cell (cs := #[i6_ b13.n, str b13.set, str b13.rel]) rfl (fun w1 hw1 => hw1.loadBox 3 rfl Tryd.isAgg24 Tryd.sizeOf24) (.tmp (v := u13) rfl (.tmp (v := i6_ v41) rfl ResAt.nil))))) (by simp) fun w' hw => ?_)
   -- ret 0: vS a13; v13; vS b13; u13; i6_ v41
   exact ⟨a13, b13, v13, xs13, u13, ys13, ([bk_ p40 #[i6_ (-1), i6_ 4] 3, bk_ p9 #[i6_ b13.n, str b13.set, str b13.rel] 24, bk_ p7 #[i6_ a13.n, str a13.set, str a13.rel] 24, bk_ p4 #[i6_ b13.n, str b13.set, str b13.rel] 24, bk_ p2 #[i6_ a13.n, str a13.set, str a13.rel] 24] : List (Nat × Obj)) ++ new13, v41, p_41, rfl, ⟨⟨⟨hta13, htb13⟩, ⟨(by first | omega | (simp only [List.length_append, List.length_cons, List.length_nil, List.length_take, List.length_set]; omega)), (by first | omega | (simp only [List.length_append, List.length_cons, List.length_nil, List.length_take, List.length_set]; omega))⟩, fun w1 h1 => ⟨(hIv13 _ (Own.drop (f := [_, _, _, _, _]) h1)), (hIu13 _ (Own.drop (f := [_, _, _, _, _]) h1))⟩⟩, ⟨by omega, by omega⟩⟩, hw.perm (List.perm_middle (l₁ := ([bk_ p40 #[i6_ (-1), i6_ 4] 3, bk_ p9 #[i6_ b13.n, str b13.set, str b13.rel] 24, bk_ p7 #[i6_ a13.n, str a13.set, str a13.rel] 24, bk_ p4 #[i6_ b13.n, str b13.set, str b13.rel] 24, bk_ p2 #[i6_ a13.n, str a13.set, str a13.rel] 24] : List (Nat × Obj))) (l₂ := new13 ++ hs))⟩
  ·
   replace h34 := of_decide_eq_false h34
   refine Wk.skip ?_
   refine Kt.sel [0, 2, 4, 7, 8, 9, 10] [_, _, _, _, _, _, _] rfl ?_
   refine Wk.seq ?_
   refine Wk.regionS (S := Own B w0 [bk_ p9 #[i6_ b13.n, str b13.set, str b13.rel] 24, bk_ p7 #[i6_ a13.n, str a13.set, str a13.rel] 24]) [(0, true), (1, true), (2, true), (3, true), (4, true), (5, false), (6, false), (7, false), (8, true), (9, false), (10, true), (11, true)] Base.mixed (fun _ h => h.drawn) (by kernel_rfl) ?_
   refine Ld.take rfl rfl rfl rfl rfl (OpQ.loadBox (cs := #[i6_ a13.n, str a13.set, str a13.rel]) 1 rfl Tryd.isAgg24 rfl rfl Tryd.sizeOf24) (pk [0, 1] rfl rfl) ?_
   refine Ld.run 1 rfl (pk [0, 1] rfl rfl) ?_
   refine Ld.take rfl rfl rfl rfl rfl (OpQ.loadBox (cs := #[i6_ b13.n, str b13.set, str b13.rel]) 0 rfl Tryd.isAgg24 rfl rfl Tryd.sizeOf24) (pk [0, 1] rfl rfl) ?_
   refine Ld.run 2 rfl (pk [0, 1] rfl rfl) ?_
   refine Ld.loud rfl ?_
   refine Ll.slice (xs := [.const (i6_ 2), .const (i6_ 1), .const (i6_ 0), .const (i6_ 2), .const (i6_ 3), .const (i6_ 1)]) (vs := [i6_ 2, i6_ 1, i6_ 0, i6_ 2, i6_ 3, i6_ 1]) Base.elem25 rfl rfl rfl rfl rfl rfl (by decide) rfl fun p47 hp47 => ?_
   refine Ll.nil (Ld.joint (pk [1, 2] rfl rfl) ?_)
   refine Ld.loud rfl ?_
   refine Ll.callRd (rp := rp) (RT := 119) (p := p_33) (bv := bv) (hs := (new13 ++ hs)) (ok := fun (v : Int) p' => v ∈ ([2, 1, 0, 2, 3, 1]) ∧ p' = p_33 + 1) (v := fun (v : Int) => i6_ v) (new := fun (v : Int) => []) (xs := [.tmp 46, .tmp 47]) (vs := [pt_ rp, sl_ p47 6 6]) ([bk_ p47 #[i6_ 2, i6_ 1, i6_ 0, i6_ 2, i6_ 3, i6_ 1] 3, bk_ p9 #[i6_ b13.n, str b13.set, str b13.rel] 24, bk_ p7 #[i6_ a13.n, str a13.set, str a13.rel] 24, bk_ p4 #[i6_ 0, str ([]), str ([])] 24, bk_ p2 #[i6_ 0, str ([]), str ([])] 24] : List (Nat × Obj)) rfl rfl rfl rfl Tryd.call85 rfl (fun w1 hw1 => (num_ok B w0 (([bk_ p47 #[i6_ 2, i6_ 1, i6_ 0, i6_ 2, i6_ 3, i6_ 1] 3, bk_ p9 #[i6_ b13.n, str b13.set, str b13.rel] 24, bk_ p7 #[i6_ a13.n, str a13.set, str a13.rel] 24, bk_ p4 #[i6_ 0, str ([]), str ([])] 24, bk_ p2 #[i6_ 0, str ([]), str ([])] 24] : List (Nat × Obj)) ++ (new13 ++ hs)) rp p_33 bv L (sl_ p47 6 6) ([2, 1, 0, 2, 3, 1]) w1 (fun w2 hw2 => (fun w h => hb w (Own.drop (f := new13) h)) w2 (Own.drop (f := ([bk_ p47 #[i6_ 2, i6_ 1, i6_ 0, i6_ 2, i6_ 3, i6_ 1] 3, bk_ p9 #[i6_ b13.n, str b13.set, str b13.rel] 24, bk_ p7 #[i6_ a13.n, str a13.set, str a13.rel] 24, bk_ p4 #[i6_ 0, str ([]), str ([])] 24, bk_ p2 #[i6_ 0, str ([]), str ([])] 24] : List (Nat × Obj))) hw2)) hL8 hL (fun w2 h2 => (Own.row h2 (i := 0) rfl (n := 6) (cap := 6) (vs := ints [2, 1, 0, 2, 3, 1]) rfl rfl (by decide))) (by simp) (by omega) hw1).mono fun en w' ⟨v', p', h1, h2, h3⟩ => ⟨v', p', h1, h2, h3⟩) fun v48 p_48 hKp_48 => ?_
   show Ll _ _ (Own _ _ (_ :: _ :: _ :: _ :: _ :: _ :: (new13 ++ hs))) _ _ ((48, i6_ v48) :: _) _ _ _
   obtain ⟨hmv48, hep_48⟩ := hKp_48
   have hvv48 : 0 ≤ v48 ∧ v48 ≤ 3 := by simp at hmv48; omega
   refine Ll.nil (Ld.joint (pk [1, 2] rfl rfl) ?_)
   refine Ld.loud rfl ?_
   refine Ll.storeBox (cs' := #[i6_ a13.n, str a13.set, str a13.rel]) (hs' := (_ :: _ :: _ :: _ :: bk_ p2 #[i6_ a13.n, str a13.set, str a13.rel] 24 :: _ :: (new13 ++ hs))) 4 rfl rfl rfl rfl rfl (by kernel_rfl : _ = some Tryd.t24) rfl rfl rfl rfl rfl ?_
   refine Ll.nil (Ld.joint (pk [1, 2] rfl rfl) ?_)
   refine Ld.run 1 rfl (pk [1, 2] rfl rfl) ?_
   refine Ld.loud rfl ?_
   refine Ll.storeBox (cs' := #[i6_ b13.n, str b13.set, str b13.rel]) (hs' := (_ :: _ :: _ :: bk_ p4 #[i6_ b13.n, str b13.set, str b13.rel] 24 :: _ :: _ :: (new13 ++ hs))) 3 rfl rfl rfl rfl rfl (by kernel_rfl : _ = some Tryd.t24) rfl rfl rfl rfl rfl ?_
   refine Ll.nil (Ld.joint (pk [1, 2] rfl rfl) ?_)
   refine Ld.run 2 rfl (pk [1, 2] rfl rfl) ?_
   refine Ld.nil ?_
   refine Kt.sel [2, 3, 4, 5, 6] [_, _, _, _, _] rfl ?_
   refine Wk.ret (Kt.endMany rfl (.cell (cs := #[i6_ a13.n, str a13.set, str a13.rel]) rfl (fun w1 hw1 => hw1.loadBox 4 rfl Tryd.isAgg24 Tryd.sizeOf24) (.tmp (v := v13) rfl (.cell (cs := #[i6_ b13.n, str b13.set, str b13.rel]) rfl (fun w1 hw1 => hw1.loadBox 3 rfl Tryd.isAgg24 Tryd.sizeOf24) (.tmp (v := u13) rfl (.tmp (v := i6_ v48) rfl ResAt.nil))))) (by simp) fun w' hw => ?_)
   -- ret 1: vS a13; v13; vS b13; u13; i6_ v48
   exact ⟨a13, b13, v13, xs13, u13, ys13, ([bk_ p47 #[i6_ 2, i6_ 1, i6_ 0, i6_ 2, i6_ 3, i6_ 1] 3, bk_ p9 #[i6_ b13.n, str b13.set, str b13.rel] 24, bk_ p7 #[i6_ a13.n, str a13.set, str a13.rel] 24, bk_ p4 #[i6_ b13.n, str b13.set, str b13.rel] 24, bk_ p2 #[i6_ a13.n, str a13.set, str a13.rel] 24] : List (Nat × Obj)) ++ new13, v48, p_48, rfl, ⟨⟨⟨hta13, htb13⟩, ⟨(by first | omega | (simp only [List.length_append, List.length_cons, List.length_nil, List.length_take, List.length_set]; omega)), (by first | omega | (simp only [List.length_append, List.length_cons, List.length_nil, List.length_take, List.length_set]; omega))⟩, fun w1 h1 => ⟨(hIv13 _ (Own.drop (f := [_, _, _, _, _]) h1)), (hIu13 _ (Own.drop (f := [_, _, _, _, _]) h1))⟩⟩, ⟨by omega, by omega⟩⟩, hw.perm (List.perm_middle (l₁ := ([bk_ p47 #[i6_ 2, i6_ 1, i6_ 0, i6_ 2, i6_ 3, i6_ 1] 3, bk_ p9 #[i6_ b13.n, str b13.set, str b13.rel] 24, bk_ p7 #[i6_ a13.n, str a13.set, str a13.rel] 24, bk_ p4 #[i6_ b13.n, str b13.set, str b13.rel] 24, bk_ p2 #[i6_ a13.n, str a13.set, str a13.rel] 24] : List (Nat × Obj))) (l₂ := new13 ++ hs))⟩
 ·
  replace hg21 := of_decide_eq_true hg21
  refine Lq.run 1 rfl ?_
  refine Lq.op rfl rfl rfl (OpQ.lenRow rfl Tryd.runUnderlying25 rfl (ints_length _) (fun w1 hw1 => hIv13 _ (Own.dropR (Own.drop (f := [_, _, _, _, _]) hw1)))) ?_
  refine Lq.run 1 rfl ?_
  refine Lq.op rfl rfl rfl (OpQ.lenRow rfl Tryd.runUnderlying25 rfl (ints_length _) (fun w1 hw1 => hIu13 _ (Own.dropR (Own.drop (f := [_, _, _, _, _]) hw1)))) ?_
  refine Lq.run 2 rfl ?_
  refine Lq.nil ?_
  refine Kt.sel [0, 2, 4, 7, 8, 9, 10, 27] [_, _, _, _, _, _, _, _] rfl ?_
  refine Wk.cond (b := decide (((xs13.length : Int)) = ((ys13.length : Int)))) rfl (fun h27 => ?_) (fun h27 => ?_)
  ·
   replace h27 := of_decide_eq_true h27
   refine Wk.seq ?_
   refine Wk.regionQ ?_
   refine Lq.run 1 rfl ?_
   refine Lq.op (v := sTake v13 ((2 : Int).toNat)) rfl rfl rfl (OpQ.takeRow (i := 2) rfl Tryd.runUnderlying25 Tryd.sizeOf3 rfl rfl (by omega) (by first | omega | (rw [ints_length]; omega)) (fun w1 hw1 => hIv13 _ (Own.dropR (Own.drop (f := [_, _, _, _, _]) hw1)))) ?_
   refine Lq.run 1 rfl ?_
   refine Lq.nil ?_
   refine Kt.sel [0, 2, 4, 7, 8, 9, 10] [_, _, _, _, _, _, _] rfl ?_
   refine Wk.regionQ ?_
   refine Lq.run 1 rfl ?_
   refine Lq.op (v := sTake u13 ((2 : Int).toNat)) rfl rfl rfl (OpQ.takeRow (i := 2) rfl Tryd.runUnderlying25 Tryd.sizeOf3 rfl rfl (by omega) (by first | omega | (rw [ints_length]; omega)) (fun w1 hw1 => hIu13 _ (Own.dropR (Own.drop (f := [_, _, _, _, _]) hw1)))) ?_
   refine Lq.run 1 rfl ?_
   refine Lq.nil ?_
   refine Kt.sel [0, 2, 4, 7, 8, 9, 10] [_, _, _, _, _, _, _] rfl ?_
   refine Wk.seq ?_
   refine Wk.seq ?_
   refine Wk.region ?_
   refine Ll.run 1 rfl ?_
   refine Ll.callRd (rp := rp) (RT := 119) (p := p_13) (bv := bv) (hs := (new13 ++ hs)) (ok := fun (k : Int) p' => 0 ≤ k ∧ (1 ≤ (30 : Int) → k < 30) ∧ p' = p_13 + 1) (v := fun (k : Int) => i6_ k) (new := fun (k : Int) => []) (xs := [.tmp 32, .const (i6_ 30)]) (vs := [pt_ rp, i6_ 30]) ([bk_ p9 #[i6_ b13.n, str b13.set, str b13.rel] 24, bk_ p7 #[i6_ a13.n, str a13.set, str a13.rel] 24, bk_ p4 #[i6_ 0, str ([]), str ([])] 24, bk_ p2 #[i6_ 0, str ([]), str ([])] 24] : List (Nat × Obj)) rfl rfl rfl rfl Tryd.call123 rfl (fun w1 hw1 => (pick_ok B w0 (([bk_ p9 #[i6_ b13.n, str b13.set, str b13.rel] 24, bk_ p7 #[i6_ a13.n, str a13.set, str a13.rel] 24, bk_ p4 #[i6_ 0, str ([]), str ([])] 24, bk_ p2 #[i6_ 0, str ([]), str ([])] 24] : List (Nat × Obj)) ++ (new13 ++ hs)) rp p_13 bv L 30 w1 (fun w2 hw2 => (fun w h => hb w (Own.drop (f := new13) h)) w2 (Own.drop (f := ([bk_ p9 #[i6_ b13.n, str b13.set, str b13.rel] 24, bk_ p7 #[i6_ a13.n, str a13.set, str a13.rel] 24, bk_ p4 #[i6_ 0, str ([]), str ([])] 24, bk_ p2 #[i6_ 0, str ([]), str ([])] 24] : List (Nat × Obj))) hw2)) hL8 hL (by omega) hw1).mono fun en w' ⟨k', p', h1, h2, h3⟩ => ⟨k', p', h1, h2, h3⟩) fun k33_1 p_33_1 hKp_33_1 => ?_
   show Ll _ _ (Own _ _ (_ :: _ :: _ :: _ :: _ :: (new13 ++ hs))) _ _ ((33, i6_ k33_1) :: _) _ _ _
   obtain ⟨h0k33_1, h1k33_1, hep_33_1⟩ := hKp_33_1
   try have hltk33_1 := h1k33_1 (by first | omega | (split <;> omega) | decide)
   refine Ll.run 1 rfl ?_
   refine Ll.nil ?_
   refine Kt.sel [0, 2, 4, 7, 8, 9, 10, 34] [_, _, _, _, _, _, _, _] rfl ?_
   refine Wk.cond (b := decide (k33_1 = (0 : Int))) rfl (fun h34_1 => ?_) (fun h34_1 => ?_)
   ·
    replace h34_1 := of_decide_eq_true h34_1
    refine Wk.seq ?_
    refine Wk.regionS (S := Own B w0 [bk_ p9 #[i6_ b13.n, str b13.set, str b13.rel] 24, bk_ p7 #[i6_ a13.n, str a13.set, str a13.rel] 24]) [(0, true), (1, true), (2, true), (3, true), (4, true), (5, false), (6, false), (7, false), (8, true), (9, false), (10, true), (11, true)] Base.mixed (fun _ h => h.drawn) (by kernel_rfl) ?_
    refine Ld.take rfl rfl rfl rfl rfl (OpQ.loadBox (cs := #[i6_ a13.n, str a13.set, str a13.rel]) 1 rfl Tryd.isAgg24 rfl rfl Tryd.sizeOf24) (pk [0, 1] rfl rfl) ?_
    refine Ld.run 1 rfl (pk [0, 1] rfl rfl) ?_
    refine Ld.take rfl rfl rfl rfl rfl (OpQ.loadBox (cs := #[i6_ b13.n, str b13.set, str b13.rel]) 0 rfl Tryd.isAgg24 rfl rfl Tryd.sizeOf24) (pk [0, 1] rfl rfl) ?_
    refine Ld.run 2 rfl (pk [0, 1] rfl rfl) ?_
    refine Ld.loud rfl ?_
    refine Ll.slice (xs := [.const (i6_ (-1)), .const (i6_ 4)]) (vs := [i6_ (-1), i6_ 4]) Base.elem25 rfl rfl rfl rfl rfl rfl (by decide) rfl fun p40_1 hp40_1 => ?_
    refine Ll.nil (Ld.joint (pk [1, 2] rfl rfl) ?_)
    refine Ld.loud rfl ?_
    refine Ll.callRd (rp := rp) (RT := 119) (p := p_33_1) (bv := bv) (hs := (new13 ++ hs)) (ok := fun (v : Int) p' => v ∈ ([-1, 4]) ∧ p' = p_33_1 + 1) (v := fun (v : Int) => i6_ v) (new := fun (v : Int) => []) (xs := [.tmp 39, .tmp 40]) (vs := [pt_ rp, sl_ p40_1 2 2]) ([bk_ p40_1 #[i6_ (-1), i6_ 4] 3, bk_ p9 #[i6_ b13.n, str b13.set, str b13.rel] 24, bk_ p7 #[i6_ a13.n, str a13.set, str a13.rel] 24, bk_ p4 #[i6_ 0, str ([]), str ([])] 24, bk_ p2 #[i6_ 0, str ([]), str ([])] 24] : List (Nat × Obj)) rfl rfl rfl rfl Tryd.call85 rfl (fun w1 hw1 => (num_ok B w0 (([bk_ p40_1 #[i6_ (-1), i6_ 4] 3, bk_ p9 #[i6_ b13.n, str b13.set, str b13.rel] 24, bk_ p7 #[i6_ a13.n, str a13.set, str a13.rel] 24, bk_ p4 #[i6_ 0, str ([]), str ([])] 24, bk_ p2 #[i6_ 0, str ([]), str ([])] 24] : List (Nat × Obj)) ++ (new13 ++ hs)) rp p_33_1 bv L (sl_ p40_1 2 2) ([-1, 4]) w1 (fun w2 hw2 => (fun w h => hb w (Own.drop (f := new13) h)) w2 (Own.drop (f := ([bk_ p40_1 #[i6_ (-1), i6_ 4] 3, bk_ p9 #[i6_ b13.n, str b13.set, str b13.rel] 24, bk_ p7 #[i6_ a13.n, str a13.set, str a13.rel] 24, bk_ p4 #[i6_ 0, str ([]), str ([])] 24, bk_ p2 #[i6_ 0, str ([]), str ([])] 24] : List (Nat × Obj))) hw2)) hL8 hL (fun w2 h2 => (Own.row h2 (i := 0) rfl (n := 2) (cap := 2) (vs := ints [-1, 4]) rfl rfl (by decide))) (by simp) (by omega) hw1).mono fun en w' ⟨v', p', h1, h2, h3⟩ => ⟨v', p', h1, h2, h3⟩) fun v41_1 p_41_1 hKp_41_1 => ?_
    show Ll _ _ (Own _ _ (_ :: _ :: _ :: _ :: _ :: _ :: (new13 ++ hs))) _ _ ((41, i6_ v41_1) :: _) _ _ _
    obtain ⟨hmv41_1, hep_41_1⟩ := hKp_41_1
    have hvv41_1 : -1 ≤ v41_1 ∧ v41_1 ≤ 4 := by simp at hmv41_1; omega
    refine Ll.nil (Ld.joint (pk [1, 2] rfl rfl) ?_)
    refine Ld.loud rfl ?_
    refine Ll.storeBox (cs' := #[i6_ a13.n, str a13.set, str a13.rel]) (hs' := (_ :: _ :: _ :: _ :: bk_ p2 #[i6_ a13.n, str a13.set, str a13.rel] 24 :: _ :: (new13 ++ hs))) 4 rfl rfl rfl rfl rfl (by kernel_rfl : _ = some Tryd.t24) rfl rfl rfl rfl rfl ?_
    refine Ll.nil (Ld.joint (pk [1, 2] rfl rfl) ?_)
    refine Ld.run 1 rfl (pk [1, 2] rfl rfl) ?_
    refine Ld.loud rfl ?_
    refine Ll.storeBox (cs' := #[i6_ b13.n, str b13.set, str b13.rel]) (hs' := (_ :: _ :: _ :: bk_ p4 #[i6_ b13.n, str b13.set, str b13.rel] 24 :: _ :: _ :: (new13 ++ hs))) 3 rfl rfl rfl rfl rfl (by kernel_rfl : _ = some Tryd.t24) rfl rfl rfl rfl rfl ?_
    refine Ll.nil (Ld.joint (pk [1, 2] rfl rfl) ?_)
    refine Ld.run 2 rfl (pk [1, 2] rfl rfl) ?_
    refine Ld.nil ?_
    refine Kt.sel [2, 3, 4, 5, 6] [_, _, _, _, _] rfl ?_
    refine Wk.ret (Kt.endMany rfl (.cell (cs := #[i6_ a13.n, str a13.set, str a13.rel]) rfl (fun w1 hw1 => hw1.loadBox 4 rfl Tryd.isAgg24 Tryd.sizeOf24) (.tmp (v := sTake v13 ((2 : Int).toNat)) rfl (.cell (cs := #[i6_ b13.n, str b13.set, str b13.rel]) rfl (fun w1 hw1 => hw1.loadBox 3 rfl Tryd.isAgg24 Tryd.sizeOf24) (.tmp (v := sTake u13 ((2 : Int).toNat)) rfl (.tmp (v := i6_ v41_1) rfl ResAt.nil))))) (by simp) fun w' hw => ?_)
    -- ret 2: vS a13; sTake v13 ((2 : Int).toNat); vS b13; sTake u13 ((2 : Int).toNat); i6_ v41_1
    exact ⟨a13, b13, sTake v13 ((2 : Int).toNat), xs13.take ((2 : Int).toNat), sTake u13 ((2 : Int).toNat), ys13.take ((2 : Int).toNat), ([bk_ p40_1 #[i6_ (-1), i6_ 4] 3, bk_ p9 #[i6_ b13.n, str b13.set, str b13.rel] 24, bk_ p7 #[i6_ a13.n, str a13.set, str a13.rel] 24, bk_ p4 #[i6_ b13.n, str b13.set, str b13.rel] 24, bk_ p2 #[i6_ a13.n, str a13.set, str a13.rel] 24] : List (Nat × Obj)) ++ new13, v41_1, p_41_1, rfl, ⟨⟨⟨hta13, htb13⟩, ⟨(by first | omega | (simp only [List.length_append, List.length_cons, List.length_nil, List.length_take, List.length_set]; omega)), (by first | omega | (simp only [List.length_append, List.length_cons, List.length_nil, List.length_take, List.length_set]; omega))⟩, fun w1 h1 => ⟨(Ints.take (hIv13 _ (Own.drop (f := [_, _, _, _, _]) h1)) ((2 : Int).toNat) (by first | omega | (rw [ints_length]; omega))), (Ints.take (hIu13 _ (Own.drop (f := [_, _, _, _, _]) h1)) ((2 : Int).toNat) (by first | omega | (rw [ints_length]; omega)))⟩⟩, ⟨by omega, by omega⟩⟩, hw.perm (List.perm_middle (l₁ := ([bk_ p40_1 #[i6_ (-1), i6_ 4] 3, bk_ p9 #[i6_ b13.n, str b13.set, str b13.rel] 24, bk_ p7 #[i6_ a13.n, str a13.set, str a13.rel] 24, bk_ p4 #[i6_ b13.n, str b13.set, str b13.rel] 24, bk_ p2 #[i6_ a13.n, str a13.set, str a13.rel] 24] : List (Nat × Obj))) (l₂ := new13 ++ hs))⟩
   ·
    replace h34_1 := of_decide_eq_false h34_1
    refine Wk.skip ?_
    refine Kt.sel [0, 2, 4, 7, 8, 9, 10] [_, _, _, _, _, _, _] rfl ?_
    refine Wk.seq ?_
    refine Wk.regionS (S := Own B w0 [bk_ p9 #[i6_ b13.n, str b13.set, str b13.rel] 24, bk_ p7 #[i6_ a13.n, str a13.set, str a13.rel] 24]) [(0, true), (1, true), (2, true), (3, true), (4, true), (5, false), (6, false), (7, false), (8, true), (9, false), (10, true), (11, true)] Base.mixed (fun _ h => h.drawn) (by kernel_rfl) ?_
    refine Ld.take rfl rfl rfl rfl rfl (OpQ.loadBox (cs := #[i6_ a13.n, str a13.set, str a13.rel]) 1 rfl Tryd.isAgg24 rfl rfl Tryd.sizeOf24) (pk [0, 1] rfl rfl) ?_
    refine Ld.run 1 rfl (pk [0, 1] rfl rfl) ?_
    refine Ld.take rfl rfl rfl rfl rfl (OpQ.loadBox (cs := #[i6_ b13.n, str b13.set, str b13.rel]) 0 rfl Tryd.isAgg24 rfl rfl Tryd.sizeOf24) (pk [0, 1] rfl rfl) ?_
    refine Ld.run 2 rfl (pk [0, 1] rfl rfl) ?_
    refine Ld.loud rfl ?_
    refine Ll.slice (xs := [.const (i6_ 2), .const (i6_ 1), .const (i6_ 0), .const (i6_ 2), .const (i6_ 3), .const (i6_ 1)]) (vs := [i6_ 2, i6_ 1, i6_ 0, i6_ 2, i6_ 3, i6_ 1]) Base.elem25 rfl rfl rfl rfl rfl rfl (by decide) rfl fun p47_1 hp47_1 => ?_
    refine Ll.nil (Ld.joint (pk [1, 2] rfl rfl) ?_)
    refine Ld.loud rfl ?_
    refine Ll.callRd (rp := rp) (RT := 119) (p := p_33_1) (bv := bv) (hs := (new13 ++ hs)) (ok := fun (v : Int) p' => v ∈ ([2, 1, 0, 2, 3, 1]) ∧ p' = p_33_1 + 1) (v := fun (v : Int) => i6_ v) (new := fun (v : Int) => []) (xs := [.tmp 46, .tmp 47]) (vs := [pt_ rp, sl_ p47_1 6 6]) ([bk_ p47_1 #[i6_ 2, i6_ 1, i6_ 0, i6_ 2, i6_ 3, i6_ 1] 3, bk_ p9 #[i6_ b13.n, str b13.set, str b13.rel] 24, bk_ p7 #[i6_ a13.n, str a13.set, str a13.rel] 24, bk_ p4 #[i6_ 0, str ([]), str ([])] 24, bk_ p2 #[i6_ 0, str ([]), str ([])] 24] : List (Nat × Obj)) rfl rfl rfl rfl Tryd.call85 rfl (fun w1 hw1 => (num_ok B w0 (([bk_ p47_1 #[i6_ 2, i6_ 1, i6_ 0, i6_ 2, i6_ 3, i6_ 1] 3, bk_ p9 #[i6_ b13.n, str b13.set, str b13.rel] 24, bk_ p7 #[i6_ a13.n, str a13.set, str a13.rel] 24, bk_ p4 #[i6_ 0, str ([]), str ([])] 24, bk_ p2 #[i6_ 0, str ([]), str ([])] 24] : List (Nat × Obj)) ++ (new13 ++ hs)) rp p_33_1 bv L (sl_ p47_1 6 6) ([2, 1, 0, 2, 3, 1]) w1 (fun w2 hw2 => (fun w h => hb w (Own.drop (f := new13) h)) w2 (Own.drop (f := ([bk_ p47_1 #[i6_ 2, i6_ 1, i6_ 0, i6_ 2, i6_ 3, i6_ 1] 3, bk_ p9 #[i6_ b13.n, str b13.set, str b13.rel] 24, bk_ p7 #[i6_ a13.n, str a13.set, str a13.rel] 24, bk_ p4 #[i6_ 0, str ([]), str ([])] 24, bk_ p2 #[i6_ 0, str ([]), str ([])] 24] : List (Nat × Obj))) hw2)) hL8 hL (fun w2 h2 => (Own.row h2 (i := 0) rfl (n := 6) (cap := 6) (vs := ints [2, 1, 0, 2, 3, 1]) rfl rfl (by decide))) (by simp) (by omega) hw1).mono fun en w' ⟨v', p', h1, h2, h3⟩ => ⟨v', p', h1, h2, h3⟩) fun v48_1 p_48_1 hKp_48_1 => ?_
    show Ll _ _ (Own _ _ (_ :: _ :: _ :: _ :: _ :: _ :: (new13 ++ hs))) _ _ ((48, i6_ v48_1) :: _) _ _ _
    obtain ⟨hmv48_1, hep_48_1⟩ := hKp_48_1
    have hvv48_1 : 0 ≤ v48_1 ∧ v48_1 ≤ 3 := by simp at hmv48_1; omega
    refine Ll.nil (Ld.joint (pk [1, 2] rfl rfl) ?_)
    refine Ld.loud rfl ?_
    refine Ll.storeBox (cs' := #[i6_ a13.n, str a13.set, str a13.rel]) (hs' := (_ :: _ :: _ :: _ :: bk_ p2 #[i6_ a13.n, str a13.set, str a13.rel] 24 :: _ :: (new13 ++ hs))) 4 rfl rfl rfl rfl rfl (by kernel_rfl : _ = some Tryd.t24) rfl rfl rfl rfl rfl ?_
    refine Ll.nil (Ld.joint (pk [1, 2] rfl rfl) ?_)
    refine Ld.run 1 rfl (pk [1, 2] rfl rfl) ?_
    refine Ld.loud rfl ?_
    refine Ll.storeBox (cs' := #[i6_ b13.n, str b13.set, str b13.rel]) (hs' := (_ :: _ :: _ :: bk_ p4 #[i6_ b13.n, str b13.set, str b13.rel] 24 :: _ :: _ :: (new13 ++ hs))) 3 rfl rfl rfl rfl rfl (by kernel_rfl : _ = some Tryd.t24) rfl rfl rfl rfl rfl ?_
    refine Ll.nil (Ld.joint (pk [1, 2] rfl rfl) ?_)
    refine Ld.run 2 rfl (pk [1, 2] rfl rfl) ?_
    refine Ld.nil ?_
    refine Kt.sel [2, 3, 4, 5, 6] [_, _, _, _, _] rfl ?_
    refine Wk.ret (Kt.endMany rfl (.cell (cs := #[i6_ a13.n, str a13.set, str a13.rel]) rfl (fun w1 hw1 => hw1.loadBox 4 rfl Tryd.isAgg24 Tryd.sizeOf24) (.tmp (v := sTake v13 ((2 : Int).toNat)) rfl (.cell (cs := #[i6_ b13.n, str b13.set, str b13.rel]) rfl (fun w1 hw1 => hw1.loadBox 3 rfl Tryd.isAgg24 Tryd.sizeOf24) (.tmp (v := sTake u13 ((2 : Int).toNat)) rfl (.tmp (v := i6_ v48_1) rfl ResAt.nil))))) (by simp) fun w' hw => ?_)
    -- ret 3: vS a13; sTake v13 ((2 : Int).toNat); vS b13; sTake u13 ((2 : Int).toNat); i6_ v48_1
    exact ⟨a13, b13, sTake v13 ((2 : Int).toNat), xs13.take ((2 : Int).toNat), sTake u13 ((2 : Int).toNat), ys13.take ((2 : Int).toNat), ([bk_ p47_1 #[i6_ 2, i6_ 1, i6_ 0, i6_ 2, i6_ 3, i6_ 1] 3, bk_ p9 #[i6_ b13.n, str b13.set, str b13.rel] 24, bk_ p7 #[i6_ a13.n, str a13.set, str a13.rel] 24, bk_ p4 #[i6_ b13.n, str b13.set, str b13.rel] 24, bk_ p2 #[i6_ a13.n, str a13.set, str a13.rel] 24] : List (Nat × Obj)) ++ new13, v48_1, p_48_1, rfl, ⟨⟨⟨hta13, htb13⟩, ⟨(by first | omega | (simp only [List.length_append, List.length_cons, List.length_nil, List.length_take, List.length_set]; omega)), (by first | omega | (simp only [List.length_append, List.length_cons, List.length_nil, List.length_take, List.length_set]; omega))⟩, fun w1 h1 => ⟨(Ints.take (hIv13 _ (Own.drop (f := [_, _, _, _, _]) h1)) ((2 : Int).toNat) (by first | omega | (rw [ints_length]; omega))), (Ints.take (hIu13 _ (Own.drop (f := [_, _, _, _, _]) h1)) ((2 : Int).toNat) (by first | omega | (rw [ints_length]; omega)))⟩⟩, ⟨by omega, by omega⟩⟩, hw.perm (List.perm_middle (l₁ := ([bk_ p47_1 #[i6_ 2, i6_ 1, i6_ 0, i6_ 2, i6_ 3, i6_ 1] 3, bk_ p9 #[i6_ b13.n, str b13.set, str b13.rel] 24, bk_ p7 #[i6_ a13.n, str a13.set, str a13.rel] 24, bk_ p4 #[i6_ b13.n, str b13.set, str b13.rel] 24, bk_ p2 #[i6_ a13.n, str a13.set, str a13.rel] 24] : List (Nat × Obj))) (l₂ := new13 ++ hs))⟩
  ·
   replace h27 := of_decide_eq_false h27
   refine Wk.skip ?_
   refine Kt.sel [0, 2, 4, 7, 8, 9, 10] [_, _, _, _, _, _, _] rfl ?_
   refine Wk.seq ?_
   refine Wk.seq ?_
   refine Wk.region ?_
   refine Ll.run 1 rfl ?_
   refine Ll.callRd (rp := rp) (RT := 119) (p := p_13) (bv := bv) (hs := (new13 ++ hs)) (ok := fun (k : Int) p' => 0 ≤ k ∧ (1 ≤ (30 : Int) → k < 30) ∧ p' = p_13 + 1) (v := fun (k : Int) => i6_ k) (new := fun (k : Int) => []) (xs := [.tmp 32, .const (i6_ 30)]) (vs := [pt_ rp, i6_ 30]) ([bk_ p9 #[i6_ b13.n, str b13.set, str b13.rel] 24, bk_ p7 #[i6_ a13.n, str a13.set, str a13.rel] 24, bk_ p4 #[i6_ 0, str ([]), str ([])] 24, bk_ p2 #[i6_ 0, str ([]), str ([])] 24] : List (Nat × Obj)) rfl rfl rfl rfl Tryd.call123 rfl (fun w1 hw1 => (pick_ok B w0 (([bk_ p9 #[i6_ b13.n, str b13.set, str b13.rel] 24, bk_ p7 #[i6_ a13.n, str a13.set, str a13.rel] 24, bk_ p4 #[i6_ 0, str ([]), str ([])] 24, bk_ p2 #[i6_ 0, str ([]), str ([])] 24] : List (Nat × Obj)) ++ (new13 ++ hs)) rp p_13 bv L 30 w1 (fun w2 hw2 => (fun w h => hb w (Own.drop (f := new13) h)) w2 (Own.drop (f := ([bk_ p9 #[i6_ b13.n, str b13.set, str b13.rel] 24, bk_ p7 #[i6_ a13.n, str a13.set, str a13.rel] 24, bk_ p4 #[i6_ 0, str ([]), str ([])] 24, bk_ p2 #[i6_ 0, str ([]), str ([])] 24] : List (Nat × Obj))) hw2)) hL8 hL (by omega) hw1).mono fun en w' ⟨k', p', h1, h2, h3⟩ => ⟨k', p', h1, h2, h3⟩) fun k33_2 p_33_2 hKp_33_2 => ?_
   show Ll _ _ (Own _ _ (_ :: _ :: _ :: _ :: _ :: (new13 ++ hs))) _ _ ((33, i6_ k33_2) :: _) _ _ _
   obtain ⟨h0k33_2, h1k33_2, hep_33_2⟩ := hKp_33_2
   try have hltk33_2 := h1k33_2 (by first | omega | (split <;> omega) | decide)
   refine Ll.run 1 rfl ?_
   refine Ll.nil ?_
   refine Kt.sel [0, 2, 4, 7, 8, 9, 10, 34] [_, _, _, _, _, _, _, _] rfl ?_
   refine Wk.cond (b := decide (k33_2 = (0 : Int))) rfl (fun h34_2 => ?_) (fun h34_2 => ?_)
   ·
    replace h34_2 := of_decide_eq_true h34_2
    refine Wk.seq ?_
    refine Wk.regionS (S := Own B w0 [bk_ p9 #[i6_ b13.n, str b13.set, str b13.rel] 24, bk_ p7 #[i6_ a13.n, str a13.set, str a13.rel] 24]) [(0, true), (1, true), (2, true), (3, true), (4, true), (5, false), (6, false), (7, false), (8, true), (9, false), (10, true), (11, true)] Base.mixed (fun _ h => h.drawn) (by kernel_rfl) ?_
    refine Ld.take rfl rfl rfl rfl rfl (OpQ.loadBox (cs := #[i6_ a13.n, str a13.set, str a13.rel]) 1 rfl Tryd.isAgg24 rfl rfl Tryd.sizeOf24) (pk [0, 1] rfl rfl) ?_
    refine Ld.run 1 rfl (pk [0, 1] rfl rfl) ?_
    refine Ld.take rfl rfl rfl rfl rfl (OpQ.loadBox (cs := #[i6_ b13.n, str b13.set, str b13.rel]) 0 rfl Tryd.isAgg24 rfl rfl Tryd.sizeOf24) (pk [0, 1] rfl rfl) ?_
    refine Ld.run 2 rfl (pk [0, 1] rfl rfl) ?_
    refine Ld.loud rfl ?_
    refine Ll.slice (xs := [.const (i6_ (-1)), .const (i6_ 4)]) (vs := [i6_ (-1), i6_ 4]) Base.elem25 rfl rfl rfl rfl rfl rfl (by decide) rfl fun p40_2 hp40_2 => ?_
    refine Ll.nil (Ld.joint (pk [1, 2] rfl rfl) ?_)
    refine Ld.loud rfl ?_
    refine Ll.callRd (rp := rp) (RT := 119) (p := p_33_2) (bv := bv) (hs := (new13 ++ hs)) (ok := fun (v : Int) p' => v ∈ ([-1, 4]) ∧ p' = p_33_2 + 1) (v := fun (v : Int) => i6_ v) (new := fun (v : Int) => []) (xs := [.tmp 39, .tmp 40]) (vs := [pt_ rp, sl_ p40_2 2 2]) ([bk_ p40_2 #[i6_ (-1), i6_ 4] 3, bk_ p9 #[i6_ b13.n, str b13.set, str b13.rel] 24, bk_ p7 #[i6_ a13.n, str a13.set, str a13.rel] 24, bk_ p4 #[i6_ 0, str ([]), str ([])] 24, bk_ p2 #[i6_ 0, str ([]), str ([])] 24] : List (Nat × Obj)) rfl rfl rfl rfl Tryd.call85 rfl (fun w1 hw1 => (num_ok B w0 (([bk_ p40_2 #[i6_ (-1), i6_ 4] 3, bk_ p9 #[i6_ b13.n, str b13.set, str b13.rel] 24, bk_ p7 #[i6_ a13.n, str a13.set, str a13.rel] 24, bk_ p4 #[i6_ 0, str ([]), str ([])] 24, bk_ p2 #[i6_ 0, str ([]), str ([])] 24] : List (Nat × Obj)) ++ (new13 ++ hs)) rp p_33_2 bv L (sl_ p40_2 2 2) ([-1, 4]) w1 (fun w2 hw2 => (fun w h => hb w (Own.drop (f := new13) h)) w2 (Own.drop (f := ([bk_ p40_2 #[i6_ (-1), i6_ 4] 3, bk_ p9 #[i6_ b13.n, str b13.set, str b13.rel] 24, bk_ p7 #[i6_ a13.n, str a13.set, str a13.rel] 24, bk_ p4 #[i6_ 0, str ([]), str ([])] 24, bk_ p2 #[i6_ 0, str ([]), str ([])] 24] : List (Nat × Obj))) hw2)) hL8 hL (fun w2 h2 => (Own.row h2 (i := 0) rfl (n := 2) (cap := 2) (vs := ints [-1, 4]) rfl rfl (by decide))) (by simp) (by omega) hw1).mono fun en w' ⟨v', p', h1, h2, h3⟩ => ⟨v', p', h1, h2, h3⟩) fun v41_2 p_41_2 hKp_41_2 => ?_
    show Ll _ _ (Own _ _ (_ :: _ :: _ :: _ :: _ :: _ :: (new13 ++ hs))) _ _ ((41, i6_ v41_2) :: _) _ _ _
    obtain ⟨hmv41_2, hep_41_2⟩ := hKp_41_2
    have hvv41_2 : -1 ≤ v41_2 ∧ v41_2 ≤ 4 := by simp at hmv41_2; omega
    refine Ll.nil (Ld.joint (pk [1, 2] rfl rfl) ?_)
    refine Ld.loud rfl ?_
    refine Ll.storeBox (cs' := #[i6_ a13.n, str a13.set, str a13.rel]) (hs' := (_ :: _ :: _ :: _ :: bk_ p2 #[i6_ a13.n, str a13.set, str a13.rel] 24 :: _ :: (new13 ++ hs))) 4 rfl rfl rfl rfl rfl (by kernel_rfl : _ = some Tryd.t24) rfl rfl rfl rfl rfl ?_
    refine Ll.nil (Ld.joint (pk [1, 2] rfl rfl) ?_)
    refine Ld.run 1 rfl (pk [1, 2] rfl rfl) ?_
    refine Ld.loud rfl ?_
    refine Ll.storeBox (cs' := #[i6_ b13.n, str b13.set, str b13.rel]) (hs' := (_ :: _ :: _ :: bk_ p4 #[i6_ b13.n, str b13.set, str b13.rel] 24 :: _ :: _ :: (new13 ++ hs))) 3 rfl rfl rfl rfl rfl (by kernel_rfl : _ = some Tryd.t24) rfl rfl rfl rfl rfl ?_
    refine Ll.nil (Ld.joint (pk [1, 2] rfl rfl) ?_)
    refine Ld.run 2 rfl (pk [1, 2] rfl rfl) ?_
    refine Ld.nil ?_
    refine Kt.sel [2, 3, 4, 5, 6] [_, _, _, _, _] rfl ?_
    refine Wk.ret (Kt.endMany rfl (.cell (cs := #[i6_ a13.n, str a13.set, str a13.rel]) rfl (fun w1 hw1 => hw1.loadBox 4 rfl Tryd.isAgg24 Tryd.sizeOf24) (.tmp (v := v13) rfl (.cell (cs := #[i6_ b13.n, str b13.set, str b13.rel]) rfl (fun w1 hw1 => hw1.loadBox 3 rfl Tryd.isAgg24 Tryd.sizeOf24) (.tmp (v := u13) rfl (.tmp (v := i6_ v41_2) rfl ResAt.nil))))) (by simp) fun w' hw => ?_)
    -- ret 4: vS a13; v13; vS b13; u13; i6_ v41_2
    exact ⟨a13, b13, v13, xs13, u13, ys13, ([bk_ p40_2 #[i6_ (-1), i6_ 4] 3, bk_ p9 #[i6_ b13.n, str b13.set, str b13.rel] 24, bk_ p7 #[i6_ a13.n, str a13.set, str a13.rel] 24, bk_ p4 #[i6_ b13.n, str b13.set, str b13.rel] 24, bk_ p2 #[i6_ a13.n, str a13.set, str a13.rel] 24] : List (Nat × Obj)) ++ new13, v41_2, p_41_2, rfl, ⟨⟨⟨hta13, htb13⟩, ⟨(by first | omega | (simp only [List.length_append, List.length_cons, List.length_nil, List.length_take, List.length_set]; omega)), (by first | omega | (simp only [List.length_append, List.length_cons, List.length_nil, List.length_take, List.length_set]; omega))⟩, fun w1 h1 => ⟨(hIv13 _ (Own.drop (f := [_, _, _, _, _]) h1)), (hIu13 _ (Own.drop (f := [_, _, _, _, _]) h1))⟩⟩, ⟨by omega, by omega⟩⟩, hw.perm (List.perm_middle (l₁ := ([bk_ p40_2 #[i6_ (-1), i6_ 4] 3, bk_ p9 #[i6_ b13.n, str b13.set, str b13.rel] 24, bk_ p7 #[i6_ a13.n, str a13.set, str a13.rel] 24, bk_ p4 #[i6_ b13.n, str b13.set, str b13.rel] 24, bk_ p2 #[i6_ a13.n, str a13.set, str a13.rel] 24] : List (Nat × Obj))) (l₂ := new13 ++ hs))⟩
   ·
    replace h34_2 := of_decide_eq_false h34_2
    refine Wk.skip ?_
    refine Kt.sel [0, 2, 4, 7, 8, 9, 10] [_, _, _, _, _, _, _] rfl ?_
    refine Wk.seq ?_
    refine Wk.regionS (S := Own B w0 [bk_ p9 #[i6_ b13.n, str b13.set, str b13.rel] 24, bk_ p7 #[i6_ a13.n, str a13.set, str a13.rel] 24]) [(0, true), (1, true), (2, true), (3, true), (4, true), (5, false), (6, false), (7, false), (8, true), (9, false), (10, true), (11, true)] Base.mixed (fun _ h => h.drawn) (by kernel_rfl) ?_
    refine Ld.take rfl rfl rfl rfl rfl (OpQ.loadBox (cs := #[i6_ a13.n, str a13.set, str a13.rel]) 1 rfl Tryd.isAgg24 rfl rfl Tryd.sizeOf24) (pk [0, 1] rfl rfl) ?_
    refine Ld.run 1 rfl (pk [0, 1] rfl rfl) ?_
    refine Ld.take rfl rfl rfl rfl rfl (OpQ.loadBox (cs := #[i6_ b13.n, str b13.set, str b13.rel]) 0 rfl Tryd.isAgg24 rfl rfl Tryd.sizeOf24) (pk [0, 1] rfl rfl) ?_
    refine Ld.run 2 rfl (pk [0, 1] rfl rfl) ?_
    refine Ld.loud rfl ?_
    refine Ll.slice (xs := [.const (i6_ 2), .const (i6_ 1), .const (i6_ 0), .const (i6_ 2), .const (i6_ 3), .const (i6_ 1)]) (vs := [i6_ 2, i6_ 1, i6_ 0, i6_ 2, i6_ 3, i6_ 1]) Base.elem25 rfl rfl rfl rfl rfl rfl (by decide) rfl fun p47_2 hp47_2 => ?_
    refine Ll.nil (Ld.joint (pk [1, 2] rfl rfl) ?_)
    refine Ld.loud rfl ?_
    refine Ll.callRd (rp := rp) (RT := 119) (p := p_33_2) (bv := bv) (hs := (new13 ++ hs)) (ok := fun (v : Int) p' => v ∈ ([2, 1, 0, 2, 3, 1]) ∧ p' = p_33_2 + 1) (v := fun (v : Int) => i6_ v) (new := fun (v : Int) => []) (xs := [.tmp 46, .tmp 47]) (vs := [pt_ rp, sl_ p47_2 6 6]) ([bk_ p47_2 #[i6_ 2, i6_ 1, i6_ 0, i6_ 2, i6_ 3, i6_ 1] 3, bk_ p9 #[i6_ b13.n, str b13.set, str b13.rel] 24, bk_ p7 #[i6_ a13.n, str a13.set, str a13.rel] 24, bk_ p4 #[i6_ 0, str ([]), str ([])] 24, bk_ p2 #[i6_ 0, str ([]), str ([])] 24] : List (Nat × Obj)) rfl rfl rfl rfl Tryd.call85 rfl (fun w1 hw1 => (num_ok B w0 (([bk_ p47_2 #[i6_ 2, i6_ 1, i6_ 0, i6_ 2, i6_ 3, i6_ 1] 3, bk_ p9 #[i6_ b13.n, str b13.set, str b13.rel] 24, bk_ p7 #[i6_ a13.n, str a13.set, str a13.rel] 24, bk_ p4 #[i6_ 0, str ([]), str ([])] 24, bk_ p2 #[i6_ 0, str ([]), str ([])] 24] : List (Nat × Obj)) ++ (new13 ++ hs)) rp p_33_2 bv L (sl_ p47_2 6 6) ([2, 1, 0, 2, 3, 1]) w1 (fun w2 hw2 => (fun w h => hb w (Own.drop (f := new13) h)) w2 (Own.drop (f := ([bk_ p47_2 #[i6_ 2, i6_ 1, i6_ 0, i6_ 2, i6_ 3, i6_ 1] 3, bk_ p9 #[i6_ b13.n, str b13.set, str b13.rel] 24, bk_ p7 #[i6_ a13.n, str a13.set, str a13.rel] 24, bk_ p4 #[i6_ 0, str ([]), str ([])] 24, bk_ p2 #[i6_ 0, str ([]), str ([])] 24] : List (Nat × Obj))) hw2)) hL8 hL (fun w2 h2 => (Own.row h2 (i := 0) rfl (n := 6) (cap := 6) (vs := ints [2, 1, 0, 2, 3, 1]) rfl rfl (by decide))) (by simp) (by omega) hw1).mono fun en w' ⟨v', p', h1, h2, h3⟩ => ⟨v', p', h1, h2, h3⟩) fun v48_2 p_48_2 hKp_48_2 => ?_
    show Ll _ _ (Own _ _ (_ :: _ :: _ :: _ :: _ :: _ :: (new13 ++ hs))) _ _ ((48, i6_ v48_2) :: _) _ _ _
    obtain ⟨hmv48_2, hep_48_2⟩ := hKp_48_2
    have hvv48_2 : 0 ≤ v48_2 ∧ v48_2 ≤ 3 := by simp at hmv48_2; omega
    refine Ll.nil (Ld.joint (pk [1, 2] rfl rfl) ?_)
    refine Ld.loud rfl ?_
    refine Ll.storeBox (cs' := #[i6_ a13.n, str a13.set, str a13.rel]) (hs' := (_ :: _ :: _ :: _ :: bk_ p2 #[i6_ a13.n, str a13.set, str a13.rel] 24 :: _ :: (new13 ++ hs))) 4 rfl rfl rfl rfl rfl (by kernel_rfl : _ = some Tryd.t24) rfl rfl rfl rfl rfl ?_
    refine Ll.nil (Ld.joint (pk [1, 2] rfl rfl) ?_)
    refine Ld.run 1 rfl (pk [1, 2] rfl rfl) ?_
    refine Ld.loud rfl ?_
    refine Ll.storeBox (cs' := #[i6_ b13.n, str b13.set, str b13.rel]) (hs' := (_ :: _ :: _ :: bk_ p4 #[i6_ b13.n, str b13.set, str b13.rel] 24 :: _ :: _ :: (new13 ++ hs))) 3 rfl rfl rfl rfl rfl (by kernel_rfl : _ = some Tryd.t24) rfl rfl rfl rfl rfl ?_
    refine Ll.nil (Ld.joint (pk [1, 2] rfl rfl) ?_)
    refine Ld.run 2 rfl (pk [1, 2] rfl rfl) ?_
    refine Ld.nil ?_
    refine Kt.sel [2, 3, 4, 5, 6] [_, _, _, _, _] rfl ?_
    refine Wk.ret (Kt.endMany rfl (.cell (cs := #[i6_ a13.n, str a13.set, str a13.rel]) rfl (fun w1 hw1 => hw1.loadBox 4 rfl Tryd.isAgg24 Tryd.sizeOf24) (.tmp (v := v13) rfl (.cell (cs := #[i6_ b13.n, str b13.set, str b13.rel]) rfl (fun w1 hw1 => hw1.loadBox 3 rfl Tryd.isAgg24 Tryd.sizeOf24) (.tmp (v := u13) rfl (.tmp (v := i6_ v48_2) rfl ResAt.nil))))) (by simp) fun w' hw => ?_)
    -- ret 5: vS a13; v13; vS b13; u13; i6_ v48_2
    exact ⟨a13, b13, v13, xs13, u13, ys13, ([bk_ p47_2 #[i6_ 2, i6_ 1, i6_ 0, i6_ 2, i6_ 3, i6_ 1] 3, bk_ p9 #[i6_ b13.n, str b13.set, str b13.rel] 24, bk_ p7 #[i6_ a13.n, str a13.set, str a13.rel] 24, bk_ p4 #[i6_ b13.n, str b13.set, str b13.rel] 24, bk_ p2 #[i6_ a13.n, str a13.set, str a13.rel] 24] : List (Nat × Obj)) ++ new13, v48_2, p_48_2, rfl, ⟨⟨⟨hta13, htb13⟩, ⟨(by first | omega | (simp only [List.length_append, List.length_cons, List.length_nil, List.length_take, List.length_set]; omega)), (by first | omega | (simp only [List.length_append, List.length_cons, List.length_nil, List.length_take, List.length_set]; omega))⟩, fun w1 h1 => ⟨(hIv13 _ (Own.drop (f := [_, _, _, _, _]) h1)), (hIu13 _ (Own.drop (f := [_, _, _, _, _]) h1))⟩⟩, ⟨by omega, by omega⟩⟩, hw.perm (List.perm_middle (l₁ := ([bk_ p47_2 #[i6_ 2, i6_ 1, i6_ 0, i6_ 2, i6_ 3, i6_ 1] 3, bk_ p9 #[i6_ b13.n, str b13.set, str b13.rel] 24, bk_ p7 #[i6_ a13.n, str a13.set, str a13.rel] 24, bk_ p4 #[i6_ b13.n, str b13.set, str b13.rel] 24, bk_ p2 #[i6_ a13.n, str a13.set, str a13.rel] 24] : List (Nat × Obj))) (l₂ := new13 ++ hs))⟩

set_option maxHeartbeats 400000 in
/-- spec.DrawSecondWins -/
theorem drawWins_ok (B : Nat) (w0 : World) (hs : List (Nat × Obj)) (bv : Value) (L : List Int) (w : World) (hb : ∀ w, Own B w0 hs w → Row w bv (u8s L)) (hL8 : Bytes8 L) (hLs : L.length ≤ 1048576) (hw : Own B w0 hs w) :
    Calls Tryd.prog 25 [bv].toArray w fun en w' => ∃ a : St, ∃ b : St, ∃ v : Value, ∃ xs : List Int, ∃ u : Value, ∃ ys : List Int, ∃ new : List (Nat × Obj), ∃ r : Int, en = .returned (.tuple #[vS a, v, vS b, u, .int .i64 r]) ∧ (((a.Tame ∧ b.Tame) ∧ (xs.length ≤ 40 ∧ ys.length ≤ 40) ∧ ∀ w1, Own B w0 new w1 → Ints w1 v xs ∧ Ints w1 u ys) ∧ -1 ≤ r ∧ r ≤ 4) ∧ Own B w0 (new ++ hs) w' := by
 refine fnStartC (Own B w0 hs) (n := 15) (e := [(0, bv)]) Tryd.func25 rfl rfl rfl rfl Ends.both hw ?_
 refine Wk.seq ?_
 refine Wk.region ?_
 refine Ll.alloc rfl rfl rfl rfl Tryd.zeroValue24 fun p2 hp2 => ?_
 show Ll _ _ (Own _ _ (bk_ p2 #[i6_ 0, str ([]), str ([])] 24 :: hs)) _ _ ((2, pt_ p2) :: _) _ _ _
 refine Ll.run 1 rfl ?_
 refine Ll.alloc rfl rfl rfl rfl Tryd.zeroValue24 fun p4 hp4 => ?_
 show Ll _ _ (Own _ _ (bk_ p4 #[i6_ 0, str ([]), str ([])] 24 :: _ :: hs)) _ _ ((4, pt_ p4) :: _) _ _ _
 refine Ll.run 2 rfl ?_
 refine Ll.nil ?_
 refine Kt.sel [0, 2, 4] [_, _, _] rfl ?_
 refine Wk.seq ?_
 refine Wk.region ?_
 refine Ll.run 1 rfl ?_
 refine Ll.callBack (ok := fun ((rp, v, M) : Nat × Value × List Int) => M.length ≤ 2000 ∧ Bytes8 M ∧ ∀ w1, Own B w0 hs w1 → Row w1 v (u8s M)) (v := fun ((rp, v, M) : Nat × Value × List Int) => .pointer (some ⟨rp, 0, none⟩)) (new := fun ((rp, v, M) : Nat × Value × List Int) => [(rp, .cells #[v, .int .i64 ((0 : Nat) : Int)] 119 (0, 0))]) (hs := hs) (xs := [.tmp 7]) (vs := [bv]) ([bk_ p4 #[i6_ 0, str ([]), str ([])] 24, bk_ p2 #[i6_ 0, str ([]), str ([])] 24] : List (Nat × Obj)) rfl rfl rfl rfl Tryd.call60 rfl (fun w1 hw1 => (open_ok B w0 ([bk_ p4 #[i6_ 0, str ([]), str ([])] 24, bk_ p2 #[i6_ 0, str ([]), str ([])] 24] : List (Nat × Obj)) hs _ _ w1 hb hL8 hLs hw1).mono fun en w' ⟨rp, v, M, h1, h2, h3⟩ => ⟨(rp, v, M), h1, h2, h3⟩) fun ⟨rp, dv, M⟩ hO => ?_
 dsimp only at hO
 obtain ⟨hM2, hM8, hMb⟩ := hO
 show Ll _ _ (Own _ _ (_ :: _ :: _ :: hs)) _ _ ((8, pt_ rp) :: _) _ _ _
 refine Ll.callRdL (rp := rp) (RT := 119) (p := 0) (bv := dv) (hs := hs) (ok := fun ((a, b, v, xs, u, ys, new, r) : St × St × Value × List Int × Value × List Int × List (Nat × Obj) × Int) p' => ((a.Tame ∧ b.Tame) ∧ (xs.length ≤ 40 ∧ ys.length ≤ 40) ∧ ∀ w1, Own B w0 new w1 → Ints w1 v xs ∧ Ints w1 u ys) ∧ (-1 ≤ r ∧ r ≤ 4) ∧ p' ≤ 0 + 2010) (v := fun ((a, b, v, xs, u, ys, new, r) : St × St × Value × List Int × Value × List Int × List (Nat × Obj) × Int) => .tuple #[vS a, v, vS b, u, .int .i64 r]) (new := fun ((a, b, v, xs, u, ys, new, r) : St × St × Value × List Int × Value × List Int × List (Nat × Obj) × Int) => new) (xs := [.tmp 8]) (vs := [pt_ rp]) ([bk_ p4 #[i6_ 0, str ([]), str ([])] 24, bk_ p2 #[i6_ 0, str ([]), str ([])] 24] : List (Nat × Obj)) rfl rfl rfl rfl Tryd.call79 rfl (fun w1 hw1 => (l5Draw_ok B w0 (([bk_ p4 #[i6_ 0, str ([]), str ([])] 24, bk_ p2 #[i6_ 0, str ([]), str ([])] 24] : List (Nat × Obj)) ++ hs) rp 0 dv M w1 (fun w2 hw2 => hMb w2 (Own.drop (f := ([bk_ p4 #[i6_ 0, str ([]), str ([])] 24, bk_ p2 #[i6_ 0, str ([]), str ([])] 24] : List (Nat × Obj))) hw2)) hM8 hM2 (by omega) hw1).mono fun en w' ⟨a, b, v, xs, u, ys, new, r, p', h1, h2, h3⟩ => ⟨(a, b, v, xs, u, ys, new, r), p', h1, h2, h3⟩) fun ⟨a9, b9, v9, xs9, u9, ys9, new9, r9⟩ p_9 hK => ?_
 dsimp only at hK
 obtain ⟨⟨⟨hta9, htb9⟩, ⟨hlxs9, hlys9⟩, hrw⟩, ⟨hlor9, hhir9⟩, hep_9⟩ := hK
 have hIv9 : ∀ w1, Own B w0 new9 w1 → Ints w1 v9 xs9 := fun w1 h => (hrw w1 h).1
 have hIu9 : ∀ w1, Own B w0 new9 w1 → Ints w1 u9 ys9 := fun w1 h => (hrw w1 h).2
 show Ll _ _ (Own _ _ (_ :: _ :: _ :: (new9 ++ hs))) _ _ ((9, .tuple #[vS a9, v9, vS b9, u9, i6_ r9]) :: _) _ _ _
 refine Ll.op (v := vS a9) rfl rfl rfl (OpQ.extract rfl rfl rfl) ?_
 refine Ll.op (v := v9) rfl rfl rfl (OpQ.extract rfl rfl rfl) ?_
 refine Ll.op (v := vS b9) rfl rfl rfl (OpQ.extract rfl rfl rfl) ?_
 refine Ll.op (v := u9) rfl rfl rfl (OpQ.extract rfl rfl rfl) ?_
 refine Ll.op (v := i6_ r9) rfl rfl rfl (OpQ.extract rfl rfl rfl) ?_
 refine Ll.storeBox (cs' := #[i6_ a9.n, str a9.set, str a9.rel]) (hs' := (_ :: bk_ p2 #[i6_ a9.n, str a9.set, str a9.rel] 24 :: _ :: (new9 ++ hs))) 1 rfl rfl rfl rfl rfl (by kernel_rfl : _ = some Tryd.t24) rfl rfl rfl rfl rfl ?_
 refine Ll.run 1 rfl ?_
 refine Ll.storeBox (cs' := #[i6_ b9.n, str b9.set, str b9.rel]) (hs' := (bk_ p4 #[i6_ b9.n, str b9.set, str b9.rel] 24 :: _ :: _ :: (new9 ++ hs))) 0 rfl rfl rfl rfl rfl (by kernel_rfl : _ = some Tryd.t24) rfl rfl rfl rfl rfl ?_
 refine Ll.run 2 rfl ?_
 refine Ll.nil ?_
 refine Kt.sel [2, 3, 4, 5, 6] [_, _, _, _, _] rfl ?_
 refine Wk.ret (Kt.endMany rfl (.cell (cs := #[i6_ a9.n, str a9.set, str a9.rel]) rfl (fun w1 hw1 => hw1.loadBox 1 rfl Tryd.isAgg24 Tryd.sizeOf24) (.tmp (v := v9) rfl (.cell (cs := #[i6_ b9.n, str b9.set, str b9.rel]) rfl (fun w1 hw1 => hw1.loadBox 0 rfl Tryd.isAgg24 Tryd.sizeOf24) (.tmp (v := u9) rfl (.tmp (v := i6_ r9) rfl ResAt.nil))))) (by simp) fun w' hw => ?_)
 -- ret 0: vS a9; v9; vS b9; u9; i6_ r9
 exact ⟨a9, b9, v9, xs9, u9, ys9, ([bk_ p4 #[i6_ b9.n, str b9.set, str b9.rel] 24, bk_ p2 #[i6_ a9.n, str a9.set, str a9.rel] 24, bk_ rp #[dv, i6_ ((p_9 : Int))] 119] : List (Nat × Obj)) ++ new9, r9, rfl, ⟨⟨⟨hta9, htb9⟩, ⟨(by first | omega | (simp only [List.length_append, List.length_cons, List.length_nil, List.length_take, List.length_set]; omega)), (by first | omega | (simp only [List.length_append, List.length_cons, List.length_nil, List.length_take, List.length_set]; omega))⟩, fun w1 h1 => ⟨(hIv9 _ (Own.drop (f := [_, _, _]) h1)), (hIu9 _ (Own.drop (f := [_, _, _]) h1))⟩⟩, ⟨by omega, by omega⟩⟩, hw⟩

end Go.Proofs.YtmannilblelfjaaDoor
