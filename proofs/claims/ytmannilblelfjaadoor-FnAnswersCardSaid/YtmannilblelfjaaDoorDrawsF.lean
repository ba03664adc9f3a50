/-
  Walks: draws of answers.
-/
import Derived.Test.YtmannilblelfjaaDoorDrawsC
import Derived.Test.YtmannilblelfjaaDoorBase
namespace Go.Proofs.YtmannilblelfjaaDoor
open Go.RowKit Go.Wk
set_option linter.unusedSimpArgs false

set_option maxHeartbeats 400000 in
/-- spec.DrawAnswersTo -/
theorem drawAns_ok (B : Nat) (w0 : World) (hs : List (Nat × Obj)) (bv : Value) (L : List Int) (w : World) (hb : ∀ w, Own B w0 hs w → Row w bv (u8s L)) (hL8 : Bytes8 L) (hLs : L.length ≤ 1048576) (hw : Own B w0 hs w) :
    Calls Tryd.prog 20 [bv].toArray w fun en w' => ∃ a : St, ∃ b : St, ∃ v : Value, ∃ xs : List Int, ∃ u : Value, ∃ ys : List Int, ∃ new : List (Nat × Obj), ∃ r : Int, en = .returned (.tuple #[vS a, v, vS b, u, .int .i64 r]) ∧ (((a.Tame ∧ b.Tame) ∧ (xs.length ≤ 40 ∧ ys.length ≤ 40) ∧ ∀ w1, Own B w0 new w1 → Ints w1 v xs ∧ Ints w1 u ys) ∧ -1 ≤ r ∧ r ≤ 9223372036854775807) ∧ Own B w0 (new ++ hs) w' := by
 refine fnStartC (Own B w0 hs) (n := 27) (e := [(0, bv)]) Tryd.func20 rfl rfl rfl rfl Ends.both hw ?_
 refine Wk.seq ?_
 refine Wk.region ?_
 refine Ll.alloc rfl rfl rfl rfl Tryd.zeroValue24 fun p2 hp2 => ?_
 show Ll _ _ (Own _ _ (_ :: hs)) _ _ ((2, pt_ p2) :: _) _ _ _
 refine Ll.run 1 rfl ?_
 refine Ll.alloc rfl rfl rfl rfl Tryd.zeroValue24 fun p4 hp4 => ?_
 show Ll _ _ (Own _ _ (_ :: _ :: hs)) _ _ ((4, pt_ p4) :: _) _ _ _
 refine Ll.run 2 rfl ?_
 refine Ll.nil ?_
 refine Kt.sel [0, 2, 4] [_, _, _] rfl ?_
 refine Wk.seq ?_
 refine Wk.region ?_
 refine Ll.run 1 rfl ?_
 refine Ll.callBack (ok := fun ((rp, v, M) : Nat × Value × List Int) => M.length ≤ 2000 ∧ Bytes8 M ∧ ∀ w1, Own B w0 hs w1 → Row w1 v (u8s M)) (v := fun ((rp, v, M) : Nat × Value × List Int) => .pointer (some ⟨rp, 0, none⟩)) (new := fun ((rp, v, M) : Nat × Value × List Int) => [(rp, .cells #[v, .int .i64 ((0 : Nat) : Int)] 119 (0, 0))]) (hs := hs) (xs := [.tmp 12]) (vs := [bv]) ([bk_ p4 #[i6_ 0, str ([]), str ([])] 24, bk_ p2 #[i6_ 0, str ([]), str ([])] 24] : List (Nat × Obj)) rfl rfl rfl rfl Tryd.call60 rfl (fun w1 hw1 => (open_ok B w0 ([bk_ p4 #[i6_ 0, str ([]), str ([])] 24, bk_ p2 #[i6_ 0, str ([]), str ([])] 24] : List (Nat × Obj)) hs _ _ w1 hb hL8 hLs hw1).mono fun en w' ⟨rp, v, M, h1, h2, h3⟩ => ⟨(rp, v, M), h1, h2, h3⟩) fun ⟨rp, dv, M⟩ hO => ?_
 dsimp only at hO
 obtain ⟨hM2, hM8, hMb⟩ := hO
 show Ll _ _ (Own _ _ (_ :: _ :: _ :: hs)) _ _ ((13, pt_ rp) :: _) _ _ _
 refine Ll.run 1 rfl ?_
 refine Ll.nil ?_
 refine Kt.sel [2, 4, 7] [_, _, _] rfl ?_
 refine Wk.seq ?_
 refine Wk.region ?_
 refine Ll.run 1 rfl ?_
 refine Ll.callRdL (rp := rp) (RT := 119) (p := 0) (bv := dv) (hs := hs) (ok := fun ((a, b, v, xs, u, ys, new) : St × St × Value × List Int × Value × List Int × List (Nat × Obj)) p' => ((a.Tame ∧ b.Tame) ∧ (xs.length ≤ 40 ∧ ys.length ≤ 40) ∧ ∀ w1, Own B w0 new w1 → Ints w1 v xs ∧ Ints w1 u ys) ∧ p' ≤ 0 + 2000) (v := fun ((a, b, v, xs, u, ys, new) : St × St × Value × List Int × Value × List Int × List (Nat × Obj)) => .tuple #[vS a, v, vS b, u]) (new := fun ((a, b, v, xs, u, ys, new) : St × St × Value × List Int × Value × List Int × List (Nat × Obj)) => new) (xs := [.tmp 15]) (vs := [pt_ rp]) ([bk_ p4 #[i6_ 0, str ([]), str ([])] 24, bk_ p2 #[i6_ 0, str ([]), str ([])] 24] : List (Nat × Obj)) rfl rfl rfl rfl Tryd.call70 rfl (fun w1 hw1 => (l4Pair_ok B w0 (([bk_ p4 #[i6_ 0, str ([]), str ([])] 24, bk_ p2 #[i6_ 0, str ([]), str ([])] 24] : List (Nat × Obj)) ++ hs) rp 0 dv M w1 (fun w2 hw2 => hMb w2 (Own.drop (f := ([bk_ p4 #[i6_ 0, str ([]), str ([])] 24, bk_ p2 #[i6_ 0, str ([]), str ([])] 24] : List (Nat × Obj))) hw2)) hM8 hM2 (by omega) hw1).mono fun en w' ⟨a, b, v, xs, u, ys, new, p', h1, h2, h3⟩ => ⟨(a, b, v, xs, u, ys, new), p', h1, h2, h3⟩) fun ⟨a16, b16, v16, xs16, u16, ys16, new16⟩ p_16 hK => ?_
 dsimp only at hK
 obtain ⟨⟨⟨hta16, htb16⟩, ⟨hlxs16, hlys16⟩, hrw⟩, hep_16⟩ := hK
 have hIv16 : ∀ w1, Own B w0 new16 w1 → Ints w1 v16 xs16 := fun w1 h => (hrw w1 h).1
 have hIu16 : ∀ w1, Own B w0 new16 w1 → Ints w1 u16 ys16 := fun w1 h => (hrw w1 h).2
 show Ll _ _ (Own _ _ (_ :: _ :: _ :: (new16 ++ hs))) _ _ ((16, .tuple #[vS a16, v16, vS b16, u16]) :: _) _ _ _
 refine Ll.run 5 rfl ?_
 refine Ll.alloc rfl rfl rfl rfl Tryd.zeroValue24 fun p8 hp8 => ?_
 show Ll _ _ (Own _ _ (_ :: _ :: _ :: _ :: (new16 ++ hs))) _ _ ((8, pt_ p8) :: _) _ _ _
 refine Ll.alloc rfl rfl rfl rfl Tryd.zeroValue24 fun p10 hp10 => ?_
 show Ll _ _ (Own _ _ (_ :: _ :: _ :: _ :: _ :: (new16 ++ hs))) _ _ ((10, pt_ p10) :: _) _ _ _
 refine Ll.storeBox (cs' := #[i6_ a16.n, str a16.set, str a16.rel]) (hs' := (_ :: bk_ p8 #[i6_ a16.n, str a16.set, str a16.rel] 24 :: _ :: _ :: _ :: (new16 ++ hs))) 1 rfl rfl rfl rfl rfl (by kernel_rfl : _ = some Tryd.t24) rfl rfl rfl rfl rfl ?_
 refine Ll.run 1 rfl ?_
 refine Ll.storeBox (cs' := #[i6_ b16.n, str b16.set, str b16.rel]) (hs' := (bk_ p10 #[i6_ b16.n, str b16.set, str b16.rel] 24 :: _ :: _ :: _ :: _ :: (new16 ++ hs))) 0 rfl rfl rfl rfl rfl (by kernel_rfl : _ = some Tryd.t24) rfl rfl rfl rfl rfl ?_
 refine Ll.run 1 rfl ?_
 refine Ll.nil ?_
 refine Kt.sel [2, 4, 7, 8, 9, 10, 11] [_, _, _, _, _, _, _] rfl ?_
 refine Wk.seq ?_
 refine Wk.regionS (S := Own B w0 [bk_ p10 #[i6_ b16.n, str b16.set, str b16.rel] 24, bk_ p8 #[i6_ a16.n, str a16.set, str a16.rel] 24]) [(0, true), (1, true), (2, true), (3, true), (4, true), (5, false), (6, false), (7, true), (8, false), (9, true), (10, true)] Base.mixed (fun _ h => h.drawn) (by kernel_rfl) ?_
 refine Ld.take rfl rfl rfl rfl rfl (OpQ.loadBox (cs := #[i6_ a16.n, str a16.set, str a16.rel]) 1 rfl Tryd.isAgg24 rfl rfl Tryd.sizeOf24) (pk [0, 1] rfl rfl) ?_
 refine Ld.run 1 rfl (pk [0, 1] rfl rfl) ?_
 refine Ld.take rfl rfl rfl rfl rfl (OpQ.loadBox (cs := #[i6_ b16.n, str b16.set, str b16.rel]) 0 rfl Tryd.isAgg24 rfl rfl Tryd.sizeOf24) (pk [0, 1] rfl rfl) ?_
 refine Ld.run 2 rfl (pk [0, 1] rfl rfl) ?_
 refine Ld.loud rfl ?_
 refine Ll.callRd (rp := rp) (RT := 119) (p := p_16) (bv := dv) (hs := (new16 ++ hs)) (ok := fun (v : Int) p' => (-1 ≤ v ∧ v ≤ 9223372036854775807) ∧ p' ≤ p_16 + 2) (v := fun (v : Int) => i6_ v) (new := fun (v : Int) => []) (xs := [.tmp 25]) (vs := [pt_ rp]) ([bk_ p10 #[i6_ b16.n, str b16.set, str b16.rel] 24, bk_ p8 #[i6_ a16.n, str a16.set, str a16.rel] 24, bk_ p4 #[i6_ 0, str ([]), str ([])] 24, bk_ p2 #[i6_ 0, str ([]), str ([])] 24] : List (Nat × Obj)) rfl rfl rfl rfl Tryd.call71 rfl (fun w1 hw1 => (element_ok B w0 (([bk_ p10 #[i6_ b16.n, str b16.set, str b16.rel] 24, bk_ p8 #[i6_ a16.n, str a16.set, str a16.rel] 24, bk_ p4 #[i6_ 0, str ([]), str ([])] 24, bk_ p2 #[i6_ 0, str ([]), str ([])] 24] : List (Nat × Obj)) ++ (new16 ++ hs)) rp p_16 dv M w1 (fun w2 hw2 => (fun w h => hMb w (Own.drop (f := new16) h)) w2 (Own.drop (f := ([bk_ p10 #[i6_ b16.n, str b16.set, str b16.rel] 24, bk_ p8 #[i6_ a16.n, str a16.set, str a16.rel] 24, bk_ p4 #[i6_ 0, str ([]), str ([])] 24, bk_ p2 #[i6_ 0, str ([]), str ([])] 24] : List (Nat × Obj))) hw2)) hM8 hM2 (by omega) hw1).mono fun en w' ⟨v', p', h1, h2, h3⟩ => ⟨v', p', h1, h2, h3⟩) fun v26 p_26 hKp_26 => ?_
 show Ll _ _ (Own _ _ (_ :: _ :: _ :: _ :: _ :: (new16 ++ hs))) _ _ ((26, i6_ v26) :: _) _ _ _
 obtain ⟨⟨hlov26, hhiv26⟩, hep_26⟩ := hKp_26
 refine Ll.nil (Ld.joint (pk [0, 1] rfl rfl) ?_)
 refine Ld.loud rfl ?_
 refine Ll.storeBox (cs' := #[i6_ a16.n, str a16.set, str a16.rel]) (hs' := (_ :: _ :: _ :: bk_ p2 #[i6_ a16.n, str a16.set, str a16.rel] 24 :: _ :: (new16 ++ hs))) 3 rfl rfl rfl rfl rfl (by kernel_rfl : _ = some Tryd.t24) rfl rfl rfl rfl rfl ?_
 refine Ll.nil (Ld.joint (pk [0, 1] rfl rfl) ?_)
 refine Ld.run 1 rfl (pk [0, 1] rfl rfl) ?_
 refine Ld.loud rfl ?_
 refine Ll.storeBox (cs' := #[i6_ b16.n, str b16.set, str b16.rel]) (hs' := (_ :: _ :: bk_ p4 #[i6_ b16.n, str b16.set, str b16.rel] 24 :: _ :: _ :: (new16 ++ hs))) 2 rfl rfl rfl rfl rfl (by kernel_rfl : _ = some Tryd.t24) rfl rfl rfl rfl rfl ?_
 refine Ll.nil (Ld.joint (pk [0, 1] rfl rfl) ?_)
 refine Ld.run 2 rfl (pk [0, 1] rfl rfl) ?_
 refine Ld.nil ?_
 refine Kt.sel [2, 3, 4, 5, 6] [_, _, _, _, _] rfl ?_
 refine Wk.ret (Kt.endMany rfl (.cell (cs := #[i6_ a16.n, str a16.set, str a16.rel]) rfl (fun w1 hw1 => hw1.loadBox 3 rfl Tryd.isAgg24 Tryd.sizeOf24) (.tmp (v := v16) rfl (.cell (cs := #[i6_ b16.n, str b16.set, str b16.rel]) rfl (fun w1 hw1 => hw1.loadBox 2 rfl Tryd.isAgg24 Tryd.sizeOf24) (.tmp (v := u16) rfl (.tmp (v := i6_ v26) rfl ResAt.nil))))) (by simp) fun w' hw => ?_)
 -- ret 0: vS a16; v16; vS b16; u16; i6_ v26
 exact ⟨a16, b16, v16, xs16, u16, ys16, ([bk_ p10 #[i6_ b16.n, str b16.set, str b16.rel] 24, bk_ p8 #[i6_ a16.n, str a16.set, str a16.rel] 24, bk_ p4 #[i6_ b16.n, str b16.set, str b16.rel] 24, bk_ p2 #[i6_ a16.n, str a16.set, str a16.rel] 24, bk_ rp #[dv, i6_ ((p_26 : Int))] 119] : List (Nat × Obj)) ++ new16, v26, rfl, ⟨⟨⟨hta16, htb16⟩, ⟨(by first | omega | (simp only [List.length_append, List.length_cons, List.length_nil, List.length_take, List.length_set]; omega)), (by first | omega | (simp only [List.length_append, List.length_cons, List.length_nil, List.length_take, List.length_set]; omega))⟩, fun w1 h1 => ⟨(hIv16 _ (Own.drop (f := [_, _, _, _, _]) h1)), (hIu16 _ (Own.drop (f := [_, _, _, _, _]) h1))⟩⟩, ⟨by omega, by omega⟩⟩, hw⟩

end Go.Proofs.YtmannilblelfjaaDoor
