/-
  Walks: the law of replies.
-/
import Derived.Test.YtmannilblelfjaaDoorMovesM
import Derived.Test.YtmannilblelfjaaDoorDrawsD
import Derived.Test.YtmannilblelfjaaDoorBase
namespace Go.Proofs.YtmannilblelfjaaDoor
open Go.RowKit Go.Wk
set_option linter.unusedSimpArgs false

set_option maxHeartbeats 400000 in
/-- spec.DrawSecondReply -/
theorem drawReply_ok (B : Nat) (w0 : World) (hs : List (Nat × Obj)) (bv : Value) (L : List Int) (w : World) (hb : ∀ w, Own B w0 hs w → Row w bv (u8s L)) (hL8 : Bytes8 L) (hLs : L.length ≤ 1048576) (hw : Own B w0 hs w) :
    Calls Tryd.prog 41 [bv].toArray w fun en w' => ∃ a : St, ∃ b : St, ∃ v : Value, ∃ xs : List Int, ∃ u : Value, ∃ ys : List Int, ∃ new : List (Nat × Obj), ∃ r : Int, ∃ s : List UInt8, ∃ x : Int, en = .returned (.tuple #[vS a, v, vS b, u, .int .i64 r, str s, .int .i64 x]) ∧ (((a.Tame ∧ b.Tame) ∧ (xs.length ≤ 40 ∧ ys.length ≤ 40) ∧ ∀ w1, Own B w0 new w1 → Ints w1 v xs ∧ Ints w1 u ys) ∧ (-1 ≤ r ∧ r ≤ 4) ∧ (-1 ≤ x ∧ x ≤ 9223372036854775807)) ∧ Own B w0 (new ++ hs) w' := by
 refine fnStartC (Own B w0 hs) (n := 35) (e := [(0, bv)]) Tryd.func41 rfl rfl rfl rfl Ends.both hw ?_
 refine Wk.seq ?_
 refine Wk.region ?_
 refine Ll.alloc rfl rfl rfl rfl Tryd.zeroValue24 fun p2 hp2 => ?_
 show Ll _ _ (Own _ _ (_ :: hs)) _ _ ((2, pt_ p2) :: _) _ _ _
 refine Ll.run 1 rfl ?_
 refine Ll.alloc rfl rfl rfl rfl Tryd.zeroValue24 fun p4 hp4 => ?_
 show Ll _ _ (Own _ _ (_ :: _ :: hs)) _ _ ((4, pt_ p4) :: _) _ _ _
 refine Ll.run 4 rfl ?_
 refine Ll.nil ?_
 refine Kt.sel [0, 2, 4] [_, _, _] rfl ?_
 refine Wk.seq ?_
 refine Wk.region ?_
 refine Ll.run 1 rfl ?_
 refine Ll.callBack (ok := fun ((rp, v, M) : Nat × Value × List Int) => M.length ≤ 2000 ∧ Bytes8 M ∧ ∀ w1, Own B w0 hs w1 → Row w1 v (u8s M)) (v := fun ((rp, v, M) : Nat × Value × List Int) => .pointer (some ⟨rp, 0, none⟩)) (new := fun ((rp, v, M) : Nat × Value × List Int) => [(rp, .cells #[v, .int .i64 ((0 : Nat) : Int)] 119 (0, 0))]) (hs := hs) (xs := [.tmp 15]) (vs := [bv]) ([bk_ p4 #[i6_ 0, str ([]), str ([])] 24, bk_ p2 #[i6_ 0, str ([]), str ([])] 24] : List (Nat × Obj)) rfl rfl rfl rfl Tryd.call60 rfl (fun w1 hw1 => (open_ok B w0 ([bk_ p4 #[i6_ 0, str ([]), str ([])] 24, bk_ p2 #[i6_ 0, str ([]), str ([])] 24] : List (Nat × Obj)) hs _ _ w1 hb hL8 hLs hw1).mono fun en w' ⟨rp, v, M, h1, h2, h3⟩ => ⟨(rp, v, M), h1, h2, h3⟩) fun ⟨rp, dv, M⟩ hO => ?_
 dsimp only at hO
 obtain ⟨hM2, hM8, hMb⟩ := hO
 show Ll _ _ (Own _ _ (_ :: _ :: _ :: hs)) _ _ ((16, pt_ rp) :: _) _ _ _
 refine Ll.run 1 rfl ?_
 refine Ll.nil ?_
 refine Kt.sel [2, 4, 9] [_, _, _] rfl ?_
 refine Wk.seq ?_
 refine Wk.region ?_
 refine Ll.run 1 rfl ?_
 refine Ll.callRdL (rp := rp) (RT := 119) (p := 0) (bv := dv) (hs := hs) (ok := fun ((a, b, v, xs, u, ys, new, r) : St × St × Value × List Int × Value × List Int × List (Nat × Obj) × Int) p' => ((a.Tame ∧ b.Tame) ∧ (xs.length ≤ 40 ∧ ys.length ≤ 40) ∧ ∀ w1, Own B w0 new w1 → Ints w1 v xs ∧ Ints w1 u ys) ∧ (-1 ≤ r ∧ r ≤ 4) ∧ p' ≤ 0 + 2010) (v := fun ((a, b, v, xs, u, ys, new, r) : St × St × Value × List Int × Value × List Int × List (Nat × Obj) × Int) => .tuple #[vS a, v, vS b, u, .int .i64 r]) (new := fun ((a, b, v, xs, u, ys, new, r) : St × St × Value × List Int × Value × List Int × List (Nat × Obj) × Int) => new) (xs := [.tmp 18]) (vs := [pt_ rp]) ([bk_ p4 #[i6_ 0, str ([]), str ([])] 24, bk_ p2 #[i6_ 0, str ([]), str ([])] 24] : List (Nat × Obj)) rfl rfl rfl rfl Tryd.call79 rfl (fun w1 hw1 => (l5Draw_ok B w0 (([bk_ p4 #[i6_ 0, str ([]), str ([])] 24, bk_ p2 #[i6_ 0, str ([]), str ([])] 24] : List (Nat × Obj)) ++ hs) rp 0 dv M w1 (fun w2 hw2 => hMb w2 (Own.drop (f := ([bk_ p4 #[i6_ 0, str ([]), str ([])] 24, bk_ p2 #[i6_ 0, str ([]), str ([])] 24] : List (Nat × Obj))) hw2)) hM8 hM2 (by omega) hw1).mono fun en w' ⟨a, b, v, xs, u, ys, new, r, p', h1, h2, h3⟩ => ⟨(a, b, v, xs, u, ys, new, r), p', h1, h2, h3⟩) fun ⟨a19, b19, v19, xs19, u19, ys19, new19, r19⟩ p_19 hK => ?_
 dsimp only at hK
 obtain ⟨⟨⟨hta19, htb19⟩, ⟨hlxs19, hlys19⟩, hrw⟩, ⟨hlor19, hhir19⟩, hep_19⟩ := hK
 have hIv19 : ∀ w1, Own B w0 new19 w1 → Ints w1 v19 xs19 := fun w1 h => (hrw w1 h).1
 have hIu19 : ∀ w1, Own B w0 new19 w1 → Ints w1 u19 ys19 := fun w1 h => (hrw w1 h).2
 show Ll _ _ (Own _ _ (_ :: _ :: _ :: (new19 ++ hs))) _ _ ((19, .tuple #[vS a19, v19, vS b19, u19, i6_ r19]) :: _) _ _ _
 refine Ll.run 1 rfl ?_
 refine Ll.op (v := vS a19) rfl rfl rfl (OpQ.extract rfl rfl rfl) ?_
 refine Ll.op (v := v19) rfl rfl rfl (OpQ.extract rfl rfl rfl) ?_
 refine Ll.op (v := vS b19) rfl rfl rfl (OpQ.extract rfl rfl rfl) ?_
 refine Ll.op (v := u19) rfl rfl rfl (OpQ.extract rfl rfl rfl) ?_
 refine Ll.op (v := i6_ r19) rfl rfl rfl (OpQ.extract rfl rfl rfl) ?_
 refine Ll.alloc rfl rfl rfl rfl Tryd.zeroValue24 fun p10 hp10 => ?_
 show Ll _ _ (Own _ _ (_ :: _ :: _ :: _ :: (new19 ++ hs))) _ _ ((10, pt_ p10) :: _) _ _ _
 refine Ll.alloc rfl rfl rfl rfl Tryd.zeroValue24 fun p12 hp12 => ?_
 show Ll _ _ (Own _ _ (_ :: _ :: _ :: _ :: _ :: (new19 ++ hs))) _ _ ((12, pt_ p12) :: _) _ _ _
 refine Ll.storeBox (cs' := #[i6_ a19.n, str a19.set, str a19.rel]) (hs' := (_ :: bk_ p10 #[i6_ a19.n, str a19.set, str a19.rel] 24 :: _ :: _ :: _ :: (new19 ++ hs))) 1 rfl rfl rfl rfl rfl (by kernel_rfl : _ = some Tryd.t24) rfl rfl rfl rfl rfl ?_
 refine Ll.run 1 rfl ?_
 refine Ll.storeBox (cs' := #[i6_ b19.n, str b19.set, str b19.rel]) (hs' := (bk_ p12 #[i6_ b19.n, str b19.set, str b19.rel] 24 :: _ :: _ :: _ :: _ :: (new19 ++ hs))) 0 rfl rfl rfl rfl rfl (by kernel_rfl : _ = some Tryd.t24) rfl rfl rfl rfl rfl ?_
 refine Ll.run 2 rfl ?_
 refine Ll.nil ?_
 refine Kt.sel [2, 4, 9, 10, 11, 12, 13, 14] [_, _, _, _, _, _, _, _] rfl ?_
 refine Wk.seq ?_
 refine Wk.regionS (S := Own B w0 [bk_ p12 #[i6_ b19.n, str b19.set, str b19.rel] 24, bk_ p10 #[i6_ a19.n, str a19.set, str a19.rel] 24]) [(0, true), (1, true), (2, true), (3, true), (4, true), (5, true), (8, true), (6, false), (7, false), (9, false), (10, false), (11, true), (12, false), (13, true), (14, true), (15, true), (16, true)] Base.mixed (fun _ h => h.drawn) (by kernel_rfl) ?_
 refine Ld.take rfl rfl rfl rfl rfl (OpQ.loadBox (cs := #[i6_ a19.n, str a19.set, str a19.rel]) 1 rfl Tryd.isAgg24 rfl rfl Tryd.sizeOf24) (pk [0, 1] rfl rfl) ?_
 refine Ld.run 1 rfl (pk [0, 1] rfl rfl) ?_
 refine Ld.take rfl rfl rfl rfl rfl (OpQ.loadBox (cs := #[i6_ b19.n, str b19.set, str b19.rel]) 0 rfl Tryd.isAgg24 rfl rfl Tryd.sizeOf24) (pk [0, 1] rfl rfl) ?_
 refine Ld.run 4 rfl (pk [0, 1] rfl rfl) ?_
 refine Ld.loud rfl ?_
 refine Ll.slice (xs := [.const (str ([97])), .const (str ([98])), .const (str ([97])), .const (str ([98])), .const (str ([97])), .const (str ([98])), .const (str ([])), .const (str ([99]))]) (vs := [str ([97]), str ([98]), str ([97]), str ([98]), str ([97]), str ([98]), str ([]), str ([99])]) Base.elem52 rfl rfl rfl rfl rfl rfl (by decide) rfl fun p31 hp31 => ?_
 refine Ll.nil (Ld.joint (pk [1, 2] rfl rfl) ?_)
 refine Ld.loud rfl ?_
 refine Ll.callRd (rp := rp) (RT := 119) (p := p_19) (bv := dv) (hs := (new19 ++ hs)) (ok := fun (v : List UInt8) p' => v ∈ (([[97], [98], [97], [98], [97], [98], [], [99]] : List (List UInt8))) ∧ p' = p_19 + 1) (v := fun (v : List UInt8) => str v) (new := fun (v : List UInt8) => []) (xs := [.tmp 30, .tmp 31]) (vs := [pt_ rp, sl_ p31 8 8]) ([bk_ p31 #[str ([97]), str ([98]), str ([97]), str ([98]), str ([97]), str ([98]), str ([]), str ([99])] 9, bk_ p12 #[i6_ b19.n, str b19.set, str b19.rel] 24, bk_ p10 #[i6_ a19.n, str a19.set, str a19.rel] 24, bk_ p4 #[i6_ 0, str ([]), str ([])] 24, bk_ p2 #[i6_ 0, str ([]), str ([])] 24] : List (Nat × Obj)) rfl rfl rfl rfl Tryd.call108 rfl (fun w1 hw1 => (of_ok B w0 (([bk_ p31 #[str ([97]), str ([98]), str ([97]), str ([98]), str ([97]), str ([98]), str ([]), str ([99])] 9, bk_ p12 #[i6_ b19.n, str b19.set, str b19.rel] 24, bk_ p10 #[i6_ a19.n, str a19.set, str a19.rel] 24, bk_ p4 #[i6_ 0, str ([]), str ([])] 24, bk_ p2 #[i6_ 0, str ([]), str ([])] 24] : List (Nat × Obj)) ++ (new19 ++ hs)) rp p_19 dv M (sl_ p31 8 8) (([[97], [98], [97], [98], [97], [98], [], [99]] : List (List UInt8))) w1 (fun w2 hw2 => (fun w h => hMb w (Own.drop (f := new19) h)) w2 (Own.drop (f := ([bk_ p31 #[str ([97]), str ([98]), str ([97]), str ([98]), str ([97]), str ([98]), str ([]), str ([99])] 9, bk_ p12 #[i6_ b19.n, str b19.set, str b19.rel] 24, bk_ p10 #[i6_ a19.n, str a19.set, str a19.rel] 24, bk_ p4 #[i6_ 0, str ([]), str ([])] 24, bk_ p2 #[i6_ 0, str ([]), str ([])] 24] : List (Nat × Obj))) hw2)) hM8 hM2 (fun w2 h2 => (Own.row h2 (i := 0) rfl (n := 8) (cap := 8) (vs := strs ([[97], [98], [97], [98], [97], [98], [], [99]] : List (List UInt8))) rfl rfl (by decide))) (by simp) (by omega) hw1).mono fun en w' ⟨v', p', h1, h2, h3⟩ => ⟨v', p', h1, h2, h3⟩) fun v32 p_32 hKp_32 => ?_
 show Ll _ _ (Own _ _ (_ :: _ :: _ :: _ :: _ :: _ :: (new19 ++ hs))) _ _ ((32, str v32) :: _) _ _ _
 obtain ⟨hmv32, hep_32⟩ := hKp_32
 refine Ll.nil (Ld.joint (pk [1, 2] rfl rfl) ?_)
 refine Ld.loud rfl ?_
 refine Ll.callRd (rp := rp) (RT := 119) (p := p_32) (bv := dv) (hs := (new19 ++ hs)) (ok := fun (v : Int) p' => (-1 ≤ v ∧ v ≤ 9223372036854775807) ∧ p' ≤ p_32 + 2) (v := fun (v : Int) => i6_ v) (new := fun (v : Int) => []) (xs := [.tmp 33]) (vs := [pt_ rp]) ([bk_ p31 #[str ([97]), str ([98]), str ([97]), str ([98]), str ([97]), str ([98]), str ([]), str ([99])] 9, bk_ p12 #[i6_ b19.n, str b19.set, str b19.rel] 24, bk_ p10 #[i6_ a19.n, str a19.set, str a19.rel] 24, bk_ p4 #[i6_ 0, str ([]), str ([])] 24, bk_ p2 #[i6_ 0, str ([]), str ([])] 24] : List (Nat × Obj)) rfl rfl rfl rfl Tryd.call71 rfl (fun w1 hw1 => (element_ok B w0 (([bk_ p31 #[str ([97]), str ([98]), str ([97]), str ([98]), str ([97]), str ([98]), str ([]), str ([99])] 9, bk_ p12 #[i6_ b19.n, str b19.set, str b19.rel] 24, bk_ p10 #[i6_ a19.n, str a19.set, str a19.rel] 24, bk_ p4 #[i6_ 0, str ([]), str ([])] 24, bk_ p2 #[i6_ 0, str ([]), str ([])] 24] : List (Nat × Obj)) ++ (new19 ++ hs)) rp p_32 dv M w1 (fun w2 hw2 => (fun w h => hMb w (Own.drop (f := new19) h)) w2 (Own.drop (f := ([bk_ p31 #[str ([97]), str ([98]), str ([97]), str ([98]), str ([97]), str ([98]), str ([]), str ([99])] 9, bk_ p12 #[i6_ b19.n, str b19.set, str b19.rel] 24, bk_ p10 #[i6_ a19.n, str a19.set, str a19.rel] 24, bk_ p4 #[i6_ 0, str ([]), str ([])] 24, bk_ p2 #[i6_ 0, str ([]), str ([])] 24] : List (Nat × Obj))) hw2)) hM8 hM2 (by omega) hw1).mono fun en w' ⟨v', p', h1, h2, h3⟩ => ⟨v', p', h1, h2, h3⟩) fun v34 p_34 hKp_34 => ?_
 show Ll _ _ (Own _ _ (_ :: _ :: _ :: _ :: _ :: _ :: (new19 ++ hs))) _ _ ((34, i6_ v34) :: _) _ _ _
 obtain ⟨⟨hlov34, hhiv34⟩, hep_34⟩ := hKp_34
 refine Ll.nil (Ld.joint (pk [1, 2] rfl rfl) ?_)
 refine Ld.loud rfl ?_
 refine Ll.storeBox (cs' := #[i6_ a19.n, str a19.set, str a19.rel]) (hs' := (_ :: _ :: _ :: _ :: bk_ p2 #[i6_ a19.n, str a19.set, str a19.rel] 24 :: _ :: (new19 ++ hs))) 4 rfl rfl rfl rfl rfl (by kernel_rfl : _ = some Tryd.t24) rfl rfl rfl rfl rfl ?_
 refine Ll.nil (Ld.joint (pk [1, 2] rfl rfl) ?_)
 refine Ld.run 1 rfl (pk [1, 2] rfl rfl) ?_
 refine Ld.loud rfl ?_
 refine Ll.storeBox (cs' := #[i6_ b19.n, str b19.set, str b19.rel]) (hs' := (_ :: _ :: _ :: bk_ p4 #[i6_ b19.n, str b19.set, str b19.rel] 24 :: _ :: _ :: (new19 ++ hs))) 3 rfl rfl rfl rfl rfl (by kernel_rfl : _ = some Tryd.t24) rfl rfl rfl rfl rfl ?_
 refine Ll.nil (Ld.joint (pk [1, 2] rfl rfl) ?_)
 refine Ld.run 4 rfl (pk [1, 2] rfl rfl) ?_
 refine Ld.nil ?_
 refine Kt.sel [2, 3, 4, 5, 6, 7, 8] [_, _, _, _, _, _, _] rfl ?_
 refine Wk.ret (Kt.endMany rfl (.cell (cs := #[i6_ a19.n, str a19.set, str a19.rel]) rfl (fun w1 hw1 => hw1.loadBox 4 rfl Tryd.isAgg24 Tryd.sizeOf24) (.tmp (v := v19) rfl (.cell (cs := #[i6_ b19.n, str b19.set, str b19.rel]) rfl (fun w1 hw1 => hw1.loadBox 3 rfl Tryd.isAgg24 Tryd.sizeOf24) (.tmp (v := u19) rfl (.tmp (v := i6_ r19) rfl (.tmp (v := str v32) rfl (.tmp (v := i6_ v34) rfl ResAt.nil))))))) (by simp) fun w' hw => ?_)
 -- ret 0: vS a19; v19; vS b19; u19; i6_ r19; str v32; i6_ v34
 exact ⟨a19, b19, v19, xs19, u19, ys19, ([bk_ p31 #[str ([97]), str ([98]), str ([97]), str ([98]), str ([97]), str ([98]), str ([]), str ([99])] 9, bk_ p12 #[i6_ b19.n, str b19.set, str b19.rel] 24, bk_ p10 #[i6_ a19.n, str a19.set, str a19.rel] 24, bk_ p4 #[i6_ b19.n, str b19.set, str b19.rel] 24, bk_ p2 #[i6_ a19.n, str a19.set, str a19.rel] 24, bk_ rp #[dv, i6_ ((p_34 : Int))] 119] : List (Nat × Obj)) ++ new19, r19, v32, v34, rfl, ⟨⟨⟨hta19, htb19⟩, ⟨(by first | omega | (simp only [List.length_append, List.length_cons, List.length_nil, List.length_take, List.length_set]; omega)), (by first | omega | (simp only [List.length_append, List.length_cons, List.length_nil, List.length_take, List.length_set]; omega))⟩, fun w1 h1 => ⟨(hIv19 _ (Own.drop (f := [_, _, _, _, _, _]) h1)), (hIu19 _ (Own.drop (f := [_, _, _, _, _, _]) h1))⟩⟩, ⟨⟨by omega, by omega⟩, ⟨by omega, by omega⟩⟩⟩, hw⟩

def lawFnReply_o11x : OV := (.one 1 (.one 3 (.one 6 (.one 10 (.one 13 (.one 16 (.take 17 .done)))))))
theorem lawFnReply_o11x_c : ovB (opsOf 11 Tryd.f10.body) lawFnReply_o11x 7 true #[true, false, true, false, true, true, false, true, true, true, false, true, true, false, true, true, false, false] = true := (ovB_one (by kernel_rfl) (ovB_one (by kernel_rfl) (ovB_one (by kernel_rfl) (ovB_one (by kernel_rfl) (ovB_one (by kernel_rfl) (ovB_one (by kernel_rfl) (ovB_take (by kernel_rfl) (ovB_done (by kernel_rfl)))))))))
def lawFnReply_o11_1x : OV := (.one 3 (.one 6 (.one 10 (.one 13 (.one 16 (.take 17 .done))))))
theorem lawFnReply_o11_1x_c : ovB (opsOf 11 Tryd.f10.body) lawFnReply_o11_1x 6 true #[true, true, true, false, true, true, false, true, true, true, false, true, true, false, true, true, false, false] = true := (ovB_one (by kernel_rfl) (ovB_one (by kernel_rfl) (ovB_one (by kernel_rfl) (ovB_one (by kernel_rfl) (ovB_one (by kernel_rfl) (ovB_take (by kernel_rfl) (ovB_done (by kernel_rfl))))))))
def lawFnReply_o11_2x : OV := (.one 5 (.one 6 (.one 10 (.one 13 (.one 16 (.take 17 .done))))))
theorem lawFnReply_o11_2x_c : ovB (opsOf 11 Tryd.f10.body) lawFnReply_o11_2x 6 true #[true, true, true, true, true, false, false, true, true, true, false, true, true, false, true, true, false, false] = true := (ovB_one (by kernel_rfl) (ovB_one (by kernel_rfl) (ovB_one (by kernel_rfl) (ovB_one (by kernel_rfl) (ovB_one (by kernel_rfl) (ovB_take (by kernel_rfl) (ovB_done (by kernel_rfl))))))))
def lawFnReply_o11_3x : OV := (.alt 3 lawFnReply_o11_2x (.one 5 lawFnReply_o11_1x))
theorem lawFnReply_o11_3x_c : ovB (opsOf 11 Tryd.f10.body) lawFnReply_o11_3x 7 true #[true, true, true, false, true, false, false, true, true, true, false, true, true, false, true, true, false, false] = true := (ovB_alt (by kernel_rfl) (ovB_at (by kernel_rfl) lawFnReply_o11_2x_c) (ovB_last (ovB_at (by kernel_rfl) lawFnReply_o11_1x_c)))
def lawFnReply_o11_4x : OV := (.alt 1 lawFnReply_o11_3x (.one 5 lawFnReply_o11x))
theorem lawFnReply_o11_4x_c : ovB (opsOf 11 Tryd.f10.body) lawFnReply_o11_4x 8 true #[true, false, true, false, true, false, false, true, true, true, false, true, true, false, true, true, false, false] = true := (ovB_alt (by kernel_rfl) (ovB_at (by kernel_rfl) lawFnReply_o11_3x_c) (ovB_last (ovB_at (by kernel_rfl) lawFnReply_o11x_c)))
def lawFnReply_o11_5x : OV := (.one 6 (.one 10 (.one 13 (.one 16 (.take 17 .done)))))
theorem lawFnReply_o11_5x_c : ovB (opsOf 11 Tryd.f10.body) lawFnReply_o11_5x 5 true #[true, true, true, true, true, true, false, true, true, true, false, true, true, false, true, true, false, false] = true := (ovB_one (by kernel_rfl) (ovB_one (by kernel_rfl) (ovB_one (by kernel_rfl) (ovB_one (by kernel_rfl) (ovB_take (by kernel_rfl) (ovB_done (by kernel_rfl)))))))
def lawFnReply_o11_6x : OV := (.one 8 (.one 10 (.one 13 (.one 16 (.take 17 .done)))))
theorem lawFnReply_o11_6x_c : ovB (opsOf 11 Tryd.f10.body) lawFnReply_o11_6x 5 true #[true, true, true, true, true, true, true, true, false, true, false, true, true, false, true, true, false, false] = true := (ovB_one (by kernel_rfl) (ovB_one (by kernel_rfl) (ovB_one (by kernel_rfl) (ovB_one (by kernel_rfl) (ovB_take (by kernel_rfl) (ovB_done (by kernel_rfl)))))))
def lawFnReply_o11_7x : OV := (.alt 6 lawFnReply_o11_6x (.one 8 lawFnReply_o11_5x))
theorem lawFnReply_o11_7x_c : ovB (opsOf 11 Tryd.f10.body) lawFnReply_o11_7x 6 true #[true, true, true, true, true, true, false, true, false, true, false, true, true, false, true, true, false, false] = true := (ovB_alt (by kernel_rfl) (ovB_at (by kernel_rfl) lawFnReply_o11_6x_c) (ovB_last (ovB_at (by kernel_rfl) lawFnReply_o11_5x_c)))
def lawFnReply_o11_8x : OV := (.alt 3 lawFnReply_o11_7x (.one 8 lawFnReply_o11_1x))
theorem lawFnReply_o11_8x_c : ovB (opsOf 11 Tryd.f10.body) lawFnReply_o11_8x 7 true #[true, true, true, false, true, true, false, true, false, true, false, true, true, false, true, true, false, false] = true := (ovB_alt (by kernel_rfl) (ovB_at (by kernel_rfl) lawFnReply_o11_7x_c) (ovB_last (ovB_at (by kernel_rfl) lawFnReply_o11_1x_c)))
def lawFnReply_o11_9x : OV := (.alt 1 lawFnReply_o11_8x (.one 8 lawFnReply_o11x))
theorem lawFnReply_o11_9x_c : ovB (opsOf 11 Tryd.f10.body) lawFnReply_o11_9x 8 true #[true, false, true, false, true, true, false, true, false, true, false, true, true, false, true, true, false, false] = true := (ovB_alt (by kernel_rfl) (ovB_at (by kernel_rfl) lawFnReply_o11_8x_c) (ovB_last (ovB_at (by kernel_rfl) lawFnReply_o11x_c)))
def lawFnReply_o11_10x : OV := (.alt 5 lawFnReply_o11_7x (.one 8 lawFnReply_o11_2x))
theorem lawFnReply_o11_10x_c : ovB (opsOf 11 Tryd.f10.body) lawFnReply_o11_10x 7 true #[true, true, true, true, true, false, false, true, false, true, false, true, true, false, true, true, false, false] = true := (ovB_alt (by kernel_rfl) (ovB_at (by kernel_rfl) lawFnReply_o11_7x_c) (ovB_last (ovB_at (by kernel_rfl) lawFnReply_o11_2x_c)))
def lawFnReply_o11_11x : OV := (.alt 3 lawFnReply_o11_10x (.alt 5 lawFnReply_o11_8x (.one 8 lawFnReply_o11_3x)))
theorem lawFnReply_o11_11x_c : ovB (opsOf 11 Tryd.f10.body) lawFnReply_o11_11x 8 true #[true, true, true, false, true, false, false, true, false, true, false, true, true, false, true, true, false, false] = true := (ovB_alt (by kernel_rfl) (ovB_at (by kernel_rfl) lawFnReply_o11_10x_c) (ovB_next (ovB_at (by kernel_rfl) lawFnReply_o11_8x_c) (ovB_last (ovB_at (by kernel_rfl) lawFnReply_o11_3x_c))))
def lawFnReply_o11_12x : OV := (.alt 1 lawFnReply_o11_11x (.alt 5 lawFnReply_o11_9x (.one 8 lawFnReply_o11_4x)))
theorem lawFnReply_o11_12x_c : ovB (opsOf 11 Tryd.f10.body) lawFnReply_o11_12x 9 true #[true, false, true, false, true, false, false, true, false, true, false, true, true, false, true, true, false, false] = true := (ovB_alt (by kernel_rfl) (ovB_at (by kernel_rfl) lawFnReply_o11_11x_c) (ovB_next (ovB_at (by kernel_rfl) lawFnReply_o11_9x_c) (ovB_last (ovB_at (by kernel_rfl) lawFnReply_o11_4x_c))))
def lawFnReply_o11_13x : OV := (.one 10 (.one 13 (.one 16 (.take 17 .done))))
theorem lawFnReply_o11_13x_c : ovB (opsOf 11 Tryd.f10.body) lawFnReply_o11_13x 4 true #[true, true, true, true, true, true, true, true, true, true, false, true, true, false, true, true, false, false] = true := (ovB_one (by kernel_rfl) (ovB_one (by kernel_rfl) (ovB_one (by kernel_rfl) (ovB_take (by kernel_rfl) (ovB_done (by kernel_rfl))))))
def lawFnReply_o11_14x : OV := (.one 12 (.one 13 (.one 16 (.take 17 .done))))
theorem lawFnReply_o11_14x_c : ovB (opsOf 11 Tryd.f10.body) lawFnReply_o11_14x 4 true #[true, true, true, true, true, true, true, true, true, true, true, true, false, false, true, true, false, false] = true := (ovB_one (by kernel_rfl) (ovB_one (by kernel_rfl) (ovB_one (by kernel_rfl) (ovB_take (by kernel_rfl) (ovB_done (by kernel_rfl))))))
def lawFnReply_o11_15x : OV := (.alt 10 lawFnReply_o11_14x (.one 12 lawFnReply_o11_13x))
theorem lawFnReply_o11_15x_c : ovB (opsOf 11 Tryd.f10.body) lawFnReply_o11_15x 5 true #[true, true, true, true, true, true, true, true, true, true, false, true, false, false, true, true, false, false] = true := (ovB_alt (by kernel_rfl) (ovB_at (by kernel_rfl) lawFnReply_o11_14x_c) (ovB_last (ovB_at (by kernel_rfl) lawFnReply_o11_13x_c)))
def lawFnReply_o11_16x : OV := (.alt 6 lawFnReply_o11_15x (.one 12 lawFnReply_o11_5x))
theorem lawFnReply_o11_16x_c : ovB (opsOf 11 Tryd.f10.body) lawFnReply_o11_16x 6 true #[true, true, true, true, true, true, false, true, true, true, false, true, false, false, true, true, false, false] = true := (ovB_alt (by kernel_rfl) (ovB_at (by kernel_rfl) lawFnReply_o11_15x_c) (ovB_last (ovB_at (by kernel_rfl) lawFnReply_o11_5x_c)))
def lawFnReply_o11_17x : OV := (.alt 3 lawFnReply_o11_16x (.one 12 lawFnReply_o11_1x))
theorem lawFnReply_o11_17x_c : ovB (opsOf 11 Tryd.f10.body) lawFnReply_o11_17x 7 true #[true, true, true, false, true, true, false, true, true, true, false, true, false, false, true, true, false, false] = true := (ovB_alt (by kernel_rfl) (ovB_at (by kernel_rfl) lawFnReply_o11_16x_c) (ovB_last (ovB_at (by kernel_rfl) lawFnReply_o11_1x_c)))
def lawFnReply_o11_18x : OV := (.alt 1 lawFnReply_o11_17x (.one 12 lawFnReply_o11x))
theorem lawFnReply_o11_18x_c : ovB (opsOf 11 Tryd.f10.body) lawFnReply_o11_18x 8 true #[true, false, true, false, true, true, false, true, true, true, false, true, false, false, true, true, false, false] = true := (ovB_alt (by kernel_rfl) (ovB_at (by kernel_rfl) lawFnReply_o11_17x_c) (ovB_last (ovB_at (by kernel_rfl) lawFnReply_o11x_c)))
def lawFnReply_o11_19x : OV := (.alt 5 lawFnReply_o11_16x (.one 12 lawFnReply_o11_2x))
theorem lawFnReply_o11_19x_c : ovB (opsOf 11 Tryd.f10.body) lawFnReply_o11_19x 7 true #[true, true, true, true, true, false, false, true, true, true, false, true, false, false, true, true, false, false] = true := (ovB_alt (by kernel_rfl) (ovB_at (by kernel_rfl) lawFnReply_o11_16x_c) (ovB_last (ovB_at (by kernel_rfl) lawFnReply_o11_2x_c)))
def lawFnReply_o11_20x : OV := (.alt 3 lawFnReply_o11_19x (.alt 5 lawFnReply_o11_17x (.one 12 lawFnReply_o11_3x)))
theorem lawFnReply_o11_20x_c : ovB (opsOf 11 Tryd.f10.body) lawFnReply_o11_20x 8 true #[true, true, true, false, true, false, false, true, true, true, false, true, false, false, true, true, false, false] = true := (ovB_alt (by kernel_rfl) (ovB_at (by kernel_rfl) lawFnReply_o11_19x_c) (ovB_next (ovB_at (by kernel_rfl) lawFnReply_o11_17x_c) (ovB_last (ovB_at (by kernel_rfl) lawFnReply_o11_3x_c))))
def lawFnReply_o11_21x : OV := (.alt 1 lawFnReply_o11_20x (.alt 5 lawFnReply_o11_18x (.one 12 lawFnReply_o11_4x)))
theorem lawFnReply_o11_21x_c : ovB (opsOf 11 Tryd.f10.body) lawFnReply_o11_21x 9 true #[true, false, true, false, true, false, false, true, true, true, false, true, false, false, true, true, false, false] = true := (ovB_alt (by kernel_rfl) (ovB_at (by kernel_rfl) lawFnReply_o11_20x_c) (ovB_next (ovB_at (by kernel_rfl) lawFnReply_o11_18x_c) (ovB_last (ovB_at (by kernel_rfl) lawFnReply_o11_4x_c))))
def lawFnReply_o11_22x : OV := (.alt 8 lawFnReply_o11_15x (.one 12 lawFnReply_o11_6x))
theorem lawFnReply_o11_22x_c : ovB (opsOf 11 Tryd.f10.body) lawFnReply_o11_22x 6 true #[true, true, true, true, true, true, true, true, false, true, false, true, false, false, true, true, false, false] = true := (ovB_alt (by kernel_rfl) (ovB_at (by kernel_rfl) lawFnReply_o11_15x_c) (ovB_last (ovB_at (by kernel_rfl) lawFnReply_o11_6x_c)))
def lawFnReply_o11_23x : OV := (.alt 6 lawFnReply_o11_22x (.alt 8 lawFnReply_o11_16x (.one 12 lawFnReply_o11_7x)))
theorem lawFnReply_o11_23x_c : ovB (opsOf 11 Tryd.f10.body) lawFnReply_o11_23x 7 true #[true, true, true, true, true, true, false, true, false, true, false, true, false, false, true, true, false, false] = true := (ovB_alt (by kernel_rfl) (ovB_at (by kernel_rfl) lawFnReply_o11_22x_c) (ovB_next (ovB_at (by kernel_rfl) lawFnReply_o11_16x_c) (ovB_last (ovB_at (by kernel_rfl) lawFnReply_o11_7x_c))))
def lawFnReply_o11_24x : OV := (.alt 3 lawFnReply_o11_23x (.alt 8 lawFnReply_o11_17x (.one 12 lawFnReply_o11_8x)))
theorem lawFnReply_o11_24x_c : ovB (opsOf 11 Tryd.f10.body) lawFnReply_o11_24x 8 true #[true, true, true, false, true, true, false, true, false, true, false, true, false, false, true, true, false, false] = true := (ovB_alt (by kernel_rfl) (ovB_at (by kernel_rfl) lawFnReply_o11_23x_c) (ovB_next (ovB_at (by kernel_rfl) lawFnReply_o11_17x_c) (ovB_last (ovB_at (by kernel_rfl) lawFnReply_o11_8x_c))))
def lawFnReply_o11_25x : OV := (.alt 1 lawFnReply_o11_24x (.alt 8 lawFnReply_o11_18x (.one 12 lawFnReply_o11_9x)))
theorem lawFnReply_o11_25x_c : ovB (opsOf 11 Tryd.f10.body) lawFnReply_o11_25x 9 true #[true, false, true, false, true, true, false, true, false, true, false, true, false, false, true, true, false, false] = true := (ovB_alt (by kernel_rfl) (ovB_at (by kernel_rfl) lawFnReply_o11_24x_c) (ovB_next (ovB_at (by kernel_rfl) lawFnReply_o11_18x_c) (ovB_last (ovB_at (by kernel_rfl) lawFnReply_o11_9x_c))))
def lawFnReply_o11_26x : OV := (.alt 5 lawFnReply_o11_23x (.alt 8 lawFnReply_o11_19x (.one 12 lawFnReply_o11_10x)))
theorem lawFnReply_o11_26x_c : ovB (opsOf 11 Tryd.f10.body) lawFnReply_o11_26x 8 true #[true, true, true, true, true, false, false, true, false, true, false, true, false, false, true, true, false, false] = true := (ovB_alt (by kernel_rfl) (ovB_at (by kernel_rfl) lawFnReply_o11_23x_c) (ovB_next (ovB_at (by kernel_rfl) lawFnReply_o11_19x_c) (ovB_last (ovB_at (by kernel_rfl) lawFnReply_o11_10x_c))))
def lawFnReply_o11_27x : OV := (.alt 3 lawFnReply_o11_26x (.alt 5 lawFnReply_o11_24x (.alt 8 lawFnReply_o11_20x (.one 12 lawFnReply_o11_11x))))
theorem lawFnReply_o11_27x_c : ovB (opsOf 11 Tryd.f10.body) lawFnReply_o11_27x 9 true #[true, true, true, false, true, false, false, true, false, true, false, true, false, false, true, true, false, false] = true := (ovB_alt (by kernel_rfl) (ovB_at (by kernel_rfl) lawFnReply_o11_26x_c) (ovB_next (ovB_at (by kernel_rfl) lawFnReply_o11_24x_c) (ovB_next (ovB_at (by kernel_rfl) lawFnReply_o11_20x_c) (ovB_last (ovB_at (by kernel_rfl) lawFnReply_o11_11x_c)))))
def lawFnReply_o11_28x : OV := (.take 0 (.take 2 (.take 4 (.take 7 (.take 9 (.take 11 (.take 14 (.take 15 (.alt 1 lawFnReply_o11_27x (.alt 5 lawFnReply_o11_25x (.alt 8 lawFnReply_o11_21x (.one 12 lawFnReply_o11_12x))))))))))))
theorem lawFnReply_o11_28x_c : ovB (opsOf 11 Tryd.f10.body) lawFnReply_o11_28x 18 true #[false, false, false, false, false, false, false, false, false, false, false, false, false, false, false, false, false, false] = true := (ovB_take (by kernel_rfl) (ovB_take (by kernel_rfl) (ovB_take (by kernel_rfl) (ovB_take (by kernel_rfl) (ovB_take (by kernel_rfl) (ovB_take (by kernel_rfl) (ovB_take (by kernel_rfl) (ovB_take (by kernel_rfl) (ovB_alt (by kernel_rfl) (ovB_at (by kernel_rfl) lawFnReply_o11_27x_c) (ovB_next (ovB_at (by kernel_rfl) lawFnReply_o11_25x_c) (ovB_next (ovB_at (by kernel_rfl) lawFnReply_o11_21x_c) (ovB_last (ovB_at (by kernel_rfl) lawFnReply_o11_12x_c)))))))))))))
def lawFnReply_o11_29x : OV := .done
theorem lawFnReply_o11_29x_c : ovB (opsOf 11 Tryd.f10.body) lawFnReply_o11_29x 0 true #[true, true, true, true, true, true, true, true, true, true, true, true, true, true, true, true, true, true] = true := (ovB_done (by kernel_rfl))
def lawFnReply_o12x : OV := (.take 0 (.take 1 (.take 2 (.take 3 (.take 4 (.take 6 (.take 7 (.take 8 (.take 9 (.take 10 (.take 11 (.take 12 (.take 13 (.take 16 (.one 5 (.take 14 (.one 15 (.one 17 (.take 18 (.take 19 (.take 20 (.take 21 (.take 22 .done)))))))))))))))))))))))
theorem lawFnReply_o12x_c : ovB (opsOf 12 Tryd.f10.body) lawFnReply_o12x 23 true #[false, false, false, false, false, false, false, false, false, false, false, false, false, false, false, false, false, false, false, false, false, false, false] = true := (ovB_take (by kernel_rfl) (ovB_take (by kernel_rfl) (ovB_take (by kernel_rfl) (ovB_take (by kernel_rfl) (ovB_take (by kernel_rfl) (ovB_take (by kernel_rfl) (ovB_take (by kernel_rfl) (ovB_take (by kernel_rfl) (ovB_take (by kernel_rfl) (ovB_take (by kernel_rfl) (ovB_take (by kernel_rfl) (ovB_take (by kernel_rfl) (ovB_take (by kernel_rfl) (ovB_take (by kernel_rfl) (ovB_one (by kernel_rfl) (ovB_take (by kernel_rfl) (ovB_one (by kernel_rfl) (ovB_one (by kernel_rfl) (ovB_take (by kernel_rfl) (ovB_take (by kernel_rfl) (ovB_take (by kernel_rfl) (ovB_take (by kernel_rfl) (ovB_take (by kernel_rfl) (ovB_done (by kernel_rfl)))))))))))))))))))))))))
set_option maxHeartbeats 4000000 in
/-- laws.FnSecondReply -/
theorem lawFnReply (bv : Value) (L : List Int) (w : World) (hbv : Row w bv (u8s L)) (hL8 : Bytes8 L) (hLm : L.length ≤ 9223372036854775807) :
    Calls Tryd.prog 10 [bv].toArray w fun en w' => en = .returned (.bool true) ∧ Below w.heap.size w w' := by
 refine fnStart (n := 139) (e := [(0, bv)]) Tryd.func10 rfl rfl rfl rfl Ends.both ?_
 refine Wk.seq ?_
 refine Wk.regionQ ?_
 refine Lq.run 1 rfl ?_
 refine Lq.nil ?_
 refine Kt.sel [0] [_] rfl ?_
 refine Wk.seq ?_
 refine Wk.seq ?_
 refine Wk.regionQ ?_
 refine Lq.run 1 rfl ?_
 refine Lq.op rfl rfl rfl (OpQ.lenRow rfl Tryd.runUnderlying22 rfl (u8s_length _) (fun w1 hw1 => Row.own hbv hw1)) ?_
 refine Lq.run 1 rfl ?_
 refine Lq.nil ?_
 refine Kt.sel [0, 21] [_, _] rfl ?_
 refine Wk.cond (b := decide ((1048576 : Int) < ((L.length : Int)))) rfl (fun h21 => ?_) (fun h21 => ?_)
 ·
  replace h21 := of_decide_eq_true h21
  refine Wk.seq ?_
  refine Wk.regionQ ?_
  refine Lq.run 1 rfl ?_
  refine Lq.nil ?_
  refine Kt.sel [2] [_] rfl ?_
  refine Wk.ret (Kt.end1 rfl rfl fun w' hw => ?_)
  -- ret 0: bo_ true
  exact ⟨ret_b (by first | rfl | (simp_all; done)), hw.below⟩
 ·
  replace h21 := of_decide_eq_false h21
  refine Wk.skip ?_
  refine Kt.sel [0] [_] rfl ?_
  refine Wk.seq ?_
  refine Wk.region ?_
  refine Ll.run 1 rfl ?_
  refine Ll.callBack (ok := fun ((a, b, v, xs, u, ys, new, r, s, x) : St × St × Value × List Int × Value × List Int × List (Nat × Obj) × Int × List UInt8 × Int) => ((a.Tame ∧ b.Tame) ∧ (xs.length ≤ 40 ∧ ys.length ≤ 40) ∧ ∀ w1, Own w.heap.size w new w1 → Ints w1 v xs ∧ Ints w1 u ys) ∧ (-1 ≤ r ∧ r ≤ 4) ∧ (-1 ≤ x ∧ x ≤ 9223372036854775807)) (v := fun ((a, b, v, xs, u, ys, new, r, s, x) : St × St × Value × List Int × Value × List Int × List (Nat × Obj) × Int × List UInt8 × Int) => .tuple #[vS a, v, vS b, u, .int .i64 r, str s, .int .i64 x]) (new := fun ((a, b, v, xs, u, ys, new, r, s, x) : St × St × Value × List Int × Value × List Int × List (Nat × Obj) × Int × List UInt8 × Int) => new) (hs := []) (xs := [.tmp 23]) (vs := [bv]) ([] : List (Nat × Obj)) rfl rfl rfl rfl Tryd.call41 rfl (fun w1 hw1 => (drawReply_ok w.heap.size w (([] : List (Nat × Obj)) ++ ([])) bv L w1 (fun w2 hw2 => Row.own hbv hw2) hL8 (by omega) hw1).mono fun en w' ⟨a, b, v, xs, u, ys, new, r, s, x, h1, h2, h3⟩ => ⟨(a, b, v, xs, u, ys, new, r, s, x), h1, h2, h3⟩) fun ⟨a24, b24, v24, xs24, u24, ys24, new24, r24, s24, x24⟩ hK => ?_
  dsimp only at hK
  obtain ⟨⟨⟨hta24, htb24⟩, ⟨hlxs24, hlys24⟩, hrw⟩, ⟨⟨hlor24, hhir24⟩, ⟨hlox24, hhix24⟩⟩⟩ := hK
  have hIv24 : ∀ w1, Own w.heap.size w new24 w1 → Ints w1 v24 xs24 := fun w1 h => (hrw w1 h).1
  have hIu24 : ∀ w1, Own w.heap.size w new24 w1 → Ints w1 u24 ys24 := fun w1 h => (hrw w1 h).2
  have hsa24 := hta24.small
  have loa24 := hta24.lo
  have hia24 := hta24.hi
  have hsb24 := htb24.small
  have lob24 := htb24.lo
  have hib24 := htb24.hi
  show Ll _ _ (Own _ _ ((new24 ++ ([])))) _ _ ((24, .tuple #[vS a24, v24, vS b24, u24, i6_ r24, str s24, i6_ x24]) :: _) _ _ _
  refine Ll.run 1 rfl ?_
  refine Ll.op (v := vS a24) rfl rfl rfl (OpQ.extract rfl rfl rfl) ?_
  refine Ll.op (v := v24) rfl rfl rfl (OpQ.extract rfl rfl rfl) ?_
  refine Ll.op (v := vS b24) rfl rfl rfl (OpQ.extract rfl rfl rfl) ?_
  refine Ll.op (v := u24) rfl rfl rfl (OpQ.extract rfl rfl rfl) ?_
  refine Ll.op (v := i6_ r24) rfl rfl rfl (OpQ.extract rfl rfl rfl) ?_
  refine Ll.op (v := str s24) rfl rfl rfl (OpQ.extract rfl rfl rfl) ?_
  refine Ll.op (v := i6_ x24) rfl rfl rfl (OpQ.extract rfl rfl rfl) ?_
  refine Ll.alloc rfl rfl rfl rfl Tryd.zeroValue24 fun p3 hp3 => ?_
  show Ll _ _ (Own _ _ (_ :: (new24 ++ ([])))) _ _ ((3, pt_ p3) :: _) _ _ _
  refine Ll.alloc rfl rfl rfl rfl Tryd.zeroValue24 fun p5 hp5 => ?_
  show Ll _ _ (Own _ _ (_ :: _ :: (new24 ++ ([])))) _ _ ((5, pt_ p5) :: _) _ _ _
  refine Ll.storeBox (cs' := #[i6_ a24.n, str a24.set, str a24.rel]) (hs' := (_ :: bk_ p3 #[i6_ a24.n, str a24.set, str a24.rel] 24 :: (new24 ++ ([])))) 1 rfl rfl rfl rfl rfl (by kernel_rfl : _ = some Tryd.t24) rfl rfl rfl rfl rfl ?_
  refine Ll.run 1 rfl ?_
  refine Ll.storeBox (cs' := #[i6_ b24.n, str b24.set, str b24.rel]) (hs' := (bk_ p5 #[i6_ b24.n, str b24.set, str b24.rel] 24 :: _ :: (new24 ++ ([])))) 0 rfl rfl rfl rfl rfl (by kernel_rfl : _ = some Tryd.t24) rfl rfl rfl rfl rfl ?_
  refine Ll.run 4 rfl ?_
  refine Ll.nil ?_
  refine Kt.sel [3, 4, 5, 6, 7, 8, 9] [_, _, _, _, _, _, _] rfl ?_
  refine Wk.seq ?_
  refine Wk.regionQ ?_
  refine Lq.op rfl rfl rfl (OpQ.loadBox (cs := #[i6_ a24.n, str a24.set, str a24.rel]) 1 rfl Tryd.isAgg24 rfl rfl Tryd.sizeOf24) ?_
  refine Lq.run 1 rfl ?_
  refine Lq.op rfl rfl rfl (OpQ.loadBox (cs := #[i6_ b24.n, str b24.set, str b24.rel]) 0 rfl Tryd.isAgg24 rfl rfl Tryd.sizeOf24) ?_
  refine Lq.run 4 rfl ?_
  refine Lq.op (v := .tuple #[i6_ ((((srO a24 xs24 b24 ys24 r24 s24 x24).getD 0 : Nat) : Int)), bo_ ((srO a24 xs24 b24 ys24 r24 s24 x24).isSome)]) rfl rfl rfl (OpQ.call rfl Tryd.call42 rfl Own.stable (fun w1 hw1 => iRep_ok a24 b24 xs24 ys24 v24 u24 w1 hsa24 hsb24 (hIv24 _ (Own.dropR (Own.drop (f := [_, _]) hw1))) (hIu24 _ (Own.dropR (Own.drop (f := [_, _]) hw1))) (by first | (simp; done) | (simp; omega) | omega) (by first | (simp; done) | (simp; omega) | omega) r24 s24 x24)) ?_
  refine Lq.run 1 rfl ?_
  refine Lq.op (v := i6_ ((((srO a24 xs24 b24 ys24 r24 s24 x24).getD 0 : Nat) : Int))) rfl rfl rfl (OpQ.extract rfl rfl rfl) ?_
  refine Lq.op (v := bo_ ((srO a24 xs24 b24 ys24 r24 s24 x24).isSome)) rfl rfl rfl (OpQ.extract rfl rfl rfl) ?_
  refine Lq.run 2 rfl ?_
  refine Lq.nil ?_
  refine Kt.sel [3, 4, 5, 6, 7, 8, 9, 10, 11] [_, _, _, _, _, _, _, _, _] rfl ?_
  refine Wk.seq ?_
  refine Wk.regionQ ?_
  refine Lq.op rfl rfl rfl (OpQ.loadBox (cs := #[i6_ a24.n, str a24.set, str a24.rel]) 1 rfl Tryd.isAgg24 rfl rfl Tryd.sizeOf24) ?_
  refine Lq.run 1 rfl ?_
  refine Lq.op rfl rfl rfl (OpQ.loadBox (cs := #[i6_ b24.n, str b24.set, str b24.rel]) 0 rfl Tryd.isAgg24 rfl rfl Tryd.sizeOf24) ?_
  refine Lq.run 4 rfl ?_
  refine Lq.op (v := .tuple #[i6_ ((((srO a24 xs24 b24 ys24 r24 s24 x24).getD 0 : Nat) : Int)), bo_ ((srO a24 xs24 b24 ys24 r24 s24 x24).isSome)]) rfl rfl rfl (OpQ.call rfl Tryd.call43 rfl Own.stable (fun w1 hw1 => sRep_ok a24 b24 xs24 ys24 v24 u24 w1 hsa24 hsb24 (hIv24 _ (Own.dropR (Own.drop (f := [_, _]) hw1))) (hIu24 _ (Own.dropR (Own.drop (f := [_, _]) hw1))) (by first | (simp; done) | (simp; omega) | omega) (by first | (simp; done) | (simp; omega) | omega) loa24 hia24 lob24 hib24 r24 s24 x24)) ?_
  refine Lq.run 1 rfl ?_
  refine Lq.op (v := i6_ ((((srO a24 xs24 b24 ys24 r24 s24 x24).getD 0 : Nat) : Int))) rfl rfl rfl (OpQ.extract rfl rfl rfl) ?_
  refine Lq.op (v := bo_ ((srO a24 xs24 b24 ys24 r24 s24 x24).isSome)) rfl rfl rfl (OpQ.extract rfl rfl rfl) ?_
  refine Lq.run 2 rfl ?_
  refine Lq.nil ?_
  refine Kt.sel [3, 4, 5, 6, 7, 8, 9, 10, 11, 12, 13] [_, _, _, _, _, _, _, _, _, _, _] rfl ?_
  refine Wk.seq ?_
  refine Wk.seq ?_
  refine Wk.regionQ ?_
  refine Lq.run 4 rfl ?_
  refine Lq.bool fun b57 hg57 => ?_
  cases b57
  ·
   replace hg57 := not_false hg57
   replace hg57 := of_decide_eq_true hg57
   refine Lq.run 2 rfl ?_
   refine Lq.op rfl rfl rfl (OpQ.bne rfl Tryd.runUnderlying4 rfl rfl) ?_
   refine Lq.run 2 rfl ?_
   refine Lq.bool fun b62 hg62 => ?_
   cases b62
   ·
    refine Lq.run 4 rfl ?_
    refine Lq.bool fun b66 hg66 => ?_
    cases b66
    ·
     replace hg66 := not_false hg66
     refine Lq.run 1 rfl ?_
     refine Lq.op rfl rfl rfl (OpQ.lenRow rfl Tryd.runUnderlying25 rfl (ints_length _) (fun w1 hw1 => hIv24 _ (Own.dropR (Own.drop (f := [_, _]) hw1)))) ?_
     refine Lq.run 2 rfl ?_
     refine Lq.nil ?_
     refine Kt.sel [3, 4, 5, 6, 7, 8, 9, 10, 11, 12, 13, 70] [_, _, _, _, _, _, _, _, _, _, _, _] rfl ?_
     refine Wk.cond (b := decide ((3 : Int) < ((xs24.length : Int)))) rfl (fun h70 => ?_) (fun h70 => ?_)
     ·
      replace h70 := of_decide_eq_true h70
      refine Wk.seq ?_
      refine Wk.regionQ ?_
      refine Lq.run 4 rfl ?_
      refine Lq.bool fun b74 hg74 => ?_
      cases b74
      ·
       replace hg74 := of_decide_eq_false hg74
       exact absurd rfl hg74
      ·
       replace hg74 := of_decide_eq_true hg74
       refine Lq.run 2 rfl ?_
       refine Lq.op rfl rfl rfl (OpQ.beq rfl Tryd.runUnderlying4 rfl rfl) ?_
       refine Lq.run 2 rfl ?_
       refine Lq.nil ?_
       refine Kt.sel [2] [_] rfl ?_
       refine Wk.ret (Kt.end1 rfl rfl fun w' hw => ?_)
       -- ret 1: bo_ (((srO a24 xs24 b24 ys24 r24 s24 x24).isSome) == ((srO a24 xs24 b24 ys24 r24 s24 x24).isSome))
       exact ⟨ret_b (by first | rfl | (simp_all; done)), hw.below⟩
     ·
      replace h70 := of_decide_eq_false h70
      obtain ⟨hLL, hr1, hr3, hsd⟩ := sr_lists hg66
      obtain ⟨LA, LB, hlen⟩ := listsB_true hLL
      have ha := LA.fine
      have hb := LB.fine
      have hA := LA.els
      have hB := LB.els
      have hl4 := LA.len
      have hlo1 := ha.lo
      have hlo2 := hb.lo
      have hhi1 := ha.hi
      have hhi2 := hb.hi
      have hsl : s24.length = 1 := by rcases hsd with e | e <;> rw [e] <;> rfl
      have hs0 : (s24.getD ((0 : Int).toNat) 0).toNat = 97 ∨ (s24.getD ((0 : Int).toNat) 0).toNat = 98 := by rcases hsd with e | e <;> rw [e] <;> decide
      refine Wk.skip ?_
      refine Kt.sel [3, 4, 5, 6, 7, 8, 9, 10] [_, _, _, _, _, _, _, _] rfl ?_
      refine Wk.seq ?_
      refine Wk.regionQ ?_
      refine Lq.run 4 rfl ?_
      refine Lq.nil ?_
      refine Kt.sel [3, 4, 5, 6, 7, 8, 9, 10, 14, 15] [_, _, _, _, _, _, _, _, _, _] rfl ?_
      refine Wk.seq ?_
      refine Wk.seq ?_
      refine Wk.regionQ ?_
      refine Lq.run 1 rfl ?_
      refine Lq.op rfl rfl rfl (OpQ.seql rfl rfl rfl) ?_
      refine Lq.nil ?_
      refine Kt.sel [3, 4, 5, 6, 7, 8, 9, 10, 14, 15, 82] [_, _, _, _, _, _, _, _, _, _, _] rfl ?_
      refine Wk.join (σ := Int × Int) (fun ⟨p9, q9⟩ => secB a24 (xs24 ++ [p9]) b24 (ys24 ++ [q9]) (r24 - 1) = true) (fun ⟨p9, q9⟩ => [(3, pt_ p3), (4, v24), (5, pt_ p5), (6, u24), (7, i6_ r24), (8, str s24), (9, i6_ x24), (10, i6_ ((((srO a24 xs24 b24 ys24 r24 s24 x24).getD 0 : Nat) : Int))), (14, i6_ p9), (15, i6_ q9)]) (fun ⟨p9, q9⟩ => Own w.heap.size w (bk_ p5 #[i6_ b24.n, str b24.set, str b24.rel] 24 :: bk_ p3 #[i6_ a24.n, str a24.set, str a24.rel] 24 :: (new24 ++ ([])))) ?_ ?_
      ·
       refine Wk.cond (b := s24 == ([98])) rfl (fun h82 => ?_) (fun h82 => ?_)
       ·
        refine Wk.regionQ ?_
        refine Lq.run 4 rfl ?_
        refine Lq.nil ?_
        refine Kt.joined (((((srO a24 xs24 b24 ys24 r24 s24 x24).getD 0 : Nat) : Int), x24)) (by first | exact sr_wins_b (by assumption) hg66 (by omega) | exact sr_wins_a (by assumption) hg66 (by omega)) (Sub.sel [3, 4, 5, 6, 7, 8, 9, 10, 14, 15] rfl) (fun _ h => h)
       ·
        refine Wk.skip ?_
        refine Kt.joined ((x24, (((srO a24 xs24 b24 ys24 r24 s24 x24).getD 0 : Nat) : Int))) (by first | exact sr_wins_b (by assumption) hg66 (by omega) | exact sr_wins_a (by assumption) hg66 (by omega)) (Sub.sel [3, 4, 5, 6, 7, 8, 9, 10, 14, 15] rfl) (fun _ h => h)
      rintro ⟨p9, q9⟩ hpq
      dsimp only
      replace hpq : secB a24 (xs24 ++ [p9]) b24 (ys24 ++ [q9]) (r24 - 1) = true := hpq
      refine Kt.sel [3, 4, 5, 6, 7, 8, 9, 10, 14, 15] [_, _, _, _, _, _, _, _, _, _] rfl ?_
      refine Wk.seq ?_
      refine Wk.regionV (S := Own w.heap.size w (bk_ p5 #[i6_ b24.n, str b24.set, str b24.rel] 24 :: bk_ p3 #[i6_ a24.n, str a24.set, str a24.rel] 24 :: (new24 ++ ([])))) lawFnReply_o11_28x Base.mixed (fun _ h => h.drawn) (ovOk_at (by kernel_rfl) (by kernel_rfl) (by kernel_rfl) (by kernel_rfl) lawFnReply_o11_28x_c) ?_
      refine Lv.share (σ := Nat × Nat × Nat × Array Value × Nat × Nat × Nat × Array Value) lawFnReply_o11_29x (fun ⟨p90, p91, cap91, cur91, p97, p98, cap98, cur98⟩ => (cur91.size = cap91 * 1 ∧ (xs24 ++ ([p9])).length ≤ cap91 ∧ cur91.toList.take (xs24 ++ ([p9])).length = ints (xs24 ++ ([p9]))) ∧ (cur98.size = cap98 * 1 ∧ (ys24 ++ ([q9])).length ≤ cap98 ∧ cur98.toList.take (ys24 ++ ([q9])).length = ints (ys24 ++ ([q9])))) (fun ⟨p90, p91, cap91, cur91, p97, p98, cap98, cur98⟩ => [(3, pt_ p3), (4, v24), (5, pt_ p5), (6, u24), (7, i6_ r24), (8, str s24), (9, i6_ x24), (10, i6_ ((((srO a24 xs24 b24 ys24 r24 s24 x24).getD 0 : Nat) : Int))), (16, bo_ (secB a24 (xs24 ++ ([p9])) b24 (ys24 ++ ([q9])) (r24 - (1 : Int))))]) (fun ⟨p90, p91, cap91, cur91, p97, p98, cap98, cur98⟩ => Own w.heap.size w (bk_ p90 #[i6_ p9] 3 :: bk_ p91 cur91 3 :: bk_ p97 #[i6_ q9] 3 :: bk_ p98 cur98 3 :: bk_ p5 #[i6_ b24.n, str b24.set, str b24.rel] 24 :: bk_ p3 #[i6_ a24.n, str a24.set, str a24.rel] 24 :: (new24 ++ ([])))) ?_ fun H11_ => ?_
      ·
       rintro ⟨p90, p91, cap91, cur91, p97, p98, cap98, cur98⟩ ⟨⟨hcp91, hlp91, htp91⟩, ⟨hcp98, hlp98, htp98⟩⟩
       dsimp only
       refine Lv.nil ?_
       refine Kt.sel [3, 4, 5, 6, 7, 8, 9, 10, 16] [_, _, _, _, _, _, _, _, _] rfl ?_
       refine Wk.seq ?_
       refine Wk.regionV (S := Own w.heap.size w (bk_ p90 #[i6_ p9] 3 :: bk_ p91 cur91 3 :: bk_ p97 #[i6_ q9] 3 :: bk_ p98 cur98 3 :: bk_ p5 #[i6_ b24.n, str b24.set, str b24.rel] 24 :: bk_ p3 #[i6_ a24.n, str a24.set, str a24.rel] 24 :: (new24 ++ ([])))) lawFnReply_o12x Base.mixed (fun _ h => h.drawn) (ovOk_at (by kernel_rfl) (by kernel_rfl) (by kernel_rfl) (by kernel_rfl) lawFnReply_o12x_c) ?_
       refine Lv.take rfl rfl rfl rfl rfl (OpQ.loadBox (cs := #[i6_ b24.n, str b24.set, str b24.rel]) 4 rfl Tryd.isAgg24 rfl rfl Tryd.sizeOf24) (fun _ h => h) ?_
       refine Lv.run 1 rfl (fun _ h => h) ?_
       refine Lv.take rfl rfl rfl rfl rfl (OpQ.loadBox (cs := #[i6_ a24.n, str a24.set, str a24.rel]) 5 rfl Tryd.isAgg24 rfl rfl Tryd.sizeOf24) (fun _ h => h) ?_
       refine Lv.run 3 rfl (fun _ h => h) ?_
       refine Lv.take (v := i6_ ((s24.length : Int))) rfl rfl rfl rfl rfl (OpQ.lenStr rfl Tryd.runUnderlying9 rfl) (fun _ h => h) ?_
       refine Lv.take rfl rfl rfl rfl rfl (OpQ.sub rfl rfl rfl (by omega) (by omega)) (fun _ h => h) ?_
       refine Lv.run 1 rfl (fun _ h => h) ?_
       refine Lv.take (v := .int .u8 (((s24.getD ((0 : Int).toNat) 0).toNat : Int))) rfl rfl rfl rfl rfl (OpQ.indexStr rfl Tryd.runUnderlying9 rfl rfl (by omega) (by omega)) (fun _ h => h) ?_
       refine Lv.take (v := i6_ (((s24.getD ((0 : Int).toNat) 0).toNat : Int))) rfl rfl rfl rfl rfl (OpQ.convInt .i64 rfl Tryd.underlying5 Tryd.underlying3 rfl (IntWalk.i64_in _ (by have := UInt8.toNat_lt (s24.getD ((0 : Int).toNat) 0); omega))) (fun _ h => h) ?_
       refine Lv.take rfl rfl rfl rfl rfl (OpQ.add rfl rfl rfl (by omega) (by omega)) (fun _ h => h) ?_
       refine Lv.take rfl rfl rfl rfl rfl (OpQ.sub rfl rfl rfl (by omega) (by omega)) (fun _ h => h) ?_
       refine Lv.run 1 rfl (fun _ h => h) ?_
       refine Lv.loud rfl ?_
       refine Ll.slice (xs := [.const (str ([98])), .const (str ([97]))]) (vs := [str ([98]), str ([97])]) Base.elem52 rfl rfl rfl rfl rfl rfl (by decide) rfl fun p108 hp108 => ?_
       refine Ll.nil (Lv.joint (fun _ h => h.tail) ?_)
       refine Lv.take (v := pf_ p108 ((((((s24.length : Int)) - (1 : Int)) + (((s24.getD ((0 : Int).toNat) 0).toNat : Int))) - (97 : Int)).toNat)) rfl rfl rfl rfl rfl (OpQ.cast (by rw [Nat.zero_add]) (OpQ.indexAddr1 (i := ((((s24.length : Int)) - (1 : Int)) + (((s24.getD ((0 : Int).toNat) 0).toNat : Int))) - (97 : Int)) rfl Tryd.runUnderlying52 Tryd.sizeOf9 rfl rfl (by omega) (by omega))) (fun _ h => h.tail) ?_
       refine Lv.loud rfl ?_
       refine Ll.op (v := str (otherS s24)) rfl rfl rfl (OpQ.loadAt 0 rfl Tryd.isAgg9 rfl rfl (other_at hsd)) ?_
       refine Ll.nil (Lv.joint (fun _ h => h.tail) ?_)
       refine Lv.loud rfl ?_
       refine Ll.op (v := .tuple #[i6_ ((((srO b24 ys24 a24 xs24 r24 (otherS s24) x24).getD 0 : Nat) : Int)), bo_ ((srO b24 ys24 a24 xs24 r24 (otherS s24) x24).isSome)]) rfl rfl rfl (OpQ.call rfl Tryd.call42 rfl Own.stable (fun w1 hw1 => iRep_ok b24 a24 ys24 xs24 u24 v24 w1 hsb24 hsa24 (hIu24 _ (Own.dropR (Own.drop (f := [_, _, _, _, _, _, _]) hw1))) (hIv24 _ (Own.dropR (Own.drop (f := [_, _, _, _, _, _, _]) hw1))) (by first | (simp; done) | (simp; omega) | omega) (by first | (simp; done) | (simp; omega) | omega) r24 (otherS s24) x24)) ?_
       refine Ll.nil (Lv.joint (fun _ h => h.tail) ?_)
       refine Lv.run 1 rfl (fun _ h => h.tail) ?_
       refine Lv.take (v := i6_ ((((srO b24 ys24 a24 xs24 r24 (otherS s24) x24).getD 0 : Nat) : Int))) rfl rfl rfl rfl rfl (OpQ.extract rfl rfl rfl) (fun _ h => h.tail) ?_
       refine Lv.take (v := bo_ ((srO b24 ys24 a24 xs24 r24 (otherS s24) x24).isSome)) rfl rfl rfl rfl rfl (OpQ.extract rfl rfl rfl) (fun _ h => h.tail) ?_
       refine Lv.run 2 rfl (fun _ h => h.tail) ?_
       refine Lv.nil ?_
       refine Kt.sel [3, 4, 5, 6, 10, 16, 17, 18] [_, _, _, _, _, _, _, _] rfl ?_
       refine Wk.seq ?_
       refine Wk.regionQ ?_
       refine Lq.run 2 rfl ?_
       refine Lq.bool fun b124 hg124 => ?_
       cases b124
       ·
        exact absurd hpq (by rw [hg124]; decide)
       ·
        refine Lq.op rfl rfl rfl (OpQ.loadBox (cs := #[i6_ a24.n, str a24.set, str a24.rel]) 6 rfl Tryd.isAgg24 rfl rfl Tryd.sizeOf24) ?_
        refine Lq.run 1 rfl ?_
        refine Lq.op rfl rfl rfl (OpQ.loadBox (cs := #[i6_ b24.n, str b24.set, str b24.rel]) 5 rfl Tryd.isAgg24 rfl rfl Tryd.sizeOf24) ?_
        refine Lq.run 1 rfl ?_
        refine Lq.op (v := bo_ (wayB a24 xs24 b24 ys24)) rfl rfl rfl (OpQ.call rfl Tryd.call19 rfl Own.stable (fun w1 hw1 => iPart_ok a24 b24 xs24 ys24 v24 u24 w1 hsa24 hsb24 (hIv24 _ (Own.dropR (Own.drop (f := [_, _, _, _, _, _, _]) hw1))) (hIu24 _ (Own.dropR (Own.drop (f := [_, _, _, _, _, _, _]) hw1))) (by first | (simp; done) | (simp; omega) | omega) (by first | (simp; done) | (simp; omega) | omega))) ?_
        refine Lq.run 2 rfl ?_
        refine Lq.bool fun b131 hg131 => ?_
        cases b131
        ·
         exact absurd (sr_way hg66) (by rw [hg131]; decide)
        ·
         refine Lq.run 3 rfl ?_
         refine Lq.bool fun b134 hg134 => ?_
         cases b134
         ·
          exact absurd hg134 (by rw [sr_other hsd, hg66]; decide)
         ·
          refine Lq.run 5 rfl ?_
          refine Lq.nil ?_
          refine Kt.sel [2] [_] rfl ?_
          refine Wk.ret (Kt.end1 rfl rfl fun w' hw => ?_)
          -- ret 2: bo_ (decide (((((srO b24 ys24 a24 xs24 r24 (otherS s24) x24).getD 0 : Nat) : Int)) = ((((srO a24 xs24 b24 ys24 r24 s24 x24).getD 0 : Nat) : Int))))
          exact ⟨ret_b (decide_eq_true (by rw [sr_other hsd])), hw.below⟩
      refine Lv.share (σ := Nat × Nat × Nat × Array Value × Nat) lawFnReply_o11_15x (fun ⟨p90, p91, cap91, cur91, p93⟩ => (cur91.size = cap91 * 1 ∧ (xs24 ++ ([p9])).length ≤ cap91 ∧ cur91.toList.take (xs24 ++ ([p9])).length = ints (xs24 ++ ([p9])))) (fun ⟨p90, p91, cap91, cur91, p93⟩ => [(3, pt_ p3), (4, v24), (5, pt_ p5), (6, u24), (7, i6_ r24), (8, str s24), (9, i6_ x24), (10, i6_ ((((srO a24 xs24 b24 ys24 r24 s24 x24).getD 0 : Nat) : Int))), (85, vS a24), (91, sl_ p91 (((xs24 ++ ([p9])).length)) cap91), (92, vS b24), (93, sl_ p93 0 0), (94, u24), (96, i6_ q9), (100, i6_ (r24 - (1 : Int)))]) (fun ⟨p90, p91, cap91, cur91, p93⟩ => Own w.heap.size w (bk_ p90 #[i6_ p9] 3 :: bk_ p91 cur91 3 :: bk_ p93 #[] 3 :: bk_ p5 #[i6_ b24.n, str b24.set, str b24.rel] 24 :: bk_ p3 #[i6_ a24.n, str a24.set, str a24.rel] 24 :: (new24 ++ ([])))) ?_ fun H11__1 => ?_
      ·
       rintro ⟨p90, p91, cap91, cur91, p93⟩ ⟨hcp91, hlp91, htp91⟩
       dsimp only
       refine Lv.alt rfl ?_ (Lv.loud rfl ?_)
       ·
        refine Ll.appendInts (xs := []) (ys := ys24) Base.elem25 2 rfl rfl rfl rfl rfl rfl rfl rfl (by decide) rfl (fun w1 hw1 => (hIu24 _ (Own.dropR (Own.drop (f := [_, _, _, _, _]) hw1)))) ((ys24).length) (by first | (simp; done) | (simp; omega)) (by first | (simp; done) | (simp; omega) | omega) fun p95 cap95 cur95 hp95 hcp95 hlp95 htp95 => ?_
        show Ll _ _ (Own _ _ (_ :: _ :: _ :: _ :: _ :: (new24 ++ ([])))) _ _ ((95, sl_ p95 (((ys24).length)) cap95) :: _) _ _ _
        refine Ll.nil (Lv.joint (fun _ h => h.tail.tail.tail) ?_)
        refine Lv.loud rfl ?_
        refine Ll.slice (xs := [.tmp 96]) (vs := [i6_ q9]) Base.elem25 rfl rfl rfl rfl rfl rfl (by decide) rfl fun p97 hp97 => ?_
        refine Ll.nil (Lv.joint (fun _ h => h.tail.tail.tail.tail) ?_)
        refine Lv.loud rfl ?_
        refine Ll.appendInts (xs := ys24) (ys := [q9]) Base.elem25 3 rfl rfl rfl rfl rfl rfl rfl hcp95 hlp95 (by simpa using htp95) (fun w1 hw1 => (Own.row hw1 (i := 0) rfl (n := 1) (cap := 1) (vs := ints [q9]) rfl rfl (by decide))) ((ys24 ++ ([q9])).length) (by first | (simp; done) | (simp; omega)) (by first | (simp; done) | (simp; omega) | omega) fun p98 cap98 cur98 hp98 hcp98 hlp98 htp98 => ?_
        show Ll _ _ (Own _ _ (_ :: _ :: _ :: _ :: _ :: _ :: (new24 ++ ([])))) _ _ ((98, sl_ p98 (((ys24 ++ ([q9])).length)) cap98) :: _) _ _ _
        refine Ll.nil (Lv.joint (fun _ h => h.tail.tail.tail.tail) ?_)
        refine Lv.loud rfl ?_
        refine Ll.op (v := bo_ (secB a24 (xs24 ++ ([p9])) b24 (ys24 ++ ([q9])) (r24 - (1 : Int)))) rfl rfl rfl (OpQ.call rfl Tryd.call26 rfl Own.stable (fun w1 hw1 => iWins_ok a24 b24 (xs24 ++ ([p9])) (ys24 ++ ([q9])) (sl_ p91 (((xs24 ++ ([p9])).length)) cap91) (sl_ p98 (((ys24 ++ ([q9])).length)) cap98) w1 hsa24 hsb24 (Own.row hw1 (i := 2) rfl (by simpa using htp91) (by simp) hlp91) (Own.row hw1 (i := 3) rfl (by simpa using htp98) (by simp) hlp98) (by first | (simp; done) | (simp; omega) | omega) (by first | (simp; done) | (simp; omega) | omega) (r24 - (1 : Int)))) ?_
        refine Ll.nil (Lv.joint (fun _ h => h.tail.tail.tail.tail) ?_)
        refine Lv.run 1 rfl (fun _ h => h.tail.tail.tail.tail) ?_
        exact Lv.to (H11_ ⟨p90, p91, cap91, cur91, p97, p98, cap98, cur98⟩ ⟨⟨by simpa using hcp91, hlp91, by simpa using (by simpa using htp91)⟩, ⟨by simpa using hcp98, hlp98, by simpa using (by simpa using htp98)⟩⟩) (Sub.sel [3, 4, 5, 6, 7, 8, 9, 10, 16] rfl) (fun _ h => Own.pickT (hs := [_, _, _, _]) (hs' := [_, _, _, _]) h [1, 2, 0, 3] rfl (by decide))
       ·
        refine Ll.slice (xs := [.tmp 96]) (vs := [i6_ q9]) Base.elem25 rfl rfl rfl rfl rfl rfl (by decide) rfl fun p97_1 hp97_1 => ?_
        refine Ll.nil (Lv.joint (fun _ h => h.tail.tail.tail.tail) ?_)
        refine Lv.loud rfl ?_
        refine Ll.appendInts (xs := []) (ys := ys24) Base.elem25 3 rfl rfl rfl rfl rfl rfl rfl rfl (by decide) rfl (fun w1 hw1 => (hIu24 _ (Own.dropR (Own.drop (f := [_, _, _, _, _, _]) hw1)))) ((ys24).length) (by first | (simp; done) | (simp; omega)) (by first | (simp; done) | (simp; omega) | omega) fun p95_1 cap95_1 cur95_1 hp95_1 hcp95_1 hlp95_1 htp95_1 => ?_
        show Ll _ _ (Own _ _ (_ :: _ :: _ :: _ :: _ :: _ :: (new24 ++ ([])))) _ _ ((95, sl_ p95_1 (((ys24).length)) cap95_1) :: _) _ _ _
        refine Ll.nil (Lv.joint (fun _ h => h.tail.tail.tail.tail) ?_)
        refine Lv.loud rfl ?_
        refine Ll.appendInts (xs := ys24) (ys := [q9]) Base.elem25 3 rfl rfl rfl rfl rfl rfl rfl hcp95_1 hlp95_1 (by simpa using htp95_1) (fun w1 hw1 => (Own.row hw1 (i := 0) rfl (n := 1) (cap := 1) (vs := ints [q9]) rfl rfl (by decide))) ((ys24 ++ ([q9])).length) (by first | (simp; done) | (simp; omega)) (by first | (simp; done) | (simp; omega) | omega) fun p98_1 cap98_1 cur98_1 hp98_1 hcp98_1 hlp98_1 htp98_1 => ?_
        show Ll _ _ (Own _ _ (_ :: _ :: _ :: _ :: _ :: _ :: (new24 ++ ([])))) _ _ ((98, sl_ p98_1 (((ys24 ++ ([q9])).length)) cap98_1) :: _) _ _ _
        refine Ll.nil (Lv.joint (fun _ h => h.tail.tail.tail.tail) ?_)
        refine Lv.loud rfl ?_
        refine Ll.op (v := bo_ (secB a24 (xs24 ++ ([p9])) b24 (ys24 ++ ([q9])) (r24 - (1 : Int)))) rfl rfl rfl (OpQ.call rfl Tryd.call26 rfl Own.stable (fun w1 hw1 => iWins_ok a24 b24 (xs24 ++ ([p9])) (ys24 ++ ([q9])) (sl_ p91 (((xs24 ++ ([p9])).length)) cap91) (sl_ p98_1 (((ys24 ++ ([q9])).length)) cap98_1) w1 hsa24 hsb24 (Own.row hw1 (i := 2) rfl (by simpa using htp91) (by simp) hlp91) (Own.row hw1 (i := 3) rfl (by simpa using htp98_1) (by simp) hlp98_1) (by first | (simp; done) | (simp; omega) | omega) (by first | (simp; done) | (simp; omega) | omega) (r24 - (1 : Int)))) ?_
        refine Ll.nil (Lv.joint (fun _ h => h.tail.tail.tail.tail) ?_)
        refine Lv.run 1 rfl (fun _ h => h.tail.tail.tail.tail) ?_
        exact Lv.to (H11_ ⟨p90, p91, cap91, cur91, p97_1, p98_1, cap98_1, cur98_1⟩ ⟨⟨by simpa using hcp91, hlp91, by simpa using (by simpa using htp91)⟩, ⟨by simpa using hcp98_1, hlp98_1, by simpa using (by simpa using htp98_1)⟩⟩) (Sub.sel [3, 4, 5, 6, 7, 8, 9, 10, 16] rfl) (fun _ h => Own.pickT (hs := [_, _, _, _]) (hs' := [_, _, _, _]) h [1, 2, 0, 3] rfl (by decide))
      refine Lv.share (σ := Nat × Nat × Nat × Array Value × Nat) lawFnReply_o11_6x (fun ⟨p90, p91, cap91, cur91, p97⟩ => (cur91.size = cap91 * 1 ∧ (xs24 ++ ([p9])).length ≤ cap91 ∧ cur91.toList.take (xs24 ++ ([p9])).length = ints (xs24 ++ ([p9])))) (fun ⟨p90, p91, cap91, cur91, p97⟩ => [(3, pt_ p3), (4, v24), (5, pt_ p5), (6, u24), (7, i6_ r24), (8, str s24), (9, i6_ x24), (10, i6_ ((((srO a24 xs24 b24 ys24 r24 s24 x24).getD 0 : Nat) : Int))), (85, vS a24), (91, sl_ p91 (((xs24 ++ ([p9])).length)) cap91), (92, vS b24), (94, u24), (97, sl_ p97 1 1), (100, i6_ (r24 - (1 : Int)))]) (fun ⟨p90, p91, cap91, cur91, p97⟩ => Own w.heap.size w (bk_ p90 #[i6_ p9] 3 :: bk_ p91 cur91 3 :: bk_ p97 #[i6_ q9] 3 :: bk_ p5 #[i6_ b24.n, str b24.set, str b24.rel] 24 :: bk_ p3 #[i6_ a24.n, str a24.set, str a24.rel] 24 :: (new24 ++ ([])))) ?_ fun H11__2 => ?_
      ·
       rintro ⟨p90, p91, cap91, cur91, p97⟩ ⟨hcp91, hlp91, htp91⟩
       dsimp only
       refine Lv.loud rfl ?_
       refine Ll.slice (xs := []) (vs := []) Base.elem25 rfl rfl rfl rfl rfl rfl (by decide) rfl fun p93 hp93 => ?_
       refine Ll.nil (Lv.joint (fun _ h => h.tail.tail.tail.tail) ?_)
       refine Lv.loud rfl ?_
       refine Ll.appendInts (xs := []) (ys := ys24) Base.elem25 0 rfl rfl rfl rfl rfl rfl rfl rfl (by decide) rfl (fun w1 hw1 => (hIu24 _ (Own.dropR (Own.drop (f := [_, _, _, _, _, _]) hw1)))) ((ys24).length) (by first | (simp; done) | (simp; omega)) (by first | (simp; done) | (simp; omega) | omega) fun p95_2 cap95_2 cur95_2 hp95_2 hcp95_2 hlp95_2 htp95_2 => ?_
       show Ll _ _ (Own _ _ (_ :: _ :: _ :: _ :: _ :: _ :: (new24 ++ ([])))) _ _ ((95, sl_ p95_2 (((ys24).length)) cap95_2) :: _) _ _ _
       refine Ll.nil (Lv.joint (fun _ h => h.tail.tail.tail.tail) ?_)
       refine Lv.loud rfl ?_
       refine Ll.appendInts (xs := ys24) (ys := [q9]) Base.elem25 0 rfl rfl rfl rfl rfl rfl rfl hcp95_2 hlp95_2 (by simpa using htp95_2) (fun w1 hw1 => (Own.row hw1 (i := 3) rfl (n := 1) (cap := 1) (vs := ints [q9]) rfl rfl (by decide))) ((ys24 ++ ([q9])).length) (by first | (simp; done) | (simp; omega)) (by first | (simp; done) | (simp; omega) | omega) fun p98_2 cap98_2 cur98_2 hp98_2 hcp98_2 hlp98_2 htp98_2 => ?_
       show Ll _ _ (Own _ _ (_ :: _ :: _ :: _ :: _ :: _ :: (new24 ++ ([])))) _ _ ((98, sl_ p98_2 (((ys24 ++ ([q9])).length)) cap98_2) :: _) _ _ _
       refine Ll.nil (Lv.joint (fun _ h => h.tail.tail.tail.tail) ?_)
       refine Lv.loud rfl ?_
       refine Ll.op (v := bo_ (secB a24 (xs24 ++ ([p9])) b24 (ys24 ++ ([q9])) (r24 - (1 : Int)))) rfl rfl rfl (OpQ.call rfl Tryd.call26 rfl Own.stable (fun w1 hw1 => iWins_ok a24 b24 (xs24 ++ ([p9])) (ys24 ++ ([q9])) (sl_ p91 (((xs24 ++ ([p9])).length)) cap91) (sl_ p98_2 (((ys24 ++ ([q9])).length)) cap98_2) w1 hsa24 hsb24 (Own.row hw1 (i := 2) rfl (by simpa using htp91) (by simp) hlp91) (Own.row hw1 (i := 0) rfl (by simpa using htp98_2) (by simp) hlp98_2) (by first | (simp; done) | (simp; omega) | omega) (by first | (simp; done) | (simp; omega) | omega) (r24 - (1 : Int)))) ?_
       refine Ll.nil (Lv.joint (fun _ h => h.tail.tail.tail.tail) ?_)
       refine Lv.run 1 rfl (fun _ h => h.tail.tail.tail.tail) ?_
       exact Lv.to (H11_ ⟨p90, p91, cap91, cur91, p97, p98_2, cap98_2, cur98_2⟩ ⟨⟨by simpa using hcp91, hlp91, by simpa using (by simpa using htp91)⟩, ⟨by simpa using hcp98_2, hlp98_2, by simpa using (by simpa using htp98_2)⟩⟩) (Sub.sel [3, 4, 5, 6, 7, 8, 9, 10, 16] rfl) (fun _ h => Own.pickT (hs := [_, _, _, _]) (hs' := [_, _, _, _]) h [1, 2, 3, 0] rfl (by decide))
      refine Lv.share (σ := Nat × Nat × Array Value × Nat × Nat × Nat) lawFnReply_o11_5x (fun ⟨p88, cap88, cur88, p90, p93, p97⟩ => (cur88.size = cap88 * 1 ∧ (xs24).length ≤ cap88 ∧ cur88.toList.take (xs24).length = ints xs24)) (fun ⟨p88, cap88, cur88, p90, p93, p97⟩ => [(3, pt_ p3), (4, v24), (5, pt_ p5), (6, u24), (7, i6_ r24), (8, str s24), (9, i6_ x24), (10, i6_ ((((srO a24 xs24 b24 ys24 r24 s24 x24).getD 0 : Nat) : Int))), (85, vS a24), (88, sl_ p88 (((xs24).length)) cap88), (90, sl_ p90 1 1), (92, vS b24), (93, sl_ p93 0 0), (94, u24), (97, sl_ p97 1 1), (100, i6_ (r24 - (1 : Int)))]) (fun ⟨p88, cap88, cur88, p90, p93, p97⟩ => Own w.heap.size w (bk_ p88 cur88 3 :: bk_ p90 #[i6_ p9] 3 :: bk_ p93 #[] 3 :: bk_ p97 #[i6_ q9] 3 :: bk_ p5 #[i6_ b24.n, str b24.set, str b24.rel] 24 :: bk_ p3 #[i6_ a24.n, str a24.set, str a24.rel] 24 :: (new24 ++ ([])))) ?_ fun H11__3 => ?_
      ·
       rintro ⟨p88, cap88, cur88, p90, p93, p97⟩ ⟨hcp88, hlp88, htp88⟩
       dsimp only
       refine Lv.loud rfl ?_
       refine Ll.appendInts (xs := xs24) (ys := [p9]) Base.elem25 0 rfl rfl rfl rfl rfl rfl rfl hcp88 hlp88 (by simpa using htp88) (fun w1 hw1 => (Own.row hw1 (i := 1) rfl (n := 1) (cap := 1) (vs := ints [p9]) rfl rfl (by decide))) ((xs24 ++ ([p9])).length) (by first | (simp; done) | (simp; omega)) (by first | (simp; done) | (simp; omega) | omega) fun p91 cap91 cur91 hp91 hcp91 hlp91 htp91 => ?_
       show Ll _ _ (Own _ _ (_ :: _ :: _ :: _ :: _ :: _ :: (new24 ++ ([])))) _ _ ((91, sl_ p91 (((xs24 ++ ([p9])).length)) cap91) :: _) _ _ _
       refine Ll.nil (Lv.joint (fun _ h => h.tail.tail.tail.tail) ?_)
       refine Lv.loud rfl ?_
       refine Ll.appendInts (xs := []) (ys := ys24) Base.elem25 2 rfl rfl rfl rfl rfl rfl rfl rfl (by decide) rfl (fun w1 hw1 => (hIu24 _ (Own.dropR (Own.drop (f := [_, _, _, _, _, _]) hw1)))) ((ys24).length) (by first | (simp; done) | (simp; omega)) (by first | (simp; done) | (simp; omega) | omega) fun p95_3 cap95_3 cur95_3 hp95_3 hcp95_3 hlp95_3 htp95_3 => ?_
       show Ll _ _ (Own _ _ (_ :: _ :: _ :: _ :: _ :: _ :: (new24 ++ ([])))) _ _ ((95, sl_ p95_3 (((ys24).length)) cap95_3) :: _) _ _ _
       refine Ll.nil (Lv.joint (fun _ h => h.tail.tail.tail.tail) ?_)
       refine Lv.loud rfl ?_
       refine Ll.appendInts (xs := ys24) (ys := [q9]) Base.elem25 2 rfl rfl rfl rfl rfl rfl rfl hcp95_3 hlp95_3 (by simpa using htp95_3) (fun w1 hw1 => (Own.row hw1 (i := 3) rfl (n := 1) (cap := 1) (vs := ints [q9]) rfl rfl (by decide))) ((ys24 ++ ([q9])).length) (by first | (simp; done) | (simp; omega)) (by first | (simp; done) | (simp; omega) | omega) fun p98_3 cap98_3 cur98_3 hp98_3 hcp98_3 hlp98_3 htp98_3 => ?_
       show Ll _ _ (Own _ _ (_ :: _ :: _ :: _ :: _ :: _ :: (new24 ++ ([])))) _ _ ((98, sl_ p98_3 (((ys24 ++ ([q9])).length)) cap98_3) :: _) _ _ _
       refine Ll.nil (Lv.joint (fun _ h => h.tail.tail.tail.tail) ?_)
       refine Lv.loud rfl ?_
       refine Ll.op (v := bo_ (secB a24 (xs24 ++ ([p9])) b24 (ys24 ++ ([q9])) (r24 - (1 : Int)))) rfl rfl rfl (OpQ.call rfl Tryd.call26 rfl Own.stable (fun w1 hw1 => iWins_ok a24 b24 (xs24 ++ ([p9])) (ys24 ++ ([q9])) (sl_ p91 (((xs24 ++ ([p9])).length)) cap91) (sl_ p98_3 (((ys24 ++ ([q9])).length)) cap98_3) w1 hsa24 hsb24 (Own.row hw1 (i := 0) rfl (by simpa using htp91) (by simp) hlp91) (Own.row hw1 (i := 2) rfl (by simpa using htp98_3) (by simp) hlp98_3) (by first | (simp; done) | (simp; omega) | omega) (by first | (simp; done) | (simp; omega) | omega) (r24 - (1 : Int)))) ?_
       refine Ll.nil (Lv.joint (fun _ h => h.tail.tail.tail.tail) ?_)
       refine Lv.run 1 rfl (fun _ h => h.tail.tail.tail.tail) ?_
       exact Lv.to (H11_ ⟨p90, p91, cap91, cur91, p97, p98_3, cap98_3, cur98_3⟩ ⟨⟨by simpa using hcp91, hlp91, by simpa using (by simpa using htp91)⟩, ⟨by simpa using hcp98_3, hlp98_3, by simpa using (by simpa using htp98_3)⟩⟩) (Sub.sel [3, 4, 5, 6, 7, 8, 9, 10, 16] rfl) (fun _ h => Own.pickT (hs := [_, _, _, _]) (hs' := [_, _, _, _]) h [1, 0, 3, 2] rfl (by decide))
      refine Lv.share (σ := Nat × Nat × Array Value × Nat × Nat) lawFnReply_o11_16x (fun ⟨p88, cap88, cur88, p90, p93⟩ => (cur88.size = cap88 * 1 ∧ (xs24).length ≤ cap88 ∧ cur88.toList.take (xs24).length = ints xs24)) (fun ⟨p88, cap88, cur88, p90, p93⟩ => [(3, pt_ p3), (4, v24), (5, pt_ p5), (6, u24), (7, i6_ r24), (8, str s24), (9, i6_ x24), (10, i6_ ((((srO a24 xs24 b24 ys24 r24 s24 x24).getD 0 : Nat) : Int))), (85, vS a24), (88, sl_ p88 (((xs24).length)) cap88), (90, sl_ p90 1 1), (92, vS b24), (93, sl_ p93 0 0), (94, u24), (96, i6_ q9), (100, i6_ (r24 - (1 : Int)))]) (fun ⟨p88, cap88, cur88, p90, p93⟩ => Own w.heap.size w (bk_ p88 cur88 3 :: bk_ p90 #[i6_ p9] 3 :: bk_ p93 #[] 3 :: bk_ p5 #[i6_ b24.n, str b24.set, str b24.rel] 24 :: bk_ p3 #[i6_ a24.n, str a24.set, str a24.rel] 24 :: (new24 ++ ([])))) ?_ fun H11__4 => ?_
      ·
       rintro ⟨p88, cap88, cur88, p90, p93⟩ ⟨hcp88, hlp88, htp88⟩
       dsimp only
       refine Lv.alt rfl ?_ (Lv.loud rfl ?_)
       ·
        refine Ll.appendInts (xs := xs24) (ys := [p9]) Base.elem25 0 rfl rfl rfl rfl rfl rfl rfl hcp88 hlp88 (by simpa using htp88) (fun w1 hw1 => (Own.row hw1 (i := 1) rfl (n := 1) (cap := 1) (vs := ints [p9]) rfl rfl (by decide))) ((xs24 ++ ([p9])).length) (by first | (simp; done) | (simp; omega)) (by first | (simp; done) | (simp; omega) | omega) fun p91_1 cap91_1 cur91_1 hp91_1 hcp91_1 hlp91_1 htp91_1 => ?_
        show Ll _ _ (Own _ _ (_ :: _ :: _ :: _ :: _ :: (new24 ++ ([])))) _ _ ((91, sl_ p91_1 (((xs24 ++ ([p9])).length)) cap91_1) :: _) _ _ _
        refine Ll.nil (Lv.joint (fun _ h => h.tail.tail.tail) ?_)
        exact Lv.to (H11__1 ⟨p90, p91_1, cap91_1, cur91_1, p93⟩ ⟨by simpa using hcp91_1, hlp91_1, by simpa using (by simpa using htp91_1)⟩) (Sub.sel [3, 4, 5, 6, 7, 8, 9, 10, 85, 91, 92, 93, 94, 96, 100] rfl) (fun _ h => Own.pickT (hs := [_, _, _]) (hs' := [_, _, _]) h [1, 0, 2] rfl (by decide))
       ·
        refine Ll.slice (xs := [.tmp 96]) (vs := [i6_ q9]) Base.elem25 rfl rfl rfl rfl rfl rfl (by decide) rfl fun p97_2 hp97_2 => ?_
        refine Ll.nil (Lv.joint (fun _ h => h.tail.tail.tail.tail) ?_)
        exact Lv.to (H11__3 ⟨p88, cap88, cur88, p90, p93, p97_2⟩ ⟨by simpa using hcp88, hlp88, by simpa using (by simpa using htp88)⟩) (Sub.sel [3, 4, 5, 6, 7, 8, 9, 10, 85, 88, 90, 92, 93, 94, 97, 100] rfl) (fun _ h => Own.pickT (hs := [_, _, _, _]) (hs' := [_, _, _, _]) h [1, 2, 3, 0] rfl (by decide))
      refine Lv.share (σ := Nat × Nat × Array Value × Nat × Nat) lawFnReply_o11_7x (fun ⟨p88, cap88, cur88, p90, p97⟩ => (cur88.size = cap88 * 1 ∧ (xs24).length ≤ cap88 ∧ cur88.toList.take (xs24).length = ints xs24)) (fun ⟨p88, cap88, cur88, p90, p97⟩ => [(3, pt_ p3), (4, v24), (5, pt_ p5), (6, u24), (7, i6_ r24), (8, str s24), (9, i6_ x24), (10, i6_ ((((srO a24 xs24 b24 ys24 r24 s24 x24).getD 0 : Nat) : Int))), (85, vS a24), (88, sl_ p88 (((xs24).length)) cap88), (90, sl_ p90 1 1), (92, vS b24), (94, u24), (97, sl_ p97 1 1), (100, i6_ (r24 - (1 : Int)))]) (fun ⟨p88, cap88, cur88, p90, p97⟩ => Own w.heap.size w (bk_ p88 cur88 3 :: bk_ p90 #[i6_ p9] 3 :: bk_ p97 #[i6_ q9] 3 :: bk_ p5 #[i6_ b24.n, str b24.set, str b24.rel] 24 :: bk_ p3 #[i6_ a24.n, str a24.set, str a24.rel] 24 :: (new24 ++ ([])))) ?_ fun H11__5 => ?_
      ·
       rintro ⟨p88, cap88, cur88, p90, p97⟩ ⟨hcp88, hlp88, htp88⟩
       dsimp only
       refine Lv.alt rfl ?_ (Lv.loud rfl ?_)
       ·
        refine Ll.appendInts (xs := xs24) (ys := [p9]) Base.elem25 0 rfl rfl rfl rfl rfl rfl rfl hcp88 hlp88 (by simpa using htp88) (fun w1 hw1 => (Own.row hw1 (i := 1) rfl (n := 1) (cap := 1) (vs := ints [p9]) rfl rfl (by decide))) ((xs24 ++ ([p9])).length) (by first | (simp; done) | (simp; omega)) (by first | (simp; done) | (simp; omega) | omega) fun p91_2 cap91_2 cur91_2 hp91_2 hcp91_2 hlp91_2 htp91_2 => ?_
        show Ll _ _ (Own _ _ (_ :: _ :: _ :: _ :: _ :: (new24 ++ ([])))) _ _ ((91, sl_ p91_2 (((xs24 ++ ([p9])).length)) cap91_2) :: _) _ _ _
        refine Ll.nil (Lv.joint (fun _ h => h.tail.tail.tail) ?_)
        exact Lv.to (H11__2 ⟨p90, p91_2, cap91_2, cur91_2, p97⟩ ⟨by simpa using hcp91_2, hlp91_2, by simpa using (by simpa using htp91_2)⟩) (Sub.sel [3, 4, 5, 6, 7, 8, 9, 10, 85, 91, 92, 94, 97, 100] rfl) (fun _ h => Own.pickT (hs := [_, _, _]) (hs' := [_, _, _]) h [1, 0, 2] rfl (by decide))
       ·
        refine Ll.slice (xs := []) (vs := []) Base.elem25 rfl rfl rfl rfl rfl rfl (by decide) rfl fun p93_1 hp93_1 => ?_
        refine Ll.nil (Lv.joint (fun _ h => h.tail.tail.tail.tail) ?_)
        exact Lv.to (H11__3 ⟨p88, cap88, cur88, p90, p93_1, p97⟩ ⟨by simpa using hcp88, hlp88, by simpa using (by simpa using htp88)⟩) (Sub.sel [3, 4, 5, 6, 7, 8, 9, 10, 85, 88, 90, 92, 93, 94, 97, 100] rfl) (fun _ h => Own.pickT (hs := [_, _, _, _]) (hs' := [_, _, _, _]) h [1, 2, 0, 3] rfl (by decide))
      refine Lv.share (σ := Nat × Nat × Array Value × Nat × Nat) lawFnReply_o11_2x (fun ⟨p88, cap88, cur88, p93, p97⟩ => (cur88.size = cap88 * 1 ∧ (xs24).length ≤ cap88 ∧ cur88.toList.take (xs24).length = ints xs24)) (fun ⟨p88, cap88, cur88, p93, p97⟩ => [(3, pt_ p3), (4, v24), (5, pt_ p5), (6, u24), (7, i6_ r24), (8, str s24), (9, i6_ x24), (10, i6_ ((((srO a24 xs24 b24 ys24 r24 s24 x24).getD 0 : Nat) : Int))), (85, vS a24), (88, sl_ p88 (((xs24).length)) cap88), (89, i6_ p9), (92, vS b24), (93, sl_ p93 0 0), (94, u24), (97, sl_ p97 1 1), (100, i6_ (r24 - (1 : Int)))]) (fun ⟨p88, cap88, cur88, p93, p97⟩ => Own w.heap.size w (bk_ p88 cur88 3 :: bk_ p93 #[] 3 :: bk_ p97 #[i6_ q9] 3 :: bk_ p5 #[i6_ b24.n, str b24.set, str b24.rel] 24 :: bk_ p3 #[i6_ a24.n, str a24.set, str a24.rel] 24 :: (new24 ++ ([])))) ?_ fun H11__6 => ?_
      ·
       rintro ⟨p88, cap88, cur88, p93, p97⟩ ⟨hcp88, hlp88, htp88⟩
       dsimp only
       refine Lv.loud rfl ?_
       refine Ll.slice (xs := [.tmp 89]) (vs := [i6_ p9]) Base.elem25 rfl rfl rfl rfl rfl rfl (by decide) rfl fun p90 hp90 => ?_
       refine Ll.nil (Lv.joint (fun _ h => h.tail.tail.tail.tail) ?_)
       refine Lv.loud rfl ?_
       refine Ll.appendInts (xs := xs24) (ys := [p9]) Base.elem25 1 rfl rfl rfl rfl rfl rfl rfl hcp88 hlp88 (by simpa using htp88) (fun w1 hw1 => (Own.row hw1 (i := 0) rfl (n := 1) (cap := 1) (vs := ints [p9]) rfl rfl (by decide))) ((xs24 ++ ([p9])).length) (by first | (simp; done) | (simp; omega)) (by first | (simp; done) | (simp; omega) | omega) fun p91_3 cap91_3 cur91_3 hp91_3 hcp91_3 hlp91_3 htp91_3 => ?_
       show Ll _ _ (Own _ _ (_ :: _ :: _ :: _ :: _ :: _ :: (new24 ++ ([])))) _ _ ((91, sl_ p91_3 (((xs24 ++ ([p9])).length)) cap91_3) :: _) _ _ _
       refine Ll.nil (Lv.joint (fun _ h => h.tail.tail.tail.tail) ?_)
       refine Lv.loud rfl ?_
       refine Ll.appendInts (xs := []) (ys := ys24) Base.elem25 2 rfl rfl rfl rfl rfl rfl rfl rfl (by decide) rfl (fun w1 hw1 => (hIu24 _ (Own.dropR (Own.drop (f := [_, _, _, _, _, _]) hw1)))) ((ys24).length) (by first | (simp; done) | (simp; omega)) (by first | (simp; done) | (simp; omega) | omega) fun p95_4 cap95_4 cur95_4 hp95_4 hcp95_4 hlp95_4 htp95_4 => ?_
       show Ll _ _ (Own _ _ (_ :: _ :: _ :: _ :: _ :: _ :: (new24 ++ ([])))) _ _ ((95, sl_ p95_4 (((ys24).length)) cap95_4) :: _) _ _ _
       refine Ll.nil (Lv.joint (fun _ h => h.tail.tail.tail.tail) ?_)
       refine Lv.loud rfl ?_
       refine Ll.appendInts (xs := ys24) (ys := [q9]) Base.elem25 2 rfl rfl rfl rfl rfl rfl rfl hcp95_4 hlp95_4 (by simpa using htp95_4) (fun w1 hw1 => (Own.row hw1 (i := 3) rfl (n := 1) (cap := 1) (vs := ints [q9]) rfl rfl (by decide))) ((ys24 ++ ([q9])).length) (by first | (simp; done) | (simp; omega)) (by first | (simp; done) | (simp; omega) | omega) fun p98_4 cap98_4 cur98_4 hp98_4 hcp98_4 hlp98_4 htp98_4 => ?_
       show Ll _ _ (Own _ _ (_ :: _ :: _ :: _ :: _ :: _ :: (new24 ++ ([])))) _ _ ((98, sl_ p98_4 (((ys24 ++ ([q9])).length)) cap98_4) :: _) _ _ _
       refine Ll.nil (Lv.joint (fun _ h => h.tail.tail.tail.tail) ?_)
       refine Lv.loud rfl ?_
       refine Ll.op (v := bo_ (secB a24 (xs24 ++ ([p9])) b24 (ys24 ++ ([q9])) (r24 - (1 : Int)))) rfl rfl rfl (OpQ.call rfl Tryd.call26 rfl Own.stable (fun w1 hw1 => iWins_ok a24 b24 (xs24 ++ ([p9])) (ys24 ++ ([q9])) (sl_ p91_3 (((xs24 ++ ([p9])).length)) cap91_3) (sl_ p98_4 (((ys24 ++ ([q9])).length)) cap98_4) w1 hsa24 hsb24 (Own.row hw1 (i := 1) rfl (by simpa using htp91_3) (by simp) hlp91_3) (Own.row hw1 (i := 2) rfl (by simpa using htp98_4) (by simp) hlp98_4) (by first | (simp; done) | (simp; omega) | omega) (by first | (simp; done) | (simp; omega) | omega) (r24 - (1 : Int)))) ?_
       refine Ll.nil (Lv.joint (fun _ h => h.tail.tail.tail.tail) ?_)
       refine Lv.run 1 rfl (fun _ h => h.tail.tail.tail.tail) ?_
       exact Lv.to (H11_ ⟨p90, p91_3, cap91_3, cur91_3, p97, p98_4, cap98_4, cur98_4⟩ ⟨⟨by simpa using hcp91_3, hlp91_3, by simpa using (by simpa using htp91_3)⟩, ⟨by simpa using hcp98_4, hlp98_4, by simpa using (by simpa using htp98_4)⟩⟩) (Sub.sel [3, 4, 5, 6, 7, 8, 9, 10, 16] rfl) (fun _ h => Own.pickT (hs := [_, _, _, _]) (hs' := [_, _, _, _]) h [0, 1, 3, 2] rfl (by decide))
      refine Lv.share (σ := Nat × Nat × Nat × Nat) lawFnReply_o11_1x (fun ⟨p86, p90, p93, p97⟩ => True) (fun ⟨p86, p90, p93, p97⟩ => [(3, pt_ p3), (4, v24), (5, pt_ p5), (6, u24), (7, i6_ r24), (8, str s24), (9, i6_ x24), (10, i6_ ((((srO a24 xs24 b24 ys24 r24 s24 x24).getD 0 : Nat) : Int))), (85, vS a24), (86, sl_ p86 0 0), (87, v24), (90, sl_ p90 1 1), (92, vS b24), (93, sl_ p93 0 0), (94, u24), (97, sl_ p97 1 1), (100, i6_ (r24 - (1 : Int)))]) (fun ⟨p86, p90, p93, p97⟩ => Own w.heap.size w (bk_ p86 #[] 3 :: bk_ p90 #[i6_ p9] 3 :: bk_ p93 #[] 3 :: bk_ p97 #[i6_ q9] 3 :: bk_ p5 #[i6_ b24.n, str b24.set, str b24.rel] 24 :: bk_ p3 #[i6_ a24.n, str a24.set, str a24.rel] 24 :: (new24 ++ ([])))) ?_ fun H11__7 => ?_
      ·
       rintro ⟨p86, p90, p93, p97⟩ -
       dsimp only
       refine Lv.loud rfl ?_
       refine Ll.appendInts (xs := []) (ys := xs24) Base.elem25 0 rfl rfl rfl rfl rfl rfl rfl rfl (by decide) rfl (fun w1 hw1 => (hIv24 _ (Own.dropR (Own.drop (f := [_, _, _, _, _, _]) hw1)))) ((xs24).length) (by first | (simp; done) | (simp; omega)) (by first | (simp; done) | (simp; omega) | omega) fun p88 cap88 cur88 hp88 hcp88 hlp88 htp88 => ?_
       show Ll _ _ (Own _ _ (_ :: _ :: _ :: _ :: _ :: _ :: (new24 ++ ([])))) _ _ ((88, sl_ p88 (((xs24).length)) cap88) :: _) _ _ _
       refine Ll.nil (Lv.joint (fun _ h => h.tail.tail.tail.tail) ?_)
       refine Lv.loud rfl ?_
       refine Ll.appendInts (xs := xs24) (ys := [p9]) Base.elem25 0 rfl rfl rfl rfl rfl rfl rfl hcp88 hlp88 (by simpa using htp88) (fun w1 hw1 => (Own.row hw1 (i := 1) rfl (n := 1) (cap := 1) (vs := ints [p9]) rfl rfl (by decide))) ((xs24 ++ ([p9])).length) (by first | (simp; done) | (simp; omega)) (by first | (simp; done) | (simp; omega) | omega) fun p91_4 cap91_4 cur91_4 hp91_4 hcp91_4 hlp91_4 htp91_4 => ?_
       show Ll _ _ (Own _ _ (_ :: _ :: _ :: _ :: _ :: _ :: (new24 ++ ([])))) _ _ ((91, sl_ p91_4 (((xs24 ++ ([p9])).length)) cap91_4) :: _) _ _ _
       refine Ll.nil (Lv.joint (fun _ h => h.tail.tail.tail.tail) ?_)
       refine Lv.loud rfl ?_
       refine Ll.appendInts (xs := []) (ys := ys24) Base.elem25 2 rfl rfl rfl rfl rfl rfl rfl rfl (by decide) rfl (fun w1 hw1 => (hIu24 _ (Own.dropR (Own.drop (f := [_, _, _, _, _, _]) hw1)))) ((ys24).length) (by first | (simp; done) | (simp; omega)) (by first | (simp; done) | (simp; omega) | omega) fun p95_5 cap95_5 cur95_5 hp95_5 hcp95_5 hlp95_5 htp95_5 => ?_
       show Ll _ _ (Own _ _ (_ :: _ :: _ :: _ :: _ :: _ :: (new24 ++ ([])))) _ _ ((95, sl_ p95_5 (((ys24).length)) cap95_5) :: _) _ _ _
       refine Ll.nil (Lv.joint (fun _ h => h.tail.tail.tail.tail) ?_)
       refine Lv.loud rfl ?_
       refine Ll.appendInts (xs := ys24) (ys := [q9]) Base.elem25 2 rfl rfl rfl rfl rfl rfl rfl hcp95_5 hlp95_5 (by simpa using htp95_5) (fun w1 hw1 => (Own.row hw1 (i := 3) rfl (n := 1) (cap := 1) (vs := ints [q9]) rfl rfl (by decide))) ((ys24 ++ ([q9])).length) (by first | (simp; done) | (simp; omega)) (by first | (simp; done) | (simp; omega) | omega) fun p98_5 cap98_5 cur98_5 hp98_5 hcp98_5 hlp98_5 htp98_5 => ?_
       show Ll _ _ (Own _ _ (_ :: _ :: _ :: _ :: _ :: _ :: (new24 ++ ([])))) _ _ ((98, sl_ p98_5 (((ys24 ++ ([q9])).length)) cap98_5) :: _) _ _ _
       refine Ll.nil (Lv.joint (fun _ h => h.tail.tail.tail.tail) ?_)
       refine Lv.loud rfl ?_
       refine Ll.op (v := bo_ (secB a24 (xs24 ++ ([p9])) b24 (ys24 ++ ([q9])) (r24 - (1 : Int)))) rfl rfl rfl (OpQ.call rfl Tryd.call26 rfl Own.stable (fun w1 hw1 => iWins_ok a24 b24 (xs24 ++ ([p9])) (ys24 ++ ([q9])) (sl_ p91_4 (((xs24 ++ ([p9])).length)) cap91_4) (sl_ p98_5 (((ys24 ++ ([q9])).length)) cap98_5) w1 hsa24 hsb24 (Own.row hw1 (i := 0) rfl (by simpa using htp91_4) (by simp) hlp91_4) (Own.row hw1 (i := 2) rfl (by simpa using htp98_5) (by simp) hlp98_5) (by first | (simp; done) | (simp; omega) | omega) (by first | (simp; done) | (simp; omega) | omega) (r24 - (1 : Int)))) ?_
       refine Ll.nil (Lv.joint (fun _ h => h.tail.tail.tail.tail) ?_)
       refine Lv.run 1 rfl (fun _ h => h.tail.tail.tail.tail) ?_
       exact Lv.to (H11_ ⟨p90, p91_4, cap91_4, cur91_4, p97, p98_5, cap98_5, cur98_5⟩ ⟨⟨by simpa using hcp91_4, hlp91_4, by simpa using (by simpa using htp91_4)⟩, ⟨by simpa using hcp98_5, hlp98_5, by simpa using (by simpa using htp98_5)⟩⟩) (Sub.sel [3, 4, 5, 6, 7, 8, 9, 10, 16] rfl) (fun _ h => Own.pickT (hs := [_, _, _, _]) (hs' := [_, _, _, _]) h [1, 0, 3, 2] rfl (by decide))
      refine Lv.share (σ := Nat × Nat × Array Value × Nat) lawFnReply_o11_23x (fun ⟨p88, cap88, cur88, p90⟩ => (cur88.size = cap88 * 1 ∧ (xs24).length ≤ cap88 ∧ cur88.toList.take (xs24).length = ints xs24)) (fun ⟨p88, cap88, cur88, p90⟩ => [(3, pt_ p3), (4, v24), (5, pt_ p5), (6, u24), (7, i6_ r24), (8, str s24), (9, i6_ x24), (10, i6_ ((((srO a24 xs24 b24 ys24 r24 s24 x24).getD 0 : Nat) : Int))), (85, vS a24), (88, sl_ p88 (((xs24).length)) cap88), (90, sl_ p90 1 1), (92, vS b24), (94, u24), (96, i6_ q9), (100, i6_ (r24 - (1 : Int)))]) (fun ⟨p88, cap88, cur88, p90⟩ => Own w.heap.size w (bk_ p88 cur88 3 :: bk_ p90 #[i6_ p9] 3 :: bk_ p5 #[i6_ b24.n, str b24.set, str b24.rel] 24 :: bk_ p3 #[i6_ a24.n, str a24.set, str a24.rel] 24 :: (new24 ++ ([])))) ?_ fun H11__8 => ?_
      ·
       rintro ⟨p88, cap88, cur88, p90⟩ ⟨hcp88, hlp88, htp88⟩
       dsimp only
       refine Lv.alt rfl ?_ (Lv.alt rfl ?_ (Lv.loud rfl ?_))
       ·
        refine Ll.appendInts (xs := xs24) (ys := [p9]) Base.elem25 0 rfl rfl rfl rfl rfl rfl rfl hcp88 hlp88 (by simpa using htp88) (fun w1 hw1 => (Own.row hw1 (i := 1) rfl (n := 1) (cap := 1) (vs := ints [p9]) rfl rfl (by decide))) ((xs24 ++ ([p9])).length) (by first | (simp; done) | (simp; omega)) (by first | (simp; done) | (simp; omega) | omega) fun p91_5 cap91_5 cur91_5 hp91_5 hcp91_5 hlp91_5 htp91_5 => ?_
        show Ll _ _ (Own _ _ (_ :: _ :: _ :: _ :: (new24 ++ ([])))) _ _ ((91, sl_ p91_5 (((xs24 ++ ([p9])).length)) cap91_5) :: _) _ _ _
        refine Ll.nil (Lv.joint (fun _ h => h.tail.tail) ?_)
        refine Lv.alt rfl ?_ (Lv.loud rfl ?_)
        ·
         refine Ll.slice (xs := []) (vs := []) Base.elem25 rfl rfl rfl rfl rfl rfl (by decide) rfl fun p93_2 hp93_2 => ?_
         refine Ll.nil (Lv.joint (fun _ h => h.tail.tail.tail) ?_)
         exact Lv.to (H11__1 ⟨p90, p91_5, cap91_5, cur91_5, p93_2⟩ ⟨by simpa using hcp91_5, hlp91_5, by simpa using (by simpa using htp91_5)⟩) (Sub.sel [3, 4, 5, 6, 7, 8, 9, 10, 85, 91, 92, 93, 94, 96, 100] rfl) (fun _ h => Own.pickT (hs := [_, _, _]) (hs' := [_, _, _]) h [2, 1, 0] rfl (by decide))
        ·
         refine Ll.slice (xs := [.tmp 96]) (vs := [i6_ q9]) Base.elem25 rfl rfl rfl rfl rfl rfl (by decide) rfl fun p97_3 hp97_3 => ?_
         refine Ll.nil (Lv.joint (fun _ h => h.tail.tail.tail) ?_)
         exact Lv.to (H11__2 ⟨p90, p91_5, cap91_5, cur91_5, p97_3⟩ ⟨by simpa using hcp91_5, hlp91_5, by simpa using (by simpa using htp91_5)⟩) (Sub.sel [3, 4, 5, 6, 7, 8, 9, 10, 85, 91, 92, 94, 97, 100] rfl) (fun _ h => Own.pickT (hs := [_, _, _]) (hs' := [_, _, _]) h [2, 1, 0] rfl (by decide))
       ·
        refine Ll.slice (xs := []) (vs := []) Base.elem25 rfl rfl rfl rfl rfl rfl (by decide) rfl fun p93_3 hp93_3 => ?_
        refine Ll.nil (Lv.joint (fun _ h => h.tail.tail.tail) ?_)
        exact Lv.to (H11__4 ⟨p88, cap88, cur88, p90, p93_3⟩ ⟨by simpa using hcp88, hlp88, by simpa using (by simpa using htp88)⟩) (Sub.sel [3, 4, 5, 6, 7, 8, 9, 10, 85, 88, 90, 92, 93, 94, 96, 100] rfl) (fun _ h => Own.pickT (hs := [_, _, _]) (hs' := [_, _, _]) h [1, 2, 0] rfl (by decide))
       ·
        refine Ll.slice (xs := [.tmp 96]) (vs := [i6_ q9]) Base.elem25 rfl rfl rfl rfl rfl rfl (by decide) rfl fun p97_4 hp97_4 => ?_
        refine Ll.nil (Lv.joint (fun _ h => h.tail.tail.tail) ?_)
        exact Lv.to (H11__5 ⟨p88, cap88, cur88, p90, p97_4⟩ ⟨by simpa using hcp88, hlp88, by simpa using (by simpa using htp88)⟩) (Sub.sel [3, 4, 5, 6, 7, 8, 9, 10, 85, 88, 90, 92, 94, 97, 100] rfl) (fun _ h => Own.pickT (hs := [_, _, _]) (hs' := [_, _, _]) h [1, 2, 0] rfl (by decide))
      refine Lv.share (σ := Nat × Nat × Array Value × Nat) lawFnReply_o11_19x (fun ⟨p88, cap88, cur88, p93⟩ => (cur88.size = cap88 * 1 ∧ (xs24).length ≤ cap88 ∧ cur88.toList.take (xs24).length = ints xs24)) (fun ⟨p88, cap88, cur88, p93⟩ => [(3, pt_ p3), (4, v24), (5, pt_ p5), (6, u24), (7, i6_ r24), (8, str s24), (9, i6_ x24), (10, i6_ ((((srO a24 xs24 b24 ys24 r24 s24 x24).getD 0 : Nat) : Int))), (85, vS a24), (88, sl_ p88 (((xs24).length)) cap88), (89, i6_ p9), (92, vS b24), (93, sl_ p93 0 0), (94, u24), (96, i6_ q9), (100, i6_ (r24 - (1 : Int)))]) (fun ⟨p88, cap88, cur88, p93⟩ => Own w.heap.size w (bk_ p88 cur88 3 :: bk_ p93 #[] 3 :: bk_ p5 #[i6_ b24.n, str b24.set, str b24.rel] 24 :: bk_ p3 #[i6_ a24.n, str a24.set, str a24.rel] 24 :: (new24 ++ ([])))) ?_ fun H11__9 => ?_
      ·
       rintro ⟨p88, cap88, cur88, p93⟩ ⟨hcp88, hlp88, htp88⟩
       dsimp only
       refine Lv.alt rfl ?_ (Lv.loud rfl ?_)
       ·
        refine Ll.slice (xs := [.tmp 89]) (vs := [i6_ p9]) Base.elem25 rfl rfl rfl rfl rfl rfl (by decide) rfl fun p90_1 hp90_1 => ?_
        refine Ll.nil (Lv.joint (fun _ h => h.tail.tail.tail) ?_)
        exact Lv.to (H11__4 ⟨p88, cap88, cur88, p90_1, p93⟩ ⟨by simpa using hcp88, hlp88, by simpa using (by simpa using htp88)⟩) (Sub.sel [3, 4, 5, 6, 7, 8, 9, 10, 85, 88, 90, 92, 93, 94, 96, 100] rfl) (fun _ h => Own.pickT (hs := [_, _, _]) (hs' := [_, _, _]) h [1, 0, 2] rfl (by decide))
       ·
        refine Ll.slice (xs := [.tmp 96]) (vs := [i6_ q9]) Base.elem25 rfl rfl rfl rfl rfl rfl (by decide) rfl fun p97_5 hp97_5 => ?_
        refine Ll.nil (Lv.joint (fun _ h => h.tail.tail.tail) ?_)
        exact Lv.to (H11__6 ⟨p88, cap88, cur88, p93, p97_5⟩ ⟨by simpa using hcp88, hlp88, by simpa using (by simpa using htp88)⟩) (Sub.sel [3, 4, 5, 6, 7, 8, 9, 10, 85, 88, 89, 92, 93, 94, 97, 100] rfl) (fun _ h => Own.pickT (hs := [_, _, _]) (hs' := [_, _, _]) h [1, 2, 0] rfl (by decide))
      refine Lv.share (σ := Nat × Nat × Array Value × Nat) lawFnReply_o11_10x (fun ⟨p88, cap88, cur88, p97⟩ => (cur88.size = cap88 * 1 ∧ (xs24).length ≤ cap88 ∧ cur88.toList.take (xs24).length = ints xs24)) (fun ⟨p88, cap88, cur88, p97⟩ => [(3, pt_ p3), (4, v24), (5, pt_ p5), (6, u24), (7, i6_ r24), (8, str s24), (9, i6_ x24), (10, i6_ ((((srO a24 xs24 b24 ys24 r24 s24 x24).getD 0 : Nat) : Int))), (85, vS a24), (88, sl_ p88 (((xs24).length)) cap88), (89, i6_ p9), (92, vS b24), (94, u24), (97, sl_ p97 1 1), (100, i6_ (r24 - (1 : Int)))]) (fun ⟨p88, cap88, cur88, p97⟩ => Own w.heap.size w (bk_ p88 cur88 3 :: bk_ p97 #[i6_ q9] 3 :: bk_ p5 #[i6_ b24.n, str b24.set, str b24.rel] 24 :: bk_ p3 #[i6_ a24.n, str a24.set, str a24.rel] 24 :: (new24 ++ ([])))) ?_ fun H11__10 => ?_
      ·
       rintro ⟨p88, cap88, cur88, p97⟩ ⟨hcp88, hlp88, htp88⟩
       dsimp only
       refine Lv.alt rfl ?_ (Lv.loud rfl ?_)
       ·
        refine Ll.slice (xs := [.tmp 89]) (vs := [i6_ p9]) Base.elem25 rfl rfl rfl rfl rfl rfl (by decide) rfl fun p90_2 hp90_2 => ?_
        refine Ll.nil (Lv.joint (fun _ h => h.tail.tail.tail) ?_)
        exact Lv.to (H11__5 ⟨p88, cap88, cur88, p90_2, p97⟩ ⟨by simpa using hcp88, hlp88, by simpa using (by simpa using htp88)⟩) (Sub.sel [3, 4, 5, 6, 7, 8, 9, 10, 85, 88, 90, 92, 94, 97, 100] rfl) (fun _ h => Own.pickT (hs := [_, _, _]) (hs' := [_, _, _]) h [1, 0, 2] rfl (by decide))
       ·
        refine Ll.slice (xs := []) (vs := []) Base.elem25 rfl rfl rfl rfl rfl rfl (by decide) rfl fun p93_4 hp93_4 => ?_
        refine Ll.nil (Lv.joint (fun _ h => h.tail.tail.tail) ?_)
        exact Lv.to (H11__6 ⟨p88, cap88, cur88, p93_4, p97⟩ ⟨by simpa using hcp88, hlp88, by simpa using (by simpa using htp88)⟩) (Sub.sel [3, 4, 5, 6, 7, 8, 9, 10, 85, 88, 89, 92, 93, 94, 97, 100] rfl) (fun _ h => Own.pickT (hs := [_, _, _]) (hs' := [_, _, _]) h [1, 0, 2] rfl (by decide))
      refine Lv.share (σ := Nat × Nat × Nat) lawFnReply_o11_17x (fun ⟨p86, p90, p93⟩ => True) (fun ⟨p86, p90, p93⟩ => [(3, pt_ p3), (4, v24), (5, pt_ p5), (6, u24), (7, i6_ r24), (8, str s24), (9, i6_ x24), (10, i6_ ((((srO a24 xs24 b24 ys24 r24 s24 x24).getD 0 : Nat) : Int))), (85, vS a24), (86, sl_ p86 0 0), (87, v24), (90, sl_ p90 1 1), (92, vS b24), (93, sl_ p93 0 0), (94, u24), (96, i6_ q9), (100, i6_ (r24 - (1 : Int)))]) (fun ⟨p86, p90, p93⟩ => Own w.heap.size w (bk_ p86 #[] 3 :: bk_ p90 #[i6_ p9] 3 :: bk_ p93 #[] 3 :: bk_ p5 #[i6_ b24.n, str b24.set, str b24.rel] 24 :: bk_ p3 #[i6_ a24.n, str a24.set, str a24.rel] 24 :: (new24 ++ ([])))) ?_ fun H11__11 => ?_
      ·
       rintro ⟨p86, p90, p93⟩ -
       dsimp only
       refine Lv.alt rfl ?_ (Lv.loud rfl ?_)
       ·
        refine Ll.appendInts (xs := []) (ys := xs24) Base.elem25 0 rfl rfl rfl rfl rfl rfl rfl rfl (by decide) rfl (fun w1 hw1 => (hIv24 _ (Own.dropR (Own.drop (f := [_, _, _, _, _]) hw1)))) ((xs24).length) (by first | (simp; done) | (simp; omega)) (by first | (simp; done) | (simp; omega) | omega) fun p88_1 cap88_1 cur88_1 hp88_1 hcp88_1 hlp88_1 htp88_1 => ?_
        show Ll _ _ (Own _ _ (_ :: _ :: _ :: _ :: _ :: (new24 ++ ([])))) _ _ ((88, sl_ p88_1 (((xs24).length)) cap88_1) :: _) _ _ _
        refine Ll.nil (Lv.joint (fun _ h => h.tail.tail.tail) ?_)
        exact Lv.to (H11__4 ⟨p88_1, cap88_1, cur88_1, p90, p93⟩ ⟨by simpa using hcp88_1, hlp88_1, by simpa using (by simpa using htp88_1)⟩) (Sub.sel [3, 4, 5, 6, 7, 8, 9, 10, 85, 88, 90, 92, 93, 94, 96, 100] rfl) (fun _ h => h)
       ·
        refine Ll.slice (xs := [.tmp 96]) (vs := [i6_ q9]) Base.elem25 rfl rfl rfl rfl rfl rfl (by decide) rfl fun p97_6 hp97_6 => ?_
        refine Ll.nil (Lv.joint (fun _ h => h.tail.tail.tail.tail) ?_)
        exact Lv.to (H11__7 ⟨p86, p90, p93, p97_6⟩ trivial) (Sub.sel [3, 4, 5, 6, 7, 8, 9, 10, 85, 86, 87, 90, 92, 93, 94, 97, 100] rfl) (fun _ h => Own.pickT (hs := [_, _, _, _]) (hs' := [_, _, _, _]) h [1, 2, 3, 0] rfl (by decide))
      refine Lv.share (σ := Nat × Nat × Nat) lawFnReply_o11_8x (fun ⟨p86, p90, p97⟩ => True) (fun ⟨p86, p90, p97⟩ => [(3, pt_ p3), (4, v24), (5, pt_ p5), (6, u24), (7, i6_ r24), (8, str s24), (9, i6_ x24), (10, i6_ ((((srO a24 xs24 b24 ys24 r24 s24 x24).getD 0 : Nat) : Int))), (85, vS a24), (86, sl_ p86 0 0), (87, v24), (90, sl_ p90 1 1), (92, vS b24), (94, u24), (97, sl_ p97 1 1), (100, i6_ (r24 - (1 : Int)))]) (fun ⟨p86, p90, p97⟩ => Own w.heap.size w (bk_ p86 #[] 3 :: bk_ p90 #[i6_ p9] 3 :: bk_ p97 #[i6_ q9] 3 :: bk_ p5 #[i6_ b24.n, str b24.set, str b24.rel] 24 :: bk_ p3 #[i6_ a24.n, str a24.set, str a24.rel] 24 :: (new24 ++ ([])))) ?_ fun H11__12 => ?_
      ·
       rintro ⟨p86, p90, p97⟩ -
       dsimp only
       refine Lv.alt rfl ?_ (Lv.loud rfl ?_)
       ·
        refine Ll.appendInts (xs := []) (ys := xs24) Base.elem25 0 rfl rfl rfl rfl rfl rfl rfl rfl (by decide) rfl (fun w1 hw1 => (hIv24 _ (Own.dropR (Own.drop (f := [_, _, _, _, _]) hw1)))) ((xs24).length) (by first | (simp; done) | (simp; omega)) (by first | (simp; done) | (simp; omega) | omega) fun p88_2 cap88_2 cur88_2 hp88_2 hcp88_2 hlp88_2 htp88_2 => ?_
        show Ll _ _ (Own _ _ (_ :: _ :: _ :: _ :: _ :: (new24 ++ ([])))) _ _ ((88, sl_ p88_2 (((xs24).length)) cap88_2) :: _) _ _ _
        refine Ll.nil (Lv.joint (fun _ h => h.tail.tail.tail) ?_)
        exact Lv.to (H11__5 ⟨p88_2, cap88_2, cur88_2, p90, p97⟩ ⟨by simpa using hcp88_2, hlp88_2, by simpa using (by simpa using htp88_2)⟩) (Sub.sel [3, 4, 5, 6, 7, 8, 9, 10, 85, 88, 90, 92, 94, 97, 100] rfl) (fun _ h => h)
       ·
        refine Ll.slice (xs := []) (vs := []) Base.elem25 rfl rfl rfl rfl rfl rfl (by decide) rfl fun p93_5 hp93_5 => ?_
        refine Ll.nil (Lv.joint (fun _ h => h.tail.tail.tail.tail) ?_)
        exact Lv.to (H11__7 ⟨p86, p90, p93_5, p97⟩ trivial) (Sub.sel [3, 4, 5, 6, 7, 8, 9, 10, 85, 86, 87, 90, 92, 93, 94, 97, 100] rfl) (fun _ h => Own.pickT (hs := [_, _, _, _]) (hs' := [_, _, _, _]) h [1, 2, 0, 3] rfl (by decide))
      refine Lv.share (σ := Nat × Nat × Nat) lawFnReply_o11_3x (fun ⟨p86, p93, p97⟩ => True) (fun ⟨p86, p93, p97⟩ => [(3, pt_ p3), (4, v24), (5, pt_ p5), (6, u24), (7, i6_ r24), (8, str s24), (9, i6_ x24), (10, i6_ ((((srO a24 xs24 b24 ys24 r24 s24 x24).getD 0 : Nat) : Int))), (85, vS a24), (86, sl_ p86 0 0), (87, v24), (89, i6_ p9), (92, vS b24), (93, sl_ p93 0 0), (94, u24), (97, sl_ p97 1 1), (100, i6_ (r24 - (1 : Int)))]) (fun ⟨p86, p93, p97⟩ => Own w.heap.size w (bk_ p86 #[] 3 :: bk_ p93 #[] 3 :: bk_ p97 #[i6_ q9] 3 :: bk_ p5 #[i6_ b24.n, str b24.set, str b24.rel] 24 :: bk_ p3 #[i6_ a24.n, str a24.set, str a24.rel] 24 :: (new24 ++ ([])))) ?_ fun H11__13 => ?_
      ·
       rintro ⟨p86, p93, p97⟩ -
       dsimp only
       refine Lv.alt rfl ?_ (Lv.loud rfl ?_)
       ·
        refine Ll.appendInts (xs := []) (ys := xs24) Base.elem25 0 rfl rfl rfl rfl rfl rfl rfl rfl (by decide) rfl (fun w1 hw1 => (hIv24 _ (Own.dropR (Own.drop (f := [_, _, _, _, _]) hw1)))) ((xs24).length) (by first | (simp; done) | (simp; omega)) (by first | (simp; done) | (simp; omega) | omega) fun p88_3 cap88_3 cur88_3 hp88_3 hcp88_3 hlp88_3 htp88_3 => ?_
        show Ll _ _ (Own _ _ (_ :: _ :: _ :: _ :: _ :: (new24 ++ ([])))) _ _ ((88, sl_ p88_3 (((xs24).length)) cap88_3) :: _) _ _ _
        refine Ll.nil (Lv.joint (fun _ h => h.tail.tail.tail) ?_)
        exact Lv.to (H11__6 ⟨p88_3, cap88_3, cur88_3, p93, p97⟩ ⟨by simpa using hcp88_3, hlp88_3, by simpa using (by simpa using htp88_3)⟩) (Sub.sel [3, 4, 5, 6, 7, 8, 9, 10, 85, 88, 89, 92, 93, 94, 97, 100] rfl) (fun _ h => h)
       ·
        refine Ll.slice (xs := [.tmp 89]) (vs := [i6_ p9]) Base.elem25 rfl rfl rfl rfl rfl rfl (by decide) rfl fun p90_3 hp90_3 => ?_
        refine Ll.nil (Lv.joint (fun _ h => h.tail.tail.tail.tail) ?_)
        exact Lv.to (H11__7 ⟨p86, p90_3, p93, p97⟩ trivial) (Sub.sel [3, 4, 5, 6, 7, 8, 9, 10, 85, 86, 87, 90, 92, 93, 94, 97, 100] rfl) (fun _ h => Own.pickT (hs := [_, _, _, _]) (hs' := [_, _, _, _]) h [1, 0, 2, 3] rfl (by decide))
      refine Lv.share (σ := Nat × Nat × Nat) lawFnReply_o11x (fun ⟨p90, p93, p97⟩ => True) (fun ⟨p90, p93, p97⟩ => [(3, pt_ p3), (4, v24), (5, pt_ p5), (6, u24), (7, i6_ r24), (8, str s24), (9, i6_ x24), (10, i6_ ((((srO a24 xs24 b24 ys24 r24 s24 x24).getD 0 : Nat) : Int))), (85, vS a24), (87, v24), (90, sl_ p90 1 1), (92, vS b24), (93, sl_ p93 0 0), (94, u24), (97, sl_ p97 1 1), (100, i6_ (r24 - (1 : Int)))]) (fun ⟨p90, p93, p97⟩ => Own w.heap.size w (bk_ p90 #[i6_ p9] 3 :: bk_ p93 #[] 3 :: bk_ p97 #[i6_ q9] 3 :: bk_ p5 #[i6_ b24.n, str b24.set, str b24.rel] 24 :: bk_ p3 #[i6_ a24.n, str a24.set, str a24.rel] 24 :: (new24 ++ ([])))) ?_ fun H11__14 => ?_
      ·
       rintro ⟨p90, p93, p97⟩ -
       dsimp only
       refine Lv.loud rfl ?_
       refine Ll.slice (xs := []) (vs := []) Base.elem25 rfl rfl rfl rfl rfl rfl (by decide) rfl fun p86 hp86 => ?_
       refine Ll.nil (Lv.joint (fun _ h => h.tail.tail.tail.tail) ?_)
       refine Lv.loud rfl ?_
       refine Ll.appendInts (xs := []) (ys := xs24) Base.elem25 0 rfl rfl rfl rfl rfl rfl rfl rfl (by decide) rfl (fun w1 hw1 => (hIv24 _ (Own.dropR (Own.drop (f := [_, _, _, _, _, _]) hw1)))) ((xs24).length) (by first | (simp; done) | (simp; omega)) (by first | (simp; done) | (simp; omega) | omega) fun p88_4 cap88_4 cur88_4 hp88_4 hcp88_4 hlp88_4 htp88_4 => ?_
       show Ll _ _ (Own _ _ (_ :: _ :: _ :: _ :: _ :: _ :: (new24 ++ ([])))) _ _ ((88, sl_ p88_4 (((xs24).length)) cap88_4) :: _) _ _ _
       refine Ll.nil (Lv.joint (fun _ h => h.tail.tail.tail.tail) ?_)
       refine Lv.loud rfl ?_
       refine Ll.appendInts (xs := xs24) (ys := [p9]) Base.elem25 0 rfl rfl rfl rfl rfl rfl rfl hcp88_4 hlp88_4 (by simpa using htp88_4) (fun w1 hw1 => (Own.row hw1 (i := 1) rfl (n := 1) (cap := 1) (vs := ints [p9]) rfl rfl (by decide))) ((xs24 ++ ([p9])).length) (by first | (simp; done) | (simp; omega)) (by first | (simp; done) | (simp; omega) | omega) fun p91_6 cap91_6 cur91_6 hp91_6 hcp91_6 hlp91_6 htp91_6 => ?_
       show Ll _ _ (Own _ _ (_ :: _ :: _ :: _ :: _ :: _ :: (new24 ++ ([])))) _ _ ((91, sl_ p91_6 (((xs24 ++ ([p9])).length)) cap91_6) :: _) _ _ _
       refine Ll.nil (Lv.joint (fun _ h => h.tail.tail.tail.tail) ?_)
       refine Lv.loud rfl ?_
       refine Ll.appendInts (xs := []) (ys := ys24) Base.elem25 2 rfl rfl rfl rfl rfl rfl rfl rfl (by decide) rfl (fun w1 hw1 => (hIu24 _ (Own.dropR (Own.drop (f := [_, _, _, _, _, _]) hw1)))) ((ys24).length) (by first | (simp; done) | (simp; omega)) (by first | (simp; done) | (simp; omega) | omega) fun p95_6 cap95_6 cur95_6 hp95_6 hcp95_6 hlp95_6 htp95_6 => ?_
       show Ll _ _ (Own _ _ (_ :: _ :: _ :: _ :: _ :: _ :: (new24 ++ ([])))) _ _ ((95, sl_ p95_6 (((ys24).length)) cap95_6) :: _) _ _ _
       refine Ll.nil (Lv.joint (fun _ h => h.tail.tail.tail.tail) ?_)
       refine Lv.loud rfl ?_
       refine Ll.appendInts (xs := ys24) (ys := [q9]) Base.elem25 2 rfl rfl rfl rfl rfl rfl rfl hcp95_6 hlp95_6 (by simpa using htp95_6) (fun w1 hw1 => (Own.row hw1 (i := 3) rfl (n := 1) (cap := 1) (vs := ints [q9]) rfl rfl (by decide))) ((ys24 ++ ([q9])).length) (by first | (simp; done) | (simp; omega)) (by first | (simp; done) | (simp; omega) | omega) fun p98_6 cap98_6 cur98_6 hp98_6 hcp98_6 hlp98_6 htp98_6 => ?_
       show Ll _ _ (Own _ _ (_ :: _ :: _ :: _ :: _ :: _ :: (new24 ++ ([])))) _ _ ((98, sl_ p98_6 (((ys24 ++ ([q9])).length)) cap98_6) :: _) _ _ _
       refine Ll.nil (Lv.joint (fun _ h => h.tail.tail.tail.tail) ?_)
       refine Lv.loud rfl ?_
       refine Ll.op (v := bo_ (secB a24 (xs24 ++ ([p9])) b24 (ys24 ++ ([q9])) (r24 - (1 : Int)))) rfl rfl rfl (OpQ.call rfl Tryd.call26 rfl Own.stable (fun w1 hw1 => iWins_ok a24 b24 (xs24 ++ ([p9])) (ys24 ++ ([q9])) (sl_ p91_6 (((xs24 ++ ([p9])).length)) cap91_6) (sl_ p98_6 (((ys24 ++ ([q9])).length)) cap98_6) w1 hsa24 hsb24 (Own.row hw1 (i := 0) rfl (by simpa using htp91_6) (by simp) hlp91_6) (Own.row hw1 (i := 2) rfl (by simpa using htp98_6) (by simp) hlp98_6) (by first | (simp; done) | (simp; omega) | omega) (by first | (simp; done) | (simp; omega) | omega) (r24 - (1 : Int)))) ?_
       refine Ll.nil (Lv.joint (fun _ h => h.tail.tail.tail.tail) ?_)
       refine Lv.run 1 rfl (fun _ h => h.tail.tail.tail.tail) ?_
       exact Lv.to (H11_ ⟨p90, p91_6, cap91_6, cur91_6, p97, p98_6, cap98_6, cur98_6⟩ ⟨⟨by simpa using hcp91_6, hlp91_6, by simpa using (by simpa using htp91_6)⟩, ⟨by simpa using hcp98_6, hlp98_6, by simpa using (by simpa using htp98_6)⟩⟩) (Sub.sel [3, 4, 5, 6, 7, 8, 9, 10, 16] rfl) (fun _ h => Own.pickT (hs := [_, _, _, _]) (hs' := [_, _, _, _]) h [1, 0, 3, 2] rfl (by decide))
      refine Lv.share (σ := Nat × Nat) lawFnReply_o11_24x (fun ⟨p86, p90⟩ => True) (fun ⟨p86, p90⟩ => [(3, pt_ p3), (4, v24), (5, pt_ p5), (6, u24), (7, i6_ r24), (8, str s24), (9, i6_ x24), (10, i6_ ((((srO a24 xs24 b24 ys24 r24 s24 x24).getD 0 : Nat) : Int))), (85, vS a24), (86, sl_ p86 0 0), (87, v24), (90, sl_ p90 1 1), (92, vS b24), (94, u24), (96, i6_ q9), (100, i6_ (r24 - (1 : Int)))]) (fun ⟨p86, p90⟩ => Own w.heap.size w (bk_ p86 #[] 3 :: bk_ p90 #[i6_ p9] 3 :: bk_ p5 #[i6_ b24.n, str b24.set, str b24.rel] 24 :: bk_ p3 #[i6_ a24.n, str a24.set, str a24.rel] 24 :: (new24 ++ ([])))) ?_ fun H11__15 => ?_
      ·
       rintro ⟨p86, p90⟩ -
       dsimp only
       refine Lv.alt rfl ?_ (Lv.alt rfl ?_ (Lv.loud rfl ?_))
       ·
        refine Ll.appendInts (xs := []) (ys := xs24) Base.elem25 0 rfl rfl rfl rfl rfl rfl rfl rfl (by decide) rfl (fun w1 hw1 => (hIv24 _ (Own.dropR (Own.drop (f := [_, _, _, _]) hw1)))) ((xs24).length) (by first | (simp; done) | (simp; omega)) (by first | (simp; done) | (simp; omega) | omega) fun p88_5 cap88_5 cur88_5 hp88_5 hcp88_5 hlp88_5 htp88_5 => ?_
        show Ll _ _ (Own _ _ (_ :: _ :: _ :: _ :: (new24 ++ ([])))) _ _ ((88, sl_ p88_5 (((xs24).length)) cap88_5) :: _) _ _ _
        refine Ll.nil (Lv.joint (fun _ h => h.tail.tail) ?_)
        exact Lv.to (H11__8 ⟨p88_5, cap88_5, cur88_5, p90⟩ ⟨by simpa using hcp88_5, hlp88_5, by simpa using (by simpa using htp88_5)⟩) (Sub.sel [3, 4, 5, 6, 7, 8, 9, 10, 85, 88, 90, 92, 94, 96, 100] rfl) (fun _ h => h)
       ·
        refine Ll.slice (xs := []) (vs := []) Base.elem25 rfl rfl rfl rfl rfl rfl (by decide) rfl fun p93_6 hp93_6 => ?_
        refine Ll.nil (Lv.joint (fun _ h => h.tail.tail.tail) ?_)
        exact Lv.to (H11__11 ⟨p86, p90, p93_6⟩ trivial) (Sub.sel [3, 4, 5, 6, 7, 8, 9, 10, 85, 86, 87, 90, 92, 93, 94, 96, 100] rfl) (fun _ h => Own.pickT (hs := [_, _, _]) (hs' := [_, _, _]) h [1, 2, 0] rfl (by decide))
       ·
        refine Ll.slice (xs := [.tmp 96]) (vs := [i6_ q9]) Base.elem25 rfl rfl rfl rfl rfl rfl (by decide) rfl fun p97_7 hp97_7 => ?_
        refine Ll.nil (Lv.joint (fun _ h => h.tail.tail.tail) ?_)
        exact Lv.to (H11__12 ⟨p86, p90, p97_7⟩ trivial) (Sub.sel [3, 4, 5, 6, 7, 8, 9, 10, 85, 86, 87, 90, 92, 94, 97, 100] rfl) (fun _ h => Own.pickT (hs := [_, _, _]) (hs' := [_, _, _]) h [1, 2, 0] rfl (by decide))
      refine Lv.share (σ := Nat × Nat) lawFnReply_o11_20x (fun ⟨p86, p93⟩ => True) (fun ⟨p86, p93⟩ => [(3, pt_ p3), (4, v24), (5, pt_ p5), (6, u24), (7, i6_ r24), (8, str s24), (9, i6_ x24), (10, i6_ ((((srO a24 xs24 b24 ys24 r24 s24 x24).getD 0 : Nat) : Int))), (85, vS a24), (86, sl_ p86 0 0), (87, v24), (89, i6_ p9), (92, vS b24), (93, sl_ p93 0 0), (94, u24), (96, i6_ q9), (100, i6_ (r24 - (1 : Int)))]) (fun ⟨p86, p93⟩ => Own w.heap.size w (bk_ p86 #[] 3 :: bk_ p93 #[] 3 :: bk_ p5 #[i6_ b24.n, str b24.set, str b24.rel] 24 :: bk_ p3 #[i6_ a24.n, str a24.set, str a24.rel] 24 :: (new24 ++ ([])))) ?_ fun H11__16 => ?_
      ·
       rintro ⟨p86, p93⟩ -
       dsimp only
       refine Lv.alt rfl ?_ (Lv.alt rfl ?_ (Lv.loud rfl ?_))
       ·
        refine Ll.appendInts (xs := []) (ys := xs24) Base.elem25 0 rfl rfl rfl rfl rfl rfl rfl rfl (by decide) rfl (fun w1 hw1 => (hIv24 _ (Own.dropR (Own.drop (f := [_, _, _, _]) hw1)))) ((xs24).length) (by first | (simp; done) | (simp; omega)) (by first | (simp; done) | (simp; omega) | omega) fun p88_6 cap88_6 cur88_6 hp88_6 hcp88_6 hlp88_6 htp88_6 => ?_
        show Ll _ _ (Own _ _ (_ :: _ :: _ :: _ :: (new24 ++ ([])))) _ _ ((88, sl_ p88_6 (((xs24).length)) cap88_6) :: _) _ _ _
        refine Ll.nil (Lv.joint (fun _ h => h.tail.tail) ?_)
        exact Lv.to (H11__9 ⟨p88_6, cap88_6, cur88_6, p93⟩ ⟨by simpa using hcp88_6, hlp88_6, by simpa using (by simpa using htp88_6)⟩) (Sub.sel [3, 4, 5, 6, 7, 8, 9, 10, 85, 88, 89, 92, 93, 94, 96, 100] rfl) (fun _ h => h)
       ·
        refine Ll.slice (xs := [.tmp 89]) (vs := [i6_ p9]) Base.elem25 rfl rfl rfl rfl rfl rfl (by decide) rfl fun p90_4 hp90_4 => ?_
        refine Ll.nil (Lv.joint (fun _ h => h.tail.tail.tail) ?_)
        exact Lv.to (H11__11 ⟨p86, p90_4, p93⟩ trivial) (Sub.sel [3, 4, 5, 6, 7, 8, 9, 10, 85, 86, 87, 90, 92, 93, 94, 96, 100] rfl) (fun _ h => Own.pickT (hs := [_, _, _]) (hs' := [_, _, _]) h [1, 0, 2] rfl (by decide))
       ·
        refine Ll.slice (xs := [.tmp 96]) (vs := [i6_ q9]) Base.elem25 rfl rfl rfl rfl rfl rfl (by decide) rfl fun p97_8 hp97_8 => ?_
        refine Ll.nil (Lv.joint (fun _ h => h.tail.tail.tail) ?_)
        exact Lv.to (H11__13 ⟨p86, p93, p97_8⟩ trivial) (Sub.sel [3, 4, 5, 6, 7, 8, 9, 10, 85, 86, 87, 89, 92, 93, 94, 97, 100] rfl) (fun _ h => Own.pickT (hs := [_, _, _]) (hs' := [_, _, _]) h [1, 2, 0] rfl (by decide))
      refine Lv.share (σ := Nat × Nat) lawFnReply_o11_11x (fun ⟨p86, p97⟩ => True) (fun ⟨p86, p97⟩ => [(3, pt_ p3), (4, v24), (5, pt_ p5), (6, u24), (7, i6_ r24), (8, str s24), (9, i6_ x24), (10, i6_ ((((srO a24 xs24 b24 ys24 r24 s24 x24).getD 0 : Nat) : Int))), (85, vS a24), (86, sl_ p86 0 0), (87, v24), (89, i6_ p9), (92, vS b24), (94, u24), (97, sl_ p97 1 1), (100, i6_ (r24 - (1 : Int)))]) (fun ⟨p86, p97⟩ => Own w.heap.size w (bk_ p86 #[] 3 :: bk_ p97 #[i6_ q9] 3 :: bk_ p5 #[i6_ b24.n, str b24.set, str b24.rel] 24 :: bk_ p3 #[i6_ a24.n, str a24.set, str a24.rel] 24 :: (new24 ++ ([])))) ?_ fun H11__17 => ?_
      ·
       rintro ⟨p86, p97⟩ -
       dsimp only
       refine Lv.alt rfl ?_ (Lv.alt rfl ?_ (Lv.loud rfl ?_))
       ·
        refine Ll.appendInts (xs := []) (ys := xs24) Base.elem25 0 rfl rfl rfl rfl rfl rfl rfl rfl (by decide) rfl (fun w1 hw1 => (hIv24 _ (Own.dropR (Own.drop (f := [_, _, _, _]) hw1)))) ((xs24).length) (by first | (simp; done) | (simp; omega)) (by first | (simp; done) | (simp; omega) | omega) fun p88_7 cap88_7 cur88_7 hp88_7 hcp88_7 hlp88_7 htp88_7 => ?_
        show Ll _ _ (Own _ _ (_ :: _ :: _ :: _ :: (new24 ++ ([])))) _ _ ((88, sl_ p88_7 (((xs24).length)) cap88_7) :: _) _ _ _
        refine Ll.nil (Lv.joint (fun _ h => h.tail.tail) ?_)
        exact Lv.to (H11__10 ⟨p88_7, cap88_7, cur88_7, p97⟩ ⟨by simpa using hcp88_7, hlp88_7, by simpa using (by simpa using htp88_7)⟩) (Sub.sel [3, 4, 5, 6, 7, 8, 9, 10, 85, 88, 89, 92, 94, 97, 100] rfl) (fun _ h => h)
       ·
        refine Ll.slice (xs := [.tmp 89]) (vs := [i6_ p9]) Base.elem25 rfl rfl rfl rfl rfl rfl (by decide) rfl fun p90_5 hp90_5 => ?_
        refine Ll.nil (Lv.joint (fun _ h => h.tail.tail.tail) ?_)
        exact Lv.to (H11__12 ⟨p86, p90_5, p97⟩ trivial) (Sub.sel [3, 4, 5, 6, 7, 8, 9, 10, 85, 86, 87, 90, 92, 94, 97, 100] rfl) (fun _ h => Own.pickT (hs := [_, _, _]) (hs' := [_, _, _]) h [1, 0, 2] rfl (by decide))
       ·
        refine Ll.slice (xs := []) (vs := []) Base.elem25 rfl rfl rfl rfl rfl rfl (by decide) rfl fun p93_7 hp93_7 => ?_
        refine Ll.nil (Lv.joint (fun _ h => h.tail.tail.tail) ?_)
        exact Lv.to (H11__13 ⟨p86, p93_7, p97⟩ trivial) (Sub.sel [3, 4, 5, 6, 7, 8, 9, 10, 85, 86, 87, 89, 92, 93, 94, 97, 100] rfl) (fun _ h => Own.pickT (hs := [_, _, _]) (hs' := [_, _, _]) h [1, 0, 2] rfl (by decide))
      refine Lv.share (σ := Nat × Nat) lawFnReply_o11_18x (fun ⟨p90, p93⟩ => True) (fun ⟨p90, p93⟩ => [(3, pt_ p3), (4, v24), (5, pt_ p5), (6, u24), (7, i6_ r24), (8, str s24), (9, i6_ x24), (10, i6_ ((((srO a24 xs24 b24 ys24 r24 s24 x24).getD 0 : Nat) : Int))), (85, vS a24), (87, v24), (90, sl_ p90 1 1), (92, vS b24), (93, sl_ p93 0 0), (94, u24), (96, i6_ q9), (100, i6_ (r24 - (1 : Int)))]) (fun ⟨p90, p93⟩ => Own w.heap.size w (bk_ p90 #[i6_ p9] 3 :: bk_ p93 #[] 3 :: bk_ p5 #[i6_ b24.n, str b24.set, str b24.rel] 24 :: bk_ p3 #[i6_ a24.n, str a24.set, str a24.rel] 24 :: (new24 ++ ([])))) ?_ fun H11__18 => ?_
      ·
       rintro ⟨p90, p93⟩ -
       dsimp only
       refine Lv.alt rfl ?_ (Lv.loud rfl ?_)
       ·
        refine Ll.slice (xs := []) (vs := []) Base.elem25 rfl rfl rfl rfl rfl rfl (by decide) rfl fun p86_1 hp86_1 => ?_
        refine Ll.nil (Lv.joint (fun _ h => h.tail.tail.tail) ?_)
        exact Lv.to (H11__11 ⟨p86_1, p90, p93⟩ trivial) (Sub.sel [3, 4, 5, 6, 7, 8, 9, 10, 85, 86, 87, 90, 92, 93, 94, 96, 100] rfl) (fun _ h => h)
       ·
        refine Ll.slice (xs := [.tmp 96]) (vs := [i6_ q9]) Base.elem25 rfl rfl rfl rfl rfl rfl (by decide) rfl fun p97_9 hp97_9 => ?_
        refine Ll.nil (Lv.joint (fun _ h => h.tail.tail.tail) ?_)
        exact Lv.to (H11__14 ⟨p90, p93, p97_9⟩ trivial) (Sub.sel [3, 4, 5, 6, 7, 8, 9, 10, 85, 87, 90, 92, 93, 94, 97, 100] rfl) (fun _ h => Own.pickT (hs := [_, _, _]) (hs' := [_, _, _]) h [1, 2, 0] rfl (by decide))
      refine Lv.share (σ := Nat × Nat) lawFnReply_o11_9x (fun ⟨p90, p97⟩ => True) (fun ⟨p90, p97⟩ => [(3, pt_ p3), (4, v24), (5, pt_ p5), (6, u24), (7, i6_ r24), (8, str s24), (9, i6_ x24), (10, i6_ ((((srO a24 xs24 b24 ys24 r24 s24 x24).getD 0 : Nat) : Int))), (85, vS a24), (87, v24), (90, sl_ p90 1 1), (92, vS b24), (94, u24), (97, sl_ p97 1 1), (100, i6_ (r24 - (1 : Int)))]) (fun ⟨p90, p97⟩ => Own w.heap.size w (bk_ p90 #[i6_ p9] 3 :: bk_ p97 #[i6_ q9] 3 :: bk_ p5 #[i6_ b24.n, str b24.set, str b24.rel] 24 :: bk_ p3 #[i6_ a24.n, str a24.set, str a24.rel] 24 :: (new24 ++ ([])))) ?_ fun H11__19 => ?_
      ·
       rintro ⟨p90, p97⟩ -
       dsimp only
       refine Lv.alt rfl ?_ (Lv.loud rfl ?_)
       ·
        refine Ll.slice (xs := []) (vs := []) Base.elem25 rfl rfl rfl rfl rfl rfl (by decide) rfl fun p86_2 hp86_2 => ?_
        refine Ll.nil (Lv.joint (fun _ h => h.tail.tail.tail) ?_)
        exact Lv.to (H11__12 ⟨p86_2, p90, p97⟩ trivial) (Sub.sel [3, 4, 5, 6, 7, 8, 9, 10, 85, 86, 87, 90, 92, 94, 97, 100] rfl) (fun _ h => h)
       ·
        refine Ll.slice (xs := []) (vs := []) Base.elem25 rfl rfl rfl rfl rfl rfl (by decide) rfl fun p93_8 hp93_8 => ?_
        refine Ll.nil (Lv.joint (fun _ h => h.tail.tail.tail) ?_)
        exact Lv.to (H11__14 ⟨p90, p93_8, p97⟩ trivial) (Sub.sel [3, 4, 5, 6, 7, 8, 9, 10, 85, 87, 90, 92, 93, 94, 97, 100] rfl) (fun _ h => Own.pickT (hs := [_, _, _]) (hs' := [_, _, _]) h [1, 0, 2] rfl (by decide))
      refine Lv.share (σ := Nat × Nat) lawFnReply_o11_4x (fun ⟨p93, p97⟩ => True) (fun ⟨p93, p97⟩ => [(3, pt_ p3), (4, v24), (5, pt_ p5), (6, u24), (7, i6_ r24), (8, str s24), (9, i6_ x24), (10, i6_ ((((srO a24 xs24 b24 ys24 r24 s24 x24).getD 0 : Nat) : Int))), (85, vS a24), (87, v24), (89, i6_ p9), (92, vS b24), (93, sl_ p93 0 0), (94, u24), (97, sl_ p97 1 1), (100, i6_ (r24 - (1 : Int)))]) (fun ⟨p93, p97⟩ => Own w.heap.size w (bk_ p93 #[] 3 :: bk_ p97 #[i6_ q9] 3 :: bk_ p5 #[i6_ b24.n, str b24.set, str b24.rel] 24 :: bk_ p3 #[i6_ a24.n, str a24.set, str a24.rel] 24 :: (new24 ++ ([])))) ?_ fun H11__20 => ?_
      ·
       rintro ⟨p93, p97⟩ -
       dsimp only
       refine Lv.alt rfl ?_ (Lv.loud rfl ?_)
       ·
        refine Ll.slice (xs := []) (vs := []) Base.elem25 rfl rfl rfl rfl rfl rfl (by decide) rfl fun p86_3 hp86_3 => ?_
        refine Ll.nil (Lv.joint (fun _ h => h.tail.tail.tail) ?_)
        exact Lv.to (H11__13 ⟨p86_3, p93, p97⟩ trivial) (Sub.sel [3, 4, 5, 6, 7, 8, 9, 10, 85, 86, 87, 89, 92, 93, 94, 97, 100] rfl) (fun _ h => h)
       ·
        refine Ll.slice (xs := [.tmp 89]) (vs := [i6_ p9]) Base.elem25 rfl rfl rfl rfl rfl rfl (by decide) rfl fun p90_6 hp90_6 => ?_
        refine Ll.nil (Lv.joint (fun _ h => h.tail.tail.tail) ?_)
        exact Lv.to (H11__14 ⟨p90_6, p93, p97⟩ trivial) (Sub.sel [3, 4, 5, 6, 7, 8, 9, 10, 85, 87, 90, 92, 93, 94, 97, 100] rfl) (fun _ h => h)
      refine Lv.take rfl rfl rfl rfl rfl (OpQ.loadBox (cs := #[i6_ a24.n, str a24.set, str a24.rel]) 1 rfl Tryd.isAgg24 rfl rfl Tryd.sizeOf24) (fun _ h => h) ?_
      refine Lv.run 2 rfl (fun _ h => h) ?_
      refine Lv.take rfl rfl rfl rfl rfl (OpQ.loadBox (cs := #[i6_ b24.n, str b24.set, str b24.rel]) 0 rfl Tryd.isAgg24 rfl rfl Tryd.sizeOf24) (fun _ h => h) ?_
      refine Lv.run 3 rfl (fun _ h => h) ?_
      refine Lv.take rfl rfl rfl rfl rfl (OpQ.sub rfl rfl rfl (by omega) (by omega)) (fun _ h => h) ?_
      refine Lv.alt rfl ?_ (Lv.alt rfl ?_ (Lv.alt rfl ?_ (Lv.loud rfl ?_)))
      ·
       refine Ll.slice (xs := []) (vs := []) Base.elem25 rfl rfl rfl rfl rfl rfl (by decide) rfl fun p86_4 hp86_4 => ?_
       refine Ll.nil (Lv.joint (fun _ h => h.tail) ?_)
       refine Lv.alt rfl ?_ (Lv.alt rfl ?_ (Lv.alt rfl ?_ (Lv.loud rfl ?_)))
       ·
        refine Ll.appendInts (xs := []) (ys := xs24) Base.elem25 0 rfl rfl rfl rfl rfl rfl rfl rfl (by decide) rfl (fun w1 hw1 => (hIv24 _ (Own.dropR (Own.drop (f := [_, _, _]) hw1)))) ((xs24).length) (by first | (simp; done) | (simp; omega)) (by first | (simp; done) | (simp; omega) | omega) fun p88_8 cap88_8 cur88_8 hp88_8 hcp88_8 hlp88_8 htp88_8 => ?_
        show Ll _ _ (Own _ _ (_ :: _ :: _ :: (new24 ++ ([])))) _ _ ((88, sl_ p88_8 (((xs24).length)) cap88_8) :: _) _ _ _
        refine Ll.nil (Lv.joint (fun _ h => h.tail) ?_)
        refine Lv.alt rfl ?_ (Lv.alt rfl ?_ (Lv.loud rfl ?_))
        ·
         refine Ll.slice (xs := [.tmp 89]) (vs := [i6_ p9]) Base.elem25 rfl rfl rfl rfl rfl rfl (by decide) rfl fun p90_7 hp90_7 => ?_
         refine Ll.nil (Lv.joint (fun _ h => h.tail.tail) ?_)
         exact Lv.to (H11__8 ⟨p88_8, cap88_8, cur88_8, p90_7⟩ ⟨by simpa using hcp88_8, hlp88_8, by simpa using (by simpa using htp88_8)⟩) (Sub.sel [3, 4, 5, 6, 7, 8, 9, 10, 85, 88, 90, 92, 94, 96, 100] rfl) (fun _ h => Own.pickT (hs := [_, _]) (hs' := [_, _]) h [1, 0] rfl (by decide))
        ·
         refine Ll.slice (xs := []) (vs := []) Base.elem25 rfl rfl rfl rfl rfl rfl (by decide) rfl fun p93_9 hp93_9 => ?_
         refine Ll.nil (Lv.joint (fun _ h => h.tail.tail) ?_)
         exact Lv.to (H11__9 ⟨p88_8, cap88_8, cur88_8, p93_9⟩ ⟨by simpa using hcp88_8, hlp88_8, by simpa using (by simpa using htp88_8)⟩) (Sub.sel [3, 4, 5, 6, 7, 8, 9, 10, 85, 88, 89, 92, 93, 94, 96, 100] rfl) (fun _ h => Own.pickT (hs := [_, _]) (hs' := [_, _]) h [1, 0] rfl (by decide))
        ·
         refine Ll.slice (xs := [.tmp 96]) (vs := [i6_ q9]) Base.elem25 rfl rfl rfl rfl rfl rfl (by decide) rfl fun p97_10 hp97_10 => ?_
         refine Ll.nil (Lv.joint (fun _ h => h.tail.tail) ?_)
         exact Lv.to (H11__10 ⟨p88_8, cap88_8, cur88_8, p97_10⟩ ⟨by simpa using hcp88_8, hlp88_8, by simpa using (by simpa using htp88_8)⟩) (Sub.sel [3, 4, 5, 6, 7, 8, 9, 10, 85, 88, 89, 92, 94, 97, 100] rfl) (fun _ h => Own.pickT (hs := [_, _]) (hs' := [_, _]) h [1, 0] rfl (by decide))
       ·
        refine Ll.slice (xs := [.tmp 89]) (vs := [i6_ p9]) Base.elem25 rfl rfl rfl rfl rfl rfl (by decide) rfl fun p90_8 hp90_8 => ?_
        refine Ll.nil (Lv.joint (fun _ h => h.tail.tail) ?_)
        exact Lv.to (H11__15 ⟨p86_4, p90_8⟩ trivial) (Sub.sel [3, 4, 5, 6, 7, 8, 9, 10, 85, 86, 87, 90, 92, 94, 96, 100] rfl) (fun _ h => Own.pickT (hs := [_, _]) (hs' := [_, _]) h [1, 0] rfl (by decide))
       ·
        refine Ll.slice (xs := []) (vs := []) Base.elem25 rfl rfl rfl rfl rfl rfl (by decide) rfl fun p93_10 hp93_10 => ?_
        refine Ll.nil (Lv.joint (fun _ h => h.tail.tail) ?_)
        exact Lv.to (H11__16 ⟨p86_4, p93_10⟩ trivial) (Sub.sel [3, 4, 5, 6, 7, 8, 9, 10, 85, 86, 87, 89, 92, 93, 94, 96, 100] rfl) (fun _ h => Own.pickT (hs := [_, _]) (hs' := [_, _]) h [1, 0] rfl (by decide))
       ·
        refine Ll.slice (xs := [.tmp 96]) (vs := [i6_ q9]) Base.elem25 rfl rfl rfl rfl rfl rfl (by decide) rfl fun p97_11 hp97_11 => ?_
        refine Ll.nil (Lv.joint (fun _ h => h.tail.tail) ?_)
        exact Lv.to (H11__17 ⟨p86_4, p97_11⟩ trivial) (Sub.sel [3, 4, 5, 6, 7, 8, 9, 10, 85, 86, 87, 89, 92, 94, 97, 100] rfl) (fun _ h => Own.pickT (hs := [_, _]) (hs' := [_, _]) h [1, 0] rfl (by decide))
      ·
       refine Ll.slice (xs := [.tmp 89]) (vs := [i6_ p9]) Base.elem25 rfl rfl rfl rfl rfl rfl (by decide) rfl fun p90_9 hp90_9 => ?_
       refine Ll.nil (Lv.joint (fun _ h => h.tail) ?_)
       refine Lv.alt rfl ?_ (Lv.alt rfl ?_ (Lv.loud rfl ?_))
       ·
        refine Ll.slice (xs := []) (vs := []) Base.elem25 rfl rfl rfl rfl rfl rfl (by decide) rfl fun p86_5 hp86_5 => ?_
        refine Ll.nil (Lv.joint (fun _ h => h.tail.tail) ?_)
        exact Lv.to (H11__15 ⟨p86_5, p90_9⟩ trivial) (Sub.sel [3, 4, 5, 6, 7, 8, 9, 10, 85, 86, 87, 90, 92, 94, 96, 100] rfl) (fun _ h => h)
       ·
        refine Ll.slice (xs := []) (vs := []) Base.elem25 rfl rfl rfl rfl rfl rfl (by decide) rfl fun p93_11 hp93_11 => ?_
        refine Ll.nil (Lv.joint (fun _ h => h.tail.tail) ?_)
        exact Lv.to (H11__18 ⟨p90_9, p93_11⟩ trivial) (Sub.sel [3, 4, 5, 6, 7, 8, 9, 10, 85, 87, 90, 92, 93, 94, 96, 100] rfl) (fun _ h => Own.pickT (hs := [_, _]) (hs' := [_, _]) h [1, 0] rfl (by decide))
       ·
        refine Ll.slice (xs := [.tmp 96]) (vs := [i6_ q9]) Base.elem25 rfl rfl rfl rfl rfl rfl (by decide) rfl fun p97_12 hp97_12 => ?_
        refine Ll.nil (Lv.joint (fun _ h => h.tail.tail) ?_)
        exact Lv.to (H11__19 ⟨p90_9, p97_12⟩ trivial) (Sub.sel [3, 4, 5, 6, 7, 8, 9, 10, 85, 87, 90, 92, 94, 97, 100] rfl) (fun _ h => Own.pickT (hs := [_, _]) (hs' := [_, _]) h [1, 0] rfl (by decide))
      ·
       refine Ll.slice (xs := []) (vs := []) Base.elem25 rfl rfl rfl rfl rfl rfl (by decide) rfl fun p93_12 hp93_12 => ?_
       refine Ll.nil (Lv.joint (fun _ h => h.tail) ?_)
       refine Lv.alt rfl ?_ (Lv.alt rfl ?_ (Lv.loud rfl ?_))
       ·
        refine Ll.slice (xs := []) (vs := []) Base.elem25 rfl rfl rfl rfl rfl rfl (by decide) rfl fun p86_6 hp86_6 => ?_
        refine Ll.nil (Lv.joint (fun _ h => h.tail.tail) ?_)
        exact Lv.to (H11__16 ⟨p86_6, p93_12⟩ trivial) (Sub.sel [3, 4, 5, 6, 7, 8, 9, 10, 85, 86, 87, 89, 92, 93, 94, 96, 100] rfl) (fun _ h => h)
       ·
        refine Ll.slice (xs := [.tmp 89]) (vs := [i6_ p9]) Base.elem25 rfl rfl rfl rfl rfl rfl (by decide) rfl fun p90_10 hp90_10 => ?_
        refine Ll.nil (Lv.joint (fun _ h => h.tail.tail) ?_)
        exact Lv.to (H11__18 ⟨p90_10, p93_12⟩ trivial) (Sub.sel [3, 4, 5, 6, 7, 8, 9, 10, 85, 87, 90, 92, 93, 94, 96, 100] rfl) (fun _ h => h)
       ·
        refine Ll.slice (xs := [.tmp 96]) (vs := [i6_ q9]) Base.elem25 rfl rfl rfl rfl rfl rfl (by decide) rfl fun p97_13 hp97_13 => ?_
        refine Ll.nil (Lv.joint (fun _ h => h.tail.tail) ?_)
        exact Lv.to (H11__20 ⟨p93_12, p97_13⟩ trivial) (Sub.sel [3, 4, 5, 6, 7, 8, 9, 10, 85, 87, 89, 92, 93, 94, 97, 100] rfl) (fun _ h => Own.pickT (hs := [_, _]) (hs' := [_, _]) h [1, 0] rfl (by decide))
      ·
       refine Ll.slice (xs := [.tmp 96]) (vs := [i6_ q9]) Base.elem25 rfl rfl rfl rfl rfl rfl (by decide) rfl fun p97_14 hp97_14 => ?_
       refine Ll.nil (Lv.joint (fun _ h => h.tail) ?_)
       refine Lv.alt rfl ?_ (Lv.alt rfl ?_ (Lv.loud rfl ?_))
       ·
        refine Ll.slice (xs := []) (vs := []) Base.elem25 rfl rfl rfl rfl rfl rfl (by decide) rfl fun p86_7 hp86_7 => ?_
        refine Ll.nil (Lv.joint (fun _ h => h.tail.tail) ?_)
        exact Lv.to (H11__17 ⟨p86_7, p97_14⟩ trivial) (Sub.sel [3, 4, 5, 6, 7, 8, 9, 10, 85, 86, 87, 89, 92, 94, 97, 100] rfl) (fun _ h => h)
       ·
        refine Ll.slice (xs := [.tmp 89]) (vs := [i6_ p9]) Base.elem25 rfl rfl rfl rfl rfl rfl (by decide) rfl fun p90_11 hp90_11 => ?_
        refine Ll.nil (Lv.joint (fun _ h => h.tail.tail) ?_)
        exact Lv.to (H11__19 ⟨p90_11, p97_14⟩ trivial) (Sub.sel [3, 4, 5, 6, 7, 8, 9, 10, 85, 87, 90, 92, 94, 97, 100] rfl) (fun _ h => h)
       ·
        refine Ll.slice (xs := []) (vs := []) Base.elem25 rfl rfl rfl rfl rfl rfl (by decide) rfl fun p93_13 hp93_13 => ?_
        refine Ll.nil (Lv.joint (fun _ h => h.tail.tail) ?_)
        exact Lv.to (H11__20 ⟨p93_13, p97_14⟩ trivial) (Sub.sel [3, 4, 5, 6, 7, 8, 9, 10, 85, 87, 89, 92, 93, 94, 97, 100] rfl) (fun _ h => h)
    ·
     replace hg66 := not_true hg66
     refine Lq.pass rfl rfl rfl ?_
     refine Lq.pass rfl rfl rfl ?_
     refine Lq.pass rfl rfl rfl ?_
     refine Lq.run 1 rfl ?_
     refine Lq.nil ?_
     refine Kt.sel [3, 4, 5, 6, 7, 8, 9, 10, 11, 12, 13, 70] [_, _, _, _, _, _, _, _, _, _, _, _] rfl ?_
     refine Wk.condT rfl ?_
     refine Wk.seq ?_
     refine Wk.regionQ ?_
     refine Lq.run 4 rfl ?_
     refine Lq.bool fun b74 hg74_1 => ?_
     cases b74
     ·
      replace hg74_1 := of_decide_eq_false hg74_1
      exact absurd rfl hg74_1
     ·
      replace hg74_1 := of_decide_eq_true hg74_1
      refine Lq.run 2 rfl ?_
      refine Lq.op rfl rfl rfl (OpQ.beq rfl Tryd.runUnderlying4 rfl rfl) ?_
      refine Lq.run 2 rfl ?_
      refine Lq.nil ?_
      refine Kt.sel [2] [_] rfl ?_
      refine Wk.ret (Kt.end1 rfl rfl fun w' hw => ?_)
      -- ret 3: bo_ (((srO a24 xs24 b24 ys24 r24 s24 x24).isSome) == ((srO a24 xs24 b24 ys24 r24 s24 x24).isSome))
      exact ⟨ret_b (by first | rfl | (simp_all; done)), hw.below⟩
   ·
    exact absurd hg62 (by simp)
  ·
   replace hg57 := not_true hg57
   replace hg57 := of_decide_eq_false hg57
   exact absurd rfl hg57

end Go.Proofs.YtmannilblelfjaaDoor
