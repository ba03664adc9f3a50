/-
  Walks: draws of one structure.
-/
import Derived.Test.YtmannilblelfjaaDoorDrawsP
import Derived.Test.YtmannilblelfjaaDoorBase
namespace Go.Proofs.YtmannilblelfjaaDoor
open Go.RowKit Go.Wk
set_option linter.unusedSimpArgs false

set_option maxHeartbeats 400000 in
/-- spec.l1Open -/
theorem l1Open_ok (B : Nat) (w0 : World) (hs : List (Nat × Obj)) (rp p : Nat) (bv : Value) (L : List Int) (w : World) (hb : ∀ w, Own B w0 hs w → Row w bv (u8s L)) (hL8 : Bytes8 L) (hL : L.length ≤ 2000) (hp : p ≤ 700000) (hw : Own B w0 ((rp, .cells #[bv, .int .i64 (p : Int)] 119 (0, 0)) :: hs) w) :
    Calls Tryd.prog 84 [pt_ rp].toArray w fun en w' => ∃ a : St, ∃ p' : Nat, en = .returned (vS a) ∧ (a.Tame ∧ p' ≤ p + 300) ∧ Own B w0 (((rp, .cells #[bv, .int .i64 (p' : Int)] 119 (0, 0)) :: hs)) w' := by
 refine fnStartC (Own B w0 ((rp, .cells #[bv, .int .i64 (p : Int)] 119 (0, 0)) :: hs)) (n := 7) (e := [(0, pt_ rp)]) Tryd.func84 rfl rfl rfl rfl Ends.both hw ?_
 refine Wk.seq ?_
 refine Wk.region ?_
 refine Ll.alloc rfl rfl rfl rfl Tryd.zeroValue24 fun p2 hp2 => ?_
 show Ll _ _ (Own _ _ (bk_ p2 #[i6_ 0, str ([]), str ([])] 24 :: _ :: hs)) _ _ ((2, pt_ p2) :: _) _ _ _
 refine Ll.nil ?_
 refine Kt.sel [0, 2] [_, _] rfl ?_
 refine Wk.seq ?_
 refine Wk.region ?_
 refine Ll.run 2 rfl ?_
 refine Ll.callRd (rp := rp) (RT := 119) (p := p) (bv := bv) (hs := hs) (ok := fun (a : St) p' => (a.Fine ∧ a.n ≤ 5) ∧ p' ≤ p + 200) (v := fun (a : St) => vS a) (new := fun (a : St) => []) (xs := [.tmp 4]) (vs := [pt_ rp]) ([bk_ p2 #[i6_ 0, str ([]), str ([])] 24] : List (Nat × Obj)) rfl rfl rfl rfl Tryd.call139 rfl (fun w1 hw1 => (l1Some_ok B w0 (([bk_ p2 #[i6_ 0, str ([]), str ([])] 24] : List (Nat × Obj)) ++ hs) rp p bv L w1 (fun w2 hw2 => hb w2 (Own.drop (f := ([bk_ p2 #[i6_ 0, str ([]), str ([])] 24] : List (Nat × Obj))) hw2)) hL8 hL (by omega) hw1).mono fun en w' ⟨a', p', h1, h2, h3⟩ => ⟨a', p', h1, h2, h3⟩) fun a5 p_5 hKp_5 => ?_
 show Ll _ _ (Own _ _ (_ :: _ :: hs)) _ _ ((5, vS a5) :: _) _ _ _
 obtain ⟨⟨hfa5, h5a5⟩, hep_5⟩ := hKp_5
 have hloa5 := hfa5.lo
 refine Ll.callRd (rp := rp) (RT := 119) (p := p_5) (bv := bv) (hs := hs) (ok := fun (b : St) p' => ((-9223372036854775808 ≤ b.n ∧ b.n ≤ 9223372036854775807) ∧ b.set.length ≤ 50000 ∧ b.rel.length ≤ 50000) ∧ p' ≤ p_5 + 10) (v := fun (b : St) => vS b) (new := fun (b : St) => []) (xs := [.tmp 3, .tmp 5]) (vs := [pt_ rp, vS a5]) ([bk_ p2 #[i6_ 0, str ([]), str ([])] 24] : List (Nat × Obj)) rfl rfl rfl rfl Tryd.call124 rfl (fun w1 hw1 => (l1Bad_ok B w0 (([bk_ p2 #[i6_ 0, str ([]), str ([])] 24] : List (Nat × Obj)) ++ hs) rp p_5 bv L a5 w1 (fun w2 hw2 => hb w2 (Own.drop (f := ([bk_ p2 #[i6_ 0, str ([]), str ([])] 24] : List (Nat × Obj))) hw2)) hL8 hL hfa5 (by omega) hw1).mono fun en w' ⟨b', p', h1, h2, h3⟩ => ⟨b', p', h1, h2, h3⟩) fun b6 p_6 hKp_6 => ?_
 show Ll _ _ (Own _ _ (_ :: _ :: hs)) _ _ ((6, vS b6) :: _) _ _ _
 obtain ⟨⟨⟨hlob6, hhib6⟩, hssb6, hrrb6⟩, hep_6⟩ := hKp_6
 refine Ll.storeBox (cs' := #[i6_ b6.n, str b6.set, str b6.rel]) (hs' := (bk_ p2 #[i6_ b6.n, str b6.set, str b6.rel] 24 :: _ :: hs)) 0 rfl rfl rfl rfl rfl (by kernel_rfl : _ = some Tryd.t24) rfl rfl rfl rfl rfl ?_
 refine Ll.nil ?_
 refine Kt.sel [2] [_] rfl ?_
 refine Wk.ret (Kt.endBox (cs := #[i6_ b6.n, str b6.set, str b6.rel]) 0 rfl rfl rfl Tryd.isAgg24 Tryd.sizeOf24 fun w' hw => ?_)
 -- ret 0: pt_ p2
 exact ⟨b6, p_6, rfl, ⟨⟨hlob6, hhib6, hssb6, hrrb6⟩, by omega⟩, hw.sub (List.Sublist.cons _ (List.Sublist.cons_cons _ (List.Sublist.refl _)))⟩

set_option maxHeartbeats 400000 in
/-- spec.DrawCountKinds -/
theorem drawKinds_ok (B : Nat) (w0 : World) (hs : List (Nat × Obj)) (bv : Value) (L : List Int) (w : World) (hb : ∀ w, Own B w0 hs w → Row w bv (u8s L)) (hL8 : Bytes8 L) (hLs : L.length ≤ 1048576) (hw : Own B w0 hs w) :
    Calls Tryd.prog 29 [bv].toArray w fun en w' => ∃ a : St, ∃ x : Int, en = .returned (.tuple #[vS a, .int .i64 x]) ∧ (a.Tame ∧ -1 ≤ x ∧ x ≤ 4) ∧ Own B w0 hs w' := by
 refine fnStartC (Own B w0 hs) (n := 14) (e := [(0, bv)]) Tryd.func29 rfl rfl rfl rfl Ends.both hw ?_
 refine Wk.seq ?_
 refine Wk.region ?_
 refine Ll.alloc rfl rfl rfl rfl Tryd.zeroValue24 fun p2 hp2 => ?_
 show Ll _ _ (Own _ _ (bk_ p2 #[i6_ 0, str ([]), str ([])] 24 :: hs)) _ _ ((2, pt_ p2) :: _) _ _ _
 refine Ll.run 1 rfl ?_
 refine Ll.nil ?_
 refine Kt.sel [0, 2] [_, _] rfl ?_
 refine Wk.seq ?_
 refine Wk.region ?_
 refine Ll.run 1 rfl ?_
 refine Ll.callBack (ok := fun ((rp, v, M) : Nat × Value × List Int) => M.length ≤ 2000 ∧ Bytes8 M ∧ ∀ w1, Own B w0 hs w1 → Row w1 v (u8s M)) (v := fun ((rp, v, M) : Nat × Value × List Int) => .pointer (some ⟨rp, 0, none⟩)) (new := fun ((rp, v, M) : Nat × Value × List Int) => [(rp, .cells #[v, .int .i64 ((0 : Nat) : Int)] 119 (0, 0))]) (hs := hs) (xs := [.tmp 6]) (vs := [bv]) ([bk_ p2 #[i6_ 0, str ([]), str ([])] 24] : List (Nat × Obj)) rfl rfl rfl rfl Tryd.call60 rfl (fun w1 hw1 => (open_ok B w0 ([bk_ p2 #[i6_ 0, str ([]), str ([])] 24] : List (Nat × Obj)) hs _ _ w1 hb hL8 hLs hw1).mono fun en w' ⟨rp, v, M, h1, h2, h3⟩ => ⟨(rp, v, M), h1, h2, h3⟩) fun ⟨rp, dv, M⟩ hO => ?_
 dsimp only at hO
 obtain ⟨hM2, hM8, hMb⟩ := hO
 show Ll _ _ (Own _ _ (_ :: _ :: hs)) _ _ ((7, pt_ rp) :: _) _ _ _
 refine Ll.run 1 rfl ?_
 refine Ll.nil ?_
 refine Kt.sel [2, 4] [_, _] rfl ?_
 refine Wk.seq ?_
 refine Wk.region ?_
 refine Ll.run 1 rfl ?_
 refine Ll.callRd (rp := rp) (RT := 119) (p := 0) (bv := dv) (hs := hs) (ok := fun (a : St) p' => a.Tame ∧ p' ≤ 0 + 300) (v := fun (a : St) => vS a) (new := fun (a : St) => []) (xs := [.tmp 8]) (vs := [pt_ rp]) ([bk_ p2 #[i6_ 0, str ([]), str ([])] 24] : List (Nat × Obj)) rfl rfl rfl rfl Tryd.call84 rfl (fun w1 hw1 => (l1Open_ok B w0 (([bk_ p2 #[i6_ 0, str ([]), str ([])] 24] : List (Nat × Obj)) ++ hs) rp 0 dv M w1 (fun w2 hw2 => hMb w2 (Own.drop (f := ([bk_ p2 #[i6_ 0, str ([]), str ([])] 24] : List (Nat × Obj))) hw2)) hM8 hM2 (by omega) hw1).mono fun en w' ⟨a', p', h1, h2, h3⟩ => ⟨a', p', h1, h2, h3⟩) fun a9 p_9 hKp_9 => ?_
 show Ll _ _ (Own _ _ (_ :: _ :: hs)) _ _ ((9, vS a9) :: _) _ _ _
 obtain ⟨hta9, hep_9⟩ := hKp_9
 refine Ll.alloc rfl rfl rfl rfl Tryd.zeroValue24 fun p5 hp5 => ?_
 show Ll _ _ (Own _ _ (bk_ p5 #[i6_ 0, str ([]), str ([])] 24 :: _ :: _ :: hs)) _ _ ((5, pt_ p5) :: _) _ _ _
 refine Ll.storeBox (cs' := #[i6_ a9.n, str a9.set, str a9.rel]) (hs' := (bk_ p5 #[i6_ a9.n, str a9.set, str a9.rel] 24 :: _ :: _ :: hs)) 0 rfl rfl rfl rfl rfl (by kernel_rfl : _ = some Tryd.t24) rfl rfl rfl rfl rfl ?_
 refine Ll.nil ?_
 refine Kt.sel [2, 4, 5] [_, _, _] rfl ?_
 refine Wk.seq ?_
 refine Wk.regionS (S := Own B w0 [bk_ p5 #[i6_ a9.n, str a9.set, str a9.rel] 24]) [(0, true), (1, true), (2, false), (3, false), (4, false), (5, true)] Base.mixed (fun _ h => h.drawn) (by kernel_rfl) ?_
 refine Ld.take rfl rfl rfl rfl rfl (OpQ.loadBox (cs := #[i6_ a9.n, str a9.set, str a9.rel]) 0 rfl Tryd.isAgg24 rfl rfl Tryd.sizeOf24) (pk [0] rfl rfl) ?_
 refine Ld.run 1 rfl (pk [0] rfl rfl) ?_
 refine Ld.loud rfl ?_
 refine Ll.slice (xs := [.const (i6_ 1), .const (i6_ 2), .const (i6_ 3), .const (i6_ 0), .const (i6_ 2), .const (i6_ 1), .const (i6_ 4), .const (i6_ (-1))]) (vs := [i6_ 1, i6_ 2, i6_ 3, i6_ 0, i6_ 2, i6_ 1, i6_ 4, i6_ (-1)]) Base.elem25 rfl rfl rfl rfl rfl rfl (by decide) rfl fun p12 hp12 => ?_
 refine Ll.nil (Ld.joint (pk [1] rfl rfl) ?_)
 refine Ld.loud rfl ?_
 refine Ll.callRd (rp := rp) (RT := 119) (p := p_9) (bv := dv) (hs := hs) (ok := fun (v : Int) p' => v ∈ ([1, 2, 3, 0, 2, 1, 4, -1]) ∧ p' = p_9 + 1) (v := fun (v : Int) => i6_ v) (new := fun (v : Int) => []) (xs := [.tmp 11, .tmp 12]) (vs := [pt_ rp, sl_ p12 8 8]) ([bk_ p12 #[i6_ 1, i6_ 2, i6_ 3, i6_ 0, i6_ 2, i6_ 1, i6_ 4, i6_ (-1)] 3, bk_ p5 #[i6_ a9.n, str a9.set, str a9.rel] 24, bk_ p2 #[i6_ 0, str ([]), str ([])] 24] : List (Nat × Obj)) rfl rfl rfl rfl Tryd.call85 rfl (fun w1 hw1 => (num_ok B w0 (([bk_ p12 #[i6_ 1, i6_ 2, i6_ 3, i6_ 0, i6_ 2, i6_ 1, i6_ 4, i6_ (-1)] 3, bk_ p5 #[i6_ a9.n, str a9.set, str a9.rel] 24, bk_ p2 #[i6_ 0, str ([]), str ([])] 24] : List (Nat × Obj)) ++ hs) rp p_9 dv M (sl_ p12 8 8) ([1, 2, 3, 0, 2, 1, 4, -1]) w1 (fun w2 hw2 => hMb w2 (Own.drop (f := ([bk_ p12 #[i6_ 1, i6_ 2, i6_ 3, i6_ 0, i6_ 2, i6_ 1, i6_ 4, i6_ (-1)] 3, bk_ p5 #[i6_ a9.n, str a9.set, str a9.rel] 24, bk_ p2 #[i6_ 0, str ([]), str ([])] 24] : List (Nat × Obj))) hw2)) hM8 hM2 (fun w2 h2 => (Own.row h2 (i := 0) rfl (n := 8) (cap := 8) (vs := ints [1, 2, 3, 0, 2, 1, 4, -1]) rfl rfl (by decide))) (by simp) (by omega) hw1).mono fun en w' ⟨v', p', h1, h2, h3⟩ => ⟨v', p', h1, h2, h3⟩) fun v13 p_13 hKp_13 => ?_
 show Ll _ _ (Own _ _ (_ :: _ :: _ :: _ :: hs)) _ _ ((13, i6_ v13) :: _) _ _ _
 obtain ⟨hmv13, hep_13⟩ := hKp_13
 have hvv13 : -1 ≤ v13 ∧ v13 ≤ 4 := by simp at hmv13; omega
 refine Ll.nil (Ld.joint (pk [1] rfl rfl) ?_)
 refine Ld.loud rfl ?_
 refine Ll.storeBox (cs' := #[i6_ a9.n, str a9.set, str a9.rel]) (hs' := (_ :: _ :: bk_ p2 #[i6_ a9.n, str a9.set, str a9.rel] 24 :: _ :: hs)) 2 rfl rfl rfl rfl rfl (by kernel_rfl : _ = some Tryd.t24) rfl rfl rfl rfl rfl ?_
 refine Ll.nil (Ld.joint (pk [1] rfl rfl) ?_)
 refine Ld.run 1 rfl (pk [1] rfl rfl) ?_
 refine Ld.nil ?_
 refine Kt.sel [2, 3] [_, _] rfl ?_
 refine Wk.ret (Kt.endMany rfl (.cell (cs := #[i6_ a9.n, str a9.set, str a9.rel]) rfl (fun w1 hw1 => hw1.loadBox 2 rfl Tryd.isAgg24 Tryd.sizeOf24) (.tmp (v := i6_ v13) rfl ResAt.nil)) (by simp) fun w' hw => ?_)
 -- ret 0: vS a9; i6_ v13
 exact ⟨a9, v13, rfl, ⟨hta9, ⟨by omega, by omega⟩⟩, Own.drop (f := [_, _, _, _]) hw⟩

set_option maxHeartbeats 400000 in
/-- spec.DrawClassesOf -/
theorem drawClasses_ok (B : Nat) (w0 : World) (hs : List (Nat × Obj)) (bv : Value) (L : List Int) (w : World) (hb : ∀ w, Own B w0 hs w → Row w bv (u8s L)) (hL8 : Bytes8 L) (hLs : L.length ≤ 1048576) (hw : Own B w0 hs w) :
    Calls Tryd.prog 37 [bv].toArray w fun en w' => ∃ a : St, ∃ x : Int, en = .returned (.tuple #[vS a, .int .i64 x]) ∧ (a.Tame ∧ -1 ≤ x ∧ x ≤ 4) ∧ Own B w0 hs w' := by
 refine fnStartC (Own B w0 hs) (n := 14) (e := [(0, bv)]) Tryd.func37 rfl rfl rfl rfl Ends.both hw ?_
 refine Wk.seq ?_
 refine Wk.region ?_
 refine Ll.alloc rfl rfl rfl rfl Tryd.zeroValue24 fun p2 hp2 => ?_
 show Ll _ _ (Own _ _ (bk_ p2 #[i6_ 0, str ([]), str ([])] 24 :: hs)) _ _ ((2, pt_ p2) :: _) _ _ _
 refine Ll.run 1 rfl ?_
 refine Ll.nil ?_
 refine Kt.sel [0, 2] [_, _] rfl ?_
 refine Wk.seq ?_
 refine Wk.region ?_
 refine Ll.run 1 rfl ?_
 refine Ll.callBack (ok := fun ((rp, v, M) : Nat × Value × List Int) => M.length ≤ 2000 ∧ Bytes8 M ∧ ∀ w1, Own B w0 hs w1 → Row w1 v (u8s M)) (v := fun ((rp, v, M) : Nat × Value × List Int) => .pointer (some ⟨rp, 0, none⟩)) (new := fun ((rp, v, M) : Nat × Value × List Int) => [(rp, .cells #[v, .int .i64 ((0 : Nat) : Int)] 119 (0, 0))]) (hs := hs) (xs := [.tmp 6]) (vs := [bv]) ([bk_ p2 #[i6_ 0, str ([]), str ([])] 24] : List (Nat × Obj)) rfl rfl rfl rfl Tryd.call60 rfl (fun w1 hw1 => (open_ok B w0 ([bk_ p2 #[i6_ 0, str ([]), str ([])] 24] : List (Nat × Obj)) hs _ _ w1 hb hL8 hLs hw1).mono fun en w' ⟨rp, v, M, h1, h2, h3⟩ => ⟨(rp, v, M), h1, h2, h3⟩) fun ⟨rp, dv, M⟩ hO => ?_
 dsimp only at hO
 obtain ⟨hM2, hM8, hMb⟩ := hO
 show Ll _ _ (Own _ _ (_ :: _ :: hs)) _ _ ((7, pt_ rp) :: _) _ _ _
 refine Ll.run 1 rfl ?_
 refine Ll.nil ?_
 refine Kt.sel [2, 4] [_, _] rfl ?_
 refine Wk.seq ?_
 refine Wk.region ?_
 refine Ll.run 1 rfl ?_
 refine Ll.callRd (rp := rp) (RT := 119) (p := 0) (bv := dv) (hs := hs) (ok := fun (a : St) p' => a.Tame ∧ p' ≤ 0 + 300) (v := fun (a : St) => vS a) (new := fun (a : St) => []) (xs := [.tmp 8]) (vs := [pt_ rp]) ([bk_ p2 #[i6_ 0, str ([]), str ([])] 24] : List (Nat × Obj)) rfl rfl rfl rfl Tryd.call84 rfl (fun w1 hw1 => (l1Open_ok B w0 (([bk_ p2 #[i6_ 0, str ([]), str ([])] 24] : List (Nat × Obj)) ++ hs) rp 0 dv M w1 (fun w2 hw2 => hMb w2 (Own.drop (f := ([bk_ p2 #[i6_ 0, str ([]), str ([])] 24] : List (Nat × Obj))) hw2)) hM8 hM2 (by omega) hw1).mono fun en w' ⟨a', p', h1, h2, h3⟩ => ⟨a', p', h1, h2, h3⟩) fun a9 p_9 hKp_9 => ?_
 show Ll _ _ (Own _ _ (_ :: _ :: hs)) _ _ ((9, vS a9) :: _) _ _ _
 obtain ⟨hta9, hep_9⟩ := hKp_9
 refine Ll.alloc rfl rfl rfl rfl Tryd.zeroValue24 fun p5 hp5 => ?_
 show Ll _ _ (Own _ _ (bk_ p5 #[i6_ 0, str ([]), str ([])] 24 :: _ :: _ :: hs)) _ _ ((5, pt_ p5) :: _) _ _ _
 refine Ll.storeBox (cs' := #[i6_ a9.n, str a9.set, str a9.rel]) (hs' := (bk_ p5 #[i6_ a9.n, str a9.set, str a9.rel] 24 :: _ :: _ :: hs)) 0 rfl rfl rfl rfl rfl (by kernel_rfl : _ = some Tryd.t24) rfl rfl rfl rfl rfl ?_
 refine Ll.nil ?_
 refine Kt.sel [2, 4, 5] [_, _, _] rfl ?_
 refine Wk.seq ?_
 refine Wk.regionS (S := Own B w0 [bk_ p5 #[i6_ a9.n, str a9.set, str a9.rel] 24]) [(0, true), (1, true), (2, false), (3, false), (4, false), (5, true)] Base.mixed (fun _ h => h.drawn) (by kernel_rfl) ?_
 refine Ld.take rfl rfl rfl rfl rfl (OpQ.loadBox (cs := #[i6_ a9.n, str a9.set, str a9.rel]) 0 rfl Tryd.isAgg24 rfl rfl Tryd.sizeOf24) (pk [0] rfl rfl) ?_
 refine Ld.run 1 rfl (pk [0] rfl rfl) ?_
 refine Ld.loud rfl ?_
 refine Ll.slice (xs := [.const (i6_ 1), .const (i6_ 2), .const (i6_ 0), .const (i6_ 1), .const (i6_ 2), .const (i6_ 3), .const (i6_ (-1)), .const (i6_ 4)]) (vs := [i6_ 1, i6_ 2, i6_ 0, i6_ 1, i6_ 2, i6_ 3, i6_ (-1), i6_ 4]) Base.elem25 rfl rfl rfl rfl rfl rfl (by decide) rfl fun p12 hp12 => ?_
 refine Ll.nil (Ld.joint (pk [1] rfl rfl) ?_)
 refine Ld.loud rfl ?_
 refine Ll.callRd (rp := rp) (RT := 119) (p := p_9) (bv := dv) (hs := hs) (ok := fun (v : Int) p' => v ∈ ([1, 2, 0, 1, 2, 3, -1, 4]) ∧ p' = p_9 + 1) (v := fun (v : Int) => i6_ v) (new := fun (v : Int) => []) (xs := [.tmp 11, .tmp 12]) (vs := [pt_ rp, sl_ p12 8 8]) ([bk_ p12 #[i6_ 1, i6_ 2, i6_ 0, i6_ 1, i6_ 2, i6_ 3, i6_ (-1), i6_ 4] 3, bk_ p5 #[i6_ a9.n, str a9.set, str a9.rel] 24, bk_ p2 #[i6_ 0, str ([]), str ([])] 24] : List (Nat × Obj)) rfl rfl rfl rfl Tryd.call85 rfl (fun w1 hw1 => (num_ok B w0 (([bk_ p12 #[i6_ 1, i6_ 2, i6_ 0, i6_ 1, i6_ 2, i6_ 3, i6_ (-1), i6_ 4] 3, bk_ p5 #[i6_ a9.n, str a9.set, str a9.rel] 24, bk_ p2 #[i6_ 0, str ([]), str ([])] 24] : List (Nat × Obj)) ++ hs) rp p_9 dv M (sl_ p12 8 8) ([1, 2, 0, 1, 2, 3, -1, 4]) w1 (fun w2 hw2 => hMb w2 (Own.drop (f := ([bk_ p12 #[i6_ 1, i6_ 2, i6_ 0, i6_ 1, i6_ 2, i6_ 3, i6_ (-1), i6_ 4] 3, bk_ p5 #[i6_ a9.n, str a9.set, str a9.rel] 24, bk_ p2 #[i6_ 0, str ([]), str ([])] 24] : List (Nat × Obj))) hw2)) hM8 hM2 (fun w2 h2 => (Own.row h2 (i := 0) rfl (n := 8) (cap := 8) (vs := ints [1, 2, 0, 1, 2, 3, -1, 4]) rfl rfl (by decide))) (by simp) (by omega) hw1).mono fun en w' ⟨v', p', h1, h2, h3⟩ => ⟨v', p', h1, h2, h3⟩) fun v13 p_13 hKp_13 => ?_
 show Ll _ _ (Own _ _ (_ :: _ :: _ :: _ :: hs)) _ _ ((13, i6_ v13) :: _) _ _ _
 obtain ⟨hmv13, hep_13⟩ := hKp_13
 have hvv13 : -1 ≤ v13 ∧ v13 ≤ 4 := by simp at hmv13; omega
 refine Ll.nil (Ld.joint (pk [1] rfl rfl) ?_)
 refine Ld.loud rfl ?_
 refine Ll.storeBox (cs' := #[i6_ a9.n, str a9.set, str a9.rel]) (hs' := (_ :: _ :: bk_ p2 #[i6_ a9.n, str a9.set, str a9.rel] 24 :: _ :: hs)) 2 rfl rfl rfl rfl rfl (by kernel_rfl : _ = some Tryd.t24) rfl rfl rfl rfl rfl ?_
 refine Ll.nil (Ld.joint (pk [1] rfl rfl) ?_)
 refine Ld.run 1 rfl (pk [1] rfl rfl) ?_
 refine Ld.nil ?_
 refine Kt.sel [2, 3] [_, _] rfl ?_
 refine Wk.ret (Kt.endMany rfl (.cell (cs := #[i6_ a9.n, str a9.set, str a9.rel]) rfl (fun w1 hw1 => hw1.loadBox 2 rfl Tryd.isAgg24 Tryd.sizeOf24) (.tmp (v := i6_ v13) rfl ResAt.nil)) (by simp) fun w' hw => ?_)
 -- ret 0: vS a9; i6_ v13
 exact ⟨a9, v13, rfl, ⟨hta9, ⟨by omega, by omega⟩⟩, Own.drop (f := [_, _, _, _]) hw⟩

set_option maxHeartbeats 400000 in
/-- spec.DrawCountClasses -/
theorem drawCounts_ok (B : Nat) (w0 : World) (hs : List (Nat × Obj)) (bv : Value) (L : List Int) (w : World) (hb : ∀ w, Own B w0 hs w → Row w bv (u8s L)) (hL8 : Bytes8 L) (hLs : L.length ≤ 1048576) (hw : Own B w0 hs w) :
    Calls Tryd.prog 34 [bv].toArray w fun en w' => ∃ a : St, ∃ x : Int, ∃ y : Int, en = .returned (.tuple #[vS a, .int .i64 x, .int .i64 y]) ∧ (a.Tame ∧ (0 ≤ x ∧ x ≤ 3) ∧ -1 ≤ y ∧ y ≤ 3) ∧ Own B w0 hs w' := by
 refine fnStartC (Own B w0 hs) (n := 20) (e := [(0, bv)]) Tryd.func34 rfl rfl rfl rfl Ends.both hw ?_
 refine Wk.seq ?_
 refine Wk.region ?_
 refine Ll.alloc rfl rfl rfl rfl Tryd.zeroValue24 fun p2 hp2 => ?_
 show Ll _ _ (Own _ _ (bk_ p2 #[i6_ 0, str ([]), str ([])] 24 :: hs)) _ _ ((2, pt_ p2) :: _) _ _ _
 refine Ll.run 2 rfl ?_
 refine Ll.nil ?_
 refine Kt.sel [0, 2] [_, _] rfl ?_
 refine Wk.seq ?_
 refine Wk.region ?_
 refine Ll.run 1 rfl ?_
 refine Ll.callBack (ok := fun ((rp, v, M) : Nat × Value × List Int) => M.length ≤ 2000 ∧ Bytes8 M ∧ ∀ w1, Own B w0 hs w1 → Row w1 v (u8s M)) (v := fun ((rp, v, M) : Nat × Value × List Int) => .pointer (some ⟨rp, 0, none⟩)) (new := fun ((rp, v, M) : Nat × Value × List Int) => [(rp, .cells #[v, .int .i64 ((0 : Nat) : Int)] 119 (0, 0))]) (hs := hs) (xs := [.tmp 8]) (vs := [bv]) ([bk_ p2 #[i6_ 0, str ([]), str ([])] 24] : List (Nat × Obj)) rfl rfl rfl rfl Tryd.call60 rfl (fun w1 hw1 => (open_ok B w0 ([bk_ p2 #[i6_ 0, str ([]), str ([])] 24] : List (Nat × Obj)) hs _ _ w1 hb hL8 hLs hw1).mono fun en w' ⟨rp, v, M, h1, h2, h3⟩ => ⟨(rp, v, M), h1, h2, h3⟩) fun ⟨rp, dv, M⟩ hO => ?_
 dsimp only at hO
 obtain ⟨hM2, hM8, hMb⟩ := hO
 show Ll _ _ (Own _ _ (_ :: _ :: hs)) _ _ ((9, pt_ rp) :: _) _ _ _
 refine Ll.run 1 rfl ?_
 refine Ll.nil ?_
 refine Kt.sel [2, 5] [_, _] rfl ?_
 refine Wk.seq ?_
 refine Wk.region ?_
 refine Ll.run 1 rfl ?_
 refine Ll.callRd (rp := rp) (RT := 119) (p := 0) (bv := dv) (hs := hs) (ok := fun (a : St) p' => a.Tame ∧ p' ≤ 0 + 300) (v := fun (a : St) => vS a) (new := fun (a : St) => []) (xs := [.tmp 10]) (vs := [pt_ rp]) ([bk_ p2 #[i6_ 0, str ([]), str ([])] 24] : List (Nat × Obj)) rfl rfl rfl rfl Tryd.call84 rfl (fun w1 hw1 => (l1Open_ok B w0 (([bk_ p2 #[i6_ 0, str ([]), str ([])] 24] : List (Nat × Obj)) ++ hs) rp 0 dv M w1 (fun w2 hw2 => hMb w2 (Own.drop (f := ([bk_ p2 #[i6_ 0, str ([]), str ([])] 24] : List (Nat × Obj))) hw2)) hM8 hM2 (by omega) hw1).mono fun en w' ⟨a', p', h1, h2, h3⟩ => ⟨a', p', h1, h2, h3⟩) fun a11 p_11 hKp_11 => ?_
 show Ll _ _ (Own _ _ (_ :: _ :: hs)) _ _ ((11, vS a11) :: _) _ _ _
 obtain ⟨hta11, hep_11⟩ := hKp_11
 refine Ll.alloc rfl rfl rfl rfl Tryd.zeroValue24 fun p6 hp6 => ?_
 show Ll _ _ (Own _ _ (bk_ p6 #[i6_ 0, str ([]), str ([])] 24 :: _ :: _ :: hs)) _ _ ((6, pt_ p6) :: _) _ _ _
 refine Ll.storeBox (cs' := #[i6_ a11.n, str a11.set, str a11.rel]) (hs' := (bk_ p6 #[i6_ a11.n, str a11.set, str a11.rel] 24 :: _ :: _ :: hs)) 0 rfl rfl rfl rfl rfl (by kernel_rfl : _ = some Tryd.t24) rfl rfl rfl rfl rfl ?_
 refine Ll.nil ?_
 refine Kt.sel [2, 5, 6] [_, _, _] rfl ?_
 refine Wk.seq ?_
 refine Wk.region ?_
 refine Ll.run 1 rfl ?_
 refine Ll.slice (xs := [.const (i6_ 1), .const (i6_ 2), .const (i6_ 0), .const (i6_ 1), .const (i6_ 2), .const (i6_ 3)]) (vs := [i6_ 1, i6_ 2, i6_ 0, i6_ 1, i6_ 2, i6_ 3]) Base.elem25 rfl rfl rfl rfl rfl rfl (by decide) rfl fun p13 hp13 => ?_
 refine Ll.callRd (rp := rp) (RT := 119) (p := p_11) (bv := dv) (hs := hs) (ok := fun (v : Int) p' => v ∈ ([1, 2, 0, 1, 2, 3]) ∧ p' = p_11 + 1) (v := fun (v : Int) => i6_ v) (new := fun (v : Int) => []) (xs := [.tmp 12, .tmp 13]) (vs := [pt_ rp, sl_ p13 6 6]) ([bk_ p13 #[i6_ 1, i6_ 2, i6_ 0, i6_ 1, i6_ 2, i6_ 3] 3, bk_ p6 #[i6_ a11.n, str a11.set, str a11.rel] 24, bk_ p2 #[i6_ 0, str ([]), str ([])] 24] : List (Nat × Obj)) rfl rfl rfl rfl Tryd.call85 rfl (fun w1 hw1 => (num_ok B w0 (([bk_ p13 #[i6_ 1, i6_ 2, i6_ 0, i6_ 1, i6_ 2, i6_ 3] 3, bk_ p6 #[i6_ a11.n, str a11.set, str a11.rel] 24, bk_ p2 #[i6_ 0, str ([]), str ([])] 24] : List (Nat × Obj)) ++ hs) rp p_11 dv M (sl_ p13 6 6) ([1, 2, 0, 1, 2, 3]) w1 (fun w2 hw2 => hMb w2 (Own.drop (f := ([bk_ p13 #[i6_ 1, i6_ 2, i6_ 0, i6_ 1, i6_ 2, i6_ 3] 3, bk_ p6 #[i6_ a11.n, str a11.set, str a11.rel] 24, bk_ p2 #[i6_ 0, str ([]), str ([])] 24] : List (Nat × Obj))) hw2)) hM8 hM2 (fun w2 h2 => (Own.row h2 (i := 0) rfl (n := 6) (cap := 6) (vs := ints [1, 2, 0, 1, 2, 3]) rfl rfl (by decide))) (by simp) (by omega) hw1).mono fun en w' ⟨v', p', h1, h2, h3⟩ => ⟨v', p', h1, h2, h3⟩) fun v14 p_14 hKp_14 => ?_
 show Ll _ _ (Own _ _ (_ :: _ :: _ :: _ :: hs)) _ _ ((14, i6_ v14) :: _) _ _ _
 obtain ⟨hmv14, hep_14⟩ := hKp_14
 have hvv14 : 0 ≤ v14 ∧ v14 ≤ 3 := by simp at hmv14; omega
 refine Ll.run 1 rfl ?_
 refine Ll.nil ?_
 refine Kt.sel [2, 5, 6, 7] [_, _, _, _] rfl ?_
 refine Wk.seq ?_
 refine Wk.regionS (S := Own B w0 [bk_ p13 #[i6_ 1, i6_ 2, i6_ 0, i6_ 1, i6_ 2, i6_ 3] 3, bk_ p6 #[i6_ a11.n, str a11.set, str a11.rel] 24]) [(0, true), (1, true), (2, true), (3, false), (4, false), (5, false), (6, true), (7, true)] Base.mixed (fun _ h => h.drawn) (by kernel_rfl) ?_
 refine Ld.take rfl rfl rfl rfl rfl (OpQ.loadBox (cs := #[i6_ a11.n, str a11.set, str a11.rel]) 1 rfl Tryd.isAgg24 rfl rfl Tryd.sizeOf24) (pk [0, 1] rfl rfl) ?_
 refine Ld.run 2 rfl (pk [0, 1] rfl rfl) ?_
 refine Ld.loud rfl ?_
 refine Ll.slice (xs := [.const (i6_ 1), .const (i6_ 2), .const (i6_ 0), .const (i6_ 1), .const (i6_ (-1)), .const (i6_ 3)]) (vs := [i6_ 1, i6_ 2, i6_ 0, i6_ 1, i6_ (-1), i6_ 3]) Base.elem25 rfl rfl rfl rfl rfl rfl (by decide) rfl fun p18 hp18 => ?_
 refine Ll.nil (Ld.joint (pk [1, 2] rfl rfl) ?_)
 refine Ld.loud rfl ?_
 refine Ll.callRd (rp := rp) (RT := 119) (p := p_14) (bv := dv) (hs := hs) (ok := fun (v : Int) p' => v ∈ ([1, 2, 0, 1, -1, 3]) ∧ p' = p_14 + 1) (v := fun (v : Int) => i6_ v) (new := fun (v : Int) => []) (xs := [.tmp 17, .tmp 18]) (vs := [pt_ rp, sl_ p18 6 6]) ([bk_ p18 #[i6_ 1, i6_ 2, i6_ 0, i6_ 1, i6_ (-1), i6_ 3] 3, bk_ p13 #[i6_ 1, i6_ 2, i6_ 0, i6_ 1, i6_ 2, i6_ 3] 3, bk_ p6 #[i6_ a11.n, str a11.set, str a11.rel] 24, bk_ p2 #[i6_ 0, str ([]), str ([])] 24] : List (Nat × Obj)) rfl rfl rfl rfl Tryd.call85 rfl (fun w1 hw1 => (num_ok B w0 (([bk_ p18 #[i6_ 1, i6_ 2, i6_ 0, i6_ 1, i6_ (-1), i6_ 3] 3, bk_ p13 #[i6_ 1, i6_ 2, i6_ 0, i6_ 1, i6_ 2, i6_ 3] 3, bk_ p6 #[i6_ a11.n, str a11.set, str a11.rel] 24, bk_ p2 #[i6_ 0, str ([]), str ([])] 24] : List (Nat × Obj)) ++ hs) rp p_14 dv M (sl_ p18 6 6) ([1, 2, 0, 1, -1, 3]) w1 (fun w2 hw2 => hMb w2 (Own.drop (f := ([bk_ p18 #[i6_ 1, i6_ 2, i6_ 0, i6_ 1, i6_ (-1), i6_ 3] 3, bk_ p13 #[i6_ 1, i6_ 2, i6_ 0, i6_ 1, i6_ 2, i6_ 3] 3, bk_ p6 #[i6_ a11.n, str a11.set, str a11.rel] 24, bk_ p2 #[i6_ 0, str ([]), str ([])] 24] : List (Nat × Obj))) hw2)) hM8 hM2 (fun w2 h2 => (Own.row h2 (i := 0) rfl (n := 6) (cap := 6) (vs := ints [1, 2, 0, 1, -1, 3]) rfl rfl (by decide))) (by simp) (by omega) hw1).mono fun en w' ⟨v', p', h1, h2, h3⟩ => ⟨v', p', h1, h2, h3⟩) fun v19 p_19 hKp_19 => ?_
 show Ll _ _ (Own _ _ (_ :: _ :: _ :: _ :: _ :: hs)) _ _ ((19, i6_ v19) :: _) _ _ _
 obtain ⟨hmv19, hep_19⟩ := hKp_19
 have hvv19 : -1 ≤ v19 ∧ v19 ≤ 3 := by simp at hmv19; omega
 refine Ll.nil (Ld.joint (pk [1, 2] rfl rfl) ?_)
 refine Ld.loud rfl ?_
 refine Ll.storeBox (cs' := #[i6_ a11.n, str a11.set, str a11.rel]) (hs' := (_ :: _ :: _ :: bk_ p2 #[i6_ a11.n, str a11.set, str a11.rel] 24 :: _ :: hs)) 3 rfl rfl rfl rfl rfl (by kernel_rfl : _ = some Tryd.t24) rfl rfl rfl rfl rfl ?_
 refine Ll.nil (Ld.joint (pk [1, 2] rfl rfl) ?_)
 refine Ld.run 2 rfl (pk [1, 2] rfl rfl) ?_
 refine Ld.nil ?_
 refine Kt.sel [2, 3, 4] [_, _, _] rfl ?_
 refine Wk.ret (Kt.endMany rfl (.cell (cs := #[i6_ a11.n, str a11.set, str a11.rel]) rfl (fun w1 hw1 => hw1.loadBox 3 rfl Tryd.isAgg24 Tryd.sizeOf24) (.tmp (v := i6_ v14) rfl (.tmp (v := i6_ v19) rfl ResAt.nil))) (by simp) fun w' hw => ?_)
 -- ret 0: vS a11; i6_ v14; i6_ v19
 exact ⟨a11, v14, v19, rfl, ⟨hta11, ⟨⟨by omega, by omega⟩, by omega, by omega⟩⟩, Own.drop (f := [_, _, _, _, _]) hw⟩

end Go.Proofs.YtmannilblelfjaaDoor
