/-
  Walks: pebble games by levels.
-/
import Derived.Test.YtjcoijejhachhaaDoorPlain41
import Derived.Test.YtjcoijejhachhaaDoorPebGM
import Derived.Test.YtjcoijejhachhaaDoorBase
namespace Go.Proofs.YtjcoijejhachhaaDoor
open Go.RowKit Go.Wk
set_option linter.unusedSimpArgs false

set_option maxHeartbeats 400000 in
/-- spec.l7Levels -/
theorem l7Levels_ok (B : Nat) (w0 : World) (hs : List (Nat × Obj)) (a b : St) (k M : Nat) (w : World) (hVa : validB a = true) (hVb : validB b = true) (h1 : 1 ≤ k) (hk3 : k ≤ 3) (hM : M ≤ 2000) (hw : Own B w0 hs w) :
    Calls Tryd.prog 59 [vS a, vS b, i6_ ((k : Int)), i6_ ((M : Int))].toArray w fun en w' => ∃ (gA cA : Nat) (uA : Array Value) (rrA : List RR) (gB cB : Nat) (uB : Array Value) (rrB : List RR) (m : Nat), en = .returned (.tuple #[.slice (some ⟨gA, 0, none⟩) rrA.length cA, .slice (some ⟨gB, 0, none⟩) rrB.length cB]) ∧ (RowsOk rrA uA cA ∧ RowsOk rrB uB cB ∧ Levs k M a b (rrA.map RR.xs) (rrB.map RR.xs) m (m - 1) ∧ LevEnds k M a b m ∧ m ≤ 2000) ∧ Own B w0 ((gA, .cells uA 24 (0, 0)) :: (gB, .cells uB 24 (0, 0)) :: (rowsB 3 rrA ++ (rowsB 3 rrB ++ hs))) w' := by
 refine fnStartC (Own B w0 hs) (n := 83) (e := [(0, vS a), (1, vS b), (2, i6_ ((k : Int))), (3, i6_ ((M : Int)))]) Tryd.func59 rfl rfl rfl rfl Ends.both hw ?_
 have ha := validB_fine hVa
 have hb := validB_fine hVb
 have hm8 := ha.hi
 have hm1 := ha.lo
 have hb8 := hb.hi
 have hb1 := hb.lo
 have hpa := pow9 (size := a.n.toNat) (k := k) (by omega) hk3
 have hpb := pow9 (size := b.n.toNat) (k := k) (by omega) hk3
 refine Wk.seq ?_
 refine Wk.region ?_
 refine Ll.box (v := vS a) rfl rfl rfl rfl rfl fun p4 hp4 => ?_
 show Ll _ _ (Own _ _ (_ :: hs)) _ _ ((4, pt_ p4) :: _) _ _ _
 refine Ll.box (v := vS b) rfl rfl rfl rfl rfl fun p5 hp5 => ?_
 show Ll _ _ (Own _ _ (_ :: _ :: hs)) _ _ ((5, pt_ p5) :: _) _ _ _
 refine Ll.run 2 rfl ?_
 refine Ll.nil ?_
 refine Kt.sel [2, 3, 4, 5] [_, _, _, _] rfl ?_
 refine Wk.seq ?_
 refine Wk.region ?_
 refine Ll.callGet (σ := Nat × Nat × List Bkt) (ok := fun s => TabOk s.2.2 []) (v := fun s => .agg #[.slice (some ⟨s.1, 0, none⟩) 997 997, .slice (some ⟨s.2.1, 0, none⟩) 1 1]) (xs := []) (vs := []) (hs' := fun s => [bk_ p5 #[i6_ b.n, str b.set, str b.rel] 28, bk_ p4 #[i6_ a.n, str a.set, str a.rel] 28] ++ (tabL 143 3 145 s.1 s.2.1 s.2.2 [] ++ hs)) rfl rfl rfl rfl Tryd.call96 rfl (fun w1 hw1 => (l5New_ok _ _ _ w1 hw1).mono fun en w' ⟨q, c, h1, h2⟩ => ⟨(q, c, _), h1, TabOk.new, by dsimp only; exact h2.perm (perm_back _ [bk_ p5 #[i6_ b.n, str b.set, str b.rel] 28, bk_ p4 #[i6_ a.n, str a.set, str a.rel] 28] _)⟩) fun ⟨q, c, bs0⟩ hT0 => ?_
 show Ll _ _ (Own _ _ (_ :: _ :: _ :: _ :: ((blks 145 bs0 ++ hs)))) _ _ ((15, .agg #[sl_ q 997 997, sl_ c 1 1]) :: _) _ _ _
 refine Ll.alloc rfl rfl rfl rfl Tryd.zeroValue98 fun p10 hp10 => ?_
 show Ll _ _ (Own _ _ (bk_ p10 #[.slice none 0 0, .slice none 0 0] 98 :: _ :: _ :: _ :: _ :: ((blks 145 bs0 ++ hs)))) _ _ ((10, pt_ p10) :: _) _ _ _
 refine Ll.storeBox (cs' := #[sl_ q 997 997, sl_ c 1 1]) (hs' := (bk_ p10 #[sl_ q 997 997, sl_ c 1 1] 98 :: _ :: _ :: _ :: _ :: ((blks 145 bs0 ++ hs)))) 0 rfl rfl rfl rfl rfl (by kernel_rfl : _ = some Tryd.t98) rfl rfl rfl rfl rfl ?_
 refine Ll.nil ?_
 refine Kt.sel [2, 3, 4, 5, 10] [_, _, _, _, _] rfl ?_
 refine Wk.seq ?_
 refine Wk.region ?_
 refine Ll.op rfl rfl rfl (OpQ.loadBox (cs := #[sl_ q 997 997, sl_ c 1 1]) 0 rfl Tryd.isAgg98 rfl rfl Tryd.sizeOf98) ?_
 refine Ll.op rfl rfl rfl (OpQ.loadBox (cs := #[i6_ a.n, str a.set, str a.rel]) 2 rfl Tryd.isAgg28 rfl rfl Tryd.sizeOf28) ?_
 refine Ll.run 1 rfl ?_
 refine Ll.callGet (σ := Nat × List Int × List Bkt × List (List UInt8)) (ok := fun (g, R', bs', T') => TabTo (([] : List (List UInt8))) bs' T' ((a.n.toNat + 1) ^ k : Nat) ∧ NumOf T' (text0 a k) R' ((a.n.toNat + 1) ^ k : Nat) ∧ Onto (([] : List (List UInt8))) T' R' ((a.n.toNat + 1) ^ k : Nat)) (v := fun (g, R', bs', T') => .slice (some ⟨g, 0, none⟩) ((a.n.toNat + 1) ^ k : Nat) ((a.n.toNat + 1) ^ k : Nat)) (xs := [.tmp 16, .tmp 17, .tmp 18]) (vs := [.agg #[sl_ q 997 997, sl_ c 1 1], vS a, i6_ ((k : Int))]) (hs' := fun (g, R', bs', T') => (g, .cells (ints R').toArray 3 (0, 0)) :: ([bk_ p10 #[sl_ q 997 997, sl_ c 1 1] 98, bk_ p5 #[i6_ b.n, str b.set, str b.rel] 28, bk_ p4 #[i6_ a.n, str a.set, str a.rel] 28] ++ (tabL 143 3 145 q c bs' T' ++ hs))) rfl rfl rfl rfl Tryd.call109 rfl (fun w1 hw1 => (l7Start_ok B w0 ([bk_ p10 #[sl_ q 997 997, sl_ c 1 1] 98, bk_ p5 #[i6_ b.n, str b.set, str b.rel] 28, bk_ p4 #[i6_ a.n, str a.set, str a.rel] 28] ++ hs) q c bs0 (([] : List (List UInt8))) a  k w1  hT0 hVa h1 hk3 (by simp only [List.length_nil]; omega) (hw1.perm (perm_back [bk_ p10 #[sl_ q 997 997, sl_ c 1 1] 98, bk_ p5 #[i6_ b.n, str b.set, str b.rel] 28, bk_ p4 #[i6_ a.n, str a.set, str a.rel] 28] (tabL 143 3 145 q c bs0 (([] : List (List UInt8)))) hs))).mono fun en w' ⟨g, R', bs', T', h1, h2, h3⟩ => ⟨(g, R', bs', T'), h1.trans rfl, h2, h3.perm (List.Perm.cons _ (perm_back _ [bk_ p10 #[sl_ q 997 997, sl_ c 1 1] 98, bk_ p5 #[i6_ b.n, str b.set, str b.rel] 28, bk_ p4 #[i6_ a.n, str a.set, str a.rel] 28] _))⟩) fun ⟨r, R, bs_, T_⟩ hLr => ?_
 dsimp only at hLr
 show Ll _ _ (Own _ _ (_ :: _ :: _ :: _ :: _ :: _ :: ((blks 145 bs_ ++ hs)))) _ _ ((19, sl_ r (((a.n.toNat + 1) ^ k : Nat)) (((a.n.toNat + 1) ^ k : Nat))) :: _) _ _ _
 refine Ll.slice (xs := [.tmp 19]) (vs := [sl_ r (((a.n.toNat + 1) ^ k : Nat)) (((a.n.toNat + 1) ^ k : Nat))]) Base.elem68 rfl rfl rfl rfl rfl rfl (by decide) rfl fun p20 hp20 => ?_
 refine Ll.run 1 rfl ?_
 refine Ll.nil ?_
 refine Kt.sel [2, 3, 4, 5, 10, 11] [_, _, _, _, _, _] rfl ?_
 refine Wk.seq ?_
 refine Wk.region ?_
 refine Ll.op rfl rfl rfl (OpQ.loadBox (cs := #[sl_ q 997 997, sl_ c 1 1]) 2 rfl Tryd.isAgg98 rfl rfl Tryd.sizeOf98) ?_
 refine Ll.op rfl rfl rfl (OpQ.loadBox (cs := #[i6_ b.n, str b.set, str b.rel]) 3 rfl Tryd.isAgg28 rfl rfl Tryd.sizeOf28) ?_
 refine Ll.run 1 rfl ?_
 refine Ll.callGet (σ := Nat × List Int × List Bkt × List (List UInt8)) (ok := fun (g, R', bs', T') => TabTo T_ bs' T' ((b.n.toNat + 1) ^ k : Nat) ∧ NumOf T' (text0 b k) R' ((b.n.toNat + 1) ^ k : Nat) ∧ Onto T_ T' R' ((b.n.toNat + 1) ^ k : Nat)) (v := fun (g, R', bs', T') => .slice (some ⟨g, 0, none⟩) ((b.n.toNat + 1) ^ k : Nat) ((b.n.toNat + 1) ^ k : Nat)) (xs := [.tmp 21, .tmp 22, .tmp 23]) (vs := [.agg #[sl_ q 997 997, sl_ c 1 1], vS b, i6_ ((k : Int))]) (hs' := fun (g, R', bs', T') => (g, .cells (ints R').toArray 3 (0, 0)) :: ([bk_ p20 #[sl_ r (((a.n.toNat + 1) ^ k : Nat)) (((a.n.toNat + 1) ^ k : Nat))] 24, bk_ r ((ints R).toArray) 3, bk_ p10 #[sl_ q 997 997, sl_ c 1 1] 98, bk_ p5 #[i6_ b.n, str b.set, str b.rel] 28, bk_ p4 #[i6_ a.n, str a.set, str a.rel] 28] ++ (tabL 143 3 145 q c bs' T' ++ hs))) rfl rfl rfl rfl Tryd.call109 rfl (fun w1 hw1 => (l7Start_ok B w0 ([bk_ p20 #[sl_ r (((a.n.toNat + 1) ^ k : Nat)) (((a.n.toNat + 1) ^ k : Nat))] 24, bk_ r ((ints R).toArray) 3, bk_ p10 #[sl_ q 997 997, sl_ c 1 1] 98, bk_ p5 #[i6_ b.n, str b.set, str b.rel] 28, bk_ p4 #[i6_ a.n, str a.set, str a.rel] 28] ++ hs) q c bs_ T_ b  k w1  hLr.1.ok hVb h1 hk3 (by have := hLr.1.len; simp only [List.length_nil] at this; omega) (hw1.perm (perm_back [bk_ p20 #[sl_ r (((a.n.toNat + 1) ^ k : Nat)) (((a.n.toNat + 1) ^ k : Nat))] 24, bk_ r ((ints R).toArray) 3, bk_ p10 #[sl_ q 997 997, sl_ c 1 1] 98, bk_ p5 #[i6_ b.n, str b.set, str b.rel] 28, bk_ p4 #[i6_ a.n, str a.set, str a.rel] 28] (tabL 143 3 145 q c bs_ T_) hs))).mono fun en w' ⟨g, R', bs', T', h1, h2, h3⟩ => ⟨(g, R', bs', T'), h1.trans rfl, h2, h3.perm (List.Perm.cons _ (perm_back _ [bk_ p20 #[sl_ r (((a.n.toNat + 1) ^ k : Nat)) (((a.n.toNat + 1) ^ k : Nat))] 24, bk_ r ((ints R).toArray) 3, bk_ p10 #[sl_ q 997 997, sl_ c 1 1] 98, bk_ p5 #[i6_ b.n, str b.set, str b.rel] 28, bk_ p4 #[i6_ a.n, str a.set, str a.rel] 28] _))⟩) fun ⟨r_1, R_1, bs__1, T__1⟩ hLr_1 => ?_
 dsimp only at hLr_1
 show Ll _ _ (Own _ _ (_ :: _ :: _ :: _ :: _ :: _ :: _ :: _ :: ((blks 145 bs__1 ++ hs)))) _ _ ((24, sl_ r_1 (((b.n.toNat + 1) ^ k : Nat)) (((b.n.toNat + 1) ^ k : Nat))) :: _) _ _ _
 refine Ll.slice (xs := [.tmp 24]) (vs := [sl_ r_1 (((b.n.toNat + 1) ^ k : Nat)) (((b.n.toNat + 1) ^ k : Nat))]) Base.elem68 rfl rfl rfl rfl rfl rfl (by decide) rfl fun p25 hp25 => ?_
 refine Ll.run 1 rfl ?_
 refine Ll.nil ?_
 refine Kt.sel [2, 3, 4, 5, 11, 12] [_, _, _, _, _, _] rfl ?_
 refine Wk.seq ?_
 refine Wk.seq ?_
 refine Wk.regionQ ?_
 refine Lq.run 1 rfl ?_
 refine Lq.nil ?_
 refine Kt.sel [2, 3, 4, 5, 11, 12, 13] [_, _, _, _, _, _, _] rfl ?_
 refine Wk.block ?_
 refine Wk.loop (σ := Nat × Nat × Nat × Array Value × List RR × Nat × Nat × Array Value × List RR) (fun ⟨n, gA, cA, uA, rrA, gB, cB, uB, rrB⟩ => n ≤ M ∧ RowsOk rrA uA cA ∧ RowsOk rrB uB cB ∧ Levs k M a b (rrA.map RR.xs) (rrB.map RR.xs) n n) (fun ⟨n, gA, cA, uA, rrA, gB, cB, uB, rrB⟩ => [(2, i6_ ((k : Int))), (3, i6_ ((M : Int))), (4, pt_ p4), (5, pt_ p5), (11, sl_ gA rrA.length cA), (12, sl_ gB rrB.length cB), (13, i6_ ((n : Int)))]) (fun ⟨n, gA, cA, uA, rrA, gB, cB, uB, rrB⟩ => Own B w0 (bk_ gA uA 24 :: bk_ gB uB 24 :: bk_ p5 #[i6_ b.n, str b.set, str b.rel] 28 :: bk_ p4 #[i6_ a.n, str a.set, str a.rel] 28 :: ((rowsB 3 rrA ++ (rowsB 3 rrB ++ hs))))) (fun ⟨n, gA, cA, uA, rrA, gB, cB, uB, rrB⟩ => M - n) ((0, p20, 1, _, [⟨r, ((a.n.toNat + 1) ^ k : Nat), (ints R).toArray, R⟩], p25, 1, _, [⟨r_1, ((b.n.toNat + 1) ^ k : Nat), (ints R_1).toArray, R_1⟩])) ⟨by omega, RowsOk.oneI hLr.2.1.1, RowsOk.oneI hLr_1.2.1.1, levs_zero (lev_zero hLr_1.1.ok.nodup hLr_1.1.pre hLr.2.1 hLr_1.2.1 hLr.2.2 hLr_1.2.2) (by have h7 := hLr.1.len; have h8 := hLr_1.1.len; simp only [List.length_nil] at h7; omega)⟩ (Sub.sel [2, 3, 4, 5, 11, 12, 13] rfl) (fun _ h => (Own.pickT (hs := [_, _, _, _, _, _, _, _, _]) (hs' := [_, _, _, _, _, _]) (tl := blks 145 bs__1 ++ hs) h [2, 0, 5, 6, 3, 1] rfl (by decide)).sub (List.Sublist.cons_cons _ (List.Sublist.cons_cons _ (List.Sublist.cons_cons _ (List.Sublist.cons_cons _ (List.Sublist.cons_cons _ (List.Sublist.cons_cons _ (List.sublist_append_right _ _)))))))) ?_
 rintro ⟨n, gA, cA, uA, rrA, gB, cB, uB, rrB⟩ ⟨hn, hA, hB, hLv⟩
 dsimp only
 have hrA : rrA.length = n + 1 := by simpa using hLv.la
 have hrB : rrB.length = n + 1 := by simpa using hLv.lb
 obtain ⟨K, hK, hl⟩ := hLv.at (Nat.le_refl n)
 rw [xs_at, xs_at] at hl
 have hsA := hl.ma (by omega)
 have hsB := hl.mb (by omega)
 refine Wk.seq ?_
 refine Wk.seq ?_
 refine Wk.regionQ ?_
 refine Lq.run 3 rfl ?_
 refine Lq.nil ?_
 refine Kt.sel [2, 3, 4, 5, 11, 12, 13, 28] [_, _, _, _, _, _, _, _] rfl ?_
 refine Wk.cond (b := decide (((n : Int)) < ((M : Int)))) rfl (fun h28 => ?_) (fun h28 => ?_)
 ·
  replace h28 := of_decide_eq_true h28
  refine Wk.skip ?_
  refine Kt.sel [2, 3, 4, 5, 11, 12, 13] [_, _, _, _, _, _, _] rfl ?_
  refine Wk.seq ?_
  refine Wk.block ?_
  refine Wk.seq ?_
  refine Wk.region ?_
  refine Ll.callGet (σ := Nat × Nat × List Bkt) (ok := fun s => TabOk s.2.2 []) (v := fun s => .agg #[.slice (some ⟨s.1, 0, none⟩) 997 997, .slice (some ⟨s.2.1, 0, none⟩) 1 1]) (xs := []) (vs := []) (hs' := fun s => [bk_ gA uA 24, bk_ gB uB 24, bk_ p5 #[i6_ b.n, str b.set, str b.rel] 28, bk_ p4 #[i6_ a.n, str a.set, str a.rel] 28] ++ (tabL 143 3 145 s.1 s.2.1 s.2.2 [] ++ (rowsB 3 rrA ++ (rowsB 3 rrB ++ hs)))) rfl rfl rfl rfl Tryd.call96 rfl (fun w1 hw1 => (l5New_ok _ _ _ w1 hw1).mono fun en w' ⟨q, c, h1, h2⟩ => ⟨(q, c, _), h1, TabOk.new, by dsimp only; exact h2.perm (perm_back _ [bk_ gA uA 24, bk_ gB uB 24, bk_ p5 #[i6_ b.n, str b.set, str b.rel] 28, bk_ p4 #[i6_ a.n, str a.set, str a.rel] 28] _)⟩) fun ⟨q, c, bs0⟩ hT0 => ?_
  show Ll _ _ (Own _ _ (_ :: _ :: _ :: _ :: _ :: _ :: ((blks 145 bs0 ++ (rowsB 3 rrA ++ (rowsB 3 rrB ++ hs)))))) _ _ ((31, .agg #[sl_ q 997 997, sl_ c 1 1]) :: _) _ _ _
  refine Ll.alloc rfl rfl rfl rfl Tryd.zeroValue98 fun p14 hp14 => ?_
  show Ll _ _ (Own _ _ (bk_ p14 #[.slice none 0 0, .slice none 0 0] 98 :: _ :: _ :: _ :: _ :: _ :: _ :: ((blks 145 bs0 ++ (rowsB 3 rrA ++ (rowsB 3 rrB ++ hs)))))) _ _ ((14, pt_ p14) :: _) _ _ _
  refine Ll.storeBox (cs' := #[sl_ q 997 997, sl_ c 1 1]) (hs' := (bk_ p14 #[sl_ q 997 997, sl_ c 1 1] 98 :: _ :: _ :: _ :: _ :: _ :: _ :: ((blks 145 bs0 ++ (rowsB 3 rrA ++ (rowsB 3 rrB ++ hs)))))) 0 rfl rfl rfl rfl rfl (by kernel_rfl : _ = some Tryd.t98) rfl rfl rfl rfl rfl ?_
  refine Ll.nil ?_
  refine Kt.sel [2, 3, 4, 5, 11, 12, 13, 14] [_, _, _, _, _, _, _, _] rfl ?_
  refine Wk.seq ?_
  refine Wk.regionS (S := Own B w0 [bk_ p14 #[sl_ q 997 997, sl_ c 1 1] 98, bk_ gB uB 24, bk_ p5 #[i6_ b.n, str b.set, str b.rel] 28, bk_ p4 #[i6_ a.n, str a.set, str a.rel] 28]) [(0, true), (1, true), (2, true), (3, true), (4, true), (5, true), (7, true), (6, false), (8, false), (9, false), (10, false), (11, true)] Base.mixed (fun _ h => h.drawn) (by kernel_rfl) ?_
  refine Ld.run 1 rfl (pk [0, 2, 3, 4] rfl rfl) ?_
  refine Ld.take rfl rfl rfl rfl rfl (OpQ.loadBox (cs := #[sl_ q 997 997, sl_ c 1 1]) 0 rfl Tryd.isAgg98 rfl rfl Tryd.sizeOf98) (pk [0, 2, 3, 4] rfl rfl) ?_
  refine Ld.take rfl rfl rfl rfl rfl (OpQ.loadBox (cs := #[i6_ a.n, str a.set, str a.rel]) 3 rfl Tryd.isAgg28 rfl rfl Tryd.sizeOf28) (pk [0, 2, 3, 4] rfl rfl) ?_
  refine Ld.run 2 rfl (pk [0, 2, 3, 4] rfl rfl) ?_
  refine Ld.take (v := pf_ gA n) rfl rfl rfl rfl rfl (OpQ.cast (v' := pf_ gA n) (by simp) (OpQ.indexAddr1 (i := (n : Int)) rfl Tryd.runUnderlying68 Tryd.sizeOf24 rfl rfl (by omega) (by omega))) (pk [0, 2, 3, 4] rfl rfl) ?_
  refine Ld.run 1 rfl (pk [0, 2, 3, 4] rfl rfl) ?_
  refine Ld.loud rfl ?_
  refine Ll.op (v := rv (rrA.getD n rd)) rfl rfl rfl (OpQ.loadAt (v := rv (rrA.getD n rd)) 1 rfl Tryd.isAgg24 rfl rfl (hA.cell (i := n) (by omega))) ?_
  refine Ll.nil (Ld.joint (pk [0, 2, 3, 4] rfl rfl) ?_)
  refine Ld.loud rfl ?_
  refine Ll.callGet (σ := Nat × List Int × List Bkt × List (List UInt8)) (ok := fun (g, R', bs', T') => TabTo (([] : List (List UInt8))) bs' T' ((a.n.toNat + 1) ^ k : Nat) ∧ NumOf T' (textS a ((rrA.getD n rd).xs) k) R' ((a.n.toNat + 1) ^ k : Nat) ∧ Onto (([] : List (List UInt8))) T' R' ((a.n.toNat + 1) ^ k : Nat)) (v := fun (g, R', bs', T') => .slice (some ⟨g, 0, none⟩) ((a.n.toNat + 1) ^ k : Nat) ((a.n.toNat + 1) ^ k : Nat)) (xs := [.tmp 33, .tmp 34, .tmp 38, .tmp 39]) (vs := [.agg #[sl_ q 997 997, sl_ c 1 1], vS a, rv (rrA.getD n rd), i6_ ((k : Int))]) (hs' := fun (g, R', bs', T') => (g, .cells (ints R').toArray 3 (0, 0)) :: ([bk_ p14 #[sl_ q 997 997, sl_ c 1 1] 98, bk_ gA uA 24, bk_ gB uB 24, bk_ p5 #[i6_ b.n, str b.set, str b.rel] 28, bk_ p4 #[i6_ a.n, str a.set, str a.rel] 28] ++ (tabL 143 3 145 q c bs' T' ++ (rowsB 3 rrA ++ (rowsB 3 rrB ++ hs))))) rfl rfl rfl rfl Tryd.call110 rfl (fun w1 hw1 => (l7Round_ok B w0 ([bk_ p14 #[sl_ q 997 997, sl_ c 1 1] 98, bk_ gA uA 24, bk_ gB uB 24, bk_ p5 #[i6_ b.n, str b.set, str b.rel] 28, bk_ p4 #[i6_ a.n, str a.set, str a.rel] 28] ++ (rowsB 3 rrA ++ (rowsB 3 rrB ++ hs))) q c bs0 (([] : List (List UInt8))) a (rv (rrA.getD n rd)) ((rrA.getD n rd).xs) k w1 (fun w2 hw2 => Own.ofRows (Own.drop (f := [bk_ p14 #[sl_ q 997 997, sl_ c 1 1] 98, bk_ gA uA 24, bk_ gB uB 24, bk_ p5 #[i6_ b.n, str b.set, str b.rel] 28, bk_ p4 #[i6_ a.n, str a.set, str a.rel] 28]) hw2) hA.ok (i := n) (by omega)) hl.la hsA hT0 hVa h1 hk3 (by simp only [List.length_nil]; omega) (hw1.perm (perm_back [bk_ p14 #[sl_ q 997 997, sl_ c 1 1] 98, bk_ gA uA 24, bk_ gB uB 24, bk_ p5 #[i6_ b.n, str b.set, str b.rel] 28, bk_ p4 #[i6_ a.n, str a.set, str a.rel] 28] (tabL 143 3 145 q c bs0 (([] : List (List UInt8)))) (rowsB 3 rrA ++ (rowsB 3 rrB ++ hs))))).mono fun en w' ⟨g, R', bs', T', h1, h2, h3⟩ => ⟨(g, R', bs', T'), h1.trans (by rw [hl.la]), h2, h3.perm (List.Perm.cons _ (perm_back _ [bk_ p14 #[sl_ q 997 997, sl_ c 1 1] 98, bk_ gA uA 24, bk_ gB uB 24, bk_ p5 #[i6_ b.n, str b.set, str b.rel] 28, bk_ p4 #[i6_ a.n, str a.set, str a.rel] 28] _))⟩) fun ⟨r_2, R_2, bs__2, T__2⟩ hLr_2 => ?_
  dsimp only at hLr_2
  show Ll _ _ (Own _ _ (_ :: _ :: _ :: _ :: _ :: _ :: _ :: _ :: ((blks 145 bs__2 ++ (rowsB 3 rrA ++ (rowsB 3 rrB ++ hs)))))) _ _ ((40, sl_ r_2 (((a.n.toNat + 1) ^ k : Nat)) (((a.n.toNat + 1) ^ k : Nat))) :: _) _ _ _
  refine Ll.nil (Ld.joint (pk [1, 3, 4, 5] rfl rfl) ?_)
  refine Ld.loud rfl ?_
  refine Ll.slice (xs := [.tmp 40]) (vs := [sl_ r_2 (((a.n.toNat + 1) ^ k : Nat)) (((a.n.toNat + 1) ^ k : Nat))]) Base.elem68 rfl rfl rfl rfl rfl rfl (by decide) rfl fun p41 hp41 => ?_
  refine Ll.nil (Ld.joint (pk [2, 4, 5, 6] rfl rfl) ?_)
  refine Ld.loud rfl ?_
  refine Ll.append Base.elem68 3 [sl_ r_2 (((a.n.toNat + 1) ^ k : Nat)) (((a.n.toNat + 1) ^ k : Nat))] rfl rfl rfl rfl rfl rfl rfl hA.size hA.len rfl (fun h => by cases h) (fun w1 hw1 ad had j u hj => by injection had with had; subst had; rw [Addr.add_lit, Nat.zero_add, hw1.cell (i := 0) rfl]; simpa using hj) (by simp [Value.oneCell']) (by omega) fun gq capq curq hgq hcgq hlgq htgq => ?_
  show Ll _ _ (Own _ _ (_ :: _ :: _ :: _ :: _ :: _ :: _ :: _ :: _ :: ((blks 145 bs__2 ++ (rowsB 3 rrA ++ (rowsB 3 rrB ++ hs)))))) _ _ ((42, sl_ gq ((rrA.length + 1)) capq) :: _) _ _ _
  have hA2 := hA.addI (R := R_2) hLr_2.2.1.1 hcgq hlgq htgq
  refine Ll.nil (Ld.joint (pk [2, 4, 5, 6] rfl rfl) ?_)
  refine Ld.run 1 rfl (pk [2, 4, 5, 6] rfl rfl) ?_
  refine Ld.nil ?_
  refine Kt.sel [2, 3, 4, 5, 11, 12, 13, 14] [_, _, _, _, _, _, _, _] rfl ?_
  refine Wk.seq ?_
  refine Wk.regionS (S := Own B w0 [bk_ p41 #[sl_ r_2 (((a.n.toNat + 1) ^ k : Nat)) (((a.n.toNat + 1) ^ k : Nat))] 24, bk_ r_2 ((ints R_2).toArray) 3, bk_ p14 #[sl_ q 997 997, sl_ c 1 1] 98, bk_ gq curq 24, bk_ p5 #[i6_ b.n, str b.set, str b.rel] 28, bk_ p4 #[i6_ a.n, str a.set, str a.rel] 28]) [(0, true), (1, true), (2, true), (3, true), (4, true), (5, true), (7, true), (6, false), (8, false), (9, false), (10, false), (11, true)] Base.mixed (fun _ h => h.drawn) (by kernel_rfl) ?_
  refine Ld.run 1 rfl (pk [0, 1, 2, 3, 5, 6] rfl rfl) ?_
  refine Ld.take rfl rfl rfl rfl rfl (OpQ.loadBox (cs := #[sl_ q 997 997, sl_ c 1 1]) 2 rfl Tryd.isAgg98 rfl rfl Tryd.sizeOf98) (pk [0, 1, 2, 3, 5, 6] rfl rfl) ?_
  refine Ld.take rfl rfl rfl rfl rfl (OpQ.loadBox (cs := #[i6_ b.n, str b.set, str b.rel]) 4 rfl Tryd.isAgg28 rfl rfl Tryd.sizeOf28) (pk [0, 1, 2, 3, 5, 6] rfl rfl) ?_
  refine Ld.run 2 rfl (pk [0, 1, 2, 3, 5, 6] rfl rfl) ?_
  refine Ld.take (v := pf_ gB n) rfl rfl rfl rfl rfl (OpQ.cast (v' := pf_ gB n) (by simp) (OpQ.indexAddr1 (i := (n : Int)) rfl Tryd.runUnderlying68 Tryd.sizeOf24 rfl rfl (by omega) (by omega))) (pk [0, 1, 2, 3, 5, 6] rfl rfl) ?_
  refine Ld.run 1 rfl (pk [0, 1, 2, 3, 5, 6] rfl rfl) ?_
  refine Ld.loud rfl ?_
  refine Ll.op (v := rv (rrB.getD n rd)) rfl rfl rfl (OpQ.loadAt (v := rv (rrB.getD n rd)) 4 rfl Tryd.isAgg24 rfl rfl (hB.cell (i := n) (by omega))) ?_
  refine Ll.nil (Ld.joint (pk [0, 1, 2, 3, 5, 6] rfl rfl) ?_)
  refine Ld.loud rfl ?_
  refine Ll.callGet (σ := Nat × List Int × List Bkt × List (List UInt8)) (ok := fun (g, R', bs', T') => TabTo T__2 bs' T' ((b.n.toNat + 1) ^ k : Nat) ∧ NumOf T' (textS b ((rrB.getD n rd).xs) k) R' ((b.n.toNat + 1) ^ k : Nat) ∧ Onto T__2 T' R' ((b.n.toNat + 1) ^ k : Nat)) (v := fun (g, R', bs', T') => .slice (some ⟨g, 0, none⟩) ((b.n.toNat + 1) ^ k : Nat) ((b.n.toNat + 1) ^ k : Nat)) (xs := [.tmp 44, .tmp 45, .tmp 49, .tmp 50]) (vs := [.agg #[sl_ q 997 997, sl_ c 1 1], vS b, rv (rrB.getD n rd), i6_ ((k : Int))]) (hs' := fun (g, R', bs', T') => (g, .cells (ints R').toArray 3 (0, 0)) :: ([bk_ p41 #[sl_ r_2 (((a.n.toNat + 1) ^ k : Nat)) (((a.n.toNat + 1) ^ k : Nat))] 24, bk_ r_2 ((ints R_2).toArray) 3, bk_ p14 #[sl_ q 997 997, sl_ c 1 1] 98, bk_ gq curq 24, bk_ gB uB 24, bk_ p5 #[i6_ b.n, str b.set, str b.rel] 28, bk_ p4 #[i6_ a.n, str a.set, str a.rel] 28] ++ (tabL 143 3 145 q c bs' T' ++ (rowsB 3 rrA ++ (rowsB 3 rrB ++ hs))))) rfl rfl rfl rfl Tryd.call110 rfl (fun w1 hw1 => (l7Round_ok B w0 ([bk_ p41 #[sl_ r_2 (((a.n.toNat + 1) ^ k : Nat)) (((a.n.toNat + 1) ^ k : Nat))] 24, bk_ r_2 ((ints R_2).toArray) 3, bk_ p14 #[sl_ q 997 997, sl_ c 1 1] 98, bk_ gq curq 24, bk_ gB uB 24, bk_ p5 #[i6_ b.n, str b.set, str b.rel] 28, bk_ p4 #[i6_ a.n, str a.set, str a.rel] 28] ++ (rowsB 3 rrA ++ (rowsB 3 rrB ++ hs))) q c bs__2 T__2 b (rv (rrB.getD n rd)) ((rrB.getD n rd).xs) k w1 (fun w2 hw2 => Own.ofRows (Own.drop (f := rowsB 3 rrA) (Own.drop (f := [bk_ p41 #[sl_ r_2 (((a.n.toNat + 1) ^ k : Nat)) (((a.n.toNat + 1) ^ k : Nat))] 24, bk_ r_2 ((ints R_2).toArray) 3, bk_ p14 #[sl_ q 997 997, sl_ c 1 1] 98, bk_ gq curq 24, bk_ gB uB 24, bk_ p5 #[i6_ b.n, str b.set, str b.rel] 28, bk_ p4 #[i6_ a.n, str a.set, str a.rel] 28]) hw2)) hB.ok (i := n) (by omega)) hl.lb hsB hLr_2.1.ok hVb h1 hk3 (by have := hLr_2.1.len; simp only [List.length_nil] at this; omega) (hw1.perm (perm_back [bk_ p41 #[sl_ r_2 (((a.n.toNat + 1) ^ k : Nat)) (((a.n.toNat + 1) ^ k : Nat))] 24, bk_ r_2 ((ints R_2).toArray) 3, bk_ p14 #[sl_ q 997 997, sl_ c 1 1] 98, bk_ gq curq 24, bk_ gB uB 24, bk_ p5 #[i6_ b.n, str b.set, str b.rel] 28, bk_ p4 #[i6_ a.n, str a.set, str a.rel] 28] (tabL 143 3 145 q c bs__2 T__2) (rowsB 3 rrA ++ (rowsB 3 rrB ++ hs))))).mono fun en w' ⟨g, R', bs', T', h1, h2, h3⟩ => ⟨(g, R', bs', T'), h1.trans (by rw [hl.lb]), h2, h3.perm (List.Perm.cons _ (perm_back _ [bk_ p41 #[sl_ r_2 (((a.n.toNat + 1) ^ k : Nat)) (((a.n.toNat + 1) ^ k : Nat))] 24, bk_ r_2 ((ints R_2).toArray) 3, bk_ p14 #[sl_ q 997 997, sl_ c 1 1] 98, bk_ gq curq 24, bk_ gB uB 24, bk_ p5 #[i6_ b.n, str b.set, str b.rel] 28, bk_ p4 #[i6_ a.n, str a.set, str a.rel] 28] _))⟩) fun ⟨r_3, R_3, bs__3, T__3⟩ hLr_3 => ?_
  dsimp only at hLr_3
  show Ll _ _ (Own _ _ (_ :: _ :: _ :: _ :: _ :: _ :: _ :: _ :: _ :: _ :: ((blks 145 bs__3 ++ (rowsB 3 rrA ++ (rowsB 3 rrB ++ hs)))))) _ _ ((51, sl_ r_3 (((b.n.toNat + 1) ^ k : Nat)) (((b.n.toNat + 1) ^ k : Nat))) :: _) _ _ _
  refine Ll.nil (Ld.joint (pk [1, 2, 3, 4, 6, 7] rfl rfl) ?_)
  refine Ld.loud rfl ?_
  refine Ll.slice (xs := [.tmp 51]) (vs := [sl_ r_3 (((b.n.toNat + 1) ^ k : Nat)) (((b.n.toNat + 1) ^ k : Nat))]) Base.elem68 rfl rfl rfl rfl rfl rfl (by decide) rfl fun p52 hp52 => ?_
  refine Ll.nil (Ld.joint (pk [2, 3, 4, 5, 7, 8] rfl rfl) ?_)
  refine Ld.loud rfl ?_
  refine Ll.append Base.elem68 6 [sl_ r_3 (((b.n.toNat + 1) ^ k : Nat)) (((b.n.toNat + 1) ^ k : Nat))] rfl rfl rfl rfl rfl rfl rfl hB.size hB.len rfl (fun h => by cases h) (fun w1 hw1 ad had j u hj => by injection had with had; subst had; rw [Addr.add_lit, Nat.zero_add, hw1.cell (i := 0) rfl]; simpa using hj) (by simp [Value.oneCell']) (by omega) fun gq_1 capq_1 curq_1 hgq_1 hcgq_1 hlgq_1 htgq_1 => ?_
  show Ll _ _ (Own _ _ (_ :: _ :: _ :: _ :: _ :: _ :: _ :: _ :: _ :: _ :: _ :: ((blks 145 bs__3 ++ (rowsB 3 rrA ++ (rowsB 3 rrB ++ hs)))))) _ _ ((53, sl_ gq_1 ((rrB.length + 1)) capq_1) :: _) _ _ _
  have hB2 := hB.addI (R := R_3) hLr_3.2.1.1 hcgq_1 hlgq_1 htgq_1
  have hlv := lev_step hl hLr_3.1.ok.nodup hLr_3.1.pre hLr_2.2.1 hLr_3.2.1 hLr_2.2.2 hLr_3.2.2
  have hbA := hLr_2.1.len
  have hbB := hLr_3.1.len
  simp only [List.length_nil] at hbA
  have hLv2 : Levs k M a b ((rrA ++ [(RR.mk r_2 ((a.n.toNat + 1) ^ k : Nat) (ints R_2).toArray R_2)]).map RR.xs) ((rrB ++ [(RR.mk r_3 ((b.n.toNat + 1) ^ k : Nat) (ints R_3).toArray R_3)]).map RR.xs) (n + 1) n := by
   rw [List.map_append, List.map_append]; exact levs_more hLv hlv (by omega)
  have hlA := hl.la
  have hlB := hl.lb
  have hmA := hlv.la
  have hmB := hlv.lb
  refine Ll.nil (Ld.joint (pk [2, 3, 4, 5, 7, 8] rfl rfl) ?_)
  refine Ld.run 1 rfl (pk [2, 3, 4, 5, 7, 8] rfl rfl) ?_
  refine Ld.nil ?_
  refine Kt.sel [2, 3, 4, 5, 11, 12, 13] [_, _, _, _, _, _, _] rfl ?_
  refine Wk.seq ?_
  refine Wk.regionD Base.mixed (fun _ h => h.drawn) (by kernel_rfl) ?_
  refine Lq.run 3 rfl ?_
  refine Lq.bool fun b56 hg56 => ?_
  cases b56
  ·
   replace hg56 := of_decide_eq_false hg56
   have hgo := levs_go hLv2 (fun hM4 => by
    first | omega | (rw [xs_at, xs_at, xs_at, xs_at, getA1 (by omega), getA1 (by omega), getA2 (by omega), getA2 (by omega)]; exact hg56))
   skip
   refine Lq.pass rfl rfl rfl ?_
   refine Lq.pass rfl rfl rfl ?_
   refine Lq.pass rfl rfl rfl ?_
   refine Lq.pass rfl rfl rfl ?_
   refine Lq.pass rfl rfl rfl ?_
   refine Lq.pass rfl rfl rfl ?_
   refine Lq.pass rfl rfl rfl ?_
   refine Lq.pass rfl rfl rfl ?_
   refine Lq.pass rfl rfl rfl ?_
   refine Lq.pass rfl rfl rfl ?_
   refine Lq.pass rfl rfl rfl ?_
   refine Lq.pass rfl rfl rfl ?_
   refine Lq.pass rfl rfl rfl ?_
   refine Lq.pass rfl rfl rfl ?_
   refine Lq.pass rfl rfl rfl ?_
   refine Lq.pass rfl rfl rfl ?_
   refine Lq.pass rfl rfl rfl ?_
   refine Lq.pass rfl rfl rfl ?_
   refine Lq.pass rfl rfl rfl ?_
   refine Lq.pass rfl rfl rfl ?_
   refine Lq.pass rfl rfl rfl ?_
   refine Lq.run 1 rfl ?_
   refine Lq.nil ?_
   refine Kt.sel [2, 3, 4, 5, 11, 12, 13, 78] [_, _, _, _, _, _, _, _] rfl ?_
   refine Wk.condF rfl ?_
   refine Wk.skip ?_
   refine Kt.sel [2, 3, 4, 5, 11, 12, 13] [_, _, _, _, _, _, _] rfl ?_
   refine Wk.regionQ ?_
   refine Lq.run 1 rfl ?_
   refine Lq.op rfl rfl rfl (OpQ.add rfl rfl rfl (by omega) (by omega)) ?_
   refine Lq.run 1 rfl ?_
   refine Lq.nil ?_
   refine Kt.again ((n + 1, gq, capq, curq, rrA ++ [(RR.mk r_2 ((a.n.toNat + 1) ^ k : Nat) (ints R_2).toArray R_2)], gq_1, capq_1, curq_1, rrB ++ [(RR.mk r_3 ((b.n.toNat + 1) ^ k : Nat) (ints R_3).toArray R_3)])) ⟨by omega, hA2, hB2, hgo⟩ (by omega) (Sub.cons rfl (Sub.cons rfl (Sub.cons rfl (Sub.cons rfl (Sub.cons (by rw [List.length_append]; rfl) (Sub.cons (by rw [List.length_append]; rfl) (Sub.sel [13] rfl))))))) (fun _ h => rows_more2 (x := (RR.mk r_2 ((a.n.toNat + 1) ^ k : Nat) (ints R_2).toArray R_2)) (y := (RR.mk r_3 ((b.n.toNat + 1) ^ k : Nat) (ints R_3).toArray R_3)) (f := [_, _, _, _]) ((Own.pickT (hs := [_, _, _, _, _, _, _, _, _, _, _]) (hs' := [_, _, _, _, _, _]) (tl := blks 145 bs__3 ++ (rowsB 3 rrA ++ (rowsB 3 rrB ++ hs))) h [5, 6, 7, 8, 3, 1] rfl (by decide)).sub (List.Sublist.cons_cons _ (List.Sublist.cons_cons _ (List.Sublist.cons_cons _ (List.Sublist.cons_cons _ (List.Sublist.cons_cons _ (List.Sublist.cons_cons _ (List.sublist_append_right _ _)))))))))
  ·
   replace hg56 := of_decide_eq_true hg56
   refine Lq.run 2 rfl ?_
   refine Lq.op (v := pf_ gq n) rfl rfl rfl (OpQ.cast (v' := pf_ gq n) (by simp) (OpQ.indexAddr1 (i := (n : Int)) rfl Tryd.runUnderlying68 Tryd.sizeOf24 rfl rfl (by omega) (by omega))) ?_
   refine Lq.op (v := rv (rrA.getD n rd)) rfl rfl rfl (OpQ.loadAt (v := rv (rrA.getD n rd)) 5 rfl Tryd.isAgg24 rfl rfl (hA2.old (i := n) (by omega))) ?_
   refine Lq.run 2 rfl ?_
   refine Lq.op (v := pf_ gq_1 n) rfl rfl rfl (OpQ.cast (v' := pf_ gq_1 n) (by simp) (OpQ.indexAddr1 (i := (n : Int)) rfl Tryd.runUnderlying68 Tryd.sizeOf24 rfl rfl (by omega) (by omega))) ?_
   refine Lq.op (v := rv (rrB.getD n rd)) rfl rfl rfl (OpQ.loadAt (v := rv (rrB.getD n rd)) 6 rfl Tryd.isAgg24 rfl rfl (hB2.old (i := n) (by omega))) ?_
   refine Lq.op (v := i6_ (kindsP ((rrA.getD n rd).xs ++ (rrB.getD n rd).xs))) rfl rfl rfl (OpQ.call rfl Tryd.call111 rfl Own.stable (fun w1 hw1 => l7Kinds_ok (rv (rrA.getD n rd)) (rv (rrB.getD n rd)) ((rrA.getD n rd).xs) ((rrB.getD n rd).xs) w1 (Own.ofRows (Own.drop (f := bk_ p52 #[sl_ r_3 (((b.n.toNat + 1) ^ k : Nat)) (((b.n.toNat + 1) ^ k : Nat))] 24 :: bk_ r_3 ((ints R_3).toArray) 3 :: bk_ p41 #[sl_ r_2 (((a.n.toNat + 1) ^ k : Nat)) (((a.n.toNat + 1) ^ k : Nat))] 24 :: bk_ r_2 ((ints R_2).toArray) 3 :: bk_ p14 #[sl_ q 997 997, sl_ c 1 1] 98 :: bk_ gq curq 24 :: bk_ gq_1 curq_1 24 :: bk_ p5 #[i6_ b.n, str b.set, str b.rel] 28 :: bk_ p4 #[i6_ a.n, str a.set, str a.rel] 28 :: bk_ q ((bs__3.map bktV).toArray) 143 :: bk_ c #[i6_ ((T__3.length : Int))] 3 :: blks 145 bs__3) hw1) hA.ok (i := n) (by omega)) (Own.ofRows (Own.drop (f := rowsB 3 rrA) (Own.drop (f := bk_ p52 #[sl_ r_3 (((b.n.toNat + 1) ^ k : Nat)) (((b.n.toNat + 1) ^ k : Nat))] 24 :: bk_ r_3 ((ints R_3).toArray) 3 :: bk_ p41 #[sl_ r_2 (((a.n.toNat + 1) ^ k : Nat)) (((a.n.toNat + 1) ^ k : Nat))] 24 :: bk_ r_2 ((ints R_2).toArray) 3 :: bk_ p14 #[sl_ q 997 997, sl_ c 1 1] 98 :: bk_ gq curq 24 :: bk_ gq_1 curq_1 24 :: bk_ p5 #[i6_ b.n, str b.set, str b.rel] 28 :: bk_ p4 #[i6_ a.n, str a.set, str a.rel] 28 :: bk_ q ((bs__3.map bktV).toArray) 143 :: bk_ c #[i6_ ((T__3.length : Int))] 3 :: blks 145 bs__3) hw1)) hB.ok (i := n) (by omega)) (by omega) (by omega) (hl.sm (by omega)))) ?_
   refine Lq.run 2 rfl ?_
   refine Lq.op rfl rfl rfl (OpQ.add rfl rfl rfl (by omega) (by omega)) ?_
   refine Lq.op (v := pf_ gq ((n + 1))) rfl rfl rfl (OpQ.cast (v' := pf_ gq ((n + 1))) (by simp) (OpQ.indexAddr1 (i := ((n + 1) : Int)) rfl Tryd.runUnderlying68 Tryd.sizeOf24 rfl rfl (by omega) (by omega))) ?_
   refine Lq.op (v := sl_ r_2 (((a.n.toNat + 1) ^ k : Nat)) (((a.n.toNat + 1) ^ k : Nat))) rfl rfl rfl (OpQ.loadAt (v := sl_ r_2 (((a.n.toNat + 1) ^ k : Nat)) (((a.n.toNat + 1) ^ k : Nat))) 5 rfl Tryd.isAgg24 rfl rfl (hA2.newI (i := n + 1) hLr_2.2.1.1 (by omega))) ?_
   refine Lq.run 2 rfl ?_
   refine Lq.op rfl rfl rfl (OpQ.add rfl rfl rfl (by omega) (by omega)) ?_
   refine Lq.op (v := pf_ gq_1 ((n + 1))) rfl rfl rfl (OpQ.cast (v' := pf_ gq_1 ((n + 1))) (by simp) (OpQ.indexAddr1 (i := ((n + 1) : Int)) rfl Tryd.runUnderlying68 Tryd.sizeOf24 rfl rfl (by omega) (by omega))) ?_
   refine Lq.op (v := sl_ r_3 (((b.n.toNat + 1) ^ k : Nat)) (((b.n.toNat + 1) ^ k : Nat))) rfl rfl rfl (OpQ.loadAt (v := sl_ r_3 (((b.n.toNat + 1) ^ k : Nat)) (((b.n.toNat + 1) ^ k : Nat))) 6 rfl Tryd.isAgg24 rfl rfl (hB2.newI (i := n + 1) hLr_3.2.1.1 (by omega))) ?_
   refine Lq.op (v := i6_ (kindsP (R_2 ++ R_3))) rfl rfl rfl (OpQ.call rfl Tryd.call111 rfl Own.stable (fun w1 hw1 => l7Kinds_ok (sl_ r_2 (((a.n.toNat + 1) ^ k : Nat)) (((a.n.toNat + 1) ^ k : Nat))) (sl_ r_3 (((b.n.toNat + 1) ^ k : Nat)) (((b.n.toNat + 1) ^ k : Nat))) R_2 R_3 w1 (Own.intsR hw1 (i := 3) rfl (by omega) (by omega)) (Own.intsR hw1 (i := 1) rfl (by omega) (by omega)) (by omega) (by omega) (hlv.sm (by omega)))) ?_
   refine Lq.run 2 rfl ?_
   refine Lq.nil ?_
   refine Kt.sel [2, 3, 4, 5, 11, 12, 13, 78] [_, _, _, _, _, _, _, _] rfl ?_
   refine Wk.cond (b := decide ((kindsP ((rrA.getD n rd).xs ++ (rrB.getD n rd).xs)) = (kindsP (R_2 ++ R_3)))) rfl (fun h78 => ?_) (fun h78 => ?_)
   ·
    replace h78 := of_decide_eq_true h78
    have hst := levs_stop hLv2 (by
     rw [xs_at, xs_at, xs_at, xs_at, getA1 (by omega), getA1 (by omega), getA2 (by omega), getA2 (by omega)]
     exact h78)
    refine Wk.seq ?_
    refine Wk.regionQ ?_
    refine Lq.run 4 rfl ?_
    refine Lq.nil ?_
    refine Kt.sel [8, 9] [_, _] rfl ?_
    refine Wk.ret (Kt.end2 rfl rfl rfl fun w' hw => ?_)
    -- ret 0: sl_ gq ((rrA.length + 1)) capq; sl_ gq_1 ((rrB.length + 1)) capq_1
    exact ⟨gq, capq, curq, rrA ++ [(RR.mk r_2 ((a.n.toNat + 1) ^ k : Nat) (ints R_2).toArray R_2)], gq_1, capq_1, curq_1, rrB ++ [(RR.mk r_3 ((b.n.toNat + 1) ^ k : Nat) (ints R_3).toArray R_3)], n + 1, by rw [List.length_append, List.length_append]; rfl, ⟨hA2, hB2, hLv2, .inr ⟨by omega, by omega, hst⟩, by omega⟩, rows_more2 (x := (RR.mk r_2 ((a.n.toNat + 1) ^ k : Nat) (ints R_2).toArray R_2)) (y := (RR.mk r_3 ((b.n.toNat + 1) ^ k : Nat) (ints R_3).toArray R_3)) (f := [_, _]) ((Own.pickT (hs := [_, _, _, _, _, _, _, _, _, _, _]) (hs' := [_, _, _, _]) (tl := blks 145 bs__3 ++ (rowsB 3 rrA ++ (rowsB 3 rrB ++ hs))) hw [5, 6, 3, 1] rfl (by decide)).sub (List.Sublist.cons_cons _ (List.Sublist.cons_cons _ (List.Sublist.cons_cons _ (List.Sublist.cons_cons _ (List.sublist_append_right _ _))))))⟩
   ·
    replace h78 := of_decide_eq_false h78
    have hgo := levs_go hLv2 (fun hM4 => by
     first | omega | (rw [xs_at, xs_at, xs_at, xs_at, getA1 (by omega), getA1 (by omega), getA2 (by omega), getA2 (by omega)]; exact h78))
    refine Wk.skip ?_
    refine Kt.sel [2, 3, 4, 5, 11, 12, 13] [_, _, _, _, _, _, _] rfl ?_
    refine Wk.regionQ ?_
    refine Lq.run 1 rfl ?_
    refine Lq.op rfl rfl rfl (OpQ.add rfl rfl rfl (by omega) (by omega)) ?_
    refine Lq.run 1 rfl ?_
    refine Lq.nil ?_
    refine Kt.again ((n + 1, gq, capq, curq, rrA ++ [(RR.mk r_2 ((a.n.toNat + 1) ^ k : Nat) (ints R_2).toArray R_2)], gq_1, capq_1, curq_1, rrB ++ [(RR.mk r_3 ((b.n.toNat + 1) ^ k : Nat) (ints R_3).toArray R_3)])) ⟨by omega, hA2, hB2, hgo⟩ (by omega) (Sub.cons rfl (Sub.cons rfl (Sub.cons rfl (Sub.cons rfl (Sub.cons (by rw [List.length_append]; rfl) (Sub.cons (by rw [List.length_append]; rfl) (Sub.sel [13] rfl))))))) (fun _ h => rows_more2 (x := (RR.mk r_2 ((a.n.toNat + 1) ^ k : Nat) (ints R_2).toArray R_2)) (y := (RR.mk r_3 ((b.n.toNat + 1) ^ k : Nat) (ints R_3).toArray R_3)) (f := [_, _, _, _]) ((Own.pickT (hs := [_, _, _, _, _, _, _, _, _, _, _]) (hs' := [_, _, _, _, _, _]) (tl := blks 145 bs__3 ++ (rowsB 3 rrA ++ (rowsB 3 rrB ++ hs))) h [5, 6, 7, 8, 3, 1] rfl (by decide)).sub (List.Sublist.cons_cons _ (List.Sublist.cons_cons _ (List.Sublist.cons_cons _ (List.Sublist.cons_cons _ (List.Sublist.cons_cons _ (List.Sublist.cons_cons _ (List.sublist_append_right _ _)))))))))
 ·
  replace h28 := of_decide_eq_false h28
  refine Wk.exit rfl ?_
  refine Kt.sel [11, 12] [_, _] rfl ?_
  refine Wk.seq ?_
  refine Wk.regionQ ?_
  refine Lq.run 4 rfl ?_
  refine Lq.nil ?_
  refine Kt.sel [8, 9] [_, _] rfl ?_
  refine Wk.ret (Kt.end2 rfl rfl rfl fun w' hw => ?_)
  -- ret 1: sl_ gA rrA.length cA; sl_ gB rrB.length cB
  obtain rfl : n = M := by omega
  exact ⟨gA, cA, uA, rrA, gB, cB, uB, rrB, n, rfl, ⟨hA, hB, hLv.less (by omega), .inl rfl, by omega⟩, hw.sub (List.Sublist.cons_cons _ (List.Sublist.cons_cons _ (List.Sublist.cons _ (List.Sublist.cons _ (List.Sublist.refl _)))))⟩

set_option maxHeartbeats 400000 in
/-- spec.l7Wins -/
theorem l7Wins_ok (a b : St) (va vb : Value) (xs ys : List Int) (M : Nat) (w : World) (hva : Ints w va xs) (hvb : Ints w vb ys) (hr : readyB a xs b ys = true) (hM : M ≤ 4 ∨ M = 2000) :
    Calls Tryd.prog 55 [vS a, va, vS b, vb, i6_ ((M : Int))].toArray w fun en w' => en = .returned (.bool (pWinB M a xs b ys)) ∧ Below w.heap.size w w' := by
 refine fnStart (n := 45) (e := [(0, vS a), (1, va), (2, vS b), (3, vb), (4, i6_ ((M : Int)))]) Tryd.func55 rfl rfl rfl rfl Ends.both ?_
 obtain ⟨hVa, hVb, h1, h3, hlen, hx, hy⟩ := ready_peb hr
 have ha := validB_fine hVa
 have hb := validB_fine hVb
 have hix := idxP_lt hx
 have hiy := idxP_lt hy
 refine Wk.seq ?_
 refine Wk.region ?_
 refine Ll.box (v := vS a) rfl rfl rfl rfl rfl fun p5 hp5 => ?_
 show Ll _ _ (Own _ _ [_]) _ _ ((5, pt_ p5) :: _) _ _ _
 refine Ll.box (v := vS b) rfl rfl rfl rfl rfl fun p7 hp7 => ?_
 show Ll _ _ (Own _ _ [_, _]) _ _ ((7, pt_ p7) :: _) _ _ _
 refine Ll.run 1 rfl ?_
 refine Ll.nil ?_
 refine Kt.sel [1, 3, 4, 5, 7] [_, _, _, _, _] rfl ?_
 refine Wk.seq ?_
 refine Wk.region ?_
 refine Ll.op rfl rfl rfl (OpQ.loadBox (cs := #[i6_ a.n, str a.set, str a.rel]) 1 rfl Tryd.isAgg28 rfl rfl Tryd.sizeOf28) ?_
 refine Ll.op rfl rfl rfl (OpQ.loadBox (cs := #[i6_ b.n, str b.set, str b.rel]) 0 rfl Tryd.isAgg28 rfl rfl Tryd.sizeOf28) ?_
 refine Ll.run 1 rfl ?_
 refine Ll.op (v := i6_ ((xs.length : Int))) rfl rfl rfl (OpQ.lenRow rfl Tryd.runUnderlying24 rfl (ints_length _) (fun w1 hw1 => Row.own hva hw1)) ?_
 refine Ll.run 1 rfl ?_
 refine Ll.callGet (σ := Nat × Nat × Array Value × List RR × Nat × Nat × Array Value × List RR × Nat) (ok := fun (gA, cA, uA, rrA, gB, cB, uB, rrB, m) => RowsOk rrA uA cA ∧ RowsOk rrB uB cB ∧ Levs xs.length M a b (rrA.map RR.xs) (rrB.map RR.xs) m (m - 1) ∧ LevEnds xs.length M a b m ∧ m ≤ 2000) (v := fun (gA, cA, uA, rrA, gB, cB, uB, rrB, m) => .tuple #[.slice (some ⟨gA, 0, none⟩) rrA.length cA, .slice (some ⟨gB, 0, none⟩) rrB.length cB]) (xs := [.tmp 14, .tmp 15, .tmp 17, .tmp 18]) (vs := [vS a, vS b, i6_ ((xs.length : Int)), i6_ ((M : Int))]) (hs' := fun (gA, cA, uA, rrA, gB, cB, uB, rrB, m) => [bk_ p7 #[i6_ b.n, str b.set, str b.rel] 28, bk_ p5 #[i6_ a.n, str a.set, str a.rel] 28] ++ ((gA, .cells uA 24 (0, 0)) :: (gB, .cells uB 24 (0, 0)) :: (rowsB 3 rrA ++ (rowsB 3 rrB ++ [])))) rfl rfl rfl rfl Tryd.call59 rfl (fun w1 hw1 => (l7Levels_ok _ _ _ a b xs.length M w1 hVa hVb h1 h3 (by omega) hw1).mono fun en w' ⟨gA, cA, uA, rrA, gB, cB, uB, rrB, m, h1, h2, h3⟩ => ⟨(gA, cA, uA, rrA, gB, cB, uB, rrB, m), h1, h2, h3.perm (rows_behind2 _ _ _ _ _)⟩) fun ⟨gA, cA, uA, rrA, gB, cB, uB, rrB, m⟩ ⟨hA, hB, hLv, hEn, hm2⟩ => ?_
 have hrA : rrA.length = m + 1 := by simpa using hLv.la
 have hrB : rrB.length = m + 1 := by simpa using hLv.lb
 obtain ⟨K, hK, hl⟩ := hLv.at (Nat.le_refl m)
 rw [xs_at, xs_at] at hl
 have hlA := hl.la
 have hlB := hl.lb
 show Ll _ _ (Own _ _ (_ :: _ :: _ :: _ :: ((rowsB 3 rrA ++ (rowsB 3 rrB ++ []))))) _ _ ((19, .tuple #[sl_ gA rrA.length cA, sl_ gB rrB.length cB]) :: _) _ _ _
 refine Ll.run 1 rfl ?_
 refine Ll.op (v := sl_ gA rrA.length cA) rfl rfl rfl (OpQ.extract rfl rfl rfl) ?_
 refine Ll.op (v := sl_ gB rrB.length cB) rfl rfl rfl (OpQ.extract rfl rfl rfl) ?_
 refine Ll.run 2 rfl ?_
 refine Ll.nil ?_
 refine Kt.sel [1, 3, 5, 7, 11, 12] [_, _, _, _, _, _] rfl ?_
 refine Wk.seq ?_
 refine Wk.regionD Base.mixed (fun _ h => h.drawn) (by kernel_rfl) ?_
 refine Lq.run 2 rfl ?_
 refine Lq.op rfl rfl rfl (OpQ.lenS rfl Tryd.runUnderlying68 rfl) ?_
 refine Lq.op (v := i6_ ((m : Int))) rfl rfl rfl (OpQ.cast (by congr 1; omega) (OpQ.sub rfl rfl rfl (by omega) (by omega))) ?_
 refine Lq.op (v := pf_ gA m) rfl rfl rfl (OpQ.cast (v' := pf_ gA m) (by simp) (OpQ.indexAddr1 (i := (m : Int)) rfl Tryd.runUnderlying68 Tryd.sizeOf24 rfl rfl (by omega) (by omega))) ?_
 refine Lq.op (v := rv (rrA.getD m rd)) rfl rfl rfl (OpQ.loadAt (v := rv (rrA.getD m rd)) 2 rfl Tryd.isAgg24 rfl rfl (hA.cell (i := m) (by omega))) ?_
 refine Lq.op rfl rfl rfl (OpQ.loadBox (cs := #[i6_ a.n, str a.set, str a.rel]) 1 rfl Tryd.isAgg28 rfl rfl Tryd.sizeOf28) ?_
 refine Lq.run 1 rfl ?_
 refine Lq.op (v := i6_ (((idxP a.n.toNat xs : Nat) : Int))) rfl rfl rfl (OpQ.call rfl Tryd.call63 rfl Own.stable (fun w1 hw1 => l7Index_ok a va xs w1 ha (Row.own hva hw1) hx h3)) ?_
 refine Lq.op (v := .pointer (some (sAt (rv (rrA.getD m rd)) (((idxP a.n.toNat xs : Nat) : Int))))) rfl rfl rfl (OpQ.atRow rfl Tryd.runUnderlying24 Tryd.sizeOf3 rfl rfl (by omega) (by rw [ints_length]; omega) (fun w1 hw1 => Own.ofRows (Own.drop (f := [bk_ p7 #[i6_ b.n, str b.set, str b.rel] 28, bk_ p5 #[i6_ a.n, str a.set, str a.rel] 28, bk_ gA uA 24, bk_ gB uB 24]) hw1) hA.ok (i := m) (by omega))) ?_
 refine Lq.op (v := i6_ (numP a.n.toNat (rrA.getD m rd).xs xs)) rfl rfl rfl (OpQ.cast rfl (OpQ.load1 rfl Tryd.isAgg3 rfl (fun w1 hw1 => Ints.cell (Own.ofRows (Own.drop (f := [bk_ p7 #[i6_ b.n, str b.set, str b.rel] 28, bk_ p5 #[i6_ a.n, str a.set, str a.rel] 28, bk_ gA uA 24, bk_ gB uB 24]) hw1) hA.ok (i := m) (by omega)) (by omega) (by omega)))) ?_
 refine Lq.run 2 rfl ?_
 refine Lq.op rfl rfl rfl (OpQ.lenS rfl Tryd.runUnderlying68 rfl) ?_
 refine Lq.op (v := i6_ ((m : Int))) rfl rfl rfl (OpQ.cast (by congr 1; omega) (OpQ.sub rfl rfl rfl (by omega) (by omega))) ?_
 refine Lq.op (v := pf_ gB m) rfl rfl rfl (OpQ.cast (v' := pf_ gB m) (by simp) (OpQ.indexAddr1 (i := (m : Int)) rfl Tryd.runUnderlying68 Tryd.sizeOf24 rfl rfl (by omega) (by omega))) ?_
 refine Lq.op (v := rv (rrB.getD m rd)) rfl rfl rfl (OpQ.loadAt (v := rv (rrB.getD m rd)) 3 rfl Tryd.isAgg24 rfl rfl (hB.cell (i := m) (by omega))) ?_
 refine Lq.op rfl rfl rfl (OpQ.loadBox (cs := #[i6_ b.n, str b.set, str b.rel]) 0 rfl Tryd.isAgg28 rfl rfl Tryd.sizeOf28) ?_
 refine Lq.run 1 rfl ?_
 refine Lq.op (v := i6_ (((idxP b.n.toNat ys : Nat) : Int))) rfl rfl rfl (OpQ.call rfl Tryd.call63 rfl Own.stable (fun w1 hw1 => l7Index_ok b vb ys w1 hb (Row.own hvb hw1) (by rw [← hlen]; exact hy) (by omega))) ?_
 refine Lq.op (v := .pointer (some (sAt (rv (rrB.getD m rd)) (((idxP b.n.toNat ys : Nat) : Int))))) rfl rfl rfl (OpQ.atRow rfl Tryd.runUnderlying24 Tryd.sizeOf3 rfl rfl (by omega) (by rw [ints_length]; omega) (fun w1 hw1 => Own.ofRows (Own.drop (f := rowsB 3 rrA) (Own.drop (f := [bk_ p7 #[i6_ b.n, str b.set, str b.rel] 28, bk_ p5 #[i6_ a.n, str a.set, str a.rel] 28, bk_ gA uA 24, bk_ gB uB 24]) hw1)) hB.ok (i := m) (by omega))) ?_
 refine Lq.op (v := i6_ (numP b.n.toNat (rrB.getD m rd).xs ys)) rfl rfl rfl (OpQ.cast rfl (OpQ.load1 rfl Tryd.isAgg3 rfl (fun w1 hw1 => Ints.cell (Own.ofRows (Own.drop (f := rowsB 3 rrA) (Own.drop (f := [bk_ p7 #[i6_ b.n, str b.set, str b.rel] 28, bk_ p5 #[i6_ a.n, str a.set, str a.rel] 28, bk_ gA uA 24, bk_ gB uB 24]) hw1)) hB.ok (i := m) (by omega)) (by omega) (by omega)))) ?_
 refine Lq.run 2 rfl ?_
 refine Lq.nil ?_
 refine Kt.sel [10] [_] rfl ?_
 refine Wk.ret (Kt.end1 rfl rfl fun w' hw => ?_)
 -- ret 0: bo_ (decide ((numP a.n.toNat (rrA.getD m rd).xs xs) = (numP b.n.toNat (rrB.getD m rd).xs ys)))
 have hE := levs_end hLv hEn hM hx hy
 rw [xs_at, xs_at] at hE
 exact ⟨ret_b hE, hw.below⟩

theorem l7Wins_at (a b : St) (va vb : Value) (xs ys : List Int) (t : Int) (w : World) (hva : Ints w va xs) (hvb : Ints w vb ys) (hr : readyB a xs b ys = true) (h0 : 0 ≤ t) (hM : t ≤ 4 ∨ t = 2000) :
    Calls Tryd.prog 55 #[vS a, va, vS b, vb, .int .i64 t] w fun en w' => en = .returned (.bool (pWinB t.toNat a xs b ys)) ∧ Below w.heap.size w w' := by
  have h := l7Wins_ok a b va vb xs ys t.toNat w hva hvb hr (by omega)
  rw [Int.toNat_of_nonneg h0] at h
  exact h

set_option maxHeartbeats 400000 in
/-- spec.PebblesWin -/
theorem sPWin_ok (a b : St) (xs ys : List Int) (va vb : Value) (w : World) (hsa : a.Small) (hsb : b.Small) (hva : Ints w va xs) (hvb : Ints w vb ys) (hs1 : xs.length ≤ 140737488355328) (hs2 : ys.length ≤ 140737488355328) (loa : -9223372036854775808 ≤ a.n) (hia : a.n ≤ 9223372036854775807) (lob : -9223372036854775808 ≤ b.n) (hib : b.n ≤ 9223372036854775807) (t : Int) :
    Calls Tryd.prog 24 [vS a, va, vS b, vb, i6_ t].toArray w fun en w' => en = .returned (.bool (pebWinB a xs b ys t)) ∧ Below w.heap.size w w' := by
 refine fnStart (n := 28) (e := [(0, vS a), (1, va), (2, vS b), (3, vb), (4, i6_ t)]) Tryd.func24 rfl rfl rfl rfl Ends.both ?_
 refine Wk.seq ?_
 refine Wk.region ?_
 refine Ll.box (v := vS a) rfl rfl rfl rfl rfl fun p5 hp5 => ?_
 show Ll _ _ (Own _ _ [_]) _ _ ((5, pt_ p5) :: _) _ _ _
 refine Ll.box (v := vS b) rfl rfl rfl rfl rfl fun p7 hp7 => ?_
 show Ll _ _ (Own _ _ [_, _]) _ _ ((7, pt_ p7) :: _) _ _ _
 refine Ll.run 1 rfl ?_
 refine Ll.nil ?_
 refine Kt.sel [1, 3, 4, 5, 7] [_, _, _, _, _] rfl ?_
 refine Wk.seq ?_
 refine Wk.regionQ ?_
 refine Lq.op rfl rfl rfl (OpQ.loadBox (cs := #[i6_ a.n, str a.set, str a.rel]) 1 rfl Tryd.isAgg28 rfl rfl Tryd.sizeOf28) ?_
 refine Lq.run 1 rfl ?_
 refine Lq.op rfl rfl rfl (OpQ.loadBox (cs := #[i6_ b.n, str b.set, str b.rel]) 0 rfl Tryd.isAgg28 rfl rfl Tryd.sizeOf28) ?_
 refine Lq.run 1 rfl ?_
 refine Lq.op (v := bo_ (readyB a xs b ys)) rfl rfl rfl (OpQ.call rfl Tryd.call54 rfl Own.stable (fun w1 hw1 => l7Ready_ok a b xs ys va vb w1 hsa hsb (Row.own hva hw1) (Row.own hvb hw1) (by first | (simp; done) | (simp; omega) | omega) (by first | (simp; done) | (simp; omega) | omega) loa hia lob hib)) ?_
 refine Lq.run 1 rfl ?_
 refine Lq.bool fun b16 hg16 => ?_
 cases b16
 ·
  refine Lq.pass rfl rfl rfl ?_
  refine Lq.pass rfl rfl rfl ?_
  refine Lq.run 2 rfl ?_
  refine Lq.pass rfl rfl rfl ?_
  refine Lq.pass rfl rfl rfl ?_
  refine Lq.pass rfl rfl rfl ?_
  refine Lq.pass rfl rfl rfl ?_
  refine Lq.pass rfl rfl rfl ?_
  refine Lq.pass rfl rfl rfl ?_
  refine Lq.run 2 rfl ?_
  refine Lq.nil ?_
  refine Kt.sel [10] [_] rfl ?_
  refine Wk.ret (Kt.end1 rfl rfl fun w' hw => ?_)
  -- ret 0: bo_ false
  exact ⟨ret_b (by unfold pebWinB; simp [*]), hw.below⟩
 ·
  refine Lq.run 1 rfl ?_
  refine Lq.op (v := bo_ (inB t 0 4)) rfl rfl rfl (OpQ.call rfl Tryd.call42 rfl Own.stable (fun w1 hw1 => l1In_ok t 0 4 w1 )) ?_
  refine Lq.run 2 rfl ?_
  refine Lq.bool fun b20 hg20 => ?_
  cases b20
  ·
   refine Lq.pass rfl rfl rfl ?_
   refine Lq.pass rfl rfl rfl ?_
   refine Lq.pass rfl rfl rfl ?_
   refine Lq.pass rfl rfl rfl ?_
   refine Lq.pass rfl rfl rfl ?_
   refine Lq.pass rfl rfl rfl ?_
   refine Lq.run 2 rfl ?_
   refine Lq.nil ?_
   refine Kt.sel [10] [_] rfl ?_
   refine Wk.ret (Kt.end1 rfl rfl fun w' hw => ?_)
   -- ret 1: bo_ false
   exact ⟨ret_b (by unfold pebWinB; simp [*]), hw.below⟩
  ·
   refine Lq.op rfl rfl rfl (OpQ.loadBox (cs := #[i6_ a.n, str a.set, str a.rel]) 1 rfl Tryd.isAgg28 rfl rfl Tryd.sizeOf28) ?_
   refine Lq.run 1 rfl ?_
   refine Lq.op rfl rfl rfl (OpQ.loadBox (cs := #[i6_ b.n, str b.set, str b.rel]) 0 rfl Tryd.isAgg28 rfl rfl Tryd.sizeOf28) ?_
   refine Lq.run 2 rfl ?_
   refine Lq.op (v := bo_ (pWinB ((t).toNat) a xs b ys)) rfl rfl rfl (OpQ.call rfl Tryd.call55 rfl Own.stable (fun w1 hw1 => l7Wins_at a b va vb xs ys t w1 (Row.own hva hw1) (Row.own hvb hw1) (by assumption) (by unfold inB at *; simp_all) (.inl (by unfold inB at *; simp_all)))) ?_
   refine Lq.run 2 rfl ?_
   refine Lq.nil ?_
   refine Kt.sel [10] [_] rfl ?_
   refine Wk.ret (Kt.end1 rfl rfl fun w' hw => ?_)
   -- ret 2: bo_ (pWinB ((t).toNat) a xs b ys)
   exact ⟨ret_b (by unfold pebWinB; simp [*]), hw.below⟩

end Go.Proofs.YtjcoijejhachhaaDoor
