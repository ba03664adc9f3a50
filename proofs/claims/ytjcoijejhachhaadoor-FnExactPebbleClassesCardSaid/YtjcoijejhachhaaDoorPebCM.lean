/-
  Walks: classes in games of pebbles.
-/
import Derived.Test.YtjcoijejhachhaaDoorPlain50
import Derived.Test.YtjcoijejhachhaaDoorCountsM
import Derived.Test.YtjcoijejhachhaaDoorPebFM
import Derived.Test.YtjcoijejhachhaaDoorBase
namespace Go.Proofs.YtjcoijejhachhaaDoor
open Go.RowKit Go.Wk
set_option linter.unusedSimpArgs false

set_option maxHeartbeats 400000 in
/-- spec.l7Beside -/
theorem l7Beside_ok (k : Nat) (w : World) (hk : k ≤ 1000) :
    Calls Tryd.prog 65 [i6_ ((k : Int))].toArray w fun en w' => ∃ v, en = .returned v ∧ Below w.heap.size w w' ∧ NewRow w.heap.size 3 1 w' v (bes k).length (ints (bes k)) := by
 refine fnStart (n := 15) (e := [(0, i6_ ((k : Int)))]) Tryd.func65 rfl rfl rfl rfl Ends.both ?_
 refine Wk.seq ?_
 refine Wk.regionQ ?_
 refine Lq.run 1 rfl ?_
 refine Lq.nil ?_
 refine Kt.sel [0] [_] rfl ?_
 refine Wk.seq ?_
 refine Wk.region ?_
 refine Ll.slice (xs := []) (vs := []) Base.elem24 rfl rfl rfl rfl rfl rfl (by decide) rfl fun p5 hp5 => ?_
 refine Ll.run 1 rfl ?_
 refine Ll.nil ?_
 refine Kt.sel [0, 3] [_, _] rfl ?_
 refine Wk.seq ?_
 refine Wk.seq ?_
 refine Wk.regionQ ?_
 refine Lq.run 1 rfl ?_
 refine Lq.nil ?_
 refine Kt.sel [0, 3, 4] [_, _, _] rfl ?_
 refine Wk.block ?_
 refine Wk.loop (σ := Nat × Nat × Nat × Array Value) (fun ⟨j, g, c, cur⟩ => (j ≤ k) ∧ w.heap.size ≤ g ∧ cur.size = c * 1 ∧ (bes j).length ≤ c ∧ cur.toList.take ((bes j).length * 1) = ints (bes j)) (fun ⟨j, g, c, cur⟩ => [(0, i6_ ((k : Int))), (3, sl_ g ((bes j).length) c), (4, i6_ ((j : Int)))]) (fun ⟨j, g, c, cur⟩ => Own w.heap.size w [bk_ g cur 3]) (fun ⟨j, g, c, cur⟩ => k - j) ((0, p5, 0, #[])) ⟨by omega, by omega, rfl, Nat.le_refl _, rfl⟩ (Sub.sel [0, 3, 4] rfl) (fun _ h => h) ?_
 rintro ⟨j, g, c, cur⟩ ⟨hk, hg, hc, hl, ht⟩
 dsimp only
 refine Wk.seq ?_
 refine Wk.seq ?_
 refine Wk.regionQ ?_
 refine Lq.run 3 rfl ?_
 refine Lq.nil ?_
 refine Kt.sel [0, 3, 4, 8] [_, _, _, _] rfl ?_
 refine Wk.cond (b := decide (((j : Int)) < ((k : Int)))) rfl (fun h8 => ?_) (fun h8 => ?_)
 ·
  replace h8 := of_decide_eq_true h8
  refine Wk.skip ?_
  refine Kt.sel [0, 3, 4] [_, _, _] rfl ?_
  refine Wk.seq ?_
  refine Wk.block ?_
  refine Wk.region ?_
  refine Ll.run 1 rfl ?_
  refine Ll.slice (xs := [.const (i6_ (-1))]) (vs := [i6_ (-1)]) Base.elem24 rfl rfl rfl rfl rfl rfl (by decide) rfl fun p12 hp12 => ?_
  refine Ll.appendInts (xs := bes j) (ys := [-1]) Base.elem24 1 rfl rfl rfl rfl rfl rfl rfl hc hl (by simpa using ht) (fun w1 hw1 => (Own.row hw1 (i := 0) rfl (n := 1) (cap := 1) (vs := ints [-1]) rfl rfl (by decide))) (((bes j) ++ ([-1])).length) (by first | (simp; done) | (simp; omega)) (by first | (simp; done) | (simp; omega) | omega) fun p13 cap13 cur13 hp13 hcp13 hlp13 htp13 => ?_
  show Ll _ _ (Own _ _ [_, _]) _ _ ((13, sl_ p13 ((((bes j) ++ ([-1])).length)) cap13) :: _) _ _ _
  refine Ll.run 1 rfl ?_
  refine Ll.nil ?_
  refine Kt.sel [0, 3, 4] [_, _, _] rfl ?_
  refine Wk.regionQ ?_
  refine Lq.run 1 rfl ?_
  refine Lq.op rfl rfl rfl (OpQ.add rfl rfl rfl (by omega) (by omega)) ?_
  refine Lq.run 1 rfl ?_
  refine Lq.nil ?_
  refine Kt.again ((j + 1, p13, cap13, cur13)) ⟨(by omega), (by omega), hcp13, (by rw [bes_snoc]; exact hlp13), (by rw [bes_snoc]; exact htp13)⟩ (by omega) (Sub.cons rfl (Sub.cons (by rw [bes_snoc]; rfl) (Sub.sel [4] rfl))) (fun _ h => h.tail)
 ·
  replace h8 := of_decide_eq_false h8
  refine Wk.exit rfl ?_
  refine Kt.sel [3] [_] rfl ?_
  refine Wk.seq ?_
  refine Wk.regionQ ?_
  refine Lq.run 2 rfl ?_
  refine Lq.nil ?_
  refine Kt.sel [2] [_] rfl ?_
  refine Wk.ret (Kt.end1 rfl rfl fun w' hw => ?_)
  -- ret 0: sl_ g ((bes j).length) c
  obtain rfl : k = j := by omega
  exact ⟨_, rfl, hw.below, hw.newRow (i := 0) rfl hc hl ht⟩

set_option maxHeartbeats 400000 in
/-- spec.PebbleClasses -/
theorem sPCls_ok (a : St) (q : Int) (w : World) (hsa : a.Small) (loa : -9223372036854775808 ≤ a.n) (hia : a.n ≤ 9223372036854775807) :
    Calls Tryd.prog 30 [vS a, i6_ q].toArray w fun en w' => en = .returned (.int .i64 (pebClsB a q)) ∧ Below w.heap.size w w' := by
 refine fnStart (n := 49) (e := [(0, vS a), (1, i6_ q)]) Tryd.func30 rfl rfl rfl rfl Ends.both ?_
 refine Wk.seq ?_
 refine Wk.region ?_
 refine Ll.box (v := vS a) rfl rfl rfl rfl rfl fun p2 hp2 => ?_
 show Ll _ _ (Own _ _ [_]) _ _ ((2, pt_ p2) :: _) _ _ _
 refine Ll.run 1 rfl ?_
 refine Ll.nil ?_
 refine Kt.sel [1, 2] [_, _] rfl ?_
 refine Wk.seq ?_
 refine Wk.region ?_
 refine Ll.slice (xs := []) (vs := []) Base.elem24 rfl rfl rfl rfl rfl rfl (by decide) rfl fun p9 hp9 => ?_
 refine Ll.run 1 rfl ?_
 refine Ll.nil ?_
 refine Kt.sel [1, 2, 5] [_, _, _] rfl ?_
 refine Wk.seq ?_
 refine Wk.seq ?_
 refine Wk.regionQ ?_
 refine Lq.op rfl rfl rfl (OpQ.loadBox (cs := #[i6_ a.n, str a.set, str a.rel]) 1 rfl Tryd.isAgg28 rfl rfl Tryd.sizeOf28) ?_
 refine Lq.op (v := bo_ (validB a)) rfl rfl rfl (OpQ.call rfl Tryd.call52 rfl Own.stable (fun w1 hw1 => sValid_ok a w1 hsa)) ?_
 refine Lq.run 2 rfl ?_
 refine Lq.bool fun b13 hg13 => ?_
 cases b13
 ·
  replace hg13 := not_false hg13
  refine Lq.run 1 rfl ?_
  refine Lq.op (v := bo_ (inB q 1 3)) rfl rfl rfl (OpQ.call rfl Tryd.call42 rfl Own.stable (fun w1 hw1 => l1In_ok q 1 3 w1 )) ?_
  refine Lq.run 2 rfl ?_
  refine Lq.nil ?_
  refine Kt.sel [1, 2, 5, 17] [_, _, _, _] rfl ?_
  refine Wk.cond (b := !(inB q 1 3)) rfl (fun h17 => ?_) (fun h17 => ?_)
  ·
   replace h17 := not_true h17
   refine Wk.seq ?_
   refine Wk.regionQ ?_
   refine Lq.run 1 rfl ?_
   refine Lq.nil ?_
   refine Kt.sel [4] [_] rfl ?_
   refine Wk.ret (Kt.end1 rfl rfl fun w' hw => ?_)
   -- ret 0: i6_ (-1)
   exact ⟨ret_i (by unfold pebClsB; rw [if_neg (by simp_all)]), hw.below⟩
  ·
   replace h17 := not_false h17
   obtain ⟨k, rfl⟩ : ∃ k : Nat, q = (k : Int) := ⟨q.toNat, by first | omega | (unfold inB at *; simp_all; omega)⟩
   have h1 : 1 ≤ k := by unfold inB at *; simp_all; omega
   have h3 : k ≤ 3 := by unfold inB at *; simp_all; omega
   have hVa : validB a = true := by simp_all
   have hk3 : k ≤ 3 := h3
   have ha := validB_fine hVa
   have hm8 := ha.hi
   have hm1 := ha.lo
   refine Wk.skip ?_
   refine Kt.sel [1, 2, 5] [_, _, _] rfl ?_
   refine Wk.seq ?_
   refine Wk.region ?_
   refine Ll.op rfl rfl rfl (OpQ.loadBox (cs := #[i6_ a.n, str a.set, str a.rel]) 1 rfl Tryd.isAgg28 rfl rfl Tryd.sizeOf28) ?_
   refine Ll.op rfl rfl rfl (OpQ.loadBox (cs := #[i6_ a.n, str a.set, str a.rel]) 1 rfl Tryd.isAgg28 rfl rfl Tryd.sizeOf28) ?_
   refine Ll.run 1 rfl ?_
   refine Ll.callGet (σ := Nat × Nat × Array Value × List RR × Nat × Nat × Array Value × List RR × Nat) (ok := fun (gA, cA, uA, rrA, gB, cB, uB, rrB, m) => RowsOk rrA uA cA ∧ RowsOk rrB uB cB ∧ Levs k 2000 a a (rrA.map RR.xs) (rrB.map RR.xs) m (m - 1) ∧ LevEnds k 2000 a a m ∧ m ≤ 2000) (v := fun (gA, cA, uA, rrA, gB, cB, uB, rrB, m) => .tuple #[.slice (some ⟨gA, 0, none⟩) rrA.length cA, .slice (some ⟨gB, 0, none⟩) rrB.length cB]) (xs := [.tmp 19, .tmp 20, .tmp 21, .const (i6_ 2000)]) (vs := [vS a, vS a, i6_ ((k : Int)), i6_ 2000]) (hs' := fun (gA, cA, uA, rrA, gB, cB, uB, rrB, m) => [bk_ p9 #[] 3, bk_ p2 #[i6_ a.n, str a.set, str a.rel] 28] ++ ((gA, .cells uA 24 (0, 0)) :: (gB, .cells uB 24 (0, 0)) :: (rowsB 3 rrA ++ (rowsB 3 rrB ++ [])))) rfl rfl rfl rfl Tryd.call59 rfl (fun w1 hw1 => (l7Levels_ok _ _ _ a a k 2000 w1 hVa hVa h1 h3 (by omega) hw1).mono fun en w' ⟨gA, cA, uA, rrA, gB, cB, uB, rrB, m, h1, h2, h3⟩ => ⟨(gA, cA, uA, rrA, gB, cB, uB, rrB, m), h1, h2, h3.perm (rows_behind2 _ _ _ _ _)⟩) fun ⟨gA, cA, uA, rrA, gB, cB, uB, rrB, m⟩ ⟨hA, hB, hLv, hEn, hm2⟩ => ?_
   have hrA : rrA.length = m + 1 := by simpa using hLv.la
   have hrB : rrB.length = m + 1 := by simpa using hLv.lb
   obtain ⟨K, hK, hl⟩ := hLv.at (Nat.le_refl m)
   rw [xs_at, xs_at] at hl
   have hlA := hl.la
   have hlB := hl.lb
   show Ll _ _ (Own _ _ (_ :: _ :: _ :: _ :: ((rowsB 3 rrA ++ (rowsB 3 rrB ++ []))))) _ _ ((22, .tuple #[sl_ gA rrA.length cA, sl_ gB rrB.length cB]) :: _) _ _ _
   refine Ll.run 1 rfl ?_
   refine Ll.op (v := sl_ gA rrA.length cA) rfl rfl rfl (OpQ.extract rfl rfl rfl) ?_
   refine Ll.op (v := sl_ gB rrB.length cB) rfl rfl rfl (OpQ.extract rfl rfl rfl) ?_
   refine Ll.run 2 rfl ?_
   refine Ll.nil ?_
   refine Kt.sel [1, 2, 5, 6] [_, _, _, _] rfl ?_
   refine Wk.seq ?_
   refine Wk.seq ?_
   refine Wk.regionQ ?_
   refine Lq.run 1 rfl ?_
   refine Lq.nil ?_
   refine Kt.sel [1, 2, 5, 6, 8] [_, _, _, _, _] rfl ?_
   refine Wk.block ?_
   refine Wk.loop (σ := Nat × Nat × Nat × Array Value × List Int) (fun ⟨n, g, cap, cur, S⟩ => n ≤ a.n.toNat ∧ CntE (qE a k) (fun y => numP a.n.toNat (rrA.getD m rd).xs (bes1 k y)) n S ∧ cur.size = cap * 1 ∧ S.length ≤ cap ∧ cur.toList.take S.length = ints S) (fun ⟨n, g, cap, cur, S⟩ => [(1, i6_ ((k : Int))), (2, pt_ p2), (5, sl_ g S.length cap), (6, sl_ gA rrA.length cA), (8, i6_ ((n : Int)))]) (fun ⟨n, g, cap, cur, S⟩ => Own w.heap.size w (bk_ g cur 3 :: bk_ p2 #[i6_ a.n, str a.set, str a.rel] 28 :: bk_ gA uA 24 :: bk_ gB uB 24 :: ((rowsB 3 rrA ++ (rowsB 3 rrB ++ []))))) (fun ⟨n, g, cap, cur, S⟩ => a.n.toNat - n) ((0, p9, 0, #[], [])) ⟨by omega, CntE.zero, rfl, Nat.le_refl 0, rfl⟩ (Sub.sel [1, 2, 5, 6, 8] rfl) (fun _ h => h) ?_
   rintro ⟨n, g, cap, cur, S⟩ ⟨hn, hC, hcg, hlg, htg⟩
   dsimp only
   have hCl := hC.len
   refine Wk.seq ?_
   refine Wk.seq ?_
   refine Wk.regionQ ?_
   refine Lq.run 1 rfl ?_
   refine Lq.op rfl rfl rfl (OpQ.fieldAddr rfl Tryd.runUnderlying28 rfl Tryd.sizeOf3 rfl rfl) ?_
   refine Lq.op rfl rfl rfl (OpQ.loadOwn 1 rfl Tryd.isAgg3 rfl rfl rfl) ?_
   refine Lq.run 1 rfl ?_
   refine Lq.nil ?_
   refine Kt.sel [1, 2, 5, 6, 8, 28] [_, _, _, _, _, _] rfl ?_
   refine Wk.cond (b := decide (((n : Int)) < a.n)) rfl (fun h28 => ?_) (fun h28 => ?_)
   ·
    replace h28 := of_decide_eq_true h28
    have hbp := bes1_peb (size := a.n.toNat) (k := k) (x := n) (by omega)
    have hib : idxP a.n.toNat ((bes k).set 0 (n : Int)) < (a.n.toNat + 1) ^ k := idxP_lt hbp
    refine Wk.skip ?_
    refine Kt.sel [1, 2, 5, 6, 8] [_, _, _, _, _] rfl ?_
    refine Wk.seq ?_
    refine Wk.block ?_
    refine Wk.regionS (S := Own w.heap.size w (bk_ p2 #[i6_ a.n, str a.set, str a.rel] 28 :: bk_ gA uA 24 :: bk_ gB uB 24 :: ((rowsB 3 rrA ++ (rowsB 3 rrB ++ []))))) [(0, true), (1, true), (2, true), (3, true), (4, true), (5, true), (6, true), (7, true), (8, true), (10, true), (9, false), (11, false), (12, false), (13, true), (14, false), (15, false), (16, true)] Base.mixed (fun _ h => h.drawn) (by kernel_rfl) ?_
    refine Ld.run 3 rfl (fun _ h => Own.pickT (hs := [_, _, _, _]) (hs' := [_, _, _]) h [1, 2, 3] rfl (by decide)) ?_
    refine Ld.take rfl rfl rfl rfl rfl (OpQ.lenS rfl Tryd.runUnderlying68 rfl) (fun _ h => Own.pickT (hs := [_, _, _, _]) (hs' := [_, _, _]) h [1, 2, 3] rfl (by decide)) ?_
    refine Ld.take (v := i6_ ((m : Int))) rfl rfl rfl rfl rfl (OpQ.cast (by congr 1; omega) (OpQ.sub rfl rfl rfl (by omega) (by omega))) (fun _ h => Own.pickT (hs := [_, _, _, _]) (hs' := [_, _, _]) h [1, 2, 3] rfl (by decide)) ?_
    refine Ld.take (v := pf_ gA m) rfl rfl rfl rfl rfl (OpQ.cast (v' := pf_ gA m) (by simp) (OpQ.indexAddr1 (i := (m : Int)) rfl Tryd.runUnderlying68 Tryd.sizeOf24 rfl rfl (by omega) (by omega))) (fun _ h => Own.pickT (hs := [_, _, _, _]) (hs' := [_, _, _]) h [1, 2, 3] rfl (by decide)) ?_
    refine Ld.take (v := rv (rrA.getD m rd)) rfl rfl rfl rfl rfl (OpQ.loadAt (v := rv (rrA.getD m rd)) 1 rfl Tryd.isAgg24 rfl rfl (hA.cell (i := m) (by omega))) (fun _ h => Own.pickT (hs := [_, _, _, _]) (hs' := [_, _, _]) h [1, 2, 3] rfl (by decide)) ?_
    refine Ld.take rfl rfl rfl rfl rfl (OpQ.loadBox (cs := #[i6_ a.n, str a.set, str a.rel]) 0 rfl Tryd.isAgg28 rfl rfl Tryd.sizeOf28) (fun _ h => Own.pickT (hs := [_, _, _, _]) (hs' := [_, _, _]) h [1, 2, 3] rfl (by decide)) ?_
    refine Ld.run 2 rfl (fun _ h => Own.pickT (hs := [_, _, _, _]) (hs' := [_, _, _]) h [1, 2, 3] rfl (by decide)) ?_
    refine Ld.loud rfl ?_
    refine Ll.callRow (xs := [.tmp 39]) (m := (bes k).length) (vs := ints (bes k)) (el := 3) (size := 1) rfl rfl rfl rfl Tryd.call65 rfl (fun w1 hw1 => l7Beside_ok k w1 (by omega)) fun p40 cap40 cur40 hp40 hcp40 hlp40 htp40 => ?_
    refine Ll.nil (Ld.joint (fun _ h => Own.pickT (hs := [_, _, _, _, _]) (hs' := [_, _, _]) h [2, 3, 4] rfl (by decide)) ?_)
    refine Ld.loud rfl ?_
    refine Ll.callRow (xs := [.tmp 40, .const (i6_ 0), .tmp 41]) (m := (bes k).length) (vs := ints ((bes k).set 0 ((n : Int)))) (el := 3) (size := 1) rfl rfl rfl rfl Tryd.call64 rfl (fun w1 hw1 => l7Put_ok (sl_ p40 ((bes k).length) cap40) (bes k) 0 ((n : Int)) w1 (Own.row hw1 (i := 0) rfl (by simpa using htp40) (by simp) hlp40) (by rw [bes_len]; omega) (by rw [bes_len]; omega)) fun p42 cap42 cur42 hp42 hcp42 hlp42 htp42 => ?_
    refine Ll.nil (Ld.joint (fun _ h => Own.pickT (hs := [_, _, _, _, _, _]) (hs' := [_, _, _]) h [3, 4, 5] rfl (by decide)) ?_)
    refine Ld.loud rfl ?_
    refine Ll.op (v := i6_ (((idxP a.n.toNat ((bes k).set 0 ((n : Int))) : Nat) : Int))) rfl rfl rfl (OpQ.call rfl Tryd.call63 rfl Own.stable (fun w1 hw1 => l7Index_ok a (sl_ p42 ((bes k).length) cap42) ((bes k).set 0 ((n : Int))) w1 ha (Own.row hw1 (i := 0) rfl (by simpa using htp42) (by simp) hlp42) (by rw [List.length_set, bes_len]; exact hbp) (by rw [List.length_set, bes_len]; omega))) ?_
    refine Ll.nil (Ld.joint (fun _ h => Own.pickT (hs := [_, _, _, _, _, _]) (hs' := [_, _, _]) h [3, 4, 5] rfl (by decide)) ?_)
    refine Ld.take (v := .pointer (some (sAt (rv (rrA.getD m rd)) (((idxP a.n.toNat ((bes k).set 0 ((n : Int))) : Nat) : Int))))) rfl rfl rfl rfl rfl (OpQ.atRow rfl Tryd.runUnderlying24 Tryd.sizeOf3 rfl rfl (by omega) (by rw [ints_length]; omega) (fun w1 hw1 => Own.ofRows (Own.drop (f := [bk_ p2 #[i6_ a.n, str a.set, str a.rel] 28, bk_ gA uA 24, bk_ gB uB 24]) hw1) hA.ok (i := m) (by omega))) (fun _ h => Own.pickT (hs := [_, _, _, _, _, _]) (hs' := [_, _, _]) h [3, 4, 5] rfl (by decide)) ?_
    refine Ld.loud rfl ?_
    refine Ll.op (v := i6_ (numP a.n.toNat (rrA.getD m rd).xs (bes1 k n))) rfl rfl rfl (OpQ.cast rfl (OpQ.load1 rfl Tryd.isAgg3 rfl (fun w1 hw1 => Ints.cell (Own.ofRows (Own.drop (f := [bk_ p42 cur42 3, bk_ p40 cur40 3, bk_ g cur 3, bk_ p2 #[i6_ a.n, str a.set, str a.rel] 28, bk_ gA uA 24, bk_ gB uB 24]) hw1) hA.ok (i := m) (by omega)) (by omega) (by omega)))) ?_
    refine Ll.nil (Ld.joint (fun _ h => Own.pickT (hs := [_, _, _, _, _, _]) (hs' := [_, _, _]) h [3, 4, 5] rfl (by decide)) ?_)
    refine Ld.loud rfl ?_
    refine Ll.callGet (σ := Nat × Nat × Array Value) (ok := fun (g, c', u) => u.size = c' * 1 ∧ (insS S (numP a.n.toNat (rrA.getD m rd).xs (bes1 k n))).length ≤ c' ∧ u.toList.take (insS S (numP a.n.toNat (rrA.getD m rd).xs (bes1 k n))).length = ints (insS S (numP a.n.toNat (rrA.getD m rd).xs (bes1 k n)))) (v := fun (g, c', u) => .slice (some ⟨g, 0, none⟩) (insS S (numP a.n.toNat (rrA.getD m rd).xs (bes1 k n))).length c') (xs := [.tmp 31, .tmp 45]) (vs := [sl_ g S.length cap, i6_ (numP a.n.toNat (rrA.getD m rd).xs (bes1 k n))]) (hs' := fun (g, c', u) => (bk_ p42 cur42 3 :: bk_ p40 cur40 3 :: bk_ g u 3 :: bk_ p2 #[i6_ a.n, str a.set, str a.rel] 28 :: bk_ gA uA 24 :: bk_ gB uB 24 :: ((rowsB 3 rrA ++ (rowsB 3 rrB ++ []))))) rfl rfl rfl rfl Tryd.call62 rfl (fun w1 hw1 => (l5Insert_ok _ _ _ g cap cur S (numP a.n.toNat (rrA.getD m rd).xs (bes1 k n)) w1 hcg hlg htg (by omega) (hw1.perm (perm_back [bk_ p42 cur42 3, bk_ p40 cur40 3] [_] _))).mono fun en w' ⟨g', cap', cur', h1, h2, h3⟩ => ⟨(g', cap', cur'), h1, h2, h3.perm (perm_back [_] [bk_ p42 cur42 3, bk_ p40 cur40 3] _)⟩) fun ⟨g_, cap_, cur_⟩ ⟨hcg_, hlg_, htg_⟩ => ?_
    show Ll _ _ (Own _ _ (_ :: _ :: _ :: _ :: _ :: _ :: ((rowsB 3 rrA ++ (rowsB 3 rrB ++ []))))) _ _ ((46, sl_ g_ ((insS S (numP a.n.toNat (rrA.getD m rd).xs (bes1 k n))).length) cap_) :: _) _ _ _
    refine Ll.nil (Ld.joint (fun _ h => Own.pickT (hs := [_, _, _, _, _, _]) (hs' := [_, _, _]) h [3, 4, 5] rfl (by decide)) ?_)
    refine Ld.run 1 rfl (fun _ h => Own.pickT (hs := [_, _, _, _, _, _]) (hs' := [_, _, _]) h [3, 4, 5] rfl (by decide)) ?_
    refine Ld.nil ?_
    refine Kt.sel [1, 2, 5, 6, 8] [_, _, _, _, _] rfl ?_
    refine Wk.regionQ ?_
    refine Lq.run 1 rfl ?_
    refine Lq.op rfl rfl rfl (OpQ.add rfl rfl rfl (by omega) (by omega)) ?_
    refine Lq.run 1 rfl ?_
    refine Lq.nil ?_
    refine Kt.again ((n + 1, g_, cap_, cur_, (insS S (numP a.n.toNat (rrA.getD m rd).xs (bes1 k n))))) ⟨by omega, hC.step (fun y hy => (qE_true hVa h1 hk3 (by omega) (by omega)).trans (by have h9 := lev_ever hLv hEn (bes1_peb (k := k) (x := y) (by omega)) (bes1_peb (k := k) (x := n) (by omega)); rw [xs_at] at h9; exact h9.symm)), hcg_, hlg_, htg_⟩ (by omega) (Sub.sel [1, 2, 5, 6, 8] rfl) (fun _ h => Own.pickT (hs := [_, _, _, _, _, _]) (hs' := [_, _, _, _]) (tl := rowsB 3 rrA ++ (rowsB 3 rrB ++ [])) h [2, 3, 4, 5] rfl (by decide))
   ·
    replace h28 := of_decide_eq_false h28
    refine Wk.exit rfl ?_
    refine Kt.sel [5] [_] rfl ?_
    refine Wk.seq ?_
    refine Wk.regionQ ?_
    refine Lq.run 1 rfl ?_
    refine Lq.op rfl rfl rfl (OpQ.lenS rfl Tryd.runUnderlying24 rfl) ?_
    refine Lq.run 1 rfl ?_
    refine Lq.nil ?_
    refine Kt.sel [4] [_] rfl ?_
    refine Wk.ret (Kt.end1 rfl rfl fun w' hw => ?_)
    -- ret 1: i6_ ((S.length : Int))
    obtain rfl : n = a.n.toNat := by omega
    exact ⟨ret_i (by unfold pebClsB pebCls inB; rw [if_pos (by simp [hVa]; omega), Int.toNat_natCast, hC.cls]), hw.below⟩
 ·
  replace hg13 := not_true hg13
  refine Lq.pass rfl rfl rfl ?_
  refine Lq.pass rfl rfl rfl ?_
  refine Lq.pass rfl rfl rfl ?_
  refine Lq.run 1 rfl ?_
  refine Lq.nil ?_
  refine Kt.sel [1, 2, 5, 17] [_, _, _, _] rfl ?_
  refine Wk.condT rfl ?_
  refine Wk.seq ?_
  refine Wk.regionQ ?_
  refine Lq.run 1 rfl ?_
  refine Lq.nil ?_
  refine Kt.sel [4] [_] rfl ?_
  refine Wk.ret (Kt.end1 rfl rfl fun w' hw => ?_)
  -- ret 2: i6_ (-1)
  exact ⟨ret_i (by unfold pebClsB; rw [if_neg (by simp_all)]), hw.below⟩

def pcl_ok_o1x : OV := (.take 0 (.take 2 (.one 1 (.one 3 (.take 4 (.take 5 .done))))))
theorem pcl_ok_o1x_c : ovB (opsOf 1 Tryd.f67.body) pcl_ok_o1x 6 true #[false, false, false, false, false, false] = true := (ovB_take (by kernel_rfl) (ovB_take (by kernel_rfl) (ovB_one (by kernel_rfl) (ovB_one (by kernel_rfl) (ovB_take (by kernel_rfl) (ovB_take (by kernel_rfl) (ovB_done (by kernel_rfl))))))))
set_option maxHeartbeats 400000 in
/-- impl.PebbleClasses$1 -/
theorem pcl_ok (a b : St) (k g h p T1 T2 Tp : Nat) (fv wv : Value) (n x y : Nat) (w : World) (hg : w.heap[g]? = some (.cells #[.int .i64 (k : Int)] T1 (0, 0))) (hh : w.heap[h]? = some (.cells #[.pointer (some ⟨p, 0, none⟩)] T2 (0, 0))) (hp : w.heap[p]? = some (.cells #[.int .i64 a.n, str a.set, str a.rel, .int .i64 b.n, str b.set, str b.rel, .int .i64 (k : Int), .int .i64 ((prN a b : Nat) : Int), fv, wv, .bool false] Tp (0, 0))) (hwv : Bools w wv (WL n a b k)) (hVa : validB a = true) (hVb : validB b = true) (h1 : 1 ≤ k) (hk3 : k ≤ 3) (hx : x < a.n.toNat) (hy : y < b.n.toNat) :
    Calls Tryd.prog 67 [i6_ ((x : Int)), i6_ ((y : Int)), .pointer (some ⟨g, 0, none⟩), .pointer (some ⟨h, 0, none⟩)].toArray w fun en w' => en = .returned (.bool ((WL n a b k).getD (stU b.n.toNat (prN a b) (bes1 k x) (bes1 k y) k k) false)) ∧ Below w.heap.size w w' := by
 refine fnStart (n := 29) (e := [(0, i6_ ((x : Int))), (1, i6_ ((y : Int))), (2, .pointer (some ⟨g, 0, none⟩)), (3, .pointer (some ⟨h, 0, none⟩))]) Tryd.func67 rfl rfl rfl rfl Ends.both ?_
 have ha := validB_fine hVa
 have hb := validB_fine hVb
 have hm8 := ha.hi
 have hm1 := ha.lo
 have hb8 := hb.hi
 have hb1 := hb.lo
 have hpr := prN_le (a := a) (b := b) (by omega) (by omega)
 have hpp := prN_pos a b
 have hbl := bes_len k
 have hsu := stU_lt (code_lt (a := a) (b := b) (k := k) (bes1_peb hx) (bes1_peb hy) bes1_sign) k (Nat.le_refl k)
 have hWt : (WL n a b k).length = prN a b ^ k := WL_len _ _ _ _
 have hN0 := pow65 hpr hk3
 refine Wk.seq ?_
 refine Wk.regionQ ?_
 refine Lq.run 1 rfl ?_
 refine Lq.nil ?_
 refine Kt.sel [0, 1, 2, 3] [_, _, _, _] rfl ?_
 refine Wk.seq ?_
 refine Wk.regionV (S := Own w.heap.size w []) pcl_ok_o1x Base.mixed (fun _ h => h.drawn) (ovOk_at (by kernel_rfl) (by kernel_rfl) (by kernel_rfl) (by kernel_rfl) pcl_ok_o1x_c) ?_
 refine Lv.take (v := i6_ ((k : Int))) rfl rfl rfl rfl rfl (OpQ.load1 rfl Tryd.isAgg3 rfl (fun w1 hw1 => by have := box_cells hg hw1 0 (i6_ ((k : Int))) rfl; rwa [Addr.add_lit] at this)) (fun _ h => h) ?_
 refine Lv.take (v := i6_ ((k : Int))) rfl rfl rfl rfl rfl (OpQ.load1 rfl Tryd.isAgg3 rfl (fun w1 hw1 => by have := box_cells hg hw1 0 (i6_ ((k : Int))) rfl; rwa [Addr.add_lit] at this)) (fun _ h => h) ?_
 refine Lv.loud rfl ?_
 refine Ll.callRow (xs := [.tmp 9]) (m := (bes k).length) (vs := ints (bes k)) (el := 3) (size := 1) rfl rfl rfl rfl Tryd.call60 rfl (fun w1 hw1 => besides_ok k w1 (by omega)) fun p10 cap10 cur10 hp10 hcp10 hlp10 htp10 => ?_
 refine Ll.nil (Lv.joint (fun _ h => h.tail) ?_)
 refine Lv.loud rfl ?_
 refine Ll.callRow (xs := [.tmp 11]) (m := (bes k).length) (vs := ints (bes k)) (el := 3) (size := 1) rfl rfl rfl rfl Tryd.call60 rfl (fun w1 hw1 => besides_ok k w1 (by omega)) fun p12 cap12 cur12 hp12 hcp12 hlp12 htp12 => ?_
 refine Ll.nil (Lv.joint (fun _ h => h.tail.tail) ?_)
 refine Lv.run 2 rfl (fun _ h => h.tail.tail) ?_
 refine Lv.nil ?_
 refine Kt.sel [0, 1, 3, 7, 8] [_, _, _, _, _] rfl ?_
 refine Wk.seq ?_
 refine Wk.region ?_
 refine Ll.run 4 rfl ?_
 refine Ll.op (v := pt_ p10) rfl rfl rfl (OpQ.cast rfl (OpQ.indexAddr1 (i := 0) rfl Tryd.runUnderlying24 Tryd.sizeOf3 rfl rfl (by decide) (by rw [bes_len]; omega))) ?_
 refine Ll.store1 (v := i6_ ((x : Int))) (hs' := [_, bk_ p10 ((cur10.setIfInBounds 0 (i6_ ((x : Int))))) 3]) 1 rfl rfl rfl rfl rfl rfl Tryd.sizeOf3 rfl (by rw [hcp10]; omega) rfl ?_
 refine Ll.op (v := pt_ p12) rfl rfl rfl (OpQ.cast rfl (OpQ.indexAddr1 (i := 0) rfl Tryd.runUnderlying24 Tryd.sizeOf3 rfl rfl (by decide) (by rw [bes_len]; omega))) ?_
 refine Ll.store1 (v := i6_ ((y : Int))) (hs' := [bk_ p12 ((cur12.setIfInBounds 0 (i6_ ((y : Int))))) 3, _]) 0 rfl rfl rfl rfl rfl rfl Tryd.sizeOf3 rfl (by rw [hcp12]; omega) rfl ?_
 refine Ll.nil ?_
 refine Kt.sel [3, 7, 8] [_, _, _] rfl ?_
 refine Wk.seq ?_
 refine Wk.regionD Base.mixed (fun _ h => h.drawn) (by kernel_rfl) ?_
 refine Lq.op (v := .pointer (some ⟨p, 0, none⟩)) rfl rfl rfl (OpQ.load1 rfl Tryd.isAgg61 rfl (fun w1 hw1 => by have := box_cells hh hw1 0 (.pointer (some ⟨p, 0, none⟩)) rfl; rwa [Addr.add_lit] at this)) ?_
 refine Lq.op (v := .pointer (some ⟨p, 0, none⟩)) rfl rfl rfl (OpQ.nilCheck rfl rfl) ?_
 refine Lq.op rfl rfl rfl (OpQ.fieldAddr rfl Tryd.runUnderlying66 rfl Tryd.sizeOf64 rfl rfl) ?_
 refine Lq.op (v := wv) rfl rfl rfl (OpQ.load1 rfl Tryd.isAgg64 rfl (fun w1 hw1 => at_box hp hw1 9 rfl)) ?_
 refine Lq.op (v := .pointer (some ⟨p, 0, none⟩)) rfl rfl rfl (OpQ.load1 rfl Tryd.isAgg61 rfl (fun w1 hw1 => by have := box_cells hh hw1 0 (.pointer (some ⟨p, 0, none⟩)) rfl; rwa [Addr.add_lit] at this)) ?_
 refine Lq.run 2 rfl ?_
 refine Lq.op (v := i6_ (((stU b.n.toNat (prN a b) (bes1 k x) (bes1 k y) k k : Nat) : Int))) rfl rfl rfl (OpQ.call rfl Tryd.call58 rfl Own.stable (fun w1 hw1 => stateOf_ok a b k p Tp fv wv (sl_ p10 ((bes k).length) cap10) (sl_ p12 ((bes k).length) cap12) (bes1 k x) (bes1 k y) w1 (box_heap hp hw1) (Own.row hw1 (i := 1) rfl (set_takeI (by simpa using htp10)) (by simp) hlp10) (Own.row hw1 (i := 0) rfl (set_takeI (by simpa using htp12)) (by simp) hlp12) hVa hVb hk3 (bes1_peb hx) (bes1_peb hy) bes1_sign)) ?_
 refine Lq.op (v := .pointer (some (sAt wv (((stU b.n.toNat (prN a b) (bes1 k x) (bes1 k y) k k : Nat) : Int))))) rfl rfl rfl (OpQ.atRow rfl Tryd.runUnderlying64 Tryd.sizeOf4 rfl rfl (by omega) (by rw [bools_length]; omega) (fun w1 hw1 => Row.own hwv hw1)) ?_
 refine Lq.op (v := bo_ ((WL n a b k).getD ((((stU b.n.toNat (prN a b) (bes1 k x) (bes1 k y) k k : Nat) : Int)).toNat) false)) rfl rfl rfl (OpQ.load1 rfl Tryd.isAgg4 rfl (fun w1 hw1 => Bools.cell (Row.own hwv hw1) (by omega) (by omega))) ?_
 refine Lq.run 1 rfl ?_
 refine Lq.nil ?_
 refine Kt.sel [6] [_] rfl ?_
 refine Wk.ret (Kt.end1 rfl rfl fun w' hw => ?_)
 -- ret 0: bo_ ((WL n a b k).getD ((((stU b.n.toNat (prN a b) (bes1 k x) (bes1 k y) k k : Nat) : Int)).toNat) false)
 exact ⟨rfl, hw.below⟩

def iPCls_at_o3x : OV := (.one 2 (.one 5 (.one 6 (.one 8 .done))))
theorem iPCls_at_o3x_c : ovB (opsOf 3 Tryd.f31.body) iPCls_at_o3x 4 true #[true, true, false, true, true, false, false, true, false] = true := (ovB_one (by kernel_rfl) (ovB_one (by kernel_rfl) (ovB_one (by kernel_rfl) (ovB_one (by kernel_rfl) (ovB_done (by kernel_rfl))))))
def iPCls_at_o3_1x : OV := (.one 5 (.one 6 (.one 8 .done)))
theorem iPCls_at_o3_1x_c : ovB (opsOf 3 Tryd.f31.body) iPCls_at_o3_1x 3 true #[true, true, true, true, true, false, false, true, false] = true := (ovB_one (by kernel_rfl) (ovB_one (by kernel_rfl) (ovB_one (by kernel_rfl) (ovB_done (by kernel_rfl)))))
def iPCls_at_o3_2x : OV := (.one 6 (.one 8 .done))
theorem iPCls_at_o3_2x_c : ovB (opsOf 3 Tryd.f31.body) iPCls_at_o3_2x 2 true #[true, true, true, true, true, true, false, true, false] = true := (ovB_one (by kernel_rfl) (ovB_one (by kernel_rfl) (ovB_done (by kernel_rfl))))
def iPCls_at_o3_3x : OV := (.one 7 (.one 8 .done))
theorem iPCls_at_o3_3x_c : ovB (opsOf 3 Tryd.f31.body) iPCls_at_o3_3x 2 true #[true, true, true, true, true, true, true, false, false] = true := (ovB_one (by kernel_rfl) (ovB_one (by kernel_rfl) (ovB_done (by kernel_rfl))))
def iPCls_at_o3_4x : OV := (.alt 6 iPCls_at_o3_3x (.one 7 iPCls_at_o3_2x))
theorem iPCls_at_o3_4x_c : ovB (opsOf 3 Tryd.f31.body) iPCls_at_o3_4x 3 true #[true, true, true, true, true, true, false, false, false] = true := (ovB_alt (by kernel_rfl) (ovB_at (by kernel_rfl) iPCls_at_o3_3x_c) (ovB_last (ovB_at (by kernel_rfl) iPCls_at_o3_2x_c)))
def iPCls_at_o3_5x : OV := (.alt 5 iPCls_at_o3_4x (.one 7 iPCls_at_o3_1x))
theorem iPCls_at_o3_5x_c : ovB (opsOf 3 Tryd.f31.body) iPCls_at_o3_5x 4 true #[true, true, true, true, true, false, false, false, false] = true := (ovB_alt (by kernel_rfl) (ovB_at (by kernel_rfl) iPCls_at_o3_4x_c) (ovB_last (ovB_at (by kernel_rfl) iPCls_at_o3_1x_c)))
def iPCls_at_o3_6x : OV := (.take 0 (.take 1 (.take 3 (.take 4 (.alt 2 iPCls_at_o3_5x (.one 7 iPCls_at_o3x))))))
theorem iPCls_at_o3_6x_c : ovB (opsOf 3 Tryd.f31.body) iPCls_at_o3_6x 9 true #[false, false, false, false, false, false, false, false, false] = true := (ovB_take (by kernel_rfl) (ovB_take (by kernel_rfl) (ovB_take (by kernel_rfl) (ovB_take (by kernel_rfl) (ovB_alt (by kernel_rfl) (ovB_at (by kernel_rfl) iPCls_at_o3_5x_c) (ovB_last (ovB_at (by kernel_rfl) iPCls_at_o3x_c)))))))
def iPCls_at_o3_7x : OV := .done
theorem iPCls_at_o3_7x_c : ovB (opsOf 3 Tryd.f31.body) iPCls_at_o3_7x 0 true #[true, true, true, true, true, true, true, true, true] = true := (ovB_done (by kernel_rfl))
set_option maxHeartbeats 400000 in
/-- impl.PebbleClasses -/
theorem iPCls_at (a b : St) (hab : b = a) (q : Int) (w : World) (hsa : a.Small) (hsb : b.Small) :
    Calls Tryd.prog 31 [vS a, i6_ q].toArray w fun en w' => en = .returned (.int .i64 (pebClsB a q)) ∧ Below w.heap.size w w' := by
 refine fnStart (n := 34) (e := [(0, vS a), (1, i6_ q)]) Tryd.func31 rfl rfl rfl rfl Ends.both ?_
 refine Wk.seq ?_
 refine Wk.region ?_
 refine Ll.box (v := vS a) rfl rfl rfl rfl rfl fun p2 hp2 => ?_
 show Ll _ _ (Own _ _ [_]) _ _ ((2, pt_ p2) :: _) _ _ _
 refine Ll.box (v := i6_ q) rfl rfl rfl rfl rfl fun p3 hp3 => ?_
 show Ll _ _ (Own _ _ [_, _]) _ _ ((3, pt_ p3) :: _) _ _ _
 refine Ll.run 1 rfl ?_
 refine Ll.nil ?_
 refine Kt.sel [2, 3] [_, _] rfl ?_
 refine Wk.seq ?_
 refine Wk.seq ?_
 refine Wk.regionQ ?_
 refine Lq.op rfl rfl rfl (OpQ.loadBox (cs := #[i6_ a.n, str a.set, str a.rel]) 1 rfl Tryd.isAgg28 rfl rfl Tryd.sizeOf28) ?_
 refine Lq.op (v := bo_ (validB a)) rfl rfl rfl (OpQ.call rfl Tryd.call53 rfl Own.stable (fun w1 hw1 => isStructure_ok a w1 hsa)) ?_
 refine Lq.run 2 rfl ?_
 refine Lq.bool fun b10 hg10 => ?_
 cases b10
 ·
  replace hg10 := not_false hg10
  refine Lq.op rfl rfl rfl (OpQ.loadOwn 0 rfl Tryd.isAgg3 rfl rfl rfl) ?_
  refine Lq.run 3 rfl ?_
  refine Lq.bool fun b14 hg14 => ?_
  cases b14
  ·
   replace hg14 := of_decide_eq_false hg14
   refine Lq.op rfl rfl rfl (OpQ.loadOwn 0 rfl Tryd.isAgg3 rfl rfl rfl) ?_
   refine Lq.run 2 rfl ?_
   refine Lq.nil ?_
   refine Kt.sel [2, 3, 17] [_, _, _] rfl ?_
   refine Wk.cond (b := decide ((3 : Int) < q)) rfl (fun h17 => ?_) (fun h17 => ?_)
   ·
    replace h17 := of_decide_eq_true h17
    refine Wk.seq ?_
    refine Wk.regionQ ?_
    refine Lq.run 1 rfl ?_
    refine Lq.nil ?_
    refine Kt.sel [4] [_] rfl ?_
    refine Wk.ret (Kt.end1 rfl rfl fun w' hw => ?_)
    -- ret 0: i6_ (-1)
    exact ⟨ret_i (by unfold pebClsB inB; rw [if_neg (by simp_all; try omega)]), hw.below⟩
   ·
    replace h17 := of_decide_eq_false h17
    obtain ⟨k, rfl⟩ : ∃ k : Nat, q = (k : Int) := ⟨q.toNat, by first | omega | (unfold inB at *; simp_all; omega)⟩
    have h1 : 1 ≤ k := by omega
    have h3 : k ≤ 3 := by omega
    have hVa : validB a = true := by simp_all
    have hVb : validB b = true := by rw [hab]; exact hVa
    have hk3 : k ≤ 3 := h3
    have hr := bes_ready hVa hVb h1 h3
    have hbl := bes_len k
    have ha := validB_fine hVa
    have hb := validB_fine hVb
    have hm8 := ha.hi
    have hm1 := ha.lo
    have hb8 := hb.hi
    have hb1 := hb.lo
    have hpr := prN_le (a := a) (b := b) (by omega) (by omega)
    have hpp := prN_pos a b
    refine Wk.skip ?_
    refine Kt.sel [2, 3] [_, _] rfl ?_
    refine Wk.seq ?_
    refine Wk.regionV (S := Own w.heap.size w [bk_ p3 #[i6_ ((k : Int))] 3, bk_ p2 #[i6_ a.n, str a.set, str a.rel] 28]) iPCls_at_o3_6x Base.mixed (fun _ h => h.drawn) (ovOk_at (by kernel_rfl) (by kernel_rfl) (by kernel_rfl) (by kernel_rfl) iPCls_at_o3_6x_c) ?_
    refine Lv.share (σ := Nat × Nat × Nat × Array Value × Nat × Nat × Array Value × Nat × Nat × Nat × Array Value × Nat × Nat × Array Value) iPCls_at_o3_7x (fun ⟨p5, p20, cap20, cur20, p23, cap23, cur23, p, gf, cf, uf, gw, cw, uw⟩ => (cur20.size = cap20 * 1 ∧ (bes k).length ≤ cap20 ∧ cur20.toList.take (bes k).length = ints (bes k)) ∧ (cur23.size = cap23 * 1 ∧ (bes k).length ≤ cap23 ∧ cur23.toList.take (bes k).length = ints (bes k)) ∧ (uf.size = cf * 1 ∧ ((WL 0 a b k)).length ≤ cf ∧ uf.toList.take ((WL 0 a b k)).length = bools ((WL 0 a b k))) ∧ (uw.size = cw * 1 ∧ ((WL 0 a b k)).length ≤ cw ∧ uw.toList.take ((WL 0 a b k)).length = bools ((WL 0 a b k)))) (fun ⟨p5, p20, cap20, cur20, p23, cap23, cur23, p, gf, cf, uf, gw, cw, uw⟩ => [(2, pt_ p2), (3, pt_ p3), (5, pt_ p5)]) (fun ⟨p5, p20, cap20, cur20, p23, cap23, cur23, p, gf, cf, uf, gw, cw, uw⟩ => Own w.heap.size w [bk_ p5 #[pt_ p] 61, bk_ p20 cur20 3, bk_ p23 cur23 3, bk_ p #[i6_ a.n, str a.set, str a.rel, i6_ b.n, str b.set, str b.rel, i6_ ((k : Int)), i6_ (((prN a b : Nat) : Int)), sl_ gf ((WL 0 a b k).length) cf, sl_ gw ((WL 0 a b k).length) cw, bo_ false] 66, bk_ gf uf 4, bk_ gw uw 4, bk_ p3 #[i6_ ((k : Int))] 3, bk_ p2 #[i6_ a.n, str a.set, str a.rel] 28]) ?_ fun H3_ => ?_
    ·
     rintro ⟨p5, p20, cap20, cur20, p23, cap23, cur23, p, gf, cf, uf, gw, cw, uw⟩ ⟨⟨hcp20, hlp20, htp20⟩, ⟨hcp23, hlp23, htp23⟩, ⟨hcgf, hlgf, htgf⟩, ⟨hcgw, hlgw, htgw⟩⟩
     dsimp only
     refine Lv.nil ?_
     refine Kt.sel [2, 3, 5] [_, _, _] rfl ?_
     refine Wk.seq ?_
     refine Wk.block ?_
     refine Wk.loop (σ := Nat × Nat × Nat × Array Value) (fun ⟨n, g, c, u⟩ => (WL n a b k).length ≤ c ∧ u.toList.take (WL n a b k).length = bools (WL n a b k)) (fun ⟨n, g, c, u⟩ => [(2, pt_ p2), (3, pt_ p3), (5, pt_ p5)]) (fun ⟨n, g, c, u⟩ => Own w.heap.size w [bk_ p #[i6_ a.n, str a.set, str a.rel, i6_ b.n, str b.set, str b.rel, i6_ ((k : Int)), i6_ (((prN a b : Nat) : Int)), sl_ gf ((WL 0 a b k).length) cf, sl_ g ((WL n a b k).length) c, bo_ false] 66, bk_ gf uf 4, bk_ g u 4, bk_ p5 #[pt_ p] 61, bk_ p3 #[i6_ ((k : Int))] 3, bk_ p2 #[i6_ a.n, str a.set, str a.rel] 28]) (fun ⟨n, g, c, u⟩ => nT (WL n a b k)) ((0, gw, cw, uw)) ⟨hlgw, (by simpa using htgw)⟩ (Sub.sel [2, 3, 5] rfl) (fun _ h => h.pick [3, 4, 5, 0, 6, 7] rfl (by decide)) ?_
     rintro ⟨n, g, c, u⟩ ⟨hlu, htu⟩
     dsimp only
     refine Wk.seq ?_
     refine Wk.seq ?_
     refine Wk.region ?_
     refine Ll.op rfl rfl rfl (OpQ.loadOwn 3 rfl Tryd.isAgg61 rfl rfl rfl) ?_
     refine Ll.callGet (σ := Nat × Nat × Array Value) (ok := fun (g, c', u) => u.size = c' * 1 ∧ (WL (n + 1) a b k).length ≤ c' ∧ u.toList.take (WL (n + 1) a b k).length = bools (WL (n + 1) a b k)) (v := fun _ => .bool (!((WL (n + 1) a b k) == (WL n a b k)))) (xs := [.tmp 25]) (vs := [pt_ p]) (hs' := fun (g, c', u) => [bk_ p #[i6_ a.n, str a.set, str a.rel, i6_ b.n, str b.set, str b.rel, i6_ ((k : Int)), i6_ (((prN a b : Nat) : Int)), sl_ gf ((WL 0 a b k).length) cf, sl_ g ((WL (n + 1) a b k).length) c', bo_ false] 66, bk_ gf uf 4, bk_ g u 4] ++ [bk_ p5 #[pt_ p] 61, bk_ p3 #[i6_ ((k : Int))] 3, bk_ p2 #[i6_ a.n, str a.set, str a.rel] 28]) rfl rfl rfl rfl Tryd.call61 rfl (fun w1 hw1 => (turn_ok _ _ [bk_ p5 #[pt_ p] 61, bk_ p3 #[i6_ ((k : Int))] 3, bk_ p2 #[i6_ a.n, str a.set, str a.rel] 28] a b k n p gf cf uf g c u w1 hVa hVb hk3 hlgf (by simpa using htgf) hlu htu hw1).mono fun en w' ⟨g, c', u, h1, h2, h3⟩ => ⟨(g, c', u), h1, h2, h3⟩) fun ⟨gt, ct, ut⟩ ⟨hcgt, hlgt, htgt⟩ => ?_
     show Ll _ _ (Own _ _ [_, _, _, _, _, _]) _ _ ((26, bo_ (!((WL (n + 1) a b k) == (WL n a b k)))) :: _) _ _ _
     refine Ll.nil ?_
     refine Kt.sel [2, 3, 5, 26] [_, _, _, _] rfl ?_
     refine Wk.cond (b := !((WL (n + 1) a b k) == (WL n a b k))) rfl (fun h26 => ?_) (fun h26 => ?_)
     ·
      have hdn := wl_down (n := n) (a := a) (b := b) (k := k) (by simpa using h26)
      refine Wk.skip ?_
      refine Kt.sel [2, 3, 5] [_, _, _] rfl ?_
      refine Wk.block ?_
      refine Wk.skip ?_
      refine Kt.again ((n + 1, gt, ct, ut)) ⟨hlgt, htgt⟩ (by omega) (Sub.sel [2, 3, 5] rfl) (fun _ h => h)
     ·
      have hE : WL (n + 1) a b k = WL n a b k := by simpa using h26
      have hcl := cls_length (fun y x => (WL (n + 1) a b k).getD (stU b.n.toNat (prN a b) (bes1 k y) (bes1 k x) k k) false) a.n.toNat
      have hmx : maxTo (clsN (fun y x => (WL (n + 1) a b k).getD (stU b.n.toNat (prN a b) (bes1 k y) (bes1 k x) k k) false) a.n.toNat).1 ((clsN (fun y x => (WL (n + 1) a b k).getD (stU b.n.toNat (prN a b) (bes1 k y) (bes1 k x) k k) false) a.n.toNat).1.length - 1) + 1 = pebClsB a (k : Int) := by
       subst hab; exact max_ever hVa h1 h3 hE
      have hcs : pebClsB a (k : Int) ≤ 8 := by
       unfold pebClsB pebCls; split <;> have := (cls_small (qE a ((k : Int)).toNat) a.n.toNat).1 <;> omega
      have hcs0 : -1 ≤ pebClsB a (k : Int) := by
       unfold pebClsB; split <;> omega
      refine Wk.exit rfl ?_
      refine Kt.sel [2, 3, 5] [_, _, _] rfl ?_
      refine Wk.seq ?_
      refine Wk.region ?_
      refine Ll.op rfl rfl rfl (OpQ.fieldAddr rfl Tryd.runUnderlying28 rfl Tryd.sizeOf3 rfl rfl) ?_
      refine Ll.op rfl rfl rfl (OpQ.loadOwn 5 rfl Tryd.isAgg3 rfl rfl rfl) ?_
      refine Ll.op (v := .func (.func 67) #[] #[pt_ p3, pt_ p5]) rfl rfl rfl (OpQ.func' (cap := [.tmp 3, .tmp 5]) rfl rfl) ?_
      refine Ll.callRow (xs := [.tmp 28, .tmp 29]) (m := (clsN (fun y x => (WL (n + 1) a b k).getD (stU b.n.toNat (prN a b) (bes1 k y) (bes1 k x) k k) false) a.n.toNat).1.length) (vs := ints ((clsN (fun y x => (WL (n + 1) a b k).getD (stU b.n.toNat (prN a b) (bes1 k y) (bes1 k x) k k) false) a.n.toNat).1)) (el := 3) (size := 1) rfl rfl rfl rfl Tryd.call66 rfl (fun w1 hw1 => classesBy_ok a.n w1 (by omega) 67 #[pt_ p3, pt_ p5] (fun y x => (WL (n + 1) a b k).getD (stU b.n.toNat (prN a b) (bes1 k y) (bes1 k x) k k) false) Tryd.call67 (fun w2 hb y x hy hx => pcl_ok a b k p3 p5 p _ _ _ (sl_ gf ((WL 0 a b k).length) cf) (sl_ gt ((WL (n + 1) a b k).length) ct) (n + 1) y x w2 ((hw1.stable _ _ hb).has 4 _ _ rfl).2 ((hw1.stable _ _ hb).has 3 _ _ rfl).2 ((hw1.stable _ _ hb).has 0 _ _ rfl).2 (Own.row (hw1.stable _ _ hb) (i := 2) rfl htgt (by simp) hlgt) hVa hVb h1 hk3 hy (by rw [hab]; exact hx))) fun p30 cap30 cur30 hp30 hcp30 hlp30 htp30 => ?_
      refine Ll.run 1 rfl ?_
      refine Ll.nil ?_
      refine Kt.sel [6] [_] rfl ?_
      refine Wk.seq ?_
      refine Wk.regionQ ?_
      refine Lq.run 1 rfl ?_
      refine Lq.op (v := i6_ (maxTo ((clsN (fun y x => (WL (n + 1) a b k).getD (stU b.n.toNat (prN a b) (bes1 k y) (bes1 k x) k k) false) a.n.toNat).1) (((clsN (fun y x => (WL (n + 1) a b k).getD (stU b.n.toNat (prN a b) (bes1 k y) (bes1 k x) k k) false) a.n.toNat).1).length - 1))) rfl rfl rfl (OpQ.call rfl Tryd.call68 rfl Own.stable (fun w1 hw1 => slMax_ok (sl_ p30 ((clsN (fun y x => (WL (n + 1) a b k).getD (stU b.n.toNat (prN a b) (bes1 k y) (bes1 k x) k k) false) a.n.toNat).1.length) cap30) ((clsN (fun y x => (WL (n + 1) a b k).getD (stU b.n.toNat (prN a b) (bes1 k y) (bes1 k x) k k) false) a.n.toNat).1) w1 (Own.row hw1 (i := 0) rfl (by simpa using htp30) (by simp) hlp30) (by omega) (by omega))) ?_
      refine Lq.op rfl rfl rfl (OpQ.add rfl rfl rfl (by omega) (by omega)) ?_
      refine Lq.run 1 rfl ?_
      refine Lq.nil ?_
      refine Kt.sel [4] [_] rfl ?_
      refine Wk.ret (Kt.end1 rfl rfl fun w' hw => ?_)
      -- ret 1: i6_ ((maxTo ((clsN (fun y x => (WL (n + 1) a b k).getD (stU b.n.toNat (prN a b) (bes1 k y) (bes1 k x) k k) false) a.n.toNat).1) (((clsN (fun y x => (WL (n + 1) a b k).getD (stU b.n.toNat (prN a b) (bes1 k y) (bes1 k x) k k) false) a.n.toNat).1).length - 1)) + (1 : Int))
      exact ⟨ret_i hmx, hw.below⟩
    refine Lv.take rfl rfl rfl rfl rfl (OpQ.loadBox (cs := #[i6_ a.n, str a.set, str a.rel]) 1 rfl Tryd.isAgg28 rfl rfl Tryd.sizeOf28) (fun _ h => h) ?_
    refine Lv.take rfl rfl rfl rfl rfl (OpQ.loadOwn 0 rfl Tryd.isAgg3 rfl rfl rfl) (fun _ h => h) ?_
    refine Lv.take (v := vS b) rfl rfl rfl rfl rfl (OpQ.cast (by rw [hab]; rfl) (OpQ.loadBox (cs := #[i6_ a.n, str a.set, str a.rel]) 1 rfl Tryd.isAgg28 rfl rfl Tryd.sizeOf28)) (fun _ h => h) ?_
    refine Lv.take rfl rfl rfl rfl rfl (OpQ.loadOwn 0 rfl Tryd.isAgg3 rfl rfl rfl) (fun _ h => h) ?_
    refine Lv.alt rfl ?_ (Lv.loud rfl ?_)
    ·
     refine Ll.callRow (xs := [.tmp 19]) (m := (bes k).length) (vs := ints (bes k)) (el := 3) (size := 1) rfl rfl rfl rfl Tryd.call60 rfl (fun w1 hw1 => besides_ok k w1 (by omega)) fun p20 cap20 cur20 hp20 hcp20 hlp20 htp20 => ?_
     refine Ll.nil (Lv.joint (fun _ h => h.tail) ?_)
     refine Lv.alt rfl ?_ (Lv.loud rfl ?_)
     ·
      refine Ll.callRow (xs := [.tmp 22]) (m := (bes k).length) (vs := ints (bes k)) (el := 3) (size := 1) rfl rfl rfl rfl Tryd.call60 rfl (fun w1 hw1 => besides_ok k w1 (by omega)) fun p23 cap23 cur23 hp23 hcp23 hlp23 htp23 => ?_
      refine Ll.nil (Lv.joint (fun _ h => h.tail.tail) ?_)
      refine Lv.alt rfl ?_ (Lv.loud rfl ?_)
      ·
       refine Ll.callNew (σ := Nat × Nat × Nat × Array Value × Nat × Nat × Array Value) (ok := fun (p, gf, cf, uf, gw, cw, uw) => (uf.size = cf * 1 ∧ (WL 0 a b k).length ≤ cf ∧ uf.toList.take (WL 0 a b k).length = bools (WL 0 a b k)) ∧ (uw.size = cw * 1 ∧ (WL 0 a b k).length ≤ cw ∧ uw.toList.take (WL 0 a b k).length = bools (WL 0 a b k))) (v := fun (p, gf, cf, uf, gw, cw, uw) => .pointer (some ⟨p, 0, none⟩)) (new := fun (p, gf, cf, uf, gw, cw, uw) => [bk_ p #[i6_ a.n, str a.set, str a.rel, i6_ b.n, str b.set, str b.rel, i6_ ((k : Int)), i6_ (((prN a b : Nat) : Int)), sl_ gf ((WL 0 a b k).length) cf, sl_ gw ((WL 0 a b k).length) cw, bo_ false] 66, bk_ gf uf 4, bk_ gw uw 4]) (hs := [bk_ p23 cur23 3, bk_ p20 cur20 3, bk_ p3 #[i6_ ((k : Int))] 3, bk_ p2 #[i6_ a.n, str a.set, str a.rel] 28]) (xs := [.tmp 18, .tmp 20, .tmp 21, .tmp 23]) (vs := [vS a, sl_ p20 ((bes k).length) cap20, vS b, sl_ p23 ((bes k).length) cap23]) rfl rfl rfl rfl Tryd.call56 rfl (fun w1 hw1 => (newPeb_yes a b (bes k) (bes k) (sl_ p20 ((bes k).length) cap20) (sl_ p23 ((bes k).length) cap23) w1 hsa hsb (Own.row hw1 (i := 1) rfl (by simpa using htp20) (by simp) hlp20) (Own.row hw1 (i := 0) rfl (by simpa using htp23) (by simp) hlp23) (by simp; omega) (by simp; omega) k (bes_len k) hr).mono fun en w' ⟨p, gf, cf, uf, gw, cw, uw, h1, h2, h3, h4⟩ => ⟨(p, gf, cf, uf, gw, cw, uw), h1, ⟨h2, h3⟩, hw1.merge h4⟩) fun ⟨p, gf, cf, uf, gw, cw, uw⟩ ⟨⟨hcf, hlf, htf⟩, ⟨hcw, hlw, htw⟩⟩ => ?_
       show Ll _ _ (Own _ _ [_, _, _, _, _, _, _]) _ _ ((24, pt_ p) :: _) _ _ _
       refine Ll.nil (Lv.joint (fun _ h => h.tail.tail.tail.tail.tail) ?_)
       refine Lv.loud rfl ?_
       refine Ll.alloc rfl rfl rfl rfl Tryd.zeroValue61 fun p5 hp5 => ?_
       show Ll _ _ (Own _ _ [bk_ p5 #[.pointer none] 61, _, _, _, _, _, _, _]) _ _ ((5, pt_ p5) :: _) _ _ _
       refine Ll.nil (Lv.joint (fun _ h => h.tail.tail.tail.tail.tail.tail) ?_)
       refine Lv.loud rfl ?_
       refine Ll.store1 (v := pt_ p) (hs' := [bk_ p5 #[pt_ p] 61, _, _, _, _, _, _, _]) 0 rfl rfl rfl rfl rfl rfl Tryd.sizeOf61 rfl (by simp) rfl ?_
       refine Ll.nil (Lv.joint (fun _ h => h.tail.tail.tail.tail.tail.tail) ?_)
       exact Lv.to (H3_ ⟨p5, p20, cap20, cur20, p23, cap23, cur23, p, gf, cf, uf, gw, cw, uw⟩ ⟨⟨by simpa using hcp20, hlp20, by simpa using (by simpa using htp20)⟩, ⟨by simpa using hcp23, hlp23, by simpa using (by simpa using htp23)⟩, ⟨by simpa using hcf, hlf, by simpa using htf⟩, ⟨by simpa using hcw, hlw, by simpa using htw⟩⟩) (Sub.sel [2, 3, 5] rfl) (fun _ h => Own.pickT (hs := [_, _, _, _, _, _]) (hs' := [_, _, _, _, _, _]) h [0, 5, 4, 1, 2, 3] rfl (by decide))
      ·
       refine Ll.alloc rfl rfl rfl rfl Tryd.zeroValue61 fun p5_1 hp5_1 => ?_
       show Ll _ _ (Own _ _ [bk_ p5_1 #[.pointer none] 61, _, _, _, _]) _ _ ((5, pt_ p5_1) :: _) _ _ _
       refine Ll.nil (Lv.joint (fun _ h => h.tail.tail.tail) ?_)
       refine Lv.loud rfl ?_
       refine Ll.callNew (σ := Nat × Nat × Nat × Array Value × Nat × Nat × Array Value) (ok := fun (p, gf, cf, uf, gw, cw, uw) => (uf.size = cf * 1 ∧ (WL 0 a b k).length ≤ cf ∧ uf.toList.take (WL 0 a b k).length = bools (WL 0 a b k)) ∧ (uw.size = cw * 1 ∧ (WL 0 a b k).length ≤ cw ∧ uw.toList.take (WL 0 a b k).length = bools (WL 0 a b k))) (v := fun (p, gf, cf, uf, gw, cw, uw) => .pointer (some ⟨p, 0, none⟩)) (new := fun (p, gf, cf, uf, gw, cw, uw) => [bk_ p #[i6_ a.n, str a.set, str a.rel, i6_ b.n, str b.set, str b.rel, i6_ ((k : Int)), i6_ (((prN a b : Nat) : Int)), sl_ gf ((WL 0 a b k).length) cf, sl_ gw ((WL 0 a b k).length) cw, bo_ false] 66, bk_ gf uf 4, bk_ gw uw 4]) (hs := [bk_ p5_1 #[.pointer none] 61, bk_ p23 cur23 3, bk_ p20 cur20 3, bk_ p3 #[i6_ ((k : Int))] 3, bk_ p2 #[i6_ a.n, str a.set, str a.rel] 28]) (xs := [.tmp 18, .tmp 20, .tmp 21, .tmp 23]) (vs := [vS a, sl_ p20 ((bes k).length) cap20, vS b, sl_ p23 ((bes k).length) cap23]) rfl rfl rfl rfl Tryd.call56 rfl (fun w1 hw1 => (newPeb_yes a b (bes k) (bes k) (sl_ p20 ((bes k).length) cap20) (sl_ p23 ((bes k).length) cap23) w1 hsa hsb (Own.row hw1 (i := 2) rfl (by simpa using htp20) (by simp) hlp20) (Own.row hw1 (i := 1) rfl (by simpa using htp23) (by simp) hlp23) (by simp; omega) (by simp; omega) k (bes_len k) hr).mono fun en w' ⟨p, gf, cf, uf, gw, cw, uw, h1, h2, h3, h4⟩ => ⟨(p, gf, cf, uf, gw, cw, uw), h1, ⟨h2, h3⟩, hw1.merge h4⟩) fun ⟨p, gf, cf, uf, gw, cw, uw⟩ ⟨⟨hcf, hlf, htf⟩, ⟨hcw, hlw, htw⟩⟩ => ?_
       show Ll _ _ (Own _ _ [_, _, _, _, _, _, _, _]) _ _ ((24, pt_ p) :: _) _ _ _
       refine Ll.nil (Lv.joint (fun _ h => h.tail.tail.tail.tail.tail.tail) ?_)
       refine Lv.loud rfl ?_
       refine Ll.store1 (v := pt_ p) (hs' := [_, _, _, bk_ p5_1 #[pt_ p] 61, _, _, _, _]) 3 rfl rfl rfl rfl rfl rfl Tryd.sizeOf61 rfl (by simp) rfl ?_
       refine Ll.nil (Lv.joint (fun _ h => h.tail.tail.tail.tail.tail.tail) ?_)
       exact Lv.to (H3_ ⟨p5_1, p20, cap20, cur20, p23, cap23, cur23, p, gf, cf, uf, gw, cw, uw⟩ ⟨⟨by simpa using hcp20, hlp20, by simpa using (by simpa using htp20)⟩, ⟨by simpa using hcp23, hlp23, by simpa using (by simpa using htp23)⟩, ⟨by simpa using hcf, hlf, by simpa using htf⟩, ⟨by simpa using hcw, hlw, by simpa using htw⟩⟩) (Sub.sel [2, 3, 5] rfl) (fun _ h => Own.pickT (hs := [_, _, _, _, _, _]) (hs' := [_, _, _, _, _, _]) h [3, 5, 4, 0, 1, 2] rfl (by decide))
     ·
      refine Ll.alloc rfl rfl rfl rfl Tryd.zeroValue61 fun p5_2 hp5_2 => ?_
      show Ll _ _ (Own _ _ [bk_ p5_2 #[.pointer none] 61, _, _, _]) _ _ ((5, pt_ p5_2) :: _) _ _ _
      refine Ll.nil (Lv.joint (fun _ h => h.tail.tail) ?_)
      refine Lv.loud rfl ?_
      refine Ll.callRow (xs := [.tmp 22]) (m := (bes k).length) (vs := ints (bes k)) (el := 3) (size := 1) rfl rfl rfl rfl Tryd.call60 rfl (fun w1 hw1 => besides_ok k w1 (by omega)) fun p23_1 cap23_1 cur23_1 hp23_1 hcp23_1 hlp23_1 htp23_1 => ?_
      refine Ll.nil (Lv.joint (fun _ h => h.tail.tail.tail) ?_)
      refine Lv.loud rfl ?_
      refine Ll.callNew (σ := Nat × Nat × Nat × Array Value × Nat × Nat × Array Value) (ok := fun (p, gf, cf, uf, gw, cw, uw) => (uf.size = cf * 1 ∧ (WL 0 a b k).length ≤ cf ∧ uf.toList.take (WL 0 a b k).length = bools (WL 0 a b k)) ∧ (uw.size = cw * 1 ∧ (WL 0 a b k).length ≤ cw ∧ uw.toList.take (WL 0 a b k).length = bools (WL 0 a b k))) (v := fun (p, gf, cf, uf, gw, cw, uw) => .pointer (some ⟨p, 0, none⟩)) (new := fun (p, gf, cf, uf, gw, cw, uw) => [bk_ p #[i6_ a.n, str a.set, str a.rel, i6_ b.n, str b.set, str b.rel, i6_ ((k : Int)), i6_ (((prN a b : Nat) : Int)), sl_ gf ((WL 0 a b k).length) cf, sl_ gw ((WL 0 a b k).length) cw, bo_ false] 66, bk_ gf uf 4, bk_ gw uw 4]) (hs := [bk_ p23_1 cur23_1 3, bk_ p5_2 #[.pointer none] 61, bk_ p20 cur20 3, bk_ p3 #[i6_ ((k : Int))] 3, bk_ p2 #[i6_ a.n, str a.set, str a.rel] 28]) (xs := [.tmp 18, .tmp 20, .tmp 21, .tmp 23]) (vs := [vS a, sl_ p20 ((bes k).length) cap20, vS b, sl_ p23_1 ((bes k).length) cap23_1]) rfl rfl rfl rfl Tryd.call56 rfl (fun w1 hw1 => (newPeb_yes a b (bes k) (bes k) (sl_ p20 ((bes k).length) cap20) (sl_ p23_1 ((bes k).length) cap23_1) w1 hsa hsb (Own.row hw1 (i := 2) rfl (by simpa using htp20) (by simp) hlp20) (Own.row hw1 (i := 0) rfl (by simpa using htp23_1) (by simp) hlp23_1) (by simp; omega) (by simp; omega) k (bes_len k) hr).mono fun en w' ⟨p, gf, cf, uf, gw, cw, uw, h1, h2, h3, h4⟩ => ⟨(p, gf, cf, uf, gw, cw, uw), h1, ⟨h2, h3⟩, hw1.merge h4⟩) fun ⟨p, gf, cf, uf, gw, cw, uw⟩ ⟨⟨hcf, hlf, htf⟩, ⟨hcw, hlw, htw⟩⟩ => ?_
      show Ll _ _ (Own _ _ [_, _, _, _, _, _, _, _]) _ _ ((24, pt_ p) :: _) _ _ _
      refine Ll.nil (Lv.joint (fun _ h => h.tail.tail.tail.tail.tail.tail) ?_)
      refine Lv.loud rfl ?_
      refine Ll.store1 (v := pt_ p) (hs' := [_, _, _, _, bk_ p5_2 #[pt_ p] 61, _, _, _]) 4 rfl rfl rfl rfl rfl rfl Tryd.sizeOf61 rfl (by simp) rfl ?_
      refine Ll.nil (Lv.joint (fun _ h => h.tail.tail.tail.tail.tail.tail) ?_)
      exact Lv.to (H3_ ⟨p5_2, p20, cap20, cur20, p23_1, cap23_1, cur23_1, p, gf, cf, uf, gw, cw, uw⟩ ⟨⟨by simpa using hcp20, hlp20, by simpa using (by simpa using htp20)⟩, ⟨by simpa using hcp23_1, hlp23_1, by simpa using (by simpa using htp23_1)⟩, ⟨by simpa using hcf, hlf, by simpa using htf⟩, ⟨by simpa using hcw, hlw, by simpa using htw⟩⟩) (Sub.sel [2, 3, 5] rfl) (fun _ h => Own.pickT (hs := [_, _, _, _, _, _]) (hs' := [_, _, _, _, _, _]) h [4, 5, 3, 0, 1, 2] rfl (by decide))
    ·
     refine Ll.alloc rfl rfl rfl rfl Tryd.zeroValue61 fun p5_3 hp5_3 => ?_
     show Ll _ _ (Own _ _ [bk_ p5_3 #[.pointer none] 61, _, _]) _ _ ((5, pt_ p5_3) :: _) _ _ _
     refine Ll.nil (Lv.joint (fun _ h => h.tail) ?_)
     refine Lv.loud rfl ?_
     refine Ll.callRow (xs := [.tmp 19]) (m := (bes k).length) (vs := ints (bes k)) (el := 3) (size := 1) rfl rfl rfl rfl Tryd.call60 rfl (fun w1 hw1 => besides_ok k w1 (by omega)) fun p20_1 cap20_1 cur20_1 hp20_1 hcp20_1 hlp20_1 htp20_1 => ?_
     refine Ll.nil (Lv.joint (fun _ h => h.tail.tail) ?_)
     refine Lv.loud rfl ?_
     refine Ll.callRow (xs := [.tmp 22]) (m := (bes k).length) (vs := ints (bes k)) (el := 3) (size := 1) rfl rfl rfl rfl Tryd.call60 rfl (fun w1 hw1 => besides_ok k w1 (by omega)) fun p23_2 cap23_2 cur23_2 hp23_2 hcp23_2 hlp23_2 htp23_2 => ?_
     refine Ll.nil (Lv.joint (fun _ h => h.tail.tail.tail) ?_)
     refine Lv.loud rfl ?_
     refine Ll.callNew (σ := Nat × Nat × Nat × Array Value × Nat × Nat × Array Value) (ok := fun (p, gf, cf, uf, gw, cw, uw) => (uf.size = cf * 1 ∧ (WL 0 a b k).length ≤ cf ∧ uf.toList.take (WL 0 a b k).length = bools (WL 0 a b k)) ∧ (uw.size = cw * 1 ∧ (WL 0 a b k).length ≤ cw ∧ uw.toList.take (WL 0 a b k).length = bools (WL 0 a b k))) (v := fun (p, gf, cf, uf, gw, cw, uw) => .pointer (some ⟨p, 0, none⟩)) (new := fun (p, gf, cf, uf, gw, cw, uw) => [bk_ p #[i6_ a.n, str a.set, str a.rel, i6_ b.n, str b.set, str b.rel, i6_ ((k : Int)), i6_ (((prN a b : Nat) : Int)), sl_ gf ((WL 0 a b k).length) cf, sl_ gw ((WL 0 a b k).length) cw, bo_ false] 66, bk_ gf uf 4, bk_ gw uw 4]) (hs := [bk_ p23_2 cur23_2 3, bk_ p20_1 cur20_1 3, bk_ p5_3 #[.pointer none] 61, bk_ p3 #[i6_ ((k : Int))] 3, bk_ p2 #[i6_ a.n, str a.set, str a.rel] 28]) (xs := [.tmp 18, .tmp 20, .tmp 21, .tmp 23]) (vs := [vS a, sl_ p20_1 ((bes k).length) cap20_1, vS b, sl_ p23_2 ((bes k).length) cap23_2]) rfl rfl rfl rfl Tryd.call56 rfl (fun w1 hw1 => (newPeb_yes a b (bes k) (bes k) (sl_ p20_1 ((bes k).length) cap20_1) (sl_ p23_2 ((bes k).length) cap23_2) w1 hsa hsb (Own.row hw1 (i := 1) rfl (by simpa using htp20_1) (by simp) hlp20_1) (Own.row hw1 (i := 0) rfl (by simpa using htp23_2) (by simp) hlp23_2) (by simp; omega) (by simp; omega) k (bes_len k) hr).mono fun en w' ⟨p, gf, cf, uf, gw, cw, uw, h1, h2, h3, h4⟩ => ⟨(p, gf, cf, uf, gw, cw, uw), h1, ⟨h2, h3⟩, hw1.merge h4⟩) fun ⟨p, gf, cf, uf, gw, cw, uw⟩ ⟨⟨hcf, hlf, htf⟩, ⟨hcw, hlw, htw⟩⟩ => ?_
     show Ll _ _ (Own _ _ [_, _, _, _, _, _, _, _]) _ _ ((24, pt_ p) :: _) _ _ _
     refine Ll.nil (Lv.joint (fun _ h => h.tail.tail.tail.tail.tail.tail) ?_)
     refine Lv.loud rfl ?_
     refine Ll.store1 (v := pt_ p) (hs' := [_, _, _, _, _, bk_ p5_3 #[pt_ p] 61, _, _]) 5 rfl rfl rfl rfl rfl rfl Tryd.sizeOf61 rfl (by simp) rfl ?_
     refine Ll.nil (Lv.joint (fun _ h => h.tail.tail.tail.tail.tail.tail) ?_)
     exact Lv.to (H3_ ⟨p5_3, p20_1, cap20_1, cur20_1, p23_2, cap23_2, cur23_2, p, gf, cf, uf, gw, cw, uw⟩ ⟨⟨by simpa using hcp20_1, hlp20_1, by simpa using (by simpa using htp20_1)⟩, ⟨by simpa using hcp23_2, hlp23_2, by simpa using (by simpa using htp23_2)⟩, ⟨by simpa using hcf, hlf, by simpa using htf⟩, ⟨by simpa using hcw, hlw, by simpa using htw⟩⟩) (Sub.sel [2, 3, 5] rfl) (fun _ h => Own.pickT (hs := [_, _, _, _, _, _]) (hs' := [_, _, _, _, _, _]) h [5, 4, 3, 0, 1, 2] rfl (by decide))
  ·
   replace hg14 := of_decide_eq_true hg14
   refine Lq.pass rfl rfl rfl ?_
   refine Lq.pass rfl rfl rfl ?_
   refine Lq.run 1 rfl ?_
   refine Lq.nil ?_
   refine Kt.sel [2, 3, 17] [_, _, _] rfl ?_
   refine Wk.condT rfl ?_
   refine Wk.seq ?_
   refine Wk.regionQ ?_
   refine Lq.run 1 rfl ?_
   refine Lq.nil ?_
   refine Kt.sel [4] [_] rfl ?_
   refine Wk.ret (Kt.end1 rfl rfl fun w' hw => ?_)
   -- ret 2: i6_ (-1)
   exact ⟨ret_i (by unfold pebClsB inB; rw [if_neg (by simp_all; try omega)]), hw.below⟩
 ·
  replace hg10 := not_true hg10
  refine Lq.pass rfl rfl rfl ?_
  refine Lq.pass rfl rfl rfl ?_
  refine Lq.run 2 rfl ?_
  refine Lq.pass rfl rfl rfl ?_
  refine Lq.pass rfl rfl rfl ?_
  refine Lq.run 1 rfl ?_
  refine Lq.nil ?_
  refine Kt.sel [2, 3, 17] [_, _, _] rfl ?_
  refine Wk.condT rfl ?_
  refine Wk.seq ?_
  refine Wk.regionQ ?_
  refine Lq.run 1 rfl ?_
  refine Lq.nil ?_
  refine Kt.sel [4] [_] rfl ?_
  refine Wk.ret (Kt.end1 rfl rfl fun w' hw => ?_)
  -- ret 3: i6_ (-1)
  exact ⟨ret_i (by unfold pebClsB inB; rw [if_neg (by simp_all; try omega)]), hw.below⟩

theorem iPCls_ok (a : St) (q : Int) (w : World) (hsa : a.Small) :
    Calls Tryd.prog 31 #[vS a, .int .i64 q] w fun en w' => en = .returned (.int .i64 (pebClsB a q)) ∧ Below w.heap.size w w' := iPCls_at a a rfl q w hsa hsa

end Go.Proofs.YtjcoijejhachhaaDoor
