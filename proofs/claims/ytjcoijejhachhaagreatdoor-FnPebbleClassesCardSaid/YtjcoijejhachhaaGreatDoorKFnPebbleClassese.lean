/-
  FnPebbleClasses: all that its proof names (part 5)
-/
import Derived.Test.YtjcoijejhachhaaGreatDoorKFnPebbleClassesd
import Derived.Test.YtjcoijejhachhaaGreatDoorKFnPebbleClassesc
import Derived.Test.YtjcoijejhachhaaGreatDoorKFnPebbleClassesb
namespace Go.Proofs.YtjcoijejhachhaaGreatDoor
open Go.RowKit Go.Wk
set_option linter.unusedSimpArgs false
theorem number_full (B : Nat) (w0 : World) (hs : List (Nat × Obj)) (q c : Nat) (bs : List Bkt) (T : List (List UInt8)) (s : List UInt8) (w : World) (hT : TabOk bs T) (hlT : T.length ≤ 1000000) (hls : s.length ≤ 1000) (hw : Own B w0 (tabL 110 3 112 q c bs T ++ hs) w) :
    Calls Tryz.prog 65 [.agg #[.slice (some ⟨q, 0, none⟩) 997 997, .slice (some ⟨c, 0, none⟩) 1 1], str s].toArray w fun en w' => ∃ (n : Nat) (bs' : List Bkt) (T' : List (List UInt8)), en = .returned (.int .i64 (n : Int)) ∧ (TabTo T bs' T' 1 ∧ T'[n]? = some s ∧ (T' = T ∨ T' = T ++ [s] ∧ n = T.length)) ∧ Own B w0 (tabL 110 3 112 q c bs' T' ++ hs) w' := by
  have h997 := hash_lt s
  have hkl : hashS s < bs.length := by rw [hT.len]; exact h997
  cases hb : bs.getD (hashS s) none with
  | none =>
    refine (number_nil B w0 (blks 112 bs ++ hs) q c bs T s w hT hlT hls hb hw).mono fun en w' ⟨h1, h2, g', cap', cur', h3, h4, h5, h6⟩ => ?_
    refine ⟨T.length, bs.set (hashS s) (some (g', 1, cap', cur')), T ++ [s], h1, ⟨⟨hT.add h2 (by rw [hT.no _ h997 hb]; rfl) h3 h4 (by rw [hT.no _ h997 hb]; exact h5), List.prefix_append _ _, by simp⟩, by simp, .inr ⟨rfl, rfl⟩⟩, ?_⟩
    have hp := (blks_put (E := 112) (g := g') (m := 1) (cap := cap') (cur := cur') hkl)
    rw [blks_none hkl hb] at hp
    have e1 : ((T ++ [s]).length : Int) = (T.length : Int) + 1 := by simp
    show Own B w0 (_ :: (_, .cells #[.int .i64 ((T ++ [s]).length : Int)] _ (0, 0)) :: (blks _ _ ++ hs)) w'
    rw [e1]
    exact h6.perm ((perm_back [_] [_, _] _).trans (List.Perm.cons _ (List.Perm.cons _ ((hp.symm.append_right hs)))))
  | some b =>
    obtain ⟨g, m, cap, cur⟩ := b
    have hp := (blks_take (E := 112) hkl hb)
    have hw2 : Own B w0 ((g, .cells cur 112 (0, 0)) :: (q, .cells (bs.map bktV).toArray 110 (0, 0)) :: (c, .cells #[.int .i64 (T.length : Int)] 3 (0, 0)) :: (blks 112 (bs.set (hashS s) none) ++ hs)) w :=
      hw.perm ((List.Perm.cons _ (List.Perm.cons _ (hp.append_right hs))).trans (perm_back [_, _] [_] _))
    refine (number_some B w0 (blks 112 (bs.set (hashS s) none) ++ hs) q c bs T s w hT hlT hls g m cap cur hb hw2).mono fun en w' h => ?_
    rcases h with ⟨n, h1, h2, h3⟩ | ⟨h1, h2, g', cap', cur', h3, h4, h5, h6⟩
    · exact ⟨n, bs, T, h1, ⟨⟨hT, List.prefix_refl _, by omega⟩, h2, .inl rfl⟩, h3.perm ((perm_back [_] [_, _] _).trans (List.Perm.cons _ (List.Perm.cons _ (hp.symm.append_right hs))))⟩
    · refine ⟨T.length, bs.set (hashS s) (some (g', m + 1, cap', cur')), T ++ [s], h1, ⟨⟨hT.add h2 (by rw [(hT.yes _ h997 _ _ _ _ hb).1]) h3 h4 h5, List.prefix_append _ _, by simp⟩, by simp, .inr ⟨rfl, rfl⟩⟩, ?_⟩
      have hp2 := (blks_put (E := 112) (g := g') (m := m + 1) (cap := cap') (cur := cur') hkl)
      have e1 : ((T ++ [s]).length : Int) = (T.length : Int) + 1 := by simp
      show Own B w0 (_ :: (_, .cells #[.int .i64 ((T ++ [s]).length : Int)] _ (0, 0)) :: (blks _ _ ++ hs)) w'
      rw [e1]
      exact h6.perm ((perm_back [_] [_, _] _).trans (List.Perm.cons _ (List.Perm.cons _ (hp2.symm.append_right hs))))
set_option maxHeartbeats 400000 in
/-- spec.l7Index -/
theorem l7Index_ok (a : St) (va : Value) (xs : List Int) (w : World) (ha : a.Fine) (hva : Ints w va xs) (hP : Peb a.n.toNat xs.length xs) (hk3 : xs.length ≤ 3) :
    Calls Tryz.prog 24 [vS a, va].toArray w fun en w' => en = .returned (.int .i64 ((idxP a.n.toNat xs : Nat) : Int)) ∧ Below w.heap.size w w' := by
 refine fnStart (n := 25) (e := [(0, vS a), (1, va)]) Tryz.func24 rfl rfl rfl rfl Ends.both ?_
 have hm8 := ha.hi
 have hm1 := ha.lo
 refine Wk.seq ?_
 refine Wk.region ?_
 refine Ll.box (v := vS a) rfl rfl rfl rfl rfl fun p2 hp2 => ?_
 show Ll _ _ (Own _ _ [_]) _ _ ((2, pt_ p2) :: _) _ _ _
 refine Ll.run 1 rfl ?_
 refine Ll.nil ?_
 refine Kt.sel [1, 2] [_, _] rfl ?_
 refine Wk.seq ?_
 refine Wk.regionQ ?_
 refine Lq.run 1 rfl ?_
 refine Lq.nil ?_
 refine Kt.sel [1, 2, 5] [_, _, _] rfl ?_
 refine Wk.seq ?_
 refine Wk.seq ?_
 refine Wk.regionQ ?_
 refine Lq.run 1 rfl ?_
 refine Lq.nil ?_
 refine Kt.sel [1, 2, 5, 6] [_, _, _, _] rfl ?_
 refine Wk.block ?_
 refine Wk.loop (σ := Nat) (fun k => k ≤ xs.length) (fun k => [(1, va), (2, pt_ p2), (5, i6_ (((idxP a.n.toNat (xs.take k) : Nat) : Int))), (6, i6_ ((k : Int)))]) (fun k => Own w.heap.size w [bk_ p2 #[i6_ a.n, str a.set, str a.rel] 24]) (fun k => xs.length - k) (0) (by omega) (Sub.cons rfl (Sub.cons rfl (Sub.cons (by rfl) (Sub.sel [6] rfl)))) (fun _ h => h) ?_
 rintro k hk
 have hsm := idx_small (peb_take hP hk) (by omega) (by omega)
 have hpm := mul9 (x := a.n + 1) (show idxP a.n.toNat (xs.take k) ≤ 729 by omega) (by omega) (by omega)
 refine Wk.seq ?_
 refine Wk.seq ?_
 refine Wk.regionQ ?_
 refine Lq.run 2 rfl ?_
 refine Lq.op (v := i6_ ((xs.length : Int))) rfl rfl rfl (OpQ.lenRow rfl Tryz.runUnderlying28 rfl (ints_length _) (fun w1 hw1 => Row.own hva hw1)) ?_
 refine Lq.run 1 rfl ?_
 refine Lq.nil ?_
 refine Kt.sel [1, 2, 5, 6, 10] [_, _, _, _, _] rfl ?_
 refine Wk.cond (b := decide (((k : Int)) < ((xs.length : Int)))) rfl (fun h10 => ?_) (fun h10 => ?_)
 ·
  replace h10 := of_decide_eq_true h10
  have hkl : k < xs.length := by omega
  have hxa := peb_at hP hkl
  have hxa2 : -1 ≤ xs.getD ((k : Int)).toNat 0 ∧ xs.getD ((k : Int)).toNat 0 < ((a.n.toNat : Nat) : Int) := hxa
  refine Wk.skip ?_
  refine Kt.sel [1, 2, 5, 6] [_, _, _, _] rfl ?_
  refine Wk.seq ?_
  refine Wk.block ?_
  refine Wk.regionD Base.mixed (fun _ h => h.drawn) (by kernel_rfl) ?_
  refine Lq.run 1 rfl ?_
  refine Lq.op rfl rfl rfl (OpQ.fieldAddr rfl Tryz.runUnderlying24 rfl Tryz.sizeOf3 rfl rfl) ?_
  refine Lq.op rfl rfl rfl (OpQ.loadOwn 0 rfl Tryz.isAgg3 rfl rfl rfl) ?_
  refine Lq.op rfl rfl rfl (OpQ.add rfl rfl rfl (by omega) (by omega)) ?_
  refine Lq.op rfl rfl rfl (OpQ.mul rfl rfl rfl (by omega) (by omega)) ?_
  refine Lq.run 2 rfl ?_
  refine Lq.op (v := .pointer (some (sAt va ((k : Int))))) rfl rfl rfl (OpQ.atRow rfl Tryz.runUnderlying28 Tryz.sizeOf3 rfl rfl (by omega) (by rw [ints_length]; omega) (fun w1 hw1 => Row.own hva hw1)) ?_
  refine Lq.op (v := i6_ (xs.getD (((k : Int)).toNat) 0)) rfl rfl rfl (OpQ.load1 rfl Tryz.isAgg3 rfl (fun w1 hw1 => Ints.cell (Row.own hva hw1) (by omega) (by omega))) ?_
  refine Lq.op rfl rfl rfl (OpQ.add rfl rfl rfl (by omega) (by omega)) ?_
  refine Lq.op rfl rfl rfl (OpQ.add rfl rfl rfl (by omega) (by omega)) ?_
  refine Lq.run 1 rfl ?_
  refine Lq.nil ?_
  refine Kt.sel [1, 2, 5, 6] [_, _, _, _] rfl ?_
  refine Wk.regionQ ?_
  refine Lq.run 1 rfl ?_
  refine Lq.op rfl rfl rfl (OpQ.add rfl rfl rfl (by omega) (by omega)) ?_
  refine Lq.run 1 rfl ?_
  refine Lq.nil ?_
  refine Kt.again (k + 1) (by omega) (by omega) (Sub.cons rfl (Sub.cons rfl (Sub.cons (by rw [idx_take hkl hxa.1, show ((a.n.toNat : Nat) : Int) = a.n from by omega]; rfl) (Sub.sel [6] rfl)))) (fun _ h => h)
 ·
  replace h10 := of_decide_eq_false h10
  have hke : xs.take k = xs := List.take_of_length_le (by omega)
  refine Wk.exit rfl ?_
  refine Kt.sel [5] [_] rfl ?_
  refine Wk.seq ?_
  refine Wk.regionQ ?_
  refine Lq.run 2 rfl ?_
  refine Lq.nil ?_
  refine Kt.sel [4] [_] rfl ?_
  refine Wk.ret (Kt.end1 rfl rfl fun w' hw => ?_)
  exact ⟨ret_i (by rw [hke]), hw.below⟩
set_option maxHeartbeats 400000 in
/-- spec.l7Count -/
theorem l7Count_ok (a : St) (k : Nat) (w : World) (ha : a.Fine) (hk3 : k ≤ 3) :
    Calls Tryz.prog 64 [vS a, i6_ ((k : Int))].toArray w fun en w' => en = .returned (.int .i64 (((a.n.toNat + 1) ^ k : Nat) : Int)) ∧ Below w.heap.size w w' := by
 refine fnStart (n := 18) (e := [(0, vS a), (1, i6_ ((k : Int)))]) Tryz.func64 rfl rfl rfl rfl Ends.both ?_
 have hm8 := ha.hi
 have hm1 := ha.lo
 refine Wk.seq ?_
 refine Wk.region ?_
 refine Ll.box (v := vS a) rfl rfl rfl rfl rfl fun p2 hp2 => ?_
 show Ll _ _ (Own _ _ [_]) _ _ ((2, pt_ p2) :: _) _ _ _
 refine Ll.run 1 rfl ?_
 refine Ll.nil ?_
 refine Kt.sel [1, 2] [_, _] rfl ?_
 refine Wk.seq ?_
 refine Wk.regionQ ?_
 refine Lq.run 1 rfl ?_
 refine Lq.nil ?_
 refine Kt.sel [1, 2, 5] [_, _, _] rfl ?_
 refine Wk.seq ?_
 refine Wk.seq ?_
 refine Wk.regionQ ?_
 refine Lq.run 1 rfl ?_
 refine Lq.nil ?_
 refine Kt.sel [1, 2, 5, 6] [_, _, _, _] rfl ?_
 refine Wk.block ?_
 refine Wk.loop (σ := Nat) (fun j => j ≤ k) (fun j => [(1, i6_ ((k : Int))), (2, pt_ p2), (5, i6_ ((((a.n.toNat + 1) ^ j : Nat) : Int))), (6, i6_ ((j : Int)))]) (fun j => Own w.heap.size w [bk_ p2 #[i6_ a.n, str a.set, str a.rel] 24]) (fun j => k - j) (0) (by omega) (Sub.cons rfl (Sub.cons rfl (Sub.cons (by rfl) (Sub.sel [6] rfl)))) (fun _ h => h) ?_
 rintro j hj
 have hpw := pow9 (size := a.n.toNat) (k := j) (by omega) (by omega)
 have hpm := mul9 (x := a.n + 1) hpw (by omega) (by omega)
 refine Wk.seq ?_
 refine Wk.seq ?_
 refine Wk.regionQ ?_
 refine Lq.run 3 rfl ?_
 refine Lq.nil ?_
 refine Kt.sel [1, 2, 5, 6, 9] [_, _, _, _, _] rfl ?_
 refine Wk.cond (b := decide (((j : Int)) < ((k : Int)))) rfl (fun h9 => ?_) (fun h9 => ?_)
 ·
  replace h9 := of_decide_eq_true h9
  refine Wk.skip ?_
  refine Kt.sel [1, 2, 5, 6] [_, _, _, _] rfl ?_
  refine Wk.seq ?_
  refine Wk.block ?_
  refine Wk.regionQ ?_
  refine Lq.run 1 rfl ?_
  refine Lq.op rfl rfl rfl (OpQ.fieldAddr rfl Tryz.runUnderlying24 rfl Tryz.sizeOf3 rfl rfl) ?_
  refine Lq.op rfl rfl rfl (OpQ.loadOwn 0 rfl Tryz.isAgg3 rfl rfl rfl) ?_
  refine Lq.op rfl rfl rfl (OpQ.add rfl rfl rfl (by omega) (by omega)) ?_
  refine Lq.op rfl rfl rfl (OpQ.mul rfl rfl rfl (by omega) (by omega)) ?_
  refine Lq.run 1 rfl ?_
  refine Lq.nil ?_
  refine Kt.sel [1, 2, 5, 6] [_, _, _, _] rfl ?_
  refine Wk.regionQ ?_
  refine Lq.run 1 rfl ?_
  refine Lq.op rfl rfl rfl (OpQ.add rfl rfl rfl (by omega) (by omega)) ?_
  refine Lq.run 1 rfl ?_
  refine Lq.nil ?_
  refine Kt.again (j + 1) (by omega) (by omega) (Sub.cons rfl (Sub.cons rfl (Sub.cons (by rw [pow_cast1 (by omega)]; rfl) (Sub.sel [6] rfl)))) (fun _ h => h)
 ·
  replace h9 := of_decide_eq_false h9
  refine Wk.exit rfl ?_
  refine Kt.sel [5] [_] rfl ?_
  refine Wk.seq ?_
  refine Wk.regionQ ?_
  refine Lq.run 2 rfl ?_
  refine Lq.nil ?_
  refine Kt.sel [4] [_] rfl ?_
  refine Wk.ret (Kt.end1 rfl rfl fun w' hw => ?_)
  exact ⟨ret_i (by rw [show j = k from by omega]), hw.below⟩
set_option maxHeartbeats 400000 in
/-- spec.l7Put -/
theorem l7Put_ok (va : Value) (xs : List Int) (i : Nat) (x : Int) (w : World) (hva : Ints w va xs) (hi : i < xs.length) (hs : xs.length ≤ 1000) :
    Calls Tryz.prog 25 [va, i6_ ((i : Int)), i6_ x].toArray w fun en w' => ∃ v, en = .returned v ∧ Below w.heap.size w w' ∧ NewRow w.heap.size 3 1 w' v xs.length (ints (xs.set i x)) := by
 refine fnStart (n := 16) (e := [(0, va), (1, i6_ ((i : Int))), (2, i6_ x)]) Tryz.func25 rfl rfl rfl rfl Ends.both ?_
 refine Wk.seq ?_
 refine Wk.regionQ ?_
 refine Lq.run 1 rfl ?_
 refine Lq.nil ?_
 refine Kt.sel [0, 1, 2] [_, _, _] rfl ?_
 refine Wk.seq ?_
 refine Wk.region ?_
 refine Ll.slice (xs := []) (vs := []) Base.elem28 rfl rfl rfl rfl rfl rfl (by decide) rfl fun p8 hp8 => ?_
 refine Ll.run 1 rfl ?_
 refine Ll.appendInts (xs := []) (ys := xs) Base.elem28 0 rfl rfl rfl rfl rfl rfl rfl rfl (by decide) rfl (fun w1 hw1 => (Row.own hva hw1)) ((xs).length) (by first | (simp; done) | (simp; omega)) (by first | (simp; done) | (simp; omega) | omega) fun p10 cap10 cur10 hp10 hcp10 hlp10 htp10 => ?_
 show Ll _ _ (Own _ _ [_]) _ _ ((10, sl_ p10 (((xs).length)) cap10) :: _) _ _ _
 refine Ll.run 1 rfl ?_
 refine Ll.nil ?_
 refine Kt.sel [1, 2, 7] [_, _, _] rfl ?_
 refine Wk.seq ?_
 refine Wk.region ?_
 refine Ll.run 3 rfl ?_
 refine Ll.op (v := pf_ p10 (0 + ((i : Int)).toNat)) rfl rfl rfl (OpQ.indexAddr1 rfl Tryz.runUnderlying28 Tryz.sizeOf3 rfl rfl (by omega) (by omega)) ?_
 refine Ll.store1 (v := i6_ x) (hs' := [bk_ p10 ((cur10.setIfInBounds (((i : Int)).toNat) (i6_ x))) 3]) 0 rfl rfl rfl rfl rfl rfl Tryz.sizeOf3 rfl (by rw [hcp10]; omega) (by simp only [Nat.zero_add]; rfl) ?_
 refine Ll.nil ?_
 refine Kt.sel [7] [_] rfl ?_
 refine Wk.seq ?_
 refine Wk.regionQ ?_
 refine Lq.run 2 rfl ?_
 refine Lq.nil ?_
 refine Kt.sel [6] [_] rfl ?_
 refine Wk.ret (Kt.end1 rfl rfl fun w' hw => ?_)
 exact ⟨_, rfl, hw.below, hw.newRow (i := 0) (n := _) rfl (by simpa using hcp10) (by simpa using hlp10) (by simpa using set_takeI (by simpa using htp10))⟩
set_option maxHeartbeats 400000 in
/-- spec.l7At -/
theorem l7At_ok (a : St) (n k : Nat) (w : World) (ha : a.Fine) (hn : n ≤ 1000000) (hk3 : k ≤ 3) :
    Calls Tryz.prog 67 [vS a, i6_ ((n : Int)), i6_ ((k : Int))].toArray w fun en w' => ∃ v, en = .returned v ∧ Below w.heap.size w w' ∧ NewRow w.heap.size 3 1 w' v k (ints (atP a.n.toNat k n)) := by
 refine fnStart (n := 32) (e := [(0, vS a), (1, i6_ ((n : Int))), (2, i6_ ((k : Int)))]) Tryz.func67 rfl rfl rfl rfl Ends.both ?_
 have hm8 := ha.hi
 have hm1 := ha.lo
 have hsz : a.n + 1 = ((a.n.toNat + 1 : Nat) : Int) := by omega
 refine Wk.seq ?_
 refine Wk.region ?_
 refine Ll.box (v := vS a) rfl rfl rfl rfl rfl fun p3 hp3 => ?_
 show Ll _ _ (Own _ _ [_]) _ _ ((3, pt_ p3) :: _) _ _ _
 refine Ll.run 1 rfl ?_
 refine Ll.nil ?_
 refine Kt.sel [1, 2, 3] [_, _, _] rfl ?_
 refine Wk.seq ?_
 refine Wk.region ?_
 refine Ll.run 1 rfl ?_
 refine Ll.make (k := k) Base.elem28 Tryz.zeroValue3 rfl rfl rfl rfl rfl (by omega) fun p10 hp10 => ?_
 rw [show madeCells (Value.cells (i6_ 0)) (k * 1) = (ints (List.replicate k 0)).toArray from made_ints _]
 refine Ll.run 1 rfl ?_
 refine Ll.nil ?_
 refine Kt.sel [1, 2, 3, 7] [_, _, _, _] rfl ?_
 refine Wk.seq ?_
 refine Wk.seq ?_
 refine Wk.regionQ ?_
 refine Lq.run 1 rfl ?_
 refine Lq.op rfl rfl rfl (OpQ.sub rfl rfl rfl (by omega) (by omega)) ?_
 refine Lq.run 1 rfl ?_
 refine Lq.nil ?_
 refine Kt.sel [1, 3, 7, 8] [_, _, _, _] rfl ?_
 refine Wk.block ?_
 refine Wk.loop (σ := Nat × Nat × List Int) (fun ⟨j, N, T⟩ => j ≤ k ∧ N ≤ n ∧ atP a.n.toNat k n = atP a.n.toNat j N ++ T ∧ T.length + j = k) (fun ⟨j, N, T⟩ => [(1, i6_ ((N : Int))), (3, pt_ p3), (7, sl_ p10 k k), (8, i6_ ((j : Int) - 1))]) (fun ⟨j, N, T⟩ => Own w.heap.size w [bk_ p10 ((ints (List.replicate j 0 ++ T)).toArray) 3, bk_ p3 #[i6_ a.n, str a.set, str a.rel] 24]) (fun ⟨j, N, T⟩ => j) ((k, n, [])) ⟨by omega, Nat.le_refl _, by simp, by simp⟩ (Sub.sel [1, 3, 7, 8] rfl) (fun _ h => by dsimp only; rw [List.append_nil]; exact h) ?_
 rintro ⟨j, N, T⟩ ⟨hj, hN, ho, hTl⟩
 dsimp only
 refine Wk.seq ?_
 refine Wk.seq ?_
 refine Wk.regionQ ?_
 refine Lq.run 2 rfl ?_
 refine Lq.nil ?_
 refine Kt.sel [1, 3, 7, 8, 14] [_, _, _, _, _] rfl ?_
 refine Wk.cond (b := decide ((0 : Int) ≤ ((j : Int) - 1))) rfl (fun h14 => ?_) (fun h14 => ?_)
 ·
  replace h14 := of_decide_eq_true h14
  have hj0 : 0 < j := by omega
  have hmd := Nat.mod_lt N (show 0 < a.n.toNat + 1 by omega)
  have hdv := Nat.div_le_self N (a.n.toNat + 1)
  refine Wk.skip ?_
  refine Kt.sel [1, 3, 7, 8] [_, _, _, _] rfl ?_
  refine Wk.seq ?_
  refine Wk.block ?_
  refine Wk.seq ?_
  refine Wk.region ?_
  refine Ll.run 3 rfl ?_
  refine Ll.op rfl rfl rfl (OpQ.fieldAddr rfl Tryz.runUnderlying24 rfl Tryz.sizeOf3 rfl rfl) ?_
  refine Ll.op rfl rfl rfl (OpQ.loadOwn 1 rfl Tryz.isAgg3 rfl rfl rfl) ?_
  refine Ll.op rfl rfl rfl (OpQ.add rfl rfl rfl (by omega) (by omega)) ?_
  refine Ll.op (v := i6_ (((N % (a.n.toNat + 1) : Nat) : Int))) rfl rfl rfl (OpQ.cast (by congr 1; rw [hsz]; rfl) (OpQ.rem rfl rfl rfl (by omega) (by omega))) ?_
  refine Ll.op rfl rfl rfl (OpQ.sub rfl rfl rfl (by omega) (by omega)) ?_
  refine Ll.op (v := pf_ p10 (j - 1)) rfl rfl rfl (OpQ.cast (by rw [show 0 + ((j : Int) - 1).toNat = j - 1 from by omega]) (OpQ.indexAddr1 rfl Tryz.runUnderlying28 Tryz.sizeOf3 rfl rfl (by omega) (by omega))) ?_
  refine Ll.store1 (v := i6_ ((((N % (a.n.toNat + 1) : Nat) : Int)) - (1 : Int))) (hs' := [bk_ p10 ((ints ((List.replicate j 0 ++ T).set (j - 1) ((((N % (a.n.toNat + 1) : Nat) : Int)) - (1 : Int)))).toArray) 3, _]) 0 rfl rfl rfl rfl rfl rfl Tryz.sizeOf3 rfl (by show _ < (ints (List.replicate j 0 ++ T)).length; rw [ints_length, List.length_append, List.length_replicate]; omega) (by first | (rw [ints_set]; rfl) | (simp only [Nat.zero_add]; rw [ints_set]; rfl)) ?_
  refine Ll.nil ?_
  refine Kt.sel [1, 3, 7, 8] [_, _, _, _] rfl ?_
  refine Wk.regionQ ?_
  refine Lq.run 1 rfl ?_
  refine Lq.op rfl rfl rfl (OpQ.fieldAddr rfl Tryz.runUnderlying24 rfl Tryz.sizeOf3 rfl rfl) ?_
  refine Lq.op rfl rfl rfl (OpQ.loadOwn 1 rfl Tryz.isAgg3 rfl rfl rfl) ?_
  refine Lq.op rfl rfl rfl (OpQ.add rfl rfl rfl (by omega) (by omega)) ?_
  refine Lq.op (v := i6_ (((N / (a.n.toNat + 1) : Nat) : Int))) rfl rfl rfl (OpQ.cast (by congr 1; rw [hsz]; rfl) (OpQ.quo rfl rfl rfl (by omega) (by omega) (by omega))) ?_
  refine Lq.run 1 rfl ?_
  refine Lq.nil ?_
  refine Kt.sel [1, 3, 7, 8] [_, _, _, _] rfl ?_
  refine Wk.regionQ ?_
  refine Lq.run 1 rfl ?_
  refine Lq.op rfl rfl rfl (OpQ.sub rfl rfl rfl (by omega) (by omega)) ?_
  refine Lq.run 1 rfl ?_
  refine Lq.nil ?_
  refine Kt.again ((j - 1, N / (a.n.toNat + 1), (((N % (a.n.toNat + 1) : Nat) : Int) - 1) :: T)) ⟨by omega, Nat.le_trans (Nat.div_le_self _ _) hN, by rw [ho, atP_step (by omega)]; simp, by rw [List.length_cons]; omega⟩ (by dsimp only; omega) (Sub.cons rfl (Sub.cons rfl (Sub.cons rfl (Sub.cons (by dsimp only; rw [show ((j - 1 : Nat) : Int) - 1 = (j : Int) - 1 - (1 : Int) from by omega]; rfl) Sub.nil)))) (fun _ h => by rw [← rep_set2 (by omega)]; exact h)
 ·
  replace h14 := of_decide_eq_false h14
  refine Wk.exit rfl ?_
  refine Kt.sel [7] [_] rfl ?_
  refine Wk.seq ?_
  refine Wk.regionQ ?_
  refine Lq.run 2 rfl ?_
  refine Lq.nil ?_
  refine Kt.sel [6] [_] rfl ?_
  refine Wk.ret (Kt.end1 rfl rfl fun w' hw => ?_)
  obtain rfl : j = 0 := by omega
  have hT : atP a.n.toNat k n = T := by rw [ho]; rfl
  exact ⟨_, rfl, hw.below, by rw [hT]; exact hw.newRow (i := 0) (n := _) rfl (row_full_size (by omega)) (Nat.le_refl _) (row_full (by omega))⟩
set_option maxHeartbeats 400000 in
/-- spec.l7Start -/
theorem l7Start_ok (B : Nat) (w0 : World) (hs : List (Nat × Obj)) (q c : Nat) (bs : List Bkt) (T : List (List UInt8)) (a : St) (k : Nat) (w : World) (hT : TabOk bs T) (hv : validB a = true) (h1 : 1 ≤ k) (hk3 : k ≤ 3) (hcap : T.length + ((a.n.toNat + 1) ^ k : Nat) ≤ 1000000) (hw : Own B w0 (tabL 110 3 112 q c bs T ++ hs) w) :
    Calls Tryz.prog 43 [.agg #[sl_ q 997 997, sl_ c 1 1], vS a, i6_ ((k : Int))].toArray w fun en w' => ∃ (g : Nat) (R' : List Int) (bs' : List Bkt) (T' : List (List UInt8)), en = .returned (.slice (some ⟨g, 0, none⟩) ((a.n.toNat + 1) ^ k : Nat) ((a.n.toNat + 1) ^ k : Nat)) ∧ (TabTo T bs' T' ((a.n.toNat + 1) ^ k : Nat) ∧ NumOf T' (text0 a k) R' ((a.n.toNat + 1) ^ k : Nat) ∧ Onto T T' R' ((a.n.toNat + 1) ^ k : Nat)) ∧ Own B w0 ((g, .cells (ints R').toArray 3 (0, 0)) :: (tabL 110 3 112 q c bs' T' ++ hs)) w' := by
 refine fnStartC (Own B w0 (tabL 110 3 112 q c bs T ++ hs)) (n := 31) (e := [(0, .agg #[sl_ q 997 997, sl_ c 1 1]), (1, vS a), (2, i6_ ((k : Int)))]) Tryz.func43 rfl rfl rfl rfl Ends.both hw ?_
 have ha := validB_fine hv
 have hm8 := ha.hi
 have hm1 := ha.lo
 have hm8n : a.n.toNat ≤ 8 := by omega
 have hp9 := pow9 (size := a.n.toNat) (k := k) (by omega) hk3
 refine Wk.seq ?_
 refine Wk.region ?_
 refine Ll.box (v := .agg #[sl_ q 997 997, sl_ c 1 1]) rfl rfl rfl rfl rfl fun p3 hp3 => ?_
 show Ll _ _ (Own _ _ (_ :: _ :: _ :: ((blks 112 bs ++ hs)))) _ _ ((3, pt_ p3) :: _) _ _ _
 refine Ll.box (v := vS a) rfl rfl rfl rfl rfl fun p4 hp4 => ?_
 show Ll _ _ (Own _ _ (_ :: _ :: _ :: _ :: ((blks 112 bs ++ hs)))) _ _ ((4, pt_ p4) :: _) _ _ _
 refine Ll.run 1 rfl ?_
 refine Ll.nil ?_
 refine Kt.sel [2, 3, 4] [_, _, _] rfl ?_
 refine Wk.seq ?_
 refine Wk.region ?_
 refine Ll.op rfl rfl rfl (OpQ.loadBox (cs := #[i6_ a.n, str a.set, str a.rel]) 0 rfl Tryz.isAgg24 rfl rfl Tryz.sizeOf24) ?_
 refine Ll.run 1 rfl ?_
 refine Ll.op (v := i6_ ((((a.n.toNat + 1) ^ k : Nat) : Int))) rfl rfl rfl (OpQ.call rfl Tryz.call64 rfl Own.stable (fun w1 hw1 => l7Count_ok a k w1 ha hk3)) ?_
 refine Ll.make (k := ((a.n.toNat + 1) ^ k : Nat)) Base.elem28 Tryz.zeroValue3 rfl rfl rfl rfl rfl (by omega) fun p12 hp12 => ?_
 rw [show madeCells (Value.cells (i6_ 0)) (((a.n.toNat + 1) ^ k : Nat) * 1) = (ints (List.replicate (((a.n.toNat + 1) ^ k : Nat)) 0)).toArray from made_ints _]
 refine Ll.run 1 rfl ?_
 refine Ll.nil ?_
 refine Kt.sel [2, 3, 4, 7] [_, _, _, _] rfl ?_
 refine Wk.seq ?_
 refine Wk.seq ?_
 refine Wk.regionQ ?_
 refine Lq.run 1 rfl ?_
 refine Lq.nil ?_
 refine Kt.sel [2, 3, 4, 7, 8] [_, _, _, _, _] rfl ?_
 refine Wk.block ?_
 refine Wk.loop (σ := Nat × List Bkt × List (List UInt8) × List Int) (fun ⟨n, bs1, T1, R'⟩ => n ≤ ((a.n.toNat + 1) ^ k : Nat) ∧ TabTo T bs1 T1 n ∧ NumTo T1 (text0 a k) R' ((a.n.toNat + 1) ^ k : Nat) n ∧ Onto T T1 R' n) (fun ⟨n, bs1, T1, R'⟩ => [(2, i6_ ((k : Int))), (3, pt_ p3), (4, pt_ p4), (7, sl_ p12 (((a.n.toNat + 1) ^ k : Nat)) (((a.n.toNat + 1) ^ k : Nat))), (8, i6_ ((n : Int)))]) (fun ⟨n, bs1, T1, R'⟩ => Own B w0 (bk_ p12 ((ints R').toArray) 3 :: bk_ p4 #[i6_ a.n, str a.set, str a.rel] 24 :: bk_ p3 #[sl_ q 997 997, sl_ c 1 1] 72 :: bk_ q ((bs1.map bktV).toArray) 110 :: bk_ c #[i6_ ((T1.length : Int))] 3 :: ((blks 112 bs1 ++ hs)))) (fun ⟨n, bs1, T1, R'⟩ => ((a.n.toNat + 1) ^ k : Nat) - n) ((0, bs, T, List.replicate ((a.n.toNat + 1) ^ k : Nat) 0)) ⟨by omega, ⟨hT, List.prefix_refl _, by omega⟩, NumTo.zero _ _ _, Onto.zero _ _⟩ (Sub.sel [2, 3, 4, 7, 8] rfl) (fun _ h => h) ?_
 rintro ⟨n, bs1, T1, R'⟩ ⟨hn, hTT, hN, hO⟩
 dsimp only
 have hTl := hTT.len
 have hRl := hN.1
 refine Wk.seq ?_
 refine Wk.seq ?_
 refine Wk.regionQ ?_
 refine Lq.run 2 rfl ?_
 refine Lq.op rfl rfl rfl (OpQ.lenS rfl Tryz.runUnderlying28 rfl) ?_
 refine Lq.run 1 rfl ?_
 refine Lq.nil ?_
 refine Kt.sel [2, 3, 4, 7, 8, 16] [_, _, _, _, _, _] rfl ?_
 refine Wk.cond (b := decide (((n : Int)) < ((((a.n.toNat + 1) ^ k : Nat) : Int)))) rfl (fun h16 => ?_) (fun h16 => ?_)
 ·
  replace h16 := of_decide_eq_true h16
  have Pa := peb_pebbles hv h1 hk3 n
  have hPl := atP_len a.n.toNat k n
  refine Wk.skip ?_
  refine Kt.sel [2, 3, 4, 7, 8] [_, _, _, _, _] rfl ?_
  refine Wk.seq ?_
  refine Wk.block ?_
  refine Wk.regionS (S := Own B w0 [bk_ p4 #[i6_ a.n, str a.set, str a.rel] 24, bk_ p3 #[sl_ q 997 997, sl_ c 1 1] 72]) [(0, true), (1, true), (2, true), (3, true), (4, true), (5, true), (6, true), (7, false), (8, false), (9, false), (10, true), (11, false)] Base.mixed (fun _ h => h.drawn) (by kernel_rfl) ?_
  refine Ld.run 2 rfl (pk [1, 2] rfl rfl) ?_
  refine Ld.take rfl rfl rfl rfl rfl (OpQ.loadBox (cs := #[sl_ q 997 997, sl_ c 1 1]) 1 rfl Tryz.isAgg72 rfl rfl Tryz.sizeOf72) (pk [1, 2] rfl rfl) ?_
  refine Ld.take rfl rfl rfl rfl rfl (OpQ.loadBox (cs := #[i6_ a.n, str a.set, str a.rel]) 0 rfl Tryz.isAgg24 rfl rfl Tryz.sizeOf24) (pk [1, 2] rfl rfl) ?_
  refine Ld.take rfl rfl rfl rfl rfl (OpQ.loadBox (cs := #[i6_ a.n, str a.set, str a.rel]) 0 rfl Tryz.isAgg24 rfl rfl Tryz.sizeOf24) (pk [1, 2] rfl rfl) ?_
  refine Ld.run 2 rfl (pk [1, 2] rfl rfl) ?_
  refine Ld.loud rfl ?_
  refine Ll.callRow (xs := [.tmp 23, .tmp 24, .tmp 25]) (m := k) (vs := ints (atP a.n.toNat k n)) (el := 3) (size := 1) rfl rfl rfl rfl Tryz.call67 rfl (fun w1 hw1 => l7At_ok a n k w1 ha (by omega) hk3) fun p26 cap26 cur26 hp26 hcp26 hlp26 htp26 => ?_
  refine Ll.nil (Ld.joint (pk [2, 3] rfl rfl) ?_)
  refine Ld.loud rfl ?_
  refine Ll.op (v := str (signT (atP a.n.toNat k n) (atP a.n.toNat k n).length ++ atomBits a (placed (atP a.n.toNat k n) (atP a.n.toNat k n).length))) rfl rfl rfl (OpQ.call rfl Tryz.call66 rfl Own.stable (fun w1 hw1 => l7Atoms_ok a (sl_ p26 k cap26) (atP a.n.toNat k n) w1 Pa (Own.row hw1 (i := 0) rfl (by simpa using htp26) (by simp) hlp26))) ?_
  refine Ll.nil (Ld.joint (pk [2, 3] rfl rfl) ?_)
  refine Ld.loud rfl ?_
  refine Ll.callTab (S := 110) (I := 3) (E := 112) (q := q) (c := c) (bs := bs1) (T := T1) (hs := hs) (ok := fun m bs' T' => TabTo T1 bs' T' 1 ∧ T'[m]? = some (signT (atP a.n.toNat k n) (atP a.n.toNat k n).length ++ atomBits a (placed (atP a.n.toNat k n) (atP a.n.toNat k n).length)) ∧ (T' = T1 ∨ T' = T1 ++ [(signT (atP a.n.toNat k n) (atP a.n.toNat k n).length ++ atomBits a (placed (atP a.n.toNat k n) (atP a.n.toNat k n).length))] ∧ m = T1.length)) (xs := [.tmp 21, .tmp 27]) (vs := [.agg #[sl_ q 997 997, sl_ c 1 1], str (signT (atP a.n.toNat k n) (atP a.n.toNat k n).length ++ atomBits a (placed (atP a.n.toNat k n) (atP a.n.toNat k n).length))]) [bk_ p26 cur26 3, bk_ p12 ((ints R').toArray) 3, bk_ p4 #[i6_ a.n, str a.set, str a.rel] 24, bk_ p3 #[sl_ q 997 997, sl_ c 1 1] 72] rfl rfl rfl rfl Tryz.call65 rfl (fun w1 hw1 => number_full B w0 ([bk_ p26 cur26 3, bk_ p12 ((ints R').toArray) 3, bk_ p4 #[i6_ a.n, str a.set, str a.rel] 24, bk_ p3 #[sl_ q 997 997, sl_ c 1 1] 72] ++ hs) q c bs1 T1 (signT (atP a.n.toNat k n) (atP a.n.toNat k n).length ++ atomBits a (placed (atP a.n.toNat k n) (atP a.n.toNat k n).length)) w1 hTT.ok (by omega) (by rw [List.length_append, signT_length, atP_len]; have := placed_le (atP a.n.toNat k n) k; have h9 := bits_small (a := a) (xs := placed (atP a.n.toNat k n) k) (i := (placed (atP a.n.toNat k n) k).length) (by omega); unfold atomBits; omega) hw1) fun m bs_ T_ hKm => ?_
  show Ll _ _ (Own _ _ (_ :: _ :: _ :: _ :: _ :: _ :: ((blks 112 bs_ ++ hs)))) _ _ ((28, i6_ ((m : Int))) :: _) _ _ _
  refine Ll.nil (Ld.joint (pk [2, 3] rfl rfl) ?_)
  refine Ld.take (v := pf_ p12 (0 + ((n : Int)).toNat)) rfl rfl rfl rfl rfl (OpQ.indexAddr1 rfl Tryz.runUnderlying28 Tryz.sizeOf3 rfl rfl (by omega) (by omega)) (pk [2, 3] rfl rfl) ?_
  refine Ld.loud rfl ?_
  refine Ll.store1 (v := i6_ ((m : Int))) (hs' := (_ :: bk_ p12 ((ints (R'.set (((n : Int)).toNat) ((m : Int)))).toArray) 3 :: _ :: _ :: _ :: _ :: ((blks 112 bs_ ++ hs)))) 1 rfl rfl rfl rfl rfl rfl Tryz.sizeOf3 rfl (by show _ < (ints R').length; rw [ints_length, hRl]; omega) (by first | (rw [ints_set]; rfl) | (simp only [Nat.zero_add]; rw [ints_set]; rfl)) ?_
  refine Ll.nil (Ld.joint (pk [2, 3] rfl rfl) ?_)
  refine Ld.nil ?_
  refine Kt.sel [2, 3, 4, 7, 8] [_, _, _, _, _] rfl ?_
  refine Wk.regionQ ?_
  refine Lq.run 1 rfl ?_
  refine Lq.op rfl rfl rfl (OpQ.add rfl rfl rfl (by omega) (by omega)) ?_
  refine Lq.run 1 rfl ?_
  refine Lq.nil ?_
  refine Kt.again ((n + 1, bs_, T_, R'.set n (m : Int))) ⟨by omega, hTT.trans hKm.1 (by omega), hN.step hKm.1.pre hKm.2.1 (by omega), hO.step hKm.2.2 (by omega)⟩ (by omega) (Sub.sel [2, 3, 4, 7, 8] rfl) (fun _ h => h.sub (List.Sublist.cons _ (List.Sublist.cons_cons _ (List.Sublist.cons_cons _ (List.Sublist.cons_cons _ (List.Sublist.cons_cons _ (List.Sublist.cons_cons _ (List.Sublist.refl _))))))))
 ·
  replace h16 := of_decide_eq_false h16
  refine Wk.exit rfl ?_
  refine Kt.sel [7] [_] rfl ?_
  refine Wk.seq ?_
  refine Wk.regionQ ?_
  refine Lq.run 2 rfl ?_
  refine Lq.nil ?_
  refine Kt.sel [6] [_] rfl ?_
  refine Wk.ret (Kt.end1 rfl rfl fun w' hw => ?_)
  obtain rfl : n = ((a.n.toNat + 1) ^ k : Nat) := by omega
  exact ⟨p12, R', bs1, T1, rfl, ⟨hTT, hN.all, hO⟩, hw.sub (List.Sublist.cons_cons _ (List.Sublist.cons _ (List.Sublist.cons _ (List.Sublist.cons_cons _ (List.Sublist.cons_cons _ (List.Sublist.refl _))))))⟩
set_option maxHeartbeats 400000 in
/-- spec.l7Round -/
theorem l7Round_ok (B : Nat) (w0 : World) (hs : List (Nat × Obj)) (q c : Nat) (bs : List Bkt) (T : List (List UInt8)) (a : St) (vr : Value) (R : List Int) (k : Nat) (w : World) (hvr : ∀ w, Own B w0 hs w → Ints w vr R) (hRN : R.length = ((a.n.toNat + 1) ^ k : Nat)) (hRs : ∀ i : Nat, 0 ≤ R.getD i 0 ∧ R.getD i 0 < 1000000) (hT : TabOk bs T) (hv : validB a = true) (h1 : 1 ≤ k) (hk3 : k ≤ 3) (hcap : T.length + ((a.n.toNat + 1) ^ k : Nat) ≤ 1000000) (hw : Own B w0 (tabL 110 3 112 q c bs T ++ hs) w) :
    Calls Tryz.prog 44 [.agg #[sl_ q 997 997, sl_ c 1 1], vS a, vr, i6_ ((k : Int))].toArray w fun en w' => ∃ (g : Nat) (R' : List Int) (bs' : List Bkt) (T' : List (List UInt8)), en = .returned (.slice (some ⟨g, 0, none⟩) R.length R.length) ∧ (TabTo T bs' T' ((a.n.toNat + 1) ^ k : Nat) ∧ NumOf T' (textS a R k) R' ((a.n.toNat + 1) ^ k : Nat) ∧ Onto T T' R' ((a.n.toNat + 1) ^ k : Nat)) ∧ Own B w0 ((g, .cells (ints R').toArray 3 (0, 0)) :: (tabL 110 3 112 q c bs' T' ++ hs)) w' := by
 refine fnStartC (Own B w0 (tabL 110 3 112 q c bs T ++ hs)) (n := 82) (e := [(0, .agg #[sl_ q 997 997, sl_ c 1 1]), (1, vS a), (2, vr), (3, i6_ ((k : Int)))]) Tryz.func44 rfl rfl rfl rfl Ends.both hw ?_
 have ha := validB_fine hv
 have hm8 := ha.hi
 have hm1 := ha.lo
 have hm8n : a.n.toNat ≤ 8 := by omega
 have hp9 := pow9 (size := a.n.toNat) (k := k) (by omega) hk3
 refine Wk.seq ?_
 refine Wk.region ?_
 refine Ll.box (v := .agg #[sl_ q 997 997, sl_ c 1 1]) rfl rfl rfl rfl rfl fun p4 hp4 => ?_
 show Ll _ _ (Own _ _ (_ :: _ :: _ :: ((blks 112 bs ++ hs)))) _ _ ((4, pt_ p4) :: _) _ _ _
 refine Ll.box (v := vS a) rfl rfl rfl rfl rfl fun p5 hp5 => ?_
 show Ll _ _ (Own _ _ (_ :: _ :: _ :: _ :: ((blks 112 bs ++ hs)))) _ _ ((5, pt_ p5) :: _) _ _ _
 refine Ll.run 1 rfl ?_
 refine Ll.nil ?_
 refine Kt.sel [2, 3, 4, 5] [_, _, _, _] rfl ?_
 refine Wk.seq ?_
 refine Wk.region ?_
 refine Ll.run 1 rfl ?_
 refine Ll.op (v := i6_ ((R.length : Int))) rfl rfl rfl (OpQ.lenRow rfl Tryz.runUnderlying28 rfl (ints_length _) (fun w1 hw1 => hvr _ (Own.drop (f := bk_ p5 #[i6_ a.n, str a.set, str a.rel] 24 :: bk_ p4 #[sl_ q 997 997, sl_ c 1 1] 72 :: bk_ q ((bs.map bktV).toArray) 110 :: bk_ c #[i6_ ((T.length : Int))] 3 :: blks 112 (bs)) hw1))) ?_
 refine Ll.make (k := R.length) Base.elem28 Tryz.zeroValue3 rfl rfl rfl rfl rfl (by omega) fun p19 hp19 => ?_
 rw [show madeCells (Value.cells (i6_ 0)) (R.length * 1) = (ints (List.replicate R.length 0)).toArray from made_ints _]
 refine Ll.run 1 rfl ?_
 refine Ll.nil ?_
 refine Kt.sel [2, 3, 4, 5, 9] [_, _, _, _, _] rfl ?_
 refine Wk.seq ?_
 refine Wk.seq ?_
 refine Wk.regionQ ?_
 refine Lq.run 1 rfl ?_
 refine Lq.nil ?_
 refine Kt.sel [2, 3, 4, 5, 9, 10] [_, _, _, _, _, _] rfl ?_
 refine Wk.block ?_
 refine Wk.loop (σ := Nat × List Bkt × List (List UInt8) × List Int) (fun ⟨n, bs1, T1, R'⟩ => n ≤ R.length ∧ TabTo T bs1 T1 n ∧ NumTo T1 (textS a R k) R' R.length n ∧ Onto T T1 R' n) (fun ⟨n, bs1, T1, R'⟩ => [(2, vr), (3, i6_ ((k : Int))), (4, pt_ p4), (5, pt_ p5), (9, sl_ p19 R.length R.length), (10, i6_ ((n : Int)))]) (fun ⟨n, bs1, T1, R'⟩ => Own B w0 (bk_ p19 ((ints R').toArray) 3 :: bk_ p5 #[i6_ a.n, str a.set, str a.rel] 24 :: bk_ p4 #[sl_ q 997 997, sl_ c 1 1] 72 :: bk_ q ((bs1.map bktV).toArray) 110 :: bk_ c #[i6_ ((T1.length : Int))] 3 :: ((blks 112 bs1 ++ hs)))) (fun ⟨n, bs1, T1, R'⟩ => R.length - n) ((0, bs, T, List.replicate R.length 0)) ⟨by omega, ⟨hT, List.prefix_refl _, by omega⟩, NumTo.zero _ _ _, Onto.zero _ _⟩ (Sub.sel [2, 3, 4, 5, 9, 10] rfl) (fun _ h => h) ?_
 rintro ⟨n, bs1, T1, R'⟩ ⟨hn, hTT, hN, hO⟩
 dsimp only
 have hTl := hTT.len
 have hRl := hN.1
 have hXP := atP_peb a.n.toNat k n
 have hXl := atP_len a.n.toNat k n
 refine Wk.seq ?_
 refine Wk.seq ?_
 refine Wk.regionQ ?_
 refine Lq.run 2 rfl ?_
 refine Lq.op (v := i6_ ((R.length : Int))) rfl rfl rfl (OpQ.lenRow rfl Tryz.runUnderlying28 rfl (ints_length _) (fun w1 hw1 => hvr _ (Own.drop (f := bk_ p19 ((ints R').toArray) 3 :: bk_ p5 #[i6_ a.n, str a.set, str a.rel] 24 :: bk_ p4 #[sl_ q 997 997, sl_ c 1 1] 72 :: bk_ q ((bs1.map bktV).toArray) 110 :: bk_ c #[i6_ ((T1.length : Int))] 3 :: blks 112 (bs1)) hw1))) ?_
 refine Lq.run 1 rfl ?_
 refine Lq.nil ?_
 refine Kt.sel [2, 3, 4, 5, 9, 10, 23] [_, _, _, _, _, _, _] rfl ?_
 refine Wk.cond (b := decide (((n : Int)) < ((R.length : Int)))) rfl (fun h23 => ?_) (fun h23 => ?_)
 ·
  replace h23 := of_decide_eq_true h23
  have hnN : n < R.length := by omega
  have hb0 : 0 ≤ numP a.n.toNat R (atP a.n.toNat k n) ∧ numP a.n.toNat R (atP a.n.toNat k n) < 1000000 := hRs _
  have hb2 := decS_len (numP a.n.toNat R (atP a.n.toNat k n)).toNat 12 (by omega) (by decide)
  refine Wk.skip ?_
  refine Kt.sel [2, 3, 4, 5, 9, 10] [_, _, _, _, _, _] rfl ?_
  refine Wk.seq ?_
  refine Wk.block ?_
  refine Wk.seq ?_
  refine Wk.region ?_
  refine Ll.op rfl rfl rfl (OpQ.loadBox (cs := #[i6_ a.n, str a.set, str a.rel]) 1 rfl Tryz.isAgg24 rfl rfl Tryz.sizeOf24) ?_
  refine Ll.run 2 rfl ?_
  refine Ll.callRow (xs := [.tmp 26, .tmp 27, .tmp 28]) (m := k) (vs := ints (atP a.n.toNat k n)) (el := 3) (size := 1) rfl rfl rfl rfl Tryz.call67 rfl (fun w1 hw1 => l7At_ok a n k w1 ha (by omega) hk3) fun p29 cap29 cur29 hp29 hcp29 hlp29 htp29 => ?_
  refine Ll.run 1 rfl ?_
  refine Ll.nil ?_
  refine Kt.sel [2, 3, 4, 5, 9, 10, 11] [_, _, _, _, _, _, _] rfl ?_
  refine Wk.seq ?_
  refine Wk.regionQ ?_
  refine Lq.run 2 rfl ?_
  refine Lq.op (v := .pointer (some (sAt vr ((n : Int))))) rfl rfl rfl (OpQ.atRow rfl Tryz.runUnderlying28 Tryz.sizeOf3 rfl rfl (by omega) (by rw [ints_length]; omega) (fun w1 hw1 => hvr _ (Own.drop (f := bk_ p29 cur29 3 :: bk_ p19 ((ints R').toArray) 3 :: bk_ p5 #[i6_ a.n, str a.set, str a.rel] 24 :: bk_ p4 #[sl_ q 997 997, sl_ c 1 1] 72 :: bk_ q ((bs1.map bktV).toArray) 110 :: bk_ c #[i6_ ((T1.length : Int))] 3 :: blks 112 (bs1)) hw1))) ?_
  refine Lq.op (v := i6_ (numP a.n.toNat R (atP a.n.toNat k n))) rfl rfl rfl (OpQ.cast (by rw [num_at (by omega)]; rfl) (OpQ.load1 rfl Tryz.isAgg3 rfl (fun w1 hw1 => Ints.cell (hvr _ (Own.drop (f := bk_ p29 cur29 3 :: bk_ p19 ((ints R').toArray) 3 :: bk_ p5 #[i6_ a.n, str a.set, str a.rel] 24 :: bk_ p4 #[sl_ q 997 997, sl_ c 1 1] 72 :: bk_ q ((bs1.map bktV).toArray) 110 :: bk_ c #[i6_ ((T1.length : Int))] 3 :: blks 112 (bs1)) hw1)) (by omega) (by omega)))) ?_
  refine Lq.op (v := str (decS (numP a.n.toNat R (atP a.n.toNat k n)).toNat)) rfl rfl rfl (OpQ.call rfl Tryz.call68 rfl Own.stable (fun w1 hw1 => l15Dec_ok (numP a.n.toNat R (atP a.n.toNat k n)) w1 (by omega) (by omega))) ?_
  refine Lq.op rfl rfl rfl (OpQ.sadd rfl rfl rfl (by first | omega | (simp only [List.length_append, List.length_cons, List.length_nil]; omega))) ?_
  refine Lq.run 1 rfl ?_
  refine Lq.nil ?_
  refine Kt.sel [2, 3, 4, 5, 9, 10, 11, 12] [_, _, _, _, _, _, _, _] rfl ?_
  refine Wk.seq ?_
  refine Wk.seq ?_
  refine Wk.regionQ ?_
  refine Lq.run 1 rfl ?_
  refine Lq.nil ?_
  refine Kt.sel [2, 3, 4, 5, 9, 10, 11, 12, 13] [_, _, _, _, _, _, _, _, _] rfl ?_
  refine Wk.block ?_
  refine Wk.loop (σ := Nat) (fun i => i ≤ k) (fun i => [(2, vr), (3, i6_ ((k : Int))), (4, pt_ p4), (5, pt_ p5), (9, sl_ p19 R.length R.length), (10, i6_ ((n : Int))), (11, sl_ p29 k cap29), (12, str (([114] ++ decS (numP a.n.toNat R (atP a.n.toNat k n)).toNat) ++ descM a.n.toNat R (atP a.n.toNat k n) i)), (13, i6_ ((i : Int)))]) (fun i => Own B w0 (bk_ p29 cur29 3 :: bk_ p19 ((ints R').toArray) 3 :: bk_ p5 #[i6_ a.n, str a.set, str a.rel] 24 :: bk_ p4 #[sl_ q 997 997, sl_ c 1 1] 72 :: bk_ q ((bs1.map bktV).toArray) 110 :: bk_ c #[i6_ ((T1.length : Int))] 3 :: ((blks 112 bs1 ++ hs)))) (fun i => k - i) (0) (by omega) (Sub.cons rfl (Sub.cons rfl (Sub.cons rfl (Sub.cons rfl (Sub.cons rfl (Sub.cons rfl (Sub.cons rfl (Sub.cons (by simp [descM, List.lookup]) (Sub.sel [13] rfl))))))))) (fun _ h => h) ?_
  rintro i hi
  refine Wk.seq ?_
  refine Wk.seq ?_
  refine Wk.regionQ ?_
  refine Lq.run 3 rfl ?_
  refine Lq.nil ?_
  refine Kt.sel [2, 3, 4, 5, 9, 10, 11, 12, 13, 38] [_, _, _, _, _, _, _, _, _, _] rfl ?_
  refine Wk.cond (b := decide (((i : Int)) < ((k : Int)))) rfl (fun h38 => ?_) (fun h38 => ?_)
  ·
   replace h38 := of_decide_eq_true h38
   have hik : i < k := by omega
   have hdm := descM_len (R := R) (xs := (atP a.n.toNat k n)) hm8n hRs i
   refine Wk.skip ?_
   refine Kt.sel [2, 3, 4, 5, 9, 10, 11, 12, 13] [_, _, _, _, _, _, _, _, _] rfl ?_
   refine Wk.seq ?_
   refine Wk.block ?_
   refine Wk.seq ?_
   refine Wk.region ?_
   refine Ll.slice (xs := []) (vs := []) Base.elem28 rfl rfl rfl rfl rfl rfl (by decide) rfl fun p41 hp41 => ?_
   refine Ll.run 1 rfl ?_
   refine Ll.nil ?_
   refine Kt.sel [2, 3, 4, 5, 9, 10, 11, 12, 13, 14] [_, _, _, _, _, _, _, _, _, _] rfl ?_
   refine Wk.seq ?_
   refine Wk.seq ?_
   refine Wk.regionQ ?_
   refine Lq.run 1 rfl ?_
   refine Lq.nil ?_
   refine Kt.sel [2, 3, 4, 5, 9, 10, 11, 12, 13, 14, 15] [_, _, _, _, _, _, _, _, _, _, _] rfl ?_
   refine Wk.block ?_
   refine Wk.loop (σ := Nat × Nat × Nat × Array Value) (fun ⟨x, g, cap, cur⟩ => x ≤ a.n.toNat ∧ cur.size = cap * 1 ∧ (movesTo a.n.toNat R (atP a.n.toNat k n) i x).length ≤ cap ∧ cur.toList.take (movesTo a.n.toNat R (atP a.n.toNat k n) i x).length = ints (movesTo a.n.toNat R (atP a.n.toNat k n) i x)) (fun ⟨x, g, cap, cur⟩ => [(2, vr), (3, i6_ ((k : Int))), (4, pt_ p4), (5, pt_ p5), (9, sl_ p19 R.length R.length), (10, i6_ ((n : Int))), (11, sl_ p29 k cap29), (12, str (([114] ++ decS (numP a.n.toNat R (atP a.n.toNat k n)).toNat) ++ descM a.n.toNat R (atP a.n.toNat k n) i)), (13, i6_ ((i : Int))), (14, sl_ g ((movesTo a.n.toNat R (atP a.n.toNat k n) i x).length) cap), (15, i6_ ((x : Int)))]) (fun ⟨x, g, cap, cur⟩ => Own B w0 (bk_ g cur 3 :: bk_ p29 cur29 3 :: bk_ p19 ((ints R').toArray) 3 :: bk_ p5 #[i6_ a.n, str a.set, str a.rel] 24 :: bk_ p4 #[sl_ q 997 997, sl_ c 1 1] 72 :: bk_ q ((bs1.map bktV).toArray) 110 :: bk_ c #[i6_ ((T1.length : Int))] 3 :: ((blks 112 bs1 ++ hs)))) (fun ⟨x, g, cap, cur⟩ => a.n.toNat - x) ((0, p41, 0, #[])) ⟨by omega, rfl, Nat.le_refl _, rfl⟩ (Sub.sel [2, 3, 4, 5, 9, 10, 11, 12, 13, 14, 15] rfl) (fun _ h => h) ?_
   rintro ⟨x, g, cap, cur⟩ ⟨hx, hc, hle, ht⟩
   dsimp only
   have hml := moves_le a.n.toNat R (atP a.n.toNat k n) i x
   refine Wk.seq ?_
   refine Wk.seq ?_
   refine Wk.regionQ ?_
   refine Lq.run 1 rfl ?_
   refine Lq.op rfl rfl rfl (OpQ.fieldAddr rfl Tryz.runUnderlying24 rfl Tryz.sizeOf3 rfl rfl) ?_
   refine Lq.op rfl rfl rfl (OpQ.loadOwn 3 rfl Tryz.isAgg3 rfl rfl rfl) ?_
   refine Lq.run 1 rfl ?_
   refine Lq.nil ?_
   refine Kt.sel [2, 3, 4, 5, 9, 10, 11, 12, 13, 14, 15, 45] [_, _, _, _, _, _, _, _, _, _, _, _] rfl ?_
   refine Wk.cond (b := decide (((x : Int)) < a.n)) rfl (fun h45 => ?_) (fun h45 => ?_)
   ·
    replace h45 := of_decide_eq_true h45
    have hxn : x < a.n.toNat := by omega
    have hPs := peb_set (i := i) hXP hxn
    have hix := idxP_lt hPs
    have hQs : 0 ≤ numP a.n.toNat R ((atP a.n.toNat k n).set i (x : Int)) ∧ numP a.n.toNat R ((atP a.n.toNat k n).set i (x : Int)) < 1000000 := hRs _
    refine Wk.skip ?_
    refine Kt.sel [2, 3, 4, 5, 9, 10, 11, 12, 13, 14, 15] [_, _, _, _, _, _, _, _, _, _, _] rfl ?_
    refine Wk.seq ?_
    refine Wk.block ?_
    refine Wk.regionS (S := Own B w0 (bk_ p29 cur29 3 :: bk_ p19 ((ints R').toArray) 3 :: bk_ p5 #[i6_ a.n, str a.set, str a.rel] 24 :: bk_ p4 #[sl_ q 997 997, sl_ c 1 1] 72 :: bk_ q ((bs1.map bktV).toArray) 110 :: bk_ c #[i6_ ((T1.length : Int))] 3 :: ((blks 112 bs1 ++ hs)))) [(0, true), (1, true), (2, true), (3, true), (4, true), (5, true), (6, false), (7, false), (8, true), (9, false), (10, false), (11, true)] Base.mixed (fun _ h => h.drawn) (by kernel_rfl) ?_
    refine Ld.run 2 rfl (fun _ h => Own.pickT (hs := [_, _, _, _, _, _, _]) (hs' := [_, _, _, _, _, _]) h [1, 2, 3, 4, 5, 6] rfl (by decide)) ?_
    refine Ld.take rfl rfl rfl rfl rfl (OpQ.loadBox (cs := #[i6_ a.n, str a.set, str a.rel]) 2 rfl Tryz.isAgg24 rfl rfl Tryz.sizeOf24) (fun _ h => Own.pickT (hs := [_, _, _, _, _, _, _]) (hs' := [_, _, _, _, _, _]) h [1, 2, 3, 4, 5, 6] rfl (by decide)) ?_
    refine Ld.run 3 rfl (fun _ h => Own.pickT (hs := [_, _, _, _, _, _, _]) (hs' := [_, _, _, _, _, _]) h [1, 2, 3, 4, 5, 6] rfl (by decide)) ?_
    refine Ld.loud rfl ?_
    refine Ll.callRow (xs := [.tmp 51, .tmp 52, .tmp 53]) (m := (atP a.n.toNat k n).length) (vs := ints ((atP a.n.toNat k n).set i ((x : Int)))) (el := 3) (size := 1) rfl rfl rfl rfl Tryz.call25 rfl (fun w1 hw1 => l7Put_ok (sl_ p29 k cap29) (atP a.n.toNat k n) i ((x : Int)) w1 (Own.row hw1 (i := 1) rfl (by simpa using htp29) (by simp) hlp29) (by rw [hXl]; exact hik) (by rw [hXl]; omega)) fun p54 cap54 cur54 hp54 hcp54 hlp54 htp54 => ?_
    refine Ll.nil (Ld.joint (fun _ h => Own.pickT (hs := [_, _, _, _, _, _, _, _]) (hs' := [_, _, _, _, _, _]) h [2, 3, 4, 5, 6, 7] rfl (by decide)) ?_)
    refine Ld.loud rfl ?_
    refine Ll.op (v := i6_ (((idxP a.n.toNat ((atP a.n.toNat k n).set i ((x : Int))) : Nat) : Int))) rfl rfl rfl (OpQ.call rfl Tryz.call24 rfl Own.stable (fun w1 hw1 => l7Index_ok a (sl_ p54 ((atP a.n.toNat k n).length) cap54) ((atP a.n.toNat k n).set i ((x : Int))) w1 ha (Own.row hw1 (i := 0) rfl (by simpa using htp54) (by simp) hlp54) ⟨rfl, hPs.2⟩ (by rw [List.length_set, hXl]; exact hk3))) ?_
    refine Ll.nil (Ld.joint (fun _ h => Own.pickT (hs := [_, _, _, _, _, _, _, _]) (hs' := [_, _, _, _, _, _]) h [2, 3, 4, 5, 6, 7] rfl (by decide)) ?_)
    refine Ld.take (v := .pointer (some (sAt vr (((idxP a.n.toNat ((atP a.n.toNat k n).set i ((x : Int))) : Nat) : Int))))) rfl rfl rfl rfl rfl (OpQ.atRow rfl Tryz.runUnderlying28 Tryz.sizeOf3 rfl rfl (by omega) (by rw [ints_length]; omega) (fun w1 hw1 => hvr _ (Own.drop (f := bk_ p29 cur29 3 :: bk_ p19 ((ints R').toArray) 3 :: bk_ p5 #[i6_ a.n, str a.set, str a.rel] 24 :: bk_ p4 #[sl_ q 997 997, sl_ c 1 1] 72 :: bk_ q ((bs1.map bktV).toArray) 110 :: bk_ c #[i6_ ((T1.length : Int))] 3 :: blks 112 (bs1)) hw1))) (fun _ h => Own.pickT (hs := [_, _, _, _, _, _, _, _]) (hs' := [_, _, _, _, _, _]) h [2, 3, 4, 5, 6, 7] rfl (by decide)) ?_
    refine Ld.loud rfl ?_
    refine Ll.op (v := i6_ (numP a.n.toNat R ((atP a.n.toNat k n).set i (x : Int)))) rfl rfl rfl (OpQ.cast (by rfl) (OpQ.load1 rfl Tryz.isAgg3 rfl (fun w1 hw1 => Ints.cell (hvr _ (Own.drop (f := bk_ p54 cur54 3 :: bk_ g cur 3 :: bk_ p29 cur29 3 :: bk_ p19 ((ints R').toArray) 3 :: bk_ p5 #[i6_ a.n, str a.set, str a.rel] 24 :: bk_ p4 #[sl_ q 997 997, sl_ c 1 1] 72 :: bk_ q ((bs1.map bktV).toArray) 110 :: bk_ c #[i6_ ((T1.length : Int))] 3 :: blks 112 (bs1)) hw1)) (by omega) (by omega)))) ?_
    refine Ll.nil (Ld.joint (fun _ h => Own.pickT (hs := [_, _, _, _, _, _, _, _]) (hs' := [_, _, _, _, _, _]) h [2, 3, 4, 5, 6, 7] rfl (by decide)) ?_)
    refine Ld.loud rfl ?_
    refine Ll.callGet (σ := Nat × Nat × Array Value) (ok := fun (g, c', u) => u.size = c' * 1 ∧ (insS ((movesTo a.n.toNat R (atP a.n.toNat k n) i x)) (numP a.n.toNat R ((atP a.n.toNat k n).set i (x : Int)))).length ≤ c' ∧ u.toList.take (insS ((movesTo a.n.toNat R (atP a.n.toNat k n) i x)) (numP a.n.toNat R ((atP a.n.toNat k n).set i (x : Int)))).length = ints (insS ((movesTo a.n.toNat R (atP a.n.toNat k n) i x)) (numP a.n.toNat R ((atP a.n.toNat k n).set i (x : Int))))) (v := fun (g, c', u) => .slice (some ⟨g, 0, none⟩) (insS ((movesTo a.n.toNat R (atP a.n.toNat k n) i x)) (numP a.n.toNat R ((atP a.n.toNat k n).set i (x : Int)))).length c') (xs := [.tmp 48, .tmp 57]) (vs := [sl_ g ((movesTo a.n.toNat R (atP a.n.toNat k n) i x).length) cap, i6_ (numP a.n.toNat R ((atP a.n.toNat k n).set i (x : Int)))]) (hs' := fun (g, c', u) => (bk_ p54 cur54 3 :: bk_ g u 3 :: bk_ p29 cur29 3 :: bk_ p19 ((ints R').toArray) 3 :: bk_ p5 #[i6_ a.n, str a.set, str a.rel] 24 :: bk_ p4 #[sl_ q 997 997, sl_ c 1 1] 72 :: bk_ q ((bs1.map bktV).toArray) 110 :: bk_ c #[i6_ ((T1.length : Int))] 3 :: ((blks 112 bs1 ++ hs)))) rfl rfl rfl rfl Tryz.call23 rfl (fun w1 hw1 => (l5Insert_ok _ _ _ g cap cur ((movesTo a.n.toNat R (atP a.n.toNat k n) i x)) (numP a.n.toNat R ((atP a.n.toNat k n).set i (x : Int))) w1 hc hle ht (by omega) (hw1.perm (perm_back [bk_ p54 cur54 3] [_] _))).mono fun en w' ⟨g', cap', cur', h1, h2, h3⟩ => ⟨(g', cap', cur'), h1, h2, h3.perm (perm_back [_] [bk_ p54 cur54 3] _)⟩) fun ⟨g_, cap_, cur_⟩ ⟨hcg_, hlg_, htg_⟩ => ?_
    show Ll _ _ (Own _ _ (_ :: _ :: _ :: _ :: _ :: _ :: _ :: _ :: ((blks 112 bs1 ++ hs)))) _ _ ((58, sl_ g_ ((insS ((movesTo a.n.toNat R (atP a.n.toNat k n) i x)) (numP a.n.toNat R ((atP a.n.toNat k n).set i (x : Int)))).length) cap_) :: _) _ _ _
    refine Ll.nil (Ld.joint (fun _ h => Own.pickT (hs := [_, _, _, _, _, _, _, _]) (hs' := [_, _, _, _, _, _]) h [2, 3, 4, 5, 6, 7] rfl (by decide)) ?_)
    refine Ld.run 1 rfl (fun _ h => Own.pickT (hs := [_, _, _, _, _, _, _, _]) (hs' := [_, _, _, _, _, _]) h [2, 3, 4, 5, 6, 7] rfl (by decide)) ?_
    refine Ld.nil ?_
    refine Kt.sel [2, 3, 4, 5, 9, 10, 11, 12, 13, 14, 15] [_, _, _, _, _, _, _, _, _, _, _] rfl ?_
    refine Wk.regionQ ?_
    refine Lq.run 1 rfl ?_
    refine Lq.op rfl rfl rfl (OpQ.add rfl rfl rfl (by omega) (by omega)) ?_
    refine Lq.run 1 rfl ?_
    refine Lq.nil ?_
    refine Kt.again ((x + 1, g_, cap_, cur_)) ⟨by omega, hcg_, hlg_, htg_⟩ (by omega) (Sub.sel [2, 3, 4, 5, 9, 10, 11, 12, 13, 14, 15] rfl) (fun _ h => h.sub (List.Sublist.cons _ (List.Sublist.cons_cons _ (List.Sublist.cons_cons _ (List.Sublist.cons_cons _ (List.Sublist.cons_cons _ (List.Sublist.cons_cons _ (List.Sublist.cons_cons _ (List.Sublist.cons_cons _ (List.Sublist.refl _))))))))))
   ·
    replace h45 := of_decide_eq_false h45
    have hxe : x = a.n.toNat := by omega
    have hsm := moves_small (size := a.n.toNat) (xs := (atP a.n.toNat k n)) (i := i) (m := x) hRs
    refine Wk.exit rfl ?_
    refine Kt.sel [2, 3, 4, 5, 9, 10, 11, 12, 13, 14] [_, _, _, _, _, _, _, _, _, _] rfl ?_
    refine Wk.seq ?_
    refine Wk.seq ?_
    refine Wk.regionQ ?_
    refine Lq.run 1 rfl ?_
    refine Lq.nil ?_
    refine Kt.sel [2, 3, 4, 5, 9, 10, 11, 12, 13, 14, 16] [_, _, _, _, _, _, _, _, _, _, _] rfl ?_
    refine Wk.block ?_
    refine Wk.loop (σ := Nat) (fun j => j ≤ (movesTo a.n.toNat R (atP a.n.toNat k n) i x).length) (fun j => [(2, vr), (3, i6_ ((k : Int))), (4, pt_ p4), (5, pt_ p5), (9, sl_ p19 R.length R.length), (10, i6_ ((n : Int))), (11, sl_ p29 k cap29), (12, str ((([114] ++ decS (numP a.n.toNat R (atP a.n.toNat k n)).toNat) ++ descM a.n.toNat R (atP a.n.toNat k n) i) ++ commas ((movesTo a.n.toNat R (atP a.n.toNat k n) i x).take j))), (13, i6_ ((i : Int))), (14, sl_ g ((movesTo a.n.toNat R (atP a.n.toNat k n) i x).length) cap), (16, i6_ ((j : Int)))]) (fun j => Own B w0 (bk_ g cur 3 :: bk_ p29 cur29 3 :: bk_ p19 ((ints R').toArray) 3 :: bk_ p5 #[i6_ a.n, str a.set, str a.rel] 24 :: bk_ p4 #[sl_ q 997 997, sl_ c 1 1] 72 :: bk_ q ((bs1.map bktV).toArray) 110 :: bk_ c #[i6_ ((T1.length : Int))] 3 :: ((blks 112 bs1 ++ hs)))) (fun j => (movesTo a.n.toNat R (atP a.n.toNat k n) i x).length - j) (0) (by omega) (Sub.cons rfl (Sub.cons rfl (Sub.cons rfl (Sub.cons rfl (Sub.cons rfl (Sub.cons rfl (Sub.cons rfl (Sub.cons (by simp [commas, List.lookup]) (Sub.sel [13, 14, 16] rfl))))))))) (fun _ h => h) ?_
    rintro j hj
    refine Wk.seq ?_
    refine Wk.seq ?_
    refine Wk.regionQ ?_
    refine Lq.run 2 rfl ?_
    refine Lq.op rfl rfl rfl (OpQ.lenS rfl Tryz.runUnderlying28 rfl) ?_
    refine Lq.run 1 rfl ?_
    refine Lq.nil ?_
    refine Kt.sel [2, 3, 4, 5, 9, 10, 11, 12, 13, 14, 16, 62] [_, _, _, _, _, _, _, _, _, _, _, _] rfl ?_
    refine Wk.cond (b := decide (((j : Int)) < (((movesTo a.n.toNat R (atP a.n.toNat k n) i x).length : Int)))) rfl (fun h62 => ?_) (fun h62 => ?_)
    ·
     replace h62 := of_decide_eq_true h62
     have hct := commas_take (i := j) hsm (by omega)
     obtain ⟨hs0, hs1⟩ := at_small hsm (i := j) (by omega)
     have hdi := decS_len ((movesTo a.n.toNat R (atP a.n.toNat k n) i x).getD j 0).toNat 12 (show _ < 1000000000000 by omega) (by decide)
     refine Wk.skip ?_
     refine Kt.sel [2, 3, 4, 5, 9, 10, 11, 12, 13, 14, 16] [_, _, _, _, _, _, _, _, _, _, _] rfl ?_
     refine Wk.seq ?_
     refine Wk.block ?_
     refine Wk.regionQ ?_
     refine Lq.run 1 rfl ?_
     refine Lq.op rfl rfl rfl (OpQ.sadd rfl rfl rfl (by first | omega | (simp only [List.length_append, List.length_cons, List.length_nil]; omega))) ?_
     refine Lq.run 2 rfl ?_
     refine Lq.op (v := pf_ g j) rfl rfl rfl (OpQ.cast (by simp) (OpQ.indexAddr1 rfl Tryz.runUnderlying28 Tryz.sizeOf3 rfl rfl (by omega) (by omega))) ?_
     refine Lq.op (v := i6_ ((movesTo a.n.toNat R (atP a.n.toNat k n) i x).getD (j) 0)) rfl rfl rfl (OpQ.loadAt 0 rfl Tryz.isAgg3 rfl rfl (cur_at ht (ints_at2 (by omega)))) ?_
     refine Lq.op (v := str (decS ((movesTo a.n.toNat R (atP a.n.toNat k n) i x).getD (j) 0).toNat)) rfl rfl rfl (OpQ.call rfl Tryz.call68 rfl Own.stable (fun w1 hw1 => l15Dec_ok ((movesTo a.n.toNat R (atP a.n.toNat k n) i x).getD (j) 0) w1 (by omega) (by omega))) ?_
     refine Lq.op rfl rfl rfl (OpQ.sadd rfl rfl rfl (by first | omega | (simp only [List.length_append, List.length_cons, List.length_nil]; omega))) ?_
     refine Lq.run 1 rfl ?_
     refine Lq.nil ?_
     refine Kt.sel [2, 3, 4, 5, 9, 10, 11, 12, 13, 14, 16] [_, _, _, _, _, _, _, _, _, _, _] rfl ?_
     refine Wk.regionQ ?_
     refine Lq.run 1 rfl ?_
     refine Lq.op rfl rfl rfl (OpQ.add rfl rfl rfl (by omega) (by omega)) ?_
     refine Lq.run 1 rfl ?_
     refine Lq.nil ?_
     refine Kt.again (j + 1) (by omega) (by omega) (Sub.cons rfl (Sub.cons rfl (Sub.cons rfl (Sub.cons rfl (Sub.cons rfl (Sub.cons rfl (Sub.cons rfl (Sub.cons (by rw [commas_step (by omega)]; rfl) (Sub.sel [13, 14, 16] rfl))))))))) (fun _ h => h)
    ·
     replace h62 := of_decide_eq_false h62
     obtain rfl : j = (movesTo a.n.toNat R (atP a.n.toNat k n) i x).length := by omega
     rw [List.take_length]
     have hcl := commas_len hsm
     refine Wk.exit rfl ?_
     refine Kt.sel [2, 3, 4, 5, 9, 10, 11, 12, 13] [_, _, _, _, _, _, _, _, _] rfl ?_
     refine Wk.regionQ ?_
     refine Lq.run 1 rfl ?_
     refine Lq.op (v := str (([114] ++ decS (numP a.n.toNat R (atP a.n.toNat k n)).toNat) ++ descM a.n.toNat R (atP a.n.toNat k n) (i + 1))) rfl rfl rfl (OpQ.cast (by simp only [descM, hxe, List.append_assoc]) (OpQ.sadd rfl rfl rfl (by first | omega | (simp only [List.length_append, List.length_cons, List.length_nil]; omega)))) ?_
     refine Lq.run 1 rfl ?_
     refine Lq.nil ?_
     refine Kt.sel [2, 3, 4, 5, 9, 10, 11, 12, 13] [_, _, _, _, _, _, _, _, _] rfl ?_
     refine Wk.regionQ ?_
     refine Lq.run 1 rfl ?_
     refine Lq.op rfl rfl rfl (OpQ.add rfl rfl rfl (by omega) (by omega)) ?_
     refine Lq.run 1 rfl ?_
     refine Lq.nil ?_
     refine Kt.again (i + 1) (by omega) (by omega) (Sub.cons rfl (Sub.cons rfl (Sub.cons rfl (Sub.cons rfl (Sub.cons rfl (Sub.cons rfl (Sub.cons rfl (Sub.cons (by rfl) (Sub.sel [13] rfl))))))))) (fun _ h => h.sub (List.Sublist.cons _ (List.Sublist.cons_cons _ (List.Sublist.cons_cons _ (List.Sublist.cons_cons _ (List.Sublist.cons_cons _ (List.Sublist.cons_cons _ (List.Sublist.cons_cons _ (List.Sublist.refl _)))))))))
  ·
   replace h38 := of_decide_eq_false h38
   obtain rfl : k = i := by omega
   have hdm := descM_len (R := R) (xs := (atP a.n.toNat k n)) hm8n hRs k
   refine Wk.exit rfl ?_
   refine Kt.sel [2, 3, 4, 5, 9, 10, 12] [_, _, _, _, _, _, _] rfl ?_
   refine Wk.region ?_
   refine Ll.run 2 rfl ?_
   refine Ll.op rfl rfl rfl (OpQ.loadBox (cs := #[sl_ q 997 997, sl_ c 1 1]) 3 rfl Tryz.isAgg72 rfl rfl Tryz.sizeOf72) ?_
   refine Ll.run 1 rfl ?_
   refine Ll.callTab (S := 110) (I := 3) (E := 112) (q := q) (c := c) (bs := bs1) (T := T1) (hs := hs) (ok := fun m bs' T' => TabTo T1 bs' T' 1 ∧ T'[m]? = some (([114] ++ decS (numP a.n.toNat R (atP a.n.toNat k n)).toNat) ++ descM a.n.toNat R (atP a.n.toNat k n) k) ∧ (T' = T1 ∨ T' = T1 ++ [(([114] ++ decS (numP a.n.toNat R (atP a.n.toNat k n)).toNat) ++ descM a.n.toNat R (atP a.n.toNat k n) k)] ∧ m = T1.length)) (xs := [.tmp 77, .tmp 78]) (vs := [.agg #[sl_ q 997 997, sl_ c 1 1], str (([114] ++ decS (numP a.n.toNat R (atP a.n.toNat k n)).toNat) ++ descM a.n.toNat R (atP a.n.toNat k n) k)]) [bk_ p29 cur29 3, bk_ p19 ((ints R').toArray) 3, bk_ p5 #[i6_ a.n, str a.set, str a.rel] 24, bk_ p4 #[sl_ q 997 997, sl_ c 1 1] 72] rfl rfl rfl rfl Tryz.call65 rfl (fun w1 hw1 => number_full B w0 ([bk_ p29 cur29 3, bk_ p19 ((ints R').toArray) 3, bk_ p5 #[i6_ a.n, str a.set, str a.rel] 24, bk_ p4 #[sl_ q 997 997, sl_ c 1 1] 72] ++ hs) q c bs1 T1 (([114] ++ decS (numP a.n.toNat R (atP a.n.toNat k n)).toNat) ++ descM a.n.toNat R (atP a.n.toNat k n) k) w1 hTT.ok (by omega) (by simp only [List.length_append, List.length_cons, List.length_nil]; omega) hw1) fun m bs_ T_ hKm => ?_
   show Ll _ _ (Own _ _ (_ :: _ :: _ :: _ :: _ :: _ :: ((blks 112 bs_ ++ hs)))) _ _ ((79, i6_ ((m : Int))) :: _) _ _ _
   refine Ll.op (v := pf_ p19 (0 + ((n : Int)).toNat)) rfl rfl rfl (OpQ.indexAddr1 rfl Tryz.runUnderlying28 Tryz.sizeOf3 rfl rfl (by omega) (by omega)) ?_
   refine Ll.store1 (v := i6_ ((m : Int))) (hs' := (_ :: bk_ p19 ((ints (R'.set (((n : Int)).toNat) ((m : Int)))).toArray) 3 :: _ :: _ :: _ :: _ :: ((blks 112 bs_ ++ hs)))) 1 rfl rfl rfl rfl rfl rfl Tryz.sizeOf3 rfl (by first | (simp; done) | (simp; omega) | omega) (by first | (rw [ints_set]; rfl) | (simp only [Nat.zero_add]; rw [ints_set]; rfl)) ?_
   refine Ll.nil ?_
   refine Kt.sel [2, 3, 4, 5, 9, 10] [_, _, _, _, _, _] rfl ?_
   refine Wk.regionQ ?_
   refine Lq.run 1 rfl ?_
   refine Lq.op rfl rfl rfl (OpQ.add rfl rfl rfl (by omega) (by omega)) ?_
   refine Lq.run 1 rfl ?_
   refine Lq.nil ?_
   refine Kt.again ((n + 1, bs_, T_, R'.set n (m : Int))) ⟨by omega, hTT.trans hKm.1 (by omega), hN.step hKm.1.pre hKm.2.1 (by omega), hO.step hKm.2.2 (by omega)⟩ (by omega) (Sub.sel [2, 3, 4, 5, 9, 10] rfl) (fun _ h => h.sub (List.Sublist.cons _ (List.Sublist.cons_cons _ (List.Sublist.cons_cons _ (List.Sublist.cons_cons _ (List.Sublist.cons_cons _ (List.Sublist.cons_cons _ (List.Sublist.refl _))))))))
 ·
  replace h23 := of_decide_eq_false h23
  refine Wk.exit rfl ?_
  refine Kt.sel [9] [_] rfl ?_
  refine Wk.seq ?_
  refine Wk.regionQ ?_
  refine Lq.run 2 rfl ?_
  refine Lq.nil ?_
  refine Kt.sel [8] [_] rfl ?_
  refine Wk.ret (Kt.end1 rfl rfl fun w' hw => ?_)
  obtain rfl : n = R.length := by omega
  exact ⟨p19, R', bs1, T1, rfl, ⟨hRN ▸ hTT, hRN ▸ hN.all, hRN ▸ hO⟩, hw.sub (List.Sublist.cons_cons _ (List.Sublist.cons _ (List.Sublist.cons _ (List.Sublist.cons_cons _ (List.Sublist.cons_cons _ (List.Sublist.refl _))))))⟩
set_option maxHeartbeats 400000 in
/-- spec.l7Kinds -/
theorem l7Kinds_ok (va vb : Value) (R Q : List Int) (w : World) (hva : Ints w va R) (hvb : Ints w vb Q) (hR1 : R.length ≤ 1000) (hQ1 : Q.length ≤ 1000) (hsm : ∀ i : Nat, i < (R ++ Q).length → 0 ≤ (R ++ Q).getD i 0 ∧ (R ++ Q).getD i 0 < 1000000) :
    Calls Tryz.prog 45 [va, vb].toArray w fun en w' => en = .returned (.int .i64 (kindsP (R ++ Q))) ∧ Below w.heap.size w w' := by
 refine fnStart (n := 27) (e := [(0, va), (1, vb)]) Tryz.func45 rfl rfl rfl rfl Ends.both ?_
 have hRQ : (R ++ Q).length ≤ 2000 := by rw [List.length_append]; omega
 refine Wk.seq ?_
 refine Wk.regionQ ?_
 refine Lq.run 1 rfl ?_
 refine Lq.nil ?_
 refine Kt.sel [0, 1] [_, _] rfl ?_
 refine Wk.seq ?_
 refine Wk.regionQ ?_
 refine Lq.run 1 rfl ?_
 refine Lq.nil ?_
 refine Kt.sel [0, 1, 5] [_, _, _] rfl ?_
 refine Wk.seq ?_
 refine Wk.region ?_
 refine Ll.slice (xs := []) (vs := []) Base.elem28 rfl rfl rfl rfl rfl rfl (by decide) rfl fun p8 hp8 => ?_
 refine Ll.run 1 rfl ?_
 refine Ll.appendInts (xs := []) (ys := R) Base.elem28 0 rfl rfl rfl rfl rfl rfl rfl rfl (by decide) rfl (fun w1 hw1 => (Row.own hva hw1)) ((R).length) (by first | (simp; done) | (simp; omega)) (by first | (simp; done) | (simp; omega) | omega) fun p10 cap10 cur10 hp10 hcp10 hlp10 htp10 => ?_
 show Ll _ _ (Own _ _ [_]) _ _ ((10, sl_ p10 (((R).length)) cap10) :: _) _ _ _
 refine Ll.run 1 rfl ?_
 refine Ll.appendInts (xs := R) (ys := Q) Base.elem28 0 rfl rfl rfl rfl rfl rfl rfl hcp10 hlp10 (by simpa using htp10) (fun w1 hw1 => (Row.own hvb hw1)) ((R ++ Q).length) (by first | (simp; done) | (simp; omega)) (by first | (simp; done) | (simp; omega) | omega) fun p12 cap12 cur12 hp12 hcp12 hlp12 htp12 => ?_
 show Ll _ _ (Own _ _ [_]) _ _ ((12, sl_ p12 (((R ++ Q).length)) cap12) :: _) _ _ _
 refine Ll.run 1 rfl ?_
 refine Ll.nil ?_
 refine Kt.sel [5, 6] [_, _] rfl ?_
 refine Wk.seq ?_
 refine Wk.seq ?_
 refine Wk.regionQ ?_
 refine Lq.run 1 rfl ?_
 refine Lq.nil ?_
 refine Kt.sel [5, 6, 7] [_, _, _] rfl ?_
 refine Wk.block ?_
 refine Wk.loop (σ := Nat) (fun k => k ≤ (R ++ Q).length ∧ 0 ≤ kindsP ((R ++ Q).take k) ∧ kindsP ((R ++ Q).take k) ≤ 1000000) (fun k => [(5, i6_ (kindsP ((R ++ Q).take k))), (6, sl_ p12 (((R ++ Q).length)) cap12), (7, i6_ ((k : Int)))]) (fun k => Own w.heap.size w [bk_ p12 cur12 3]) (fun k => (R ++ Q).length - k) (0) ⟨Nat.zero_le _, by rw [List.take_zero]; decide, by rw [List.take_zero]; decide⟩ (Sub.cons (by rfl) (Sub.sel [6, 7] rfl)) (fun _ h => h) ?_
 rintro k ⟨hk, h0, h1⟩
 refine Wk.seq ?_
 refine Wk.seq ?_
 refine Wk.regionQ ?_
 refine Lq.run 2 rfl ?_
 refine Lq.op rfl rfl rfl (OpQ.lenS rfl Tryz.runUnderlying28 rfl) ?_
 refine Lq.run 1 rfl ?_
 refine Lq.nil ?_
 refine Kt.sel [5, 6, 7, 16] [_, _, _, _] rfl ?_
 refine Wk.cond (b := decide (((k : Int)) < ((((R ++ Q).length) : Int)))) rfl (fun h16 => ?_) (fun h16 => ?_)
 ·
  replace h16 := of_decide_eq_true h16
  have hkl : k < (R ++ Q).length := by omega
  obtain ⟨hs0, hs1⟩ := hsm k hkl
  refine Wk.skip ?_
  refine Kt.sel [5, 6, 7] [_, _, _] rfl ?_
  refine Wk.seq ?_
  refine Wk.block ?_
  refine Wk.regionQ ?_
  refine Lq.run 3 rfl ?_
  refine Lq.op (v := pf_ p12 k) rfl rfl rfl (OpQ.cast (by simp) (OpQ.indexAddr1 rfl Tryz.runUnderlying28 Tryz.sizeOf3 rfl rfl (by omega) (by omega))) ?_
  refine Lq.op (v := i6_ ((R ++ Q).getD k 0)) rfl rfl rfl (OpQ.cast rfl (OpQ.loadAt 0 rfl Tryz.isAgg3 rfl rfl (cur_at (by simpa using htp12) (ints_at2 hkl)))) ?_
  refine Lq.op rfl rfl rfl (OpQ.add rfl rfl rfl (by omega) (by omega)) ?_
  refine Lq.op (v := i6_ (kindsP ((R ++ Q).take (k + 1)))) rfl rfl rfl (OpQ.cast (by rw [kinds_take hkl]; congr 1; omega) (OpQ.maxU rfl rfl rfl)) ?_
  refine Lq.run 1 rfl ?_
  refine Lq.nil ?_
  refine Kt.sel [5, 6, 7] [_, _, _] rfl ?_
  refine Wk.regionQ ?_
  refine Lq.run 1 rfl ?_
  refine Lq.op rfl rfl rfl (OpQ.add rfl rfl rfl (by omega) (by omega)) ?_
  refine Lq.run 1 rfl ?_
  refine Lq.nil ?_
  refine Kt.again (k + 1) ⟨by omega, by rw [kinds_take hkl]; omega, by rw [kinds_take hkl]; omega⟩ (by omega) (Sub.cons (by rfl) (Sub.sel [6, 7] rfl)) (fun _ h => h)
 ·
  replace h16 := of_decide_eq_false h16
  refine Wk.exit rfl ?_
  refine Kt.sel [5] [_] rfl ?_
  refine Wk.seq ?_
  refine Wk.regionQ ?_
  refine Lq.run 2 rfl ?_
  refine Lq.nil ?_
  refine Kt.sel [4] [_] rfl ?_
  refine Wk.ret (Kt.end1 rfl rfl fun w' hw => ?_)
  exact ⟨ret_i (by rw [List.take_of_length_le (by omega)]), hw.below⟩
end Go.Proofs.YtjcoijejhachhaaGreatDoor
namespace Go.Proofs.YtjcoijejhachhaaGreatDoor
open Go.RowKit Go.Wk
set_option linter.unusedSimpArgs false
set_option maxHeartbeats 400000 in
/-- spec.l7Levels -/
theorem l7Levels_ok (B : Nat) (w0 : World) (hs : List (Nat × Obj)) (a b : St) (k M : Nat) (w : World) (hVa : validB a = true) (hVb : validB b = true) (h1 : 1 ≤ k) (hk3 : k ≤ 3) (hM : M ≤ 2000) (hw : Own B w0 hs w) :
    Calls Tryz.prog 22 [vS a, vS b, i6_ ((k : Int)), i6_ ((M : Int))].toArray w fun en w' => ∃ (gA cA : Nat) (uA : Array Value) (rrA : List RR) (gB cB : Nat) (uB : Array Value) (rrB : List RR) (m : Nat), en = .returned (.tuple #[.slice (some ⟨gA, 0, none⟩) rrA.length cA, .slice (some ⟨gB, 0, none⟩) rrB.length cB]) ∧ (RowsOk rrA uA cA ∧ RowsOk rrB uB cB ∧ Levs k M a b (rrA.map RR.xs) (rrB.map RR.xs) m (m - 1) ∧ LevEnds k M a b m ∧ m ≤ 2000) ∧ Own B w0 ((gA, .cells uA 28 (0, 0)) :: (gB, .cells uB 28 (0, 0)) :: (rowsB 3 rrA ++ (rowsB 3 rrB ++ hs))) w' := by
 refine fnStartC (Own B w0 hs) (n := 83) (e := [(0, vS a), (1, vS b), (2, i6_ ((k : Int))), (3, i6_ ((M : Int)))]) Tryz.func22 rfl rfl rfl rfl Ends.both hw ?_
 have ha := validB_fine hVa
 have hb := validB_fine hVb
 have hm8 := ha.hi
 have hm1 := ha.lo
 have hb8 := hb.hi
 have hb1 := hb.lo
 have hpa := pow9 (size := a.n.toNat) (k := k) (by omega) hk3
 have hpb := pow9 (size := b.n.toNat) (k := k) (by omega) hk3
 refine Wk.seq ?_
 refine Wk.region ?_
 refine Ll.box (v := vS a) rfl rfl rfl rfl rfl fun p4 hp4 => ?_
 show Ll _ _ (Own _ _ (_ :: hs)) _ _ ((4, pt_ p4) :: _) _ _ _
 refine Ll.box (v := vS b) rfl rfl rfl rfl rfl fun p5 hp5 => ?_
 show Ll _ _ (Own _ _ (_ :: _ :: hs)) _ _ ((5, pt_ p5) :: _) _ _ _
 refine Ll.run 2 rfl ?_
 refine Ll.nil ?_
 refine Kt.sel [2, 3, 4, 5] [_, _, _, _] rfl ?_
 refine Wk.seq ?_
 refine Wk.region ?_
 refine Ll.callGet (σ := Nat × Nat × List Bkt) (ok := fun s => TabOk s.2.2 []) (v := fun s => .agg #[.slice (some ⟨s.1, 0, none⟩) 997 997, .slice (some ⟨s.2.1, 0, none⟩) 1 1]) (xs := []) (vs := []) (hs' := fun s => [bk_ p5 #[i6_ b.n, str b.set, str b.rel] 24, bk_ p4 #[i6_ a.n, str a.set, str a.rel] 24] ++ (tabL 110 3 112 s.1 s.2.1 s.2.2 [] ++ hs)) rfl rfl rfl rfl Tryz.call42 rfl (fun w1 hw1 => (l5New_ok _ _ _ w1 hw1).mono fun en w' ⟨q, c, h1, h2⟩ => ⟨(q, c, _), h1, TabOk.new, by dsimp only; exact h2.perm (perm_back _ [bk_ p5 #[i6_ b.n, str b.set, str b.rel] 24, bk_ p4 #[i6_ a.n, str a.set, str a.rel] 24] _)⟩) fun ⟨q, c, bs0⟩ hT0 => ?_
 show Ll _ _ (Own _ _ (_ :: _ :: _ :: _ :: ((blks 112 bs0 ++ hs)))) _ _ ((15, .agg #[sl_ q 997 997, sl_ c 1 1]) :: _) _ _ _
 refine Ll.alloc rfl rfl rfl rfl Tryz.zeroValue72 fun p10 hp10 => ?_
 show Ll _ _ (Own _ _ (bk_ p10 #[.slice none 0 0, .slice none 0 0] 72 :: _ :: _ :: _ :: _ :: ((blks 112 bs0 ++ hs)))) _ _ ((10, pt_ p10) :: _) _ _ _
 refine Ll.storeBox (cs' := #[sl_ q 997 997, sl_ c 1 1]) (hs' := (bk_ p10 #[sl_ q 997 997, sl_ c 1 1] 72 :: _ :: _ :: _ :: _ :: ((blks 112 bs0 ++ hs)))) 0 rfl rfl rfl rfl rfl (by kernel_rfl : _ = some Tryz.t72) rfl rfl rfl rfl rfl ?_
 refine Ll.nil ?_
 refine Kt.sel [2, 3, 4, 5, 10] [_, _, _, _, _] rfl ?_
 refine Wk.seq ?_
 refine Wk.region ?_
 refine Ll.op rfl rfl rfl (OpQ.loadBox (cs := #[sl_ q 997 997, sl_ c 1 1]) 0 rfl Tryz.isAgg72 rfl rfl Tryz.sizeOf72) ?_
 refine Ll.op rfl rfl rfl (OpQ.loadBox (cs := #[i6_ a.n, str a.set, str a.rel]) 2 rfl Tryz.isAgg24 rfl rfl Tryz.sizeOf24) ?_
 refine Ll.run 1 rfl ?_
 refine Ll.callGet (σ := Nat × List Int × List Bkt × List (List UInt8)) (ok := fun (g, R', bs', T') => TabTo (([] : List (List UInt8))) bs' T' ((a.n.toNat + 1) ^ k : Nat) ∧ NumOf T' (text0 a k) R' ((a.n.toNat + 1) ^ k : Nat) ∧ Onto (([] : List (List UInt8))) T' R' ((a.n.toNat + 1) ^ k : Nat)) (v := fun (g, R', bs', T') => .slice (some ⟨g, 0, none⟩) ((a.n.toNat + 1) ^ k : Nat) ((a.n.toNat + 1) ^ k : Nat)) (xs := [.tmp 16, .tmp 17, .tmp 18]) (vs := [.agg #[sl_ q 997 997, sl_ c 1 1], vS a, i6_ ((k : Int))]) (hs' := fun (g, R', bs', T') => (g, .cells (ints R').toArray 3 (0, 0)) :: ([bk_ p10 #[sl_ q 997 997, sl_ c 1 1] 72, bk_ p5 #[i6_ b.n, str b.set, str b.rel] 24, bk_ p4 #[i6_ a.n, str a.set, str a.rel] 24] ++ (tabL 110 3 112 q c bs' T' ++ hs))) rfl rfl rfl rfl Tryz.call43 rfl (fun w1 hw1 => (l7Start_ok B w0 ([bk_ p10 #[sl_ q 997 997, sl_ c 1 1] 72, bk_ p5 #[i6_ b.n, str b.set, str b.rel] 24, bk_ p4 #[i6_ a.n, str a.set, str a.rel] 24] ++ hs) q c bs0 (([] : List (List UInt8))) a  k w1  hT0 hVa h1 hk3 (by simp only [List.length_nil]; omega) (hw1.perm (perm_back [bk_ p10 #[sl_ q 997 997, sl_ c 1 1] 72, bk_ p5 #[i6_ b.n, str b.set, str b.rel] 24, bk_ p4 #[i6_ a.n, str a.set, str a.rel] 24] (tabL 110 3 112 q c bs0 (([] : List (List UInt8)))) hs))).mono fun en w' ⟨g, R', bs', T', h1, h2, h3⟩ => ⟨(g, R', bs', T'), h1.trans rfl, h2, h3.perm (List.Perm.cons _ (perm_back _ [bk_ p10 #[sl_ q 997 997, sl_ c 1 1] 72, bk_ p5 #[i6_ b.n, str b.set, str b.rel] 24, bk_ p4 #[i6_ a.n, str a.set, str a.rel] 24] _))⟩) fun ⟨r, R, bs_, T_⟩ hLr => ?_
 dsimp only at hLr
 show Ll _ _ (Own _ _ (_ :: _ :: _ :: _ :: _ :: _ :: ((blks 112 bs_ ++ hs)))) _ _ ((19, sl_ r (((a.n.toNat + 1) ^ k : Nat)) (((a.n.toNat + 1) ^ k : Nat))) :: _) _ _ _
 refine Ll.slice (xs := [.tmp 19]) (vs := [sl_ r (((a.n.toNat + 1) ^ k : Nat)) (((a.n.toNat + 1) ^ k : Nat))]) Base.elem48 rfl rfl rfl rfl rfl rfl (by decide) rfl fun p20 hp20 => ?_
 refine Ll.run 1 rfl ?_
 refine Ll.nil ?_
 refine Kt.sel [2, 3, 4, 5, 10, 11] [_, _, _, _, _, _] rfl ?_
 refine Wk.seq ?_
 refine Wk.region ?_
 refine Ll.op rfl rfl rfl (OpQ.loadBox (cs := #[sl_ q 997 997, sl_ c 1 1]) 2 rfl Tryz.isAgg72 rfl rfl Tryz.sizeOf72) ?_
 refine Ll.op rfl rfl rfl (OpQ.loadBox (cs := #[i6_ b.n, str b.set, str b.rel]) 3 rfl Tryz.isAgg24 rfl rfl Tryz.sizeOf24) ?_
 refine Ll.run 1 rfl ?_
 refine Ll.callGet (σ := Nat × List Int × List Bkt × List (List UInt8)) (ok := fun (g, R', bs', T') => TabTo T_ bs' T' ((b.n.toNat + 1) ^ k : Nat) ∧ NumOf T' (text0 b k) R' ((b.n.toNat + 1) ^ k : Nat) ∧ Onto T_ T' R' ((b.n.toNat + 1) ^ k : Nat)) (v := fun (g, R', bs', T') => .slice (some ⟨g, 0, none⟩) ((b.n.toNat + 1) ^ k : Nat) ((b.n.toNat + 1) ^ k : Nat)) (xs := [.tmp 21, .tmp 22, .tmp 23]) (vs := [.agg #[sl_ q 997 997, sl_ c 1 1], vS b, i6_ ((k : Int))]) (hs' := fun (g, R', bs', T') => (g, .cells (ints R').toArray 3 (0, 0)) :: ([bk_ p20 #[sl_ r (((a.n.toNat + 1) ^ k : Nat)) (((a.n.toNat + 1) ^ k : Nat))] 28, bk_ r ((ints R).toArray) 3, bk_ p10 #[sl_ q 997 997, sl_ c 1 1] 72, bk_ p5 #[i6_ b.n, str b.set, str b.rel] 24, bk_ p4 #[i6_ a.n, str a.set, str a.rel] 24] ++ (tabL 110 3 112 q c bs' T' ++ hs))) rfl rfl rfl rfl Tryz.call43 rfl (fun w1 hw1 => (l7Start_ok B w0 ([bk_ p20 #[sl_ r (((a.n.toNat + 1) ^ k : Nat)) (((a.n.toNat + 1) ^ k : Nat))] 28, bk_ r ((ints R).toArray) 3, bk_ p10 #[sl_ q 997 997, sl_ c 1 1] 72, bk_ p5 #[i6_ b.n, str b.set, str b.rel] 24, bk_ p4 #[i6_ a.n, str a.set, str a.rel] 24] ++ hs) q c bs_ T_ b  k w1  hLr.1.ok hVb h1 hk3 (by have := hLr.1.len; simp only [List.length_nil] at this; omega) (hw1.perm (perm_back [bk_ p20 #[sl_ r (((a.n.toNat + 1) ^ k : Nat)) (((a.n.toNat + 1) ^ k : Nat))] 28, bk_ r ((ints R).toArray) 3, bk_ p10 #[sl_ q 997 997, sl_ c 1 1] 72, bk_ p5 #[i6_ b.n, str b.set, str b.rel] 24, bk_ p4 #[i6_ a.n, str a.set, str a.rel] 24] (tabL 110 3 112 q c bs_ T_) hs))).mono fun en w' ⟨g, R', bs', T', h1, h2, h3⟩ => ⟨(g, R', bs', T'), h1.trans rfl, h2, h3.perm (List.Perm.cons _ (perm_back _ [bk_ p20 #[sl_ r (((a.n.toNat + 1) ^ k : Nat)) (((a.n.toNat + 1) ^ k : Nat))] 28, bk_ r ((ints R).toArray) 3, bk_ p10 #[sl_ q 997 997, sl_ c 1 1] 72, bk_ p5 #[i6_ b.n, str b.set, str b.rel] 24, bk_ p4 #[i6_ a.n, str a.set, str a.rel] 24] _))⟩) fun ⟨r_1, R_1, bs__1, T__1⟩ hLr_1 => ?_
 dsimp only at hLr_1
 show Ll _ _ (Own _ _ (_ :: _ :: _ :: _ :: _ :: _ :: _ :: _ :: ((blks 112 bs__1 ++ hs)))) _ _ ((24, sl_ r_1 (((b.n.toNat + 1) ^ k : Nat)) (((b.n.toNat + 1) ^ k : Nat))) :: _) _ _ _
 refine Ll.slice (xs := [.tmp 24]) (vs := [sl_ r_1 (((b.n.toNat + 1) ^ k : Nat)) (((b.n.toNat + 1) ^ k : Nat))]) Base.elem48 rfl rfl rfl rfl rfl rfl (by decide) rfl fun p25 hp25 => ?_
 refine Ll.run 1 rfl ?_
 refine Ll.nil ?_
 refine Kt.sel [2, 3, 4, 5, 11, 12] [_, _, _, _, _, _] rfl ?_
 refine Wk.seq ?_
 refine Wk.seq ?_
 refine Wk.regionQ ?_
 refine Lq.run 1 rfl ?_
 refine Lq.nil ?_
 refine Kt.sel [2, 3, 4, 5, 11, 12, 13] [_, _, _, _, _, _, _] rfl ?_
 refine Wk.block ?_
 refine Wk.loop (σ := Nat × Nat × Nat × Array Value × List RR × Nat × Nat × Array Value × List RR) (fun ⟨n, gA, cA, uA, rrA, gB, cB, uB, rrB⟩ => n ≤ M ∧ RowsOk rrA uA cA ∧ RowsOk rrB uB cB ∧ Levs k M a b (rrA.map RR.xs) (rrB.map RR.xs) n n) (fun ⟨n, gA, cA, uA, rrA, gB, cB, uB, rrB⟩ => [(2, i6_ ((k : Int))), (3, i6_ ((M : Int))), (4, pt_ p4), (5, pt_ p5), (11, sl_ gA rrA.length cA), (12, sl_ gB rrB.length cB), (13, i6_ ((n : Int)))]) (fun ⟨n, gA, cA, uA, rrA, gB, cB, uB, rrB⟩ => Own B w0 (bk_ gA uA 28 :: bk_ gB uB 28 :: bk_ p5 #[i6_ b.n, str b.set, str b.rel] 24 :: bk_ p4 #[i6_ a.n, str a.set, str a.rel] 24 :: ((rowsB 3 rrA ++ (rowsB 3 rrB ++ hs))))) (fun ⟨n, gA, cA, uA, rrA, gB, cB, uB, rrB⟩ => M - n) ((0, p20, 1, _, [⟨r, ((a.n.toNat + 1) ^ k : Nat), (ints R).toArray, R⟩], p25, 1, _, [⟨r_1, ((b.n.toNat + 1) ^ k : Nat), (ints R_1).toArray, R_1⟩])) ⟨by omega, RowsOk.oneI hLr.2.1.1, RowsOk.oneI hLr_1.2.1.1, levs_zero (lev_zero hLr_1.1.ok.nodup hLr_1.1.pre hLr.2.1 hLr_1.2.1 hLr.2.2 hLr_1.2.2) (by have h7 := hLr.1.len; have h8 := hLr_1.1.len; simp only [List.length_nil] at h7; omega)⟩ (Sub.sel [2, 3, 4, 5, 11, 12, 13] rfl) (fun _ h => (Own.pickT (hs := [_, _, _, _, _, _, _, _, _]) (hs' := [_, _, _, _, _, _]) (tl := blks 112 bs__1 ++ hs) h [2, 0, 5, 6, 3, 1] rfl (by decide)).sub (List.Sublist.cons_cons _ (List.Sublist.cons_cons _ (List.Sublist.cons_cons _ (List.Sublist.cons_cons _ (List.Sublist.cons_cons _ (List.Sublist.cons_cons _ (List.sublist_append_right _ _)))))))) ?_
 rintro ⟨n, gA, cA, uA, rrA, gB, cB, uB, rrB⟩ ⟨hn, hA, hB, hLv⟩
 dsimp only
 have hrA : rrA.length = n + 1 := by simpa using hLv.la
 have hrB : rrB.length = n + 1 := by simpa using hLv.lb
 obtain ⟨K, hK, hl⟩ := hLv.at (Nat.le_refl n)
 rw [xs_at, xs_at] at hl
 have hsA := hl.ma (by omega)
 have hsB := hl.mb (by omega)
 refine Wk.seq ?_
 refine Wk.seq ?_
 refine Wk.regionQ ?_
 refine Lq.run 3 rfl ?_
 refine Lq.nil ?_
 refine Kt.sel [2, 3, 4, 5, 11, 12, 13, 28] [_, _, _, _, _, _, _, _] rfl ?_
 refine Wk.cond (b := decide (((n : Int)) < ((M : Int)))) rfl (fun h28 => ?_) (fun h28 => ?_)
 ·
  replace h28 := of_decide_eq_true h28
  refine Wk.skip ?_
  refine Kt.sel [2, 3, 4, 5, 11, 12, 13] [_, _, _, _, _, _, _] rfl ?_
  refine Wk.seq ?_
  refine Wk.block ?_
  refine Wk.seq ?_
  refine Wk.region ?_
  refine Ll.callGet (σ := Nat × Nat × List Bkt) (ok := fun s => TabOk s.2.2 []) (v := fun s => .agg #[.slice (some ⟨s.1, 0, none⟩) 997 997, .slice (some ⟨s.2.1, 0, none⟩) 1 1]) (xs := []) (vs := []) (hs' := fun s => [bk_ gA uA 28, bk_ gB uB 28, bk_ p5 #[i6_ b.n, str b.set, str b.rel] 24, bk_ p4 #[i6_ a.n, str a.set, str a.rel] 24] ++ (tabL 110 3 112 s.1 s.2.1 s.2.2 [] ++ (rowsB 3 rrA ++ (rowsB 3 rrB ++ hs)))) rfl rfl rfl rfl Tryz.call42 rfl (fun w1 hw1 => (l5New_ok _ _ _ w1 hw1).mono fun en w' ⟨q, c, h1, h2⟩ => ⟨(q, c, _), h1, TabOk.new, by dsimp only; exact h2.perm (perm_back _ [bk_ gA uA 28, bk_ gB uB 28, bk_ p5 #[i6_ b.n, str b.set, str b.rel] 24, bk_ p4 #[i6_ a.n, str a.set, str a.rel] 24] _)⟩) fun ⟨q, c, bs0⟩ hT0 => ?_
  show Ll _ _ (Own _ _ (_ :: _ :: _ :: _ :: _ :: _ :: ((blks 112 bs0 ++ (rowsB 3 rrA ++ (rowsB 3 rrB ++ hs)))))) _ _ ((31, .agg #[sl_ q 997 997, sl_ c 1 1]) :: _) _ _ _
  refine Ll.alloc rfl rfl rfl rfl Tryz.zeroValue72 fun p14 hp14 => ?_
  show Ll _ _ (Own _ _ (bk_ p14 #[.slice none 0 0, .slice none 0 0] 72 :: _ :: _ :: _ :: _ :: _ :: _ :: ((blks 112 bs0 ++ (rowsB 3 rrA ++ (rowsB 3 rrB ++ hs)))))) _ _ ((14, pt_ p14) :: _) _ _ _
  refine Ll.storeBox (cs' := #[sl_ q 997 997, sl_ c 1 1]) (hs' := (bk_ p14 #[sl_ q 997 997, sl_ c 1 1] 72 :: _ :: _ :: _ :: _ :: _ :: _ :: ((blks 112 bs0 ++ (rowsB 3 rrA ++ (rowsB 3 rrB ++ hs)))))) 0 rfl rfl rfl rfl rfl (by kernel_rfl : _ = some Tryz.t72) rfl rfl rfl rfl rfl ?_
  refine Ll.nil ?_
  refine Kt.sel [2, 3, 4, 5, 11, 12, 13, 14] [_, _, _, _, _, _, _, _] rfl ?_
  refine Wk.seq ?_
  refine Wk.regionS (S := Own B w0 [bk_ p14 #[sl_ q 997 997, sl_ c 1 1] 72, bk_ gB uB 28, bk_ p5 #[i6_ b.n, str b.set, str b.rel] 24, bk_ p4 #[i6_ a.n, str a.set, str a.rel] 24]) [(0, true), (1, true), (2, true), (3, true), (4, true), (5, true), (7, true), (6, false), (8, false), (9, false), (10, false), (11, true)] Base.mixed (fun _ h => h.drawn) (by kernel_rfl) ?_
  refine Ld.run 1 rfl (pk [0, 2, 3, 4] rfl rfl) ?_
  refine Ld.take rfl rfl rfl rfl rfl (OpQ.loadBox (cs := #[sl_ q 997 997, sl_ c 1 1]) 0 rfl Tryz.isAgg72 rfl rfl Tryz.sizeOf72) (pk [0, 2, 3, 4] rfl rfl) ?_
  refine Ld.take rfl rfl rfl rfl rfl (OpQ.loadBox (cs := #[i6_ a.n, str a.set, str a.rel]) 3 rfl Tryz.isAgg24 rfl rfl Tryz.sizeOf24) (pk [0, 2, 3, 4] rfl rfl) ?_
  refine Ld.run 2 rfl (pk [0, 2, 3, 4] rfl rfl) ?_
  refine Ld.take (v := pf_ gA n) rfl rfl rfl rfl rfl (OpQ.cast (v' := pf_ gA n) (by simp) (OpQ.indexAddr1 (i := (n : Int)) rfl Tryz.runUnderlying48 Tryz.sizeOf28 rfl rfl (by omega) (by omega))) (pk [0, 2, 3, 4] rfl rfl) ?_
  refine Ld.run 1 rfl (pk [0, 2, 3, 4] rfl rfl) ?_
  refine Ld.loud rfl ?_
  refine Ll.op (v := rv (rrA.getD n rd)) rfl rfl rfl (OpQ.loadAt (v := rv (rrA.getD n rd)) 1 rfl Tryz.isAgg28 rfl rfl (hA.cell (i := n) (by omega))) ?_
  refine Ll.nil (Ld.joint (pk [0, 2, 3, 4] rfl rfl) ?_)
  refine Ld.loud rfl ?_
  refine Ll.callGet (σ := Nat × List Int × List Bkt × List (List UInt8)) (ok := fun (g, R', bs', T') => TabTo (([] : List (List UInt8))) bs' T' ((a.n.toNat + 1) ^ k : Nat) ∧ NumOf T' (textS a ((rrA.getD n rd).xs) k) R' ((a.n.toNat + 1) ^ k : Nat) ∧ Onto (([] : List (List UInt8))) T' R' ((a.n.toNat + 1) ^ k : Nat)) (v := fun (g, R', bs', T') => .slice (some ⟨g, 0, none⟩) ((a.n.toNat + 1) ^ k : Nat) ((a.n.toNat + 1) ^ k : Nat)) (xs := [.tmp 33, .tmp 34, .tmp 38, .tmp 39]) (vs := [.agg #[sl_ q 997 997, sl_ c 1 1], vS a, rv (rrA.getD n rd), i6_ ((k : Int))]) (hs' := fun (g, R', bs', T') => (g, .cells (ints R').toArray 3 (0, 0)) :: ([bk_ p14 #[sl_ q 997 997, sl_ c 1 1] 72, bk_ gA uA 28, bk_ gB uB 28, bk_ p5 #[i6_ b.n, str b.set, str b.rel] 24, bk_ p4 #[i6_ a.n, str a.set, str a.rel] 24] ++ (tabL 110 3 112 q c bs' T' ++ (rowsB 3 rrA ++ (rowsB 3 rrB ++ hs))))) rfl rfl rfl rfl Tryz.call44 rfl (fun w1 hw1 => (l7Round_ok B w0 ([bk_ p14 #[sl_ q 997 997, sl_ c 1 1] 72, bk_ gA uA 28, bk_ gB uB 28, bk_ p5 #[i6_ b.n, str b.set, str b.rel] 24, bk_ p4 #[i6_ a.n, str a.set, str a.rel] 24] ++ (rowsB 3 rrA ++ (rowsB 3 rrB ++ hs))) q c bs0 (([] : List (List UInt8))) a (rv (rrA.getD n rd)) ((rrA.getD n rd).xs) k w1 (fun w2 hw2 => Own.ofRows (Own.drop (f := [bk_ p14 #[sl_ q 997 997, sl_ c 1 1] 72, bk_ gA uA 28, bk_ gB uB 28, bk_ p5 #[i6_ b.n, str b.set, str b.rel] 24, bk_ p4 #[i6_ a.n, str a.set, str a.rel] 24]) hw2) hA.ok (i := n) (by omega)) hl.la hsA hT0 hVa h1 hk3 (by simp only [List.length_nil]; omega) (hw1.perm (perm_back [bk_ p14 #[sl_ q 997 997, sl_ c 1 1] 72, bk_ gA uA 28, bk_ gB uB 28, bk_ p5 #[i6_ b.n, str b.set, str b.rel] 24, bk_ p4 #[i6_ a.n, str a.set, str a.rel] 24] (tabL 110 3 112 q c bs0 (([] : List (List UInt8)))) (rowsB 3 rrA ++ (rowsB 3 rrB ++ hs))))).mono fun en w' ⟨g, R', bs', T', h1, h2, h3⟩ => ⟨(g, R', bs', T'), h1.trans (by rw [hl.la]), h2, h3.perm (List.Perm.cons _ (perm_back _ [bk_ p14 #[sl_ q 997 997, sl_ c 1 1] 72, bk_ gA uA 28, bk_ gB uB 28, bk_ p5 #[i6_ b.n, str b.set, str b.rel] 24, bk_ p4 #[i6_ a.n, str a.set, str a.rel] 24] _))⟩) fun ⟨r_2, R_2, bs__2, T__2⟩ hLr_2 => ?_
  dsimp only at hLr_2
  show Ll _ _ (Own _ _ (_ :: _ :: _ :: _ :: _ :: _ :: _ :: _ :: ((blks 112 bs__2 ++ (rowsB 3 rrA ++ (rowsB 3 rrB ++ hs)))))) _ _ ((40, sl_ r_2 (((a.n.toNat + 1) ^ k : Nat)) (((a.n.toNat + 1) ^ k : Nat))) :: _) _ _ _
  refine Ll.nil (Ld.joint (pk [1, 3, 4, 5] rfl rfl) ?_)
  refine Ld.loud rfl ?_
  refine Ll.slice (xs := [.tmp 40]) (vs := [sl_ r_2 (((a.n.toNat + 1) ^ k : Nat)) (((a.n.toNat + 1) ^ k : Nat))]) Base.elem48 rfl rfl rfl rfl rfl rfl (by decide) rfl fun p41 hp41 => ?_
  refine Ll.nil (Ld.joint (pk [2, 4, 5, 6] rfl rfl) ?_)
  refine Ld.loud rfl ?_
  refine Ll.append Base.elem48 3 [sl_ r_2 (((a.n.toNat + 1) ^ k : Nat)) (((a.n.toNat + 1) ^ k : Nat))] rfl rfl rfl rfl rfl rfl rfl hA.size hA.len rfl (fun h => by cases h) (fun w1 hw1 ad had j u hj => by injection had with had; subst had; rw [Addr.add_lit, Nat.zero_add, hw1.cell (i := 0) rfl]; simpa using hj) (by simp [Value.oneCell']) (by omega) fun gq capq curq hgq hcgq hlgq htgq => ?_
  show Ll _ _ (Own _ _ (_ :: _ :: _ :: _ :: _ :: _ :: _ :: _ :: _ :: ((blks 112 bs__2 ++ (rowsB 3 rrA ++ (rowsB 3 rrB ++ hs)))))) _ _ ((42, sl_ gq ((rrA.length + 1)) capq) :: _) _ _ _
  have hA2 := hA.addI (R := R_2) hLr_2.2.1.1 hcgq hlgq htgq
  refine Ll.nil (Ld.joint (pk [2, 4, 5, 6] rfl rfl) ?_)
  refine Ld.run 1 rfl (pk [2, 4, 5, 6] rfl rfl) ?_
  refine Ld.nil ?_
  refine Kt.sel [2, 3, 4, 5, 11, 12, 13, 14] [_, _, _, _, _, _, _, _] rfl ?_
  refine Wk.seq ?_
  refine Wk.regionS (S := Own B w0 [bk_ p41 #[sl_ r_2 (((a.n.toNat + 1) ^ k : Nat)) (((a.n.toNat + 1) ^ k : Nat))] 28, bk_ r_2 ((ints R_2).toArray) 3, bk_ p14 #[sl_ q 997 997, sl_ c 1 1] 72, bk_ gq curq 28, bk_ p5 #[i6_ b.n, str b.set, str b.rel] 24, bk_ p4 #[i6_ a.n, str a.set, str a.rel] 24]) [(0, true), (1, true), (2, true), (3, true), (4, true), (5, true), (7, true), (6, false), (8, false), (9, false), (10, false), (11, true)] Base.mixed (fun _ h => h.drawn) (by kernel_rfl) ?_
  refine Ld.run 1 rfl (pk [0, 1, 2, 3, 5, 6] rfl rfl) ?_
  refine Ld.take rfl rfl rfl rfl rfl (OpQ.loadBox (cs := #[sl_ q 997 997, sl_ c 1 1]) 2 rfl Tryz.isAgg72 rfl rfl Tryz.sizeOf72) (pk [0, 1, 2, 3, 5, 6] rfl rfl) ?_
  refine Ld.take rfl rfl rfl rfl rfl (OpQ.loadBox (cs := #[i6_ b.n, str b.set, str b.rel]) 4 rfl Tryz.isAgg24 rfl rfl Tryz.sizeOf24) (pk [0, 1, 2, 3, 5, 6] rfl rfl) ?_
  refine Ld.run 2 rfl (pk [0, 1, 2, 3, 5, 6] rfl rfl) ?_
  refine Ld.take (v := pf_ gB n) rfl rfl rfl rfl rfl (OpQ.cast (v' := pf_ gB n) (by simp) (OpQ.indexAddr1 (i := (n : Int)) rfl Tryz.runUnderlying48 Tryz.sizeOf28 rfl rfl (by omega) (by omega))) (pk [0, 1, 2, 3, 5, 6] rfl rfl) ?_
  refine Ld.run 1 rfl (pk [0, 1, 2, 3, 5, 6] rfl rfl) ?_
  refine Ld.loud rfl ?_
  refine Ll.op (v := rv (rrB.getD n rd)) rfl rfl rfl (OpQ.loadAt (v := rv (rrB.getD n rd)) 4 rfl Tryz.isAgg28 rfl rfl (hB.cell (i := n) (by omega))) ?_
  refine Ll.nil (Ld.joint (pk [0, 1, 2, 3, 5, 6] rfl rfl) ?_)
  refine Ld.loud rfl ?_
  refine Ll.callGet (σ := Nat × List Int × List Bkt × List (List UInt8)) (ok := fun (g, R', bs', T') => TabTo T__2 bs' T' ((b.n.toNat + 1) ^ k : Nat) ∧ NumOf T' (textS b ((rrB.getD n rd).xs) k) R' ((b.n.toNat + 1) ^ k : Nat) ∧ Onto T__2 T' R' ((b.n.toNat + 1) ^ k : Nat)) (v := fun (g, R', bs', T') => .slice (some ⟨g, 0, none⟩) ((b.n.toNat + 1) ^ k : Nat) ((b.n.toNat + 1) ^ k : Nat)) (xs := [.tmp 44, .tmp 45, .tmp 49, .tmp 50]) (vs := [.agg #[sl_ q 997 997, sl_ c 1 1], vS b, rv (rrB.getD n rd), i6_ ((k : Int))]) (hs' := fun (g, R', bs', T') => (g, .cells (ints R').toArray 3 (0, 0)) :: ([bk_ p41 #[sl_ r_2 (((a.n.toNat + 1) ^ k : Nat)) (((a.n.toNat + 1) ^ k : Nat))] 28, bk_ r_2 ((ints R_2).toArray) 3, bk_ p14 #[sl_ q 997 997, sl_ c 1 1] 72, bk_ gq curq 28, bk_ gB uB 28, bk_ p5 #[i6_ b.n, str b.set, str b.rel] 24, bk_ p4 #[i6_ a.n, str a.set, str a.rel] 24] ++ (tabL 110 3 112 q c bs' T' ++ (rowsB 3 rrA ++ (rowsB 3 rrB ++ hs))))) rfl rfl rfl rfl Tryz.call44 rfl (fun w1 hw1 => (l7Round_ok B w0 ([bk_ p41 #[sl_ r_2 (((a.n.toNat + 1) ^ k : Nat)) (((a.n.toNat + 1) ^ k : Nat))] 28, bk_ r_2 ((ints R_2).toArray) 3, bk_ p14 #[sl_ q 997 997, sl_ c 1 1] 72, bk_ gq curq 28, bk_ gB uB 28, bk_ p5 #[i6_ b.n, str b.set, str b.rel] 24, bk_ p4 #[i6_ a.n, str a.set, str a.rel] 24] ++ (rowsB 3 rrA ++ (rowsB 3 rrB ++ hs))) q c bs__2 T__2 b (rv (rrB.getD n rd)) ((rrB.getD n rd).xs) k w1 (fun w2 hw2 => Own.ofRows (Own.drop (f := rowsB 3 rrA) (Own.drop (f := [bk_ p41 #[sl_ r_2 (((a.n.toNat + 1) ^ k : Nat)) (((a.n.toNat + 1) ^ k : Nat))] 28, bk_ r_2 ((ints R_2).toArray) 3, bk_ p14 #[sl_ q 997 997, sl_ c 1 1] 72, bk_ gq curq 28, bk_ gB uB 28, bk_ p5 #[i6_ b.n, str b.set, str b.rel] 24, bk_ p4 #[i6_ a.n, str a.set, str a.rel] 24]) hw2)) hB.ok (i := n) (by omega)) hl.lb hsB hLr_2.1.ok hVb h1 hk3 (by have := hLr_2.1.len; simp only [List.length_nil] at this; omega) (hw1.perm (perm_back [bk_ p41 #[sl_ r_2 (((a.n.toNat + 1) ^ k : Nat)) (((a.n.toNat + 1) ^ k : Nat))] 28, bk_ r_2 ((ints R_2).toArray) 3, bk_ p14 #[sl_ q 997 997, sl_ c 1 1] 72, bk_ gq curq 28, bk_ gB uB 28, bk_ p5 #[i6_ b.n, str b.set, str b.rel] 24, bk_ p4 #[i6_ a.n, str a.set, str a.rel] 24] (tabL 110 3 112 q c bs__2 T__2) (rowsB 3 rrA ++ (rowsB 3 rrB ++ hs))))).mono fun en w' ⟨g, R', bs', T', h1, h2, h3⟩ => ⟨(g, R', bs', T'), h1.trans (by rw [hl.lb]), h2, h3.perm (List.Perm.cons _ (perm_back _ [bk_ p41 #[sl_ r_2 (((a.n.toNat + 1) ^ k : Nat)) (((a.n.toNat + 1) ^ k : Nat))] 28, bk_ r_2 ((ints R_2).toArray) 3, bk_ p14 #[sl_ q 997 997, sl_ c 1 1] 72, bk_ gq curq 28, bk_ gB uB 28, bk_ p5 #[i6_ b.n, str b.set, str b.rel] 24, bk_ p4 #[i6_ a.n, str a.set, str a.rel] 24] _))⟩) fun ⟨r_3, R_3, bs__3, T__3⟩ hLr_3 => ?_
  dsimp only at hLr_3
  show Ll _ _ (Own _ _ (_ :: _ :: _ :: _ :: _ :: _ :: _ :: _ :: _ :: _ :: ((blks 112 bs__3 ++ (rowsB 3 rrA ++ (rowsB 3 rrB ++ hs)))))) _ _ ((51, sl_ r_3 (((b.n.toNat + 1) ^ k : Nat)) (((b.n.toNat + 1) ^ k : Nat))) :: _) _ _ _
  refine Ll.nil (Ld.joint (pk [1, 2, 3, 4, 6, 7] rfl rfl) ?_)
  refine Ld.loud rfl ?_
  refine Ll.slice (xs := [.tmp 51]) (vs := [sl_ r_3 (((b.n.toNat + 1) ^ k : Nat)) (((b.n.toNat + 1) ^ k : Nat))]) Base.elem48 rfl rfl rfl rfl rfl rfl (by decide) rfl fun p52 hp52 => ?_
  refine Ll.nil (Ld.joint (pk [2, 3, 4, 5, 7, 8] rfl rfl) ?_)
  refine Ld.loud rfl ?_
  refine Ll.append Base.elem48 6 [sl_ r_3 (((b.n.toNat + 1) ^ k : Nat)) (((b.n.toNat + 1) ^ k : Nat))] rfl rfl rfl rfl rfl rfl rfl hB.size hB.len rfl (fun h => by cases h) (fun w1 hw1 ad had j u hj => by injection had with had; subst had; rw [Addr.add_lit, Nat.zero_add, hw1.cell (i := 0) rfl]; simpa using hj) (by simp [Value.oneCell']) (by omega) fun gq_1 capq_1 curq_1 hgq_1 hcgq_1 hlgq_1 htgq_1 => ?_
  show Ll _ _ (Own _ _ (_ :: _ :: _ :: _ :: _ :: _ :: _ :: _ :: _ :: _ :: _ :: ((blks 112 bs__3 ++ (rowsB 3 rrA ++ (rowsB 3 rrB ++ hs)))))) _ _ ((53, sl_ gq_1 ((rrB.length + 1)) capq_1) :: _) _ _ _
  have hB2 := hB.addI (R := R_3) hLr_3.2.1.1 hcgq_1 hlgq_1 htgq_1
  have hlv := lev_step hl hLr_3.1.ok.nodup hLr_3.1.pre hLr_2.2.1 hLr_3.2.1 hLr_2.2.2 hLr_3.2.2
  have hbA := hLr_2.1.len
  have hbB := hLr_3.1.len
  simp only [List.length_nil] at hbA
  have hLv2 : Levs k M a b ((rrA ++ [(RR.mk r_2 ((a.n.toNat + 1) ^ k : Nat) (ints R_2).toArray R_2)]).map RR.xs) ((rrB ++ [(RR.mk r_3 ((b.n.toNat + 1) ^ k : Nat) (ints R_3).toArray R_3)]).map RR.xs) (n + 1) n := by
   rw [List.map_append, List.map_append]; exact levs_more hLv hlv (by omega)
  have hlA := hl.la
  have hlB := hl.lb
  have hmA := hlv.la
  have hmB := hlv.lb
  refine Ll.nil (Ld.joint (pk [2, 3, 4, 5, 7, 8] rfl rfl) ?_)
  refine Ld.run 1 rfl (pk [2, 3, 4, 5, 7, 8] rfl rfl) ?_
  refine Ld.nil ?_
  refine Kt.sel [2, 3, 4, 5, 11, 12, 13] [_, _, _, _, _, _, _] rfl ?_
  refine Wk.seq ?_
  refine Wk.regionD Base.mixed (fun _ h => h.drawn) (by kernel_rfl) ?_
  refine Lq.run 3 rfl ?_
  refine Lq.bool fun b56 hg56 => ?_
  cases b56
  ·
   replace hg56 := of_decide_eq_false hg56
   have hgo := levs_go hLv2 (fun hM4 => by
    first | omega | (rw [xs_at, xs_at, xs_at, xs_at, getA1 (by omega), getA1 (by omega), getA2 (by omega), getA2 (by omega)]; exact hg56))
   skip
   refine Lq.pass rfl rfl rfl ?_
   refine Lq.pass rfl rfl rfl ?_
   refine Lq.pass rfl rfl rfl ?_
   refine Lq.pass rfl rfl rfl ?_
   refine Lq.pass rfl rfl rfl ?_
   refine Lq.pass rfl rfl rfl ?_
   refine Lq.pass rfl rfl rfl ?_
   refine Lq.pass rfl rfl rfl ?_
   refine Lq.pass rfl rfl rfl ?_
   refine Lq.pass rfl rfl rfl ?_
   refine Lq.pass rfl rfl rfl ?_
   refine Lq.pass rfl rfl rfl ?_
   refine Lq.pass rfl rfl rfl ?_
   refine Lq.pass rfl rfl rfl ?_
   refine Lq.pass rfl rfl rfl ?_
   refine Lq.pass rfl rfl rfl ?_
   refine Lq.pass rfl rfl rfl ?_
   refine Lq.pass rfl rfl rfl ?_
   refine Lq.pass rfl rfl rfl ?_
   refine Lq.pass rfl rfl rfl ?_
   refine Lq.pass rfl rfl rfl ?_
   refine Lq.run 1 rfl ?_
   refine Lq.nil ?_
   refine Kt.sel [2, 3, 4, 5, 11, 12, 13, 78] [_, _, _, _, _, _, _, _] rfl ?_
   refine Wk.condF rfl ?_
   refine Wk.skip ?_
   refine Kt.sel [2, 3, 4, 5, 11, 12, 13] [_, _, _, _, _, _, _] rfl ?_
   refine Wk.regionQ ?_
   refine Lq.run 1 rfl ?_
   refine Lq.op rfl rfl rfl (OpQ.add rfl rfl rfl (by omega) (by omega)) ?_
   refine Lq.run 1 rfl ?_
   refine Lq.nil ?_
   refine Kt.again ((n + 1, gq, capq, curq, rrA ++ [(RR.mk r_2 ((a.n.toNat + 1) ^ k : Nat) (ints R_2).toArray R_2)], gq_1, capq_1, curq_1, rrB ++ [(RR.mk r_3 ((b.n.toNat + 1) ^ k : Nat) (ints R_3).toArray R_3)])) ⟨by omega, hA2, hB2, hgo⟩ (by omega) (Sub.cons rfl (Sub.cons rfl (Sub.cons rfl (Sub.cons rfl (Sub.cons (by rw [List.length_append]; rfl) (Sub.cons (by rw [List.length_append]; rfl) (Sub.sel [13] rfl))))))) (fun _ h => rows_more2 (x := (RR.mk r_2 ((a.n.toNat + 1) ^ k : Nat) (ints R_2).toArray R_2)) (y := (RR.mk r_3 ((b.n.toNat + 1) ^ k : Nat) (ints R_3).toArray R_3)) (f := [_, _, _, _]) ((Own.pickT (hs := [_, _, _, _, _, _, _, _, _, _, _]) (hs' := [_, _, _, _, _, _]) (tl := blks 112 bs__3 ++ (rowsB 3 rrA ++ (rowsB 3 rrB ++ hs))) h [5, 6, 7, 8, 3, 1] rfl (by decide)).sub (List.Sublist.cons_cons _ (List.Sublist.cons_cons _ (List.Sublist.cons_cons _ (List.Sublist.cons_cons _ (List.Sublist.cons_cons _ (List.Sublist.cons_cons _ (List.sublist_append_right _ _)))))))))
  ·
   replace hg56 := of_decide_eq_true hg56
   refine Lq.run 2 rfl ?_
   refine Lq.op (v := pf_ gq n) rfl rfl rfl (OpQ.cast (v' := pf_ gq n) (by simp) (OpQ.indexAddr1 (i := (n : Int)) rfl Tryz.runUnderlying48 Tryz.sizeOf28 rfl rfl (by omega) (by omega))) ?_
   refine Lq.op (v := rv (rrA.getD n rd)) rfl rfl rfl (OpQ.loadAt (v := rv (rrA.getD n rd)) 5 rfl Tryz.isAgg28 rfl rfl (hA2.old (i := n) (by omega))) ?_
   refine Lq.run 2 rfl ?_
   refine Lq.op (v := pf_ gq_1 n) rfl rfl rfl (OpQ.cast (v' := pf_ gq_1 n) (by simp) (OpQ.indexAddr1 (i := (n : Int)) rfl Tryz.runUnderlying48 Tryz.sizeOf28 rfl rfl (by omega) (by omega))) ?_
   refine Lq.op (v := rv (rrB.getD n rd)) rfl rfl rfl (OpQ.loadAt (v := rv (rrB.getD n rd)) 6 rfl Tryz.isAgg28 rfl rfl (hB2.old (i := n) (by omega))) ?_
   refine Lq.op (v := i6_ (kindsP ((rrA.getD n rd).xs ++ (rrB.getD n rd).xs))) rfl rfl rfl (OpQ.call rfl Tryz.call45 rfl Own.stable (fun w1 hw1 => l7Kinds_ok (rv (rrA.getD n rd)) (rv (rrB.getD n rd)) ((rrA.getD n rd).xs) ((rrB.getD n rd).xs) w1 (Own.ofRows (Own.drop (f := bk_ p52 #[sl_ r_3 (((b.n.toNat + 1) ^ k : Nat)) (((b.n.toNat + 1) ^ k : Nat))] 28 :: bk_ r_3 ((ints R_3).toArray) 3 :: bk_ p41 #[sl_ r_2 (((a.n.toNat + 1) ^ k : Nat)) (((a.n.toNat + 1) ^ k : Nat))] 28 :: bk_ r_2 ((ints R_2).toArray) 3 :: bk_ p14 #[sl_ q 997 997, sl_ c 1 1] 72 :: bk_ gq curq 28 :: bk_ gq_1 curq_1 28 :: bk_ p5 #[i6_ b.n, str b.set, str b.rel] 24 :: bk_ p4 #[i6_ a.n, str a.set, str a.rel] 24 :: bk_ q ((bs__3.map bktV).toArray) 110 :: bk_ c #[i6_ ((T__3.length : Int))] 3 :: blks 112 bs__3) hw1) hA.ok (i := n) (by omega)) (Own.ofRows (Own.drop (f := rowsB 3 rrA) (Own.drop (f := bk_ p52 #[sl_ r_3 (((b.n.toNat + 1) ^ k : Nat)) (((b.n.toNat + 1) ^ k : Nat))] 28 :: bk_ r_3 ((ints R_3).toArray) 3 :: bk_ p41 #[sl_ r_2 (((a.n.toNat + 1) ^ k : Nat)) (((a.n.toNat + 1) ^ k : Nat))] 28 :: bk_ r_2 ((ints R_2).toArray) 3 :: bk_ p14 #[sl_ q 997 997, sl_ c 1 1] 72 :: bk_ gq curq 28 :: bk_ gq_1 curq_1 28 :: bk_ p5 #[i6_ b.n, str b.set, str b.rel] 24 :: bk_ p4 #[i6_ a.n, str a.set, str a.rel] 24 :: bk_ q ((bs__3.map bktV).toArray) 110 :: bk_ c #[i6_ ((T__3.length : Int))] 3 :: blks 112 bs__3) hw1)) hB.ok (i := n) (by omega)) (by omega) (by omega) (hl.sm (by omega)))) ?_
   refine Lq.run 2 rfl ?_
   refine Lq.op rfl rfl rfl (OpQ.add rfl rfl rfl (by omega) (by omega)) ?_
   refine Lq.op (v := pf_ gq ((n + 1))) rfl rfl rfl (OpQ.cast (v' := pf_ gq ((n + 1))) (by simp) (OpQ.indexAddr1 (i := ((n + 1) : Int)) rfl Tryz.runUnderlying48 Tryz.sizeOf28 rfl rfl (by omega) (by omega))) ?_
   refine Lq.op (v := sl_ r_2 (((a.n.toNat + 1) ^ k : Nat)) (((a.n.toNat + 1) ^ k : Nat))) rfl rfl rfl (OpQ.loadAt (v := sl_ r_2 (((a.n.toNat + 1) ^ k : Nat)) (((a.n.toNat + 1) ^ k : Nat))) 5 rfl Tryz.isAgg28 rfl rfl (hA2.newI (i := n + 1) hLr_2.2.1.1 (by omega))) ?_
   refine Lq.run 2 rfl ?_
   refine Lq.op rfl rfl rfl (OpQ.add rfl rfl rfl (by omega) (by omega)) ?_
   refine Lq.op (v := pf_ gq_1 ((n + 1))) rfl rfl rfl (OpQ.cast (v' := pf_ gq_1 ((n + 1))) (by simp) (OpQ.indexAddr1 (i := ((n + 1) : Int)) rfl Tryz.runUnderlying48 Tryz.sizeOf28 rfl rfl (by omega) (by omega))) ?_
   refine Lq.op (v := sl_ r_3 (((b.n.toNat + 1) ^ k : Nat)) (((b.n.toNat + 1) ^ k : Nat))) rfl rfl rfl (OpQ.loadAt (v := sl_ r_3 (((b.n.toNat + 1) ^ k : Nat)) (((b.n.toNat + 1) ^ k : Nat))) 6 rfl Tryz.isAgg28 rfl rfl (hB2.newI (i := n + 1) hLr_3.2.1.1 (by omega))) ?_
   refine Lq.op (v := i6_ (kindsP (R_2 ++ R_3))) rfl rfl rfl (OpQ.call rfl Tryz.call45 rfl Own.stable (fun w1 hw1 => l7Kinds_ok (sl_ r_2 (((a.n.toNat + 1) ^ k : Nat)) (((a.n.toNat + 1) ^ k : Nat))) (sl_ r_3 (((b.n.toNat + 1) ^ k : Nat)) (((b.n.toNat + 1) ^ k : Nat))) R_2 R_3 w1 (Own.intsR hw1 (i := 3) rfl (by omega) (by omega)) (Own.intsR hw1 (i := 1) rfl (by omega) (by omega)) (by omega) (by omega) (hlv.sm (by omega)))) ?_
   refine Lq.run 2 rfl ?_
   refine Lq.nil ?_
   refine Kt.sel [2, 3, 4, 5, 11, 12, 13, 78] [_, _, _, _, _, _, _, _] rfl ?_
   refine Wk.cond (b := decide ((kindsP ((rrA.getD n rd).xs ++ (rrB.getD n rd).xs)) = (kindsP (R_2 ++ R_3)))) rfl (fun h78 => ?_) (fun h78 => ?_)
   ·
    replace h78 := of_decide_eq_true h78
    have hst := levs_stop hLv2 (by
     rw [xs_at, xs_at, xs_at, xs_at, getA1 (by omega), getA1 (by omega), getA2 (by omega), getA2 (by omega)]
     exact h78)
    refine Wk.seq ?_
    refine Wk.regionQ ?_
    refine Lq.run 4 rfl ?_
    refine Lq.nil ?_
    refine Kt.sel [8, 9] [_, _] rfl ?_
    refine Wk.ret (Kt.end2 rfl rfl rfl fun w' hw => ?_)
    exact ⟨gq, capq, curq, rrA ++ [(RR.mk r_2 ((a.n.toNat + 1) ^ k : Nat) (ints R_2).toArray R_2)], gq_1, capq_1, curq_1, rrB ++ [(RR.mk r_3 ((b.n.toNat + 1) ^ k : Nat) (ints R_3).toArray R_3)], n + 1, by rw [List.length_append, List.length_append]; rfl, ⟨hA2, hB2, hLv2, .inr ⟨by omega, by omega, hst⟩, by omega⟩, rows_more2 (x := (RR.mk r_2 ((a.n.toNat + 1) ^ k : Nat) (ints R_2).toArray R_2)) (y := (RR.mk r_3 ((b.n.toNat + 1) ^ k : Nat) (ints R_3).toArray R_3)) (f := [_, _]) ((Own.pickT (hs := [_, _, _, _, _, _, _, _, _, _, _]) (hs' := [_, _, _, _]) (tl := blks 112 bs__3 ++ (rowsB 3 rrA ++ (rowsB 3 rrB ++ hs))) hw [5, 6, 3, 1] rfl (by decide)).sub (List.Sublist.cons_cons _ (List.Sublist.cons_cons _ (List.Sublist.cons_cons _ (List.Sublist.cons_cons _ (List.sublist_append_right _ _))))))⟩
   ·
    replace h78 := of_decide_eq_false h78
    have hgo := levs_go hLv2 (fun hM4 => by
     first | omega | (rw [xs_at, xs_at, xs_at, xs_at, getA1 (by omega), getA1 (by omega), getA2 (by omega), getA2 (by omega)]; exact h78))
    refine Wk.skip ?_
    refine Kt.sel [2, 3, 4, 5, 11, 12, 13] [_, _, _, _, _, _, _] rfl ?_
    refine Wk.regionQ ?_
    refine Lq.run 1 rfl ?_
    refine Lq.op rfl rfl rfl (OpQ.add rfl rfl rfl (by omega) (by omega)) ?_
    refine Lq.run 1 rfl ?_
    refine Lq.nil ?_
    refine Kt.again ((n + 1, gq, capq, curq, rrA ++ [(RR.mk r_2 ((a.n.toNat + 1) ^ k : Nat) (ints R_2).toArray R_2)], gq_1, capq_1, curq_1, rrB ++ [(RR.mk r_3 ((b.n.toNat + 1) ^ k : Nat) (ints R_3).toArray R_3)])) ⟨by omega, hA2, hB2, hgo⟩ (by omega) (Sub.cons rfl (Sub.cons rfl (Sub.cons rfl (Sub.cons rfl (Sub.cons (by rw [List.length_append]; rfl) (Sub.cons (by rw [List.length_append]; rfl) (Sub.sel [13] rfl))))))) (fun _ h => rows_more2 (x := (RR.mk r_2 ((a.n.toNat + 1) ^ k : Nat) (ints R_2).toArray R_2)) (y := (RR.mk r_3 ((b.n.toNat + 1) ^ k : Nat) (ints R_3).toArray R_3)) (f := [_, _, _, _]) ((Own.pickT (hs := [_, _, _, _, _, _, _, _, _, _, _]) (hs' := [_, _, _, _, _, _]) (tl := blks 112 bs__3 ++ (rowsB 3 rrA ++ (rowsB 3 rrB ++ hs))) h [5, 6, 7, 8, 3, 1] rfl (by decide)).sub (List.Sublist.cons_cons _ (List.Sublist.cons_cons _ (List.Sublist.cons_cons _ (List.Sublist.cons_cons _ (List.Sublist.cons_cons _ (List.Sublist.cons_cons _ (List.sublist_append_right _ _)))))))))
 ·
  replace h28 := of_decide_eq_false h28
  refine Wk.exit rfl ?_
  refine Kt.sel [11, 12] [_, _] rfl ?_
  refine Wk.seq ?_
  refine Wk.regionQ ?_
  refine Lq.run 4 rfl ?_
  refine Lq.nil ?_
  refine Kt.sel [8, 9] [_, _] rfl ?_
  refine Wk.ret (Kt.end2 rfl rfl rfl fun w' hw => ?_)
  obtain rfl : n = M := by omega
  exact ⟨gA, cA, uA, rrA, gB, cB, uB, rrB, n, rfl, ⟨hA, hB, hLv.less (by omega), .inl rfl, by omega⟩, hw.sub (List.Sublist.cons_cons _ (List.Sublist.cons_cons _ (List.Sublist.cons _ (List.Sublist.cons _ (List.Sublist.refl _)))))⟩
end Go.Proofs.YtjcoijejhachhaaGreatDoor
namespace Go.Proofs.YtjcoijejhachhaaGreatDoor
open Go.RowKit Go.Wk
set_option linter.unusedSimpArgs false
set_option maxHeartbeats 400000 in
/-- spec.l7Beside -/
theorem l7Beside_ok (k : Nat) (w : World) (hk : k ≤ 1000) :
    Calls Tryz.prog 26 [i6_ ((k : Int))].toArray w fun en w' => ∃ v, en = .returned v ∧ Below w.heap.size w w' ∧ NewRow w.heap.size 3 1 w' v (bes k).length (ints (bes k)) := by
 refine fnStart (n := 15) (e := [(0, i6_ ((k : Int)))]) Tryz.func26 rfl rfl rfl rfl Ends.both ?_
 refine Wk.seq ?_
 refine Wk.regionQ ?_
 refine Lq.run 1 rfl ?_
 refine Lq.nil ?_
 refine Kt.sel [0] [_] rfl ?_
 refine Wk.seq ?_
 refine Wk.region ?_
 refine Ll.slice (xs := []) (vs := []) Base.elem28 rfl rfl rfl rfl rfl rfl (by decide) rfl fun p5 hp5 => ?_
 refine Ll.run 1 rfl ?_
 refine Ll.nil ?_
 refine Kt.sel [0, 3] [_, _] rfl ?_
 refine Wk.seq ?_
 refine Wk.seq ?_
 refine Wk.regionQ ?_
 refine Lq.run 1 rfl ?_
 refine Lq.nil ?_
 refine Kt.sel [0, 3, 4] [_, _, _] rfl ?_
 refine Wk.block ?_
 refine Wk.loop (σ := Nat × Nat × Nat × Array Value) (fun ⟨j, g, c, cur⟩ => (j ≤ k) ∧ w.heap.size ≤ g ∧ cur.size = c * 1 ∧ (bes j).length ≤ c ∧ cur.toList.take ((bes j).length * 1) = ints (bes j)) (fun ⟨j, g, c, cur⟩ => [(0, i6_ ((k : Int))), (3, sl_ g ((bes j).length) c), (4, i6_ ((j : Int)))]) (fun ⟨j, g, c, cur⟩ => Own w.heap.size w [bk_ g cur 3]) (fun ⟨j, g, c, cur⟩ => k - j) ((0, p5, 0, #[])) ⟨by omega, by omega, rfl, Nat.le_refl _, rfl⟩ (Sub.sel [0, 3, 4] rfl) (fun _ h => h) ?_
 rintro ⟨j, g, c, cur⟩ ⟨hk, hg, hc, hl, ht⟩
 dsimp only
 refine Wk.seq ?_
 refine Wk.seq ?_
 refine Wk.regionQ ?_
 refine Lq.run 3 rfl ?_
 refine Lq.nil ?_
 refine Kt.sel [0, 3, 4, 8] [_, _, _, _] rfl ?_
 refine Wk.cond (b := decide (((j : Int)) < ((k : Int)))) rfl (fun h8 => ?_) (fun h8 => ?_)
 ·
  replace h8 := of_decide_eq_true h8
  refine Wk.skip ?_
  refine Kt.sel [0, 3, 4] [_, _, _] rfl ?_
  refine Wk.seq ?_
  refine Wk.block ?_
  refine Wk.region ?_
  refine Ll.run 1 rfl ?_
  refine Ll.slice (xs := [.const (i6_ (-1))]) (vs := [i6_ (-1)]) Base.elem28 rfl rfl rfl rfl rfl rfl (by decide) rfl fun p12 hp12 => ?_
  refine Ll.appendInts (xs := bes j) (ys := [-1]) Base.elem28 1 rfl rfl rfl rfl rfl rfl rfl hc hl (by simpa using ht) (fun w1 hw1 => (Own.row hw1 (i := 0) rfl (n := 1) (cap := 1) (vs := ints [-1]) rfl rfl (by decide))) (((bes j) ++ ([-1])).length) (by first | (simp; done) | (simp; omega)) (by first | (simp; done) | (simp; omega) | omega) fun p13 cap13 cur13 hp13 hcp13 hlp13 htp13 => ?_
  show Ll _ _ (Own _ _ [_, _]) _ _ ((13, sl_ p13 ((((bes j) ++ ([-1])).length)) cap13) :: _) _ _ _
  refine Ll.run 1 rfl ?_
  refine Ll.nil ?_
  refine Kt.sel [0, 3, 4] [_, _, _] rfl ?_
  refine Wk.regionQ ?_
  refine Lq.run 1 rfl ?_
  refine Lq.op rfl rfl rfl (OpQ.add rfl rfl rfl (by omega) (by omega)) ?_
  refine Lq.run 1 rfl ?_
  refine Lq.nil ?_
  refine Kt.again ((j + 1, p13, cap13, cur13)) ⟨(by omega), (by omega), hcp13, (by rw [bes_snoc]; exact hlp13), (by rw [bes_snoc]; exact htp13)⟩ (by omega) (Sub.cons rfl (Sub.cons (by rw [bes_snoc]; rfl) (Sub.sel [4] rfl))) (fun _ h => h.tail)
 ·
  replace h8 := of_decide_eq_false h8
  refine Wk.exit rfl ?_
  refine Kt.sel [3] [_] rfl ?_
  refine Wk.seq ?_
  refine Wk.regionQ ?_
  refine Lq.run 2 rfl ?_
  refine Lq.nil ?_
  refine Kt.sel [2] [_] rfl ?_
  refine Wk.ret (Kt.end1 rfl rfl fun w' hw => ?_)
  obtain rfl : k = j := by omega
  exact ⟨_, rfl, hw.below, hw.newRow (i := 0) rfl hc hl ht⟩
set_option maxHeartbeats 400000 in
/-- spec.PebbleClasses -/
theorem sPCls_ok (a : St) (q : Int) (w : World) (hsa : a.Small) (loa : -9223372036854775808 ≤ a.n) (hia : a.n ≤ 9223372036854775807) :
    Calls Tryz.prog 6 [vS a, i6_ q].toArray w fun en w' => en = .returned (.int .i64 (pebClsB a q)) ∧ Below w.heap.size w w' := by
 refine fnStart (n := 49) (e := [(0, vS a), (1, i6_ q)]) Tryz.func6 rfl rfl rfl rfl Ends.both ?_
 refine Wk.seq ?_
 refine Wk.region ?_
 refine Ll.box (v := vS a) rfl rfl rfl rfl rfl fun p2 hp2 => ?_
 show Ll _ _ (Own _ _ [_]) _ _ ((2, pt_ p2) :: _) _ _ _
 refine Ll.run 1 rfl ?_
 refine Ll.nil ?_
 refine Kt.sel [1, 2] [_, _] rfl ?_
 refine Wk.seq ?_
 refine Wk.region ?_
 refine Ll.slice (xs := []) (vs := []) Base.elem28 rfl rfl rfl rfl rfl rfl (by decide) rfl fun p9 hp9 => ?_
 refine Ll.run 1 rfl ?_
 refine Ll.nil ?_
 refine Kt.sel [1, 2, 5] [_, _, _] rfl ?_
 refine Wk.seq ?_
 refine Wk.seq ?_
 refine Wk.regionQ ?_
 refine Lq.op rfl rfl rfl (OpQ.loadBox (cs := #[i6_ a.n, str a.set, str a.rel]) 1 rfl Tryz.isAgg24 rfl rfl Tryz.sizeOf24) ?_
 refine Lq.op (v := bo_ (validB a)) rfl rfl rfl (OpQ.call rfl Tryz.call20 rfl Own.stable (fun w1 hw1 => sValid_ok a w1 hsa)) ?_
 refine Lq.run 2 rfl ?_
 refine Lq.bool fun b13 hg13 => ?_
 cases b13
 ·
  replace hg13 := not_false hg13
  refine Lq.run 1 rfl ?_
  refine Lq.op (v := bo_ (inB q 1 3)) rfl rfl rfl (OpQ.call rfl Tryz.call21 rfl Own.stable (fun w1 hw1 => l1In_ok q 1 3 w1 )) ?_
  refine Lq.run 2 rfl ?_
  refine Lq.nil ?_
  refine Kt.sel [1, 2, 5, 17] [_, _, _, _] rfl ?_
  refine Wk.cond (b := !(inB q 1 3)) rfl (fun h17 => ?_) (fun h17 => ?_)
  ·
   replace h17 := not_true h17
   refine Wk.seq ?_
   refine Wk.regionQ ?_
   refine Lq.run 1 rfl ?_
   refine Lq.nil ?_
   refine Kt.sel [4] [_] rfl ?_
   refine Wk.ret (Kt.end1 rfl rfl fun w' hw => ?_)
   exact ⟨ret_i (by unfold pebClsB; rw [if_neg (by simp_all)]), hw.below⟩
  ·
   replace h17 := not_false h17
   obtain ⟨k, rfl⟩ : ∃ k : Nat, q = (k : Int) := ⟨q.toNat, by first | omega | (unfold inB at *; simp_all; omega)⟩
   have h1 : 1 ≤ k := by unfold inB at *; simp_all; omega
   have h3 : k ≤ 3 := by unfold inB at *; simp_all; omega
   have hVa : validB a = true := by simp_all
   have hk3 : k ≤ 3 := h3
   have ha := validB_fine hVa
   have hm8 := ha.hi
   have hm1 := ha.lo
   refine Wk.skip ?_
   refine Kt.sel [1, 2, 5] [_, _, _] rfl ?_
   refine Wk.seq ?_
   refine Wk.region ?_
   refine Ll.op rfl rfl rfl (OpQ.loadBox (cs := #[i6_ a.n, str a.set, str a.rel]) 1 rfl Tryz.isAgg24 rfl rfl Tryz.sizeOf24) ?_
   refine Ll.op rfl rfl rfl (OpQ.loadBox (cs := #[i6_ a.n, str a.set, str a.rel]) 1 rfl Tryz.isAgg24 rfl rfl Tryz.sizeOf24) ?_
   refine Ll.run 1 rfl ?_
   refine Ll.callGet (σ := Nat × Nat × Array Value × List RR × Nat × Nat × Array Value × List RR × Nat) (ok := fun (gA, cA, uA, rrA, gB, cB, uB, rrB, m) => RowsOk rrA uA cA ∧ RowsOk rrB uB cB ∧ Levs k 2000 a a (rrA.map RR.xs) (rrB.map RR.xs) m (m - 1) ∧ LevEnds k 2000 a a m ∧ m ≤ 2000) (v := fun (gA, cA, uA, rrA, gB, cB, uB, rrB, m) => .tuple #[.slice (some ⟨gA, 0, none⟩) rrA.length cA, .slice (some ⟨gB, 0, none⟩) rrB.length cB]) (xs := [.tmp 19, .tmp 20, .tmp 21, .const (i6_ 2000)]) (vs := [vS a, vS a, i6_ ((k : Int)), i6_ 2000]) (hs' := fun (gA, cA, uA, rrA, gB, cB, uB, rrB, m) => [bk_ p9 #[] 3, bk_ p2 #[i6_ a.n, str a.set, str a.rel] 24] ++ ((gA, .cells uA 28 (0, 0)) :: (gB, .cells uB 28 (0, 0)) :: (rowsB 3 rrA ++ (rowsB 3 rrB ++ [])))) rfl rfl rfl rfl Tryz.call22 rfl (fun w1 hw1 => (l7Levels_ok _ _ _ a a k 2000 w1 hVa hVa h1 h3 (by omega) hw1).mono fun en w' ⟨gA, cA, uA, rrA, gB, cB, uB, rrB, m, h1, h2, h3⟩ => ⟨(gA, cA, uA, rrA, gB, cB, uB, rrB, m), h1, h2, h3.perm (rows_behind2 _ _ _ _ _)⟩) fun ⟨gA, cA, uA, rrA, gB, cB, uB, rrB, m⟩ ⟨hA, hB, hLv, hEn, hm2⟩ => ?_
   have hrA : rrA.length = m + 1 := by simpa using hLv.la
   have hrB : rrB.length = m + 1 := by simpa using hLv.lb
   obtain ⟨K, hK, hl⟩ := hLv.at (Nat.le_refl m)
   rw [xs_at, xs_at] at hl
   have hlA := hl.la
   have hlB := hl.lb
   show Ll _ _ (Own _ _ (_ :: _ :: _ :: _ :: ((rowsB 3 rrA ++ (rowsB 3 rrB ++ []))))) _ _ ((22, .tuple #[sl_ gA rrA.length cA, sl_ gB rrB.length cB]) :: _) _ _ _
   refine Ll.run 1 rfl ?_
   refine Ll.op (v := sl_ gA rrA.length cA) rfl rfl rfl (OpQ.extract rfl rfl rfl) ?_
   refine Ll.op (v := sl_ gB rrB.length cB) rfl rfl rfl (OpQ.extract rfl rfl rfl) ?_
   refine Ll.run 2 rfl ?_
   refine Ll.nil ?_
   refine Kt.sel [1, 2, 5, 6] [_, _, _, _] rfl ?_
   refine Wk.seq ?_
   refine Wk.seq ?_
   refine Wk.regionQ ?_
   refine Lq.run 1 rfl ?_
   refine Lq.nil ?_
   refine Kt.sel [1, 2, 5, 6, 8] [_, _, _, _, _] rfl ?_
   refine Wk.block ?_
   refine Wk.loop (σ := Nat × Nat × Nat × Array Value × List Int) (fun ⟨n, g, cap, cur, S⟩ => n ≤ a.n.toNat ∧ CntE (qE a k) (fun y => numP a.n.toNat (rrA.getD m rd).xs (bes1 k y)) n S ∧ cur.size = cap * 1 ∧ S.length ≤ cap ∧ cur.toList.take S.length = ints S) (fun ⟨n, g, cap, cur, S⟩ => [(1, i6_ ((k : Int))), (2, pt_ p2), (5, sl_ g S.length cap), (6, sl_ gA rrA.length cA), (8, i6_ ((n : Int)))]) (fun ⟨n, g, cap, cur, S⟩ => Own w.heap.size w (bk_ g cur 3 :: bk_ p2 #[i6_ a.n, str a.set, str a.rel] 24 :: bk_ gA uA 28 :: bk_ gB uB 28 :: ((rowsB 3 rrA ++ (rowsB 3 rrB ++ []))))) (fun ⟨n, g, cap, cur, S⟩ => a.n.toNat - n) ((0, p9, 0, #[], [])) ⟨by omega, CntE.zero, rfl, Nat.le_refl 0, rfl⟩ (Sub.sel [1, 2, 5, 6, 8] rfl) (fun _ h => h) ?_
   rintro ⟨n, g, cap, cur, S⟩ ⟨hn, hC, hcg, hlg, htg⟩
   dsimp only
   have hCl := hC.len
   refine Wk.seq ?_
   refine Wk.seq ?_
   refine Wk.regionQ ?_
   refine Lq.run 1 rfl ?_
   refine Lq.op rfl rfl rfl (OpQ.fieldAddr rfl Tryz.runUnderlying24 rfl Tryz.sizeOf3 rfl rfl) ?_
   refine Lq.op rfl rfl rfl (OpQ.loadOwn 1 rfl Tryz.isAgg3 rfl rfl rfl) ?_
   refine Lq.run 1 rfl ?_
   refine Lq.nil ?_
   refine Kt.sel [1, 2, 5, 6, 8, 28] [_, _, _, _, _, _] rfl ?_
   refine Wk.cond (b := decide (((n : Int)) < a.n)) rfl (fun h28 => ?_) (fun h28 => ?_)
   ·
    replace h28 := of_decide_eq_true h28
    have hbp := bes1_peb (size := a.n.toNat) (k := k) (x := n) (by omega)
    have hib : idxP a.n.toNat ((bes k).set 0 (n : Int)) < (a.n.toNat + 1) ^ k := idxP_lt hbp
    refine Wk.skip ?_
    refine Kt.sel [1, 2, 5, 6, 8] [_, _, _, _, _] rfl ?_
    refine Wk.seq ?_
    refine Wk.block ?_
    refine Wk.regionS (S := Own w.heap.size w (bk_ p2 #[i6_ a.n, str a.set, str a.rel] 24 :: bk_ gA uA 28 :: bk_ gB uB 28 :: ((rowsB 3 rrA ++ (rowsB 3 rrB ++ []))))) [(0, true), (1, true), (2, true), (3, true), (4, true), (5, true), (6, true), (7, true), (8, true), (10, true), (9, false), (11, false), (12, false), (13, true), (14, false), (15, false), (16, true)] Base.mixed (fun _ h => h.drawn) (by kernel_rfl) ?_
    refine Ld.run 3 rfl (fun _ h => Own.pickT (hs := [_, _, _, _]) (hs' := [_, _, _]) h [1, 2, 3] rfl (by decide)) ?_
    refine Ld.take rfl rfl rfl rfl rfl (OpQ.lenS rfl Tryz.runUnderlying48 rfl) (fun _ h => Own.pickT (hs := [_, _, _, _]) (hs' := [_, _, _]) h [1, 2, 3] rfl (by decide)) ?_
    refine Ld.take (v := i6_ ((m : Int))) rfl rfl rfl rfl rfl (OpQ.cast (by congr 1; omega) (OpQ.sub rfl rfl rfl (by omega) (by omega))) (fun _ h => Own.pickT (hs := [_, _, _, _]) (hs' := [_, _, _]) h [1, 2, 3] rfl (by decide)) ?_
    refine Ld.take (v := pf_ gA m) rfl rfl rfl rfl rfl (OpQ.cast (v' := pf_ gA m) (by simp) (OpQ.indexAddr1 (i := (m : Int)) rfl Tryz.runUnderlying48 Tryz.sizeOf28 rfl rfl (by omega) (by omega))) (fun _ h => Own.pickT (hs := [_, _, _, _]) (hs' := [_, _, _]) h [1, 2, 3] rfl (by decide)) ?_
    refine Ld.take (v := rv (rrA.getD m rd)) rfl rfl rfl rfl rfl (OpQ.loadAt (v := rv (rrA.getD m rd)) 1 rfl Tryz.isAgg28 rfl rfl (hA.cell (i := m) (by omega))) (fun _ h => Own.pickT (hs := [_, _, _, _]) (hs' := [_, _, _]) h [1, 2, 3] rfl (by decide)) ?_
    refine Ld.take rfl rfl rfl rfl rfl (OpQ.loadBox (cs := #[i6_ a.n, str a.set, str a.rel]) 0 rfl Tryz.isAgg24 rfl rfl Tryz.sizeOf24) (fun _ h => Own.pickT (hs := [_, _, _, _]) (hs' := [_, _, _]) h [1, 2, 3] rfl (by decide)) ?_
    refine Ld.run 2 rfl (fun _ h => Own.pickT (hs := [_, _, _, _]) (hs' := [_, _, _]) h [1, 2, 3] rfl (by decide)) ?_
    refine Ld.loud rfl ?_
    refine Ll.callRow (xs := [.tmp 39]) (m := (bes k).length) (vs := ints (bes k)) (el := 3) (size := 1) rfl rfl rfl rfl Tryz.call26 rfl (fun w1 hw1 => l7Beside_ok k w1 (by omega)) fun p40 cap40 cur40 hp40 hcp40 hlp40 htp40 => ?_
    refine Ll.nil (Ld.joint (fun _ h => Own.pickT (hs := [_, _, _, _, _]) (hs' := [_, _, _]) h [2, 3, 4] rfl (by decide)) ?_)
    refine Ld.loud rfl ?_
    refine Ll.callRow (xs := [.tmp 40, .const (i6_ 0), .tmp 41]) (m := (bes k).length) (vs := ints ((bes k).set 0 ((n : Int)))) (el := 3) (size := 1) rfl rfl rfl rfl Tryz.call25 rfl (fun w1 hw1 => l7Put_ok (sl_ p40 ((bes k).length) cap40) (bes k) 0 ((n : Int)) w1 (Own.row hw1 (i := 0) rfl (by simpa using htp40) (by simp) hlp40) (by rw [bes_len]; omega) (by rw [bes_len]; omega)) fun p42 cap42 cur42 hp42 hcp42 hlp42 htp42 => ?_
    refine Ll.nil (Ld.joint (fun _ h => Own.pickT (hs := [_, _, _, _, _, _]) (hs' := [_, _, _]) h [3, 4, 5] rfl (by decide)) ?_)
    refine Ld.loud rfl ?_
    refine Ll.op (v := i6_ (((idxP a.n.toNat ((bes k).set 0 ((n : Int))) : Nat) : Int))) rfl rfl rfl (OpQ.call rfl Tryz.call24 rfl Own.stable (fun w1 hw1 => l7Index_ok a (sl_ p42 ((bes k).length) cap42) ((bes k).set 0 ((n : Int))) w1 ha (Own.row hw1 (i := 0) rfl (by simpa using htp42) (by simp) hlp42) (by rw [List.length_set, bes_len]; exact hbp) (by rw [List.length_set, bes_len]; omega))) ?_
    refine Ll.nil (Ld.joint (fun _ h => Own.pickT (hs := [_, _, _, _, _, _]) (hs' := [_, _, _]) h [3, 4, 5] rfl (by decide)) ?_)
    refine Ld.take (v := .pointer (some (sAt (rv (rrA.getD m rd)) (((idxP a.n.toNat ((bes k).set 0 ((n : Int))) : Nat) : Int))))) rfl rfl rfl rfl rfl (OpQ.atRow rfl Tryz.runUnderlying28 Tryz.sizeOf3 rfl rfl (by omega) (by rw [ints_length]; omega) (fun w1 hw1 => Own.ofRows (Own.drop (f := [bk_ p2 #[i6_ a.n, str a.set, str a.rel] 24, bk_ gA uA 28, bk_ gB uB 28]) hw1) hA.ok (i := m) (by omega))) (fun _ h => Own.pickT (hs := [_, _, _, _, _, _]) (hs' := [_, _, _]) h [3, 4, 5] rfl (by decide)) ?_
    refine Ld.loud rfl ?_
    refine Ll.op (v := i6_ (numP a.n.toNat (rrA.getD m rd).xs (bes1 k n))) rfl rfl rfl (OpQ.cast rfl (OpQ.load1 rfl Tryz.isAgg3 rfl (fun w1 hw1 => Ints.cell (Own.ofRows (Own.drop (f := [bk_ p42 cur42 3, bk_ p40 cur40 3, bk_ g cur 3, bk_ p2 #[i6_ a.n, str a.set, str a.rel] 24, bk_ gA uA 28, bk_ gB uB 28]) hw1) hA.ok (i := m) (by omega)) (by omega) (by omega)))) ?_
    refine Ll.nil (Ld.joint (fun _ h => Own.pickT (hs := [_, _, _, _, _, _]) (hs' := [_, _, _]) h [3, 4, 5] rfl (by decide)) ?_)
    refine Ld.loud rfl ?_
    refine Ll.callGet (σ := Nat × Nat × Array Value) (ok := fun (g, c', u) => u.size = c' * 1 ∧ (insS S (numP a.n.toNat (rrA.getD m rd).xs (bes1 k n))).length ≤ c' ∧ u.toList.take (insS S (numP a.n.toNat (rrA.getD m rd).xs (bes1 k n))).length = ints (insS S (numP a.n.toNat (rrA.getD m rd).xs (bes1 k n)))) (v := fun (g, c', u) => .slice (some ⟨g, 0, none⟩) (insS S (numP a.n.toNat (rrA.getD m rd).xs (bes1 k n))).length c') (xs := [.tmp 31, .tmp 45]) (vs := [sl_ g S.length cap, i6_ (numP a.n.toNat (rrA.getD m rd).xs (bes1 k n))]) (hs' := fun (g, c', u) => (bk_ p42 cur42 3 :: bk_ p40 cur40 3 :: bk_ g u 3 :: bk_ p2 #[i6_ a.n, str a.set, str a.rel] 24 :: bk_ gA uA 28 :: bk_ gB uB 28 :: ((rowsB 3 rrA ++ (rowsB 3 rrB ++ []))))) rfl rfl rfl rfl Tryz.call23 rfl (fun w1 hw1 => (l5Insert_ok _ _ _ g cap cur S (numP a.n.toNat (rrA.getD m rd).xs (bes1 k n)) w1 hcg hlg htg (by omega) (hw1.perm (perm_back [bk_ p42 cur42 3, bk_ p40 cur40 3] [_] _))).mono fun en w' ⟨g', cap', cur', h1, h2, h3⟩ => ⟨(g', cap', cur'), h1, h2, h3.perm (perm_back [_] [bk_ p42 cur42 3, bk_ p40 cur40 3] _)⟩) fun ⟨g_, cap_, cur_⟩ ⟨hcg_, hlg_, htg_⟩ => ?_
    show Ll _ _ (Own _ _ (_ :: _ :: _ :: _ :: _ :: _ :: ((rowsB 3 rrA ++ (rowsB 3 rrB ++ []))))) _ _ ((46, sl_ g_ ((insS S (numP a.n.toNat (rrA.getD m rd).xs (bes1 k n))).length) cap_) :: _) _ _ _
    refine Ll.nil (Ld.joint (fun _ h => Own.pickT (hs := [_, _, _, _, _, _]) (hs' := [_, _, _]) h [3, 4, 5] rfl (by decide)) ?_)
    refine Ld.run 1 rfl (fun _ h => Own.pickT (hs := [_, _, _, _, _, _]) (hs' := [_, _, _]) h [3, 4, 5] rfl (by decide)) ?_
    refine Ld.nil ?_
    refine Kt.sel [1, 2, 5, 6, 8] [_, _, _, _, _] rfl ?_
    refine Wk.regionQ ?_
    refine Lq.run 1 rfl ?_
    refine Lq.op rfl rfl rfl (OpQ.add rfl rfl rfl (by omega) (by omega)) ?_
    refine Lq.run 1 rfl ?_
    refine Lq.nil ?_
    refine Kt.again ((n + 1, g_, cap_, cur_, (insS S (numP a.n.toNat (rrA.getD m rd).xs (bes1 k n))))) ⟨by omega, hC.step (fun y hy => (qE_true hVa h1 hk3 (by omega) (by omega)).trans (by have h9 := lev_ever hLv hEn (bes1_peb (k := k) (x := y) (by omega)) (bes1_peb (k := k) (x := n) (by omega)); rw [xs_at] at h9; exact h9.symm)), hcg_, hlg_, htg_⟩ (by omega) (Sub.sel [1, 2, 5, 6, 8] rfl) (fun _ h => Own.pickT (hs := [_, _, _, _, _, _]) (hs' := [_, _, _, _]) (tl := rowsB 3 rrA ++ (rowsB 3 rrB ++ [])) h [2, 3, 4, 5] rfl (by decide))
   ·
    replace h28 := of_decide_eq_false h28
    refine Wk.exit rfl ?_
    refine Kt.sel [5] [_] rfl ?_
    refine Wk.seq ?_
    refine Wk.regionQ ?_
    refine Lq.run 1 rfl ?_
    refine Lq.op rfl rfl rfl (OpQ.lenS rfl Tryz.runUnderlying28 rfl) ?_
    refine Lq.run 1 rfl ?_
    refine Lq.nil ?_
    refine Kt.sel [4] [_] rfl ?_
    refine Wk.ret (Kt.end1 rfl rfl fun w' hw => ?_)
    obtain rfl : n = a.n.toNat := by omega
    exact ⟨ret_i (by unfold pebClsB pebCls inB; rw [if_pos (by simp [hVa]; omega), Int.toNat_natCast, hC.cls]), hw.below⟩
 ·
  replace hg13 := not_true hg13
  refine Lq.pass rfl rfl rfl ?_
  refine Lq.pass rfl rfl rfl ?_
  refine Lq.pass rfl rfl rfl ?_
  refine Lq.run 1 rfl ?_
  refine Lq.nil ?_
  refine Kt.sel [1, 2, 5, 17] [_, _, _, _] rfl ?_
  refine Wk.condT rfl ?_
  refine Wk.seq ?_
  refine Wk.regionQ ?_
  refine Lq.run 1 rfl ?_
  refine Lq.nil ?_
  refine Kt.sel [4] [_] rfl ?_
  refine Wk.ret (Kt.end1 rfl rfl fun w' hw => ?_)
  exact ⟨ret_i (by unfold pebClsB; rw [if_neg (by simp_all)]), hw.below⟩
def pcl_ok_o1x : OV := (.take 0 (.take 2 (.one 1 (.one 3 (.take 4 (.take 5 .done))))))
theorem pcl_ok_o1x_c : ovB (opsOf 1 Tryz.f17.body) pcl_ok_o1x 6 true #[false, false, false, false, false, false] = true := (ovB_take (by kernel_rfl) (ovB_take (by kernel_rfl) (ovB_one (by kernel_rfl) (ovB_one (by kernel_rfl) (ovB_take (by kernel_rfl) (ovB_take (by kernel_rfl) (ovB_done (by kernel_rfl))))))))
set_option maxHeartbeats 400000 in
/-- impl.PebbleClasses$1 -/
theorem pcl_ok (a b : St) (k g h p T1 T2 Tp : Nat) (fv wv : Value) (n x y : Nat) (w : World) (hg : w.heap[g]? = some (.cells #[.int .i64 (k : Int)] T1 (0, 0))) (hh : w.heap[h]? = some (.cells #[.pointer (some ⟨p, 0, none⟩)] T2 (0, 0))) (hp : w.heap[p]? = some (.cells #[.int .i64 a.n, str a.set, str a.rel, .int .i64 b.n, str b.set, str b.rel, .int .i64 (k : Int), .int .i64 ((prN a b : Nat) : Int), fv, wv, .bool false] Tp (0, 0))) (hwv : Bools w wv (WL n a b k)) (hVa : validB a = true) (hVb : validB b = true) (h1 : 1 ≤ k) (hk3 : k ≤ 3) (hx : x < a.n.toNat) (hy : y < b.n.toNat) :
    Calls Tryz.prog 17 [i6_ ((x : Int)), i6_ ((y : Int)), .pointer (some ⟨g, 0, none⟩), .pointer (some ⟨h, 0, none⟩)].toArray w fun en w' => en = .returned (.bool ((WL n a b k).getD (stU b.n.toNat (prN a b) (bes1 k x) (bes1 k y) k k) false)) ∧ Below w.heap.size w w' := by
 refine fnStart (n := 29) (e := [(0, i6_ ((x : Int))), (1, i6_ ((y : Int))), (2, .pointer (some ⟨g, 0, none⟩)), (3, .pointer (some ⟨h, 0, none⟩))]) Tryz.func17 rfl rfl rfl rfl Ends.both ?_
 have ha := validB_fine hVa
 have hb := validB_fine hVb
 have hm8 := ha.hi
 have hm1 := ha.lo
 have hb8 := hb.hi
 have hb1 := hb.lo
 have hpr := prN_le (a := a) (b := b) (by omega) (by omega)
 have hpp := prN_pos a b
 have hbl := bes_len k
 have hsu := stU_lt (code_lt (a := a) (b := b) (k := k) (bes1_peb hx) (bes1_peb hy) bes1_sign) k (Nat.le_refl k)
 have hWt : (WL n a b k).length = prN a b ^ k := WL_len _ _ _ _
 have hN0 := pow65 hpr hk3
 refine Wk.seq ?_
 refine Wk.regionQ ?_
 refine Lq.run 1 rfl ?_
 refine Lq.nil ?_
 refine Kt.sel [0, 1, 2, 3] [_, _, _, _] rfl ?_
 refine Wk.seq ?_
 refine Wk.regionV (S := Own w.heap.size w []) pcl_ok_o1x Base.mixed (fun _ h => h.drawn) (ovOk_at (by kernel_rfl) (by kernel_rfl) (by kernel_rfl) (by kernel_rfl) pcl_ok_o1x_c) ?_
 refine Lv.take (v := i6_ ((k : Int))) rfl rfl rfl rfl rfl (OpQ.load1 rfl Tryz.isAgg3 rfl (fun w1 hw1 => by have := box_cells hg hw1 0 (i6_ ((k : Int))) rfl; rwa [Addr.add_lit] at this)) (fun _ h => h) ?_
 refine Lv.take (v := i6_ ((k : Int))) rfl rfl rfl rfl rfl (OpQ.load1 rfl Tryz.isAgg3 rfl (fun w1 hw1 => by have := box_cells hg hw1 0 (i6_ ((k : Int))) rfl; rwa [Addr.add_lit] at this)) (fun _ h => h) ?_
 refine Lv.loud rfl ?_
 refine Ll.callRow (xs := [.tmp 9]) (m := (bes k).length) (vs := ints (bes k)) (el := 3) (size := 1) rfl rfl rfl rfl Tryz.call14 rfl (fun w1 hw1 => besides_ok k w1 (by omega)) fun p10 cap10 cur10 hp10 hcp10 hlp10 htp10 => ?_
 refine Ll.nil (Lv.joint (fun _ h => h.tail) ?_)
 refine Lv.loud rfl ?_
 refine Ll.callRow (xs := [.tmp 11]) (m := (bes k).length) (vs := ints (bes k)) (el := 3) (size := 1) rfl rfl rfl rfl Tryz.call14 rfl (fun w1 hw1 => besides_ok k w1 (by omega)) fun p12 cap12 cur12 hp12 hcp12 hlp12 htp12 => ?_
 refine Ll.nil (Lv.joint (fun _ h => h.tail.tail) ?_)
 refine Lv.run 2 rfl (fun _ h => h.tail.tail) ?_
 refine Lv.nil ?_
 refine Kt.sel [0, 1, 3, 7, 8] [_, _, _, _, _] rfl ?_
 refine Wk.seq ?_
 refine Wk.region ?_
 refine Ll.run 4 rfl ?_
 refine Ll.op (v := pt_ p10) rfl rfl rfl (OpQ.cast rfl (OpQ.indexAddr1 (i := 0) rfl Tryz.runUnderlying28 Tryz.sizeOf3 rfl rfl (by decide) (by rw [bes_len]; omega))) ?_
 refine Ll.store1 (v := i6_ ((x : Int))) (hs' := [_, bk_ p10 ((cur10.setIfInBounds 0 (i6_ ((x : Int))))) 3]) 1 rfl rfl rfl rfl rfl rfl Tryz.sizeOf3 rfl (by rw [hcp10]; omega) rfl ?_
 refine Ll.op (v := pt_ p12) rfl rfl rfl (OpQ.cast rfl (OpQ.indexAddr1 (i := 0) rfl Tryz.runUnderlying28 Tryz.sizeOf3 rfl rfl (by decide) (by rw [bes_len]; omega))) ?_
 refine Ll.store1 (v := i6_ ((y : Int))) (hs' := [bk_ p12 ((cur12.setIfInBounds 0 (i6_ ((y : Int))))) 3, _]) 0 rfl rfl rfl rfl rfl rfl Tryz.sizeOf3 rfl (by rw [hcp12]; omega) rfl ?_
 refine Ll.nil ?_
 refine Kt.sel [3, 7, 8] [_, _, _] rfl ?_
 refine Wk.seq ?_
 refine Wk.regionD Base.mixed (fun _ h => h.drawn) (by kernel_rfl) ?_
 refine Lq.op (v := .pointer (some ⟨p, 0, none⟩)) rfl rfl rfl (OpQ.load1 rfl Tryz.isAgg37 rfl (fun w1 hw1 => by have := box_cells hh hw1 0 (.pointer (some ⟨p, 0, none⟩)) rfl; rwa [Addr.add_lit] at this)) ?_
 refine Lq.op (v := .pointer (some ⟨p, 0, none⟩)) rfl rfl rfl (OpQ.nilCheck rfl rfl) ?_
 refine Lq.op rfl rfl rfl (OpQ.fieldAddr rfl Tryz.runUnderlying44 rfl Tryz.sizeOf42 rfl rfl) ?_
 refine Lq.op (v := wv) rfl rfl rfl (OpQ.load1 rfl Tryz.isAgg42 rfl (fun w1 hw1 => at_box hp hw1 9 rfl)) ?_
 refine Lq.op (v := .pointer (some ⟨p, 0, none⟩)) rfl rfl rfl (OpQ.load1 rfl Tryz.isAgg37 rfl (fun w1 hw1 => by have := box_cells hh hw1 0 (.pointer (some ⟨p, 0, none⟩)) rfl; rwa [Addr.add_lit] at this)) ?_
 refine Lq.run 2 rfl ?_
 refine Lq.op (v := i6_ (((stU b.n.toNat (prN a b) (bes1 k x) (bes1 k y) k k : Nat) : Int))) rfl rfl rfl (OpQ.call rfl Tryz.call18 rfl Own.stable (fun w1 hw1 => stateOf_ok a b k p Tp fv wv (sl_ p10 ((bes k).length) cap10) (sl_ p12 ((bes k).length) cap12) (bes1 k x) (bes1 k y) w1 (box_heap hp hw1) (Own.row hw1 (i := 1) rfl (set_takeI (by simpa using htp10)) (by simp) hlp10) (Own.row hw1 (i := 0) rfl (set_takeI (by simpa using htp12)) (by simp) hlp12) hVa hVb hk3 (bes1_peb hx) (bes1_peb hy) bes1_sign)) ?_
 refine Lq.op (v := .pointer (some (sAt wv (((stU b.n.toNat (prN a b) (bes1 k x) (bes1 k y) k k : Nat) : Int))))) rfl rfl rfl (OpQ.atRow rfl Tryz.runUnderlying42 Tryz.sizeOf4 rfl rfl (by omega) (by rw [bools_length]; omega) (fun w1 hw1 => Row.own hwv hw1)) ?_
 refine Lq.op (v := bo_ ((WL n a b k).getD ((((stU b.n.toNat (prN a b) (bes1 k x) (bes1 k y) k k : Nat) : Int)).toNat) false)) rfl rfl rfl (OpQ.load1 rfl Tryz.isAgg4 rfl (fun w1 hw1 => Bools.cell (Row.own hwv hw1) (by omega) (by omega))) ?_
 refine Lq.run 1 rfl ?_
 refine Lq.nil ?_
 refine Kt.sel [6] [_] rfl ?_
 refine Wk.ret (Kt.end1 rfl rfl fun w' hw => ?_)
 exact ⟨rfl, hw.below⟩
def iPCls_at_o3x : OV := (.one 2 (.one 5 (.one 6 (.one 8 .done))))
theorem iPCls_at_o3x_c : ovB (opsOf 3 Tryz.f5.body) iPCls_at_o3x 4 true #[true, true, false, true, true, false, false, true, false] = true := (ovB_one (by kernel_rfl) (ovB_one (by kernel_rfl) (ovB_one (by kernel_rfl) (ovB_one (by kernel_rfl) (ovB_done (by kernel_rfl))))))
def iPCls_at_o3_1x : OV := (.one 5 (.one 6 (.one 8 .done)))
theorem iPCls_at_o3_1x_c : ovB (opsOf 3 Tryz.f5.body) iPCls_at_o3_1x 3 true #[true, true, true, true, true, false, false, true, false] = true := (ovB_one (by kernel_rfl) (ovB_one (by kernel_rfl) (ovB_one (by kernel_rfl) (ovB_done (by kernel_rfl)))))
def iPCls_at_o3_2x : OV := (.one 6 (.one 8 .done))
theorem iPCls_at_o3_2x_c : ovB (opsOf 3 Tryz.f5.body) iPCls_at_o3_2x 2 true #[true, true, true, true, true, true, false, true, false] = true := (ovB_one (by kernel_rfl) (ovB_one (by kernel_rfl) (ovB_done (by kernel_rfl))))
def iPCls_at_o3_3x : OV := (.one 7 (.one 8 .done))
theorem iPCls_at_o3_3x_c : ovB (opsOf 3 Tryz.f5.body) iPCls_at_o3_3x 2 true #[true, true, true, true, true, true, true, false, false] = true := (ovB_one (by kernel_rfl) (ovB_one (by kernel_rfl) (ovB_done (by kernel_rfl))))
def iPCls_at_o3_4x : OV := (.alt 6 iPCls_at_o3_3x (.one 7 iPCls_at_o3_2x))
theorem iPCls_at_o3_4x_c : ovB (opsOf 3 Tryz.f5.body) iPCls_at_o3_4x 3 true #[true, true, true, true, true, true, false, false, false] = true := (ovB_alt (by kernel_rfl) (ovB_at (by kernel_rfl) iPCls_at_o3_3x_c) (ovB_last (ovB_at (by kernel_rfl) iPCls_at_o3_2x_c)))
def iPCls_at_o3_5x : OV := (.alt 5 iPCls_at_o3_4x (.one 7 iPCls_at_o3_1x))
theorem iPCls_at_o3_5x_c : ovB (opsOf 3 Tryz.f5.body) iPCls_at_o3_5x 4 true #[true, true, true, true, true, false, false, false, false] = true := (ovB_alt (by kernel_rfl) (ovB_at (by kernel_rfl) iPCls_at_o3_4x_c) (ovB_last (ovB_at (by kernel_rfl) iPCls_at_o3_1x_c)))
def iPCls_at_o3_6x : OV := (.take 0 (.take 1 (.take 3 (.take 4 (.alt 2 iPCls_at_o3_5x (.one 7 iPCls_at_o3x))))))
theorem iPCls_at_o3_6x_c : ovB (opsOf 3 Tryz.f5.body) iPCls_at_o3_6x 9 true #[false, false, false, false, false, false, false, false, false] = true := (ovB_take (by kernel_rfl) (ovB_take (by kernel_rfl) (ovB_take (by kernel_rfl) (ovB_take (by kernel_rfl) (ovB_alt (by kernel_rfl) (ovB_at (by kernel_rfl) iPCls_at_o3_5x_c) (ovB_last (ovB_at (by kernel_rfl) iPCls_at_o3x_c)))))))
def iPCls_at_o3_7x : OV := .done
set_option maxHeartbeats 400000 in
/-- impl.PebbleClasses -/
theorem iPCls_at (a b : St) (hab : b = a) (q : Int) (w : World) (hsa : a.Small) (hsb : b.Small) :
    Calls Tryz.prog 5 [vS a, i6_ q].toArray w fun en w' => en = .returned (.int .i64 (pebClsB a q)) ∧ Below w.heap.size w w' := by
 refine fnStart (n := 34) (e := [(0, vS a), (1, i6_ q)]) Tryz.func5 rfl rfl rfl rfl Ends.both ?_
 refine Wk.seq ?_
 refine Wk.region ?_
 refine Ll.box (v := vS a) rfl rfl rfl rfl rfl fun p2 hp2 => ?_
 show Ll _ _ (Own _ _ [_]) _ _ ((2, pt_ p2) :: _) _ _ _
 refine Ll.box (v := i6_ q) rfl rfl rfl rfl rfl fun p3 hp3 => ?_
 show Ll _ _ (Own _ _ [_, _]) _ _ ((3, pt_ p3) :: _) _ _ _
 refine Ll.run 1 rfl ?_
 refine Ll.nil ?_
 refine Kt.sel [2, 3] [_, _] rfl ?_
 refine Wk.seq ?_
 refine Wk.seq ?_
 refine Wk.regionQ ?_
 refine Lq.op rfl rfl rfl (OpQ.loadBox (cs := #[i6_ a.n, str a.set, str a.rel]) 1 rfl Tryz.isAgg24 rfl rfl Tryz.sizeOf24) ?_
 refine Lq.op (v := bo_ (validB a)) rfl rfl rfl (OpQ.call rfl Tryz.call12 rfl Own.stable (fun w1 hw1 => isStructure_ok a w1 hsa)) ?_
 refine Lq.run 2 rfl ?_
 refine Lq.bool fun b10 hg10 => ?_
 cases b10
 ·
  replace hg10 := not_false hg10
  refine Lq.op rfl rfl rfl (OpQ.loadOwn 0 rfl Tryz.isAgg3 rfl rfl rfl) ?_
  refine Lq.run 3 rfl ?_
  refine Lq.bool fun b14 hg14 => ?_
  cases b14
  ·
   replace hg14 := of_decide_eq_false hg14
   refine Lq.op rfl rfl rfl (OpQ.loadOwn 0 rfl Tryz.isAgg3 rfl rfl rfl) ?_
   refine Lq.run 2 rfl ?_
   refine Lq.nil ?_
   refine Kt.sel [2, 3, 17] [_, _, _] rfl ?_
   refine Wk.cond (b := decide ((3 : Int) < q)) rfl (fun h17 => ?_) (fun h17 => ?_)
   ·
    replace h17 := of_decide_eq_true h17
    refine Wk.seq ?_
    refine Wk.regionQ ?_
    refine Lq.run 1 rfl ?_
    refine Lq.nil ?_
    refine Kt.sel [4] [_] rfl ?_
    refine Wk.ret (Kt.end1 rfl rfl fun w' hw => ?_)
    exact ⟨ret_i (by unfold pebClsB inB; rw [if_neg (by simp_all; try omega)]), hw.below⟩
   ·
    replace h17 := of_decide_eq_false h17
    obtain ⟨k, rfl⟩ : ∃ k : Nat, q = (k : Int) := ⟨q.toNat, by first | omega | (unfold inB at *; simp_all; omega)⟩
    have h1 : 1 ≤ k := by omega
    have h3 : k ≤ 3 := by omega
    have hVa : validB a = true := by simp_all
    have hVb : validB b = true := by rw [hab]; exact hVa
    have hk3 : k ≤ 3 := h3
    have hr := bes_ready hVa hVb h1 h3
    have hbl := bes_len k
    have ha := validB_fine hVa
    have hb := validB_fine hVb
    have hm8 := ha.hi
    have hm1 := ha.lo
    have hb8 := hb.hi
    have hb1 := hb.lo
    have hpr := prN_le (a := a) (b := b) (by omega) (by omega)
    have hpp := prN_pos a b
    refine Wk.skip ?_
    refine Kt.sel [2, 3] [_, _] rfl ?_
    refine Wk.seq ?_
    refine Wk.regionV (S := Own w.heap.size w [bk_ p3 #[i6_ ((k : Int))] 3, bk_ p2 #[i6_ a.n, str a.set, str a.rel] 24]) iPCls_at_o3_6x Base.mixed (fun _ h => h.drawn) (ovOk_at (by kernel_rfl) (by kernel_rfl) (by kernel_rfl) (by kernel_rfl) iPCls_at_o3_6x_c) ?_
    refine Lv.share (σ := Nat × Nat × Nat × Array Value × Nat × Nat × Array Value × Nat × Nat × Nat × Array Value × Nat × Nat × Array Value) iPCls_at_o3_7x (fun ⟨p5, p20, cap20, cur20, p23, cap23, cur23, p, gf, cf, uf, gw, cw, uw⟩ => (cur20.size = cap20 * 1 ∧ (bes k).length ≤ cap20 ∧ cur20.toList.take (bes k).length = ints (bes k)) ∧ (cur23.size = cap23 * 1 ∧ (bes k).length ≤ cap23 ∧ cur23.toList.take (bes k).length = ints (bes k)) ∧ (uf.size = cf * 1 ∧ ((WL 0 a b k)).length ≤ cf ∧ uf.toList.take ((WL 0 a b k)).length = bools ((WL 0 a b k))) ∧ (uw.size = cw * 1 ∧ ((WL 0 a b k)).length ≤ cw ∧ uw.toList.take ((WL 0 a b k)).length = bools ((WL 0 a b k)))) (fun ⟨p5, p20, cap20, cur20, p23, cap23, cur23, p, gf, cf, uf, gw, cw, uw⟩ => [(2, pt_ p2), (3, pt_ p3), (5, pt_ p5)]) (fun ⟨p5, p20, cap20, cur20, p23, cap23, cur23, p, gf, cf, uf, gw, cw, uw⟩ => Own w.heap.size w [bk_ p5 #[pt_ p] 37, bk_ p20 cur20 3, bk_ p23 cur23 3, bk_ p #[i6_ a.n, str a.set, str a.rel, i6_ b.n, str b.set, str b.rel, i6_ ((k : Int)), i6_ (((prN a b : Nat) : Int)), sl_ gf ((WL 0 a b k).length) cf, sl_ gw ((WL 0 a b k).length) cw, bo_ false] 44, bk_ gf uf 4, bk_ gw uw 4, bk_ p3 #[i6_ ((k : Int))] 3, bk_ p2 #[i6_ a.n, str a.set, str a.rel] 24]) ?_ fun H3_ => ?_
    ·
     rintro ⟨p5, p20, cap20, cur20, p23, cap23, cur23, p, gf, cf, uf, gw, cw, uw⟩ ⟨⟨hcp20, hlp20, htp20⟩, ⟨hcp23, hlp23, htp23⟩, ⟨hcgf, hlgf, htgf⟩, ⟨hcgw, hlgw, htgw⟩⟩
     dsimp only
     refine Lv.nil ?_
     refine Kt.sel [2, 3, 5] [_, _, _] rfl ?_
     refine Wk.seq ?_
     refine Wk.block ?_
     refine Wk.loop (σ := Nat × Nat × Nat × Array Value) (fun ⟨n, g, c, u⟩ => (WL n a b k).length ≤ c ∧ u.toList.take (WL n a b k).length = bools (WL n a b k)) (fun ⟨n, g, c, u⟩ => [(2, pt_ p2), (3, pt_ p3), (5, pt_ p5)]) (fun ⟨n, g, c, u⟩ => Own w.heap.size w [bk_ p #[i6_ a.n, str a.set, str a.rel, i6_ b.n, str b.set, str b.rel, i6_ ((k : Int)), i6_ (((prN a b : Nat) : Int)), sl_ gf ((WL 0 a b k).length) cf, sl_ g ((WL n a b k).length) c, bo_ false] 44, bk_ gf uf 4, bk_ g u 4, bk_ p5 #[pt_ p] 37, bk_ p3 #[i6_ ((k : Int))] 3, bk_ p2 #[i6_ a.n, str a.set, str a.rel] 24]) (fun ⟨n, g, c, u⟩ => nT (WL n a b k)) ((0, gw, cw, uw)) ⟨hlgw, (by simpa using htgw)⟩ (Sub.sel [2, 3, 5] rfl) (fun _ h => h.pick [3, 4, 5, 0, 6, 7] rfl (by decide)) ?_
     rintro ⟨n, g, c, u⟩ ⟨hlu, htu⟩
     dsimp only
     refine Wk.seq ?_
     refine Wk.seq ?_
     refine Wk.region ?_
     refine Ll.op rfl rfl rfl (OpQ.loadOwn 3 rfl Tryz.isAgg37 rfl rfl rfl) ?_
     refine Ll.callGet (σ := Nat × Nat × Array Value) (ok := fun (g, c', u) => u.size = c' * 1 ∧ (WL (n + 1) a b k).length ≤ c' ∧ u.toList.take (WL (n + 1) a b k).length = bools (WL (n + 1) a b k)) (v := fun _ => .bool (!((WL (n + 1) a b k) == (WL n a b k)))) (xs := [.tmp 25]) (vs := [pt_ p]) (hs' := fun (g, c', u) => [bk_ p #[i6_ a.n, str a.set, str a.rel, i6_ b.n, str b.set, str b.rel, i6_ ((k : Int)), i6_ (((prN a b : Nat) : Int)), sl_ gf ((WL 0 a b k).length) cf, sl_ g ((WL (n + 1) a b k).length) c', bo_ false] 44, bk_ gf uf 4, bk_ g u 4] ++ [bk_ p5 #[pt_ p] 37, bk_ p3 #[i6_ ((k : Int))] 3, bk_ p2 #[i6_ a.n, str a.set, str a.rel] 24]) rfl rfl rfl rfl Tryz.call15 rfl (fun w1 hw1 => (turn_ok _ _ [bk_ p5 #[pt_ p] 37, bk_ p3 #[i6_ ((k : Int))] 3, bk_ p2 #[i6_ a.n, str a.set, str a.rel] 24] a b k n p gf cf uf g c u w1 hVa hVb hk3 hlgf (by simpa using htgf) hlu htu hw1).mono fun en w' ⟨g, c', u, h1, h2, h3⟩ => ⟨(g, c', u), h1, h2, h3⟩) fun ⟨gt, ct, ut⟩ ⟨hcgt, hlgt, htgt⟩ => ?_
     show Ll _ _ (Own _ _ [_, _, _, _, _, _]) _ _ ((26, bo_ (!((WL (n + 1) a b k) == (WL n a b k)))) :: _) _ _ _
     refine Ll.nil ?_
     refine Kt.sel [2, 3, 5, 26] [_, _, _, _] rfl ?_
     refine Wk.cond (b := !((WL (n + 1) a b k) == (WL n a b k))) rfl (fun h26 => ?_) (fun h26 => ?_)
     ·
      have hdn := wl_down (n := n) (a := a) (b := b) (k := k) (by simpa using h26)
      refine Wk.skip ?_
      refine Kt.sel [2, 3, 5] [_, _, _] rfl ?_
      refine Wk.block ?_
      refine Wk.skip ?_
      refine Kt.again ((n + 1, gt, ct, ut)) ⟨hlgt, htgt⟩ (by omega) (Sub.sel [2, 3, 5] rfl) (fun _ h => h)
     ·
      have hE : WL (n + 1) a b k = WL n a b k := by simpa using h26
      have hcl := cls_length (fun y x => (WL (n + 1) a b k).getD (stU b.n.toNat (prN a b) (bes1 k y) (bes1 k x) k k) false) a.n.toNat
      have hmx : maxTo (clsN (fun y x => (WL (n + 1) a b k).getD (stU b.n.toNat (prN a b) (bes1 k y) (bes1 k x) k k) false) a.n.toNat).1 ((clsN (fun y x => (WL (n + 1) a b k).getD (stU b.n.toNat (prN a b) (bes1 k y) (bes1 k x) k k) false) a.n.toNat).1.length - 1) + 1 = pebClsB a (k : Int) := by
       subst hab; exact max_ever hVa h1 h3 hE
      have hcs : pebClsB a (k : Int) ≤ 8 := by
       unfold pebClsB pebCls; split <;> have := (cls_small (qE a ((k : Int)).toNat) a.n.toNat).1 <;> omega
      have hcs0 : -1 ≤ pebClsB a (k : Int) := by
       unfold pebClsB; split <;> omega
      refine Wk.exit rfl ?_
      refine Kt.sel [2, 3, 5] [_, _, _] rfl ?_
      refine Wk.seq ?_
      refine Wk.region ?_
      refine Ll.op rfl rfl rfl (OpQ.fieldAddr rfl Tryz.runUnderlying24 rfl Tryz.sizeOf3 rfl rfl) ?_
      refine Ll.op rfl rfl rfl (OpQ.loadOwn 5 rfl Tryz.isAgg3 rfl rfl rfl) ?_
      refine Ll.op (v := .func (.func 17) #[] #[pt_ p3, pt_ p5]) rfl rfl rfl (OpQ.func' (cap := [.tmp 3, .tmp 5]) rfl rfl) ?_
      refine Ll.callRow (xs := [.tmp 28, .tmp 29]) (m := (clsN (fun y x => (WL (n + 1) a b k).getD (stU b.n.toNat (prN a b) (bes1 k y) (bes1 k x) k k) false) a.n.toNat).1.length) (vs := ints ((clsN (fun y x => (WL (n + 1) a b k).getD (stU b.n.toNat (prN a b) (bes1 k y) (bes1 k x) k k) false) a.n.toNat).1)) (el := 3) (size := 1) rfl rfl rfl rfl Tryz.call16 rfl (fun w1 hw1 => classesBy_ok a.n w1 (by omega) 17 #[pt_ p3, pt_ p5] (fun y x => (WL (n + 1) a b k).getD (stU b.n.toNat (prN a b) (bes1 k y) (bes1 k x) k k) false) Tryz.call17 (fun w2 hb y x hy hx => pcl_ok a b k p3 p5 p _ _ _ (sl_ gf ((WL 0 a b k).length) cf) (sl_ gt ((WL (n + 1) a b k).length) ct) (n + 1) y x w2 ((hw1.stable _ _ hb).has 4 _ _ rfl).2 ((hw1.stable _ _ hb).has 3 _ _ rfl).2 ((hw1.stable _ _ hb).has 0 _ _ rfl).2 (Own.row (hw1.stable _ _ hb) (i := 2) rfl htgt (by simp) hlgt) hVa hVb h1 hk3 hy (by rw [hab]; exact hx))) fun p30 cap30 cur30 hp30 hcp30 hlp30 htp30 => ?_
      refine Ll.run 1 rfl ?_
      refine Ll.nil ?_
      refine Kt.sel [6] [_] rfl ?_
      refine Wk.seq ?_
      refine Wk.regionQ ?_
      refine Lq.run 1 rfl ?_
      refine Lq.op (v := i6_ (maxTo ((clsN (fun y x => (WL (n + 1) a b k).getD (stU b.n.toNat (prN a b) (bes1 k y) (bes1 k x) k k) false) a.n.toNat).1) (((clsN (fun y x => (WL (n + 1) a b k).getD (stU b.n.toNat (prN a b) (bes1 k y) (bes1 k x) k k) false) a.n.toNat).1).length - 1))) rfl rfl rfl (OpQ.call rfl Tryz.call19 rfl Own.stable (fun w1 hw1 => slMax_ok (sl_ p30 ((clsN (fun y x => (WL (n + 1) a b k).getD (stU b.n.toNat (prN a b) (bes1 k y) (bes1 k x) k k) false) a.n.toNat).1.length) cap30) ((clsN (fun y x => (WL (n + 1) a b k).getD (stU b.n.toNat (prN a b) (bes1 k y) (bes1 k x) k k) false) a.n.toNat).1) w1 (Own.row hw1 (i := 0) rfl (by simpa using htp30) (by simp) hlp30) (by omega) (by omega))) ?_
      refine Lq.op rfl rfl rfl (OpQ.add rfl rfl rfl (by omega) (by omega)) ?_
      refine Lq.run 1 rfl ?_
      refine Lq.nil ?_
      refine Kt.sel [4] [_] rfl ?_
      refine Wk.ret (Kt.end1 rfl rfl fun w' hw => ?_)
      exact ⟨ret_i hmx, hw.below⟩
    refine Lv.take rfl rfl rfl rfl rfl (OpQ.loadBox (cs := #[i6_ a.n, str a.set, str a.rel]) 1 rfl Tryz.isAgg24 rfl rfl Tryz.sizeOf24) (fun _ h => h) ?_
    refine Lv.take rfl rfl rfl rfl rfl (OpQ.loadOwn 0 rfl Tryz.isAgg3 rfl rfl rfl) (fun _ h => h) ?_
    refine Lv.take (v := vS b) rfl rfl rfl rfl rfl (OpQ.cast (by rw [hab]; rfl) (OpQ.loadBox (cs := #[i6_ a.n, str a.set, str a.rel]) 1 rfl Tryz.isAgg24 rfl rfl Tryz.sizeOf24)) (fun _ h => h) ?_
    refine Lv.take rfl rfl rfl rfl rfl (OpQ.loadOwn 0 rfl Tryz.isAgg3 rfl rfl rfl) (fun _ h => h) ?_
    refine Lv.alt rfl ?_ (Lv.loud rfl ?_)
    ·
     refine Ll.callRow (xs := [.tmp 19]) (m := (bes k).length) (vs := ints (bes k)) (el := 3) (size := 1) rfl rfl rfl rfl Tryz.call14 rfl (fun w1 hw1 => besides_ok k w1 (by omega)) fun p20 cap20 cur20 hp20 hcp20 hlp20 htp20 => ?_
     refine Ll.nil (Lv.joint (fun _ h => h.tail) ?_)
     refine Lv.alt rfl ?_ (Lv.loud rfl ?_)
     ·
      refine Ll.callRow (xs := [.tmp 22]) (m := (bes k).length) (vs := ints (bes k)) (el := 3) (size := 1) rfl rfl rfl rfl Tryz.call14 rfl (fun w1 hw1 => besides_ok k w1 (by omega)) fun p23 cap23 cur23 hp23 hcp23 hlp23 htp23 => ?_
      refine Ll.nil (Lv.joint (fun _ h => h.tail.tail) ?_)
      refine Lv.alt rfl ?_ (Lv.loud rfl ?_)
      ·
       refine Ll.callNew (σ := Nat × Nat × Nat × Array Value × Nat × Nat × Array Value) (ok := fun (p, gf, cf, uf, gw, cw, uw) => (uf.size = cf * 1 ∧ (WL 0 a b k).length ≤ cf ∧ uf.toList.take (WL 0 a b k).length = bools (WL 0 a b k)) ∧ (uw.size = cw * 1 ∧ (WL 0 a b k).length ≤ cw ∧ uw.toList.take (WL 0 a b k).length = bools (WL 0 a b k))) (v := fun (p, gf, cf, uf, gw, cw, uw) => .pointer (some ⟨p, 0, none⟩)) (new := fun (p, gf, cf, uf, gw, cw, uw) => [bk_ p #[i6_ a.n, str a.set, str a.rel, i6_ b.n, str b.set, str b.rel, i6_ ((k : Int)), i6_ (((prN a b : Nat) : Int)), sl_ gf ((WL 0 a b k).length) cf, sl_ gw ((WL 0 a b k).length) cw, bo_ false] 44, bk_ gf uf 4, bk_ gw uw 4]) (hs := [bk_ p23 cur23 3, bk_ p20 cur20 3, bk_ p3 #[i6_ ((k : Int))] 3, bk_ p2 #[i6_ a.n, str a.set, str a.rel] 24]) (xs := [.tmp 18, .tmp 20, .tmp 21, .tmp 23]) (vs := [vS a, sl_ p20 ((bes k).length) cap20, vS b, sl_ p23 ((bes k).length) cap23]) rfl rfl rfl rfl Tryz.call13 rfl (fun w1 hw1 => (newPeb_yes a b (bes k) (bes k) (sl_ p20 ((bes k).length) cap20) (sl_ p23 ((bes k).length) cap23) w1 hsa hsb (Own.row hw1 (i := 1) rfl (by simpa using htp20) (by simp) hlp20) (Own.row hw1 (i := 0) rfl (by simpa using htp23) (by simp) hlp23) (by simp; omega) (by simp; omega) k (bes_len k) hr).mono fun en w' ⟨p, gf, cf, uf, gw, cw, uw, h1, h2, h3, h4⟩ => ⟨(p, gf, cf, uf, gw, cw, uw), h1, ⟨h2, h3⟩, hw1.merge h4⟩) fun ⟨p, gf, cf, uf, gw, cw, uw⟩ ⟨⟨hcf, hlf, htf⟩, ⟨hcw, hlw, htw⟩⟩ => ?_
       show Ll _ _ (Own _ _ [_, _, _, _, _, _, _]) _ _ ((24, pt_ p) :: _) _ _ _
       refine Ll.nil (Lv.joint (fun _ h => h.tail.tail.tail.tail.tail) ?_)
       refine Lv.loud rfl ?_
       refine Ll.alloc rfl rfl rfl rfl Tryz.zeroValue37 fun p5 hp5 => ?_
       show Ll _ _ (Own _ _ [bk_ p5 #[.pointer none] 37, _, _, _, _, _, _, _]) _ _ ((5, pt_ p5) :: _) _ _ _
       refine Ll.nil (Lv.joint (fun _ h => h.tail.tail.tail.tail.tail.tail) ?_)
       refine Lv.loud rfl ?_
       refine Ll.store1 (v := pt_ p) (hs' := [bk_ p5 #[pt_ p] 37, _, _, _, _, _, _, _]) 0 rfl rfl rfl rfl rfl rfl Tryz.sizeOf37 rfl (by simp) rfl ?_
       refine Ll.nil (Lv.joint (fun _ h => h.tail.tail.tail.tail.tail.tail) ?_)
       exact Lv.to (H3_ ⟨p5, p20, cap20, cur20, p23, cap23, cur23, p, gf, cf, uf, gw, cw, uw⟩ ⟨⟨by simpa using hcp20, hlp20, by simpa using (by simpa using htp20)⟩, ⟨by simpa using hcp23, hlp23, by simpa using (by simpa using htp23)⟩, ⟨by simpa using hcf, hlf, by simpa using htf⟩, ⟨by simpa using hcw, hlw, by simpa using htw⟩⟩) (Sub.sel [2, 3, 5] rfl) (fun _ h => Own.pickT (hs := [_, _, _, _, _, _]) (hs' := [_, _, _, _, _, _]) h [0, 5, 4, 1, 2, 3] rfl (by decide))
      ·
       refine Ll.alloc rfl rfl rfl rfl Tryz.zeroValue37 fun p5_1 hp5_1 => ?_
       show Ll _ _ (Own _ _ [bk_ p5_1 #[.pointer none] 37, _, _, _, _]) _ _ ((5, pt_ p5_1) :: _) _ _ _
       refine Ll.nil (Lv.joint (fun _ h => h.tail.tail.tail) ?_)
       refine Lv.loud rfl ?_
       refine Ll.callNew (σ := Nat × Nat × Nat × Array Value × Nat × Nat × Array Value) (ok := fun (p, gf, cf, uf, gw, cw, uw) => (uf.size = cf * 1 ∧ (WL 0 a b k).length ≤ cf ∧ uf.toList.take (WL 0 a b k).length = bools (WL 0 a b k)) ∧ (uw.size = cw * 1 ∧ (WL 0 a b k).length ≤ cw ∧ uw.toList.take (WL 0 a b k).length = bools (WL 0 a b k))) (v := fun (p, gf, cf, uf, gw, cw, uw) => .pointer (some ⟨p, 0, none⟩)) (new := fun (p, gf, cf, uf, gw, cw, uw) => [bk_ p #[i6_ a.n, str a.set, str a.rel, i6_ b.n, str b.set, str b.rel, i6_ ((k : Int)), i6_ (((prN a b : Nat) : Int)), sl_ gf ((WL 0 a b k).length) cf, sl_ gw ((WL 0 a b k).length) cw, bo_ false] 44, bk_ gf uf 4, bk_ gw uw 4]) (hs := [bk_ p5_1 #[.pointer none] 37, bk_ p23 cur23 3, bk_ p20 cur20 3, bk_ p3 #[i6_ ((k : Int))] 3, bk_ p2 #[i6_ a.n, str a.set, str a.rel] 24]) (xs := [.tmp 18, .tmp 20, .tmp 21, .tmp 23]) (vs := [vS a, sl_ p20 ((bes k).length) cap20, vS b, sl_ p23 ((bes k).length) cap23]) rfl rfl rfl rfl Tryz.call13 rfl (fun w1 hw1 => (newPeb_yes a b (bes k) (bes k) (sl_ p20 ((bes k).length) cap20) (sl_ p23 ((bes k).length) cap23) w1 hsa hsb (Own.row hw1 (i := 2) rfl (by simpa using htp20) (by simp) hlp20) (Own.row hw1 (i := 1) rfl (by simpa using htp23) (by simp) hlp23) (by simp; omega) (by simp; omega) k (bes_len k) hr).mono fun en w' ⟨p, gf, cf, uf, gw, cw, uw, h1, h2, h3, h4⟩ => ⟨(p, gf, cf, uf, gw, cw, uw), h1, ⟨h2, h3⟩, hw1.merge h4⟩) fun ⟨p, gf, cf, uf, gw, cw, uw⟩ ⟨⟨hcf, hlf, htf⟩, ⟨hcw, hlw, htw⟩⟩ => ?_
       show Ll _ _ (Own _ _ [_, _, _, _, _, _, _, _]) _ _ ((24, pt_ p) :: _) _ _ _
       refine Ll.nil (Lv.joint (fun _ h => h.tail.tail.tail.tail.tail.tail) ?_)
       refine Lv.loud rfl ?_
       refine Ll.store1 (v := pt_ p) (hs' := [_, _, _, bk_ p5_1 #[pt_ p] 37, _, _, _, _]) 3 rfl rfl rfl rfl rfl rfl Tryz.sizeOf37 rfl (by simp) rfl ?_
       refine Ll.nil (Lv.joint (fun _ h => h.tail.tail.tail.tail.tail.tail) ?_)
       exact Lv.to (H3_ ⟨p5_1, p20, cap20, cur20, p23, cap23, cur23, p, gf, cf, uf, gw, cw, uw⟩ ⟨⟨by simpa using hcp20, hlp20, by simpa using (by simpa using htp20)⟩, ⟨by simpa using hcp23, hlp23, by simpa using (by simpa using htp23)⟩, ⟨by simpa using hcf, hlf, by simpa using htf⟩, ⟨by simpa using hcw, hlw, by simpa using htw⟩⟩) (Sub.sel [2, 3, 5] rfl) (fun _ h => Own.pickT (hs := [_, _, _, _, _, _]) (hs' := [_, _, _, _, _, _]) h [3, 5, 4, 0, 1, 2] rfl (by decide))
     ·
      refine Ll.alloc rfl rfl rfl rfl Tryz.zeroValue37 fun p5_2 hp5_2 => ?_
      show Ll _ _ (Own _ _ [bk_ p5_2 #[.pointer none] 37, _, _, _]) _ _ ((5, pt_ p5_2) :: _) _ _ _
      refine Ll.nil (Lv.joint (fun _ h => h.tail.tail) ?_)
      refine Lv.loud rfl ?_
      refine Ll.callRow (xs := [.tmp 22]) (m := (bes k).length) (vs := ints (bes k)) (el := 3) (size := 1) rfl rfl rfl rfl Tryz.call14 rfl (fun w1 hw1 => besides_ok k w1 (by omega)) fun p23_1 cap23_1 cur23_1 hp23_1 hcp23_1 hlp23_1 htp23_1 => ?_
      refine Ll.nil (Lv.joint (fun _ h => h.tail.tail.tail) ?_)
      refine Lv.loud rfl ?_
      refine Ll.callNew (σ := Nat × Nat × Nat × Array Value × Nat × Nat × Array Value) (ok := fun (p, gf, cf, uf, gw, cw, uw) => (uf.size = cf * 1 ∧ (WL 0 a b k).length ≤ cf ∧ uf.toList.take (WL 0 a b k).length = bools (WL 0 a b k)) ∧ (uw.size = cw * 1 ∧ (WL 0 a b k).length ≤ cw ∧ uw.toList.take (WL 0 a b k).length = bools (WL 0 a b k))) (v := fun (p, gf, cf, uf, gw, cw, uw) => .pointer (some ⟨p, 0, none⟩)) (new := fun (p, gf, cf, uf, gw, cw, uw) => [bk_ p #[i6_ a.n, str a.set, str a.rel, i6_ b.n, str b.set, str b.rel, i6_ ((k : Int)), i6_ (((prN a b : Nat) : Int)), sl_ gf ((WL 0 a b k).length) cf, sl_ gw ((WL 0 a b k).length) cw, bo_ false] 44, bk_ gf uf 4, bk_ gw uw 4]) (hs := [bk_ p23_1 cur23_1 3, bk_ p5_2 #[.pointer none] 37, bk_ p20 cur20 3, bk_ p3 #[i6_ ((k : Int))] 3, bk_ p2 #[i6_ a.n, str a.set, str a.rel] 24]) (xs := [.tmp 18, .tmp 20, .tmp 21, .tmp 23]) (vs := [vS a, sl_ p20 ((bes k).length) cap20, vS b, sl_ p23_1 ((bes k).length) cap23_1]) rfl rfl rfl rfl Tryz.call13 rfl (fun w1 hw1 => (newPeb_yes a b (bes k) (bes k) (sl_ p20 ((bes k).length) cap20) (sl_ p23_1 ((bes k).length) cap23_1) w1 hsa hsb (Own.row hw1 (i := 2) rfl (by simpa using htp20) (by simp) hlp20) (Own.row hw1 (i := 0) rfl (by simpa using htp23_1) (by simp) hlp23_1) (by simp; omega) (by simp; omega) k (bes_len k) hr).mono fun en w' ⟨p, gf, cf, uf, gw, cw, uw, h1, h2, h3, h4⟩ => ⟨(p, gf, cf, uf, gw, cw, uw), h1, ⟨h2, h3⟩, hw1.merge h4⟩) fun ⟨p, gf, cf, uf, gw, cw, uw⟩ ⟨⟨hcf, hlf, htf⟩, ⟨hcw, hlw, htw⟩⟩ => ?_
      show Ll _ _ (Own _ _ [_, _, _, _, _, _, _, _]) _ _ ((24, pt_ p) :: _) _ _ _
      refine Ll.nil (Lv.joint (fun _ h => h.tail.tail.tail.tail.tail.tail) ?_)
      refine Lv.loud rfl ?_
      refine Ll.store1 (v := pt_ p) (hs' := [_, _, _, _, bk_ p5_2 #[pt_ p] 37, _, _, _]) 4 rfl rfl rfl rfl rfl rfl Tryz.sizeOf37 rfl (by simp) rfl ?_
      refine Ll.nil (Lv.joint (fun _ h => h.tail.tail.tail.tail.tail.tail) ?_)
      exact Lv.to (H3_ ⟨p5_2, p20, cap20, cur20, p23_1, cap23_1, cur23_1, p, gf, cf, uf, gw, cw, uw⟩ ⟨⟨by simpa using hcp20, hlp20, by simpa using (by simpa using htp20)⟩, ⟨by simpa using hcp23_1, hlp23_1, by simpa using (by simpa using htp23_1)⟩, ⟨by simpa using hcf, hlf, by simpa using htf⟩, ⟨by simpa using hcw, hlw, by simpa using htw⟩⟩) (Sub.sel [2, 3, 5] rfl) (fun _ h => Own.pickT (hs := [_, _, _, _, _, _]) (hs' := [_, _, _, _, _, _]) h [4, 5, 3, 0, 1, 2] rfl (by decide))
    ·
     refine Ll.alloc rfl rfl rfl rfl Tryz.zeroValue37 fun p5_3 hp5_3 => ?_
     show Ll _ _ (Own _ _ [bk_ p5_3 #[.pointer none] 37, _, _]) _ _ ((5, pt_ p5_3) :: _) _ _ _
     refine Ll.nil (Lv.joint (fun _ h => h.tail) ?_)
     refine Lv.loud rfl ?_
     refine Ll.callRow (xs := [.tmp 19]) (m := (bes k).length) (vs := ints (bes k)) (el := 3) (size := 1) rfl rfl rfl rfl Tryz.call14 rfl (fun w1 hw1 => besides_ok k w1 (by omega)) fun p20_1 cap20_1 cur20_1 hp20_1 hcp20_1 hlp20_1 htp20_1 => ?_
     refine Ll.nil (Lv.joint (fun _ h => h.tail.tail) ?_)
     refine Lv.loud rfl ?_
     refine Ll.callRow (xs := [.tmp 22]) (m := (bes k).length) (vs := ints (bes k)) (el := 3) (size := 1) rfl rfl rfl rfl Tryz.call14 rfl (fun w1 hw1 => besides_ok k w1 (by omega)) fun p23_2 cap23_2 cur23_2 hp23_2 hcp23_2 hlp23_2 htp23_2 => ?_
     refine Ll.nil (Lv.joint (fun _ h => h.tail.tail.tail) ?_)
     refine Lv.loud rfl ?_
     refine Ll.callNew (σ := Nat × Nat × Nat × Array Value × Nat × Nat × Array Value) (ok := fun (p, gf, cf, uf, gw, cw, uw) => (uf.size = cf * 1 ∧ (WL 0 a b k).length ≤ cf ∧ uf.toList.take (WL 0 a b k).length = bools (WL 0 a b k)) ∧ (uw.size = cw * 1 ∧ (WL 0 a b k).length ≤ cw ∧ uw.toList.take (WL 0 a b k).length = bools (WL 0 a b k))) (v := fun (p, gf, cf, uf, gw, cw, uw) => .pointer (some ⟨p, 0, none⟩)) (new := fun (p, gf, cf, uf, gw, cw, uw) => [bk_ p #[i6_ a.n, str a.set, str a.rel, i6_ b.n, str b.set, str b.rel, i6_ ((k : Int)), i6_ (((prN a b : Nat) : Int)), sl_ gf ((WL 0 a b k).length) cf, sl_ gw ((WL 0 a b k).length) cw, bo_ false] 44, bk_ gf uf 4, bk_ gw uw 4]) (hs := [bk_ p23_2 cur23_2 3, bk_ p20_1 cur20_1 3, bk_ p5_3 #[.pointer none] 37, bk_ p3 #[i6_ ((k : Int))] 3, bk_ p2 #[i6_ a.n, str a.set, str a.rel] 24]) (xs := [.tmp 18, .tmp 20, .tmp 21, .tmp 23]) (vs := [vS a, sl_ p20_1 ((bes k).length) cap20_1, vS b, sl_ p23_2 ((bes k).length) cap23_2]) rfl rfl rfl rfl Tryz.call13 rfl (fun w1 hw1 => (newPeb_yes a b (bes k) (bes k) (sl_ p20_1 ((bes k).length) cap20_1) (sl_ p23_2 ((bes k).length) cap23_2) w1 hsa hsb (Own.row hw1 (i := 1) rfl (by simpa using htp20_1) (by simp) hlp20_1) (Own.row hw1 (i := 0) rfl (by simpa using htp23_2) (by simp) hlp23_2) (by simp; omega) (by simp; omega) k (bes_len k) hr).mono fun en w' ⟨p, gf, cf, uf, gw, cw, uw, h1, h2, h3, h4⟩ => ⟨(p, gf, cf, uf, gw, cw, uw), h1, ⟨h2, h3⟩, hw1.merge h4⟩) fun ⟨p, gf, cf, uf, gw, cw, uw⟩ ⟨⟨hcf, hlf, htf⟩, ⟨hcw, hlw, htw⟩⟩ => ?_
     show Ll _ _ (Own _ _ [_, _, _, _, _, _, _, _]) _ _ ((24, pt_ p) :: _) _ _ _
     refine Ll.nil (Lv.joint (fun _ h => h.tail.tail.tail.tail.tail.tail) ?_)
     refine Lv.loud rfl ?_
     refine Ll.store1 (v := pt_ p) (hs' := [_, _, _, _, _, bk_ p5_3 #[pt_ p] 37, _, _]) 5 rfl rfl rfl rfl rfl rfl Tryz.sizeOf37 rfl (by simp) rfl ?_
     refine Ll.nil (Lv.joint (fun _ h => h.tail.tail.tail.tail.tail.tail) ?_)
     exact Lv.to (H3_ ⟨p5_3, p20_1, cap20_1, cur20_1, p23_2, cap23_2, cur23_2, p, gf, cf, uf, gw, cw, uw⟩ ⟨⟨by simpa using hcp20_1, hlp20_1, by simpa using (by simpa using htp20_1)⟩, ⟨by simpa using hcp23_2, hlp23_2, by simpa using (by simpa using htp23_2)⟩, ⟨by simpa using hcf, hlf, by simpa using htf⟩, ⟨by simpa using hcw, hlw, by simpa using htw⟩⟩) (Sub.sel [2, 3, 5] rfl) (fun _ h => Own.pickT (hs := [_, _, _, _, _, _]) (hs' := [_, _, _, _, _, _]) h [5, 4, 3, 0, 1, 2] rfl (by decide))
  ·
   replace hg14 := of_decide_eq_true hg14
   refine Lq.pass rfl rfl rfl ?_
   refine Lq.pass rfl rfl rfl ?_
   refine Lq.run 1 rfl ?_
   refine Lq.nil ?_
   refine Kt.sel [2, 3, 17] [_, _, _] rfl ?_
   refine Wk.condT rfl ?_
   refine Wk.seq ?_
   refine Wk.regionQ ?_
   refine Lq.run 1 rfl ?_
   refine Lq.nil ?_
   refine Kt.sel [4] [_] rfl ?_
   refine Wk.ret (Kt.end1 rfl rfl fun w' hw => ?_)
   exact ⟨ret_i (by unfold pebClsB inB; rw [if_neg (by simp_all; try omega)]), hw.below⟩
 ·
  replace hg10 := not_true hg10
  refine Lq.pass rfl rfl rfl ?_
  refine Lq.pass rfl rfl rfl ?_
  refine Lq.run 2 rfl ?_
  refine Lq.pass rfl rfl rfl ?_
  refine Lq.pass rfl rfl rfl ?_
  refine Lq.run 1 rfl ?_
  refine Lq.nil ?_
  refine Kt.sel [2, 3, 17] [_, _, _] rfl ?_
  refine Wk.condT rfl ?_
  refine Wk.seq ?_
  refine Wk.regionQ ?_
  refine Lq.run 1 rfl ?_
  refine Lq.nil ?_
  refine Kt.sel [4] [_] rfl ?_
  refine Wk.ret (Kt.end1 rfl rfl fun w' hw => ?_)
  exact ⟨ret_i (by unfold pebClsB inB; rw [if_neg (by simp_all; try omega)]), hw.below⟩
theorem iPCls_ok (a : St) (q : Int) (w : World) (hsa : a.Small) :
    Calls Tryz.prog 5 #[vS a, .int .i64 q] w fun en w' => en = .returned (.int .i64 (pebClsB a q)) ∧ Below w.heap.size w w' := iPCls_at a a rfl q w hsa hsa
end Go.Proofs.YtjcoijejhachhaaGreatDoor
namespace Go.Proofs.YtjcoijejhachhaaGreatDoor
open Go.RowKit Go.Wk
set_option linter.unusedSimpArgs false
set_option maxHeartbeats 400000 in
/-- slices.Index[[]int,int] -/
theorem index_ok (va : Value) (xs : List Int) (y : Int) (w : World) (hva : Ints w va xs) (hs1 : xs.length ≤ 1000000) :
    Calls Tryz.prog 88 [va, i6_ y].toArray w fun en w' => en = .returned (.int .i64 (idxI xs fun z => decide (y = z))) ∧ Below w.heap.size w w' := by
 refine fnStart (n := 19) (e := [(0, va), (1, i6_ y)]) Tryz.func88 rfl rfl rfl rfl Ends.both ?_
 refine Wk.seq ?_
 refine Wk.regionQ ?_
 refine Lq.run 1 rfl ?_
 refine Lq.nil ?_
 refine Kt.sel [0, 1] [_, _] rfl ?_
 refine Wk.seq ?_
 refine Wk.seq ?_
 refine Wk.regionQ ?_
 refine Lq.run 1 rfl ?_
 refine Lq.op (v := i6_ ((xs.length : Int))) rfl rfl rfl (OpQ.lenRow rfl Tryz.runUnderlying28 rfl (ints_length _) (fun w1 hw1 => Row.own hva hw1)) ?_
 refine Lq.run 1 rfl ?_
 refine Lq.nil ?_
 refine Kt.sel [0, 1, 7, 8] [_, _, _, _] rfl ?_
 refine Wk.block ?_
 refine Wk.loop (σ := Nat) (fun k => k ≤ xs.length ∧ ∀ i : Nat, i < k → (fun z => decide (y = z)) (xs.getD i 0) = false) (fun k => [(0, va), (1, i6_ y), (7, i6_ ((xs.length : Int))), (8, i6_ ((k : Int)))]) (fun k => Own w.heap.size w []) (fun k => xs.length - k) (0) ⟨by omega, fun i hi => absurd hi (by omega)⟩ (Sub.sel [0, 1, 7, 8] rfl) (fun _ h => h) ?_
 rintro k ⟨hk, hall⟩
 refine Wk.seq ?_
 refine Wk.regionQ ?_
 refine Lq.run 1 rfl ?_
 refine Lq.nil ?_
 refine Kt.sel [0, 1, 7, 8, 9] [_, _, _, _, _] rfl ?_
 refine Wk.seq ?_
 refine Wk.cond (b := decide (((k : Int)) < ((xs.length : Int)))) rfl (fun h9 => ?_) (fun h9 => ?_)
 ·
  replace h9 := of_decide_eq_true h9
  refine Wk.skip ?_
  refine Kt.sel [0, 1, 7, 8] [_, _, _, _] rfl ?_
  refine Wk.seq ?_
  refine Wk.block ?_
  refine Wk.seq ?_
  refine Wk.regionQ ?_
  refine Lq.run 2 rfl ?_
  refine Lq.nil ?_
  refine Kt.sel [0, 1, 5, 7, 8] [_, _, _, _, _] rfl ?_
  refine Wk.seq ?_
  refine Wk.regionQ ?_
  refine Lq.run 3 rfl ?_
  refine Lq.op (v := .pointer (some (sAt va ((k : Int))))) rfl rfl rfl (OpQ.atRow rfl Tryz.runUnderlying28 Tryz.sizeOf3 rfl rfl (by omega) (by rw [ints_length]; omega) (fun w1 hw1 => Row.own hva hw1)) ?_
  refine Lq.op (v := i6_ (xs.getD (((k : Int)).toNat) 0)) rfl rfl rfl (OpQ.load1 rfl Tryz.isAgg3 rfl (fun w1 hw1 => Ints.cell (Row.own hva hw1) (by omega) (by omega))) ?_
  refine Lq.run 1 rfl ?_
  refine Lq.nil ?_
  refine Kt.sel [0, 1, 5, 7, 8, 16] [_, _, _, _, _, _] rfl ?_
  refine Wk.cond (b := decide (y = (xs.getD (((k : Int)).toNat) 0))) rfl (fun h16 => ?_) (fun h16 => ?_)
  ·
   replace h16 := of_decide_eq_true h16
   refine Wk.seq ?_
   refine Wk.regionQ ?_
   refine Lq.run 2 rfl ?_
   refine Lq.nil ?_
   refine Kt.sel [4] [_] rfl ?_
   refine Wk.ret (Kt.end1 rfl rfl fun w' hw => ?_)
   exact ⟨ret_i (idxI_at (by omega) hall (by simpa using h16)).symm, hw.below⟩
  ·
   replace h16 := of_decide_eq_false h16
   refine Wk.skip ?_
   refine Kt.sel [0, 1, 7, 8] [_, _, _, _] rfl ?_
   refine Wk.regionQ ?_
   refine Lq.op rfl rfl rfl (OpQ.add rfl rfl rfl (by omega) (by omega)) ?_
   refine Lq.run 1 rfl ?_
   refine Lq.nil ?_
   refine Kt.again (k + 1) ⟨by omega, fun i hi => (Nat.lt_succ_iff_lt_or_eq.1 hi).elim (hall i) (fun e => by subst e; simpa using h16)⟩ (by omega) (Sub.sel [0, 1, 7, 8] rfl) (fun _ h => h)
 ·
  replace h9 := of_decide_eq_false h9
  refine Wk.exit rfl ?_
  refine Kt.sel [] [] rfl ?_
  refine Wk.seq ?_
  refine Wk.regionQ ?_
  refine Lq.run 1 rfl ?_
  refine Lq.nil ?_
  refine Kt.sel [4] [_] rfl ?_
  refine Wk.ret (Kt.end1 rfl rfl fun w' hw => ?_)
  exact ⟨ret_i (idxI_none (fun i hi => hall i (by omega))).symm, hw.below⟩
set_option maxHeartbeats 400000 in
/-- slices.Contains[[]int,int] -/
theorem contains_ok (va : Value) (xs : List Int) (y : Int) (w : World) (hva : Ints w va xs) (hs1 : xs.length ≤ 1000000) :
    Calls Tryz.prog 70 [va, i6_ y].toArray w fun en w' => en = .returned (.bool (decide (y ∈ xs))) ∧ Below w.heap.size w w' := by
 refine fnStart (n := 9) (e := [(0, va), (1, i6_ y)]) Tryz.func70 rfl rfl rfl rfl Ends.both ?_
 refine Wk.seq ?_
 refine Wk.regionQ ?_
 refine Lq.run 1 rfl ?_
 refine Lq.nil ?_
 refine Kt.sel [0, 1] [_, _] rfl ?_
 refine Wk.seq ?_
 refine Wk.regionQ ?_
 refine Lq.run 2 rfl ?_
 refine Lq.op (v := i6_ (idxI xs fun z => decide (y = z))) rfl rfl rfl (OpQ.call rfl Tryz.call88 rfl Own.stable (fun w1 hw1 => index_ok va xs y w1 (Row.own hva hw1) (by omega))) ?_
 refine Lq.run 2 rfl ?_
 refine Lq.nil ?_
 refine Kt.sel [4] [_] rfl ?_
 refine Wk.ret (Kt.end1 rfl rfl fun w' hw => ?_)
 exact ⟨ret_b (has_idx xs y), hw.below⟩
set_option maxHeartbeats 400000 in
/-- impl.placed -/
theorem placed_ok (a b : St) (va : Value) (os : List Int) (x : Int) (w : World) (ha : a.Fine) (hb : b.Fine) (hva : Ints w va os) (hs : os.length ≤ 8) (hA : a.Els os) (hx : a.El x) (hbi : b.El os.length) :
    Calls Tryz.prog 71 [vS a, vS b, va, i6_ x].toArray w fun en w' => en = .returned (.bool (placedB a b os x)) ∧ Below w.heap.size w w' := by
 refine fnStart (n := 60) (e := [(0, vS a), (1, vS b), (2, va), (3, i6_ x)]) Tryz.func71 rfl rfl rfl rfl Ends.both ?_
 refine Wk.seq ?_
 refine Wk.region ?_
 refine Ll.box (v := vS a) rfl rfl rfl rfl rfl fun p4 hp4 => ?_
 show Ll _ _ (Own _ _ [_]) _ _ ((4, pt_ p4) :: _) _ _ _
 refine Ll.box (v := vS b) rfl rfl rfl rfl rfl fun p5 hp5 => ?_
 show Ll _ _ (Own _ _ [_, _]) _ _ ((5, pt_ p5) :: _) _ _ _
 refine Ll.run 1 rfl ?_
 refine Ll.nil ?_
 refine Kt.sel [2, 3, 4, 5] [_, _, _, _] rfl ?_
 refine Wk.seq ?_
 refine Wk.regionQ ?_
 refine Lq.run 1 rfl ?_
 refine Lq.op (v := i6_ ((os.length : Int))) rfl rfl rfl (OpQ.lenRow rfl Tryz.runUnderlying28 rfl (ints_length _) (fun w1 hw1 => Row.own hva hw1)) ?_
 refine Lq.run 1 rfl ?_
 refine Lq.nil ?_
 refine Kt.sel [2, 3, 4, 5, 9] [_, _, _, _, _] rfl ?_
 refine Wk.seq ?_
 refine Wk.seq ?_
 refine Wk.regionD Base.mixed (fun _ h => h.drawn) (by kernel_rfl) ?_
 refine Lq.op rfl rfl rfl (OpQ.loadBox (cs := #[i6_ a.n, str a.set, str a.rel]) 1 rfl Tryz.isAgg24 rfl rfl Tryz.sizeOf24) ?_
 refine Lq.run 1 rfl ?_
 refine Lq.op (v := bo_ (a.inSet x)) rfl rfl rfl (OpQ.call rfl Tryz.call74 rfl Own.stable (fun w1 hw1 => inSet_ok a x w1 ha (by first | assumption | exact St.Els.at (by assumption) (by omega) (by omega)))) ?_
 refine Lq.op rfl rfl rfl (OpQ.loadBox (cs := #[i6_ b.n, str b.set, str b.rel]) 0 rfl Tryz.isAgg24 rfl rfl Tryz.sizeOf24) ?_
 refine Lq.run 1 rfl ?_
 refine Lq.op (v := bo_ (b.inSet ((os.length : Int)))) rfl rfl rfl (OpQ.call rfl Tryz.call74 rfl Own.stable (fun w1 hw1 => inSet_ok b ((os.length : Int)) w1 hb (by first | assumption | exact St.Els.at (by assumption) (by omega) (by omega)))) ?_
 refine Lq.op rfl rfl rfl (OpQ.bne rfl Tryz.runUnderlying4 rfl rfl) ?_
 refine Lq.run 1 rfl ?_
 refine Lq.bool fun b21 hg21 => ?_
 cases b21
 ·
  refine Lq.op rfl rfl rfl (OpQ.loadBox (cs := #[i6_ a.n, str a.set, str a.rel]) 1 rfl Tryz.isAgg24 rfl rfl Tryz.sizeOf24) ?_
  refine Lq.run 2 rfl ?_
  refine Lq.op (v := bo_ (a.inRel x x)) rfl rfl rfl (OpQ.call rfl Tryz.call75 rfl Own.stable (fun w1 hw1 => inRel_ok a x x w1 ha (by first | assumption | exact St.Els.at (by assumption) (by omega) (by omega)) (by first | assumption | exact St.Els.at (by assumption) (by omega) (by omega)))) ?_
  refine Lq.op rfl rfl rfl (OpQ.loadBox (cs := #[i6_ b.n, str b.set, str b.rel]) 0 rfl Tryz.isAgg24 rfl rfl Tryz.sizeOf24) ?_
  refine Lq.run 2 rfl ?_
  refine Lq.op (v := bo_ (b.inRel ((os.length : Int)) ((os.length : Int)))) rfl rfl rfl (OpQ.call rfl Tryz.call75 rfl Own.stable (fun w1 hw1 => inRel_ok b ((os.length : Int)) ((os.length : Int)) w1 hb (by first | assumption | exact St.Els.at (by assumption) (by omega) (by omega)) (by first | assumption | exact St.Els.at (by assumption) (by omega) (by omega)))) ?_
  refine Lq.op rfl rfl rfl (OpQ.bne rfl Tryz.runUnderlying4 rfl rfl) ?_
  refine Lq.run 1 rfl ?_
  refine Lq.nil ?_
  refine Kt.sel [2, 3, 4, 5, 9, 31] [_, _, _, _, _, _] rfl ?_
  refine Wk.cond (b := (a.inRel x x) != (b.inRel ((os.length : Int)) ((os.length : Int)))) rfl (fun h31 => ?_) (fun h31 => ?_)
  ·
   refine Wk.seq ?_
   refine Wk.regionQ ?_
   refine Lq.run 1 rfl ?_
   refine Lq.nil ?_
   refine Kt.sel [8] [_] rfl ?_
   refine Wk.ret (Kt.end1 rfl rfl fun w' hw => ?_)
   first | exact ⟨ret_b (placed_head (.inl (by assumption))).symm, hw.below⟩ | exact ⟨ret_b (placed_head (.inr (by assumption))).symm, hw.below⟩ | exact ⟨ret_b (placed_no (k := k) (by omega) (.inl (by simpa using hg48))).symm, hw.below⟩ | exact ⟨ret_b (placed_no (k := k) (by omega) (.inr (by simpa using h58))).symm, hw.below⟩ | exact ⟨ret_b (placed_yes (by assumption) (by assumption) (fun i hi => hall i (by omega))).symm, hw.below⟩
  ·
   refine Wk.skip ?_
   refine Kt.sel [2, 3, 4, 5, 9] [_, _, _, _, _] rfl ?_
   refine Wk.seq ?_
   refine Wk.seq ?_
   refine Wk.regionQ ?_
   refine Lq.run 1 rfl ?_
   refine Lq.op (v := i6_ ((os.length : Int))) rfl rfl rfl (OpQ.lenRow rfl Tryz.runUnderlying28 rfl (ints_length _) (fun w1 hw1 => Row.own hva hw1)) ?_
   refine Lq.run 1 rfl ?_
   refine Lq.nil ?_
   refine Kt.sel [3, 4, 5, 9, 32, 33, 34] [_, _, _, _, _, _, _] rfl ?_
   refine Wk.block ?_
   refine Wk.loop (σ := Nat) (fun k => k ≤ os.length ∧ ∀ i : Nat, i < k → (a.inRel x (os.getD i 0) != b.inRel os.length i) = false ∧ (a.inRel (os.getD i 0) x != b.inRel i os.length) = false) (fun k => [(3, i6_ x), (4, pt_ p4), (5, pt_ p5), (9, i6_ ((os.length : Int))), (32, va), (33, i6_ ((os.length : Int))), (34, i6_ ((k : Int)))]) (fun k => Own w.heap.size w [bk_ p5 #[i6_ b.n, str b.set, str b.rel] 24, bk_ p4 #[i6_ a.n, str a.set, str a.rel] 24]) (fun k => os.length - k) (0) ⟨by omega, fun i hi => absurd hi (by omega)⟩ (Sub.sel [3, 4, 5, 9, 32, 33, 34] rfl) (fun _ h => h) ?_
   rintro k ⟨hk, hall⟩
   refine Wk.seq ?_
   refine Wk.regionQ ?_
   refine Lq.run 1 rfl ?_
   refine Lq.nil ?_
   refine Kt.sel [3, 4, 5, 9, 32, 33, 34, 35] [_, _, _, _, _, _, _, _] rfl ?_
   refine Wk.seq ?_
   refine Wk.cond (b := decide (((k : Int)) < ((os.length : Int)))) rfl (fun h35 => ?_) (fun h35 => ?_)
   ·
    replace h35 := of_decide_eq_true h35
    have hbk : b.El (k : Int) := ⟨by omega, by have := hbi.2; omega⟩
    refine Wk.skip ?_
    refine Kt.sel [3, 4, 5, 9, 32, 33, 34] [_, _, _, _, _, _, _] rfl ?_
    refine Wk.seq ?_
    refine Wk.block ?_
    refine Wk.seq ?_
    refine Wk.regionQ ?_
    refine Lq.run 1 rfl ?_
    refine Lq.op (v := .pointer (some (sAt va ((k : Int))))) rfl rfl rfl (OpQ.atRow rfl Tryz.runUnderlying28 Tryz.sizeOf3 rfl rfl (by omega) (by rw [ints_length]; omega) (fun w1 hw1 => Row.own hva hw1)) ?_
    refine Lq.op (v := i6_ (os.getD (((k : Int)).toNat) 0)) rfl rfl rfl (OpQ.load1 rfl Tryz.isAgg3 rfl (fun w1 hw1 => Ints.cell (Row.own hva hw1) (by omega) (by omega))) ?_
    refine Lq.run 2 rfl ?_
    refine Lq.nil ?_
    refine Kt.sel [3, 4, 5, 9, 10, 11, 32, 33, 34] [_, _, _, _, _, _, _, _, _] rfl ?_
    refine Wk.seq ?_
    refine Wk.regionD Base.mixed (fun _ h => h.drawn) (by kernel_rfl) ?_
    refine Lq.op rfl rfl rfl (OpQ.loadBox (cs := #[i6_ a.n, str a.set, str a.rel]) 1 rfl Tryz.isAgg24 rfl rfl Tryz.sizeOf24) ?_
    refine Lq.run 2 rfl ?_
    refine Lq.op (v := bo_ (a.inRel x (os.getD (((k : Int)).toNat) 0))) rfl rfl rfl (OpQ.call rfl Tryz.call75 rfl Own.stable (fun w1 hw1 => inRel_ok a x (os.getD (((k : Int)).toNat) 0) w1 ha (by first | assumption | exact St.Els.at (by assumption) (by omega) (by omega)) (by first | assumption | exact St.Els.at (by assumption) (by omega) (by omega)))) ?_
    refine Lq.op rfl rfl rfl (OpQ.loadBox (cs := #[i6_ b.n, str b.set, str b.rel]) 0 rfl Tryz.isAgg24 rfl rfl Tryz.sizeOf24) ?_
    refine Lq.run 2 rfl ?_
    refine Lq.op (v := bo_ (b.inRel ((os.length : Int)) ((k : Int)))) rfl rfl rfl (OpQ.call rfl Tryz.call75 rfl Own.stable (fun w1 hw1 => inRel_ok b ((os.length : Int)) ((k : Int)) w1 hb (by first | assumption | exact St.Els.at (by assumption) (by omega) (by omega)) (by first | assumption | exact St.Els.at (by assumption) (by omega) (by omega)))) ?_
    refine Lq.op rfl rfl rfl (OpQ.bne rfl Tryz.runUnderlying4 rfl rfl) ?_
    refine Lq.run 1 rfl ?_
    refine Lq.bool fun b48 hg48 => ?_
    cases b48
    ·
     refine Lq.op rfl rfl rfl (OpQ.loadBox (cs := #[i6_ a.n, str a.set, str a.rel]) 1 rfl Tryz.isAgg24 rfl rfl Tryz.sizeOf24) ?_
     refine Lq.run 2 rfl ?_
     refine Lq.op (v := bo_ (a.inRel (os.getD (((k : Int)).toNat) 0) x)) rfl rfl rfl (OpQ.call rfl Tryz.call75 rfl Own.stable (fun w1 hw1 => inRel_ok a (os.getD (((k : Int)).toNat) 0) x w1 ha (by first | assumption | exact St.Els.at (by assumption) (by omega) (by omega)) (by first | assumption | exact St.Els.at (by assumption) (by omega) (by omega)))) ?_
     refine Lq.op rfl rfl rfl (OpQ.loadBox (cs := #[i6_ b.n, str b.set, str b.rel]) 0 rfl Tryz.isAgg24 rfl rfl Tryz.sizeOf24) ?_
     refine Lq.run 2 rfl ?_
     refine Lq.op (v := bo_ (b.inRel ((k : Int)) ((os.length : Int)))) rfl rfl rfl (OpQ.call rfl Tryz.call75 rfl Own.stable (fun w1 hw1 => inRel_ok b ((k : Int)) ((os.length : Int)) w1 hb (by first | assumption | exact St.Els.at (by assumption) (by omega) (by omega)) (by first | assumption | exact St.Els.at (by assumption) (by omega) (by omega)))) ?_
     refine Lq.op rfl rfl rfl (OpQ.bne rfl Tryz.runUnderlying4 rfl rfl) ?_
     refine Lq.run 1 rfl ?_
     refine Lq.nil ?_
     refine Kt.sel [3, 4, 5, 9, 32, 33, 34, 58] [_, _, _, _, _, _, _, _] rfl ?_
     refine Wk.cond (b := (a.inRel (os.getD (((k : Int)).toNat) 0) x) != (b.inRel ((k : Int)) ((os.length : Int)))) rfl (fun h58 => ?_) (fun h58 => ?_)
     ·
      refine Wk.seq ?_
      refine Wk.regionQ ?_
      refine Lq.run 1 rfl ?_
      refine Lq.nil ?_
      refine Kt.sel [8] [_] rfl ?_
      refine Wk.ret (Kt.end1 rfl rfl fun w' hw => ?_)
      first | exact ⟨ret_b (placed_head (.inl (by assumption))).symm, hw.below⟩ | exact ⟨ret_b (placed_head (.inr (by assumption))).symm, hw.below⟩ | exact ⟨ret_b (placed_no (k := k) (by omega) (.inl (by simpa using hg48))).symm, hw.below⟩ | exact ⟨ret_b (placed_no (k := k) (by omega) (.inr (by simpa using h58))).symm, hw.below⟩ | exact ⟨ret_b (placed_yes (by assumption) (by assumption) (fun i hi => hall i (by omega))).symm, hw.below⟩
     ·
      refine Wk.skip ?_
      refine Kt.sel [3, 4, 5, 9, 32, 33, 34] [_, _, _, _, _, _, _] rfl ?_
      refine Wk.regionQ ?_
      refine Lq.op rfl rfl rfl (OpQ.add rfl rfl rfl (by omega) (by omega)) ?_
      refine Lq.run 1 rfl ?_
      refine Lq.nil ?_
      refine Kt.again (k + 1) ⟨by omega, fun i hi => (Nat.lt_succ_iff_lt_or_eq.1 hi).elim (hall i) (fun e => by subst e; exact ⟨by simpa using hg48, by simpa using h58⟩)⟩ (by omega) (Sub.sel [3, 4, 5, 9, 32, 33, 34] rfl) (fun _ h => h)
    ·
     refine Lq.pass rfl rfl rfl ?_
     refine Lq.pass rfl rfl rfl ?_
     refine Lq.pass rfl rfl rfl ?_
     refine Lq.pass rfl rfl rfl ?_
     refine Lq.pass rfl rfl rfl ?_
     refine Lq.pass rfl rfl rfl ?_
     refine Lq.pass rfl rfl rfl ?_
     refine Lq.pass rfl rfl rfl ?_
     refine Lq.pass rfl rfl rfl ?_
     refine Lq.run 1 rfl ?_
     refine Lq.nil ?_
     refine Kt.sel [3, 4, 5, 9, 32, 33, 34, 58] [_, _, _, _, _, _, _, _] rfl ?_
     refine Wk.condT rfl ?_
     refine Wk.seq ?_
     refine Wk.regionQ ?_
     refine Lq.run 1 rfl ?_
     refine Lq.nil ?_
     refine Kt.sel [8] [_] rfl ?_
     refine Wk.ret (Kt.end1 rfl rfl fun w' hw => ?_)
     first | exact ⟨ret_b (placed_head (.inl (by assumption))).symm, hw.below⟩ | exact ⟨ret_b (placed_head (.inr (by assumption))).symm, hw.below⟩ | exact ⟨ret_b (placed_no (k := k) (by omega) (.inl (by simpa using hg48))).symm, hw.below⟩ | exact ⟨ret_b (placed_no (k := k) (by omega) (.inr (by simpa using h58))).symm, hw.below⟩ | exact ⟨ret_b (placed_yes (by assumption) (by assumption) (fun i hi => hall i (by omega))).symm, hw.below⟩
   ·
    replace h35 := of_decide_eq_false h35
    refine Wk.exit rfl ?_
    refine Kt.sel [] [] rfl ?_
    refine Wk.seq ?_
    refine Wk.regionQ ?_
    refine Lq.run 1 rfl ?_
    refine Lq.nil ?_
    refine Kt.sel [8] [_] rfl ?_
    refine Wk.ret (Kt.end1 rfl rfl fun w' hw => ?_)
    first | exact ⟨ret_b (placed_head (.inl (by assumption))).symm, hw.below⟩ | exact ⟨ret_b (placed_head (.inr (by assumption))).symm, hw.below⟩ | exact ⟨ret_b (placed_no (k := k) (by omega) (.inl (by simpa using hg48))).symm, hw.below⟩ | exact ⟨ret_b (placed_no (k := k) (by omega) (.inr (by simpa using h58))).symm, hw.below⟩ | exact ⟨ret_b (placed_yes (by assumption) (by assumption) (fun i hi => hall i (by omega))).symm, hw.below⟩
 ·
  refine Lq.pass rfl rfl rfl ?_
  refine Lq.pass rfl rfl rfl ?_
  refine Lq.pass rfl rfl rfl ?_
  refine Lq.pass rfl rfl rfl ?_
  refine Lq.pass rfl rfl rfl ?_
  refine Lq.pass rfl rfl rfl ?_
  refine Lq.pass rfl rfl rfl ?_
  refine Lq.pass rfl rfl rfl ?_
  refine Lq.pass rfl rfl rfl ?_
  refine Lq.run 1 rfl ?_
  refine Lq.nil ?_
  refine Kt.sel [2, 3, 4, 5, 9, 31] [_, _, _, _, _, _] rfl ?_
  refine Wk.condT rfl ?_
  refine Wk.seq ?_
  refine Wk.regionQ ?_
  refine Lq.run 1 rfl ?_
  refine Lq.nil ?_
  refine Kt.sel [8] [_] rfl ?_
  refine Wk.ret (Kt.end1 rfl rfl fun w' hw => ?_)
  first | exact ⟨ret_b (placed_head (.inl (by assumption))).symm, hw.below⟩ | exact ⟨ret_b (placed_head (.inr (by assumption))).symm, hw.below⟩ | exact ⟨ret_b (placed_no (k := k) (by omega) (.inl (by simpa using hg48))).symm, hw.below⟩ | exact ⟨ret_b (placed_no (k := k) (by omega) (.inr (by simpa using h58))).symm, hw.below⟩ | exact ⟨ret_b (placed_yes (by assumption) (by assumption) (fun i hi => hall i (by omega))).symm, hw.below⟩
set_option maxHeartbeats 400000 in
/-- impl.eachShape$1|0 -/
theorem place_zero (a b : St) {τ α : Type} (D : τ → α → List (Nat × Obj)) (okD : τ → α → Prop) (step : List Int → τ → τ × Bool) (tf : FuncId) (tcap : Array Value) (B : Nat) (w0 : World) (hcf : ∀ args w, (callFunc tf args).run Tryz.prog w = .ok (.enter tf args) w) (hT : Tells Tryz.prog tf tcap a b B w0 D okD step) (ha : a.Fine) (_hb : b.Fine) (hn : a.n = b.n) (pp po pt pb pa : Nat) (os : List Int) (t : τ) (al : α) (g cap : Nat) (cur : Array Value) (w : World) (hm : os.length + 0 = a.n.toNat) (hA : a.Els os) (hsm : sameB a os b (upto os.length) = true) (hok : okD t al) (hcg : cur.size = cap * 1) (hlg : os.length ≤ cap) (htg : cur.toList.take os.length = ints os) (hw : Own B w0 (bk_ pp #[.func (.func 69) #[] #[pt_ po, pt_ pa, pt_ pt, pt_ pb, pt_ pp]] 40 :: bk_ po #[sl_ g os.length cap] 28 :: bk_ g cur 3 :: bk_ pt #[.func (.func tf) #[] tcap] 77 :: bk_ pb #[i6_ b.n, str b.set, str b.rel] 24 :: bk_ pa #[i6_ a.n, str a.set, str a.rel] 24 :: (D t al)) w) :
    Calls Tryz.prog 69 [pt_ po, pt_ pa, pt_ pt, pt_ pb, pt_ pp].toArray w fun en w' => ∃ (os' : List Int) (g' cap' : Nat) (cur' : Array Value) (al' : α), en = .returned (.bool (shS a b step 0 os t).2) ∧ okD (shS a b step 0 os t).1 al' ∧ ((shS a b step 0 os t).2 = true → os' = os) ∧ (cur'.size = cap' * 1 ∧ os'.length ≤ cap' ∧ cur'.toList.take os'.length = ints os') ∧ Own B w0 (bk_ pp #[.func (.func 69) #[] #[pt_ po, pt_ pa, pt_ pt, pt_ pb, pt_ pp]] 40 :: bk_ po #[sl_ g' os'.length cap'] 28 :: bk_ g' cur' 3 :: bk_ pt #[.func (.func tf) #[] tcap] 77 :: bk_ pb #[i6_ b.n, str b.set, str b.rel] 24 :: bk_ pa #[i6_ a.n, str a.set, str a.rel] 24 :: (D (shS a b step 0 os t).1 al')) w' := by
 refine fnStartC (Own B w0 (bk_ pp #[.func (.func 69) #[] #[pt_ po, pt_ pa, pt_ pt, pt_ pb, pt_ pp]] 40 :: bk_ po #[sl_ g os.length cap] 28 :: bk_ g cur 3 :: bk_ pt #[.func (.func tf) #[] tcap] 77 :: bk_ pb #[i6_ b.n, str b.set, str b.rel] 24 :: bk_ pa #[i6_ a.n, str a.set, str a.rel] 24 :: (D t al))) (n := 44) (e := [(0, pt_ po), (1, pt_ pa), (2, pt_ pt), (3, pt_ pb), (4, pt_ pp)]) Tryz.func69 rfl rfl rfl rfl Ends.both hw ?_
 have hm8 := ha.hi
 have hm1 := ha.lo
 refine Wk.seq ?_
 refine Wk.regionQ ?_
 refine Lq.run 1 rfl ?_
 refine Lq.nil ?_
 refine Kt.sel [0, 1, 2, 3, 4] [_, _, _, _, _] rfl ?_
 refine Wk.seq ?_
 refine Wk.regionQ ?_
 refine Lq.op rfl rfl rfl (OpQ.loadOwn 1 rfl Tryz.isAgg28 rfl rfl rfl) ?_
 refine Lq.op rfl rfl rfl (OpQ.lenS rfl Tryz.runUnderlying28 rfl) ?_
 refine Lq.run 1 rfl ?_
 refine Lq.nil ?_
 refine Kt.sel [0, 1, 2, 3, 4, 6] [_, _, _, _, _, _] rfl ?_
 refine Wk.seq ?_
 refine Wk.seq ?_
 refine Wk.regionQ ?_
 refine Lq.run 1 rfl ?_
 refine Lq.op rfl rfl rfl (OpQ.fieldAddr rfl Tryz.runUnderlying24 rfl Tryz.sizeOf3 rfl rfl) ?_
 refine Lq.op rfl rfl rfl (OpQ.loadOwn 5 rfl Tryz.isAgg3 rfl rfl rfl) ?_
 refine Lq.run 1 rfl ?_
 refine Lq.nil ?_
 refine Kt.sel [0, 1, 2, 3, 4, 6, 13] [_, _, _, _, _, _, _] rfl ?_
 refine Wk.cond (b := decide (((os.length : Int)) = a.n)) rfl (fun h13 => ?_) (fun h13 => ?_)
 ·
  replace h13 := of_decide_eq_true h13
  refine Wk.seq ?_
  refine Wk.region ?_
  refine Ll.op rfl rfl rfl (OpQ.loadOwn 3 rfl Tryz.isAgg77 rfl rfl rfl) ?_
  refine Ll.op rfl rfl rfl (OpQ.loadOwn 1 rfl Tryz.isAgg28 rfl rfl rfl) ?_
  refine Ll.callFnGet (ok := fun al' => okD (step os t).1 al') (v := fun _ => .bool (step os t).2) (hs' := fun al' => ([bk_ pp #[.func (.func 69) #[] #[pt_ po, pt_ pa, pt_ pt, pt_ pb, pt_ pp]] 40, bk_ po #[sl_ g os.length cap] 28, bk_ g cur 3, bk_ pt #[.func (.func tf) #[] tcap] 77, bk_ pb #[i6_ b.n, str b.set, str b.rel] 24, bk_ pa #[i6_ a.n, str a.set, str a.rel] 24] : List (Nat × Obj)) ++ D (step os t).1 al') (xs := [.tmp 15]) (vs := [sl_ g os.length cap]) rfl rfl rfl rfl rfl hcf rfl (fun w1 hw1 => hT ([bk_ pp #[.func (.func 69) #[] #[pt_ po, pt_ pa, pt_ pt, pt_ pb, pt_ pp]] 40, bk_ po #[sl_ g os.length cap] 28, bk_ g cur 3, bk_ pt #[.func (.func tf) #[] tcap] 77, bk_ pb #[i6_ b.n, str b.set, str b.rel] 24, bk_ pa #[i6_ a.n, str a.set, str a.rel] 24] : List (Nat × Obj)) (sl_ g os.length cap) os t al w1 hok (fun w2 hw2 => (Own.row hw2 (i := 2) rfl htg (by simp) hlg)) (by omega) hsm hA hw1) fun al16 hok2 => ?_
  show Ll _ _ (Own _ _ (_ :: _ :: _ :: _ :: _ :: _ :: ((D (step os t).1 al16)))) _ _ ((16, bo_ ((step os t).2)) :: _) _ _ _
  refine Ll.run 1 rfl ?_
  refine Ll.nil ?_
  refine Kt.sel [5] [_] rfl ?_
  refine Wk.ret (Kt.end1 rfl rfl fun w' hw => ?_)
  exact ⟨os, g, cap, cur, al16, rfl, hok2, fun _ => rfl, ⟨hcg, hlg, htg⟩, hw⟩
 ·
  replace h13 := of_decide_eq_false h13
  exact absurd (by omega) h13
set_option maxHeartbeats 1000000 in
/-- impl.eachShape$1 -/
theorem place_of (a b : St) {τ α : Type} (D : τ → α → List (Nat × Obj)) (okD : τ → α → Prop) (step : List Int → τ → τ × Bool) (tf : FuncId) (tcap : Array Value) (B : Nat) (w0 : World) (_hcf : ∀ args w, (callFunc tf args).run Tryz.prog w = .ok (.enter tf args) w) (_hT : Tells Tryz.prog tf tcap a b B w0 D okD step) (ha : a.Fine) (hb : b.Fine) (hn : a.n = b.n) (pp po pt pb pa : Nat) (m : Nat) (ih : ∀ (os : List Int) (t : τ) (al : α) (g cap : Nat) (cur : Array Value) (w : World) (_ : os.length + m = a.n.toNat) (_ : a.Els os) (_ : sameB a os b (upto os.length) = true) (_ : okD t al) (_ : cur.size = cap * 1) (_ : os.length ≤ cap) (_ : cur.toList.take os.length = ints os), Own B w0 (bk_ pp #[.func (.func 69) #[] #[pt_ po, pt_ pa, pt_ pt, pt_ pb, pt_ pp]] 40 :: bk_ po #[sl_ g os.length cap] 28 :: bk_ g cur 3 :: bk_ pt #[.func (.func tf) #[] tcap] 77 :: bk_ pb #[i6_ b.n, str b.set, str b.rel] 24 :: bk_ pa #[i6_ a.n, str a.set, str a.rel] 24 :: (D t al)) w → Calls Tryz.prog 69 #[pt_ po, pt_ pa, pt_ pt, pt_ pb, pt_ pp] w fun en w' => ∃ (os' : List Int) (g' cap' : Nat) (cur' : Array Value) (al' : α), en = .returned (.bool (shS a b step m os t).2) ∧ okD (shS a b step m os t).1 al' ∧ ((shS a b step m os t).2 = true → os' = os) ∧ (cur'.size = cap' * 1 ∧ os'.length ≤ cap' ∧ cur'.toList.take os'.length = ints os') ∧ Own B w0 (bk_ pp #[.func (.func 69) #[] #[pt_ po, pt_ pa, pt_ pt, pt_ pb, pt_ pp]] 40 :: bk_ po #[sl_ g' os'.length cap'] 28 :: bk_ g' cur' 3 :: bk_ pt #[.func (.func tf) #[] tcap] 77 :: bk_ pb #[i6_ b.n, str b.set, str b.rel] 24 :: bk_ pa #[i6_ a.n, str a.set, str a.rel] 24 :: (D (shS a b step m os t).1 al')) w') (os : List Int) (t : τ) (al : α) (g cap : Nat) (cur : Array Value) (w : World) (hm : os.length + (m + 1) = a.n.toNat) (hA : a.Els os) (hsm : sameB a os b (upto os.length) = true) (hok : okD t al) (hcg : cur.size = cap * 1) (hlg : os.length ≤ cap) (htg : cur.toList.take os.length = ints os) (hw : Own B w0 (bk_ pp #[.func (.func 69) #[] #[pt_ po, pt_ pa, pt_ pt, pt_ pb, pt_ pp]] 40 :: bk_ po #[sl_ g os.length cap] 28 :: bk_ g cur 3 :: bk_ pt #[.func (.func tf) #[] tcap] 77 :: bk_ pb #[i6_ b.n, str b.set, str b.rel] 24 :: bk_ pa #[i6_ a.n, str a.set, str a.rel] 24 :: (D t al)) w) :
    Calls Tryz.prog 69 [pt_ po, pt_ pa, pt_ pt, pt_ pb, pt_ pp].toArray w fun en w' => ∃ (os' : List Int) (g' cap' : Nat) (cur' : Array Value) (al' : α), en = .returned (.bool (shS a b step (m + 1) os t).2) ∧ okD (shS a b step (m + 1) os t).1 al' ∧ ((shS a b step (m + 1) os t).2 = true → os' = os) ∧ (cur'.size = cap' * 1 ∧ os'.length ≤ cap' ∧ cur'.toList.take os'.length = ints os') ∧ Own B w0 (bk_ pp #[.func (.func 69) #[] #[pt_ po, pt_ pa, pt_ pt, pt_ pb, pt_ pp]] 40 :: bk_ po #[sl_ g' os'.length cap'] 28 :: bk_ g' cur' 3 :: bk_ pt #[.func (.func tf) #[] tcap] 77 :: bk_ pb #[i6_ b.n, str b.set, str b.rel] 24 :: bk_ pa #[i6_ a.n, str a.set, str a.rel] 24 :: (D (shS a b step (m + 1) os t).1 al')) w' := by
 refine fnStartC (Own B w0 (bk_ pp #[.func (.func 69) #[] #[pt_ po, pt_ pa, pt_ pt, pt_ pb, pt_ pp]] 40 :: bk_ po #[sl_ g os.length cap] 28 :: bk_ g cur 3 :: bk_ pt #[.func (.func tf) #[] tcap] 77 :: bk_ pb #[i6_ b.n, str b.set, str b.rel] 24 :: bk_ pa #[i6_ a.n, str a.set, str a.rel] 24 :: (D t al))) (n := 44) (e := [(0, pt_ po), (1, pt_ pa), (2, pt_ pt), (3, pt_ pb), (4, pt_ pp)]) Tryz.func69 rfl rfl rfl rfl Ends.both hw ?_
 have hm8 := ha.hi
 have hm1 := ha.lo
 refine Wk.seq ?_
 refine Wk.regionQ ?_
 refine Lq.run 1 rfl ?_
 refine Lq.nil ?_
 refine Kt.sel [0, 1, 2, 3, 4] [_, _, _, _, _] rfl ?_
 refine Wk.seq ?_
 refine Wk.regionQ ?_
 refine Lq.op rfl rfl rfl (OpQ.loadOwn 1 rfl Tryz.isAgg28 rfl rfl rfl) ?_
 refine Lq.op rfl rfl rfl (OpQ.lenS rfl Tryz.runUnderlying28 rfl) ?_
 refine Lq.run 1 rfl ?_
 refine Lq.nil ?_
 refine Kt.sel [0, 1, 2, 3, 4, 6] [_, _, _, _, _, _] rfl ?_
 refine Wk.seq ?_
 refine Wk.seq ?_
 refine Wk.regionQ ?_
 refine Lq.run 1 rfl ?_
 refine Lq.op rfl rfl rfl (OpQ.fieldAddr rfl Tryz.runUnderlying24 rfl Tryz.sizeOf3 rfl rfl) ?_
 refine Lq.op rfl rfl rfl (OpQ.loadOwn 5 rfl Tryz.isAgg3 rfl rfl rfl) ?_
 refine Lq.run 1 rfl ?_
 refine Lq.nil ?_
 refine Kt.sel [0, 1, 2, 3, 4, 6, 13] [_, _, _, _, _, _, _] rfl ?_
 refine Wk.cond (b := decide (((os.length : Int)) = a.n)) rfl (fun h13 => ?_) (fun h13 => ?_)
 ·
  replace h13 := of_decide_eq_true h13
  exact absurd h13 (by omega)
 ·
  replace h13 := of_decide_eq_false h13
  refine Wk.skip ?_
  refine Kt.sel [0, 1, 3, 4, 6] [_, _, _, _, _] rfl ?_
  refine Wk.seq ?_
  refine Wk.seq ?_
  refine Wk.regionQ ?_
  refine Lq.op rfl rfl rfl (OpQ.fieldAddr rfl Tryz.runUnderlying24 rfl Tryz.sizeOf3 rfl rfl) ?_
  refine Lq.op rfl rfl rfl (OpQ.loadOwn 5 rfl Tryz.isAgg3 rfl rfl rfl) ?_
  refine Lq.run 1 rfl ?_
  refine Lq.nil ?_
  refine Kt.sel [0, 1, 3, 4, 6, 18, 19] [_, _, _, _, _, _, _] rfl ?_
  refine Wk.block ?_
  refine Wk.loop (σ := Nat × Nat × Nat × Array Value × τ × α) (fun ⟨k, g1, cap1, cur1, t1, al1⟩ => (k : Int) ≤ a.n ∧ shLoop (shF a b (shS a b step m) os) k t = (t1, true) ∧ okD t1 al1 ∧ (cur1.size = cap1 * 1 ∧ os.length ≤ cap1 ∧ cur1.toList.take os.length = ints os)) (fun ⟨k, g1, cap1, cur1, t1, al1⟩ => [(0, pt_ po), (1, pt_ pa), (3, pt_ pb), (4, pt_ pp), (6, i6_ ((os.length : Int))), (18, i6_ a.n), (19, i6_ ((k : Int)))]) (fun ⟨k, g1, cap1, cur1, t1, al1⟩ => Own B w0 (bk_ pp #[.func (.func 69) #[] #[pt_ po, pt_ pa, pt_ pt, pt_ pb, pt_ pp]] 40 :: bk_ po #[sl_ g1 os.length cap1] 28 :: bk_ g1 cur1 3 :: bk_ pt #[.func (.func tf) #[] tcap] 77 :: bk_ pb #[i6_ b.n, str b.set, str b.rel] 24 :: bk_ pa #[i6_ a.n, str a.set, str a.rel] 24 :: ((D t1 al1)))) (fun ⟨k, g1, cap1, cur1, t1, al1⟩ => (a.n - k).toNat) ((0, g, cap, cur, t, al)) ⟨by omega, rfl, hok, ⟨hcg, hlg, htg⟩⟩ (Sub.sel [0, 1, 3, 4, 6, 18, 19] rfl) (fun _ h => h) ?_
  rintro ⟨k, g1, cap1, cur1, t1, al1⟩ ⟨hk, hlp, hok1, ⟨hcg1, hlg1, htg1⟩⟩
  dsimp only
  refine Wk.seq ?_
  refine Wk.regionQ ?_
  refine Lq.run 1 rfl ?_
  refine Lq.nil ?_
  refine Kt.sel [0, 1, 3, 4, 6, 18, 19, 20] [_, _, _, _, _, _, _, _] rfl ?_
  refine Wk.seq ?_
  refine Wk.cond (b := decide (((k : Int)) < a.n)) rfl (fun h20 => ?_) (fun h20 => ?_)
  ·
   replace h20 := of_decide_eq_true h20
   have hx : a.El (k : Int) := ⟨by omega, by omega⟩
   have hbi : b.El (os.length : Int) := ⟨by omega, by omega⟩
   refine Wk.skip ?_
   refine Kt.sel [0, 1, 3, 4, 6, 18, 19] [_, _, _, _, _, _, _] rfl ?_
   refine Wk.seq ?_
   refine Wk.block ?_
   refine Wk.seq ?_
   refine Wk.regionQ ?_
   refine Lq.run 2 rfl ?_
   refine Lq.nil ?_
   refine Kt.sel [0, 1, 3, 4, 6, 7, 18, 19] [_, _, _, _, _, _, _, _] rfl ?_
   refine Wk.seq ?_
   refine Wk.seq ?_
   refine Wk.regionQ ?_
   refine Lq.op rfl rfl rfl (OpQ.loadOwn 1 rfl Tryz.isAgg28 rfl rfl rfl) ?_
   refine Lq.run 1 rfl ?_
   refine Lq.op (v := bo_ (decide (((k : Int)) ∈ os))) rfl rfl rfl (OpQ.call rfl Tryz.call70 rfl Own.stable (fun w1 hw1 => contains_ok (sl_ g1 os.length cap1) os ((k : Int)) w1 (Own.row hw1 (i := 2) rfl htg1 (by simp) hlg1) (by omega))) ?_
   refine Lq.run 1 rfl ?_
   refine Lq.bool fun b25 hg25 => ?_
   cases b25
   ·
    replace hg25 := of_decide_eq_false hg25
    refine Lq.op rfl rfl rfl (OpQ.loadBox (cs := #[i6_ a.n, str a.set, str a.rel]) 5 rfl Tryz.isAgg24 rfl rfl Tryz.sizeOf24) ?_
    refine Lq.op rfl rfl rfl (OpQ.loadBox (cs := #[i6_ b.n, str b.set, str b.rel]) 4 rfl Tryz.isAgg24 rfl rfl Tryz.sizeOf24) ?_
    refine Lq.op rfl rfl rfl (OpQ.loadOwn 1 rfl Tryz.isAgg28 rfl rfl rfl) ?_
    refine Lq.run 1 rfl ?_
    refine Lq.op (v := bo_ (placedB a b os ((k : Int)))) rfl rfl rfl (OpQ.call rfl Tryz.call71 rfl Own.stable (fun w1 hw1 => placed_ok a b (sl_ g1 os.length cap1) os ((k : Int)) w1 ha hb (Own.row hw1 (i := 2) rfl htg1 (by simp) hlg1) (by omega) hA hx hbi)) ?_
    refine Lq.run 2 rfl ?_
    refine Lq.nil ?_
    refine Kt.sel [0, 1, 3, 4, 6, 7, 18, 19, 32] [_, _, _, _, _, _, _, _, _] rfl ?_
    refine Wk.cond (b := !(placedB a b os ((k : Int)))) rfl (fun h32 => ?_) (fun h32 => ?_)
    ·
     replace h32 := not_true h32
     have hno : ¬ stillB a os b (upto os.length) (k : Int) os.length = true := by
      rw [still_placed]; simp_all
     refine Wk.exit rfl ?_
     refine Kt.sel [0, 1, 3, 4, 6, 18, 19] [_, _, _, _, _, _, _] rfl ?_
     refine Wk.regionQ ?_
     refine Lq.op rfl rfl rfl (OpQ.add rfl rfl rfl (by omega) (by omega)) ?_
     refine Lq.run 1 rfl ?_
     refine Lq.nil ?_
     refine Kt.again ((k + 1, g1, cap1, cur1, t1, al1)) ⟨by omega, by rw [shLoop_step hlp, shF, if_neg hno], hok1, ⟨hcg1, hlg1, htg1⟩⟩ (by omega) (Sub.sel [0, 1, 3, 4, 6, 18, 19] rfl) (fun _ h => h)
    ·
     replace h32 := not_false h32
     have hst : stillB a os b (upto os.length) (k : Int) os.length = true := by
      rw [still_placed]; simp_all
     refine Wk.skip ?_
     refine Kt.sel [0, 1, 3, 4, 6, 7, 18, 19] [_, _, _, _, _, _, _, _] rfl ?_
     refine Wk.seq ?_
     refine Wk.region ?_
     refine Ll.op rfl rfl rfl (OpQ.loadOwn 1 rfl Tryz.isAgg28 rfl rfl rfl) ?_
     refine Ll.run 1 rfl ?_
     refine Ll.slice (xs := [.tmp 34]) (vs := [i6_ ((k : Int))]) Base.elem28 rfl rfl rfl rfl rfl rfl (by decide) rfl fun p35 hp35 => ?_
     refine Ll.appendInts (xs := os) (ys := [(k : Int)]) Base.elem28 3 rfl rfl rfl rfl rfl rfl rfl hcg1 hlg1 htg1 (fun w1 hw1 => (Own.row hw1 (i := 0) rfl (n := 1) (cap := 1) (vs := ints [(k : Int)]) rfl rfl (by decide))) ((os ++ ([(k : Int)])).length) (by first | (simp; done) | (simp; omega)) (by first | (simp; done) | (simp; omega) | omega) fun p36 cap36 cur36 hp36 hcp36 hlp36 htp36 => ?_
     show Ll _ _ (Own _ _ (_ :: _ :: _ :: _ :: _ :: _ :: _ :: ((D t1 al1)))) _ _ ((36, sl_ p36 (((os ++ ([(k : Int)])).length)) cap36) :: _) _ _ _
     refine Ll.store1 (v := sl_ p36 (((os ++ ([(k : Int)])).length)) cap36) (hs' := (_ :: _ :: bk_ po #[sl_ p36 (((os ++ ([(k : Int)])).length)) cap36] 28 :: _ :: _ :: _ :: _ :: ((D t1 al1)))) 2 rfl rfl rfl rfl rfl rfl Tryz.sizeOf28 rfl (by simp) rfl ?_
     refine Ll.nil ?_
     refine Kt.sel [0, 1, 3, 4, 6, 18, 19] [_, _, _, _, _, _, _] rfl ?_
     refine Wk.seq ?_
     refine Wk.seq ?_
     refine Wk.region ?_
     refine Ll.op rfl rfl rfl (OpQ.loadOwn 1 rfl Tryz.isAgg40 rfl rfl rfl) ?_
     refine Ll.callFnGet (σ := List Int × Nat × Nat × Array Value × α) (ok := fun (os', _, cap', cur', al') => okD (shS a b step m (os ++ [(k : Int)]) t1).1 al' ∧ ((shS a b step m (os ++ [(k : Int)]) t1).2 = true → os' = os ++ [(k : Int)]) ∧ (cur'.size = cap' * 1 ∧ os'.length ≤ cap' ∧ cur'.toList.take os'.length = ints os')) (v := fun _ => .bool (shS a b step m (os ++ [(k : Int)]) t1).2) (hs' := fun (os', g', cap', cur', al') => (bk_ pp #[.func (.func 69) #[] #[pt_ po, pt_ pa, pt_ pt, pt_ pb, pt_ pp]] 40 :: bk_ po #[sl_ g' os'.length cap'] 28 :: bk_ g' cur' 3 :: bk_ pt #[.func (.func tf) #[] tcap] 77 :: bk_ pb #[i6_ b.n, str b.set, str b.rel] 24 :: bk_ pa #[i6_ a.n, str a.set, str a.rel] 24 :: (D (shS a b step m (os ++ [(k : Int)]) t1).1 al'))) (xs := []) (vs := []) rfl rfl rfl rfl rfl Tryz.call69 rfl (fun w1 hw1 => (ih (os ++ [(k : Int)]) t1 al1 p36 cap36 cur36 w1 (by simp; omega) (els_more hA hx) (same_grown hsm hst) hok1 hcp36 hlp36 (by simpa using (by simpa using htp36)) (hw1.sub (List.Sublist.cons _ (List.Sublist.cons_cons _ (List.Sublist.cons_cons _ (List.Sublist.cons_cons _ (List.Sublist.cons_cons _ (List.Sublist.cons_cons _ (List.Sublist.cons_cons _ (List.Sublist.refl _)))))))))).mono fun en w' ⟨os', g', cap', cur', al', h1, h2, h3, h4, h5⟩ => ⟨(os', g', cap', cur', al'), h1, ⟨h2, h3, h4⟩, h5⟩) fun ⟨os38, g38, cap38, cur38, al38⟩ ⟨hok2, hos2, hcg2, hlg2, htg2⟩ => ?_
     show Ll _ _ (Own _ _ (_ :: _ :: _ :: _ :: _ :: _ :: ((D (shS a b step m (os ++ [(k : Int)]) t1).1 al38)))) _ _ ((38, bo_ ((shS a b step m (os ++ [(k : Int)]) t1).2)) :: _) _ _ _
     refine Ll.run 1 rfl ?_
     refine Ll.nil ?_
     refine Kt.sel [0, 1, 3, 4, 6, 18, 19, 39] [_, _, _, _, _, _, _, _] rfl ?_
     refine Wk.cond (b := !((shS a b step m (os ++ [(k : Int)]) t1).2)) rfl (fun h39 => ?_) (fun h39 => ?_)
     ·
      replace h39 := not_true h39
      refine Wk.seq ?_
      refine Wk.regionQ ?_
      refine Lq.run 1 rfl ?_
      refine Lq.nil ?_
      refine Kt.sel [5] [_] rfl ?_
      refine Wk.ret (Kt.end1 rfl rfl fun w' hw => ?_)
      have hfin : shS a b step (m + 1) os t = shS a b step m (os ++ [(k : Int)]) t1 := by
       show shLoop _ a.n.toNat t = _
       have h8 : shLoop (shF a b (shS a b step m) os) (k + 1) t = shS a b step m (os ++ [(k : Int)]) t1 := by rw [shLoop_step hlp, shF, if_pos hst]
       rw [shLoop_stop (k := k + 1) (by rw [h8]; assumption) _ (by omega), h8]
      refine ⟨os38, g38, cap38, cur38, al38, ?_, ?_, ?_, ⟨hcg2, hlg2, htg2⟩, ?_⟩
      · rw [hfin]; congr 2; exact (by assumption : _ = false).symm
      · rw [hfin]; exact hok2
      · rw [hfin]; intro h; simp_all
      · rw [hfin]; exact hw
     ·
      replace h39 := not_false h39
      have hose := hos2 (by first | assumption | (simp_all; done))
      have hosl : os38.length = os.length + 1 := by rw [hose]; simp
      refine Wk.skip ?_
      refine Kt.sel [0, 1, 3, 4, 6, 18, 19] [_, _, _, _, _, _, _] rfl ?_
      refine Wk.region ?_
      refine Ll.op rfl rfl rfl (OpQ.loadOwn 1 rfl Tryz.isAgg28 rfl rfl rfl) ?_
      refine Ll.run 1 rfl ?_
      refine Ll.op (v := sl_ g38 (((os.length : Int)).toNat) cap38) rfl rfl rfl (OpQ.takeS (i := (os.length : Int)) rfl Tryz.runUnderlying28 Tryz.sizeOf3 rfl rfl (by omega) (by omega)) ?_
      refine Ll.store1 (v := sl_ g38 (((os.length : Int)).toNat) cap38) (hs' := (_ :: bk_ po #[sl_ g38 (((os.length : Int)).toNat) cap38] 28 :: _ :: _ :: _ :: _ :: ((D (shS a b step m (os ++ [(k : Int)]) t1).1 al38)))) 1 rfl rfl rfl rfl rfl rfl Tryz.sizeOf28 rfl (by simp) rfl ?_
      refine Ll.nil ?_
      refine Kt.sel [0, 1, 3, 4, 6, 18, 19] [_, _, _, _, _, _, _] rfl ?_
      refine Wk.regionQ ?_
      refine Lq.op rfl rfl rfl (OpQ.add rfl rfl rfl (by omega) (by omega)) ?_
      refine Lq.run 1 rfl ?_
      refine Lq.nil ?_
      refine Kt.again ((k + 1, g38, cap38, cur38, (shS a b step m (os ++ [(k : Int)]) t1).1, al38)) ⟨by omega, by rw [shLoop_step hlp, shF, if_pos hst]; exact Prod.ext rfl (by assumption), hok2, ⟨by simpa using hcg2, by have := hlg2; rw [hose] at this; simp at this; dsimp only; omega, by dsimp only; have h9 := congrArg (List.take os.length) htg2; rw [hose, List.take_take, List.length_append, Nat.min_eq_left (by omega)] at h9; rw [h9]; simp [ints]⟩⟩ (by omega) (Sub.sel [0, 1, 3, 4, 6, 18, 19] rfl) (fun _ h => by simpa using h)
   ·
    replace hg25 := of_decide_eq_true hg25
    have hno : ¬ stillB a os b (upto os.length) (k : Int) os.length = true := by
     rw [still_placed]; simp_all
    refine Lq.pass rfl rfl rfl ?_
    refine Lq.pass rfl rfl rfl ?_
    refine Lq.pass rfl rfl rfl ?_
    refine Lq.pass rfl rfl rfl ?_
    refine Lq.pass rfl rfl rfl ?_
    refine Lq.pass rfl rfl rfl ?_
    refine Lq.run 1 rfl ?_
    refine Lq.nil ?_
    refine Kt.sel [0, 1, 3, 4, 6, 7, 18, 19, 32] [_, _, _, _, _, _, _, _, _] rfl ?_
    refine Wk.condT rfl ?_
    refine Wk.exit rfl ?_
    refine Kt.sel [0, 1, 3, 4, 6, 18, 19] [_, _, _, _, _, _, _] rfl ?_
    refine Wk.regionQ ?_
    refine Lq.op rfl rfl rfl (OpQ.add rfl rfl rfl (by omega) (by omega)) ?_
    refine Lq.run 1 rfl ?_
    refine Lq.nil ?_
    refine Kt.again ((k + 1, g1, cap1, cur1, t1, al1)) ⟨by omega, by rw [shLoop_step hlp, shF, if_neg hno], hok1, ⟨hcg1, hlg1, htg1⟩⟩ (by omega) (Sub.sel [0, 1, 3, 4, 6, 18, 19] rfl) (fun _ h => h)
  ·
   replace h20 := of_decide_eq_false h20
   refine Wk.exit rfl ?_
   refine Kt.sel [] [] rfl ?_
   refine Wk.seq ?_
   refine Wk.regionQ ?_
   refine Lq.run 1 rfl ?_
   refine Lq.nil ?_
   refine Kt.sel [5] [_] rfl ?_
   refine Wk.ret (Kt.end1 rfl rfl fun w' hw => ?_)
   have hfin : shS a b step (m + 1) os t = (t1, true) := by
    show shLoop _ a.n.toNat t = _
    rw [show a.n.toNat = k from by omega]; exact hlp
   exact ⟨os, g1, cap1, cur1, al1, by rw [hfin], by rw [hfin]; exact hok1, fun _ => rfl, ⟨hcg1, hlg1, htg1⟩, by rw [hfin]; exact hw⟩
theorem place_ok (a b : St) {τ α : Type} (D : τ → α → List (Nat × Obj)) (okD : τ → α → Prop) (step : List Int → τ → τ × Bool) (tf : FuncId) (tcap : Array Value) (B : Nat) (w0 : World) (hcf : ∀ args w, (callFunc tf args).run Tryz.prog w = .ok (.enter tf args) w) (hT : Tells Tryz.prog tf tcap a b B w0 D okD step) (ha : a.Fine) (hb : b.Fine) (hn : a.n = b.n) (pp po pt pb pa : Nat) : ∀ m : Nat, ∀ (os : List Int) (t : τ) (al : α) (g cap : Nat) (cur : Array Value) (w : World) (_ : os.length + m = a.n.toNat) (_ : a.Els os) (_ : sameB a os b (upto os.length) = true) (_ : okD t al) (_ : cur.size = cap * 1) (_ : os.length ≤ cap) (_ : cur.toList.take os.length = ints os), Own B w0 (bk_ pp #[.func (.func 69) #[] #[pt_ po, pt_ pa, pt_ pt, pt_ pb, pt_ pp]] 40 :: bk_ po #[sl_ g os.length cap] 28 :: bk_ g cur 3 :: bk_ pt #[.func (.func tf) #[] tcap] 77 :: bk_ pb #[i6_ b.n, str b.set, str b.rel] 24 :: bk_ pa #[i6_ a.n, str a.set, str a.rel] 24 :: (D t al)) w → Calls Tryz.prog 69 #[pt_ po, pt_ pa, pt_ pt, pt_ pb, pt_ pp] w fun en w' => ∃ (os' : List Int) (g' cap' : Nat) (cur' : Array Value) (al' : α), en = .returned (.bool (shS a b step m os t).2) ∧ okD (shS a b step m os t).1 al' ∧ ((shS a b step m os t).2 = true → os' = os) ∧ (cur'.size = cap' * 1 ∧ os'.length ≤ cap' ∧ cur'.toList.take os'.length = ints os') ∧ Own B w0 (bk_ pp #[.func (.func 69) #[] #[pt_ po, pt_ pa, pt_ pt, pt_ pb, pt_ pp]] 40 :: bk_ po #[sl_ g' os'.length cap'] 28 :: bk_ g' cur' 3 :: bk_ pt #[.func (.func tf) #[] tcap] 77 :: bk_ pb #[i6_ b.n, str b.set, str b.rel] 24 :: bk_ pa #[i6_ a.n, str a.set, str a.rel] 24 :: (D (shS a b step m os t).1 al')) w'
  | 0, os, t, al, g, cap, cur, w, h1, h2, h3, h4, h5, h6, h7, hw => place_zero a b D okD step tf tcap B w0 hcf hT ha hb hn pp po pt pb pa os t al g cap cur w h1 h2 h3 h4 h5 h6 h7 hw
  | m + 1, os, t, al, g, cap, cur, w, h1, h2, h3, h4, h5, h6, h7, hw => place_of a b D okD step tf tcap B w0 hcf hT ha hb hn pp po pt pb pa m (place_ok a b D okD step tf tcap B w0 hcf hT ha hb hn pp po pt pb pa m) os t al g cap cur w h1 h2 h3 h4 h5 h6 h7 hw
set_option maxHeartbeats 400000 in
/-- impl.eachShape -/
theorem eachShape_ok (a b : St) {τ α : Type} (D : τ → α → List (Nat × Obj)) (okD : τ → α → Prop) (step : List Int → τ → τ × Bool) (tf : FuncId) (tcap : Array Value) (B : Nat) (w0 : World) (hcf : ∀ args w, (callFunc tf args).run Tryz.prog w = .ok (.enter tf args) w) (hT : Tells Tryz.prog tf tcap a b B w0 D okD step) (ha : a.Fine) (hb : b.Fine) (hn : a.n = b.n) (t : τ) (al : α) (w : World) (hok : okD t al) (hw : Own B w0 (D t al) w) :
    Calls Tryz.prog 46 [vS a, vS b, .func (.func tf) #[] tcap].toArray w fun en w' => ∃ al' : α, en = .returned (.tuple #[]) ∧ okD (shS a b step a.n.toNat [] t).1 al' ∧ Own B w0 (D (shS a b step a.n.toNat [] t).1 al') w' := by
 refine fnStartC (Own B w0 (D t al)) (n := 12) (e := [(0, vS a), (1, vS b), (2, .func (.func tf) #[] tcap)]) Tryz.func46 rfl rfl rfl rfl Ends.both hw ?_
 refine Wk.seq ?_
 refine Wk.region ?_
 refine Ll.box (v := vS a) rfl rfl rfl rfl rfl fun p3 hp3 => ?_
 show Ll _ _ (Own _ _ (_ :: ((D t al)))) _ _ ((3, pt_ p3) :: _) _ _ _
 refine Ll.box (v := vS b) rfl rfl rfl rfl rfl fun p4 hp4 => ?_
 show Ll _ _ (Own _ _ (_ :: _ :: ((D t al)))) _ _ ((4, pt_ p4) :: _) _ _ _
 refine Ll.box (v := .func (.func tf) #[] tcap) rfl rfl rfl rfl rfl fun p5 hp5 => ?_
 show Ll _ _ (Own _ _ (_ :: _ :: _ :: ((D t al)))) _ _ ((5, pt_ p5) :: _) _ _ _
 refine Ll.nil ?_
 refine Kt.sel [3, 4, 5] [_, _, _] rfl ?_
 refine Wk.seq ?_
 refine Wk.region ?_
 refine Ll.slice (xs := []) (vs := []) Base.elem28 rfl rfl rfl rfl rfl rfl (by decide) rfl fun p8 hp8 => ?_
 refine Ll.alloc rfl rfl rfl rfl Tryz.zeroValue28 fun p6 hp6 => ?_
 show Ll _ _ (Own _ _ (bk_ p6 #[.slice none 0 0] 28 :: _ :: _ :: _ :: _ :: ((D t al)))) _ _ ((6, pt_ p6) :: _) _ _ _
 refine Ll.store1 (v := sl_ p8 0 0) (hs' := (bk_ p6 #[sl_ p8 0 0] 28 :: _ :: _ :: _ :: _ :: ((D t al)))) 0 rfl rfl rfl rfl rfl rfl Tryz.sizeOf28 rfl (by simp) rfl ?_
 refine Ll.nil ?_
 refine Kt.sel [3, 4, 5, 6] [_, _, _, _] rfl ?_
 refine Wk.seq ?_
 refine Wk.region ?_
 refine Ll.alloc rfl rfl rfl rfl Tryz.zeroValue40 fun p7 hp7 => ?_
 show Ll _ _ (Own _ _ (bk_ p7 #[.nilFunc] 40 :: _ :: _ :: _ :: _ :: _ :: ((D t al)))) _ _ ((7, pt_ p7) :: _) _ _ _
 refine Ll.nil ?_
 refine Kt.sel [3, 4, 5, 6, 7] [_, _, _, _, _] rfl ?_
 refine Wk.seq ?_
 refine Wk.region ?_
 refine Ll.op (v := .func (.func 69) #[] #[pt_ p6, pt_ p3, pt_ p5, pt_ p4, pt_ p7]) rfl rfl rfl (OpQ.func' (cap := [.tmp 6, .tmp 3, .tmp 5, .tmp 4, .tmp 7]) rfl rfl) ?_
 refine Ll.store1 (v := .func (.func 69) #[] #[pt_ p6, pt_ p3, pt_ p5, pt_ p4, pt_ p7]) (hs' := (bk_ p7 #[.func (.func 69) #[] #[pt_ p6, pt_ p3, pt_ p5, pt_ p4, pt_ p7]] 40 :: _ :: _ :: _ :: _ :: _ :: ((D t al)))) 0 rfl rfl rfl rfl rfl rfl Tryz.sizeOf40 rfl (by simp) rfl ?_
 refine Ll.nil ?_
 refine Kt.sel [7] [_] rfl ?_
 refine Wk.region ?_
 refine Ll.op rfl rfl rfl (OpQ.loadOwn 0 rfl Tryz.isAgg40 rfl rfl rfl) ?_
 refine Ll.callFnGet (σ := List Int × Nat × Nat × Array Value × α) (ok := fun (os', _, cap', cur', al') => okD (shS a b step a.n.toNat [] t).1 al') (v := fun _ => .bool (shS a b step a.n.toNat [] t).2) (hs' := fun (os', g', cap', cur', al') => (bk_ p7 #[.func (.func 69) #[] #[pt_ p6, pt_ p3, pt_ p5, pt_ p4, pt_ p7]] 40 :: bk_ p6 #[sl_ g' os'.length cap'] 28 :: bk_ g' cur' 3 :: bk_ p5 #[.func (.func tf) #[] tcap] 77 :: bk_ p4 #[i6_ b.n, str b.set, str b.rel] 24 :: bk_ p3 #[i6_ a.n, str a.set, str a.rel] 24 :: (D (shS a b step a.n.toNat [] t).1 al'))) (xs := []) (vs := []) rfl rfl rfl rfl rfl Tryz.call69 rfl (fun w1 hw1 => (place_ok a b D okD step tf tcap B w0 hcf hT ha hb hn p7 p6 p5 p4 p3 a.n.toNat [] t al p8 0 #[] w1 (by simp) (fun x hx => by cases hx) rfl hok rfl (Nat.le_refl 0) rfl hw1).mono fun en w' ⟨os', g', cap', cur', al', h1, h2, h3, h4, h5⟩ => ⟨(os', g', cap', cur', al'), h1, h2, h5⟩) fun ⟨os9, g9, cap9, cur9, al11⟩ hok9 => ?_
 show Ll _ _ (Own _ _ (_ :: _ :: _ :: _ :: _ :: _ :: ((D (shS a b step a.n.toNat [] t).1 al11)))) _ _ ((11, bo_ ((shS a b step a.n.toNat [] t).2)) :: _) _ _ _
 refine Ll.nil ?_
 refine (Kt.end0 rfl fun w' hw => ?_)
 exact ⟨al11, rfl, hok9, Own.drop (f := [_, _, _, _, _, _]) hw⟩
end Go.Proofs.YtjcoijejhachhaaGreatDoor
namespace Go.Proofs.YtjcoijejhachhaaGreatDoor
open Go.RowKit Go.Wk
set_option linter.unusedSimpArgs false
set_option maxHeartbeats 400000 in
/-- impl.hasElement -/
theorem hasEl_ok (a : St) (x : Int) (w : World) (hsa : a.Small) :
    Calls Tryz.prog 27 [vS a, i6_ x].toArray w fun en w' => en = .returned (.bool (validB a && elB a x)) ∧ Below w.heap.size w w' := by
 refine fnStart (n := 17) (e := [(0, vS a), (1, i6_ x)]) Tryz.func27 rfl rfl rfl rfl Ends.both ?_
 refine Wk.seq ?_
 refine Wk.region ?_
 refine Ll.box (v := vS a) rfl rfl rfl rfl rfl fun p2 hp2 => ?_
 show Ll _ _ (Own _ _ [_]) _ _ ((2, pt_ p2) :: _) _ _ _
 refine Ll.run 1 rfl ?_
 refine Ll.nil ?_
 refine Kt.sel [1, 2] [_, _] rfl ?_
 refine Wk.seq ?_
 refine Wk.regionQ ?_
 refine Lq.op rfl rfl rfl (OpQ.loadBox (cs := #[i6_ a.n, str a.set, str a.rel]) 0 rfl Tryz.isAgg24 rfl rfl Tryz.sizeOf24) ?_
 refine Lq.op (v := bo_ (validB a)) rfl rfl rfl (OpQ.call rfl Tryz.call12 rfl Own.stable (fun w1 hw1 => isStructure_ok a w1 hsa)) ?_
 refine Lq.run 1 rfl ?_
 refine Lq.bool fun b7 hg7 => ?_
 cases b7
 ·
  refine Lq.pass rfl rfl rfl ?_
  refine Lq.pass rfl rfl rfl ?_
  refine Lq.run 2 rfl ?_
  refine Lq.pass rfl rfl rfl ?_
  refine Lq.pass rfl rfl rfl ?_
  refine Lq.pass rfl rfl rfl ?_
  refine Lq.pass rfl rfl rfl ?_
  refine Lq.run 2 rfl ?_
  refine Lq.nil ?_
  refine Kt.sel [4] [_] rfl ?_
  refine Wk.ret (Kt.end1 rfl rfl fun w' hw => ?_)
  exact ⟨ret_b (by unfold elB; first | (simp_all; done) | (simp_all; omega)), hw.below⟩
 ·
  refine Lq.run 4 rfl ?_
  refine Lq.bool fun b11 hg11 => ?_
  cases b11
  ·
   replace hg11 := of_decide_eq_false hg11
   refine Lq.pass rfl rfl rfl ?_
   refine Lq.pass rfl rfl rfl ?_
   refine Lq.pass rfl rfl rfl ?_
   refine Lq.pass rfl rfl rfl ?_
   refine Lq.run 2 rfl ?_
   refine Lq.nil ?_
   refine Kt.sel [4] [_] rfl ?_
   refine Wk.ret (Kt.end1 rfl rfl fun w' hw => ?_)
   exact ⟨ret_b (by unfold elB; first | (simp_all; done) | (simp_all; omega)), hw.below⟩
  ·
   replace hg11 := of_decide_eq_true hg11
   refine Lq.run 1 rfl ?_
   refine Lq.op rfl rfl rfl (OpQ.fieldAddr rfl Tryz.runUnderlying24 rfl Tryz.sizeOf3 rfl rfl) ?_
   refine Lq.op rfl rfl rfl (OpQ.loadOwn 0 rfl Tryz.isAgg3 rfl rfl rfl) ?_
   refine Lq.run 3 rfl ?_
   refine Lq.nil ?_
   refine Kt.sel [4] [_] rfl ?_
   refine Wk.ret (Kt.end1 rfl rfl fun w' hw => ?_)
   exact ⟨ret_b (by unfold elB; first | (simp_all; done) | (simp_all; omega)), hw.below⟩
set_option maxHeartbeats 400000 in
/-- impl.orbitOf$1 -/
theorem mark_ok (B : Nat) (w0 : World) (p5 p11 p3 n : Nat) (x : Int) (bs : List Bool) (fr : List (Nat × Obj)) (v : Value) (os : List Int) (w : World) (hva : ∀ w, Own B w0 (bk_ p5 #[sl_ p11 n n] 42 :: bk_ p3 #[i6_ x] 3 :: fr) w → Ints w v os) (hx0 : 0 ≤ x) (hx1 : x < os.length) (hs : os.length ≤ 8) (hn : bs.length = n) (hel : ∀ o ∈ os, 0 ≤ o ∧ o < (n : Int)) (hw : Own B w0 (bk_ p5 #[sl_ p11 n n] 42 :: bk_ p11 ((bs.map Value.bool).toArray) 4 :: bk_ p3 #[i6_ x] 3 :: fr) w) :
    Calls Tryz.prog 47 [v, pt_ p5, pt_ p3].toArray w fun en w' => en = .returned (.bool true) ∧ Own B w0 (bk_ p5 #[sl_ p11 n n] 42 :: bk_ p11 (((bs.set (os.getD x.toNat 0).toNat true).map Value.bool).toArray) 4 :: bk_ p3 #[i6_ x] 3 :: fr) w' := by
 refine fnStartC (Own B w0 (bk_ p5 #[sl_ p11 n n] 42 :: bk_ p11 ((bs.map Value.bool).toArray) 4 :: bk_ p3 #[i6_ x] 3 :: fr)) (n := 11) (e := [(0, v), (1, pt_ p5), (2, pt_ p3)]) Tryz.func47 rfl rfl rfl rfl Ends.both hw ?_
 have hm : 0 ≤ os.getD x.toNat 0 ∧ os.getD x.toNat 0 < (n : Int) := by rw [getD_at (by omega)]; exact hel _ (List.getElem_mem _)
 refine Wk.seq ?_
 refine Wk.regionQ ?_
 refine Lq.run 1 rfl ?_
 refine Lq.nil ?_
 refine Kt.sel [0, 1, 2] [_, _, _] rfl ?_
 refine Wk.seq ?_
 refine Wk.regionS (S := Own B w0 (bk_ p5 #[sl_ p11 n n] 42 :: bk_ p3 #[i6_ x] 3 :: fr)) [(0, true), (1, true), (2, true), (3, true), (4, true), (5, true), (6, false)] Base.mixed (fun _ h => h.drawn) (by kernel_rfl) ?_
 refine Ld.take rfl rfl rfl rfl rfl (OpQ.loadOwn 0 rfl Tryz.isAgg42 rfl rfl rfl) (fun _ h => Own.pickT (hs := [_, _, _]) (hs' := [_, _]) h [0, 2] rfl (by decide)) ?_
 refine Ld.run 1 rfl (fun _ h => Own.pickT (hs := [_, _, _]) (hs' := [_, _]) h [0, 2] rfl (by decide)) ?_
 refine Ld.take rfl rfl rfl rfl rfl (OpQ.loadOwn 1 rfl Tryz.isAgg3 rfl rfl rfl) (fun _ h => Own.pickT (hs := [_, _, _]) (hs' := [_, _]) h [0, 2] rfl (by decide)) ?_
 refine Ld.take (v := .pointer (some (sAt v x))) rfl rfl rfl rfl rfl (OpQ.atRow rfl Tryz.runUnderlying28 Tryz.sizeOf3 rfl rfl (by omega) (by rw [ints_length]; omega) (fun w1 hw1 => hva _ hw1)) (fun _ h => Own.pickT (hs := [_, _, _]) (hs' := [_, _]) h [0, 2] rfl (by decide)) ?_
 refine Ld.take (v := i6_ (os.getD ((x).toNat) 0)) rfl rfl rfl rfl rfl (OpQ.load1 rfl Tryz.isAgg3 rfl (fun w1 hw1 => Ints.cell (hva _ hw1) (by omega) (by omega))) (fun _ h => Own.pickT (hs := [_, _, _]) (hs' := [_, _]) h [0, 2] rfl (by decide)) ?_
 refine Ld.take (v := pf_ p11 ((os.getD ((x).toNat) 0).toNat)) rfl rfl rfl rfl rfl (OpQ.cast (by rw [Nat.zero_add]) (OpQ.indexAddr1 (i := os.getD ((x).toNat) 0) rfl Tryz.runUnderlying42 Tryz.sizeOf4 rfl rfl (by omega) (by omega))) (fun _ h => Own.pickT (hs := [_, _, _]) (hs' := [_, _]) h [0, 2] rfl (by decide)) ?_
 refine Ld.loud rfl ?_
 refine Ll.store1 (v := bo_ true) (hs' := (_ :: bk_ p11 (((bs.map Value.bool).set ((os.getD ((x).toNat) 0).toNat) (bo_ true)).toArray) 4 :: _ :: fr)) 1 rfl rfl rfl rfl rfl rfl Tryz.sizeOf4 rfl (by rw [List.size_toArray, List.length_map]; omega) (by first | (rw [list_set]; rfl) | (simp only [Nat.zero_add]; rw [list_set]; rfl)) ?_
 refine Ll.nil (Ld.joint (fun _ h => Own.pickT (hs := [_, _, _]) (hs' := [_, _]) h [0, 2] rfl (by decide)) ?_)
 refine Ld.nil ?_
 refine Kt.sel [] [] rfl ?_
 refine Wk.seq ?_
 refine Wk.regionQ ?_
 refine Lq.run 1 rfl ?_
 refine Lq.nil ?_
 refine Kt.sel [4] [_] rfl ?_
 refine Wk.ret (Kt.end1 rfl rfl fun w' hw => ?_)
 exact ⟨rfl, by rw [List.map_set]; exact hw⟩
theorem orbTells (a : St) (ha : a.Fine) (x : Int) (hx : a.El x) (B : Nat) (w0 : World) (p5 p11 p3 : Nat) (rest : List (Nat × Obj)) : Tells Tryz.prog 47 #[.pointer (some ⟨p5, 0, none⟩), .pointer (some ⟨p3, 0, none⟩)] a a B w0 (fun (bs : List Bool) (_ : Unit) => (bk_ p5 #[sl_ p11 a.n.toNat a.n.toNat] 42 :: bk_ p11 ((bs.map Value.bool).toArray) 4 :: bk_ p3 #[i6_ x] 3 :: rest)) (fun bs _ => bs.length = a.n.toNat) (orbStep x) := by
  intro fr v os t al w hok hv hl _ hA hw
  have h8 := ha.hi
  have pm : ∀ t : List Bool, (fr ++ (bk_ p5 #[sl_ p11 a.n.toNat a.n.toNat] 42 :: bk_ p11 ((t.map Value.bool).toArray) 4 :: bk_ p3 #[i6_ x] 3 :: rest)).Perm (bk_ p5 #[sl_ p11 a.n.toNat a.n.toNat] 42 :: bk_ p11 ((t.map Value.bool).toArray) 4 :: bk_ p3 #[i6_ x] 3 :: (fr ++ rest)) := fun t => List.perm_append_comm_assoc fr [_, _, _] rest
  refine (mark_ok B w0 p5 p11 p3 a.n.toNat x t (fr ++ rest) v os w (fun w h => hv w (Own.dropR (Own.drop (f := [_, _]) h))) hx.1 (by have := hx.2; omega) (by omega) hok (fun o ho => by have := hA o ho; exact ⟨this.1, by have := this.2; omega⟩) (hw.perm (pm t))).mono fun en w' ⟨h1, h2⟩ => ?_
  exact ⟨(), h1, by show (t.set _ _).length = _; rw [List.length_set]; exact hok, h2.perm (pm _).symm⟩
set_option maxHeartbeats 400000 in
/-- impl.orbitOf -/
theorem orbit_ok (a : St) (x : Int) (B : Nat) (w0 : World) (hs : List (Nat × Obj)) (w : World) (ha : a.Fine) (hx : a.El x) (hw : Own B w0 hs w) :
    Calls Tryz.prog 28 [vS a, i6_ x].toArray w fun en w' => ∃ (zs : List Int) (g c : Nat) (u : Array Value), en = .returned (.slice (some ⟨g, 0, none⟩) zs.length c) ∧ ((u.size = c * 1 ∧ zs.length ≤ c ∧ u.toList.take zs.length = ints zs) ∧ zs.length ≤ 8 ∧ (0 < zs.length ∧ zs.getD 0 0 ≤ x) ∧ ∀ z ∈ zs, a.El z ∧ Moved a x z) ∧ Own B w0 ((g, .cells u 3 (0, 0)) :: hs) w' := by
 refine fnStartC (Own B w0 hs) (n := 31) (e := [(0, vS a), (1, i6_ x)]) Tryz.func28 rfl rfl rfl rfl Ends.both hw ?_
 have hm8 := ha.hi
 have hm1 := ha.lo
 refine Wk.seq ?_
 refine Wk.region ?_
 refine Ll.box (v := vS a) rfl rfl rfl rfl rfl fun p2 hp2 => ?_
 show Ll _ _ (Own _ _ (_ :: hs)) _ _ ((2, pt_ p2) :: _) _ _ _
 refine Ll.box (v := i6_ x) rfl rfl rfl rfl rfl fun p3 hp3 => ?_
 show Ll _ _ (Own _ _ (_ :: _ :: hs)) _ _ ((3, pt_ p3) :: _) _ _ _
 refine Ll.run 1 rfl ?_
 refine Ll.nil ?_
 refine Kt.sel [2, 3] [_, _] rfl ?_
 refine Wk.seq ?_
 refine Wk.region ?_
 refine Ll.op rfl rfl rfl (OpQ.fieldAddr rfl Tryz.runUnderlying24 rfl Tryz.sizeOf3 rfl rfl) ?_
 refine Ll.op rfl rfl rfl (OpQ.loadOwn 1 rfl Tryz.isAgg3 rfl rfl rfl) ?_
 refine Ll.make (k := a.n.toNat) Base.elem42 Tryz.zeroValue4 rfl rfl rfl rfl (by rw [Int.toNat_of_nonneg (by omega)]; rfl) (by omega) fun p11 hp11 => ?_
 rw [show madeCells (Value.cells (bo_ false)) (a.n.toNat * 1) = (List.replicate a.n.toNat (bo_ false)).toArray from made_list _ _ rfl]
 refine Ll.alloc rfl rfl rfl rfl Tryz.zeroValue42 fun p5 hp5 => ?_
 show Ll _ _ (Own _ _ (bk_ p5 #[.slice none 0 0] 42 :: _ :: _ :: _ :: hs)) _ _ ((5, pt_ p5) :: _) _ _ _
 refine Ll.store1 (v := sl_ p11 a.n.toNat a.n.toNat) (hs' := (bk_ p5 #[sl_ p11 a.n.toNat a.n.toNat] 42 :: _ :: _ :: _ :: hs)) 0 rfl rfl rfl rfl rfl rfl Tryz.sizeOf42 rfl (by simp) rfl ?_
 refine Ll.nil ?_
 refine Kt.sel [2, 3, 5] [_, _, _] rfl ?_
 refine Wk.seq ?_
 refine Wk.region ?_
 refine Ll.op rfl rfl rfl (OpQ.loadBox (cs := #[i6_ a.n, str a.set, str a.rel]) 3 rfl Tryz.isAgg24 rfl rfl Tryz.sizeOf24) ?_
 refine Ll.op rfl rfl rfl (OpQ.loadBox (cs := #[i6_ a.n, str a.set, str a.rel]) 3 rfl Tryz.isAgg24 rfl rfl Tryz.sizeOf24) ?_
 refine Ll.op (v := .func (.func 47) #[] #[pt_ p5, pt_ p3]) rfl rfl rfl (OpQ.func' (cap := [.tmp 5, .tmp 3]) rfl rfl) ?_
 refine Ll.callGet (σ := Unit) (ok := fun _ => True) (v := fun _ => .tuple #[]) (hs' := fun _ => (bk_ p5 #[sl_ p11 a.n.toNat a.n.toNat] 42 :: bk_ p11 ((((shS a a (orbStep x) a.n.toNat [] (List.replicate a.n.toNat false)).1).map Value.bool).toArray) 4 :: bk_ p3 #[i6_ x] 3 :: (bk_ p2 #[i6_ a.n, str a.set, str a.rel] 24 :: hs))) (xs := [.tmp 12, .tmp 13, .tmp 14]) (vs := [vS a, vS a, .func (.func 47) #[] #[pt_ p5, pt_ p3]]) rfl rfl rfl rfl Tryz.call46 rfl (fun w1 hw1 => (eachShape_ok a a (fun (bs : List Bool) (_ : Unit) => (bk_ p5 #[sl_ p11 a.n.toNat a.n.toNat] 42 :: bk_ p11 ((bs.map Value.bool).toArray) 4 :: bk_ p3 #[i6_ x] 3 :: (bk_ p2 #[i6_ a.n, str a.set, str a.rel] 24 :: hs))) (fun bs _ => bs.length = a.n.toNat) (orbStep x) 47 #[.pointer (some ⟨p5, 0, none⟩), .pointer (some ⟨p3, 0, none⟩)] B w0 Tryz.call47 (orbTells a ha x hx B w0 p5 p11 p3 (bk_ p2 #[i6_ a.n, str a.set, str a.rel] 24 :: hs)) ha ha rfl (List.replicate a.n.toNat false) () w1 (by simp) (by rw [List.map_replicate]; exact hw1)).mono fun en w' ⟨al, h1, _, h2⟩ => ⟨al, h1, trivial, h2⟩) fun _ _ => ?_
 obtain ⟨bs, hbs⟩ : ∃ bs, bs = (shS a a (orbStep x) a.n.toNat [] (List.replicate a.n.toNat false)).1 := ⟨_, rfl⟩
 rw [← hbs]
 have hI : OrbI a x bs := hbs ▸ orb_inv ha hx
 have hbl := hI.1
 have hJ : bs.getD x.toNat false = true := hbs ▸ orb_marks ha hx
 show Ll _ _ (Own _ _ (_ :: _ :: _ :: _ :: hs)) _ _ _ _ _ _
 refine Ll.nil ?_
 refine Kt.sel [5] [_] rfl ?_
 refine Wk.seq ?_
 refine Wk.region ?_
 refine Ll.slice (xs := []) (vs := []) Base.elem28 rfl rfl rfl rfl rfl rfl (by decide) rfl fun p16 hp16 => ?_
 refine Ll.run 1 rfl ?_
 refine Ll.nil ?_
 refine Kt.sel [5, 6] [_, _] rfl ?_
 refine Wk.seq ?_
 refine Wk.seq ?_
 refine Wk.regionQ ?_
 refine Lq.op rfl rfl rfl (OpQ.loadOwn 1 rfl Tryz.isAgg42 rfl rfl rfl) ?_
 refine Lq.op rfl rfl rfl (OpQ.lenS rfl Tryz.runUnderlying42 rfl) ?_
 refine Lq.run 1 rfl ?_
 refine Lq.nil ?_
 refine Kt.sel [6, 17, 18, 19] [_, _, _, _] rfl ?_
 refine Wk.block ?_
 refine Wk.loop (σ := Nat × Nat × Nat × Array Value) (fun ⟨k, g, c, u⟩ => k ≤ a.n.toNat ∧ (u.size = c * 1 ∧ (trueTo bs k).length ≤ c ∧ u.toList.take (trueTo bs k).length = ints (trueTo bs k))) (fun ⟨k, g, c, u⟩ => [(6, sl_ g ((trueTo bs k).length) c), (17, sl_ p11 a.n.toNat a.n.toNat), (18, i6_ ((a.n.toNat : Int))), (19, i6_ ((k : Int)))]) (fun ⟨k, g, c, u⟩ => Own B w0 (bk_ g u 3 :: bk_ p5 #[sl_ p11 a.n.toNat a.n.toNat] 42 :: bk_ p11 ((bs.map Value.bool).toArray) 4 :: bk_ p3 #[i6_ x] 3 :: bk_ p2 #[i6_ a.n, str a.set, str a.rel] 24 :: hs)) (fun ⟨k, g, c, u⟩ => a.n.toNat - k) ((0, p16, 0, #[])) ⟨by omega, ⟨rfl, Nat.le_refl 0, rfl⟩⟩ (Sub.cons (by rfl) (Sub.sel [17, 18, 19] rfl)) (fun _ h => h) ?_
 rintro ⟨k, g, c, u⟩ ⟨hk, ⟨hcg, hlg, htg⟩⟩
 dsimp only
 have htl := true_le bs k
 refine Wk.seq ?_
 refine Wk.regionQ ?_
 refine Lq.run 1 rfl ?_
 refine Lq.nil ?_
 refine Kt.sel [6, 17, 18, 19, 20] [_, _, _, _, _] rfl ?_
 refine Wk.seq ?_
 refine Wk.cond (b := decide (((k : Int)) < ((a.n.toNat : Int)))) rfl (fun h20 => ?_) (fun h20 => ?_)
 ·
  replace h20 := of_decide_eq_true h20
  refine Wk.skip ?_
  refine Kt.sel [6, 17, 18, 19] [_, _, _, _] rfl ?_
  refine Wk.seq ?_
  refine Wk.block ?_
  refine Wk.seq ?_
  refine Wk.regionQ ?_
  refine Lq.run 1 rfl ?_
  refine Lq.op (v := pf_ p11 (((k : Int)).toNat)) rfl rfl rfl (OpQ.cast (by rw [Nat.zero_add]) (OpQ.indexAddr1 (i := (k : Int)) rfl Tryz.runUnderlying42 Tryz.sizeOf4 rfl rfl (by omega) (by omega))) ?_
  refine Lq.op (v := bo_ (bs.getD (((k : Int)).toNat) false)) rfl rfl rfl (OpQ.loadAt 2 rfl Tryz.isAgg4 rfl rfl (cur_at (bools_all bs) (bools_at (c := bs) (off := ((k : Int)).toNat) (by first | (simp; done) | (simp; omega) | omega)))) ?_
  refine Lq.run 2 rfl ?_
  refine Lq.nil ?_
  refine Kt.sel [6, 7, 8, 17, 18, 19] [_, _, _, _, _, _] rfl ?_
  refine Wk.seq ?_
  refine Wk.regionQ ?_
  refine Lq.run 1 rfl ?_
  refine Lq.nil ?_
  refine Kt.sel [6, 7, 17, 18, 19, 24] [_, _, _, _, _, _] rfl ?_
  refine Wk.cond (b := bs.getD (((k : Int)).toNat) false) rfl (fun h24 => ?_) (fun h24 => ?_)
  ·
   refine Wk.region ?_
   refine Ll.run 2 rfl ?_
   refine Ll.slice (xs := [.tmp 26]) (vs := [i6_ ((k : Int))]) Base.elem28 rfl rfl rfl rfl rfl rfl (by decide) rfl fun p27 hp27 => ?_
   refine Ll.appendInts (xs := (trueTo bs k)) (ys := [(k : Int)]) Base.elem28 1 rfl rfl rfl rfl rfl rfl rfl hcg hlg htg (fun w1 hw1 => (Own.row hw1 (i := 0) rfl (n := 1) (cap := 1) (vs := ints [(k : Int)]) rfl rfl (by decide))) ((((trueTo bs k)) ++ ([(k : Int)])).length) (by first | (simp; done) | (simp; omega)) (by first | (simp; done) | (simp; omega) | omega) fun p28 cap28 cur28 hp28 hcp28 hlp28 htp28 => ?_
   show Ll _ _ (Own _ _ (_ :: _ :: _ :: _ :: _ :: _ :: hs)) _ _ ((28, sl_ p28 (((((trueTo bs k)) ++ ([(k : Int)])).length)) cap28) :: _) _ _ _
   refine Ll.run 1 rfl ?_
   refine Ll.nil ?_
   refine Kt.sel [6, 17, 18, 19] [_, _, _, _] rfl ?_
   refine Wk.regionQ ?_
   refine Lq.op rfl rfl rfl (OpQ.add rfl rfl rfl (by omega) (by omega)) ?_
   refine Lq.run 1 rfl ?_
   refine Lq.nil ?_
   refine Kt.again ((k + 1, p28, cap28, cur28)) ⟨by omega, ⟨by simpa using hcp28, by dsimp only; rw [true_yes (k := k) (by simpa using h24)]; simpa using hlp28, by dsimp only; rw [true_yes (k := k) (by simpa using h24)]; simpa using htp28⟩⟩ (by omega) (Sub.cons (by dsimp only; rw [true_yes (k := k) (by simpa using h24)]; rfl) (Sub.sel [17, 18, 19] rfl)) (fun _ h => h.sub (List.Sublist.cons _ (List.Sublist.cons_cons _ (List.Sublist.cons_cons _ (List.Sublist.cons_cons _ (List.Sublist.cons_cons _ (List.Sublist.cons_cons _ (List.Sublist.refl _))))))))
  ·
   refine Wk.skip ?_
   refine Kt.sel [6, 17, 18, 19] [_, _, _, _] rfl ?_
   refine Wk.regionQ ?_
   refine Lq.op rfl rfl rfl (OpQ.add rfl rfl rfl (by omega) (by omega)) ?_
   refine Lq.run 1 rfl ?_
   refine Lq.nil ?_
   refine Kt.again ((k + 1, g, c, u)) ⟨by omega, ⟨hcg, by dsimp only; rw [true_no (k := k) (by simpa using h24)]; exact hlg, by dsimp only; rw [true_no (k := k) (by simpa using h24)]; exact htg⟩⟩ (by omega) (Sub.cons (by dsimp only; rw [true_no (k := k) (by simpa using h24)]; rfl) (Sub.sel [17, 18, 19] rfl)) (fun _ h => h.sub (List.Sublist.cons_cons _ (List.Sublist.cons_cons _ (List.Sublist.cons_cons _ (List.Sublist.cons_cons _ (List.Sublist.cons_cons _ (List.Sublist.refl _)))))))
 ·
  replace h20 := of_decide_eq_false h20
  refine Wk.exit rfl ?_
  refine Kt.sel [6] [_] rfl ?_
  refine Wk.seq ?_
  refine Wk.regionQ ?_
  refine Lq.run 2 rfl ?_
  refine Lq.nil ?_
  refine Kt.sel [4] [_] rfl ?_
  refine Wk.ret (Kt.end1 rfl rfl fun w' hw => ?_)
  obtain rfl : k = bs.length := by omega
  exact ⟨trueTo bs bs.length, g, c, u, rfl, ⟨⟨hcg, hlg, htg⟩, by have := ha.hi; omega, orb_first hx hbl hJ, orb_all hI⟩, hw.sub (List.Sublist.cons_cons _ (List.Sublist.cons _ (List.Sublist.cons _ (List.Sublist.cons _ (List.Sublist.cons _ (List.Sublist.refl _))))))⟩
set_option maxHeartbeats 400000 in
/-- impl.OrbitOf -/
theorem iOrbit_ok (a : St) (x : Int) (B : Nat) (w0 : World) (hs : List (Nat × Obj)) (w : World) (hsa : a.Small) (hv : validB a = true) (hx : a.El x) (hw : Own B w0 hs w) :
    Calls Tryz.prog 7 [vS a, i6_ x].toArray w fun en w' => ∃ (zs : List Int) (g c : Nat) (u : Array Value), en = .returned (.slice (some ⟨g, 0, none⟩) zs.length c) ∧ ((u.size = c * 1 ∧ zs.length ≤ c ∧ u.toList.take zs.length = ints zs) ∧ zs.length ≤ 8 ∧ (0 < zs.length ∧ zs.getD 0 0 ≤ x) ∧ ∀ z ∈ zs, a.El z ∧ Moved a x z) ∧ Own B w0 ((g, .cells u 3 (0, 0)) :: hs) w' := by
 refine fnStartC (Own B w0 hs) (n := 12) (e := [(0, vS a), (1, i6_ x)]) Tryz.func7 rfl rfl rfl rfl Ends.both hw ?_
 have ha := validB_fine hv
 refine Wk.seq ?_
 refine Wk.region ?_
 refine Ll.box (v := vS a) rfl rfl rfl rfl rfl fun p2 hp2 => ?_
 show Ll _ _ (Own _ _ (_ :: hs)) _ _ ((2, pt_ p2) :: _) _ _ _
 refine Ll.run 1 rfl ?_
 refine Ll.nil ?_
 refine Kt.sel [1, 2] [_, _] rfl ?_
 refine Wk.seq ?_
 refine Wk.seq ?_
 refine Wk.regionQ ?_
 refine Lq.op rfl rfl rfl (OpQ.loadBox (cs := #[i6_ a.n, str a.set, str a.rel]) 0 rfl Tryz.isAgg24 rfl rfl Tryz.sizeOf24) ?_
 refine Lq.run 1 rfl ?_
 refine Lq.op (v := bo_ (validB a && elB a x)) rfl rfl rfl (OpQ.call rfl Tryz.call27 rfl Own.stable (fun w1 hw1 => hasEl_ok a x w1 hsa)) ?_
 refine Lq.run 1 rfl ?_
 refine Lq.nil ?_
 refine Kt.sel [1, 2, 8] [_, _, _] rfl ?_
 refine Wk.cond (b := !(validB a && elB a x)) rfl (fun h8 => ?_) (fun h8 => ?_)
 ·
  replace h8 := not_true h8
  exact absurd h8 (by rw [hv, elB_true.2 hx]; decide)
 ·
  replace h8 := not_false h8
  refine Wk.skip ?_
  refine Kt.sel [1, 2] [_, _] rfl ?_
  refine Wk.seq ?_
  refine Wk.region ?_
  refine Ll.op rfl rfl rfl (OpQ.loadBox (cs := #[i6_ a.n, str a.set, str a.rel]) 0 rfl Tryz.isAgg24 rfl rfl Tryz.sizeOf24) ?_
  refine Ll.run 1 rfl ?_
  refine Ll.callGet (σ := List Int × Nat × Nat × Array Value) (ok := fun (zs, g, c, u) => (u.size = c * 1 ∧ zs.length ≤ c ∧ u.toList.take zs.length = ints zs) ∧ zs.length ≤ 8 ∧ (0 < zs.length ∧ zs.getD 0 0 ≤ x) ∧ ∀ z ∈ zs, a.El z ∧ Moved a x z) (v := fun (zs, g, c, u) => .slice (some ⟨g, 0, none⟩) zs.length c) (hs' := fun (zs, g, c, u) => (g, .cells u 3 (0, 0)) :: (bk_ p2 #[i6_ a.n, str a.set, str a.rel] 24 :: hs)) (xs := [.tmp 9, .tmp 10]) (vs := [vS a, i6_ x]) rfl rfl rfl rfl Tryz.call28 rfl (fun w1 hw1 => (orbit_ok a x B w0 (bk_ p2 #[i6_ a.n, str a.set, str a.rel] 24 :: hs) w1 ha hx hw1).mono fun en w' ⟨zs, g, c, u, h1, h2, h3⟩ => ⟨(zs, g, c, u), h1, h2, h3⟩) fun ⟨zs11, g11, c11, u11⟩ ⟨⟨hcg11, hlg11, htg11⟩, hz8, hzf, hzm⟩ => ?_
  show Ll _ _ (Own _ _ (_ :: _ :: hs)) _ _ ((11, sl_ g11 zs11.length c11) :: _) _ _ _
  refine Ll.run 1 rfl ?_
  refine Ll.nil ?_
  refine Kt.sel [4] [_] rfl ?_
  refine Wk.ret (Kt.end1 rfl rfl fun w' hw => ?_)
  exact ⟨zs11, g11, c11, u11, rfl, ⟨⟨hcg11, hlg11, htg11⟩, hz8, hzf, hzm⟩, hw.sub (List.Sublist.cons_cons _ (List.Sublist.cons _ (List.Sublist.refl _)))⟩
end Go.Proofs.YtjcoijejhachhaaGreatDoor
