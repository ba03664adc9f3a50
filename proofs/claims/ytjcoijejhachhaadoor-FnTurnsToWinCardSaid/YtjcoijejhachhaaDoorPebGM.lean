/-
  Walks: pebble games by numbers.
-/
import Derived.Test.YtjcoijejhachhaaDoorPlain40
import Derived.Test.YtjcoijejhachhaaDoorPebM
import Derived.Test.YtjcoijejhachhaaDoorTabM
import Derived.Test.YtjcoijejhachhaaDoorBase
namespace Go.Proofs.YtjcoijejhachhaaDoor
open Go.RowKit Go.Wk
set_option linter.unusedSimpArgs false

theorem number_full (B : Nat) (w0 : World) (hs : List (Nat × Obj)) (q c : Nat) (bs : List Bkt) (T : List (List UInt8)) (s : List UInt8) (w : World) (hT : TabOk bs T) (hlT : T.length ≤ 1000000) (hls : s.length ≤ 1000) (hw : Own B w0 (tabL 143 3 145 q c bs T ++ hs) w) :
    Calls Tryd.prog 137 [.agg #[.slice (some ⟨q, 0, none⟩) 997 997, .slice (some ⟨c, 0, none⟩) 1 1], str s].toArray w fun en w' => ∃ (n : Nat) (bs' : List Bkt) (T' : List (List UInt8)), en = .returned (.int .i64 (n : Int)) ∧ (TabTo T bs' T' 1 ∧ T'[n]? = some s ∧ (T' = T ∨ T' = T ++ [s] ∧ n = T.length)) ∧ Own B w0 (tabL 143 3 145 q c bs' T' ++ hs) w' := by
  have h997 := hash_lt s
  have hkl : hashS s < bs.length := by rw [hT.len]; exact h997
  cases hb : bs.getD (hashS s) none with
  | none =>
    refine (number_nil B w0 (blks 145 bs ++ hs) q c bs T s w hT hlT hls hb hw).mono fun en w' ⟨h1, h2, g', cap', cur', h3, h4, h5, h6⟩ => ?_
    refine ⟨T.length, bs.set (hashS s) (some (g', 1, cap', cur')), T ++ [s], h1, ⟨⟨hT.add h2 (by rw [hT.no _ h997 hb]; rfl) h3 h4 (by rw [hT.no _ h997 hb]; exact h5), List.prefix_append _ _, by simp⟩, by simp, .inr ⟨rfl, rfl⟩⟩, ?_⟩
    have hp := (blks_put (E := 145) (g := g') (m := 1) (cap := cap') (cur := cur') hkl)
    rw [blks_none hkl hb] at hp
    have e1 : ((T ++ [s]).length : Int) = (T.length : Int) + 1 := by simp
    show Own B w0 (_ :: (_, .cells #[.int .i64 ((T ++ [s]).length : Int)] _ (0, 0)) :: (blks _ _ ++ hs)) w'
    rw [e1]
    exact h6.perm ((perm_back [_] [_, _] _).trans (List.Perm.cons _ (List.Perm.cons _ ((hp.symm.append_right hs)))))
  | some b =>
    obtain ⟨g, m, cap, cur⟩ := b
    have hp := (blks_take (E := 145) hkl hb)
    have hw2 : Own B w0 ((g, .cells cur 145 (0, 0)) :: (q, .cells (bs.map bktV).toArray 143 (0, 0)) :: (c, .cells #[.int .i64 (T.length : Int)] 3 (0, 0)) :: (blks 145 (bs.set (hashS s) none) ++ hs)) w :=
      hw.perm ((List.Perm.cons _ (List.Perm.cons _ (hp.append_right hs))).trans (perm_back [_, _] [_] _))
    refine (number_some B w0 (blks 145 (bs.set (hashS s) none) ++ hs) q c bs T s w hT hlT hls g m cap cur hb hw2).mono fun en w' h => ?_
    rcases h with ⟨n, h1, h2, h3⟩ | ⟨h1, h2, g', cap', cur', h3, h4, h5, h6⟩
    · exact ⟨n, bs, T, h1, ⟨⟨hT, List.prefix_refl _, by omega⟩, h2, .inl rfl⟩, h3.perm ((perm_back [_] [_, _] _).trans (List.Perm.cons _ (List.Perm.cons _ (hp.symm.append_right hs))))⟩
    · refine ⟨T.length, bs.set (hashS s) (some (g', m + 1, cap', cur')), T ++ [s], h1, ⟨⟨hT.add h2 (by rw [(hT.yes _ h997 _ _ _ _ hb).1]) h3 h4 h5, List.prefix_append _ _, by simp⟩, by simp, .inr ⟨rfl, rfl⟩⟩, ?_⟩
      have hp2 := (blks_put (E := 145) (g := g') (m := m + 1) (cap := cap') (cur := cur') hkl)
      have e1 : ((T ++ [s]).length : Int) = (T.length : Int) + 1 := by simp
      show Own B w0 (_ :: (_, .cells #[.int .i64 ((T ++ [s]).length : Int)] _ (0, 0)) :: (blks _ _ ++ hs)) w'
      rw [e1]
      exact h6.perm ((perm_back [_] [_, _] _).trans (List.Perm.cons _ (List.Perm.cons _ (hp2.symm.append_right hs))))

set_option maxHeartbeats 400000 in
/-- spec.l7Index -/
theorem l7Index_ok (a : St) (va : Value) (xs : List Int) (w : World) (ha : a.Fine) (hva : Ints w va xs) (hP : Peb a.n.toNat xs.length xs) (hk3 : xs.length ≤ 3) :
    Calls Tryd.prog 63 [vS a, va].toArray w fun en w' => en = .returned (.int .i64 ((idxP a.n.toNat xs : Nat) : Int)) ∧ Below w.heap.size w w' := by
 refine fnStart (n := 25) (e := [(0, vS a), (1, va)]) Tryd.func63 rfl rfl rfl rfl Ends.both ?_
 have hm8 := ha.hi
 have hm1 := ha.lo
 refine Wk.seq ?_
 refine Wk.region ?_
 refine Ll.box (v := vS a) rfl rfl rfl rfl rfl fun p2 hp2 => ?_
 show Ll _ _ (Own _ _ [_]) _ _ ((2, pt_ p2) :: _) _ _ _
 refine Ll.run 1 rfl ?_
 refine Ll.nil ?_
 refine Kt.sel [1, 2] [_, _] rfl ?_
 refine Wk.seq ?_
 refine Wk.regionQ ?_
 refine Lq.run 1 rfl ?_
 refine Lq.nil ?_
 refine Kt.sel [1, 2, 5] [_, _, _] rfl ?_
 refine Wk.seq ?_
 refine Wk.seq ?_
 refine Wk.regionQ ?_
 refine Lq.run 1 rfl ?_
 refine Lq.nil ?_
 refine Kt.sel [1, 2, 5, 6] [_, _, _, _] rfl ?_
 refine Wk.block ?_
 refine Wk.loop (σ := Nat) (fun k => k ≤ xs.length) (fun k => [(1, va), (2, pt_ p2), (5, i6_ (((idxP a.n.toNat (xs.take k) : Nat) : Int))), (6, i6_ ((k : Int)))]) (fun k => Own w.heap.size w [bk_ p2 #[i6_ a.n, str a.set, str a.rel] 28]) (fun k => xs.length - k) (0) (by omega) (Sub.cons rfl (Sub.cons rfl (Sub.cons (by rfl) (Sub.sel [6] rfl)))) (fun _ h => h) ?_
 rintro k hk
 have hsm := idx_small (peb_take hP hk) (by omega) (by omega)
 have hpm := mul9 (x := a.n + 1) (show idxP a.n.toNat (xs.take k) ≤ 729 by omega) (by omega) (by omega)
 refine Wk.seq ?_
 refine Wk.seq ?_
 refine Wk.regionQ ?_
 refine Lq.run 2 rfl ?_
 refine Lq.op (v := i6_ ((xs.length : Int))) rfl rfl rfl (OpQ.lenRow rfl Tryd.runUnderlying24 rfl (ints_length _) (fun w1 hw1 => Row.own hva hw1)) ?_
 refine Lq.run 1 rfl ?_
 refine Lq.nil ?_
 refine Kt.sel [1, 2, 5, 6, 10] [_, _, _, _, _] rfl ?_
 refine Wk.cond (b := decide (((k : Int)) < ((xs.length : Int)))) rfl (fun h10 => ?_) (fun h10 => ?_)
 ·
  replace h10 := of_decide_eq_true h10
  have hkl : k < xs.length := by omega
  have hxa := peb_at hP hkl
  have hxa2 : -1 ≤ xs.getD ((k : Int)).toNat 0 ∧ xs.getD ((k : Int)).toNat 0 < ((a.n.toNat : Nat) : Int) := hxa
  refine Wk.skip ?_
  refine Kt.sel [1, 2, 5, 6] [_, _, _, _] rfl ?_
  refine Wk.seq ?_
  refine Wk.block ?_
  refine Wk.regionD Base.mixed (fun _ h => h.drawn) (by kernel_rfl) ?_
  refine Lq.run 1 rfl ?_
  refine Lq.op rfl rfl rfl (OpQ.fieldAddr rfl Tryd.runUnderlying28 rfl Tryd.sizeOf3 rfl rfl) ?_
  refine Lq.op rfl rfl rfl (OpQ.loadOwn 0 rfl Tryd.isAgg3 rfl rfl rfl) ?_
  refine Lq.op rfl rfl rfl (OpQ.add rfl rfl rfl (by omega) (by omega)) ?_
  refine Lq.op rfl rfl rfl (OpQ.mul rfl rfl rfl (by omega) (by omega)) ?_
  refine Lq.run 2 rfl ?_
  refine Lq.op (v := .pointer (some (sAt va ((k : Int))))) rfl rfl rfl (OpQ.atRow rfl Tryd.runUnderlying24 Tryd.sizeOf3 rfl rfl (by omega) (by rw [ints_length]; omega) (fun w1 hw1 => Row.own hva hw1)) ?_
  refine Lq.op (v := i6_ (xs.getD (((k : Int)).toNat) 0)) rfl rfl rfl (OpQ.load1 rfl Tryd.isAgg3 rfl (fun w1 hw1 => Ints.cell (Row.own hva hw1) (by omega) (by omega))) ?_
  refine Lq.op rfl rfl rfl (OpQ.add rfl rfl rfl (by omega) (by omega)) ?_
  refine Lq.op rfl rfl rfl (OpQ.add rfl rfl rfl (by omega) (by omega)) ?_
  refine Lq.run 1 rfl ?_
  refine Lq.nil ?_
  refine Kt.sel [1, 2, 5, 6] [_, _, _, _] rfl ?_
  refine Wk.regionQ ?_
  refine Lq.run 1 rfl ?_
  refine Lq.op rfl rfl rfl (OpQ.add rfl rfl rfl (by omega) (by omega)) ?_
  refine Lq.run 1 rfl ?_
  refine Lq.nil ?_
  refine Kt.again (k + 1) (by omega) (by omega) (Sub.cons rfl (Sub.cons rfl (Sub.cons (by rw [idx_take hkl hxa.1, show ((a.n.toNat : Nat) : Int) = a.n from by omega]; rfl) (Sub.sel [6] rfl)))) (fun _ h => h)
 ·
  replace h10 := of_decide_eq_false h10
  have hke : xs.take k = xs := List.take_of_length_le (by omega)
  refine Wk.exit rfl ?_
  refine Kt.sel [5] [_] rfl ?_
  refine Wk.seq ?_
  refine Wk.regionQ ?_
  refine Lq.run 2 rfl ?_
  refine Lq.nil ?_
  refine Kt.sel [4] [_] rfl ?_
  refine Wk.ret (Kt.end1 rfl rfl fun w' hw => ?_)
  -- ret 0: i6_ (((idxP a.n.toNat (xs.take k) : Nat) : Int))
  exact ⟨ret_i (by rw [hke]), hw.below⟩

set_option maxHeartbeats 400000 in
/-- spec.l7Count -/
theorem l7Count_ok (a : St) (k : Nat) (w : World) (ha : a.Fine) (hk3 : k ≤ 3) :
    Calls Tryd.prog 142 [vS a, i6_ ((k : Int))].toArray w fun en w' => en = .returned (.int .i64 (((a.n.toNat + 1) ^ k : Nat) : Int)) ∧ Below w.heap.size w w' := by
 refine fnStart (n := 18) (e := [(0, vS a), (1, i6_ ((k : Int)))]) Tryd.func142 rfl rfl rfl rfl Ends.both ?_
 have hm8 := ha.hi
 have hm1 := ha.lo
 refine Wk.seq ?_
 refine Wk.region ?_
 refine Ll.box (v := vS a) rfl rfl rfl rfl rfl fun p2 hp2 => ?_
 show Ll _ _ (Own _ _ [_]) _ _ ((2, pt_ p2) :: _) _ _ _
 refine Ll.run 1 rfl ?_
 refine Ll.nil ?_
 refine Kt.sel [1, 2] [_, _] rfl ?_
 refine Wk.seq ?_
 refine Wk.regionQ ?_
 refine Lq.run 1 rfl ?_
 refine Lq.nil ?_
 refine Kt.sel [1, 2, 5] [_, _, _] rfl ?_
 refine Wk.seq ?_
 refine Wk.seq ?_
 refine Wk.regionQ ?_
 refine Lq.run 1 rfl ?_
 refine Lq.nil ?_
 refine Kt.sel [1, 2, 5, 6] [_, _, _, _] rfl ?_
 refine Wk.block ?_
 refine Wk.loop (σ := Nat) (fun j => j ≤ k) (fun j => [(1, i6_ ((k : Int))), (2, pt_ p2), (5, i6_ ((((a.n.toNat + 1) ^ j : Nat) : Int))), (6, i6_ ((j : Int)))]) (fun j => Own w.heap.size w [bk_ p2 #[i6_ a.n, str a.set, str a.rel] 28]) (fun j => k - j) (0) (by omega) (Sub.cons rfl (Sub.cons rfl (Sub.cons (by rfl) (Sub.sel [6] rfl)))) (fun _ h => h) ?_
 rintro j hj
 have hpw := pow9 (size := a.n.toNat) (k := j) (by omega) (by omega)
 have hpm := mul9 (x := a.n + 1) hpw (by omega) (by omega)
 refine Wk.seq ?_
 refine Wk.seq ?_
 refine Wk.regionQ ?_
 refine Lq.run 3 rfl ?_
 refine Lq.nil ?_
 refine Kt.sel [1, 2, 5, 6, 9] [_, _, _, _, _] rfl ?_
 refine Wk.cond (b := decide (((j : Int)) < ((k : Int)))) rfl (fun h9 => ?_) (fun h9 => ?_)
 ·
  replace h9 := of_decide_eq_true h9
  refine Wk.skip ?_
  refine Kt.sel [1, 2, 5, 6] [_, _, _, _] rfl ?_
  refine Wk.seq ?_
  refine Wk.block ?_
  refine Wk.regionQ ?_
  refine Lq.run 1 rfl ?_
  refine Lq.op rfl rfl rfl (OpQ.fieldAddr rfl Tryd.runUnderlying28 rfl Tryd.sizeOf3 rfl rfl) ?_
  refine Lq.op rfl rfl rfl (OpQ.loadOwn 0 rfl Tryd.isAgg3 rfl rfl rfl) ?_
  refine Lq.op rfl rfl rfl (OpQ.add rfl rfl rfl (by omega) (by omega)) ?_
  refine Lq.op rfl rfl rfl (OpQ.mul rfl rfl rfl (by omega) (by omega)) ?_
  refine Lq.run 1 rfl ?_
  refine Lq.nil ?_
  refine Kt.sel [1, 2, 5, 6] [_, _, _, _] rfl ?_
  refine Wk.regionQ ?_
  refine Lq.run 1 rfl ?_
  refine Lq.op rfl rfl rfl (OpQ.add rfl rfl rfl (by omega) (by omega)) ?_
  refine Lq.run 1 rfl ?_
  refine Lq.nil ?_
  refine Kt.again (j + 1) (by omega) (by omega) (Sub.cons rfl (Sub.cons rfl (Sub.cons (by rw [pow_cast1 (by omega)]; rfl) (Sub.sel [6] rfl)))) (fun _ h => h)
 ·
  replace h9 := of_decide_eq_false h9
  refine Wk.exit rfl ?_
  refine Kt.sel [5] [_] rfl ?_
  refine Wk.seq ?_
  refine Wk.regionQ ?_
  refine Lq.run 2 rfl ?_
  refine Lq.nil ?_
  refine Kt.sel [4] [_] rfl ?_
  refine Wk.ret (Kt.end1 rfl rfl fun w' hw => ?_)
  -- ret 0: i6_ ((((a.n.toNat + 1) ^ j : Nat) : Int))
  exact ⟨ret_i (by rw [show j = k from by omega]), hw.below⟩

set_option maxHeartbeats 400000 in
/-- spec.l7Put -/
theorem l7Put_ok (va : Value) (xs : List Int) (i : Nat) (x : Int) (w : World) (hva : Ints w va xs) (hi : i < xs.length) (hs : xs.length ≤ 1000) :
    Calls Tryd.prog 64 [va, i6_ ((i : Int)), i6_ x].toArray w fun en w' => ∃ v, en = .returned v ∧ Below w.heap.size w w' ∧ NewRow w.heap.size 3 1 w' v xs.length (ints (xs.set i x)) := by
 refine fnStart (n := 16) (e := [(0, va), (1, i6_ ((i : Int))), (2, i6_ x)]) Tryd.func64 rfl rfl rfl rfl Ends.both ?_
 refine Wk.seq ?_
 refine Wk.regionQ ?_
 refine Lq.run 1 rfl ?_
 refine Lq.nil ?_
 refine Kt.sel [0, 1, 2] [_, _, _] rfl ?_
 refine Wk.seq ?_
 refine Wk.region ?_
 refine Ll.slice (xs := []) (vs := []) Base.elem24 rfl rfl rfl rfl rfl rfl (by decide) rfl fun p8 hp8 => ?_
 refine Ll.run 1 rfl ?_
 refine Ll.appendInts (xs := []) (ys := xs) Base.elem24 0 rfl rfl rfl rfl rfl rfl rfl rfl (by decide) rfl (fun w1 hw1 => (Row.own hva hw1)) ((xs).length) (by first | (simp; done) | (simp; omega)) (by first | (simp; done) | (simp; omega) | omega) fun p10 cap10 cur10 hp10 hcp10 hlp10 htp10 => ?_
 show Ll _ _ (Own _ _ [_]) _ _ ((10, sl_ p10 (((xs).length)) cap10) :: _) _ _ _
 refine Ll.run 1 rfl ?_
 refine Ll.nil ?_
 refine Kt.sel [1, 2, 7] [_, _, _] rfl ?_
 refine Wk.seq ?_
 refine Wk.region ?_
 refine Ll.run 3 rfl ?_
 refine Ll.op (v := pf_ p10 (0 + ((i : Int)).toNat)) rfl rfl rfl (OpQ.indexAddr1 rfl Tryd.runUnderlying24 Tryd.sizeOf3 rfl rfl (by omega) (by omega)) ?_
 refine Ll.store1 (v := i6_ x) (hs' := [bk_ p10 ((cur10.setIfInBounds (((i : Int)).toNat) (i6_ x))) 3]) 0 rfl rfl rfl rfl rfl rfl Tryd.sizeOf3 rfl (by rw [hcp10]; omega) (by simp only [Nat.zero_add]; rfl) ?_
 refine Ll.nil ?_
 refine Kt.sel [7] [_] rfl ?_
 refine Wk.seq ?_
 refine Wk.regionQ ?_
 refine Lq.run 2 rfl ?_
 refine Lq.nil ?_
 refine Kt.sel [6] [_] rfl ?_
 refine Wk.ret (Kt.end1 rfl rfl fun w' hw => ?_)
 -- ret 0: sl_ p10 (((xs).length)) cap10
 exact ⟨_, rfl, hw.below, hw.newRow (i := 0) (n := _) rfl (by simpa using hcp10) (by simpa using hlp10) (by simpa using set_takeI (by simpa using htp10))⟩

set_option maxHeartbeats 400000 in
/-- spec.l7At -/
theorem l7At_ok (a : St) (n k : Nat) (w : World) (ha : a.Fine) (hn : n ≤ 1000000) (hk3 : k ≤ 3) :
    Calls Tryd.prog 144 [vS a, i6_ ((n : Int)), i6_ ((k : Int))].toArray w fun en w' => ∃ v, en = .returned v ∧ Below w.heap.size w w' ∧ NewRow w.heap.size 3 1 w' v k (ints (atP a.n.toNat k n)) := by
 refine fnStart (n := 32) (e := [(0, vS a), (1, i6_ ((n : Int))), (2, i6_ ((k : Int)))]) Tryd.func144 rfl rfl rfl rfl Ends.both ?_
 have hm8 := ha.hi
 have hm1 := ha.lo
 have hsz : a.n + 1 = ((a.n.toNat + 1 : Nat) : Int) := by omega
 refine Wk.seq ?_
 refine Wk.region ?_
 refine Ll.box (v := vS a) rfl rfl rfl rfl rfl fun p3 hp3 => ?_
 show Ll _ _ (Own _ _ [_]) _ _ ((3, pt_ p3) :: _) _ _ _
 refine Ll.run 1 rfl ?_
 refine Ll.nil ?_
 refine Kt.sel [1, 2, 3] [_, _, _] rfl ?_
 refine Wk.seq ?_
 refine Wk.region ?_
 refine Ll.run 1 rfl ?_
 refine Ll.make (k := k) Base.elem24 Tryd.zeroValue3 rfl rfl rfl rfl rfl (by omega) fun p10 hp10 => ?_
 rw [show madeCells (Value.cells (i6_ 0)) (k * 1) = (ints (List.replicate k 0)).toArray from made_ints _]
 refine Ll.run 1 rfl ?_
 refine Ll.nil ?_
 refine Kt.sel [1, 2, 3, 7] [_, _, _, _] rfl ?_
 refine Wk.seq ?_
 refine Wk.seq ?_
 refine Wk.regionQ ?_
 refine Lq.run 1 rfl ?_
 refine Lq.op rfl rfl rfl (OpQ.sub rfl rfl rfl (by omega) (by omega)) ?_
 refine Lq.run 1 rfl ?_
 refine Lq.nil ?_
 refine Kt.sel [1, 3, 7, 8] [_, _, _, _] rfl ?_
 refine Wk.block ?_
 refine Wk.loop (σ := Nat × Nat × List Int) (fun ⟨j, N, T⟩ => j ≤ k ∧ N ≤ n ∧ atP a.n.toNat k n = atP a.n.toNat j N ++ T ∧ T.length + j = k) (fun ⟨j, N, T⟩ => [(1, i6_ ((N : Int))), (3, pt_ p3), (7, sl_ p10 k k), (8, i6_ ((j : Int) - 1))]) (fun ⟨j, N, T⟩ => Own w.heap.size w [bk_ p10 ((ints (List.replicate j 0 ++ T)).toArray) 3, bk_ p3 #[i6_ a.n, str a.set, str a.rel] 28]) (fun ⟨j, N, T⟩ => j) ((k, n, [])) ⟨by omega, Nat.le_refl _, by simp, by simp⟩ (Sub.sel [1, 3, 7, 8] rfl) (fun _ h => by dsimp only; rw [List.append_nil]; exact h) ?_
 rintro ⟨j, N, T⟩ ⟨hj, hN, ho, hTl⟩
 dsimp only
 refine Wk.seq ?_
 refine Wk.seq ?_
 refine Wk.regionQ ?_
 refine Lq.run 2 rfl ?_
 refine Lq.nil ?_
 refine Kt.sel [1, 3, 7, 8, 14] [_, _, _, _, _] rfl ?_
 refine Wk.cond (b := decide ((0 : Int) ≤ ((j : Int) - 1))) rfl (fun h14 => ?_) (fun h14 => ?_)
 ·
  replace h14 := of_decide_eq_true h14
  have hj0 : 0 < j := by omega
  have hmd := Nat.mod_lt N (show 0 < a.n.toNat + 1 by omega)
  have hdv := Nat.div_le_self N (a.n.toNat + 1)
  refine Wk.skip ?_
  refine Kt.sel [1, 3, 7, 8] [_, _, _, _] rfl ?_
  refine Wk.seq ?_
  refine Wk.block ?_
  refine Wk.seq ?_
  refine Wk.region ?_
  refine Ll.run 3 rfl ?_
  refine Ll.op rfl rfl rfl (OpQ.fieldAddr rfl Tryd.runUnderlying28 rfl Tryd.sizeOf3 rfl rfl) ?_
  refine Ll.op rfl rfl rfl (OpQ.loadOwn 1 rfl Tryd.isAgg3 rfl rfl rfl) ?_
  refine Ll.op rfl rfl rfl (OpQ.add rfl rfl rfl (by omega) (by omega)) ?_
  refine Ll.op (v := i6_ (((N % (a.n.toNat + 1) : Nat) : Int))) rfl rfl rfl (OpQ.cast (by congr 1; rw [hsz]; rfl) (OpQ.rem rfl rfl rfl (by omega) (by omega))) ?_
  refine Ll.op rfl rfl rfl (OpQ.sub rfl rfl rfl (by omega) (by omega)) ?_
  refine Ll.op (v := pf_ p10 (j - 1)) rfl rfl rfl (OpQ.cast (by rw [show 0 + ((j : Int) - 1).toNat = j - 1 from by omega]) (OpQ.indexAddr1 rfl Tryd.runUnderlying24 Tryd.sizeOf3 rfl rfl (by omega) (by omega))) ?_
  refine Ll.store1 (v := i6_ ((((N % (a.n.toNat + 1) : Nat) : Int)) - (1 : Int))) (hs' := [bk_ p10 ((ints ((List.replicate j 0 ++ T).set (j - 1) ((((N % (a.n.toNat + 1) : Nat) : Int)) - (1 : Int)))).toArray) 3, _]) 0 rfl rfl rfl rfl rfl rfl Tryd.sizeOf3 rfl (by show _ < (ints (List.replicate j 0 ++ T)).length; rw [ints_length, List.length_append, List.length_replicate]; omega) (by first | (rw [ints_set]; rfl) | (simp only [Nat.zero_add]; rw [ints_set]; rfl)) ?_
  refine Ll.nil ?_
  refine Kt.sel [1, 3, 7, 8] [_, _, _, _] rfl ?_
  refine Wk.regionQ ?_
  refine Lq.run 1 rfl ?_
  refine Lq.op rfl rfl rfl (OpQ.fieldAddr rfl Tryd.runUnderlying28 rfl Tryd.sizeOf3 rfl rfl) ?_
  refine Lq.op rfl rfl rfl (OpQ.loadOwn 1 rfl Tryd.isAgg3 rfl rfl rfl) ?_
  refine Lq.op rfl rfl rfl (OpQ.add rfl rfl rfl (by omega) (by omega)) ?_
  refine Lq.op (v := i6_ (((N / (a.n.toNat + 1) : Nat) : Int))) rfl rfl rfl (OpQ.cast (by congr 1; rw [hsz]; rfl) (OpQ.quo rfl rfl rfl (by omega) (by omega) (by omega))) ?_
  refine Lq.run 1 rfl ?_
  refine Lq.nil ?_
  refine Kt.sel [1, 3, 7, 8] [_, _, _, _] rfl ?_
  refine Wk.regionQ ?_
  refine Lq.run 1 rfl ?_
  refine Lq.op rfl rfl rfl (OpQ.sub rfl rfl rfl (by omega) (by omega)) ?_
  refine Lq.run 1 rfl ?_
  refine Lq.nil ?_
  refine Kt.again ((j - 1, N / (a.n.toNat + 1), (((N % (a.n.toNat + 1) : Nat) : Int) - 1) :: T)) ⟨by omega, Nat.le_trans (Nat.div_le_self _ _) hN, by rw [ho, atP_step (by omega)]; simp, by rw [List.length_cons]; omega⟩ (by dsimp only; omega) (Sub.cons rfl (Sub.cons rfl (Sub.cons rfl (Sub.cons (by dsimp only; rw [show ((j - 1 : Nat) : Int) - 1 = (j : Int) - 1 - (1 : Int) from by omega]; rfl) Sub.nil)))) (fun _ h => by rw [← rep_set2 (by omega)]; exact h)
 ·
  replace h14 := of_decide_eq_false h14
  refine Wk.exit rfl ?_
  refine Kt.sel [7] [_] rfl ?_
  refine Wk.seq ?_
  refine Wk.regionQ ?_
  refine Lq.run 2 rfl ?_
  refine Lq.nil ?_
  refine Kt.sel [6] [_] rfl ?_
  refine Wk.ret (Kt.end1 rfl rfl fun w' hw => ?_)
  -- ret 0: sl_ p10 k k
  obtain rfl : j = 0 := by omega
  have hT : atP a.n.toNat k n = T := by rw [ho]; rfl
  exact ⟨_, rfl, hw.below, by rw [hT]; exact hw.newRow (i := 0) (n := _) rfl (row_full_size (by omega)) (Nat.le_refl _) (row_full (by omega))⟩

set_option maxHeartbeats 400000 in
/-- spec.l7Start -/
theorem l7Start_ok (B : Nat) (w0 : World) (hs : List (Nat × Obj)) (q c : Nat) (bs : List Bkt) (T : List (List UInt8)) (a : St) (k : Nat) (w : World) (hT : TabOk bs T) (hv : validB a = true) (h1 : 1 ≤ k) (hk3 : k ≤ 3) (hcap : T.length + ((a.n.toNat + 1) ^ k : Nat) ≤ 1000000) (hw : Own B w0 (tabL 143 3 145 q c bs T ++ hs) w) :
    Calls Tryd.prog 109 [.agg #[sl_ q 997 997, sl_ c 1 1], vS a, i6_ ((k : Int))].toArray w fun en w' => ∃ (g : Nat) (R' : List Int) (bs' : List Bkt) (T' : List (List UInt8)), en = .returned (.slice (some ⟨g, 0, none⟩) ((a.n.toNat + 1) ^ k : Nat) ((a.n.toNat + 1) ^ k : Nat)) ∧ (TabTo T bs' T' ((a.n.toNat + 1) ^ k : Nat) ∧ NumOf T' (text0 a k) R' ((a.n.toNat + 1) ^ k : Nat) ∧ Onto T T' R' ((a.n.toNat + 1) ^ k : Nat)) ∧ Own B w0 ((g, .cells (ints R').toArray 3 (0, 0)) :: (tabL 143 3 145 q c bs' T' ++ hs)) w' := by
 refine fnStartC (Own B w0 (tabL 143 3 145 q c bs T ++ hs)) (n := 31) (e := [(0, .agg #[sl_ q 997 997, sl_ c 1 1]), (1, vS a), (2, i6_ ((k : Int)))]) Tryd.func109 rfl rfl rfl rfl Ends.both hw ?_
 have ha := validB_fine hv
 have hm8 := ha.hi
 have hm1 := ha.lo
 have hm8n : a.n.toNat ≤ 8 := by omega
 have hp9 := pow9 (size := a.n.toNat) (k := k) (by omega) hk3
 refine Wk.seq ?_
 refine Wk.region ?_
 refine Ll.box (v := .agg #[sl_ q 997 997, sl_ c 1 1]) rfl rfl rfl rfl rfl fun p3 hp3 => ?_
 show Ll _ _ (Own _ _ (_ :: _ :: _ :: ((blks 145 bs ++ hs)))) _ _ ((3, pt_ p3) :: _) _ _ _
 refine Ll.box (v := vS a) rfl rfl rfl rfl rfl fun p4 hp4 => ?_
 show Ll _ _ (Own _ _ (_ :: _ :: _ :: _ :: ((blks 145 bs ++ hs)))) _ _ ((4, pt_ p4) :: _) _ _ _
 refine Ll.run 1 rfl ?_
 refine Ll.nil ?_
 refine Kt.sel [2, 3, 4] [_, _, _] rfl ?_
 refine Wk.seq ?_
 refine Wk.region ?_
 refine Ll.op rfl rfl rfl (OpQ.loadBox (cs := #[i6_ a.n, str a.set, str a.rel]) 0 rfl Tryd.isAgg28 rfl rfl Tryd.sizeOf28) ?_
 refine Ll.run 1 rfl ?_
 refine Ll.op (v := i6_ ((((a.n.toNat + 1) ^ k : Nat) : Int))) rfl rfl rfl (OpQ.call rfl Tryd.call142 rfl Own.stable (fun w1 hw1 => l7Count_ok a k w1 ha hk3)) ?_
 refine Ll.make (k := ((a.n.toNat + 1) ^ k : Nat)) Base.elem24 Tryd.zeroValue3 rfl rfl rfl rfl rfl (by omega) fun p12 hp12 => ?_
 rw [show madeCells (Value.cells (i6_ 0)) (((a.n.toNat + 1) ^ k : Nat) * 1) = (ints (List.replicate (((a.n.toNat + 1) ^ k : Nat)) 0)).toArray from made_ints _]
 refine Ll.run 1 rfl ?_
 refine Ll.nil ?_
 refine Kt.sel [2, 3, 4, 7] [_, _, _, _] rfl ?_
 refine Wk.seq ?_
 refine Wk.seq ?_
 refine Wk.regionQ ?_
 refine Lq.run 1 rfl ?_
 refine Lq.nil ?_
 refine Kt.sel [2, 3, 4, 7, 8] [_, _, _, _, _] rfl ?_
 refine Wk.block ?_
 refine Wk.loop (σ := Nat × List Bkt × List (List UInt8) × List Int) (fun ⟨n, bs1, T1, R'⟩ => n ≤ ((a.n.toNat + 1) ^ k : Nat) ∧ TabTo T bs1 T1 n ∧ NumTo T1 (text0 a k) R' ((a.n.toNat + 1) ^ k : Nat) n ∧ Onto T T1 R' n) (fun ⟨n, bs1, T1, R'⟩ => [(2, i6_ ((k : Int))), (3, pt_ p3), (4, pt_ p4), (7, sl_ p12 (((a.n.toNat + 1) ^ k : Nat)) (((a.n.toNat + 1) ^ k : Nat))), (8, i6_ ((n : Int)))]) (fun ⟨n, bs1, T1, R'⟩ => Own B w0 (bk_ p12 ((ints R').toArray) 3 :: bk_ p4 #[i6_ a.n, str a.set, str a.rel] 28 :: bk_ p3 #[sl_ q 997 997, sl_ c 1 1] 98 :: bk_ q ((bs1.map bktV).toArray) 143 :: bk_ c #[i6_ ((T1.length : Int))] 3 :: ((blks 145 bs1 ++ hs)))) (fun ⟨n, bs1, T1, R'⟩ => ((a.n.toNat + 1) ^ k : Nat) - n) ((0, bs, T, List.replicate ((a.n.toNat + 1) ^ k : Nat) 0)) ⟨by omega, ⟨hT, List.prefix_refl _, by omega⟩, NumTo.zero _ _ _, Onto.zero _ _⟩ (Sub.sel [2, 3, 4, 7, 8] rfl) (fun _ h => h) ?_
 rintro ⟨n, bs1, T1, R'⟩ ⟨hn, hTT, hN, hO⟩
 dsimp only
 have hTl := hTT.len
 have hRl := hN.1
 refine Wk.seq ?_
 refine Wk.seq ?_
 refine Wk.regionQ ?_
 refine Lq.run 2 rfl ?_
 refine Lq.op rfl rfl rfl (OpQ.lenS rfl Tryd.runUnderlying24 rfl) ?_
 refine Lq.run 1 rfl ?_
 refine Lq.nil ?_
 refine Kt.sel [2, 3, 4, 7, 8, 16] [_, _, _, _, _, _] rfl ?_
 refine Wk.cond (b := decide (((n : Int)) < ((((a.n.toNat + 1) ^ k : Nat) : Int)))) rfl (fun h16 => ?_) (fun h16 => ?_)
 ·
  replace h16 := of_decide_eq_true h16
  have Pa := peb_pebbles hv h1 hk3 n
  have hPl := atP_len a.n.toNat k n
  refine Wk.skip ?_
  refine Kt.sel [2, 3, 4, 7, 8] [_, _, _, _, _] rfl ?_
  refine Wk.seq ?_
  refine Wk.block ?_
  refine Wk.regionS (S := Own B w0 [bk_ p4 #[i6_ a.n, str a.set, str a.rel] 28, bk_ p3 #[sl_ q 997 997, sl_ c 1 1] 98]) [(0, true), (1, true), (2, true), (3, true), (4, true), (5, true), (6, true), (7, false), (8, false), (9, false), (10, true), (11, false)] Base.mixed (fun _ h => h.drawn) (by kernel_rfl) ?_
  refine Ld.run 2 rfl (pk [1, 2] rfl rfl) ?_
  refine Ld.take rfl rfl rfl rfl rfl (OpQ.loadBox (cs := #[sl_ q 997 997, sl_ c 1 1]) 1 rfl Tryd.isAgg98 rfl rfl Tryd.sizeOf98) (pk [1, 2] rfl rfl) ?_
  refine Ld.take rfl rfl rfl rfl rfl (OpQ.loadBox (cs := #[i6_ a.n, str a.set, str a.rel]) 0 rfl Tryd.isAgg28 rfl rfl Tryd.sizeOf28) (pk [1, 2] rfl rfl) ?_
  refine Ld.take rfl rfl rfl rfl rfl (OpQ.loadBox (cs := #[i6_ a.n, str a.set, str a.rel]) 0 rfl Tryd.isAgg28 rfl rfl Tryd.sizeOf28) (pk [1, 2] rfl rfl) ?_
  refine Ld.run 2 rfl (pk [1, 2] rfl rfl) ?_
  refine Ld.loud rfl ?_
  refine Ll.callRow (xs := [.tmp 23, .tmp 24, .tmp 25]) (m := k) (vs := ints (atP a.n.toNat k n)) (el := 3) (size := 1) rfl rfl rfl rfl Tryd.call144 rfl (fun w1 hw1 => l7At_ok a n k w1 ha (by omega) hk3) fun p26 cap26 cur26 hp26 hcp26 hlp26 htp26 => ?_
  refine Ll.nil (Ld.joint (pk [2, 3] rfl rfl) ?_)
  refine Ld.loud rfl ?_
  refine Ll.op (v := str (signT (atP a.n.toNat k n) (atP a.n.toNat k n).length ++ atomBits a (placed (atP a.n.toNat k n) (atP a.n.toNat k n).length))) rfl rfl rfl (OpQ.call rfl Tryd.call143 rfl Own.stable (fun w1 hw1 => l7Atoms_ok a (sl_ p26 k cap26) (atP a.n.toNat k n) w1 Pa (Own.row hw1 (i := 0) rfl (by simpa using htp26) (by simp) hlp26))) ?_
  refine Ll.nil (Ld.joint (pk [2, 3] rfl rfl) ?_)
  refine Ld.loud rfl ?_
  refine Ll.callTab (S := 143) (I := 3) (E := 145) (q := q) (c := c) (bs := bs1) (T := T1) (hs := hs) (ok := fun m bs' T' => TabTo T1 bs' T' 1 ∧ T'[m]? = some (signT (atP a.n.toNat k n) (atP a.n.toNat k n).length ++ atomBits a (placed (atP a.n.toNat k n) (atP a.n.toNat k n).length)) ∧ (T' = T1 ∨ T' = T1 ++ [(signT (atP a.n.toNat k n) (atP a.n.toNat k n).length ++ atomBits a (placed (atP a.n.toNat k n) (atP a.n.toNat k n).length))] ∧ m = T1.length)) (xs := [.tmp 21, .tmp 27]) (vs := [.agg #[sl_ q 997 997, sl_ c 1 1], str (signT (atP a.n.toNat k n) (atP a.n.toNat k n).length ++ atomBits a (placed (atP a.n.toNat k n) (atP a.n.toNat k n).length))]) [bk_ p26 cur26 3, bk_ p12 ((ints R').toArray) 3, bk_ p4 #[i6_ a.n, str a.set, str a.rel] 28, bk_ p3 #[sl_ q 997 997, sl_ c 1 1] 98] rfl rfl rfl rfl Tryd.call137 rfl (fun w1 hw1 => number_full B w0 ([bk_ p26 cur26 3, bk_ p12 ((ints R').toArray) 3, bk_ p4 #[i6_ a.n, str a.set, str a.rel] 28, bk_ p3 #[sl_ q 997 997, sl_ c 1 1] 98] ++ hs) q c bs1 T1 (signT (atP a.n.toNat k n) (atP a.n.toNat k n).length ++ atomBits a (placed (atP a.n.toNat k n) (atP a.n.toNat k n).length)) w1 hTT.ok (by omega) (by rw [List.length_append, signT_length, atP_len]; have := placed_le (atP a.n.toNat k n) k; have h9 := bits_small (a := a) (xs := placed (atP a.n.toNat k n) k) (i := (placed (atP a.n.toNat k n) k).length) (by omega); unfold atomBits; omega) hw1) fun m bs_ T_ hKm => ?_
  show Ll _ _ (Own _ _ (_ :: _ :: _ :: _ :: _ :: _ :: ((blks 145 bs_ ++ hs)))) _ _ ((28, i6_ ((m : Int))) :: _) _ _ _
  refine Ll.nil (Ld.joint (pk [2, 3] rfl rfl) ?_)
  refine Ld.take (v := pf_ p12 (0 + ((n : Int)).toNat)) rfl rfl rfl rfl rfl (OpQ.indexAddr1 rfl Tryd.runUnderlying24 Tryd.sizeOf3 rfl rfl (by omega) (by omega)) (pk [2, 3] rfl rfl) ?_
  refine Ld.loud rfl ?_
  refine Ll.store1 (v := i6_ ((m : Int))) (hs' := (_ :: bk_ p12 ((ints (R'.set (((n : Int)).toNat) ((m : Int)))).toArray) 3 :: _ :: _ :: _ :: _ :: ((blks 145 bs_ ++ hs)))) 1 rfl rfl rfl rfl rfl rfl Tryd.sizeOf3 rfl (by show _ < (ints R').length; rw [ints_length, hRl]; omega) (by first | (rw [ints_set]; rfl) | (simp only [Nat.zero_add]; rw [ints_set]; rfl)) ?_
  refine Ll.nil (Ld.joint (pk [2, 3] rfl rfl) ?_)
  refine Ld.nil ?_
  refine Kt.sel [2, 3, 4, 7, 8] [_, _, _, _, _] rfl ?_
  refine Wk.regionQ ?_
  refine Lq.run 1 rfl ?_
  refine Lq.op rfl rfl rfl (OpQ.add rfl rfl rfl (by omega) (by omega)) ?_
  refine Lq.run 1 rfl ?_
  refine Lq.nil ?_
  refine Kt.again ((n + 1, bs_, T_, R'.set n (m : Int))) ⟨by omega, hTT.trans hKm.1 (by omega), hN.step hKm.1.pre hKm.2.1 (by omega), hO.step hKm.2.2 (by omega)⟩ (by omega) (Sub.sel [2, 3, 4, 7, 8] rfl) (fun _ h => h.sub (List.Sublist.cons _ (List.Sublist.cons_cons _ (List.Sublist.cons_cons _ (List.Sublist.cons_cons _ (List.Sublist.cons_cons _ (List.Sublist.cons_cons _ (List.Sublist.refl _))))))))
 ·
  replace h16 := of_decide_eq_false h16
  refine Wk.exit rfl ?_
  refine Kt.sel [7] [_] rfl ?_
  refine Wk.seq ?_
  refine Wk.regionQ ?_
  refine Lq.run 2 rfl ?_
  refine Lq.nil ?_
  refine Kt.sel [6] [_] rfl ?_
  refine Wk.ret (Kt.end1 rfl rfl fun w' hw => ?_)
  -- ret 0: sl_ p12 (((a.n.toNat + 1) ^ k : Nat)) (((a.n.toNat + 1) ^ k : Nat))
  obtain rfl : n = ((a.n.toNat + 1) ^ k : Nat) := by omega
  exact ⟨p12, R', bs1, T1, rfl, ⟨hTT, hN.all, hO⟩, hw.sub (List.Sublist.cons_cons _ (List.Sublist.cons _ (List.Sublist.cons _ (List.Sublist.cons_cons _ (List.Sublist.cons_cons _ (List.Sublist.refl _))))))⟩

set_option maxHeartbeats 400000 in
/-- spec.l7Round -/
theorem l7Round_ok (B : Nat) (w0 : World) (hs : List (Nat × Obj)) (q c : Nat) (bs : List Bkt) (T : List (List UInt8)) (a : St) (vr : Value) (R : List Int) (k : Nat) (w : World) (hvr : ∀ w, Own B w0 hs w → Ints w vr R) (hRN : R.length = ((a.n.toNat + 1) ^ k : Nat)) (hRs : ∀ i : Nat, 0 ≤ R.getD i 0 ∧ R.getD i 0 < 1000000) (hT : TabOk bs T) (hv : validB a = true) (h1 : 1 ≤ k) (hk3 : k ≤ 3) (hcap : T.length + ((a.n.toNat + 1) ^ k : Nat) ≤ 1000000) (hw : Own B w0 (tabL 143 3 145 q c bs T ++ hs) w) :
    Calls Tryd.prog 110 [.agg #[sl_ q 997 997, sl_ c 1 1], vS a, vr, i6_ ((k : Int))].toArray w fun en w' => ∃ (g : Nat) (R' : List Int) (bs' : List Bkt) (T' : List (List UInt8)), en = .returned (.slice (some ⟨g, 0, none⟩) R.length R.length) ∧ (TabTo T bs' T' ((a.n.toNat + 1) ^ k : Nat) ∧ NumOf T' (textS a R k) R' ((a.n.toNat + 1) ^ k : Nat) ∧ Onto T T' R' ((a.n.toNat + 1) ^ k : Nat)) ∧ Own B w0 ((g, .cells (ints R').toArray 3 (0, 0)) :: (tabL 143 3 145 q c bs' T' ++ hs)) w' := by
 refine fnStartC (Own B w0 (tabL 143 3 145 q c bs T ++ hs)) (n := 82) (e := [(0, .agg #[sl_ q 997 997, sl_ c 1 1]), (1, vS a), (2, vr), (3, i6_ ((k : Int)))]) Tryd.func110 rfl rfl rfl rfl Ends.both hw ?_
 have ha := validB_fine hv
 have hm8 := ha.hi
 have hm1 := ha.lo
 have hm8n : a.n.toNat ≤ 8 := by omega
 have hp9 := pow9 (size := a.n.toNat) (k := k) (by omega) hk3
 refine Wk.seq ?_
 refine Wk.region ?_
 refine Ll.box (v := .agg #[sl_ q 997 997, sl_ c 1 1]) rfl rfl rfl rfl rfl fun p4 hp4 => ?_
 show Ll _ _ (Own _ _ (_ :: _ :: _ :: ((blks 145 bs ++ hs)))) _ _ ((4, pt_ p4) :: _) _ _ _
 refine Ll.box (v := vS a) rfl rfl rfl rfl rfl fun p5 hp5 => ?_
 show Ll _ _ (Own _ _ (_ :: _ :: _ :: _ :: ((blks 145 bs ++ hs)))) _ _ ((5, pt_ p5) :: _) _ _ _
 refine Ll.run 1 rfl ?_
 refine Ll.nil ?_
 refine Kt.sel [2, 3, 4, 5] [_, _, _, _] rfl ?_
 refine Wk.seq ?_
 refine Wk.region ?_
 refine Ll.run 1 rfl ?_
 refine Ll.op (v := i6_ ((R.length : Int))) rfl rfl rfl (OpQ.lenRow rfl Tryd.runUnderlying24 rfl (ints_length _) (fun w1 hw1 => hvr _ (Own.drop (f := bk_ p5 #[i6_ a.n, str a.set, str a.rel] 28 :: bk_ p4 #[sl_ q 997 997, sl_ c 1 1] 98 :: bk_ q ((bs.map bktV).toArray) 143 :: bk_ c #[i6_ ((T.length : Int))] 3 :: blks 145 (bs)) hw1))) ?_
 refine Ll.make (k := R.length) Base.elem24 Tryd.zeroValue3 rfl rfl rfl rfl rfl (by omega) fun p19 hp19 => ?_
 rw [show madeCells (Value.cells (i6_ 0)) (R.length * 1) = (ints (List.replicate R.length 0)).toArray from made_ints _]
 refine Ll.run 1 rfl ?_
 refine Ll.nil ?_
 refine Kt.sel [2, 3, 4, 5, 9] [_, _, _, _, _] rfl ?_
 refine Wk.seq ?_
 refine Wk.seq ?_
 refine Wk.regionQ ?_
 refine Lq.run 1 rfl ?_
 refine Lq.nil ?_
 refine Kt.sel [2, 3, 4, 5, 9, 10] [_, _, _, _, _, _] rfl ?_
 refine Wk.block ?_
 refine Wk.loop (σ := Nat × List Bkt × List (List UInt8) × List Int) (fun ⟨n, bs1, T1, R'⟩ => n ≤ R.length ∧ TabTo T bs1 T1 n ∧ NumTo T1 (textS a R k) R' R.length n ∧ Onto T T1 R' n) (fun ⟨n, bs1, T1, R'⟩ => [(2, vr), (3, i6_ ((k : Int))), (4, pt_ p4), (5, pt_ p5), (9, sl_ p19 R.length R.length), (10, i6_ ((n : Int)))]) (fun ⟨n, bs1, T1, R'⟩ => Own B w0 (bk_ p19 ((ints R').toArray) 3 :: bk_ p5 #[i6_ a.n, str a.set, str a.rel] 28 :: bk_ p4 #[sl_ q 997 997, sl_ c 1 1] 98 :: bk_ q ((bs1.map bktV).toArray) 143 :: bk_ c #[i6_ ((T1.length : Int))] 3 :: ((blks 145 bs1 ++ hs)))) (fun ⟨n, bs1, T1, R'⟩ => R.length - n) ((0, bs, T, List.replicate R.length 0)) ⟨by omega, ⟨hT, List.prefix_refl _, by omega⟩, NumTo.zero _ _ _, Onto.zero _ _⟩ (Sub.sel [2, 3, 4, 5, 9, 10] rfl) (fun _ h => h) ?_
 rintro ⟨n, bs1, T1, R'⟩ ⟨hn, hTT, hN, hO⟩
 dsimp only
 have hTl := hTT.len
 have hRl := hN.1
 have hXP := atP_peb a.n.toNat k n
 have hXl := atP_len a.n.toNat k n
 refine Wk.seq ?_
 refine Wk.seq ?_
 refine Wk.regionQ ?_
 refine Lq.run 2 rfl ?_
 refine Lq.op (v := i6_ ((R.length : Int))) rfl rfl rfl (OpQ.lenRow rfl Tryd.runUnderlying24 rfl (ints_length _) (fun w1 hw1 => hvr _ (Own.drop (f := bk_ p19 ((ints R').toArray) 3 :: bk_ p5 #[i6_ a.n, str a.set, str a.rel] 28 :: bk_ p4 #[sl_ q 997 997, sl_ c 1 1] 98 :: bk_ q ((bs1.map bktV).toArray) 143 :: bk_ c #[i6_ ((T1.length : Int))] 3 :: blks 145 (bs1)) hw1))) ?_
 refine Lq.run 1 rfl ?_
 refine Lq.nil ?_
 refine Kt.sel [2, 3, 4, 5, 9, 10, 23] [_, _, _, _, _, _, _] rfl ?_
 refine Wk.cond (b := decide (((n : Int)) < ((R.length : Int)))) rfl (fun h23 => ?_) (fun h23 => ?_)
 ·
  replace h23 := of_decide_eq_true h23
  have hnN : n < R.length := by omega
  have hb0 : 0 ≤ numP a.n.toNat R (atP a.n.toNat k n) ∧ numP a.n.toNat R (atP a.n.toNat k n) < 1000000 := hRs _
  have hb2 := decS_len (numP a.n.toNat R (atP a.n.toNat k n)).toNat 12 (by omega) (by decide)
  refine Wk.skip ?_
  refine Kt.sel [2, 3, 4, 5, 9, 10] [_, _, _, _, _, _] rfl ?_
  refine Wk.seq ?_
  refine Wk.block ?_
  refine Wk.seq ?_
  refine Wk.region ?_
  refine Ll.op rfl rfl rfl (OpQ.loadBox (cs := #[i6_ a.n, str a.set, str a.rel]) 1 rfl Tryd.isAgg28 rfl rfl Tryd.sizeOf28) ?_
  refine Ll.run 2 rfl ?_
  refine Ll.callRow (xs := [.tmp 26, .tmp 27, .tmp 28]) (m := k) (vs := ints (atP a.n.toNat k n)) (el := 3) (size := 1) rfl rfl rfl rfl Tryd.call144 rfl (fun w1 hw1 => l7At_ok a n k w1 ha (by omega) hk3) fun p29 cap29 cur29 hp29 hcp29 hlp29 htp29 => ?_
  refine Ll.run 1 rfl ?_
  refine Ll.nil ?_
  refine Kt.sel [2, 3, 4, 5, 9, 10, 11] [_, _, _, _, _, _, _] rfl ?_
  refine Wk.seq ?_
  refine Wk.regionQ ?_
  refine Lq.run 2 rfl ?_
  refine Lq.op (v := .pointer (some (sAt vr ((n : Int))))) rfl rfl rfl (OpQ.atRow rfl Tryd.runUnderlying24 Tryd.sizeOf3 rfl rfl (by omega) (by rw [ints_length]; omega) (fun w1 hw1 => hvr _ (Own.drop (f := bk_ p29 cur29 3 :: bk_ p19 ((ints R').toArray) 3 :: bk_ p5 #[i6_ a.n, str a.set, str a.rel] 28 :: bk_ p4 #[sl_ q 997 997, sl_ c 1 1] 98 :: bk_ q ((bs1.map bktV).toArray) 143 :: bk_ c #[i6_ ((T1.length : Int))] 3 :: blks 145 (bs1)) hw1))) ?_
  refine Lq.op (v := i6_ (numP a.n.toNat R (atP a.n.toNat k n))) rfl rfl rfl (OpQ.cast (by rw [num_at (by omega)]; rfl) (OpQ.load1 rfl Tryd.isAgg3 rfl (fun w1 hw1 => Ints.cell (hvr _ (Own.drop (f := bk_ p29 cur29 3 :: bk_ p19 ((ints R').toArray) 3 :: bk_ p5 #[i6_ a.n, str a.set, str a.rel] 28 :: bk_ p4 #[sl_ q 997 997, sl_ c 1 1] 98 :: bk_ q ((bs1.map bktV).toArray) 143 :: bk_ c #[i6_ ((T1.length : Int))] 3 :: blks 145 (bs1)) hw1)) (by omega) (by omega)))) ?_
  refine Lq.op (v := str (decS (numP a.n.toNat R (atP a.n.toNat k n)).toNat)) rfl rfl rfl (OpQ.call rfl Tryd.call136 rfl Own.stable (fun w1 hw1 => l15Dec_ok (numP a.n.toNat R (atP a.n.toNat k n)) w1 (by omega) (by omega))) ?_
  refine Lq.op rfl rfl rfl (OpQ.sadd rfl rfl rfl (by first | omega | (simp only [List.length_append, List.length_cons, List.length_nil]; omega))) ?_
  refine Lq.run 1 rfl ?_
  refine Lq.nil ?_
  refine Kt.sel [2, 3, 4, 5, 9, 10, 11, 12] [_, _, _, _, _, _, _, _] rfl ?_
  refine Wk.seq ?_
  refine Wk.seq ?_
  refine Wk.regionQ ?_
  refine Lq.run 1 rfl ?_
  refine Lq.nil ?_
  refine Kt.sel [2, 3, 4, 5, 9, 10, 11, 12, 13] [_, _, _, _, _, _, _, _, _] rfl ?_
  refine Wk.block ?_
  refine Wk.loop (σ := Nat) (fun i => i ≤ k) (fun i => [(2, vr), (3, i6_ ((k : Int))), (4, pt_ p4), (5, pt_ p5), (9, sl_ p19 R.length R.length), (10, i6_ ((n : Int))), (11, sl_ p29 k cap29), (12, str (([114] ++ decS (numP a.n.toNat R (atP a.n.toNat k n)).toNat) ++ descM a.n.toNat R (atP a.n.toNat k n) i)), (13, i6_ ((i : Int)))]) (fun i => Own B w0 (bk_ p29 cur29 3 :: bk_ p19 ((ints R').toArray) 3 :: bk_ p5 #[i6_ a.n, str a.set, str a.rel] 28 :: bk_ p4 #[sl_ q 997 997, sl_ c 1 1] 98 :: bk_ q ((bs1.map bktV).toArray) 143 :: bk_ c #[i6_ ((T1.length : Int))] 3 :: ((blks 145 bs1 ++ hs)))) (fun i => k - i) (0) (by omega) (Sub.cons rfl (Sub.cons rfl (Sub.cons rfl (Sub.cons rfl (Sub.cons rfl (Sub.cons rfl (Sub.cons rfl (Sub.cons (by simp [descM, List.lookup]) (Sub.sel [13] rfl))))))))) (fun _ h => h) ?_
  rintro i hi
  refine Wk.seq ?_
  refine Wk.seq ?_
  refine Wk.regionQ ?_
  refine Lq.run 3 rfl ?_
  refine Lq.nil ?_
  refine Kt.sel [2, 3, 4, 5, 9, 10, 11, 12, 13, 38] [_, _, _, _, _, _, _, _, _, _] rfl ?_
  refine Wk.cond (b := decide (((i : Int)) < ((k : Int)))) rfl (fun h38 => ?_) (fun h38 => ?_)
  ·
   replace h38 := of_decide_eq_true h38
   have hik : i < k := by omega
   have hdm := descM_len (R := R) (xs := (atP a.n.toNat k n)) hm8n hRs i
   refine Wk.skip ?_
   refine Kt.sel [2, 3, 4, 5, 9, 10, 11, 12, 13] [_, _, _, _, _, _, _, _, _] rfl ?_
   refine Wk.seq ?_
   refine Wk.block ?_
   refine Wk.seq ?_
   refine Wk.region ?_
   refine Ll.slice (xs := []) (vs := []) Base.elem24 rfl rfl rfl rfl rfl rfl (by decide) rfl fun p41 hp41 => ?_
   refine Ll.run 1 rfl ?_
   refine Ll.nil ?_
   refine Kt.sel [2, 3, 4, 5, 9, 10, 11, 12, 13, 14] [_, _, _, _, _, _, _, _, _, _] rfl ?_
   refine Wk.seq ?_
   refine Wk.seq ?_
   refine Wk.regionQ ?_
   refine Lq.run 1 rfl ?_
   refine Lq.nil ?_
   refine Kt.sel [2, 3, 4, 5, 9, 10, 11, 12, 13, 14, 15] [_, _, _, _, _, _, _, _, _, _, _] rfl ?_
   refine Wk.block ?_
   refine Wk.loop (σ := Nat × Nat × Nat × Array Value) (fun ⟨x, g, cap, cur⟩ => x ≤ a.n.toNat ∧ cur.size = cap * 1 ∧ (movesTo a.n.toNat R (atP a.n.toNat k n) i x).length ≤ cap ∧ cur.toList.take (movesTo a.n.toNat R (atP a.n.toNat k n) i x).length = ints (movesTo a.n.toNat R (atP a.n.toNat k n) i x)) (fun ⟨x, g, cap, cur⟩ => [(2, vr), (3, i6_ ((k : Int))), (4, pt_ p4), (5, pt_ p5), (9, sl_ p19 R.length R.length), (10, i6_ ((n : Int))), (11, sl_ p29 k cap29), (12, str (([114] ++ decS (numP a.n.toNat R (atP a.n.toNat k n)).toNat) ++ descM a.n.toNat R (atP a.n.toNat k n) i)), (13, i6_ ((i : Int))), (14, sl_ g ((movesTo a.n.toNat R (atP a.n.toNat k n) i x).length) cap), (15, i6_ ((x : Int)))]) (fun ⟨x, g, cap, cur⟩ => Own B w0 (bk_ g cur 3 :: bk_ p29 cur29 3 :: bk_ p19 ((ints R').toArray) 3 :: bk_ p5 #[i6_ a.n, str a.set, str a.rel] 28 :: bk_ p4 #[sl_ q 997 997, sl_ c 1 1] 98 :: bk_ q ((bs1.map bktV).toArray) 143 :: bk_ c #[i6_ ((T1.length : Int))] 3 :: ((blks 145 bs1 ++ hs)))) (fun ⟨x, g, cap, cur⟩ => a.n.toNat - x) ((0, p41, 0, #[])) ⟨by omega, rfl, Nat.le_refl _, rfl⟩ (Sub.sel [2, 3, 4, 5, 9, 10, 11, 12, 13, 14, 15] rfl) (fun _ h => h) ?_
   rintro ⟨x, g, cap, cur⟩ ⟨hx, hc, hle, ht⟩
   dsimp only
   have hml := moves_le a.n.toNat R (atP a.n.toNat k n) i x
   refine Wk.seq ?_
   refine Wk.seq ?_
   refine Wk.regionQ ?_
   refine Lq.run 1 rfl ?_
   refine Lq.op rfl rfl rfl (OpQ.fieldAddr rfl Tryd.runUnderlying28 rfl Tryd.sizeOf3 rfl rfl) ?_
   refine Lq.op rfl rfl rfl (OpQ.loadOwn 3 rfl Tryd.isAgg3 rfl rfl rfl) ?_
   refine Lq.run 1 rfl ?_
   refine Lq.nil ?_
   refine Kt.sel [2, 3, 4, 5, 9, 10, 11, 12, 13, 14, 15, 45] [_, _, _, _, _, _, _, _, _, _, _, _] rfl ?_
   refine Wk.cond (b := decide (((x : Int)) < a.n)) rfl (fun h45 => ?_) (fun h45 => ?_)
   ·
    replace h45 := of_decide_eq_true h45
    have hxn : x < a.n.toNat := by omega
    have hPs := peb_set (i := i) hXP hxn
    have hix := idxP_lt hPs
    have hQs : 0 ≤ numP a.n.toNat R ((atP a.n.toNat k n).set i (x : Int)) ∧ numP a.n.toNat R ((atP a.n.toNat k n).set i (x : Int)) < 1000000 := hRs _
    refine Wk.skip ?_
    refine Kt.sel [2, 3, 4, 5, 9, 10, 11, 12, 13, 14, 15] [_, _, _, _, _, _, _, _, _, _, _] rfl ?_
    refine Wk.seq ?_
    refine Wk.block ?_
    refine Wk.regionS (S := Own B w0 (bk_ p29 cur29 3 :: bk_ p19 ((ints R').toArray) 3 :: bk_ p5 #[i6_ a.n, str a.set, str a.rel] 28 :: bk_ p4 #[sl_ q 997 997, sl_ c 1 1] 98 :: bk_ q ((bs1.map bktV).toArray) 143 :: bk_ c #[i6_ ((T1.length : Int))] 3 :: ((blks 145 bs1 ++ hs)))) [(0, true), (1, true), (2, true), (3, true), (4, true), (5, true), (6, false), (7, false), (8, true), (9, false), (10, false), (11, true)] Base.mixed (fun _ h => h.drawn) (by kernel_rfl) ?_
    refine Ld.run 2 rfl (fun _ h => Own.pickT (hs := [_, _, _, _, _, _, _]) (hs' := [_, _, _, _, _, _]) h [1, 2, 3, 4, 5, 6] rfl (by decide)) ?_
    refine Ld.take rfl rfl rfl rfl rfl (OpQ.loadBox (cs := #[i6_ a.n, str a.set, str a.rel]) 2 rfl Tryd.isAgg28 rfl rfl Tryd.sizeOf28) (fun _ h => Own.pickT (hs := [_, _, _, _, _, _, _]) (hs' := [_, _, _, _, _, _]) h [1, 2, 3, 4, 5, 6] rfl (by decide)) ?_
    refine Ld.run 3 rfl (fun _ h => Own.pickT (hs := [_, _, _, _, _, _, _]) (hs' := [_, _, _, _, _, _]) h [1, 2, 3, 4, 5, 6] rfl (by decide)) ?_
    refine Ld.loud rfl ?_
    refine Ll.callRow (xs := [.tmp 51, .tmp 52, .tmp 53]) (m := (atP a.n.toNat k n).length) (vs := ints ((atP a.n.toNat k n).set i ((x : Int)))) (el := 3) (size := 1) rfl rfl rfl rfl Tryd.call64 rfl (fun w1 hw1 => l7Put_ok (sl_ p29 k cap29) (atP a.n.toNat k n) i ((x : Int)) w1 (Own.row hw1 (i := 1) rfl (by simpa using htp29) (by simp) hlp29) (by rw [hXl]; exact hik) (by rw [hXl]; omega)) fun p54 cap54 cur54 hp54 hcp54 hlp54 htp54 => ?_
    refine Ll.nil (Ld.joint (fun _ h => Own.pickT (hs := [_, _, _, _, _, _, _, _]) (hs' := [_, _, _, _, _, _]) h [2, 3, 4, 5, 6, 7] rfl (by decide)) ?_)
    refine Ld.loud rfl ?_
    refine Ll.op (v := i6_ (((idxP a.n.toNat ((atP a.n.toNat k n).set i ((x : Int))) : Nat) : Int))) rfl rfl rfl (OpQ.call rfl Tryd.call63 rfl Own.stable (fun w1 hw1 => l7Index_ok a (sl_ p54 ((atP a.n.toNat k n).length) cap54) ((atP a.n.toNat k n).set i ((x : Int))) w1 ha (Own.row hw1 (i := 0) rfl (by simpa using htp54) (by simp) hlp54) ⟨rfl, hPs.2⟩ (by rw [List.length_set, hXl]; exact hk3))) ?_
    refine Ll.nil (Ld.joint (fun _ h => Own.pickT (hs := [_, _, _, _, _, _, _, _]) (hs' := [_, _, _, _, _, _]) h [2, 3, 4, 5, 6, 7] rfl (by decide)) ?_)
    refine Ld.take (v := .pointer (some (sAt vr (((idxP a.n.toNat ((atP a.n.toNat k n).set i ((x : Int))) : Nat) : Int))))) rfl rfl rfl rfl rfl (OpQ.atRow rfl Tryd.runUnderlying24 Tryd.sizeOf3 rfl rfl (by omega) (by rw [ints_length]; omega) (fun w1 hw1 => hvr _ (Own.drop (f := bk_ p29 cur29 3 :: bk_ p19 ((ints R').toArray) 3 :: bk_ p5 #[i6_ a.n, str a.set, str a.rel] 28 :: bk_ p4 #[sl_ q 997 997, sl_ c 1 1] 98 :: bk_ q ((bs1.map bktV).toArray) 143 :: bk_ c #[i6_ ((T1.length : Int))] 3 :: blks 145 (bs1)) hw1))) (fun _ h => Own.pickT (hs := [_, _, _, _, _, _, _, _]) (hs' := [_, _, _, _, _, _]) h [2, 3, 4, 5, 6, 7] rfl (by decide)) ?_
    refine Ld.loud rfl ?_
    refine Ll.op (v := i6_ (numP a.n.toNat R ((atP a.n.toNat k n).set i (x : Int)))) rfl rfl rfl (OpQ.cast (by rfl) (OpQ.load1 rfl Tryd.isAgg3 rfl (fun w1 hw1 => Ints.cell (hvr _ (Own.drop (f := bk_ p54 cur54 3 :: bk_ g cur 3 :: bk_ p29 cur29 3 :: bk_ p19 ((ints R').toArray) 3 :: bk_ p5 #[i6_ a.n, str a.set, str a.rel] 28 :: bk_ p4 #[sl_ q 997 997, sl_ c 1 1] 98 :: bk_ q ((bs1.map bktV).toArray) 143 :: bk_ c #[i6_ ((T1.length : Int))] 3 :: blks 145 (bs1)) hw1)) (by omega) (by omega)))) ?_
    refine Ll.nil (Ld.joint (fun _ h => Own.pickT (hs := [_, _, _, _, _, _, _, _]) (hs' := [_, _, _, _, _, _]) h [2, 3, 4, 5, 6, 7] rfl (by decide)) ?_)
    refine Ld.loud rfl ?_
    refine Ll.callGet (σ := Nat × Nat × Array Value) (ok := fun (g, c', u) => u.size = c' * 1 ∧ (insS ((movesTo a.n.toNat R (atP a.n.toNat k n) i x)) (numP a.n.toNat R ((atP a.n.toNat k n).set i (x : Int)))).length ≤ c' ∧ u.toList.take (insS ((movesTo a.n.toNat R (atP a.n.toNat k n) i x)) (numP a.n.toNat R ((atP a.n.toNat k n).set i (x : Int)))).length = ints (insS ((movesTo a.n.toNat R (atP a.n.toNat k n) i x)) (numP a.n.toNat R ((atP a.n.toNat k n).set i (x : Int))))) (v := fun (g, c', u) => .slice (some ⟨g, 0, none⟩) (insS ((movesTo a.n.toNat R (atP a.n.toNat k n) i x)) (numP a.n.toNat R ((atP a.n.toNat k n).set i (x : Int)))).length c') (xs := [.tmp 48, .tmp 57]) (vs := [sl_ g ((movesTo a.n.toNat R (atP a.n.toNat k n) i x).length) cap, i6_ (numP a.n.toNat R ((atP a.n.toNat k n).set i (x : Int)))]) (hs' := fun (g, c', u) => (bk_ p54 cur54 3 :: bk_ g u 3 :: bk_ p29 cur29 3 :: bk_ p19 ((ints R').toArray) 3 :: bk_ p5 #[i6_ a.n, str a.set, str a.rel] 28 :: bk_ p4 #[sl_ q 997 997, sl_ c 1 1] 98 :: bk_ q ((bs1.map bktV).toArray) 143 :: bk_ c #[i6_ ((T1.length : Int))] 3 :: ((blks 145 bs1 ++ hs)))) rfl rfl rfl rfl Tryd.call62 rfl (fun w1 hw1 => (l5Insert_ok _ _ _ g cap cur ((movesTo a.n.toNat R (atP a.n.toNat k n) i x)) (numP a.n.toNat R ((atP a.n.toNat k n).set i (x : Int))) w1 hc hle ht (by omega) (hw1.perm (perm_back [bk_ p54 cur54 3] [_] _))).mono fun en w' ⟨g', cap', cur', h1, h2, h3⟩ => ⟨(g', cap', cur'), h1, h2, h3.perm (perm_back [_] [bk_ p54 cur54 3] _)⟩) fun ⟨g_, cap_, cur_⟩ ⟨hcg_, hlg_, htg_⟩ => ?_
    show Ll _ _ (Own _ _ (_ :: _ :: _ :: _ :: _ :: _ :: _ :: _ :: ((blks 145 bs1 ++ hs)))) _ _ ((58, sl_ g_ ((insS ((movesTo a.n.toNat R (atP a.n.toNat k n) i x)) (numP a.n.toNat R ((atP a.n.toNat k n).set i (x : Int)))).length) cap_) :: _) _ _ _
    refine Ll.nil (Ld.joint (fun _ h => Own.pickT (hs := [_, _, _, _, _, _, _, _]) (hs' := [_, _, _, _, _, _]) h [2, 3, 4, 5, 6, 7] rfl (by decide)) ?_)
    refine Ld.run 1 rfl (fun _ h => Own.pickT (hs := [_, _, _, _, _, _, _, _]) (hs' := [_, _, _, _, _, _]) h [2, 3, 4, 5, 6, 7] rfl (by decide)) ?_
    refine Ld.nil ?_
    refine Kt.sel [2, 3, 4, 5, 9, 10, 11, 12, 13, 14, 15] [_, _, _, _, _, _, _, _, _, _, _] rfl ?_
    refine Wk.regionQ ?_
    refine Lq.run 1 rfl ?_
    refine Lq.op rfl rfl rfl (OpQ.add rfl rfl rfl (by omega) (by omega)) ?_
    refine Lq.run 1 rfl ?_
    refine Lq.nil ?_
    refine Kt.again ((x + 1, g_, cap_, cur_)) ⟨by omega, hcg_, hlg_, htg_⟩ (by omega) (Sub.sel [2, 3, 4, 5, 9, 10, 11, 12, 13, 14, 15] rfl) (fun _ h => h.sub (List.Sublist.cons _ (List.Sublist.cons_cons _ (List.Sublist.cons_cons _ (List.Sublist.cons_cons _ (List.Sublist.cons_cons _ (List.Sublist.cons_cons _ (List.Sublist.cons_cons _ (List.Sublist.cons_cons _ (List.Sublist.refl _))))))))))
   ·
    replace h45 := of_decide_eq_false h45
    have hxe : x = a.n.toNat := by omega
    have hsm := moves_small (size := a.n.toNat) (xs := (atP a.n.toNat k n)) (i := i) (m := x) hRs
    refine Wk.exit rfl ?_
    refine Kt.sel [2, 3, 4, 5, 9, 10, 11, 12, 13, 14] [_, _, _, _, _, _, _, _, _, _] rfl ?_
    refine Wk.seq ?_
    refine Wk.seq ?_
    refine Wk.regionQ ?_
    refine Lq.run 1 rfl ?_
    refine Lq.nil ?_
    refine Kt.sel [2, 3, 4, 5, 9, 10, 11, 12, 13, 14, 16] [_, _, _, _, _, _, _, _, _, _, _] rfl ?_
    refine Wk.block ?_
    refine Wk.loop (σ := Nat) (fun j => j ≤ (movesTo a.n.toNat R (atP a.n.toNat k n) i x).length) (fun j => [(2, vr), (3, i6_ ((k : Int))), (4, pt_ p4), (5, pt_ p5), (9, sl_ p19 R.length R.length), (10, i6_ ((n : Int))), (11, sl_ p29 k cap29), (12, str ((([114] ++ decS (numP a.n.toNat R (atP a.n.toNat k n)).toNat) ++ descM a.n.toNat R (atP a.n.toNat k n) i) ++ commas ((movesTo a.n.toNat R (atP a.n.toNat k n) i x).take j))), (13, i6_ ((i : Int))), (14, sl_ g ((movesTo a.n.toNat R (atP a.n.toNat k n) i x).length) cap), (16, i6_ ((j : Int)))]) (fun j => Own B w0 (bk_ g cur 3 :: bk_ p29 cur29 3 :: bk_ p19 ((ints R').toArray) 3 :: bk_ p5 #[i6_ a.n, str a.set, str a.rel] 28 :: bk_ p4 #[sl_ q 997 997, sl_ c 1 1] 98 :: bk_ q ((bs1.map bktV).toArray) 143 :: bk_ c #[i6_ ((T1.length : Int))] 3 :: ((blks 145 bs1 ++ hs)))) (fun j => (movesTo a.n.toNat R (atP a.n.toNat k n) i x).length - j) (0) (by omega) (Sub.cons rfl (Sub.cons rfl (Sub.cons rfl (Sub.cons rfl (Sub.cons rfl (Sub.cons rfl (Sub.cons rfl (Sub.cons (by simp [commas, List.lookup]) (Sub.sel [13, 14, 16] rfl))))))))) (fun _ h => h) ?_
    rintro j hj
    refine Wk.seq ?_
    refine Wk.seq ?_
    refine Wk.regionQ ?_
    refine Lq.run 2 rfl ?_
    refine Lq.op rfl rfl rfl (OpQ.lenS rfl Tryd.runUnderlying24 rfl) ?_
    refine Lq.run 1 rfl ?_
    refine Lq.nil ?_
    refine Kt.sel [2, 3, 4, 5, 9, 10, 11, 12, 13, 14, 16, 62] [_, _, _, _, _, _, _, _, _, _, _, _] rfl ?_
    refine Wk.cond (b := decide (((j : Int)) < (((movesTo a.n.toNat R (atP a.n.toNat k n) i x).length : Int)))) rfl (fun h62 => ?_) (fun h62 => ?_)
    ·
     replace h62 := of_decide_eq_true h62
     have hct := commas_take (i := j) hsm (by omega)
     obtain ⟨hs0, hs1⟩ := at_small hsm (i := j) (by omega)
     have hdi := decS_len ((movesTo a.n.toNat R (atP a.n.toNat k n) i x).getD j 0).toNat 12 (show _ < 1000000000000 by omega) (by decide)
     refine Wk.skip ?_
     refine Kt.sel [2, 3, 4, 5, 9, 10, 11, 12, 13, 14, 16] [_, _, _, _, _, _, _, _, _, _, _] rfl ?_
     refine Wk.seq ?_
     refine Wk.block ?_
     refine Wk.regionQ ?_
     refine Lq.run 1 rfl ?_
     refine Lq.op rfl rfl rfl (OpQ.sadd rfl rfl rfl (by first | omega | (simp only [List.length_append, List.length_cons, List.length_nil]; omega))) ?_
     refine Lq.run 2 rfl ?_
     refine Lq.op (v := pf_ g j) rfl rfl rfl (OpQ.cast (by simp) (OpQ.indexAddr1 rfl Tryd.runUnderlying24 Tryd.sizeOf3 rfl rfl (by omega) (by omega))) ?_
     refine Lq.op (v := i6_ ((movesTo a.n.toNat R (atP a.n.toNat k n) i x).getD (j) 0)) rfl rfl rfl (OpQ.loadAt 0 rfl Tryd.isAgg3 rfl rfl (cur_at ht (ints_at2 (by omega)))) ?_
     refine Lq.op (v := str (decS ((movesTo a.n.toNat R (atP a.n.toNat k n) i x).getD (j) 0).toNat)) rfl rfl rfl (OpQ.call rfl Tryd.call136 rfl Own.stable (fun w1 hw1 => l15Dec_ok ((movesTo a.n.toNat R (atP a.n.toNat k n) i x).getD (j) 0) w1 (by omega) (by omega))) ?_
     refine Lq.op rfl rfl rfl (OpQ.sadd rfl rfl rfl (by first | omega | (simp only [List.length_append, List.length_cons, List.length_nil]; omega))) ?_
     refine Lq.run 1 rfl ?_
     refine Lq.nil ?_
     refine Kt.sel [2, 3, 4, 5, 9, 10, 11, 12, 13, 14, 16] [_, _, _, _, _, _, _, _, _, _, _] rfl ?_
     refine Wk.regionQ ?_
     refine Lq.run 1 rfl ?_
     refine Lq.op rfl rfl rfl (OpQ.add rfl rfl rfl (by omega) (by omega)) ?_
     refine Lq.run 1 rfl ?_
     refine Lq.nil ?_
     refine Kt.again (j + 1) (by omega) (by omega) (Sub.cons rfl (Sub.cons rfl (Sub.cons rfl (Sub.cons rfl (Sub.cons rfl (Sub.cons rfl (Sub.cons rfl (Sub.cons (by rw [commas_step (by omega)]; rfl) (Sub.sel [13, 14, 16] rfl))))))))) (fun _ h => h)
    ·
     replace h62 := of_decide_eq_false h62
     obtain rfl : j = (movesTo a.n.toNat R (atP a.n.toNat k n) i x).length := by omega
     rw [List.take_length]
     have hcl := commas_len hsm
     refine Wk.exit rfl ?_
     refine Kt.sel [2, 3, 4, 5, 9, 10, 11, 12, 13] [_, _, _, _, _, _, _, _, _] rfl ?_
     refine Wk.regionQ ?_
     refine Lq.run 1 rfl ?_
     refine Lq.op (v := str (([114] ++ decS (numP a.n.toNat R (atP a.n.toNat k n)).toNat) ++ descM a.n.toNat R (atP a.n.toNat k n) (i + 1))) rfl rfl rfl (OpQ.cast (by simp only [descM, hxe, List.append_assoc]) (OpQ.sadd rfl rfl rfl (by first | omega | (simp only [List.length_append, List.length_cons, List.length_nil]; omega)))) ?_
     refine Lq.run 1 rfl ?_
     refine Lq.nil ?_
     refine Kt.sel [2, 3, 4, 5, 9, 10, 11, 12, 13] [_, _, _, _, _, _, _, _, _] rfl ?_
     refine Wk.regionQ ?_
     refine Lq.run 1 rfl ?_
     refine Lq.op rfl rfl rfl (OpQ.add rfl rfl rfl (by omega) (by omega)) ?_
     refine Lq.run 1 rfl ?_
     refine Lq.nil ?_
     refine Kt.again (i + 1) (by omega) (by omega) (Sub.cons rfl (Sub.cons rfl (Sub.cons rfl (Sub.cons rfl (Sub.cons rfl (Sub.cons rfl (Sub.cons rfl (Sub.cons (by rfl) (Sub.sel [13] rfl))))))))) (fun _ h => h.sub (List.Sublist.cons _ (List.Sublist.cons_cons _ (List.Sublist.cons_cons _ (List.Sublist.cons_cons _ (List.Sublist.cons_cons _ (List.Sublist.cons_cons _ (List.Sublist.cons_cons _ (List.Sublist.refl _)))))))))
  ·
   replace h38 := of_decide_eq_false h38
   obtain rfl : k = i := by omega
   have hdm := descM_len (R := R) (xs := (atP a.n.toNat k n)) hm8n hRs k
   refine Wk.exit rfl ?_
   refine Kt.sel [2, 3, 4, 5, 9, 10, 12] [_, _, _, _, _, _, _] rfl ?_
   refine Wk.region ?_
   refine Ll.run 2 rfl ?_
   refine Ll.op rfl rfl rfl (OpQ.loadBox (cs := #[sl_ q 997 997, sl_ c 1 1]) 3 rfl Tryd.isAgg98 rfl rfl Tryd.sizeOf98) ?_
   refine Ll.run 1 rfl ?_
   refine Ll.callTab (S := 143) (I := 3) (E := 145) (q := q) (c := c) (bs := bs1) (T := T1) (hs := hs) (ok := fun m bs' T' => TabTo T1 bs' T' 1 ∧ T'[m]? = some (([114] ++ decS (numP a.n.toNat R (atP a.n.toNat k n)).toNat) ++ descM a.n.toNat R (atP a.n.toNat k n) k) ∧ (T' = T1 ∨ T' = T1 ++ [(([114] ++ decS (numP a.n.toNat R (atP a.n.toNat k n)).toNat) ++ descM a.n.toNat R (atP a.n.toNat k n) k)] ∧ m = T1.length)) (xs := [.tmp 77, .tmp 78]) (vs := [.agg #[sl_ q 997 997, sl_ c 1 1], str (([114] ++ decS (numP a.n.toNat R (atP a.n.toNat k n)).toNat) ++ descM a.n.toNat R (atP a.n.toNat k n) k)]) [bk_ p29 cur29 3, bk_ p19 ((ints R').toArray) 3, bk_ p5 #[i6_ a.n, str a.set, str a.rel] 28, bk_ p4 #[sl_ q 997 997, sl_ c 1 1] 98] rfl rfl rfl rfl Tryd.call137 rfl (fun w1 hw1 => number_full B w0 ([bk_ p29 cur29 3, bk_ p19 ((ints R').toArray) 3, bk_ p5 #[i6_ a.n, str a.set, str a.rel] 28, bk_ p4 #[sl_ q 997 997, sl_ c 1 1] 98] ++ hs) q c bs1 T1 (([114] ++ decS (numP a.n.toNat R (atP a.n.toNat k n)).toNat) ++ descM a.n.toNat R (atP a.n.toNat k n) k) w1 hTT.ok (by omega) (by simp only [List.length_append, List.length_cons, List.length_nil]; omega) hw1) fun m bs_ T_ hKm => ?_
   show Ll _ _ (Own _ _ (_ :: _ :: _ :: _ :: _ :: _ :: ((blks 145 bs_ ++ hs)))) _ _ ((79, i6_ ((m : Int))) :: _) _ _ _
   refine Ll.op (v := pf_ p19 (0 + ((n : Int)).toNat)) rfl rfl rfl (OpQ.indexAddr1 rfl Tryd.runUnderlying24 Tryd.sizeOf3 rfl rfl (by omega) (by omega)) ?_
   refine Ll.store1 (v := i6_ ((m : Int))) (hs' := (_ :: bk_ p19 ((ints (R'.set (((n : Int)).toNat) ((m : Int)))).toArray) 3 :: _ :: _ :: _ :: _ :: ((blks 145 bs_ ++ hs)))) 1 rfl rfl rfl rfl rfl rfl Tryd.sizeOf3 rfl (by first | (simp; done) | (simp; omega) | omega) (by first | (rw [ints_set]; rfl) | (simp only [Nat.zero_add]; rw [ints_set]; rfl)) ?_
   refine Ll.nil ?_
   refine Kt.sel [2, 3, 4, 5, 9, 10] [_, _, _, _, _, _] rfl ?_
   refine Wk.regionQ ?_
   refine Lq.run 1 rfl ?_
   refine Lq.op rfl rfl rfl (OpQ.add rfl rfl rfl (by omega) (by omega)) ?_
   refine Lq.run 1 rfl ?_
   refine Lq.nil ?_
   refine Kt.again ((n + 1, bs_, T_, R'.set n (m : Int))) ⟨by omega, hTT.trans hKm.1 (by omega), hN.step hKm.1.pre hKm.2.1 (by omega), hO.step hKm.2.2 (by omega)⟩ (by omega) (Sub.sel [2, 3, 4, 5, 9, 10] rfl) (fun _ h => h.sub (List.Sublist.cons _ (List.Sublist.cons_cons _ (List.Sublist.cons_cons _ (List.Sublist.cons_cons _ (List.Sublist.cons_cons _ (List.Sublist.cons_cons _ (List.Sublist.refl _))))))))
 ·
  replace h23 := of_decide_eq_false h23
  refine Wk.exit rfl ?_
  refine Kt.sel [9] [_] rfl ?_
  refine Wk.seq ?_
  refine Wk.regionQ ?_
  refine Lq.run 2 rfl ?_
  refine Lq.nil ?_
  refine Kt.sel [8] [_] rfl ?_
  refine Wk.ret (Kt.end1 rfl rfl fun w' hw => ?_)
  -- ret 0: sl_ p19 R.length R.length
  obtain rfl : n = R.length := by omega
  exact ⟨p19, R', bs1, T1, rfl, ⟨hRN ▸ hTT, hRN ▸ hN.all, hRN ▸ hO⟩, hw.sub (List.Sublist.cons_cons _ (List.Sublist.cons _ (List.Sublist.cons _ (List.Sublist.cons_cons _ (List.Sublist.cons_cons _ (List.Sublist.refl _))))))⟩

set_option maxHeartbeats 400000 in
/-- spec.l7Kinds -/
theorem l7Kinds_ok (va vb : Value) (R Q : List Int) (w : World) (hva : Ints w va R) (hvb : Ints w vb Q) (hR1 : R.length ≤ 1000) (hQ1 : Q.length ≤ 1000) (hsm : ∀ i : Nat, i < (R ++ Q).length → 0 ≤ (R ++ Q).getD i 0 ∧ (R ++ Q).getD i 0 < 1000000) :
    Calls Tryd.prog 111 [va, vb].toArray w fun en w' => en = .returned (.int .i64 (kindsP (R ++ Q))) ∧ Below w.heap.size w w' := by
 refine fnStart (n := 27) (e := [(0, va), (1, vb)]) Tryd.func111 rfl rfl rfl rfl Ends.both ?_
 have hRQ : (R ++ Q).length ≤ 2000 := by rw [List.length_append]; omega
 refine Wk.seq ?_
 refine Wk.regionQ ?_
 refine Lq.run 1 rfl ?_
 refine Lq.nil ?_
 refine Kt.sel [0, 1] [_, _] rfl ?_
 refine Wk.seq ?_
 refine Wk.regionQ ?_
 refine Lq.run 1 rfl ?_
 refine Lq.nil ?_
 refine Kt.sel [0, 1, 5] [_, _, _] rfl ?_
 refine Wk.seq ?_
 refine Wk.region ?_
 refine Ll.slice (xs := []) (vs := []) Base.elem24 rfl rfl rfl rfl rfl rfl (by decide) rfl fun p8 hp8 => ?_
 refine Ll.run 1 rfl ?_
 refine Ll.appendInts (xs := []) (ys := R) Base.elem24 0 rfl rfl rfl rfl rfl rfl rfl rfl (by decide) rfl (fun w1 hw1 => (Row.own hva hw1)) ((R).length) (by first | (simp; done) | (simp; omega)) (by first | (simp; done) | (simp; omega) | omega) fun p10 cap10 cur10 hp10 hcp10 hlp10 htp10 => ?_
 show Ll _ _ (Own _ _ [_]) _ _ ((10, sl_ p10 (((R).length)) cap10) :: _) _ _ _
 refine Ll.run 1 rfl ?_
 refine Ll.appendInts (xs := R) (ys := Q) Base.elem24 0 rfl rfl rfl rfl rfl rfl rfl hcp10 hlp10 (by simpa using htp10) (fun w1 hw1 => (Row.own hvb hw1)) ((R ++ Q).length) (by first | (simp; done) | (simp; omega)) (by first | (simp; done) | (simp; omega) | omega) fun p12 cap12 cur12 hp12 hcp12 hlp12 htp12 => ?_
 show Ll _ _ (Own _ _ [_]) _ _ ((12, sl_ p12 (((R ++ Q).length)) cap12) :: _) _ _ _
 refine Ll.run 1 rfl ?_
 refine Ll.nil ?_
 refine Kt.sel [5, 6] [_, _] rfl ?_
 refine Wk.seq ?_
 refine Wk.seq ?_
 refine Wk.regionQ ?_
 refine Lq.run 1 rfl ?_
 refine Lq.nil ?_
 refine Kt.sel [5, 6, 7] [_, _, _] rfl ?_
 refine Wk.block ?_
 refine Wk.loop (σ := Nat) (fun k => k ≤ (R ++ Q).length ∧ 0 ≤ kindsP ((R ++ Q).take k) ∧ kindsP ((R ++ Q).take k) ≤ 1000000) (fun k => [(5, i6_ (kindsP ((R ++ Q).take k))), (6, sl_ p12 (((R ++ Q).length)) cap12), (7, i6_ ((k : Int)))]) (fun k => Own w.heap.size w [bk_ p12 cur12 3]) (fun k => (R ++ Q).length - k) (0) ⟨Nat.zero_le _, by rw [List.take_zero]; decide, by rw [List.take_zero]; decide⟩ (Sub.cons (by rfl) (Sub.sel [6, 7] rfl)) (fun _ h => h) ?_
 rintro k ⟨hk, h0, h1⟩
 refine Wk.seq ?_
 refine Wk.seq ?_
 refine Wk.regionQ ?_
 refine Lq.run 2 rfl ?_
 refine Lq.op rfl rfl rfl (OpQ.lenS rfl Tryd.runUnderlying24 rfl) ?_
 refine Lq.run 1 rfl ?_
 refine Lq.nil ?_
 refine Kt.sel [5, 6, 7, 16] [_, _, _, _] rfl ?_
 refine Wk.cond (b := decide (((k : Int)) < ((((R ++ Q).length) : Int)))) rfl (fun h16 => ?_) (fun h16 => ?_)
 ·
  replace h16 := of_decide_eq_true h16
  have hkl : k < (R ++ Q).length := by omega
  obtain ⟨hs0, hs1⟩ := hsm k hkl
  refine Wk.skip ?_
  refine Kt.sel [5, 6, 7] [_, _, _] rfl ?_
  refine Wk.seq ?_
  refine Wk.block ?_
  refine Wk.regionQ ?_
  refine Lq.run 3 rfl ?_
  refine Lq.op (v := pf_ p12 k) rfl rfl rfl (OpQ.cast (by simp) (OpQ.indexAddr1 rfl Tryd.runUnderlying24 Tryd.sizeOf3 rfl rfl (by omega) (by omega))) ?_
  refine Lq.op (v := i6_ ((R ++ Q).getD k 0)) rfl rfl rfl (OpQ.cast rfl (OpQ.loadAt 0 rfl Tryd.isAgg3 rfl rfl (cur_at (by simpa using htp12) (ints_at2 hkl)))) ?_
  refine Lq.op rfl rfl rfl (OpQ.add rfl rfl rfl (by omega) (by omega)) ?_
  refine Lq.op (v := i6_ (kindsP ((R ++ Q).take (k + 1)))) rfl rfl rfl (OpQ.cast (by rw [kinds_take hkl]; congr 1; omega) (OpQ.maxU rfl rfl rfl)) ?_
  refine Lq.run 1 rfl ?_
  refine Lq.nil ?_
  refine Kt.sel [5, 6, 7] [_, _, _] rfl ?_
  refine Wk.regionQ ?_
  refine Lq.run 1 rfl ?_
  refine Lq.op rfl rfl rfl (OpQ.add rfl rfl rfl (by omega) (by omega)) ?_
  refine Lq.run 1 rfl ?_
  refine Lq.nil ?_
  refine Kt.again (k + 1) ⟨by omega, by rw [kinds_take hkl]; omega, by rw [kinds_take hkl]; omega⟩ (by omega) (Sub.cons (by rfl) (Sub.sel [6, 7] rfl)) (fun _ h => h)
 ·
  replace h16 := of_decide_eq_false h16
  refine Wk.exit rfl ?_
  refine Kt.sel [5] [_] rfl ?_
  refine Wk.seq ?_
  refine Wk.regionQ ?_
  refine Lq.run 2 rfl ?_
  refine Lq.nil ?_
  refine Kt.sel [4] [_] rfl ?_
  refine Wk.ret (Kt.end1 rfl rfl fun w' hw => ?_)
  -- ret 0: i6_ (kindsP ((R ++ Q).take k))
  exact ⟨ret_i (by rw [List.take_of_length_le (by omega)]), hw.below⟩

end Go.Proofs.YtjcoijejhachhaaDoor
