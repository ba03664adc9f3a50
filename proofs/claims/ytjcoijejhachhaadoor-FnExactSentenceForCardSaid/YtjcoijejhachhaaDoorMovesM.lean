/-
  Walks: moves and replies.
-/
import Derived.Test.YtjcoijejhachhaaDoorPlain30
import Derived.Test.YtjcoijejhachhaaDoorGamesM
import Derived.Test.YtjcoijejhachhaaDoorBase
namespace Go.Proofs.YtjcoijejhachhaaDoor
open Go.RowKit Go.Wk
set_option linter.unusedSimpArgs false

set_option maxHeartbeats 400000 in
/-- spec.l5Reply -/
theorem l5Reply_ok (a b : St) (xs ys : List Int) (va vb : Value) (w : World) (ha : a.Fine) (hb : b.Fine) (hva : Ints w va xs) (hvb : Ints w vb ys) (hA : a.Els xs) (hB : b.Els ys) (hlen : xs.length = ys.length) (h4 : xs.length ≤ 4) (n : Nat) (h3 : n ≤ 2) (x : Int) (hx : a.El x) :
    Calls Tryd.prog 139 [vS a, va, vS b, vb, i6_ ((n : Int) + 1), i6_ x].toArray w fun en w' => en = .returned (.int .i64 (repI (rep (goB n) a xs b ys x))) ∧ Below w.heap.size w w' := by
 refine fnStart (n := 42) (e := [(0, vS a), (1, va), (2, vS b), (3, vb), (4, i6_ ((n : Int) + 1)), (5, i6_ x)]) Tryd.func139 rfl rfl rfl rfl Ends.both ?_
 have hcn := cnt_small (n := n) (by omega)
 have hn8 := hb.hi
 have hn1 := hb.lo
 refine Wk.seq ?_
 refine Wk.region ?_
 refine Ll.box (v := vS a) rfl rfl rfl rfl rfl fun p6 hp6 => ?_
 show Ll _ _ (Own _ _ [_]) _ _ ((6, pt_ p6) :: _) _ _ _
 refine Ll.box (v := vS b) rfl rfl rfl rfl rfl fun p8 hp8 => ?_
 show Ll _ _ (Own _ _ [_, _]) _ _ ((8, pt_ p8) :: _) _ _ _
 refine Ll.run 1 rfl ?_
 refine Ll.nil ?_
 refine Kt.sel [1, 3, 4, 5, 6, 8] [_, _, _, _, _, _] rfl ?_
 refine Wk.seq ?_
 refine Wk.region ?_
 refine Ll.callGet (σ := Nat × Nat × List Bkt) (ok := fun s => TabOk s.2.2 []) (v := fun s => .agg #[.slice (some ⟨s.1, 0, none⟩) 997 997, .slice (some ⟨s.2.1, 0, none⟩) 1 1]) (xs := []) (vs := []) (hs' := fun s => [bk_ p8 #[i6_ b.n, str b.set, str b.rel] 28, bk_ p6 #[i6_ a.n, str a.set, str a.rel] 28] ++ (tabL 143 3 145 s.1 s.2.1 s.2.2 [] ++ [])) rfl rfl rfl rfl Tryd.call96 rfl (fun w1 hw1 => (l5New_ok _ _ _ w1 hw1).mono fun en w' ⟨q, c, h1, h2⟩ => ⟨(q, c, _), h1, TabOk.new, by dsimp only; rw [List.append_nil]; exact h2.perm perm_front⟩) fun ⟨q, c, bs0⟩ hT0 => ?_
 show Ll _ _ (Own _ _ (_ :: _ :: _ :: _ :: ((blks 145 bs0 ++ [])))) _ _ ((16, .agg #[sl_ q 997 997, sl_ c 1 1]) :: _) _ _ _
 refine Ll.alloc rfl rfl rfl rfl Tryd.zeroValue98 fun p13 hp13 => ?_
 show Ll _ _ (Own _ _ (bk_ p13 #[.slice none 0 0, .slice none 0 0] 98 :: _ :: _ :: _ :: _ :: ((blks 145 bs0 ++ [])))) _ _ ((13, pt_ p13) :: _) _ _ _
 refine Ll.storeBox (cs' := #[sl_ q 997 997, sl_ c 1 1]) (hs' := (bk_ p13 #[sl_ q 997 997, sl_ c 1 1] 98 :: _ :: _ :: _ :: _ :: ((blks 145 bs0 ++ [])))) 0 rfl rfl rfl rfl rfl (by kernel_rfl : _ = some Tryd.t98) rfl rfl rfl rfl rfl ?_
 refine Ll.nil ?_
 refine Kt.sel [1, 3, 4, 5, 6, 8, 13] [_, _, _, _, _, _, _] rfl ?_
 refine Wk.seq ?_
 refine Wk.regionS (S := Own w.heap.size w [bk_ p13 #[sl_ q 997 997, sl_ c 1 1] 98, bk_ p8 #[i6_ b.n, str b.set, str b.rel] 28, bk_ p6 #[i6_ a.n, str a.set, str a.rel] 28]) [(0, true), (1, true), (2, true), (3, true), (5, true), (6, true), (4, false), (7, false), (8, true)] Base.mixed (fun _ h => h.drawn) (by kernel_rfl) ?_
 refine Ld.take rfl rfl rfl rfl rfl (OpQ.loadBox (cs := #[sl_ q 997 997, sl_ c 1 1]) 0 rfl Tryd.isAgg98 rfl rfl Tryd.sizeOf98) (pk [0, 1, 2] rfl rfl) ?_
 refine Ld.take rfl rfl rfl rfl rfl (OpQ.loadBox (cs := #[i6_ a.n, str a.set, str a.rel]) 2 rfl Tryd.isAgg28 rfl rfl Tryd.sizeOf28) (pk [0, 1, 2] rfl rfl) ?_
 refine Ld.run 3 rfl (pk [0, 1, 2] rfl rfl) ?_
 refine Ld.take (v := i6_ ((n : Int))) rfl rfl rfl rfl rfl (OpQ.cast (by congr 1; omega) (OpQ.sub rfl rfl rfl (by omega) (by omega))) (pk [0, 1, 2] rfl rfl) ?_
 refine Ld.loud rfl ?_
 refine Ll.callRow (xs := [.tmp 19, .tmp 20]) (m := (xs ++ [x]).length) (vs := ints (xs ++ [x])) (el := 3) (size := 1) rfl rfl rfl rfl Tryd.call85 rfl (fun w1 hw1 => l4With_ok va xs x w1 (Row.own hva hw1) (by omega)) fun p21 cap21 cur21 hp21 hcp21 hlp21 htp21 => ?_
 refine Ll.nil (Ld.joint (pk [1, 2, 3] rfl rfl) ?_)
 refine Ld.loud rfl ?_
 refine Ll.callTab (S := 143) (I := 3) (E := 145) (q := q) (c := c) (bs := bs0) (T := (([] : List (List UInt8)))) (hs := []) (ok := fun m bs' T' => TabTo (([] : List (List UInt8))) bs' T' (cnt n) ∧ Means T' n a (xs ++ [x]) m) (xs := [.tmp 17, .tmp 18, .tmp 21, .tmp 23]) (vs := [.agg #[sl_ q 997 997, sl_ c 1 1], vS a, sl_ p21 ((xs ++ [x]).length) cap21, i6_ ((n : Int))]) [bk_ p21 cur21 3, bk_ p13 #[sl_ q 997 997, sl_ c 1 1] 98, bk_ p8 #[i6_ b.n, str b.set, str b.rel] 28, bk_ p6 #[i6_ a.n, str a.set, str a.rel] 28] rfl rfl rfl rfl Tryd.call97 rfl (fun w1 hw1 => type_ok n w.heap.size w ([bk_ p21 cur21 3, bk_ p13 #[sl_ q 997 997, sl_ c 1 1] 98, bk_ p8 #[i6_ b.n, str b.set, str b.rel] 28, bk_ p6 #[i6_ a.n, str a.set, str a.rel] 28] ++ []) q c bs0 (([] : List (List UInt8))) a (sl_ p21 ((xs ++ [x]).length) cap21) (xs ++ [x]) w1 hT0 ha (fun w2 hw2 => (Own.row hw2 (i := 0) rfl (by simpa using htp21) (by simp) hlp21)) (els_more hA hx) (by simp; omega) (by simp only [List.length_nil]; omega) hw1) fun m bs_ T_ hKm => ?_
 show Ll _ _ (Own _ _ (_ :: _ :: _ :: _ :: _ :: _ :: ((blks 145 bs_ ++ [])))) _ _ ((24, i6_ ((m : Int))) :: _) _ _ _
 refine Ll.nil (Ld.joint (pk [1, 2, 3] rfl rfl) ?_)
 refine Ld.run 1 rfl (pk [1, 2, 3] rfl rfl) ?_
 refine Ld.nil ?_
 refine Kt.sel [3, 4, 8, 13, 14] [_, _, _, _, _] rfl ?_
 refine Wk.seq ?_
 refine Wk.seq ?_
 refine Wk.regionQ ?_
 refine Lq.run 1 rfl ?_
 refine Lq.nil ?_
 refine Kt.sel [3, 4, 8, 13, 14, 15] [_, _, _, _, _, _] rfl ?_
 refine Wk.block ?_
 refine Wk.loop (σ := Nat × List Bkt × List (List UInt8)) (fun ⟨k, bs1, T1⟩ => (k : Int) ≤ b.n ∧ TabTo T_ bs1 T1 (k * cnt n) ∧ Means T1 n a (xs ++ [x]) m ∧ ∀ i : Nat, i < k → winB n a (xs ++ [x]) b (ys ++ [(i : Int)]) = false) (fun ⟨k, bs1, T1⟩ => [(3, vb), (4, i6_ ((n : Int) + 1)), (8, pt_ p8), (13, pt_ p13), (14, i6_ ((m : Int))), (15, i6_ ((k : Int)))]) (fun ⟨k, bs1, T1⟩ => Own w.heap.size w (bk_ p21 cur21 3 :: bk_ p13 #[sl_ q 997 997, sl_ c 1 1] 98 :: bk_ p8 #[i6_ b.n, str b.set, str b.rel] 28 :: bk_ p6 #[i6_ a.n, str a.set, str a.rel] 28 :: bk_ q ((bs1.map bktV).toArray) 143 :: bk_ c #[i6_ ((T1.length : Int))] 3 :: ((blks 145 bs1 ++ [])))) (fun ⟨k, bs1, T1⟩ => (b.n - k).toNat) ((0, bs_, T_)) ⟨by omega, ⟨hKm.1.ok, List.prefix_refl _, by omega⟩, hKm.2, fun i hi => absurd hi (by omega)⟩ (Sub.sel [3, 4, 8, 13, 14, 15] rfl) (fun _ h => h) ?_
 rintro ⟨k, bs1, T1⟩ ⟨hk, hTT, hM, hall⟩
 dsimp only
 have hTl := hTT.len
 have hTl0 := hKm.1.len
 simp only [List.length_nil] at hTl0
 have hk8 := cnt_le k n (by omega)
 refine Wk.seq ?_
 refine Wk.seq ?_
 refine Wk.regionQ ?_
 refine Lq.run 1 rfl ?_
 refine Lq.op rfl rfl rfl (OpQ.fieldAddr rfl Tryd.runUnderlying28 rfl Tryd.sizeOf3 rfl rfl) ?_
 refine Lq.op rfl rfl rfl (OpQ.loadOwn 2 rfl Tryd.isAgg3 rfl rfl rfl) ?_
 refine Lq.run 1 rfl ?_
 refine Lq.nil ?_
 refine Kt.sel [3, 4, 8, 13, 14, 15, 28] [_, _, _, _, _, _, _] rfl ?_
 refine Wk.cond (b := decide (((k : Int)) < b.n)) rfl (fun h28 => ?_) (fun h28 => ?_)
 ·
  replace h28 := of_decide_eq_true h28
  have hy : b.El k := ⟨by omega, by omega⟩
  refine Wk.skip ?_
  refine Kt.sel [3, 4, 8, 13, 14, 15] [_, _, _, _, _, _] rfl ?_
  refine Wk.seq ?_
  refine Wk.block ?_
  refine Wk.seq ?_
  refine Wk.regionS (S := Own w.heap.size w [bk_ p21 cur21 3, bk_ p13 #[sl_ q 997 997, sl_ c 1 1] 98, bk_ p8 #[i6_ b.n, str b.set, str b.rel] 28, bk_ p6 #[i6_ a.n, str a.set, str a.rel] 28]) [(0, true), (1, true), (2, true), (3, true), (5, true), (6, true), (8, true), (4, false), (7, false), (9, true)] Base.mixed (fun _ h => h.drawn) (by kernel_rfl) ?_
  refine Ld.take rfl rfl rfl rfl rfl (OpQ.loadBox (cs := #[sl_ q 997 997, sl_ c 1 1]) 1 rfl Tryd.isAgg98 rfl rfl Tryd.sizeOf98) (pk [0, 1, 2, 3] rfl rfl) ?_
  refine Ld.take rfl rfl rfl rfl rfl (OpQ.loadBox (cs := #[i6_ b.n, str b.set, str b.rel]) 2 rfl Tryd.isAgg28 rfl rfl Tryd.sizeOf28) (pk [0, 1, 2, 3] rfl rfl) ?_
  refine Ld.run 3 rfl (pk [0, 1, 2, 3] rfl rfl) ?_
  refine Ld.take (v := i6_ ((n : Int))) rfl rfl rfl rfl rfl (OpQ.cast (by congr 1; omega) (OpQ.sub rfl rfl rfl (by omega) (by omega))) (pk [0, 1, 2, 3] rfl rfl) ?_
  refine Ld.run 1 rfl (pk [0, 1, 2, 3] rfl rfl) ?_
  refine Ld.loud rfl ?_
  refine Ll.callRow (xs := [.tmp 33, .tmp 34]) (m := (ys ++ [(k : Int)]).length) (vs := ints (ys ++ [(k : Int)])) (el := 3) (size := 1) rfl rfl rfl rfl Tryd.call85 rfl (fun w1 hw1 => l4With_ok vb ys ((k : Int)) w1 (Row.own hvb hw1) (by omega)) fun p35 cap35 cur35 hp35 hcp35 hlp35 htp35 => ?_
  refine Ll.nil (Ld.joint (pk [1, 2, 3, 4] rfl rfl) ?_)
  refine Ld.loud rfl ?_
  refine Ll.callTab (S := 143) (I := 3) (E := 145) (q := q) (c := c) (bs := bs1) (T := T1) (hs := []) (ok := fun m bs' T' => TabTo T1 bs' T' (cnt n) ∧ Means T' n b (ys ++ [(k : Int)]) m) (xs := [.tmp 31, .tmp 32, .tmp 35, .tmp 37]) (vs := [.agg #[sl_ q 997 997, sl_ c 1 1], vS b, sl_ p35 ((ys ++ [(k : Int)]).length) cap35, i6_ ((n : Int))]) [bk_ p35 cur35 3, bk_ p21 cur21 3, bk_ p13 #[sl_ q 997 997, sl_ c 1 1] 98, bk_ p8 #[i6_ b.n, str b.set, str b.rel] 28, bk_ p6 #[i6_ a.n, str a.set, str a.rel] 28] rfl rfl rfl rfl Tryd.call97 rfl (fun w1 hw1 => type_ok n w.heap.size w ([bk_ p35 cur35 3, bk_ p21 cur21 3, bk_ p13 #[sl_ q 997 997, sl_ c 1 1] 98, bk_ p8 #[i6_ b.n, str b.set, str b.rel] 28, bk_ p6 #[i6_ a.n, str a.set, str a.rel] 28] ++ []) q c bs1 T1 b (sl_ p35 ((ys ++ [(k : Int)]).length) cap35) (ys ++ [(k : Int)]) w1 hTT.ok hb (fun w2 hw2 => (Own.row hw2 (i := 0) rfl (by simpa using htp35) (by simp) hlp35)) (els_more hB hy) (by simp; omega) (by omega) hw1) fun m_1 bs__1 T__1 hKm_1 => ?_
  show Ll _ _ (Own _ _ (_ :: _ :: _ :: _ :: _ :: _ :: _ :: ((blks 145 bs__1 ++ [])))) _ _ ((38, i6_ ((m_1 : Int))) :: _) _ _ _
  refine Ll.nil (Ld.joint (pk [1, 2, 3, 4] rfl rfl) ?_)
  refine Ld.run 1 rfl (pk [1, 2, 3, 4] rfl rfl) ?_
  refine Ld.nil ?_
  refine Kt.sel [3, 4, 8, 13, 14, 15, 40] [_, _, _, _, _, _, _] rfl ?_
  refine Wk.cond (b := decide (((m_1 : Int)) = ((m : Int)))) rfl (fun h40 => ?_) (fun h40 => ?_)
  ·
   replace h40 := of_decide_eq_true h40
   have hwe := winB_eq (n := n) (xs := xs ++ [x]) (ys := ys ++ [(k : Int)]) hKm_1.1.ok.nodup (by simp [hlen]) (hM.mono hKm_1.1.pre _ _ _ _) hKm_1.2
   have hyw : winB n a (xs ++ [x]) b (ys ++ [(k : Int)]) = true := by rw [← hwe]; simpa using h40.symm
   refine Wk.seq ?_
   refine Wk.regionQ ?_
   refine Lq.run 2 rfl ?_
   refine Lq.nil ?_
   refine Kt.sel [12] [_] rfl ?_
   refine Wk.ret (Kt.end1 rfl rfl fun w' hw => ?_)
   -- ret 0: i6_ ((k : Int))
   exact ⟨ret_i (repI_at hlen (by omega) hall hyw).symm, hw.below⟩
  ·
   replace h40 := of_decide_eq_false h40
   have hwe := winB_eq (n := n) (xs := xs ++ [x]) (ys := ys ++ [(k : Int)]) hKm_1.1.ok.nodup (by simp [hlen]) (hM.mono hKm_1.1.pre _ _ _ _) hKm_1.2
   have hnw : winB n a (xs ++ [x]) b (ys ++ [(k : Int)]) = false := by rw [← hwe]; simpa using fun e => h40 e.symm
   refine Wk.skip ?_
   refine Kt.sel [3, 4, 8, 13, 14, 15] [_, _, _, _, _, _] rfl ?_
   refine Wk.regionQ ?_
   refine Lq.run 1 rfl ?_
   refine Lq.op rfl rfl rfl (OpQ.add rfl rfl rfl (by omega) (by omega)) ?_
   refine Lq.run 1 rfl ?_
   refine Lq.nil ?_
   refine Kt.again ((k + 1, bs__1, T__1)) ⟨by omega, hTT.trans hKm_1.1 (by rw [Nat.add_mul, Nat.one_mul]; exact Nat.le_refl _), hM.mono hKm_1.1.pre _ _ _ _, fun i hi => (Nat.lt_succ_iff_lt_or_eq.1 hi).elim (hall i) (fun e => by subst e; exact hnw)⟩ (by omega) (Sub.sel [3, 4, 8, 13, 14, 15] rfl) (fun _ h => h.tail)
 ·
  replace h28 := of_decide_eq_false h28
  refine Wk.exit rfl ?_
  refine Kt.sel [] [] rfl ?_
  refine Wk.seq ?_
  refine Wk.regionQ ?_
  refine Lq.run 1 rfl ?_
  refine Lq.nil ?_
  refine Kt.sel [12] [_] rfl ?_
  refine Wk.ret (Kt.end1 rfl rfl fun w' hw => ?_)
  -- ret 1: i6_ (-1)
  exact ⟨ret_i (repI_no hlen (fun i hi => hall i (by omega))).symm, hw.below⟩

theorem l5Reply_at (r : Int) (h1 : 1 ≤ r) (h3 : r ≤ 3) (a b : St) (xs ys : List Int) (va vb : Value) (w : World) (ha : a.Fine) (hb : b.Fine) (hva : Ints w va xs) (hvb : Ints w vb ys) (hA : a.Els xs) (hB : b.Els ys) (hlen : xs.length = ys.length) (h4 : xs.length ≤ 4) (x : Int) (hx : a.El x) :
    Calls Tryd.prog 139 #[vS a, va, vS b, vb, .int .i64 r, .int .i64 x] w fun en w' => en = .returned (.int .i64 (repI (rep (goB (r - 1).toNat) a xs b ys x))) ∧ Below w.heap.size w w' := by
  have h := l5Reply_ok a b xs ys va vb w ha hb hva hvb hA hB hlen h4 (r - 1).toNat (by omega) x hx
  rw [show (((r - 1).toNat : Int) + 1) = r from by omega] at h
  exact h
theorem reply_to (r : Int) (h1 : 1 ≤ r) : ∀ (a b : St) (xs ys : List Int) (va vb : Value) (w : World), a.Fine → b.Fine → Ints w va xs → Ints w vb ys → a.Els xs → b.Els ys → xs.length = ys.length → xs.length + ((r - 1).toNat + 1) ≤ 7 → ∀ x : Int, a.El x → Calls Tryd.prog 140 #[vS a, va, vS b, vb, .int .i64 r, .int .i64 x] w fun en w' => en = .returned (.tuple #[.int .i64 (((rep (goB (r - 1).toNat) a xs b ys x).getD 0 : Nat) : Int), .bool (rep (goB (r - 1).toNat) a xs b ys x).isSome]) ∧ Below w.heap.size w w' := by
  intro a b xs ys va vb w ha hb hva hvb hA hB hl h7 x hx
  have h := reply_at (r - 1) (by omega) a b xs ys va vb w ha hb hva hvb hA hB hl h7 x hx
  rw [show r - 1 + 1 = r from by omega] at h
  exact h

set_option maxHeartbeats 400000 in
/-- impl.firstMove -/
theorem firstMove_ok (a b : St) (xs ys : List Int) (va vb : Value) (w : World) (ha : a.Fine) (hb : b.Fine) (hva : Ints w va xs) (hvb : Ints w vb ys) (hA : a.Els xs) (hB : b.Els ys) (hlen : xs.length = ys.length) (h4 : xs.length ≤ 4) (r : Int) (h0 : 0 ≤ r) (h3 : r ≤ 3) :
    Calls Tryd.prog 104 [vS a, va, vS b, vb, i6_ r].toArray w fun en w' => en = .returned (.tuple #[str (sideS (if sameB a xs b ys && decide (1 ≤ r) then moveO (r - 1).toNat a xs b ys else none)), .int .i64 (moveI (if sameB a xs b ys && decide (1 ≤ r) then moveO (r - 1).toNat a xs b ys else none)), .bool (if sameB a xs b ys && decide (1 ≤ r) then moveO (r - 1).toNat a xs b ys else none).isSome]) ∧ Below w.heap.size w w' := by
 refine fnStart (n := 67) (e := [(0, vS a), (1, va), (2, vS b), (3, vb), (4, i6_ r)]) Tryd.func104 rfl rfl rfl rfl Ends.both ?_
 have hn8 := hb.hi
 have hn1 := hb.lo
 have hm8 := ha.hi
 have hm1 := ha.lo
 refine Wk.seq ?_
 refine Wk.region ?_
 refine Ll.box (v := vS a) rfl rfl rfl rfl rfl fun p5 hp5 => ?_
 show Ll _ _ (Own _ _ [_]) _ _ ((5, pt_ p5) :: _) _ _ _
 refine Ll.box (v := vS b) rfl rfl rfl rfl rfl fun p7 hp7 => ?_
 show Ll _ _ (Own _ _ [_, _]) _ _ ((7, pt_ p7) :: _) _ _ _
 refine Ll.op (v := str ([])) rfl rfl rfl (OpQ.assign rfl rfl) ?_
 refine Ll.run 2 rfl ?_
 refine Ll.nil ?_
 refine Kt.sel [1, 3, 4, 5, 7] [_, _, _, _, _] rfl ?_
 refine Wk.seq ?_
 refine Wk.seq ?_
 refine Wk.regionQ ?_
 refine Lq.op rfl rfl rfl (OpQ.loadBox (cs := #[i6_ a.n, str a.set, str a.rel]) 1 rfl Tryd.isAgg28 rfl rfl Tryd.sizeOf28) ?_
 refine Lq.run 1 rfl ?_
 refine Lq.op rfl rfl rfl (OpQ.loadBox (cs := #[i6_ b.n, str b.set, str b.rel]) 0 rfl Tryd.isAgg28 rfl rfl Tryd.sizeOf28) ?_
 refine Lq.run 1 rfl ?_
 refine Lq.op (v := bo_ (sameB a xs b ys)) rfl rfl rfl (OpQ.call rfl Tryd.call76 rfl Own.stable (fun w1 hw1 => sameWay_ok a b xs ys va vb w1 ha hb (Row.own hva hw1) (Row.own hvb hw1) hA hB (by omega) (by omega))) ?_
 refine Lq.run 2 rfl ?_
 refine Lq.bool fun b25 hg25 => ?_
 cases b25
 ·
  replace hg25 := not_false hg25
  refine Lq.run 3 rfl ?_
  refine Lq.nil ?_
  refine Kt.sel [1, 3, 4, 5, 7, 28] [_, _, _, _, _, _] rfl ?_
  refine Wk.cond (b := decide (r = (0 : Int))) rfl (fun h28 => ?_) (fun h28 => ?_)
  ·
   replace h28 := of_decide_eq_true h28
   refine Wk.seq ?_
   refine Wk.regionQ ?_
   refine Lq.op (v := str ([])) rfl rfl rfl (OpQ.assign rfl rfl) ?_
   refine Lq.run 2 rfl ?_
   refine Lq.nil ?_
   refine Kt.sel [10, 11, 12] [_, _, _] rfl ?_
   refine Wk.ret (Kt.end3 rfl rfl rfl rfl fun w' hw => ?_)
   -- ret 0: str ([]); i6_ 0; bo_ false
   first | exact ⟨by rw [if_pos (by rw [hsame]; simp [h1]), move_none (fun i hi => hall1 i (by omega)) (fun i hi => hall2 i (by omega))]; rfl, hw.below⟩ | exact ⟨by rw [if_neg (by first | (simp_all; done) | (simp_all; omega))]; rfl, hw.below⟩
  ·
   replace h28 := of_decide_eq_false h28
   have hsame : sameB a xs b ys = true := by simp_all
   have h1 : 1 ≤ r := by omega
   refine Wk.skip ?_
   refine Kt.sel [1, 3, 4, 5, 7] [_, _, _, _, _] rfl ?_
   refine Wk.seq ?_
   refine Wk.seq ?_
   refine Wk.regionQ ?_
   refine Lq.op rfl rfl rfl (OpQ.fieldAddr rfl Tryd.runUnderlying28 rfl Tryd.sizeOf3 rfl rfl) ?_
   refine Lq.op rfl rfl rfl (OpQ.loadOwn 1 rfl Tryd.isAgg3 rfl rfl rfl) ?_
   refine Lq.run 1 rfl ?_
   refine Lq.nil ?_
   refine Kt.sel [1, 3, 4, 5, 7, 30, 31] [_, _, _, _, _, _, _] rfl ?_
   refine Wk.block ?_
   refine Wk.loop (σ := Nat) (fun k => (k : Int) ≤ a.n ∧ ∀ i : Nat, i < k → (rep (goB (r - 1).toNat) a xs b ys i).isSome = true) (fun k => [(1, va), (3, vb), (4, i6_ r), (5, pt_ p5), (7, pt_ p7), (30, i6_ a.n), (31, i6_ ((k : Int)))]) (fun k => Own w.heap.size w [bk_ p7 #[i6_ b.n, str b.set, str b.rel] 28, bk_ p5 #[i6_ a.n, str a.set, str a.rel] 28]) (fun k => (a.n - k).toNat) (0) ⟨by omega, fun i hi => absurd hi (by omega)⟩ (Sub.sel [1, 3, 4, 5, 7, 30, 31] rfl) (fun _ h => h) ?_
   rintro k ⟨hk1, hall1⟩
   refine Wk.seq ?_
   refine Wk.regionQ ?_
   refine Lq.run 1 rfl ?_
   refine Lq.nil ?_
   refine Kt.sel [1, 3, 4, 5, 7, 30, 31, 32] [_, _, _, _, _, _, _, _] rfl ?_
   refine Wk.seq ?_
   refine Wk.cond (b := decide (((k : Int)) < a.n)) rfl (fun h32 => ?_) (fun h32 => ?_)
   ·
    replace h32 := of_decide_eq_true h32
    have hx : a.El k := ⟨by omega, by omega⟩
    refine Wk.skip ?_
    refine Kt.sel [1, 3, 4, 5, 7, 30, 31] [_, _, _, _, _, _, _] rfl ?_
    refine Wk.seq ?_
    refine Wk.block ?_
    refine Wk.seq ?_
    refine Wk.regionQ ?_
    refine Lq.run 2 rfl ?_
    refine Lq.nil ?_
    refine Kt.sel [1, 3, 4, 5, 7, 13, 30, 31] [_, _, _, _, _, _, _, _] rfl ?_
    refine Wk.seq ?_
    refine Wk.regionQ ?_
    refine Lq.op rfl rfl rfl (OpQ.loadBox (cs := #[i6_ a.n, str a.set, str a.rel]) 1 rfl Tryd.isAgg28 rfl rfl Tryd.sizeOf28) ?_
    refine Lq.run 1 rfl ?_
    refine Lq.op rfl rfl rfl (OpQ.loadBox (cs := #[i6_ b.n, str b.set, str b.rel]) 0 rfl Tryd.isAgg28 rfl rfl Tryd.sizeOf28) ?_
    refine Lq.run 3 rfl ?_
    refine Lq.op (v := .tuple #[i6_ ((((rep (goB (r - 1).toNat) a xs b ys ((k : Int))).getD 0 : Nat) : Int)), bo_ ((rep (goB (r - 1).toNat) a xs b ys ((k : Int))).isSome)]) rfl rfl rfl (OpQ.call rfl Tryd.call140 rfl Own.stable (fun w1 hw1 => reply_to r h1 a b xs ys va vb w1 ha hb (Row.own hva hw1) (Row.own hvb hw1) hA hB (by first | (simp; done) | (simp; omega) | omega) (by first | (simp; done) | (simp; omega) | omega) ((k : Int)) hx)) ?_
    refine Lq.run 1 rfl ?_
    refine Lq.op (v := i6_ ((((rep (goB (r - 1).toNat) a xs b ys ((k : Int))).getD 0 : Nat) : Int))) rfl rfl rfl (OpQ.extract rfl rfl rfl) ?_
    refine Lq.op (v := bo_ ((rep (goB (r - 1).toNat) a xs b ys ((k : Int))).isSome)) rfl rfl rfl (OpQ.extract rfl rfl rfl) ?_
    refine Lq.run 2 rfl ?_
    refine Lq.nil ?_
    refine Kt.sel [1, 3, 4, 5, 7, 13, 15, 30, 31] [_, _, _, _, _, _, _, _, _] rfl ?_
    refine Wk.seq ?_
    refine Wk.regionQ ?_
    refine Lq.run 2 rfl ?_
    refine Lq.nil ?_
    refine Kt.sel [1, 3, 4, 5, 7, 13, 30, 31, 45] [_, _, _, _, _, _, _, _, _] rfl ?_
    refine Wk.cond (b := !((rep (goB (r - 1).toNat) a xs b ys ((k : Int))).isSome)) rfl (fun h45 => ?_) (fun h45 => ?_)
    ·
     replace h45 := not_true h45
     refine Wk.seq ?_
     refine Wk.regionQ ?_
     refine Lq.run 1 rfl ?_
     refine Lq.op (v := str ([97])) rfl rfl rfl (OpQ.assign rfl rfl) ?_
     refine Lq.run 2 rfl ?_
     refine Lq.nil ?_
     refine Kt.sel [10, 11, 12] [_, _, _] rfl ?_
     refine Wk.ret (Kt.end3 rfl rfl rfl rfl fun w' hw => ?_)
     -- ret 1: str ([97]); i6_ ((k : Int)); bo_ true
     have hs1 : (rep (goB (r - 1).toNat) a xs b ys k).isSome = false := by simpa using h45
     exact ⟨by rw [if_pos (by rw [hsame]; simp [h1]), move_1 (k := k) (by omega) hall1 hs1]; rfl, hw.below⟩
    ·
     replace h45 := not_false h45
     refine Wk.skip ?_
     refine Kt.sel [1, 3, 4, 5, 7, 30, 31] [_, _, _, _, _, _, _] rfl ?_
     refine Wk.regionQ ?_
     refine Lq.op rfl rfl rfl (OpQ.add rfl rfl rfl (by omega) (by omega)) ?_
     refine Lq.run 1 rfl ?_
     refine Lq.nil ?_
     refine Kt.again (k + 1) ⟨by omega, fun i hi => (Nat.lt_succ_iff_lt_or_eq.1 hi).elim (hall1 i) (fun e => by subst e; assumption)⟩ (by omega) (Sub.sel [1, 3, 4, 5, 7, 30, 31] rfl) (fun _ h => h)
   ·
    replace h32 := of_decide_eq_false h32
    refine Wk.exit rfl ?_
    refine Kt.sel [1, 3, 4, 5, 7] [_, _, _, _, _] rfl ?_
    refine Wk.seq ?_
    refine Wk.seq ?_
    refine Wk.regionQ ?_
    refine Lq.op rfl rfl rfl (OpQ.fieldAddr rfl Tryd.runUnderlying28 rfl Tryd.sizeOf3 rfl rfl) ?_
    refine Lq.op rfl rfl rfl (OpQ.loadOwn 0 rfl Tryd.isAgg3 rfl rfl rfl) ?_
    refine Lq.run 1 rfl ?_
    refine Lq.nil ?_
    refine Kt.sel [1, 3, 4, 5, 7, 49, 50] [_, _, _, _, _, _, _] rfl ?_
    refine Wk.block ?_
    refine Wk.loop (σ := Nat) (fun m => (m : Int) ≤ b.n ∧ ∀ i : Nat, i < m → (rep (goB (r - 1).toNat) b ys a xs i).isSome = true) (fun m => [(1, va), (3, vb), (4, i6_ r), (5, pt_ p5), (7, pt_ p7), (49, i6_ b.n), (50, i6_ ((m : Int)))]) (fun m => Own w.heap.size w [bk_ p7 #[i6_ b.n, str b.set, str b.rel] 28, bk_ p5 #[i6_ a.n, str a.set, str a.rel] 28]) (fun m => (b.n - m).toNat) (0) ⟨by omega, fun i hi => absurd hi (by omega)⟩ (Sub.sel [1, 3, 4, 5, 7, 49, 50] rfl) (fun _ h => h) ?_
    rintro m ⟨hk2, hall2⟩
    refine Wk.seq ?_
    refine Wk.regionQ ?_
    refine Lq.run 1 rfl ?_
    refine Lq.nil ?_
    refine Kt.sel [1, 3, 4, 5, 7, 49, 50, 51] [_, _, _, _, _, _, _, _] rfl ?_
    refine Wk.seq ?_
    refine Wk.cond (b := decide (((m : Int)) < b.n)) rfl (fun h51 => ?_) (fun h51 => ?_)
    ·
     replace h51 := of_decide_eq_true h51
     have hy : b.El m := ⟨by omega, by omega⟩
     refine Wk.skip ?_
     refine Kt.sel [1, 3, 4, 5, 7, 49, 50] [_, _, _, _, _, _, _] rfl ?_
     refine Wk.seq ?_
     refine Wk.block ?_
     refine Wk.seq ?_
     refine Wk.regionQ ?_
     refine Lq.run 2 rfl ?_
     refine Lq.nil ?_
     refine Kt.sel [1, 3, 4, 5, 7, 16, 49, 50] [_, _, _, _, _, _, _, _] rfl ?_
     refine Wk.seq ?_
     refine Wk.regionQ ?_
     refine Lq.op rfl rfl rfl (OpQ.loadBox (cs := #[i6_ b.n, str b.set, str b.rel]) 0 rfl Tryd.isAgg28 rfl rfl Tryd.sizeOf28) ?_
     refine Lq.run 1 rfl ?_
     refine Lq.op rfl rfl rfl (OpQ.loadBox (cs := #[i6_ a.n, str a.set, str a.rel]) 1 rfl Tryd.isAgg28 rfl rfl Tryd.sizeOf28) ?_
     refine Lq.run 3 rfl ?_
     refine Lq.op (v := .tuple #[i6_ ((((rep (goB (r - 1).toNat) b ys a xs ((m : Int))).getD 0 : Nat) : Int)), bo_ ((rep (goB (r - 1).toNat) b ys a xs ((m : Int))).isSome)]) rfl rfl rfl (OpQ.call rfl Tryd.call140 rfl Own.stable (fun w1 hw1 => reply_to r h1 b a ys xs vb va w1 hb ha (Row.own hvb hw1) (Row.own hva hw1) hB hA (by first | (simp; done) | (simp; omega) | omega) (by first | (simp; done) | (simp; omega) | omega) ((m : Int)) hy)) ?_
     refine Lq.run 1 rfl ?_
     refine Lq.op (v := i6_ ((((rep (goB (r - 1).toNat) b ys a xs ((m : Int))).getD 0 : Nat) : Int))) rfl rfl rfl (OpQ.extract rfl rfl rfl) ?_
     refine Lq.op (v := bo_ ((rep (goB (r - 1).toNat) b ys a xs ((m : Int))).isSome)) rfl rfl rfl (OpQ.extract rfl rfl rfl) ?_
     refine Lq.run 2 rfl ?_
     refine Lq.nil ?_
     refine Kt.sel [1, 3, 4, 5, 7, 16, 18, 49, 50] [_, _, _, _, _, _, _, _, _] rfl ?_
     refine Wk.seq ?_
     refine Wk.regionQ ?_
     refine Lq.run 2 rfl ?_
     refine Lq.nil ?_
     refine Kt.sel [1, 3, 4, 5, 7, 16, 49, 50, 64] [_, _, _, _, _, _, _, _, _] rfl ?_
     refine Wk.cond (b := !((rep (goB (r - 1).toNat) b ys a xs ((m : Int))).isSome)) rfl (fun h64 => ?_) (fun h64 => ?_)
     ·
      replace h64 := not_true h64
      refine Wk.seq ?_
      refine Wk.regionQ ?_
      refine Lq.run 1 rfl ?_
      refine Lq.op (v := str ([98])) rfl rfl rfl (OpQ.assign rfl rfl) ?_
      refine Lq.run 2 rfl ?_
      refine Lq.nil ?_
      refine Kt.sel [10, 11, 12] [_, _, _] rfl ?_
      refine Wk.ret (Kt.end3 rfl rfl rfl rfl fun w' hw => ?_)
      -- ret 2: str ([98]); i6_ ((m : Int)); bo_ true
      have hs2 : (rep (goB (r - 1).toNat) b ys a xs m).isSome = false := by simpa using h64
      exact ⟨by rw [if_pos (by rw [hsame]; simp [h1]), move_2 (k := m) (fun i hi => hall1 i (by omega)) (by omega) hall2 hs2]; rfl, hw.below⟩
     ·
      replace h64 := not_false h64
      refine Wk.skip ?_
      refine Kt.sel [1, 3, 4, 5, 7, 49, 50] [_, _, _, _, _, _, _] rfl ?_
      refine Wk.regionQ ?_
      refine Lq.op rfl rfl rfl (OpQ.add rfl rfl rfl (by omega) (by omega)) ?_
      refine Lq.run 1 rfl ?_
      refine Lq.nil ?_
      refine Kt.again (m + 1) ⟨by omega, fun i hi => (Nat.lt_succ_iff_lt_or_eq.1 hi).elim (hall2 i) (fun e => by subst e; assumption)⟩ (by omega) (Sub.sel [1, 3, 4, 5, 7, 49, 50] rfl) (fun _ h => h)
    ·
     replace h51 := of_decide_eq_false h51
     refine Wk.exit rfl ?_
     refine Kt.sel [] [] rfl ?_
     refine Wk.seq ?_
     refine Wk.regionQ ?_
     refine Lq.op (v := str ([])) rfl rfl rfl (OpQ.assign rfl rfl) ?_
     refine Lq.run 2 rfl ?_
     refine Lq.nil ?_
     refine Kt.sel [10, 11, 12] [_, _, _] rfl ?_
     refine Wk.ret (Kt.end3 rfl rfl rfl rfl fun w' hw => ?_)
     -- ret 3: str ([]); i6_ 0; bo_ false
     first | exact ⟨by rw [if_pos (by rw [hsame]; simp [h1]), move_none (fun i hi => hall1 i (by omega)) (fun i hi => hall2 i (by omega))]; rfl, hw.below⟩ | exact ⟨by rw [if_neg (by first | (simp_all; done) | (simp_all; omega))]; rfl, hw.below⟩
 ·
  replace hg25 := not_true hg25
  refine Lq.pass rfl rfl rfl ?_
  refine Lq.pass rfl rfl rfl ?_
  refine Lq.run 1 rfl ?_
  refine Lq.nil ?_
  refine Kt.sel [1, 3, 4, 5, 7, 28] [_, _, _, _, _, _] rfl ?_
  refine Wk.condT rfl ?_
  refine Wk.seq ?_
  refine Wk.regionQ ?_
  refine Lq.op (v := str ([])) rfl rfl rfl (OpQ.assign rfl rfl) ?_
  refine Lq.run 2 rfl ?_
  refine Lq.nil ?_
  refine Kt.sel [10, 11, 12] [_, _, _] rfl ?_
  refine Wk.ret (Kt.end3 rfl rfl rfl rfl fun w' hw => ?_)
  -- ret 4: str ([]); i6_ 0; bo_ false
  first | exact ⟨by rw [if_pos (by rw [hsame]; simp [h1]), move_none (fun i hi => hall1 i (by omega)) (fun i hi => hall2 i (by omega))]; rfl, hw.below⟩ | exact ⟨by rw [if_neg (by first | (simp_all; done) | (simp_all; omega))]; rfl, hw.below⟩

set_option maxHeartbeats 400000 in
/-- spec.FirstMove -/
theorem sMove_ok (a b : St) (xs ys : List Int) (va vb : Value) (w : World) (hsa : a.Small) (hsb : b.Small) (hva : Ints w va xs) (hvb : Ints w vb ys) (hs1 : xs.length ≤ 140737488355328) (hs2 : ys.length ≤ 140737488355328) (loa : -9223372036854775808 ≤ a.n) (hia : a.n ≤ 9223372036854775807) (lob : -9223372036854775808 ≤ b.n) (hib : b.n ≤ 9223372036854775807) (r : Int) :
    Calls Tryd.prog 100 [vS a, va, vS b, vb, i6_ r].toArray w fun en w' => en = .returned (.tuple #[str (sideS (fmO a xs b ys r)), .int .i64 (moveI (fmO a xs b ys r)), .bool (fmO a xs b ys r).isSome]) ∧ Below w.heap.size w w' := by
 refine fnStart (n := 64) (e := [(0, vS a), (1, va), (2, vS b), (3, vb), (4, i6_ r)]) Tryd.func100 rfl rfl rfl rfl Ends.both ?_
 refine Wk.seq ?_
 refine Wk.region ?_
 refine Ll.box (v := vS a) rfl rfl rfl rfl rfl fun p5 hp5 => ?_
 show Ll _ _ (Own _ _ [_]) _ _ ((5, pt_ p5) :: _) _ _ _
 refine Ll.box (v := vS b) rfl rfl rfl rfl rfl fun p7 hp7 => ?_
 show Ll _ _ (Own _ _ [_, _]) _ _ ((7, pt_ p7) :: _) _ _ _
 refine Ll.op (v := str ([])) rfl rfl rfl (OpQ.assign rfl rfl) ?_
 refine Ll.run 2 rfl ?_
 refine Ll.nil ?_
 refine Kt.sel [1, 3, 4, 5, 7] [_, _, _, _, _] rfl ?_
 refine Wk.seq ?_
 refine Wk.seq ?_
 refine Wk.regionQ ?_
 refine Lq.op rfl rfl rfl (OpQ.loadBox (cs := #[i6_ a.n, str a.set, str a.rel]) 1 rfl Tryd.isAgg28 rfl rfl Tryd.sizeOf28) ?_
 refine Lq.run 1 rfl ?_
 refine Lq.op rfl rfl rfl (OpQ.loadBox (cs := #[i6_ b.n, str b.set, str b.rel]) 0 rfl Tryd.isAgg28 rfl rfl Tryd.sizeOf28) ?_
 refine Lq.run 2 rfl ?_
 refine Lq.op (v := bo_ (gameB a xs b ys r)) rfl rfl rfl (OpQ.call rfl Tryd.call46 rfl Own.stable (fun w1 hw1 => l5Ready_ok a b xs ys va vb w1 hsa hsb (Row.own hva hw1) (Row.own hvb hw1) (by first | (simp; done) | (simp; omega) | omega) (by first | (simp; done) | (simp; omega) | omega) loa hia lob hib r)) ?_
 refine Lq.run 2 rfl ?_
 refine Lq.bool fun b22 hg22 => ?_
 cases b22
 ·
  replace hg22 := not_false hg22
  replace hg22 : gameB a xs b ys r = true := by simpa using hg22
  obtain ⟨hLL, hr0, hr3⟩ := gameB_true hg22
  obtain ⟨LA, LB, hlen⟩ := listsB_true hLL
  have ha := LA.fine
  have hb := LB.fine
  have hA := LA.els
  have hB := LB.els
  have hl4 := LA.len
  have hn8 := hb.hi
  have hn1 := hb.lo
  have hm8 := ha.hi
  have hm1 := ha.lo
  refine Lq.op rfl rfl rfl (OpQ.loadBox (cs := #[i6_ a.n, str a.set, str a.rel]) 1 rfl Tryd.isAgg28 rfl rfl Tryd.sizeOf28) ?_
  refine Lq.run 1 rfl ?_
  refine Lq.op rfl rfl rfl (OpQ.loadBox (cs := #[i6_ b.n, str b.set, str b.rel]) 0 rfl Tryd.isAgg28 rfl rfl Tryd.sizeOf28) ?_
  refine Lq.run 1 rfl ?_
  refine Lq.op (v := bo_ (sameB a xs b ys)) rfl rfl rfl (OpQ.call rfl Tryd.call98 rfl Own.stable (fun w1 hw1 => l4Partial_ok a b xs ys va vb w1 ha hb (Row.own hva hw1) (Row.own hvb hw1) hA hB (by omega) (by omega))) ?_
  refine Lq.run 3 rfl ?_
  refine Lq.bool fun b30 hg30 => ?_
  cases b30
  ·
   replace hg30 := not_false hg30
   refine Lq.run 3 rfl ?_
   refine Lq.nil ?_
   refine Kt.sel [1, 3, 4, 5, 7, 33] [_, _, _, _, _, _] rfl ?_
   refine Wk.cond (b := decide (r < (1 : Int))) rfl (fun h33 => ?_) (fun h33 => ?_)
   ·
    replace h33 := of_decide_eq_true h33
    refine Wk.seq ?_
    refine Wk.regionQ ?_
    refine Lq.op (v := str ([])) rfl rfl rfl (OpQ.assign rfl rfl) ?_
    refine Lq.run 2 rfl ?_
    refine Lq.nil ?_
    refine Kt.sel [10, 11, 12] [_, _, _] rfl ?_
    refine Wk.ret (Kt.end3 rfl rfl rfl rfl fun w' hw => ?_)
    -- ret 0: str ([]); i6_ 0; bo_ false
    first | exact ⟨by rw [show fmO a xs b ys r = moveO (r - 1).toNat a xs b ys from by unfold fmO; rw [hg22, hsame, if_pos (by simp [h1])], move_none (fun i hi => hall1 i (by omega)) (fun i hi => hall2 i (by omega))]; rfl, hw.below⟩ | exact ⟨by rw [show fmO a xs b ys r = none from by unfold fmO; rw [if_neg (by first | (simp_all; done) | (simp_all; omega))]]; rfl, hw.below⟩
   ·
    replace h33 := of_decide_eq_false h33
    have hsame : sameB a xs b ys = true := by simp_all
    have h1 : 1 ≤ r := by omega
    refine Wk.skip ?_
    refine Kt.sel [1, 3, 4, 5, 7] [_, _, _, _, _] rfl ?_
    refine Wk.seq ?_
    refine Wk.seq ?_
    refine Wk.regionQ ?_
    refine Lq.run 1 rfl ?_
    refine Lq.nil ?_
    refine Kt.sel [1, 3, 4, 5, 7, 13] [_, _, _, _, _, _] rfl ?_
    refine Wk.block ?_
    refine Wk.loop (σ := Nat) (fun k => (k : Int) ≤ a.n ∧ ∀ i : Nat, i < k → (rep (goB (r - 1).toNat) a xs b ys i).isSome = true) (fun k => [(1, va), (3, vb), (4, i6_ r), (5, pt_ p5), (7, pt_ p7), (13, i6_ ((k : Int)))]) (fun k => Own w.heap.size w [bk_ p7 #[i6_ b.n, str b.set, str b.rel] 28, bk_ p5 #[i6_ a.n, str a.set, str a.rel] 28]) (fun k => (a.n - k).toNat) (0) ⟨by omega, fun i hi => absurd hi (by omega)⟩ (Sub.sel [1, 3, 4, 5, 7, 13] rfl) (fun _ h => h) ?_
    rintro k ⟨hk1, hall1⟩
    refine Wk.seq ?_
    refine Wk.seq ?_
    refine Wk.regionQ ?_
    refine Lq.run 1 rfl ?_
    refine Lq.op rfl rfl rfl (OpQ.fieldAddr rfl Tryd.runUnderlying28 rfl Tryd.sizeOf3 rfl rfl) ?_
    refine Lq.op rfl rfl rfl (OpQ.loadOwn 1 rfl Tryd.isAgg3 rfl rfl rfl) ?_
    refine Lq.run 1 rfl ?_
    refine Lq.nil ?_
    refine Kt.sel [1, 3, 4, 5, 7, 13, 37] [_, _, _, _, _, _, _] rfl ?_
    refine Wk.cond (b := decide (((k : Int)) < a.n)) rfl (fun h37 => ?_) (fun h37 => ?_)
    ·
     replace h37 := of_decide_eq_true h37
     have hx : a.El k := ⟨by omega, by omega⟩
     refine Wk.skip ?_
     refine Kt.sel [1, 3, 4, 5, 7, 13] [_, _, _, _, _, _] rfl ?_
     refine Wk.seq ?_
     refine Wk.block ?_
     refine Wk.seq ?_
     refine Wk.regionQ ?_
     refine Lq.op rfl rfl rfl (OpQ.loadBox (cs := #[i6_ a.n, str a.set, str a.rel]) 1 rfl Tryd.isAgg28 rfl rfl Tryd.sizeOf28) ?_
     refine Lq.run 1 rfl ?_
     refine Lq.op rfl rfl rfl (OpQ.loadBox (cs := #[i6_ b.n, str b.set, str b.rel]) 0 rfl Tryd.isAgg28 rfl rfl Tryd.sizeOf28) ?_
     refine Lq.run 3 rfl ?_
     refine Lq.op (v := i6_ (repI (rep (goB ((r - 1).toNat)) a xs b ys ((k : Int))))) rfl rfl rfl (OpQ.call rfl Tryd.call139 rfl Own.stable (fun w1 hw1 => l5Reply_at r (by omega) (by omega) a b xs ys va vb w1 ha hb (Row.own hva hw1) (Row.own hvb hw1) hA hB (by first | (simp; done) | (simp; omega) | omega) (by first | (simp; done) | (simp; omega) | omega) ((k : Int)) hx)) ?_
     refine Lq.run 1 rfl ?_
     refine Lq.nil ?_
     refine Kt.sel [1, 3, 4, 5, 7, 13, 47] [_, _, _, _, _, _, _] rfl ?_
     refine Wk.cond (b := decide ((repI (rep (goB ((r - 1).toNat)) a xs b ys ((k : Int)))) < (0 : Int))) rfl (fun h47 => ?_) (fun h47 => ?_)
     ·
      replace h47 := of_decide_eq_true h47
      refine Wk.seq ?_
      refine Wk.regionQ ?_
      refine Lq.run 1 rfl ?_
      refine Lq.op (v := str ([97])) rfl rfl rfl (OpQ.assign rfl rfl) ?_
      refine Lq.run 2 rfl ?_
      refine Lq.nil ?_
      refine Kt.sel [10, 11, 12] [_, _, _] rfl ?_
      refine Wk.ret (Kt.end3 rfl rfl rfl rfl fun w' hw => ?_)
      -- ret 1: str ([97]); i6_ ((k : Int)); bo_ true
      have hs1 := repI_neg.1 h47
      exact ⟨by rw [show fmO a xs b ys r = moveO (r - 1).toNat a xs b ys from by unfold fmO; rw [hg22, hsame, if_pos (by simp [h1])], move_1 (k := k) (by omega) hall1 hs1]; rfl, hw.below⟩
     ·
      replace h47 := of_decide_eq_false h47
      have hs1 := (repI_some h47).1
      refine Wk.skip ?_
      refine Kt.sel [1, 3, 4, 5, 7, 13] [_, _, _, _, _, _] rfl ?_
      refine Wk.regionQ ?_
      refine Lq.run 1 rfl ?_
      refine Lq.op rfl rfl rfl (OpQ.add rfl rfl rfl (by omega) (by omega)) ?_
      refine Lq.run 1 rfl ?_
      refine Lq.nil ?_
      refine Kt.again (k + 1) ⟨by omega, fun i hi => (Nat.lt_succ_iff_lt_or_eq.1 hi).elim (hall1 i) (fun e => by subst e; assumption)⟩ (by omega) (Sub.sel [1, 3, 4, 5, 7, 13] rfl) (fun _ h => h)
    ·
     replace h37 := of_decide_eq_false h37
     refine Wk.exit rfl ?_
     refine Kt.sel [1, 3, 4, 5, 7] [_, _, _, _, _] rfl ?_
     refine Wk.seq ?_
     refine Wk.seq ?_
     refine Wk.regionQ ?_
     refine Lq.run 1 rfl ?_
     refine Lq.nil ?_
     refine Kt.sel [1, 3, 4, 5, 7, 14] [_, _, _, _, _, _] rfl ?_
     refine Wk.block ?_
     refine Wk.loop (σ := Nat) (fun m => (m : Int) ≤ b.n ∧ ∀ i : Nat, i < m → (rep (goB (r - 1).toNat) b ys a xs i).isSome = true) (fun m => [(1, va), (3, vb), (4, i6_ r), (5, pt_ p5), (7, pt_ p7), (14, i6_ ((m : Int)))]) (fun m => Own w.heap.size w [bk_ p7 #[i6_ b.n, str b.set, str b.rel] 28, bk_ p5 #[i6_ a.n, str a.set, str a.rel] 28]) (fun m => (b.n - m).toNat) (0) ⟨by omega, fun i hi => absurd hi (by omega)⟩ (Sub.sel [1, 3, 4, 5, 7, 14] rfl) (fun _ h => h) ?_
     rintro m ⟨hk2, hall2⟩
     refine Wk.seq ?_
     refine Wk.seq ?_
     refine Wk.regionQ ?_
     refine Lq.run 1 rfl ?_
     refine Lq.op rfl rfl rfl (OpQ.fieldAddr rfl Tryd.runUnderlying28 rfl Tryd.sizeOf3 rfl rfl) ?_
     refine Lq.op rfl rfl rfl (OpQ.loadOwn 0 rfl Tryd.isAgg3 rfl rfl rfl) ?_
     refine Lq.run 1 rfl ?_
     refine Lq.nil ?_
     refine Kt.sel [1, 3, 4, 5, 7, 14, 52] [_, _, _, _, _, _, _] rfl ?_
     refine Wk.cond (b := decide (((m : Int)) < b.n)) rfl (fun h52 => ?_) (fun h52 => ?_)
     ·
      replace h52 := of_decide_eq_true h52
      have hy : b.El m := ⟨by omega, by omega⟩
      refine Wk.skip ?_
      refine Kt.sel [1, 3, 4, 5, 7, 14] [_, _, _, _, _, _] rfl ?_
      refine Wk.seq ?_
      refine Wk.block ?_
      refine Wk.seq ?_
      refine Wk.regionQ ?_
      refine Lq.op rfl rfl rfl (OpQ.loadBox (cs := #[i6_ b.n, str b.set, str b.rel]) 0 rfl Tryd.isAgg28 rfl rfl Tryd.sizeOf28) ?_
      refine Lq.run 1 rfl ?_
      refine Lq.op rfl rfl rfl (OpQ.loadBox (cs := #[i6_ a.n, str a.set, str a.rel]) 1 rfl Tryd.isAgg28 rfl rfl Tryd.sizeOf28) ?_
      refine Lq.run 3 rfl ?_
      refine Lq.op (v := i6_ (repI (rep (goB ((r - 1).toNat)) b ys a xs ((m : Int))))) rfl rfl rfl (OpQ.call rfl Tryd.call139 rfl Own.stable (fun w1 hw1 => l5Reply_at r (by omega) (by omega) b a ys xs vb va w1 hb ha (Row.own hvb hw1) (Row.own hva hw1) hB hA (by first | (simp; done) | (simp; omega) | omega) (by first | (simp; done) | (simp; omega) | omega) ((m : Int)) hy)) ?_
      refine Lq.run 1 rfl ?_
      refine Lq.nil ?_
      refine Kt.sel [1, 3, 4, 5, 7, 14, 62] [_, _, _, _, _, _, _] rfl ?_
      refine Wk.cond (b := decide ((repI (rep (goB ((r - 1).toNat)) b ys a xs ((m : Int)))) < (0 : Int))) rfl (fun h62 => ?_) (fun h62 => ?_)
      ·
       replace h62 := of_decide_eq_true h62
       refine Wk.seq ?_
       refine Wk.regionQ ?_
       refine Lq.run 1 rfl ?_
       refine Lq.op (v := str ([98])) rfl rfl rfl (OpQ.assign rfl rfl) ?_
       refine Lq.run 2 rfl ?_
       refine Lq.nil ?_
       refine Kt.sel [10, 11, 12] [_, _, _] rfl ?_
       refine Wk.ret (Kt.end3 rfl rfl rfl rfl fun w' hw => ?_)
       -- ret 2: str ([98]); i6_ ((m : Int)); bo_ true
       have hs2 := repI_neg.1 h62
       exact ⟨by rw [show fmO a xs b ys r = moveO (r - 1).toNat a xs b ys from by unfold fmO; rw [hg22, hsame, if_pos (by simp [h1])], move_2 (k := m) (fun i hi => hall1 i (by omega)) (by omega) hall2 hs2]; rfl, hw.below⟩
      ·
       replace h62 := of_decide_eq_false h62
       have hs2 := (repI_some h62).1
       refine Wk.skip ?_
       refine Kt.sel [1, 3, 4, 5, 7, 14] [_, _, _, _, _, _] rfl ?_
       refine Wk.regionQ ?_
       refine Lq.run 1 rfl ?_
       refine Lq.op rfl rfl rfl (OpQ.add rfl rfl rfl (by omega) (by omega)) ?_
       refine Lq.run 1 rfl ?_
       refine Lq.nil ?_
       refine Kt.again (m + 1) ⟨by omega, fun i hi => (Nat.lt_succ_iff_lt_or_eq.1 hi).elim (hall2 i) (fun e => by subst e; assumption)⟩ (by omega) (Sub.sel [1, 3, 4, 5, 7, 14] rfl) (fun _ h => h)
     ·
      replace h52 := of_decide_eq_false h52
      refine Wk.exit rfl ?_
      refine Kt.sel [] [] rfl ?_
      refine Wk.seq ?_
      refine Wk.regionQ ?_
      refine Lq.op (v := str ([])) rfl rfl rfl (OpQ.assign rfl rfl) ?_
      refine Lq.run 2 rfl ?_
      refine Lq.nil ?_
      refine Kt.sel [10, 11, 12] [_, _, _] rfl ?_
      refine Wk.ret (Kt.end3 rfl rfl rfl rfl fun w' hw => ?_)
      -- ret 3: str ([]); i6_ 0; bo_ false
      first | exact ⟨by rw [show fmO a xs b ys r = moveO (r - 1).toNat a xs b ys from by unfold fmO; rw [hg22, hsame, if_pos (by simp [h1])], move_none (fun i hi => hall1 i (by omega)) (fun i hi => hall2 i (by omega))]; rfl, hw.below⟩ | exact ⟨by rw [show fmO a xs b ys r = none from by unfold fmO; rw [if_neg (by first | (simp_all; done) | (simp_all; omega))]]; rfl, hw.below⟩
  ·
   replace hg30 := not_true hg30
   refine Lq.pass rfl rfl rfl ?_
   refine Lq.pass rfl rfl rfl ?_
   refine Lq.run 1 rfl ?_
   refine Lq.nil ?_
   refine Kt.sel [1, 3, 4, 5, 7, 33] [_, _, _, _, _, _] rfl ?_
   refine Wk.condT rfl ?_
   refine Wk.seq ?_
   refine Wk.regionQ ?_
   refine Lq.op (v := str ([])) rfl rfl rfl (OpQ.assign rfl rfl) ?_
   refine Lq.run 2 rfl ?_
   refine Lq.nil ?_
   refine Kt.sel [10, 11, 12] [_, _, _] rfl ?_
   refine Wk.ret (Kt.end3 rfl rfl rfl rfl fun w' hw => ?_)
   -- ret 4: str ([]); i6_ 0; bo_ false
   first | exact ⟨by rw [show fmO a xs b ys r = moveO (r - 1).toNat a xs b ys from by unfold fmO; rw [hg22, hsame, if_pos (by simp [h1])], move_none (fun i hi => hall1 i (by omega)) (fun i hi => hall2 i (by omega))]; rfl, hw.below⟩ | exact ⟨by rw [show fmO a xs b ys r = none from by unfold fmO; rw [if_neg (by first | (simp_all; done) | (simp_all; omega))]]; rfl, hw.below⟩
 ·
  replace hg22 := not_true hg22
  refine Lq.pass rfl rfl rfl ?_
  refine Lq.pass rfl rfl rfl ?_
  refine Lq.pass rfl rfl rfl ?_
  refine Lq.pass rfl rfl rfl ?_
  refine Lq.pass rfl rfl rfl ?_
  refine Lq.pass rfl rfl rfl ?_
  refine Lq.run 2 rfl ?_
  refine Lq.pass rfl rfl rfl ?_
  refine Lq.pass rfl rfl rfl ?_
  refine Lq.run 1 rfl ?_
  refine Lq.nil ?_
  refine Kt.sel [1, 3, 4, 5, 7, 33] [_, _, _, _, _, _] rfl ?_
  refine Wk.condT rfl ?_
  refine Wk.seq ?_
  refine Wk.regionQ ?_
  refine Lq.op (v := str ([])) rfl rfl rfl (OpQ.assign rfl rfl) ?_
  refine Lq.run 2 rfl ?_
  refine Lq.nil ?_
  refine Kt.sel [10, 11, 12] [_, _, _] rfl ?_
  refine Wk.ret (Kt.end3 rfl rfl rfl rfl fun w' hw => ?_)
  -- ret 5: str ([]); i6_ 0; bo_ false
  first | exact ⟨by rw [show fmO a xs b ys r = moveO (r - 1).toNat a xs b ys from by unfold fmO; rw [hg22, hsame, if_pos (by simp [h1])], move_none (fun i hi => hall1 i (by omega)) (fun i hi => hall2 i (by omega))]; rfl, hw.below⟩ | exact ⟨by rw [show fmO a xs b ys r = none from by unfold fmO; rw [if_neg (by first | (simp_all; done) | (simp_all; omega))]]; rfl, hw.below⟩

end Go.Proofs.YtjcoijejhachhaaDoor
