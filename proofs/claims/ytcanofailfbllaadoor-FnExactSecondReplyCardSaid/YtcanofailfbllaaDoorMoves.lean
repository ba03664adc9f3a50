/-
  First moves and replies, by walks.
-/
import Derived.Test.YtcanofailfbllaaDoorPlain17
import Derived.Test.YtcanofailfbllaaDoorGames
import Derived.Test.YtcanofailfbllaaDoorBase
namespace Go.Proofs.YtcanofailfbllaaDoor
open Go.RowKit Go.Wk
set_option linter.unusedSimpArgs false

set_option maxHeartbeats 400000 in
/-- spec.l5Reply -/
theorem l5Reply_ok (a b : St) (xs ys : List Int) (va vb : Value) (w : World) (ha : a.Fine) (hb : b.Fine) (hva : Ints w va xs) (hvb : Ints w vb ys) (hA : a.Els xs) (hB : b.Els ys) (hlen : xs.length = ys.length) (h4 : xs.length ≤ 4) (n : Nat) (h3 : n ≤ 2) (x : Int) (hx : a.El x) :
    Calls Tryd.prog 74 [vS a, va, vS b, vb, .int .i64 ((n : Int) + 1), .int .i64 x].toArray w fun en w' => en = .returned (.int .i64 (repI (rep (goB n) a xs b ys x))) ∧ Below w.heap.size w w' := by
  refine fnStart (n := 42) (e := [(0, vS a), (1, va), (2, vS b), (3, vb), (4, .int .i64 ((n : Int) + 1)), (5, .int .i64 x)]) Tryd.func74 rfl rfl rfl rfl Ends.both ?_
  have hcn := cnt_small (n := n) (by omega)
  have hn8 := hb.hi
  have hn1 := hb.lo
  refine Wk.seq ?_
  refine Wk.region ?_
  refine Ll.box (v := vS a) rfl rfl rfl rfl rfl fun p6 hp6 => ?_
  show Ll _ _ (Own _ _ [(p6, .cells #[.int .i64 a.n, str a.set, str a.rel] 26 (0, 0))]) _ _ ((6, .pointer (some ⟨p6, 0, none⟩)) :: _) _ _ _
  refine Ll.box (v := vS b) rfl rfl rfl rfl rfl fun p8 hp8 => ?_
  show Ll _ _ (Own _ _ [(p8, .cells #[.int .i64 b.n, str b.set, str b.rel] 26 (0, 0)), (p6, .cells #[.int .i64 a.n, str a.set, str a.rel] 26 (0, 0))]) _ _ ((8, .pointer (some ⟨p8, 0, none⟩)) :: _) _ _ _
  refine Ll.op (v := .int .i64 0) rfl rfl rfl (OpQ.assign rfl rfl) ?_
  refine Ll.nil ?_
  refine Kt.onSub (e' := [(1, va), (3, vb), (4, .int .i64 ((n : Int) + 1)), (5, .int .i64 x), (6, .pointer (some ⟨p6, 0, none⟩)), (8, .pointer (some ⟨p8, 0, none⟩))]) (Sub.cons rfl (Sub.cons rfl (Sub.cons rfl (Sub.cons rfl (Sub.cons rfl (Sub.cons rfl Sub.nil)))))) ?_
  refine Wk.seq ?_
  refine Wk.region ?_
  refine Ll.callGet (σ := Nat × Nat × List Bkt) (ok := fun s => TabOk s.2.2 []) (v := fun s => .agg #[.slice (some ⟨s.1, 0, none⟩) 997 997, .slice (some ⟨s.2.1, 0, none⟩) 1 1]) (xs := []) (vs := []) (hs' := fun s => [(p8, .cells #[.int .i64 b.n, str b.set, str b.rel] 26 (0, 0)), (p6, .cells #[.int .i64 a.n, str a.set, str a.rel] 26 (0, 0))] ++ (tabL 114 3 116 s.1 s.2.1 s.2.2 [] ++ [])) rfl rfl rfl rfl Tryd.call66 rfl (fun w1 hw1 => (l5New_ok _ _ _ w1 hw1).mono fun en w' ⟨q, c, h1, h2⟩ => ⟨(q, c, _), h1, TabOk.new, by dsimp only; rw [List.append_nil]; exact h2.perm perm_front⟩) fun ⟨q, c, bs0⟩ hT0 => ?_
  show Ll _ _ (Own _ _ ((p8, .cells #[.int .i64 b.n, str b.set, str b.rel] 26 (0, 0)) :: (p6, .cells #[.int .i64 a.n, str a.set, str a.rel] 26 (0, 0)) :: (q, .cells ((bs0.map bktV).toArray) 114 (0, 0)) :: (c, .cells #[.int .i64 (((([] : List (List UInt8))).length : Int))] 3 (0, 0)) :: ((blks 116 bs0 ++ [])))) _ _ ((16, .agg #[.slice (some ⟨q, 0, none⟩) 997 997, .slice (some ⟨c, 0, none⟩) 1 1]) :: _) _ _ _
  refine Ll.alloc rfl rfl rfl rfl Tryd.zeroValue71 fun p13 hp13 => ?_
  show Ll _ _ (Own _ _ ((p13, .cells #[.slice none 0 0, .slice none 0 0] 71 (0, 0)) :: (p8, .cells #[.int .i64 b.n, str b.set, str b.rel] 26 (0, 0)) :: (p6, .cells #[.int .i64 a.n, str a.set, str a.rel] 26 (0, 0)) :: (q, .cells ((bs0.map bktV).toArray) 114 (0, 0)) :: (c, .cells #[.int .i64 (((([] : List (List UInt8))).length : Int))] 3 (0, 0)) :: ((blks 116 bs0 ++ [])))) _ _ ((13, .pointer (some ⟨p13, 0, none⟩)) :: _) _ _ _
  refine Ll.storeBox (cs' := #[.slice (some ⟨q, 0, none⟩) 997 997, .slice (some ⟨c, 0, none⟩) 1 1]) (hs' := ((p13, .cells #[.slice (some ⟨q, 0, none⟩) 997 997, .slice (some ⟨c, 0, none⟩) 1 1] 71 (0, 0)) :: (p8, .cells #[.int .i64 b.n, str b.set, str b.rel] 26 (0, 0)) :: (p6, .cells #[.int .i64 a.n, str a.set, str a.rel] 26 (0, 0)) :: (q, .cells ((bs0.map bktV).toArray) 114 (0, 0)) :: (c, .cells #[.int .i64 (((([] : List (List UInt8))).length : Int))] 3 (0, 0)) :: ((blks 116 bs0 ++ [])))) 0 rfl rfl rfl rfl rfl (by kernel_rfl : _ = some Tryd.t71) rfl rfl rfl rfl rfl ?_
  refine Ll.nil ?_
  refine Kt.onSub (e' := [(1, va), (3, vb), (4, .int .i64 ((n : Int) + 1)), (5, .int .i64 x), (6, .pointer (some ⟨p6, 0, none⟩)), (8, .pointer (some ⟨p8, 0, none⟩)), (13, .pointer (some ⟨p13, 0, none⟩))]) (Sub.cons rfl (Sub.cons rfl (Sub.cons rfl (Sub.cons rfl (Sub.cons rfl (Sub.cons rfl (Sub.cons rfl Sub.nil))))))) ?_
  refine Wk.seq ?_
  refine Wk.regionS (S := Own w.heap.size w [(p13, .cells #[.slice (some ⟨q, 0, none⟩) 997 997, .slice (some ⟨c, 0, none⟩) 1 1] 71 (0, 0)), (p8, .cells #[.int .i64 b.n, str b.set, str b.rel] 26 (0, 0)), (p6, .cells #[.int .i64 a.n, str a.set, str a.rel] 26 (0, 0))]) [(0, true), (1, true), (2, true), (3, true), (5, true), (6, true), (4, false), (7, false), (8, true)] Base.mixed (fun _ h => h.drawn) (by kernel_rfl) ?_
  refine Ld.take (v := .agg #[.slice (some ⟨q, 0, none⟩) 997 997, .slice (some ⟨c, 0, none⟩) 1 1]) rfl rfl rfl rfl rfl (OpQ.loadBox (cs := #[.slice (some ⟨q, 0, none⟩) 997 997, .slice (some ⟨c, 0, none⟩) 1 1]) 0 rfl Tryd.isAgg71 rfl rfl Tryd.sizeOf71) (fun _ h => h.pick [0, 1, 2] rfl (by decide)) ?_
  refine Ld.take (v := vS a) rfl rfl rfl rfl rfl (OpQ.loadBox (cs := #[.int .i64 a.n, str a.set, str a.rel]) 2 rfl Tryd.isAgg26 rfl rfl Tryd.sizeOf26) (fun _ h => h.pick [0, 1, 2] rfl (by decide)) ?_
  refine Ld.take (v := va) rfl rfl rfl rfl rfl (OpQ.move rfl rfl) (fun _ h => h.pick [0, 1, 2] rfl (by decide)) ?_
  refine Ld.take (v := .int .i64 x) rfl rfl rfl rfl rfl (OpQ.move rfl rfl) (fun _ h => h.pick [0, 1, 2] rfl (by decide)) ?_
  refine Ld.take (v := .int .i64 ((n : Int) + 1)) rfl rfl rfl rfl rfl (OpQ.move rfl rfl) (fun _ h => h.pick [0, 1, 2] rfl (by decide)) ?_
  refine Ld.take (v := .int .i64 ((n : Int))) rfl rfl rfl rfl rfl (OpQ.cast (by congr 1; omega) (OpQ.sub rfl rfl rfl (by omega) (by omega))) (fun _ h => h.pick [0, 1, 2] rfl (by decide)) ?_
  refine Ld.loud rfl ?_
  refine Ll.callRow (xs := [.tmp 19, .tmp 20]) (m := (xs ++ [x]).length) (vs := ints (xs ++ [x])) (el := 3) (size := 1) rfl rfl rfl rfl Tryd.call92 rfl (fun w1 hw1 => l4With_ok va xs x w1 (Row.own hva hw1) (by omega)) fun p21 cap21 cur21 hp21 hcp21 hlp21 htp21 => ?_
  refine Ll.nil (Ld.joint (fun _ h => h.pick [1, 2, 3] rfl (by decide)) ?_)
  refine Ld.loud rfl ?_
  refine Ll.callTab (S := 114) (I := 3) (E := 116) (q := q) (c := c) (bs := bs0) (T := (([] : List (List UInt8)))) (hs := []) (ok := fun m bs' T' => TabTo (([] : List (List UInt8))) bs' T' (cnt n) ∧ Means T' n a (xs ++ [x]) m) (xs := [.tmp 17, .tmp 18, .tmp 21, .tmp 23]) (vs := [.agg #[.slice (some ⟨q, 0, none⟩) 997 997, .slice (some ⟨c, 0, none⟩) 1 1], vS a, .slice (some ⟨p21, 0, none⟩) ((xs ++ [x]).length) cap21, .int .i64 ((n : Int))]) [(p21, .cells cur21 3 (0, 0)), (p13, .cells #[.slice (some ⟨q, 0, none⟩) 997 997, .slice (some ⟨c, 0, none⟩) 1 1] 71 (0, 0)), (p8, .cells #[.int .i64 b.n, str b.set, str b.rel] 26 (0, 0)), (p6, .cells #[.int .i64 a.n, str a.set, str a.rel] 26 (0, 0))] rfl rfl rfl rfl Tryd.call68 rfl (fun w1 hw1 => type_ok n w.heap.size w ([(p21, .cells cur21 3 (0, 0)), (p13, .cells #[.slice (some ⟨q, 0, none⟩) 997 997, .slice (some ⟨c, 0, none⟩) 1 1] 71 (0, 0)), (p8, .cells #[.int .i64 b.n, str b.set, str b.rel] 26 (0, 0)), (p6, .cells #[.int .i64 a.n, str a.set, str a.rel] 26 (0, 0))] ++ []) q c bs0 (([] : List (List UInt8))) a (.slice (some ⟨p21, 0, none⟩) ((xs ++ [x]).length) cap21) (xs ++ [x]) w1 hT0 ha (fun w2 hw2 => (Own.row hw2 (i := 0) rfl (by simpa using htp21) (by simp) hlp21)) (els_more hA hx) (by simp; omega) (by simp only [List.length_nil]; omega) hw1) fun m bs_ T_ hKm => ?_
  show Ll _ _ (Own _ _ ((p21, .cells cur21 3 (0, 0)) :: (p13, .cells #[.slice (some ⟨q, 0, none⟩) 997 997, .slice (some ⟨c, 0, none⟩) 1 1] 71 (0, 0)) :: (p8, .cells #[.int .i64 b.n, str b.set, str b.rel] 26 (0, 0)) :: (p6, .cells #[.int .i64 a.n, str a.set, str a.rel] 26 (0, 0)) :: (q, .cells ((bs_.map bktV).toArray) 114 (0, 0)) :: (c, .cells #[.int .i64 ((T_.length : Int))] 3 (0, 0)) :: ((blks 116 bs_ ++ [])))) _ _ ((24, .int .i64 ((m : Int))) :: _) _ _ _
  refine Ll.nil (Ld.joint (fun _ h => h.pick [1, 2, 3] rfl (by decide)) ?_)
  refine Ld.take (v := .int .i64 ((m : Int))) rfl rfl rfl rfl rfl (OpQ.assign rfl rfl) (fun _ h => h.pick [1, 2, 3] rfl (by decide)) ?_
  refine Ld.nil ?_
  refine Kt.onSub (e' := [(3, vb), (4, .int .i64 ((n : Int) + 1)), (8, .pointer (some ⟨p8, 0, none⟩)), (13, .pointer (some ⟨p13, 0, none⟩)), (14, .int .i64 ((m : Int)))]) (Sub.cons rfl (Sub.cons rfl (Sub.cons rfl (Sub.cons rfl (Sub.cons rfl Sub.nil))))) ?_
  refine Wk.seq ?_
  refine Wk.seq ?_
  refine Wk.regionQ ?_
  refine Lq.op (v := .int .i64 0) rfl rfl rfl (OpQ.assign rfl rfl) ?_
  refine Lq.nil ?_
  refine Kt.onSub (e' := [(3, vb), (4, .int .i64 ((n : Int) + 1)), (8, .pointer (some ⟨p8, 0, none⟩)), (13, .pointer (some ⟨p13, 0, none⟩)), (14, .int .i64 ((m : Int))), (15, .int .i64 0)]) (Sub.cons rfl (Sub.cons rfl (Sub.cons rfl (Sub.cons rfl (Sub.cons rfl (Sub.cons rfl Sub.nil)))))) ?_
  refine Wk.block ?_
  refine Wk.loop (σ := Nat × List Bkt × List (List UInt8)) (fun ⟨k, bs1, T1⟩ => (k : Int) ≤ b.n ∧ TabTo T_ bs1 T1 (k * cnt n) ∧ Means T1 n a (xs ++ [x]) m ∧ ∀ i : Nat, i < k → winB n a (xs ++ [x]) b (ys ++ [(i : Int)]) = false) (fun ⟨k, bs1, T1⟩ => [(3, vb), (4, .int .i64 ((n : Int) + 1)), (8, .pointer (some ⟨p8, 0, none⟩)), (13, .pointer (some ⟨p13, 0, none⟩)), (14, .int .i64 ((m : Int))), (15, .int .i64 ((k : Int)))]) (fun ⟨k, bs1, T1⟩ => Own w.heap.size w ((p21, .cells cur21 3 (0, 0)) :: (p13, .cells #[.slice (some ⟨q, 0, none⟩) 997 997, .slice (some ⟨c, 0, none⟩) 1 1] 71 (0, 0)) :: (p8, .cells #[.int .i64 b.n, str b.set, str b.rel] 26 (0, 0)) :: (p6, .cells #[.int .i64 a.n, str a.set, str a.rel] 26 (0, 0)) :: (q, .cells ((bs1.map bktV).toArray) 114 (0, 0)) :: (c, .cells #[.int .i64 ((T1.length : Int))] 3 (0, 0)) :: ((blks 116 bs1 ++ [])))) (fun ⟨k, bs1, T1⟩ => (b.n - k).toNat) ((0, bs_, T_)) ⟨by omega, ⟨hKm.1.ok, List.prefix_refl _, by omega⟩, hKm.2, fun i hi => absurd hi (by omega)⟩ (Sub.cons rfl (Sub.cons rfl (Sub.cons rfl (Sub.cons rfl (Sub.cons rfl (Sub.cons rfl Sub.nil)))))) (fun _ h => h) ?_
  rintro ⟨k, bs1, T1⟩ ⟨hk, hTT, hM, hall⟩
  dsimp only
  have hTl := hTT.len
  have hTl0 := hKm.1.len
  simp only [List.length_nil] at hTl0
  have hk8 := cnt_le k n (by omega)
  refine Wk.seq ?_
  refine Wk.seq ?_
  refine Wk.regionQ ?_
  refine Lq.op (v := .int .i64 ((k : Int))) rfl rfl rfl (OpQ.move rfl rfl) ?_
  refine Lq.op (v := .pointer (some ⟨p8, 0, none⟩)) rfl rfl rfl (OpQ.fieldAddr rfl Tryd.runUnderlying26 rfl Tryd.sizeOf3 rfl rfl) ?_
  refine Lq.op (v := .int .i64 b.n) rfl rfl rfl (OpQ.loadOwn 2 rfl Tryd.isAgg3 rfl rfl rfl) ?_
  refine Lq.op (v := .bool (decide (((k : Int)) < b.n))) rfl rfl rfl (OpQ.lss rfl rfl rfl) ?_
  refine Lq.nil ?_
  refine Kt.onSub (e' := [(3, vb), (4, .int .i64 ((n : Int) + 1)), (8, .pointer (some ⟨p8, 0, none⟩)), (13, .pointer (some ⟨p13, 0, none⟩)), (14, .int .i64 ((m : Int))), (15, .int .i64 ((k : Int))), (28, .bool (decide (((k : Int)) < b.n)))]) (Sub.cons rfl (Sub.cons rfl (Sub.cons rfl (Sub.cons rfl (Sub.cons rfl (Sub.cons rfl (Sub.cons rfl Sub.nil))))))) ?_
  refine Wk.cond (b := decide (((k : Int)) < b.n)) rfl (fun h28 => ?_) (fun h28 => ?_)
  · skip
    replace h28 := of_decide_eq_true h28
    have hy : b.El k := ⟨by omega, by omega⟩
    refine Wk.skip ?_
    refine Kt.onSub (e' := [(3, vb), (4, .int .i64 ((n : Int) + 1)), (8, .pointer (some ⟨p8, 0, none⟩)), (13, .pointer (some ⟨p13, 0, none⟩)), (14, .int .i64 ((m : Int))), (15, .int .i64 ((k : Int)))]) (Sub.cons rfl (Sub.cons rfl (Sub.cons rfl (Sub.cons rfl (Sub.cons rfl (Sub.cons rfl Sub.nil)))))) ?_
    refine Wk.seq ?_
    refine Wk.block ?_
    refine Wk.seq ?_
    refine Wk.regionS (S := Own w.heap.size w [(p21, .cells cur21 3 (0, 0)), (p13, .cells #[.slice (some ⟨q, 0, none⟩) 997 997, .slice (some ⟨c, 0, none⟩) 1 1] 71 (0, 0)), (p8, .cells #[.int .i64 b.n, str b.set, str b.rel] 26 (0, 0)), (p6, .cells #[.int .i64 a.n, str a.set, str a.rel] 26 (0, 0))]) [(0, true), (1, true), (2, true), (3, true), (5, true), (6, true), (8, true), (4, false), (7, false), (9, true)] Base.mixed (fun _ h => h.drawn) (by kernel_rfl) ?_
    refine Ld.take (v := .agg #[.slice (some ⟨q, 0, none⟩) 997 997, .slice (some ⟨c, 0, none⟩) 1 1]) rfl rfl rfl rfl rfl (OpQ.loadBox (cs := #[.slice (some ⟨q, 0, none⟩) 997 997, .slice (some ⟨c, 0, none⟩) 1 1]) 1 rfl Tryd.isAgg71 rfl rfl Tryd.sizeOf71) (fun _ h => h.pick [0, 1, 2, 3] rfl (by decide)) ?_
    refine Ld.take (v := vS b) rfl rfl rfl rfl rfl (OpQ.loadBox (cs := #[.int .i64 b.n, str b.set, str b.rel]) 2 rfl Tryd.isAgg26 rfl rfl Tryd.sizeOf26) (fun _ h => h.pick [0, 1, 2, 3] rfl (by decide)) ?_
    refine Ld.take (v := vb) rfl rfl rfl rfl rfl (OpQ.move rfl rfl) (fun _ h => h.pick [0, 1, 2, 3] rfl (by decide)) ?_
    refine Ld.take (v := .int .i64 ((k : Int))) rfl rfl rfl rfl rfl (OpQ.move rfl rfl) (fun _ h => h.pick [0, 1, 2, 3] rfl (by decide)) ?_
    refine Ld.take (v := .int .i64 ((n : Int) + 1)) rfl rfl rfl rfl rfl (OpQ.move rfl rfl) (fun _ h => h.pick [0, 1, 2, 3] rfl (by decide)) ?_
    refine Ld.take (v := .int .i64 ((n : Int))) rfl rfl rfl rfl rfl (OpQ.cast (by congr 1; omega) (OpQ.sub rfl rfl rfl (by omega) (by omega))) (fun _ h => h.pick [0, 1, 2, 3] rfl (by decide)) ?_
    refine Ld.take (v := .int .i64 ((m : Int))) rfl rfl rfl rfl rfl (OpQ.move rfl rfl) (fun _ h => h.pick [0, 1, 2, 3] rfl (by decide)) ?_
    refine Ld.loud rfl ?_
    refine Ll.callRow (xs := [.tmp 33, .tmp 34]) (m := (ys ++ [(k : Int)]).length) (vs := ints (ys ++ [(k : Int)])) (el := 3) (size := 1) rfl rfl rfl rfl Tryd.call92 rfl (fun w1 hw1 => l4With_ok vb ys ((k : Int)) w1 (Row.own hvb hw1) (by omega)) fun p35 cap35 cur35 hp35 hcp35 hlp35 htp35 => ?_
    refine Ll.nil (Ld.joint (fun _ h => h.pick [1, 2, 3, 4] rfl (by decide)) ?_)
    refine Ld.loud rfl ?_
    refine Ll.callTab (S := 114) (I := 3) (E := 116) (q := q) (c := c) (bs := bs1) (T := T1) (hs := []) (ok := fun m bs' T' => TabTo T1 bs' T' (cnt n) ∧ Means T' n b (ys ++ [(k : Int)]) m) (xs := [.tmp 31, .tmp 32, .tmp 35, .tmp 37]) (vs := [.agg #[.slice (some ⟨q, 0, none⟩) 997 997, .slice (some ⟨c, 0, none⟩) 1 1], vS b, .slice (some ⟨p35, 0, none⟩) ((ys ++ [(k : Int)]).length) cap35, .int .i64 ((n : Int))]) [(p35, .cells cur35 3 (0, 0)), (p21, .cells cur21 3 (0, 0)), (p13, .cells #[.slice (some ⟨q, 0, none⟩) 997 997, .slice (some ⟨c, 0, none⟩) 1 1] 71 (0, 0)), (p8, .cells #[.int .i64 b.n, str b.set, str b.rel] 26 (0, 0)), (p6, .cells #[.int .i64 a.n, str a.set, str a.rel] 26 (0, 0))] rfl rfl rfl rfl Tryd.call68 rfl (fun w1 hw1 => type_ok n w.heap.size w ([(p35, .cells cur35 3 (0, 0)), (p21, .cells cur21 3 (0, 0)), (p13, .cells #[.slice (some ⟨q, 0, none⟩) 997 997, .slice (some ⟨c, 0, none⟩) 1 1] 71 (0, 0)), (p8, .cells #[.int .i64 b.n, str b.set, str b.rel] 26 (0, 0)), (p6, .cells #[.int .i64 a.n, str a.set, str a.rel] 26 (0, 0))] ++ []) q c bs1 T1 b (.slice (some ⟨p35, 0, none⟩) ((ys ++ [(k : Int)]).length) cap35) (ys ++ [(k : Int)]) w1 hTT.ok hb (fun w2 hw2 => (Own.row hw2 (i := 0) rfl (by simpa using htp35) (by simp) hlp35)) (els_more hB hy) (by simp; omega) (by omega) hw1) fun m_1 bs__1 T__1 hKm_1 => ?_
    show Ll _ _ (Own _ _ ((p35, .cells cur35 3 (0, 0)) :: (p21, .cells cur21 3 (0, 0)) :: (p13, .cells #[.slice (some ⟨q, 0, none⟩) 997 997, .slice (some ⟨c, 0, none⟩) 1 1] 71 (0, 0)) :: (p8, .cells #[.int .i64 b.n, str b.set, str b.rel] 26 (0, 0)) :: (p6, .cells #[.int .i64 a.n, str a.set, str a.rel] 26 (0, 0)) :: (q, .cells ((bs__1.map bktV).toArray) 114 (0, 0)) :: (c, .cells #[.int .i64 ((T__1.length : Int))] 3 (0, 0)) :: ((blks 116 bs__1 ++ [])))) _ _ ((38, .int .i64 ((m_1 : Int))) :: _) _ _ _
    refine Ll.nil (Ld.joint (fun _ h => h.pick [1, 2, 3, 4] rfl (by decide)) ?_)
    refine Ld.take (v := .bool (decide (((m_1 : Int)) = ((m : Int))))) rfl rfl rfl rfl rfl (OpQ.eql rfl rfl rfl) (fun _ h => h.pick [1, 2, 3, 4] rfl (by decide)) ?_
    refine Ld.nil ?_
    refine Kt.onSub (e' := [(3, vb), (4, .int .i64 ((n : Int) + 1)), (8, .pointer (some ⟨p8, 0, none⟩)), (13, .pointer (some ⟨p13, 0, none⟩)), (14, .int .i64 ((m : Int))), (15, .int .i64 ((k : Int))), (40, .bool (decide (((m_1 : Int)) = ((m : Int)))))]) (Sub.cons rfl (Sub.cons rfl (Sub.cons rfl (Sub.cons rfl (Sub.cons rfl (Sub.cons rfl (Sub.cons rfl Sub.nil))))))) ?_
    refine Wk.cond (b := decide (((m_1 : Int)) = ((m : Int)))) rfl (fun h40 => ?_) (fun h40 => ?_)
    · skip
      replace h40 := of_decide_eq_true h40
      have hwe := winB_eq (n := n) (xs := xs ++ [x]) (ys := ys ++ [(k : Int)]) hKm_1.1.ok.nodup (by simp [hlen]) (hM.mono hKm_1.1.pre _ _ _ _) hKm_1.2
      have hyw : winB n a (xs ++ [x]) b (ys ++ [(k : Int)]) = true := by rw [← hwe]; simpa using h40.symm
      refine Wk.seq ?_
      refine Wk.regionQ ?_
      refine Lq.op (v := .int .i64 ((k : Int))) rfl rfl rfl (OpQ.move rfl rfl) ?_
      refine Lq.op (v := .int .i64 ((k : Int))) rfl rfl rfl (OpQ.assign rfl rfl) ?_
      refine Lq.nil ?_
      refine Kt.onSub (e' := [(12, .int .i64 ((k : Int)))]) (Sub.cons rfl Sub.nil) ?_
      refine Wk.ret (Kt.end1 rfl rfl fun w' hw => ?_)
      -- ret 0: .int .i64 ((k : Int))
      exact ⟨ret_i (repI_at hlen (by omega) hall hyw).symm, hw.below⟩
    · skip
      replace h40 := of_decide_eq_false h40
      have hwe := winB_eq (n := n) (xs := xs ++ [x]) (ys := ys ++ [(k : Int)]) hKm_1.1.ok.nodup (by simp [hlen]) (hM.mono hKm_1.1.pre _ _ _ _) hKm_1.2
      have hnw : winB n a (xs ++ [x]) b (ys ++ [(k : Int)]) = false := by rw [← hwe]; simpa using fun e => h40 e.symm
      refine Wk.skip ?_
      refine Kt.onSub (e' := [(3, vb), (4, .int .i64 ((n : Int) + 1)), (8, .pointer (some ⟨p8, 0, none⟩)), (13, .pointer (some ⟨p13, 0, none⟩)), (14, .int .i64 ((m : Int))), (15, .int .i64 ((k : Int)))]) (Sub.cons rfl (Sub.cons rfl (Sub.cons rfl (Sub.cons rfl (Sub.cons rfl (Sub.cons rfl Sub.nil)))))) ?_
      refine Wk.regionQ ?_
      refine Lq.op (v := .int .i64 ((k : Int))) rfl rfl rfl (OpQ.move rfl rfl) ?_
      refine Lq.op (v := .int .i64 (((k : Int)) + (1 : Int))) rfl rfl rfl (OpQ.add rfl rfl rfl (by omega) (by omega)) ?_
      refine Lq.op (v := .int .i64 (((k : Int)) + (1 : Int))) rfl rfl rfl (OpQ.assign rfl rfl) ?_
      refine Lq.nil ?_
      refine Kt.again ((k + 1, bs__1, T__1)) ⟨by omega, hTT.trans hKm_1.1 (by rw [Nat.add_mul, Nat.one_mul]; exact Nat.le_refl _), hM.mono hKm_1.1.pre _ _ _ _, fun i hi => (Nat.lt_succ_iff_lt_or_eq.1 hi).elim (hall i) (fun e => by subst e; exact hnw)⟩ (by omega) (Sub.cons rfl (Sub.cons rfl (Sub.cons rfl (Sub.cons rfl (Sub.cons rfl (Sub.cons rfl Sub.nil)))))) (fun _ h => h.tail)
  · skip
    replace h28 := of_decide_eq_false h28
    refine Wk.exit rfl ?_
    refine Kt.onSub (e' := []) Sub.nil ?_
    refine Wk.seq ?_
    refine Wk.regionQ ?_
    refine Lq.op (v := .int .i64 (-1)) rfl rfl rfl (OpQ.assign rfl rfl) ?_
    refine Lq.nil ?_
    refine Kt.onSub (e' := [(12, .int .i64 (-1))]) (Sub.cons rfl Sub.nil) ?_
    refine Wk.ret (Kt.end1 rfl rfl fun w' hw => ?_)
    -- ret 1: .int .i64 (-1)
    exact ⟨ret_i (repI_no hlen (fun i hi => hall i (by omega))).symm, hw.below⟩

theorem l5Reply_at (r : Int) (h1 : 1 ≤ r) (h3 : r ≤ 3) (a b : St) (xs ys : List Int) (va vb : Value) (w : World) (ha : a.Fine) (hb : b.Fine) (hva : Ints w va xs) (hvb : Ints w vb ys) (hA : a.Els xs) (hB : b.Els ys) (hlen : xs.length = ys.length) (h4 : xs.length ≤ 4) (x : Int) (hx : a.El x) :
    Calls Tryd.prog 74 #[vS a, va, vS b, vb, .int .i64 r, .int .i64 x] w fun en w' => en = .returned (.int .i64 (repI (rep (goB (r - 1).toNat) a xs b ys x))) ∧ Below w.heap.size w w' := by
  have h := l5Reply_ok a b xs ys va vb w ha hb hva hvb hA hB hlen h4 (r - 1).toNat (by omega) x hx
  rw [show (((r - 1).toNat : Int) + 1) = r from by omega] at h
  exact h
theorem reply_to (r : Int) (h1 : 1 ≤ r) : ∀ (a b : St) (xs ys : List Int) (va vb : Value) (w : World), a.Fine → b.Fine → Ints w va xs → Ints w vb ys → a.Els xs → b.Els ys → xs.length = ys.length → xs.length + ((r - 1).toNat + 1) ≤ 7 → ∀ x : Int, a.El x → Calls Tryd.prog 76 #[vS a, va, vS b, vb, .int .i64 r, .int .i64 x] w fun en w' => en = .returned (.tuple #[.int .i64 (((rep (goB (r - 1).toNat) a xs b ys x).getD 0 : Nat) : Int), .bool (rep (goB (r - 1).toNat) a xs b ys x).isSome]) ∧ Below w.heap.size w w' := by
  intro a b xs ys va vb w ha hb hva hvb hA hB hl h7 x hx
  have h := reply_at (r - 1) (by omega) a b xs ys va vb w ha hb hva hvb hA hB hl h7 x hx
  rw [show r - 1 + 1 = r from by omega] at h
  exact h

set_option maxHeartbeats 400000 in
/-- impl.firstMove -/
theorem firstMove_ok (a b : St) (xs ys : List Int) (va vb : Value) (w : World) (ha : a.Fine) (hb : b.Fine) (hva : Ints w va xs) (hvb : Ints w vb ys) (hA : a.Els xs) (hB : b.Els ys) (hlen : xs.length = ys.length) (h4 : xs.length ≤ 4) (r : Int) (h0 : 0 ≤ r) (h3 : r ≤ 3) :
    Calls Tryd.prog 78 [vS a, va, vS b, vb, .int .i64 r].toArray w fun en w' => en = .returned (.tuple #[str (sideS (if sameB a xs b ys && decide (1 ≤ r) then moveO (r - 1).toNat a xs b ys else none)), .int .i64 (moveI (if sameB a xs b ys && decide (1 ≤ r) then moveO (r - 1).toNat a xs b ys else none)), .bool (if sameB a xs b ys && decide (1 ≤ r) then moveO (r - 1).toNat a xs b ys else none).isSome]) ∧ Below w.heap.size w w' := by
  refine fnStart (n := 67) (e := [(0, vS a), (1, va), (2, vS b), (3, vb), (4, .int .i64 r)]) Tryd.func78 rfl rfl rfl rfl Ends.both ?_
  have hn8 := hb.hi
  have hn1 := hb.lo
  have hm8 := ha.hi
  have hm1 := ha.lo
  refine Wk.seq ?_
  refine Wk.region ?_
  refine Ll.box (v := vS a) rfl rfl rfl rfl rfl fun p5 hp5 => ?_
  show Ll _ _ (Own _ _ [(p5, .cells #[.int .i64 a.n, str a.set, str a.rel] 26 (0, 0))]) _ _ ((5, .pointer (some ⟨p5, 0, none⟩)) :: _) _ _ _
  refine Ll.box (v := vS b) rfl rfl rfl rfl rfl fun p7 hp7 => ?_
  show Ll _ _ (Own _ _ [(p7, .cells #[.int .i64 b.n, str b.set, str b.rel] 26 (0, 0)), (p5, .cells #[.int .i64 a.n, str a.set, str a.rel] 26 (0, 0))]) _ _ ((7, .pointer (some ⟨p7, 0, none⟩)) :: _) _ _ _
  refine Ll.op (v := str ([])) rfl rfl rfl (OpQ.assign rfl rfl) ?_
  refine Ll.op (v := .int .i64 0) rfl rfl rfl (OpQ.assign rfl rfl) ?_
  refine Ll.op (v := .bool false) rfl rfl rfl (OpQ.assign rfl rfl) ?_
  refine Ll.nil ?_
  refine Kt.onSub (e' := [(1, va), (3, vb), (4, .int .i64 r), (5, .pointer (some ⟨p5, 0, none⟩)), (7, .pointer (some ⟨p7, 0, none⟩))]) (Sub.cons rfl (Sub.cons rfl (Sub.cons rfl (Sub.cons rfl (Sub.cons rfl Sub.nil))))) ?_
  refine Wk.seq ?_
  refine Wk.seq ?_
  refine Wk.regionQ ?_
  refine Lq.op (v := vS a) rfl rfl rfl (OpQ.loadBox (cs := #[.int .i64 a.n, str a.set, str a.rel]) 1 rfl Tryd.isAgg26 rfl rfl Tryd.sizeOf26) ?_
  refine Lq.op (v := va) rfl rfl rfl (OpQ.move rfl rfl) ?_
  refine Lq.op (v := vS b) rfl rfl rfl (OpQ.loadBox (cs := #[.int .i64 b.n, str b.set, str b.rel]) 0 rfl Tryd.isAgg26 rfl rfl Tryd.sizeOf26) ?_
  refine Lq.op (v := vb) rfl rfl rfl (OpQ.move rfl rfl) ?_
  refine Lq.op (v := .bool (sameB a xs b ys)) rfl rfl rfl (OpQ.call rfl Tryd.call83 rfl Own.stable (fun w1 hw1 => sameWay_ok a b xs ys va vb w1 ha hb (Row.own hva hw1) (Row.own hvb hw1) hA hB (by omega) (by omega))) ?_
  refine Lq.op (v := .bool (!(sameB a xs b ys))) rfl rfl rfl (OpQ.not rfl rfl) ?_
  refine Lq.op (v := .bool (!(sameB a xs b ys))) rfl rfl rfl (OpQ.move rfl rfl) ?_
  refine Lq.bool fun b25 hg25 => ?_
  cases b25
  · skip
    replace hg25 := not_false hg25
    refine Lq.op (v := .int .i64 r) rfl rfl rfl (OpQ.move rfl rfl) ?_
    refine Lq.op (v := .bool (decide (r = (0 : Int)))) rfl rfl rfl (OpQ.eql rfl rfl rfl) ?_
    refine Lq.op (v := .bool (decide (r = (0 : Int)))) rfl rfl rfl (OpQ.pickF rfl rfl rfl) ?_
    refine Lq.nil ?_
    refine Kt.onSub (e' := [(1, va), (3, vb), (4, .int .i64 r), (5, .pointer (some ⟨p5, 0, none⟩)), (7, .pointer (some ⟨p7, 0, none⟩)), (28, .bool (decide (r = (0 : Int))))]) (Sub.cons rfl (Sub.cons rfl (Sub.cons rfl (Sub.cons rfl (Sub.cons rfl (Sub.cons rfl Sub.nil)))))) ?_
    refine Wk.cond (b := decide (r = (0 : Int))) rfl (fun h28 => ?_) (fun h28 => ?_)
    · skip
      replace h28 := of_decide_eq_true h28
      refine Wk.seq ?_
      refine Wk.regionQ ?_
      refine Lq.op (v := str ([])) rfl rfl rfl (OpQ.assign rfl rfl) ?_
      refine Lq.op (v := .int .i64 0) rfl rfl rfl (OpQ.assign rfl rfl) ?_
      refine Lq.op (v := .bool false) rfl rfl rfl (OpQ.assign rfl rfl) ?_
      refine Lq.nil ?_
      refine Kt.onSub (e' := [(10, str ([])), (11, .int .i64 0), (12, .bool false)]) (Sub.cons rfl (Sub.cons rfl (Sub.cons rfl Sub.nil))) ?_
      refine Wk.ret (Kt.end3 rfl rfl rfl rfl fun w' hw => ?_)
      -- ret 0: str ([]); .int .i64 0; .bool false
      first | exact ⟨by rw [if_pos (by rw [hsame]; simp [h1]), move_none (fun i hi => hall1 i (by omega)) (fun i hi => hall2 i (by omega))]; rfl, hw.below⟩ | exact ⟨by rw [if_neg (by first | (simp_all; done) | (simp_all; omega))]; rfl, hw.below⟩
    · skip
      replace h28 := of_decide_eq_false h28
      have hsame : sameB a xs b ys = true := by simp_all
      have h1 : 1 ≤ r := by omega
      refine Wk.skip ?_
      refine Kt.onSub (e' := [(1, va), (3, vb), (4, .int .i64 r), (5, .pointer (some ⟨p5, 0, none⟩)), (7, .pointer (some ⟨p7, 0, none⟩))]) (Sub.cons rfl (Sub.cons rfl (Sub.cons rfl (Sub.cons rfl (Sub.cons rfl Sub.nil))))) ?_
      refine Wk.seq ?_
      refine Wk.seq ?_
      refine Wk.regionQ ?_
      refine Lq.op (v := .pointer (some ⟨p5, 0, none⟩)) rfl rfl rfl (OpQ.fieldAddr rfl Tryd.runUnderlying26 rfl Tryd.sizeOf3 rfl rfl) ?_
      refine Lq.op (v := .int .i64 a.n) rfl rfl rfl (OpQ.loadOwn 1 rfl Tryd.isAgg3 rfl rfl rfl) ?_
      refine Lq.op (v := .int .i64 0) rfl rfl rfl (OpQ.move rfl rfl) ?_
      refine Lq.nil ?_
      refine Kt.onSub (e' := [(1, va), (3, vb), (4, .int .i64 r), (5, .pointer (some ⟨p5, 0, none⟩)), (7, .pointer (some ⟨p7, 0, none⟩)), (30, .int .i64 a.n), (31, .int .i64 0)]) (Sub.cons rfl (Sub.cons rfl (Sub.cons rfl (Sub.cons rfl (Sub.cons rfl (Sub.cons rfl (Sub.cons rfl Sub.nil))))))) ?_
      refine Wk.block ?_
      refine Wk.loop (σ := Nat) (fun k => (k : Int) ≤ a.n ∧ ∀ i : Nat, i < k → (rep (goB (r - 1).toNat) a xs b ys i).isSome = true) (fun k => [(1, va), (3, vb), (4, .int .i64 r), (5, .pointer (some ⟨p5, 0, none⟩)), (7, .pointer (some ⟨p7, 0, none⟩)), (30, .int .i64 a.n), (31, .int .i64 ((k : Int)))]) (fun k => Own w.heap.size w [(p7, .cells #[.int .i64 b.n, str b.set, str b.rel] 26 (0, 0)), (p5, .cells #[.int .i64 a.n, str a.set, str a.rel] 26 (0, 0))]) (fun k => (a.n - k).toNat) (0) ⟨by omega, fun i hi => absurd hi (by omega)⟩ (Sub.cons rfl (Sub.cons rfl (Sub.cons rfl (Sub.cons rfl (Sub.cons rfl (Sub.cons rfl (Sub.cons rfl Sub.nil))))))) (fun _ h => h) ?_
      rintro k ⟨hk1, hall1⟩
      refine Wk.seq ?_
      refine Wk.regionQ ?_
      refine Lq.op (v := .bool (decide (((k : Int)) < a.n))) rfl rfl rfl (OpQ.lss rfl rfl rfl) ?_
      refine Lq.nil ?_
      refine Kt.onSub (e' := [(1, va), (3, vb), (4, .int .i64 r), (5, .pointer (some ⟨p5, 0, none⟩)), (7, .pointer (some ⟨p7, 0, none⟩)), (30, .int .i64 a.n), (31, .int .i64 ((k : Int))), (32, .bool (decide (((k : Int)) < a.n)))]) (Sub.cons rfl (Sub.cons rfl (Sub.cons rfl (Sub.cons rfl (Sub.cons rfl (Sub.cons rfl (Sub.cons rfl (Sub.cons rfl Sub.nil)))))))) ?_
      refine Wk.seq ?_
      refine Wk.cond (b := decide (((k : Int)) < a.n)) rfl (fun h32 => ?_) (fun h32 => ?_)
      · skip
        replace h32 := of_decide_eq_true h32
        have hx : a.El k := ⟨by omega, by omega⟩
        refine Wk.skip ?_
        refine Kt.onSub (e' := [(1, va), (3, vb), (4, .int .i64 r), (5, .pointer (some ⟨p5, 0, none⟩)), (7, .pointer (some ⟨p7, 0, none⟩)), (30, .int .i64 a.n), (31, .int .i64 ((k : Int)))]) (Sub.cons rfl (Sub.cons rfl (Sub.cons rfl (Sub.cons rfl (Sub.cons rfl (Sub.cons rfl (Sub.cons rfl Sub.nil))))))) ?_
        refine Wk.seq ?_
        refine Wk.block ?_
        refine Wk.seq ?_
        refine Wk.regionQ ?_
        refine Lq.op (v := .int .i64 ((k : Int))) rfl rfl rfl (OpQ.move rfl rfl) ?_
        refine Lq.op (v := .int .i64 ((k : Int))) rfl rfl rfl (OpQ.assign rfl rfl) ?_
        refine Lq.nil ?_
        refine Kt.onSub (e' := [(1, va), (3, vb), (4, .int .i64 r), (5, .pointer (some ⟨p5, 0, none⟩)), (7, .pointer (some ⟨p7, 0, none⟩)), (13, .int .i64 ((k : Int))), (30, .int .i64 a.n), (31, .int .i64 ((k : Int)))]) (Sub.cons rfl (Sub.cons rfl (Sub.cons rfl (Sub.cons rfl (Sub.cons rfl (Sub.cons rfl (Sub.cons rfl (Sub.cons rfl Sub.nil)))))))) ?_
        refine Wk.seq ?_
        refine Wk.regionQ ?_
        refine Lq.op (v := vS a) rfl rfl rfl (OpQ.loadBox (cs := #[.int .i64 a.n, str a.set, str a.rel]) 1 rfl Tryd.isAgg26 rfl rfl Tryd.sizeOf26) ?_
        refine Lq.op (v := va) rfl rfl rfl (OpQ.move rfl rfl) ?_
        refine Lq.op (v := vS b) rfl rfl rfl (OpQ.loadBox (cs := #[.int .i64 b.n, str b.set, str b.rel]) 0 rfl Tryd.isAgg26 rfl rfl Tryd.sizeOf26) ?_
        refine Lq.op (v := vb) rfl rfl rfl (OpQ.move rfl rfl) ?_
        refine Lq.op (v := .int .i64 r) rfl rfl rfl (OpQ.move rfl rfl) ?_
        refine Lq.op (v := .int .i64 ((k : Int))) rfl rfl rfl (OpQ.move rfl rfl) ?_
        refine Lq.op (v := .tuple #[.int .i64 ((((rep (goB (r - 1).toNat) a xs b ys ((k : Int))).getD 0 : Nat) : Int)), .bool ((rep (goB (r - 1).toNat) a xs b ys ((k : Int))).isSome)]) rfl rfl rfl (OpQ.call rfl Tryd.call76 rfl Own.stable (fun w1 hw1 => reply_to r h1 a b xs ys va vb w1 ha hb (Row.own hva hw1) (Row.own hvb hw1) hA hB (by first | (simp; done) | (simp; omega) | omega) (by first | (simp; done) | (simp; omega) | omega) ((k : Int)) hx)) ?_
        refine Lq.op (v := .tuple #[.int .i64 ((((rep (goB (r - 1).toNat) a xs b ys ((k : Int))).getD 0 : Nat) : Int)), .bool ((rep (goB (r - 1).toNat) a xs b ys ((k : Int))).isSome)]) rfl rfl rfl (OpQ.move rfl rfl) ?_
        refine Lq.op (v := .int .i64 ((((rep (goB (r - 1).toNat) a xs b ys ((k : Int))).getD 0 : Nat) : Int))) rfl rfl rfl (OpQ.extract rfl rfl rfl) ?_
        refine Lq.op (v := .bool ((rep (goB (r - 1).toNat) a xs b ys ((k : Int))).isSome)) rfl rfl rfl (OpQ.extract rfl rfl rfl) ?_
        refine Lq.op (v := .int .i64 ((((rep (goB (r - 1).toNat) a xs b ys ((k : Int))).getD 0 : Nat) : Int))) rfl rfl rfl (OpQ.assign rfl rfl) ?_
        refine Lq.op (v := .bool ((rep (goB (r - 1).toNat) a xs b ys ((k : Int))).isSome)) rfl rfl rfl (OpQ.assign rfl rfl) ?_
        refine Lq.nil ?_
        refine Kt.onSub (e' := [(1, va), (3, vb), (4, .int .i64 r), (5, .pointer (some ⟨p5, 0, none⟩)), (7, .pointer (some ⟨p7, 0, none⟩)), (13, .int .i64 ((k : Int))), (15, .bool ((rep (goB (r - 1).toNat) a xs b ys ((k : Int))).isSome)), (30, .int .i64 a.n), (31, .int .i64 ((k : Int)))]) (Sub.cons rfl (Sub.cons rfl (Sub.cons rfl (Sub.cons rfl (Sub.cons rfl (Sub.cons rfl (Sub.cons rfl (Sub.cons rfl (Sub.cons rfl Sub.nil))))))))) ?_
        refine Wk.seq ?_
        refine Wk.regionQ ?_
        refine Lq.op (v := .bool ((rep (goB (r - 1).toNat) a xs b ys ((k : Int))).isSome)) rfl rfl rfl (OpQ.move rfl rfl) ?_
        refine Lq.op (v := .bool (!((rep (goB (r - 1).toNat) a xs b ys ((k : Int))).isSome))) rfl rfl rfl (OpQ.not rfl rfl) ?_
        refine Lq.nil ?_
        refine Kt.onSub (e' := [(1, va), (3, vb), (4, .int .i64 r), (5, .pointer (some ⟨p5, 0, none⟩)), (7, .pointer (some ⟨p7, 0, none⟩)), (13, .int .i64 ((k : Int))), (30, .int .i64 a.n), (31, .int .i64 ((k : Int))), (45, .bool (!((rep (goB (r - 1).toNat) a xs b ys ((k : Int))).isSome)))]) (Sub.cons rfl (Sub.cons rfl (Sub.cons rfl (Sub.cons rfl (Sub.cons rfl (Sub.cons rfl (Sub.cons rfl (Sub.cons rfl (Sub.cons rfl Sub.nil))))))))) ?_
        refine Wk.cond (b := !((rep (goB (r - 1).toNat) a xs b ys ((k : Int))).isSome)) rfl (fun h45 => ?_) (fun h45 => ?_)
        · skip
          replace h45 := not_true h45
          refine Wk.seq ?_
          refine Wk.regionQ ?_
          refine Lq.op (v := .int .i64 ((k : Int))) rfl rfl rfl (OpQ.move rfl rfl) ?_
          refine Lq.op (v := str ([97])) rfl rfl rfl (OpQ.assign rfl rfl) ?_
          refine Lq.op (v := .int .i64 ((k : Int))) rfl rfl rfl (OpQ.assign rfl rfl) ?_
          refine Lq.op (v := .bool true) rfl rfl rfl (OpQ.assign rfl rfl) ?_
          refine Lq.nil ?_
          refine Kt.onSub (e' := [(10, str ([97])), (11, .int .i64 ((k : Int))), (12, .bool true)]) (Sub.cons rfl (Sub.cons rfl (Sub.cons rfl Sub.nil))) ?_
          refine Wk.ret (Kt.end3 rfl rfl rfl rfl fun w' hw => ?_)
          -- ret 1: str ([97]); .int .i64 ((k : Int)); .bool true
          have hs1 : (rep (goB (r - 1).toNat) a xs b ys k).isSome = false := by simpa using h45
          exact ⟨by rw [if_pos (by rw [hsame]; simp [h1]), move_1 (k := k) (by omega) hall1 hs1]; rfl, hw.below⟩
        · skip
          replace h45 := not_false h45
          refine Wk.skip ?_
          refine Kt.onSub (e' := [(1, va), (3, vb), (4, .int .i64 r), (5, .pointer (some ⟨p5, 0, none⟩)), (7, .pointer (some ⟨p7, 0, none⟩)), (30, .int .i64 a.n), (31, .int .i64 ((k : Int)))]) (Sub.cons rfl (Sub.cons rfl (Sub.cons rfl (Sub.cons rfl (Sub.cons rfl (Sub.cons rfl (Sub.cons rfl Sub.nil))))))) ?_
          refine Wk.regionQ ?_
          refine Lq.op (v := .int .i64 (((k : Int)) + (1 : Int))) rfl rfl rfl (OpQ.add rfl rfl rfl (by omega) (by omega)) ?_
          refine Lq.op (v := .int .i64 (((k : Int)) + (1 : Int))) rfl rfl rfl (OpQ.move rfl rfl) ?_
          refine Lq.nil ?_
          refine Kt.again (k + 1) ⟨by omega, fun i hi => (Nat.lt_succ_iff_lt_or_eq.1 hi).elim (hall1 i) (fun e => by subst e; assumption)⟩ (by omega) (Sub.cons rfl (Sub.cons rfl (Sub.cons rfl (Sub.cons rfl (Sub.cons rfl (Sub.cons rfl (Sub.cons rfl Sub.nil))))))) (fun _ h => h)
      · skip
        replace h32 := of_decide_eq_false h32
        refine Wk.exit rfl ?_
        refine Kt.onSub (e' := [(1, va), (3, vb), (4, .int .i64 r), (5, .pointer (some ⟨p5, 0, none⟩)), (7, .pointer (some ⟨p7, 0, none⟩))]) (Sub.cons rfl (Sub.cons rfl (Sub.cons rfl (Sub.cons rfl (Sub.cons rfl Sub.nil))))) ?_
        refine Wk.seq ?_
        refine Wk.seq ?_
        refine Wk.regionQ ?_
        refine Lq.op (v := .pointer (some ⟨p7, 0, none⟩)) rfl rfl rfl (OpQ.fieldAddr rfl Tryd.runUnderlying26 rfl Tryd.sizeOf3 rfl rfl) ?_
        refine Lq.op (v := .int .i64 b.n) rfl rfl rfl (OpQ.loadOwn 0 rfl Tryd.isAgg3 rfl rfl rfl) ?_
        refine Lq.op (v := .int .i64 0) rfl rfl rfl (OpQ.move rfl rfl) ?_
        refine Lq.nil ?_
        refine Kt.onSub (e' := [(1, va), (3, vb), (4, .int .i64 r), (5, .pointer (some ⟨p5, 0, none⟩)), (7, .pointer (some ⟨p7, 0, none⟩)), (49, .int .i64 b.n), (50, .int .i64 0)]) (Sub.cons rfl (Sub.cons rfl (Sub.cons rfl (Sub.cons rfl (Sub.cons rfl (Sub.cons rfl (Sub.cons rfl Sub.nil))))))) ?_
        refine Wk.block ?_
        refine Wk.loop (σ := Nat) (fun m => (m : Int) ≤ b.n ∧ ∀ i : Nat, i < m → (rep (goB (r - 1).toNat) b ys a xs i).isSome = true) (fun m => [(1, va), (3, vb), (4, .int .i64 r), (5, .pointer (some ⟨p5, 0, none⟩)), (7, .pointer (some ⟨p7, 0, none⟩)), (49, .int .i64 b.n), (50, .int .i64 ((m : Int)))]) (fun m => Own w.heap.size w [(p7, .cells #[.int .i64 b.n, str b.set, str b.rel] 26 (0, 0)), (p5, .cells #[.int .i64 a.n, str a.set, str a.rel] 26 (0, 0))]) (fun m => (b.n - m).toNat) (0) ⟨by omega, fun i hi => absurd hi (by omega)⟩ (Sub.cons rfl (Sub.cons rfl (Sub.cons rfl (Sub.cons rfl (Sub.cons rfl (Sub.cons rfl (Sub.cons rfl Sub.nil))))))) (fun _ h => h) ?_
        rintro m ⟨hk2, hall2⟩
        refine Wk.seq ?_
        refine Wk.regionQ ?_
        refine Lq.op (v := .bool (decide (((m : Int)) < b.n))) rfl rfl rfl (OpQ.lss rfl rfl rfl) ?_
        refine Lq.nil ?_
        refine Kt.onSub (e' := [(1, va), (3, vb), (4, .int .i64 r), (5, .pointer (some ⟨p5, 0, none⟩)), (7, .pointer (some ⟨p7, 0, none⟩)), (49, .int .i64 b.n), (50, .int .i64 ((m : Int))), (51, .bool (decide (((m : Int)) < b.n)))]) (Sub.cons rfl (Sub.cons rfl (Sub.cons rfl (Sub.cons rfl (Sub.cons rfl (Sub.cons rfl (Sub.cons rfl (Sub.cons rfl Sub.nil)))))))) ?_
        refine Wk.seq ?_
        refine Wk.cond (b := decide (((m : Int)) < b.n)) rfl (fun h51 => ?_) (fun h51 => ?_)
        · skip
          replace h51 := of_decide_eq_true h51
          have hy : b.El m := ⟨by omega, by omega⟩
          refine Wk.skip ?_
          refine Kt.onSub (e' := [(1, va), (3, vb), (4, .int .i64 r), (5, .pointer (some ⟨p5, 0, none⟩)), (7, .pointer (some ⟨p7, 0, none⟩)), (49, .int .i64 b.n), (50, .int .i64 ((m : Int)))]) (Sub.cons rfl (Sub.cons rfl (Sub.cons rfl (Sub.cons rfl (Sub.cons rfl (Sub.cons rfl (Sub.cons rfl Sub.nil))))))) ?_
          refine Wk.seq ?_
          refine Wk.block ?_
          refine Wk.seq ?_
          refine Wk.regionQ ?_
          refine Lq.op (v := .int .i64 ((m : Int))) rfl rfl rfl (OpQ.move rfl rfl) ?_
          refine Lq.op (v := .int .i64 ((m : Int))) rfl rfl rfl (OpQ.assign rfl rfl) ?_
          refine Lq.nil ?_
          refine Kt.onSub (e' := [(1, va), (3, vb), (4, .int .i64 r), (5, .pointer (some ⟨p5, 0, none⟩)), (7, .pointer (some ⟨p7, 0, none⟩)), (16, .int .i64 ((m : Int))), (49, .int .i64 b.n), (50, .int .i64 ((m : Int)))]) (Sub.cons rfl (Sub.cons rfl (Sub.cons rfl (Sub.cons rfl (Sub.cons rfl (Sub.cons rfl (Sub.cons rfl (Sub.cons rfl Sub.nil)))))))) ?_
          refine Wk.seq ?_
          refine Wk.regionQ ?_
          refine Lq.op (v := vS b) rfl rfl rfl (OpQ.loadBox (cs := #[.int .i64 b.n, str b.set, str b.rel]) 0 rfl Tryd.isAgg26 rfl rfl Tryd.sizeOf26) ?_
          refine Lq.op (v := vb) rfl rfl rfl (OpQ.move rfl rfl) ?_
          refine Lq.op (v := vS a) rfl rfl rfl (OpQ.loadBox (cs := #[.int .i64 a.n, str a.set, str a.rel]) 1 rfl Tryd.isAgg26 rfl rfl Tryd.sizeOf26) ?_
          refine Lq.op (v := va) rfl rfl rfl (OpQ.move rfl rfl) ?_
          refine Lq.op (v := .int .i64 r) rfl rfl rfl (OpQ.move rfl rfl) ?_
          refine Lq.op (v := .int .i64 ((m : Int))) rfl rfl rfl (OpQ.move rfl rfl) ?_
          refine Lq.op (v := .tuple #[.int .i64 ((((rep (goB (r - 1).toNat) b ys a xs ((m : Int))).getD 0 : Nat) : Int)), .bool ((rep (goB (r - 1).toNat) b ys a xs ((m : Int))).isSome)]) rfl rfl rfl (OpQ.call rfl Tryd.call76 rfl Own.stable (fun w1 hw1 => reply_to r h1 b a ys xs vb va w1 hb ha (Row.own hvb hw1) (Row.own hva hw1) hB hA (by first | (simp; done) | (simp; omega) | omega) (by first | (simp; done) | (simp; omega) | omega) ((m : Int)) hy)) ?_
          refine Lq.op (v := .tuple #[.int .i64 ((((rep (goB (r - 1).toNat) b ys a xs ((m : Int))).getD 0 : Nat) : Int)), .bool ((rep (goB (r - 1).toNat) b ys a xs ((m : Int))).isSome)]) rfl rfl rfl (OpQ.move rfl rfl) ?_
          refine Lq.op (v := .int .i64 ((((rep (goB (r - 1).toNat) b ys a xs ((m : Int))).getD 0 : Nat) : Int))) rfl rfl rfl (OpQ.extract rfl rfl rfl) ?_
          refine Lq.op (v := .bool ((rep (goB (r - 1).toNat) b ys a xs ((m : Int))).isSome)) rfl rfl rfl (OpQ.extract rfl rfl rfl) ?_
          refine Lq.op (v := .int .i64 ((((rep (goB (r - 1).toNat) b ys a xs ((m : Int))).getD 0 : Nat) : Int))) rfl rfl rfl (OpQ.assign rfl rfl) ?_
          refine Lq.op (v := .bool ((rep (goB (r - 1).toNat) b ys a xs ((m : Int))).isSome)) rfl rfl rfl (OpQ.assign rfl rfl) ?_
          refine Lq.nil ?_
          refine Kt.onSub (e' := [(1, va), (3, vb), (4, .int .i64 r), (5, .pointer (some ⟨p5, 0, none⟩)), (7, .pointer (some ⟨p7, 0, none⟩)), (16, .int .i64 ((m : Int))), (18, .bool ((rep (goB (r - 1).toNat) b ys a xs ((m : Int))).isSome)), (49, .int .i64 b.n), (50, .int .i64 ((m : Int)))]) (Sub.cons rfl (Sub.cons rfl (Sub.cons rfl (Sub.cons rfl (Sub.cons rfl (Sub.cons rfl (Sub.cons rfl (Sub.cons rfl (Sub.cons rfl Sub.nil))))))))) ?_
          refine Wk.seq ?_
          refine Wk.regionQ ?_
          refine Lq.op (v := .bool ((rep (goB (r - 1).toNat) b ys a xs ((m : Int))).isSome)) rfl rfl rfl (OpQ.move rfl rfl) ?_
          refine Lq.op (v := .bool (!((rep (goB (r - 1).toNat) b ys a xs ((m : Int))).isSome))) rfl rfl rfl (OpQ.not rfl rfl) ?_
          refine Lq.nil ?_
          refine Kt.onSub (e' := [(1, va), (3, vb), (4, .int .i64 r), (5, .pointer (some ⟨p5, 0, none⟩)), (7, .pointer (some ⟨p7, 0, none⟩)), (16, .int .i64 ((m : Int))), (49, .int .i64 b.n), (50, .int .i64 ((m : Int))), (64, .bool (!((rep (goB (r - 1).toNat) b ys a xs ((m : Int))).isSome)))]) (Sub.cons rfl (Sub.cons rfl (Sub.cons rfl (Sub.cons rfl (Sub.cons rfl (Sub.cons rfl (Sub.cons rfl (Sub.cons rfl (Sub.cons rfl Sub.nil))))))))) ?_
          refine Wk.cond (b := !((rep (goB (r - 1).toNat) b ys a xs ((m : Int))).isSome)) rfl (fun h64 => ?_) (fun h64 => ?_)
          · skip
            replace h64 := not_true h64
            refine Wk.seq ?_
            refine Wk.regionQ ?_
            refine Lq.op (v := .int .i64 ((m : Int))) rfl rfl rfl (OpQ.move rfl rfl) ?_
            refine Lq.op (v := str ([98])) rfl rfl rfl (OpQ.assign rfl rfl) ?_
            refine Lq.op (v := .int .i64 ((m : Int))) rfl rfl rfl (OpQ.assign rfl rfl) ?_
            refine Lq.op (v := .bool true) rfl rfl rfl (OpQ.assign rfl rfl) ?_
            refine Lq.nil ?_
            refine Kt.onSub (e' := [(10, str ([98])), (11, .int .i64 ((m : Int))), (12, .bool true)]) (Sub.cons rfl (Sub.cons rfl (Sub.cons rfl Sub.nil))) ?_
            refine Wk.ret (Kt.end3 rfl rfl rfl rfl fun w' hw => ?_)
            -- ret 2: str ([98]); .int .i64 ((m : Int)); .bool true
            have hs2 : (rep (goB (r - 1).toNat) b ys a xs m).isSome = false := by simpa using h64
            exact ⟨by rw [if_pos (by rw [hsame]; simp [h1]), move_2 (k := m) (fun i hi => hall1 i (by omega)) (by omega) hall2 hs2]; rfl, hw.below⟩
          · skip
            replace h64 := not_false h64
            refine Wk.skip ?_
            refine Kt.onSub (e' := [(1, va), (3, vb), (4, .int .i64 r), (5, .pointer (some ⟨p5, 0, none⟩)), (7, .pointer (some ⟨p7, 0, none⟩)), (49, .int .i64 b.n), (50, .int .i64 ((m : Int)))]) (Sub.cons rfl (Sub.cons rfl (Sub.cons rfl (Sub.cons rfl (Sub.cons rfl (Sub.cons rfl (Sub.cons rfl Sub.nil))))))) ?_
            refine Wk.regionQ ?_
            refine Lq.op (v := .int .i64 (((m : Int)) + (1 : Int))) rfl rfl rfl (OpQ.add rfl rfl rfl (by omega) (by omega)) ?_
            refine Lq.op (v := .int .i64 (((m : Int)) + (1 : Int))) rfl rfl rfl (OpQ.move rfl rfl) ?_
            refine Lq.nil ?_
            refine Kt.again (m + 1) ⟨by omega, fun i hi => (Nat.lt_succ_iff_lt_or_eq.1 hi).elim (hall2 i) (fun e => by subst e; assumption)⟩ (by omega) (Sub.cons rfl (Sub.cons rfl (Sub.cons rfl (Sub.cons rfl (Sub.cons rfl (Sub.cons rfl (Sub.cons rfl Sub.nil))))))) (fun _ h => h)
        · skip
          replace h51 := of_decide_eq_false h51
          refine Wk.exit rfl ?_
          refine Kt.onSub (e' := []) Sub.nil ?_
          refine Wk.seq ?_
          refine Wk.regionQ ?_
          refine Lq.op (v := str ([])) rfl rfl rfl (OpQ.assign rfl rfl) ?_
          refine Lq.op (v := .int .i64 0) rfl rfl rfl (OpQ.assign rfl rfl) ?_
          refine Lq.op (v := .bool false) rfl rfl rfl (OpQ.assign rfl rfl) ?_
          refine Lq.nil ?_
          refine Kt.onSub (e' := [(10, str ([])), (11, .int .i64 0), (12, .bool false)]) (Sub.cons rfl (Sub.cons rfl (Sub.cons rfl Sub.nil))) ?_
          refine Wk.ret (Kt.end3 rfl rfl rfl rfl fun w' hw => ?_)
          -- ret 3: str ([]); .int .i64 0; .bool false
          first | exact ⟨by rw [if_pos (by rw [hsame]; simp [h1]), move_none (fun i hi => hall1 i (by omega)) (fun i hi => hall2 i (by omega))]; rfl, hw.below⟩ | exact ⟨by rw [if_neg (by first | (simp_all; done) | (simp_all; omega))]; rfl, hw.below⟩
  · skip
    replace hg25 := not_true hg25
    refine Lq.pass rfl rfl rfl ?_
    refine Lq.pass rfl rfl rfl ?_
    refine Lq.op (v := .bool true) rfl rfl rfl (OpQ.pickT rfl rfl rfl) ?_
    refine Lq.nil ?_
    refine Kt.onSub (e' := [(1, va), (3, vb), (4, .int .i64 r), (5, .pointer (some ⟨p5, 0, none⟩)), (7, .pointer (some ⟨p7, 0, none⟩)), (28, .bool true)]) (Sub.cons rfl (Sub.cons rfl (Sub.cons rfl (Sub.cons rfl (Sub.cons rfl (Sub.cons rfl Sub.nil)))))) ?_
    refine Wk.condT rfl ?_
    refine Wk.seq ?_
    refine Wk.regionQ ?_
    refine Lq.op (v := str ([])) rfl rfl rfl (OpQ.assign rfl rfl) ?_
    refine Lq.op (v := .int .i64 0) rfl rfl rfl (OpQ.assign rfl rfl) ?_
    refine Lq.op (v := .bool false) rfl rfl rfl (OpQ.assign rfl rfl) ?_
    refine Lq.nil ?_
    refine Kt.onSub (e' := [(10, str ([])), (11, .int .i64 0), (12, .bool false)]) (Sub.cons rfl (Sub.cons rfl (Sub.cons rfl Sub.nil))) ?_
    refine Wk.ret (Kt.end3 rfl rfl rfl rfl fun w' hw => ?_)
    -- ret 4: str ([]); .int .i64 0; .bool false
    first | exact ⟨by rw [if_pos (by rw [hsame]; simp [h1]), move_none (fun i hi => hall1 i (by omega)) (fun i hi => hall2 i (by omega))]; rfl, hw.below⟩ | exact ⟨by rw [if_neg (by first | (simp_all; done) | (simp_all; omega))]; rfl, hw.below⟩

set_option maxHeartbeats 400000 in
/-- impl.FirstMove -/
theorem iMove_ok (a b : St) (xs ys : List Int) (va vb : Value) (w : World) (hsa : a.Small) (hsb : b.Small) (hva : Ints w va xs) (hvb : Ints w vb ys) (hs1 : xs.length ≤ 140737488355328) (hs2 : ys.length ≤ 140737488355328) (r : Int) :
    Calls Tryd.prog 36 [vS a, va, vS b, vb, .int .i64 r].toArray w fun en w' => en = .returned (.tuple #[str (sideS (fmO a xs b ys r)), .int .i64 (moveI (fmO a xs b ys r)), .bool (fmO a xs b ys r).isSome]) ∧ Below w.heap.size w w' := by
  refine fnStart (n := 29) (e := [(0, vS a), (1, va), (2, vS b), (3, vb), (4, .int .i64 r)]) Tryd.func36 rfl rfl rfl rfl Ends.both ?_
  refine Wk.seq ?_
  refine Wk.region ?_
  refine Ll.box (v := vS a) rfl rfl rfl rfl rfl fun p5 hp5 => ?_
  show Ll _ _ (Own _ _ [(p5, .cells #[.int .i64 a.n, str a.set, str a.rel] 26 (0, 0))]) _ _ ((5, .pointer (some ⟨p5, 0, none⟩)) :: _) _ _ _
  refine Ll.box (v := vS b) rfl rfl rfl rfl rfl fun p7 hp7 => ?_
  show Ll _ _ (Own _ _ [(p7, .cells #[.int .i64 b.n, str b.set, str b.rel] 26 (0, 0)), (p5, .cells #[.int .i64 a.n, str a.set, str a.rel] 26 (0, 0))]) _ _ ((7, .pointer (some ⟨p7, 0, none⟩)) :: _) _ _ _
  refine Ll.op (v := str ([])) rfl rfl rfl (OpQ.assign rfl rfl) ?_
  refine Ll.op (v := .int .i64 0) rfl rfl rfl (OpQ.assign rfl rfl) ?_
  refine Ll.op (v := .bool false) rfl rfl rfl (OpQ.assign rfl rfl) ?_
  refine Ll.nil ?_
  refine Kt.onSub (e' := [(1, va), (3, vb), (4, .int .i64 r), (5, .pointer (some ⟨p5, 0, none⟩)), (7, .pointer (some ⟨p7, 0, none⟩))]) (Sub.cons rfl (Sub.cons rfl (Sub.cons rfl (Sub.cons rfl (Sub.cons rfl Sub.nil))))) ?_
  refine Wk.seq ?_
  refine Wk.seq ?_
  refine Wk.regionQ ?_
  refine Lq.op (v := vS a) rfl rfl rfl (OpQ.loadBox (cs := #[.int .i64 a.n, str a.set, str a.rel]) 1 rfl Tryd.isAgg26 rfl rfl Tryd.sizeOf26) ?_
  refine Lq.op (v := va) rfl rfl rfl (OpQ.move rfl rfl) ?_
  refine Lq.op (v := vS b) rfl rfl rfl (OpQ.loadBox (cs := #[.int .i64 b.n, str b.set, str b.rel]) 0 rfl Tryd.isAgg26 rfl rfl Tryd.sizeOf26) ?_
  refine Lq.op (v := vb) rfl rfl rfl (OpQ.move rfl rfl) ?_
  refine Lq.op (v := .int .i64 r) rfl rfl rfl (OpQ.move rfl rfl) ?_
  refine Lq.op (v := .bool (gameB a xs b ys r)) rfl rfl rfl (OpQ.call rfl Tryd.call62 rfl Own.stable (fun w1 hw1 => isGame_ok a b xs ys va vb w1 hsa hsb (Row.own hva hw1) (Row.own hvb hw1) (by first | (simp; done) | (simp; omega) | omega) (by first | (simp; done) | (simp; omega) | omega) r)) ?_
  refine Lq.op (v := .bool (!(gameB a xs b ys r))) rfl rfl rfl (OpQ.not rfl rfl) ?_
  refine Lq.nil ?_
  refine Kt.onSub (e' := [(1, va), (3, vb), (4, .int .i64 r), (5, .pointer (some ⟨p5, 0, none⟩)), (7, .pointer (some ⟨p7, 0, none⟩)), (19, .bool (!(gameB a xs b ys r)))]) (Sub.cons rfl (Sub.cons rfl (Sub.cons rfl (Sub.cons rfl (Sub.cons rfl (Sub.cons rfl Sub.nil)))))) ?_
  refine Wk.cond (b := !(gameB a xs b ys r)) rfl (fun h19 => ?_) (fun h19 => ?_)
  · skip
    replace h19 := not_true h19
    refine Wk.seq ?_
    refine Wk.regionQ ?_
    refine Lq.op (v := str ([])) rfl rfl rfl (OpQ.assign rfl rfl) ?_
    refine Lq.op (v := .int .i64 0) rfl rfl rfl (OpQ.assign rfl rfl) ?_
    refine Lq.op (v := .bool false) rfl rfl rfl (OpQ.assign rfl rfl) ?_
    refine Lq.nil ?_
    refine Kt.onSub (e' := [(10, str ([])), (11, .int .i64 0), (12, .bool false)]) (Sub.cons rfl (Sub.cons rfl (Sub.cons rfl Sub.nil))) ?_
    refine Wk.ret (Kt.end3 rfl rfl rfl rfl fun w' hw => ?_)
    -- ret 0: str ([]); .int .i64 0; .bool false
    exact ⟨by unfold fmO; rw [show gameB a xs b ys r = false from by simpa using h19]; rfl, hw.below⟩
  · skip
    replace h19 := not_false h19
    replace h19 : gameB a xs b ys r = true := by simpa using h19
    obtain ⟨hLL, hr0, hr3⟩ := gameB_true h19
    obtain ⟨LA, LB, hlen⟩ := listsB_true hLL
    have ha := LA.fine
    have hb := LB.fine
    have hA := LA.els
    have hB := LB.els
    have hl4 := LA.len
    refine Wk.skip ?_
    refine Kt.onSub (e' := [(1, va), (3, vb), (4, .int .i64 r), (5, .pointer (some ⟨p5, 0, none⟩)), (7, .pointer (some ⟨p7, 0, none⟩))]) (Sub.cons rfl (Sub.cons rfl (Sub.cons rfl (Sub.cons rfl (Sub.cons rfl Sub.nil))))) ?_
    refine Wk.seq ?_
    refine Wk.regionQ ?_
    refine Lq.op (v := vS a) rfl rfl rfl (OpQ.loadBox (cs := #[.int .i64 a.n, str a.set, str a.rel]) 1 rfl Tryd.isAgg26 rfl rfl Tryd.sizeOf26) ?_
    refine Lq.op (v := va) rfl rfl rfl (OpQ.move rfl rfl) ?_
    refine Lq.op (v := vS b) rfl rfl rfl (OpQ.loadBox (cs := #[.int .i64 b.n, str b.set, str b.rel]) 0 rfl Tryd.isAgg26 rfl rfl Tryd.sizeOf26) ?_
    refine Lq.op (v := vb) rfl rfl rfl (OpQ.move rfl rfl) ?_
    refine Lq.op (v := .int .i64 r) rfl rfl rfl (OpQ.move rfl rfl) ?_
    refine Lq.op (v := .tuple #[str (sideS (if sameB a xs b ys && decide (1 ≤ r) then moveO (r - 1).toNat a xs b ys else none)), .int .i64 (moveI (if sameB a xs b ys && decide (1 ≤ r) then moveO (r - 1).toNat a xs b ys else none)), .bool ((if sameB a xs b ys && decide (1 ≤ r) then moveO (r - 1).toNat a xs b ys else none).isSome)]) rfl rfl rfl (OpQ.call rfl Tryd.call78 rfl Own.stable (fun w1 hw1 => firstMove_ok a b xs ys va vb w1 ha hb (Row.own hva hw1) (Row.own hvb hw1) hA hB (by first | (simp; done) | (simp; omega) | omega) (by first | (simp; done) | (simp; omega) | omega) r (by omega) (by omega))) ?_
    refine Lq.op (v := str (sideS (if sameB a xs b ys && decide (1 ≤ r) then moveO (r - 1).toNat a xs b ys else none))) rfl rfl rfl (OpQ.extract rfl rfl rfl) ?_
    refine Lq.op (v := .int .i64 (moveI (if sameB a xs b ys && decide (1 ≤ r) then moveO (r - 1).toNat a xs b ys else none))) rfl rfl rfl (OpQ.extract rfl rfl rfl) ?_
    refine Lq.op (v := .bool ((if sameB a xs b ys && decide (1 ≤ r) then moveO (r - 1).toNat a xs b ys else none).isSome)) rfl rfl rfl (OpQ.extract rfl rfl rfl) ?_
    refine Lq.op (v := str (sideS (if sameB a xs b ys && decide (1 ≤ r) then moveO (r - 1).toNat a xs b ys else none))) rfl rfl rfl (OpQ.assign rfl rfl) ?_
    refine Lq.op (v := .int .i64 (moveI (if sameB a xs b ys && decide (1 ≤ r) then moveO (r - 1).toNat a xs b ys else none))) rfl rfl rfl (OpQ.assign rfl rfl) ?_
    refine Lq.op (v := .bool ((if sameB a xs b ys && decide (1 ≤ r) then moveO (r - 1).toNat a xs b ys else none).isSome)) rfl rfl rfl (OpQ.assign rfl rfl) ?_
    refine Lq.nil ?_
    refine Kt.onSub (e' := [(10, str (sideS (if sameB a xs b ys && decide (1 ≤ r) then moveO (r - 1).toNat a xs b ys else none))), (11, .int .i64 (moveI (if sameB a xs b ys && decide (1 ≤ r) then moveO (r - 1).toNat a xs b ys else none))), (12, .bool ((if sameB a xs b ys && decide (1 ≤ r) then moveO (r - 1).toNat a xs b ys else none).isSome))]) (Sub.cons rfl (Sub.cons rfl (Sub.cons rfl Sub.nil))) ?_
    refine Wk.ret (Kt.end3 rfl rfl rfl rfl fun w' hw => ?_)
    -- ret 1: str (sideS (if sameB a xs b ys && decide (1 ≤ r) then moveO (r - 1).toNat a xs b ys else none)); .int .i64 (moveI (if sameB a xs b ys && decide (1 ≤ r) then moveO (r - 1).toNat a xs b ys else none)); .bool ((if sameB a xs b ys && decide (1 ≤ r) then moveO (r - 1).toNat a xs b ys else none).isSome)
    exact ⟨by unfold fmO; rw [h19]; rfl, hw.below⟩

set_option maxHeartbeats 400000 in
/-- spec.FirstMove -/
theorem sMove_ok (a b : St) (xs ys : List Int) (va vb : Value) (w : World) (hsa : a.Small) (hsb : b.Small) (hva : Ints w va xs) (hvb : Ints w vb ys) (hs1 : xs.length ≤ 140737488355328) (hs2 : ys.length ≤ 140737488355328) (loa : -9223372036854775808 ≤ a.n) (hia : a.n ≤ 9223372036854775807) (lob : -9223372036854775808 ≤ b.n) (hib : b.n ≤ 9223372036854775807) (r : Int) :
    Calls Tryd.prog 35 [vS a, va, vS b, vb, .int .i64 r].toArray w fun en w' => en = .returned (.tuple #[str (sideS (fmO a xs b ys r)), .int .i64 (moveI (fmO a xs b ys r)), .bool (fmO a xs b ys r).isSome]) ∧ Below w.heap.size w w' := by
  refine fnStart (n := 64) (e := [(0, vS a), (1, va), (2, vS b), (3, vb), (4, .int .i64 r)]) Tryd.func35 rfl rfl rfl rfl Ends.both ?_
  refine Wk.seq ?_
  refine Wk.region ?_
  refine Ll.box (v := vS a) rfl rfl rfl rfl rfl fun p5 hp5 => ?_
  show Ll _ _ (Own _ _ [(p5, .cells #[.int .i64 a.n, str a.set, str a.rel] 26 (0, 0))]) _ _ ((5, .pointer (some ⟨p5, 0, none⟩)) :: _) _ _ _
  refine Ll.box (v := vS b) rfl rfl rfl rfl rfl fun p7 hp7 => ?_
  show Ll _ _ (Own _ _ [(p7, .cells #[.int .i64 b.n, str b.set, str b.rel] 26 (0, 0)), (p5, .cells #[.int .i64 a.n, str a.set, str a.rel] 26 (0, 0))]) _ _ ((7, .pointer (some ⟨p7, 0, none⟩)) :: _) _ _ _
  refine Ll.op (v := str ([])) rfl rfl rfl (OpQ.assign rfl rfl) ?_
  refine Ll.op (v := .int .i64 0) rfl rfl rfl (OpQ.assign rfl rfl) ?_
  refine Ll.op (v := .bool false) rfl rfl rfl (OpQ.assign rfl rfl) ?_
  refine Ll.nil ?_
  refine Kt.onSub (e' := [(1, va), (3, vb), (4, .int .i64 r), (5, .pointer (some ⟨p5, 0, none⟩)), (7, .pointer (some ⟨p7, 0, none⟩))]) (Sub.cons rfl (Sub.cons rfl (Sub.cons rfl (Sub.cons rfl (Sub.cons rfl Sub.nil))))) ?_
  refine Wk.seq ?_
  refine Wk.seq ?_
  refine Wk.regionQ ?_
  refine Lq.op (v := vS a) rfl rfl rfl (OpQ.loadBox (cs := #[.int .i64 a.n, str a.set, str a.rel]) 1 rfl Tryd.isAgg26 rfl rfl Tryd.sizeOf26) ?_
  refine Lq.op (v := va) rfl rfl rfl (OpQ.move rfl rfl) ?_
  refine Lq.op (v := vS b) rfl rfl rfl (OpQ.loadBox (cs := #[.int .i64 b.n, str b.set, str b.rel]) 0 rfl Tryd.isAgg26 rfl rfl Tryd.sizeOf26) ?_
  refine Lq.op (v := vb) rfl rfl rfl (OpQ.move rfl rfl) ?_
  refine Lq.op (v := .int .i64 r) rfl rfl rfl (OpQ.move rfl rfl) ?_
  refine Lq.op (v := .bool (gameB a xs b ys r)) rfl rfl rfl (OpQ.call rfl Tryd.call60 rfl Own.stable (fun w1 hw1 => l5Ready_ok a b xs ys va vb w1 hsa hsb (Row.own hva hw1) (Row.own hvb hw1) (by first | (simp; done) | (simp; omega) | omega) (by first | (simp; done) | (simp; omega) | omega) loa hia lob hib r)) ?_
  refine Lq.op (v := .bool (!(gameB a xs b ys r))) rfl rfl rfl (OpQ.not rfl rfl) ?_
  refine Lq.op (v := .bool (!(gameB a xs b ys r))) rfl rfl rfl (OpQ.move rfl rfl) ?_
  refine Lq.bool fun b22 hg22 => ?_
  cases b22
  · skip
    replace hg22 := not_false hg22
    replace hg22 : gameB a xs b ys r = true := by simpa using hg22
    obtain ⟨hLL, hr0, hr3⟩ := gameB_true hg22
    obtain ⟨LA, LB, hlen⟩ := listsB_true hLL
    have ha := LA.fine
    have hb := LB.fine
    have hA := LA.els
    have hB := LB.els
    have hl4 := LA.len
    have hn8 := hb.hi
    have hn1 := hb.lo
    have hm8 := ha.hi
    have hm1 := ha.lo
    refine Lq.op (v := vS a) rfl rfl rfl (OpQ.loadBox (cs := #[.int .i64 a.n, str a.set, str a.rel]) 1 rfl Tryd.isAgg26 rfl rfl Tryd.sizeOf26) ?_
    refine Lq.op (v := va) rfl rfl rfl (OpQ.move rfl rfl) ?_
    refine Lq.op (v := vS b) rfl rfl rfl (OpQ.loadBox (cs := #[.int .i64 b.n, str b.set, str b.rel]) 0 rfl Tryd.isAgg26 rfl rfl Tryd.sizeOf26) ?_
    refine Lq.op (v := vb) rfl rfl rfl (OpQ.move rfl rfl) ?_
    refine Lq.op (v := .bool (sameB a xs b ys)) rfl rfl rfl (OpQ.call rfl Tryd.call77 rfl Own.stable (fun w1 hw1 => l4Partial_ok a b xs ys va vb w1 ha hb (Row.own hva hw1) (Row.own hvb hw1) hA hB (by omega) (by omega))) ?_
    refine Lq.op (v := .bool (!(sameB a xs b ys))) rfl rfl rfl (OpQ.not rfl rfl) ?_
    refine Lq.op (v := .bool (!(sameB a xs b ys))) rfl rfl rfl (OpQ.pickF rfl rfl rfl) ?_
    refine Lq.op (v := .bool (!(sameB a xs b ys))) rfl rfl rfl (OpQ.move rfl rfl) ?_
    refine Lq.bool fun b30 hg30 => ?_
    cases b30
    · skip
      replace hg30 := not_false hg30
      refine Lq.op (v := .int .i64 r) rfl rfl rfl (OpQ.move rfl rfl) ?_
      refine Lq.op (v := .bool (decide (r < (1 : Int)))) rfl rfl rfl (OpQ.lss rfl rfl rfl) ?_
      refine Lq.op (v := .bool (decide (r < (1 : Int)))) rfl rfl rfl (OpQ.pickF rfl rfl rfl) ?_
      refine Lq.nil ?_
      refine Kt.onSub (e' := [(1, va), (3, vb), (4, .int .i64 r), (5, .pointer (some ⟨p5, 0, none⟩)), (7, .pointer (some ⟨p7, 0, none⟩)), (33, .bool (decide (r < (1 : Int))))]) (Sub.cons rfl (Sub.cons rfl (Sub.cons rfl (Sub.cons rfl (Sub.cons rfl (Sub.cons rfl Sub.nil)))))) ?_
      refine Wk.cond (b := decide (r < (1 : Int))) rfl (fun h33 => ?_) (fun h33 => ?_)
      · skip
        replace h33 := of_decide_eq_true h33
        refine Wk.seq ?_
        refine Wk.regionQ ?_
        refine Lq.op (v := str ([])) rfl rfl rfl (OpQ.assign rfl rfl) ?_
        refine Lq.op (v := .int .i64 0) rfl rfl rfl (OpQ.assign rfl rfl) ?_
        refine Lq.op (v := .bool false) rfl rfl rfl (OpQ.assign rfl rfl) ?_
        refine Lq.nil ?_
        refine Kt.onSub (e' := [(10, str ([])), (11, .int .i64 0), (12, .bool false)]) (Sub.cons rfl (Sub.cons rfl (Sub.cons rfl Sub.nil))) ?_
        refine Wk.ret (Kt.end3 rfl rfl rfl rfl fun w' hw => ?_)
        -- ret 0: str ([]); .int .i64 0; .bool false
        first | exact ⟨by rw [show fmO a xs b ys r = moveO (r - 1).toNat a xs b ys from by unfold fmO; rw [hg22, hsame, if_pos (by simp [h1])], move_none (fun i hi => hall1 i (by omega)) (fun i hi => hall2 i (by omega))]; rfl, hw.below⟩ | exact ⟨by rw [show fmO a xs b ys r = none from by unfold fmO; rw [if_neg (by first | (simp_all; done) | (simp_all; omega))]]; rfl, hw.below⟩
      · skip
        replace h33 := of_decide_eq_false h33
        have hsame : sameB a xs b ys = true := by simp_all
        have h1 : 1 ≤ r := by omega
        refine Wk.skip ?_
        refine Kt.onSub (e' := [(1, va), (3, vb), (4, .int .i64 r), (5, .pointer (some ⟨p5, 0, none⟩)), (7, .pointer (some ⟨p7, 0, none⟩))]) (Sub.cons rfl (Sub.cons rfl (Sub.cons rfl (Sub.cons rfl (Sub.cons rfl Sub.nil))))) ?_
        refine Wk.seq ?_
        refine Wk.seq ?_
        refine Wk.regionQ ?_
        refine Lq.op (v := .int .i64 0) rfl rfl rfl (OpQ.assign rfl rfl) ?_
        refine Lq.nil ?_
        refine Kt.onSub (e' := [(1, va), (3, vb), (4, .int .i64 r), (5, .pointer (some ⟨p5, 0, none⟩)), (7, .pointer (some ⟨p7, 0, none⟩)), (13, .int .i64 0)]) (Sub.cons rfl (Sub.cons rfl (Sub.cons rfl (Sub.cons rfl (Sub.cons rfl (Sub.cons rfl Sub.nil)))))) ?_
        refine Wk.block ?_
        refine Wk.loop (σ := Nat) (fun k => (k : Int) ≤ a.n ∧ ∀ i : Nat, i < k → (rep (goB (r - 1).toNat) a xs b ys i).isSome = true) (fun k => [(1, va), (3, vb), (4, .int .i64 r), (5, .pointer (some ⟨p5, 0, none⟩)), (7, .pointer (some ⟨p7, 0, none⟩)), (13, .int .i64 ((k : Int)))]) (fun k => Own w.heap.size w [(p7, .cells #[.int .i64 b.n, str b.set, str b.rel] 26 (0, 0)), (p5, .cells #[.int .i64 a.n, str a.set, str a.rel] 26 (0, 0))]) (fun k => (a.n - k).toNat) (0) ⟨by omega, fun i hi => absurd hi (by omega)⟩ (Sub.cons rfl (Sub.cons rfl (Sub.cons rfl (Sub.cons rfl (Sub.cons rfl (Sub.cons rfl Sub.nil)))))) (fun _ h => h) ?_
        rintro k ⟨hk1, hall1⟩
        refine Wk.seq ?_
        refine Wk.seq ?_
        refine Wk.regionQ ?_
        refine Lq.op (v := .int .i64 ((k : Int))) rfl rfl rfl (OpQ.move rfl rfl) ?_
        refine Lq.op (v := .pointer (some ⟨p5, 0, none⟩)) rfl rfl rfl (OpQ.fieldAddr rfl Tryd.runUnderlying26 rfl Tryd.sizeOf3 rfl rfl) ?_
        refine Lq.op (v := .int .i64 a.n) rfl rfl rfl (OpQ.loadOwn 1 rfl Tryd.isAgg3 rfl rfl rfl) ?_
        refine Lq.op (v := .bool (decide (((k : Int)) < a.n))) rfl rfl rfl (OpQ.lss rfl rfl rfl) ?_
        refine Lq.nil ?_
        refine Kt.onSub (e' := [(1, va), (3, vb), (4, .int .i64 r), (5, .pointer (some ⟨p5, 0, none⟩)), (7, .pointer (some ⟨p7, 0, none⟩)), (13, .int .i64 ((k : Int))), (37, .bool (decide (((k : Int)) < a.n)))]) (Sub.cons rfl (Sub.cons rfl (Sub.cons rfl (Sub.cons rfl (Sub.cons rfl (Sub.cons rfl (Sub.cons rfl Sub.nil))))))) ?_
        refine Wk.cond (b := decide (((k : Int)) < a.n)) rfl (fun h37 => ?_) (fun h37 => ?_)
        · skip
          replace h37 := of_decide_eq_true h37
          have hx : a.El k := ⟨by omega, by omega⟩
          refine Wk.skip ?_
          refine Kt.onSub (e' := [(1, va), (3, vb), (4, .int .i64 r), (5, .pointer (some ⟨p5, 0, none⟩)), (7, .pointer (some ⟨p7, 0, none⟩)), (13, .int .i64 ((k : Int)))]) (Sub.cons rfl (Sub.cons rfl (Sub.cons rfl (Sub.cons rfl (Sub.cons rfl (Sub.cons rfl Sub.nil)))))) ?_
          refine Wk.seq ?_
          refine Wk.block ?_
          refine Wk.seq ?_
          refine Wk.regionQ ?_
          refine Lq.op (v := vS a) rfl rfl rfl (OpQ.loadBox (cs := #[.int .i64 a.n, str a.set, str a.rel]) 1 rfl Tryd.isAgg26 rfl rfl Tryd.sizeOf26) ?_
          refine Lq.op (v := va) rfl rfl rfl (OpQ.move rfl rfl) ?_
          refine Lq.op (v := vS b) rfl rfl rfl (OpQ.loadBox (cs := #[.int .i64 b.n, str b.set, str b.rel]) 0 rfl Tryd.isAgg26 rfl rfl Tryd.sizeOf26) ?_
          refine Lq.op (v := vb) rfl rfl rfl (OpQ.move rfl rfl) ?_
          refine Lq.op (v := .int .i64 r) rfl rfl rfl (OpQ.move rfl rfl) ?_
          refine Lq.op (v := .int .i64 ((k : Int))) rfl rfl rfl (OpQ.move rfl rfl) ?_
          refine Lq.op (v := .int .i64 (repI (rep (goB ((r - 1).toNat)) a xs b ys ((k : Int))))) rfl rfl rfl (OpQ.call rfl Tryd.call74 rfl Own.stable (fun w1 hw1 => l5Reply_at r (by omega) (by omega) a b xs ys va vb w1 ha hb (Row.own hva hw1) (Row.own hvb hw1) hA hB (by first | (simp; done) | (simp; omega) | omega) (by first | (simp; done) | (simp; omega) | omega) ((k : Int)) hx)) ?_
          refine Lq.op (v := .bool (decide ((repI (rep (goB ((r - 1).toNat)) a xs b ys ((k : Int)))) < (0 : Int)))) rfl rfl rfl (OpQ.lss rfl rfl rfl) ?_
          refine Lq.nil ?_
          refine Kt.onSub (e' := [(1, va), (3, vb), (4, .int .i64 r), (5, .pointer (some ⟨p5, 0, none⟩)), (7, .pointer (some ⟨p7, 0, none⟩)), (13, .int .i64 ((k : Int))), (47, .bool (decide ((repI (rep (goB ((r - 1).toNat)) a xs b ys ((k : Int)))) < (0 : Int))))]) (Sub.cons rfl (Sub.cons rfl (Sub.cons rfl (Sub.cons rfl (Sub.cons rfl (Sub.cons rfl (Sub.cons rfl Sub.nil))))))) ?_
          refine Wk.cond (b := decide ((repI (rep (goB ((r - 1).toNat)) a xs b ys ((k : Int)))) < (0 : Int))) rfl (fun h47 => ?_) (fun h47 => ?_)
          · skip
            replace h47 := of_decide_eq_true h47
            refine Wk.seq ?_
            refine Wk.regionQ ?_
            refine Lq.op (v := .int .i64 ((k : Int))) rfl rfl rfl (OpQ.move rfl rfl) ?_
            refine Lq.op (v := str ([97])) rfl rfl rfl (OpQ.assign rfl rfl) ?_
            refine Lq.op (v := .int .i64 ((k : Int))) rfl rfl rfl (OpQ.assign rfl rfl) ?_
            refine Lq.op (v := .bool true) rfl rfl rfl (OpQ.assign rfl rfl) ?_
            refine Lq.nil ?_
            refine Kt.onSub (e' := [(10, str ([97])), (11, .int .i64 ((k : Int))), (12, .bool true)]) (Sub.cons rfl (Sub.cons rfl (Sub.cons rfl Sub.nil))) ?_
            refine Wk.ret (Kt.end3 rfl rfl rfl rfl fun w' hw => ?_)
            -- ret 1: str ([97]); .int .i64 ((k : Int)); .bool true
            have hs1 := repI_neg.1 h47
            exact ⟨by rw [show fmO a xs b ys r = moveO (r - 1).toNat a xs b ys from by unfold fmO; rw [hg22, hsame, if_pos (by simp [h1])], move_1 (k := k) (by omega) hall1 hs1]; rfl, hw.below⟩
          · skip
            replace h47 := of_decide_eq_false h47
            have hs1 := (repI_some h47).1
            refine Wk.skip ?_
            refine Kt.onSub (e' := [(1, va), (3, vb), (4, .int .i64 r), (5, .pointer (some ⟨p5, 0, none⟩)), (7, .pointer (some ⟨p7, 0, none⟩)), (13, .int .i64 ((k : Int)))]) (Sub.cons rfl (Sub.cons rfl (Sub.cons rfl (Sub.cons rfl (Sub.cons rfl (Sub.cons rfl Sub.nil)))))) ?_
            refine Wk.regionQ ?_
            refine Lq.op (v := .int .i64 ((k : Int))) rfl rfl rfl (OpQ.move rfl rfl) ?_
            refine Lq.op (v := .int .i64 (((k : Int)) + (1 : Int))) rfl rfl rfl (OpQ.add rfl rfl rfl (by omega) (by omega)) ?_
            refine Lq.op (v := .int .i64 (((k : Int)) + (1 : Int))) rfl rfl rfl (OpQ.assign rfl rfl) ?_
            refine Lq.nil ?_
            refine Kt.again (k + 1) ⟨by omega, fun i hi => (Nat.lt_succ_iff_lt_or_eq.1 hi).elim (hall1 i) (fun e => by subst e; assumption)⟩ (by omega) (Sub.cons rfl (Sub.cons rfl (Sub.cons rfl (Sub.cons rfl (Sub.cons rfl (Sub.cons rfl Sub.nil)))))) (fun _ h => h)
        · skip
          replace h37 := of_decide_eq_false h37
          refine Wk.exit rfl ?_
          refine Kt.onSub (e' := [(1, va), (3, vb), (4, .int .i64 r), (5, .pointer (some ⟨p5, 0, none⟩)), (7, .pointer (some ⟨p7, 0, none⟩))]) (Sub.cons rfl (Sub.cons rfl (Sub.cons rfl (Sub.cons rfl (Sub.cons rfl Sub.nil))))) ?_
          refine Wk.seq ?_
          refine Wk.seq ?_
          refine Wk.regionQ ?_
          refine Lq.op (v := .int .i64 0) rfl rfl rfl (OpQ.assign rfl rfl) ?_
          refine Lq.nil ?_
          refine Kt.onSub (e' := [(1, va), (3, vb), (4, .int .i64 r), (5, .pointer (some ⟨p5, 0, none⟩)), (7, .pointer (some ⟨p7, 0, none⟩)), (14, .int .i64 0)]) (Sub.cons rfl (Sub.cons rfl (Sub.cons rfl (Sub.cons rfl (Sub.cons rfl (Sub.cons rfl Sub.nil)))))) ?_
          refine Wk.block ?_
          refine Wk.loop (σ := Nat) (fun m => (m : Int) ≤ b.n ∧ ∀ i : Nat, i < m → (rep (goB (r - 1).toNat) b ys a xs i).isSome = true) (fun m => [(1, va), (3, vb), (4, .int .i64 r), (5, .pointer (some ⟨p5, 0, none⟩)), (7, .pointer (some ⟨p7, 0, none⟩)), (14, .int .i64 ((m : Int)))]) (fun m => Own w.heap.size w [(p7, .cells #[.int .i64 b.n, str b.set, str b.rel] 26 (0, 0)), (p5, .cells #[.int .i64 a.n, str a.set, str a.rel] 26 (0, 0))]) (fun m => (b.n - m).toNat) (0) ⟨by omega, fun i hi => absurd hi (by omega)⟩ (Sub.cons rfl (Sub.cons rfl (Sub.cons rfl (Sub.cons rfl (Sub.cons rfl (Sub.cons rfl Sub.nil)))))) (fun _ h => h) ?_
          rintro m ⟨hk2, hall2⟩
          refine Wk.seq ?_
          refine Wk.seq ?_
          refine Wk.regionQ ?_
          refine Lq.op (v := .int .i64 ((m : Int))) rfl rfl rfl (OpQ.move rfl rfl) ?_
          refine Lq.op (v := .pointer (some ⟨p7, 0, none⟩)) rfl rfl rfl (OpQ.fieldAddr rfl Tryd.runUnderlying26 rfl Tryd.sizeOf3 rfl rfl) ?_
          refine Lq.op (v := .int .i64 b.n) rfl rfl rfl (OpQ.loadOwn 0 rfl Tryd.isAgg3 rfl rfl rfl) ?_
          refine Lq.op (v := .bool (decide (((m : Int)) < b.n))) rfl rfl rfl (OpQ.lss rfl rfl rfl) ?_
          refine Lq.nil ?_
          refine Kt.onSub (e' := [(1, va), (3, vb), (4, .int .i64 r), (5, .pointer (some ⟨p5, 0, none⟩)), (7, .pointer (some ⟨p7, 0, none⟩)), (14, .int .i64 ((m : Int))), (52, .bool (decide (((m : Int)) < b.n)))]) (Sub.cons rfl (Sub.cons rfl (Sub.cons rfl (Sub.cons rfl (Sub.cons rfl (Sub.cons rfl (Sub.cons rfl Sub.nil))))))) ?_
          refine Wk.cond (b := decide (((m : Int)) < b.n)) rfl (fun h52 => ?_) (fun h52 => ?_)
          · skip
            replace h52 := of_decide_eq_true h52
            have hy : b.El m := ⟨by omega, by omega⟩
            refine Wk.skip ?_
            refine Kt.onSub (e' := [(1, va), (3, vb), (4, .int .i64 r), (5, .pointer (some ⟨p5, 0, none⟩)), (7, .pointer (some ⟨p7, 0, none⟩)), (14, .int .i64 ((m : Int)))]) (Sub.cons rfl (Sub.cons rfl (Sub.cons rfl (Sub.cons rfl (Sub.cons rfl (Sub.cons rfl Sub.nil)))))) ?_
            refine Wk.seq ?_
            refine Wk.block ?_
            refine Wk.seq ?_
            refine Wk.regionQ ?_
            refine Lq.op (v := vS b) rfl rfl rfl (OpQ.loadBox (cs := #[.int .i64 b.n, str b.set, str b.rel]) 0 rfl Tryd.isAgg26 rfl rfl Tryd.sizeOf26) ?_
            refine Lq.op (v := vb) rfl rfl rfl (OpQ.move rfl rfl) ?_
            refine Lq.op (v := vS a) rfl rfl rfl (OpQ.loadBox (cs := #[.int .i64 a.n, str a.set, str a.rel]) 1 rfl Tryd.isAgg26 rfl rfl Tryd.sizeOf26) ?_
            refine Lq.op (v := va) rfl rfl rfl (OpQ.move rfl rfl) ?_
            refine Lq.op (v := .int .i64 r) rfl rfl rfl (OpQ.move rfl rfl) ?_
            refine Lq.op (v := .int .i64 ((m : Int))) rfl rfl rfl (OpQ.move rfl rfl) ?_
            refine Lq.op (v := .int .i64 (repI (rep (goB ((r - 1).toNat)) b ys a xs ((m : Int))))) rfl rfl rfl (OpQ.call rfl Tryd.call74 rfl Own.stable (fun w1 hw1 => l5Reply_at r (by omega) (by omega) b a ys xs vb va w1 hb ha (Row.own hvb hw1) (Row.own hva hw1) hB hA (by first | (simp; done) | (simp; omega) | omega) (by first | (simp; done) | (simp; omega) | omega) ((m : Int)) hy)) ?_
            refine Lq.op (v := .bool (decide ((repI (rep (goB ((r - 1).toNat)) b ys a xs ((m : Int)))) < (0 : Int)))) rfl rfl rfl (OpQ.lss rfl rfl rfl) ?_
            refine Lq.nil ?_
            refine Kt.onSub (e' := [(1, va), (3, vb), (4, .int .i64 r), (5, .pointer (some ⟨p5, 0, none⟩)), (7, .pointer (some ⟨p7, 0, none⟩)), (14, .int .i64 ((m : Int))), (62, .bool (decide ((repI (rep (goB ((r - 1).toNat)) b ys a xs ((m : Int)))) < (0 : Int))))]) (Sub.cons rfl (Sub.cons rfl (Sub.cons rfl (Sub.cons rfl (Sub.cons rfl (Sub.cons rfl (Sub.cons rfl Sub.nil))))))) ?_
            refine Wk.cond (b := decide ((repI (rep (goB ((r - 1).toNat)) b ys a xs ((m : Int)))) < (0 : Int))) rfl (fun h62 => ?_) (fun h62 => ?_)
            · skip
              replace h62 := of_decide_eq_true h62
              refine Wk.seq ?_
              refine Wk.regionQ ?_
              refine Lq.op (v := .int .i64 ((m : Int))) rfl rfl rfl (OpQ.move rfl rfl) ?_
              refine Lq.op (v := str ([98])) rfl rfl rfl (OpQ.assign rfl rfl) ?_
              refine Lq.op (v := .int .i64 ((m : Int))) rfl rfl rfl (OpQ.assign rfl rfl) ?_
              refine Lq.op (v := .bool true) rfl rfl rfl (OpQ.assign rfl rfl) ?_
              refine Lq.nil ?_
              refine Kt.onSub (e' := [(10, str ([98])), (11, .int .i64 ((m : Int))), (12, .bool true)]) (Sub.cons rfl (Sub.cons rfl (Sub.cons rfl Sub.nil))) ?_
              refine Wk.ret (Kt.end3 rfl rfl rfl rfl fun w' hw => ?_)
              -- ret 2: str ([98]); .int .i64 ((m : Int)); .bool true
              have hs2 := repI_neg.1 h62
              exact ⟨by rw [show fmO a xs b ys r = moveO (r - 1).toNat a xs b ys from by unfold fmO; rw [hg22, hsame, if_pos (by simp [h1])], move_2 (k := m) (fun i hi => hall1 i (by omega)) (by omega) hall2 hs2]; rfl, hw.below⟩
            · skip
              replace h62 := of_decide_eq_false h62
              have hs2 := (repI_some h62).1
              refine Wk.skip ?_
              refine Kt.onSub (e' := [(1, va), (3, vb), (4, .int .i64 r), (5, .pointer (some ⟨p5, 0, none⟩)), (7, .pointer (some ⟨p7, 0, none⟩)), (14, .int .i64 ((m : Int)))]) (Sub.cons rfl (Sub.cons rfl (Sub.cons rfl (Sub.cons rfl (Sub.cons rfl (Sub.cons rfl Sub.nil)))))) ?_
              refine Wk.regionQ ?_
              refine Lq.op (v := .int .i64 ((m : Int))) rfl rfl rfl (OpQ.move rfl rfl) ?_
              refine Lq.op (v := .int .i64 (((m : Int)) + (1 : Int))) rfl rfl rfl (OpQ.add rfl rfl rfl (by omega) (by omega)) ?_
              refine Lq.op (v := .int .i64 (((m : Int)) + (1 : Int))) rfl rfl rfl (OpQ.assign rfl rfl) ?_
              refine Lq.nil ?_
              refine Kt.again (m + 1) ⟨by omega, fun i hi => (Nat.lt_succ_iff_lt_or_eq.1 hi).elim (hall2 i) (fun e => by subst e; assumption)⟩ (by omega) (Sub.cons rfl (Sub.cons rfl (Sub.cons rfl (Sub.cons rfl (Sub.cons rfl (Sub.cons rfl Sub.nil)))))) (fun _ h => h)
          · skip
            replace h52 := of_decide_eq_false h52
            refine Wk.exit rfl ?_
            refine Kt.onSub (e' := []) Sub.nil ?_
            refine Wk.seq ?_
            refine Wk.regionQ ?_
            refine Lq.op (v := str ([])) rfl rfl rfl (OpQ.assign rfl rfl) ?_
            refine Lq.op (v := .int .i64 0) rfl rfl rfl (OpQ.assign rfl rfl) ?_
            refine Lq.op (v := .bool false) rfl rfl rfl (OpQ.assign rfl rfl) ?_
            refine Lq.nil ?_
            refine Kt.onSub (e' := [(10, str ([])), (11, .int .i64 0), (12, .bool false)]) (Sub.cons rfl (Sub.cons rfl (Sub.cons rfl Sub.nil))) ?_
            refine Wk.ret (Kt.end3 rfl rfl rfl rfl fun w' hw => ?_)
            -- ret 3: str ([]); .int .i64 0; .bool false
            first | exact ⟨by rw [show fmO a xs b ys r = moveO (r - 1).toNat a xs b ys from by unfold fmO; rw [hg22, hsame, if_pos (by simp [h1])], move_none (fun i hi => hall1 i (by omega)) (fun i hi => hall2 i (by omega))]; rfl, hw.below⟩ | exact ⟨by rw [show fmO a xs b ys r = none from by unfold fmO; rw [if_neg (by first | (simp_all; done) | (simp_all; omega))]]; rfl, hw.below⟩
    · skip
      replace hg30 := not_true hg30
      refine Lq.pass rfl rfl rfl ?_
      refine Lq.pass rfl rfl rfl ?_
      refine Lq.op (v := .bool true) rfl rfl rfl (OpQ.pickT rfl rfl rfl) ?_
      refine Lq.nil ?_
      refine Kt.onSub (e' := [(1, va), (3, vb), (4, .int .i64 r), (5, .pointer (some ⟨p5, 0, none⟩)), (7, .pointer (some ⟨p7, 0, none⟩)), (33, .bool true)]) (Sub.cons rfl (Sub.cons rfl (Sub.cons rfl (Sub.cons rfl (Sub.cons rfl (Sub.cons rfl Sub.nil)))))) ?_
      refine Wk.condT rfl ?_
      refine Wk.seq ?_
      refine Wk.regionQ ?_
      refine Lq.op (v := str ([])) rfl rfl rfl (OpQ.assign rfl rfl) ?_
      refine Lq.op (v := .int .i64 0) rfl rfl rfl (OpQ.assign rfl rfl) ?_
      refine Lq.op (v := .bool false) rfl rfl rfl (OpQ.assign rfl rfl) ?_
      refine Lq.nil ?_
      refine Kt.onSub (e' := [(10, str ([])), (11, .int .i64 0), (12, .bool false)]) (Sub.cons rfl (Sub.cons rfl (Sub.cons rfl Sub.nil))) ?_
      refine Wk.ret (Kt.end3 rfl rfl rfl rfl fun w' hw => ?_)
      -- ret 4: str ([]); .int .i64 0; .bool false
      first | exact ⟨by rw [show fmO a xs b ys r = moveO (r - 1).toNat a xs b ys from by unfold fmO; rw [hg22, hsame, if_pos (by simp [h1])], move_none (fun i hi => hall1 i (by omega)) (fun i hi => hall2 i (by omega))]; rfl, hw.below⟩ | exact ⟨by rw [show fmO a xs b ys r = none from by unfold fmO; rw [if_neg (by first | (simp_all; done) | (simp_all; omega))]]; rfl, hw.below⟩
  · skip
    replace hg22 := not_true hg22
    refine Lq.pass rfl rfl rfl ?_
    refine Lq.pass rfl rfl rfl ?_
    refine Lq.pass rfl rfl rfl ?_
    refine Lq.pass rfl rfl rfl ?_
    refine Lq.pass rfl rfl rfl ?_
    refine Lq.pass rfl rfl rfl ?_
    refine Lq.op (v := .bool true) rfl rfl rfl (OpQ.pickT rfl rfl rfl) ?_
    refine Lq.op (v := .bool true) rfl rfl rfl (OpQ.move rfl rfl) ?_
    refine Lq.pass rfl rfl rfl ?_
    refine Lq.pass rfl rfl rfl ?_
    refine Lq.op (v := .bool true) rfl rfl rfl (OpQ.pickT rfl rfl rfl) ?_
    refine Lq.nil ?_
    refine Kt.onSub (e' := [(1, va), (3, vb), (4, .int .i64 r), (5, .pointer (some ⟨p5, 0, none⟩)), (7, .pointer (some ⟨p7, 0, none⟩)), (33, .bool true)]) (Sub.cons rfl (Sub.cons rfl (Sub.cons rfl (Sub.cons rfl (Sub.cons rfl (Sub.cons rfl Sub.nil)))))) ?_
    refine Wk.condT rfl ?_
    refine Wk.seq ?_
    refine Wk.regionQ ?_
    refine Lq.op (v := str ([])) rfl rfl rfl (OpQ.assign rfl rfl) ?_
    refine Lq.op (v := .int .i64 0) rfl rfl rfl (OpQ.assign rfl rfl) ?_
    refine Lq.op (v := .bool false) rfl rfl rfl (OpQ.assign rfl rfl) ?_
    refine Lq.nil ?_
    refine Kt.onSub (e' := [(10, str ([])), (11, .int .i64 0), (12, .bool false)]) (Sub.cons rfl (Sub.cons rfl (Sub.cons rfl Sub.nil))) ?_
    refine Wk.ret (Kt.end3 rfl rfl rfl rfl fun w' hw => ?_)
    -- ret 5: str ([]); .int .i64 0; .bool false
    first | exact ⟨by rw [show fmO a xs b ys r = moveO (r - 1).toNat a xs b ys from by unfold fmO; rw [hg22, hsame, if_pos (by simp [h1])], move_none (fun i hi => hall1 i (by omega)) (fun i hi => hall2 i (by omega))]; rfl, hw.below⟩ | exact ⟨by rw [show fmO a xs b ys r = none from by unfold fmO; rw [if_neg (by first | (simp_all; done) | (simp_all; omega))]]; rfl, hw.below⟩

set_option maxHeartbeats 400000 in
/-- spec.SecondReply|a -/
theorem sRepA_ok (a b : St) (xs ys : List Int) (va vb : Value) (w : World) (hsa : a.Small) (hsb : b.Small) (hva : Ints w va xs) (hvb : Ints w vb ys) (hs1 : xs.length ≤ 140737488355328) (hs2 : ys.length ≤ 140737488355328) (loa : -9223372036854775808 ≤ a.n) (hia : a.n ≤ 9223372036854775807) (lob : -9223372036854775808 ≤ b.n) (hib : b.n ≤ 9223372036854775807) (r x : Int) :
    Calls Tryd.prog 33 [vS a, va, vS b, vb, .int .i64 r, str (([97] : List UInt8)), .int .i64 x].toArray w fun en w' => en = .returned (.tuple #[.int .i64 (((srA a xs b ys r x).getD 0 : Nat) : Int), .bool (srA a xs b ys r x).isSome]) ∧ Below w.heap.size w w' := by
  refine fnStart (n := 61) (e := [(0, vS a), (1, va), (2, vS b), (3, vb), (4, .int .i64 r), (5, str (([97] : List UInt8))), (6, .int .i64 x)]) Tryd.func33 rfl rfl rfl rfl Ends.both ?_
  refine Wk.seq ?_
  refine Wk.region ?_
  refine Ll.box (v := vS a) rfl rfl rfl rfl rfl fun p7 hp7 => ?_
  show Ll _ _ (Own _ _ [(p7, .cells #[.int .i64 a.n, str a.set, str a.rel] 26 (0, 0))]) _ _ ((7, .pointer (some ⟨p7, 0, none⟩)) :: _) _ _ _
  refine Ll.box (v := vS b) rfl rfl rfl rfl rfl fun p9 hp9 => ?_
  show Ll _ _ (Own _ _ [(p9, .cells #[.int .i64 b.n, str b.set, str b.rel] 26 (0, 0)), (p7, .cells #[.int .i64 a.n, str a.set, str a.rel] 26 (0, 0))]) _ _ ((9, .pointer (some ⟨p9, 0, none⟩)) :: _) _ _ _
  refine Ll.op (v := .int .i64 0) rfl rfl rfl (OpQ.assign rfl rfl) ?_
  refine Ll.op (v := .bool false) rfl rfl rfl (OpQ.assign rfl rfl) ?_
  refine Ll.nil ?_
  refine Kt.onSub (e' := [(1, va), (3, vb), (4, .int .i64 r), (5, str (([97] : List UInt8))), (6, .int .i64 x), (7, .pointer (some ⟨p7, 0, none⟩)), (9, .pointer (some ⟨p9, 0, none⟩))]) (Sub.cons rfl (Sub.cons rfl (Sub.cons rfl (Sub.cons rfl (Sub.cons rfl (Sub.cons rfl (Sub.cons rfl Sub.nil))))))) ?_
  refine Wk.seq ?_
  refine Wk.seq ?_
  refine Wk.regionQ ?_
  refine Lq.op (v := str (([97] : List UInt8))) rfl rfl rfl (OpQ.move rfl rfl) ?_
  refine Lq.op (v := .bool ((([97] : List UInt8)) == ([98]))) rfl rfl rfl (OpQ.seql rfl rfl rfl) ?_
  refine Lq.nil ?_
  refine Kt.onSub (e' := [(1, va), (3, vb), (4, .int .i64 r), (5, str (([97] : List UInt8))), (6, .int .i64 x), (7, .pointer (some ⟨p7, 0, none⟩)), (9, .pointer (some ⟨p9, 0, none⟩)), (18, .bool ((([97] : List UInt8)) == ([98])))]) (Sub.cons rfl (Sub.cons rfl (Sub.cons rfl (Sub.cons rfl (Sub.cons rfl (Sub.cons rfl (Sub.cons rfl (Sub.cons rfl Sub.nil)))))))) ?_
  refine Wk.cond (b := (([97] : List UInt8)) == ([98])) rfl (fun h18 => ?_) (fun h18 => ?_)
  · skip
    exact absurd h18 (by decide)
  · skip
    refine Wk.skip ?_
    refine Kt.onSub (e' := [(1, va), (3, vb), (4, .int .i64 r), (5, str (([97] : List UInt8))), (6, .int .i64 x), (7, .pointer (some ⟨p7, 0, none⟩)), (9, .pointer (some ⟨p9, 0, none⟩))]) (Sub.cons rfl (Sub.cons rfl (Sub.cons rfl (Sub.cons rfl (Sub.cons rfl (Sub.cons rfl (Sub.cons rfl Sub.nil))))))) ?_
    refine Wk.seq ?_
    refine Wk.seq ?_
    refine Wk.regionQ ?_
    refine Lq.op (v := str (([97] : List UInt8))) rfl rfl rfl (OpQ.move rfl rfl) ?_
    refine Lq.op (v := .bool (!((([97] : List UInt8)) == ([97])))) rfl rfl rfl (OpQ.sneq rfl rfl rfl) ?_
    refine Lq.op (v := .bool (!((([97] : List UInt8)) == ([97])))) rfl rfl rfl (OpQ.move rfl rfl) ?_
    refine Lq.bool fun b30 hg30 => ?_
    cases b30
    · skip
      replace hg30 := not_false hg30
      refine Lq.op (v := vS a) rfl rfl rfl (OpQ.loadBox (cs := #[.int .i64 a.n, str a.set, str a.rel]) 1 rfl Tryd.isAgg26 rfl rfl Tryd.sizeOf26) ?_
      refine Lq.op (v := va) rfl rfl rfl (OpQ.move rfl rfl) ?_
      refine Lq.op (v := vS b) rfl rfl rfl (OpQ.loadBox (cs := #[.int .i64 b.n, str b.set, str b.rel]) 0 rfl Tryd.isAgg26 rfl rfl Tryd.sizeOf26) ?_
      refine Lq.op (v := vb) rfl rfl rfl (OpQ.move rfl rfl) ?_
      refine Lq.op (v := .int .i64 r) rfl rfl rfl (OpQ.move rfl rfl) ?_
      refine Lq.op (v := .bool (gameB a xs b ys r)) rfl rfl rfl (OpQ.call rfl Tryd.call60 rfl Own.stable (fun w1 hw1 => l5Ready_ok a b xs ys va vb w1 hsa hsb (Row.own hva hw1) (Row.own hvb hw1) (by first | (simp; done) | (simp; omega) | omega) (by first | (simp; done) | (simp; omega) | omega) loa hia lob hib r)) ?_
      refine Lq.op (v := .bool (!(gameB a xs b ys r))) rfl rfl rfl (OpQ.not rfl rfl) ?_
      refine Lq.op (v := .bool (!(gameB a xs b ys r))) rfl rfl rfl (OpQ.pickF rfl rfl rfl) ?_
      refine Lq.op (v := .bool (!(gameB a xs b ys r))) rfl rfl rfl (OpQ.move rfl rfl) ?_
      refine Lq.bool fun b39 hg39 => ?_
      cases b39
      · skip
        replace hg39 := not_false hg39
        replace hg39 : gameB a xs b ys r = true := by simpa using hg39
        obtain ⟨hLL, hr0, hr3⟩ := gameB_true hg39
        obtain ⟨LA, LB, hlen⟩ := listsB_true hLL
        have ha := LA.fine
        have hb := LB.fine
        have hA := LA.els
        have hB := LB.els
        have hl4 := LA.len
        have hm8 := ha.hi
        have hm1 := ha.lo
        refine Lq.op (v := .int .i64 r) rfl rfl rfl (OpQ.move rfl rfl) ?_
        refine Lq.op (v := .bool (decide (r < (1 : Int)))) rfl rfl rfl (OpQ.lss rfl rfl rfl) ?_
        refine Lq.op (v := .bool (decide (r < (1 : Int)))) rfl rfl rfl (OpQ.pickF rfl rfl rfl) ?_
        refine Lq.op (v := .bool (decide (r < (1 : Int)))) rfl rfl rfl (OpQ.move rfl rfl) ?_
        refine Lq.bool fun b43 hg43 => ?_
        cases b43
        · skip
          replace hg43 := of_decide_eq_false hg43
          refine Lq.op (v := .int .i64 x) rfl rfl rfl (OpQ.move rfl rfl) ?_
          refine Lq.op (v := .pointer (some ⟨p7, 0, none⟩)) rfl rfl rfl (OpQ.fieldAddr rfl Tryd.runUnderlying26 rfl Tryd.sizeOf3 rfl rfl) ?_
          refine Lq.op (v := .int .i64 a.n) rfl rfl rfl (OpQ.loadOwn 1 rfl Tryd.isAgg3 rfl rfl rfl) ?_
          refine Lq.op (v := .int .i64 (a.n - (1 : Int))) rfl rfl rfl (OpQ.sub rfl rfl rfl (by omega) (by omega)) ?_
          refine Lq.op (v := .bool (inB x 0 (a.n - (1 : Int)))) rfl rfl rfl (OpQ.call rfl Tryd.call52 rfl Own.stable (fun w1 hw1 => l1In_ok x 0 (a.n - (1 : Int)) w1 )) ?_
          refine Lq.op (v := .bool (!(inB x 0 (a.n - (1 : Int))))) rfl rfl rfl (OpQ.not rfl rfl) ?_
          refine Lq.op (v := .bool (!(inB x 0 (a.n - (1 : Int))))) rfl rfl rfl (OpQ.pickF rfl rfl rfl) ?_
          refine Lq.nil ?_
          refine Kt.onSub (e' := [(1, va), (3, vb), (4, .int .i64 r), (6, .int .i64 x), (7, .pointer (some ⟨p7, 0, none⟩)), (9, .pointer (some ⟨p9, 0, none⟩)), (50, .bool (!(inB x 0 (a.n - (1 : Int)))))]) (Sub.cons rfl (Sub.cons rfl (Sub.cons rfl (Sub.cons rfl (Sub.cons rfl (Sub.cons rfl (Sub.cons rfl Sub.nil))))))) ?_
          refine Wk.cond (b := !(inB x 0 (a.n - (1 : Int)))) rfl (fun h50 => ?_) (fun h50 => ?_)
          · skip
            replace h50 := not_true h50
            refine Wk.seq ?_
            refine Wk.regionQ ?_
            refine Lq.op (v := .int .i64 0) rfl rfl rfl (OpQ.assign rfl rfl) ?_
            refine Lq.op (v := .bool false) rfl rfl rfl (OpQ.assign rfl rfl) ?_
            refine Lq.nil ?_
            refine Kt.onSub (e' := [(14, .int .i64 0), (15, .bool false)]) (Sub.cons rfl (Sub.cons rfl Sub.nil)) ?_
            refine Wk.ret (Kt.end2 rfl rfl rfl fun w' hw => ?_)
            -- ret 0: .int .i64 0; .bool false
            first | (have hy := srA_yes (xs := xs) (ys := ys) hg39 (show 1 ≤ r by omega) hel; exact ⟨by rw [hy]; cases ho : rep (goB (r - 1).toNat) a xs b ys x with
                | none => rfl
                | some y => rw [ho] at hnn; simp at hnn, hw.below⟩) | exact ⟨by rw [srA_no (xs := xs) (ys := ys) (by first | exact .inl (by simpa using hg39) | exact .inr (.inl (by omega)) | exact .inr (.inr (inB_el.symm.trans (by simpa using h50))))]; rfl, hw.below⟩
          · skip
            replace h50 := not_false h50
            have hel : elB a x = true := inB_el.symm.trans (by simpa using h50)
            have hx := elB_true.1 hel
            refine Wk.skip ?_
            refine Kt.onSub (e' := [(1, va), (3, vb), (4, .int .i64 r), (6, .int .i64 x), (7, .pointer (some ⟨p7, 0, none⟩)), (9, .pointer (some ⟨p9, 0, none⟩))]) (Sub.cons rfl (Sub.cons rfl (Sub.cons rfl (Sub.cons rfl (Sub.cons rfl (Sub.cons rfl Sub.nil)))))) ?_
            refine Wk.seq ?_
            refine Wk.regionQ ?_
            refine Lq.op (v := vS a) rfl rfl rfl (OpQ.loadBox (cs := #[.int .i64 a.n, str a.set, str a.rel]) 1 rfl Tryd.isAgg26 rfl rfl Tryd.sizeOf26) ?_
            refine Lq.op (v := va) rfl rfl rfl (OpQ.move rfl rfl) ?_
            refine Lq.op (v := vS b) rfl rfl rfl (OpQ.loadBox (cs := #[.int .i64 b.n, str b.set, str b.rel]) 0 rfl Tryd.isAgg26 rfl rfl Tryd.sizeOf26) ?_
            refine Lq.op (v := vb) rfl rfl rfl (OpQ.move rfl rfl) ?_
            refine Lq.op (v := .int .i64 r) rfl rfl rfl (OpQ.move rfl rfl) ?_
            refine Lq.op (v := .int .i64 x) rfl rfl rfl (OpQ.move rfl rfl) ?_
            refine Lq.op (v := .int .i64 (repI (rep (goB ((r - 1).toNat)) a xs b ys x))) rfl rfl rfl (OpQ.call rfl Tryd.call74 rfl Own.stable (fun w1 hw1 => l5Reply_at r (by omega) (by omega) a b xs ys va vb w1 ha hb (Row.own hva hw1) (Row.own hvb hw1) hA hB (by first | (simp; done) | (simp; omega) | omega) (by first | (simp; done) | (simp; omega) | omega) x hx)) ?_
            refine Lq.op (v := .int .i64 (repI (rep (goB ((r - 1).toNat)) a xs b ys x))) rfl rfl rfl (OpQ.assign rfl rfl) ?_
            refine Lq.nil ?_
            refine Kt.onSub (e' := [(16, .int .i64 (repI (rep (goB ((r - 1).toNat)) a xs b ys x)))]) (Sub.cons rfl Sub.nil) ?_
            refine Wk.seq ?_
            refine Wk.seq ?_
            refine Wk.regionQ ?_
            refine Lq.op (v := .int .i64 (repI (rep (goB ((r - 1).toNat)) a xs b ys x))) rfl rfl rfl (OpQ.move rfl rfl) ?_
            refine Lq.op (v := .bool (decide ((repI (rep (goB ((r - 1).toNat)) a xs b ys x)) < (0 : Int)))) rfl rfl rfl (OpQ.lss rfl rfl rfl) ?_
            refine Lq.nil ?_
            refine Kt.onSub (e' := [(16, .int .i64 (repI (rep (goB ((r - 1).toNat)) a xs b ys x))), (59, .bool (decide ((repI (rep (goB ((r - 1).toNat)) a xs b ys x)) < (0 : Int))))]) (Sub.cons rfl (Sub.cons rfl Sub.nil)) ?_
            refine Wk.cond (b := decide ((repI (rep (goB ((r - 1).toNat)) a xs b ys x)) < (0 : Int))) rfl (fun h59 => ?_) (fun h59 => ?_)
            · skip
              replace h59 := of_decide_eq_true h59
              have hnn := repI_neg.1 h59
              refine Wk.seq ?_
              refine Wk.regionQ ?_
              refine Lq.op (v := .int .i64 0) rfl rfl rfl (OpQ.assign rfl rfl) ?_
              refine Lq.op (v := .bool false) rfl rfl rfl (OpQ.assign rfl rfl) ?_
              refine Lq.nil ?_
              refine Kt.onSub (e' := [(14, .int .i64 0), (15, .bool false)]) (Sub.cons rfl (Sub.cons rfl Sub.nil)) ?_
              refine Wk.ret (Kt.end2 rfl rfl rfl fun w' hw => ?_)
              -- ret 1: .int .i64 0; .bool false
              first | (have hy := srA_yes (xs := xs) (ys := ys) hg39 (show 1 ≤ r by omega) hel; exact ⟨by rw [hy]; cases ho : rep (goB (r - 1).toNat) a xs b ys x with
                  | none => rfl
                  | some y => rw [ho] at hnn; simp at hnn, hw.below⟩) | exact ⟨by rw [srA_no (xs := xs) (ys := ys) (by first | exact .inl (by simpa using hg39) | exact .inr (.inl (by omega)) | exact .inr (.inr (inB_el.symm.trans (by simpa using h50))))]; rfl, hw.below⟩
            · skip
              replace h59 := of_decide_eq_false h59
              obtain ⟨hsm, hgv⟩ := repI_some h59
              refine Wk.skip ?_
              refine Kt.onSub (e' := [(16, .int .i64 (repI (rep (goB ((r - 1).toNat)) a xs b ys x)))]) (Sub.cons rfl Sub.nil) ?_
              refine Wk.seq ?_
              refine Wk.regionQ ?_
              refine Lq.op (v := .int .i64 (repI (rep (goB ((r - 1).toNat)) a xs b ys x))) rfl rfl rfl (OpQ.move rfl rfl) ?_
              refine Lq.op (v := .int .i64 (repI (rep (goB ((r - 1).toNat)) a xs b ys x))) rfl rfl rfl (OpQ.assign rfl rfl) ?_
              refine Lq.op (v := .bool true) rfl rfl rfl (OpQ.assign rfl rfl) ?_
              refine Lq.nil ?_
              refine Kt.onSub (e' := [(14, .int .i64 (repI (rep (goB ((r - 1).toNat)) a xs b ys x))), (15, .bool true)]) (Sub.cons rfl (Sub.cons rfl Sub.nil)) ?_
              refine Wk.ret (Kt.end2 rfl rfl rfl fun w' hw => ?_)
              -- ret 2: .int .i64 (repI (rep (goB ((r - 1).toNat)) a xs b ys x)); .bool true
              have hy := srA_yes (xs := xs) (ys := ys) hg39 (show 1 ≤ r by omega) hel
              exact ⟨by rw [hy, hsm, hgv], hw.below⟩
        · skip
          replace hg43 := of_decide_eq_true hg43
          refine Lq.pass rfl rfl rfl ?_
          refine Lq.pass rfl rfl rfl ?_
          refine Lq.pass rfl rfl rfl ?_
          refine Lq.pass rfl rfl rfl ?_
          refine Lq.pass rfl rfl rfl ?_
          refine Lq.pass rfl rfl rfl ?_
          refine Lq.op (v := .bool true) rfl rfl rfl (OpQ.pickT rfl rfl rfl) ?_
          refine Lq.nil ?_
          refine Kt.onSub (e' := [(1, va), (3, vb), (4, .int .i64 r), (6, .int .i64 x), (7, .pointer (some ⟨p7, 0, none⟩)), (9, .pointer (some ⟨p9, 0, none⟩)), (50, .bool true)]) (Sub.cons rfl (Sub.cons rfl (Sub.cons rfl (Sub.cons rfl (Sub.cons rfl (Sub.cons rfl (Sub.cons rfl Sub.nil))))))) ?_
          refine Wk.condT rfl ?_
          refine Wk.seq ?_
          refine Wk.regionQ ?_
          refine Lq.op (v := .int .i64 0) rfl rfl rfl (OpQ.assign rfl rfl) ?_
          refine Lq.op (v := .bool false) rfl rfl rfl (OpQ.assign rfl rfl) ?_
          refine Lq.nil ?_
          refine Kt.onSub (e' := [(14, .int .i64 0), (15, .bool false)]) (Sub.cons rfl (Sub.cons rfl Sub.nil)) ?_
          refine Wk.ret (Kt.end2 rfl rfl rfl fun w' hw => ?_)
          -- ret 3: .int .i64 0; .bool false
          first | (have hy := srA_yes (xs := xs) (ys := ys) hg39 (show 1 ≤ r by omega) hel; exact ⟨by rw [hy]; cases ho : rep (goB (r - 1).toNat) a xs b ys x with
              | none => rfl
              | some y => rw [ho] at hnn; simp at hnn, hw.below⟩) | exact ⟨by rw [srA_no (xs := xs) (ys := ys) (by first | exact .inl (by simpa using hg39) | exact .inr (.inl (by omega)) | exact .inr (.inr (inB_el.symm.trans (by simpa using h50))))]; rfl, hw.below⟩
      · skip
        replace hg39 := not_true hg39
        refine Lq.pass rfl rfl rfl ?_
        refine Lq.pass rfl rfl rfl ?_
        refine Lq.op (v := .bool true) rfl rfl rfl (OpQ.pickT rfl rfl rfl) ?_
        refine Lq.op (v := .bool true) rfl rfl rfl (OpQ.move rfl rfl) ?_
        refine Lq.pass rfl rfl rfl ?_
        refine Lq.pass rfl rfl rfl ?_
        refine Lq.pass rfl rfl rfl ?_
        refine Lq.pass rfl rfl rfl ?_
        refine Lq.pass rfl rfl rfl ?_
        refine Lq.pass rfl rfl rfl ?_
        refine Lq.op (v := .bool true) rfl rfl rfl (OpQ.pickT rfl rfl rfl) ?_
        refine Lq.nil ?_
        refine Kt.onSub (e' := [(1, va), (3, vb), (4, .int .i64 r), (6, .int .i64 x), (7, .pointer (some ⟨p7, 0, none⟩)), (9, .pointer (some ⟨p9, 0, none⟩)), (50, .bool true)]) (Sub.cons rfl (Sub.cons rfl (Sub.cons rfl (Sub.cons rfl (Sub.cons rfl (Sub.cons rfl (Sub.cons rfl Sub.nil))))))) ?_
        refine Wk.condT rfl ?_
        refine Wk.seq ?_
        refine Wk.regionQ ?_
        refine Lq.op (v := .int .i64 0) rfl rfl rfl (OpQ.assign rfl rfl) ?_
        refine Lq.op (v := .bool false) rfl rfl rfl (OpQ.assign rfl rfl) ?_
        refine Lq.nil ?_
        refine Kt.onSub (e' := [(14, .int .i64 0), (15, .bool false)]) (Sub.cons rfl (Sub.cons rfl Sub.nil)) ?_
        refine Wk.ret (Kt.end2 rfl rfl rfl fun w' hw => ?_)
        -- ret 4: .int .i64 0; .bool false
        first | (have hy := srA_yes (xs := xs) (ys := ys) hg39 (show 1 ≤ r by omega) hel; exact ⟨by rw [hy]; cases ho : rep (goB (r - 1).toNat) a xs b ys x with
            | none => rfl
            | some y => rw [ho] at hnn; simp at hnn, hw.below⟩) | exact ⟨by rw [srA_no (xs := xs) (ys := ys) (by first | exact .inl (by simpa using hg39) | exact .inr (.inl (by omega)) | exact .inr (.inr (inB_el.symm.trans (by simpa using h50))))]; rfl, hw.below⟩
    · skip
      replace hg30 := not_true hg30
      exact absurd hg30 (by decide)

set_option maxHeartbeats 400000 in
/-- spec.SecondReply -/
theorem sRep_ok (a b : St) (xs ys : List Int) (va vb : Value) (w : World) (hsa : a.Small) (hsb : b.Small) (hva : Ints w va xs) (hvb : Ints w vb ys) (hs1 : xs.length ≤ 140737488355328) (hs2 : ys.length ≤ 140737488355328) (loa : -9223372036854775808 ≤ a.n) (hia : a.n ≤ 9223372036854775807) (lob : -9223372036854775808 ≤ b.n) (hib : b.n ≤ 9223372036854775807) (r : Int) (s : List UInt8) (x : Int) :
    Calls Tryd.prog 33 [vS a, va, vS b, vb, .int .i64 r, str s, .int .i64 x].toArray w fun en w' => en = .returned (.tuple #[.int .i64 (((srO a xs b ys r s x).getD 0 : Nat) : Int), .bool (srO a xs b ys r s x).isSome]) ∧ Below w.heap.size w w' := by
  refine fnStart (n := 61) (e := [(0, vS a), (1, va), (2, vS b), (3, vb), (4, .int .i64 r), (5, str s), (6, .int .i64 x)]) Tryd.func33 rfl rfl rfl rfl Ends.both ?_
  refine Wk.seq ?_
  refine Wk.region ?_
  refine Ll.box (v := vS a) rfl rfl rfl rfl rfl fun p7 hp7 => ?_
  show Ll _ _ (Own _ _ [(p7, .cells #[.int .i64 a.n, str a.set, str a.rel] 26 (0, 0))]) _ _ ((7, .pointer (some ⟨p7, 0, none⟩)) :: _) _ _ _
  refine Ll.box (v := vS b) rfl rfl rfl rfl rfl fun p9 hp9 => ?_
  show Ll _ _ (Own _ _ [(p9, .cells #[.int .i64 b.n, str b.set, str b.rel] 26 (0, 0)), (p7, .cells #[.int .i64 a.n, str a.set, str a.rel] 26 (0, 0))]) _ _ ((9, .pointer (some ⟨p9, 0, none⟩)) :: _) _ _ _
  refine Ll.op (v := .int .i64 0) rfl rfl rfl (OpQ.assign rfl rfl) ?_
  refine Ll.op (v := .bool false) rfl rfl rfl (OpQ.assign rfl rfl) ?_
  refine Ll.nil ?_
  refine Kt.onSub (e' := [(1, va), (3, vb), (4, .int .i64 r), (5, str s), (6, .int .i64 x), (7, .pointer (some ⟨p7, 0, none⟩)), (9, .pointer (some ⟨p9, 0, none⟩))]) (Sub.cons rfl (Sub.cons rfl (Sub.cons rfl (Sub.cons rfl (Sub.cons rfl (Sub.cons rfl (Sub.cons rfl Sub.nil))))))) ?_
  refine Wk.seq ?_
  refine Wk.seq ?_
  refine Wk.regionQ ?_
  refine Lq.op (v := str s) rfl rfl rfl (OpQ.move rfl rfl) ?_
  refine Lq.op (v := .bool (s == ([98]))) rfl rfl rfl (OpQ.seql rfl rfl rfl) ?_
  refine Lq.nil ?_
  refine Kt.onSub (e' := [(1, va), (3, vb), (4, .int .i64 r), (5, str s), (6, .int .i64 x), (7, .pointer (some ⟨p7, 0, none⟩)), (9, .pointer (some ⟨p9, 0, none⟩)), (18, .bool (s == ([98])))]) (Sub.cons rfl (Sub.cons rfl (Sub.cons rfl (Sub.cons rfl (Sub.cons rfl (Sub.cons rfl (Sub.cons rfl (Sub.cons rfl Sub.nil)))))))) ?_
  refine Wk.cond (b := s == ([98])) rfl (fun h18 => ?_) (fun h18 => ?_)
  · skip
    refine Wk.seq ?_
    refine Wk.regionQ ?_
    refine Lq.op (v := vS b) rfl rfl rfl (OpQ.loadBox (cs := #[.int .i64 b.n, str b.set, str b.rel]) 0 rfl Tryd.isAgg26 rfl rfl Tryd.sizeOf26) ?_
    refine Lq.op (v := vb) rfl rfl rfl (OpQ.move rfl rfl) ?_
    refine Lq.op (v := vS a) rfl rfl rfl (OpQ.loadBox (cs := #[.int .i64 a.n, str a.set, str a.rel]) 1 rfl Tryd.isAgg26 rfl rfl Tryd.sizeOf26) ?_
    refine Lq.op (v := va) rfl rfl rfl (OpQ.move rfl rfl) ?_
    refine Lq.op (v := .int .i64 r) rfl rfl rfl (OpQ.move rfl rfl) ?_
    refine Lq.op (v := .int .i64 x) rfl rfl rfl (OpQ.move rfl rfl) ?_
    refine Lq.op (v := .tuple #[.int .i64 ((((srA b ys a xs r x).getD 0 : Nat) : Int)), .bool ((srA b ys a xs r x).isSome)]) rfl rfl rfl (OpQ.call rfl Tryd.call33 rfl Own.stable (fun w1 hw1 => sRepA_ok b a ys xs vb va w1 hsb hsa (Row.own hvb hw1) (Row.own hva hw1) (by first | (simp; done) | (simp; omega) | omega) (by first | (simp; done) | (simp; omega) | omega) lob hib loa hia r x)) ?_
    refine Lq.op (v := .int .i64 ((((srA b ys a xs r x).getD 0 : Nat) : Int))) rfl rfl rfl (OpQ.extract rfl rfl rfl) ?_
    refine Lq.op (v := .bool ((srA b ys a xs r x).isSome)) rfl rfl rfl (OpQ.extract rfl rfl rfl) ?_
    refine Lq.op (v := .int .i64 ((((srA b ys a xs r x).getD 0 : Nat) : Int))) rfl rfl rfl (OpQ.assign rfl rfl) ?_
    refine Lq.op (v := .bool ((srA b ys a xs r x).isSome)) rfl rfl rfl (OpQ.assign rfl rfl) ?_
    refine Lq.nil ?_
    refine Kt.onSub (e' := [(14, .int .i64 ((((srA b ys a xs r x).getD 0 : Nat) : Int))), (15, .bool ((srA b ys a xs r x).isSome))]) (Sub.cons rfl (Sub.cons rfl Sub.nil)) ?_
    refine Wk.ret (Kt.end2 rfl rfl rfl fun w' hw => ?_)
    -- ret 0: .int .i64 ((((srA b ys a xs r x).getD 0 : Nat) : Int)); .bool ((srA b ys a xs r x).isSome)
    exact ⟨by rw [srO_b h18], hw.below⟩
  · skip
    refine Wk.skip ?_
    refine Kt.onSub (e' := [(1, va), (3, vb), (4, .int .i64 r), (5, str s), (6, .int .i64 x), (7, .pointer (some ⟨p7, 0, none⟩)), (9, .pointer (some ⟨p9, 0, none⟩))]) (Sub.cons rfl (Sub.cons rfl (Sub.cons rfl (Sub.cons rfl (Sub.cons rfl (Sub.cons rfl (Sub.cons rfl Sub.nil))))))) ?_
    refine Wk.seq ?_
    refine Wk.seq ?_
    refine Wk.regionQ ?_
    refine Lq.op (v := str s) rfl rfl rfl (OpQ.move rfl rfl) ?_
    refine Lq.op (v := .bool (!(s == ([97])))) rfl rfl rfl (OpQ.sneq rfl rfl rfl) ?_
    refine Lq.op (v := .bool (!(s == ([97])))) rfl rfl rfl (OpQ.move rfl rfl) ?_
    refine Lq.bool fun b30 hg30 => ?_
    cases b30
    · skip
      replace hg30 := not_false hg30
      have hsd : (s == [97]) = true := by simpa using hg30
      refine Lq.op (v := vS a) rfl rfl rfl (OpQ.loadBox (cs := #[.int .i64 a.n, str a.set, str a.rel]) 1 rfl Tryd.isAgg26 rfl rfl Tryd.sizeOf26) ?_
      refine Lq.op (v := va) rfl rfl rfl (OpQ.move rfl rfl) ?_
      refine Lq.op (v := vS b) rfl rfl rfl (OpQ.loadBox (cs := #[.int .i64 b.n, str b.set, str b.rel]) 0 rfl Tryd.isAgg26 rfl rfl Tryd.sizeOf26) ?_
      refine Lq.op (v := vb) rfl rfl rfl (OpQ.move rfl rfl) ?_
      refine Lq.op (v := .int .i64 r) rfl rfl rfl (OpQ.move rfl rfl) ?_
      refine Lq.op (v := .bool (gameB a xs b ys r)) rfl rfl rfl (OpQ.call rfl Tryd.call60 rfl Own.stable (fun w1 hw1 => l5Ready_ok a b xs ys va vb w1 hsa hsb (Row.own hva hw1) (Row.own hvb hw1) (by first | (simp; done) | (simp; omega) | omega) (by first | (simp; done) | (simp; omega) | omega) loa hia lob hib r)) ?_
      refine Lq.op (v := .bool (!(gameB a xs b ys r))) rfl rfl rfl (OpQ.not rfl rfl) ?_
      refine Lq.op (v := .bool (!(gameB a xs b ys r))) rfl rfl rfl (OpQ.pickF rfl rfl rfl) ?_
      refine Lq.op (v := .bool (!(gameB a xs b ys r))) rfl rfl rfl (OpQ.move rfl rfl) ?_
      refine Lq.bool fun b39 hg39 => ?_
      cases b39
      · skip
        replace hg39 := not_false hg39
        replace hg39 : gameB a xs b ys r = true := by simpa using hg39
        obtain ⟨hLL, hr0, hr3⟩ := gameB_true hg39
        obtain ⟨LA, LB, hlen⟩ := listsB_true hLL
        have ha := LA.fine
        have hb := LB.fine
        have hA := LA.els
        have hB := LB.els
        have hl4 := LA.len
        have hm8 := ha.hi
        have hm1 := ha.lo
        refine Lq.op (v := .int .i64 r) rfl rfl rfl (OpQ.move rfl rfl) ?_
        refine Lq.op (v := .bool (decide (r < (1 : Int)))) rfl rfl rfl (OpQ.lss rfl rfl rfl) ?_
        refine Lq.op (v := .bool (decide (r < (1 : Int)))) rfl rfl rfl (OpQ.pickF rfl rfl rfl) ?_
        refine Lq.op (v := .bool (decide (r < (1 : Int)))) rfl rfl rfl (OpQ.move rfl rfl) ?_
        refine Lq.bool fun b43 hg43 => ?_
        cases b43
        · skip
          replace hg43 := of_decide_eq_false hg43
          refine Lq.op (v := .int .i64 x) rfl rfl rfl (OpQ.move rfl rfl) ?_
          refine Lq.op (v := .pointer (some ⟨p7, 0, none⟩)) rfl rfl rfl (OpQ.fieldAddr rfl Tryd.runUnderlying26 rfl Tryd.sizeOf3 rfl rfl) ?_
          refine Lq.op (v := .int .i64 a.n) rfl rfl rfl (OpQ.loadOwn 1 rfl Tryd.isAgg3 rfl rfl rfl) ?_
          refine Lq.op (v := .int .i64 (a.n - (1 : Int))) rfl rfl rfl (OpQ.sub rfl rfl rfl (by omega) (by omega)) ?_
          refine Lq.op (v := .bool (inB x 0 (a.n - (1 : Int)))) rfl rfl rfl (OpQ.call rfl Tryd.call52 rfl Own.stable (fun w1 hw1 => l1In_ok x 0 (a.n - (1 : Int)) w1 )) ?_
          refine Lq.op (v := .bool (!(inB x 0 (a.n - (1 : Int))))) rfl rfl rfl (OpQ.not rfl rfl) ?_
          refine Lq.op (v := .bool (!(inB x 0 (a.n - (1 : Int))))) rfl rfl rfl (OpQ.pickF rfl rfl rfl) ?_
          refine Lq.nil ?_
          refine Kt.onSub (e' := [(1, va), (3, vb), (4, .int .i64 r), (6, .int .i64 x), (7, .pointer (some ⟨p7, 0, none⟩)), (9, .pointer (some ⟨p9, 0, none⟩)), (50, .bool (!(inB x 0 (a.n - (1 : Int)))))]) (Sub.cons rfl (Sub.cons rfl (Sub.cons rfl (Sub.cons rfl (Sub.cons rfl (Sub.cons rfl (Sub.cons rfl Sub.nil))))))) ?_
          refine Wk.cond (b := !(inB x 0 (a.n - (1 : Int)))) rfl (fun h50 => ?_) (fun h50 => ?_)
          · skip
            replace h50 := not_true h50
            refine Wk.seq ?_
            refine Wk.regionQ ?_
            refine Lq.op (v := .int .i64 0) rfl rfl rfl (OpQ.assign rfl rfl) ?_
            refine Lq.op (v := .bool false) rfl rfl rfl (OpQ.assign rfl rfl) ?_
            refine Lq.nil ?_
            refine Kt.onSub (e' := [(14, .int .i64 0), (15, .bool false)]) (Sub.cons rfl (Sub.cons rfl Sub.nil)) ?_
            refine Wk.ret (Kt.end2 rfl rfl rfl fun w' hw => ?_)
            -- ret 1: .int .i64 0; .bool false
            first | (have hy := srA_yes (xs := xs) (ys := ys) hg39 (show 1 ≤ r by omega) hel; exact ⟨by rw [srO_a hsd, hy]; cases ho : rep (goB (r - 1).toNat) a xs b ys x with
                | none => rfl
                | some y => rw [ho] at hnn; simp at hnn, hw.below⟩) | exact ⟨by rw [srO_no (xs := xs) (ys := ys) (by first | exact .inl (.inl (.inl (by simpa using hg39))) | exact .inl (.inl (.inr (by omega))) | exact .inl (.inr ⟨h18, hsd⟩) | exact .inr (.inr ⟨h18, inB_el.symm.trans (by simpa using h50)⟩))]; rfl, hw.below⟩
          · skip
            replace h50 := not_false h50
            have hel : elB a x = true := inB_el.symm.trans (by simpa using h50)
            have hx := elB_true.1 hel
            refine Wk.skip ?_
            refine Kt.onSub (e' := [(1, va), (3, vb), (4, .int .i64 r), (6, .int .i64 x), (7, .pointer (some ⟨p7, 0, none⟩)), (9, .pointer (some ⟨p9, 0, none⟩))]) (Sub.cons rfl (Sub.cons rfl (Sub.cons rfl (Sub.cons rfl (Sub.cons rfl (Sub.cons rfl Sub.nil)))))) ?_
            refine Wk.seq ?_
            refine Wk.regionQ ?_
            refine Lq.op (v := vS a) rfl rfl rfl (OpQ.loadBox (cs := #[.int .i64 a.n, str a.set, str a.rel]) 1 rfl Tryd.isAgg26 rfl rfl Tryd.sizeOf26) ?_
            refine Lq.op (v := va) rfl rfl rfl (OpQ.move rfl rfl) ?_
            refine Lq.op (v := vS b) rfl rfl rfl (OpQ.loadBox (cs := #[.int .i64 b.n, str b.set, str b.rel]) 0 rfl Tryd.isAgg26 rfl rfl Tryd.sizeOf26) ?_
            refine Lq.op (v := vb) rfl rfl rfl (OpQ.move rfl rfl) ?_
            refine Lq.op (v := .int .i64 r) rfl rfl rfl (OpQ.move rfl rfl) ?_
            refine Lq.op (v := .int .i64 x) rfl rfl rfl (OpQ.move rfl rfl) ?_
            refine Lq.op (v := .int .i64 (repI (rep (goB ((r - 1).toNat)) a xs b ys x))) rfl rfl rfl (OpQ.call rfl Tryd.call74 rfl Own.stable (fun w1 hw1 => l5Reply_at r (by omega) (by omega) a b xs ys va vb w1 ha hb (Row.own hva hw1) (Row.own hvb hw1) hA hB (by first | (simp; done) | (simp; omega) | omega) (by first | (simp; done) | (simp; omega) | omega) x hx)) ?_
            refine Lq.op (v := .int .i64 (repI (rep (goB ((r - 1).toNat)) a xs b ys x))) rfl rfl rfl (OpQ.assign rfl rfl) ?_
            refine Lq.nil ?_
            refine Kt.onSub (e' := [(16, .int .i64 (repI (rep (goB ((r - 1).toNat)) a xs b ys x)))]) (Sub.cons rfl Sub.nil) ?_
            refine Wk.seq ?_
            refine Wk.seq ?_
            refine Wk.regionQ ?_
            refine Lq.op (v := .int .i64 (repI (rep (goB ((r - 1).toNat)) a xs b ys x))) rfl rfl rfl (OpQ.move rfl rfl) ?_
            refine Lq.op (v := .bool (decide ((repI (rep (goB ((r - 1).toNat)) a xs b ys x)) < (0 : Int)))) rfl rfl rfl (OpQ.lss rfl rfl rfl) ?_
            refine Lq.nil ?_
            refine Kt.onSub (e' := [(16, .int .i64 (repI (rep (goB ((r - 1).toNat)) a xs b ys x))), (59, .bool (decide ((repI (rep (goB ((r - 1).toNat)) a xs b ys x)) < (0 : Int))))]) (Sub.cons rfl (Sub.cons rfl Sub.nil)) ?_
            refine Wk.cond (b := decide ((repI (rep (goB ((r - 1).toNat)) a xs b ys x)) < (0 : Int))) rfl (fun h59 => ?_) (fun h59 => ?_)
            · skip
              replace h59 := of_decide_eq_true h59
              have hnn := repI_neg.1 h59
              refine Wk.seq ?_
              refine Wk.regionQ ?_
              refine Lq.op (v := .int .i64 0) rfl rfl rfl (OpQ.assign rfl rfl) ?_
              refine Lq.op (v := .bool false) rfl rfl rfl (OpQ.assign rfl rfl) ?_
              refine Lq.nil ?_
              refine Kt.onSub (e' := [(14, .int .i64 0), (15, .bool false)]) (Sub.cons rfl (Sub.cons rfl Sub.nil)) ?_
              refine Wk.ret (Kt.end2 rfl rfl rfl fun w' hw => ?_)
              -- ret 2: .int .i64 0; .bool false
              first | (have hy := srA_yes (xs := xs) (ys := ys) hg39 (show 1 ≤ r by omega) hel; exact ⟨by rw [srO_a hsd, hy]; cases ho : rep (goB (r - 1).toNat) a xs b ys x with
                  | none => rfl
                  | some y => rw [ho] at hnn; simp at hnn, hw.below⟩) | exact ⟨by rw [srO_no (xs := xs) (ys := ys) (by first | exact .inl (.inl (.inl (by simpa using hg39))) | exact .inl (.inl (.inr (by omega))) | exact .inl (.inr ⟨h18, hsd⟩) | exact .inr (.inr ⟨h18, inB_el.symm.trans (by simpa using h50)⟩))]; rfl, hw.below⟩
            · skip
              replace h59 := of_decide_eq_false h59
              obtain ⟨hsm, hgv⟩ := repI_some h59
              refine Wk.skip ?_
              refine Kt.onSub (e' := [(16, .int .i64 (repI (rep (goB ((r - 1).toNat)) a xs b ys x)))]) (Sub.cons rfl Sub.nil) ?_
              refine Wk.seq ?_
              refine Wk.regionQ ?_
              refine Lq.op (v := .int .i64 (repI (rep (goB ((r - 1).toNat)) a xs b ys x))) rfl rfl rfl (OpQ.move rfl rfl) ?_
              refine Lq.op (v := .int .i64 (repI (rep (goB ((r - 1).toNat)) a xs b ys x))) rfl rfl rfl (OpQ.assign rfl rfl) ?_
              refine Lq.op (v := .bool true) rfl rfl rfl (OpQ.assign rfl rfl) ?_
              refine Lq.nil ?_
              refine Kt.onSub (e' := [(14, .int .i64 (repI (rep (goB ((r - 1).toNat)) a xs b ys x))), (15, .bool true)]) (Sub.cons rfl (Sub.cons rfl Sub.nil)) ?_
              refine Wk.ret (Kt.end2 rfl rfl rfl fun w' hw => ?_)
              -- ret 3: .int .i64 (repI (rep (goB ((r - 1).toNat)) a xs b ys x)); .bool true
              have hy := srA_yes (xs := xs) (ys := ys) hg39 (show 1 ≤ r by omega) hel
              exact ⟨by rw [srO_a hsd, hy, hsm, hgv], hw.below⟩
        · skip
          replace hg43 := of_decide_eq_true hg43
          refine Lq.pass rfl rfl rfl ?_
          refine Lq.pass rfl rfl rfl ?_
          refine Lq.pass rfl rfl rfl ?_
          refine Lq.pass rfl rfl rfl ?_
          refine Lq.pass rfl rfl rfl ?_
          refine Lq.pass rfl rfl rfl ?_
          refine Lq.op (v := .bool true) rfl rfl rfl (OpQ.pickT rfl rfl rfl) ?_
          refine Lq.nil ?_
          refine Kt.onSub (e' := [(1, va), (3, vb), (4, .int .i64 r), (6, .int .i64 x), (7, .pointer (some ⟨p7, 0, none⟩)), (9, .pointer (some ⟨p9, 0, none⟩)), (50, .bool true)]) (Sub.cons rfl (Sub.cons rfl (Sub.cons rfl (Sub.cons rfl (Sub.cons rfl (Sub.cons rfl (Sub.cons rfl Sub.nil))))))) ?_
          refine Wk.condT rfl ?_
          refine Wk.seq ?_
          refine Wk.regionQ ?_
          refine Lq.op (v := .int .i64 0) rfl rfl rfl (OpQ.assign rfl rfl) ?_
          refine Lq.op (v := .bool false) rfl rfl rfl (OpQ.assign rfl rfl) ?_
          refine Lq.nil ?_
          refine Kt.onSub (e' := [(14, .int .i64 0), (15, .bool false)]) (Sub.cons rfl (Sub.cons rfl Sub.nil)) ?_
          refine Wk.ret (Kt.end2 rfl rfl rfl fun w' hw => ?_)
          -- ret 4: .int .i64 0; .bool false
          first | (have hy := srA_yes (xs := xs) (ys := ys) hg39 (show 1 ≤ r by omega) hel; exact ⟨by rw [srO_a hsd, hy]; cases ho : rep (goB (r - 1).toNat) a xs b ys x with
              | none => rfl
              | some y => rw [ho] at hnn; simp at hnn, hw.below⟩) | exact ⟨by rw [srO_no (xs := xs) (ys := ys) (by first | exact .inl (.inl (.inl (by simpa using hg39))) | exact .inl (.inl (.inr (by omega))) | exact .inl (.inr ⟨h18, hsd⟩) | exact .inr (.inr ⟨h18, inB_el.symm.trans (by simpa using h50)⟩))]; rfl, hw.below⟩
      · skip
        replace hg39 := not_true hg39
        refine Lq.pass rfl rfl rfl ?_
        refine Lq.pass rfl rfl rfl ?_
        refine Lq.op (v := .bool true) rfl rfl rfl (OpQ.pickT rfl rfl rfl) ?_
        refine Lq.op (v := .bool true) rfl rfl rfl (OpQ.move rfl rfl) ?_
        refine Lq.pass rfl rfl rfl ?_
        refine Lq.pass rfl rfl rfl ?_
        refine Lq.pass rfl rfl rfl ?_
        refine Lq.pass rfl rfl rfl ?_
        refine Lq.pass rfl rfl rfl ?_
        refine Lq.pass rfl rfl rfl ?_
        refine Lq.op (v := .bool true) rfl rfl rfl (OpQ.pickT rfl rfl rfl) ?_
        refine Lq.nil ?_
        refine Kt.onSub (e' := [(1, va), (3, vb), (4, .int .i64 r), (6, .int .i64 x), (7, .pointer (some ⟨p7, 0, none⟩)), (9, .pointer (some ⟨p9, 0, none⟩)), (50, .bool true)]) (Sub.cons rfl (Sub.cons rfl (Sub.cons rfl (Sub.cons rfl (Sub.cons rfl (Sub.cons rfl (Sub.cons rfl Sub.nil))))))) ?_
        refine Wk.condT rfl ?_
        refine Wk.seq ?_
        refine Wk.regionQ ?_
        refine Lq.op (v := .int .i64 0) rfl rfl rfl (OpQ.assign rfl rfl) ?_
        refine Lq.op (v := .bool false) rfl rfl rfl (OpQ.assign rfl rfl) ?_
        refine Lq.nil ?_
        refine Kt.onSub (e' := [(14, .int .i64 0), (15, .bool false)]) (Sub.cons rfl (Sub.cons rfl Sub.nil)) ?_
        refine Wk.ret (Kt.end2 rfl rfl rfl fun w' hw => ?_)
        -- ret 5: .int .i64 0; .bool false
        first | (have hy := srA_yes (xs := xs) (ys := ys) hg39 (show 1 ≤ r by omega) hel; exact ⟨by rw [srO_a hsd, hy]; cases ho : rep (goB (r - 1).toNat) a xs b ys x with
            | none => rfl
            | some y => rw [ho] at hnn; simp at hnn, hw.below⟩) | exact ⟨by rw [srO_no (xs := xs) (ys := ys) (by first | exact .inl (.inl (.inl (by simpa using hg39))) | exact .inl (.inl (.inr (by omega))) | exact .inl (.inr ⟨h18, hsd⟩) | exact .inr (.inr ⟨h18, inB_el.symm.trans (by simpa using h50)⟩))]; rfl, hw.below⟩
    · skip
      replace hg30 := not_true hg30
      have hsd : (s == [97]) = false := by simpa using hg30
      refine Lq.pass rfl rfl rfl ?_
      refine Lq.pass rfl rfl rfl ?_
      refine Lq.pass rfl rfl rfl ?_
      refine Lq.pass rfl rfl rfl ?_
      refine Lq.pass rfl rfl rfl ?_
      refine Lq.pass rfl rfl rfl ?_
      refine Lq.pass rfl rfl rfl ?_
      refine Lq.op (v := .bool true) rfl rfl rfl (OpQ.pickT rfl rfl rfl) ?_
      refine Lq.op (v := .bool true) rfl rfl rfl (OpQ.move rfl rfl) ?_
      refine Lq.pass rfl rfl rfl ?_
      refine Lq.pass rfl rfl rfl ?_
      refine Lq.op (v := .bool true) rfl rfl rfl (OpQ.pickT rfl rfl rfl) ?_
      refine Lq.op (v := .bool true) rfl rfl rfl (OpQ.move rfl rfl) ?_
      refine Lq.pass rfl rfl rfl ?_
      refine Lq.pass rfl rfl rfl ?_
      refine Lq.pass rfl rfl rfl ?_
      refine Lq.pass rfl rfl rfl ?_
      refine Lq.pass rfl rfl rfl ?_
      refine Lq.pass rfl rfl rfl ?_
      refine Lq.op (v := .bool true) rfl rfl rfl (OpQ.pickT rfl rfl rfl) ?_
      refine Lq.nil ?_
      refine Kt.onSub (e' := [(1, va), (3, vb), (4, .int .i64 r), (6, .int .i64 x), (7, .pointer (some ⟨p7, 0, none⟩)), (9, .pointer (some ⟨p9, 0, none⟩)), (50, .bool true)]) (Sub.cons rfl (Sub.cons rfl (Sub.cons rfl (Sub.cons rfl (Sub.cons rfl (Sub.cons rfl (Sub.cons rfl Sub.nil))))))) ?_
      refine Wk.condT rfl ?_
      refine Wk.seq ?_
      refine Wk.regionQ ?_
      refine Lq.op (v := .int .i64 0) rfl rfl rfl (OpQ.assign rfl rfl) ?_
      refine Lq.op (v := .bool false) rfl rfl rfl (OpQ.assign rfl rfl) ?_
      refine Lq.nil ?_
      refine Kt.onSub (e' := [(14, .int .i64 0), (15, .bool false)]) (Sub.cons rfl (Sub.cons rfl Sub.nil)) ?_
      refine Wk.ret (Kt.end2 rfl rfl rfl fun w' hw => ?_)
      -- ret 6: .int .i64 0; .bool false
      first | (have hy := srA_yes (xs := xs) (ys := ys) hg39 (show 1 ≤ r by omega) hel; exact ⟨by rw [srO_a hsd, hy]; cases ho : rep (goB (r - 1).toNat) a xs b ys x with
          | none => rfl
          | some y => rw [ho] at hnn; simp at hnn, hw.below⟩) | exact ⟨by rw [srO_no (xs := xs) (ys := ys) (by first | exact .inl (.inl (.inl (by simpa using hg39))) | exact .inl (.inl (.inr (by omega))) | exact .inl (.inr ⟨h18, hsd⟩) | exact .inr (.inr ⟨h18, inB_el.symm.trans (by simpa using h50)⟩))]; rfl, hw.below⟩

set_option maxHeartbeats 400000 in
/-- impl.SecondReply -/
theorem iRep_ok (a b : St) (xs ys : List Int) (va vb : Value) (w : World) (hsa : a.Small) (hsb : b.Small) (hva : Ints w va xs) (hvb : Ints w vb ys) (hs1 : xs.length ≤ 140737488355328) (hs2 : ys.length ≤ 140737488355328) (r : Int) (s : List UInt8) (x : Int) :
    Calls Tryd.prog 34 [vS a, va, vS b, vb, .int .i64 r, str s, .int .i64 x].toArray w fun en w' => en = .returned (.tuple #[.int .i64 (((srO a xs b ys r s x).getD 0 : Nat) : Int), .bool (srO a xs b ys r s x).isSome]) ∧ Below w.heap.size w w' := by
  refine fnStart (n := 55) (e := [(0, vS a), (1, va), (2, vS b), (3, vb), (4, .int .i64 r), (5, str s), (6, .int .i64 x)]) Tryd.func34 rfl rfl rfl rfl Ends.both ?_
  refine Wk.seq ?_
  refine Wk.region ?_
  refine Ll.box (v := vS a) rfl rfl rfl rfl rfl fun p7 hp7 => ?_
  show Ll _ _ (Own _ _ [(p7, .cells #[.int .i64 a.n, str a.set, str a.rel] 26 (0, 0))]) _ _ ((7, .pointer (some ⟨p7, 0, none⟩)) :: _) _ _ _
  refine Ll.box (v := vS b) rfl rfl rfl rfl rfl fun p9 hp9 => ?_
  show Ll _ _ (Own _ _ [(p9, .cells #[.int .i64 b.n, str b.set, str b.rel] 26 (0, 0)), (p7, .cells #[.int .i64 a.n, str a.set, str a.rel] 26 (0, 0))]) _ _ ((9, .pointer (some ⟨p9, 0, none⟩)) :: _) _ _ _
  refine Ll.op (v := .int .i64 0) rfl rfl rfl (OpQ.assign rfl rfl) ?_
  refine Ll.op (v := .bool false) rfl rfl rfl (OpQ.assign rfl rfl) ?_
  refine Ll.nil ?_
  refine Kt.onSub (e' := [(1, va), (3, vb), (4, .int .i64 r), (5, str s), (6, .int .i64 x), (7, .pointer (some ⟨p7, 0, none⟩)), (9, .pointer (some ⟨p9, 0, none⟩))]) (Sub.cons rfl (Sub.cons rfl (Sub.cons rfl (Sub.cons rfl (Sub.cons rfl (Sub.cons rfl (Sub.cons rfl Sub.nil))))))) ?_
  refine Wk.seq ?_
  refine Wk.seq ?_
  refine Wk.regionQ ?_
  refine Lq.op (v := vS a) rfl rfl rfl (OpQ.loadBox (cs := #[.int .i64 a.n, str a.set, str a.rel]) 1 rfl Tryd.isAgg26 rfl rfl Tryd.sizeOf26) ?_
  refine Lq.op (v := va) rfl rfl rfl (OpQ.move rfl rfl) ?_
  refine Lq.op (v := vS b) rfl rfl rfl (OpQ.loadBox (cs := #[.int .i64 b.n, str b.set, str b.rel]) 0 rfl Tryd.isAgg26 rfl rfl Tryd.sizeOf26) ?_
  refine Lq.op (v := vb) rfl rfl rfl (OpQ.move rfl rfl) ?_
  refine Lq.op (v := .int .i64 r) rfl rfl rfl (OpQ.move rfl rfl) ?_
  refine Lq.op (v := .bool (gameB a xs b ys r)) rfl rfl rfl (OpQ.call rfl Tryd.call62 rfl Own.stable (fun w1 hw1 => isGame_ok a b xs ys va vb w1 hsa hsb (Row.own hva hw1) (Row.own hvb hw1) (by first | (simp; done) | (simp; omega) | omega) (by first | (simp; done) | (simp; omega) | omega) r)) ?_
  refine Lq.op (v := .bool (!(gameB a xs b ys r))) rfl rfl rfl (OpQ.not rfl rfl) ?_
  refine Lq.op (v := .bool (!(gameB a xs b ys r))) rfl rfl rfl (OpQ.move rfl rfl) ?_
  refine Lq.bool fun b23 hg23 => ?_
  cases b23
  · skip
    replace hg23 := not_false hg23
    replace hg23 : gameB a xs b ys r = true := by simpa using hg23
    obtain ⟨hLL, hr0, hr3⟩ := gameB_true hg23
    obtain ⟨LA, LB, hlen⟩ := listsB_true hLL
    have ha := LA.fine
    have hb := LB.fine
    have hA := LA.els
    have hB := LB.els
    have hl4 := LA.len
    have hm8 := ha.hi
    have hm1 := ha.lo
    refine Lq.op (v := .int .i64 r) rfl rfl rfl (OpQ.move rfl rfl) ?_
    refine Lq.op (v := .bool (decide (r < (1 : Int)))) rfl rfl rfl (OpQ.lss rfl rfl rfl) ?_
    refine Lq.op (v := .bool (decide (r < (1 : Int)))) rfl rfl rfl (OpQ.pickF rfl rfl rfl) ?_
    refine Lq.op (v := .bool (decide (r < (1 : Int)))) rfl rfl rfl (OpQ.move rfl rfl) ?_
    refine Lq.bool fun b27 hg27 => ?_
    cases b27
    · skip
      replace hg27 := of_decide_eq_false hg27
      refine Lq.op (v := str s) rfl rfl rfl (OpQ.move rfl rfl) ?_
      refine Lq.op (v := .bool (!(s == ([97])))) rfl rfl rfl (OpQ.sneq rfl rfl rfl) ?_
      refine Lq.op (v := .bool (!(s == ([97])))) rfl rfl rfl (OpQ.move rfl rfl) ?_
      refine Lq.bool fun b30 hg30 => ?_
      cases b30
      · skip
        replace hg30 := not_false hg30
        refine Lq.pass rfl rfl rfl ?_
        refine Lq.pass rfl rfl rfl ?_
        refine Lq.op (v := .bool false) rfl rfl rfl (OpQ.pickF rfl rfl rfl) ?_
        refine Lq.op (v := .bool false) rfl rfl rfl (OpQ.pickF rfl rfl rfl) ?_
        refine Lq.nil ?_
        refine Kt.onSub (e' := [(1, va), (3, vb), (4, .int .i64 r), (5, str s), (6, .int .i64 x), (7, .pointer (some ⟨p7, 0, none⟩)), (9, .pointer (some ⟨p9, 0, none⟩)), (34, .bool false)]) (Sub.cons rfl (Sub.cons rfl (Sub.cons rfl (Sub.cons rfl (Sub.cons rfl (Sub.cons rfl (Sub.cons rfl (Sub.cons rfl Sub.nil)))))))) ?_
        refine Wk.condF rfl ?_
        refine Wk.skip ?_
        refine Kt.onSub (e' := [(1, va), (3, vb), (4, .int .i64 r), (5, str s), (6, .int .i64 x), (7, .pointer (some ⟨p7, 0, none⟩)), (9, .pointer (some ⟨p9, 0, none⟩))]) (Sub.cons rfl (Sub.cons rfl (Sub.cons rfl (Sub.cons rfl (Sub.cons rfl (Sub.cons rfl (Sub.cons rfl Sub.nil))))))) ?_
        refine Wk.seq ?_
        refine Wk.seq ?_
        refine Wk.regionQ ?_
        refine Lq.op (v := str s) rfl rfl rfl (OpQ.move rfl rfl) ?_
        refine Lq.op (v := .bool (s == ([98]))) rfl rfl rfl (OpQ.seql rfl rfl rfl) ?_
        refine Lq.nil ?_
        refine Kt.onSub (e' := [(1, va), (3, vb), (4, .int .i64 r), (6, .int .i64 x), (7, .pointer (some ⟨p7, 0, none⟩)), (9, .pointer (some ⟨p9, 0, none⟩)), (36, .bool (s == ([98])))]) (Sub.cons rfl (Sub.cons rfl (Sub.cons rfl (Sub.cons rfl (Sub.cons rfl (Sub.cons rfl (Sub.cons rfl Sub.nil))))))) ?_
        refine Wk.cond (b := s == ([98])) rfl (fun h36 => ?_) (fun h36 => ?_)
        · skip
          have hb6 : (s == [98]) = true := h36
          refine Wk.region ?_
          refine Ll.op (v := vS b) rfl rfl rfl (OpQ.loadBox (cs := #[.int .i64 b.n, str b.set, str b.rel]) 0 rfl Tryd.isAgg26 rfl rfl Tryd.sizeOf26) ?_
          refine Ll.op (v := vb) rfl rfl rfl (OpQ.move rfl rfl) ?_
          refine Ll.op (v := vS a) rfl rfl rfl (OpQ.loadBox (cs := #[.int .i64 a.n, str a.set, str a.rel]) 1 rfl Tryd.isAgg26 rfl rfl Tryd.sizeOf26) ?_
          refine Ll.op (v := va) rfl rfl rfl (OpQ.move rfl rfl) ?_
          refine Ll.storeBox (cs' := #[.int .i64 b.n, str b.set, str b.rel]) (hs' := [(p9, .cells #[.int .i64 b.n, str b.set, str b.rel] 26 (0, 0)), (p7, .cells #[.int .i64 b.n, str b.set, str b.rel] 26 (0, 0))]) 1 rfl rfl rfl rfl rfl (by kernel_rfl : _ = some Tryd.t26) rfl rfl rfl rfl rfl ?_
          refine Ll.op (v := vb) rfl rfl rfl (OpQ.assign rfl rfl) ?_
          refine Ll.storeBox (cs' := #[.int .i64 a.n, str a.set, str a.rel]) (hs' := [(p9, .cells #[.int .i64 a.n, str a.set, str a.rel] 26 (0, 0)), (p7, .cells #[.int .i64 b.n, str b.set, str b.rel] 26 (0, 0))]) 0 rfl rfl rfl rfl rfl (by kernel_rfl : _ = some Tryd.t26) rfl rfl rfl rfl rfl ?_
          refine Ll.op (v := va) rfl rfl rfl (OpQ.assign rfl rfl) ?_
          refine Ll.nil ?_
          refine Kt.onSub (e' := [(1, vb), (3, va), (4, .int .i64 r), (6, .int .i64 x), (7, .pointer (some ⟨p7, 0, none⟩)), (9, .pointer (some ⟨p9, 0, none⟩))]) (Sub.cons rfl (Sub.cons rfl (Sub.cons rfl (Sub.cons rfl (Sub.cons rfl (Sub.cons rfl Sub.nil)))))) ?_
          refine Wk.seq ?_
          refine Wk.seq ?_
          refine Wk.region ?_
          refine Ll.op (v := vS b) rfl rfl rfl (OpQ.loadBox (cs := #[.int .i64 b.n, str b.set, str b.rel]) 1 rfl Tryd.isAgg26 rfl rfl Tryd.sizeOf26) ?_
          refine Ll.op (v := .int .i64 x) rfl rfl rfl (OpQ.move rfl rfl) ?_
          refine Ll.slice (xs := [.tmp 42]) (vs := [.int .i64 x]) Base.elem31 rfl rfl rfl rfl rfl rfl (by decide) rfl fun p43 hp43 => ?_
          refine Ll.op (v := .bool (([x]).all (elB b))) rfl rfl rfl (OpQ.call rfl Tryd.call75 rfl Own.stable (fun w1 hw1 => areElements_ok b (.slice (some ⟨p43, 0, none⟩) 1 1) ([x]) w1 (Own.row hw1 (i := 0) rfl (n := 1) (cap := 1) (vs := ints [x]) rfl rfl (by decide)) (by simp))) ?_
          refine Ll.op (v := .bool (!(([x]).all (elB b)))) rfl rfl rfl (OpQ.not rfl rfl) ?_
          refine Ll.nil ?_
          refine Kt.onSub (e' := [(1, vb), (3, va), (4, .int .i64 r), (6, .int .i64 x), (7, .pointer (some ⟨p7, 0, none⟩)), (9, .pointer (some ⟨p9, 0, none⟩)), (45, .bool (!(([x]).all (elB b))))]) (Sub.cons rfl (Sub.cons rfl (Sub.cons rfl (Sub.cons rfl (Sub.cons rfl (Sub.cons rfl (Sub.cons rfl Sub.nil))))))) ?_
          refine Wk.cond (b := !(([x]).all (elB b))) rfl (fun h45 => ?_) (fun h45 => ?_)
          · skip
            replace h45 := not_true h45
            have hel : elB b x = false := by simpa using h45
            refine Wk.seq ?_
            refine Wk.regionQ ?_
            refine Lq.op (v := .int .i64 0) rfl rfl rfl (OpQ.assign rfl rfl) ?_
            refine Lq.op (v := .bool false) rfl rfl rfl (OpQ.assign rfl rfl) ?_
            refine Lq.nil ?_
            refine Kt.onSub (e' := [(14, .int .i64 0), (15, .bool false)]) (Sub.cons rfl (Sub.cons rfl Sub.nil)) ?_
            refine Wk.ret (Kt.end2 rfl rfl rfl fun w' hw => ?_)
            -- ret 0: .int .i64 0; .bool false
            exact ⟨by rw [srO_no (xs := xs) (ys := ys) (by first | exact .inl (.inl (.inl (by simpa using hg23))) | exact .inr (.inl ⟨hb6, hel⟩) | exact .inr (.inr ⟨hb6, hel⟩) | exact .inl (.inl (.inr (by omega))) | exact .inl (.inr ⟨by simp_all, by simp_all⟩))]; rfl, hw.below⟩
          · skip
            replace h45 := not_false h45
            have hel : elB b x = true := by simpa using h45
            have hx := elB_true.1 hel
            refine Wk.skip ?_
            refine Kt.onSub (e' := [(1, vb), (3, va), (4, .int .i64 r), (6, .int .i64 x), (7, .pointer (some ⟨p7, 0, none⟩)), (9, .pointer (some ⟨p9, 0, none⟩))]) (Sub.cons rfl (Sub.cons rfl (Sub.cons rfl (Sub.cons rfl (Sub.cons rfl (Sub.cons rfl Sub.nil)))))) ?_
            refine Wk.seq ?_
            refine Wk.regionQ ?_
            refine Lq.op (v := vS b) rfl rfl rfl (OpQ.loadBox (cs := #[.int .i64 b.n, str b.set, str b.rel]) 2 rfl Tryd.isAgg26 rfl rfl Tryd.sizeOf26) ?_
            refine Lq.op (v := vb) rfl rfl rfl (OpQ.move rfl rfl) ?_
            refine Lq.op (v := vS a) rfl rfl rfl (OpQ.loadBox (cs := #[.int .i64 a.n, str a.set, str a.rel]) 1 rfl Tryd.isAgg26 rfl rfl Tryd.sizeOf26) ?_
            refine Lq.op (v := va) rfl rfl rfl (OpQ.move rfl rfl) ?_
            refine Lq.op (v := .int .i64 r) rfl rfl rfl (OpQ.move rfl rfl) ?_
            refine Lq.op (v := .int .i64 x) rfl rfl rfl (OpQ.move rfl rfl) ?_
            refine Lq.op (v := .tuple #[.int .i64 ((((rep (goB (r - 1).toNat) b ys a xs x).getD 0 : Nat) : Int)), .bool ((rep (goB (r - 1).toNat) b ys a xs x).isSome)]) rfl rfl rfl (OpQ.call rfl Tryd.call76 rfl Own.stable (fun w1 hw1 => reply_to r (by omega) b a ys xs vb va w1 hb ha (Row.own hvb hw1) (Row.own hva hw1) hB hA (by first | (simp; done) | (simp; omega) | omega) (by first | (simp; done) | (simp; omega) | omega) x hx)) ?_
            refine Lq.op (v := .int .i64 ((((rep (goB (r - 1).toNat) b ys a xs x).getD 0 : Nat) : Int))) rfl rfl rfl (OpQ.extract rfl rfl rfl) ?_
            refine Lq.op (v := .bool ((rep (goB (r - 1).toNat) b ys a xs x).isSome)) rfl rfl rfl (OpQ.extract rfl rfl rfl) ?_
            refine Lq.op (v := .int .i64 ((((rep (goB (r - 1).toNat) b ys a xs x).getD 0 : Nat) : Int))) rfl rfl rfl (OpQ.assign rfl rfl) ?_
            refine Lq.op (v := .bool ((rep (goB (r - 1).toNat) b ys a xs x).isSome)) rfl rfl rfl (OpQ.assign rfl rfl) ?_
            refine Lq.nil ?_
            refine Kt.onSub (e' := [(14, .int .i64 ((((rep (goB (r - 1).toNat) b ys a xs x).getD 0 : Nat) : Int))), (15, .bool ((rep (goB (r - 1).toNat) b ys a xs x).isSome))]) (Sub.cons rfl (Sub.cons rfl Sub.nil)) ?_
            refine Wk.ret (Kt.end2 rfl rfl rfl fun w' hw => ?_)
            -- ret 1: .int .i64 ((((rep (goB (r - 1).toNat) b ys a xs x).getD 0 : Nat) : Int)); .bool ((rep (goB (r - 1).toNat) b ys a xs x).isSome)
            have hy := srA_yes (a := b) (xs := ys) (b := a) (ys := xs) (by rw [← gameB_comm]; exact hg23) (show 1 ≤ r by omega) hel
            exact ⟨by rw [srO_b hb6, hy], hw.below⟩
        · skip
          have hb6 : (s == [98]) = false := by simpa using h36
          have hsd : (s == [97]) = true := by simp_all
          refine Wk.skip ?_
          refine Kt.onSub (e' := [(1, va), (3, vb), (4, .int .i64 r), (6, .int .i64 x), (7, .pointer (some ⟨p7, 0, none⟩)), (9, .pointer (some ⟨p9, 0, none⟩))]) (Sub.cons rfl (Sub.cons rfl (Sub.cons rfl (Sub.cons rfl (Sub.cons rfl (Sub.cons rfl Sub.nil)))))) ?_
          refine Wk.seq ?_
          refine Wk.seq ?_
          refine Wk.region ?_
          refine Ll.op (v := vS a) rfl rfl rfl (OpQ.loadBox (cs := #[.int .i64 a.n, str a.set, str a.rel]) 1 rfl Tryd.isAgg26 rfl rfl Tryd.sizeOf26) ?_
          refine Ll.op (v := .int .i64 x) rfl rfl rfl (OpQ.move rfl rfl) ?_
          refine Ll.slice (xs := [.tmp 42]) (vs := [.int .i64 x]) Base.elem31 rfl rfl rfl rfl rfl rfl (by decide) rfl fun p43_1 hp43_1 => ?_
          refine Ll.op (v := .bool (([x]).all (elB a))) rfl rfl rfl (OpQ.call rfl Tryd.call75 rfl Own.stable (fun w1 hw1 => areElements_ok a (.slice (some ⟨p43_1, 0, none⟩) 1 1) ([x]) w1 (Own.row hw1 (i := 0) rfl (n := 1) (cap := 1) (vs := ints [x]) rfl rfl (by decide)) (by simp))) ?_
          refine Ll.op (v := .bool (!(([x]).all (elB a)))) rfl rfl rfl (OpQ.not rfl rfl) ?_
          refine Ll.nil ?_
          refine Kt.onSub (e' := [(1, va), (3, vb), (4, .int .i64 r), (6, .int .i64 x), (7, .pointer (some ⟨p7, 0, none⟩)), (9, .pointer (some ⟨p9, 0, none⟩)), (45, .bool (!(([x]).all (elB a))))]) (Sub.cons rfl (Sub.cons rfl (Sub.cons rfl (Sub.cons rfl (Sub.cons rfl (Sub.cons rfl (Sub.cons rfl Sub.nil))))))) ?_
          refine Wk.cond (b := !(([x]).all (elB a))) rfl (fun h45_1 => ?_) (fun h45_1 => ?_)
          · skip
            replace h45_1 := not_true h45_1
            have hel : elB a x = false := by simpa using h45_1
            refine Wk.seq ?_
            refine Wk.regionQ ?_
            refine Lq.op (v := .int .i64 0) rfl rfl rfl (OpQ.assign rfl rfl) ?_
            refine Lq.op (v := .bool false) rfl rfl rfl (OpQ.assign rfl rfl) ?_
            refine Lq.nil ?_
            refine Kt.onSub (e' := [(14, .int .i64 0), (15, .bool false)]) (Sub.cons rfl (Sub.cons rfl Sub.nil)) ?_
            refine Wk.ret (Kt.end2 rfl rfl rfl fun w' hw => ?_)
            -- ret 2: .int .i64 0; .bool false
            exact ⟨by rw [srO_no (xs := xs) (ys := ys) (by first | exact .inl (.inl (.inl (by simpa using hg23))) | exact .inr (.inl ⟨hb6, hel⟩) | exact .inr (.inr ⟨hb6, hel⟩) | exact .inl (.inl (.inr (by omega))) | exact .inl (.inr ⟨by simp_all, by simp_all⟩))]; rfl, hw.below⟩
          · skip
            replace h45_1 := not_false h45_1
            have hel : elB a x = true := by simpa using h45_1
            have hx := elB_true.1 hel
            refine Wk.skip ?_
            refine Kt.onSub (e' := [(1, va), (3, vb), (4, .int .i64 r), (6, .int .i64 x), (7, .pointer (some ⟨p7, 0, none⟩)), (9, .pointer (some ⟨p9, 0, none⟩))]) (Sub.cons rfl (Sub.cons rfl (Sub.cons rfl (Sub.cons rfl (Sub.cons rfl (Sub.cons rfl Sub.nil)))))) ?_
            refine Wk.seq ?_
            refine Wk.regionQ ?_
            refine Lq.op (v := vS a) rfl rfl rfl (OpQ.loadBox (cs := #[.int .i64 a.n, str a.set, str a.rel]) 2 rfl Tryd.isAgg26 rfl rfl Tryd.sizeOf26) ?_
            refine Lq.op (v := va) rfl rfl rfl (OpQ.move rfl rfl) ?_
            refine Lq.op (v := vS b) rfl rfl rfl (OpQ.loadBox (cs := #[.int .i64 b.n, str b.set, str b.rel]) 1 rfl Tryd.isAgg26 rfl rfl Tryd.sizeOf26) ?_
            refine Lq.op (v := vb) rfl rfl rfl (OpQ.move rfl rfl) ?_
            refine Lq.op (v := .int .i64 r) rfl rfl rfl (OpQ.move rfl rfl) ?_
            refine Lq.op (v := .int .i64 x) rfl rfl rfl (OpQ.move rfl rfl) ?_
            refine Lq.op (v := .tuple #[.int .i64 ((((rep (goB (r - 1).toNat) a xs b ys x).getD 0 : Nat) : Int)), .bool ((rep (goB (r - 1).toNat) a xs b ys x).isSome)]) rfl rfl rfl (OpQ.call rfl Tryd.call76 rfl Own.stable (fun w1 hw1 => reply_to r (by omega) a b xs ys va vb w1 ha hb (Row.own hva hw1) (Row.own hvb hw1) hA hB (by first | (simp; done) | (simp; omega) | omega) (by first | (simp; done) | (simp; omega) | omega) x hx)) ?_
            refine Lq.op (v := .int .i64 ((((rep (goB (r - 1).toNat) a xs b ys x).getD 0 : Nat) : Int))) rfl rfl rfl (OpQ.extract rfl rfl rfl) ?_
            refine Lq.op (v := .bool ((rep (goB (r - 1).toNat) a xs b ys x).isSome)) rfl rfl rfl (OpQ.extract rfl rfl rfl) ?_
            refine Lq.op (v := .int .i64 ((((rep (goB (r - 1).toNat) a xs b ys x).getD 0 : Nat) : Int))) rfl rfl rfl (OpQ.assign rfl rfl) ?_
            refine Lq.op (v := .bool ((rep (goB (r - 1).toNat) a xs b ys x).isSome)) rfl rfl rfl (OpQ.assign rfl rfl) ?_
            refine Lq.nil ?_
            refine Kt.onSub (e' := [(14, .int .i64 ((((rep (goB (r - 1).toNat) a xs b ys x).getD 0 : Nat) : Int))), (15, .bool ((rep (goB (r - 1).toNat) a xs b ys x).isSome))]) (Sub.cons rfl (Sub.cons rfl Sub.nil)) ?_
            refine Wk.ret (Kt.end2 rfl rfl rfl fun w' hw => ?_)
            -- ret 3: .int .i64 ((((rep (goB (r - 1).toNat) a xs b ys x).getD 0 : Nat) : Int)); .bool ((rep (goB (r - 1).toNat) a xs b ys x).isSome)
            have hy := srA_yes (xs := xs) (ys := ys) hg23 (show 1 ≤ r by omega) hel
            exact ⟨by rw [srO_a hsd, hy], hw.below⟩
      · skip
        replace hg30 := not_true hg30
        refine Lq.op (v := str s) rfl rfl rfl (OpQ.move rfl rfl) ?_
        refine Lq.op (v := .bool (!(s == ([98])))) rfl rfl rfl (OpQ.sneq rfl rfl rfl) ?_
        refine Lq.op (v := .bool (!(s == ([98])))) rfl rfl rfl (OpQ.pickT rfl rfl rfl) ?_
        refine Lq.op (v := .bool (!(s == ([98])))) rfl rfl rfl (OpQ.pickF rfl rfl rfl) ?_
        refine Lq.nil ?_
        refine Kt.onSub (e' := [(1, va), (3, vb), (4, .int .i64 r), (5, str s), (6, .int .i64 x), (7, .pointer (some ⟨p7, 0, none⟩)), (9, .pointer (some ⟨p9, 0, none⟩)), (34, .bool (!(s == ([98]))))]) (Sub.cons rfl (Sub.cons rfl (Sub.cons rfl (Sub.cons rfl (Sub.cons rfl (Sub.cons rfl (Sub.cons rfl (Sub.cons rfl Sub.nil)))))))) ?_
        refine Wk.cond (b := !(s == ([98]))) rfl (fun h34 => ?_) (fun h34 => ?_)
        · skip
          replace h34 := not_true h34
          refine Wk.seq ?_
          refine Wk.regionQ ?_
          refine Lq.op (v := .int .i64 0) rfl rfl rfl (OpQ.assign rfl rfl) ?_
          refine Lq.op (v := .bool false) rfl rfl rfl (OpQ.assign rfl rfl) ?_
          refine Lq.nil ?_
          refine Kt.onSub (e' := [(14, .int .i64 0), (15, .bool false)]) (Sub.cons rfl (Sub.cons rfl Sub.nil)) ?_
          refine Wk.ret (Kt.end2 rfl rfl rfl fun w' hw => ?_)
          -- ret 4: .int .i64 0; .bool false
          exact ⟨by rw [srO_no (xs := xs) (ys := ys) (by first | exact .inl (.inl (.inl (by simpa using hg23))) | exact .inr (.inl ⟨hb6, hel⟩) | exact .inr (.inr ⟨hb6, hel⟩) | exact .inl (.inl (.inr (by omega))) | exact .inl (.inr ⟨by simp_all, by simp_all⟩))]; rfl, hw.below⟩
        · skip
          replace h34 := not_false h34
          refine Wk.skip ?_
          refine Kt.onSub (e' := [(1, va), (3, vb), (4, .int .i64 r), (5, str s), (6, .int .i64 x), (7, .pointer (some ⟨p7, 0, none⟩)), (9, .pointer (some ⟨p9, 0, none⟩))]) (Sub.cons rfl (Sub.cons rfl (Sub.cons rfl (Sub.cons rfl (Sub.cons rfl (Sub.cons rfl (Sub.cons rfl Sub.nil))))))) ?_
          refine Wk.seq ?_
          refine Wk.seq ?_
          refine Wk.regionQ ?_
          refine Lq.op (v := str s) rfl rfl rfl (OpQ.move rfl rfl) ?_
          refine Lq.op (v := .bool (s == ([98]))) rfl rfl rfl (OpQ.seql rfl rfl rfl) ?_
          refine Lq.nil ?_
          refine Kt.onSub (e' := [(1, va), (3, vb), (4, .int .i64 r), (6, .int .i64 x), (7, .pointer (some ⟨p7, 0, none⟩)), (9, .pointer (some ⟨p9, 0, none⟩)), (36, .bool (s == ([98])))]) (Sub.cons rfl (Sub.cons rfl (Sub.cons rfl (Sub.cons rfl (Sub.cons rfl (Sub.cons rfl (Sub.cons rfl Sub.nil))))))) ?_
          refine Wk.cond (b := s == ([98])) rfl (fun h36_1 => ?_) (fun h36_1 => ?_)
          · skip
            have hb6 : (s == [98]) = true := h36_1
            refine Wk.region ?_
            refine Ll.op (v := vS b) rfl rfl rfl (OpQ.loadBox (cs := #[.int .i64 b.n, str b.set, str b.rel]) 0 rfl Tryd.isAgg26 rfl rfl Tryd.sizeOf26) ?_
            refine Ll.op (v := vb) rfl rfl rfl (OpQ.move rfl rfl) ?_
            refine Ll.op (v := vS a) rfl rfl rfl (OpQ.loadBox (cs := #[.int .i64 a.n, str a.set, str a.rel]) 1 rfl Tryd.isAgg26 rfl rfl Tryd.sizeOf26) ?_
            refine Ll.op (v := va) rfl rfl rfl (OpQ.move rfl rfl) ?_
            refine Ll.storeBox (cs' := #[.int .i64 b.n, str b.set, str b.rel]) (hs' := [(p9, .cells #[.int .i64 b.n, str b.set, str b.rel] 26 (0, 0)), (p7, .cells #[.int .i64 b.n, str b.set, str b.rel] 26 (0, 0))]) 1 rfl rfl rfl rfl rfl (by kernel_rfl : _ = some Tryd.t26) rfl rfl rfl rfl rfl ?_
            refine Ll.op (v := vb) rfl rfl rfl (OpQ.assign rfl rfl) ?_
            refine Ll.storeBox (cs' := #[.int .i64 a.n, str a.set, str a.rel]) (hs' := [(p9, .cells #[.int .i64 a.n, str a.set, str a.rel] 26 (0, 0)), (p7, .cells #[.int .i64 b.n, str b.set, str b.rel] 26 (0, 0))]) 0 rfl rfl rfl rfl rfl (by kernel_rfl : _ = some Tryd.t26) rfl rfl rfl rfl rfl ?_
            refine Ll.op (v := va) rfl rfl rfl (OpQ.assign rfl rfl) ?_
            refine Ll.nil ?_
            refine Kt.onSub (e' := [(1, vb), (3, va), (4, .int .i64 r), (6, .int .i64 x), (7, .pointer (some ⟨p7, 0, none⟩)), (9, .pointer (some ⟨p9, 0, none⟩))]) (Sub.cons rfl (Sub.cons rfl (Sub.cons rfl (Sub.cons rfl (Sub.cons rfl (Sub.cons rfl Sub.nil)))))) ?_
            refine Wk.seq ?_
            refine Wk.seq ?_
            refine Wk.region ?_
            refine Ll.op (v := vS b) rfl rfl rfl (OpQ.loadBox (cs := #[.int .i64 b.n, str b.set, str b.rel]) 1 rfl Tryd.isAgg26 rfl rfl Tryd.sizeOf26) ?_
            refine Ll.op (v := .int .i64 x) rfl rfl rfl (OpQ.move rfl rfl) ?_
            refine Ll.slice (xs := [.tmp 42]) (vs := [.int .i64 x]) Base.elem31 rfl rfl rfl rfl rfl rfl (by decide) rfl fun p43_2 hp43_2 => ?_
            refine Ll.op (v := .bool (([x]).all (elB b))) rfl rfl rfl (OpQ.call rfl Tryd.call75 rfl Own.stable (fun w1 hw1 => areElements_ok b (.slice (some ⟨p43_2, 0, none⟩) 1 1) ([x]) w1 (Own.row hw1 (i := 0) rfl (n := 1) (cap := 1) (vs := ints [x]) rfl rfl (by decide)) (by simp))) ?_
            refine Ll.op (v := .bool (!(([x]).all (elB b)))) rfl rfl rfl (OpQ.not rfl rfl) ?_
            refine Ll.nil ?_
            refine Kt.onSub (e' := [(1, vb), (3, va), (4, .int .i64 r), (6, .int .i64 x), (7, .pointer (some ⟨p7, 0, none⟩)), (9, .pointer (some ⟨p9, 0, none⟩)), (45, .bool (!(([x]).all (elB b))))]) (Sub.cons rfl (Sub.cons rfl (Sub.cons rfl (Sub.cons rfl (Sub.cons rfl (Sub.cons rfl (Sub.cons rfl Sub.nil))))))) ?_
            refine Wk.cond (b := !(([x]).all (elB b))) rfl (fun h45_2 => ?_) (fun h45_2 => ?_)
            · skip
              replace h45_2 := not_true h45_2
              have hel : elB b x = false := by simpa using h45_2
              refine Wk.seq ?_
              refine Wk.regionQ ?_
              refine Lq.op (v := .int .i64 0) rfl rfl rfl (OpQ.assign rfl rfl) ?_
              refine Lq.op (v := .bool false) rfl rfl rfl (OpQ.assign rfl rfl) ?_
              refine Lq.nil ?_
              refine Kt.onSub (e' := [(14, .int .i64 0), (15, .bool false)]) (Sub.cons rfl (Sub.cons rfl Sub.nil)) ?_
              refine Wk.ret (Kt.end2 rfl rfl rfl fun w' hw => ?_)
              -- ret 5: .int .i64 0; .bool false
              exact ⟨by rw [srO_no (xs := xs) (ys := ys) (by first | exact .inl (.inl (.inl (by simpa using hg23))) | exact .inr (.inl ⟨hb6, hel⟩) | exact .inr (.inr ⟨hb6, hel⟩) | exact .inl (.inl (.inr (by omega))) | exact .inl (.inr ⟨by simp_all, by simp_all⟩))]; rfl, hw.below⟩
            · skip
              replace h45_2 := not_false h45_2
              have hel : elB b x = true := by simpa using h45_2
              have hx := elB_true.1 hel
              refine Wk.skip ?_
              refine Kt.onSub (e' := [(1, vb), (3, va), (4, .int .i64 r), (6, .int .i64 x), (7, .pointer (some ⟨p7, 0, none⟩)), (9, .pointer (some ⟨p9, 0, none⟩))]) (Sub.cons rfl (Sub.cons rfl (Sub.cons rfl (Sub.cons rfl (Sub.cons rfl (Sub.cons rfl Sub.nil)))))) ?_
              refine Wk.seq ?_
              refine Wk.regionQ ?_
              refine Lq.op (v := vS b) rfl rfl rfl (OpQ.loadBox (cs := #[.int .i64 b.n, str b.set, str b.rel]) 2 rfl Tryd.isAgg26 rfl rfl Tryd.sizeOf26) ?_
              refine Lq.op (v := vb) rfl rfl rfl (OpQ.move rfl rfl) ?_
              refine Lq.op (v := vS a) rfl rfl rfl (OpQ.loadBox (cs := #[.int .i64 a.n, str a.set, str a.rel]) 1 rfl Tryd.isAgg26 rfl rfl Tryd.sizeOf26) ?_
              refine Lq.op (v := va) rfl rfl rfl (OpQ.move rfl rfl) ?_
              refine Lq.op (v := .int .i64 r) rfl rfl rfl (OpQ.move rfl rfl) ?_
              refine Lq.op (v := .int .i64 x) rfl rfl rfl (OpQ.move rfl rfl) ?_
              refine Lq.op (v := .tuple #[.int .i64 ((((rep (goB (r - 1).toNat) b ys a xs x).getD 0 : Nat) : Int)), .bool ((rep (goB (r - 1).toNat) b ys a xs x).isSome)]) rfl rfl rfl (OpQ.call rfl Tryd.call76 rfl Own.stable (fun w1 hw1 => reply_to r (by omega) b a ys xs vb va w1 hb ha (Row.own hvb hw1) (Row.own hva hw1) hB hA (by first | (simp; done) | (simp; omega) | omega) (by first | (simp; done) | (simp; omega) | omega) x hx)) ?_
              refine Lq.op (v := .int .i64 ((((rep (goB (r - 1).toNat) b ys a xs x).getD 0 : Nat) : Int))) rfl rfl rfl (OpQ.extract rfl rfl rfl) ?_
              refine Lq.op (v := .bool ((rep (goB (r - 1).toNat) b ys a xs x).isSome)) rfl rfl rfl (OpQ.extract rfl rfl rfl) ?_
              refine Lq.op (v := .int .i64 ((((rep (goB (r - 1).toNat) b ys a xs x).getD 0 : Nat) : Int))) rfl rfl rfl (OpQ.assign rfl rfl) ?_
              refine Lq.op (v := .bool ((rep (goB (r - 1).toNat) b ys a xs x).isSome)) rfl rfl rfl (OpQ.assign rfl rfl) ?_
              refine Lq.nil ?_
              refine Kt.onSub (e' := [(14, .int .i64 ((((rep (goB (r - 1).toNat) b ys a xs x).getD 0 : Nat) : Int))), (15, .bool ((rep (goB (r - 1).toNat) b ys a xs x).isSome))]) (Sub.cons rfl (Sub.cons rfl Sub.nil)) ?_
              refine Wk.ret (Kt.end2 rfl rfl rfl fun w' hw => ?_)
              -- ret 6: .int .i64 ((((rep (goB (r - 1).toNat) b ys a xs x).getD 0 : Nat) : Int)); .bool ((rep (goB (r - 1).toNat) b ys a xs x).isSome)
              have hy := srA_yes (a := b) (xs := ys) (b := a) (ys := xs) (by rw [← gameB_comm]; exact hg23) (show 1 ≤ r by omega) hel
              exact ⟨by rw [srO_b hb6, hy], hw.below⟩
          · skip
            have hb6 : (s == [98]) = false := by simpa using h36_1
            have hsd : (s == [97]) = true := by simp_all
            refine Wk.skip ?_
            refine Kt.onSub (e' := [(1, va), (3, vb), (4, .int .i64 r), (6, .int .i64 x), (7, .pointer (some ⟨p7, 0, none⟩)), (9, .pointer (some ⟨p9, 0, none⟩))]) (Sub.cons rfl (Sub.cons rfl (Sub.cons rfl (Sub.cons rfl (Sub.cons rfl (Sub.cons rfl Sub.nil)))))) ?_
            refine Wk.seq ?_
            refine Wk.seq ?_
            refine Wk.region ?_
            refine Ll.op (v := vS a) rfl rfl rfl (OpQ.loadBox (cs := #[.int .i64 a.n, str a.set, str a.rel]) 1 rfl Tryd.isAgg26 rfl rfl Tryd.sizeOf26) ?_
            refine Ll.op (v := .int .i64 x) rfl rfl rfl (OpQ.move rfl rfl) ?_
            refine Ll.slice (xs := [.tmp 42]) (vs := [.int .i64 x]) Base.elem31 rfl rfl rfl rfl rfl rfl (by decide) rfl fun p43_3 hp43_3 => ?_
            refine Ll.op (v := .bool (([x]).all (elB a))) rfl rfl rfl (OpQ.call rfl Tryd.call75 rfl Own.stable (fun w1 hw1 => areElements_ok a (.slice (some ⟨p43_3, 0, none⟩) 1 1) ([x]) w1 (Own.row hw1 (i := 0) rfl (n := 1) (cap := 1) (vs := ints [x]) rfl rfl (by decide)) (by simp))) ?_
            refine Ll.op (v := .bool (!(([x]).all (elB a)))) rfl rfl rfl (OpQ.not rfl rfl) ?_
            refine Ll.nil ?_
            refine Kt.onSub (e' := [(1, va), (3, vb), (4, .int .i64 r), (6, .int .i64 x), (7, .pointer (some ⟨p7, 0, none⟩)), (9, .pointer (some ⟨p9, 0, none⟩)), (45, .bool (!(([x]).all (elB a))))]) (Sub.cons rfl (Sub.cons rfl (Sub.cons rfl (Sub.cons rfl (Sub.cons rfl (Sub.cons rfl (Sub.cons rfl Sub.nil))))))) ?_
            refine Wk.cond (b := !(([x]).all (elB a))) rfl (fun h45_3 => ?_) (fun h45_3 => ?_)
            · skip
              replace h45_3 := not_true h45_3
              have hel : elB a x = false := by simpa using h45_3
              refine Wk.seq ?_
              refine Wk.regionQ ?_
              refine Lq.op (v := .int .i64 0) rfl rfl rfl (OpQ.assign rfl rfl) ?_
              refine Lq.op (v := .bool false) rfl rfl rfl (OpQ.assign rfl rfl) ?_
              refine Lq.nil ?_
              refine Kt.onSub (e' := [(14, .int .i64 0), (15, .bool false)]) (Sub.cons rfl (Sub.cons rfl Sub.nil)) ?_
              refine Wk.ret (Kt.end2 rfl rfl rfl fun w' hw => ?_)
              -- ret 7: .int .i64 0; .bool false
              exact ⟨by rw [srO_no (xs := xs) (ys := ys) (by first | exact .inl (.inl (.inl (by simpa using hg23))) | exact .inr (.inl ⟨hb6, hel⟩) | exact .inr (.inr ⟨hb6, hel⟩) | exact .inl (.inl (.inr (by omega))) | exact .inl (.inr ⟨by simp_all, by simp_all⟩))]; rfl, hw.below⟩
            · skip
              replace h45_3 := not_false h45_3
              have hel : elB a x = true := by simpa using h45_3
              have hx := elB_true.1 hel
              refine Wk.skip ?_
              refine Kt.onSub (e' := [(1, va), (3, vb), (4, .int .i64 r), (6, .int .i64 x), (7, .pointer (some ⟨p7, 0, none⟩)), (9, .pointer (some ⟨p9, 0, none⟩))]) (Sub.cons rfl (Sub.cons rfl (Sub.cons rfl (Sub.cons rfl (Sub.cons rfl (Sub.cons rfl Sub.nil)))))) ?_
              refine Wk.seq ?_
              refine Wk.regionQ ?_
              refine Lq.op (v := vS a) rfl rfl rfl (OpQ.loadBox (cs := #[.int .i64 a.n, str a.set, str a.rel]) 2 rfl Tryd.isAgg26 rfl rfl Tryd.sizeOf26) ?_
              refine Lq.op (v := va) rfl rfl rfl (OpQ.move rfl rfl) ?_
              refine Lq.op (v := vS b) rfl rfl rfl (OpQ.loadBox (cs := #[.int .i64 b.n, str b.set, str b.rel]) 1 rfl Tryd.isAgg26 rfl rfl Tryd.sizeOf26) ?_
              refine Lq.op (v := vb) rfl rfl rfl (OpQ.move rfl rfl) ?_
              refine Lq.op (v := .int .i64 r) rfl rfl rfl (OpQ.move rfl rfl) ?_
              refine Lq.op (v := .int .i64 x) rfl rfl rfl (OpQ.move rfl rfl) ?_
              refine Lq.op (v := .tuple #[.int .i64 ((((rep (goB (r - 1).toNat) a xs b ys x).getD 0 : Nat) : Int)), .bool ((rep (goB (r - 1).toNat) a xs b ys x).isSome)]) rfl rfl rfl (OpQ.call rfl Tryd.call76 rfl Own.stable (fun w1 hw1 => reply_to r (by omega) a b xs ys va vb w1 ha hb (Row.own hva hw1) (Row.own hvb hw1) hA hB (by first | (simp; done) | (simp; omega) | omega) (by first | (simp; done) | (simp; omega) | omega) x hx)) ?_
              refine Lq.op (v := .int .i64 ((((rep (goB (r - 1).toNat) a xs b ys x).getD 0 : Nat) : Int))) rfl rfl rfl (OpQ.extract rfl rfl rfl) ?_
              refine Lq.op (v := .bool ((rep (goB (r - 1).toNat) a xs b ys x).isSome)) rfl rfl rfl (OpQ.extract rfl rfl rfl) ?_
              refine Lq.op (v := .int .i64 ((((rep (goB (r - 1).toNat) a xs b ys x).getD 0 : Nat) : Int))) rfl rfl rfl (OpQ.assign rfl rfl) ?_
              refine Lq.op (v := .bool ((rep (goB (r - 1).toNat) a xs b ys x).isSome)) rfl rfl rfl (OpQ.assign rfl rfl) ?_
              refine Lq.nil ?_
              refine Kt.onSub (e' := [(14, .int .i64 ((((rep (goB (r - 1).toNat) a xs b ys x).getD 0 : Nat) : Int))), (15, .bool ((rep (goB (r - 1).toNat) a xs b ys x).isSome))]) (Sub.cons rfl (Sub.cons rfl Sub.nil)) ?_
              refine Wk.ret (Kt.end2 rfl rfl rfl fun w' hw => ?_)
              -- ret 8: .int .i64 ((((rep (goB (r - 1).toNat) a xs b ys x).getD 0 : Nat) : Int)); .bool ((rep (goB (r - 1).toNat) a xs b ys x).isSome)
              have hy := srA_yes (xs := xs) (ys := ys) hg23 (show 1 ≤ r by omega) hel
              exact ⟨by rw [srO_a hsd, hy], hw.below⟩
    · skip
      replace hg27 := of_decide_eq_true hg27
      refine Lq.pass rfl rfl rfl ?_
      refine Lq.pass rfl rfl rfl ?_
      refine Lq.pass rfl rfl rfl ?_
      refine Lq.pass rfl rfl rfl ?_
      refine Lq.pass rfl rfl rfl ?_
      refine Lq.pass rfl rfl rfl ?_
      refine Lq.op (v := .bool true) rfl rfl rfl (OpQ.pickT rfl rfl rfl) ?_
      refine Lq.nil ?_
      refine Kt.onSub (e' := [(1, va), (3, vb), (4, .int .i64 r), (5, str s), (6, .int .i64 x), (7, .pointer (some ⟨p7, 0, none⟩)), (9, .pointer (some ⟨p9, 0, none⟩)), (34, .bool true)]) (Sub.cons rfl (Sub.cons rfl (Sub.cons rfl (Sub.cons rfl (Sub.cons rfl (Sub.cons rfl (Sub.cons rfl (Sub.cons rfl Sub.nil)))))))) ?_
      refine Wk.condT rfl ?_
      refine Wk.seq ?_
      refine Wk.regionQ ?_
      refine Lq.op (v := .int .i64 0) rfl rfl rfl (OpQ.assign rfl rfl) ?_
      refine Lq.op (v := .bool false) rfl rfl rfl (OpQ.assign rfl rfl) ?_
      refine Lq.nil ?_
      refine Kt.onSub (e' := [(14, .int .i64 0), (15, .bool false)]) (Sub.cons rfl (Sub.cons rfl Sub.nil)) ?_
      refine Wk.ret (Kt.end2 rfl rfl rfl fun w' hw => ?_)
      -- ret 9: .int .i64 0; .bool false
      exact ⟨by rw [srO_no (xs := xs) (ys := ys) (by first | exact .inl (.inl (.inl (by simpa using hg23))) | exact .inr (.inl ⟨hb6, hel⟩) | exact .inr (.inr ⟨hb6, hel⟩) | exact .inl (.inl (.inr (by omega))) | exact .inl (.inr ⟨by simp_all, by simp_all⟩))]; rfl, hw.below⟩
  · skip
    replace hg23 := not_true hg23
    refine Lq.pass rfl rfl rfl ?_
    refine Lq.pass rfl rfl rfl ?_
    refine Lq.op (v := .bool true) rfl rfl rfl (OpQ.pickT rfl rfl rfl) ?_
    refine Lq.op (v := .bool true) rfl rfl rfl (OpQ.move rfl rfl) ?_
    refine Lq.pass rfl rfl rfl ?_
    refine Lq.pass rfl rfl rfl ?_
    refine Lq.pass rfl rfl rfl ?_
    refine Lq.pass rfl rfl rfl ?_
    refine Lq.pass rfl rfl rfl ?_
    refine Lq.pass rfl rfl rfl ?_
    refine Lq.op (v := .bool true) rfl rfl rfl (OpQ.pickT rfl rfl rfl) ?_
    refine Lq.nil ?_
    refine Kt.onSub (e' := [(1, va), (3, vb), (4, .int .i64 r), (5, str s), (6, .int .i64 x), (7, .pointer (some ⟨p7, 0, none⟩)), (9, .pointer (some ⟨p9, 0, none⟩)), (34, .bool true)]) (Sub.cons rfl (Sub.cons rfl (Sub.cons rfl (Sub.cons rfl (Sub.cons rfl (Sub.cons rfl (Sub.cons rfl (Sub.cons rfl Sub.nil)))))))) ?_
    refine Wk.condT rfl ?_
    refine Wk.seq ?_
    refine Wk.regionQ ?_
    refine Lq.op (v := .int .i64 0) rfl rfl rfl (OpQ.assign rfl rfl) ?_
    refine Lq.op (v := .bool false) rfl rfl rfl (OpQ.assign rfl rfl) ?_
    refine Lq.nil ?_
    refine Kt.onSub (e' := [(14, .int .i64 0), (15, .bool false)]) (Sub.cons rfl (Sub.cons rfl Sub.nil)) ?_
    refine Wk.ret (Kt.end2 rfl rfl rfl fun w' hw => ?_)
    -- ret 10: .int .i64 0; .bool false
    exact ⟨by rw [srO_no (xs := xs) (ys := ys) (by first | exact .inl (.inl (.inl (by simpa using hg23))) | exact .inr (.inl ⟨hb6, hel⟩) | exact .inr (.inr ⟨hb6, hel⟩) | exact .inl (.inl (.inr (by omega))) | exact .inl (.inr ⟨by simp_all, by simp_all⟩))]; rfl, hw.below⟩

set_option maxHeartbeats 400000 in
/-- laws.FnExactFirstMove -/
theorem lawMove (a b : St) (xs ys : List Int) (va vb : Value) (w : World) (h1a : a.set.length ≤ 9223372036854775807) (h2a : a.rel.length ≤ 9223372036854775807) (h1b : b.set.length ≤ 9223372036854775807) (h2b : b.rel.length ≤ 9223372036854775807) (hva : Ints w va xs) (hvb : Ints w vb ys) (loa : -9223372036854775808 ≤ a.n) (hia : a.n ≤ 9223372036854775807) (lob : -9223372036854775808 ≤ b.n) (hib : b.n ≤ 9223372036854775807) (r : Int) :
    Calls Tryd.prog 10 [vS a, va, vS b, vb, .int .i64 r].toArray w fun en w' => en = .returned (.bool true) ∧ Below w.heap.size w w' := by
  refine fnStart (n := 89) (e := [(0, vS a), (1, va), (2, vS b), (3, vb), (4, .int .i64 r)]) Tryd.func10 rfl rfl rfl rfl Ends.both ?_
  refine Wk.seq ?_
  refine Wk.region ?_
  refine Ll.box (v := vS a) rfl rfl rfl rfl rfl fun p5 hp5 => ?_
  show Ll _ _ (Own _ _ [(p5, .cells #[.int .i64 a.n, str a.set, str a.rel] 23 (0, 0))]) _ _ ((5, .pointer (some ⟨p5, 0, none⟩)) :: _) _ _ _
  refine Ll.box (v := vS b) rfl rfl rfl rfl rfl fun p7 hp7 => ?_
  show Ll _ _ (Own _ _ [(p7, .cells #[.int .i64 b.n, str b.set, str b.rel] 23 (0, 0)), (p5, .cells #[.int .i64 a.n, str a.set, str a.rel] 23 (0, 0))]) _ _ ((7, .pointer (some ⟨p7, 0, none⟩)) :: _) _ _ _
  refine Ll.op (v := .bool false) rfl rfl rfl (OpQ.assign rfl rfl) ?_
  refine Ll.nil ?_
  refine Kt.onSub (e' := [(1, va), (3, vb), (4, .int .i64 r), (5, .pointer (some ⟨p5, 0, none⟩)), (7, .pointer (some ⟨p7, 0, none⟩))]) (Sub.cons rfl (Sub.cons rfl (Sub.cons rfl (Sub.cons rfl (Sub.cons rfl Sub.nil))))) ?_
  refine Wk.seq ?_
  refine Wk.seq ?_
  refine Wk.regionQ ?_
  refine Lq.op (v := va) rfl rfl rfl (OpQ.move rfl rfl) ?_
  refine Lq.op (v := .int .i64 ((xs.length : Int))) rfl rfl rfl (OpQ.lenRow rfl Tryd.runUnderlying31 rfl (ints_length _) (fun w1 hw1 => Row.own hva hw1)) ?_
  refine Lq.op (v := .bool (decide ((1048576 : Int) < ((xs.length : Int))))) rfl rfl rfl (OpQ.gtr rfl rfl rfl) ?_
  refine Lq.nil ?_
  refine Kt.onSub (e' := [(1, va), (3, vb), (4, .int .i64 r), (5, .pointer (some ⟨p5, 0, none⟩)), (7, .pointer (some ⟨p7, 0, none⟩)), (22, .bool (decide ((1048576 : Int) < ((xs.length : Int)))))]) (Sub.cons rfl (Sub.cons rfl (Sub.cons rfl (Sub.cons rfl (Sub.cons rfl (Sub.cons rfl Sub.nil)))))) ?_
  refine Wk.cond (b := decide ((1048576 : Int) < ((xs.length : Int)))) rfl (fun h22 => ?_) (fun h22 => ?_)
  · skip
    replace h22 := of_decide_eq_true h22
    refine Wk.seq ?_
    refine Wk.regionQ ?_
    refine Lq.op (v := .bool true) rfl rfl rfl (OpQ.assign rfl rfl) ?_
    refine Lq.nil ?_
    refine Kt.onSub (e' := [(10, .bool true)]) (Sub.cons rfl Sub.nil) ?_
    refine Wk.ret (Kt.end1 rfl rfl fun w' hw => ?_)
    -- ret 0: .bool true
    exact ⟨ret_b (by first | rfl | (simp_all; done) | (simp_all; omega)), hw.below⟩
  · skip
    replace h22 := of_decide_eq_false h22
    refine Wk.skip ?_
    refine Kt.onSub (e' := [(1, va), (3, vb), (4, .int .i64 r), (5, .pointer (some ⟨p5, 0, none⟩)), (7, .pointer (some ⟨p7, 0, none⟩))]) (Sub.cons rfl (Sub.cons rfl (Sub.cons rfl (Sub.cons rfl (Sub.cons rfl Sub.nil))))) ?_
    refine Wk.seq ?_
    refine Wk.seq ?_
    refine Wk.regionQ ?_
    refine Lq.op (v := vb) rfl rfl rfl (OpQ.move rfl rfl) ?_
    refine Lq.op (v := .int .i64 ((ys.length : Int))) rfl rfl rfl (OpQ.lenRow rfl Tryd.runUnderlying31 rfl (ints_length _) (fun w1 hw1 => Row.own hvb hw1)) ?_
    refine Lq.op (v := .bool (decide ((1048576 : Int) < ((ys.length : Int))))) rfl rfl rfl (OpQ.gtr rfl rfl rfl) ?_
    refine Lq.nil ?_
    refine Kt.onSub (e' := [(1, va), (3, vb), (4, .int .i64 r), (5, .pointer (some ⟨p5, 0, none⟩)), (7, .pointer (some ⟨p7, 0, none⟩)), (25, .bool (decide ((1048576 : Int) < ((ys.length : Int)))))]) (Sub.cons rfl (Sub.cons rfl (Sub.cons rfl (Sub.cons rfl (Sub.cons rfl (Sub.cons rfl Sub.nil)))))) ?_
    refine Wk.cond (b := decide ((1048576 : Int) < ((ys.length : Int)))) rfl (fun h25 => ?_) (fun h25 => ?_)
    · skip
      replace h25 := of_decide_eq_true h25
      refine Wk.seq ?_
      refine Wk.regionQ ?_
      refine Lq.op (v := .bool true) rfl rfl rfl (OpQ.assign rfl rfl) ?_
      refine Lq.nil ?_
      refine Kt.onSub (e' := [(10, .bool true)]) (Sub.cons rfl Sub.nil) ?_
      refine Wk.ret (Kt.end1 rfl rfl fun w' hw => ?_)
      -- ret 1: .bool true
      exact ⟨ret_b (by first | rfl | (simp_all; done) | (simp_all; omega)), hw.below⟩
    · skip
      replace h25 := of_decide_eq_false h25
      refine Wk.skip ?_
      refine Kt.onSub (e' := [(1, va), (3, vb), (4, .int .i64 r), (5, .pointer (some ⟨p5, 0, none⟩)), (7, .pointer (some ⟨p7, 0, none⟩))]) (Sub.cons rfl (Sub.cons rfl (Sub.cons rfl (Sub.cons rfl (Sub.cons rfl Sub.nil))))) ?_
      refine Wk.seq ?_
      refine Wk.regionQ ?_
      refine Lq.op (v := .int .i64 1048576) rfl rfl rfl (OpQ.assign rfl rfl) ?_
      refine Lq.nil ?_
      refine Kt.onSub (e' := [(1, va), (3, vb), (4, .int .i64 r), (5, .pointer (some ⟨p5, 0, none⟩)), (7, .pointer (some ⟨p7, 0, none⟩)), (11, .int .i64 1048576)]) (Sub.cons rfl (Sub.cons rfl (Sub.cons rfl (Sub.cons rfl (Sub.cons rfl (Sub.cons rfl Sub.nil)))))) ?_
      refine Wk.seq ?_
      refine Wk.regionQ ?_
      refine Lq.op (v := vS a) rfl rfl rfl (OpQ.loadBox (cs := #[.int .i64 a.n, str a.set, str a.rel]) 1 rfl Tryd.isAgg23 rfl rfl Tryd.sizeOf23) ?_
      refine Lq.op (v := .int .i64 1048576) rfl rfl rfl (OpQ.move rfl rfl) ?_
      refine Lq.op (v := .int .i64 (szB a 1048576)) rfl rfl rfl (OpQ.call rfl Tryd.call15 rfl Own.stable (fun w1 hw1 => sz_ok a 1048576 w1 (by omega) (by omega) h1a h2a)) ?_
      refine Lq.op (v := .int .i64 (szB a 1048576)) rfl rfl rfl (OpQ.assign rfl rfl) ?_
      refine Lq.nil ?_
      refine Kt.onSub (e' := [(1, va), (3, vb), (4, .int .i64 r), (5, .pointer (some ⟨p5, 0, none⟩)), (7, .pointer (some ⟨p7, 0, none⟩)), (11, .int .i64 (szB a 1048576))]) (Sub.cons rfl (Sub.cons rfl (Sub.cons rfl (Sub.cons rfl (Sub.cons rfl (Sub.cons rfl Sub.nil)))))) ?_
      refine Wk.seq ?_
      refine Wk.seq ?_
      refine Wk.regionQ ?_
      refine Lq.op (v := .int .i64 (szB a 1048576)) rfl rfl rfl (OpQ.move rfl rfl) ?_
      refine Lq.op (v := .bool (decide ((szB a 1048576) < (0 : Int)))) rfl rfl rfl (OpQ.lss rfl rfl rfl) ?_
      refine Lq.nil ?_
      refine Kt.onSub (e' := [(1, va), (3, vb), (4, .int .i64 r), (5, .pointer (some ⟨p5, 0, none⟩)), (7, .pointer (some ⟨p7, 0, none⟩)), (11, .int .i64 (szB a 1048576)), (30, .bool (decide ((szB a 1048576) < (0 : Int))))]) (Sub.cons rfl (Sub.cons rfl (Sub.cons rfl (Sub.cons rfl (Sub.cons rfl (Sub.cons rfl (Sub.cons rfl Sub.nil))))))) ?_
      refine Wk.cond (b := decide ((szB a 1048576) < (0 : Int))) rfl (fun h30 => ?_) (fun h30 => ?_)
      · skip
        replace h30 := of_decide_eq_true h30
        refine Wk.seq ?_
        refine Wk.regionQ ?_
        refine Lq.op (v := .bool true) rfl rfl rfl (OpQ.assign rfl rfl) ?_
        refine Lq.nil ?_
        refine Kt.onSub (e' := [(10, .bool true)]) (Sub.cons rfl Sub.nil) ?_
        refine Wk.ret (Kt.end1 rfl rfl fun w' hw => ?_)
        -- ret 2: .bool true
        exact ⟨ret_b (by first | rfl | (simp_all; done) | (simp_all; omega)), hw.below⟩
      · skip
        replace h30 := of_decide_eq_false h30
        obtain ⟨hsa, hz0a, hz1a⟩ := szB_small (by omega) h30
        refine Wk.skip ?_
        refine Kt.onSub (e' := [(1, va), (3, vb), (4, .int .i64 r), (5, .pointer (some ⟨p5, 0, none⟩)), (7, .pointer (some ⟨p7, 0, none⟩)), (11, .int .i64 (szB a 1048576))]) (Sub.cons rfl (Sub.cons rfl (Sub.cons rfl (Sub.cons rfl (Sub.cons rfl (Sub.cons rfl Sub.nil)))))) ?_
        refine Wk.seq ?_
        refine Wk.regionQ ?_
        refine Lq.op (v := vS b) rfl rfl rfl (OpQ.loadBox (cs := #[.int .i64 b.n, str b.set, str b.rel]) 0 rfl Tryd.isAgg23 rfl rfl Tryd.sizeOf23) ?_
        refine Lq.op (v := .int .i64 (szB a 1048576)) rfl rfl rfl (OpQ.move rfl rfl) ?_
        refine Lq.op (v := .int .i64 (szB b (szB a 1048576))) rfl rfl rfl (OpQ.call rfl Tryd.call15 rfl Own.stable (fun w1 hw1 => sz_ok b (szB a 1048576) w1 (by omega) (by omega) h1b h2b)) ?_
        refine Lq.op (v := .int .i64 (szB b (szB a 1048576))) rfl rfl rfl (OpQ.assign rfl rfl) ?_
        refine Lq.nil ?_
        refine Kt.onSub (e' := [(1, va), (3, vb), (4, .int .i64 r), (5, .pointer (some ⟨p5, 0, none⟩)), (7, .pointer (some ⟨p7, 0, none⟩)), (11, .int .i64 (szB b (szB a 1048576)))]) (Sub.cons rfl (Sub.cons rfl (Sub.cons rfl (Sub.cons rfl (Sub.cons rfl (Sub.cons rfl Sub.nil)))))) ?_
        refine Wk.seq ?_
        refine Wk.seq ?_
        refine Wk.regionQ ?_
        refine Lq.op (v := .int .i64 (szB b (szB a 1048576))) rfl rfl rfl (OpQ.move rfl rfl) ?_
        refine Lq.op (v := .bool (decide ((szB b (szB a 1048576)) < (0 : Int)))) rfl rfl rfl (OpQ.lss rfl rfl rfl) ?_
        refine Lq.nil ?_
        refine Kt.onSub (e' := [(1, va), (3, vb), (4, .int .i64 r), (5, .pointer (some ⟨p5, 0, none⟩)), (7, .pointer (some ⟨p7, 0, none⟩)), (35, .bool (decide ((szB b (szB a 1048576)) < (0 : Int))))]) (Sub.cons rfl (Sub.cons rfl (Sub.cons rfl (Sub.cons rfl (Sub.cons rfl (Sub.cons rfl Sub.nil)))))) ?_
        refine Wk.cond (b := decide ((szB b (szB a 1048576)) < (0 : Int))) rfl (fun h35 => ?_) (fun h35 => ?_)
        · skip
          replace h35 := of_decide_eq_true h35
          refine Wk.seq ?_
          refine Wk.regionQ ?_
          refine Lq.op (v := .bool true) rfl rfl rfl (OpQ.assign rfl rfl) ?_
          refine Lq.nil ?_
          refine Kt.onSub (e' := [(10, .bool true)]) (Sub.cons rfl Sub.nil) ?_
          refine Wk.ret (Kt.end1 rfl rfl fun w' hw => ?_)
          -- ret 3: .bool true
          exact ⟨ret_b (by first | rfl | (simp_all; done) | (simp_all; omega)), hw.below⟩
        · skip
          replace h35 := of_decide_eq_false h35
          obtain ⟨hsb, hz0b, hz1b⟩ := szB_small (by omega) h35
          refine Wk.skip ?_
          refine Kt.onSub (e' := [(1, va), (3, vb), (4, .int .i64 r), (5, .pointer (some ⟨p5, 0, none⟩)), (7, .pointer (some ⟨p7, 0, none⟩))]) (Sub.cons rfl (Sub.cons rfl (Sub.cons rfl (Sub.cons rfl (Sub.cons rfl Sub.nil))))) ?_
          refine Wk.seq ?_
          refine Wk.regionO [(0, true), (2, true), (4, true), (6, true), (8, true), (1, false), (3, false), (5, false), (7, false), (9, false), (10, true), (11, true), (12, true), (13, true), (14, true), (15, true), (16, true)] Base.mixed (fun _ h => h.drawn) (by kernel_rfl) ?_
          refine Ld.take (v := vS a) rfl rfl rfl rfl rfl (OpQ.loadBox (cs := #[.int .i64 a.n, str a.set, str a.rel]) 1 rfl Tryd.isAgg23 rfl rfl Tryd.sizeOf23) (fun _ h => h) ?_
          refine Ld.take (v := va) rfl rfl rfl rfl rfl (OpQ.move rfl rfl) (fun _ h => h) ?_
          refine Ld.take (v := vS b) rfl rfl rfl rfl rfl (OpQ.loadBox (cs := #[.int .i64 b.n, str b.set, str b.rel]) 0 rfl Tryd.isAgg23 rfl rfl Tryd.sizeOf23) (fun _ h => h) ?_
          refine Ld.take (v := vb) rfl rfl rfl rfl rfl (OpQ.move rfl rfl) (fun _ h => h) ?_
          refine Ld.take (v := .int .i64 r) rfl rfl rfl rfl rfl (OpQ.move rfl rfl) (fun _ h => h) ?_
          refine Ld.loud rfl ?_
          refine Ll.op (v := vS a) rfl rfl rfl (OpQ.call rfl Tryd.call17 rfl Own.stable (fun w1 hw1 => toSt_ok a w1 )) ?_
          refine Ll.nil (Ld.joint (fun _ h => h) ?_)
          refine Ld.loud rfl ?_
          refine Ll.callRow (xs := [.tmp 39]) (m := xs.length) (vs := ints xs) (el := 3) (size := 1) rfl rfl rfl rfl Tryd.call22 rfl (fun w1 hw1 => toInt_ok va xs w1 (Row.own hva hw1) (by omega)) fun p40 cap40 cur40 hp40 hcp40 hlp40 htp40 => ?_
          refine Ll.nil (Ld.joint (fun _ h => h.tail) ?_)
          refine Ld.loud rfl ?_
          refine Ll.op (v := vS b) rfl rfl rfl (OpQ.call rfl Tryd.call17 rfl Own.stable (fun w1 hw1 => toSt_ok b w1 )) ?_
          refine Ll.nil (Ld.joint (fun _ h => h.tail) ?_)
          refine Ld.loud rfl ?_
          refine Ll.callRow (xs := [.tmp 43]) (m := ys.length) (vs := ints ys) (el := 3) (size := 1) rfl rfl rfl rfl Tryd.call22 rfl (fun w1 hw1 => toInt_ok vb ys w1 (Row.own hvb hw1) (by omega)) fun p44 cap44 cur44 hp44 hcp44 hlp44 htp44 => ?_
          refine Ll.nil (Ld.joint (fun _ h => h.tail.tail) ?_)
          refine Ld.loud rfl ?_
          refine Ll.op (v := .tuple #[str (sideS (fmO a xs b ys r)), .int .i64 (moveI (fmO a xs b ys r)), .bool ((fmO a xs b ys r).isSome)]) rfl rfl rfl (OpQ.call rfl Tryd.call35 rfl Own.stable (fun w1 hw1 => sMove_ok a b xs ys (.slice (some ⟨p40, 0, none⟩) xs.length cap40) (.slice (some ⟨p44, 0, none⟩) ys.length cap44) w1 hsa hsb (Own.row hw1 (i := 1) rfl (by simpa using htp40) (by simp) hlp40) (Own.row hw1 (i := 0) rfl (by simpa using htp44) (by simp) hlp44) (by first | (simp; done) | (simp; omega) | omega) (by first | (simp; done) | (simp; omega) | omega) loa hia lob hib r)) ?_
          refine Ll.nil (Ld.joint (fun _ h => h.tail.tail) ?_)
          refine Ld.take (v := .tuple #[str (sideS (fmO a xs b ys r)), .int .i64 (moveI (fmO a xs b ys r)), .bool ((fmO a xs b ys r).isSome)]) rfl rfl rfl rfl rfl (OpQ.move rfl rfl) (fun _ h => h.tail.tail) ?_
          refine Ld.take (v := str (sideS (fmO a xs b ys r))) rfl rfl rfl rfl rfl (OpQ.extract rfl rfl rfl) (fun _ h => h.tail.tail) ?_
          refine Ld.take (v := .int .i64 (moveI (fmO a xs b ys r))) rfl rfl rfl rfl rfl (OpQ.extract rfl rfl rfl) (fun _ h => h.tail.tail) ?_
          refine Ld.take (v := .bool ((fmO a xs b ys r).isSome)) rfl rfl rfl rfl rfl (OpQ.extract rfl rfl rfl) (fun _ h => h.tail.tail) ?_
          refine Ld.take (v := str (sideS (fmO a xs b ys r))) rfl rfl rfl rfl rfl (OpQ.assign rfl rfl) (fun _ h => h.tail.tail) ?_
          refine Ld.take (v := .int .i64 (moveI (fmO a xs b ys r))) rfl rfl rfl rfl rfl (OpQ.assign rfl rfl) (fun _ h => h.tail.tail) ?_
          refine Ld.take (v := .bool ((fmO a xs b ys r).isSome)) rfl rfl rfl rfl rfl (OpQ.assign rfl rfl) (fun _ h => h.tail.tail) ?_
          refine Ld.nil ?_
          refine Kt.onSub (e' := [(1, va), (3, vb), (4, .int .i64 r), (5, .pointer (some ⟨p5, 0, none⟩)), (7, .pointer (some ⟨p7, 0, none⟩)), (12, str (sideS (fmO a xs b ys r))), (13, .int .i64 (moveI (fmO a xs b ys r))), (14, .bool ((fmO a xs b ys r).isSome))]) (Sub.cons rfl (Sub.cons rfl (Sub.cons rfl (Sub.cons rfl (Sub.cons rfl (Sub.cons rfl (Sub.cons rfl (Sub.cons rfl Sub.nil)))))))) ?_
          refine Wk.seq ?_
          refine Wk.region ?_
          refine Ll.op (v := va) rfl rfl rfl (OpQ.move rfl rfl) ?_
          refine Ll.callRow (xs := [.tmp 50]) (m := xs.length) (vs := ints xs) (el := 3) (size := 1) rfl rfl rfl rfl Tryd.call22 rfl (fun w1 hw1 => toInt_ok va xs w1 (Row.own hva hw1) (by omega)) fun p51 cap51 cur51 hp51 hcp51 hlp51 htp51 => ?_
          refine Ll.op (v := .slice (some ⟨p51, 0, none⟩) xs.length cap51) rfl rfl rfl (OpQ.assign rfl rfl) ?_
          refine Ll.nil ?_
          refine Kt.onSub (e' := [(1, va), (3, vb), (4, .int .i64 r), (5, .pointer (some ⟨p5, 0, none⟩)), (7, .pointer (some ⟨p7, 0, none⟩)), (12, str (sideS (fmO a xs b ys r))), (13, .int .i64 (moveI (fmO a xs b ys r))), (14, .bool ((fmO a xs b ys r).isSome)), (15, .slice (some ⟨p51, 0, none⟩) xs.length cap51)]) (Sub.cons rfl (Sub.cons rfl (Sub.cons rfl (Sub.cons rfl (Sub.cons rfl (Sub.cons rfl (Sub.cons rfl (Sub.cons rfl (Sub.cons rfl Sub.nil))))))))) ?_
          refine Wk.seq ?_
          refine Wk.region ?_
          refine Ll.op (v := vb) rfl rfl rfl (OpQ.move rfl rfl) ?_
          refine Ll.callRow (xs := [.tmp 52]) (m := ys.length) (vs := ints ys) (el := 3) (size := 1) rfl rfl rfl rfl Tryd.call22 rfl (fun w1 hw1 => toInt_ok vb ys w1 (Row.own hvb hw1) (by omega)) fun p53 cap53 cur53 hp53 hcp53 hlp53 htp53 => ?_
          refine Ll.op (v := .slice (some ⟨p53, 0, none⟩) ys.length cap53) rfl rfl rfl (OpQ.assign rfl rfl) ?_
          refine Ll.nil ?_
          refine Kt.onSub (e' := [(1, va), (3, vb), (4, .int .i64 r), (5, .pointer (some ⟨p5, 0, none⟩)), (7, .pointer (some ⟨p7, 0, none⟩)), (12, str (sideS (fmO a xs b ys r))), (13, .int .i64 (moveI (fmO a xs b ys r))), (14, .bool ((fmO a xs b ys r).isSome)), (15, .slice (some ⟨p51, 0, none⟩) xs.length cap51), (16, .slice (some ⟨p53, 0, none⟩) ys.length cap53)]) (Sub.cons rfl (Sub.cons rfl (Sub.cons rfl (Sub.cons rfl (Sub.cons rfl (Sub.cons rfl (Sub.cons rfl (Sub.cons rfl (Sub.cons rfl (Sub.cons rfl Sub.nil)))))))))) ?_
          refine Wk.seq ?_
          refine Wk.regionD Base.mixed (fun _ h => h.drawn) (by kernel_rfl) ?_
          refine Lq.op (v := vS a) rfl rfl rfl (OpQ.loadBox (cs := #[.int .i64 a.n, str a.set, str a.rel]) 5 rfl Tryd.isAgg23 rfl rfl Tryd.sizeOf23) ?_
          refine Lq.op (v := vS a) rfl rfl rfl (OpQ.call rfl Tryd.call17 rfl Own.stable (fun w1 hw1 => toSt_ok a w1 )) ?_
          refine Lq.op (v := .slice (some ⟨p51, 0, none⟩) xs.length cap51) rfl rfl rfl (OpQ.move rfl rfl) ?_
          refine Lq.op (v := vS b) rfl rfl rfl (OpQ.loadBox (cs := #[.int .i64 b.n, str b.set, str b.rel]) 4 rfl Tryd.isAgg23 rfl rfl Tryd.sizeOf23) ?_
          refine Lq.op (v := vS b) rfl rfl rfl (OpQ.call rfl Tryd.call17 rfl Own.stable (fun w1 hw1 => toSt_ok b w1 )) ?_
          refine Lq.op (v := .slice (some ⟨p53, 0, none⟩) ys.length cap53) rfl rfl rfl (OpQ.move rfl rfl) ?_
          refine Lq.op (v := .int .i64 r) rfl rfl rfl (OpQ.move rfl rfl) ?_
          refine Lq.op (v := .tuple #[str (sideS (fmO a xs b ys r)), .int .i64 (moveI (fmO a xs b ys r)), .bool ((fmO a xs b ys r).isSome)]) rfl rfl rfl (OpQ.call rfl Tryd.call36 rfl Own.stable (fun w1 hw1 => iMove_ok a b xs ys (.slice (some ⟨p51, 0, none⟩) xs.length cap51) (.slice (some ⟨p53, 0, none⟩) ys.length cap53) w1 hsa hsb (Own.row hw1 (i := 1) rfl (by simpa using htp51) (by simp) hlp51) (Own.row hw1 (i := 0) rfl (by simpa using htp53) (by simp) hlp53) (by first | (simp; done) | (simp; omega) | omega) (by first | (simp; done) | (simp; omega) | omega) r)) ?_
          refine Lq.op (v := .tuple #[str (sideS (fmO a xs b ys r)), .int .i64 (moveI (fmO a xs b ys r)), .bool ((fmO a xs b ys r).isSome)]) rfl rfl rfl (OpQ.move rfl rfl) ?_
          refine Lq.op (v := str (sideS (fmO a xs b ys r))) rfl rfl rfl (OpQ.extract rfl rfl rfl) ?_
          refine Lq.op (v := .int .i64 (moveI (fmO a xs b ys r))) rfl rfl rfl (OpQ.extract rfl rfl rfl) ?_
          refine Lq.op (v := .bool ((fmO a xs b ys r).isSome)) rfl rfl rfl (OpQ.extract rfl rfl rfl) ?_
          refine Lq.op (v := str (sideS (fmO a xs b ys r))) rfl rfl rfl (OpQ.assign rfl rfl) ?_
          refine Lq.op (v := .int .i64 (moveI (fmO a xs b ys r))) rfl rfl rfl (OpQ.assign rfl rfl) ?_
          refine Lq.op (v := .bool ((fmO a xs b ys r).isSome)) rfl rfl rfl (OpQ.assign rfl rfl) ?_
          refine Lq.nil ?_
          refine Kt.onSub (e' := [(1, va), (3, vb), (12, str (sideS (fmO a xs b ys r))), (13, .int .i64 (moveI (fmO a xs b ys r))), (14, .bool ((fmO a xs b ys r).isSome)), (15, .slice (some ⟨p51, 0, none⟩) xs.length cap51), (16, .slice (some ⟨p53, 0, none⟩) ys.length cap53), (17, str (sideS (fmO a xs b ys r))), (18, .int .i64 (moveI (fmO a xs b ys r))), (19, .bool ((fmO a xs b ys r).isSome))]) (Sub.cons rfl (Sub.cons rfl (Sub.cons rfl (Sub.cons rfl (Sub.cons rfl (Sub.cons rfl (Sub.cons rfl (Sub.cons rfl (Sub.cons rfl (Sub.cons rfl Sub.nil)))))))))) ?_
          refine Wk.seq ?_
          refine Wk.seq ?_
          refine Wk.regionQ ?_
          refine Lq.op (v := str (sideS (fmO a xs b ys r))) rfl rfl rfl (OpQ.move rfl rfl) ?_
          refine Lq.op (v := str (sideS (fmO a xs b ys r))) rfl rfl rfl (OpQ.move rfl rfl) ?_
          refine Lq.op (v := .bool (!((sideS (fmO a xs b ys r)) == (sideS (fmO a xs b ys r))))) rfl rfl rfl (OpQ.sneq rfl rfl rfl) ?_
          refine Lq.op (v := .bool (!((sideS (fmO a xs b ys r)) == (sideS (fmO a xs b ys r))))) rfl rfl rfl (OpQ.move rfl rfl) ?_
          refine Lq.bool fun b69 hg69 => ?_
          cases b69
          · skip
            replace hg69 := not_false hg69
            refine Lq.op (v := .int .i64 (moveI (fmO a xs b ys r))) rfl rfl rfl (OpQ.move rfl rfl) ?_
            refine Lq.op (v := .int .i64 (moveI (fmO a xs b ys r))) rfl rfl rfl (OpQ.move rfl rfl) ?_
            refine Lq.op (v := .bool (!(decide ((moveI (fmO a xs b ys r)) = (moveI (fmO a xs b ys r)))))) rfl rfl rfl (OpQ.neq rfl rfl rfl) ?_
            refine Lq.op (v := .bool (!(decide ((moveI (fmO a xs b ys r)) = (moveI (fmO a xs b ys r)))))) rfl rfl rfl (OpQ.pickF rfl rfl rfl) ?_
            refine Lq.op (v := .bool (!(decide ((moveI (fmO a xs b ys r)) = (moveI (fmO a xs b ys r)))))) rfl rfl rfl (OpQ.move rfl rfl) ?_
            refine Lq.bool fun b74 hg74 => ?_
            cases b74
            · skip
              replace hg74 := not_false hg74
              replace hg74 := of_decide_eq_true hg74
              refine Lq.op (v := .bool ((fmO a xs b ys r).isSome)) rfl rfl rfl (OpQ.move rfl rfl) ?_
              refine Lq.op (v := .bool ((fmO a xs b ys r).isSome)) rfl rfl rfl (OpQ.move rfl rfl) ?_
              refine Lq.op (v := .bool (((fmO a xs b ys r).isSome) != ((fmO a xs b ys r).isSome))) rfl rfl rfl (OpQ.bne rfl Tryd.runUnderlying4 rfl rfl) ?_
              refine Lq.op (v := .bool (((fmO a xs b ys r).isSome) != ((fmO a xs b ys r).isSome))) rfl rfl rfl (OpQ.pickF rfl rfl rfl) ?_
              refine Lq.nil ?_
              refine Kt.onSub (e' := [(1, va), (3, vb), (15, .slice (some ⟨p51, 0, none⟩) xs.length cap51), (16, .slice (some ⟨p53, 0, none⟩) ys.length cap53), (78, .bool (((fmO a xs b ys r).isSome) != ((fmO a xs b ys r).isSome)))]) (Sub.cons rfl (Sub.cons rfl (Sub.cons rfl (Sub.cons rfl (Sub.cons rfl Sub.nil))))) ?_
              refine Wk.cond (b := ((fmO a xs b ys r).isSome) != ((fmO a xs b ys r).isSome)) rfl (fun h78 => ?_) (fun h78 => ?_)
              · skip
                exact absurd h78 (by simp)
              · skip
                refine Wk.skip ?_
                refine Kt.onSub (e' := [(1, va), (3, vb), (15, .slice (some ⟨p51, 0, none⟩) xs.length cap51), (16, .slice (some ⟨p53, 0, none⟩) ys.length cap53)]) (Sub.cons rfl (Sub.cons rfl (Sub.cons rfl (Sub.cons rfl Sub.nil)))) ?_
                refine Wk.seq ?_
                refine Wk.seq ?_
                refine Wk.region ?_
                refine Ll.op (v := .slice (some ⟨p51, 0, none⟩) xs.length cap51) rfl rfl rfl (OpQ.move rfl rfl) ?_
                refine Ll.op (v := va) rfl rfl rfl (OpQ.move rfl rfl) ?_
                refine Ll.callRow (xs := [.tmp 80]) (m := xs.length) (vs := ints xs) (el := 3) (size := 1) rfl rfl rfl rfl Tryd.call22 rfl (fun w1 hw1 => toInt_ok va xs w1 (Row.own hva hw1) (by omega)) fun p81 cap81 cur81 hp81 hcp81 hlp81 htp81 => ?_
                refine Ll.op (v := .bool true) rfl rfl rfl (OpQ.call rfl Tryd.call24 rfl Own.stable (fun w1 hw1 => known_b (beq_self_eq_true _) (eqInt_ok (.slice (some ⟨p51, 0, none⟩) xs.length cap51) (.slice (some ⟨p81, 0, none⟩) xs.length cap81) xs xs w1 (Own.row hw1 (i := 2) rfl (by simpa using htp51) (by simp) hlp51) (Own.row hw1 (i := 0) rfl (by simpa using htp81) (by simp) hlp81) (by first | (simp; done) | (simp; omega) | omega)))) ?_
                refine Ll.op (v := .bool false) rfl rfl rfl (OpQ.notT rfl rfl) ?_
                refine Ll.nil ?_
                refine Kt.onSub (e' := [(3, vb), (16, .slice (some ⟨p53, 0, none⟩) ys.length cap53), (83, .bool false)]) (Sub.cons rfl (Sub.cons rfl (Sub.cons rfl Sub.nil))) ?_
                refine Wk.condF rfl ?_
                refine Wk.skip ?_
                refine Kt.onSub (e' := [(3, vb), (16, .slice (some ⟨p53, 0, none⟩) ys.length cap53)]) (Sub.cons rfl (Sub.cons rfl Sub.nil)) ?_
                refine Wk.seq ?_
                refine Wk.seq ?_
                refine Wk.region ?_
                refine Ll.op (v := .slice (some ⟨p53, 0, none⟩) ys.length cap53) rfl rfl rfl (OpQ.move rfl rfl) ?_
                refine Ll.op (v := vb) rfl rfl rfl (OpQ.move rfl rfl) ?_
                refine Ll.callRow (xs := [.tmp 85]) (m := ys.length) (vs := ints ys) (el := 3) (size := 1) rfl rfl rfl rfl Tryd.call22 rfl (fun w1 hw1 => toInt_ok vb ys w1 (Row.own hvb hw1) (by omega)) fun p86 cap86 cur86 hp86 hcp86 hlp86 htp86 => ?_
                refine Ll.op (v := .bool true) rfl rfl rfl (OpQ.call rfl Tryd.call24 rfl Own.stable (fun w1 hw1 => known_b (beq_self_eq_true _) (eqInt_ok (.slice (some ⟨p53, 0, none⟩) ys.length cap53) (.slice (some ⟨p86, 0, none⟩) ys.length cap86) ys ys w1 (Own.row hw1 (i := 2) rfl (by simpa using htp53) (by simp) hlp53) (Own.row hw1 (i := 0) rfl (by simpa using htp86) (by simp) hlp86) (by first | (simp; done) | (simp; omega) | omega)))) ?_
                refine Ll.op (v := .bool false) rfl rfl rfl (OpQ.notT rfl rfl) ?_
                refine Ll.nil ?_
                refine Kt.onSub (e' := [(88, .bool false)]) (Sub.cons rfl Sub.nil) ?_
                refine Wk.condF rfl ?_
                refine Wk.skip ?_
                refine Kt.onSub (e' := []) Sub.nil ?_
                refine Wk.seq ?_
                refine Wk.regionQ ?_
                refine Lq.op (v := .bool true) rfl rfl rfl (OpQ.assign rfl rfl) ?_
                refine Lq.nil ?_
                refine Kt.onSub (e' := [(10, .bool true)]) (Sub.cons rfl Sub.nil) ?_
                refine Wk.ret (Kt.end1 rfl rfl fun w' hw => ?_)
                -- ret 4: .bool true
                exact ⟨ret_b (by first | rfl | (simp_all; done) | (simp_all; omega)), hw.below⟩
            · skip
              replace hg74 := not_true hg74
              replace hg74 := of_decide_eq_false hg74
              exact absurd rfl hg74
          · skip
            replace hg69 := not_true hg69
            exact absurd hg69 (by simp)

set_option maxHeartbeats 400000 in
/-- laws.FnExactSecondReply -/
theorem lawReply (a b : St) (xs ys : List Int) (va vb : Value) (w : World) (h1a : a.set.length ≤ 9223372036854775807) (h2a : a.rel.length ≤ 9223372036854775807) (h1b : b.set.length ≤ 9223372036854775807) (h2b : b.rel.length ≤ 9223372036854775807) (hva : Ints w va xs) (hvb : Ints w vb ys) (loa : -9223372036854775808 ≤ a.n) (hia : a.n ≤ 9223372036854775807) (lob : -9223372036854775808 ≤ b.n) (hib : b.n ≤ 9223372036854775807) (r : Int) (s : List UInt8) (x : Int) :
    Calls Tryd.prog 9 [vS a, va, vS b, vb, .int .i64 r, str s, .int .i64 x].toArray w fun en w' => en = .returned (.bool true) ∧ Below w.heap.size w w' := by
  refine fnStart (n := 91) (e := [(0, vS a), (1, va), (2, vS b), (3, vb), (4, .int .i64 r), (5, str s), (6, .int .i64 x)]) Tryd.func9 rfl rfl rfl rfl Ends.both ?_
  refine Wk.seq ?_
  refine Wk.region ?_
  refine Ll.box (v := vS a) rfl rfl rfl rfl rfl fun p7 hp7 => ?_
  show Ll _ _ (Own _ _ [(p7, .cells #[.int .i64 a.n, str a.set, str a.rel] 23 (0, 0))]) _ _ ((7, .pointer (some ⟨p7, 0, none⟩)) :: _) _ _ _
  refine Ll.box (v := vS b) rfl rfl rfl rfl rfl fun p9 hp9 => ?_
  show Ll _ _ (Own _ _ [(p9, .cells #[.int .i64 b.n, str b.set, str b.rel] 23 (0, 0)), (p7, .cells #[.int .i64 a.n, str a.set, str a.rel] 23 (0, 0))]) _ _ ((9, .pointer (some ⟨p9, 0, none⟩)) :: _) _ _ _
  refine Ll.op (v := .bool false) rfl rfl rfl (OpQ.assign rfl rfl) ?_
  refine Ll.nil ?_
  refine Kt.onSub (e' := [(1, va), (3, vb), (4, .int .i64 r), (5, str s), (6, .int .i64 x), (7, .pointer (some ⟨p7, 0, none⟩)), (9, .pointer (some ⟨p9, 0, none⟩))]) (Sub.cons rfl (Sub.cons rfl (Sub.cons rfl (Sub.cons rfl (Sub.cons rfl (Sub.cons rfl (Sub.cons rfl Sub.nil))))))) ?_
  refine Wk.seq ?_
  refine Wk.seq ?_
  refine Wk.regionQ ?_
  refine Lq.op (v := va) rfl rfl rfl (OpQ.move rfl rfl) ?_
  refine Lq.op (v := .int .i64 ((xs.length : Int))) rfl rfl rfl (OpQ.lenRow rfl Tryd.runUnderlying31 rfl (ints_length _) (fun w1 hw1 => Row.own hva hw1)) ?_
  refine Lq.op (v := .bool (decide ((1048576 : Int) < ((xs.length : Int))))) rfl rfl rfl (OpQ.gtr rfl rfl rfl) ?_
  refine Lq.nil ?_
  refine Kt.onSub (e' := [(1, va), (3, vb), (4, .int .i64 r), (5, str s), (6, .int .i64 x), (7, .pointer (some ⟨p7, 0, none⟩)), (9, .pointer (some ⟨p9, 0, none⟩)), (24, .bool (decide ((1048576 : Int) < ((xs.length : Int)))))]) (Sub.cons rfl (Sub.cons rfl (Sub.cons rfl (Sub.cons rfl (Sub.cons rfl (Sub.cons rfl (Sub.cons rfl (Sub.cons rfl Sub.nil)))))))) ?_
  refine Wk.cond (b := decide ((1048576 : Int) < ((xs.length : Int)))) rfl (fun h24 => ?_) (fun h24 => ?_)
  · skip
    replace h24 := of_decide_eq_true h24
    refine Wk.seq ?_
    refine Wk.regionQ ?_
    refine Lq.op (v := .bool true) rfl rfl rfl (OpQ.assign rfl rfl) ?_
    refine Lq.nil ?_
    refine Kt.onSub (e' := [(14, .bool true)]) (Sub.cons rfl Sub.nil) ?_
    refine Wk.ret (Kt.end1 rfl rfl fun w' hw => ?_)
    -- ret 0: .bool true
    exact ⟨ret_b (by first | rfl | (simp_all; done) | (simp_all; omega)), hw.below⟩
  · skip
    replace h24 := of_decide_eq_false h24
    refine Wk.skip ?_
    refine Kt.onSub (e' := [(1, va), (3, vb), (4, .int .i64 r), (5, str s), (6, .int .i64 x), (7, .pointer (some ⟨p7, 0, none⟩)), (9, .pointer (some ⟨p9, 0, none⟩))]) (Sub.cons rfl (Sub.cons rfl (Sub.cons rfl (Sub.cons rfl (Sub.cons rfl (Sub.cons rfl (Sub.cons rfl Sub.nil))))))) ?_
    refine Wk.seq ?_
    refine Wk.seq ?_
    refine Wk.regionQ ?_
    refine Lq.op (v := vb) rfl rfl rfl (OpQ.move rfl rfl) ?_
    refine Lq.op (v := .int .i64 ((ys.length : Int))) rfl rfl rfl (OpQ.lenRow rfl Tryd.runUnderlying31 rfl (ints_length _) (fun w1 hw1 => Row.own hvb hw1)) ?_
    refine Lq.op (v := .bool (decide ((1048576 : Int) < ((ys.length : Int))))) rfl rfl rfl (OpQ.gtr rfl rfl rfl) ?_
    refine Lq.nil ?_
    refine Kt.onSub (e' := [(1, va), (3, vb), (4, .int .i64 r), (5, str s), (6, .int .i64 x), (7, .pointer (some ⟨p7, 0, none⟩)), (9, .pointer (some ⟨p9, 0, none⟩)), (27, .bool (decide ((1048576 : Int) < ((ys.length : Int)))))]) (Sub.cons rfl (Sub.cons rfl (Sub.cons rfl (Sub.cons rfl (Sub.cons rfl (Sub.cons rfl (Sub.cons rfl (Sub.cons rfl Sub.nil)))))))) ?_
    refine Wk.cond (b := decide ((1048576 : Int) < ((ys.length : Int)))) rfl (fun h27 => ?_) (fun h27 => ?_)
    · skip
      replace h27 := of_decide_eq_true h27
      refine Wk.seq ?_
      refine Wk.regionQ ?_
      refine Lq.op (v := .bool true) rfl rfl rfl (OpQ.assign rfl rfl) ?_
      refine Lq.nil ?_
      refine Kt.onSub (e' := [(14, .bool true)]) (Sub.cons rfl Sub.nil) ?_
      refine Wk.ret (Kt.end1 rfl rfl fun w' hw => ?_)
      -- ret 1: .bool true
      exact ⟨ret_b (by first | rfl | (simp_all; done) | (simp_all; omega)), hw.below⟩
    · skip
      replace h27 := of_decide_eq_false h27
      refine Wk.skip ?_
      refine Kt.onSub (e' := [(1, va), (3, vb), (4, .int .i64 r), (5, str s), (6, .int .i64 x), (7, .pointer (some ⟨p7, 0, none⟩)), (9, .pointer (some ⟨p9, 0, none⟩))]) (Sub.cons rfl (Sub.cons rfl (Sub.cons rfl (Sub.cons rfl (Sub.cons rfl (Sub.cons rfl (Sub.cons rfl Sub.nil))))))) ?_
      refine Wk.seq ?_
      refine Wk.seq ?_
      refine Wk.regionQ ?_
      refine Lq.op (v := str s) rfl rfl rfl (OpQ.move rfl rfl) ?_
      refine Lq.op (v := .int .i64 ((s.length : Int))) rfl rfl rfl (OpQ.lenStr rfl Tryd.runUnderlying9 rfl) ?_
      refine Lq.op (v := .bool (decide ((1048576 : Int) < ((s.length : Int))))) rfl rfl rfl (OpQ.gtr rfl rfl rfl) ?_
      refine Lq.nil ?_
      refine Kt.onSub (e' := [(1, va), (3, vb), (4, .int .i64 r), (5, str s), (6, .int .i64 x), (7, .pointer (some ⟨p7, 0, none⟩)), (9, .pointer (some ⟨p9, 0, none⟩)), (30, .bool (decide ((1048576 : Int) < ((s.length : Int)))))]) (Sub.cons rfl (Sub.cons rfl (Sub.cons rfl (Sub.cons rfl (Sub.cons rfl (Sub.cons rfl (Sub.cons rfl (Sub.cons rfl Sub.nil)))))))) ?_
      refine Wk.cond (b := decide ((1048576 : Int) < ((s.length : Int)))) rfl (fun h30 => ?_) (fun h30 => ?_)
      · skip
        replace h30 := of_decide_eq_true h30
        refine Wk.seq ?_
        refine Wk.regionQ ?_
        refine Lq.op (v := .bool true) rfl rfl rfl (OpQ.assign rfl rfl) ?_
        refine Lq.nil ?_
        refine Kt.onSub (e' := [(14, .bool true)]) (Sub.cons rfl Sub.nil) ?_
        refine Wk.ret (Kt.end1 rfl rfl fun w' hw => ?_)
        -- ret 2: .bool true
        exact ⟨ret_b (by first | rfl | (simp_all; done) | (simp_all; omega)), hw.below⟩
      · skip
        replace h30 := of_decide_eq_false h30
        refine Wk.skip ?_
        refine Kt.onSub (e' := [(1, va), (3, vb), (4, .int .i64 r), (5, str s), (6, .int .i64 x), (7, .pointer (some ⟨p7, 0, none⟩)), (9, .pointer (some ⟨p9, 0, none⟩))]) (Sub.cons rfl (Sub.cons rfl (Sub.cons rfl (Sub.cons rfl (Sub.cons rfl (Sub.cons rfl (Sub.cons rfl Sub.nil))))))) ?_
        refine Wk.seq ?_
        refine Wk.regionQ ?_
        refine Lq.op (v := .int .i64 1048576) rfl rfl rfl (OpQ.assign rfl rfl) ?_
        refine Lq.nil ?_
        refine Kt.onSub (e' := [(1, va), (3, vb), (4, .int .i64 r), (5, str s), (6, .int .i64 x), (7, .pointer (some ⟨p7, 0, none⟩)), (9, .pointer (some ⟨p9, 0, none⟩)), (15, .int .i64 1048576)]) (Sub.cons rfl (Sub.cons rfl (Sub.cons rfl (Sub.cons rfl (Sub.cons rfl (Sub.cons rfl (Sub.cons rfl (Sub.cons rfl Sub.nil)))))))) ?_
        refine Wk.seq ?_
        refine Wk.regionQ ?_
        refine Lq.op (v := vS a) rfl rfl rfl (OpQ.loadBox (cs := #[.int .i64 a.n, str a.set, str a.rel]) 1 rfl Tryd.isAgg23 rfl rfl Tryd.sizeOf23) ?_
        refine Lq.op (v := .int .i64 1048576) rfl rfl rfl (OpQ.move rfl rfl) ?_
        refine Lq.op (v := .int .i64 (szB a 1048576)) rfl rfl rfl (OpQ.call rfl Tryd.call15 rfl Own.stable (fun w1 hw1 => sz_ok a 1048576 w1 (by omega) (by omega) h1a h2a)) ?_
        refine Lq.op (v := .int .i64 (szB a 1048576)) rfl rfl rfl (OpQ.assign rfl rfl) ?_
        refine Lq.nil ?_
        refine Kt.onSub (e' := [(1, va), (3, vb), (4, .int .i64 r), (5, str s), (6, .int .i64 x), (7, .pointer (some ⟨p7, 0, none⟩)), (9, .pointer (some ⟨p9, 0, none⟩)), (15, .int .i64 (szB a 1048576))]) (Sub.cons rfl (Sub.cons rfl (Sub.cons rfl (Sub.cons rfl (Sub.cons rfl (Sub.cons rfl (Sub.cons rfl (Sub.cons rfl Sub.nil)))))))) ?_
        refine Wk.seq ?_
        refine Wk.seq ?_
        refine Wk.regionQ ?_
        refine Lq.op (v := .int .i64 (szB a 1048576)) rfl rfl rfl (OpQ.move rfl rfl) ?_
        refine Lq.op (v := .bool (decide ((szB a 1048576) < (0 : Int)))) rfl rfl rfl (OpQ.lss rfl rfl rfl) ?_
        refine Lq.nil ?_
        refine Kt.onSub (e' := [(1, va), (3, vb), (4, .int .i64 r), (5, str s), (6, .int .i64 x), (7, .pointer (some ⟨p7, 0, none⟩)), (9, .pointer (some ⟨p9, 0, none⟩)), (15, .int .i64 (szB a 1048576)), (35, .bool (decide ((szB a 1048576) < (0 : Int))))]) (Sub.cons rfl (Sub.cons rfl (Sub.cons rfl (Sub.cons rfl (Sub.cons rfl (Sub.cons rfl (Sub.cons rfl (Sub.cons rfl (Sub.cons rfl Sub.nil))))))))) ?_
        refine Wk.cond (b := decide ((szB a 1048576) < (0 : Int))) rfl (fun h35 => ?_) (fun h35 => ?_)
        · skip
          replace h35 := of_decide_eq_true h35
          refine Wk.seq ?_
          refine Wk.regionQ ?_
          refine Lq.op (v := .bool true) rfl rfl rfl (OpQ.assign rfl rfl) ?_
          refine Lq.nil ?_
          refine Kt.onSub (e' := [(14, .bool true)]) (Sub.cons rfl Sub.nil) ?_
          refine Wk.ret (Kt.end1 rfl rfl fun w' hw => ?_)
          -- ret 3: .bool true
          exact ⟨ret_b (by first | rfl | (simp_all; done) | (simp_all; omega)), hw.below⟩
        · skip
          replace h35 := of_decide_eq_false h35
          obtain ⟨hsa, hz0a, hz1a⟩ := szB_small (by omega) h35
          refine Wk.skip ?_
          refine Kt.onSub (e' := [(1, va), (3, vb), (4, .int .i64 r), (5, str s), (6, .int .i64 x), (7, .pointer (some ⟨p7, 0, none⟩)), (9, .pointer (some ⟨p9, 0, none⟩)), (15, .int .i64 (szB a 1048576))]) (Sub.cons rfl (Sub.cons rfl (Sub.cons rfl (Sub.cons rfl (Sub.cons rfl (Sub.cons rfl (Sub.cons rfl (Sub.cons rfl Sub.nil)))))))) ?_
          refine Wk.seq ?_
          refine Wk.regionQ ?_
          refine Lq.op (v := vS b) rfl rfl rfl (OpQ.loadBox (cs := #[.int .i64 b.n, str b.set, str b.rel]) 0 rfl Tryd.isAgg23 rfl rfl Tryd.sizeOf23) ?_
          refine Lq.op (v := .int .i64 (szB a 1048576)) rfl rfl rfl (OpQ.move rfl rfl) ?_
          refine Lq.op (v := .int .i64 (szB b (szB a 1048576))) rfl rfl rfl (OpQ.call rfl Tryd.call15 rfl Own.stable (fun w1 hw1 => sz_ok b (szB a 1048576) w1 (by omega) (by omega) h1b h2b)) ?_
          refine Lq.op (v := .int .i64 (szB b (szB a 1048576))) rfl rfl rfl (OpQ.assign rfl rfl) ?_
          refine Lq.nil ?_
          refine Kt.onSub (e' := [(1, va), (3, vb), (4, .int .i64 r), (5, str s), (6, .int .i64 x), (7, .pointer (some ⟨p7, 0, none⟩)), (9, .pointer (some ⟨p9, 0, none⟩)), (15, .int .i64 (szB b (szB a 1048576)))]) (Sub.cons rfl (Sub.cons rfl (Sub.cons rfl (Sub.cons rfl (Sub.cons rfl (Sub.cons rfl (Sub.cons rfl (Sub.cons rfl Sub.nil)))))))) ?_
          refine Wk.seq ?_
          refine Wk.seq ?_
          refine Wk.regionQ ?_
          refine Lq.op (v := .int .i64 (szB b (szB a 1048576))) rfl rfl rfl (OpQ.move rfl rfl) ?_
          refine Lq.op (v := .bool (decide ((szB b (szB a 1048576)) < (0 : Int)))) rfl rfl rfl (OpQ.lss rfl rfl rfl) ?_
          refine Lq.nil ?_
          refine Kt.onSub (e' := [(1, va), (3, vb), (4, .int .i64 r), (5, str s), (6, .int .i64 x), (7, .pointer (some ⟨p7, 0, none⟩)), (9, .pointer (some ⟨p9, 0, none⟩)), (40, .bool (decide ((szB b (szB a 1048576)) < (0 : Int))))]) (Sub.cons rfl (Sub.cons rfl (Sub.cons rfl (Sub.cons rfl (Sub.cons rfl (Sub.cons rfl (Sub.cons rfl (Sub.cons rfl Sub.nil)))))))) ?_
          refine Wk.cond (b := decide ((szB b (szB a 1048576)) < (0 : Int))) rfl (fun h40 => ?_) (fun h40 => ?_)
          · skip
            replace h40 := of_decide_eq_true h40
            refine Wk.seq ?_
            refine Wk.regionQ ?_
            refine Lq.op (v := .bool true) rfl rfl rfl (OpQ.assign rfl rfl) ?_
            refine Lq.nil ?_
            refine Kt.onSub (e' := [(14, .bool true)]) (Sub.cons rfl Sub.nil) ?_
            refine Wk.ret (Kt.end1 rfl rfl fun w' hw => ?_)
            -- ret 4: .bool true
            exact ⟨ret_b (by first | rfl | (simp_all; done) | (simp_all; omega)), hw.below⟩
          · skip
            replace h40 := of_decide_eq_false h40
            obtain ⟨hsb, hz0b, hz1b⟩ := szB_small (by omega) h40
            refine Wk.skip ?_
            refine Kt.onSub (e' := [(1, va), (3, vb), (4, .int .i64 r), (5, str s), (6, .int .i64 x), (7, .pointer (some ⟨p7, 0, none⟩)), (9, .pointer (some ⟨p9, 0, none⟩))]) (Sub.cons rfl (Sub.cons rfl (Sub.cons rfl (Sub.cons rfl (Sub.cons rfl (Sub.cons rfl (Sub.cons rfl Sub.nil))))))) ?_
            refine Wk.seq ?_
            refine Wk.regionO [(0, true), (2, true), (4, true), (6, true), (8, true), (9, true), (10, true), (1, false), (3, false), (5, false), (7, false), (11, false), (12, true), (13, true), (14, true), (15, true), (16, true)] Base.mixed (fun _ h => h.drawn) (by kernel_rfl) ?_
            refine Ld.take (v := vS a) rfl rfl rfl rfl rfl (OpQ.loadBox (cs := #[.int .i64 a.n, str a.set, str a.rel]) 1 rfl Tryd.isAgg23 rfl rfl Tryd.sizeOf23) (fun _ h => h) ?_
            refine Ld.take (v := va) rfl rfl rfl rfl rfl (OpQ.move rfl rfl) (fun _ h => h) ?_
            refine Ld.take (v := vS b) rfl rfl rfl rfl rfl (OpQ.loadBox (cs := #[.int .i64 b.n, str b.set, str b.rel]) 0 rfl Tryd.isAgg23 rfl rfl Tryd.sizeOf23) (fun _ h => h) ?_
            refine Ld.take (v := vb) rfl rfl rfl rfl rfl (OpQ.move rfl rfl) (fun _ h => h) ?_
            refine Ld.take (v := .int .i64 r) rfl rfl rfl rfl rfl (OpQ.move rfl rfl) (fun _ h => h) ?_
            refine Ld.take (v := str s) rfl rfl rfl rfl rfl (OpQ.move rfl rfl) (fun _ h => h) ?_
            refine Ld.take (v := .int .i64 x) rfl rfl rfl rfl rfl (OpQ.move rfl rfl) (fun _ h => h) ?_
            refine Ld.loud rfl ?_
            refine Ll.op (v := vS a) rfl rfl rfl (OpQ.call rfl Tryd.call17 rfl Own.stable (fun w1 hw1 => toSt_ok a w1 )) ?_
            refine Ll.nil (Ld.joint (fun _ h => h) ?_)
            refine Ld.loud rfl ?_
            refine Ll.callRow (xs := [.tmp 44]) (m := xs.length) (vs := ints xs) (el := 3) (size := 1) rfl rfl rfl rfl Tryd.call22 rfl (fun w1 hw1 => toInt_ok va xs w1 (Row.own hva hw1) (by omega)) fun p45 cap45 cur45 hp45 hcp45 hlp45 htp45 => ?_
            refine Ll.nil (Ld.joint (fun _ h => h.tail) ?_)
            refine Ld.loud rfl ?_
            refine Ll.op (v := vS b) rfl rfl rfl (OpQ.call rfl Tryd.call17 rfl Own.stable (fun w1 hw1 => toSt_ok b w1 )) ?_
            refine Ll.nil (Ld.joint (fun _ h => h.tail) ?_)
            refine Ld.loud rfl ?_
            refine Ll.callRow (xs := [.tmp 48]) (m := ys.length) (vs := ints ys) (el := 3) (size := 1) rfl rfl rfl rfl Tryd.call22 rfl (fun w1 hw1 => toInt_ok vb ys w1 (Row.own hvb hw1) (by omega)) fun p49 cap49 cur49 hp49 hcp49 hlp49 htp49 => ?_
            refine Ll.nil (Ld.joint (fun _ h => h.tail.tail) ?_)
            refine Ld.loud rfl ?_
            refine Ll.op (v := .tuple #[.int .i64 ((((srO a xs b ys r s x).getD 0 : Nat) : Int)), .bool ((srO a xs b ys r s x).isSome)]) rfl rfl rfl (OpQ.call rfl Tryd.call33 rfl Own.stable (fun w1 hw1 => sRep_ok a b xs ys (.slice (some ⟨p45, 0, none⟩) xs.length cap45) (.slice (some ⟨p49, 0, none⟩) ys.length cap49) w1 hsa hsb (Own.row hw1 (i := 1) rfl (by simpa using htp45) (by simp) hlp45) (Own.row hw1 (i := 0) rfl (by simpa using htp49) (by simp) hlp49) (by first | (simp; done) | (simp; omega) | omega) (by first | (simp; done) | (simp; omega) | omega) loa hia lob hib r s x)) ?_
            refine Ll.nil (Ld.joint (fun _ h => h.tail.tail) ?_)
            refine Ld.take (v := .tuple #[.int .i64 ((((srO a xs b ys r s x).getD 0 : Nat) : Int)), .bool ((srO a xs b ys r s x).isSome)]) rfl rfl rfl rfl rfl (OpQ.move rfl rfl) (fun _ h => h.tail.tail) ?_
            refine Ld.take (v := .int .i64 ((((srO a xs b ys r s x).getD 0 : Nat) : Int))) rfl rfl rfl rfl rfl (OpQ.extract rfl rfl rfl) (fun _ h => h.tail.tail) ?_
            refine Ld.take (v := .bool ((srO a xs b ys r s x).isSome)) rfl rfl rfl rfl rfl (OpQ.extract rfl rfl rfl) (fun _ h => h.tail.tail) ?_
            refine Ld.take (v := .int .i64 ((((srO a xs b ys r s x).getD 0 : Nat) : Int))) rfl rfl rfl rfl rfl (OpQ.assign rfl rfl) (fun _ h => h.tail.tail) ?_
            refine Ld.take (v := .bool ((srO a xs b ys r s x).isSome)) rfl rfl rfl rfl rfl (OpQ.assign rfl rfl) (fun _ h => h.tail.tail) ?_
            refine Ld.nil ?_
            refine Kt.onSub (e' := [(1, va), (3, vb), (4, .int .i64 r), (5, str s), (6, .int .i64 x), (7, .pointer (some ⟨p7, 0, none⟩)), (9, .pointer (some ⟨p9, 0, none⟩)), (16, .int .i64 ((((srO a xs b ys r s x).getD 0 : Nat) : Int))), (17, .bool ((srO a xs b ys r s x).isSome))]) (Sub.cons rfl (Sub.cons rfl (Sub.cons rfl (Sub.cons rfl (Sub.cons rfl (Sub.cons rfl (Sub.cons rfl (Sub.cons rfl (Sub.cons rfl Sub.nil))))))))) ?_
            refine Wk.seq ?_
            refine Wk.region ?_
            refine Ll.op (v := va) rfl rfl rfl (OpQ.move rfl rfl) ?_
            refine Ll.callRow (xs := [.tmp 56]) (m := xs.length) (vs := ints xs) (el := 3) (size := 1) rfl rfl rfl rfl Tryd.call22 rfl (fun w1 hw1 => toInt_ok va xs w1 (Row.own hva hw1) (by omega)) fun p57 cap57 cur57 hp57 hcp57 hlp57 htp57 => ?_
            refine Ll.op (v := .slice (some ⟨p57, 0, none⟩) xs.length cap57) rfl rfl rfl (OpQ.assign rfl rfl) ?_
            refine Ll.nil ?_
            refine Kt.onSub (e' := [(1, va), (3, vb), (4, .int .i64 r), (5, str s), (6, .int .i64 x), (7, .pointer (some ⟨p7, 0, none⟩)), (9, .pointer (some ⟨p9, 0, none⟩)), (16, .int .i64 ((((srO a xs b ys r s x).getD 0 : Nat) : Int))), (17, .bool ((srO a xs b ys r s x).isSome)), (18, .slice (some ⟨p57, 0, none⟩) xs.length cap57)]) (Sub.cons rfl (Sub.cons rfl (Sub.cons rfl (Sub.cons rfl (Sub.cons rfl (Sub.cons rfl (Sub.cons rfl (Sub.cons rfl (Sub.cons rfl (Sub.cons rfl Sub.nil)))))))))) ?_
            refine Wk.seq ?_
            refine Wk.region ?_
            refine Ll.op (v := vb) rfl rfl rfl (OpQ.move rfl rfl) ?_
            refine Ll.callRow (xs := [.tmp 58]) (m := ys.length) (vs := ints ys) (el := 3) (size := 1) rfl rfl rfl rfl Tryd.call22 rfl (fun w1 hw1 => toInt_ok vb ys w1 (Row.own hvb hw1) (by omega)) fun p59 cap59 cur59 hp59 hcp59 hlp59 htp59 => ?_
            refine Ll.op (v := .slice (some ⟨p59, 0, none⟩) ys.length cap59) rfl rfl rfl (OpQ.assign rfl rfl) ?_
            refine Ll.nil ?_
            refine Kt.onSub (e' := [(1, va), (3, vb), (4, .int .i64 r), (5, str s), (6, .int .i64 x), (7, .pointer (some ⟨p7, 0, none⟩)), (9, .pointer (some ⟨p9, 0, none⟩)), (16, .int .i64 ((((srO a xs b ys r s x).getD 0 : Nat) : Int))), (17, .bool ((srO a xs b ys r s x).isSome)), (18, .slice (some ⟨p57, 0, none⟩) xs.length cap57), (19, .slice (some ⟨p59, 0, none⟩) ys.length cap59)]) (Sub.cons rfl (Sub.cons rfl (Sub.cons rfl (Sub.cons rfl (Sub.cons rfl (Sub.cons rfl (Sub.cons rfl (Sub.cons rfl (Sub.cons rfl (Sub.cons rfl (Sub.cons rfl Sub.nil))))))))))) ?_
            refine Wk.seq ?_
            refine Wk.regionD Base.mixed (fun _ h => h.drawn) (by kernel_rfl) ?_
            refine Lq.op (v := vS a) rfl rfl rfl (OpQ.loadBox (cs := #[.int .i64 a.n, str a.set, str a.rel]) 5 rfl Tryd.isAgg23 rfl rfl Tryd.sizeOf23) ?_
            refine Lq.op (v := vS a) rfl rfl rfl (OpQ.call rfl Tryd.call17 rfl Own.stable (fun w1 hw1 => toSt_ok a w1 )) ?_
            refine Lq.op (v := .slice (some ⟨p57, 0, none⟩) xs.length cap57) rfl rfl rfl (OpQ.move rfl rfl) ?_
            refine Lq.op (v := vS b) rfl rfl rfl (OpQ.loadBox (cs := #[.int .i64 b.n, str b.set, str b.rel]) 4 rfl Tryd.isAgg23 rfl rfl Tryd.sizeOf23) ?_
            refine Lq.op (v := vS b) rfl rfl rfl (OpQ.call rfl Tryd.call17 rfl Own.stable (fun w1 hw1 => toSt_ok b w1 )) ?_
            refine Lq.op (v := .slice (some ⟨p59, 0, none⟩) ys.length cap59) rfl rfl rfl (OpQ.move rfl rfl) ?_
            refine Lq.op (v := .int .i64 r) rfl rfl rfl (OpQ.move rfl rfl) ?_
            refine Lq.op (v := str s) rfl rfl rfl (OpQ.move rfl rfl) ?_
            refine Lq.op (v := .int .i64 x) rfl rfl rfl (OpQ.move rfl rfl) ?_
            refine Lq.op (v := .tuple #[.int .i64 ((((srO a xs b ys r s x).getD 0 : Nat) : Int)), .bool ((srO a xs b ys r s x).isSome)]) rfl rfl rfl (OpQ.call rfl Tryd.call34 rfl Own.stable (fun w1 hw1 => iRep_ok a b xs ys (.slice (some ⟨p57, 0, none⟩) xs.length cap57) (.slice (some ⟨p59, 0, none⟩) ys.length cap59) w1 hsa hsb (Own.row hw1 (i := 1) rfl (by simpa using htp57) (by simp) hlp57) (Own.row hw1 (i := 0) rfl (by simpa using htp59) (by simp) hlp59) (by first | (simp; done) | (simp; omega) | omega) (by first | (simp; done) | (simp; omega) | omega) r s x)) ?_
            refine Lq.op (v := .tuple #[.int .i64 ((((srO a xs b ys r s x).getD 0 : Nat) : Int)), .bool ((srO a xs b ys r s x).isSome)]) rfl rfl rfl (OpQ.move rfl rfl) ?_
            refine Lq.op (v := .int .i64 ((((srO a xs b ys r s x).getD 0 : Nat) : Int))) rfl rfl rfl (OpQ.extract rfl rfl rfl) ?_
            refine Lq.op (v := .bool ((srO a xs b ys r s x).isSome)) rfl rfl rfl (OpQ.extract rfl rfl rfl) ?_
            refine Lq.op (v := .int .i64 ((((srO a xs b ys r s x).getD 0 : Nat) : Int))) rfl rfl rfl (OpQ.assign rfl rfl) ?_
            refine Lq.op (v := .bool ((srO a xs b ys r s x).isSome)) rfl rfl rfl (OpQ.assign rfl rfl) ?_
            refine Lq.nil ?_
            refine Kt.onSub (e' := [(1, va), (3, vb), (16, .int .i64 ((((srO a xs b ys r s x).getD 0 : Nat) : Int))), (17, .bool ((srO a xs b ys r s x).isSome)), (18, .slice (some ⟨p57, 0, none⟩) xs.length cap57), (19, .slice (some ⟨p59, 0, none⟩) ys.length cap59), (20, .int .i64 ((((srO a xs b ys r s x).getD 0 : Nat) : Int))), (21, .bool ((srO a xs b ys r s x).isSome))]) (Sub.cons rfl (Sub.cons rfl (Sub.cons rfl (Sub.cons rfl (Sub.cons rfl (Sub.cons rfl (Sub.cons rfl (Sub.cons rfl Sub.nil)))))))) ?_
            refine Wk.seq ?_
            refine Wk.seq ?_
            refine Wk.regionQ ?_
            refine Lq.op (v := .int .i64 ((((srO a xs b ys r s x).getD 0 : Nat) : Int))) rfl rfl rfl (OpQ.move rfl rfl) ?_
            refine Lq.op (v := .int .i64 ((((srO a xs b ys r s x).getD 0 : Nat) : Int))) rfl rfl rfl (OpQ.move rfl rfl) ?_
            refine Lq.op (v := .bool (!(decide (((((srO a xs b ys r s x).getD 0 : Nat) : Int)) = ((((srO a xs b ys r s x).getD 0 : Nat) : Int)))))) rfl rfl rfl (OpQ.neq rfl rfl rfl) ?_
            refine Lq.op (v := .bool (!(decide (((((srO a xs b ys r s x).getD 0 : Nat) : Int)) = ((((srO a xs b ys r s x).getD 0 : Nat) : Int)))))) rfl rfl rfl (OpQ.move rfl rfl) ?_
            refine Lq.bool fun b76 hg76 => ?_
            cases b76
            · skip
              replace hg76 := not_false hg76
              replace hg76 := of_decide_eq_true hg76
              refine Lq.op (v := .bool ((srO a xs b ys r s x).isSome)) rfl rfl rfl (OpQ.move rfl rfl) ?_
              refine Lq.op (v := .bool ((srO a xs b ys r s x).isSome)) rfl rfl rfl (OpQ.move rfl rfl) ?_
              refine Lq.op (v := .bool (((srO a xs b ys r s x).isSome) != ((srO a xs b ys r s x).isSome))) rfl rfl rfl (OpQ.bne rfl Tryd.runUnderlying4 rfl rfl) ?_
              refine Lq.op (v := .bool (((srO a xs b ys r s x).isSome) != ((srO a xs b ys r s x).isSome))) rfl rfl rfl (OpQ.pickF rfl rfl rfl) ?_
              refine Lq.nil ?_
              refine Kt.onSub (e' := [(1, va), (3, vb), (18, .slice (some ⟨p57, 0, none⟩) xs.length cap57), (19, .slice (some ⟨p59, 0, none⟩) ys.length cap59), (80, .bool (((srO a xs b ys r s x).isSome) != ((srO a xs b ys r s x).isSome)))]) (Sub.cons rfl (Sub.cons rfl (Sub.cons rfl (Sub.cons rfl (Sub.cons rfl Sub.nil))))) ?_
              refine Wk.cond (b := ((srO a xs b ys r s x).isSome) != ((srO a xs b ys r s x).isSome)) rfl (fun h80 => ?_) (fun h80 => ?_)
              · skip
                exact absurd h80 (by simp)
              · skip
                refine Wk.skip ?_
                refine Kt.onSub (e' := [(1, va), (3, vb), (18, .slice (some ⟨p57, 0, none⟩) xs.length cap57), (19, .slice (some ⟨p59, 0, none⟩) ys.length cap59)]) (Sub.cons rfl (Sub.cons rfl (Sub.cons rfl (Sub.cons rfl Sub.nil)))) ?_
                refine Wk.seq ?_
                refine Wk.seq ?_
                refine Wk.region ?_
                refine Ll.op (v := .slice (some ⟨p57, 0, none⟩) xs.length cap57) rfl rfl rfl (OpQ.move rfl rfl) ?_
                refine Ll.op (v := va) rfl rfl rfl (OpQ.move rfl rfl) ?_
                refine Ll.callRow (xs := [.tmp 82]) (m := xs.length) (vs := ints xs) (el := 3) (size := 1) rfl rfl rfl rfl Tryd.call22 rfl (fun w1 hw1 => toInt_ok va xs w1 (Row.own hva hw1) (by omega)) fun p83 cap83 cur83 hp83 hcp83 hlp83 htp83 => ?_
                refine Ll.op (v := .bool true) rfl rfl rfl (OpQ.call rfl Tryd.call24 rfl Own.stable (fun w1 hw1 => known_b (beq_self_eq_true _) (eqInt_ok (.slice (some ⟨p57, 0, none⟩) xs.length cap57) (.slice (some ⟨p83, 0, none⟩) xs.length cap83) xs xs w1 (Own.row hw1 (i := 2) rfl (by simpa using htp57) (by simp) hlp57) (Own.row hw1 (i := 0) rfl (by simpa using htp83) (by simp) hlp83) (by first | (simp; done) | (simp; omega) | omega)))) ?_
                refine Ll.op (v := .bool false) rfl rfl rfl (OpQ.notT rfl rfl) ?_
                refine Ll.nil ?_
                refine Kt.onSub (e' := [(3, vb), (19, .slice (some ⟨p59, 0, none⟩) ys.length cap59), (85, .bool false)]) (Sub.cons rfl (Sub.cons rfl (Sub.cons rfl Sub.nil))) ?_
                refine Wk.condF rfl ?_
                refine Wk.skip ?_
                refine Kt.onSub (e' := [(3, vb), (19, .slice (some ⟨p59, 0, none⟩) ys.length cap59)]) (Sub.cons rfl (Sub.cons rfl Sub.nil)) ?_
                refine Wk.seq ?_
                refine Wk.seq ?_
                refine Wk.region ?_
                refine Ll.op (v := .slice (some ⟨p59, 0, none⟩) ys.length cap59) rfl rfl rfl (OpQ.move rfl rfl) ?_
                refine Ll.op (v := vb) rfl rfl rfl (OpQ.move rfl rfl) ?_
                refine Ll.callRow (xs := [.tmp 87]) (m := ys.length) (vs := ints ys) (el := 3) (size := 1) rfl rfl rfl rfl Tryd.call22 rfl (fun w1 hw1 => toInt_ok vb ys w1 (Row.own hvb hw1) (by omega)) fun p88 cap88 cur88 hp88 hcp88 hlp88 htp88 => ?_
                refine Ll.op (v := .bool true) rfl rfl rfl (OpQ.call rfl Tryd.call24 rfl Own.stable (fun w1 hw1 => known_b (beq_self_eq_true _) (eqInt_ok (.slice (some ⟨p59, 0, none⟩) ys.length cap59) (.slice (some ⟨p88, 0, none⟩) ys.length cap88) ys ys w1 (Own.row hw1 (i := 2) rfl (by simpa using htp59) (by simp) hlp59) (Own.row hw1 (i := 0) rfl (by simpa using htp88) (by simp) hlp88) (by first | (simp; done) | (simp; omega) | omega)))) ?_
                refine Ll.op (v := .bool false) rfl rfl rfl (OpQ.notT rfl rfl) ?_
                refine Ll.nil ?_
                refine Kt.onSub (e' := [(90, .bool false)]) (Sub.cons rfl Sub.nil) ?_
                refine Wk.condF rfl ?_
                refine Wk.skip ?_
                refine Kt.onSub (e' := []) Sub.nil ?_
                refine Wk.seq ?_
                refine Wk.regionQ ?_
                refine Lq.op (v := .bool true) rfl rfl rfl (OpQ.assign rfl rfl) ?_
                refine Lq.nil ?_
                refine Kt.onSub (e' := [(14, .bool true)]) (Sub.cons rfl Sub.nil) ?_
                refine Wk.ret (Kt.end1 rfl rfl fun w' hw => ?_)
                -- ret 5: .bool true
                exact ⟨ret_b (by first | rfl | (simp_all; done) | (simp_all; omega)), hw.below⟩
            · skip
              replace hg76 := not_true hg76
              replace hg76 := of_decide_eq_false hg76
              exact absurd rfl hg76

end Go.Proofs.YtcanofailfbllaaDoor
