/-
  Walks: answers.
-/
import Derived.Test.YtmannilblelfjaaDoorPlain29
import Derived.Test.YtmannilblelfjaaDoorPartM
import Derived.Test.YtmannilblelfjaaDoorBase
namespace Go.Proofs.YtmannilblelfjaaDoor
open Go.RowKit Go.Wk
set_option linter.unusedSimpArgs false

set_option maxHeartbeats 400000 in
/-- spec.l4With -/
theorem l4With_ok (va : Value) (xs : List Int) (x : Int) (w : World) (hva : Ints w va xs) (hs : xs.length ≤ 1048576) :
    Calls Tryd.prog 78 [va, i6_ x].toArray w fun en w' => ∃ v, en = .returned v ∧ Below w.heap.size w w' ∧ NewRow w.heap.size 3 1 w' v (xs ++ [x]).length (ints (xs ++ [x])) := by
 refine fnStart (n := 11) (e := [(0, va), (1, i6_ x)]) Tryd.func78 rfl rfl rfl rfl Ends.both ?_
 refine Wk.seq ?_
 refine Wk.regionQ ?_
 refine Lq.run 1 rfl ?_
 refine Lq.nil ?_
 refine Kt.sel [0, 1] [_, _] rfl ?_
 refine Wk.seq ?_
 refine Wk.region ?_
 refine Ll.slice (xs := []) (vs := []) Base.elem25 rfl rfl rfl rfl rfl rfl (by decide) rfl fun p5 hp5 => ?_
 refine Ll.run 1 rfl ?_
 refine Ll.appendInts (xs := []) (ys := xs) Base.elem25 0 rfl rfl rfl rfl rfl rfl rfl rfl (by decide) rfl (fun w1 hw1 => (Row.own hva hw1)) ((xs).length) (by first | (simp; done) | (simp; omega)) (by first | (simp; done) | (simp; omega) | omega) fun p7 cap7 cur7 hp7 hcp7 hlp7 htp7 => ?_
 show Ll _ _ (Own _ _ [_]) _ _ ((7, sl_ p7 (((xs).length)) cap7) :: _) _ _ _
 refine Ll.run 1 rfl ?_
 refine Ll.slice (xs := [.tmp 8]) (vs := [i6_ x]) Base.elem25 rfl rfl rfl rfl rfl rfl (by decide) rfl fun p9 hp9 => ?_
 refine Ll.appendInts (xs := xs) (ys := [x]) Base.elem25 1 rfl rfl rfl rfl rfl rfl rfl hcp7 hlp7 (by simpa using htp7) (fun w1 hw1 => (Own.row hw1 (i := 0) rfl (n := 1) (cap := 1) (vs := ints [x]) rfl rfl (by decide))) ((xs ++ ([x])).length) (by first | (simp; done) | (simp; omega)) (by first | (simp; done) | (simp; omega) | omega) fun p10 cap10 cur10 hp10 hcp10 hlp10 htp10 => ?_
 show Ll _ _ (Own _ _ [_, _]) _ _ ((10, sl_ p10 (((xs ++ ([x])).length)) cap10) :: _) _ _ _
 refine Ll.run 1 rfl ?_
 refine Ll.nil ?_
 refine Kt.sel [4] [_] rfl ?_
 refine Wk.ret (Kt.end1 rfl rfl fun w' hw => ?_)
 -- ret 0: sl_ p10 (((xs ++ ([x])).length)) cap10
 exact ⟨_, rfl, hw.below, hw.newRow (i := 1) (n := _) rfl (by assumption) (by assumption) (by assumption)⟩

set_option maxHeartbeats 400000 in
/-- spec.AnswersTo|yes -/
theorem sAns_yes (a b : St) (xs ys : List Int) (va vb : Value) (x : Int) (w : World) (hsa : a.Small) (hsb : b.Small) (hva : Ints w va xs) (hvb : Ints w vb ys) (hs1 : xs.length ≤ 140737488355328) (hs2 : ys.length ≤ 140737488355328) (loa : -9223372036854775808 ≤ a.n) (hia : a.n ≤ 9223372036854775807) (lob : -9223372036854775808 ≤ b.n) (hib : b.n ≤ 9223372036854775807) (hv : ansOk a xs b ys x = true) :
    Calls Tryd.prog 23 [vS a, va, vS b, vb, i6_ x].toArray w fun en w' => ∃ v, en = .returned v ∧ Below w.heap.size w w' ∧ NewRow w.heap.size 3 1 w' v (ansTo a xs b ys x b.n.toNat).length (ints (ansTo a xs b ys x b.n.toNat)) := by
 refine fnStart (n := 57) (e := [(0, vS a), (1, va), (2, vS b), (3, vb), (4, i6_ x)]) Tryd.func23 rfl rfl rfl rfl Ends.both ?_
 obtain ⟨hLL, hel, hway⟩ := ansOk_true hv
 obtain ⟨LA, LB, hlen⟩ := listsB_true hLL
 have ha := LA.fine
 have hb := LB.fine
 have hA := LA.els
 have hB := LB.els
 have hl4 := LA.len
 have hx := elB_true.1 hel
 have hn8 := hb.hi
 have hn1 := hb.lo
 have ha8 := ha.hi
 have ha1 := ha.lo
 refine Wk.seq ?_
 refine Wk.region ?_
 refine Ll.box (v := vS a) rfl rfl rfl rfl rfl fun p5 hp5 => ?_
 show Ll _ _ (Own _ _ [_]) _ _ ((5, pt_ p5) :: _) _ _ _
 refine Ll.box (v := vS b) rfl rfl rfl rfl rfl fun p7 hp7 => ?_
 show Ll _ _ (Own _ _ [_, _]) _ _ ((7, pt_ p7) :: _) _ _ _
 refine Ll.run 1 rfl ?_
 refine Ll.nil ?_
 refine Kt.sel [1, 3, 4, 5, 7] [_, _, _, _, _] rfl ?_
 refine Wk.seq ?_
 refine Wk.region ?_
 refine Ll.slice (xs := []) (vs := []) Base.elem25 rfl rfl rfl rfl rfl rfl (by decide) rfl fun p13 hp13 => ?_
 refine Ll.run 1 rfl ?_
 refine Ll.nil ?_
 refine Kt.sel [1, 3, 4, 5, 7, 11] [_, _, _, _, _, _] rfl ?_
 refine Wk.seq ?_
 refine Wk.seq ?_
 refine Wk.regionQ ?_
 refine Lq.op rfl rfl rfl (OpQ.loadBox (cs := #[i6_ a.n, str a.set, str a.rel]) 2 rfl Tryd.isAgg24 rfl rfl Tryd.sizeOf24) ?_
 refine Lq.run 1 rfl ?_
 refine Lq.op rfl rfl rfl (OpQ.loadBox (cs := #[i6_ b.n, str b.set, str b.rel]) 1 rfl Tryd.isAgg24 rfl rfl Tryd.sizeOf24) ?_
 refine Lq.run 1 rfl ?_
 refine Lq.op (v := bo_ true) rfl rfl rfl (OpQ.call rfl Tryd.call74 rfl Own.stable (fun w1 hw1 => known_b hLL (l4Lists_ok a b xs ys va vb w1 hsa hsb (Row.own hva hw1) (Row.own hvb hw1) (by first | (simp; done) | (simp; omega) | omega) (by first | (simp; done) | (simp; omega) | omega) loa hia lob hib))) ?_
 refine Lq.run 3 rfl ?_
 refine Lq.op rfl rfl rfl (OpQ.fieldAddr rfl Tryd.runUnderlying24 rfl Tryd.sizeOf3 rfl rfl) ?_
 refine Lq.op rfl rfl rfl (OpQ.loadOwn 2 rfl Tryd.isAgg3 rfl rfl rfl) ?_
 refine Lq.op rfl rfl rfl (OpQ.sub rfl rfl rfl (by omega) (by omega)) ?_
 refine Lq.op (v := bo_ true) rfl rfl rfl (OpQ.call rfl Tryd.call75 rfl Own.stable (fun w1 hw1 => known_b (inB_el.trans hel) (l1In_ok x 0 (a.n - (1 : Int)) w1 ))) ?_
 refine Lq.run 3 rfl ?_
 refine Lq.op rfl rfl rfl (OpQ.loadBox (cs := #[i6_ a.n, str a.set, str a.rel]) 2 rfl Tryd.isAgg24 rfl rfl Tryd.sizeOf24) ?_
 refine Lq.run 1 rfl ?_
 refine Lq.op rfl rfl rfl (OpQ.loadBox (cs := #[i6_ b.n, str b.set, str b.rel]) 1 rfl Tryd.isAgg24 rfl rfl Tryd.sizeOf24) ?_
 refine Lq.run 1 rfl ?_
 refine Lq.op (v := bo_ true) rfl rfl rfl (OpQ.call rfl Tryd.call76 rfl Own.stable (fun w1 hw1 => known_b hway (l4Partial_ok a b xs ys va vb w1 ha hb (Row.own hva hw1) (Row.own hvb hw1) hA hB (by omega) (by omega)))) ?_
 refine Lq.run 2 rfl ?_
 refine Lq.nil ?_
 refine Kt.sel [1, 3, 4, 5, 7, 11, 35] [_, _, _, _, _, _, _] rfl ?_
 refine Wk.condF rfl ?_
 refine Wk.skip ?_
 refine Kt.sel [1, 3, 4, 5, 7, 11] [_, _, _, _, _, _] rfl ?_
 refine Wk.seq ?_
 refine Wk.seq ?_
 refine Wk.regionQ ?_
 refine Lq.run 1 rfl ?_
 refine Lq.nil ?_
 refine Kt.sel [1, 3, 4, 5, 7, 11, 12] [_, _, _, _, _, _, _] rfl ?_
 refine Wk.block ?_
 refine Wk.loop (σ := Nat × Nat × Nat × Array Value) (fun ⟨k, g, c, cur⟩ => ((k : Int) ≤ b.n) ∧ w.heap.size ≤ g ∧ cur.size = c * 1 ∧ (ansTo a xs b ys x k).length ≤ c ∧ cur.toList.take ((ansTo a xs b ys x k).length * 1) = ints (ansTo a xs b ys x k)) (fun ⟨k, g, c, cur⟩ => [(1, va), (3, vb), (4, i6_ x), (5, pt_ p5), (7, pt_ p7), (11, sl_ g ((ansTo a xs b ys x k).length) c), (12, i6_ ((k : Int)))]) (fun ⟨k, g, c, cur⟩ => Own w.heap.size w [bk_ g cur 3, bk_ p7 #[i6_ b.n, str b.set, str b.rel] 24, bk_ p5 #[i6_ a.n, str a.set, str a.rel] 24]) (fun ⟨k, g, c, cur⟩ => (b.n - k).toNat) ((0, p13, 0, #[])) ⟨by omega, hp13, rfl, by simp, rfl⟩ (Sub.sel [1, 3, 4, 5, 7, 11, 12] rfl) (fun _ h => h) ?_
 rintro ⟨k, g, c, cur⟩ ⟨hk, hg, hc, hl, ht⟩
 dsimp only
 refine Wk.seq ?_
 refine Wk.seq ?_
 refine Wk.regionQ ?_
 refine Lq.run 1 rfl ?_
 refine Lq.op rfl rfl rfl (OpQ.fieldAddr rfl Tryd.runUnderlying24 rfl Tryd.sizeOf3 rfl rfl) ?_
 refine Lq.op rfl rfl rfl (OpQ.loadOwn 1 rfl Tryd.isAgg3 rfl rfl rfl) ?_
 refine Lq.run 1 rfl ?_
 refine Lq.nil ?_
 refine Kt.sel [1, 3, 4, 5, 7, 11, 12, 40] [_, _, _, _, _, _, _, _] rfl ?_
 refine Wk.cond (b := decide (((k : Int)) < b.n)) rfl (fun h40 => ?_) (fun h40 => ?_)
 ·
  replace h40 := of_decide_eq_true h40
  have hy : b.El k := ⟨by omega, by omega⟩
  have hle := ansTo_le a xs b ys x k
  refine Wk.skip ?_
  refine Kt.sel [1, 3, 4, 5, 7, 11, 12] [_, _, _, _, _, _, _] rfl ?_
  refine Wk.seq ?_
  refine Wk.block ?_
  refine Wk.seq ?_
  refine Wk.regionO [(0, true), (1, true), (2, true), (4, true), (5, true), (6, true), (3, false), (7, false), (8, false)] Base.mixed (fun _ h => h.drawn) (by kernel_rfl) ?_
  refine Ld.take rfl rfl rfl rfl rfl (OpQ.loadBox (cs := #[i6_ a.n, str a.set, str a.rel]) 2 rfl Tryd.isAgg24 rfl rfl Tryd.sizeOf24) (fun _ h => h) ?_
  refine Ld.run 2 rfl (fun _ h => h) ?_
  refine Ld.take rfl rfl rfl rfl rfl (OpQ.loadBox (cs := #[i6_ b.n, str b.set, str b.rel]) 1 rfl Tryd.isAgg24 rfl rfl Tryd.sizeOf24) (fun _ h => h) ?_
  refine Ld.run 2 rfl (fun _ h => h) ?_
  refine Ld.loud rfl ?_
  refine Ll.callRow (xs := [.tmp 44, .tmp 45]) (m := (xs ++ [x]).length) (vs := ints (xs ++ [x])) (el := 3) (size := 1) rfl rfl rfl rfl Tryd.call78 rfl (fun w1 hw1 => l4With_ok va xs x w1 (Row.own hva hw1) (by omega)) fun p46 cap46 cur46 hp46 hcp46 hlp46 htp46 => ?_
  refine Ll.nil (Ld.joint (fun _ h => h.tail) ?_)
  refine Ld.loud rfl ?_
  refine Ll.callRow (xs := [.tmp 48, .tmp 49]) (m := (ys ++ [(k : Int)]).length) (vs := ints (ys ++ [(k : Int)])) (el := 3) (size := 1) rfl rfl rfl rfl Tryd.call78 rfl (fun w1 hw1 => l4With_ok vb ys ((k : Int)) w1 (Row.own hvb hw1) (by omega)) fun p50 cap50 cur50 hp50 hcp50 hlp50 htp50 => ?_
  refine Ll.nil (Ld.joint (fun _ h => h.tail.tail) ?_)
  refine Ld.loud rfl ?_
  refine Ll.op (v := bo_ (stillB a xs b ys x k)) rfl rfl rfl (OpQ.call rfl Tryd.call77 rfl Own.stable (fun w1 hw1 => known_b (still_more hlen) (fits_ok a b (xs ++ [x]) (ys ++ [(k : Int)]) (sl_ p46 ((xs ++ [x]).length) cap46) (sl_ p50 ((ys ++ [(k : Int)]).length) cap50) xs.length w1 ha hb (Own.row hw1 (i := 1) rfl (by simpa using htp46) (by simp) hlp46) (Own.row hw1 (i := 0) rfl (by simpa using htp50) (by simp) hlp50) (hA.snoc hx) (hB.snoc hy) (by simp) (by simp [hlen]) (by omega)))) ?_
  refine Ll.nil (Ld.joint (fun _ h => h.tail.tail) ?_)
  refine Ld.nil ?_
  refine Kt.sel [1, 3, 4, 5, 7, 11, 12, 51] [_, _, _, _, _, _, _, _] rfl ?_
  refine Wk.cond (b := stillB a xs b ys x k) rfl (fun h51 => ?_) (fun h51 => ?_)
  ·
   refine Wk.region ?_
   refine Ll.run 2 rfl ?_
   refine Ll.slice (xs := [.tmp 53]) (vs := [i6_ ((k : Int))]) Base.elem25 rfl rfl rfl rfl rfl rfl (by decide) rfl fun p54 hp54 => ?_
   refine Ll.appendInts (xs := ansTo a xs b ys x k) (ys := [(k : Int)]) Base.elem25 3 rfl rfl rfl rfl rfl rfl rfl hc hl (by simpa using ht) (fun w1 hw1 => (Own.row hw1 (i := 0) rfl (n := 1) (cap := 1) (vs := ints [(k : Int)]) rfl rfl (by decide))) (((ansTo a xs b ys x k) ++ ([(k : Int)])).length) (by first | (simp; done) | (simp; omega)) (by first | (simp; done) | (simp; omega) | omega) fun p55 cap55 cur55 hp55 hcp55 hlp55 htp55 => ?_
   show Ll _ _ (Own _ _ [_, _, _, _, _, _]) _ _ ((55, sl_ p55 ((((ansTo a xs b ys x k) ++ ([(k : Int)])).length)) cap55) :: _) _ _ _
   refine Ll.run 1 rfl ?_
   refine Ll.nil ?_
   refine Kt.sel [1, 3, 4, 5, 7, 11, 12] [_, _, _, _, _, _, _] rfl ?_
   refine Wk.regionQ ?_
   refine Lq.run 1 rfl ?_
   refine Lq.op rfl rfl rfl (OpQ.add rfl rfl rfl (by omega) (by omega)) ?_
   refine Lq.run 1 rfl ?_
   refine Lq.nil ?_
   refine Kt.again ((k + 1, p55, cap55, cur55)) ⟨(by omega), (by omega), hcp55, (by rw [ansTo_yes (by assumption)]; exact hlp55), (by rw [ansTo_yes (by assumption)]; exact htp55)⟩ (by omega) (Sub.cons rfl (Sub.cons rfl (Sub.cons rfl (Sub.cons rfl (Sub.cons rfl (Sub.cons (by rw [ansTo_yes (by assumption)]; rfl) (Sub.sel [12] rfl))))))) (fun _ h => h.tail.tail.tail)
  ·
   refine Wk.skip ?_
   refine Kt.sel [1, 3, 4, 5, 7, 11, 12] [_, _, _, _, _, _, _] rfl ?_
   refine Wk.regionQ ?_
   refine Lq.run 1 rfl ?_
   refine Lq.op rfl rfl rfl (OpQ.add rfl rfl rfl (by omega) (by omega)) ?_
   refine Lq.run 1 rfl ?_
   refine Lq.nil ?_
   refine Kt.again ((k + 1, g, c, cur)) ⟨(by omega), hg, hc, (by rw [ansTo_no (by assumption)]; exact hl), (by rw [ansTo_no (by assumption)]; exact ht)⟩ (by omega) (Sub.cons rfl (Sub.cons rfl (Sub.cons rfl (Sub.cons rfl (Sub.cons rfl (Sub.cons (by rw [ansTo_no (by assumption)]; rfl) (Sub.sel [12] rfl))))))) (fun _ h => h.tail.tail)
 ·
  replace h40 := of_decide_eq_false h40
  refine Wk.exit rfl ?_
  refine Kt.sel [11] [_] rfl ?_
  refine Wk.seq ?_
  refine Wk.regionQ ?_
  refine Lq.run 2 rfl ?_
  refine Lq.nil ?_
  refine Kt.sel [10] [_] rfl ?_
  refine Wk.ret (Kt.end1 rfl rfl fun w' hw => ?_)
  -- ret 0: sl_ g ((ansTo a xs b ys x k).length) c
  obtain rfl : k = b.n.toNat := by omega
  exact ⟨_, rfl, hw.below, hw.newRow (i := 0) (n := _) rfl hc hl ht⟩

set_option maxHeartbeats 400000 in
/-- impl.AnswersTo|yes -/
theorem iAns_yes (a b : St) (xs ys : List Int) (va vb : Value) (x : Int) (w : World) (hsa : a.Small) (hsb : b.Small) (hva : Ints w va xs) (hvb : Ints w vb ys) (hs1 : xs.length ≤ 140737488355328) (hs2 : ys.length ≤ 140737488355328) (lob : -9223372036854775808 ≤ b.n) (hib : b.n ≤ 9223372036854775807) (hv : ansOk a xs b ys x = true) :
    Calls Tryd.prog 21 [vS a, va, vS b, vb, i6_ x].toArray w fun en w' => ∃ v, en = .returned v ∧ Below w.heap.size w w' ∧ NewRow w.heap.size 3 1 w' v (ansTo a xs b ys x b.n.toNat).length (ints (ansTo a xs b ys x b.n.toNat)) := by
 refine fnStart (n := 53) (e := [(0, vS a), (1, va), (2, vS b), (3, vb), (4, i6_ x)]) Tryd.func21 rfl rfl rfl rfl Ends.both ?_
 obtain ⟨hLL, hel, hway⟩ := ansOk_true hv
 obtain ⟨LA, LB, hlen⟩ := listsB_true hLL
 have ha := LA.fine
 have hb := LB.fine
 have hA := LA.els
 have hB := LB.els
 have hl4 := LA.len
 have hx := elB_true.1 hel
 have hn8 := hb.hi
 have hn1 := hb.lo
 have ha8 := ha.hi
 have ha1 := ha.lo
 refine Wk.seq ?_
 refine Wk.region ?_
 refine Ll.box (v := vS a) rfl rfl rfl rfl rfl fun p5 hp5 => ?_
 show Ll _ _ (Own _ _ [_]) _ _ ((5, pt_ p5) :: _) _ _ _
 refine Ll.box (v := vS b) rfl rfl rfl rfl rfl fun p7 hp7 => ?_
 show Ll _ _ (Own _ _ [_, _]) _ _ ((7, pt_ p7) :: _) _ _ _
 refine Ll.run 1 rfl ?_
 refine Ll.nil ?_
 refine Kt.sel [1, 3, 4, 5, 7] [_, _, _, _, _] rfl ?_
 refine Wk.seq ?_
 refine Wk.seq ?_
 refine Wk.region ?_
 refine Ll.op rfl rfl rfl (OpQ.loadBox (cs := #[i6_ a.n, str a.set, str a.rel]) 1 rfl Tryd.isAgg24 rfl rfl Tryd.sizeOf24) ?_
 refine Ll.run 1 rfl ?_
 refine Ll.op rfl rfl rfl (OpQ.loadBox (cs := #[i6_ b.n, str b.set, str b.rel]) 0 rfl Tryd.isAgg24 rfl rfl Tryd.sizeOf24) ?_
 refine Ll.run 1 rfl ?_
 refine Ll.op (v := bo_ true) rfl rfl rfl (OpQ.call rfl Tryd.call69 rfl Own.stable (fun w1 hw1 => known_b hLL (areLists_ok a b xs ys va vb w1 hsa hsb (Row.own hva hw1) (Row.own hvb hw1) (by first | (simp; done) | (simp; omega) | omega) (by first | (simp; done) | (simp; omega) | omega)))) ?_
 refine Ll.run 2 rfl ?_
 refine Ll.op rfl rfl rfl (OpQ.loadBox (cs := #[i6_ a.n, str a.set, str a.rel]) 1 rfl Tryd.isAgg24 rfl rfl Tryd.sizeOf24) ?_
 refine Ll.run 1 rfl ?_
 refine Ll.op rfl rfl rfl (OpQ.loadBox (cs := #[i6_ b.n, str b.set, str b.rel]) 0 rfl Tryd.isAgg24 rfl rfl Tryd.sizeOf24) ?_
 refine Ll.run 1 rfl ?_
 refine Ll.op (v := bo_ true) rfl rfl rfl (OpQ.call rfl Tryd.call65 rfl Own.stable (fun w1 hw1 => known_b hway (sameWay_ok a b xs ys va vb w1 ha hb (Row.own hva hw1) (Row.own hvb hw1) hA hB (by omega) (by omega)))) ?_
 refine Ll.run 3 rfl ?_
 refine Ll.op rfl rfl rfl (OpQ.loadBox (cs := #[i6_ a.n, str a.set, str a.rel]) 1 rfl Tryd.isAgg24 rfl rfl Tryd.sizeOf24) ?_
 refine Ll.run 1 rfl ?_
 refine Ll.slice (xs := [.tmp 29]) (vs := [i6_ x]) Base.elem25 rfl rfl rfl rfl rfl rfl (by decide) rfl fun p30 hp30 => ?_
 refine Ll.op (v := bo_ true) rfl rfl rfl (OpQ.call rfl Tryd.call72 rfl Own.stable (fun w1 hw1 => known_b (by simpa using hel) (areElements_ok a (sl_ p30 1 1) ([x]) w1 (Own.row hw1 (i := 0) rfl (n := 1) (cap := 1) (vs := ints [x]) rfl rfl (by decide)) (by first | (simp; done) | (simp; omega) | omega)))) ?_
 refine Ll.run 2 rfl ?_
 refine Ll.nil ?_
 refine Kt.sel [1, 3, 4, 5, 7, 33] [_, _, _, _, _, _] rfl ?_
 refine Wk.condF rfl ?_
 refine Wk.skip ?_
 refine Kt.sel [1, 3, 4, 5, 7] [_, _, _, _, _] rfl ?_
 refine Wk.seq ?_
 refine Wk.region ?_
 refine Ll.slice (xs := []) (vs := []) Base.elem25 rfl rfl rfl rfl rfl rfl (by decide) rfl fun p34 hp34 => ?_
 refine Ll.run 1 rfl ?_
 refine Ll.nil ?_
 refine Kt.sel [1, 3, 4, 5, 7, 11] [_, _, _, _, _, _] rfl ?_
 refine Wk.seq ?_
 refine Wk.seq ?_
 refine Wk.regionQ ?_
 refine Lq.op rfl rfl rfl (OpQ.fieldAddr rfl Tryd.runUnderlying24 rfl Tryd.sizeOf3 rfl rfl) ?_
 refine Lq.op rfl rfl rfl (OpQ.loadOwn 2 rfl Tryd.isAgg3 rfl rfl rfl) ?_
 refine Lq.run 1 rfl ?_
 refine Lq.nil ?_
 refine Kt.sel [1, 3, 4, 5, 7, 11, 36, 37] [_, _, _, _, _, _, _, _] rfl ?_
 refine Wk.block ?_
 refine Wk.loop (σ := Nat × Nat × Nat × Array Value) (fun ⟨k, g, c, cur⟩ => ((k : Int) ≤ b.n) ∧ w.heap.size ≤ g ∧ cur.size = c * 1 ∧ (ansTo a xs b ys x k).length ≤ c ∧ cur.toList.take ((ansTo a xs b ys x k).length * 1) = ints (ansTo a xs b ys x k)) (fun ⟨k, g, c, cur⟩ => [(1, va), (3, vb), (4, i6_ x), (5, pt_ p5), (7, pt_ p7), (11, sl_ g ((ansTo a xs b ys x k).length) c), (36, i6_ b.n), (37, i6_ ((k : Int)))]) (fun ⟨k, g, c, cur⟩ => Own w.heap.size w [bk_ g cur 3, bk_ p30 #[i6_ x] 3, bk_ p7 #[i6_ b.n, str b.set, str b.rel] 24, bk_ p5 #[i6_ a.n, str a.set, str a.rel] 24]) (fun ⟨k, g, c, cur⟩ => (b.n - k).toNat) ((0, p34, 0, #[])) ⟨by omega, hp34, rfl, by simp, rfl⟩ (Sub.sel [1, 3, 4, 5, 7, 11, 36, 37] rfl) (fun _ h => h) ?_
 rintro ⟨k, g, c, cur⟩ ⟨hk, hg, hc, hl, ht⟩
 dsimp only
 refine Wk.seq ?_
 refine Wk.regionQ ?_
 refine Lq.run 1 rfl ?_
 refine Lq.nil ?_
 refine Kt.sel [1, 3, 4, 5, 7, 11, 36, 37, 38] [_, _, _, _, _, _, _, _, _] rfl ?_
 refine Wk.seq ?_
 refine Wk.cond (b := decide (((k : Int)) < b.n)) rfl (fun h38 => ?_) (fun h38 => ?_)
 ·
  replace h38 := of_decide_eq_true h38
  have hy : b.El k := ⟨by omega, by omega⟩
  have hle := ansTo_le a xs b ys x k
  refine Wk.skip ?_
  refine Kt.sel [1, 3, 4, 5, 7, 11, 36, 37] [_, _, _, _, _, _, _, _] rfl ?_
  refine Wk.seq ?_
  refine Wk.block ?_
  refine Wk.seq ?_
  refine Wk.regionQ ?_
  refine Lq.run 2 rfl ?_
  refine Lq.nil ?_
  refine Kt.sel [1, 3, 4, 5, 7, 11, 12, 36, 37] [_, _, _, _, _, _, _, _, _] rfl ?_
  refine Wk.seq ?_
  refine Wk.regionQ ?_
  refine Lq.op rfl rfl rfl (OpQ.loadBox (cs := #[i6_ a.n, str a.set, str a.rel]) 3 rfl Tryd.isAgg24 rfl rfl Tryd.sizeOf24) ?_
  refine Lq.run 1 rfl ?_
  refine Lq.op rfl rfl rfl (OpQ.loadBox (cs := #[i6_ b.n, str b.set, str b.rel]) 2 rfl Tryd.isAgg24 rfl rfl Tryd.sizeOf24) ?_
  refine Lq.run 3 rfl ?_
  refine Lq.op (v := bo_ (stillB a xs b ys x ((k : Int)))) rfl rfl rfl (OpQ.call rfl Tryd.call73 rfl Own.stable (fun w1 hw1 => stillSame_ok a b xs ys va vb x ((k : Int)) w1 (ha) (hb) ((Row.own hva hw1)) ((Row.own hvb hw1)) (hA) (hB) ((by first | (simp; done) | (simp; omega) | omega)) ((by first | (simp; done) | (simp; omega) | omega)) ((by first | assumption | exact St.Els.at (by assumption) (by omega) (by omega))) ((by first | assumption | exact St.Els.at (by assumption) (by omega) (by omega))))) ?_
  refine Lq.nil ?_
  refine Kt.sel [1, 3, 4, 5, 7, 11, 12, 36, 37, 46] [_, _, _, _, _, _, _, _, _, _] rfl ?_
  refine Wk.cond (b := stillB a xs b ys x ((k : Int))) rfl (fun h46 => ?_) (fun h46 => ?_)
  ·
   refine Wk.region ?_
   refine Ll.run 2 rfl ?_
   refine Ll.slice (xs := [.tmp 48]) (vs := [i6_ ((k : Int))]) Base.elem25 rfl rfl rfl rfl rfl rfl (by decide) rfl fun p49 hp49 => ?_
   refine Ll.appendInts (xs := ansTo a xs b ys x k) (ys := [(k : Int)]) Base.elem25 1 rfl rfl rfl rfl rfl rfl rfl hc hl (by simpa using ht) (fun w1 hw1 => (Own.row hw1 (i := 0) rfl (n := 1) (cap := 1) (vs := ints [(k : Int)]) rfl rfl (by decide))) (((ansTo a xs b ys x k) ++ ([(k : Int)])).length) (by first | (simp; done) | (simp; omega)) (by first | (simp; done) | (simp; omega) | omega) fun p50 cap50 cur50 hp50 hcp50 hlp50 htp50 => ?_
   show Ll _ _ (Own _ _ [_, _, _, _, _]) _ _ ((50, sl_ p50 ((((ansTo a xs b ys x k) ++ ([(k : Int)])).length)) cap50) :: _) _ _ _
   refine Ll.run 1 rfl ?_
   refine Ll.nil ?_
   refine Kt.sel [1, 3, 4, 5, 7, 11, 36, 37] [_, _, _, _, _, _, _, _] rfl ?_
   refine Wk.regionQ ?_
   refine Lq.op rfl rfl rfl (OpQ.add rfl rfl rfl (by omega) (by omega)) ?_
   refine Lq.run 1 rfl ?_
   refine Lq.nil ?_
   refine Kt.again ((k + 1, p50, cap50, cur50)) ⟨(by omega), (by omega), hcp50, (by rw [ansTo_yes (by assumption)]; exact hlp50), (by rw [ansTo_yes (by assumption)]; exact htp50)⟩ (by omega) (Sub.cons rfl (Sub.cons rfl (Sub.cons rfl (Sub.cons rfl (Sub.cons rfl (Sub.cons (by rw [ansTo_yes (by assumption)]; rfl) (Sub.sel [36, 37] rfl))))))) (fun _ h => h.tail)
  ·
   refine Wk.skip ?_
   refine Kt.sel [1, 3, 4, 5, 7, 11, 36, 37] [_, _, _, _, _, _, _, _] rfl ?_
   refine Wk.regionQ ?_
   refine Lq.op rfl rfl rfl (OpQ.add rfl rfl rfl (by omega) (by omega)) ?_
   refine Lq.run 1 rfl ?_
   refine Lq.nil ?_
   refine Kt.again ((k + 1, g, c, cur)) ⟨(by omega), hg, hc, (by rw [ansTo_no (by assumption)]; exact hl), (by rw [ansTo_no (by assumption)]; exact ht)⟩ (by omega) (Sub.cons rfl (Sub.cons rfl (Sub.cons rfl (Sub.cons rfl (Sub.cons rfl (Sub.cons (by rw [ansTo_no (by assumption)]; rfl) (Sub.sel [36, 37] rfl))))))) (fun _ h => h)
 ·
  replace h38 := of_decide_eq_false h38
  refine Wk.exit rfl ?_
  refine Kt.sel [11] [_] rfl ?_
  refine Wk.seq ?_
  refine Wk.regionQ ?_
  refine Lq.run 2 rfl ?_
  refine Lq.nil ?_
  refine Kt.sel [10] [_] rfl ?_
  refine Wk.ret (Kt.end1 rfl rfl fun w' hw => ?_)
  -- ret 0: sl_ g ((ansTo a xs b ys x k).length) c
  obtain rfl : k = b.n.toNat := by omega
  exact ⟨_, rfl, hw.below, hw.newRow (i := 0) (n := _) rfl hc hl ht⟩

set_option maxHeartbeats 400000 in
/-- spec.AnswersTo|no -/
theorem sAns_no (a b : St) (xs ys : List Int) (va vb : Value) (x : Int) (w : World) (hsa : a.Small) (hsb : b.Small) (hva : Ints w va xs) (hvb : Ints w vb ys) (hs1 : xs.length ≤ 140737488355328) (hs2 : ys.length ≤ 140737488355328) (loa : -9223372036854775808 ≤ a.n) (hia : a.n ≤ 9223372036854775807) (lob : -9223372036854775808 ≤ b.n) (hib : b.n ≤ 9223372036854775807) (hv : ansOk a xs b ys x = false) :
    Calls Tryd.prog 23 [vS a, va, vS b, vb, i6_ x].toArray w fun en w' => ∃ v, en = .returned v ∧ Below w.heap.size w w' ∧ NewRow w.heap.size 3 1 w' v 0 (ints []) := by
 refine fnStart (n := 57) (e := [(0, vS a), (1, va), (2, vS b), (3, vb), (4, i6_ x)]) Tryd.func23 rfl rfl rfl rfl Ends.both ?_
 refine Wk.seq ?_
 refine Wk.region ?_
 refine Ll.box (v := vS a) rfl rfl rfl rfl rfl fun p5 hp5 => ?_
 show Ll _ _ (Own _ _ [_]) _ _ ((5, pt_ p5) :: _) _ _ _
 refine Ll.box (v := vS b) rfl rfl rfl rfl rfl fun p7 hp7 => ?_
 show Ll _ _ (Own _ _ [_, _]) _ _ ((7, pt_ p7) :: _) _ _ _
 refine Ll.run 1 rfl ?_
 refine Ll.nil ?_
 refine Kt.sel [1, 3, 4, 5, 7] [_, _, _, _, _] rfl ?_
 refine Wk.seq ?_
 refine Wk.region ?_
 refine Ll.slice (xs := []) (vs := []) Base.elem25 rfl rfl rfl rfl rfl rfl (by decide) rfl fun p13 hp13 => ?_
 refine Ll.run 1 rfl ?_
 refine Ll.nil ?_
 refine Kt.sel [1, 3, 4, 5, 7, 11] [_, _, _, _, _, _] rfl ?_
 refine Wk.seq ?_
 refine Wk.seq ?_
 refine Wk.regionQ ?_
 refine Lq.op rfl rfl rfl (OpQ.loadBox (cs := #[i6_ a.n, str a.set, str a.rel]) 2 rfl Tryd.isAgg24 rfl rfl Tryd.sizeOf24) ?_
 refine Lq.run 1 rfl ?_
 refine Lq.op rfl rfl rfl (OpQ.loadBox (cs := #[i6_ b.n, str b.set, str b.rel]) 1 rfl Tryd.isAgg24 rfl rfl Tryd.sizeOf24) ?_
 refine Lq.run 1 rfl ?_
 refine Lq.op (v := bo_ (listsB a xs b ys)) rfl rfl rfl (OpQ.call rfl Tryd.call74 rfl Own.stable (fun w1 hw1 => l4Lists_ok a b xs ys va vb w1 hsa hsb (Row.own hva hw1) (Row.own hvb hw1) (by first | (simp; done) | (simp; omega) | omega) (by first | (simp; done) | (simp; omega) | omega) loa hia lob hib)) ?_
 refine Lq.run 2 rfl ?_
 refine Lq.bool fun b20 hg20 => ?_
 cases b20
 ·
  replace hg20 := not_false hg20
  obtain ⟨LA, LB, hlen⟩ := listsB_true hg20
  have ha := LA.fine
  have hb := LB.fine
  have hA := LA.els
  have hB := LB.els
  have hl4 := LA.len
  have ha8 := ha.hi
  have ha1 := ha.lo
  refine Lq.run 1 rfl ?_
  refine Lq.op rfl rfl rfl (OpQ.fieldAddr rfl Tryd.runUnderlying24 rfl Tryd.sizeOf3 rfl rfl) ?_
  refine Lq.op rfl rfl rfl (OpQ.loadOwn 2 rfl Tryd.isAgg3 rfl rfl rfl) ?_
  refine Lq.op rfl rfl rfl (OpQ.sub rfl rfl rfl (by omega) (by omega)) ?_
  refine Lq.op (v := bo_ (inB x 0 (a.n - (1 : Int)))) rfl rfl rfl (OpQ.call rfl Tryd.call75 rfl Own.stable (fun w1 hw1 => l1In_ok x 0 (a.n - (1 : Int)) w1 )) ?_
  refine Lq.run 3 rfl ?_
  refine Lq.bool fun b28 hg28 => ?_
  cases b28
  ·
   replace hg28 := not_false hg28
   refine Lq.op rfl rfl rfl (OpQ.loadBox (cs := #[i6_ a.n, str a.set, str a.rel]) 2 rfl Tryd.isAgg24 rfl rfl Tryd.sizeOf24) ?_
   refine Lq.run 1 rfl ?_
   refine Lq.op rfl rfl rfl (OpQ.loadBox (cs := #[i6_ b.n, str b.set, str b.rel]) 1 rfl Tryd.isAgg24 rfl rfl Tryd.sizeOf24) ?_
   refine Lq.run 1 rfl ?_
   refine Lq.op (v := bo_ (sameB a xs b ys)) rfl rfl rfl (OpQ.call rfl Tryd.call76 rfl Own.stable (fun w1 hw1 => l4Partial_ok a b xs ys va vb w1 ha hb (Row.own hva hw1) (Row.own hvb hw1) hA hB (by omega) (by omega))) ?_
   refine Lq.run 2 rfl ?_
   refine Lq.nil ?_
   refine Kt.sel [1, 3, 4, 5, 7, 11, 35] [_, _, _, _, _, _, _] rfl ?_
   refine Wk.cond (b := !(sameB a xs b ys)) rfl (fun h35 => ?_) (fun h35 => ?_)
   ·
    replace h35 := not_true h35
    refine Wk.seq ?_
    refine Wk.regionQ ?_
    refine Lq.run 2 rfl ?_
    refine Lq.nil ?_
    refine Kt.sel [10] [_] rfl ?_
    refine Wk.ret (Kt.end1 rfl rfl fun w' hw => ?_)
    -- ret 0: sl_ p13 0 0
    exact ⟨_, rfl, hw.below, hw.newRow (i := 0) (n := 0) rfl (by simp) (by omega) (by simp [ints])⟩
   ·
    replace h35 := not_false h35
    exact absurd hv (by unfold ansOk; rw [← inB_el]; simp_all)
  ·
   replace hg28 := not_true hg28
   refine Lq.pass rfl rfl rfl ?_
   refine Lq.pass rfl rfl rfl ?_
   refine Lq.pass rfl rfl rfl ?_
   refine Lq.pass rfl rfl rfl ?_
   refine Lq.pass rfl rfl rfl ?_
   refine Lq.pass rfl rfl rfl ?_
   refine Lq.run 1 rfl ?_
   refine Lq.nil ?_
   refine Kt.sel [1, 3, 4, 5, 7, 11, 35] [_, _, _, _, _, _, _] rfl ?_
   refine Wk.condT rfl ?_
   refine Wk.seq ?_
   refine Wk.regionQ ?_
   refine Lq.run 2 rfl ?_
   refine Lq.nil ?_
   refine Kt.sel [10] [_] rfl ?_
   refine Wk.ret (Kt.end1 rfl rfl fun w' hw => ?_)
   -- ret 1: sl_ p13 0 0
   exact ⟨_, rfl, hw.below, hw.newRow (i := 0) (n := 0) rfl (by simp) (by omega) (by simp [ints])⟩
 ·
  replace hg20 := not_true hg20
  refine Lq.pass rfl rfl rfl ?_
  refine Lq.pass rfl rfl rfl ?_
  refine Lq.pass rfl rfl rfl ?_
  refine Lq.pass rfl rfl rfl ?_
  refine Lq.pass rfl rfl rfl ?_
  refine Lq.pass rfl rfl rfl ?_
  refine Lq.run 2 rfl ?_
  refine Lq.pass rfl rfl rfl ?_
  refine Lq.pass rfl rfl rfl ?_
  refine Lq.pass rfl rfl rfl ?_
  refine Lq.pass rfl rfl rfl ?_
  refine Lq.pass rfl rfl rfl ?_
  refine Lq.pass rfl rfl rfl ?_
  refine Lq.run 1 rfl ?_
  refine Lq.nil ?_
  refine Kt.sel [1, 3, 4, 5, 7, 11, 35] [_, _, _, _, _, _, _] rfl ?_
  refine Wk.condT rfl ?_
  refine Wk.seq ?_
  refine Wk.regionQ ?_
  refine Lq.run 2 rfl ?_
  refine Lq.nil ?_
  refine Kt.sel [10] [_] rfl ?_
  refine Wk.ret (Kt.end1 rfl rfl fun w' hw => ?_)
  -- ret 2: sl_ p13 0 0
  exact ⟨_, rfl, hw.below, hw.newRow (i := 0) (n := 0) rfl (by simp) (by omega) (by simp [ints])⟩

set_option maxHeartbeats 400000 in
/-- impl.AnswersTo|no -/
theorem iAns_no (a b : St) (xs ys : List Int) (va vb : Value) (x : Int) (w : World) (hsa : a.Small) (hsb : b.Small) (hva : Ints w va xs) (hvb : Ints w vb ys) (hs1 : xs.length ≤ 140737488355328) (hs2 : ys.length ≤ 140737488355328) (hv : ansOk a xs b ys x = false) :
    Calls Tryd.prog 21 [vS a, va, vS b, vb, i6_ x].toArray w fun en w' => en = .returned (.slice none 0 0) ∧ Below w.heap.size w w' := by
 refine fnStart (n := 53) (e := [(0, vS a), (1, va), (2, vS b), (3, vb), (4, i6_ x)]) Tryd.func21 rfl rfl rfl rfl Ends.both ?_
 refine Wk.seq ?_
 refine Wk.region ?_
 refine Ll.box (v := vS a) rfl rfl rfl rfl rfl fun p5 hp5 => ?_
 show Ll _ _ (Own _ _ [_]) _ _ ((5, pt_ p5) :: _) _ _ _
 refine Ll.box (v := vS b) rfl rfl rfl rfl rfl fun p7 hp7 => ?_
 show Ll _ _ (Own _ _ [_, _]) _ _ ((7, pt_ p7) :: _) _ _ _
 refine Ll.run 1 rfl ?_
 refine Ll.nil ?_
 refine Kt.sel [1, 3, 4, 5, 7] [_, _, _, _, _] rfl ?_
 refine Wk.seq ?_
 refine Wk.seq ?_
 refine Wk.region ?_
 refine Ll.op rfl rfl rfl (OpQ.loadBox (cs := #[i6_ a.n, str a.set, str a.rel]) 1 rfl Tryd.isAgg24 rfl rfl Tryd.sizeOf24) ?_
 refine Ll.run 1 rfl ?_
 refine Ll.op rfl rfl rfl (OpQ.loadBox (cs := #[i6_ b.n, str b.set, str b.rel]) 0 rfl Tryd.isAgg24 rfl rfl Tryd.sizeOf24) ?_
 refine Ll.run 1 rfl ?_
 refine Ll.op (v := bo_ (listsB a xs b ys)) rfl rfl rfl (OpQ.call rfl Tryd.call69 rfl Own.stable (fun w1 hw1 => areLists_ok a b xs ys va vb w1 hsa hsb (Row.own hva hw1) (Row.own hvb hw1) (by first | (simp; done) | (simp; omega) | omega) (by first | (simp; done) | (simp; omega) | omega))) ?_
 refine Ll.run 2 rfl ?_
 refine Ll.bool fun b19 hg19 => ?_
 cases b19
 ·
  replace hg19 := not_false hg19
  obtain ⟨LA, LB, hlen⟩ := listsB_true hg19
  have ha := LA.fine
  have hb := LB.fine
  have hA := LA.els
  have hB := LB.els
  have hl4 := LA.len
  refine Ll.op rfl rfl rfl (OpQ.loadBox (cs := #[i6_ a.n, str a.set, str a.rel]) 1 rfl Tryd.isAgg24 rfl rfl Tryd.sizeOf24) ?_
  refine Ll.run 1 rfl ?_
  refine Ll.op rfl rfl rfl (OpQ.loadBox (cs := #[i6_ b.n, str b.set, str b.rel]) 0 rfl Tryd.isAgg24 rfl rfl Tryd.sizeOf24) ?_
  refine Ll.run 1 rfl ?_
  refine Ll.op (v := bo_ (sameB a xs b ys)) rfl rfl rfl (OpQ.call rfl Tryd.call65 rfl Own.stable (fun w1 hw1 => sameWay_ok a b xs ys va vb w1 ha hb (Row.own hva hw1) (Row.own hvb hw1) hA hB (by omega) (by omega))) ?_
  refine Ll.run 3 rfl ?_
  refine Ll.bool fun b27 hg27 => ?_
  cases b27
  ·
   replace hg27 := not_false hg27
   refine Ll.op rfl rfl rfl (OpQ.loadBox (cs := #[i6_ a.n, str a.set, str a.rel]) 1 rfl Tryd.isAgg24 rfl rfl Tryd.sizeOf24) ?_
   refine Ll.run 1 rfl ?_
   refine Ll.slice (xs := [.tmp 29]) (vs := [i6_ x]) Base.elem25 rfl rfl rfl rfl rfl rfl (by decide) rfl fun p30 hp30 => ?_
   refine Ll.op (v := bo_ (([x]).all (elB a))) rfl rfl rfl (OpQ.call rfl Tryd.call72 rfl Own.stable (fun w1 hw1 => areElements_ok a (sl_ p30 1 1) ([x]) w1 (Own.row hw1 (i := 0) rfl (n := 1) (cap := 1) (vs := ints [x]) rfl rfl (by decide)) (by first | (simp; done) | (simp; omega) | omega))) ?_
   refine Ll.run 2 rfl ?_
   refine Ll.nil ?_
   refine Kt.sel [1, 3, 4, 5, 7, 33] [_, _, _, _, _, _] rfl ?_
   refine Wk.cond (b := !(([x]).all (elB a))) rfl (fun h33 => ?_) (fun h33 => ?_)
   ·
    replace h33 := not_true h33
    refine Wk.seq ?_
    refine Wk.regionQ ?_
    refine Lq.run 1 rfl ?_
    refine Lq.nil ?_
    refine Kt.sel [10] [_] rfl ?_
    refine Wk.ret (Kt.end1 rfl rfl fun w' hw => ?_)
    -- ret 0: .slice none 0 0
    exact ⟨rfl, hw.below⟩
   ·
    replace h33 := not_false h33
    exact absurd hv (by unfold ansOk; simp_all)
  ·
   replace hg27 := not_true hg27
   refine Ll.pass rfl rfl rfl ?_
   refine Ll.pass rfl rfl rfl ?_
   refine Ll.pass rfl rfl rfl ?_
   refine Ll.pass rfl rfl rfl ?_
   refine Ll.pass rfl rfl rfl ?_
   refine Ll.run 1 rfl ?_
   refine Ll.nil ?_
   refine Kt.sel [1, 3, 4, 5, 7, 33] [_, _, _, _, _, _] rfl ?_
   refine Wk.condT rfl ?_
   refine Wk.seq ?_
   refine Wk.regionQ ?_
   refine Lq.run 1 rfl ?_
   refine Lq.nil ?_
   refine Kt.sel [10] [_] rfl ?_
   refine Wk.ret (Kt.end1 rfl rfl fun w' hw => ?_)
   -- ret 1: .slice none 0 0
   exact ⟨rfl, hw.below⟩
 ·
  replace hg19 := not_true hg19
  refine Ll.pass rfl rfl rfl ?_
  refine Ll.pass rfl rfl rfl ?_
  refine Ll.pass rfl rfl rfl ?_
  refine Ll.pass rfl rfl rfl ?_
  refine Ll.pass rfl rfl rfl ?_
  refine Ll.pass rfl rfl rfl ?_
  refine Ll.run 2 rfl ?_
  refine Ll.pass rfl rfl rfl ?_
  refine Ll.pass rfl rfl rfl ?_
  refine Ll.pass rfl rfl rfl ?_
  refine Ll.pass rfl rfl rfl ?_
  refine Ll.pass rfl rfl rfl ?_
  refine Ll.run 1 rfl ?_
  refine Ll.nil ?_
  refine Kt.sel [1, 3, 4, 5, 7, 33] [_, _, _, _, _, _] rfl ?_
  refine Wk.condT rfl ?_
  refine Wk.seq ?_
  refine Wk.regionQ ?_
  refine Lq.run 1 rfl ?_
  refine Lq.nil ?_
  refine Kt.sel [10] [_] rfl ?_
  refine Wk.ret (Kt.end1 rfl rfl fun w' hw => ?_)
  -- ret 2: .slice none 0 0
  exact ⟨rfl, hw.below⟩

theorem iAns_all (a b : St) (xs ys : List Int) (va vb : Value) (x : Int) (B : Nat) (w0 : World) (hs : List (Nat × Obj)) (w : World) (hsa : a.Small) (hsb : b.Small) (hva : Ints w va xs) (hvb : Ints w vb ys) (hs1 : xs.length ≤ 140737488355328) (hs2 : ys.length ≤ 140737488355328) (_loa : -9223372036854775808 ≤ a.n) (_hia : a.n ≤ 9223372036854775807) (lob : -9223372036854775808 ≤ b.n) (hib : b.n ≤ 9223372036854775807) (hw : Own B w0 hs w) :
    Calls Tryd.prog 21 [vS a, va, vS b, vb, .int .i64 x].toArray w fun en w' => ∃ (v : Value) (new : List (Nat × Obj)), en = .returned v ∧ (∀ w1, Own B w0 new w1 → Ints w1 v (ansL a xs b ys x)) ∧ Own B w0 (new ++ hs) w' := by
  cases hv : ansOk a xs b ys x with
  | true =>
    refine (iAns_yes a b xs ys va vb x w hsa hsb hva hvb hs1 hs2 lob hib hv).mono fun en w' ⟨v, h1, h2, g, cap, cur, h3, h4, h5, h6, h7, h8⟩ => ?_
    subst h3
    exact ⟨_, [(g, .cells cur 3 (0, 0))], h1, fun w1 h => by rw [ansL, if_pos hv]; exact Own.row h (i := 0) rfl (by simpa using h8) (by simp) h7, hw.learn h2 h4 h5⟩
  | false =>
    refine (iAns_no a b xs ys va vb x w hsa hsb hva hvb hs1 hs2 hv).mono fun en w' ⟨h1, h2⟩ => ?_
    exact ⟨_, [], h1, fun w1 h => by rw [ansL, if_neg (by rw [hv]; decide)]; exact Ints.nil, hw.calls h2⟩
theorem sAns_all (a b : St) (xs ys : List Int) (va vb : Value) (x : Int) (B : Nat) (w0 : World) (hs : List (Nat × Obj)) (w : World) (hsa : a.Small) (hsb : b.Small) (hva : Ints w va xs) (hvb : Ints w vb ys) (hs1 : xs.length ≤ 140737488355328) (hs2 : ys.length ≤ 140737488355328) (loa : -9223372036854775808 ≤ a.n) (hia : a.n ≤ 9223372036854775807) (lob : -9223372036854775808 ≤ b.n) (hib : b.n ≤ 9223372036854775807) (hw : Own B w0 hs w) :
    Calls Tryd.prog 23 [vS a, va, vS b, vb, .int .i64 x].toArray w fun en w' => ∃ (v : Value) (new : List (Nat × Obj)), en = .returned v ∧ (∀ w1, Own B w0 new w1 → Ints w1 v (ansL a xs b ys x)) ∧ Own B w0 (new ++ hs) w' := by
  cases hv : ansOk a xs b ys x with
  | true =>
    refine (sAns_yes a b xs ys va vb x w hsa hsb hva hvb hs1 hs2 loa hia lob hib hv).mono fun en w' ⟨v, h1, h2, g, cap, cur, h3, h4, h5, h6, h7, h8⟩ => ?_
    subst h3
    exact ⟨_, [(g, .cells cur 3 (0, 0))], h1, fun w1 h => by rw [ansL, if_pos hv]; exact Own.row h (i := 0) rfl (by simpa using h8) (by simp) h7, hw.learn h2 h4 h5⟩
  | false =>
    refine (sAns_no a b xs ys va vb x w hsa hsb hva hvb hs1 hs2 loa hia lob hib hv).mono fun en w' ⟨v, h1, h2, g, cap, cur, h3, h4, h5, h6, h7, h8⟩ => ?_
    subst h3
    exact ⟨_, [(g, .cells cur 3 (0, 0))], h1, fun w1 h => by rw [ansL, if_neg (by rw [hv]; decide)]; exact Own.row h (i := 0) rfl (by simpa using h8) (by simp) h7, hw.learn h2 h4 h5⟩

set_option maxHeartbeats 400000 in
/-- laws.gsSame -/
theorem gsSame_ok (va vb : Value) (xs ys : List Int) (w : World) (hva : Ints w va xs) (hvb : Ints w vb ys) (hs1 : xs.length ≤ 1000000) (_hs2 : ys.length ≤ 1000000) :
    Calls Tryd.prog 22 [va, vb].toArray w fun en w' => en = .returned (.bool (xs == ys)) ∧ Below w.heap.size w w' := by
 refine fnStart (n := 26) (e := [(0, va), (1, vb)]) Tryd.func22 rfl rfl rfl rfl Ends.both ?_
 refine Wk.seq ?_
 refine Wk.regionQ ?_
 refine Lq.run 1 rfl ?_
 refine Lq.nil ?_
 refine Kt.sel [0, 1] [_, _] rfl ?_
 refine Wk.seq ?_
 refine Wk.seq ?_
 refine Wk.regionQ ?_
 refine Lq.run 1 rfl ?_
 refine Lq.op rfl rfl rfl (OpQ.lenRow rfl Tryd.runUnderlying25 rfl (ints_length _) (fun w1 hw1 => Row.own hva hw1)) ?_
 refine Lq.run 1 rfl ?_
 refine Lq.op rfl rfl rfl (OpQ.lenRow rfl Tryd.runUnderlying25 rfl (ints_length _) (fun w1 hw1 => Row.own hvb hw1)) ?_
 refine Lq.run 1 rfl ?_
 refine Lq.nil ?_
 refine Kt.sel [0, 1, 10] [_, _, _] rfl ?_
 refine Wk.cond (b := !(decide (((xs.length : Int)) = ((ys.length : Int))))) rfl (fun h10 => ?_) (fun h10 => ?_)
 ·
  replace h10 := not_true h10
  replace h10 := of_decide_eq_false h10
  refine Wk.seq ?_
  refine Wk.regionQ ?_
  refine Lq.run 1 rfl ?_
  refine Lq.nil ?_
  refine Kt.sel [4] [_] rfl ?_
  refine Wk.ret (Kt.end1 rfl rfl fun w' hw => ?_)
  -- ret 0: bo_ false
  exact ⟨ret_b (Eq.symm (beq_eq_false_iff_ne.2 fun e => by rw [e] at h10; exact h10 rfl)), hw.below⟩
 ·
  replace h10 := not_false h10
  replace h10 := of_decide_eq_true h10
  refine Wk.skip ?_
  refine Kt.sel [0, 1] [_, _] rfl ?_
  refine Wk.seq ?_
  refine Wk.seq ?_
  refine Wk.regionQ ?_
  refine Lq.run 1 rfl ?_
  refine Lq.nil ?_
  refine Kt.sel [0, 1, 5] [_, _, _] rfl ?_
  refine Wk.block ?_
  refine Wk.loop (σ := Nat) (fun k => k ≤ xs.length ∧ ∀ i : Nat, i < k → xs.getD i 0 = ys.getD i 0) (fun k => [(0, va), (1, vb), (5, i6_ ((k : Int)))]) (fun k => Own w.heap.size w []) (fun k => xs.length - k) (0) ⟨by omega, fun i hi => absurd hi (by omega)⟩ (Sub.sel [0, 1, 5] rfl) (fun _ h => h) ?_
  rintro k ⟨hk, hall⟩
  refine Wk.seq ?_
  refine Wk.seq ?_
  refine Wk.regionQ ?_
  refine Lq.run 2 rfl ?_
  refine Lq.op rfl rfl rfl (OpQ.lenRow rfl Tryd.runUnderlying25 rfl (ints_length _) (fun w1 hw1 => Row.own hva hw1)) ?_
  refine Lq.run 1 rfl ?_
  refine Lq.nil ?_
  refine Kt.sel [0, 1, 5, 14] [_, _, _, _] rfl ?_
  refine Wk.cond (b := decide (((k : Int)) < ((xs.length : Int)))) rfl (fun h14 => ?_) (fun h14 => ?_)
  ·
   replace h14 := of_decide_eq_true h14
   refine Wk.skip ?_
   refine Kt.sel [0, 1, 5] [_, _, _] rfl ?_
   refine Wk.seq ?_
   refine Wk.block ?_
   refine Wk.seq ?_
   refine Wk.regionD Base.mixed (fun _ h => h.drawn) (by kernel_rfl) ?_
   refine Lq.run 2 rfl ?_
   refine Lq.op (v := .pointer (some (sAt va ((k : Int))))) rfl rfl rfl (OpQ.atRow rfl Tryd.runUnderlying25 Tryd.sizeOf3 rfl rfl (by omega) (by rw [ints_length]; omega) (fun w1 hw1 => Row.own hva hw1)) ?_
   refine Lq.op (v := i6_ (xs.getD (((k : Int)).toNat) 0)) rfl rfl rfl (OpQ.load1 rfl Tryd.isAgg3 rfl (fun w1 hw1 => Ints.cell (Row.own hva hw1) (by omega) (by omega))) ?_
   refine Lq.run 2 rfl ?_
   refine Lq.op (v := .pointer (some (sAt vb ((k : Int))))) rfl rfl rfl (OpQ.atRow rfl Tryd.runUnderlying25 Tryd.sizeOf3 rfl rfl (by omega) (by rw [ints_length]; omega) (fun w1 hw1 => Row.own hvb hw1)) ?_
   refine Lq.op (v := i6_ (ys.getD (((k : Int)).toNat) 0)) rfl rfl rfl (OpQ.load1 rfl Tryd.isAgg3 rfl (fun w1 hw1 => Ints.cell (Row.own hvb hw1) (by omega) (by omega))) ?_
   refine Lq.run 1 rfl ?_
   refine Lq.nil ?_
   refine Kt.sel [0, 1, 5, 25] [_, _, _, _] rfl ?_
   refine Wk.cond (b := !(decide ((xs.getD (((k : Int)).toNat) 0) = (ys.getD (((k : Int)).toNat) 0)))) rfl (fun h25 => ?_) (fun h25 => ?_)
   ·
    replace h25 := not_true h25
    replace h25 := of_decide_eq_false h25
    refine Wk.seq ?_
    refine Wk.regionQ ?_
    refine Lq.run 1 rfl ?_
    refine Lq.nil ?_
    refine Kt.sel [4] [_] rfl ?_
    refine Wk.ret (Kt.end1 rfl rfl fun w' hw => ?_)
    -- ret 1: bo_ false
    exact ⟨ret_b (other_list (i := k) (by simpa using h25)).symm, hw.below⟩
   ·
    replace h25 := not_false h25
    replace h25 := of_decide_eq_true h25
    refine Wk.skip ?_
    refine Kt.sel [0, 1, 5] [_, _, _] rfl ?_
    refine Wk.regionQ ?_
    refine Lq.run 1 rfl ?_
    refine Lq.op rfl rfl rfl (OpQ.add rfl rfl rfl (by omega) (by omega)) ?_
    refine Lq.run 1 rfl ?_
    refine Lq.nil ?_
    refine Kt.again (k + 1) ⟨by omega, fun i hi => (Nat.lt_succ_iff_lt_or_eq.1 hi).elim (hall i) (fun e => by subst e; simpa using h25)⟩ (by omega) (Sub.sel [0, 1, 5] rfl) (fun _ h => h)
  ·
   replace h14 := of_decide_eq_false h14
   refine Wk.exit rfl ?_
   refine Kt.sel [] [] rfl ?_
   refine Wk.seq ?_
   refine Wk.regionQ ?_
   refine Lq.run 1 rfl ?_
   refine Lq.nil ?_
   refine Kt.sel [4] [_] rfl ?_
   refine Wk.ret (Kt.end1 rfl rfl fun w' hw => ?_)
   -- ret 2: bo_ true
   exact ⟨ret_b (same_list (by omega) (fun i hi => hall i (by omega))).symm, hw.below⟩

set_option maxHeartbeats 400000 in
/-- laws.gsHas -/
theorem gsHas_ok (va : Value) (xs : List Int) (y : Int) (w : World) (hva : Ints w va xs) (hs1 : xs.length ≤ 1000000) :
    Calls Tryd.prog 24 [va, i6_ y].toArray w fun en w' => en = .returned (.bool (decide (y ∈ xs))) ∧ Below w.heap.size w w' := by
 refine fnStart (n := 18) (e := [(0, va), (1, i6_ y)]) Tryd.func24 rfl rfl rfl rfl Ends.both ?_
 refine Wk.seq ?_
 refine Wk.regionQ ?_
 refine Lq.run 1 rfl ?_
 refine Lq.nil ?_
 refine Kt.sel [0, 1] [_, _] rfl ?_
 refine Wk.seq ?_
 refine Wk.seq ?_
 refine Wk.regionQ ?_
 refine Lq.run 1 rfl ?_
 refine Lq.nil ?_
 refine Kt.sel [0, 1, 5] [_, _, _] rfl ?_
 refine Wk.block ?_
 refine Wk.loop (σ := Nat) (fun k => k ≤ xs.length ∧ ∀ i : Nat, i < k → ¬ xs.getD i 0 = y) (fun k => [(0, va), (1, i6_ y), (5, i6_ ((k : Int)))]) (fun k => Own w.heap.size w []) (fun k => xs.length - k) (0) ⟨by omega, fun i hi => absurd hi (by omega)⟩ (Sub.sel [0, 1, 5] rfl) (fun _ h => h) ?_
 rintro k ⟨hk, hall⟩
 refine Wk.seq ?_
 refine Wk.seq ?_
 refine Wk.regionQ ?_
 refine Lq.run 2 rfl ?_
 refine Lq.op rfl rfl rfl (OpQ.lenRow rfl Tryd.runUnderlying25 rfl (ints_length _) (fun w1 hw1 => Row.own hva hw1)) ?_
 refine Lq.run 1 rfl ?_
 refine Lq.nil ?_
 refine Kt.sel [0, 1, 5, 9] [_, _, _, _] rfl ?_
 refine Wk.cond (b := decide (((k : Int)) < ((xs.length : Int)))) rfl (fun h9 => ?_) (fun h9 => ?_)
 ·
  replace h9 := of_decide_eq_true h9
  refine Wk.skip ?_
  refine Kt.sel [0, 1, 5] [_, _, _] rfl ?_
  refine Wk.seq ?_
  refine Wk.block ?_
  refine Wk.seq ?_
  refine Wk.regionQ ?_
  refine Lq.run 2 rfl ?_
  refine Lq.op (v := .pointer (some (sAt va ((k : Int))))) rfl rfl rfl (OpQ.atRow rfl Tryd.runUnderlying25 Tryd.sizeOf3 rfl rfl (by omega) (by rw [ints_length]; omega) (fun w1 hw1 => Row.own hva hw1)) ?_
  refine Lq.op (v := i6_ (xs.getD (((k : Int)).toNat) 0)) rfl rfl rfl (OpQ.load1 rfl Tryd.isAgg3 rfl (fun w1 hw1 => Ints.cell (Row.own hva hw1) (by omega) (by omega))) ?_
  refine Lq.run 2 rfl ?_
  refine Lq.nil ?_
  refine Kt.sel [0, 1, 5, 17] [_, _, _, _] rfl ?_
  refine Wk.cond (b := decide ((xs.getD (((k : Int)).toNat) 0) = y)) rfl (fun h17 => ?_) (fun h17 => ?_)
  ·
   replace h17 := of_decide_eq_true h17
   refine Wk.seq ?_
   refine Wk.regionQ ?_
   refine Lq.run 1 rfl ?_
   refine Lq.nil ?_
   refine Kt.sel [4] [_] rfl ?_
   refine Wk.ret (Kt.end1 rfl rfl fun w' hw => ?_)
   -- ret 0: bo_ true
   exact ⟨ret_b (mem_of_at (i := k) (by omega) (by simpa using h17)).symm, hw.below⟩
  ·
   replace h17 := of_decide_eq_false h17
   refine Wk.skip ?_
   refine Kt.sel [0, 1, 5] [_, _, _] rfl ?_
   refine Wk.regionQ ?_
   refine Lq.run 1 rfl ?_
   refine Lq.op rfl rfl rfl (OpQ.add rfl rfl rfl (by omega) (by omega)) ?_
   refine Lq.run 1 rfl ?_
   refine Lq.nil ?_
   refine Kt.again (k + 1) ⟨by omega, fun i hi => (Nat.lt_succ_iff_lt_or_eq.1 hi).elim (hall i) (fun e => by subst e; simpa using h17)⟩ (by omega) (Sub.sel [0, 1, 5] rfl) (fun _ h => h)
 ·
  replace h9 := of_decide_eq_false h9
  refine Wk.exit rfl ?_
  refine Kt.sel [] [] rfl ?_
  refine Wk.seq ?_
  refine Wk.regionQ ?_
  refine Lq.run 1 rfl ?_
  refine Lq.nil ?_
  refine Kt.sel [4] [_] rfl ?_
  refine Wk.ret (Kt.end1 rfl rfl fun w' hw => ?_)
  -- ret 1: bo_ false
  exact ⟨ret_b (not_mem_of (fun i hi => hall i (by omega))).symm, hw.below⟩

end Go.Proofs.YtmannilblelfjaaDoor
