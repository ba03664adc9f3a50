/-
  Answers, by walks.
-/
import Derived.Test.YtcanofailfbllaaDoorPlain5
import Derived.Test.YtcanofailfbllaaDoorPart
import Derived.Test.YtcanofailfbllaaDoorBase
namespace Go.Proofs.YtcanofailfbllaaDoor
open Go.RowKit Go.Wk
set_option linter.unusedSimpArgs false

set_option maxHeartbeats 400000 in
/-- spec.l4With -/
theorem l4With_ok (va : Value) (xs : List Int) (x : Int) (w : World) (hva : Ints w va xs) (hs : xs.length ≤ 1048576) :
    Calls Tryd.prog 92 [va, .int .i64 x].toArray w fun en w' => ∃ v, en = .returned v ∧ Below w.heap.size w w' ∧ NewRow w.heap.size 3 1 w' v (xs ++ [x]).length (ints (xs ++ [x])) := by
  refine fnStart (n := 11) (e := [(0, va), (1, .int .i64 x)]) Tryd.func92 rfl rfl rfl rfl Ends.both ?_
  refine Wk.seq ?_
  refine Wk.regionQ ?_
  refine Lq.op (v := .slice none 0 0) rfl rfl rfl (OpQ.assign rfl rfl) ?_
  refine Lq.nil ?_
  refine Kt.onSub (e' := [(0, va), (1, .int .i64 x)]) (Sub.cons rfl (Sub.cons rfl Sub.nil)) ?_
  refine Wk.seq ?_
  refine Wk.region ?_
  refine Ll.slice (xs := []) (vs := []) Base.elem31 rfl rfl rfl rfl rfl rfl (by decide) rfl fun p5 hp5 => ?_
  refine Ll.op (v := va) rfl rfl rfl (OpQ.move rfl rfl) ?_
  refine Ll.appendInts (xs := []) (ys := xs) Base.elem31 0 rfl rfl rfl rfl rfl rfl rfl rfl (by decide) rfl (fun w1 hw1 => (Row.own hva hw1)) ((xs).length) (by first | (simp; done) | (simp; omega)) (by first | (simp; done) | (simp; omega) | omega) fun p7 cap7 cur7 hp7 hcp7 hlp7 htp7 => ?_
  show Ll _ _ (Own _ _ [(p7, .cells cur7 3 (0, 0))]) _ _ ((7, .slice (some ⟨p7, 0, none⟩) (((xs).length)) cap7) :: _) _ _ _
  refine Ll.op (v := .int .i64 x) rfl rfl rfl (OpQ.move rfl rfl) ?_
  refine Ll.slice (xs := [.tmp 8]) (vs := [.int .i64 x]) Base.elem31 rfl rfl rfl rfl rfl rfl (by decide) rfl fun p9 hp9 => ?_
  refine Ll.appendInts (xs := xs) (ys := [x]) Base.elem31 1 rfl rfl rfl rfl rfl rfl rfl hcp7 hlp7 (by simpa using htp7) (fun w1 hw1 => (Own.row hw1 (i := 0) rfl (n := 1) (cap := 1) (vs := ints [x]) rfl rfl (by decide))) ((xs ++ ([x])).length) (by first | (simp; done) | (simp; omega)) (by first | (simp; done) | (simp; omega) | omega) fun p10 cap10 cur10 hp10 hcp10 hlp10 htp10 => ?_
  show Ll _ _ (Own _ _ [(p9, .cells #[.int .i64 x] 3 (0, 0)), (p10, .cells cur10 3 (0, 0))]) _ _ ((10, .slice (some ⟨p10, 0, none⟩) (((xs ++ ([x])).length)) cap10) :: _) _ _ _
  refine Ll.op (v := .slice (some ⟨p10, 0, none⟩) (((xs ++ ([x])).length)) cap10) rfl rfl rfl (OpQ.assign rfl rfl) ?_
  refine Ll.nil ?_
  refine Kt.onSub (e' := [(4, .slice (some ⟨p10, 0, none⟩) (((xs ++ ([x])).length)) cap10)]) (Sub.cons rfl Sub.nil) ?_
  refine Wk.ret (Kt.end1 rfl rfl fun w' hw => ?_)
  -- ret 0: .slice (some ⟨p10, 0, none⟩) (((xs ++ ([x])).length)) cap10
  exact ⟨_, rfl, hw.below, hw.newRow (i := 1) (n := _) rfl (by assumption) (by assumption) (by assumption)⟩

set_option maxHeartbeats 400000 in
/-- spec.AnswersTo|yes -/
theorem sAns_yes (a b : St) (xs ys : List Int) (va vb : Value) (x : Int) (w : World) (hsa : a.Small) (hsb : b.Small) (hva : Ints w va xs) (hvb : Ints w vb ys) (hs1 : xs.length ≤ 140737488355328) (hs2 : ys.length ≤ 140737488355328) (loa : -9223372036854775808 ≤ a.n) (hia : a.n ≤ 9223372036854775807) (lob : -9223372036854775808 ≤ b.n) (hib : b.n ≤ 9223372036854775807) (hv : ansOk a xs b ys x = true) :
    Calls Tryd.prog 48 [vS a, va, vS b, vb, .int .i64 x].toArray w fun en w' => ∃ v, en = .returned v ∧ Below w.heap.size w w' ∧ NewRow w.heap.size 3 1 w' v (ansTo a xs b ys x b.n.toNat).length (ints (ansTo a xs b ys x b.n.toNat)) := by
  refine fnStart (n := 57) (e := [(0, vS a), (1, va), (2, vS b), (3, vb), (4, .int .i64 x)]) Tryd.func48 rfl rfl rfl rfl Ends.both ?_
  obtain ⟨hLL, hel, hway⟩ := ansOk_true hv
  obtain ⟨LA, LB, hlen⟩ := listsB_true hLL
  have ha := LA.fine
  have hb := LB.fine
  have hA := LA.els
  have hB := LB.els
  have hl4 := LA.len
  have hx := elB_true.1 hel
  have hn8 := hb.hi
  have hn1 := hb.lo
  have ha8 := ha.hi
  have ha1 := ha.lo
  refine Wk.seq ?_
  refine Wk.region ?_
  refine Ll.box (v := vS a) rfl rfl rfl rfl rfl fun p5 hp5 => ?_
  show Ll _ _ (Own _ _ [(p5, .cells #[.int .i64 a.n, str a.set, str a.rel] 26 (0, 0))]) _ _ ((5, .pointer (some ⟨p5, 0, none⟩)) :: _) _ _ _
  refine Ll.box (v := vS b) rfl rfl rfl rfl rfl fun p7 hp7 => ?_
  show Ll _ _ (Own _ _ [(p7, .cells #[.int .i64 b.n, str b.set, str b.rel] 26 (0, 0)), (p5, .cells #[.int .i64 a.n, str a.set, str a.rel] 26 (0, 0))]) _ _ ((7, .pointer (some ⟨p7, 0, none⟩)) :: _) _ _ _
  refine Ll.op (v := .slice none 0 0) rfl rfl rfl (OpQ.assign rfl rfl) ?_
  refine Ll.nil ?_
  refine Kt.onSub (e' := [(1, va), (3, vb), (4, .int .i64 x), (5, .pointer (some ⟨p5, 0, none⟩)), (7, .pointer (some ⟨p7, 0, none⟩))]) (Sub.cons rfl (Sub.cons rfl (Sub.cons rfl (Sub.cons rfl (Sub.cons rfl Sub.nil))))) ?_
  refine Wk.seq ?_
  refine Wk.region ?_
  refine Ll.slice (xs := []) (vs := []) Base.elem31 rfl rfl rfl rfl rfl rfl (by decide) rfl fun p13 hp13 => ?_
  refine Ll.op (v := .slice (some ⟨p13, 0, none⟩) 0 0) rfl rfl rfl (OpQ.assign rfl rfl) ?_
  refine Ll.nil ?_
  refine Kt.onSub (e' := [(1, va), (3, vb), (4, .int .i64 x), (5, .pointer (some ⟨p5, 0, none⟩)), (7, .pointer (some ⟨p7, 0, none⟩)), (11, .slice (some ⟨p13, 0, none⟩) 0 0)]) (Sub.cons rfl (Sub.cons rfl (Sub.cons rfl (Sub.cons rfl (Sub.cons rfl (Sub.cons rfl Sub.nil)))))) ?_
  refine Wk.seq ?_
  refine Wk.seq ?_
  refine Wk.regionQ ?_
  refine Lq.op (v := vS a) rfl rfl rfl (OpQ.loadBox (cs := #[.int .i64 a.n, str a.set, str a.rel]) 2 rfl Tryd.isAgg26 rfl rfl Tryd.sizeOf26) ?_
  refine Lq.op (v := va) rfl rfl rfl (OpQ.move rfl rfl) ?_
  refine Lq.op (v := vS b) rfl rfl rfl (OpQ.loadBox (cs := #[.int .i64 b.n, str b.set, str b.rel]) 1 rfl Tryd.isAgg26 rfl rfl Tryd.sizeOf26) ?_
  refine Lq.op (v := vb) rfl rfl rfl (OpQ.move rfl rfl) ?_
  refine Lq.op (v := .bool true) rfl rfl rfl (OpQ.call rfl Tryd.call64 rfl Own.stable (fun w1 hw1 => known_b hLL (l4Lists_ok a b xs ys va vb w1 hsa hsb (Row.own hva hw1) (Row.own hvb hw1) (by first | (simp; done) | (simp; omega) | omega) (by first | (simp; done) | (simp; omega) | omega) loa hia lob hib))) ?_
  refine Lq.op (v := .bool false) rfl rfl rfl (OpQ.notT rfl rfl) ?_
  refine Lq.op (v := .bool false) rfl rfl rfl (OpQ.move rfl rfl) ?_
  refine Lq.op (v := .int .i64 x) rfl rfl rfl (OpQ.move rfl rfl) ?_
  refine Lq.op (v := .pointer (some ⟨p5, 0, none⟩)) rfl rfl rfl (OpQ.fieldAddr rfl Tryd.runUnderlying26 rfl Tryd.sizeOf3 rfl rfl) ?_
  refine Lq.op (v := .int .i64 a.n) rfl rfl rfl (OpQ.loadOwn 2 rfl Tryd.isAgg3 rfl rfl rfl) ?_
  refine Lq.op (v := .int .i64 (a.n - (1 : Int))) rfl rfl rfl (OpQ.sub rfl rfl rfl (by omega) (by omega)) ?_
  refine Lq.op (v := .bool true) rfl rfl rfl (OpQ.call rfl Tryd.call52 rfl Own.stable (fun w1 hw1 => known_b (inB_el.trans hel) (l1In_ok x 0 (a.n - (1 : Int)) w1 ))) ?_
  refine Lq.op (v := .bool false) rfl rfl rfl (OpQ.notT rfl rfl) ?_
  refine Lq.op (v := .bool false) rfl rfl rfl (OpQ.pickF rfl rfl rfl) ?_
  refine Lq.op (v := .bool false) rfl rfl rfl (OpQ.move rfl rfl) ?_
  refine Lq.op (v := vS a) rfl rfl rfl (OpQ.loadBox (cs := #[.int .i64 a.n, str a.set, str a.rel]) 2 rfl Tryd.isAgg26 rfl rfl Tryd.sizeOf26) ?_
  refine Lq.op (v := va) rfl rfl rfl (OpQ.move rfl rfl) ?_
  refine Lq.op (v := vS b) rfl rfl rfl (OpQ.loadBox (cs := #[.int .i64 b.n, str b.set, str b.rel]) 1 rfl Tryd.isAgg26 rfl rfl Tryd.sizeOf26) ?_
  refine Lq.op (v := vb) rfl rfl rfl (OpQ.move rfl rfl) ?_
  refine Lq.op (v := .bool true) rfl rfl rfl (OpQ.call rfl Tryd.call77 rfl Own.stable (fun w1 hw1 => known_b hway (l4Partial_ok a b xs ys va vb w1 ha hb (Row.own hva hw1) (Row.own hvb hw1) hA hB (by omega) (by omega)))) ?_
  refine Lq.op (v := .bool false) rfl rfl rfl (OpQ.notT rfl rfl) ?_
  refine Lq.op (v := .bool false) rfl rfl rfl (OpQ.pickF rfl rfl rfl) ?_
  refine Lq.nil ?_
  refine Kt.onSub (e' := [(1, va), (3, vb), (4, .int .i64 x), (5, .pointer (some ⟨p5, 0, none⟩)), (7, .pointer (some ⟨p7, 0, none⟩)), (11, .slice (some ⟨p13, 0, none⟩) 0 0), (35, .bool false)]) (Sub.cons rfl (Sub.cons rfl (Sub.cons rfl (Sub.cons rfl (Sub.cons rfl (Sub.cons rfl (Sub.cons rfl Sub.nil))))))) ?_
  refine Wk.condF rfl ?_
  refine Wk.skip ?_
  refine Kt.onSub (e' := [(1, va), (3, vb), (4, .int .i64 x), (5, .pointer (some ⟨p5, 0, none⟩)), (7, .pointer (some ⟨p7, 0, none⟩)), (11, .slice (some ⟨p13, 0, none⟩) 0 0)]) (Sub.cons rfl (Sub.cons rfl (Sub.cons rfl (Sub.cons rfl (Sub.cons rfl (Sub.cons rfl Sub.nil)))))) ?_
  refine Wk.seq ?_
  refine Wk.seq ?_
  refine Wk.regionQ ?_
  refine Lq.op (v := .int .i64 0) rfl rfl rfl (OpQ.assign rfl rfl) ?_
  refine Lq.nil ?_
  refine Kt.onSub (e' := [(1, va), (3, vb), (4, .int .i64 x), (5, .pointer (some ⟨p5, 0, none⟩)), (7, .pointer (some ⟨p7, 0, none⟩)), (11, .slice (some ⟨p13, 0, none⟩) 0 0), (12, .int .i64 0)]) (Sub.cons rfl (Sub.cons rfl (Sub.cons rfl (Sub.cons rfl (Sub.cons rfl (Sub.cons rfl (Sub.cons rfl Sub.nil))))))) ?_
  refine Wk.block ?_
  refine Wk.loop (σ := Nat × Nat × Nat × Array Value) (fun ⟨k, g, c, cur⟩ => ((k : Int) ≤ b.n) ∧ w.heap.size ≤ g ∧ cur.size = c * 1 ∧ (ansTo a xs b ys x k).length ≤ c ∧ cur.toList.take ((ansTo a xs b ys x k).length * 1) = ints (ansTo a xs b ys x k)) (fun ⟨k, g, c, cur⟩ => [(1, va), (3, vb), (4, .int .i64 x), (5, .pointer (some ⟨p5, 0, none⟩)), (7, .pointer (some ⟨p7, 0, none⟩)), (11, .slice (some ⟨g, 0, none⟩) ((ansTo a xs b ys x k).length) c), (12, .int .i64 ((k : Int)))]) (fun ⟨k, g, c, cur⟩ => Own w.heap.size w [(g, .cells cur 3 (0, 0)), (p7, .cells #[.int .i64 b.n, str b.set, str b.rel] 26 (0, 0)), (p5, .cells #[.int .i64 a.n, str a.set, str a.rel] 26 (0, 0))]) (fun ⟨k, g, c, cur⟩ => (b.n - k).toNat) ((0, p13, 0, #[])) ⟨by omega, hp13, rfl, by simp, rfl⟩ (Sub.cons rfl (Sub.cons rfl (Sub.cons rfl (Sub.cons rfl (Sub.cons rfl (Sub.cons rfl (Sub.cons rfl Sub.nil))))))) (fun _ h => h) ?_
  rintro ⟨k, g, c, cur⟩ ⟨hk, hg, hc, hl, ht⟩
  dsimp only
  refine Wk.seq ?_
  refine Wk.seq ?_
  refine Wk.regionQ ?_
  refine Lq.op (v := .int .i64 ((k : Int))) rfl rfl rfl (OpQ.move rfl rfl) ?_
  refine Lq.op (v := .pointer (some ⟨p7, 0, none⟩)) rfl rfl rfl (OpQ.fieldAddr rfl Tryd.runUnderlying26 rfl Tryd.sizeOf3 rfl rfl) ?_
  refine Lq.op (v := .int .i64 b.n) rfl rfl rfl (OpQ.loadOwn 1 rfl Tryd.isAgg3 rfl rfl rfl) ?_
  refine Lq.op (v := .bool (decide (((k : Int)) < b.n))) rfl rfl rfl (OpQ.lss rfl rfl rfl) ?_
  refine Lq.nil ?_
  refine Kt.onSub (e' := [(1, va), (3, vb), (4, .int .i64 x), (5, .pointer (some ⟨p5, 0, none⟩)), (7, .pointer (some ⟨p7, 0, none⟩)), (11, .slice (some ⟨g, 0, none⟩) ((ansTo a xs b ys x k).length) c), (12, .int .i64 ((k : Int))), (40, .bool (decide (((k : Int)) < b.n)))]) (Sub.cons rfl (Sub.cons rfl (Sub.cons rfl (Sub.cons rfl (Sub.cons rfl (Sub.cons rfl (Sub.cons rfl (Sub.cons rfl Sub.nil)))))))) ?_
  refine Wk.cond (b := decide (((k : Int)) < b.n)) rfl (fun h40 => ?_) (fun h40 => ?_)
  · skip
    replace h40 := of_decide_eq_true h40
    have hy : b.El k := ⟨by omega, by omega⟩
    have hle := ansTo_le a xs b ys x k
    refine Wk.skip ?_
    refine Kt.onSub (e' := [(1, va), (3, vb), (4, .int .i64 x), (5, .pointer (some ⟨p5, 0, none⟩)), (7, .pointer (some ⟨p7, 0, none⟩)), (11, .slice (some ⟨g, 0, none⟩) ((ansTo a xs b ys x k).length) c), (12, .int .i64 ((k : Int)))]) (Sub.cons rfl (Sub.cons rfl (Sub.cons rfl (Sub.cons rfl (Sub.cons rfl (Sub.cons rfl (Sub.cons rfl Sub.nil))))))) ?_
    refine Wk.seq ?_
    refine Wk.block ?_
    refine Wk.seq ?_
    refine Wk.regionO [(0, true), (1, true), (2, true), (4, true), (5, true), (6, true), (3, false), (7, false), (8, false)] Base.mixed (fun _ h => h.drawn) (by kernel_rfl) ?_
    refine Ld.take (v := vS a) rfl rfl rfl rfl rfl (OpQ.loadBox (cs := #[.int .i64 a.n, str a.set, str a.rel]) 2 rfl Tryd.isAgg26 rfl rfl Tryd.sizeOf26) (fun _ h => h) ?_
    refine Ld.take (v := va) rfl rfl rfl rfl rfl (OpQ.move rfl rfl) (fun _ h => h) ?_
    refine Ld.take (v := .int .i64 x) rfl rfl rfl rfl rfl (OpQ.move rfl rfl) (fun _ h => h) ?_
    refine Ld.take (v := vS b) rfl rfl rfl rfl rfl (OpQ.loadBox (cs := #[.int .i64 b.n, str b.set, str b.rel]) 1 rfl Tryd.isAgg26 rfl rfl Tryd.sizeOf26) (fun _ h => h) ?_
    refine Ld.take (v := vb) rfl rfl rfl rfl rfl (OpQ.move rfl rfl) (fun _ h => h) ?_
    refine Ld.take (v := .int .i64 ((k : Int))) rfl rfl rfl rfl rfl (OpQ.move rfl rfl) (fun _ h => h) ?_
    refine Ld.loud rfl ?_
    refine Ll.callRow (xs := [.tmp 44, .tmp 45]) (m := (xs ++ [x]).length) (vs := ints (xs ++ [x])) (el := 3) (size := 1) rfl rfl rfl rfl Tryd.call92 rfl (fun w1 hw1 => l4With_ok va xs x w1 (Row.own hva hw1) (by omega)) fun p46 cap46 cur46 hp46 hcp46 hlp46 htp46 => ?_
    refine Ll.nil (Ld.joint (fun _ h => h.tail) ?_)
    refine Ld.loud rfl ?_
    refine Ll.callRow (xs := [.tmp 48, .tmp 49]) (m := (ys ++ [(k : Int)]).length) (vs := ints (ys ++ [(k : Int)])) (el := 3) (size := 1) rfl rfl rfl rfl Tryd.call92 rfl (fun w1 hw1 => l4With_ok vb ys ((k : Int)) w1 (Row.own hvb hw1) (by omega)) fun p50 cap50 cur50 hp50 hcp50 hlp50 htp50 => ?_
    refine Ll.nil (Ld.joint (fun _ h => h.tail.tail) ?_)
    refine Ld.loud rfl ?_
    refine Ll.op (v := .bool (stillB a xs b ys x k)) rfl rfl rfl (OpQ.call rfl Tryd.call82 rfl Own.stable (fun w1 hw1 => known_b (still_more hlen) (fits_ok a b (xs ++ [x]) (ys ++ [(k : Int)]) (.slice (some ⟨p46, 0, none⟩) ((xs ++ [x]).length) cap46) (.slice (some ⟨p50, 0, none⟩) ((ys ++ [(k : Int)]).length) cap50) xs.length w1 ha hb (Own.row hw1 (i := 1) rfl (by simpa using htp46) (by simp) hlp46) (Own.row hw1 (i := 0) rfl (by simpa using htp50) (by simp) hlp50) (hA.snoc hx) (hB.snoc hy) (by simp) (by simp [hlen]) (by omega)))) ?_
    refine Ll.nil (Ld.joint (fun _ h => h.tail.tail) ?_)
    refine Ld.nil ?_
    refine Kt.onSub (e' := [(1, va), (3, vb), (4, .int .i64 x), (5, .pointer (some ⟨p5, 0, none⟩)), (7, .pointer (some ⟨p7, 0, none⟩)), (11, .slice (some ⟨g, 0, none⟩) ((ansTo a xs b ys x k).length) c), (12, .int .i64 ((k : Int))), (51, .bool (stillB a xs b ys x k))]) (Sub.cons rfl (Sub.cons rfl (Sub.cons rfl (Sub.cons rfl (Sub.cons rfl (Sub.cons rfl (Sub.cons rfl (Sub.cons rfl Sub.nil)))))))) ?_
    refine Wk.cond (b := stillB a xs b ys x k) rfl (fun h51 => ?_) (fun h51 => ?_)
    · skip
      refine Wk.region ?_
      refine Ll.op (v := .slice (some ⟨g, 0, none⟩) ((ansTo a xs b ys x k).length) c) rfl rfl rfl (OpQ.move rfl rfl) ?_
      refine Ll.op (v := .int .i64 ((k : Int))) rfl rfl rfl (OpQ.move rfl rfl) ?_
      refine Ll.slice (xs := [.tmp 53]) (vs := [.int .i64 ((k : Int))]) Base.elem31 rfl rfl rfl rfl rfl rfl (by decide) rfl fun p54 hp54 => ?_
      refine Ll.appendInts (xs := ansTo a xs b ys x k) (ys := [(k : Int)]) Base.elem31 3 rfl rfl rfl rfl rfl rfl rfl hc hl (by simpa using ht) (fun w1 hw1 => (Own.row hw1 (i := 0) rfl (n := 1) (cap := 1) (vs := ints [(k : Int)]) rfl rfl (by decide))) (((ansTo a xs b ys x k) ++ ([(k : Int)])).length) (by first | (simp; done) | (simp; omega)) (by first | (simp; done) | (simp; omega) | omega) fun p55 cap55 cur55 hp55 hcp55 hlp55 htp55 => ?_
      show Ll _ _ (Own _ _ [(p54, .cells #[.int .i64 ((k : Int))] 3 (0, 0)), (p50, .cells cur50 3 (0, 0)), (p46, .cells cur46 3 (0, 0)), (p55, .cells cur55 3 (0, 0)), (p7, .cells #[.int .i64 b.n, str b.set, str b.rel] 26 (0, 0)), (p5, .cells #[.int .i64 a.n, str a.set, str a.rel] 26 (0, 0))]) _ _ ((55, .slice (some ⟨p55, 0, none⟩) ((((ansTo a xs b ys x k) ++ ([(k : Int)])).length)) cap55) :: _) _ _ _
      refine Ll.op (v := .slice (some ⟨p55, 0, none⟩) ((((ansTo a xs b ys x k) ++ ([(k : Int)])).length)) cap55) rfl rfl rfl (OpQ.assign rfl rfl) ?_
      refine Ll.nil ?_
      refine Kt.onSub (e' := [(1, va), (3, vb), (4, .int .i64 x), (5, .pointer (some ⟨p5, 0, none⟩)), (7, .pointer (some ⟨p7, 0, none⟩)), (11, .slice (some ⟨p55, 0, none⟩) ((((ansTo a xs b ys x k) ++ ([(k : Int)])).length)) cap55), (12, .int .i64 ((k : Int)))]) (Sub.cons rfl (Sub.cons rfl (Sub.cons rfl (Sub.cons rfl (Sub.cons rfl (Sub.cons rfl (Sub.cons rfl Sub.nil))))))) ?_
      refine Wk.regionQ ?_
      refine Lq.op (v := .int .i64 ((k : Int))) rfl rfl rfl (OpQ.move rfl rfl) ?_
      refine Lq.op (v := .int .i64 (((k : Int)) + (1 : Int))) rfl rfl rfl (OpQ.add rfl rfl rfl (by omega) (by omega)) ?_
      refine Lq.op (v := .int .i64 (((k : Int)) + (1 : Int))) rfl rfl rfl (OpQ.assign rfl rfl) ?_
      refine Lq.nil ?_
      refine Kt.again ((k + 1, p55, cap55, cur55)) ⟨(by omega), (by omega), hcp55, (by rw [ansTo_yes (by assumption)]; exact hlp55), (by rw [ansTo_yes (by assumption)]; exact htp55)⟩ (by omega) (Sub.cons rfl (Sub.cons rfl (Sub.cons rfl (Sub.cons rfl (Sub.cons rfl (Sub.cons (by rw [ansTo_yes (by assumption)]; rfl) (Sub.cons rfl Sub.nil))))))) (fun _ h => h.tail.tail.tail)
    · skip
      refine Wk.skip ?_
      refine Kt.onSub (e' := [(1, va), (3, vb), (4, .int .i64 x), (5, .pointer (some ⟨p5, 0, none⟩)), (7, .pointer (some ⟨p7, 0, none⟩)), (11, .slice (some ⟨g, 0, none⟩) ((ansTo a xs b ys x k).length) c), (12, .int .i64 ((k : Int)))]) (Sub.cons rfl (Sub.cons rfl (Sub.cons rfl (Sub.cons rfl (Sub.cons rfl (Sub.cons rfl (Sub.cons rfl Sub.nil))))))) ?_
      refine Wk.regionQ ?_
      refine Lq.op (v := .int .i64 ((k : Int))) rfl rfl rfl (OpQ.move rfl rfl) ?_
      refine Lq.op (v := .int .i64 (((k : Int)) + (1 : Int))) rfl rfl rfl (OpQ.add rfl rfl rfl (by omega) (by omega)) ?_
      refine Lq.op (v := .int .i64 (((k : Int)) + (1 : Int))) rfl rfl rfl (OpQ.assign rfl rfl) ?_
      refine Lq.nil ?_
      refine Kt.again ((k + 1, g, c, cur)) ⟨(by omega), hg, hc, (by rw [ansTo_no (by assumption)]; exact hl), (by rw [ansTo_no (by assumption)]; exact ht)⟩ (by omega) (Sub.cons rfl (Sub.cons rfl (Sub.cons rfl (Sub.cons rfl (Sub.cons rfl (Sub.cons (by rw [ansTo_no (by assumption)]; rfl) (Sub.cons rfl Sub.nil))))))) (fun _ h => h.tail.tail)
  · skip
    replace h40 := of_decide_eq_false h40
    refine Wk.exit rfl ?_
    refine Kt.onSub (e' := [(11, .slice (some ⟨g, 0, none⟩) ((ansTo a xs b ys x k).length) c)]) (Sub.cons rfl Sub.nil) ?_
    refine Wk.seq ?_
    refine Wk.regionQ ?_
    refine Lq.op (v := .slice (some ⟨g, 0, none⟩) ((ansTo a xs b ys x k).length) c) rfl rfl rfl (OpQ.move rfl rfl) ?_
    refine Lq.op (v := .slice (some ⟨g, 0, none⟩) ((ansTo a xs b ys x k).length) c) rfl rfl rfl (OpQ.assign rfl rfl) ?_
    refine Lq.nil ?_
    refine Kt.onSub (e' := [(10, .slice (some ⟨g, 0, none⟩) ((ansTo a xs b ys x k).length) c)]) (Sub.cons rfl Sub.nil) ?_
    refine Wk.ret (Kt.end1 rfl rfl fun w' hw => ?_)
    -- ret 0: .slice (some ⟨g, 0, none⟩) ((ansTo a xs b ys x k).length) c
    obtain rfl : k = b.n.toNat := by omega
    exact ⟨_, rfl, hw.below, hw.newRow (i := 0) (n := _) rfl hc hl ht⟩

set_option maxHeartbeats 400000 in
/-- impl.AnswersTo|yes -/
theorem iAns_yes (a b : St) (xs ys : List Int) (va vb : Value) (x : Int) (w : World) (hsa : a.Small) (hsb : b.Small) (hva : Ints w va xs) (hvb : Ints w vb ys) (hs1 : xs.length ≤ 140737488355328) (hs2 : ys.length ≤ 140737488355328) (lob : -9223372036854775808 ≤ b.n) (hib : b.n ≤ 9223372036854775807) (hv : ansOk a xs b ys x = true) :
    Calls Tryd.prog 46 [vS a, va, vS b, vb, .int .i64 x].toArray w fun en w' => ∃ v, en = .returned v ∧ Below w.heap.size w w' ∧ NewRow w.heap.size 3 1 w' v (ansTo a xs b ys x b.n.toNat).length (ints (ansTo a xs b ys x b.n.toNat)) := by
  refine fnStart (n := 53) (e := [(0, vS a), (1, va), (2, vS b), (3, vb), (4, .int .i64 x)]) Tryd.func46 rfl rfl rfl rfl Ends.both ?_
  obtain ⟨hLL, hel, hway⟩ := ansOk_true hv
  obtain ⟨LA, LB, hlen⟩ := listsB_true hLL
  have ha := LA.fine
  have hb := LB.fine
  have hA := LA.els
  have hB := LB.els
  have hl4 := LA.len
  have hx := elB_true.1 hel
  have hn8 := hb.hi
  have hn1 := hb.lo
  have ha8 := ha.hi
  have ha1 := ha.lo
  refine Wk.seq ?_
  refine Wk.region ?_
  refine Ll.box (v := vS a) rfl rfl rfl rfl rfl fun p5 hp5 => ?_
  show Ll _ _ (Own _ _ [(p5, .cells #[.int .i64 a.n, str a.set, str a.rel] 26 (0, 0))]) _ _ ((5, .pointer (some ⟨p5, 0, none⟩)) :: _) _ _ _
  refine Ll.box (v := vS b) rfl rfl rfl rfl rfl fun p7 hp7 => ?_
  show Ll _ _ (Own _ _ [(p7, .cells #[.int .i64 b.n, str b.set, str b.rel] 26 (0, 0)), (p5, .cells #[.int .i64 a.n, str a.set, str a.rel] 26 (0, 0))]) _ _ ((7, .pointer (some ⟨p7, 0, none⟩)) :: _) _ _ _
  refine Ll.op (v := .slice none 0 0) rfl rfl rfl (OpQ.assign rfl rfl) ?_
  refine Ll.nil ?_
  refine Kt.onSub (e' := [(1, va), (3, vb), (4, .int .i64 x), (5, .pointer (some ⟨p5, 0, none⟩)), (7, .pointer (some ⟨p7, 0, none⟩))]) (Sub.cons rfl (Sub.cons rfl (Sub.cons rfl (Sub.cons rfl (Sub.cons rfl Sub.nil))))) ?_
  refine Wk.seq ?_
  refine Wk.seq ?_
  refine Wk.region ?_
  refine Ll.op (v := vS a) rfl rfl rfl (OpQ.loadBox (cs := #[.int .i64 a.n, str a.set, str a.rel]) 1 rfl Tryd.isAgg26 rfl rfl Tryd.sizeOf26) ?_
  refine Ll.op (v := va) rfl rfl rfl (OpQ.move rfl rfl) ?_
  refine Ll.op (v := vS b) rfl rfl rfl (OpQ.loadBox (cs := #[.int .i64 b.n, str b.set, str b.rel]) 0 rfl Tryd.isAgg26 rfl rfl Tryd.sizeOf26) ?_
  refine Ll.op (v := vb) rfl rfl rfl (OpQ.move rfl rfl) ?_
  refine Ll.op (v := .bool true) rfl rfl rfl (OpQ.call rfl Tryd.call65 rfl Own.stable (fun w1 hw1 => known_b hLL (areLists_ok a b xs ys va vb w1 hsa hsb (Row.own hva hw1) (Row.own hvb hw1) (by first | (simp; done) | (simp; omega) | omega) (by first | (simp; done) | (simp; omega) | omega)))) ?_
  refine Ll.op (v := .bool false) rfl rfl rfl (OpQ.notT rfl rfl) ?_
  refine Ll.op (v := .bool false) rfl rfl rfl (OpQ.move rfl rfl) ?_
  refine Ll.op (v := vS a) rfl rfl rfl (OpQ.loadBox (cs := #[.int .i64 a.n, str a.set, str a.rel]) 1 rfl Tryd.isAgg26 rfl rfl Tryd.sizeOf26) ?_
  refine Ll.op (v := va) rfl rfl rfl (OpQ.move rfl rfl) ?_
  refine Ll.op (v := vS b) rfl rfl rfl (OpQ.loadBox (cs := #[.int .i64 b.n, str b.set, str b.rel]) 0 rfl Tryd.isAgg26 rfl rfl Tryd.sizeOf26) ?_
  refine Ll.op (v := vb) rfl rfl rfl (OpQ.move rfl rfl) ?_
  refine Ll.op (v := .bool true) rfl rfl rfl (OpQ.call rfl Tryd.call83 rfl Own.stable (fun w1 hw1 => known_b hway (sameWay_ok a b xs ys va vb w1 ha hb (Row.own hva hw1) (Row.own hvb hw1) hA hB (by omega) (by omega)))) ?_
  refine Ll.op (v := .bool false) rfl rfl rfl (OpQ.notT rfl rfl) ?_
  refine Ll.op (v := .bool false) rfl rfl rfl (OpQ.pickF rfl rfl rfl) ?_
  refine Ll.op (v := .bool false) rfl rfl rfl (OpQ.move rfl rfl) ?_
  refine Ll.op (v := vS a) rfl rfl rfl (OpQ.loadBox (cs := #[.int .i64 a.n, str a.set, str a.rel]) 1 rfl Tryd.isAgg26 rfl rfl Tryd.sizeOf26) ?_
  refine Ll.op (v := .int .i64 x) rfl rfl rfl (OpQ.move rfl rfl) ?_
  refine Ll.slice (xs := [.tmp 29]) (vs := [.int .i64 x]) Base.elem31 rfl rfl rfl rfl rfl rfl (by decide) rfl fun p30 hp30 => ?_
  refine Ll.op (v := .bool true) rfl rfl rfl (OpQ.call rfl Tryd.call75 rfl Own.stable (fun w1 hw1 => known_b (by simpa using hel) (areElements_ok a (.slice (some ⟨p30, 0, none⟩) 1 1) ([x]) w1 (Own.row hw1 (i := 0) rfl (n := 1) (cap := 1) (vs := ints [x]) rfl rfl (by decide)) (by first | (simp; done) | (simp; omega) | omega)))) ?_
  refine Ll.op (v := .bool false) rfl rfl rfl (OpQ.notT rfl rfl) ?_
  refine Ll.op (v := .bool false) rfl rfl rfl (OpQ.pickF rfl rfl rfl) ?_
  refine Ll.nil ?_
  refine Kt.onSub (e' := [(1, va), (3, vb), (4, .int .i64 x), (5, .pointer (some ⟨p5, 0, none⟩)), (7, .pointer (some ⟨p7, 0, none⟩)), (33, .bool false)]) (Sub.cons rfl (Sub.cons rfl (Sub.cons rfl (Sub.cons rfl (Sub.cons rfl (Sub.cons rfl Sub.nil)))))) ?_
  refine Wk.condF rfl ?_
  refine Wk.skip ?_
  refine Kt.onSub (e' := [(1, va), (3, vb), (4, .int .i64 x), (5, .pointer (some ⟨p5, 0, none⟩)), (7, .pointer (some ⟨p7, 0, none⟩))]) (Sub.cons rfl (Sub.cons rfl (Sub.cons rfl (Sub.cons rfl (Sub.cons rfl Sub.nil))))) ?_
  refine Wk.seq ?_
  refine Wk.region ?_
  refine Ll.slice (xs := []) (vs := []) Base.elem31 rfl rfl rfl rfl rfl rfl (by decide) rfl fun p34 hp34 => ?_
  refine Ll.op (v := .slice (some ⟨p34, 0, none⟩) 0 0) rfl rfl rfl (OpQ.assign rfl rfl) ?_
  refine Ll.nil ?_
  refine Kt.onSub (e' := [(1, va), (3, vb), (4, .int .i64 x), (5, .pointer (some ⟨p5, 0, none⟩)), (7, .pointer (some ⟨p7, 0, none⟩)), (11, .slice (some ⟨p34, 0, none⟩) 0 0)]) (Sub.cons rfl (Sub.cons rfl (Sub.cons rfl (Sub.cons rfl (Sub.cons rfl (Sub.cons rfl Sub.nil)))))) ?_
  refine Wk.seq ?_
  refine Wk.seq ?_
  refine Wk.regionQ ?_
  refine Lq.op (v := .pointer (some ⟨p7, 0, none⟩)) rfl rfl rfl (OpQ.fieldAddr rfl Tryd.runUnderlying26 rfl Tryd.sizeOf3 rfl rfl) ?_
  refine Lq.op (v := .int .i64 b.n) rfl rfl rfl (OpQ.loadOwn 2 rfl Tryd.isAgg3 rfl rfl rfl) ?_
  refine Lq.op (v := .int .i64 0) rfl rfl rfl (OpQ.move rfl rfl) ?_
  refine Lq.nil ?_
  refine Kt.onSub (e' := [(1, va), (3, vb), (4, .int .i64 x), (5, .pointer (some ⟨p5, 0, none⟩)), (7, .pointer (some ⟨p7, 0, none⟩)), (11, .slice (some ⟨p34, 0, none⟩) 0 0), (36, .int .i64 b.n), (37, .int .i64 0)]) (Sub.cons rfl (Sub.cons rfl (Sub.cons rfl (Sub.cons rfl (Sub.cons rfl (Sub.cons rfl (Sub.cons rfl (Sub.cons rfl Sub.nil)))))))) ?_
  refine Wk.block ?_
  refine Wk.loop (σ := Nat × Nat × Nat × Array Value) (fun ⟨k, g, c, cur⟩ => ((k : Int) ≤ b.n) ∧ w.heap.size ≤ g ∧ cur.size = c * 1 ∧ (ansTo a xs b ys x k).length ≤ c ∧ cur.toList.take ((ansTo a xs b ys x k).length * 1) = ints (ansTo a xs b ys x k)) (fun ⟨k, g, c, cur⟩ => [(1, va), (3, vb), (4, .int .i64 x), (5, .pointer (some ⟨p5, 0, none⟩)), (7, .pointer (some ⟨p7, 0, none⟩)), (11, .slice (some ⟨g, 0, none⟩) ((ansTo a xs b ys x k).length) c), (36, .int .i64 b.n), (37, .int .i64 ((k : Int)))]) (fun ⟨k, g, c, cur⟩ => Own w.heap.size w [(g, .cells cur 3 (0, 0)), (p30, .cells #[.int .i64 x] 3 (0, 0)), (p7, .cells #[.int .i64 b.n, str b.set, str b.rel] 26 (0, 0)), (p5, .cells #[.int .i64 a.n, str a.set, str a.rel] 26 (0, 0))]) (fun ⟨k, g, c, cur⟩ => (b.n - k).toNat) ((0, p34, 0, #[])) ⟨by omega, hp34, rfl, by simp, rfl⟩ (Sub.cons rfl (Sub.cons rfl (Sub.cons rfl (Sub.cons rfl (Sub.cons rfl (Sub.cons rfl (Sub.cons rfl (Sub.cons rfl Sub.nil)))))))) (fun _ h => h) ?_
  rintro ⟨k, g, c, cur⟩ ⟨hk, hg, hc, hl, ht⟩
  dsimp only
  refine Wk.seq ?_
  refine Wk.regionQ ?_
  refine Lq.op (v := .bool (decide (((k : Int)) < b.n))) rfl rfl rfl (OpQ.lss rfl rfl rfl) ?_
  refine Lq.nil ?_
  refine Kt.onSub (e' := [(1, va), (3, vb), (4, .int .i64 x), (5, .pointer (some ⟨p5, 0, none⟩)), (7, .pointer (some ⟨p7, 0, none⟩)), (11, .slice (some ⟨g, 0, none⟩) ((ansTo a xs b ys x k).length) c), (36, .int .i64 b.n), (37, .int .i64 ((k : Int))), (38, .bool (decide (((k : Int)) < b.n)))]) (Sub.cons rfl (Sub.cons rfl (Sub.cons rfl (Sub.cons rfl (Sub.cons rfl (Sub.cons rfl (Sub.cons rfl (Sub.cons rfl (Sub.cons rfl Sub.nil))))))))) ?_
  refine Wk.seq ?_
  refine Wk.cond (b := decide (((k : Int)) < b.n)) rfl (fun h38 => ?_) (fun h38 => ?_)
  · skip
    replace h38 := of_decide_eq_true h38
    have hy : b.El k := ⟨by omega, by omega⟩
    have hle := ansTo_le a xs b ys x k
    refine Wk.skip ?_
    refine Kt.onSub (e' := [(1, va), (3, vb), (4, .int .i64 x), (5, .pointer (some ⟨p5, 0, none⟩)), (7, .pointer (some ⟨p7, 0, none⟩)), (11, .slice (some ⟨g, 0, none⟩) ((ansTo a xs b ys x k).length) c), (36, .int .i64 b.n), (37, .int .i64 ((k : Int)))]) (Sub.cons rfl (Sub.cons rfl (Sub.cons rfl (Sub.cons rfl (Sub.cons rfl (Sub.cons rfl (Sub.cons rfl (Sub.cons rfl Sub.nil)))))))) ?_
    refine Wk.seq ?_
    refine Wk.block ?_
    refine Wk.seq ?_
    refine Wk.regionQ ?_
    refine Lq.op (v := .int .i64 ((k : Int))) rfl rfl rfl (OpQ.move rfl rfl) ?_
    refine Lq.op (v := .int .i64 ((k : Int))) rfl rfl rfl (OpQ.assign rfl rfl) ?_
    refine Lq.nil ?_
    refine Kt.onSub (e' := [(1, va), (3, vb), (4, .int .i64 x), (5, .pointer (some ⟨p5, 0, none⟩)), (7, .pointer (some ⟨p7, 0, none⟩)), (11, .slice (some ⟨g, 0, none⟩) ((ansTo a xs b ys x k).length) c), (12, .int .i64 ((k : Int))), (36, .int .i64 b.n), (37, .int .i64 ((k : Int)))]) (Sub.cons rfl (Sub.cons rfl (Sub.cons rfl (Sub.cons rfl (Sub.cons rfl (Sub.cons rfl (Sub.cons rfl (Sub.cons rfl (Sub.cons rfl Sub.nil))))))))) ?_
    refine Wk.seq ?_
    refine Wk.regionQ ?_
    refine Lq.op (v := vS a) rfl rfl rfl (OpQ.loadBox (cs := #[.int .i64 a.n, str a.set, str a.rel]) 3 rfl Tryd.isAgg26 rfl rfl Tryd.sizeOf26) ?_
    refine Lq.op (v := va) rfl rfl rfl (OpQ.move rfl rfl) ?_
    refine Lq.op (v := vS b) rfl rfl rfl (OpQ.loadBox (cs := #[.int .i64 b.n, str b.set, str b.rel]) 2 rfl Tryd.isAgg26 rfl rfl Tryd.sizeOf26) ?_
    refine Lq.op (v := vb) rfl rfl rfl (OpQ.move rfl rfl) ?_
    refine Lq.op (v := .int .i64 x) rfl rfl rfl (OpQ.move rfl rfl) ?_
    refine Lq.op (v := .int .i64 ((k : Int))) rfl rfl rfl (OpQ.move rfl rfl) ?_
    refine Lq.op (v := .bool (stillB a xs b ys x ((k : Int)))) rfl rfl rfl (OpQ.call rfl Tryd.call81 rfl Own.stable (fun w1 hw1 => stillSame_ok a b xs ys va vb x ((k : Int)) w1 (ha) (hb) ((Row.own hva hw1)) ((Row.own hvb hw1)) (hA) (hB) ((by first | (simp; done) | (simp; omega) | omega)) ((by first | (simp; done) | (simp; omega) | omega)) ((by first | assumption | exact St.Els.at (by assumption) (by omega) (by omega))) ((by first | assumption | exact St.Els.at (by assumption) (by omega) (by omega))))) ?_
    refine Lq.nil ?_
    refine Kt.onSub (e' := [(1, va), (3, vb), (4, .int .i64 x), (5, .pointer (some ⟨p5, 0, none⟩)), (7, .pointer (some ⟨p7, 0, none⟩)), (11, .slice (some ⟨g, 0, none⟩) ((ansTo a xs b ys x k).length) c), (12, .int .i64 ((k : Int))), (36, .int .i64 b.n), (37, .int .i64 ((k : Int))), (46, .bool (stillB a xs b ys x ((k : Int))))]) (Sub.cons rfl (Sub.cons rfl (Sub.cons rfl (Sub.cons rfl (Sub.cons rfl (Sub.cons rfl (Sub.cons rfl (Sub.cons rfl (Sub.cons rfl (Sub.cons rfl Sub.nil)))))))))) ?_
    refine Wk.cond (b := stillB a xs b ys x ((k : Int))) rfl (fun h46 => ?_) (fun h46 => ?_)
    · skip
      refine Wk.region ?_
      refine Ll.op (v := .slice (some ⟨g, 0, none⟩) ((ansTo a xs b ys x k).length) c) rfl rfl rfl (OpQ.move rfl rfl) ?_
      refine Ll.op (v := .int .i64 ((k : Int))) rfl rfl rfl (OpQ.move rfl rfl) ?_
      refine Ll.slice (xs := [.tmp 48]) (vs := [.int .i64 ((k : Int))]) Base.elem31 rfl rfl rfl rfl rfl rfl (by decide) rfl fun p49 hp49 => ?_
      refine Ll.appendInts (xs := ansTo a xs b ys x k) (ys := [(k : Int)]) Base.elem31 1 rfl rfl rfl rfl rfl rfl rfl hc hl (by simpa using ht) (fun w1 hw1 => (Own.row hw1 (i := 0) rfl (n := 1) (cap := 1) (vs := ints [(k : Int)]) rfl rfl (by decide))) (((ansTo a xs b ys x k) ++ ([(k : Int)])).length) (by first | (simp; done) | (simp; omega)) (by first | (simp; done) | (simp; omega) | omega) fun p50 cap50 cur50 hp50 hcp50 hlp50 htp50 => ?_
      show Ll _ _ (Own _ _ [(p49, .cells #[.int .i64 ((k : Int))] 3 (0, 0)), (p50, .cells cur50 3 (0, 0)), (p30, .cells #[.int .i64 x] 3 (0, 0)), (p7, .cells #[.int .i64 b.n, str b.set, str b.rel] 26 (0, 0)), (p5, .cells #[.int .i64 a.n, str a.set, str a.rel] 26 (0, 0))]) _ _ ((50, .slice (some ⟨p50, 0, none⟩) ((((ansTo a xs b ys x k) ++ ([(k : Int)])).length)) cap50) :: _) _ _ _
      refine Ll.op (v := .slice (some ⟨p50, 0, none⟩) ((((ansTo a xs b ys x k) ++ ([(k : Int)])).length)) cap50) rfl rfl rfl (OpQ.assign rfl rfl) ?_
      refine Ll.nil ?_
      refine Kt.onSub (e' := [(1, va), (3, vb), (4, .int .i64 x), (5, .pointer (some ⟨p5, 0, none⟩)), (7, .pointer (some ⟨p7, 0, none⟩)), (11, .slice (some ⟨p50, 0, none⟩) ((((ansTo a xs b ys x k) ++ ([(k : Int)])).length)) cap50), (36, .int .i64 b.n), (37, .int .i64 ((k : Int)))]) (Sub.cons rfl (Sub.cons rfl (Sub.cons rfl (Sub.cons rfl (Sub.cons rfl (Sub.cons rfl (Sub.cons rfl (Sub.cons rfl Sub.nil)))))))) ?_
      refine Wk.regionQ ?_
      refine Lq.op (v := .int .i64 (((k : Int)) + (1 : Int))) rfl rfl rfl (OpQ.add rfl rfl rfl (by omega) (by omega)) ?_
      refine Lq.op (v := .int .i64 (((k : Int)) + (1 : Int))) rfl rfl rfl (OpQ.move rfl rfl) ?_
      refine Lq.nil ?_
      refine Kt.again ((k + 1, p50, cap50, cur50)) ⟨(by omega), (by omega), hcp50, (by rw [ansTo_yes (by assumption)]; exact hlp50), (by rw [ansTo_yes (by assumption)]; exact htp50)⟩ (by omega) (Sub.cons rfl (Sub.cons rfl (Sub.cons rfl (Sub.cons rfl (Sub.cons rfl (Sub.cons (by rw [ansTo_yes (by assumption)]; rfl) (Sub.cons rfl (Sub.cons rfl Sub.nil)))))))) (fun _ h => h.tail)
    · skip
      refine Wk.skip ?_
      refine Kt.onSub (e' := [(1, va), (3, vb), (4, .int .i64 x), (5, .pointer (some ⟨p5, 0, none⟩)), (7, .pointer (some ⟨p7, 0, none⟩)), (11, .slice (some ⟨g, 0, none⟩) ((ansTo a xs b ys x k).length) c), (36, .int .i64 b.n), (37, .int .i64 ((k : Int)))]) (Sub.cons rfl (Sub.cons rfl (Sub.cons rfl (Sub.cons rfl (Sub.cons rfl (Sub.cons rfl (Sub.cons rfl (Sub.cons rfl Sub.nil)))))))) ?_
      refine Wk.regionQ ?_
      refine Lq.op (v := .int .i64 (((k : Int)) + (1 : Int))) rfl rfl rfl (OpQ.add rfl rfl rfl (by omega) (by omega)) ?_
      refine Lq.op (v := .int .i64 (((k : Int)) + (1 : Int))) rfl rfl rfl (OpQ.move rfl rfl) ?_
      refine Lq.nil ?_
      refine Kt.again ((k + 1, g, c, cur)) ⟨(by omega), hg, hc, (by rw [ansTo_no (by assumption)]; exact hl), (by rw [ansTo_no (by assumption)]; exact ht)⟩ (by omega) (Sub.cons rfl (Sub.cons rfl (Sub.cons rfl (Sub.cons rfl (Sub.cons rfl (Sub.cons (by rw [ansTo_no (by assumption)]; rfl) (Sub.cons rfl (Sub.cons rfl Sub.nil)))))))) (fun _ h => h)
  · skip
    replace h38 := of_decide_eq_false h38
    refine Wk.exit rfl ?_
    refine Kt.onSub (e' := [(11, .slice (some ⟨g, 0, none⟩) ((ansTo a xs b ys x k).length) c)]) (Sub.cons rfl Sub.nil) ?_
    refine Wk.seq ?_
    refine Wk.regionQ ?_
    refine Lq.op (v := .slice (some ⟨g, 0, none⟩) ((ansTo a xs b ys x k).length) c) rfl rfl rfl (OpQ.move rfl rfl) ?_
    refine Lq.op (v := .slice (some ⟨g, 0, none⟩) ((ansTo a xs b ys x k).length) c) rfl rfl rfl (OpQ.assign rfl rfl) ?_
    refine Lq.nil ?_
    refine Kt.onSub (e' := [(10, .slice (some ⟨g, 0, none⟩) ((ansTo a xs b ys x k).length) c)]) (Sub.cons rfl Sub.nil) ?_
    refine Wk.ret (Kt.end1 rfl rfl fun w' hw => ?_)
    -- ret 0: .slice (some ⟨g, 0, none⟩) ((ansTo a xs b ys x k).length) c
    obtain rfl : k = b.n.toNat := by omega
    exact ⟨_, rfl, hw.below, hw.newRow (i := 0) (n := _) rfl hc hl ht⟩

set_option maxHeartbeats 400000 in
/-- spec.AnswersTo|no -/
theorem sAns_no (a b : St) (xs ys : List Int) (va vb : Value) (x : Int) (w : World) (hsa : a.Small) (hsb : b.Small) (hva : Ints w va xs) (hvb : Ints w vb ys) (hs1 : xs.length ≤ 140737488355328) (hs2 : ys.length ≤ 140737488355328) (loa : -9223372036854775808 ≤ a.n) (hia : a.n ≤ 9223372036854775807) (lob : -9223372036854775808 ≤ b.n) (hib : b.n ≤ 9223372036854775807) (hv : ansOk a xs b ys x = false) :
    Calls Tryd.prog 48 [vS a, va, vS b, vb, .int .i64 x].toArray w fun en w' => ∃ v, en = .returned v ∧ Below w.heap.size w w' ∧ NewRow w.heap.size 3 1 w' v 0 (ints []) := by
  refine fnStart (n := 57) (e := [(0, vS a), (1, va), (2, vS b), (3, vb), (4, .int .i64 x)]) Tryd.func48 rfl rfl rfl rfl Ends.both ?_
  refine Wk.seq ?_
  refine Wk.region ?_
  refine Ll.box (v := vS a) rfl rfl rfl rfl rfl fun p5 hp5 => ?_
  show Ll _ _ (Own _ _ [(p5, .cells #[.int .i64 a.n, str a.set, str a.rel] 26 (0, 0))]) _ _ ((5, .pointer (some ⟨p5, 0, none⟩)) :: _) _ _ _
  refine Ll.box (v := vS b) rfl rfl rfl rfl rfl fun p7 hp7 => ?_
  show Ll _ _ (Own _ _ [(p7, .cells #[.int .i64 b.n, str b.set, str b.rel] 26 (0, 0)), (p5, .cells #[.int .i64 a.n, str a.set, str a.rel] 26 (0, 0))]) _ _ ((7, .pointer (some ⟨p7, 0, none⟩)) :: _) _ _ _
  refine Ll.op (v := .slice none 0 0) rfl rfl rfl (OpQ.assign rfl rfl) ?_
  refine Ll.nil ?_
  refine Kt.onSub (e' := [(1, va), (3, vb), (4, .int .i64 x), (5, .pointer (some ⟨p5, 0, none⟩)), (7, .pointer (some ⟨p7, 0, none⟩))]) (Sub.cons rfl (Sub.cons rfl (Sub.cons rfl (Sub.cons rfl (Sub.cons rfl Sub.nil))))) ?_
  refine Wk.seq ?_
  refine Wk.region ?_
  refine Ll.slice (xs := []) (vs := []) Base.elem31 rfl rfl rfl rfl rfl rfl (by decide) rfl fun p13 hp13 => ?_
  refine Ll.op (v := .slice (some ⟨p13, 0, none⟩) 0 0) rfl rfl rfl (OpQ.assign rfl rfl) ?_
  refine Ll.nil ?_
  refine Kt.onSub (e' := [(1, va), (3, vb), (4, .int .i64 x), (5, .pointer (some ⟨p5, 0, none⟩)), (7, .pointer (some ⟨p7, 0, none⟩)), (11, .slice (some ⟨p13, 0, none⟩) 0 0)]) (Sub.cons rfl (Sub.cons rfl (Sub.cons rfl (Sub.cons rfl (Sub.cons rfl (Sub.cons rfl Sub.nil)))))) ?_
  refine Wk.seq ?_
  refine Wk.seq ?_
  refine Wk.regionQ ?_
  refine Lq.op (v := vS a) rfl rfl rfl (OpQ.loadBox (cs := #[.int .i64 a.n, str a.set, str a.rel]) 2 rfl Tryd.isAgg26 rfl rfl Tryd.sizeOf26) ?_
  refine Lq.op (v := va) rfl rfl rfl (OpQ.move rfl rfl) ?_
  refine Lq.op (v := vS b) rfl rfl rfl (OpQ.loadBox (cs := #[.int .i64 b.n, str b.set, str b.rel]) 1 rfl Tryd.isAgg26 rfl rfl Tryd.sizeOf26) ?_
  refine Lq.op (v := vb) rfl rfl rfl (OpQ.move rfl rfl) ?_
  refine Lq.op (v := .bool (listsB a xs b ys)) rfl rfl rfl (OpQ.call rfl Tryd.call64 rfl Own.stable (fun w1 hw1 => l4Lists_ok a b xs ys va vb w1 hsa hsb (Row.own hva hw1) (Row.own hvb hw1) (by first | (simp; done) | (simp; omega) | omega) (by first | (simp; done) | (simp; omega) | omega) loa hia lob hib)) ?_
  refine Lq.op (v := .bool (!(listsB a xs b ys))) rfl rfl rfl (OpQ.not rfl rfl) ?_
  refine Lq.op (v := .bool (!(listsB a xs b ys))) rfl rfl rfl (OpQ.move rfl rfl) ?_
  refine Lq.bool fun b20 hg20 => ?_
  cases b20
  · skip
    replace hg20 := not_false hg20
    obtain ⟨LA, LB, hlen⟩ := listsB_true hg20
    have ha := LA.fine
    have hb := LB.fine
    have hA := LA.els
    have hB := LB.els
    have hl4 := LA.len
    have ha8 := ha.hi
    have ha1 := ha.lo
    refine Lq.op (v := .int .i64 x) rfl rfl rfl (OpQ.move rfl rfl) ?_
    refine Lq.op (v := .pointer (some ⟨p5, 0, none⟩)) rfl rfl rfl (OpQ.fieldAddr rfl Tryd.runUnderlying26 rfl Tryd.sizeOf3 rfl rfl) ?_
    refine Lq.op (v := .int .i64 a.n) rfl rfl rfl (OpQ.loadOwn 2 rfl Tryd.isAgg3 rfl rfl rfl) ?_
    refine Lq.op (v := .int .i64 (a.n - (1 : Int))) rfl rfl rfl (OpQ.sub rfl rfl rfl (by omega) (by omega)) ?_
    refine Lq.op (v := .bool (inB x 0 (a.n - (1 : Int)))) rfl rfl rfl (OpQ.call rfl Tryd.call52 rfl Own.stable (fun w1 hw1 => l1In_ok x 0 (a.n - (1 : Int)) w1 )) ?_
    refine Lq.op (v := .bool (!(inB x 0 (a.n - (1 : Int))))) rfl rfl rfl (OpQ.not rfl rfl) ?_
    refine Lq.op (v := .bool (!(inB x 0 (a.n - (1 : Int))))) rfl rfl rfl (OpQ.pickF rfl rfl rfl) ?_
    refine Lq.op (v := .bool (!(inB x 0 (a.n - (1 : Int))))) rfl rfl rfl (OpQ.move rfl rfl) ?_
    refine Lq.bool fun b28 hg28 => ?_
    cases b28
    · skip
      replace hg28 := not_false hg28
      refine Lq.op (v := vS a) rfl rfl rfl (OpQ.loadBox (cs := #[.int .i64 a.n, str a.set, str a.rel]) 2 rfl Tryd.isAgg26 rfl rfl Tryd.sizeOf26) ?_
      refine Lq.op (v := va) rfl rfl rfl (OpQ.move rfl rfl) ?_
      refine Lq.op (v := vS b) rfl rfl rfl (OpQ.loadBox (cs := #[.int .i64 b.n, str b.set, str b.rel]) 1 rfl Tryd.isAgg26 rfl rfl Tryd.sizeOf26) ?_
      refine Lq.op (v := vb) rfl rfl rfl (OpQ.move rfl rfl) ?_
      refine Lq.op (v := .bool (sameB a xs b ys)) rfl rfl rfl (OpQ.call rfl Tryd.call77 rfl Own.stable (fun w1 hw1 => l4Partial_ok a b xs ys va vb w1 ha hb (Row.own hva hw1) (Row.own hvb hw1) hA hB (by omega) (by omega))) ?_
      refine Lq.op (v := .bool (!(sameB a xs b ys))) rfl rfl rfl (OpQ.not rfl rfl) ?_
      refine Lq.op (v := .bool (!(sameB a xs b ys))) rfl rfl rfl (OpQ.pickF rfl rfl rfl) ?_
      refine Lq.nil ?_
      refine Kt.onSub (e' := [(1, va), (3, vb), (4, .int .i64 x), (5, .pointer (some ⟨p5, 0, none⟩)), (7, .pointer (some ⟨p7, 0, none⟩)), (11, .slice (some ⟨p13, 0, none⟩) 0 0), (35, .bool (!(sameB a xs b ys)))]) (Sub.cons rfl (Sub.cons rfl (Sub.cons rfl (Sub.cons rfl (Sub.cons rfl (Sub.cons rfl (Sub.cons rfl Sub.nil))))))) ?_
      refine Wk.cond (b := !(sameB a xs b ys)) rfl (fun h35 => ?_) (fun h35 => ?_)
      · skip
        replace h35 := not_true h35
        refine Wk.seq ?_
        refine Wk.regionQ ?_
        refine Lq.op (v := .slice (some ⟨p13, 0, none⟩) 0 0) rfl rfl rfl (OpQ.move rfl rfl) ?_
        refine Lq.op (v := .slice (some ⟨p13, 0, none⟩) 0 0) rfl rfl rfl (OpQ.assign rfl rfl) ?_
        refine Lq.nil ?_
        refine Kt.onSub (e' := [(10, .slice (some ⟨p13, 0, none⟩) 0 0)]) (Sub.cons rfl Sub.nil) ?_
        refine Wk.ret (Kt.end1 rfl rfl fun w' hw => ?_)
        -- ret 0: .slice (some ⟨p13, 0, none⟩) 0 0
        exact ⟨_, rfl, hw.below, hw.newRow (i := 0) (n := 0) rfl (by simp) (by omega) (by simp [ints])⟩
      · skip
        replace h35 := not_false h35
        exact absurd hv (by unfold ansOk; rw [← inB_el]; simp_all)
    · skip
      replace hg28 := not_true hg28
      refine Lq.pass rfl rfl rfl ?_
      refine Lq.pass rfl rfl rfl ?_
      refine Lq.pass rfl rfl rfl ?_
      refine Lq.pass rfl rfl rfl ?_
      refine Lq.pass rfl rfl rfl ?_
      refine Lq.pass rfl rfl rfl ?_
      refine Lq.op (v := .bool true) rfl rfl rfl (OpQ.pickT rfl rfl rfl) ?_
      refine Lq.nil ?_
      refine Kt.onSub (e' := [(1, va), (3, vb), (4, .int .i64 x), (5, .pointer (some ⟨p5, 0, none⟩)), (7, .pointer (some ⟨p7, 0, none⟩)), (11, .slice (some ⟨p13, 0, none⟩) 0 0), (35, .bool true)]) (Sub.cons rfl (Sub.cons rfl (Sub.cons rfl (Sub.cons rfl (Sub.cons rfl (Sub.cons rfl (Sub.cons rfl Sub.nil))))))) ?_
      refine Wk.condT rfl ?_
      refine Wk.seq ?_
      refine Wk.regionQ ?_
      refine Lq.op (v := .slice (some ⟨p13, 0, none⟩) 0 0) rfl rfl rfl (OpQ.move rfl rfl) ?_
      refine Lq.op (v := .slice (some ⟨p13, 0, none⟩) 0 0) rfl rfl rfl (OpQ.assign rfl rfl) ?_
      refine Lq.nil ?_
      refine Kt.onSub (e' := [(10, .slice (some ⟨p13, 0, none⟩) 0 0)]) (Sub.cons rfl Sub.nil) ?_
      refine Wk.ret (Kt.end1 rfl rfl fun w' hw => ?_)
      -- ret 1: .slice (some ⟨p13, 0, none⟩) 0 0
      exact ⟨_, rfl, hw.below, hw.newRow (i := 0) (n := 0) rfl (by simp) (by omega) (by simp [ints])⟩
  · skip
    replace hg20 := not_true hg20
    refine Lq.pass rfl rfl rfl ?_
    refine Lq.pass rfl rfl rfl ?_
    refine Lq.pass rfl rfl rfl ?_
    refine Lq.pass rfl rfl rfl ?_
    refine Lq.pass rfl rfl rfl ?_
    refine Lq.pass rfl rfl rfl ?_
    refine Lq.op (v := .bool true) rfl rfl rfl (OpQ.pickT rfl rfl rfl) ?_
    refine Lq.op (v := .bool true) rfl rfl rfl (OpQ.move rfl rfl) ?_
    refine Lq.pass rfl rfl rfl ?_
    refine Lq.pass rfl rfl rfl ?_
    refine Lq.pass rfl rfl rfl ?_
    refine Lq.pass rfl rfl rfl ?_
    refine Lq.pass rfl rfl rfl ?_
    refine Lq.pass rfl rfl rfl ?_
    refine Lq.op (v := .bool true) rfl rfl rfl (OpQ.pickT rfl rfl rfl) ?_
    refine Lq.nil ?_
    refine Kt.onSub (e' := [(1, va), (3, vb), (4, .int .i64 x), (5, .pointer (some ⟨p5, 0, none⟩)), (7, .pointer (some ⟨p7, 0, none⟩)), (11, .slice (some ⟨p13, 0, none⟩) 0 0), (35, .bool true)]) (Sub.cons rfl (Sub.cons rfl (Sub.cons rfl (Sub.cons rfl (Sub.cons rfl (Sub.cons rfl (Sub.cons rfl Sub.nil))))))) ?_
    refine Wk.condT rfl ?_
    refine Wk.seq ?_
    refine Wk.regionQ ?_
    refine Lq.op (v := .slice (some ⟨p13, 0, none⟩) 0 0) rfl rfl rfl (OpQ.move rfl rfl) ?_
    refine Lq.op (v := .slice (some ⟨p13, 0, none⟩) 0 0) rfl rfl rfl (OpQ.assign rfl rfl) ?_
    refine Lq.nil ?_
    refine Kt.onSub (e' := [(10, .slice (some ⟨p13, 0, none⟩) 0 0)]) (Sub.cons rfl Sub.nil) ?_
    refine Wk.ret (Kt.end1 rfl rfl fun w' hw => ?_)
    -- ret 2: .slice (some ⟨p13, 0, none⟩) 0 0
    exact ⟨_, rfl, hw.below, hw.newRow (i := 0) (n := 0) rfl (by simp) (by omega) (by simp [ints])⟩

set_option maxHeartbeats 400000 in
/-- impl.AnswersTo|no -/
theorem iAns_no (a b : St) (xs ys : List Int) (va vb : Value) (x : Int) (w : World) (hsa : a.Small) (hsb : b.Small) (hva : Ints w va xs) (hvb : Ints w vb ys) (hs1 : xs.length ≤ 140737488355328) (hs2 : ys.length ≤ 140737488355328) (hv : ansOk a xs b ys x = false) :
    Calls Tryd.prog 46 [vS a, va, vS b, vb, .int .i64 x].toArray w fun en w' => en = .returned (.slice none 0 0) ∧ Below w.heap.size w w' := by
  refine fnStart (n := 53) (e := [(0, vS a), (1, va), (2, vS b), (3, vb), (4, .int .i64 x)]) Tryd.func46 rfl rfl rfl rfl Ends.both ?_
  refine Wk.seq ?_
  refine Wk.region ?_
  refine Ll.box (v := vS a) rfl rfl rfl rfl rfl fun p5 hp5 => ?_
  show Ll _ _ (Own _ _ [(p5, .cells #[.int .i64 a.n, str a.set, str a.rel] 26 (0, 0))]) _ _ ((5, .pointer (some ⟨p5, 0, none⟩)) :: _) _ _ _
  refine Ll.box (v := vS b) rfl rfl rfl rfl rfl fun p7 hp7 => ?_
  show Ll _ _ (Own _ _ [(p7, .cells #[.int .i64 b.n, str b.set, str b.rel] 26 (0, 0)), (p5, .cells #[.int .i64 a.n, str a.set, str a.rel] 26 (0, 0))]) _ _ ((7, .pointer (some ⟨p7, 0, none⟩)) :: _) _ _ _
  refine Ll.op (v := .slice none 0 0) rfl rfl rfl (OpQ.assign rfl rfl) ?_
  refine Ll.nil ?_
  refine Kt.onSub (e' := [(1, va), (3, vb), (4, .int .i64 x), (5, .pointer (some ⟨p5, 0, none⟩)), (7, .pointer (some ⟨p7, 0, none⟩))]) (Sub.cons rfl (Sub.cons rfl (Sub.cons rfl (Sub.cons rfl (Sub.cons rfl Sub.nil))))) ?_
  refine Wk.seq ?_
  refine Wk.seq ?_
  refine Wk.region ?_
  refine Ll.op (v := vS a) rfl rfl rfl (OpQ.loadBox (cs := #[.int .i64 a.n, str a.set, str a.rel]) 1 rfl Tryd.isAgg26 rfl rfl Tryd.sizeOf26) ?_
  refine Ll.op (v := va) rfl rfl rfl (OpQ.move rfl rfl) ?_
  refine Ll.op (v := vS b) rfl rfl rfl (OpQ.loadBox (cs := #[.int .i64 b.n, str b.set, str b.rel]) 0 rfl Tryd.isAgg26 rfl rfl Tryd.sizeOf26) ?_
  refine Ll.op (v := vb) rfl rfl rfl (OpQ.move rfl rfl) ?_
  refine Ll.op (v := .bool (listsB a xs b ys)) rfl rfl rfl (OpQ.call rfl Tryd.call65 rfl Own.stable (fun w1 hw1 => areLists_ok a b xs ys va vb w1 hsa hsb (Row.own hva hw1) (Row.own hvb hw1) (by first | (simp; done) | (simp; omega) | omega) (by first | (simp; done) | (simp; omega) | omega))) ?_
  refine Ll.op (v := .bool (!(listsB a xs b ys))) rfl rfl rfl (OpQ.not rfl rfl) ?_
  refine Ll.op (v := .bool (!(listsB a xs b ys))) rfl rfl rfl (OpQ.move rfl rfl) ?_
  refine Ll.bool fun b19 hg19 => ?_
  cases b19
  · skip
    replace hg19 := not_false hg19
    obtain ⟨LA, LB, hlen⟩ := listsB_true hg19
    have ha := LA.fine
    have hb := LB.fine
    have hA := LA.els
    have hB := LB.els
    have hl4 := LA.len
    refine Ll.op (v := vS a) rfl rfl rfl (OpQ.loadBox (cs := #[.int .i64 a.n, str a.set, str a.rel]) 1 rfl Tryd.isAgg26 rfl rfl Tryd.sizeOf26) ?_
    refine Ll.op (v := va) rfl rfl rfl (OpQ.move rfl rfl) ?_
    refine Ll.op (v := vS b) rfl rfl rfl (OpQ.loadBox (cs := #[.int .i64 b.n, str b.set, str b.rel]) 0 rfl Tryd.isAgg26 rfl rfl Tryd.sizeOf26) ?_
    refine Ll.op (v := vb) rfl rfl rfl (OpQ.move rfl rfl) ?_
    refine Ll.op (v := .bool (sameB a xs b ys)) rfl rfl rfl (OpQ.call rfl Tryd.call83 rfl Own.stable (fun w1 hw1 => sameWay_ok a b xs ys va vb w1 ha hb (Row.own hva hw1) (Row.own hvb hw1) hA hB (by omega) (by omega))) ?_
    refine Ll.op (v := .bool (!(sameB a xs b ys))) rfl rfl rfl (OpQ.not rfl rfl) ?_
    refine Ll.op (v := .bool (!(sameB a xs b ys))) rfl rfl rfl (OpQ.pickF rfl rfl rfl) ?_
    refine Ll.op (v := .bool (!(sameB a xs b ys))) rfl rfl rfl (OpQ.move rfl rfl) ?_
    refine Ll.bool fun b27 hg27 => ?_
    cases b27
    · skip
      replace hg27 := not_false hg27
      refine Ll.op (v := vS a) rfl rfl rfl (OpQ.loadBox (cs := #[.int .i64 a.n, str a.set, str a.rel]) 1 rfl Tryd.isAgg26 rfl rfl Tryd.sizeOf26) ?_
      refine Ll.op (v := .int .i64 x) rfl rfl rfl (OpQ.move rfl rfl) ?_
      refine Ll.slice (xs := [.tmp 29]) (vs := [.int .i64 x]) Base.elem31 rfl rfl rfl rfl rfl rfl (by decide) rfl fun p30 hp30 => ?_
      refine Ll.op (v := .bool (([x]).all (elB a))) rfl rfl rfl (OpQ.call rfl Tryd.call75 rfl Own.stable (fun w1 hw1 => areElements_ok a (.slice (some ⟨p30, 0, none⟩) 1 1) ([x]) w1 (Own.row hw1 (i := 0) rfl (n := 1) (cap := 1) (vs := ints [x]) rfl rfl (by decide)) (by first | (simp; done) | (simp; omega) | omega))) ?_
      refine Ll.op (v := .bool (!(([x]).all (elB a)))) rfl rfl rfl (OpQ.not rfl rfl) ?_
      refine Ll.op (v := .bool (!(([x]).all (elB a)))) rfl rfl rfl (OpQ.pickF rfl rfl rfl) ?_
      refine Ll.nil ?_
      refine Kt.onSub (e' := [(1, va), (3, vb), (4, .int .i64 x), (5, .pointer (some ⟨p5, 0, none⟩)), (7, .pointer (some ⟨p7, 0, none⟩)), (33, .bool (!(([x]).all (elB a))))]) (Sub.cons rfl (Sub.cons rfl (Sub.cons rfl (Sub.cons rfl (Sub.cons rfl (Sub.cons rfl Sub.nil)))))) ?_
      refine Wk.cond (b := !(([x]).all (elB a))) rfl (fun h33 => ?_) (fun h33 => ?_)
      · skip
        replace h33 := not_true h33
        refine Wk.seq ?_
        refine Wk.regionQ ?_
        refine Lq.op (v := .slice none 0 0) rfl rfl rfl (OpQ.assign rfl rfl) ?_
        refine Lq.nil ?_
        refine Kt.onSub (e' := [(10, .slice none 0 0)]) (Sub.cons rfl Sub.nil) ?_
        refine Wk.ret (Kt.end1 rfl rfl fun w' hw => ?_)
        -- ret 0: .slice none 0 0
        exact ⟨rfl, hw.below⟩
      · skip
        replace h33 := not_false h33
        exact absurd hv (by unfold ansOk; simp_all)
    · skip
      replace hg27 := not_true hg27
      refine Ll.pass rfl rfl rfl ?_
      refine Ll.pass rfl rfl rfl ?_
      refine Ll.pass rfl rfl rfl ?_
      refine Ll.pass rfl rfl rfl ?_
      refine Ll.pass rfl rfl rfl ?_
      refine Ll.op (v := .bool true) rfl rfl rfl (OpQ.pickT rfl rfl rfl) ?_
      refine Ll.nil ?_
      refine Kt.onSub (e' := [(1, va), (3, vb), (4, .int .i64 x), (5, .pointer (some ⟨p5, 0, none⟩)), (7, .pointer (some ⟨p7, 0, none⟩)), (33, .bool true)]) (Sub.cons rfl (Sub.cons rfl (Sub.cons rfl (Sub.cons rfl (Sub.cons rfl (Sub.cons rfl Sub.nil)))))) ?_
      refine Wk.condT rfl ?_
      refine Wk.seq ?_
      refine Wk.regionQ ?_
      refine Lq.op (v := .slice none 0 0) rfl rfl rfl (OpQ.assign rfl rfl) ?_
      refine Lq.nil ?_
      refine Kt.onSub (e' := [(10, .slice none 0 0)]) (Sub.cons rfl Sub.nil) ?_
      refine Wk.ret (Kt.end1 rfl rfl fun w' hw => ?_)
      -- ret 1: .slice none 0 0
      exact ⟨rfl, hw.below⟩
  · skip
    replace hg19 := not_true hg19
    refine Ll.pass rfl rfl rfl ?_
    refine Ll.pass rfl rfl rfl ?_
    refine Ll.pass rfl rfl rfl ?_
    refine Ll.pass rfl rfl rfl ?_
    refine Ll.pass rfl rfl rfl ?_
    refine Ll.pass rfl rfl rfl ?_
    refine Ll.op (v := .bool true) rfl rfl rfl (OpQ.pickT rfl rfl rfl) ?_
    refine Ll.op (v := .bool true) rfl rfl rfl (OpQ.move rfl rfl) ?_
    refine Ll.pass rfl rfl rfl ?_
    refine Ll.pass rfl rfl rfl ?_
    refine Ll.pass rfl rfl rfl ?_
    refine Ll.pass rfl rfl rfl ?_
    refine Ll.pass rfl rfl rfl ?_
    refine Ll.op (v := .bool true) rfl rfl rfl (OpQ.pickT rfl rfl rfl) ?_
    refine Ll.nil ?_
    refine Kt.onSub (e' := [(1, va), (3, vb), (4, .int .i64 x), (5, .pointer (some ⟨p5, 0, none⟩)), (7, .pointer (some ⟨p7, 0, none⟩)), (33, .bool true)]) (Sub.cons rfl (Sub.cons rfl (Sub.cons rfl (Sub.cons rfl (Sub.cons rfl (Sub.cons rfl Sub.nil)))))) ?_
    refine Wk.condT rfl ?_
    refine Wk.seq ?_
    refine Wk.regionQ ?_
    refine Lq.op (v := .slice none 0 0) rfl rfl rfl (OpQ.assign rfl rfl) ?_
    refine Lq.nil ?_
    refine Kt.onSub (e' := [(10, .slice none 0 0)]) (Sub.cons rfl Sub.nil) ?_
    refine Wk.ret (Kt.end1 rfl rfl fun w' hw => ?_)
    -- ret 2: .slice none 0 0
    exact ⟨rfl, hw.below⟩

set_option maxHeartbeats 400000 in
/-- laws.markIntS -/
theorem markInt_ok2 (g n cap T : Nat) (cur : Array Value) (k : Int) (w : World) (hg : w.heap[g]? = some (.cells cur T (0, 0))) (hn : n ≤ cur.size) (hs : n ≤ 140737488355328) (hk0 : 0 ≤ k) (hk1 : k ≤ 1099511627776) :
    Calls Tryd.prog 31 [.slice (some ⟨g, 0, none⟩) n cap, .int .i64 k].toArray w fun en w' => en = .returned (.int .i64 (k + n)) ∧ w' = w.setRow g (markA cur k n) := by
  refine fnStartC (fun w1 => w1 = w.setRow g (markA cur k 0)) (n := 19) (e := [(0, .slice (some ⟨g, 0, none⟩) n cap), (1, .int .i64 k)]) Tryd.func31 rfl rfl rfl rfl Ends.both (row_self hg).symm ?_
  refine Wk.seq ?_
  refine Wk.regionQ ?_
  refine Lq.op (v := .int .i64 0) rfl rfl rfl (OpQ.assign rfl rfl) ?_
  refine Lq.nil ?_
  refine Kt.onSub (e' := [(0, .slice (some ⟨g, 0, none⟩) n cap), (1, .int .i64 k)]) (Sub.cons rfl (Sub.cons rfl Sub.nil)) ?_
  refine Wk.seq ?_
  refine Wk.seq ?_
  refine Wk.regionQ ?_
  refine Lq.op (v := .int .i64 0) rfl rfl rfl (OpQ.assign rfl rfl) ?_
  refine Lq.nil ?_
  refine Kt.onSub (e' := [(0, .slice (some ⟨g, 0, none⟩) n cap), (1, .int .i64 k), (5, .int .i64 0)]) (Sub.cons rfl (Sub.cons rfl (Sub.cons rfl Sub.nil))) ?_
  refine Wk.block ?_
  refine Wk.loop (σ := Nat) (fun i => i ≤ n) (fun i => [(0, .slice (some ⟨g, 0, none⟩) n cap), (1, .int .i64 ((k + (i : Int)))), (5, .int .i64 ((i : Int)))]) (fun i => (fun w1 => w1 = w.setRow g (markA cur k i))) (fun i => n - i) (0) (by omega) (Sub.cons rfl (Sub.cons (by simp [List.lookup]) (Sub.cons rfl Sub.nil))) (fun _ h => h) ?_
  rintro i hi
  refine Wk.seq ?_
  refine Wk.seq ?_
  refine Wk.regionQ ?_
  refine Lq.op (v := .int .i64 ((i : Int))) rfl rfl rfl (OpQ.move rfl rfl) ?_
  refine Lq.op (v := .slice (some ⟨g, 0, none⟩) n cap) rfl rfl rfl (OpQ.move rfl rfl) ?_
  refine Lq.op (v := .int .i64 ((n : Int))) rfl rfl rfl (OpQ.lenS rfl Tryd.runUnderlying31 rfl) ?_
  refine Lq.op (v := .bool (decide (((i : Int)) < ((n : Int))))) rfl rfl rfl (OpQ.lss rfl rfl rfl) ?_
  refine Lq.nil ?_
  refine Kt.onSub (e' := [(0, .slice (some ⟨g, 0, none⟩) n cap), (1, .int .i64 ((k + (i : Int)))), (5, .int .i64 ((i : Int))), (9, .bool (decide (((i : Int)) < ((n : Int)))))]) (Sub.cons rfl (Sub.cons rfl (Sub.cons rfl (Sub.cons rfl Sub.nil)))) ?_
  refine Wk.cond (b := decide (((i : Int)) < ((n : Int)))) rfl (fun h9 => ?_) (fun h9 => ?_)
  · skip
    replace h9 := of_decide_eq_true h9
    refine Wk.skip ?_
    refine Kt.onSub (e' := [(0, .slice (some ⟨g, 0, none⟩) n cap), (1, .int .i64 ((k + (i : Int)))), (5, .int .i64 ((i : Int)))]) (Sub.cons rfl (Sub.cons rfl (Sub.cons rfl Sub.nil))) ?_
    refine Wk.seq ?_
    refine Wk.block ?_
    refine Wk.seq ?_
    refine Wk.region ?_
    refine Ll.op (v := .slice (some ⟨g, 0, none⟩) n cap) rfl rfl rfl (OpQ.move rfl rfl) ?_
    refine Ll.op (v := .int .i64 ((i : Int))) rfl rfl rfl (OpQ.move rfl rfl) ?_
    refine Ll.op (v := .int .i64 ((k + (i : Int)))) rfl rfl rfl (OpQ.move rfl rfl) ?_
    refine Ll.op (v := .pointer (some ⟨g, 0 + ((i : Int)).toNat, none⟩)) rfl rfl rfl (OpQ.indexAddr1 rfl Tryd.runUnderlying31 Tryd.sizeOf3 rfl rfl (by omega) (by omega)) ?_
    refine Ll.storeExact (v := .int .i64 (k + (i : Int))) (g := g) (off := i) rfl rfl rfl (by simp [opd, List.lookup]) rfl rfl Tryd.sizeOf3 hg (by first | (simp; done) | (simp; omega) | omega) ?_
    refine Ll.nil ?_
    refine Kt.onSub (e' := [(0, .slice (some ⟨g, 0, none⟩) n cap), (1, .int .i64 ((k + (i : Int)))), (5, .int .i64 ((i : Int)))]) (Sub.cons rfl (Sub.cons rfl (Sub.cons rfl Sub.nil))) ?_
    refine Wk.regionQ ?_
    refine Lq.op (v := .int .i64 ((k + (i : Int)))) rfl rfl rfl (OpQ.move rfl rfl) ?_
    refine Lq.op (v := .int .i64 (((k + (i : Int))) + (1 : Int))) rfl rfl rfl (OpQ.add rfl rfl rfl (by omega) (by omega)) ?_
    refine Lq.op (v := .int .i64 (((k + (i : Int))) + (1 : Int))) rfl rfl rfl (OpQ.assign rfl rfl) ?_
    refine Lq.nil ?_
    refine Kt.onSub (e' := [(0, .slice (some ⟨g, 0, none⟩) n cap), (1, .int .i64 (((k + (i : Int))) + (1 : Int))), (5, .int .i64 ((i : Int)))]) (Sub.cons rfl (Sub.cons rfl (Sub.cons rfl Sub.nil))) ?_
    refine Wk.regionQ ?_
    refine Lq.op (v := .int .i64 ((i : Int))) rfl rfl rfl (OpQ.move rfl rfl) ?_
    refine Lq.op (v := .int .i64 (((i : Int)) + (1 : Int))) rfl rfl rfl (OpQ.add rfl rfl rfl (by omega) (by omega)) ?_
    refine Lq.op (v := .int .i64 (((i : Int)) + (1 : Int))) rfl rfl rfl (OpQ.assign rfl rfl) ?_
    refine Lq.nil ?_
    refine Kt.again (i + 1) (by omega) (by omega) (Sub.cons rfl (Sub.cons (by simp [List.lookup]; omega) (Sub.cons rfl Sub.nil))) (fun _ h => h)
  · skip
    replace h9 := of_decide_eq_false h9
    refine Wk.exit rfl ?_
    refine Kt.onSub (e' := [(1, .int .i64 ((k + (i : Int))))]) (Sub.cons rfl Sub.nil) ?_
    refine Wk.seq ?_
    refine Wk.regionQ ?_
    refine Lq.op (v := .int .i64 ((k + (i : Int)))) rfl rfl rfl (OpQ.move rfl rfl) ?_
    refine Lq.op (v := .int .i64 ((k + (i : Int)))) rfl rfl rfl (OpQ.assign rfl rfl) ?_
    refine Lq.nil ?_
    refine Kt.onSub (e' := [(4, .int .i64 ((k + (i : Int))))]) (Sub.cons rfl Sub.nil) ?_
    refine Wk.ret (Kt.end1 rfl rfl fun w' hw => ?_)
    -- ret 0: .int .i64 ((k + (i : Int)))
    exact ⟨ret_i (by omega), by obtain rfl : i = n := (by omega); exact hw⟩

end Go.Proofs.YtcanofailfbllaaDoor
