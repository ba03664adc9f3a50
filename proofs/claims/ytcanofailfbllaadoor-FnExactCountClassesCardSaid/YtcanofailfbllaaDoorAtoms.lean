/-
  Atoms, by walks.
-/
import Derived.Test.YtcanofailfbllaaDoorPlain8
import Derived.Test.YtcanofailfbllaaDoorAns
import Derived.Test.YtcanofailfbllaaDoorBase
namespace Go.Proofs.YtcanofailfbllaaDoor
open Go.RowKit Go.Wk
set_option linter.unusedSimpArgs false

set_option maxHeartbeats 400000 in
/-- spec.l1Bit -/
theorem l1Bit_ok (b : Bool) (w : World) :
    Calls Tryd.prog 97 [.bool b].toArray w fun en w' => en = .returned (str (if b then [49] else [48])) ∧ Below w.heap.size w w' := by
  refine fnStart (n := 4) (e := [(0, .bool b)]) Tryd.func97 rfl rfl rfl rfl Ends.both ?_
  refine Wk.seq ?_
  refine Wk.regionQ ?_
  refine Lq.op (v := str ([])) rfl rfl rfl (OpQ.assign rfl rfl) ?_
  refine Lq.nil ?_
  refine Kt.onSub (e' := [(0, .bool b)]) (Sub.cons rfl Sub.nil) ?_
  refine Wk.seq ?_
  refine Wk.seq ?_
  refine Wk.regionQ ?_
  refine Lq.op (v := .bool b) rfl rfl rfl (OpQ.move rfl rfl) ?_
  refine Lq.nil ?_
  refine Kt.onSub (e' := [(3, .bool b)]) (Sub.cons rfl Sub.nil) ?_
  refine Wk.cond (b := b) rfl (fun h3 => ?_) (fun h3 => ?_)
  · skip
    refine Wk.seq ?_
    refine Wk.regionQ ?_
    refine Lq.op (v := str ([49])) rfl rfl rfl (OpQ.assign rfl rfl) ?_
    refine Lq.nil ?_
    refine Kt.onSub (e' := [(2, str ([49]))]) (Sub.cons rfl Sub.nil) ?_
    refine Wk.ret (Kt.end1 rfl rfl fun w' hw => ?_)
    -- ret 0: str ([49])
    exact ⟨by rw [‹b = _›]; rfl, hw.below⟩
  · skip
    refine Wk.skip ?_
    refine Kt.onSub (e' := []) Sub.nil ?_
    refine Wk.seq ?_
    refine Wk.regionQ ?_
    refine Lq.op (v := str ([48])) rfl rfl rfl (OpQ.assign rfl rfl) ?_
    refine Lq.nil ?_
    refine Kt.onSub (e' := [(2, str ([48]))]) (Sub.cons rfl Sub.nil) ?_
    refine Wk.ret (Kt.end1 rfl rfl fun w' hw => ?_)
    -- ret 1: str ([48])
    exact ⟨by rw [‹b = _›]; rfl, hw.below⟩

set_option maxHeartbeats 400000 in
/-- impl.bitOf -/
theorem bitOf_ok (b : Bool) (w : World) :
    Calls Tryd.prog 100 [.bool b].toArray w fun en w' => en = .returned (str (if b then [49] else [48])) ∧ Below w.heap.size w w' := by
  refine fnStart (n := 4) (e := [(0, .bool b)]) Tryd.func100 rfl rfl rfl rfl Ends.both ?_
  refine Wk.seq ?_
  refine Wk.regionQ ?_
  refine Lq.op (v := str ([])) rfl rfl rfl (OpQ.assign rfl rfl) ?_
  refine Lq.nil ?_
  refine Kt.onSub (e' := [(0, .bool b)]) (Sub.cons rfl Sub.nil) ?_
  refine Wk.seq ?_
  refine Wk.seq ?_
  refine Wk.regionQ ?_
  refine Lq.op (v := .bool b) rfl rfl rfl (OpQ.move rfl rfl) ?_
  refine Lq.nil ?_
  refine Kt.onSub (e' := [(3, .bool b)]) (Sub.cons rfl Sub.nil) ?_
  refine Wk.cond (b := b) rfl (fun h3 => ?_) (fun h3 => ?_)
  · skip
    refine Wk.seq ?_
    refine Wk.regionQ ?_
    refine Lq.op (v := str ([49])) rfl rfl rfl (OpQ.assign rfl rfl) ?_
    refine Lq.nil ?_
    refine Kt.onSub (e' := [(2, str ([49]))]) (Sub.cons rfl Sub.nil) ?_
    refine Wk.ret (Kt.end1 rfl rfl fun w' hw => ?_)
    -- ret 0: str ([49])
    exact ⟨by rw [‹b = _›]; rfl, hw.below⟩
  · skip
    refine Wk.skip ?_
    refine Kt.onSub (e' := []) Sub.nil ?_
    refine Wk.seq ?_
    refine Wk.regionQ ?_
    refine Lq.op (v := str ([48])) rfl rfl rfl (OpQ.assign rfl rfl) ?_
    refine Lq.nil ?_
    refine Kt.onSub (e' := [(2, str ([48]))]) (Sub.cons rfl Sub.nil) ?_
    refine Wk.ret (Kt.end1 rfl rfl fun w' hw => ?_)
    -- ret 1: str ([48])
    exact ⟨by rw [‹b = _›]; rfl, hw.below⟩

set_option maxHeartbeats 400000 in
/-- impl.nameOf -/
theorem nameOf_ok (i : Nat) (w : World) (hi : i < 4) :
    Calls Tryd.prog 126 [.int .i64 ((i : Int))].toArray w fun en w' => en = .returned (str (nameS i)) ∧ Below w.heap.size w w' := by
  refine fnStart (n := 7) (e := [(0, .int .i64 ((i : Int)))]) Tryd.func126 rfl rfl rfl rfl Ends.both ?_
  refine Wk.seq ?_
  refine Wk.regionQ ?_
  refine Lq.op (v := str ([])) rfl rfl rfl (OpQ.assign rfl rfl) ?_
  refine Lq.nil ?_
  refine Kt.onSub (e' := [(0, .int .i64 ((i : Int)))]) (Sub.cons rfl Sub.nil) ?_
  refine Wk.seq ?_
  refine Wk.regionQ ?_
  refine Lq.op (v := .int .i64 ((i : Int))) rfl rfl rfl (OpQ.move rfl rfl) ?_
  refine Lq.op (v := .int .i64 ((i : Int))) rfl rfl rfl (OpQ.move rfl rfl) ?_
  refine Lq.op (v := .int .i64 (((i : Int)) + (1 : Int))) rfl rfl rfl (OpQ.add rfl rfl rfl (by omega) (by omega)) ?_
  refine Lq.op (v := str (nameS i)) rfl rfl rfl (OpQ.cast (congrArg str (slice_name i)) (OpQ.sliceStr rfl Tryd.underlying9 rfl rfl rfl (by omega) (by omega) (by first | omega | (simp; omega)))) ?_
  refine Lq.op (v := str (nameS i)) rfl rfl rfl (OpQ.assign rfl rfl) ?_
  refine Lq.nil ?_
  refine Kt.onSub (e' := [(2, str (nameS i))]) (Sub.cons rfl Sub.nil) ?_
  refine Wk.ret (Kt.end1 rfl rfl fun w' hw => ?_)
  -- ret 0: str (nameS i)
  exact ⟨ret_s (by first | rfl | (simp_all; done) | (simp_all; omega)), hw.below⟩

set_option maxHeartbeats 400000 in
/-- spec.l3Atom -/
theorem l3Atom_ok (b : Bool) (s : List UInt8) (w : World) (hs : s.length ≤ 1048576) :
    Calls Tryd.prog 123 [.bool b, str s].toArray w fun en w' => en = .returned (str (signS b s)) ∧ Below w.heap.size w w' := by
  refine fnStart (n := 9) (e := [(0, .bool b), (1, str s)]) Tryd.func123 rfl rfl rfl rfl Ends.both ?_
  refine Wk.seq ?_
  refine Wk.regionQ ?_
  refine Lq.op (v := str ([])) rfl rfl rfl (OpQ.assign rfl rfl) ?_
  refine Lq.nil ?_
  refine Kt.onSub (e' := [(0, .bool b), (1, str s)]) (Sub.cons rfl (Sub.cons rfl Sub.nil)) ?_
  refine Wk.seq ?_
  refine Wk.seq ?_
  refine Wk.regionQ ?_
  refine Lq.op (v := .bool b) rfl rfl rfl (OpQ.move rfl rfl) ?_
  refine Lq.nil ?_
  refine Kt.onSub (e' := [(1, str s), (5, .bool b)]) (Sub.cons rfl (Sub.cons rfl Sub.nil)) ?_
  refine Wk.cond (b := b) rfl (fun h5 => ?_) (fun h5 => ?_)
  · skip
    refine Wk.seq ?_
    refine Wk.regionQ ?_
    refine Lq.op (v := str s) rfl rfl rfl (OpQ.move rfl rfl) ?_
    refine Lq.op (v := str s) rfl rfl rfl (OpQ.assign rfl rfl) ?_
    refine Lq.nil ?_
    refine Kt.onSub (e' := [(4, str s)]) (Sub.cons rfl Sub.nil) ?_
    refine Wk.ret (Kt.end1 rfl rfl fun w' hw => ?_)
    -- ret 0: str s
    exact ⟨by rw [‹b = _›]; rfl, hw.below⟩
  · skip
    refine Wk.skip ?_
    refine Kt.onSub (e' := [(1, str s)]) (Sub.cons rfl Sub.nil) ?_
    refine Wk.seq ?_
    refine Wk.regionQ ?_
    refine Lq.op (v := str s) rfl rfl rfl (OpQ.move rfl rfl) ?_
    refine Lq.op (v := str (([33]) ++ s)) rfl rfl rfl (OpQ.sadd rfl rfl rfl (by first | omega | (simp only [List.length_append, List.length_cons, List.length_nil]; omega))) ?_
    refine Lq.op (v := str (([33]) ++ s)) rfl rfl rfl (OpQ.assign rfl rfl) ?_
    refine Lq.nil ?_
    refine Kt.onSub (e' := [(4, str (([33]) ++ s))]) (Sub.cons rfl Sub.nil) ?_
    refine Wk.ret (Kt.end1 rfl rfl fun w' hw => ?_)
    -- ret 1: str (([33]) ++ s)
    exact ⟨by rw [‹b = _›]; rfl, hw.below⟩

set_option maxHeartbeats 400000 in
/-- spec.l3Facts -/
theorem l3Facts_ok (a : St) (va : Value) (xs : List Int) (m : Nat) (fs : List (List UInt8)) (w : World) (ha : a.Fine) (hva : Ints w va xs) (hA : a.Els xs) (hm : xs.length = m + 1) (hm4 : m < 4) (hfs : (factL a xs m).map signed = fs) :
    Calls Tryd.prog 96 [vS a, va].toArray w fun en w' => ∃ v, en = .returned v ∧ Below w.heap.size w w' ∧ NewRow w.heap.size 9 1 w' v fs.length (strs fs) := by
  refine fnStart (n := 99) (e := [(0, vS a), (1, va)]) Tryd.func96 rfl rfl rfl rfl Ends.both ?_
  have hnm := nameS_length hm4
  refine Wk.seq ?_
  refine Wk.region ?_
  refine Ll.box (v := vS a) rfl rfl rfl rfl rfl fun p2 hp2 => ?_
  show Ll _ _ (Own _ _ [(p2, .cells #[.int .i64 a.n, str a.set, str a.rel] 26 (0, 0))]) _ _ ((2, .pointer (some ⟨p2, 0, none⟩)) :: _) _ _ _
  refine Ll.op (v := .slice none 0 0) rfl rfl rfl (OpQ.assign rfl rfl) ?_
  refine Ll.nil ?_
  refine Kt.onSub (e' := [(1, va), (2, .pointer (some ⟨p2, 0, none⟩))]) (Sub.cons rfl (Sub.cons rfl Sub.nil)) ?_
  refine Wk.seq ?_
  refine Wk.regionQ ?_
  refine Lq.op (v := va) rfl rfl rfl (OpQ.move rfl rfl) ?_
  refine Lq.op (v := .int .i64 (((m + 1) : Int))) rfl rfl rfl (OpQ.lenRow rfl Tryd.runUnderlying31 rfl ((ints_length _).trans hm) (fun w1 hw1 => Row.own hva hw1)) ?_
  refine Lq.op (v := .int .i64 ((m : Int))) rfl rfl rfl (OpQ.cast (by simp) (OpQ.sub rfl rfl rfl (by omega) (by omega))) ?_
  refine Lq.op (v := .int .i64 ((m : Int))) rfl rfl rfl (OpQ.assign rfl rfl) ?_
  refine Lq.nil ?_
  refine Kt.onSub (e' := [(1, va), (2, .pointer (some ⟨p2, 0, none⟩)), (5, .int .i64 ((m : Int)))]) (Sub.cons rfl (Sub.cons rfl (Sub.cons rfl Sub.nil))) ?_
  refine Wk.seq ?_
  refine Wk.regionQ ?_
  refine Lq.op (v := .int .i64 ((m : Int))) rfl rfl rfl (OpQ.move rfl rfl) ?_
  refine Lq.op (v := .int .i64 ((m : Int))) rfl rfl rfl (OpQ.move rfl rfl) ?_
  refine Lq.op (v := .int .i64 (((m : Int)) + (1 : Int))) rfl rfl rfl (OpQ.add rfl rfl rfl (by omega) (by omega)) ?_
  refine Lq.op (v := str (nameS m)) rfl rfl rfl (OpQ.cast (congrArg str (slice_name m)) (OpQ.sliceStr rfl Tryd.underlying9 rfl rfl rfl (by omega) (by omega) (by first | omega | (simp; omega)))) ?_
  refine Lq.op (v := str (nameS m)) rfl rfl rfl (OpQ.assign rfl rfl) ?_
  refine Lq.nil ?_
  refine Kt.onSub (e' := [(1, va), (2, .pointer (some ⟨p2, 0, none⟩)), (5, .int .i64 ((m : Int))), (6, str (nameS m))]) (Sub.cons rfl (Sub.cons rfl (Sub.cons rfl (Sub.cons rfl Sub.nil)))) ?_
  refine Wk.seq ?_
  refine Wk.regionO [(0, true), (1, true), (2, true), (3, true), (4, true), (6, true), (7, true), (9, true), (10, true), (11, true), (12, true), (13, true), (14, true), (15, true), (16, true), (17, true), (19, true), (20, true), (21, true), (22, true), (5, false), (8, false), (18, false), (23, false), (24, false), (25, true)] Base.mixed (fun _ h => h.drawn) (by kernel_rfl) ?_
  refine Ld.take (v := vS a) rfl rfl rfl rfl rfl (OpQ.loadBox (cs := #[.int .i64 a.n, str a.set, str a.rel]) 0 rfl Tryd.isAgg26 rfl rfl Tryd.sizeOf26) (fun _ h => h) ?_
  refine Ld.take (v := va) rfl rfl rfl rfl rfl (OpQ.move rfl rfl) (fun _ h => h) ?_
  refine Ld.take (v := .int .i64 ((m : Int))) rfl rfl rfl rfl rfl (OpQ.move rfl rfl) (fun _ h => h) ?_
  refine Ld.take (v := .pointer (some (sAt va ((m : Int))))) rfl rfl rfl rfl rfl (OpQ.atRow rfl Tryd.runUnderlying31 Tryd.sizeOf3 rfl rfl (by omega) (by rw [ints_length]; omega) (fun w1 hw1 => Row.own hva hw1)) (fun _ h => h) ?_
  refine Ld.take (v := .int .i64 (xs.getD (((m : Int)).toNat) 0)) rfl rfl rfl rfl rfl (OpQ.load1 rfl Tryd.isAgg3 rfl (fun w1 hw1 => Ints.cell (Row.own hva hw1) (by omega) (by omega))) (fun _ h => h) ?_
  refine Ld.take (v := str (nameS m)) rfl rfl rfl rfl rfl (OpQ.move rfl rfl) (fun _ h => h) ?_
  refine Ld.take (v := str (([80]) ++ (nameS m))) rfl rfl rfl rfl rfl (OpQ.sadd rfl rfl rfl (by first | omega | (simp only [List.length_append, List.length_cons, List.length_nil]; omega))) (fun _ h => h) ?_
  refine Ld.take (v := vS a) rfl rfl rfl rfl rfl (OpQ.loadBox (cs := #[.int .i64 a.n, str a.set, str a.rel]) 0 rfl Tryd.isAgg26 rfl rfl Tryd.sizeOf26) (fun _ h => h) ?_
  refine Ld.take (v := va) rfl rfl rfl rfl rfl (OpQ.move rfl rfl) (fun _ h => h) ?_
  refine Ld.take (v := .int .i64 ((m : Int))) rfl rfl rfl rfl rfl (OpQ.move rfl rfl) (fun _ h => h) ?_
  refine Ld.take (v := .pointer (some (sAt va ((m : Int))))) rfl rfl rfl rfl rfl (OpQ.atRow rfl Tryd.runUnderlying31 Tryd.sizeOf3 rfl rfl (by omega) (by rw [ints_length]; omega) (fun w1 hw1 => Row.own hva hw1)) (fun _ h => h) ?_
  refine Ld.take (v := .int .i64 (xs.getD (((m : Int)).toNat) 0)) rfl rfl rfl rfl rfl (OpQ.load1 rfl Tryd.isAgg3 rfl (fun w1 hw1 => Ints.cell (Row.own hva hw1) (by omega) (by omega))) (fun _ h => h) ?_
  refine Ld.take (v := va) rfl rfl rfl rfl rfl (OpQ.move rfl rfl) (fun _ h => h) ?_
  refine Ld.take (v := .int .i64 ((m : Int))) rfl rfl rfl rfl rfl (OpQ.move rfl rfl) (fun _ h => h) ?_
  refine Ld.take (v := .pointer (some (sAt va ((m : Int))))) rfl rfl rfl rfl rfl (OpQ.atRow rfl Tryd.runUnderlying31 Tryd.sizeOf3 rfl rfl (by omega) (by rw [ints_length]; omega) (fun w1 hw1 => Row.own hva hw1)) (fun _ h => h) ?_
  refine Ld.take (v := .int .i64 (xs.getD (((m : Int)).toNat) 0)) rfl rfl rfl rfl rfl (OpQ.load1 rfl Tryd.isAgg3 rfl (fun w1 hw1 => Ints.cell (Row.own hva hw1) (by omega) (by omega))) (fun _ h => h) ?_
  refine Ld.take (v := str (nameS m)) rfl rfl rfl rfl rfl (OpQ.move rfl rfl) (fun _ h => h) ?_
  refine Ld.take (v := str (([69]) ++ (nameS m))) rfl rfl rfl rfl rfl (OpQ.sadd rfl rfl rfl (by first | omega | (simp only [List.length_append, List.length_cons, List.length_nil]; omega))) (fun _ h => h) ?_
  refine Ld.take (v := str (nameS m)) rfl rfl rfl rfl rfl (OpQ.move rfl rfl) (fun _ h => h) ?_
  refine Ld.take (v := str ((([69]) ++ (nameS m)) ++ (nameS m))) rfl rfl rfl rfl rfl (OpQ.sadd rfl rfl rfl (by first | omega | (simp only [List.length_append, List.length_cons, List.length_nil]; omega))) (fun _ h => h) ?_
  refine Ld.loud rfl ?_
  refine Ll.op (v := .bool (a.inSet (xs.getD (((m : Int)).toNat) 0))) rfl rfl rfl (OpQ.call rfl Tryd.call117 rfl Own.stable (fun w1 hw1 => l1Set_ok a (xs.getD (((m : Int)).toNat) 0) w1 ha (by first | assumption | exact St.Els.at (by assumption) (by omega) (by omega)))) ?_
  refine Ll.nil (Ld.joint (fun _ h => h) ?_)
  refine Ld.loud rfl ?_
  refine Ll.op (v := str (signS (a.inSet (xs.getD (((m : Int)).toNat) 0)) (([80]) ++ (nameS m)))) rfl rfl rfl (OpQ.call rfl Tryd.call123 rfl Own.stable (fun w1 hw1 => l3Atom_ok (a.inSet (xs.getD (((m : Int)).toNat) 0)) (([80]) ++ (nameS m)) w1 (by simp [nameS_length, *]))) ?_
  refine Ll.nil (Ld.joint (fun _ h => h) ?_)
  refine Ld.loud rfl ?_
  refine Ll.op (v := .bool (a.inRel (xs.getD (((m : Int)).toNat) 0) (xs.getD (((m : Int)).toNat) 0))) rfl rfl rfl (OpQ.call rfl Tryd.call118 rfl Own.stable (fun w1 hw1 => l1Rel_ok a (xs.getD (((m : Int)).toNat) 0) (xs.getD (((m : Int)).toNat) 0) w1 ha (by first | assumption | exact St.Els.at (by assumption) (by omega) (by omega)) (by first | assumption | exact St.Els.at (by assumption) (by omega) (by omega)))) ?_
  refine Ll.nil (Ld.joint (fun _ h => h) ?_)
  refine Ld.loud rfl ?_
  refine Ll.op (v := str (signS (a.inRel (xs.getD (((m : Int)).toNat) 0) (xs.getD (((m : Int)).toNat) 0)) ((([69]) ++ (nameS m)) ++ (nameS m)))) rfl rfl rfl (OpQ.call rfl Tryd.call123 rfl Own.stable (fun w1 hw1 => l3Atom_ok (a.inRel (xs.getD (((m : Int)).toNat) 0) (xs.getD (((m : Int)).toNat) 0)) ((([69]) ++ (nameS m)) ++ (nameS m)) w1 (by simp [nameS_length, *]))) ?_
  refine Ll.nil (Ld.joint (fun _ h => h) ?_)
  refine Ld.loud rfl ?_
  refine Ll.slice (xs := [.tmp 25, .tmp 40]) (vs := [str (signS (a.inSet (xs.getD (((m : Int)).toNat) 0)) (([80]) ++ (nameS m))), str (signS (a.inRel (xs.getD (((m : Int)).toNat) 0) (xs.getD (((m : Int)).toNat) 0)) ((([69]) ++ (nameS m)) ++ (nameS m)))]) Base.elem57 rfl rfl rfl rfl rfl rfl (by decide) rfl fun p41 hp41 => ?_
  refine Ll.nil (Ld.joint (fun _ h => h.tail) ?_)
  refine Ld.take (v := .slice (some ⟨p41, 0, none⟩) 2 2) rfl rfl rfl rfl rfl (OpQ.assign rfl rfl) (fun _ h => h.tail) ?_
  refine Ld.nil ?_
  refine Kt.onSub (e' := [(1, va), (2, .pointer (some ⟨p2, 0, none⟩)), (5, .int .i64 ((m : Int))), (6, str (nameS m)), (7, .slice (some ⟨p41, 0, none⟩) 2 2)]) (Sub.cons rfl (Sub.cons rfl (Sub.cons rfl (Sub.cons rfl (Sub.cons rfl Sub.nil))))) ?_
  refine Wk.seq ?_
  refine Wk.seq ?_
  refine Wk.regionQ ?_
  refine Lq.op (v := .int .i64 0) rfl rfl rfl (OpQ.assign rfl rfl) ?_
  refine Lq.nil ?_
  refine Kt.onSub (e' := [(1, va), (2, .pointer (some ⟨p2, 0, none⟩)), (5, .int .i64 ((m : Int))), (6, str (nameS m)), (7, .slice (some ⟨p41, 0, none⟩) 2 2), (8, .int .i64 0)]) (Sub.cons rfl (Sub.cons rfl (Sub.cons rfl (Sub.cons rfl (Sub.cons rfl (Sub.cons rfl Sub.nil)))))) ?_
  refine Wk.block ?_
  refine Wk.loop (σ := Nat × Nat × Nat × Array Value) (fun ⟨k, g, c, cur⟩ => (k ≤ m) ∧ w.heap.size ≤ g ∧ cur.size = c * 1 ∧ ((headL a xs m ++ moreL a xs m k).map signed).length ≤ c ∧ cur.toList.take (((headL a xs m ++ moreL a xs m k).map signed).length * 1) = strs ((headL a xs m ++ moreL a xs m k).map signed)) (fun ⟨k, g, c, cur⟩ => [(1, va), (2, .pointer (some ⟨p2, 0, none⟩)), (5, .int .i64 ((m : Int))), (6, str (nameS m)), (7, .slice (some ⟨g, 0, none⟩) (((headL a xs m ++ moreL a xs m k).map signed).length) c), (8, .int .i64 ((k : Int)))]) (fun ⟨k, g, c, cur⟩ => Own w.heap.size w [(g, .cells cur 9 (0, 0)), (p2, .cells #[.int .i64 a.n, str a.set, str a.rel] 26 (0, 0))]) (fun ⟨k, g, c, cur⟩ => m - k) ((0, p41, 2, #[str (signS (a.inSet (xs.getD ((m : Int)).toNat 0)) ([80] ++ nameS m)), str (signS (a.inRel (xs.getD ((m : Int)).toNat 0) (xs.getD ((m : Int)).toNat 0)) (([69] ++ nameS m) ++ nameS m))])) ⟨by omega, hp41, rfl, Nat.le_refl 2, rfl⟩ (Sub.cons rfl (Sub.cons rfl (Sub.cons rfl (Sub.cons rfl (Sub.cons rfl (Sub.cons rfl Sub.nil)))))) (fun _ h => h) ?_
  rintro ⟨k, g, c, cur⟩ ⟨hk, hg, hc, hl, ht⟩
  dsimp only
  refine Wk.seq ?_
  refine Wk.seq ?_
  refine Wk.regionQ ?_
  refine Lq.op (v := .int .i64 ((k : Int))) rfl rfl rfl (OpQ.move rfl rfl) ?_
  refine Lq.op (v := .int .i64 ((m : Int))) rfl rfl rfl (OpQ.move rfl rfl) ?_
  refine Lq.op (v := .bool (decide (((k : Int)) < ((m : Int))))) rfl rfl rfl (OpQ.lss rfl rfl rfl) ?_
  refine Lq.nil ?_
  refine Kt.onSub (e' := [(1, va), (2, .pointer (some ⟨p2, 0, none⟩)), (5, .int .i64 ((m : Int))), (6, str (nameS m)), (7, .slice (some ⟨g, 0, none⟩) (((headL a xs m ++ moreL a xs m k).map signed).length) c), (8, .int .i64 ((k : Int))), (44, .bool (decide (((k : Int)) < ((m : Int)))))]) (Sub.cons rfl (Sub.cons rfl (Sub.cons rfl (Sub.cons rfl (Sub.cons rfl (Sub.cons rfl (Sub.cons rfl Sub.nil))))))) ?_
  refine Wk.cond (b := decide (((k : Int)) < ((m : Int)))) rfl (fun h44 => ?_) (fun h44 => ?_)
  · skip
    replace h44 := of_decide_eq_true h44
    have hnk : (nameS k).length = 1 := nameS_length (by omega)
    refine Wk.skip ?_
    refine Kt.onSub (e' := [(1, va), (2, .pointer (some ⟨p2, 0, none⟩)), (5, .int .i64 ((m : Int))), (6, str (nameS m)), (7, .slice (some ⟨g, 0, none⟩) (((headL a xs m ++ moreL a xs m k).map signed).length) c), (8, .int .i64 ((k : Int)))]) (Sub.cons rfl (Sub.cons rfl (Sub.cons rfl (Sub.cons rfl (Sub.cons rfl (Sub.cons rfl Sub.nil)))))) ?_
    refine Wk.seq ?_
    refine Wk.block ?_
    refine Wk.seq ?_
    refine Wk.regionQ ?_
    refine Lq.op (v := .int .i64 ((k : Int))) rfl rfl rfl (OpQ.move rfl rfl) ?_
    refine Lq.op (v := .int .i64 ((k : Int))) rfl rfl rfl (OpQ.move rfl rfl) ?_
    refine Lq.op (v := .int .i64 (((k : Int)) + (1 : Int))) rfl rfl rfl (OpQ.add rfl rfl rfl (by omega) (by omega)) ?_
    refine Lq.op (v := str (nameS k)) rfl rfl rfl (OpQ.cast (congrArg str (slice_name k)) (OpQ.sliceStr rfl Tryd.underlying9 rfl rfl rfl (by omega) (by omega) (by first | omega | (simp; omega)))) ?_
    refine Lq.op (v := str (nameS k)) rfl rfl rfl (OpQ.assign rfl rfl) ?_
    refine Lq.nil ?_
    refine Kt.onSub (e' := [(1, va), (2, .pointer (some ⟨p2, 0, none⟩)), (5, .int .i64 ((m : Int))), (6, str (nameS m)), (7, .slice (some ⟨g, 0, none⟩) (((headL a xs m ++ moreL a xs m k).map signed).length) c), (8, .int .i64 ((k : Int))), (9, str (nameS k))]) (Sub.cons rfl (Sub.cons rfl (Sub.cons rfl (Sub.cons rfl (Sub.cons rfl (Sub.cons rfl (Sub.cons rfl Sub.nil))))))) ?_
    refine Wk.regionS (S := Own w.heap.size w [(p2, .cells #[.int .i64 a.n, str a.set, str a.rel] 26 (0, 0))]) [(0, true), (1, true), (2, true), (3, true), (4, true), (5, true), (6, true), (7, true), (8, true), (9, true), (10, true), (11, true), (12, true), (13, true), (15, true), (16, true), (17, true), (18, true), (19, true), (20, true), (21, true), (22, true), (23, true), (25, true), (26, true), (27, true), (28, true), (30, true), (31, true), (32, true), (33, true), (34, true), (35, true), (36, true), (37, true), (38, true), (40, true), (41, true), (42, true), (43, true), (14, false), (24, false), (29, false), (39, false), (44, false), (45, false), (46, false), (47, true)] Base.mixed (fun _ h => h.drawn) (by kernel_rfl) ?_
    refine Ld.take (v := .slice (some ⟨g, 0, none⟩) (((headL a xs m ++ moreL a xs m k).map signed).length) c) rfl rfl rfl rfl rfl (OpQ.move rfl rfl) (fun _ h => h.tail) ?_
    refine Ld.take (v := va) rfl rfl rfl rfl rfl (OpQ.move rfl rfl) (fun _ h => h.tail) ?_
    refine Ld.take (v := .int .i64 ((k : Int))) rfl rfl rfl rfl rfl (OpQ.move rfl rfl) (fun _ h => h.tail) ?_
    refine Ld.take (v := .pointer (some (sAt va ((k : Int))))) rfl rfl rfl rfl rfl (OpQ.atRow rfl Tryd.runUnderlying31 Tryd.sizeOf3 rfl rfl (by omega) (by rw [ints_length]; omega) (fun w1 hw1 => Row.own hva hw1)) (fun _ h => h.tail) ?_
    refine Ld.take (v := .int .i64 (xs.getD (((k : Int)).toNat) 0)) rfl rfl rfl rfl rfl (OpQ.load1 rfl Tryd.isAgg3 rfl (fun w1 hw1 => Ints.cell (Row.own hva hw1) (by omega) (by omega))) (fun _ h => h.tail) ?_
    refine Ld.take (v := va) rfl rfl rfl rfl rfl (OpQ.move rfl rfl) (fun _ h => h.tail) ?_
    refine Ld.take (v := .int .i64 ((m : Int))) rfl rfl rfl rfl rfl (OpQ.move rfl rfl) (fun _ h => h.tail) ?_
    refine Ld.take (v := .pointer (some (sAt va ((m : Int))))) rfl rfl rfl rfl rfl (OpQ.atRow rfl Tryd.runUnderlying31 Tryd.sizeOf3 rfl rfl (by omega) (by rw [ints_length]; omega) (fun w1 hw1 => Row.own hva hw1)) (fun _ h => h.tail) ?_
    refine Ld.take (v := .int .i64 (xs.getD (((m : Int)).toNat) 0)) rfl rfl rfl rfl rfl (OpQ.load1 rfl Tryd.isAgg3 rfl (fun w1 hw1 => Ints.cell (Row.own hva hw1) (by omega) (by omega))) (fun _ h => h.tail) ?_
    refine Ld.take (v := .bool (decide ((xs.getD (((k : Int)).toNat) 0) = (xs.getD (((m : Int)).toNat) 0)))) rfl rfl rfl rfl rfl (OpQ.eql rfl rfl rfl) (fun _ h => h.tail) ?_
    refine Ld.take (v := str (nameS k)) rfl rfl rfl rfl rfl (OpQ.move rfl rfl) (fun _ h => h.tail) ?_
    refine Ld.take (v := str (([61]) ++ (nameS k))) rfl rfl rfl rfl rfl (OpQ.sadd rfl rfl rfl (by first | omega | (simp only [List.length_append, List.length_cons, List.length_nil]; omega))) (fun _ h => h.tail) ?_
    refine Ld.take (v := str (nameS m)) rfl rfl rfl rfl rfl (OpQ.move rfl rfl) (fun _ h => h.tail) ?_
    refine Ld.take (v := str ((([61]) ++ (nameS k)) ++ (nameS m))) rfl rfl rfl rfl rfl (OpQ.sadd rfl rfl rfl (by first | omega | (simp only [List.length_append, List.length_cons, List.length_nil]; omega))) (fun _ h => h.tail) ?_
    refine Ld.take (v := vS a) rfl rfl rfl rfl rfl (OpQ.loadBox (cs := #[.int .i64 a.n, str a.set, str a.rel]) 0 rfl Tryd.isAgg26 rfl rfl Tryd.sizeOf26) (fun _ h => h.tail) ?_
    refine Ld.take (v := va) rfl rfl rfl rfl rfl (OpQ.move rfl rfl) (fun _ h => h.tail) ?_
    refine Ld.take (v := .int .i64 ((k : Int))) rfl rfl rfl rfl rfl (OpQ.move rfl rfl) (fun _ h => h.tail) ?_
    refine Ld.take (v := .pointer (some (sAt va ((k : Int))))) rfl rfl rfl rfl rfl (OpQ.atRow rfl Tryd.runUnderlying31 Tryd.sizeOf3 rfl rfl (by omega) (by rw [ints_length]; omega) (fun w1 hw1 => Row.own hva hw1)) (fun _ h => h.tail) ?_
    refine Ld.take (v := .int .i64 (xs.getD (((k : Int)).toNat) 0)) rfl rfl rfl rfl rfl (OpQ.load1 rfl Tryd.isAgg3 rfl (fun w1 hw1 => Ints.cell (Row.own hva hw1) (by omega) (by omega))) (fun _ h => h.tail) ?_
    refine Ld.take (v := va) rfl rfl rfl rfl rfl (OpQ.move rfl rfl) (fun _ h => h.tail) ?_
    refine Ld.take (v := .int .i64 ((m : Int))) rfl rfl rfl rfl rfl (OpQ.move rfl rfl) (fun _ h => h.tail) ?_
    refine Ld.take (v := .pointer (some (sAt va ((m : Int))))) rfl rfl rfl rfl rfl (OpQ.atRow rfl Tryd.runUnderlying31 Tryd.sizeOf3 rfl rfl (by omega) (by rw [ints_length]; omega) (fun w1 hw1 => Row.own hva hw1)) (fun _ h => h.tail) ?_
    refine Ld.take (v := .int .i64 (xs.getD (((m : Int)).toNat) 0)) rfl rfl rfl rfl rfl (OpQ.load1 rfl Tryd.isAgg3 rfl (fun w1 hw1 => Ints.cell (Row.own hva hw1) (by omega) (by omega))) (fun _ h => h.tail) ?_
    refine Ld.take (v := str (nameS k)) rfl rfl rfl rfl rfl (OpQ.move rfl rfl) (fun _ h => h.tail) ?_
    refine Ld.take (v := str (([69]) ++ (nameS k))) rfl rfl rfl rfl rfl (OpQ.sadd rfl rfl rfl (by first | omega | (simp only [List.length_append, List.length_cons, List.length_nil]; omega))) (fun _ h => h.tail) ?_
    refine Ld.take (v := str (nameS m)) rfl rfl rfl rfl rfl (OpQ.move rfl rfl) (fun _ h => h.tail) ?_
    refine Ld.take (v := str ((([69]) ++ (nameS k)) ++ (nameS m))) rfl rfl rfl rfl rfl (OpQ.sadd rfl rfl rfl (by first | omega | (simp only [List.length_append, List.length_cons, List.length_nil]; omega))) (fun _ h => h.tail) ?_
    refine Ld.take (v := vS a) rfl rfl rfl rfl rfl (OpQ.loadBox (cs := #[.int .i64 a.n, str a.set, str a.rel]) 0 rfl Tryd.isAgg26 rfl rfl Tryd.sizeOf26) (fun _ h => h.tail) ?_
    refine Ld.take (v := va) rfl rfl rfl rfl rfl (OpQ.move rfl rfl) (fun _ h => h.tail) ?_
    refine Ld.take (v := .int .i64 ((m : Int))) rfl rfl rfl rfl rfl (OpQ.move rfl rfl) (fun _ h => h.tail) ?_
    refine Ld.take (v := .pointer (some (sAt va ((m : Int))))) rfl rfl rfl rfl rfl (OpQ.atRow rfl Tryd.runUnderlying31 Tryd.sizeOf3 rfl rfl (by omega) (by rw [ints_length]; omega) (fun w1 hw1 => Row.own hva hw1)) (fun _ h => h.tail) ?_
    refine Ld.take (v := .int .i64 (xs.getD (((m : Int)).toNat) 0)) rfl rfl rfl rfl rfl (OpQ.load1 rfl Tryd.isAgg3 rfl (fun w1 hw1 => Ints.cell (Row.own hva hw1) (by omega) (by omega))) (fun _ h => h.tail) ?_
    refine Ld.take (v := va) rfl rfl rfl rfl rfl (OpQ.move rfl rfl) (fun _ h => h.tail) ?_
    refine Ld.take (v := .int .i64 ((k : Int))) rfl rfl rfl rfl rfl (OpQ.move rfl rfl) (fun _ h => h.tail) ?_
    refine Ld.take (v := .pointer (some (sAt va ((k : Int))))) rfl rfl rfl rfl rfl (OpQ.atRow rfl Tryd.runUnderlying31 Tryd.sizeOf3 rfl rfl (by omega) (by rw [ints_length]; omega) (fun w1 hw1 => Row.own hva hw1)) (fun _ h => h.tail) ?_
    refine Ld.take (v := .int .i64 (xs.getD (((k : Int)).toNat) 0)) rfl rfl rfl rfl rfl (OpQ.load1 rfl Tryd.isAgg3 rfl (fun w1 hw1 => Ints.cell (Row.own hva hw1) (by omega) (by omega))) (fun _ h => h.tail) ?_
    refine Ld.take (v := str (nameS m)) rfl rfl rfl rfl rfl (OpQ.move rfl rfl) (fun _ h => h.tail) ?_
    refine Ld.take (v := str (([69]) ++ (nameS m))) rfl rfl rfl rfl rfl (OpQ.sadd rfl rfl rfl (by first | omega | (simp only [List.length_append, List.length_cons, List.length_nil]; omega))) (fun _ h => h.tail) ?_
    refine Ld.take (v := str (nameS k)) rfl rfl rfl rfl rfl (OpQ.move rfl rfl) (fun _ h => h.tail) ?_
    refine Ld.take (v := str ((([69]) ++ (nameS m)) ++ (nameS k))) rfl rfl rfl rfl rfl (OpQ.sadd rfl rfl rfl (by first | omega | (simp only [List.length_append, List.length_cons, List.length_nil]; omega))) (fun _ h => h.tail) ?_
    refine Ld.loud rfl ?_
    refine Ll.op (v := str (signS (decide ((xs.getD (((k : Int)).toNat) 0) = (xs.getD (((m : Int)).toNat) 0))) ((([61]) ++ (nameS k)) ++ (nameS m)))) rfl rfl rfl (OpQ.call rfl Tryd.call123 rfl Own.stable (fun w1 hw1 => l3Atom_ok (decide ((xs.getD (((k : Int)).toNat) 0) = (xs.getD (((m : Int)).toNat) 0))) ((([61]) ++ (nameS k)) ++ (nameS m)) w1 (by simp [nameS_length, *]))) ?_
    refine Ll.nil (Ld.joint (fun _ h => h.tail) ?_)
    refine Ld.loud rfl ?_
    refine Ll.op (v := .bool (a.inRel (xs.getD (((k : Int)).toNat) 0) (xs.getD (((m : Int)).toNat) 0))) rfl rfl rfl (OpQ.call rfl Tryd.call118 rfl Own.stable (fun w1 hw1 => l1Rel_ok a (xs.getD (((k : Int)).toNat) 0) (xs.getD (((m : Int)).toNat) 0) w1 ha (by first | assumption | exact St.Els.at (by assumption) (by omega) (by omega)) (by first | assumption | exact St.Els.at (by assumption) (by omega) (by omega)))) ?_
    refine Ll.nil (Ld.joint (fun _ h => h.tail) ?_)
    refine Ld.loud rfl ?_
    refine Ll.op (v := str (signS (a.inRel (xs.getD (((k : Int)).toNat) 0) (xs.getD (((m : Int)).toNat) 0)) ((([69]) ++ (nameS k)) ++ (nameS m)))) rfl rfl rfl (OpQ.call rfl Tryd.call123 rfl Own.stable (fun w1 hw1 => l3Atom_ok (a.inRel (xs.getD (((k : Int)).toNat) 0) (xs.getD (((m : Int)).toNat) 0)) ((([69]) ++ (nameS k)) ++ (nameS m)) w1 (by simp [nameS_length, *]))) ?_
    refine Ll.nil (Ld.joint (fun _ h => h.tail) ?_)
    refine Ld.loud rfl ?_
    refine Ll.op (v := .bool (a.inRel (xs.getD (((m : Int)).toNat) 0) (xs.getD (((k : Int)).toNat) 0))) rfl rfl rfl (OpQ.call rfl Tryd.call118 rfl Own.stable (fun w1 hw1 => l1Rel_ok a (xs.getD (((m : Int)).toNat) 0) (xs.getD (((k : Int)).toNat) 0) w1 ha (by first | assumption | exact St.Els.at (by assumption) (by omega) (by omega)) (by first | assumption | exact St.Els.at (by assumption) (by omega) (by omega)))) ?_
    refine Ll.nil (Ld.joint (fun _ h => h.tail) ?_)
    refine Ld.loud rfl ?_
    refine Ll.op (v := str (signS (a.inRel (xs.getD (((m : Int)).toNat) 0) (xs.getD (((k : Int)).toNat) 0)) ((([69]) ++ (nameS m)) ++ (nameS k)))) rfl rfl rfl (OpQ.call rfl Tryd.call123 rfl Own.stable (fun w1 hw1 => l3Atom_ok (a.inRel (xs.getD (((m : Int)).toNat) 0) (xs.getD (((k : Int)).toNat) 0)) ((([69]) ++ (nameS m)) ++ (nameS k)) w1 (by simp [nameS_length, *]))) ?_
    refine Ll.nil (Ld.joint (fun _ h => h.tail) ?_)
    refine Ld.loud rfl ?_
    refine Ll.slice (xs := [.tmp 65, .tmp 80, .tmp 95]) (vs := [str (signS (decide ((xs.getD (((k : Int)).toNat) 0) = (xs.getD (((m : Int)).toNat) 0))) ((([61]) ++ (nameS k)) ++ (nameS m))), str (signS (a.inRel (xs.getD (((k : Int)).toNat) 0) (xs.getD (((m : Int)).toNat) 0)) ((([69]) ++ (nameS k)) ++ (nameS m))), str (signS (a.inRel (xs.getD (((m : Int)).toNat) 0) (xs.getD (((k : Int)).toNat) 0)) ((([69]) ++ (nameS m)) ++ (nameS k)))]) Base.elem57 rfl rfl rfl rfl rfl rfl (by decide) rfl fun p96 hp96 => ?_
    refine Ll.nil (Ld.joint (fun _ h => h.tail.tail) ?_)
    refine Ld.loud rfl ?_
    refine Ll.appendStrs (xs := (headL a xs m ++ moreL a xs m k).map signed) (ys := ([signS (decide ((xs.getD (((k : Int)).toNat) 0) = (xs.getD (((m : Int)).toNat) 0))) ((([61]) ++ (nameS k)) ++ (nameS m)), signS (a.inRel (xs.getD (((k : Int)).toNat) 0) (xs.getD (((m : Int)).toNat) 0)) ((([69]) ++ (nameS k)) ++ (nameS m)), signS (a.inRel (xs.getD (((m : Int)).toNat) 0) (xs.getD (((k : Int)).toNat) 0)) ((([69]) ++ (nameS m)) ++ (nameS k))] : List (List UInt8))) Base.elem57 1 rfl rfl rfl rfl rfl rfl rfl hc hl (by simpa using ht) (fun w1 hw1 => (Own.row hw1 (i := 0) rfl (n := 3) (cap := 3) (vs := strs ([signS (decide ((xs.getD (((k : Int)).toNat) 0) = (xs.getD (((m : Int)).toNat) 0))) ((([61]) ++ (nameS k)) ++ (nameS m)), signS (a.inRel (xs.getD (((k : Int)).toNat) 0) (xs.getD (((m : Int)).toNat) 0)) ((([69]) ++ (nameS k)) ++ (nameS m)), signS (a.inRel (xs.getD (((m : Int)).toNat) 0) (xs.getD (((k : Int)).toNat) 0)) ((([69]) ++ (nameS m)) ++ (nameS k))] : List (List UInt8))) rfl rfl (by decide))) ((((headL a xs m ++ moreL a xs m k).map signed) ++ (([signS (decide ((xs.getD (((k : Int)).toNat) 0) = (xs.getD (((m : Int)).toNat) 0))) ((([61]) ++ (nameS k)) ++ (nameS m)), signS (a.inRel (xs.getD (((k : Int)).toNat) 0) (xs.getD (((m : Int)).toNat) 0)) ((([69]) ++ (nameS k)) ++ (nameS m)), signS (a.inRel (xs.getD (((m : Int)).toNat) 0) (xs.getD (((k : Int)).toNat) 0)) ((([69]) ++ (nameS m)) ++ (nameS k))] : List (List UInt8)))).length) (by first | (simp; done) | (simp; omega)) (by first | (simp; done) | (simp; omega) | omega) fun p97 cap97 cur97 hp97 hcp97 hlp97 htp97 => ?_
    show Ll _ _ (Own _ _ [(p96, .cells #[str (signS (decide ((xs.getD (((k : Int)).toNat) 0) = (xs.getD (((m : Int)).toNat) 0))) ((([61]) ++ (nameS k)) ++ (nameS m))), str (signS (a.inRel (xs.getD (((k : Int)).toNat) 0) (xs.getD (((m : Int)).toNat) 0)) ((([69]) ++ (nameS k)) ++ (nameS m))), str (signS (a.inRel (xs.getD (((m : Int)).toNat) 0) (xs.getD (((k : Int)).toNat) 0)) ((([69]) ++ (nameS m)) ++ (nameS k)))] 9 (0, 0)), (p97, .cells cur97 9 (0, 0)), (p2, .cells #[.int .i64 a.n, str a.set, str a.rel] 26 (0, 0))]) _ _ ((97, .slice (some ⟨p97, 0, none⟩) (((((headL a xs m ++ moreL a xs m k).map signed) ++ (([signS (decide ((xs.getD (((k : Int)).toNat) 0) = (xs.getD (((m : Int)).toNat) 0))) ((([61]) ++ (nameS k)) ++ (nameS m)), signS (a.inRel (xs.getD (((k : Int)).toNat) 0) (xs.getD (((m : Int)).toNat) 0)) ((([69]) ++ (nameS k)) ++ (nameS m)), signS (a.inRel (xs.getD (((m : Int)).toNat) 0) (xs.getD (((k : Int)).toNat) 0)) ((([69]) ++ (nameS m)) ++ (nameS k))] : List (List UInt8)))).length)) cap97) :: _) _ _ _
    refine Ll.nil (Ld.joint (fun _ h => h.tail.tail) ?_)
    refine Ld.take (v := .slice (some ⟨p97, 0, none⟩) (((((headL a xs m ++ moreL a xs m k).map signed) ++ (([signS (decide ((xs.getD (((k : Int)).toNat) 0) = (xs.getD (((m : Int)).toNat) 0))) ((([61]) ++ (nameS k)) ++ (nameS m)), signS (a.inRel (xs.getD (((k : Int)).toNat) 0) (xs.getD (((m : Int)).toNat) 0)) ((([69]) ++ (nameS k)) ++ (nameS m)), signS (a.inRel (xs.getD (((m : Int)).toNat) 0) (xs.getD (((k : Int)).toNat) 0)) ((([69]) ++ (nameS m)) ++ (nameS k))] : List (List UInt8)))).length)) cap97) rfl rfl rfl rfl rfl (OpQ.assign rfl rfl) (fun _ h => h.tail.tail) ?_
    refine Ld.nil ?_
    refine Kt.onSub (e' := [(1, va), (2, .pointer (some ⟨p2, 0, none⟩)), (5, .int .i64 ((m : Int))), (6, str (nameS m)), (7, .slice (some ⟨p97, 0, none⟩) (((((headL a xs m ++ moreL a xs m k).map signed) ++ (([signS (decide ((xs.getD (((k : Int)).toNat) 0) = (xs.getD (((m : Int)).toNat) 0))) ((([61]) ++ (nameS k)) ++ (nameS m)), signS (a.inRel (xs.getD (((k : Int)).toNat) 0) (xs.getD (((m : Int)).toNat) 0)) ((([69]) ++ (nameS k)) ++ (nameS m)), signS (a.inRel (xs.getD (((m : Int)).toNat) 0) (xs.getD (((k : Int)).toNat) 0)) ((([69]) ++ (nameS m)) ++ (nameS k))] : List (List UInt8)))).length)) cap97), (8, .int .i64 ((k : Int)))]) (Sub.cons rfl (Sub.cons rfl (Sub.cons rfl (Sub.cons rfl (Sub.cons rfl (Sub.cons rfl Sub.nil)))))) ?_
    refine Wk.regionQ ?_
    refine Lq.op (v := .int .i64 ((k : Int))) rfl rfl rfl (OpQ.move rfl rfl) ?_
    refine Lq.op (v := .int .i64 (((k : Int)) + (1 : Int))) rfl rfl rfl (OpQ.add rfl rfl rfl (by omega) (by omega)) ?_
    refine Lq.op (v := .int .i64 (((k : Int)) + (1 : Int))) rfl rfl rfl (OpQ.assign rfl rfl) ?_
    refine Lq.nil ?_
    refine Kt.again ((k + 1, p97, cap97, cur97)) ⟨(by omega), (by omega), hcp97, (by rw [more_step]; exact hlp97), (by rw [more_step]; exact htp97)⟩ (by omega) (Sub.cons rfl (Sub.cons rfl (Sub.cons rfl (Sub.cons rfl (Sub.cons (by rw [more_step]; rfl) (Sub.cons rfl Sub.nil)))))) (fun _ h => h.tail)
  · skip
    replace h44 := of_decide_eq_false h44
    refine Wk.exit rfl ?_
    refine Kt.onSub (e' := [(7, .slice (some ⟨g, 0, none⟩) (((headL a xs m ++ moreL a xs m k).map signed).length) c)]) (Sub.cons rfl Sub.nil) ?_
    refine Wk.seq ?_
    refine Wk.regionQ ?_
    refine Lq.op (v := .slice (some ⟨g, 0, none⟩) (((headL a xs m ++ moreL a xs m k).map signed).length) c) rfl rfl rfl (OpQ.move rfl rfl) ?_
    refine Lq.op (v := .slice (some ⟨g, 0, none⟩) (((headL a xs m ++ moreL a xs m k).map signed).length) c) rfl rfl rfl (OpQ.assign rfl rfl) ?_
    refine Lq.nil ?_
    refine Kt.onSub (e' := [(4, .slice (some ⟨g, 0, none⟩) (((headL a xs m ++ moreL a xs m k).map signed).length) c)]) (Sub.cons rfl Sub.nil) ?_
    refine Wk.ret (Kt.end1 rfl rfl fun w' hw => ?_)
    -- ret 0: .slice (some ⟨g, 0, none⟩) (((headL a xs m ++ moreL a xs m k).map signed).length) c
    obtain rfl : k = m := by omega
    subst hfs
    exact ⟨_, rfl, hw.below, hw.newRow (i := 0) (n := _) rfl hc hl ht⟩

set_option maxHeartbeats 400000 in
/-- spec.AtomsOf -/
theorem sAtoms_ok (a : St) (va : Value) (xs : List Int) (w : World) (hsa : a.Small) (hva : Ints w va xs) (hs : xs.length ≤ 140737488355328) (loa : -9223372036854775808 ≤ a.n) (hia : a.n ≤ 9223372036854775807) :
    Calls Tryd.prog 55 [vS a, va].toArray w fun en w' => en = .returned (.tuple #[str (atomsOut a xs), .bool (listB a xs)]) ∧ Below w.heap.size w w' := by
  refine fnStart (n := 41) (e := [(0, vS a), (1, va)]) Tryd.func55 rfl rfl rfl rfl Ends.both ?_
  refine Wk.seq ?_
  refine Wk.region ?_
  refine Ll.box (v := vS a) rfl rfl rfl rfl rfl fun p2 hp2 => ?_
  show Ll _ _ (Own _ _ [(p2, .cells #[.int .i64 a.n, str a.set, str a.rel] 26 (0, 0))]) _ _ ((2, .pointer (some ⟨p2, 0, none⟩)) :: _) _ _ _
  refine Ll.op (v := str ([])) rfl rfl rfl (OpQ.assign rfl rfl) ?_
  refine Ll.op (v := .bool false) rfl rfl rfl (OpQ.assign rfl rfl) ?_
  refine Ll.nil ?_
  refine Kt.onSub (e' := [(1, va), (2, .pointer (some ⟨p2, 0, none⟩))]) (Sub.cons rfl (Sub.cons rfl Sub.nil)) ?_
  refine Wk.seq ?_
  refine Wk.regionQ ?_
  refine Lq.op (v := str ([])) rfl rfl rfl (OpQ.assign rfl rfl) ?_
  refine Lq.nil ?_
  refine Kt.onSub (e' := [(1, va), (2, .pointer (some ⟨p2, 0, none⟩)), (6, str ([]))]) (Sub.cons rfl (Sub.cons rfl (Sub.cons rfl Sub.nil))) ?_
  refine Wk.seq ?_
  refine Wk.seq ?_
  refine Wk.regionQ ?_
  refine Lq.op (v := vS a) rfl rfl rfl (OpQ.loadBox (cs := #[.int .i64 a.n, str a.set, str a.rel]) 0 rfl Tryd.isAgg26 rfl rfl Tryd.sizeOf26) ?_
  refine Lq.op (v := va) rfl rfl rfl (OpQ.move rfl rfl) ?_
  refine Lq.op (v := .bool (listB a xs)) rfl rfl rfl (OpQ.call rfl Tryd.call95 rfl Own.stable (fun w1 hw1 => l4List_ok a va xs w1 hsa (Row.own hva hw1) (by first | (simp; done) | (simp; omega) | omega) loa hia)) ?_
  refine Lq.op (v := .bool (!(listB a xs))) rfl rfl rfl (OpQ.not rfl rfl) ?_
  refine Lq.nil ?_
  refine Kt.onSub (e' := [(1, va), (2, .pointer (some ⟨p2, 0, none⟩)), (6, str ([])), (13, .bool (!(listB a xs)))]) (Sub.cons rfl (Sub.cons rfl (Sub.cons rfl (Sub.cons rfl Sub.nil)))) ?_
  refine Wk.cond (b := !(listB a xs)) rfl (fun h13 => ?_) (fun h13 => ?_)
  · skip
    replace h13 := not_true h13
    refine Wk.seq ?_
    refine Wk.regionQ ?_
    refine Lq.op (v := str ([])) rfl rfl rfl (OpQ.assign rfl rfl) ?_
    refine Lq.op (v := .bool false) rfl rfl rfl (OpQ.assign rfl rfl) ?_
    refine Lq.nil ?_
    refine Kt.onSub (e' := [(4, str ([])), (5, .bool false)]) (Sub.cons rfl (Sub.cons rfl Sub.nil)) ?_
    refine Wk.ret (Kt.end2 rfl rfl rfl fun w' hw => ?_)
    -- ret 0: str ([]); .bool false
    exact ⟨by rw [show listB a xs = false from by simpa using h13, atomsOut_no (by simpa using h13)], hw.below⟩
  · skip
    replace h13 := not_false h13
    replace h13 : listB a xs = true := by simpa using h13
    obtain ⟨_, ha, hA, hl4⟩ := listB_true h13
    refine Wk.skip ?_
    refine Kt.onSub (e' := [(1, va), (2, .pointer (some ⟨p2, 0, none⟩)), (6, str ([]))]) (Sub.cons rfl (Sub.cons rfl (Sub.cons rfl Sub.nil))) ?_
    refine Wk.seq ?_
    refine Wk.seq ?_
    refine Wk.regionQ ?_
    refine Lq.op (v := .int .i64 1) rfl rfl rfl (OpQ.assign rfl rfl) ?_
    refine Lq.nil ?_
    refine Kt.onSub (e' := [(1, va), (2, .pointer (some ⟨p2, 0, none⟩)), (6, str ([])), (7, .int .i64 1)]) (Sub.cons rfl (Sub.cons rfl (Sub.cons rfl (Sub.cons rfl Sub.nil)))) ?_
    refine Wk.block ?_
    refine Wk.loop (σ := Nat) (fun k => k ≤ xs.length) (fun k => [(1, va), (2, .pointer (some ⟨p2, 0, none⟩)), (6, str (atomsT (factsL a xs k))), (7, .int .i64 ((k : Int) + 1))]) (fun k => Own w.heap.size w [(p2, .cells #[.int .i64 a.n, str a.set, str a.rel] 26 (0, 0))]) (fun k => xs.length - k) (0) (by omega) (Sub.cons rfl (Sub.cons rfl (Sub.cons rfl (Sub.cons (by simp [List.lookup]) Sub.nil)))) (fun _ h => h) ?_
    rintro k hk
    refine Wk.seq ?_
    refine Wk.seq ?_
    refine Wk.regionQ ?_
    refine Lq.op (v := .int .i64 ((k : Int) + 1)) rfl rfl rfl (OpQ.move rfl rfl) ?_
    refine Lq.op (v := va) rfl rfl rfl (OpQ.move rfl rfl) ?_
    refine Lq.op (v := .int .i64 ((xs.length : Int))) rfl rfl rfl (OpQ.lenRow rfl Tryd.runUnderlying31 rfl (ints_length _) (fun w1 hw1 => Row.own hva hw1)) ?_
    refine Lq.op (v := .bool (decide (((k : Int) + 1) ≤ ((xs.length : Int))))) rfl rfl rfl (OpQ.leq rfl rfl rfl) ?_
    refine Lq.nil ?_
    refine Kt.onSub (e' := [(1, va), (2, .pointer (some ⟨p2, 0, none⟩)), (6, str (atomsT (factsL a xs k))), (7, .int .i64 ((k : Int) + 1)), (17, .bool (decide (((k : Int) + 1) ≤ ((xs.length : Int)))))]) (Sub.cons rfl (Sub.cons rfl (Sub.cons rfl (Sub.cons rfl (Sub.cons rfl Sub.nil))))) ?_
    refine Wk.cond (b := decide (((k : Int) + 1) ≤ ((xs.length : Int)))) rfl (fun h17 => ?_) (fun h17 => ?_)
    · skip
      replace h17 := of_decide_eq_true h17
      have hk4 : k < 4 := by omega
      refine Wk.skip ?_
      refine Kt.onSub (e' := [(1, va), (2, .pointer (some ⟨p2, 0, none⟩)), (6, str (atomsT (factsL a xs k))), (7, .int .i64 ((k : Int) + 1))]) (Sub.cons rfl (Sub.cons rfl (Sub.cons rfl (Sub.cons rfl Sub.nil)))) ?_
      refine Wk.seq ?_
      refine Wk.block ?_
      refine Wk.seq ?_
      refine Wk.regionO [(0, true), (1, true), (2, true), (3, true), (4, false), (5, true)] Base.mixed (fun _ h => h.drawn) (by kernel_rfl) ?_
      refine Ld.take (v := vS a) rfl rfl rfl rfl rfl (OpQ.loadBox (cs := #[.int .i64 a.n, str a.set, str a.rel]) 0 rfl Tryd.isAgg26 rfl rfl Tryd.sizeOf26) (fun _ h => h) ?_
      refine Ld.take (v := va) rfl rfl rfl rfl rfl (OpQ.move rfl rfl) (fun _ h => h) ?_
      refine Ld.take (v := .int .i64 (((k + 1 : Nat) : Int))) rfl rfl rfl rfl rfl (OpQ.cast (by simp) (OpQ.move rfl rfl)) (fun _ h => h) ?_
      refine Ld.take (v := sTake va ((k + 1))) rfl rfl rfl rfl rfl (OpQ.takeRow (i := ((k + 1 : Nat) : Int)) rfl Tryd.runUnderlying31 Tryd.sizeOf3 rfl rfl (by omega) (by rw [ints_length]; omega) (fun w1 hw1 => Row.own hva hw1)) (fun _ h => h) ?_
      refine Ld.loud rfl ?_
      refine Ll.callRow (xs := [.tmp 20, .tmp 23]) (m := ((factL a xs k).map signed).length) (vs := strs ((factL a xs k).map signed)) (el := 9) (size := 1) rfl rfl rfl rfl Tryd.call96 rfl (fun w1 hw1 => l3Facts_ok a (sTake va ((k + 1))) (xs.take ((k + 1))) k ((factL a xs k).map signed) w1 ha (Ints.take (Row.own hva hw1) ((k + 1)) (by omega)) (hA.take _) (by simp; omega) (by omega) (by rw [fact_take (by omega)])) fun p24 cap24 cur24 hp24 hcp24 hlp24 htp24 => ?_
      refine Ll.nil (Ld.joint (fun _ h => h.tail) ?_)
      refine Ld.take (v := .slice (some ⟨p24, 0, none⟩) (((factL a xs k).map signed).length) cap24) rfl rfl rfl rfl rfl (OpQ.assign rfl rfl) (fun _ h => h.tail) ?_
      refine Ld.nil ?_
      refine Kt.onSub (e' := [(1, va), (2, .pointer (some ⟨p2, 0, none⟩)), (6, str (atomsT (factsL a xs k))), (7, .int .i64 ((k : Int) + 1)), (8, .slice (some ⟨p24, 0, none⟩) (((factL a xs k).map signed).length) cap24)]) (Sub.cons rfl (Sub.cons rfl (Sub.cons rfl (Sub.cons rfl (Sub.cons rfl Sub.nil))))) ?_
      refine Wk.seq ?_
      refine Wk.regionQ ?_
      refine Lq.op (v := .int .i64 0) rfl rfl rfl (OpQ.assign rfl rfl) ?_
      refine Lq.nil ?_
      refine Kt.onSub (e' := [(1, va), (2, .pointer (some ⟨p2, 0, none⟩)), (6, str (atomsT (factsL a xs k))), (7, .int .i64 ((k : Int) + 1)), (8, .slice (some ⟨p24, 0, none⟩) (((factL a xs k).map signed).length) cap24), (9, .int .i64 0)]) (Sub.cons rfl (Sub.cons rfl (Sub.cons rfl (Sub.cons rfl (Sub.cons rfl (Sub.cons rfl Sub.nil)))))) ?_
      refine Wk.block ?_
      refine Wk.loop (σ := Nat) (fun j => j ≤ (factL a xs k).length) (fun j => [(1, va), (2, .pointer (some ⟨p2, 0, none⟩)), (6, str (atomsT (factsL a xs k) ++ atomsT ((factL a xs k).take j))), (7, .int .i64 ((k : Int) + 1)), (8, .slice (some ⟨p24, 0, none⟩) (((factL a xs k).map signed).length) cap24), (9, .int .i64 ((j : Int)))]) (fun j => Own w.heap.size w [(p24, .cells cur24 9 (0, 0)), (p2, .cells #[.int .i64 a.n, str a.set, str a.rel] 26 (0, 0))]) (fun j => (factL a xs k).length - j) (0) (by omega) (Sub.cons rfl (Sub.cons rfl (Sub.cons (by simp [List.lookup, atomsT]) (Sub.cons rfl (Sub.cons rfl (Sub.cons rfl Sub.nil)))))) (fun _ h => h) ?_
      rintro j hj
      refine Wk.seq ?_
      refine Wk.seq ?_
      refine Wk.regionQ ?_
      refine Lq.op (v := .int .i64 ((j : Int))) rfl rfl rfl (OpQ.move rfl rfl) ?_
      refine Lq.op (v := .slice (some ⟨p24, 0, none⟩) (((factL a xs k).map signed).length) cap24) rfl rfl rfl (OpQ.move rfl rfl) ?_
      refine Lq.op (v := .int .i64 ((((factL a xs k).map signed).length : Int))) rfl rfl rfl (OpQ.lenS rfl Tryd.runUnderlying57 rfl) ?_
      refine Lq.op (v := .bool (decide (((j : Int)) < ((((factL a xs k).map signed).length : Int))))) rfl rfl rfl (OpQ.lss rfl rfl rfl) ?_
      refine Lq.nil ?_
      refine Kt.onSub (e' := [(1, va), (2, .pointer (some ⟨p2, 0, none⟩)), (6, str (atomsT (factsL a xs k) ++ atomsT ((factL a xs k).take j))), (7, .int .i64 ((k : Int) + 1)), (8, .slice (some ⟨p24, 0, none⟩) (((factL a xs k).map signed).length) cap24), (9, .int .i64 ((j : Int))), (28, .bool (decide (((j : Int)) < ((((factL a xs k).map signed).length : Int)))))]) (Sub.cons rfl (Sub.cons rfl (Sub.cons rfl (Sub.cons rfl (Sub.cons rfl (Sub.cons rfl (Sub.cons rfl Sub.nil))))))) ?_
      refine Wk.cond (b := decide (((j : Int)) < ((((factL a xs k).map signed).length : Int)))) rfl (fun h28 => ?_) (fun h28 => ?_)
      · skip
        replace h28 := of_decide_eq_true h28
        have hj2 : j < (factL a xs k).length := by rw [List.length_map] at h28; omega
        have hsl := sign_len (l := factL a xs k) (j := j) hj2 plainly_fact
        have hfl := factsL_length a xs k (by omega)
        have hfl2 := factL_length a xs k
        refine Wk.skip ?_
        refine Kt.onSub (e' := [(1, va), (2, .pointer (some ⟨p2, 0, none⟩)), (6, str (atomsT (factsL a xs k) ++ atomsT ((factL a xs k).take j))), (7, .int .i64 ((k : Int) + 1)), (8, .slice (some ⟨p24, 0, none⟩) (((factL a xs k).map signed).length) cap24), (9, .int .i64 ((j : Int)))]) (Sub.cons rfl (Sub.cons rfl (Sub.cons rfl (Sub.cons rfl (Sub.cons rfl (Sub.cons rfl Sub.nil)))))) ?_
        refine Wk.seq ?_
        refine Wk.block ?_
        refine Wk.regionQ ?_
        refine Lq.op (v := str (atomsT (factsL a xs k) ++ atomsT ((factL a xs k).take j))) rfl rfl rfl (OpQ.move rfl rfl) ?_
        refine Lq.op (v := .slice (some ⟨p24, 0, none⟩) (((factL a xs k).map signed).length) cap24) rfl rfl rfl (OpQ.move rfl rfl) ?_
        refine Lq.op (v := .int .i64 ((j : Int))) rfl rfl rfl (OpQ.move rfl rfl) ?_
        refine Lq.op (v := .pointer (some ⟨p24, ((j : Int)).toNat, none⟩)) rfl rfl rfl (OpQ.cast (by rw [Nat.zero_add]) (OpQ.indexAddr1 (i := (j : Int)) rfl Tryd.runUnderlying57 Tryd.sizeOf9 rfl rfl (by omega) (by omega))) ?_
        refine Lq.op (v := str (((factL a xs k).map signed).getD (((j : Int)).toNat) [])) rfl rfl rfl (OpQ.loadAt 0 rfl Tryd.isAgg9 rfl rfl (cur_at (by simpa using htp24) (strs_at (c := (factL a xs k).map signed) (off := ((j : Int)).toNat) (by first | (simp; done) | (simp; omega) | omega)))) ?_
        refine Lq.op (v := .int .u8 ((((((factL a xs k).map signed).getD (((j : Int)).toNat) []).getD ((0 : Int).toNat) 0).toNat : Int))) rfl rfl rfl (OpQ.indexStr rfl Tryd.runUnderlying9 rfl rfl (by omega) (by simpa using hsl)) ?_
        refine Lq.op (v := .bool (!(decide (((((((factL a xs k).map signed).getD (((j : Int)).toNat) []).getD ((0 : Int).toNat) 0).toNat : Int)) = (33 : Int))))) rfl rfl rfl (OpQ.neq rfl rfl rfl) ?_
        refine Lq.op (v := str ((if !(decide (((((((factL a xs k).map signed).getD (((j : Int)).toNat) []).getD ((0 : Int).toNat) 0).toNat : Int)) = (33 : Int))) then [49] else [48]))) rfl rfl rfl (OpQ.call rfl Tryd.call97 rfl Own.stable (fun w1 hw1 => l1Bit_ok (!(decide (((((((factL a xs k).map signed).getD (((j : Int)).toNat) []).getD ((0 : Int).toNat) 0).toNat : Int)) = (33 : Int)))) w1 )) ?_
        refine Lq.op (v := str ((atomsT (factsL a xs k) ++ atomsT ((factL a xs k).take j)) ++ ((if !(decide (((((((factL a xs k).map signed).getD (((j : Int)).toNat) []).getD ((0 : Int).toNat) 0).toNat : Int)) = (33 : Int))) then [49] else [48])))) rfl rfl rfl (OpQ.sadd rfl rfl rfl (by rw [bit_len]; simp; omega)) ?_
        refine Lq.op (v := str ((atomsT (factsL a xs k) ++ atomsT ((factL a xs k).take j)) ++ ((if !(decide (((((((factL a xs k).map signed).getD (((j : Int)).toNat) []).getD ((0 : Int).toNat) 0).toNat : Int)) = (33 : Int))) then [49] else [48])))) rfl rfl rfl (OpQ.assign rfl rfl) ?_
        refine Lq.nil ?_
        refine Kt.onSub (e' := [(1, va), (2, .pointer (some ⟨p2, 0, none⟩)), (6, str ((atomsT (factsL a xs k) ++ atomsT ((factL a xs k).take j)) ++ ((if !(decide (((((((factL a xs k).map signed).getD (((j : Int)).toNat) []).getD ((0 : Int).toNat) 0).toNat : Int)) = (33 : Int))) then [49] else [48])))), (7, .int .i64 ((k : Int) + 1)), (8, .slice (some ⟨p24, 0, none⟩) (((factL a xs k).map signed).length) cap24), (9, .int .i64 ((j : Int)))]) (Sub.cons rfl (Sub.cons rfl (Sub.cons rfl (Sub.cons rfl (Sub.cons rfl (Sub.cons rfl Sub.nil)))))) ?_
        refine Wk.regionQ ?_
        refine Lq.op (v := .int .i64 ((j : Int))) rfl rfl rfl (OpQ.move rfl rfl) ?_
        refine Lq.op (v := .int .i64 (((j : Int)) + (1 : Int))) rfl rfl rfl (OpQ.add rfl rfl rfl (by omega) (by omega)) ?_
        refine Lq.op (v := .int .i64 (((j : Int)) + (1 : Int))) rfl rfl rfl (OpQ.assign rfl rfl) ?_
        refine Lq.nil ?_
        refine Kt.again (j + 1) (by omega) (by omega) (Sub.cons rfl (Sub.cons rfl (Sub.cons (by rw [atoms_step hj2 plainly_fact, ← List.append_assoc]; rfl) (Sub.cons rfl (Sub.cons rfl (Sub.cons rfl Sub.nil)))))) (fun _ h => h)
      · skip
        replace h28 := of_decide_eq_false h28
        refine Wk.exit rfl ?_
        refine Kt.onSub (e' := [(1, va), (2, .pointer (some ⟨p2, 0, none⟩)), (6, str (atomsT (factsL a xs k) ++ atomsT ((factL a xs k).take j))), (7, .int .i64 ((k : Int) + 1))]) (Sub.cons rfl (Sub.cons rfl (Sub.cons rfl (Sub.cons rfl Sub.nil)))) ?_
        refine Wk.regionQ ?_
        refine Lq.op (v := .int .i64 ((k : Int) + 1)) rfl rfl rfl (OpQ.move rfl rfl) ?_
        refine Lq.op (v := .int .i64 (((k : Int) + 1) + (1 : Int))) rfl rfl rfl (OpQ.add rfl rfl rfl (by omega) (by omega)) ?_
        refine Lq.op (v := .int .i64 (((k : Int) + 1) + (1 : Int))) rfl rfl rfl (OpQ.assign rfl rfl) ?_
        refine Lq.nil ?_
        refine Kt.again (k + 1) (by omega) (by omega) (Sub.cons rfl (Sub.cons rfl (Sub.cons (by rw [facts_done (j := j) (by rw [List.length_map] at h28; omega)]; rfl) (Sub.cons (by simp [List.lookup]) Sub.nil)))) (fun _ h => h.tail)
    · skip
      replace h17 := of_decide_eq_false h17
      refine Wk.exit rfl ?_
      refine Kt.onSub (e' := [(6, str (atomsT (factsL a xs k)))]) (Sub.cons rfl Sub.nil) ?_
      refine Wk.seq ?_
      refine Wk.regionQ ?_
      refine Lq.op (v := str (atomsT (factsL a xs k))) rfl rfl rfl (OpQ.move rfl rfl) ?_
      refine Lq.op (v := str (atomsT (factsL a xs k))) rfl rfl rfl (OpQ.assign rfl rfl) ?_
      refine Lq.op (v := .bool true) rfl rfl rfl (OpQ.assign rfl rfl) ?_
      refine Lq.nil ?_
      refine Kt.onSub (e' := [(4, str (atomsT (factsL a xs k))), (5, .bool true)]) (Sub.cons rfl (Sub.cons rfl Sub.nil)) ?_
      refine Wk.ret (Kt.end2 rfl rfl rfl fun w' hw => ?_)
      -- ret 1: str (atomsT (factsL a xs k)); .bool true
      exact ⟨by rw [h13, atomsOut_yes h13, show k = xs.length from by omega], hw.below⟩

set_option maxHeartbeats 400000 in
/-- impl.factsOf$1 -/
theorem tell_ok (B : Nat) (w0 : World) (p7 p6 p2 : Nat) (a2 : Array Value) (s : Boxed) (F : List (List UInt8)) (H : List Bool) (f : List UInt8) (b : Bool) (w : World) (hs : s.Ok B F H) (hF : F.length ≤ 1000) (hH : H.length ≤ 1000) (hw : Own B w0 [(p7, .cells #[.slice (some ⟨s.q2, 0, none⟩) ((H : List Bool).length) s.c2] 92 (0, 0)), (p6, .cells #[.slice (some ⟨s.q1, 0, none⟩) ((F : List (List UInt8)).length) s.c1] 57 (0, 0)), (s.q2, .cells s.u2 4 (0, 0)), (s.q1, .cells s.u1 9 (0, 0)), (p2, .cells a2 26 (0, 0))] w) :
    Calls Tryd.prog 125 [str f, .bool b, .pointer (some ⟨p6, 0, none⟩), .pointer (some ⟨p7, 0, none⟩)].toArray w fun en w' => en = .returned (.tuple #[]) ∧ ∃ t : Boxed, t.Ok B (F ++ [f]) (H ++ [b]) ∧ Own B w0 [(p7, .cells #[.slice (some ⟨t.q2, 0, none⟩) ((H ++ [b] : List Bool).length) t.c2] 92 (0, 0)), (p6, .cells #[.slice (some ⟨t.q1, 0, none⟩) ((F ++ [f] : List (List UInt8)).length) t.c1] 57 (0, 0)), (t.q2, .cells t.u2 4 (0, 0)), (t.q1, .cells t.u1 9 (0, 0)), (p2, .cells a2 26 (0, 0))] w' := by
  refine fnStartC (Own B w0 [(p7, .cells #[.slice (some ⟨s.q2, 0, none⟩) ((H : List Bool).length) s.c2] 92 (0, 0)), (p6, .cells #[.slice (some ⟨s.q1, 0, none⟩) ((F : List (List UInt8)).length) s.c1] 57 (0, 0)), (s.q2, .cells s.u2 4 (0, 0)), (s.q1, .cells s.u1 9 (0, 0)), (p2, .cells a2 26 (0, 0))]) (n := 14) (e := [(0, str f), (1, .bool b), (2, .pointer (some ⟨p6, 0, none⟩)), (3, .pointer (some ⟨p7, 0, none⟩))]) Tryd.func125 rfl rfl rfl rfl Ends.both hw ?_
  refine Wk.seq ?_
  refine Wk.region ?_
  refine Ll.op (v := .slice (some ⟨s.q1, 0, none⟩) ((F : List (List UInt8)).length) s.c1) rfl rfl rfl (OpQ.loadOwn 1 rfl Tryd.isAgg57 rfl rfl rfl) ?_
  refine Ll.op (v := str f) rfl rfl rfl (OpQ.move rfl rfl) ?_
  refine Ll.slice (xs := [.tmp 7]) (vs := [str f]) Base.elem57 rfl rfl rfl rfl rfl rfl (by decide) rfl fun p8 hp8 => ?_
  refine Ll.appendStrs (xs := F) (ys := ([f] : List (List UInt8))) Base.elem57 4 rfl rfl rfl rfl rfl rfl rfl hs.s1 hs.l1 (by simpa using hs.t1) (fun w1 hw1 => (Own.row hw1 (i := 0) rfl (n := 1) (cap := 1) (vs := strs ([f] : List (List UInt8))) rfl rfl (by decide))) ((F ++ (([f] : List (List UInt8)))).length) (by first | (simp; done) | (simp; omega)) (by first | (simp; done) | (simp; omega) | omega) fun p9 cap9 cur9 hp9 hcp9 hlp9 htp9 => ?_
  show Ll _ _ (Own _ _ [(p8, .cells #[str f] 9 (0, 0)), (p7, .cells #[.slice (some ⟨s.q2, 0, none⟩) ((H : List Bool).length) s.c2] 92 (0, 0)), (p6, .cells #[.slice (some ⟨s.q1, 0, none⟩) ((F : List (List UInt8)).length) s.c1] 57 (0, 0)), (s.q2, .cells s.u2 4 (0, 0)), (p9, .cells cur9 9 (0, 0)), (p2, .cells a2 26 (0, 0))]) _ _ ((9, .slice (some ⟨p9, 0, none⟩) (((F ++ (([f] : List (List UInt8)))).length)) cap9) :: _) _ _ _
  refine Ll.store1 (v := .slice (some ⟨p9, 0, none⟩) (((F ++ (([f] : List (List UInt8)))).length)) cap9) (hs' := [(p8, .cells #[str f] 9 (0, 0)), (p7, .cells #[.slice (some ⟨s.q2, 0, none⟩) ((H : List Bool).length) s.c2] 92 (0, 0)), (p6, .cells #[.slice (some ⟨p9, 0, none⟩) (((F ++ (([f] : List (List UInt8)))).length)) cap9] 57 (0, 0)), (s.q2, .cells s.u2 4 (0, 0)), (p9, .cells cur9 9 (0, 0)), (p2, .cells a2 26 (0, 0))]) 2 rfl rfl rfl rfl rfl rfl Tryd.sizeOf57 rfl (by simp) rfl ?_
  refine Ll.nil ?_
  refine Kt.onSub (e' := [(1, .bool b), (3, .pointer (some ⟨p7, 0, none⟩))]) (Sub.cons rfl (Sub.cons rfl Sub.nil)) ?_
  refine Wk.region ?_
  refine Ll.op (v := .slice (some ⟨s.q2, 0, none⟩) ((H : List Bool).length) s.c2) rfl rfl rfl (OpQ.loadOwn 1 rfl Tryd.isAgg92 rfl rfl rfl) ?_
  refine Ll.op (v := .bool b) rfl rfl rfl (OpQ.move rfl rfl) ?_
  refine Ll.slice (xs := [.tmp 11]) (vs := [.bool b]) Base.elem92 rfl rfl rfl rfl rfl rfl (by decide) rfl fun p12 hp12 => ?_
  refine Ll.appendBools (xs := H) (ys := ([b] : List Bool)) Base.elem92 4 rfl rfl rfl rfl rfl rfl rfl hs.s2 hs.l2 (by simpa using hs.t2) (fun w1 hw1 => (Own.row hw1 (i := 0) rfl (n := 1) (cap := 1) (vs := bools ([b] : List Bool)) rfl rfl (by decide))) ((H ++ (([b] : List Bool))).length) (by first | (simp; done) | (simp; omega)) (by first | (simp; done) | (simp; omega) | omega) fun p13 cap13 cur13 hp13 hcp13 hlp13 htp13 => ?_
  show Ll _ _ (Own _ _ [(p12, .cells #[.bool b] 4 (0, 0)), (p8, .cells #[str f] 9 (0, 0)), (p7, .cells #[.slice (some ⟨s.q2, 0, none⟩) ((H : List Bool).length) s.c2] 92 (0, 0)), (p6, .cells #[.slice (some ⟨p9, 0, none⟩) (((F ++ (([f] : List (List UInt8)))).length)) cap9] 57 (0, 0)), (p13, .cells cur13 4 (0, 0)), (p9, .cells cur9 9 (0, 0)), (p2, .cells a2 26 (0, 0))]) _ _ ((13, .slice (some ⟨p13, 0, none⟩) (((H ++ (([b] : List Bool))).length)) cap13) :: _) _ _ _
  refine Ll.store1 (v := .slice (some ⟨p13, 0, none⟩) (((H ++ (([b] : List Bool))).length)) cap13) (hs' := [(p12, .cells #[.bool b] 4 (0, 0)), (p8, .cells #[str f] 9 (0, 0)), (p7, .cells #[.slice (some ⟨p13, 0, none⟩) (((H ++ (([b] : List Bool))).length)) cap13] 92 (0, 0)), (p6, .cells #[.slice (some ⟨p9, 0, none⟩) (((F ++ (([f] : List (List UInt8)))).length)) cap9] 57 (0, 0)), (p13, .cells cur13 4 (0, 0)), (p9, .cells cur9 9 (0, 0)), (p2, .cells a2 26 (0, 0))]) 2 rfl rfl rfl rfl rfl rfl Tryd.sizeOf92 rfl (by simp) rfl ?_
  refine Ll.nil ?_
  refine (Kt.end0 rfl fun w' hw => ?_)
  exact ⟨rfl, ⟨p9, cap9, cur9, p13, cap13, cur13⟩, ⟨hp9, hcp9, by simpa using hlp9, by simpa using htp9, hp13, hcp13, by simpa using hlp13, by simpa using htp13⟩, by simpa using hw.tail.tail⟩

set_option maxHeartbeats 400000 in
/-- impl.factsOf -/
theorem factsOf_ok (a : St) (va : Value) (xs : List Int) (w : World) (ha : a.Fine) (hva : Ints w va xs) (hA : a.Els xs) (hl4 : xs.length ≤ 4) :
    Calls Tryd.prog 99 [vS a, va].toArray w fun en w' => ∃ v, en = .returned v ∧ Below w.heap.size w w' ∧ NewRows w.heap.size 9 4 w' v ((factsL a xs xs.length).map Prod.fst).length (strs ((factsL a xs xs.length).map Prod.fst)) ((factsL a xs xs.length).map Prod.snd).length (bools ((factsL a xs xs.length).map Prod.snd)) := by
  refine fnStart (n := 92) (e := [(0, vS a), (1, va)]) Tryd.func99 rfl rfl rfl rfl Ends.both ?_
  refine Wk.seq ?_
  refine Wk.region ?_
  refine Ll.box (v := vS a) rfl rfl rfl rfl rfl fun p2 hp2 => ?_
  show Ll _ _ (Own _ _ [(p2, .cells #[.int .i64 a.n, str a.set, str a.rel] 26 (0, 0))]) _ _ ((2, .pointer (some ⟨p2, 0, none⟩)) :: _) _ _ _
  refine Ll.op (v := .slice none 0 0) rfl rfl rfl (OpQ.assign rfl rfl) ?_
  refine Ll.op (v := .slice none 0 0) rfl rfl rfl (OpQ.assign rfl rfl) ?_
  refine Ll.nil ?_
  refine Kt.onSub (e' := [(1, va), (2, .pointer (some ⟨p2, 0, none⟩))]) (Sub.cons rfl (Sub.cons rfl Sub.nil)) ?_
  refine Wk.seq ?_
  refine Wk.region ?_
  refine Ll.slice (xs := []) (vs := []) Base.elem57 rfl rfl rfl rfl rfl rfl (by decide) rfl fun p15 hp15 => ?_
  refine Ll.slice (xs := []) (vs := []) Base.elem92 rfl rfl rfl rfl rfl rfl (by decide) rfl fun p16 hp16 => ?_
  refine Ll.alloc rfl rfl rfl rfl Tryd.zeroValue57 fun p6 hp6 => ?_
  show Ll _ _ (Own _ _ [(p6, .cells #[.slice none 0 0] 57 (0, 0)), (p16, .cells #[] 4 (0, 0)), (p15, .cells #[] 9 (0, 0)), (p2, .cells #[.int .i64 a.n, str a.set, str a.rel] 26 (0, 0))]) _ _ ((6, .pointer (some ⟨p6, 0, none⟩)) :: _) _ _ _
  refine Ll.alloc rfl rfl rfl rfl Tryd.zeroValue92 fun p7 hp7 => ?_
  show Ll _ _ (Own _ _ [(p7, .cells #[.slice none 0 0] 92 (0, 0)), (p6, .cells #[.slice none 0 0] 57 (0, 0)), (p16, .cells #[] 4 (0, 0)), (p15, .cells #[] 9 (0, 0)), (p2, .cells #[.int .i64 a.n, str a.set, str a.rel] 26 (0, 0))]) _ _ ((7, .pointer (some ⟨p7, 0, none⟩)) :: _) _ _ _
  refine Ll.store1 (v := .slice (some ⟨p15, 0, none⟩) 0 0) (hs' := [(p7, .cells #[.slice none 0 0] 92 (0, 0)), (p6, .cells #[.slice (some ⟨p15, 0, none⟩) 0 0] 57 (0, 0)), (p16, .cells #[] 4 (0, 0)), (p15, .cells #[] 9 (0, 0)), (p2, .cells #[.int .i64 a.n, str a.set, str a.rel] 26 (0, 0))]) 1 rfl rfl rfl rfl rfl rfl Tryd.sizeOf57 rfl (by simp) rfl ?_
  refine Ll.store1 (v := .slice (some ⟨p16, 0, none⟩) 0 0) (hs' := [(p7, .cells #[.slice (some ⟨p16, 0, none⟩) 0 0] 92 (0, 0)), (p6, .cells #[.slice (some ⟨p15, 0, none⟩) 0 0] 57 (0, 0)), (p16, .cells #[] 4 (0, 0)), (p15, .cells #[] 9 (0, 0)), (p2, .cells #[.int .i64 a.n, str a.set, str a.rel] 26 (0, 0))]) 0 rfl rfl rfl rfl rfl rfl Tryd.sizeOf92 rfl (by simp) rfl ?_
  refine Ll.nil ?_
  refine Kt.onSub (e' := [(1, va), (2, .pointer (some ⟨p2, 0, none⟩)), (6, .pointer (some ⟨p6, 0, none⟩)), (7, .pointer (some ⟨p7, 0, none⟩))]) (Sub.cons rfl (Sub.cons rfl (Sub.cons rfl (Sub.cons rfl Sub.nil)))) ?_
  refine Wk.seq ?_
  refine Wk.regionQ ?_
  refine Lq.op (v := .func (.func 125) #[] #[.pointer (some ⟨p6, 0, none⟩), .pointer (some ⟨p7, 0, none⟩)]) rfl rfl rfl (OpQ.func' (cap := [.tmp 6, .tmp 7]) rfl rfl) ?_
  refine Lq.op (v := .func (.func 125) #[] #[.pointer (some ⟨p6, 0, none⟩), .pointer (some ⟨p7, 0, none⟩)]) rfl rfl rfl (OpQ.assign rfl rfl) ?_
  refine Lq.nil ?_
  refine Kt.onSub (e' := [(1, va), (2, .pointer (some ⟨p2, 0, none⟩)), (6, .pointer (some ⟨p6, 0, none⟩)), (7, .pointer (some ⟨p7, 0, none⟩)), (8, .func (.func 125) #[] #[.pointer (some ⟨p6, 0, none⟩), .pointer (some ⟨p7, 0, none⟩)])]) (Sub.cons rfl (Sub.cons rfl (Sub.cons rfl (Sub.cons rfl (Sub.cons rfl Sub.nil))))) ?_
  refine Wk.seq ?_
  refine Wk.seq ?_
  refine Wk.regionQ ?_
  refine Lq.op (v := va) rfl rfl rfl (OpQ.move rfl rfl) ?_
  refine Lq.op (v := .int .i64 ((xs.length : Int))) rfl rfl rfl (OpQ.lenRow rfl Tryd.runUnderlying31 rfl (ints_length _) (fun w1 hw1 => Row.own hva hw1)) ?_
  refine Lq.op (v := .int .i64 0) rfl rfl rfl (OpQ.move rfl rfl) ?_
  refine Lq.nil ?_
  refine Kt.onSub (e' := [(1, va), (2, .pointer (some ⟨p2, 0, none⟩)), (6, .pointer (some ⟨p6, 0, none⟩)), (7, .pointer (some ⟨p7, 0, none⟩)), (8, .func (.func 125) #[] #[.pointer (some ⟨p6, 0, none⟩), .pointer (some ⟨p7, 0, none⟩)]), (18, va), (19, .int .i64 ((xs.length : Int))), (20, .int .i64 0)]) (Sub.cons rfl (Sub.cons rfl (Sub.cons rfl (Sub.cons rfl (Sub.cons rfl (Sub.cons rfl (Sub.cons rfl (Sub.cons rfl Sub.nil)))))))) ?_
  refine Wk.block ?_
  refine Wk.loop (σ := Nat × Boxed) (fun ⟨k, s⟩ => k ≤ xs.length ∧ s.Ok w.heap.size ((factsL a xs k).map Prod.fst) ((factsL a xs k).map Prod.snd)) (fun ⟨k, s⟩ => [(1, va), (2, .pointer (some ⟨p2, 0, none⟩)), (6, .pointer (some ⟨p6, 0, none⟩)), (7, .pointer (some ⟨p7, 0, none⟩)), (8, .func (.func 125) #[] #[.pointer (some ⟨p6, 0, none⟩), .pointer (some ⟨p7, 0, none⟩)]), (18, va), (19, .int .i64 ((xs.length : Int))), (20, .int .i64 ((k : Int)))]) (fun ⟨k, s⟩ => Own w.heap.size w [(p7, .cells #[.slice (some ⟨s.q2, 0, none⟩) (((factsL a xs k).map Prod.snd : List Bool).length) s.c2] 92 (0, 0)), (p6, .cells #[.slice (some ⟨s.q1, 0, none⟩) (((factsL a xs k).map Prod.fst : List (List UInt8)).length) s.c1] 57 (0, 0)), (s.q2, .cells s.u2 4 (0, 0)), (s.q1, .cells s.u1 9 (0, 0)), (p2, .cells #[.int .i64 a.n, str a.set, str a.rel] 26 (0, 0))]) (fun ⟨k, s⟩ => xs.length - k) ((0, ⟨p15, 0, #[], p16, 0, #[]⟩)) ⟨by omega, ⟨hp15, rfl, by simp [factsL], rfl, hp16, rfl, by simp [factsL], rfl⟩⟩ (Sub.cons rfl (Sub.cons rfl (Sub.cons rfl (Sub.cons rfl (Sub.cons rfl (Sub.cons rfl (Sub.cons rfl (Sub.cons rfl Sub.nil)))))))) (fun _ h => h) ?_
  rintro ⟨k, s⟩ ⟨hk, hs⟩
  dsimp only
  refine Wk.seq ?_
  refine Wk.regionQ ?_
  refine Lq.op (v := .bool (decide (((k : Int)) < ((xs.length : Int))))) rfl rfl rfl (OpQ.lss rfl rfl rfl) ?_
  refine Lq.nil ?_
  refine Kt.onSub (e' := [(1, va), (2, .pointer (some ⟨p2, 0, none⟩)), (6, .pointer (some ⟨p6, 0, none⟩)), (7, .pointer (some ⟨p7, 0, none⟩)), (8, .func (.func 125) #[] #[.pointer (some ⟨p6, 0, none⟩), .pointer (some ⟨p7, 0, none⟩)]), (18, va), (19, .int .i64 ((xs.length : Int))), (20, .int .i64 ((k : Int))), (21, .bool (decide (((k : Int)) < ((xs.length : Int)))))]) (Sub.cons rfl (Sub.cons rfl (Sub.cons rfl (Sub.cons rfl (Sub.cons rfl (Sub.cons rfl (Sub.cons rfl (Sub.cons rfl (Sub.cons rfl Sub.nil))))))))) ?_
  refine Wk.seq ?_
  refine Wk.cond (b := decide (((k : Int)) < ((xs.length : Int)))) rfl (fun h21 => ?_) (fun h21 => ?_)
  · skip
    replace h21 := of_decide_eq_true h21
    have hk4 : k < 4 := by omega
    have hfl := factsL_length a xs k (by omega)
    have hnk := nameS_length hk4
    refine Wk.skip ?_
    refine Kt.onSub (e' := [(1, va), (2, .pointer (some ⟨p2, 0, none⟩)), (6, .pointer (some ⟨p6, 0, none⟩)), (7, .pointer (some ⟨p7, 0, none⟩)), (8, .func (.func 125) #[] #[.pointer (some ⟨p6, 0, none⟩), .pointer (some ⟨p7, 0, none⟩)]), (18, va), (19, .int .i64 ((xs.length : Int))), (20, .int .i64 ((k : Int)))]) (Sub.cons rfl (Sub.cons rfl (Sub.cons rfl (Sub.cons rfl (Sub.cons rfl (Sub.cons rfl (Sub.cons rfl (Sub.cons rfl Sub.nil)))))))) ?_
    refine Wk.seq ?_
    refine Wk.block ?_
    refine Wk.seq ?_
    refine Wk.regionQ ?_
    refine Lq.op (v := .int .i64 ((k : Int))) rfl rfl rfl (OpQ.move rfl rfl) ?_
    refine Lq.op (v := .pointer (some (sAt va ((k : Int))))) rfl rfl rfl (OpQ.atRow rfl Tryd.runUnderlying31 Tryd.sizeOf3 rfl rfl (by omega) (by rw [ints_length]; omega) (fun w1 hw1 => Row.own hva hw1)) ?_
    refine Lq.op (v := .int .i64 (xs.getD (((k : Int)).toNat) 0)) rfl rfl rfl (OpQ.load1 rfl Tryd.isAgg3 rfl (fun w1 hw1 => Ints.cell (Row.own hva hw1) (by omega) (by omega))) ?_
    refine Lq.op (v := .int .i64 ((k : Int))) rfl rfl rfl (OpQ.assign rfl rfl) ?_
    refine Lq.op (v := .int .i64 (xs.getD (((k : Int)).toNat) 0)) rfl rfl rfl (OpQ.assign rfl rfl) ?_
    refine Lq.nil ?_
    refine Kt.onSub (e' := [(1, va), (2, .pointer (some ⟨p2, 0, none⟩)), (6, .pointer (some ⟨p6, 0, none⟩)), (7, .pointer (some ⟨p7, 0, none⟩)), (8, .func (.func 125) #[] #[.pointer (some ⟨p6, 0, none⟩), .pointer (some ⟨p7, 0, none⟩)]), (9, .int .i64 ((k : Int))), (10, .int .i64 (xs.getD (((k : Int)).toNat) 0)), (18, va), (19, .int .i64 ((xs.length : Int))), (20, .int .i64 ((k : Int)))]) (Sub.cons rfl (Sub.cons rfl (Sub.cons rfl (Sub.cons rfl (Sub.cons rfl (Sub.cons rfl (Sub.cons rfl (Sub.cons rfl (Sub.cons rfl (Sub.cons rfl Sub.nil)))))))))) ?_
    refine Wk.seq ?_
    refine Wk.regionQ ?_
    refine Lq.op (v := str ([63])) rfl rfl rfl (OpQ.assign rfl rfl) ?_
    refine Lq.nil ?_
    refine Kt.onSub (e' := [(1, va), (2, .pointer (some ⟨p2, 0, none⟩)), (6, .pointer (some ⟨p6, 0, none⟩)), (7, .pointer (some ⟨p7, 0, none⟩)), (8, .func (.func 125) #[] #[.pointer (some ⟨p6, 0, none⟩), .pointer (some ⟨p7, 0, none⟩)]), (9, .int .i64 ((k : Int))), (10, .int .i64 (xs.getD (((k : Int)).toNat) 0)), (11, str ([63])), (18, va), (19, .int .i64 ((xs.length : Int))), (20, .int .i64 ((k : Int)))]) (Sub.cons rfl (Sub.cons rfl (Sub.cons rfl (Sub.cons rfl (Sub.cons rfl (Sub.cons rfl (Sub.cons rfl (Sub.cons rfl (Sub.cons rfl (Sub.cons rfl (Sub.cons rfl Sub.nil))))))))))) ?_
    refine Wk.seq ?_
    refine Wk.seq ?_
    refine Wk.regionQ ?_
    refine Lq.op (v := .int .i64 ((k : Int))) rfl rfl rfl (OpQ.move rfl rfl) ?_
    refine Lq.op (v := .bool (decide (((k : Int)) < (4 : Int)))) rfl rfl rfl (OpQ.lss rfl rfl rfl) ?_
    refine Lq.nil ?_
    refine Kt.onSub (e' := [(1, va), (2, .pointer (some ⟨p2, 0, none⟩)), (6, .pointer (some ⟨p6, 0, none⟩)), (7, .pointer (some ⟨p7, 0, none⟩)), (8, .func (.func 125) #[] #[.pointer (some ⟨p6, 0, none⟩), .pointer (some ⟨p7, 0, none⟩)]), (9, .int .i64 ((k : Int))), (10, .int .i64 (xs.getD (((k : Int)).toNat) 0)), (11, str ([63])), (18, va), (19, .int .i64 ((xs.length : Int))), (20, .int .i64 ((k : Int))), (26, .bool (decide (((k : Int)) < (4 : Int))))]) (Sub.cons rfl (Sub.cons rfl (Sub.cons rfl (Sub.cons rfl (Sub.cons rfl (Sub.cons rfl (Sub.cons rfl (Sub.cons rfl (Sub.cons rfl (Sub.cons rfl (Sub.cons rfl (Sub.cons rfl Sub.nil)))))))))))) ?_
    refine Wk.cond (b := decide (((k : Int)) < (4 : Int))) rfl (fun h26 => ?_) (fun h26 => ?_)
    · skip
      replace h26 := of_decide_eq_true h26
      refine Wk.regionQ ?_
      refine Lq.op (v := .int .i64 ((k : Int))) rfl rfl rfl (OpQ.move rfl rfl) ?_
      refine Lq.op (v := str (nameS k)) rfl rfl rfl (OpQ.call rfl Tryd.call126 rfl Own.stable (fun w1 hw1 => nameOf_ok k w1 (by omega))) ?_
      refine Lq.op (v := str (nameS k)) rfl rfl rfl (OpQ.assign rfl rfl) ?_
      refine Lq.nil ?_
      refine Kt.onSub (e' := [(1, va), (2, .pointer (some ⟨p2, 0, none⟩)), (6, .pointer (some ⟨p6, 0, none⟩)), (7, .pointer (some ⟨p7, 0, none⟩)), (8, .func (.func 125) #[] #[.pointer (some ⟨p6, 0, none⟩), .pointer (some ⟨p7, 0, none⟩)]), (9, .int .i64 ((k : Int))), (10, .int .i64 (xs.getD (((k : Int)).toNat) 0)), (11, str (nameS k)), (18, va), (19, .int .i64 ((xs.length : Int))), (20, .int .i64 ((k : Int)))]) (Sub.cons rfl (Sub.cons rfl (Sub.cons rfl (Sub.cons rfl (Sub.cons rfl (Sub.cons rfl (Sub.cons rfl (Sub.cons rfl (Sub.cons rfl (Sub.cons rfl (Sub.cons rfl Sub.nil))))))))))) ?_
      refine Wk.seq ?_
      refine Wk.region ?_
      refine Ll.op (v := .func (.func 125) #[] #[.pointer (some ⟨p6, 0, none⟩), .pointer (some ⟨p7, 0, none⟩)]) rfl rfl rfl (OpQ.move rfl rfl) ?_
      refine Ll.op (v := str (nameS k)) rfl rfl rfl (OpQ.move rfl rfl) ?_
      refine Ll.op (v := str (([80]) ++ (nameS k))) rfl rfl rfl (OpQ.sadd rfl rfl rfl (by first | omega | (simp only [List.length_append, List.length_cons, List.length_nil]; omega))) ?_
      refine Ll.op (v := vS a) rfl rfl rfl (OpQ.loadBox (cs := #[.int .i64 a.n, str a.set, str a.rel]) 4 rfl Tryd.isAgg26 rfl rfl Tryd.sizeOf26) ?_
      refine Ll.op (v := .int .i64 (xs.getD (((k : Int)).toNat) 0)) rfl rfl rfl (OpQ.move rfl rfl) ?_
      refine Ll.op (v := .bool (a.inSet (xs.getD (((k : Int)).toNat) 0))) rfl rfl rfl (OpQ.call rfl Tryd.call115 rfl Own.stable (fun w1 hw1 => inSet_ok a (xs.getD (((k : Int)).toNat) 0) w1 ha (by first | assumption | exact St.Els.at (by assumption) (by omega) (by omega)))) ?_
      refine Ll.callFnTo (v := .tuple #[]) (xs := [.tmp 31, .tmp 34]) (vs := [str (([80]) ++ (nameS k)), .bool (a.inSet (xs.getD (((k : Int)).toNat) 0))]) (ok := fun t : Boxed => t.Ok w.heap.size (((factsL a xs k).map Prod.fst) ++ [([80]) ++ (nameS k)]) (((factsL a xs k).map Prod.snd) ++ [a.inSet (xs.getD (((k : Int)).toNat) 0)])) (hs' := fun t : Boxed => [(p7, .cells #[.slice (some ⟨t.q2, 0, none⟩) ((((factsL a xs k).map Prod.snd) ++ [a.inSet (xs.getD (((k : Int)).toNat) 0)] : List Bool).length) t.c2] 92 (0, 0)), (p6, .cells #[.slice (some ⟨t.q1, 0, none⟩) ((((factsL a xs k).map Prod.fst) ++ [([80]) ++ (nameS k)] : List (List UInt8)).length) t.c1] 57 (0, 0)), (t.q2, .cells t.u2 4 (0, 0)), (t.q1, .cells t.u1 9 (0, 0)), (p2, .cells #[.int .i64 a.n, str a.set, str a.rel] 26 (0, 0))]) rfl rfl rfl rfl rfl Tryd.call125 rfl (fun w1 hw1 => tell_ok _ _ _ _ _ _ s ((factsL a xs k).map Prod.fst) ((factsL a xs k).map Prod.snd) (([80]) ++ (nameS k)) (a.inSet (xs.getD (((k : Int)).toNat) 0)) w1 hs (by first | (simp; done) | (simp; omega)) (by first | (simp; done) | (simp; omega)) hw1) fun s35 hs35 => ?_
      show Ll _ _ (Own _ _ [(p7, .cells #[.slice (some ⟨s35.q2, 0, none⟩) ((((factsL a xs k).map Prod.snd) ++ [a.inSet (xs.getD (((k : Int)).toNat) 0)] : List Bool).length) s35.c2] 92 (0, 0)), (p6, .cells #[.slice (some ⟨s35.q1, 0, none⟩) ((((factsL a xs k).map Prod.fst) ++ [([80]) ++ (nameS k)] : List (List UInt8)).length) s35.c1] 57 (0, 0)), (s35.q2, .cells s35.u2 4 (0, 0)), (s35.q1, .cells s35.u1 9 (0, 0)), (p2, .cells #[.int .i64 a.n, str a.set, str a.rel] 26 (0, 0))]) _ _ _ _ _ _
      refine Ll.nil ?_
      refine Kt.onSub (e' := [(1, va), (2, .pointer (some ⟨p2, 0, none⟩)), (6, .pointer (some ⟨p6, 0, none⟩)), (7, .pointer (some ⟨p7, 0, none⟩)), (8, .func (.func 125) #[] #[.pointer (some ⟨p6, 0, none⟩), .pointer (some ⟨p7, 0, none⟩)]), (9, .int .i64 ((k : Int))), (10, .int .i64 (xs.getD (((k : Int)).toNat) 0)), (11, str (nameS k)), (18, va), (19, .int .i64 ((xs.length : Int))), (20, .int .i64 ((k : Int)))]) (Sub.cons rfl (Sub.cons rfl (Sub.cons rfl (Sub.cons rfl (Sub.cons rfl (Sub.cons rfl (Sub.cons rfl (Sub.cons rfl (Sub.cons rfl (Sub.cons rfl (Sub.cons rfl Sub.nil))))))))))) ?_
      refine Wk.seq ?_
      refine Wk.region ?_
      refine Ll.op (v := .func (.func 125) #[] #[.pointer (some ⟨p6, 0, none⟩), .pointer (some ⟨p7, 0, none⟩)]) rfl rfl rfl (OpQ.move rfl rfl) ?_
      refine Ll.op (v := str (nameS k)) rfl rfl rfl (OpQ.move rfl rfl) ?_
      refine Ll.op (v := str (([69]) ++ (nameS k))) rfl rfl rfl (OpQ.sadd rfl rfl rfl (by first | omega | (simp only [List.length_append, List.length_cons, List.length_nil]; omega))) ?_
      refine Ll.op (v := str (nameS k)) rfl rfl rfl (OpQ.move rfl rfl) ?_
      refine Ll.op (v := str ((([69]) ++ (nameS k)) ++ (nameS k))) rfl rfl rfl (OpQ.sadd rfl rfl rfl (by first | omega | (simp only [List.length_append, List.length_cons, List.length_nil]; omega))) ?_
      refine Ll.op (v := vS a) rfl rfl rfl (OpQ.loadBox (cs := #[.int .i64 a.n, str a.set, str a.rel]) 4 rfl Tryd.isAgg26 rfl rfl Tryd.sizeOf26) ?_
      refine Ll.op (v := .int .i64 (xs.getD (((k : Int)).toNat) 0)) rfl rfl rfl (OpQ.move rfl rfl) ?_
      refine Ll.op (v := .int .i64 (xs.getD (((k : Int)).toNat) 0)) rfl rfl rfl (OpQ.move rfl rfl) ?_
      refine Ll.op (v := .bool (a.inRel (xs.getD (((k : Int)).toNat) 0) (xs.getD (((k : Int)).toNat) 0))) rfl rfl rfl (OpQ.call rfl Tryd.call116 rfl Own.stable (fun w1 hw1 => inRel_ok a (xs.getD (((k : Int)).toNat) 0) (xs.getD (((k : Int)).toNat) 0) w1 ha (by first | assumption | exact St.Els.at (by assumption) (by omega) (by omega)) (by first | assumption | exact St.Els.at (by assumption) (by omega) (by omega)))) ?_
      refine Ll.callFnTo (v := .tuple #[]) (xs := [.tmp 40, .tmp 44]) (vs := [str ((([69]) ++ (nameS k)) ++ (nameS k)), .bool (a.inRel (xs.getD (((k : Int)).toNat) 0) (xs.getD (((k : Int)).toNat) 0))]) (ok := fun t : Boxed => t.Ok w.heap.size ((((factsL a xs k).map Prod.fst) ++ [([80]) ++ (nameS k)]) ++ [(([69]) ++ (nameS k)) ++ (nameS k)]) ((((factsL a xs k).map Prod.snd) ++ [a.inSet (xs.getD (((k : Int)).toNat) 0)]) ++ [a.inRel (xs.getD (((k : Int)).toNat) 0) (xs.getD (((k : Int)).toNat) 0)])) (hs' := fun t : Boxed => [(p7, .cells #[.slice (some ⟨t.q2, 0, none⟩) (((((factsL a xs k).map Prod.snd) ++ [a.inSet (xs.getD (((k : Int)).toNat) 0)]) ++ [a.inRel (xs.getD (((k : Int)).toNat) 0) (xs.getD (((k : Int)).toNat) 0)] : List Bool).length) t.c2] 92 (0, 0)), (p6, .cells #[.slice (some ⟨t.q1, 0, none⟩) (((((factsL a xs k).map Prod.fst) ++ [([80]) ++ (nameS k)]) ++ [(([69]) ++ (nameS k)) ++ (nameS k)] : List (List UInt8)).length) t.c1] 57 (0, 0)), (t.q2, .cells t.u2 4 (0, 0)), (t.q1, .cells t.u1 9 (0, 0)), (p2, .cells #[.int .i64 a.n, str a.set, str a.rel] 26 (0, 0))]) rfl rfl rfl rfl rfl Tryd.call125 rfl (fun w1 hw1 => tell_ok _ _ _ _ _ _ s35 (((factsL a xs k).map Prod.fst) ++ [([80]) ++ (nameS k)]) (((factsL a xs k).map Prod.snd) ++ [a.inSet (xs.getD (((k : Int)).toNat) 0)]) ((([69]) ++ (nameS k)) ++ (nameS k)) (a.inRel (xs.getD (((k : Int)).toNat) 0) (xs.getD (((k : Int)).toNat) 0)) w1 hs35 (by first | (simp; done) | (simp; omega)) (by first | (simp; done) | (simp; omega)) hw1) fun s45 hs45 => ?_
      show Ll _ _ (Own _ _ [(p7, .cells #[.slice (some ⟨s45.q2, 0, none⟩) (((((factsL a xs k).map Prod.snd) ++ [a.inSet (xs.getD (((k : Int)).toNat) 0)]) ++ [a.inRel (xs.getD (((k : Int)).toNat) 0) (xs.getD (((k : Int)).toNat) 0)] : List Bool).length) s45.c2] 92 (0, 0)), (p6, .cells #[.slice (some ⟨s45.q1, 0, none⟩) (((((factsL a xs k).map Prod.fst) ++ [([80]) ++ (nameS k)]) ++ [(([69]) ++ (nameS k)) ++ (nameS k)] : List (List UInt8)).length) s45.c1] 57 (0, 0)), (s45.q2, .cells s45.u2 4 (0, 0)), (s45.q1, .cells s45.u1 9 (0, 0)), (p2, .cells #[.int .i64 a.n, str a.set, str a.rel] 26 (0, 0))]) _ _ _ _ _ _
      refine Ll.nil ?_
      refine Kt.onSub (e' := [(1, va), (2, .pointer (some ⟨p2, 0, none⟩)), (6, .pointer (some ⟨p6, 0, none⟩)), (7, .pointer (some ⟨p7, 0, none⟩)), (8, .func (.func 125) #[] #[.pointer (some ⟨p6, 0, none⟩), .pointer (some ⟨p7, 0, none⟩)]), (9, .int .i64 ((k : Int))), (10, .int .i64 (xs.getD (((k : Int)).toNat) 0)), (11, str (nameS k)), (18, va), (19, .int .i64 ((xs.length : Int))), (20, .int .i64 ((k : Int)))]) (Sub.cons rfl (Sub.cons rfl (Sub.cons rfl (Sub.cons rfl (Sub.cons rfl (Sub.cons rfl (Sub.cons rfl (Sub.cons rfl (Sub.cons rfl (Sub.cons rfl (Sub.cons rfl Sub.nil))))))))))) ?_
      refine Wk.seq ?_
      refine Wk.regionQ ?_
      refine Lq.op (v := va) rfl rfl rfl (OpQ.move rfl rfl) ?_
      refine Lq.op (v := .int .i64 ((k : Int))) rfl rfl rfl (OpQ.move rfl rfl) ?_
      refine Lq.op (v := sTake va k) rfl rfl rfl (OpQ.takeRow (i := (k : Int)) rfl Tryd.runUnderlying31 Tryd.sizeOf3 rfl rfl (by omega) (by rw [ints_length]; omega) (fun w1 hw1 => Row.own hva hw1)) ?_
      refine Lq.op (v := .int .i64 ((k : Int))) rfl rfl rfl (OpQ.lenRow rfl Tryd.runUnderlying31 rfl (by rw [ints_length, List.length_take]; omega) (fun w1 hw1 => Ints.take (Row.own hva hw1) k (by omega))) ?_
      refine Lq.op (v := .int .i64 0) rfl rfl rfl (OpQ.move rfl rfl) ?_
      refine Lq.nil ?_
      refine Kt.onSub (e' := [(1, va), (2, .pointer (some ⟨p2, 0, none⟩)), (6, .pointer (some ⟨p6, 0, none⟩)), (7, .pointer (some ⟨p7, 0, none⟩)), (8, .func (.func 125) #[] #[.pointer (some ⟨p6, 0, none⟩), .pointer (some ⟨p7, 0, none⟩)]), (10, .int .i64 (xs.getD (((k : Int)).toNat) 0)), (11, str (nameS k)), (18, va), (19, .int .i64 ((xs.length : Int))), (20, .int .i64 ((k : Int))), (48, sTake va k), (49, .int .i64 ((k : Int))), (50, .int .i64 0)]) (Sub.cons rfl (Sub.cons rfl (Sub.cons rfl (Sub.cons rfl (Sub.cons rfl (Sub.cons rfl (Sub.cons rfl (Sub.cons rfl (Sub.cons rfl (Sub.cons rfl (Sub.cons rfl (Sub.cons rfl (Sub.cons rfl Sub.nil))))))))))))) ?_
      refine Wk.block ?_
      refine Wk.loop (σ := Nat × Boxed) (fun ⟨j, t⟩ => j ≤ k ∧ t.Ok w.heap.size ((factsL a xs k ++ (headL a xs k ++ moreL a xs k j)).map Prod.fst) ((factsL a xs k ++ (headL a xs k ++ moreL a xs k j)).map Prod.snd)) (fun ⟨j, t⟩ => [(1, va), (2, .pointer (some ⟨p2, 0, none⟩)), (6, .pointer (some ⟨p6, 0, none⟩)), (7, .pointer (some ⟨p7, 0, none⟩)), (8, .func (.func 125) #[] #[.pointer (some ⟨p6, 0, none⟩), .pointer (some ⟨p7, 0, none⟩)]), (10, .int .i64 (xs.getD (((k : Int)).toNat) 0)), (11, str (nameS k)), (18, va), (19, .int .i64 ((xs.length : Int))), (20, .int .i64 ((k : Int))), (48, sTake va k), (49, .int .i64 ((k : Int))), (50, .int .i64 ((j : Int)))]) (fun ⟨j, t⟩ => Own w.heap.size w [(p7, .cells #[.slice (some ⟨t.q2, 0, none⟩) (((factsL a xs k ++ (headL a xs k ++ moreL a xs k j)).map Prod.snd : List Bool).length) t.c2] 92 (0, 0)), (p6, .cells #[.slice (some ⟨t.q1, 0, none⟩) (((factsL a xs k ++ (headL a xs k ++ moreL a xs k j)).map Prod.fst : List (List UInt8)).length) t.c1] 57 (0, 0)), (t.q2, .cells t.u2 4 (0, 0)), (t.q1, .cells t.u1 9 (0, 0)), (p2, .cells #[.int .i64 a.n, str a.set, str a.rel] 26 (0, 0))]) (fun ⟨j, t⟩ => k - j) ((0, s45)) ⟨by omega, by rw [tell_head1, tell_head2]; exact hs45⟩ (Sub.cons rfl (Sub.cons rfl (Sub.cons rfl (Sub.cons rfl (Sub.cons rfl (Sub.cons rfl (Sub.cons rfl (Sub.cons rfl (Sub.cons rfl (Sub.cons rfl (Sub.cons rfl (Sub.cons rfl (Sub.cons rfl Sub.nil))))))))))))) (fun _ h => by dsimp only; rw [tell_head1, tell_head2]; exact h) ?_
      rintro ⟨j, t⟩ ⟨hj, ht⟩
      dsimp only
      refine Wk.seq ?_
      refine Wk.regionQ ?_
      refine Lq.op (v := .bool (decide (((j : Int)) < ((k : Int))))) rfl rfl rfl (OpQ.lss rfl rfl rfl) ?_
      refine Lq.nil ?_
      refine Kt.onSub (e' := [(1, va), (2, .pointer (some ⟨p2, 0, none⟩)), (6, .pointer (some ⟨p6, 0, none⟩)), (7, .pointer (some ⟨p7, 0, none⟩)), (8, .func (.func 125) #[] #[.pointer (some ⟨p6, 0, none⟩), .pointer (some ⟨p7, 0, none⟩)]), (10, .int .i64 (xs.getD (((k : Int)).toNat) 0)), (11, str (nameS k)), (18, va), (19, .int .i64 ((xs.length : Int))), (20, .int .i64 ((k : Int))), (48, sTake va k), (49, .int .i64 ((k : Int))), (50, .int .i64 ((j : Int))), (51, .bool (decide (((j : Int)) < ((k : Int)))))]) (Sub.cons rfl (Sub.cons rfl (Sub.cons rfl (Sub.cons rfl (Sub.cons rfl (Sub.cons rfl (Sub.cons rfl (Sub.cons rfl (Sub.cons rfl (Sub.cons rfl (Sub.cons rfl (Sub.cons rfl (Sub.cons rfl (Sub.cons rfl Sub.nil)))))))))))))) ?_
      refine Wk.seq ?_
      refine Wk.cond (b := decide (((j : Int)) < ((k : Int)))) rfl (fun h51 => ?_) (fun h51 => ?_)
      · skip
        replace h51 := of_decide_eq_true h51
        have hlk : (xs.take k).length = k := by rw [List.length_take]; omega
        have hjk : j < k := by omega
        have hnj := nameS_length (show j < 4 by omega)
        refine Wk.skip ?_
        refine Kt.onSub (e' := [(1, va), (2, .pointer (some ⟨p2, 0, none⟩)), (6, .pointer (some ⟨p6, 0, none⟩)), (7, .pointer (some ⟨p7, 0, none⟩)), (8, .func (.func 125) #[] #[.pointer (some ⟨p6, 0, none⟩), .pointer (some ⟨p7, 0, none⟩)]), (10, .int .i64 (xs.getD (((k : Int)).toNat) 0)), (11, str (nameS k)), (18, va), (19, .int .i64 ((xs.length : Int))), (20, .int .i64 ((k : Int))), (48, sTake va k), (49, .int .i64 ((k : Int))), (50, .int .i64 ((j : Int)))]) (Sub.cons rfl (Sub.cons rfl (Sub.cons rfl (Sub.cons rfl (Sub.cons rfl (Sub.cons rfl (Sub.cons rfl (Sub.cons rfl (Sub.cons rfl (Sub.cons rfl (Sub.cons rfl (Sub.cons rfl (Sub.cons rfl Sub.nil))))))))))))) ?_
        refine Wk.seq ?_
        refine Wk.block ?_
        refine Wk.seq ?_
        refine Wk.regionQ ?_
        refine Lq.op (v := .int .i64 ((j : Int))) rfl rfl rfl (OpQ.move rfl rfl) ?_
        refine Lq.op (v := .pointer (some (sAt (sTake va k) ((j : Int))))) rfl rfl rfl (OpQ.atRow rfl Tryd.runUnderlying31 Tryd.sizeOf3 rfl rfl (by omega) (by rw [ints_length, List.length_take]; omega) (fun w1 hw1 => Ints.take (Row.own hva hw1) k (by omega))) ?_
        refine Lq.op (v := .int .i64 (xs.getD ((j : Int)).toNat 0)) rfl rfl rfl (OpQ.cast (by rw [Int.toNat_natCast, take_getD hjk]) (OpQ.load1 rfl Tryd.isAgg3 rfl (fun w1 hw1 => Ints.cell (Ints.take (Row.own hva hw1) k (by omega)) (by omega) (by omega)))) ?_
        refine Lq.op (v := .int .i64 ((j : Int))) rfl rfl rfl (OpQ.assign rfl rfl) ?_
        refine Lq.op (v := .int .i64 (xs.getD ((j : Int)).toNat 0)) rfl rfl rfl (OpQ.assign rfl rfl) ?_
        refine Lq.nil ?_
        refine Kt.onSub (e' := [(1, va), (2, .pointer (some ⟨p2, 0, none⟩)), (6, .pointer (some ⟨p6, 0, none⟩)), (7, .pointer (some ⟨p7, 0, none⟩)), (8, .func (.func 125) #[] #[.pointer (some ⟨p6, 0, none⟩), .pointer (some ⟨p7, 0, none⟩)]), (10, .int .i64 (xs.getD (((k : Int)).toNat) 0)), (11, str (nameS k)), (12, .int .i64 ((j : Int))), (13, .int .i64 (xs.getD ((j : Int)).toNat 0)), (18, va), (19, .int .i64 ((xs.length : Int))), (20, .int .i64 ((k : Int))), (48, sTake va k), (49, .int .i64 ((k : Int))), (50, .int .i64 ((j : Int)))]) (Sub.cons rfl (Sub.cons rfl (Sub.cons rfl (Sub.cons rfl (Sub.cons rfl (Sub.cons rfl (Sub.cons rfl (Sub.cons rfl (Sub.cons rfl (Sub.cons rfl (Sub.cons rfl (Sub.cons rfl (Sub.cons rfl (Sub.cons rfl (Sub.cons rfl Sub.nil))))))))))))))) ?_
        refine Wk.seq ?_
        refine Wk.regionQ ?_
        refine Lq.op (v := str ([63])) rfl rfl rfl (OpQ.assign rfl rfl) ?_
        refine Lq.nil ?_
        refine Kt.onSub (e' := [(1, va), (2, .pointer (some ⟨p2, 0, none⟩)), (6, .pointer (some ⟨p6, 0, none⟩)), (7, .pointer (some ⟨p7, 0, none⟩)), (8, .func (.func 125) #[] #[.pointer (some ⟨p6, 0, none⟩), .pointer (some ⟨p7, 0, none⟩)]), (10, .int .i64 (xs.getD (((k : Int)).toNat) 0)), (11, str (nameS k)), (12, .int .i64 ((j : Int))), (13, .int .i64 (xs.getD ((j : Int)).toNat 0)), (14, str ([63])), (18, va), (19, .int .i64 ((xs.length : Int))), (20, .int .i64 ((k : Int))), (48, sTake va k), (49, .int .i64 ((k : Int))), (50, .int .i64 ((j : Int)))]) (Sub.cons rfl (Sub.cons rfl (Sub.cons rfl (Sub.cons rfl (Sub.cons rfl (Sub.cons rfl (Sub.cons rfl (Sub.cons rfl (Sub.cons rfl (Sub.cons rfl (Sub.cons rfl (Sub.cons rfl (Sub.cons rfl (Sub.cons rfl (Sub.cons rfl (Sub.cons rfl Sub.nil)))))))))))))))) ?_
        refine Wk.seq ?_
        refine Wk.seq ?_
        refine Wk.regionQ ?_
        refine Lq.op (v := .int .i64 ((j : Int))) rfl rfl rfl (OpQ.move rfl rfl) ?_
        refine Lq.op (v := .bool (decide (((j : Int)) < (4 : Int)))) rfl rfl rfl (OpQ.lss rfl rfl rfl) ?_
        refine Lq.nil ?_
        refine Kt.onSub (e' := [(1, va), (2, .pointer (some ⟨p2, 0, none⟩)), (6, .pointer (some ⟨p6, 0, none⟩)), (7, .pointer (some ⟨p7, 0, none⟩)), (8, .func (.func 125) #[] #[.pointer (some ⟨p6, 0, none⟩), .pointer (some ⟨p7, 0, none⟩)]), (10, .int .i64 (xs.getD (((k : Int)).toNat) 0)), (11, str (nameS k)), (12, .int .i64 ((j : Int))), (13, .int .i64 (xs.getD ((j : Int)).toNat 0)), (14, str ([63])), (18, va), (19, .int .i64 ((xs.length : Int))), (20, .int .i64 ((k : Int))), (48, sTake va k), (49, .int .i64 ((k : Int))), (50, .int .i64 ((j : Int))), (56, .bool (decide (((j : Int)) < (4 : Int))))]) (Sub.cons rfl (Sub.cons rfl (Sub.cons rfl (Sub.cons rfl (Sub.cons rfl (Sub.cons rfl (Sub.cons rfl (Sub.cons rfl (Sub.cons rfl (Sub.cons rfl (Sub.cons rfl (Sub.cons rfl (Sub.cons rfl (Sub.cons rfl (Sub.cons rfl (Sub.cons rfl (Sub.cons rfl Sub.nil))))))))))))))))) ?_
        refine Wk.cond (b := decide (((j : Int)) < (4 : Int))) rfl (fun h56 => ?_) (fun h56 => ?_)
        · skip
          replace h56 := of_decide_eq_true h56
          refine Wk.regionQ ?_
          refine Lq.op (v := .int .i64 ((j : Int))) rfl rfl rfl (OpQ.move rfl rfl) ?_
          refine Lq.op (v := str (nameS j)) rfl rfl rfl (OpQ.call rfl Tryd.call126 rfl Own.stable (fun w1 hw1 => nameOf_ok j w1 (by omega))) ?_
          refine Lq.op (v := str (nameS j)) rfl rfl rfl (OpQ.assign rfl rfl) ?_
          refine Lq.nil ?_
          refine Kt.onSub (e' := [(1, va), (2, .pointer (some ⟨p2, 0, none⟩)), (6, .pointer (some ⟨p6, 0, none⟩)), (7, .pointer (some ⟨p7, 0, none⟩)), (8, .func (.func 125) #[] #[.pointer (some ⟨p6, 0, none⟩), .pointer (some ⟨p7, 0, none⟩)]), (10, .int .i64 (xs.getD (((k : Int)).toNat) 0)), (11, str (nameS k)), (13, .int .i64 (xs.getD ((j : Int)).toNat 0)), (14, str (nameS j)), (18, va), (19, .int .i64 ((xs.length : Int))), (20, .int .i64 ((k : Int))), (48, sTake va k), (49, .int .i64 ((k : Int))), (50, .int .i64 ((j : Int)))]) (Sub.cons rfl (Sub.cons rfl (Sub.cons rfl (Sub.cons rfl (Sub.cons rfl (Sub.cons rfl (Sub.cons rfl (Sub.cons rfl (Sub.cons rfl (Sub.cons rfl (Sub.cons rfl (Sub.cons rfl (Sub.cons rfl (Sub.cons rfl (Sub.cons rfl Sub.nil))))))))))))))) ?_
          refine Wk.seq ?_
          refine Wk.region ?_
          refine Ll.op (v := .func (.func 125) #[] #[.pointer (some ⟨p6, 0, none⟩), .pointer (some ⟨p7, 0, none⟩)]) rfl rfl rfl (OpQ.move rfl rfl) ?_
          refine Ll.op (v := str (nameS j)) rfl rfl rfl (OpQ.move rfl rfl) ?_
          refine Ll.op (v := str (([61]) ++ (nameS j))) rfl rfl rfl (OpQ.sadd rfl rfl rfl (by first | omega | (simp only [List.length_append, List.length_cons, List.length_nil]; omega))) ?_
          refine Ll.op (v := str (nameS k)) rfl rfl rfl (OpQ.move rfl rfl) ?_
          refine Ll.op (v := str ((([61]) ++ (nameS j)) ++ (nameS k))) rfl rfl rfl (OpQ.sadd rfl rfl rfl (by first | omega | (simp only [List.length_append, List.length_cons, List.length_nil]; omega))) ?_
          refine Ll.op (v := .int .i64 (xs.getD (((k : Int)).toNat) 0)) rfl rfl rfl (OpQ.move rfl rfl) ?_
          refine Ll.op (v := .int .i64 (xs.getD ((j : Int)).toNat 0)) rfl rfl rfl (OpQ.move rfl rfl) ?_
          refine Ll.op (v := .bool (decide ((xs.getD (((k : Int)).toNat) 0) = (xs.getD ((j : Int)).toNat 0)))) rfl rfl rfl (OpQ.eql rfl rfl rfl) ?_
          refine Ll.callFnTo (v := .tuple #[]) (xs := [.tmp 63, .tmp 66]) (vs := [str ((([61]) ++ (nameS j)) ++ (nameS k)), .bool (decide ((xs.getD (((k : Int)).toNat) 0) = (xs.getD ((j : Int)).toNat 0)))]) (ok := fun t : Boxed => t.Ok w.heap.size (((factsL a xs k ++ (headL a xs k ++ moreL a xs k j)).map Prod.fst) ++ [(([61]) ++ (nameS j)) ++ (nameS k)]) (((factsL a xs k ++ (headL a xs k ++ moreL a xs k j)).map Prod.snd) ++ [decide ((xs.getD (((k : Int)).toNat) 0) = (xs.getD ((j : Int)).toNat 0))])) (hs' := fun t : Boxed => [(p7, .cells #[.slice (some ⟨t.q2, 0, none⟩) ((((factsL a xs k ++ (headL a xs k ++ moreL a xs k j)).map Prod.snd) ++ [decide ((xs.getD (((k : Int)).toNat) 0) = (xs.getD ((j : Int)).toNat 0))] : List Bool).length) t.c2] 92 (0, 0)), (p6, .cells #[.slice (some ⟨t.q1, 0, none⟩) ((((factsL a xs k ++ (headL a xs k ++ moreL a xs k j)).map Prod.fst) ++ [(([61]) ++ (nameS j)) ++ (nameS k)] : List (List UInt8)).length) t.c1] 57 (0, 0)), (t.q2, .cells t.u2 4 (0, 0)), (t.q1, .cells t.u1 9 (0, 0)), (p2, .cells #[.int .i64 a.n, str a.set, str a.rel] 26 (0, 0))]) rfl rfl rfl rfl rfl Tryd.call125 rfl (fun w1 hw1 => tell_ok _ _ _ _ _ _ t ((factsL a xs k ++ (headL a xs k ++ moreL a xs k j)).map Prod.fst) ((factsL a xs k ++ (headL a xs k ++ moreL a xs k j)).map Prod.snd) ((([61]) ++ (nameS j)) ++ (nameS k)) (decide ((xs.getD (((k : Int)).toNat) 0) = (xs.getD ((j : Int)).toNat 0))) w1 ht (by first | (simp; done) | (simp; omega)) (by first | (simp; done) | (simp; omega)) hw1) fun s67 hs67 => ?_
          show Ll _ _ (Own _ _ [(p7, .cells #[.slice (some ⟨s67.q2, 0, none⟩) ((((factsL a xs k ++ (headL a xs k ++ moreL a xs k j)).map Prod.snd) ++ [decide ((xs.getD (((k : Int)).toNat) 0) = (xs.getD ((j : Int)).toNat 0))] : List Bool).length) s67.c2] 92 (0, 0)), (p6, .cells #[.slice (some ⟨s67.q1, 0, none⟩) ((((factsL a xs k ++ (headL a xs k ++ moreL a xs k j)).map Prod.fst) ++ [(([61]) ++ (nameS j)) ++ (nameS k)] : List (List UInt8)).length) s67.c1] 57 (0, 0)), (s67.q2, .cells s67.u2 4 (0, 0)), (s67.q1, .cells s67.u1 9 (0, 0)), (p2, .cells #[.int .i64 a.n, str a.set, str a.rel] 26 (0, 0))]) _ _ _ _ _ _
          refine Ll.nil ?_
          refine Kt.onSub (e' := [(1, va), (2, .pointer (some ⟨p2, 0, none⟩)), (6, .pointer (some ⟨p6, 0, none⟩)), (7, .pointer (some ⟨p7, 0, none⟩)), (8, .func (.func 125) #[] #[.pointer (some ⟨p6, 0, none⟩), .pointer (some ⟨p7, 0, none⟩)]), (10, .int .i64 (xs.getD (((k : Int)).toNat) 0)), (11, str (nameS k)), (13, .int .i64 (xs.getD ((j : Int)).toNat 0)), (14, str (nameS j)), (18, va), (19, .int .i64 ((xs.length : Int))), (20, .int .i64 ((k : Int))), (48, sTake va k), (49, .int .i64 ((k : Int))), (50, .int .i64 ((j : Int)))]) (Sub.cons rfl (Sub.cons rfl (Sub.cons rfl (Sub.cons rfl (Sub.cons rfl (Sub.cons rfl (Sub.cons rfl (Sub.cons rfl (Sub.cons rfl (Sub.cons rfl (Sub.cons rfl (Sub.cons rfl (Sub.cons rfl (Sub.cons rfl (Sub.cons rfl Sub.nil))))))))))))))) ?_
          refine Wk.seq ?_
          refine Wk.region ?_
          refine Ll.op (v := .func (.func 125) #[] #[.pointer (some ⟨p6, 0, none⟩), .pointer (some ⟨p7, 0, none⟩)]) rfl rfl rfl (OpQ.move rfl rfl) ?_
          refine Ll.op (v := str (nameS j)) rfl rfl rfl (OpQ.move rfl rfl) ?_
          refine Ll.op (v := str (([69]) ++ (nameS j))) rfl rfl rfl (OpQ.sadd rfl rfl rfl (by first | omega | (simp only [List.length_append, List.length_cons, List.length_nil]; omega))) ?_
          refine Ll.op (v := str (nameS k)) rfl rfl rfl (OpQ.move rfl rfl) ?_
          refine Ll.op (v := str ((([69]) ++ (nameS j)) ++ (nameS k))) rfl rfl rfl (OpQ.sadd rfl rfl rfl (by first | omega | (simp only [List.length_append, List.length_cons, List.length_nil]; omega))) ?_
          refine Ll.op (v := vS a) rfl rfl rfl (OpQ.loadBox (cs := #[.int .i64 a.n, str a.set, str a.rel]) 4 rfl Tryd.isAgg26 rfl rfl Tryd.sizeOf26) ?_
          refine Ll.op (v := .int .i64 (xs.getD ((j : Int)).toNat 0)) rfl rfl rfl (OpQ.move rfl rfl) ?_
          refine Ll.op (v := .int .i64 (xs.getD (((k : Int)).toNat) 0)) rfl rfl rfl (OpQ.move rfl rfl) ?_
          refine Ll.op (v := .bool (a.inRel (xs.getD ((j : Int)).toNat 0) (xs.getD (((k : Int)).toNat) 0))) rfl rfl rfl (OpQ.call rfl Tryd.call116 rfl Own.stable (fun w1 hw1 => inRel_ok a (xs.getD ((j : Int)).toNat 0) (xs.getD (((k : Int)).toNat) 0) w1 ha (by first | assumption | exact St.Els.at (by assumption) (by omega) (by omega)) (by first | assumption | exact St.Els.at (by assumption) (by omega) (by omega)))) ?_
          refine Ll.callFnTo (v := .tuple #[]) (xs := [.tmp 72, .tmp 76]) (vs := [str ((([69]) ++ (nameS j)) ++ (nameS k)), .bool (a.inRel (xs.getD ((j : Int)).toNat 0) (xs.getD (((k : Int)).toNat) 0))]) (ok := fun t : Boxed => t.Ok w.heap.size ((((factsL a xs k ++ (headL a xs k ++ moreL a xs k j)).map Prod.fst) ++ [(([61]) ++ (nameS j)) ++ (nameS k)]) ++ [(([69]) ++ (nameS j)) ++ (nameS k)]) ((((factsL a xs k ++ (headL a xs k ++ moreL a xs k j)).map Prod.snd) ++ [decide ((xs.getD (((k : Int)).toNat) 0) = (xs.getD ((j : Int)).toNat 0))]) ++ [a.inRel (xs.getD ((j : Int)).toNat 0) (xs.getD (((k : Int)).toNat) 0)])) (hs' := fun t : Boxed => [(p7, .cells #[.slice (some ⟨t.q2, 0, none⟩) (((((factsL a xs k ++ (headL a xs k ++ moreL a xs k j)).map Prod.snd) ++ [decide ((xs.getD (((k : Int)).toNat) 0) = (xs.getD ((j : Int)).toNat 0))]) ++ [a.inRel (xs.getD ((j : Int)).toNat 0) (xs.getD (((k : Int)).toNat) 0)] : List Bool).length) t.c2] 92 (0, 0)), (p6, .cells #[.slice (some ⟨t.q1, 0, none⟩) (((((factsL a xs k ++ (headL a xs k ++ moreL a xs k j)).map Prod.fst) ++ [(([61]) ++ (nameS j)) ++ (nameS k)]) ++ [(([69]) ++ (nameS j)) ++ (nameS k)] : List (List UInt8)).length) t.c1] 57 (0, 0)), (t.q2, .cells t.u2 4 (0, 0)), (t.q1, .cells t.u1 9 (0, 0)), (p2, .cells #[.int .i64 a.n, str a.set, str a.rel] 26 (0, 0))]) rfl rfl rfl rfl rfl Tryd.call125 rfl (fun w1 hw1 => tell_ok _ _ _ _ _ _ s67 (((factsL a xs k ++ (headL a xs k ++ moreL a xs k j)).map Prod.fst) ++ [(([61]) ++ (nameS j)) ++ (nameS k)]) (((factsL a xs k ++ (headL a xs k ++ moreL a xs k j)).map Prod.snd) ++ [decide ((xs.getD (((k : Int)).toNat) 0) = (xs.getD ((j : Int)).toNat 0))]) ((([69]) ++ (nameS j)) ++ (nameS k)) (a.inRel (xs.getD ((j : Int)).toNat 0) (xs.getD (((k : Int)).toNat) 0)) w1 hs67 (by first | (simp; done) | (simp; omega)) (by first | (simp; done) | (simp; omega)) hw1) fun s77 hs77 => ?_
          show Ll _ _ (Own _ _ [(p7, .cells #[.slice (some ⟨s77.q2, 0, none⟩) (((((factsL a xs k ++ (headL a xs k ++ moreL a xs k j)).map Prod.snd) ++ [decide ((xs.getD (((k : Int)).toNat) 0) = (xs.getD ((j : Int)).toNat 0))]) ++ [a.inRel (xs.getD ((j : Int)).toNat 0) (xs.getD (((k : Int)).toNat) 0)] : List Bool).length) s77.c2] 92 (0, 0)), (p6, .cells #[.slice (some ⟨s77.q1, 0, none⟩) (((((factsL a xs k ++ (headL a xs k ++ moreL a xs k j)).map Prod.fst) ++ [(([61]) ++ (nameS j)) ++ (nameS k)]) ++ [(([69]) ++ (nameS j)) ++ (nameS k)] : List (List UInt8)).length) s77.c1] 57 (0, 0)), (s77.q2, .cells s77.u2 4 (0, 0)), (s77.q1, .cells s77.u1 9 (0, 0)), (p2, .cells #[.int .i64 a.n, str a.set, str a.rel] 26 (0, 0))]) _ _ _ _ _ _
          refine Ll.nil ?_
          refine Kt.onSub (e' := [(1, va), (2, .pointer (some ⟨p2, 0, none⟩)), (6, .pointer (some ⟨p6, 0, none⟩)), (7, .pointer (some ⟨p7, 0, none⟩)), (8, .func (.func 125) #[] #[.pointer (some ⟨p6, 0, none⟩), .pointer (some ⟨p7, 0, none⟩)]), (10, .int .i64 (xs.getD (((k : Int)).toNat) 0)), (11, str (nameS k)), (13, .int .i64 (xs.getD ((j : Int)).toNat 0)), (14, str (nameS j)), (18, va), (19, .int .i64 ((xs.length : Int))), (20, .int .i64 ((k : Int))), (48, sTake va k), (49, .int .i64 ((k : Int))), (50, .int .i64 ((j : Int)))]) (Sub.cons rfl (Sub.cons rfl (Sub.cons rfl (Sub.cons rfl (Sub.cons rfl (Sub.cons rfl (Sub.cons rfl (Sub.cons rfl (Sub.cons rfl (Sub.cons rfl (Sub.cons rfl (Sub.cons rfl (Sub.cons rfl (Sub.cons rfl (Sub.cons rfl Sub.nil))))))))))))))) ?_
          refine Wk.region ?_
          refine Ll.op (v := .func (.func 125) #[] #[.pointer (some ⟨p6, 0, none⟩), .pointer (some ⟨p7, 0, none⟩)]) rfl rfl rfl (OpQ.move rfl rfl) ?_
          refine Ll.op (v := str (nameS k)) rfl rfl rfl (OpQ.move rfl rfl) ?_
          refine Ll.op (v := str (([69]) ++ (nameS k))) rfl rfl rfl (OpQ.sadd rfl rfl rfl (by first | omega | (simp only [List.length_append, List.length_cons, List.length_nil]; omega))) ?_
          refine Ll.op (v := str (nameS j)) rfl rfl rfl (OpQ.move rfl rfl) ?_
          refine Ll.op (v := str ((([69]) ++ (nameS k)) ++ (nameS j))) rfl rfl rfl (OpQ.sadd rfl rfl rfl (by first | omega | (simp only [List.length_append, List.length_cons, List.length_nil]; omega))) ?_
          refine Ll.op (v := vS a) rfl rfl rfl (OpQ.loadBox (cs := #[.int .i64 a.n, str a.set, str a.rel]) 4 rfl Tryd.isAgg26 rfl rfl Tryd.sizeOf26) ?_
          refine Ll.op (v := .int .i64 (xs.getD (((k : Int)).toNat) 0)) rfl rfl rfl (OpQ.move rfl rfl) ?_
          refine Ll.op (v := .int .i64 (xs.getD ((j : Int)).toNat 0)) rfl rfl rfl (OpQ.move rfl rfl) ?_
          refine Ll.op (v := .bool (a.inRel (xs.getD (((k : Int)).toNat) 0) (xs.getD ((j : Int)).toNat 0))) rfl rfl rfl (OpQ.call rfl Tryd.call116 rfl Own.stable (fun w1 hw1 => inRel_ok a (xs.getD (((k : Int)).toNat) 0) (xs.getD ((j : Int)).toNat 0) w1 ha (by first | assumption | exact St.Els.at (by assumption) (by omega) (by omega)) (by first | assumption | exact St.Els.at (by assumption) (by omega) (by omega)))) ?_
          refine Ll.callFnTo (v := .tuple #[]) (xs := [.tmp 82, .tmp 86]) (vs := [str ((([69]) ++ (nameS k)) ++ (nameS j)), .bool (a.inRel (xs.getD (((k : Int)).toNat) 0) (xs.getD ((j : Int)).toNat 0))]) (ok := fun t : Boxed => t.Ok w.heap.size (((((factsL a xs k ++ (headL a xs k ++ moreL a xs k j)).map Prod.fst) ++ [(([61]) ++ (nameS j)) ++ (nameS k)]) ++ [(([69]) ++ (nameS j)) ++ (nameS k)]) ++ [(([69]) ++ (nameS k)) ++ (nameS j)]) (((((factsL a xs k ++ (headL a xs k ++ moreL a xs k j)).map Prod.snd) ++ [decide ((xs.getD (((k : Int)).toNat) 0) = (xs.getD ((j : Int)).toNat 0))]) ++ [a.inRel (xs.getD ((j : Int)).toNat 0) (xs.getD (((k : Int)).toNat) 0)]) ++ [a.inRel (xs.getD (((k : Int)).toNat) 0) (xs.getD ((j : Int)).toNat 0)])) (hs' := fun t : Boxed => [(p7, .cells #[.slice (some ⟨t.q2, 0, none⟩) ((((((factsL a xs k ++ (headL a xs k ++ moreL a xs k j)).map Prod.snd) ++ [decide ((xs.getD (((k : Int)).toNat) 0) = (xs.getD ((j : Int)).toNat 0))]) ++ [a.inRel (xs.getD ((j : Int)).toNat 0) (xs.getD (((k : Int)).toNat) 0)]) ++ [a.inRel (xs.getD (((k : Int)).toNat) 0) (xs.getD ((j : Int)).toNat 0)] : List Bool).length) t.c2] 92 (0, 0)), (p6, .cells #[.slice (some ⟨t.q1, 0, none⟩) ((((((factsL a xs k ++ (headL a xs k ++ moreL a xs k j)).map Prod.fst) ++ [(([61]) ++ (nameS j)) ++ (nameS k)]) ++ [(([69]) ++ (nameS j)) ++ (nameS k)]) ++ [(([69]) ++ (nameS k)) ++ (nameS j)] : List (List UInt8)).length) t.c1] 57 (0, 0)), (t.q2, .cells t.u2 4 (0, 0)), (t.q1, .cells t.u1 9 (0, 0)), (p2, .cells #[.int .i64 a.n, str a.set, str a.rel] 26 (0, 0))]) rfl rfl rfl rfl rfl Tryd.call125 rfl (fun w1 hw1 => tell_ok _ _ _ _ _ _ s77 ((((factsL a xs k ++ (headL a xs k ++ moreL a xs k j)).map Prod.fst) ++ [(([61]) ++ (nameS j)) ++ (nameS k)]) ++ [(([69]) ++ (nameS j)) ++ (nameS k)]) ((((factsL a xs k ++ (headL a xs k ++ moreL a xs k j)).map Prod.snd) ++ [decide ((xs.getD (((k : Int)).toNat) 0) = (xs.getD ((j : Int)).toNat 0))]) ++ [a.inRel (xs.getD ((j : Int)).toNat 0) (xs.getD (((k : Int)).toNat) 0)]) ((([69]) ++ (nameS k)) ++ (nameS j)) (a.inRel (xs.getD (((k : Int)).toNat) 0) (xs.getD ((j : Int)).toNat 0)) w1 hs77 (by first | (simp; done) | (simp; omega)) (by first | (simp; done) | (simp; omega)) hw1) fun s87 hs87 => ?_
          show Ll _ _ (Own _ _ [(p7, .cells #[.slice (some ⟨s87.q2, 0, none⟩) ((((((factsL a xs k ++ (headL a xs k ++ moreL a xs k j)).map Prod.snd) ++ [decide ((xs.getD (((k : Int)).toNat) 0) = (xs.getD ((j : Int)).toNat 0))]) ++ [a.inRel (xs.getD ((j : Int)).toNat 0) (xs.getD (((k : Int)).toNat) 0)]) ++ [a.inRel (xs.getD (((k : Int)).toNat) 0) (xs.getD ((j : Int)).toNat 0)] : List Bool).length) s87.c2] 92 (0, 0)), (p6, .cells #[.slice (some ⟨s87.q1, 0, none⟩) ((((((factsL a xs k ++ (headL a xs k ++ moreL a xs k j)).map Prod.fst) ++ [(([61]) ++ (nameS j)) ++ (nameS k)]) ++ [(([69]) ++ (nameS j)) ++ (nameS k)]) ++ [(([69]) ++ (nameS k)) ++ (nameS j)] : List (List UInt8)).length) s87.c1] 57 (0, 0)), (s87.q2, .cells s87.u2 4 (0, 0)), (s87.q1, .cells s87.u1 9 (0, 0)), (p2, .cells #[.int .i64 a.n, str a.set, str a.rel] 26 (0, 0))]) _ _ _ _ _ _
          refine Ll.nil ?_
          refine Kt.onSub (e' := [(1, va), (2, .pointer (some ⟨p2, 0, none⟩)), (6, .pointer (some ⟨p6, 0, none⟩)), (7, .pointer (some ⟨p7, 0, none⟩)), (8, .func (.func 125) #[] #[.pointer (some ⟨p6, 0, none⟩), .pointer (some ⟨p7, 0, none⟩)]), (10, .int .i64 (xs.getD (((k : Int)).toNat) 0)), (11, str (nameS k)), (18, va), (19, .int .i64 ((xs.length : Int))), (20, .int .i64 ((k : Int))), (48, sTake va k), (49, .int .i64 ((k : Int))), (50, .int .i64 ((j : Int)))]) (Sub.cons rfl (Sub.cons rfl (Sub.cons rfl (Sub.cons rfl (Sub.cons rfl (Sub.cons rfl (Sub.cons rfl (Sub.cons rfl (Sub.cons rfl (Sub.cons rfl (Sub.cons rfl (Sub.cons rfl (Sub.cons rfl Sub.nil))))))))))))) ?_
          refine Wk.regionQ ?_
          refine Lq.op (v := .int .i64 (((j : Int)) + (1 : Int))) rfl rfl rfl (OpQ.add rfl rfl rfl (by omega) (by omega)) ?_
          refine Lq.op (v := .int .i64 (((j : Int)) + (1 : Int))) rfl rfl rfl (OpQ.move rfl rfl) ?_
          refine Lq.nil ?_
          refine Kt.again ((j + 1, s87)) ⟨by omega, by rw [tell_step1, tell_step2]; exact hs87⟩ (by omega) (Sub.cons rfl (Sub.cons rfl (Sub.cons rfl (Sub.cons rfl (Sub.cons rfl (Sub.cons rfl (Sub.cons rfl (Sub.cons rfl (Sub.cons rfl (Sub.cons rfl (Sub.cons rfl (Sub.cons rfl (Sub.cons rfl Sub.nil))))))))))))) (fun _ h => by dsimp only; rw [tell_step1, tell_step2]; exact h)
        · skip
          replace h56 := of_decide_eq_false h56
          omega
      · skip
        replace h51 := of_decide_eq_false h51
        refine Wk.exit rfl ?_
        refine Kt.onSub (e' := [(1, va), (2, .pointer (some ⟨p2, 0, none⟩)), (6, .pointer (some ⟨p6, 0, none⟩)), (7, .pointer (some ⟨p7, 0, none⟩)), (8, .func (.func 125) #[] #[.pointer (some ⟨p6, 0, none⟩), .pointer (some ⟨p7, 0, none⟩)]), (18, va), (19, .int .i64 ((xs.length : Int))), (20, .int .i64 ((k : Int)))]) (Sub.cons rfl (Sub.cons rfl (Sub.cons rfl (Sub.cons rfl (Sub.cons rfl (Sub.cons rfl (Sub.cons rfl (Sub.cons rfl Sub.nil)))))))) ?_
        refine Wk.regionQ ?_
        refine Lq.op (v := .int .i64 (((k : Int)) + (1 : Int))) rfl rfl rfl (OpQ.add rfl rfl rfl (by omega) (by omega)) ?_
        refine Lq.op (v := .int .i64 (((k : Int)) + (1 : Int))) rfl rfl rfl (OpQ.move rfl rfl) ?_
        refine Lq.nil ?_
        refine Kt.again ((k + 1, t)) ⟨by omega, by rw [facts_end1 (j := j) (by omega), facts_end2 (j := j) (by omega)]; exact ht⟩ (by omega) (Sub.cons rfl (Sub.cons rfl (Sub.cons rfl (Sub.cons rfl (Sub.cons rfl (Sub.cons rfl (Sub.cons rfl (Sub.cons rfl Sub.nil)))))))) (fun _ h => by dsimp only; rw [facts_end1 (j := j) (by omega), facts_end2 (j := j) (by omega)]; exact h)
    · skip
      replace h26 := of_decide_eq_false h26
      omega
  · skip
    replace h21 := of_decide_eq_false h21
    refine Wk.exit rfl ?_
    refine Kt.onSub (e' := [(6, .pointer (some ⟨p6, 0, none⟩)), (7, .pointer (some ⟨p7, 0, none⟩))]) (Sub.cons rfl (Sub.cons rfl Sub.nil)) ?_
    refine Wk.seq ?_
    refine Wk.regionD Base.mixed (fun _ h => h.drawn) (by kernel_rfl) ?_
    refine Lq.op (v := .slice (some ⟨s.q1, 0, none⟩) (((factsL a xs k).map Prod.fst : List (List UInt8)).length) s.c1) rfl rfl rfl (OpQ.loadOwn 1 rfl Tryd.isAgg57 rfl rfl rfl) ?_
    refine Lq.op (v := .slice (some ⟨s.q2, 0, none⟩) (((factsL a xs k).map Prod.snd : List Bool).length) s.c2) rfl rfl rfl (OpQ.loadOwn 0 rfl Tryd.isAgg92 rfl rfl rfl) ?_
    refine Lq.op (v := .slice (some ⟨s.q1, 0, none⟩) (((factsL a xs k).map Prod.fst : List (List UInt8)).length) s.c1) rfl rfl rfl (OpQ.assign rfl rfl) ?_
    refine Lq.op (v := .slice (some ⟨s.q2, 0, none⟩) (((factsL a xs k).map Prod.snd : List Bool).length) s.c2) rfl rfl rfl (OpQ.assign rfl rfl) ?_
    refine Lq.nil ?_
    refine Kt.onSub (e' := [(4, .slice (some ⟨s.q1, 0, none⟩) (((factsL a xs k).map Prod.fst : List (List UInt8)).length) s.c1), (5, .slice (some ⟨s.q2, 0, none⟩) (((factsL a xs k).map Prod.snd : List Bool).length) s.c2)]) (Sub.cons rfl (Sub.cons rfl Sub.nil)) ?_
    refine Wk.ret (Kt.end2 rfl rfl rfl fun w' hw => ?_)
    -- ret 0: .slice (some ⟨s.q1, 0, none⟩) (((factsL a xs k).map Prod.fst : List (List UInt8)).length) s.c1; .slice (some ⟨s.q2, 0, none⟩) (((factsL a xs k).map Prod.snd : List Bool).length) s.c2
    obtain rfl : k = xs.length := by omega
    exact ⟨_, rfl, hw.below, hw.newRows (i := 3) (j := 2) rfl rfl (by decide) hs.s1 hs.l1 hs.t1 hs.s2 hs.l2 hs.t2⟩

set_option maxHeartbeats 400000 in
/-- impl.atomsOf -/
theorem atomsOf_ok (a : St) (va : Value) (xs : List Int) (w : World) (ha : a.Fine) (hva : Ints w va xs) (hA : a.Els xs) (hl4 : xs.length ≤ 4) :
    Calls Tryd.prog 59 [vS a, va].toArray w fun en w' => en = .returned (str (atomsT (factsL a xs xs.length))) ∧ Below w.heap.size w w' := by
  refine fnStart (n := 28) (e := [(0, vS a), (1, va)]) Tryd.func59 rfl rfl rfl rfl Ends.both ?_
  have hfl := factsL_length a xs xs.length hl4
  refine Wk.seq ?_
  refine Wk.region ?_
  refine Ll.box (v := vS a) rfl rfl rfl rfl rfl fun p2 hp2 => ?_
  show Ll _ _ (Own _ _ [(p2, .cells #[.int .i64 a.n, str a.set, str a.rel] 26 (0, 0))]) _ _ ((2, .pointer (some ⟨p2, 0, none⟩)) :: _) _ _ _
  refine Ll.op (v := str ([])) rfl rfl rfl (OpQ.assign rfl rfl) ?_
  refine Ll.nil ?_
  refine Kt.onSub (e' := [(1, va), (2, .pointer (some ⟨p2, 0, none⟩))]) (Sub.cons rfl (Sub.cons rfl Sub.nil)) ?_
  refine Wk.seq ?_
  refine Wk.region ?_
  refine Ll.op (v := vS a) rfl rfl rfl (OpQ.loadBox (cs := #[.int .i64 a.n, str a.set, str a.rel]) 0 rfl Tryd.isAgg26 rfl rfl Tryd.sizeOf26) ?_
  refine Ll.op (v := va) rfl rfl rfl (OpQ.move rfl rfl) ?_
  refine Ll.callRows (xs := [.tmp 11, .tmp 12]) (m1 := ((factsL a xs xs.length).map Prod.fst).length) (vs1 := strs ((factsL a xs xs.length).map Prod.fst)) (el1 := 9) (m2 := ((factsL a xs xs.length).map Prod.snd).length) (vs2 := bools ((factsL a xs xs.length).map Prod.snd)) (el2 := 4) rfl rfl rfl rfl Tryd.call99 rfl (fun w1 hw1 => factsOf_ok a va xs w1 ha (Row.own hva hw1) hA hl4) fun p13a cap13a cur13a p13b cap13b cur13b hp13a hcp13a hlp13a htp13a hp13b hcp13b hlp13b htp13b => ?_
  refine Ll.op (v := .tuple #[.slice (some ⟨p13a, 0, none⟩) (((factsL a xs xs.length).map Prod.fst).length) cap13a, .slice (some ⟨p13b, 0, none⟩) (((factsL a xs xs.length).map Prod.snd).length) cap13b]) rfl rfl rfl (OpQ.move rfl rfl) ?_
  refine Ll.op (v := .slice (some ⟨p13a, 0, none⟩) (((factsL a xs xs.length).map Prod.fst).length) cap13a) rfl rfl rfl (OpQ.extract rfl rfl rfl) ?_
  refine Ll.op (v := .slice (some ⟨p13b, 0, none⟩) (((factsL a xs xs.length).map Prod.snd).length) cap13b) rfl rfl rfl (OpQ.extract rfl rfl rfl) ?_
  refine Ll.op (v := .slice (some ⟨p13a, 0, none⟩) (((factsL a xs xs.length).map Prod.fst).length) cap13a) rfl rfl rfl (OpQ.assign rfl rfl) ?_
  refine Ll.op (v := .slice (some ⟨p13b, 0, none⟩) (((factsL a xs xs.length).map Prod.snd).length) cap13b) rfl rfl rfl (OpQ.assign rfl rfl) ?_
  refine Ll.nil ?_
  refine Kt.onSub (e' := [(6, .slice (some ⟨p13b, 0, none⟩) (((factsL a xs xs.length).map Prod.snd).length) cap13b)]) (Sub.cons rfl Sub.nil) ?_
  refine Wk.seq ?_
  refine Wk.regionQ ?_
  refine Lq.op (v := str ([])) rfl rfl rfl (OpQ.assign rfl rfl) ?_
  refine Lq.nil ?_
  refine Kt.onSub (e' := [(6, .slice (some ⟨p13b, 0, none⟩) (((factsL a xs xs.length).map Prod.snd).length) cap13b), (7, str ([]))]) (Sub.cons rfl (Sub.cons rfl Sub.nil)) ?_
  refine Wk.seq ?_
  refine Wk.seq ?_
  refine Wk.regionQ ?_
  refine Lq.op (v := .slice (some ⟨p13b, 0, none⟩) (((factsL a xs xs.length).map Prod.snd).length) cap13b) rfl rfl rfl (OpQ.move rfl rfl) ?_
  refine Lq.op (v := .int .i64 ((((factsL a xs xs.length).map Prod.snd).length : Int))) rfl rfl rfl (OpQ.lenS rfl Tryd.runUnderlying92 rfl) ?_
  refine Lq.op (v := .int .i64 0) rfl rfl rfl (OpQ.move rfl rfl) ?_
  refine Lq.nil ?_
  refine Kt.onSub (e' := [(7, str ([])), (16, .slice (some ⟨p13b, 0, none⟩) (((factsL a xs xs.length).map Prod.snd).length) cap13b), (17, .int .i64 ((((factsL a xs xs.length).map Prod.snd).length : Int))), (18, .int .i64 0)]) (Sub.cons rfl (Sub.cons rfl (Sub.cons rfl (Sub.cons rfl Sub.nil)))) ?_
  refine Wk.block ?_
  refine Wk.loop (σ := Nat) (fun j => j ≤ (factsL a xs xs.length).length) (fun j => [(7, str (atomsT ((factsL a xs xs.length).take j))), (16, .slice (some ⟨p13b, 0, none⟩) (((factsL a xs xs.length).map Prod.snd).length) cap13b), (17, .int .i64 ((((factsL a xs xs.length).map Prod.snd).length : Int))), (18, .int .i64 ((j : Int)))]) (fun j => Own w.heap.size w [(p13a, .cells cur13a 9 (0, 0)), (p13b, .cells cur13b 4 (0, 0)), (p2, .cells #[.int .i64 a.n, str a.set, str a.rel] 26 (0, 0))]) (fun j => (factsL a xs xs.length).length - j) (0) (by omega) (Sub.cons rfl (Sub.cons rfl (Sub.cons rfl (Sub.cons rfl Sub.nil)))) (fun _ h => h) ?_
  rintro j hj
  refine Wk.seq ?_
  refine Wk.regionQ ?_
  refine Lq.op (v := .bool (decide (((j : Int)) < ((((factsL a xs xs.length).map Prod.snd).length : Int))))) rfl rfl rfl (OpQ.lss rfl rfl rfl) ?_
  refine Lq.nil ?_
  refine Kt.onSub (e' := [(7, str (atomsT ((factsL a xs xs.length).take j))), (16, .slice (some ⟨p13b, 0, none⟩) (((factsL a xs xs.length).map Prod.snd).length) cap13b), (17, .int .i64 ((((factsL a xs xs.length).map Prod.snd).length : Int))), (18, .int .i64 ((j : Int))), (19, .bool (decide (((j : Int)) < ((((factsL a xs xs.length).map Prod.snd).length : Int)))))]) (Sub.cons rfl (Sub.cons rfl (Sub.cons rfl (Sub.cons rfl (Sub.cons rfl Sub.nil))))) ?_
  refine Wk.seq ?_
  refine Wk.cond (b := decide (((j : Int)) < ((((factsL a xs xs.length).map Prod.snd).length : Int)))) rfl (fun h19 => ?_) (fun h19 => ?_)
  · skip
    replace h19 := of_decide_eq_true h19
    have hj2 : j < (factsL a xs xs.length).length := by rw [List.length_map] at h19; omega
    refine Wk.skip ?_
    refine Kt.onSub (e' := [(7, str (atomsT ((factsL a xs xs.length).take j))), (16, .slice (some ⟨p13b, 0, none⟩) (((factsL a xs xs.length).map Prod.snd).length) cap13b), (17, .int .i64 ((((factsL a xs xs.length).map Prod.snd).length : Int))), (18, .int .i64 ((j : Int)))]) (Sub.cons rfl (Sub.cons rfl (Sub.cons rfl (Sub.cons rfl Sub.nil)))) ?_
    refine Wk.seq ?_
    refine Wk.block ?_
    refine Wk.seq ?_
    refine Wk.regionQ ?_
    refine Lq.op (v := .pointer (some ⟨p13b, ((j : Int)).toNat, none⟩)) rfl rfl rfl (OpQ.cast (by rw [Nat.zero_add]) (OpQ.indexAddr1 (i := (j : Int)) rfl Tryd.runUnderlying92 Tryd.sizeOf4 rfl rfl (by omega) (by omega))) ?_
    refine Lq.op (v := .bool (((factsL a xs xs.length).map Prod.snd).getD (((j : Int)).toNat) false)) rfl rfl rfl (OpQ.loadAt 1 rfl Tryd.isAgg4 rfl rfl (cur_at (by simpa using htp13b) (bools_at (c := (factsL a xs xs.length).map Prod.snd) (off := ((j : Int)).toNat) (by first | (simp; done) | (simp; omega) | omega)))) ?_
    refine Lq.op (v := .bool (((factsL a xs xs.length).map Prod.snd).getD (((j : Int)).toNat) false)) rfl rfl rfl (OpQ.assign rfl rfl) ?_
    refine Lq.nil ?_
    refine Kt.onSub (e' := [(7, str (atomsT ((factsL a xs xs.length).take j))), (9, .bool (((factsL a xs xs.length).map Prod.snd).getD (((j : Int)).toNat) false)), (16, .slice (some ⟨p13b, 0, none⟩) (((factsL a xs xs.length).map Prod.snd).length) cap13b), (17, .int .i64 ((((factsL a xs xs.length).map Prod.snd).length : Int))), (18, .int .i64 ((j : Int)))]) (Sub.cons rfl (Sub.cons rfl (Sub.cons rfl (Sub.cons rfl (Sub.cons rfl Sub.nil))))) ?_
    refine Wk.regionQ ?_
    refine Lq.op (v := str (atomsT ((factsL a xs xs.length).take j))) rfl rfl rfl (OpQ.move rfl rfl) ?_
    refine Lq.op (v := .bool (((factsL a xs xs.length).map Prod.snd).getD (((j : Int)).toNat) false)) rfl rfl rfl (OpQ.move rfl rfl) ?_
    refine Lq.op (v := str ((if ((factsL a xs xs.length).map Prod.snd).getD (((j : Int)).toNat) false then [49] else [48]))) rfl rfl rfl (OpQ.call rfl Tryd.call100 rfl Own.stable (fun w1 hw1 => bitOf_ok (((factsL a xs xs.length).map Prod.snd).getD (((j : Int)).toNat) false) w1 )) ?_
    refine Lq.op (v := str ((atomsT ((factsL a xs xs.length).take j)) ++ ((if ((factsL a xs xs.length).map Prod.snd).getD (((j : Int)).toNat) false then [49] else [48])))) rfl rfl rfl (OpQ.sadd rfl rfl rfl (by rw [bit_len]; simp; omega)) ?_
    refine Lq.op (v := str ((atomsT ((factsL a xs xs.length).take j)) ++ ((if ((factsL a xs xs.length).map Prod.snd).getD (((j : Int)).toNat) false then [49] else [48])))) rfl rfl rfl (OpQ.assign rfl rfl) ?_
    refine Lq.nil ?_
    refine Kt.onSub (e' := [(7, str ((atomsT ((factsL a xs xs.length).take j)) ++ ((if ((factsL a xs xs.length).map Prod.snd).getD (((j : Int)).toNat) false then [49] else [48])))), (16, .slice (some ⟨p13b, 0, none⟩) (((factsL a xs xs.length).map Prod.snd).length) cap13b), (17, .int .i64 ((((factsL a xs xs.length).map Prod.snd).length : Int))), (18, .int .i64 ((j : Int)))]) (Sub.cons rfl (Sub.cons rfl (Sub.cons rfl (Sub.cons rfl Sub.nil)))) ?_
    refine Wk.regionQ ?_
    refine Lq.op (v := .int .i64 (((j : Int)) + (1 : Int))) rfl rfl rfl (OpQ.add rfl rfl rfl (by omega) (by omega)) ?_
    refine Lq.op (v := .int .i64 (((j : Int)) + (1 : Int))) rfl rfl rfl (OpQ.move rfl rfl) ?_
    refine Lq.nil ?_
    refine Kt.again (j + 1) (by omega) (by omega) (Sub.cons (by rw [atoms_step2 hj2]; rfl) (Sub.cons rfl (Sub.cons rfl (Sub.cons rfl Sub.nil)))) (fun _ h => h)
  · skip
    replace h19 := of_decide_eq_false h19
    refine Wk.exit rfl ?_
    refine Kt.onSub (e' := [(7, str (atomsT ((factsL a xs xs.length).take j)))]) (Sub.cons rfl Sub.nil) ?_
    refine Wk.seq ?_
    refine Wk.regionQ ?_
    refine Lq.op (v := str (atomsT ((factsL a xs xs.length).take j))) rfl rfl rfl (OpQ.move rfl rfl) ?_
    refine Lq.op (v := str (atomsT ((factsL a xs xs.length).take j))) rfl rfl rfl (OpQ.assign rfl rfl) ?_
    refine Lq.nil ?_
    refine Kt.onSub (e' := [(4, str (atomsT ((factsL a xs xs.length).take j)))]) (Sub.cons rfl Sub.nil) ?_
    refine Wk.ret (Kt.end1 rfl rfl fun w' hw => ?_)
    -- ret 0: str (atomsT ((factsL a xs xs.length).take j))
    exact ⟨ret_s (by rw [List.take_of_length_le (by rw [List.length_map] at h19; omega)]), hw.below⟩

end Go.Proofs.YtcanofailfbllaaDoor
