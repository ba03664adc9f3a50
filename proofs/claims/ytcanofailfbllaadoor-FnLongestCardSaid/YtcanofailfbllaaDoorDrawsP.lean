/-
  Walks: orders, pairs of structures, the source opened.
-/
import Derived.Test.YtcanofailfbllaaDoorPlain25
import Derived.Test.YtcanofailfbllaaDoorDrawsB
import Derived.Test.YtcanofailfbllaaDoorBase
namespace Go.Proofs.YtcanofailfbllaaDoor
open Go.RowKit Go.Wk
set_option linter.unusedSimpArgs false

set_option maxHeartbeats 400000 in
/-- spec.l1Flip -/
theorem flip_ok (s : List UInt8) (w : World) (hs : s.length ≤ 1000000) :
    Calls Tryd.prog 129 [str s].toArray w fun en w' => ∃ t : List UInt8, en = .returned (str t) ∧ (t.length = s.length) ∧ Below w.heap.size w w' := by
 refine fnStart (n := 23) (e := [(0, str s)]) Tryd.func129 rfl rfl rfl rfl Ends.both ?_
 refine Wk.seq ?_
 refine Wk.regionQ ?_
 refine Lq.op rfl rfl rfl (OpQ.assign rfl rfl) ?_
 refine Lq.nil ?_
 refine Kt.onSub (e' := [(0, str s)]) (Sub.cons rfl Sub.nil) ?_
 refine Wk.seq ?_
 refine Wk.region ?_
 refine Ll.op rfl rfl rfl (OpQ.move rfl rfl) ?_
 refine Ll.strBytes (s := s) rfl rfl rfl rfl Tryd.underlying9 Tryd.underlying47 Tryd.underlying5 rfl fun g cap cur hg hc ht => ?_
 show Ll _ _ (Own _ _ [(g, .cells cur 5 (cur.size, cur.size + 1))]) _ _ ((6, .slice (some ⟨g, 0, none⟩) s.length cap) :: _) _ _ _
 refine Ll.op rfl rfl rfl (OpQ.assign rfl rfl) ?_
 refine Ll.nil ?_
 refine Kt.onSub (e' := [(3, .slice (some ⟨g, 0, none⟩) s.length cap)]) (Sub.cons rfl Sub.nil) ?_
 refine Wk.seq ?_
 refine Wk.seq ?_
 refine Wk.regionQ ?_
 refine Lq.op rfl rfl rfl (OpQ.assign rfl rfl) ?_
 refine Lq.nil ?_
 refine Kt.onSub (e' := [(3, .slice (some ⟨g, 0, none⟩) s.length cap), (4, .int .i64 0)]) (Sub.cons rfl (Sub.cons rfl Sub.nil)) ?_
 refine Wk.block ?_
 refine Wk.loop (σ := Nat × Array Value × List Int) (fun ⟨i, cu, V⟩ => i ≤ s.length ∧ cu.size = cur.size ∧ V.length = s.length ∧ Bytes8 V ∧ cu.toList.take s.length = u8s V) (fun ⟨i, cu, V⟩ => [(3, .slice (some ⟨g, 0, none⟩) s.length cap), (4, .int .i64 ((i : Int)))]) (fun ⟨i, cu, V⟩ => Own w.heap.size w [(g, .cells cu 5 (cur.size, cur.size + 1))]) (fun ⟨i, cu, V⟩ => s.length - i) ((0, cur, byts s)) ⟨by omega, rfl, by simp, byts_8 s, ht⟩ (Sub.cons rfl (Sub.cons rfl Sub.nil)) (fun _ h => h) ?_
 rintro ⟨i, cu, V⟩ ⟨hi, hsz, hVl, hV8, hV⟩
 dsimp only
 refine Wk.seq ?_
 refine Wk.seq ?_
 refine Wk.regionQ ?_
 refine Lq.op rfl rfl rfl (OpQ.move rfl rfl) ?_
 refine Lq.op rfl rfl rfl (OpQ.move rfl rfl) ?_
 refine Lq.op (v := .int .i64 ((s.length : Int))) rfl rfl rfl (OpQ.lenS rfl Tryd.runUnderlying47 rfl) ?_
 refine Lq.op (v := .bool (decide (((i : Int)) < ((s.length : Int))))) rfl rfl rfl (OpQ.lss rfl rfl rfl) ?_
 refine Lq.nil ?_
 refine Kt.onSub (e' := [(3, .slice (some ⟨g, 0, none⟩) s.length cap), (4, .int .i64 ((i : Int))), (10, .bool (decide (((i : Int)) < ((s.length : Int)))))]) (Sub.cons rfl (Sub.cons rfl (Sub.cons rfl Sub.nil))) ?_
 refine Wk.cond (b := decide (((i : Int)) < ((s.length : Int)))) rfl (fun h10 => ?_) (fun h10 => ?_)
 ·
  replace h10 := of_decide_eq_true h10
  refine Wk.skip ?_
  refine Kt.onSub (e' := [(3, .slice (some ⟨g, 0, none⟩) s.length cap), (4, .int .i64 ((i : Int)))]) (Sub.cons rfl (Sub.cons rfl Sub.nil)) ?_
  refine Wk.seq ?_
  refine Wk.block ?_
  refine Wk.region ?_
  refine Ll.op rfl rfl rfl (OpQ.move rfl rfl) ?_
  refine Ll.op rfl rfl rfl (OpQ.move rfl rfl) ?_
  refine Ll.op rfl rfl rfl (OpQ.move rfl rfl) ?_
  refine Ll.op rfl rfl rfl (OpQ.move rfl rfl) ?_
  refine Ll.op (v := .pointer (some ⟨g, 0 + ((i : Int)).toNat, none⟩)) rfl rfl rfl (OpQ.indexAddr1 rfl Tryd.runUnderlying47 Tryd.sizeOf5 rfl rfl (by omega) (by omega)) ?_
  refine Ll.op (v := .int .u8 (V.getD (((i : Int)).toNat) 0)) rfl rfl rfl (OpQ.loadAt 0 rfl Tryd.isAgg5 rfl rfl (by rw [Nat.zero_add]; exact cur_at hV (u8s_at (by omega)))) ?_
  refine Ll.op (v := .int .u8 (IntKind.u8.wrap (97 - V.getD (((i : Int)).toNat) 0))) rfl rfl rfl (OpQ.subU8 rfl rfl rfl) ?_
  refine Ll.op (v := .pointer (some ⟨g, 0 + ((i : Int)).toNat, none⟩)) rfl rfl rfl (OpQ.indexAddr1 rfl Tryd.runUnderlying47 Tryd.sizeOf5 rfl rfl (by omega) (by omega)) ?_
  refine Ll.storeFr (v := .int .u8 (IntKind.u8.wrap (97 - V.getD (((i : Int)).toNat) 0))) 0 rfl rfl rfl rfl rfl rfl Tryd.sizeOf5 rfl (by omega) (by dsimp only; omega) ?_
  show Ll _ _ (Own _ _ [(g, .cells ((cu.setIfInBounds (0 + ((i : Int)).toNat) (.int .u8 (IntKind.u8.wrap (97 - V.getD (((i : Int)).toNat) 0))))) 5 (cur.size, cur.size + 1))]) _ _ _ _ _ _
  refine Ll.nil ?_
  refine Kt.onSub (e' := [(3, .slice (some ⟨g, 0, none⟩) s.length cap), (4, .int .i64 ((i : Int)))]) (Sub.cons rfl (Sub.cons rfl Sub.nil)) ?_
  refine Wk.regionQ ?_
  refine Lq.op rfl rfl rfl (OpQ.move rfl rfl) ?_
  refine Lq.op (v := .int .i64 (((i : Int)) + (1 : Int))) rfl rfl rfl (OpQ.add rfl rfl rfl (by omega) (by omega)) ?_
  refine Lq.op rfl rfl rfl (OpQ.assign rfl rfl) ?_
  refine Lq.nil ?_
  refine Kt.again ((i + 1, (cu.setIfInBounds (0 + ((i : Int)).toNat) (.int .u8 (IntKind.u8.wrap (97 - V.getD (((i : Int)).toNat) 0)))), V.set (0 + ((i : Int)).toNat) (IntKind.u8.wrap (97 - V.getD (((i : Int)).toNat) 0)))) ⟨by omega, by simpa using hsz, by simpa using hVl, hV8.set (wrap8 _).1 (wrap8 _).2, (set_takeU hV)⟩ (by omega) (Sub.cons rfl (Sub.cons rfl Sub.nil)) (fun _ h => h)
 ·
  replace h10 := of_decide_eq_false h10
  refine Wk.exit rfl ?_
  refine Kt.onSub (e' := [(3, .slice (some ⟨g, 0, none⟩) s.length cap)]) (Sub.cons rfl Sub.nil) ?_
  refine Wk.seq ?_
  refine Wk.regionQ ?_
  refine Lq.op rfl rfl rfl (OpQ.move rfl rfl) ?_
  refine Lq.op (v := str (u8of V)) rfl rfl rfl (OpQ.bytesStr (V := V) 0 rfl Tryd.underlying47 Tryd.underlying5 Tryd.underlying9 (by first | rfl | (rw [hVl]; rfl)) rfl (by rw [hVl]; exact hV) hV8) ?_
  refine Lq.op rfl rfl rfl (OpQ.assign rfl rfl) ?_
  refine Lq.nil ?_
  refine Kt.onSub (e' := [(2, str (u8of V))]) (Sub.cons rfl Sub.nil) ?_
  refine Wk.ret (Kt.end1 rfl rfl fun w' hw => ?_)
  -- ret 0: str (u8of V)
  exact ⟨_, rfl, by simp [hVl], hw.below⟩

set_option maxHeartbeats 400000 in
/-- spec.l1Order -/
theorem order_of (a c : St) (ha : a.Fine) (hc : c.Fine) (hn : a.n = c.n) (k : Nat) (ih : ∀ j : Nat, j < k → ∀ (B : Nat) (w0 : World) (hs far : List (Nat × Obj)) (va : Value) (xs : List Int) (w : World), (∀ w, Own B w0 hs w → Ints w va xs) → a.Els xs → xs.length + j = a.n → sameB a xs c (upto xs.length) = true → Own B w0 (hs ++ far) w → Calls Tryd.prog 131 #[vS a, va, vS c] w fun en w' => ∃ (v : Value) (b : Bool) (ys : List Int) (new : List (Nat × Obj)), en = .returned (.tuple #[v, .bool b]) ∧ (ys.length ≤ 8 ∧ (b = true → (ys.length : Int) = a.n ∧ a.Els ys ∧ sameB a ys c (upto ys.length) = true) ∧ ∀ w, Own B w0 (new ++ hs) w → Ints w v ys) ∧ Own B w0 (new ++ (hs ++ far)) w') (B : Nat) (w0 : World) (hs far : List (Nat × Obj)) (va : Value) (xs : List Int) (w : World) (hva : (∀ w, Own B w0 hs w → Ints w va xs)) (hA : a.Els xs) (hl : xs.length + k = a.n) (hF : sameB a xs c (upto xs.length) = true) (hw : Own B w0 (hs ++ far) w) :
    Calls Tryd.prog 131 [vS a, va, vS c].toArray w fun en w' => ∃ (v : Value) (b : Bool) (ys : List Int) (new : List (Nat × Obj)), en = .returned (.tuple #[v, .bool b]) ∧ (ys.length ≤ 8 ∧ (b = true → (ys.length : Int) = a.n ∧ a.Els ys ∧ sameB a ys c (upto ys.length) = true) ∧ ∀ w, Own B w0 (new ++ hs) w → Ints w v ys) ∧ Own B w0 (new ++ (hs ++ far)) w' := by
 refine fnStartC (Own B w0 (hs ++ far)) (n := 60) (e := [(0, vS a), (1, va), (2, vS c)]) Tryd.func131 rfl rfl rfl rfl Ends.both hw ?_
 have hm8 := ha.hi
 have hm1 := ha.lo
 refine Wk.seq ?_
 refine Wk.region ?_
 refine Ll.box (v := vS a) rfl rfl rfl rfl rfl fun p3 hp3 => ?_
 show Ll _ _ (Own _ _ ((p3, .cells #[.int .i64 a.n, str a.set, str a.rel] 26 (0, 0)) :: (hs ++ far))) _ _ ((3, .pointer (some ⟨p3, 0, none⟩)) :: _) _ _ _
 refine Ll.box (v := vS c) rfl rfl rfl rfl rfl fun p5 hp5 => ?_
 show Ll _ _ (Own _ _ ((p5, .cells #[.int .i64 c.n, str c.set, str c.rel] 26 (0, 0)) :: (p3, .cells #[.int .i64 a.n, str a.set, str a.rel] 26 (0, 0)) :: (hs ++ far))) _ _ ((5, .pointer (some ⟨p5, 0, none⟩)) :: _) _ _ _
 refine Ll.op rfl rfl rfl (OpQ.assign rfl rfl) ?_
 refine Ll.op (v := .bool false) rfl rfl rfl (OpQ.assign rfl rfl) ?_
 refine Ll.nil ?_
 refine Kt.onSub (e' := [(1, va), (3, .pointer (some ⟨p3, 0, none⟩)), (5, .pointer (some ⟨p5, 0, none⟩))]) (Sub.cons rfl (Sub.cons rfl (Sub.cons rfl Sub.nil))) ?_
 refine Wk.seq ?_
 refine Wk.seq ?_
 refine Wk.regionQ ?_
 refine Lq.op rfl rfl rfl (OpQ.move rfl rfl) ?_
 refine Lq.op (v := .int .i64 ((xs.length : Int))) rfl rfl rfl (OpQ.lenRow rfl Tryd.runUnderlying31 rfl (ints_length _) (fun w1 hw1 => hva _ (Own.dropR (Own.drop (f := [_, _]) hw1)))) ?_
 refine Lq.op (v := .pointer (some ⟨p3, 0, none⟩)) rfl rfl rfl (OpQ.fieldAddr rfl Tryd.runUnderlying26 rfl Tryd.sizeOf3 rfl rfl) ?_
 refine Lq.op (v := .int .i64 a.n) rfl rfl rfl (OpQ.loadOwn 1 rfl Tryd.isAgg3 rfl rfl rfl) ?_
 refine Lq.op (v := .bool (decide (((xs.length : Int)) = a.n))) rfl rfl rfl (OpQ.eql rfl rfl rfl) ?_
 refine Lq.nil ?_
 refine Kt.onSub (e' := [(1, va), (3, .pointer (some ⟨p3, 0, none⟩)), (5, .pointer (some ⟨p5, 0, none⟩)), (18, .bool (decide (((xs.length : Int)) = a.n)))]) (Sub.cons rfl (Sub.cons rfl (Sub.cons rfl (Sub.cons rfl Sub.nil)))) ?_
 refine Wk.cond (b := decide (((xs.length : Int)) = a.n)) rfl (fun h18 => ?_) (fun h18 => ?_)
 ·
  replace h18 := of_decide_eq_true h18
  refine Wk.seq ?_
  refine Wk.regionQ ?_
  refine Lq.op rfl rfl rfl (OpQ.move rfl rfl) ?_
  refine Lq.op rfl rfl rfl (OpQ.assign rfl rfl) ?_
  refine Lq.op (v := .bool true) rfl rfl rfl (OpQ.assign rfl rfl) ?_
  refine Lq.nil ?_
  refine Kt.onSub (e' := [(6, va), (7, .bool true)]) (Sub.cons rfl (Sub.cons rfl Sub.nil)) ?_
  refine Wk.ret (Kt.end2 rfl rfl rfl fun w' hw => ?_)
  -- ret 0: va; .bool true
  exact ⟨va, true, xs, [(p5, .cells #[.int .i64 c.n, str c.set, str c.rel] 26 (0, 0)), (p3, .cells #[.int .i64 a.n, str a.set, str a.rel] 26 (0, 0))], rfl, ⟨by omega, fun _ => ⟨by omega, hA, hF⟩, fun w3 h3 => hva _ (Own.drop (f := [(p5, .cells #[.int .i64 c.n, str c.set, str c.rel] 26 (0, 0)), (p3, .cells #[.int .i64 a.n, str a.set, str a.rel] 26 (0, 0))]) h3)⟩, hw⟩
 ·
  replace h18 := of_decide_eq_false h18
  have hk1 : 1 ≤ k := by omega
  refine Wk.skip ?_
  refine Kt.onSub (e' := [(1, va), (3, .pointer (some ⟨p3, 0, none⟩)), (5, .pointer (some ⟨p5, 0, none⟩))]) (Sub.cons rfl (Sub.cons rfl (Sub.cons rfl Sub.nil))) ?_
  refine Wk.seq ?_
  refine Wk.seq ?_
  refine Wk.regionQ ?_
  refine Lq.op rfl rfl rfl (OpQ.assign rfl rfl) ?_
  refine Lq.nil ?_
  refine Kt.onSub (e' := [(1, va), (3, .pointer (some ⟨p3, 0, none⟩)), (5, .pointer (some ⟨p5, 0, none⟩)), (8, .int .i64 0)]) (Sub.cons rfl (Sub.cons rfl (Sub.cons rfl (Sub.cons rfl Sub.nil)))) ?_
  refine Wk.block ?_
  refine Wk.loop (σ := Nat) (fun i => (i : Int) ≤ a.n) (fun i => [(1, va), (3, .pointer (some ⟨p3, 0, none⟩)), (5, .pointer (some ⟨p5, 0, none⟩)), (8, .int .i64 ((i : Int)))]) (fun i => Own B w0 ((p5, .cells #[.int .i64 c.n, str c.set, str c.rel] 26 (0, 0)) :: (p3, .cells #[.int .i64 a.n, str a.set, str a.rel] 26 (0, 0)) :: (hs ++ far))) (fun i => (a.n - i).toNat) (0) (by omega) (Sub.cons rfl (Sub.cons rfl (Sub.cons rfl (Sub.cons rfl Sub.nil)))) (fun _ h => h) ?_
  rintro i hi
  refine Wk.seq ?_
  refine Wk.seq ?_
  refine Wk.regionQ ?_
  refine Lq.op rfl rfl rfl (OpQ.move rfl rfl) ?_
  refine Lq.op (v := .pointer (some ⟨p3, 0, none⟩)) rfl rfl rfl (OpQ.fieldAddr rfl Tryd.runUnderlying26 rfl Tryd.sizeOf3 rfl rfl) ?_
  refine Lq.op (v := .int .i64 a.n) rfl rfl rfl (OpQ.loadOwn 1 rfl Tryd.isAgg3 rfl rfl rfl) ?_
  refine Lq.op (v := .bool (decide (((i : Int)) < a.n))) rfl rfl rfl (OpQ.lss rfl rfl rfl) ?_
  refine Lq.nil ?_
  refine Kt.onSub (e' := [(1, va), (3, .pointer (some ⟨p3, 0, none⟩)), (5, .pointer (some ⟨p5, 0, none⟩)), (8, .int .i64 ((i : Int))), (23, .bool (decide (((i : Int)) < a.n)))]) (Sub.cons rfl (Sub.cons rfl (Sub.cons rfl (Sub.cons rfl (Sub.cons rfl Sub.nil))))) ?_
  refine Wk.cond (b := decide (((i : Int)) < a.n)) rfl (fun h23 => ?_) (fun h23 => ?_)
  ·
   replace h23 := of_decide_eq_true h23
   have hx : a.El i := ⟨by omega, by omega⟩
   refine Wk.skip ?_
   refine Kt.onSub (e' := [(1, va), (3, .pointer (some ⟨p3, 0, none⟩)), (5, .pointer (some ⟨p5, 0, none⟩)), (8, .int .i64 ((i : Int)))]) (Sub.cons rfl (Sub.cons rfl (Sub.cons rfl (Sub.cons rfl Sub.nil)))) ?_
   refine Wk.seq ?_
   refine Wk.block ?_
   refine Wk.seq ?_
   refine Wk.region ?_
   refine Ll.slice (xs := []) (vs := []) Base.elem31 rfl rfl rfl rfl rfl rfl (by decide) rfl fun p26 hp26 => ?_
   refine Ll.op rfl rfl rfl (OpQ.move rfl rfl) ?_
   refine Ll.appendInts (xs := []) (ys := xs) Base.elem31 0 rfl rfl rfl rfl rfl rfl rfl rfl (by decide) rfl (fun w1 hw1 => (hva _ (Own.dropR (Own.drop (f := [_, _, _]) hw1)))) ((xs).length) (by first | (simp; done) | (simp; omega)) (by first | (simp; done) | (simp; omega) | omega) fun p28 cap28 cur28 hp28 hcp28 hlp28 htp28 => ?_
   show Ll _ _ (Own _ _ ((p28, .cells cur28 3 (0, 0)) :: (p5, .cells #[.int .i64 c.n, str c.set, str c.rel] 26 (0, 0)) :: (p3, .cells #[.int .i64 a.n, str a.set, str a.rel] 26 (0, 0)) :: (hs ++ far))) _ _ ((28, .slice (some ⟨p28, 0, none⟩) (((xs).length)) cap28) :: _) _ _ _
   refine Ll.op rfl rfl rfl (OpQ.move rfl rfl) ?_
   refine Ll.slice (xs := [.tmp 29]) (vs := [.int .i64 ((i : Int))]) Base.elem31 rfl rfl rfl rfl rfl rfl (by decide) rfl fun p30 hp30 => ?_
   refine Ll.appendInts (xs := xs) (ys := [(i : Int)]) Base.elem31 1 rfl rfl rfl rfl rfl rfl rfl hcp28 hlp28 (by simpa using htp28) (fun w1 hw1 => (Own.row hw1 (i := 0) rfl (n := 1) (cap := 1) (vs := ints [(i : Int)]) rfl rfl (by decide))) ((xs ++ ([(i : Int)])).length) (by first | (simp; done) | (simp; omega)) (by first | (simp; done) | (simp; omega) | omega) fun p31 cap31 cur31 hp31 hcp31 hlp31 htp31 => ?_
   show Ll _ _ (Own _ _ ((p30, .cells #[.int .i64 ((i : Int))] 3 (0, 0)) :: (p31, .cells cur31 3 (0, 0)) :: (p5, .cells #[.int .i64 c.n, str c.set, str c.rel] 26 (0, 0)) :: (p3, .cells #[.int .i64 a.n, str a.set, str a.rel] 26 (0, 0)) :: (hs ++ far))) _ _ ((31, .slice (some ⟨p31, 0, none⟩) (((xs ++ ([(i : Int)])).length)) cap31) :: _) _ _ _
   refine Ll.op rfl rfl rfl (OpQ.assign rfl rfl) ?_
   refine Ll.nil ?_
   refine Kt.onSub (e' := [(1, va), (3, .pointer (some ⟨p3, 0, none⟩)), (5, .pointer (some ⟨p5, 0, none⟩)), (8, .int .i64 ((i : Int))), (9, .slice (some ⟨p31, 0, none⟩) (((xs ++ ([(i : Int)])).length)) cap31)]) (Sub.cons rfl (Sub.cons rfl (Sub.cons rfl (Sub.cons rfl (Sub.cons rfl Sub.nil))))) ?_
   refine Wk.seq ?_
   refine Wk.region ?_
   refine Ll.op rfl rfl rfl (OpQ.move rfl rfl) ?_
   refine Ll.op (v := .int .i64 ((((xs ++ ([(i : Int)])).length) : Int))) rfl rfl rfl (OpQ.lenS rfl Tryd.runUnderlying31 rfl) ?_
   refine Ll.make (k := (xs.length + 1)) Base.elem31 Tryd.zeroValue3 rfl rfl rfl rfl (by show some (Value.int .i64 ((xs ++ [(i : Int)]).length : Int)) = _; rw [List.length_append]; rfl) (by omega) fun p34 hp34 => ?_
   rw [show madeCells (Value.cells (.int .i64 0)) ((xs.length + 1) * 1) = (ints (List.replicate ((xs.length + 1)) 0)).toArray from made_ints _]
   refine Ll.op rfl rfl rfl (OpQ.assign rfl rfl) ?_
   refine Ll.nil ?_
   refine Kt.onSub (e' := [(1, va), (3, .pointer (some ⟨p3, 0, none⟩)), (5, .pointer (some ⟨p5, 0, none⟩)), (8, .int .i64 ((i : Int))), (9, .slice (some ⟨p31, 0, none⟩) (((xs ++ ([(i : Int)])).length)) cap31), (10, .slice (some ⟨p34, 0, none⟩) ((xs.length + 1)) ((xs.length + 1)))]) (Sub.cons rfl (Sub.cons rfl (Sub.cons rfl (Sub.cons rfl (Sub.cons rfl (Sub.cons rfl Sub.nil)))))) ?_
   refine Wk.seq ?_
   refine Wk.seq ?_
   refine Wk.regionQ ?_
   refine Lq.op rfl rfl rfl (OpQ.assign rfl rfl) ?_
   refine Lq.nil ?_
   refine Kt.onSub (e' := [(1, va), (3, .pointer (some ⟨p3, 0, none⟩)), (5, .pointer (some ⟨p5, 0, none⟩)), (8, .int .i64 ((i : Int))), (9, .slice (some ⟨p31, 0, none⟩) (((xs ++ ([(i : Int)])).length)) cap31), (10, .slice (some ⟨p34, 0, none⟩) ((xs.length + 1)) ((xs.length + 1))), (11, .int .i64 0)]) (Sub.cons rfl (Sub.cons rfl (Sub.cons rfl (Sub.cons rfl (Sub.cons rfl (Sub.cons rfl (Sub.cons rfl Sub.nil))))))) ?_
   refine Wk.block ?_
   refine Wk.loop (σ := Nat) (fun j => j ≤ xs.length + 1) (fun j => [(1, va), (3, .pointer (some ⟨p3, 0, none⟩)), (5, .pointer (some ⟨p5, 0, none⟩)), (8, .int .i64 ((i : Int))), (9, .slice (some ⟨p31, 0, none⟩) (((xs ++ ([(i : Int)])).length)) cap31), (10, .slice (some ⟨p34, 0, none⟩) ((xs.length + 1)) ((xs.length + 1))), (11, .int .i64 ((j : Int)))]) (fun j => Own B w0 ((p34, .cells ((ints (upto j ++ List.replicate (xs.length + 1 - j) 0)).toArray) 3 (0, 0)) :: (p30, .cells #[.int .i64 ((i : Int))] 3 (0, 0)) :: (p31, .cells cur31 3 (0, 0)) :: (p5, .cells #[.int .i64 c.n, str c.set, str c.rel] 26 (0, 0)) :: (p3, .cells #[.int .i64 a.n, str a.set, str a.rel] 26 (0, 0)) :: (hs ++ far))) (fun j => xs.length + 1 - j) (0) (by omega) (Sub.cons rfl (Sub.cons rfl (Sub.cons rfl (Sub.cons rfl (Sub.cons rfl (Sub.cons rfl (Sub.cons rfl Sub.nil))))))) (fun _ h => by simpa [upto] using h) ?_
   rintro j hj
   refine Wk.seq ?_
   refine Wk.seq ?_
   refine Wk.regionQ ?_
   refine Lq.op rfl rfl rfl (OpQ.move rfl rfl) ?_
   refine Lq.op rfl rfl rfl (OpQ.move rfl rfl) ?_
   refine Lq.op (v := .int .i64 (((xs.length + 1) : Int))) rfl rfl rfl (OpQ.lenS rfl Tryd.runUnderlying31 rfl) ?_
   refine Lq.op (v := .bool (decide (((j : Int)) < (((xs.length + 1) : Int))))) rfl rfl rfl (OpQ.lss rfl rfl rfl) ?_
   refine Lq.nil ?_
   refine Kt.onSub (e' := [(1, va), (3, .pointer (some ⟨p3, 0, none⟩)), (5, .pointer (some ⟨p5, 0, none⟩)), (8, .int .i64 ((i : Int))), (9, .slice (some ⟨p31, 0, none⟩) (((xs ++ ([(i : Int)])).length)) cap31), (10, .slice (some ⟨p34, 0, none⟩) ((xs.length + 1)) ((xs.length + 1))), (11, .int .i64 ((j : Int))), (38, .bool (decide (((j : Int)) < (((xs.length + 1) : Int)))))]) (Sub.cons rfl (Sub.cons rfl (Sub.cons rfl (Sub.cons rfl (Sub.cons rfl (Sub.cons rfl (Sub.cons rfl (Sub.cons rfl Sub.nil)))))))) ?_
   refine Wk.cond (b := decide (((j : Int)) < (((xs.length + 1) : Int)))) rfl (fun h38 => ?_) (fun h38 => ?_)
   ·
    replace h38 := of_decide_eq_true h38
    refine Wk.skip ?_
    refine Kt.onSub (e' := [(1, va), (3, .pointer (some ⟨p3, 0, none⟩)), (5, .pointer (some ⟨p5, 0, none⟩)), (8, .int .i64 ((i : Int))), (9, .slice (some ⟨p31, 0, none⟩) (((xs ++ ([(i : Int)])).length)) cap31), (10, .slice (some ⟨p34, 0, none⟩) ((xs.length + 1)) ((xs.length + 1))), (11, .int .i64 ((j : Int)))]) (Sub.cons rfl (Sub.cons rfl (Sub.cons rfl (Sub.cons rfl (Sub.cons rfl (Sub.cons rfl (Sub.cons rfl Sub.nil))))))) ?_
    refine Wk.seq ?_
    refine Wk.block ?_
    refine Wk.region ?_
    refine Ll.op rfl rfl rfl (OpQ.move rfl rfl) ?_
    refine Ll.op rfl rfl rfl (OpQ.move rfl rfl) ?_
    refine Ll.op rfl rfl rfl (OpQ.move rfl rfl) ?_
    refine Ll.op (v := .pointer (some ⟨p34, 0 + ((j : Int)).toNat, none⟩)) rfl rfl rfl (OpQ.indexAddr1 rfl Tryd.runUnderlying31 Tryd.sizeOf3 rfl rfl (by omega) (by omega)) ?_
    refine Ll.store1 (v := .int .i64 ((j : Int))) (hs' := ((p34, .cells ((ints ((upto j ++ List.replicate (xs.length + 1 - j) 0).set (((j : Int)).toNat) ((j : Int)))).toArray) 3 (0, 0)) :: (p30, .cells #[.int .i64 ((i : Int))] 3 (0, 0)) :: (p31, .cells cur31 3 (0, 0)) :: (p5, .cells #[.int .i64 c.n, str c.set, str c.rel] 26 (0, 0)) :: (p3, .cells #[.int .i64 a.n, str a.set, str a.rel] 26 (0, 0)) :: (hs ++ far))) 0 rfl rfl rfl rfl rfl rfl Tryd.sizeOf3 rfl (by first | (simp; done) | (simp; omega) | omega) (by first | (rw [ints_set]; rfl) | (simp only [Nat.zero_add]; rw [ints_set]; rfl)) ?_
    refine Ll.nil ?_
    refine Kt.onSub (e' := [(1, va), (3, .pointer (some ⟨p3, 0, none⟩)), (5, .pointer (some ⟨p5, 0, none⟩)), (8, .int .i64 ((i : Int))), (9, .slice (some ⟨p31, 0, none⟩) (((xs ++ ([(i : Int)])).length)) cap31), (10, .slice (some ⟨p34, 0, none⟩) ((xs.length + 1)) ((xs.length + 1))), (11, .int .i64 ((j : Int)))]) (Sub.cons rfl (Sub.cons rfl (Sub.cons rfl (Sub.cons rfl (Sub.cons rfl (Sub.cons rfl (Sub.cons rfl Sub.nil))))))) ?_
    refine Wk.regionQ ?_
    refine Lq.op rfl rfl rfl (OpQ.move rfl rfl) ?_
    refine Lq.op (v := .int .i64 (((j : Int)) + (1 : Int))) rfl rfl rfl (OpQ.add rfl rfl rfl (by omega) (by omega)) ?_
    refine Lq.op rfl rfl rfl (OpQ.assign rfl rfl) ?_
    refine Lq.nil ?_
    refine Kt.again (j + 1) (by omega) (by omega) (Sub.cons rfl (Sub.cons rfl (Sub.cons rfl (Sub.cons rfl (Sub.cons rfl (Sub.cons rfl (Sub.cons rfl Sub.nil))))))) (fun _ h => by rw [Int.toNat_natCast, upto_set (by omega)] at h; exact h)
   ·
    replace h38 := of_decide_eq_false h38
    obtain rfl : j = xs.length + 1 := by omega
    rw [show upto (xs.length + 1) ++ List.replicate (xs.length + 1 - (xs.length + 1)) 0 = upto (xs.length + 1) from by simp]
    refine Wk.exit rfl ?_
    refine Kt.onSub (e' := [(1, va), (3, .pointer (some ⟨p3, 0, none⟩)), (5, .pointer (some ⟨p5, 0, none⟩)), (8, .int .i64 ((i : Int))), (9, .slice (some ⟨p31, 0, none⟩) (((xs ++ ([(i : Int)])).length)) cap31), (10, .slice (some ⟨p34, 0, none⟩) ((xs.length + 1)) ((xs.length + 1)))]) (Sub.cons rfl (Sub.cons rfl (Sub.cons rfl (Sub.cons rfl (Sub.cons rfl (Sub.cons rfl Sub.nil)))))) ?_
    refine Wk.seq ?_
    refine Wk.regionQ ?_
    refine Lq.op (v := vS a) rfl rfl rfl (OpQ.loadBox (cs := #[.int .i64 a.n, str a.set, str a.rel]) 4 rfl Tryd.isAgg26 rfl rfl Tryd.sizeOf26) ?_
    refine Lq.op rfl rfl rfl (OpQ.move rfl rfl) ?_
    refine Lq.op (v := vS c) rfl rfl rfl (OpQ.loadBox (cs := #[.int .i64 c.n, str c.set, str c.rel]) 3 rfl Tryd.isAgg26 rfl rfl Tryd.sizeOf26) ?_
    refine Lq.op rfl rfl rfl (OpQ.move rfl rfl) ?_
    refine Lq.op (v := .bool (stillAt a (xs ++ ([(i : Int)])) c (upto (xs.length + 1)) xs.length)) rfl rfl rfl (OpQ.call rfl Tryd.call82 rfl Own.stable (fun w1 hw1 => fits_ok a c (xs ++ ([(i : Int)])) (upto (xs.length + 1)) (.slice (some ⟨p31, 0, none⟩) (((xs ++ ([(i : Int)])).length)) cap31) (.slice (some ⟨p34, 0, none⟩) ((xs.length + 1)) ((xs.length + 1))) xs.length w1 ha hc (Own.row hw1 (i := 2) rfl (by simpa using htp31) (by simp) hlp31) (Own.ints hw1 (i := 0) rfl (by simp) (by omega)) (els_more hA hx) (upto_els (by omega)) (by simp) (by simp) (by omega))) ?_
    refine Lq.nil ?_
    refine Kt.onSub (e' := [(1, va), (3, .pointer (some ⟨p3, 0, none⟩)), (5, .pointer (some ⟨p5, 0, none⟩)), (8, .int .i64 ((i : Int))), (9, .slice (some ⟨p31, 0, none⟩) (((xs ++ ([(i : Int)])).length)) cap31), (49, .bool (stillAt a (xs ++ ([(i : Int)])) c (upto (xs.length + 1)) xs.length))]) (Sub.cons rfl (Sub.cons rfl (Sub.cons rfl (Sub.cons rfl (Sub.cons rfl (Sub.cons rfl Sub.nil)))))) ?_
    refine Wk.cond (b := stillAt a (xs ++ ([(i : Int)])) c (upto (xs.length + 1)) xs.length) rfl (fun h49 => ?_) (fun h49 => ?_)
    ·
     refine Wk.seq ?_
     refine Wk.region ?_
     refine Ll.op (v := vS a) rfl rfl rfl (OpQ.loadBox (cs := #[.int .i64 a.n, str a.set, str a.rel]) 4 rfl Tryd.isAgg26 rfl rfl Tryd.sizeOf26) ?_
     refine Ll.op rfl rfl rfl (OpQ.move rfl rfl) ?_
     refine Ll.op (v := vS c) rfl rfl rfl (OpQ.loadBox (cs := #[.int .i64 c.n, str c.set, str c.rel]) 3 rfl Tryd.isAgg26 rfl rfl Tryd.sizeOf26) ?_
     refine Ll.callNew (ok := fun ((v, b, ys, new) : Value × Bool × List Int × List (Nat × Obj)) => ys.length ≤ 8 ∧ (b = true → (ys.length : Int) = a.n ∧ a.Els ys ∧ sameB a ys c (upto ys.length) = true) ∧ ∀ w, Own B w0 (new ++ (([(p34, .cells ((ints (upto (xs.length + 1))).toArray) 3 (0, 0)), (p30, .cells #[.int .i64 ((i : Int))] 3 (0, 0)), (p31, .cells cur31 3 (0, 0)), (p5, .cells #[.int .i64 c.n, str c.set, str c.rel] 26 (0, 0)), (p3, .cells #[.int .i64 a.n, str a.set, str a.rel] 26 (0, 0))] : List (Nat × Obj)) ++ hs)) w → Ints w v ys) (v := fun ((v, b, ys, new) : Value × Bool × List Int × List (Nat × Obj)) => .tuple #[v, .bool b]) (new := fun ((v, b, ys, new) : Value × Bool × List Int × List (Nat × Obj)) => new) (hs := ([(p34, .cells ((ints (upto (xs.length + 1))).toArray) 3 (0, 0)), (p30, .cells #[.int .i64 ((i : Int))] 3 (0, 0)), (p31, .cells cur31 3 (0, 0)), (p5, .cells #[.int .i64 c.n, str c.set, str c.rel] 26 (0, 0)), (p3, .cells #[.int .i64 a.n, str a.set, str a.rel] 26 (0, 0))] : List (Nat × Obj)) ++ hs ++ far) (xs := [.tmp 51, .tmp 52, .tmp 53]) (vs := [vS a, .slice (some ⟨p31, 0, none⟩) (((xs ++ ([(i : Int)])).length)) cap31, vS c]) rfl rfl rfl rfl Tryd.call131 rfl (fun w1 hw1 => (ih (k - 1) (by omega) _ _ (([(p34, .cells ((ints (upto (xs.length + 1))).toArray) 3 (0, 0)), (p30, .cells #[.int .i64 ((i : Int))] 3 (0, 0)), (p31, .cells cur31 3 (0, 0)), (p5, .cells #[.int .i64 c.n, str c.set, str c.rel] 26 (0, 0)), (p3, .cells #[.int .i64 a.n, str a.set, str a.rel] 26 (0, 0))] : List (Nat × Obj)) ++ hs) far _ _ w1 (fun w2 h2 => (Own.row h2 (i := 2) rfl (by simpa using htp31) (by simp) hlp31)) (els_more hA hx) (by simp; omega) (order_more hF h49) hw1).mono fun en w' ⟨v, b, ys, new, h1, h2, h3⟩ => ⟨(v, b, ys, new), h1, h2, h3⟩) fun ⟨v2, b2, ys2, new2⟩ hO => ?_
     dsimp only at hO
     show Ll _ _ (Own _ _ (new2 ++ (([(p34, .cells ((ints (upto (xs.length + 1))).toArray) 3 (0, 0)), (p30, .cells #[.int .i64 ((i : Int))] 3 (0, 0)), (p31, .cells cur31 3 (0, 0)), (p5, .cells #[.int .i64 c.n, str c.set, str c.rel] 26 (0, 0)), (p3, .cells #[.int .i64 a.n, str a.set, str a.rel] 26 (0, 0))] : List (Nat × Obj)) ++ hs ++ far))) _ _ ((54, .tuple #[v2, .bool b2]) :: _) _ _ _
     obtain ⟨hy8, hyT, hyI⟩ := hO
     refine Ll.op rfl rfl rfl (OpQ.move rfl rfl) ?_
     refine Ll.op (v := v2) rfl rfl rfl (OpQ.extract rfl rfl rfl) ?_
     refine Ll.op (v := .bool b2) rfl rfl rfl (OpQ.extract rfl rfl rfl) ?_
     refine Ll.op (v := v2) rfl rfl rfl (OpQ.assign rfl rfl) ?_
     refine Ll.op (v := .bool b2) rfl rfl rfl (OpQ.assign rfl rfl) ?_
     refine Ll.nil ?_
     refine Kt.onSub (e' := [(1, va), (3, .pointer (some ⟨p3, 0, none⟩)), (5, .pointer (some ⟨p5, 0, none⟩)), (8, .int .i64 ((i : Int))), (12, v2), (13, .bool b2)]) (Sub.cons rfl (Sub.cons rfl (Sub.cons rfl (Sub.cons rfl (Sub.cons rfl (Sub.cons rfl Sub.nil)))))) ?_
     refine Wk.seq ?_
     refine Wk.regionQ ?_
     refine Lq.op (v := .bool b2) rfl rfl rfl (OpQ.move rfl rfl) ?_
     refine Lq.nil ?_
     refine Kt.onSub (e' := [(1, va), (3, .pointer (some ⟨p3, 0, none⟩)), (5, .pointer (some ⟨p5, 0, none⟩)), (8, .int .i64 ((i : Int))), (12, v2), (57, .bool b2)]) (Sub.cons rfl (Sub.cons rfl (Sub.cons rfl (Sub.cons rfl (Sub.cons rfl (Sub.cons rfl Sub.nil)))))) ?_
     refine Wk.cond (b := b2) rfl (fun h57 => ?_) (fun h57 => ?_)
     ·
      refine Wk.seq ?_
      refine Wk.regionQ ?_
      refine Lq.op (v := v2) rfl rfl rfl (OpQ.move rfl rfl) ?_
      refine Lq.op (v := v2) rfl rfl rfl (OpQ.assign rfl rfl) ?_
      refine Lq.op (v := .bool true) rfl rfl rfl (OpQ.assign rfl rfl) ?_
      refine Lq.nil ?_
      refine Kt.onSub (e' := [(6, v2), (7, .bool true)]) (Sub.cons rfl (Sub.cons rfl Sub.nil)) ?_
      refine Wk.ret (Kt.end2 rfl rfl rfl fun w' hw => ?_)
      -- ret 1: v2; .bool true
      exact ⟨v2, true, ys2, new2 ++ [(p34, .cells ((ints (upto (xs.length + 1))).toArray) 3 (0, 0)), (p30, .cells #[.int .i64 ((i : Int))] 3 (0, 0)), (p31, .cells cur31 3 (0, 0)), (p5, .cells #[.int .i64 c.n, str c.set, str c.rel] 26 (0, 0)), (p3, .cells #[.int .i64 a.n, str a.set, str a.rel] 26 (0, 0))], rfl, ⟨hy8, fun _ => hyT h57, fun w3 h3 => hyI w3 (by rw [List.append_assoc] at h3; exact h3)⟩, by rw [List.append_assoc]; exact hw⟩
     ·
      refine Wk.skip ?_
      refine Kt.onSub (e' := [(1, va), (3, .pointer (some ⟨p3, 0, none⟩)), (5, .pointer (some ⟨p5, 0, none⟩)), (8, .int .i64 ((i : Int)))]) (Sub.cons rfl (Sub.cons rfl (Sub.cons rfl (Sub.cons rfl Sub.nil)))) ?_
      refine Wk.regionQ ?_
      refine Lq.op rfl rfl rfl (OpQ.move rfl rfl) ?_
      refine Lq.op (v := .int .i64 (((i : Int)) + (1 : Int))) rfl rfl rfl (OpQ.add rfl rfl rfl (by omega) (by omega)) ?_
      refine Lq.op rfl rfl rfl (OpQ.assign rfl rfl) ?_
      refine Lq.nil ?_
      refine Kt.again (i + 1) (by omega) (by omega) (Sub.cons rfl (Sub.cons rfl (Sub.cons rfl (Sub.cons rfl Sub.nil)))) (fun _ h => (Own.drop (f := new2) h).tail.tail.tail)
    ·
     refine Wk.skip ?_
     refine Kt.onSub (e' := [(1, va), (3, .pointer (some ⟨p3, 0, none⟩)), (5, .pointer (some ⟨p5, 0, none⟩)), (8, .int .i64 ((i : Int)))]) (Sub.cons rfl (Sub.cons rfl (Sub.cons rfl (Sub.cons rfl Sub.nil)))) ?_
     refine Wk.regionQ ?_
     refine Lq.op rfl rfl rfl (OpQ.move rfl rfl) ?_
     refine Lq.op (v := .int .i64 (((i : Int)) + (1 : Int))) rfl rfl rfl (OpQ.add rfl rfl rfl (by omega) (by omega)) ?_
     refine Lq.op rfl rfl rfl (OpQ.assign rfl rfl) ?_
     refine Lq.nil ?_
     refine Kt.again (i + 1) (by omega) (by omega) (Sub.cons rfl (Sub.cons rfl (Sub.cons rfl (Sub.cons rfl Sub.nil)))) (fun _ h => h.tail.tail.tail)
  ·
   replace h23 := of_decide_eq_false h23
   refine Wk.exit rfl ?_
   refine Kt.onSub (e' := []) Sub.nil ?_
   refine Wk.seq ?_
   refine Wk.region ?_
   refine Ll.slice (xs := []) (vs := []) Base.elem31 rfl rfl rfl rfl rfl rfl (by decide) rfl fun p59 hp59 => ?_
   refine Ll.op rfl rfl rfl (OpQ.assign rfl rfl) ?_
   refine Ll.op (v := .bool false) rfl rfl rfl (OpQ.assign rfl rfl) ?_
   refine Ll.nil ?_
   refine Kt.onSub (e' := [(6, .slice (some ⟨p59, 0, none⟩) 0 0), (7, .bool false)]) (Sub.cons rfl (Sub.cons rfl Sub.nil)) ?_
   refine Wk.ret (Kt.end2 rfl rfl rfl fun w' hw => ?_)
   -- ret 2: .slice (some ⟨p59, 0, none⟩) 0 0; .bool false
   exact ⟨_, false, [], [(p59, .cells #[] 3 (0, 0)), (p5, .cells #[.int .i64 c.n, str c.set, str c.rel] 26 (0, 0)), (p3, .cells #[.int .i64 a.n, str a.set, str a.rel] 26 (0, 0))], rfl, ⟨by decide, (fun h => by cases h), fun w3 h3 => (Own.row h3 (i := 0) rfl (n := 0) (cap := 0) (vs := ints []) rfl rfl (by decide))⟩, hw⟩

theorem order_ok (a c : St) (ha : a.Fine) (hc : c.Fine) (hn : a.n = c.n) (k : Nat) : ∀ (B : Nat) (w0 : World) (hs far : List (Nat × Obj)) (va : Value) (xs : List Int) (w : World), (∀ w, Own B w0 hs w → Ints w va xs) → a.Els xs → xs.length + k = a.n → sameB a xs c (upto xs.length) = true → Own B w0 (hs ++ far) w → Calls Tryd.prog 131 #[vS a, va, vS c] w fun en w' => ∃ (v : Value) (b : Bool) (ys : List Int) (new : List (Nat × Obj)), en = .returned (.tuple #[v, .bool b]) ∧ (ys.length ≤ 8 ∧ (b = true → (ys.length : Int) = a.n ∧ a.Els ys ∧ sameB a ys c (upto ys.length) = true) ∧ ∀ w, Own B w0 (new ++ hs) w → Ints w v ys) ∧ Own B w0 (new ++ (hs ++ far)) w' :=
  Nat.strongRecOn (motive := fun k => ∀ (B : Nat) (w0 : World) (hs far : List (Nat × Obj)) (va : Value) (xs : List Int) (w : World), (∀ w, Own B w0 hs w → Ints w va xs) → a.Els xs → xs.length + k = a.n → sameB a xs c (upto xs.length) = true → Own B w0 (hs ++ far) w → Calls Tryd.prog 131 #[vS a, va, vS c] w fun en w' => ∃ (v : Value) (b : Bool) (ys : List Int) (new : List (Nat × Obj)), en = .returned (.tuple #[v, .bool b]) ∧ (ys.length ≤ 8 ∧ (b = true → (ys.length : Int) = a.n ∧ a.Els ys ∧ sameB a ys c (upto ys.length) = true) ∧ ∀ w, Own B w0 (new ++ hs) w → Ints w v ys) ∧ Own B w0 (new ++ (hs ++ far)) w') k fun k ih B w0 hs far va xs w hva hA hl hF hw => order_of a c ha hc hn k ih B w0 hs far va xs w hva hA hl hF hw

set_option maxHeartbeats 400000 in
/-- spec.SameShape -/
theorem shape_ok (a c : St) (B : Nat) (w0 : World) (hs : List (Nat × Obj)) (w : World) (ha : a.Fine) (hc : c.Fine) (hw : Own B w0 hs w) :
    Calls Tryd.prog 112 [vS a, vS c].toArray w fun en w' => ∃ (v : Value) (b : Bool) (ys : List Int) (new : List (Nat × Obj)), en = .returned (.tuple #[v, .bool b]) ∧ (ys.length ≤ 8 ∧ (b = true → a.n = c.n ∧ (ys.length : Int) = a.n ∧ a.Els ys ∧ sameB a ys c (upto ys.length) = true) ∧ ∀ w, Own B w0 new w → Ints w v ys) ∧ Own B w0 (new ++ hs) w' := by
 refine fnStartC (Own B w0 hs) (n := 28) (e := [(0, vS a), (1, vS c)]) Tryd.func112 rfl rfl rfl rfl Ends.both hw ?_
 have hm8 := ha.hi
 have hm1 := ha.lo
 have hsa := ha.small
 have hsc := hc.small
 refine Wk.seq ?_
 refine Wk.region ?_
 refine Ll.box (v := vS a) rfl rfl rfl rfl rfl fun p2 hp2 => ?_
 show Ll _ _ (Own _ _ ((p2, .cells #[.int .i64 a.n, str a.set, str a.rel] 26 (0, 0)) :: hs)) _ _ ((2, .pointer (some ⟨p2, 0, none⟩)) :: _) _ _ _
 refine Ll.box (v := vS c) rfl rfl rfl rfl rfl fun p3 hp3 => ?_
 show Ll _ _ (Own _ _ ((p3, .cells #[.int .i64 c.n, str c.set, str c.rel] 26 (0, 0)) :: (p2, .cells #[.int .i64 a.n, str a.set, str a.rel] 26 (0, 0)) :: hs)) _ _ ((3, .pointer (some ⟨p3, 0, none⟩)) :: _) _ _ _
 refine Ll.op rfl rfl rfl (OpQ.assign rfl rfl) ?_
 refine Ll.op (v := .bool false) rfl rfl rfl (OpQ.assign rfl rfl) ?_
 refine Ll.nil ?_
 refine Kt.onSub (e' := [(2, .pointer (some ⟨p2, 0, none⟩)), (3, .pointer (some ⟨p3, 0, none⟩))]) (Sub.cons rfl (Sub.cons rfl Sub.nil)) ?_
 refine Wk.seq ?_
 refine Wk.seq ?_
 refine Wk.regionQ ?_
 refine Lq.op (v := vS a) rfl rfl rfl (OpQ.loadBox (cs := #[.int .i64 a.n, str a.set, str a.rel]) 1 rfl Tryd.isAgg26 rfl rfl Tryd.sizeOf26) ?_
 refine Lq.op (v := .bool (validB a)) rfl rfl rfl (OpQ.call rfl Tryd.call51 rfl Own.stable (fun w1 hw1 => sValid_ok a w1 hsa)) ?_
 refine Lq.op (v := .bool (!(validB a))) rfl rfl rfl (OpQ.not rfl rfl) ?_
 refine Lq.op (v := .bool (!(validB a))) rfl rfl rfl (OpQ.move rfl rfl) ?_
 refine Lq.bool fun b9 hg9 => ?_
 cases b9
 ·
  replace hg9 := not_false hg9
  refine Lq.op (v := vS c) rfl rfl rfl (OpQ.loadBox (cs := #[.int .i64 c.n, str c.set, str c.rel]) 0 rfl Tryd.isAgg26 rfl rfl Tryd.sizeOf26) ?_
  refine Lq.op (v := .bool (validB c)) rfl rfl rfl (OpQ.call rfl Tryd.call51 rfl Own.stable (fun w1 hw1 => sValid_ok c w1 hsc)) ?_
  refine Lq.op (v := .bool (!(validB c))) rfl rfl rfl (OpQ.not rfl rfl) ?_
  refine Lq.op (v := .bool (!(validB c))) rfl rfl rfl (OpQ.pickF rfl rfl rfl) ?_
  refine Lq.op (v := .bool (!(validB c))) rfl rfl rfl (OpQ.move rfl rfl) ?_
  refine Lq.bool fun b14 hg14 => ?_
  cases b14
  ·
   replace hg14 := not_false hg14
   refine Lq.op (v := .pointer (some ⟨p2, 0, none⟩)) rfl rfl rfl (OpQ.fieldAddr rfl Tryd.runUnderlying26 rfl Tryd.sizeOf3 rfl rfl) ?_
   refine Lq.op (v := .int .i64 a.n) rfl rfl rfl (OpQ.loadOwn 1 rfl Tryd.isAgg3 rfl rfl rfl) ?_
   refine Lq.op (v := .pointer (some ⟨p3, 0, none⟩)) rfl rfl rfl (OpQ.fieldAddr rfl Tryd.runUnderlying26 rfl Tryd.sizeOf3 rfl rfl) ?_
   refine Lq.op (v := .int .i64 c.n) rfl rfl rfl (OpQ.loadOwn 0 rfl Tryd.isAgg3 rfl rfl rfl) ?_
   refine Lq.op (v := .bool (!(decide (a.n = c.n)))) rfl rfl rfl (OpQ.neq rfl rfl rfl) ?_
   refine Lq.op (v := .bool (!(decide (a.n = c.n)))) rfl rfl rfl (OpQ.pickF rfl rfl rfl) ?_
   refine Lq.nil ?_
   refine Kt.onSub (e' := [(2, .pointer (some ⟨p2, 0, none⟩)), (3, .pointer (some ⟨p3, 0, none⟩)), (20, .bool (!(decide (a.n = c.n))))]) (Sub.cons rfl (Sub.cons rfl (Sub.cons rfl Sub.nil))) ?_
   refine Wk.cond (b := !(decide (a.n = c.n))) rfl (fun h20 => ?_) (fun h20 => ?_)
   ·
    replace h20 := not_true h20
    replace h20 := of_decide_eq_false h20
    refine Wk.seq ?_
    refine Wk.region ?_
    refine Ll.slice (xs := []) (vs := []) Base.elem31 rfl rfl rfl rfl rfl rfl (by decide) rfl fun p21 hp21 => ?_
    refine Ll.op rfl rfl rfl (OpQ.assign rfl rfl) ?_
    refine Ll.op (v := .bool false) rfl rfl rfl (OpQ.assign rfl rfl) ?_
    refine Ll.nil ?_
    refine Kt.onSub (e' := [(4, .slice (some ⟨p21, 0, none⟩) 0 0), (5, .bool false)]) (Sub.cons rfl (Sub.cons rfl Sub.nil)) ?_
    refine Wk.ret (Kt.end2 rfl rfl rfl fun w' hw => ?_)
    -- ret 0: .slice (some ⟨p21, 0, none⟩) 0 0; .bool false
    exact ⟨_, false, [], [(p21, .cells #[] 3 (0, 0)), (p3, .cells #[.int .i64 c.n, str c.set, str c.rel] 26 (0, 0)), (p2, .cells #[.int .i64 a.n, str a.set, str a.rel] 26 (0, 0))], rfl, ⟨by decide, (fun h => by cases h), fun w3 h3 => (Own.row h3 (i := 0) rfl (n := 0) (cap := 0) (vs := ints []) rfl rfl (by decide))⟩, hw⟩
   ·
    replace h20 := not_false h20
    replace h20 := of_decide_eq_true h20
    refine Wk.skip ?_
    refine Kt.onSub (e' := [(2, .pointer (some ⟨p2, 0, none⟩)), (3, .pointer (some ⟨p3, 0, none⟩))]) (Sub.cons rfl (Sub.cons rfl Sub.nil)) ?_
    refine Wk.seq ?_
    refine Wk.region ?_
    refine Ll.op (v := vS a) rfl rfl rfl (OpQ.loadBox (cs := #[.int .i64 a.n, str a.set, str a.rel]) 1 rfl Tryd.isAgg26 rfl rfl Tryd.sizeOf26) ?_
    refine Ll.slice (xs := []) (vs := []) Base.elem31 rfl rfl rfl rfl rfl rfl (by decide) rfl fun p23 hp23 => ?_
    refine Ll.op (v := vS c) rfl rfl rfl (OpQ.loadBox (cs := #[.int .i64 c.n, str c.set, str c.rel]) 1 rfl Tryd.isAgg26 rfl rfl Tryd.sizeOf26) ?_
    refine Ll.callNew (ok := fun ((v, b, ys, new) : Value × Bool × List Int × List (Nat × Obj)) => ys.length ≤ 8 ∧ (b = true → (ys.length : Int) = a.n ∧ a.Els ys ∧ sameB a ys c (upto ys.length) = true) ∧ ∀ w, Own B w0 (new ++ ([(p23, .cells #[] 3 (0, 0)), (p3, .cells #[.int .i64 c.n, str c.set, str c.rel] 26 (0, 0)), (p2, .cells #[.int .i64 a.n, str a.set, str a.rel] 26 (0, 0))] : List (Nat × Obj))) w → Ints w v ys) (v := fun ((v, b, ys, new) : Value × Bool × List Int × List (Nat × Obj)) => .tuple #[v, .bool b]) (new := fun ((v, b, ys, new) : Value × Bool × List Int × List (Nat × Obj)) => new) (hs := ([(p23, .cells #[] 3 (0, 0)), (p3, .cells #[.int .i64 c.n, str c.set, str c.rel] 26 (0, 0)), (p2, .cells #[.int .i64 a.n, str a.set, str a.rel] 26 (0, 0))] : List (Nat × Obj)) ++ hs) (xs := [.tmp 22, .tmp 23, .tmp 24]) (vs := [vS a, .slice (some ⟨p23, 0, none⟩) 0 0, vS c]) rfl rfl rfl rfl Tryd.call131 rfl (fun w1 hw1 => (order_ok a c ha hc (by omega) a.n.toNat _ _ ([(p23, .cells #[] 3 (0, 0)), (p3, .cells #[.int .i64 c.n, str c.set, str c.rel] 26 (0, 0)), (p2, .cells #[.int .i64 a.n, str a.set, str a.rel] 26 (0, 0))] : List (Nat × Obj)) hs _ _ w1 (fun w2 h2 => (Own.row h2 (i := 0) rfl (n := 0) (cap := 0) (vs := ints []) rfl rfl (by decide))) (fun x hx => by cases hx) (by simp; omega) (by simp [sameB]) hw1).mono fun en w' ⟨v, b, ys, new, h1, h2, h3⟩ => ⟨(v, b, ys, new), h1, h2, h3⟩) fun ⟨v2, b2, ys2, new2⟩ hO => ?_
    dsimp only at hO
    show Ll _ _ (Own _ _ (new2 ++ (([(p23, .cells #[] 3 (0, 0)), (p3, .cells #[.int .i64 c.n, str c.set, str c.rel] 26 (0, 0)), (p2, .cells #[.int .i64 a.n, str a.set, str a.rel] 26 (0, 0))] : List (Nat × Obj)) ++ hs))) _ _ ((25, .tuple #[v2, .bool b2]) :: _) _ _ _
    obtain ⟨hy8, hyT, hyI⟩ := hO
    refine Ll.op (v := v2) rfl rfl rfl (OpQ.extract rfl rfl rfl) ?_
    refine Ll.op (v := .bool b2) rfl rfl rfl (OpQ.extract rfl rfl rfl) ?_
    refine Ll.op (v := v2) rfl rfl rfl (OpQ.assign rfl rfl) ?_
    refine Ll.op (v := .bool b2) rfl rfl rfl (OpQ.assign rfl rfl) ?_
    refine Ll.nil ?_
    refine Kt.onSub (e' := [(4, v2), (5, .bool b2)]) (Sub.cons rfl (Sub.cons rfl Sub.nil)) ?_
    refine Wk.ret (Kt.end2 rfl rfl rfl fun w' hw => ?_)
    -- ret 1: v2; .bool b2
    exact ⟨v2, b2, ys2, new2 ++ [(p23, .cells #[] 3 (0, 0)), (p3, .cells #[.int .i64 c.n, str c.set, str c.rel] 26 (0, 0)), (p2, .cells #[.int .i64 a.n, str a.set, str a.rel] 26 (0, 0))], rfl, ⟨hy8, (fun hb => ⟨by omega, hyT hb⟩), fun w3 h3 => hyI w3 h3⟩, by rw [List.append_assoc]; exact hw⟩
  ·
   replace hg14 := not_true hg14
   refine Lq.pass rfl rfl rfl ?_
   refine Lq.pass rfl rfl rfl ?_
   refine Lq.pass rfl rfl rfl ?_
   refine Lq.pass rfl rfl rfl ?_
   refine Lq.pass rfl rfl rfl ?_
   refine Lq.op (v := .bool true) rfl rfl rfl (OpQ.pickT rfl rfl rfl) ?_
   refine Lq.nil ?_
   refine Kt.onSub (e' := [(2, .pointer (some ⟨p2, 0, none⟩)), (3, .pointer (some ⟨p3, 0, none⟩)), (20, .bool true)]) (Sub.cons rfl (Sub.cons rfl (Sub.cons rfl Sub.nil))) ?_
   refine Wk.condT rfl ?_
   refine Wk.seq ?_
   refine Wk.region ?_
   refine Ll.slice (xs := []) (vs := []) Base.elem31 rfl rfl rfl rfl rfl rfl (by decide) rfl fun p21_1 hp21_1 => ?_
   refine Ll.op rfl rfl rfl (OpQ.assign rfl rfl) ?_
   refine Ll.op (v := .bool false) rfl rfl rfl (OpQ.assign rfl rfl) ?_
   refine Ll.nil ?_
   refine Kt.onSub (e' := [(4, .slice (some ⟨p21_1, 0, none⟩) 0 0), (5, .bool false)]) (Sub.cons rfl (Sub.cons rfl Sub.nil)) ?_
   refine Wk.ret (Kt.end2 rfl rfl rfl fun w' hw => ?_)
   -- ret 2: .slice (some ⟨p21_1, 0, none⟩) 0 0; .bool false
   exact ⟨_, false, [], [(p21_1, .cells #[] 3 (0, 0)), (p3, .cells #[.int .i64 c.n, str c.set, str c.rel] 26 (0, 0)), (p2, .cells #[.int .i64 a.n, str a.set, str a.rel] 26 (0, 0))], rfl, ⟨by decide, (fun h => by cases h), fun w3 h3 => (Own.row h3 (i := 0) rfl (n := 0) (cap := 0) (vs := ints []) rfl rfl (by decide))⟩, hw⟩
 ·
  replace hg9 := not_true hg9
  refine Lq.pass rfl rfl rfl ?_
  refine Lq.pass rfl rfl rfl ?_
  refine Lq.pass rfl rfl rfl ?_
  refine Lq.op (v := .bool true) rfl rfl rfl (OpQ.pickT rfl rfl rfl) ?_
  refine Lq.op (v := .bool true) rfl rfl rfl (OpQ.move rfl rfl) ?_
  refine Lq.pass rfl rfl rfl ?_
  refine Lq.pass rfl rfl rfl ?_
  refine Lq.pass rfl rfl rfl ?_
  refine Lq.pass rfl rfl rfl ?_
  refine Lq.pass rfl rfl rfl ?_
  refine Lq.op (v := .bool true) rfl rfl rfl (OpQ.pickT rfl rfl rfl) ?_
  refine Lq.nil ?_
  refine Kt.onSub (e' := [(2, .pointer (some ⟨p2, 0, none⟩)), (3, .pointer (some ⟨p3, 0, none⟩)), (20, .bool true)]) (Sub.cons rfl (Sub.cons rfl (Sub.cons rfl Sub.nil))) ?_
  refine Wk.condT rfl ?_
  refine Wk.seq ?_
  refine Wk.region ?_
  refine Ll.slice (xs := []) (vs := []) Base.elem31 rfl rfl rfl rfl rfl rfl (by decide) rfl fun p21_2 hp21_2 => ?_
  refine Ll.op rfl rfl rfl (OpQ.assign rfl rfl) ?_
  refine Ll.op (v := .bool false) rfl rfl rfl (OpQ.assign rfl rfl) ?_
  refine Ll.nil ?_
  refine Kt.onSub (e' := [(4, .slice (some ⟨p21_2, 0, none⟩) 0 0), (5, .bool false)]) (Sub.cons rfl (Sub.cons rfl Sub.nil)) ?_
  refine Wk.ret (Kt.end2 rfl rfl rfl fun w' hw => ?_)
  -- ret 3: .slice (some ⟨p21_2, 0, none⟩) 0 0; .bool false
  exact ⟨_, false, [], [(p21_2, .cells #[] 3 (0, 0)), (p3, .cells #[.int .i64 c.n, str c.set, str c.rel] 26 (0, 0)), (p2, .cells #[.int .i64 a.n, str a.set, str a.rel] 26 (0, 0))], rfl, ⟨by decide, (fun h => by cases h), fun w3 h3 => (Own.row h3 (i := 0) rfl (n := 0) (cap := 0) (vs := ints []) rfl rfl (by decide))⟩, hw⟩

set_option maxHeartbeats 400000 in
/-- spec.l1Pair -/
theorem l1Pair_ok (B : Nat) (w0 : World) (hs : List (Nat × Obj)) (rp p : Nat) (bv : Value) (L : List Int) (w : World) (hb : ∀ w, Own B w0 hs w → Row w bv (u8s L)) (hL8 : Bytes8 L) (hL : L.length ≤ 2000) (hp : p ≤ 700000) (hw : Own B w0 ((rp, .cells #[bv, .int .i64 (p : Int)] 106 (0, 0)) :: hs) w) :
    Calls Tryd.prog 109 [.pointer (some ⟨rp, 0, none⟩)].toArray w fun en w' => ∃ a : St, ∃ b : St, ∃ p' : Nat, en = .returned (.tuple #[vS a, vS b]) ∧ (((a.Fine ∧ a.n ≤ 5) ∧ (b.Fine ∧ b.n ≤ 5)) ∧ p' ≤ p + 1000) ∧ Own B w0 (((rp, .cells #[bv, .int .i64 (p' : Int)] 106 (0, 0)) :: hs)) w' := by
 refine fnStartC (Own B w0 ((rp, .cells #[bv, .int .i64 (p : Int)] 106 (0, 0)) :: hs)) (n := 64) (e := [(0, .pointer (some ⟨rp, 0, none⟩))]) Tryd.func109 rfl rfl rfl rfl Ends.both hw ?_
 refine Wk.seq ?_
 refine Wk.region ?_
 refine Ll.alloc rfl rfl rfl rfl Tryd.zeroValue26 fun p2 hp2 => ?_
 show Ll _ _ (Own _ _ ((p2, .cells #[.int .i64 0, str ([]), str ([])] 26 (0, 0)) :: (rp, .cells #[bv, .int .i64 ((p : Int))] 106 (0, 0)) :: hs)) _ _ ((2, .pointer (some ⟨p2, 0, none⟩)) :: _) _ _ _
 refine Ll.alloc rfl rfl rfl rfl Tryd.zeroValue26 fun p3 hp3 => ?_
 show Ll _ _ (Own _ _ ((p3, .cells #[.int .i64 0, str ([]), str ([])] 26 (0, 0)) :: (p2, .cells #[.int .i64 0, str ([]), str ([])] 26 (0, 0)) :: (rp, .cells #[bv, .int .i64 ((p : Int))] 106 (0, 0)) :: hs)) _ _ ((3, .pointer (some ⟨p3, 0, none⟩)) :: _) _ _ _
 refine Ll.nil ?_
 refine Kt.onSub (e' := [(0, .pointer (some ⟨rp, 0, none⟩)), (2, .pointer (some ⟨p2, 0, none⟩)), (3, .pointer (some ⟨p3, 0, none⟩))]) (Sub.cons rfl (Sub.cons rfl (Sub.cons rfl Sub.nil))) ?_
 refine Wk.seq ?_
 refine Wk.region ?_
 refine Ll.op rfl rfl rfl (OpQ.move rfl rfl) ?_
 refine Ll.callRd (rp := rp) (RT := 106) (p := p) (bv := bv) (hs := hs) (ok := fun (a : St) p' => (a.Fine ∧ a.n ≤ 5) ∧ p' ≤ p + 200) (v := fun (a : St) => vS a) (new := fun (a : St) => []) (xs := [.tmp 7]) (vs := [.pointer (some ⟨rp, 0, none⟩)]) ([(p3, .cells #[.int .i64 0, str ([]), str ([])] 26 (0, 0)), (p2, .cells #[.int .i64 0, str ([]), str ([])] 26 (0, 0))] : List (Nat × Obj)) rfl rfl rfl rfl Tryd.call127 rfl (fun w1 hw1 => (l1Some_ok B w0 (([(p3, .cells #[.int .i64 0, str ([]), str ([])] 26 (0, 0)), (p2, .cells #[.int .i64 0, str ([]), str ([])] 26 (0, 0))] : List (Nat × Obj)) ++ hs) rp p bv L w1 (fun w2 hw2 => hb w2 (Own.drop (f := ([(p3, .cells #[.int .i64 0, str ([]), str ([])] 26 (0, 0)), (p2, .cells #[.int .i64 0, str ([]), str ([])] 26 (0, 0))] : List (Nat × Obj))) hw2)) hL8 hL (by omega) hw1).mono fun en w' ⟨a', p', h1, h2, h3⟩ => ⟨a', p', h1, h2, h3⟩) fun a8 p_8 hKp_8 => ?_
 show Ll _ _ (Own _ _ ((p3, .cells #[.int .i64 0, str ([]), str ([])] 26 (0, 0)) :: (p2, .cells #[.int .i64 0, str ([]), str ([])] 26 (0, 0)) :: (rp, .cells #[bv, .int .i64 ((p_8 : Int))] 106 (0, 0)) :: hs)) _ _ ((8, vS a8) :: _) _ _ _
 obtain ⟨⟨hfa8, h5a8⟩, hep_8⟩ := hKp_8
 have hloa8 := hfa8.lo
 refine Ll.alloc rfl rfl rfl rfl Tryd.zeroValue26 fun p4 hp4 => ?_
 show Ll _ _ (Own _ _ ((p4, .cells #[.int .i64 0, str ([]), str ([])] 26 (0, 0)) :: (p3, .cells #[.int .i64 0, str ([]), str ([])] 26 (0, 0)) :: (p2, .cells #[.int .i64 0, str ([]), str ([])] 26 (0, 0)) :: (rp, .cells #[bv, .int .i64 ((p_8 : Int))] 106 (0, 0)) :: hs)) _ _ ((4, .pointer (some ⟨p4, 0, none⟩)) :: _) _ _ _
 refine Ll.storeBox (cs' := #[.int .i64 a8.n, str a8.set, str a8.rel]) (hs' := ((p4, .cells #[.int .i64 a8.n, str a8.set, str a8.rel] 26 (0, 0)) :: (p3, .cells #[.int .i64 0, str ([]), str ([])] 26 (0, 0)) :: (p2, .cells #[.int .i64 0, str ([]), str ([])] 26 (0, 0)) :: (rp, .cells #[bv, .int .i64 ((p_8 : Int))] 106 (0, 0)) :: hs)) 0 rfl rfl rfl rfl rfl (by kernel_rfl : _ = some Tryd.t26) rfl rfl rfl rfl rfl ?_
 refine Ll.nil ?_
 refine Kt.onSub (e' := [(0, .pointer (some ⟨rp, 0, none⟩)), (2, .pointer (some ⟨p2, 0, none⟩)), (3, .pointer (some ⟨p3, 0, none⟩)), (4, .pointer (some ⟨p4, 0, none⟩))]) (Sub.cons rfl (Sub.cons rfl (Sub.cons rfl (Sub.cons rfl Sub.nil)))) ?_
 refine Wk.seq ?_
 refine Wk.seq ?_
 refine Wk.region ?_
 refine Ll.op rfl rfl rfl (OpQ.move rfl rfl) ?_
 refine Ll.callRd (rp := rp) (RT := 106) (p := p_8) (bv := bv) (hs := hs) (ok := fun (k : Int) p' => 0 ≤ k ∧ (1 ≤ (4 : Int) → k < 4) ∧ p' = p_8 + 1) (v := fun (k : Int) => .int .i64 k) (new := fun (k : Int) => []) (xs := [.tmp 9, .const (.int .i64 4)]) (vs := [.pointer (some ⟨rp, 0, none⟩), .int .i64 4]) ([(p4, .cells #[.int .i64 a8.n, str a8.set, str a8.rel] 26 (0, 0)), (p3, .cells #[.int .i64 0, str ([]), str ([])] 26 (0, 0)), (p2, .cells #[.int .i64 0, str ([]), str ([])] 26 (0, 0))] : List (Nat × Obj)) rfl rfl rfl rfl Tryd.call113 rfl (fun w1 hw1 => (pick_ok B w0 (([(p4, .cells #[.int .i64 a8.n, str a8.set, str a8.rel] 26 (0, 0)), (p3, .cells #[.int .i64 0, str ([]), str ([])] 26 (0, 0)), (p2, .cells #[.int .i64 0, str ([]), str ([])] 26 (0, 0))] : List (Nat × Obj)) ++ hs) rp p_8 bv L 4 w1 (fun w2 hw2 => hb w2 (Own.drop (f := ([(p4, .cells #[.int .i64 a8.n, str a8.set, str a8.rel] 26 (0, 0)), (p3, .cells #[.int .i64 0, str ([]), str ([])] 26 (0, 0)), (p2, .cells #[.int .i64 0, str ([]), str ([])] 26 (0, 0))] : List (Nat × Obj))) hw2)) hL8 hL (by omega) hw1).mono fun en w' ⟨k', p', h1, h2, h3⟩ => ⟨k', p', h1, h2, h3⟩) fun k10 p_10 hKp_10 => ?_
 show Ll _ _ (Own _ _ ((p4, .cells #[.int .i64 a8.n, str a8.set, str a8.rel] 26 (0, 0)) :: (p3, .cells #[.int .i64 0, str ([]), str ([])] 26 (0, 0)) :: (p2, .cells #[.int .i64 0, str ([]), str ([])] 26 (0, 0)) :: (rp, .cells #[bv, .int .i64 ((p_10 : Int))] 106 (0, 0)) :: hs)) _ _ ((10, .int .i64 k10) :: _) _ _ _
 obtain ⟨h0k10, h1k10, hep_10⟩ := hKp_10
 try have hltk10 := h1k10 (by first | omega | (split <;> omega) | decide)
 refine Ll.nil ?_
 refine Kt.onSub (e' := [(0, .pointer (some ⟨rp, 0, none⟩)), (2, .pointer (some ⟨p2, 0, none⟩)), (3, .pointer (some ⟨p3, 0, none⟩)), (4, .pointer (some ⟨p4, 0, none⟩)), (10, .int .i64 k10)]) (Sub.cons rfl (Sub.cons rfl (Sub.cons rfl (Sub.cons rfl (Sub.cons rfl Sub.nil))))) ?_
 refine Wk.block ?_
 refine Wk.seq ?_
 refine Wk.regionQ ?_
 refine Lq.op (v := .bool (decide (k10 = (0 : Int)))) rfl rfl rfl (OpQ.eql rfl rfl rfl) ?_
 refine Lq.op (v := .bool (decide (k10 = (0 : Int)))) rfl rfl rfl (OpQ.assign rfl rfl) ?_
 refine Lq.nil ?_
 refine Kt.onSub (e' := [(0, .pointer (some ⟨rp, 0, none⟩)), (2, .pointer (some ⟨p2, 0, none⟩)), (3, .pointer (some ⟨p3, 0, none⟩)), (4, .pointer (some ⟨p4, 0, none⟩)), (10, .int .i64 k10), (11, .bool (decide (k10 = (0 : Int))))]) (Sub.cons rfl (Sub.cons rfl (Sub.cons rfl (Sub.cons rfl (Sub.cons rfl (Sub.cons rfl Sub.nil)))))) ?_
 refine Wk.cond (b := decide (k10 = (0 : Int))) rfl (fun h11 => ?_) (fun h11 => ?_)
 ·
  replace h11 := of_decide_eq_true h11
  refine Wk.seq ?_
  refine Wk.regionS (S := Own B w0 [(p4, .cells #[.int .i64 a8.n, str a8.set, str a8.rel] 26 (0, 0))]) [(0, true), (1, true), (2, true), (3, true), (4, true), (5, false), (6, false), (7, false), (8, false)] Base.mixed (fun _ h => h.drawn) (by kernel_rfl) ?_
  refine Ld.take (v := vS a8) rfl rfl rfl rfl rfl (OpQ.loadBox (cs := #[.int .i64 a8.n, str a8.set, str a8.rel]) 0 rfl Tryd.isAgg26 rfl rfl Tryd.sizeOf26) (fun _ h => h.pick [0] rfl (by decide)) ?_
  refine Ld.take (v := vS a8) rfl rfl rfl rfl rfl (OpQ.loadBox (cs := #[.int .i64 a8.n, str a8.set, str a8.rel]) 0 rfl Tryd.isAgg26 rfl rfl Tryd.sizeOf26) (fun _ h => h.pick [0] rfl (by decide)) ?_
  refine Ld.take rfl rfl rfl rfl rfl (OpQ.move rfl rfl) (fun _ h => h.pick [0] rfl (by decide)) ?_
  refine Ld.take (v := .pointer (some ⟨p4, 0, none⟩)) rfl rfl rfl rfl rfl (OpQ.fieldAddr rfl Tryd.runUnderlying26 rfl Tryd.sizeOf3 rfl rfl) (fun _ h => h.pick [0] rfl (by decide)) ?_
  refine Ld.take (v := .int .i64 a8.n) rfl rfl rfl rfl rfl (OpQ.loadOwn 0 rfl Tryd.isAgg3 rfl rfl rfl) (fun _ h => h.pick [0] rfl (by decide)) ?_
  refine Ld.loud rfl ?_
  refine Ll.callRd (rp := rp) (RT := 106) (p := p_10) (bv := bv) (hs := hs) (ok := fun ((g, c, u, xs) : Nat × Nat × Array Value × List Int) p' => (u.size = c * 1 ∧ xs.length ≤ c ∧ u.toList.take xs.length = ints xs) ∧ (xs.length = a8.n.toNat ∧ ∀ x ∈ xs, 0 ≤ x ∧ x < a8.n) ∧ p' ≤ p_10 + 10) (v := fun ((g, c, u, xs) : Nat × Nat × Array Value × List Int) => .slice (some ⟨g, 0, none⟩) xs.length c) (new := fun ((g, c, u, xs) : Nat × Nat × Array Value × List Int) => [(g, .cells u 3 (0, 0))]) (xs := [.tmp 15, .tmp 17]) (vs := [.pointer (some ⟨rp, 0, none⟩), .int .i64 a8.n]) ([(p4, .cells #[.int .i64 a8.n, str a8.set, str a8.rel] 26 (0, 0)), (p3, .cells #[.int .i64 0, str ([]), str ([])] 26 (0, 0)), (p2, .cells #[.int .i64 0, str ([]), str ([])] 26 (0, 0))] : List (Nat × Obj)) rfl rfl rfl rfl Tryd.call128 rfl (fun w1 hw1 => (shuffle_ok B w0 (([(p4, .cells #[.int .i64 a8.n, str a8.set, str a8.rel] 26 (0, 0)), (p3, .cells #[.int .i64 0, str ([]), str ([])] 26 (0, 0)), (p2, .cells #[.int .i64 0, str ([]), str ([])] 26 (0, 0))] : List (Nat × Obj)) ++ hs) rp p_10 bv L a8.n w1 (fun w2 hw2 => hb w2 (Own.drop (f := ([(p4, .cells #[.int .i64 a8.n, str a8.set, str a8.rel] 26 (0, 0)), (p3, .cells #[.int .i64 0, str ([]), str ([])] 26 (0, 0)), (p2, .cells #[.int .i64 0, str ([]), str ([])] 26 (0, 0))] : List (Nat × Obj))) hw2)) hL8 hL (by omega) (by omega) (by omega) hw1).mono fun en w' ⟨g', c', u', xs', p', h1, h2, h3⟩ => ⟨(g', c', u', xs'), p', h1, h2, h3⟩) fun ⟨g18, c18, u18, xs18⟩ p_18 hKp_18 => ?_
  show Ll _ _ (Own _ _ ((g18, .cells u18 3 (0, 0)) :: (p4, .cells #[.int .i64 a8.n, str a8.set, str a8.rel] 26 (0, 0)) :: (p3, .cells #[.int .i64 0, str ([]), str ([])] 26 (0, 0)) :: (p2, .cells #[.int .i64 0, str ([]), str ([])] 26 (0, 0)) :: (rp, .cells #[bv, .int .i64 ((p_18 : Int))] 106 (0, 0)) :: hs)) _ _ ((18, .slice (some ⟨g18, 0, none⟩) xs18.length c18) :: _) _ _ _
  obtain ⟨⟨hcg18, hlg18, htg18⟩, ⟨hng18, hrg18⟩, hep_18⟩ := hKp_18
  refine Ll.nil (Ld.joint (fun _ h => h.pick [1] rfl (by decide)) ?_)
  refine Ld.loud rfl ?_
  refine Ll.callSome (ok := fun (b : St) => b.n = xs18.length ∧ (b.set.length : Int) = xs18.length ∧ b.rel.length = xs18.length * xs18.length) (v := fun (b : St) => vS b) (xs := [.tmp 14, .tmp 18]) (vs := [vS a8, .slice (some ⟨g18, 0, none⟩) xs18.length c18]) rfl rfl rfl rfl Tryd.call119 rfl (fun w1 hw1 => (part_ok a8 (.slice (some ⟨g18, 0, none⟩) xs18.length c18) xs18 w1 hfa8 (Own.row hw1 (i := 0) rfl htg18 (by simp) hlg18) hrg18 (by omega)).mono fun en w' ⟨b, h1, h2, h3⟩ => ⟨b, h1, h2, h3⟩) fun b19 hS19 => ?_
  show Ll _ _ (Own _ _ ((g18, .cells u18 3 (0, 0)) :: (p4, .cells #[.int .i64 a8.n, str a8.set, str a8.rel] 26 (0, 0)) :: (p3, .cells #[.int .i64 0, str ([]), str ([])] 26 (0, 0)) :: (p2, .cells #[.int .i64 0, str ([]), str ([])] 26 (0, 0)) :: (rp, .cells #[bv, .int .i64 ((p_18 : Int))] 106 (0, 0)) :: hs)) _ _ ((19, vS b19) :: _) _ _ _
  obtain ⟨hnb19, hsb19, hrb19⟩ := hS19
  refine Ll.nil (Ld.joint (fun _ h => h.pick [1] rfl (by decide)) ?_)
  refine Ld.loud rfl ?_
  refine Ll.storeBox (cs' := #[.int .i64 a8.n, str a8.set, str a8.rel]) (hs' := ((g18, .cells u18 3 (0, 0)) :: (p4, .cells #[.int .i64 a8.n, str a8.set, str a8.rel] 26 (0, 0)) :: (p3, .cells #[.int .i64 0, str ([]), str ([])] 26 (0, 0)) :: (p2, .cells #[.int .i64 a8.n, str a8.set, str a8.rel] 26 (0, 0)) :: (rp, .cells #[bv, .int .i64 ((p_18 : Int))] 106 (0, 0)) :: hs)) 3 rfl rfl rfl rfl rfl (by kernel_rfl : _ = some Tryd.t26) rfl rfl rfl rfl rfl ?_
  refine Ll.nil (Ld.joint (fun _ h => h.pick [1] rfl (by decide)) ?_)
  refine Ld.loud rfl ?_
  refine Ll.storeBox (cs' := #[.int .i64 b19.n, str b19.set, str b19.rel]) (hs' := ((g18, .cells u18 3 (0, 0)) :: (p4, .cells #[.int .i64 a8.n, str a8.set, str a8.rel] 26 (0, 0)) :: (p3, .cells #[.int .i64 b19.n, str b19.set, str b19.rel] 26 (0, 0)) :: (p2, .cells #[.int .i64 a8.n, str a8.set, str a8.rel] 26 (0, 0)) :: (rp, .cells #[bv, .int .i64 ((p_18 : Int))] 106 (0, 0)) :: hs)) 2 rfl rfl rfl rfl rfl (by kernel_rfl : _ = some Tryd.t26) rfl rfl rfl rfl rfl ?_
  refine Ll.nil (Ld.joint (fun _ h => h.pick [1] rfl (by decide)) ?_)
  refine Ld.nil ?_
  refine Kt.onSub (e' := [(2, .pointer (some ⟨p2, 0, none⟩)), (3, .pointer (some ⟨p3, 0, none⟩))]) (Sub.cons rfl (Sub.cons rfl Sub.nil)) ?_
  refine Wk.ret (Kt.endMany rfl (.cell (cs := #[.int .i64 a8.n, str a8.set, str a8.rel]) rfl (fun w1 hw1 => hw1.loadBox 3 rfl Tryd.isAgg26 Tryd.sizeOf26) (.cell (cs := #[.int .i64 b19.n, str b19.set, str b19.rel]) rfl (fun w1 hw1 => hw1.loadBox 2 rfl Tryd.isAgg26 Tryd.sizeOf26) ResAt.nil)) (by simp) fun w' hw => ?_)
  -- ret 0: vS a8; vS b19
  exact ⟨a8, b19, p_18, rfl, ⟨⟨⟨hfa8, h5a8⟩, part_fine hnb19 hsb19 hrb19 hng18 (by omega) (by omega)⟩, by omega⟩, hw.sub (List.Sublist.cons _ (List.Sublist.cons _ (List.Sublist.cons _ (List.Sublist.cons _ (List.Sublist.cons_cons _ (List.Sublist.refl _))))))⟩
 ·
  replace h11 := of_decide_eq_false h11
  refine Wk.seq ?_
  refine Wk.regionQ ?_
  refine Lq.op (v := .bool (decide (k10 = (1 : Int)))) rfl rfl rfl (OpQ.eql rfl rfl rfl) ?_
  refine Lq.op (v := .bool (decide (k10 = (1 : Int)))) rfl rfl rfl (OpQ.assign rfl rfl) ?_
  refine Lq.nil ?_
  refine Kt.onSub (e' := [(0, .pointer (some ⟨rp, 0, none⟩)), (2, .pointer (some ⟨p2, 0, none⟩)), (3, .pointer (some ⟨p3, 0, none⟩)), (4, .pointer (some ⟨p4, 0, none⟩)), (10, .int .i64 k10), (20, .bool (decide (k10 = (1 : Int))))]) (Sub.cons rfl (Sub.cons rfl (Sub.cons rfl (Sub.cons rfl (Sub.cons rfl (Sub.cons rfl Sub.nil)))))) ?_
  refine Wk.cond (b := decide (k10 = (1 : Int))) rfl (fun h20 => ?_) (fun h20 => ?_)
  ·
   replace h20 := of_decide_eq_true h20
   refine Wk.seq ?_
   refine Wk.join (σ := Nat × St × Nat) (fun ⟨q, b, p6⟩ => (b.Fine ∧ b.n ≤ 5) ∧ p6 ≤ p + 300) (fun ⟨q, b, p6⟩ => [(0, .pointer (some ⟨rp, 0, none⟩)), (2, .pointer (some ⟨p2, 0, none⟩)), (3, .pointer (some ⟨p3, 0, none⟩)), (4, .pointer (some ⟨p4, 0, none⟩)), (5, .pointer (some ⟨q, 0, none⟩))]) (fun ⟨q, b, p6⟩ => Own B w0 ((q, .cells #[.int .i64 b.n, str b.set, str b.rel] 26 (0, 0)) :: (p4, .cells #[.int .i64 a8.n, str a8.set, str a8.rel] 26 (0, 0)) :: (p3, .cells #[.int .i64 0, str ([]), str ([])] 26 (0, 0)) :: (p2, .cells #[.int .i64 0, str ([]), str ([])] 26 (0, 0)) :: (rp, .cells #[bv, .int .i64 ((p6 : Int))] 106 (0, 0)) :: hs)) ?_ ?_
   ·
    refine Wk.regionU (S := Own B w0 [(p4, .cells #[.int .i64 a8.n, str a8.set, str a8.rel] 26 (0, 0)), (p3, .cells #[.int .i64 0, str ([]), str ([])] 26 (0, 0)), (p2, .cells #[.int .i64 0, str ([]), str ([])] 26 (0, 0))]) (.take 0 (.take 1 (.take 2 (.take 3 (.two 4 (.two 5 (.one 6 (.one 7 .done)) 6 (.one 5 (.one 7 .done))) 6 (.one 4 (.one 5 (.one 7 .done)))))))) Base.mixed (fun _ h => h.drawn) (by kernel_rfl) ?_
    refine Lu.take (v := vS a8) rfl rfl rfl rfl rfl (OpQ.loadBox (cs := #[.int .i64 a8.n, str a8.set, str a8.rel]) 0 rfl Tryd.isAgg26 rfl rfl Tryd.sizeOf26) (fun _ h => h.pick [0, 1, 2] rfl (by decide)) ?_
    refine Lu.take rfl rfl rfl rfl rfl (OpQ.move rfl rfl) (fun _ h => h.pick [0, 1, 2] rfl (by decide)) ?_
    refine Lu.take (v := .pointer (some ⟨p4, 0, none⟩)) rfl rfl rfl rfl rfl (OpQ.fieldAddr rfl Tryd.runUnderlying26 rfl Tryd.sizeOf3 rfl rfl) (fun _ h => h.pick [0, 1, 2] rfl (by decide)) ?_
    refine Lu.take (v := .int .i64 a8.n) rfl rfl rfl rfl rfl (OpQ.loadOwn 0 rfl Tryd.isAgg3 rfl rfl rfl) (fun _ h => h.pick [0, 1, 2] rfl (by decide)) ?_
    refine Lu.two rfl rfl ?_ ?_
    ·
     refine Ll.callRd (rp := rp) (RT := 106) (p := p_10) (bv := bv) (hs := hs) (ok := fun ((g, c, u, xs) : Nat × Nat × Array Value × List Int) p' => (u.size = c * 1 ∧ xs.length ≤ c ∧ u.toList.take xs.length = ints xs) ∧ (xs.length = a8.n.toNat ∧ ∀ x ∈ xs, 0 ≤ x ∧ x < a8.n) ∧ p' ≤ p_10 + 10) (v := fun ((g, c, u, xs) : Nat × Nat × Array Value × List Int) => .slice (some ⟨g, 0, none⟩) xs.length c) (new := fun ((g, c, u, xs) : Nat × Nat × Array Value × List Int) => [(g, .cells u 3 (0, 0))]) (xs := [.tmp 23, .tmp 25]) (vs := [.pointer (some ⟨rp, 0, none⟩), .int .i64 a8.n]) ([(p4, .cells #[.int .i64 a8.n, str a8.set, str a8.rel] 26 (0, 0)), (p3, .cells #[.int .i64 0, str ([]), str ([])] 26 (0, 0)), (p2, .cells #[.int .i64 0, str ([]), str ([])] 26 (0, 0))] : List (Nat × Obj)) rfl rfl rfl rfl Tryd.call128 rfl (fun w1 hw1 => (shuffle_ok B w0 (([(p4, .cells #[.int .i64 a8.n, str a8.set, str a8.rel] 26 (0, 0)), (p3, .cells #[.int .i64 0, str ([]), str ([])] 26 (0, 0)), (p2, .cells #[.int .i64 0, str ([]), str ([])] 26 (0, 0))] : List (Nat × Obj)) ++ hs) rp p_10 bv L a8.n w1 (fun w2 hw2 => hb w2 (Own.drop (f := ([(p4, .cells #[.int .i64 a8.n, str a8.set, str a8.rel] 26 (0, 0)), (p3, .cells #[.int .i64 0, str ([]), str ([])] 26 (0, 0)), (p2, .cells #[.int .i64 0, str ([]), str ([])] 26 (0, 0))] : List (Nat × Obj))) hw2)) hL8 hL (by omega) (by omega) (by omega) hw1).mono fun en w' ⟨g', c', u', xs', p', h1, h2, h3⟩ => ⟨(g', c', u', xs'), p', h1, h2, h3⟩) fun ⟨g26, c26, u26, xs26⟩ p_26 hKp_26 => ?_
     show Ll _ _ (Own _ _ ((g26, .cells u26 3 (0, 0)) :: (p4, .cells #[.int .i64 a8.n, str a8.set, str a8.rel] 26 (0, 0)) :: (p3, .cells #[.int .i64 0, str ([]), str ([])] 26 (0, 0)) :: (p2, .cells #[.int .i64 0, str ([]), str ([])] 26 (0, 0)) :: (rp, .cells #[bv, .int .i64 ((p_26 : Int))] 106 (0, 0)) :: hs)) _ _ ((26, .slice (some ⟨g26, 0, none⟩) xs26.length c26) :: _) _ _ _
     obtain ⟨⟨hcg26, hlg26, htg26⟩, ⟨hng26, hrg26⟩, hep_26⟩ := hKp_26
     refine Ll.nil (Lu.joint (fun _ h => h.pick [1, 2, 3] rfl (by decide)) ?_)
     refine Lu.two rfl rfl ?_ ?_
     ·
      refine Ll.callSome (ok := fun (b : St) => b.n = xs26.length ∧ (b.set.length : Int) = xs26.length ∧ b.rel.length = xs26.length * xs26.length) (v := fun (b : St) => vS b) (xs := [.tmp 22, .tmp 26]) (vs := [vS a8, .slice (some ⟨g26, 0, none⟩) xs26.length c26]) rfl rfl rfl rfl Tryd.call119 rfl (fun w1 hw1 => (part_ok a8 (.slice (some ⟨g26, 0, none⟩) xs26.length c26) xs26 w1 hfa8 (Own.row hw1 (i := 0) rfl htg26 (by simp) hlg26) hrg26 (by omega)).mono fun en w' ⟨b, h1, h2, h3⟩ => ⟨b, h1, h2, h3⟩) fun b27 hS27 => ?_
      show Ll _ _ (Own _ _ ((g26, .cells u26 3 (0, 0)) :: (p4, .cells #[.int .i64 a8.n, str a8.set, str a8.rel] 26 (0, 0)) :: (p3, .cells #[.int .i64 0, str ([]), str ([])] 26 (0, 0)) :: (p2, .cells #[.int .i64 0, str ([]), str ([])] 26 (0, 0)) :: (rp, .cells #[bv, .int .i64 ((p_26 : Int))] 106 (0, 0)) :: hs)) _ _ ((27, vS b27) :: _) _ _ _
      obtain ⟨hnb27, hsb27, hrb27⟩ := hS27
      refine Ll.nil (Lu.joint (fun _ h => h.pick [1, 2, 3] rfl (by decide)) ?_)
      refine Lu.loud rfl ?_
      refine Ll.alloc rfl rfl rfl rfl Tryd.zeroValue26 fun p5 hp5 => ?_
      show Ll _ _ (Own _ _ ((p5, .cells #[.int .i64 0, str ([]), str ([])] 26 (0, 0)) :: (g26, .cells u26 3 (0, 0)) :: (p4, .cells #[.int .i64 a8.n, str a8.set, str a8.rel] 26 (0, 0)) :: (p3, .cells #[.int .i64 0, str ([]), str ([])] 26 (0, 0)) :: (p2, .cells #[.int .i64 0, str ([]), str ([])] 26 (0, 0)) :: (rp, .cells #[bv, .int .i64 ((p_26 : Int))] 106 (0, 0)) :: hs)) _ _ ((5, .pointer (some ⟨p5, 0, none⟩)) :: _) _ _ _
      refine Ll.nil (Lu.joint (fun _ h => h.pick [2, 3, 4] rfl (by decide)) ?_)
      refine Lu.loud rfl ?_
      refine Ll.storeBox (cs' := #[.int .i64 b27.n, str b27.set, str b27.rel]) (hs' := ((p5, .cells #[.int .i64 b27.n, str b27.set, str b27.rel] 26 (0, 0)) :: (g26, .cells u26 3 (0, 0)) :: (p4, .cells #[.int .i64 a8.n, str a8.set, str a8.rel] 26 (0, 0)) :: (p3, .cells #[.int .i64 0, str ([]), str ([])] 26 (0, 0)) :: (p2, .cells #[.int .i64 0, str ([]), str ([])] 26 (0, 0)) :: (rp, .cells #[bv, .int .i64 ((p_26 : Int))] 106 (0, 0)) :: hs)) 0 rfl rfl rfl rfl rfl (by kernel_rfl : _ = some Tryd.t26) rfl rfl rfl rfl rfl ?_
      refine Ll.nil (Lu.joint (fun _ h => h.pick [2, 3, 4] rfl (by decide)) ?_)
      refine Lu.nil ?_
      refine Kt.joined ((p5, b27, p_26)) ⟨part_fine hnb27 hsb27 hrb27 hng26 (by omega) (by omega), by (try dsimp only); omega⟩ (Sub.cons rfl (Sub.cons rfl (Sub.cons rfl (Sub.cons rfl (Sub.cons rfl Sub.nil))))) (fun _ h => h.sub (List.Sublist.cons_cons _ (List.Sublist.cons _ (List.Sublist.cons_cons _ (List.Sublist.cons_cons _ (List.Sublist.cons_cons _ (List.Sublist.cons_cons _ (List.Sublist.refl _))))))))
     ·
      refine Ll.alloc rfl rfl rfl rfl Tryd.zeroValue26 fun p5_1 hp5_1 => ?_
      show Ll _ _ (Own _ _ ((p5_1, .cells #[.int .i64 0, str ([]), str ([])] 26 (0, 0)) :: (g26, .cells u26 3 (0, 0)) :: (p4, .cells #[.int .i64 a8.n, str a8.set, str a8.rel] 26 (0, 0)) :: (p3, .cells #[.int .i64 0, str ([]), str ([])] 26 (0, 0)) :: (p2, .cells #[.int .i64 0, str ([]), str ([])] 26 (0, 0)) :: (rp, .cells #[bv, .int .i64 ((p_26 : Int))] 106 (0, 0)) :: hs)) _ _ ((5, .pointer (some ⟨p5_1, 0, none⟩)) :: _) _ _ _
      refine Ll.nil (Lu.joint (fun _ h => h.pick [2, 3, 4] rfl (by decide)) ?_)
      refine Lu.loud rfl ?_
      refine Ll.callSome (ok := fun (b : St) => b.n = xs26.length ∧ (b.set.length : Int) = xs26.length ∧ b.rel.length = xs26.length * xs26.length) (v := fun (b : St) => vS b) (xs := [.tmp 22, .tmp 26]) (vs := [vS a8, .slice (some ⟨g26, 0, none⟩) xs26.length c26]) rfl rfl rfl rfl Tryd.call119 rfl (fun w1 hw1 => (part_ok a8 (.slice (some ⟨g26, 0, none⟩) xs26.length c26) xs26 w1 hfa8 (Own.row hw1 (i := 1) rfl htg26 (by simp) hlg26) hrg26 (by omega)).mono fun en w' ⟨b, h1, h2, h3⟩ => ⟨b, h1, h2, h3⟩) fun b27_1 hS27_1 => ?_
      show Ll _ _ (Own _ _ ((p5_1, .cells #[.int .i64 0, str ([]), str ([])] 26 (0, 0)) :: (g26, .cells u26 3 (0, 0)) :: (p4, .cells #[.int .i64 a8.n, str a8.set, str a8.rel] 26 (0, 0)) :: (p3, .cells #[.int .i64 0, str ([]), str ([])] 26 (0, 0)) :: (p2, .cells #[.int .i64 0, str ([]), str ([])] 26 (0, 0)) :: (rp, .cells #[bv, .int .i64 ((p_26 : Int))] 106 (0, 0)) :: hs)) _ _ ((27, vS b27_1) :: _) _ _ _
      obtain ⟨hnb27_1, hsb27_1, hrb27_1⟩ := hS27_1
      refine Ll.nil (Lu.joint (fun _ h => h.pick [2, 3, 4] rfl (by decide)) ?_)
      refine Lu.loud rfl ?_
      refine Ll.storeBox (cs' := #[.int .i64 b27_1.n, str b27_1.set, str b27_1.rel]) (hs' := ((p5_1, .cells #[.int .i64 b27_1.n, str b27_1.set, str b27_1.rel] 26 (0, 0)) :: (g26, .cells u26 3 (0, 0)) :: (p4, .cells #[.int .i64 a8.n, str a8.set, str a8.rel] 26 (0, 0)) :: (p3, .cells #[.int .i64 0, str ([]), str ([])] 26 (0, 0)) :: (p2, .cells #[.int .i64 0, str ([]), str ([])] 26 (0, 0)) :: (rp, .cells #[bv, .int .i64 ((p_26 : Int))] 106 (0, 0)) :: hs)) 0 rfl rfl rfl rfl rfl (by kernel_rfl : _ = some Tryd.t26) rfl rfl rfl rfl rfl ?_
      refine Ll.nil (Lu.joint (fun _ h => h.pick [2, 3, 4] rfl (by decide)) ?_)
      refine Lu.nil ?_
      refine Kt.joined ((p5_1, b27_1, p_26)) ⟨part_fine hnb27_1 hsb27_1 hrb27_1 hng26 (by omega) (by omega), by (try dsimp only); omega⟩ (Sub.cons rfl (Sub.cons rfl (Sub.cons rfl (Sub.cons rfl (Sub.cons rfl Sub.nil))))) (fun _ h => h.sub (List.Sublist.cons_cons _ (List.Sublist.cons _ (List.Sublist.cons_cons _ (List.Sublist.cons_cons _ (List.Sublist.cons_cons _ (List.Sublist.cons_cons _ (List.Sublist.refl _))))))))
    ·
     refine Ll.alloc rfl rfl rfl rfl Tryd.zeroValue26 fun p5_2 hp5_2 => ?_
     show Ll _ _ (Own _ _ ((p5_2, .cells #[.int .i64 0, str ([]), str ([])] 26 (0, 0)) :: (p4, .cells #[.int .i64 a8.n, str a8.set, str a8.rel] 26 (0, 0)) :: (p3, .cells #[.int .i64 0, str ([]), str ([])] 26 (0, 0)) :: (p2, .cells #[.int .i64 0, str ([]), str ([])] 26 (0, 0)) :: (rp, .cells #[bv, .int .i64 ((p_10 : Int))] 106 (0, 0)) :: hs)) _ _ ((5, .pointer (some ⟨p5_2, 0, none⟩)) :: _) _ _ _
     refine Ll.nil (Lu.joint (fun _ h => h.pick [1, 2, 3] rfl (by decide)) ?_)
     refine Lu.loud rfl ?_
     refine Ll.callRd (rp := rp) (RT := 106) (p := p_10) (bv := bv) (hs := hs) (ok := fun ((g, c, u, xs) : Nat × Nat × Array Value × List Int) p' => (u.size = c * 1 ∧ xs.length ≤ c ∧ u.toList.take xs.length = ints xs) ∧ (xs.length = a8.n.toNat ∧ ∀ x ∈ xs, 0 ≤ x ∧ x < a8.n) ∧ p' ≤ p_10 + 10) (v := fun ((g, c, u, xs) : Nat × Nat × Array Value × List Int) => .slice (some ⟨g, 0, none⟩) xs.length c) (new := fun ((g, c, u, xs) : Nat × Nat × Array Value × List Int) => [(g, .cells u 3 (0, 0))]) (xs := [.tmp 23, .tmp 25]) (vs := [.pointer (some ⟨rp, 0, none⟩), .int .i64 a8.n]) ([(p5_2, .cells #[.int .i64 0, str ([]), str ([])] 26 (0, 0)), (p4, .cells #[.int .i64 a8.n, str a8.set, str a8.rel] 26 (0, 0)), (p3, .cells #[.int .i64 0, str ([]), str ([])] 26 (0, 0)), (p2, .cells #[.int .i64 0, str ([]), str ([])] 26 (0, 0))] : List (Nat × Obj)) rfl rfl rfl rfl Tryd.call128 rfl (fun w1 hw1 => (shuffle_ok B w0 (([(p5_2, .cells #[.int .i64 0, str ([]), str ([])] 26 (0, 0)), (p4, .cells #[.int .i64 a8.n, str a8.set, str a8.rel] 26 (0, 0)), (p3, .cells #[.int .i64 0, str ([]), str ([])] 26 (0, 0)), (p2, .cells #[.int .i64 0, str ([]), str ([])] 26 (0, 0))] : List (Nat × Obj)) ++ hs) rp p_10 bv L a8.n w1 (fun w2 hw2 => hb w2 (Own.drop (f := ([(p5_2, .cells #[.int .i64 0, str ([]), str ([])] 26 (0, 0)), (p4, .cells #[.int .i64 a8.n, str a8.set, str a8.rel] 26 (0, 0)), (p3, .cells #[.int .i64 0, str ([]), str ([])] 26 (0, 0)), (p2, .cells #[.int .i64 0, str ([]), str ([])] 26 (0, 0))] : List (Nat × Obj))) hw2)) hL8 hL (by omega) (by omega) (by omega) hw1).mono fun en w' ⟨g', c', u', xs', p', h1, h2, h3⟩ => ⟨(g', c', u', xs'), p', h1, h2, h3⟩) fun ⟨g26_1, c26_1, u26_1, xs26_1⟩ p_26_1 hKp_26_1 => ?_
     show Ll _ _ (Own _ _ ((g26_1, .cells u26_1 3 (0, 0)) :: (p5_2, .cells #[.int .i64 0, str ([]), str ([])] 26 (0, 0)) :: (p4, .cells #[.int .i64 a8.n, str a8.set, str a8.rel] 26 (0, 0)) :: (p3, .cells #[.int .i64 0, str ([]), str ([])] 26 (0, 0)) :: (p2, .cells #[.int .i64 0, str ([]), str ([])] 26 (0, 0)) :: (rp, .cells #[bv, .int .i64 ((p_26_1 : Int))] 106 (0, 0)) :: hs)) _ _ ((26, .slice (some ⟨g26_1, 0, none⟩) xs26_1.length c26_1) :: _) _ _ _
     obtain ⟨⟨hcg26_1, hlg26_1, htg26_1⟩, ⟨hng26_1, hrg26_1⟩, hep_26_1⟩ := hKp_26_1
     refine Ll.nil (Lu.joint (fun _ h => h.pick [2, 3, 4] rfl (by decide)) ?_)
     refine Lu.loud rfl ?_
     refine Ll.callSome (ok := fun (b : St) => b.n = xs26_1.length ∧ (b.set.length : Int) = xs26_1.length ∧ b.rel.length = xs26_1.length * xs26_1.length) (v := fun (b : St) => vS b) (xs := [.tmp 22, .tmp 26]) (vs := [vS a8, .slice (some ⟨g26_1, 0, none⟩) xs26_1.length c26_1]) rfl rfl rfl rfl Tryd.call119 rfl (fun w1 hw1 => (part_ok a8 (.slice (some ⟨g26_1, 0, none⟩) xs26_1.length c26_1) xs26_1 w1 hfa8 (Own.row hw1 (i := 0) rfl htg26_1 (by simp) hlg26_1) hrg26_1 (by omega)).mono fun en w' ⟨b, h1, h2, h3⟩ => ⟨b, h1, h2, h3⟩) fun b27_2 hS27_2 => ?_
     show Ll _ _ (Own _ _ ((g26_1, .cells u26_1 3 (0, 0)) :: (p5_2, .cells #[.int .i64 0, str ([]), str ([])] 26 (0, 0)) :: (p4, .cells #[.int .i64 a8.n, str a8.set, str a8.rel] 26 (0, 0)) :: (p3, .cells #[.int .i64 0, str ([]), str ([])] 26 (0, 0)) :: (p2, .cells #[.int .i64 0, str ([]), str ([])] 26 (0, 0)) :: (rp, .cells #[bv, .int .i64 ((p_26_1 : Int))] 106 (0, 0)) :: hs)) _ _ ((27, vS b27_2) :: _) _ _ _
     obtain ⟨hnb27_2, hsb27_2, hrb27_2⟩ := hS27_2
     refine Ll.nil (Lu.joint (fun _ h => h.pick [2, 3, 4] rfl (by decide)) ?_)
     refine Lu.loud rfl ?_
     refine Ll.storeBox (cs' := #[.int .i64 b27_2.n, str b27_2.set, str b27_2.rel]) (hs' := ((g26_1, .cells u26_1 3 (0, 0)) :: (p5_2, .cells #[.int .i64 b27_2.n, str b27_2.set, str b27_2.rel] 26 (0, 0)) :: (p4, .cells #[.int .i64 a8.n, str a8.set, str a8.rel] 26 (0, 0)) :: (p3, .cells #[.int .i64 0, str ([]), str ([])] 26 (0, 0)) :: (p2, .cells #[.int .i64 0, str ([]), str ([])] 26 (0, 0)) :: (rp, .cells #[bv, .int .i64 ((p_26_1 : Int))] 106 (0, 0)) :: hs)) 1 rfl rfl rfl rfl rfl (by kernel_rfl : _ = some Tryd.t26) rfl rfl rfl rfl rfl ?_
     refine Ll.nil (Lu.joint (fun _ h => h.pick [2, 3, 4] rfl (by decide)) ?_)
     refine Lu.nil ?_
     refine Kt.joined ((p5_2, b27_2, p_26_1)) ⟨part_fine hnb27_2 hsb27_2 hrb27_2 hng26_1 (by omega) (by omega), by (try dsimp only); omega⟩ (Sub.cons rfl (Sub.cons rfl (Sub.cons rfl (Sub.cons rfl (Sub.cons rfl Sub.nil))))) (fun _ h => h.sub (List.Sublist.cons _ (List.Sublist.cons_cons _ (List.Sublist.cons_cons _ (List.Sublist.cons_cons _ (List.Sublist.cons_cons _ (List.Sublist.cons_cons _ (List.Sublist.refl _))))))))
   rintro ⟨q, b, p6⟩ ⟨⟨hfb, h5b⟩, hp6⟩
   dsimp only
   obtain ⟨hl1, hl25⟩ := fine_len hfb h5b
   refine Kt.onSub (e' := [(0, .pointer (some ⟨rp, 0, none⟩)), (2, .pointer (some ⟨p2, 0, none⟩)), (3, .pointer (some ⟨p3, 0, none⟩)), (4, .pointer (some ⟨p4, 0, none⟩)), (5, .pointer (some ⟨q, 0, none⟩))]) (Sub.cons rfl (Sub.cons rfl (Sub.cons rfl (Sub.cons rfl (Sub.cons rfl Sub.nil))))) ?_
   refine Wk.seq ?_
   refine Wk.region ?_
   refine Ll.op rfl rfl rfl (OpQ.move rfl rfl) ?_
   refine Ll.op (v := .pointer (some ⟨q, 2, none⟩)) rfl rfl rfl (OpQ.fieldAddr rfl Tryd.runUnderlying26 rfl Tryd.sizeOf9 rfl rfl) ?_
   refine Ll.op (v := str b.rel) rfl rfl rfl (OpQ.loadOwn 0 rfl Tryd.isAgg9 rfl rfl rfl) ?_
   refine Ll.op (v := .int .i64 ((b.rel.length : Int))) rfl rfl rfl (OpQ.lenStr rfl Tryd.runUnderlying9 rfl) ?_
   refine Ll.callRd (rp := rp) (RT := 106) (p := p6) (bv := bv) (hs := hs) (ok := fun (k : Int) p' => 0 ≤ k ∧ (1 ≤ ((b.rel.length : Int)) → k < ((b.rel.length : Int))) ∧ p' = p6 + 1) (v := fun (k : Int) => .int .i64 k) (new := fun (k : Int) => []) (xs := [.tmp 28, .tmp 31]) (vs := [.pointer (some ⟨rp, 0, none⟩), .int .i64 ((b.rel.length : Int))]) ([(q, .cells #[.int .i64 b.n, str b.set, str b.rel] 26 (0, 0)), (p4, .cells #[.int .i64 a8.n, str a8.set, str a8.rel] 26 (0, 0)), (p3, .cells #[.int .i64 0, str ([]), str ([])] 26 (0, 0)), (p2, .cells #[.int .i64 0, str ([]), str ([])] 26 (0, 0))] : List (Nat × Obj)) rfl rfl rfl rfl Tryd.call113 rfl (fun w1 hw1 => (pick_ok B w0 (([(q, .cells #[.int .i64 b.n, str b.set, str b.rel] 26 (0, 0)), (p4, .cells #[.int .i64 a8.n, str a8.set, str a8.rel] 26 (0, 0)), (p3, .cells #[.int .i64 0, str ([]), str ([])] 26 (0, 0)), (p2, .cells #[.int .i64 0, str ([]), str ([])] 26 (0, 0))] : List (Nat × Obj)) ++ hs) rp p6 bv L ((b.rel.length : Int)) w1 (fun w2 hw2 => hb w2 (Own.drop (f := ([(q, .cells #[.int .i64 b.n, str b.set, str b.rel] 26 (0, 0)), (p4, .cells #[.int .i64 a8.n, str a8.set, str a8.rel] 26 (0, 0)), (p3, .cells #[.int .i64 0, str ([]), str ([])] 26 (0, 0)), (p2, .cells #[.int .i64 0, str ([]), str ([])] 26 (0, 0))] : List (Nat × Obj))) hw2)) hL8 hL (by omega) hw1).mono fun en w' ⟨k', p', h1, h2, h3⟩ => ⟨k', p', h1, h2, h3⟩) fun k32 p_32 hKp_32 => ?_
   show Ll _ _ (Own _ _ ((q, .cells #[.int .i64 b.n, str b.set, str b.rel] 26 (0, 0)) :: (p4, .cells #[.int .i64 a8.n, str a8.set, str a8.rel] 26 (0, 0)) :: (p3, .cells #[.int .i64 0, str ([]), str ([])] 26 (0, 0)) :: (p2, .cells #[.int .i64 0, str ([]), str ([])] 26 (0, 0)) :: (rp, .cells #[bv, .int .i64 ((p_32 : Int))] 106 (0, 0)) :: hs)) _ _ ((32, .int .i64 k32) :: _) _ _ _
   obtain ⟨h0k32, h1k32, hep_32⟩ := hKp_32
   try have hltk32 := h1k32 (by first | omega | (split <;> omega) | decide)
   refine Ll.op rfl rfl rfl (OpQ.assign rfl rfl) ?_
   refine Ll.nil ?_
   refine Kt.onSub (e' := [(2, .pointer (some ⟨p2, 0, none⟩)), (3, .pointer (some ⟨p3, 0, none⟩)), (4, .pointer (some ⟨p4, 0, none⟩)), (5, .pointer (some ⟨q, 0, none⟩)), (6, .int .i64 k32)]) (Sub.cons rfl (Sub.cons rfl (Sub.cons rfl (Sub.cons rfl (Sub.cons rfl Sub.nil))))) ?_
   refine Wk.seq ?_
   refine Wk.join (σ := List UInt8) (fun R => R.length = b.rel.length) (fun R => [(2, .pointer (some ⟨p2, 0, none⟩)), (3, .pointer (some ⟨p3, 0, none⟩)), (4, .pointer (some ⟨p4, 0, none⟩)), (5, .pointer (some ⟨q, 0, none⟩))]) (fun R => Own B w0 ((q, .cells #[.int .i64 b.n, str b.set, str R] 26 (0, 0)) :: (p4, .cells #[.int .i64 a8.n, str a8.set, str a8.rel] 26 (0, 0)) :: (p3, .cells #[.int .i64 0, str ([]), str ([])] 26 (0, 0)) :: (p2, .cells #[.int .i64 0, str ([]), str ([])] 26 (0, 0)) :: (rp, .cells #[bv, .int .i64 ((p_32 : Int))] 106 (0, 0)) :: hs)) ?_ ?_
   ·
    refine Wk.regionU (S := Own B w0 [(p4, .cells #[.int .i64 a8.n, str a8.set, str a8.rel] 26 (0, 0)), (p3, .cells #[.int .i64 0, str ([]), str ([])] 26 (0, 0)), (p2, .cells #[.int .i64 0, str ([]), str ([])] 26 (0, 0)), (rp, .cells #[bv, .int .i64 ((p_32 : Int))] 106 (0, 0))]) (.take 0 (.take 2 (.take 4 (.take 6 (.take 7 (.take 8 (.take 12 (.take 14 (.take 15 (.three 1 (.take 3 (.two 5 (.take 9 (.two 10 (.take 11 (.one 13 (.take 16 (.take 17 (.take 18 (.one 19 .done)))))) 13 (.take 16 (.one 10 (.take 11 (.take 17 (.take 18 (.one 19 .done)))))))) 13 (.take 16 (.one 5 (.take 9 (.one 10 (.take 11 (.take 17 (.take 18 (.one 19 .done)))))))))) 5 (.take 9 (.three 1 (.take 3 (.two 10 (.take 11 (.one 13 (.take 16 (.take 17 (.take 18 (.one 19 .done)))))) 13 (.take 16 (.one 10 (.take 11 (.take 17 (.take 18 (.one 19 .done)))))))) 10 (.two 1 (.take 3 (.take 11 (.one 13 (.take 16 (.take 17 (.take 18 (.one 19 .done))))))) 13 (.take 16 (.one 1 (.take 3 (.take 11 (.take 17 (.take 18 (.one 19 .done)))))))) 13 (.take 16 (.two 1 (.take 3 (.one 10 (.take 11 (.take 17 (.take 18 (.one 19 .done)))))) 10 (.one 1 (.take 3 (.take 11 (.take 17 (.take 18 (.one 19 .done)))))))))) 13 (.take 16 (.two 1 (.take 3 (.one 5 (.take 9 (.one 10 (.take 11 (.take 17 (.take 18 (.one 19 .done)))))))) 5 (.take 9 (.two 1 (.take 3 (.one 10 (.take 11 (.take 17 (.take 18 (.one 19 .done)))))) 10 (.one 1 (.take 3 (.take 11 (.take 17 (.take 18 (.one 19 .done)))))))))))))))))))) Base.mixed (fun _ h => h.drawn) (by kernel_rfl) ?_
    refine Lu.take (v := .pointer (some ⟨q, 2, none⟩)) rfl rfl rfl rfl rfl (OpQ.fieldAddr rfl Tryd.runUnderlying26 rfl Tryd.sizeOf9 rfl rfl) (fun _ h => h.pick [1, 2, 3, 4] rfl (by decide)) ?_
    refine Lu.take rfl rfl rfl rfl rfl (OpQ.move rfl rfl) (fun _ h => h.pick [1, 2, 3, 4] rfl (by decide)) ?_
    refine Lu.take (v := .pointer (some ⟨q, 2, none⟩)) rfl rfl rfl rfl rfl (OpQ.fieldAddr rfl Tryd.runUnderlying26 rfl Tryd.sizeOf9 rfl rfl) (fun _ h => h.pick [1, 2, 3, 4] rfl (by decide)) ?_
    refine Lu.take rfl rfl rfl rfl rfl (OpQ.move rfl rfl) (fun _ h => h.pick [1, 2, 3, 4] rfl (by decide)) ?_
    refine Lu.take rfl rfl rfl rfl rfl (OpQ.move rfl rfl) (fun _ h => h.pick [1, 2, 3, 4] rfl (by decide)) ?_
    refine Lu.take (v := .int .i64 (k32 + (1 : Int))) rfl rfl rfl rfl rfl (OpQ.add rfl rfl rfl (by omega) (by omega)) (fun _ h => h.pick [1, 2, 3, 4] rfl (by decide)) ?_
    refine Lu.take (v := .pointer (some ⟨q, 2, none⟩)) rfl rfl rfl rfl rfl (OpQ.fieldAddr rfl Tryd.runUnderlying26 rfl Tryd.sizeOf9 rfl rfl) (fun _ h => h.pick [1, 2, 3, 4] rfl (by decide)) ?_
    refine Lu.take rfl rfl rfl rfl rfl (OpQ.move rfl rfl) (fun _ h => h.pick [1, 2, 3, 4] rfl (by decide)) ?_
    refine Lu.take (v := .int .i64 (k32 + (1 : Int))) rfl rfl rfl rfl rfl (OpQ.add rfl rfl rfl (by omega) (by omega)) (fun _ h => h.pick [1, 2, 3, 4] rfl (by decide)) ?_
    refine Lu.three rfl rfl rfl ?_ ?_ ?_
    ·
     refine Ll.op (v := str b.rel) rfl rfl rfl (OpQ.loadOwn 0 rfl Tryd.isAgg9 rfl rfl rfl) ?_
     refine Ll.nil (Lu.joint (fun _ h => h.pick [1, 2, 3, 4] rfl (by decide)) ?_)
     refine Lu.take (v := str (b.rel.take ((k32).toNat))) rfl rfl rfl rfl rfl (OpQ.sliceStrTo rfl Tryd.underlying9 rfl rfl (by omega) (by omega)) (fun _ h => h.pick [1, 2, 3, 4] rfl (by decide)) ?_
     refine Lu.two rfl rfl ?_ ?_
     ·
      refine Ll.op (v := str b.rel) rfl rfl rfl (OpQ.loadOwn 0 rfl Tryd.isAgg9 rfl rfl rfl) ?_
      refine Ll.nil (Lu.joint (fun _ h => h.pick [1, 2, 3, 4] rfl (by decide)) ?_)
      refine Lu.take (v := str ((b.rel.drop ((k32).toNat)).take ((k32 + (1 : Int)).toNat - (k32).toNat))) rfl rfl rfl rfl rfl (OpQ.sliceStr rfl Tryd.underlying9 rfl rfl rfl (by omega) (by omega) (by first | omega | (simp; omega))) (fun _ h => h.pick [1, 2, 3, 4] rfl (by decide)) ?_
      refine Lu.two rfl rfl ?_ ?_
      ·
       refine Ll.callSome (ok := fun (t : List UInt8) => t.length = ((b.rel.drop ((k32).toNat)).take ((k32 + (1 : Int)).toNat - (k32).toNat)).length) (v := fun (t : List UInt8) => str t) (xs := [.tmp 42]) (vs := [str ((b.rel.drop ((k32).toNat)).take ((k32 + (1 : Int)).toNat - (k32).toNat))]) rfl rfl rfl rfl Tryd.call129 rfl (fun w1 hw1 => (flip_ok ((b.rel.drop ((k32).toNat)).take ((k32 + (1 : Int)).toNat - (k32).toNat)) w1 (by rw [List.length_take, List.length_drop]; omega)).mono fun en w' ⟨t, h1, h2, h3⟩ => ⟨t, h1, h2, h3⟩) fun t43 hS43 => ?_
       show Ll _ _ (Own _ _ ((q, .cells #[.int .i64 b.n, str b.set, str b.rel] 26 (0, 0)) :: (p4, .cells #[.int .i64 a8.n, str a8.set, str a8.rel] 26 (0, 0)) :: (p3, .cells #[.int .i64 0, str ([]), str ([])] 26 (0, 0)) :: (p2, .cells #[.int .i64 0, str ([]), str ([])] 26 (0, 0)) :: (rp, .cells #[bv, .int .i64 ((p_32 : Int))] 106 (0, 0)) :: hs)) _ _ ((43, str t43) :: _) _ _ _
       have hlt43 := hS43
       refine Ll.nil (Lu.joint (fun _ h => h.pick [1, 2, 3, 4] rfl (by decide)) ?_)
       refine Lu.take (v := str ((b.rel.take ((k32).toNat)) ++ t43)) rfl rfl rfl rfl rfl (OpQ.sadd rfl rfl rfl (by (try simp only [List.length_append]); rw [List.length_take, hlt43, List.length_take, List.length_drop]; omega)) (fun _ h => h.pick [1, 2, 3, 4] rfl (by decide)) ?_
       refine Lu.loud rfl ?_
       refine Ll.op (v := str b.rel) rfl rfl rfl (OpQ.loadOwn 0 rfl Tryd.isAgg9 rfl rfl rfl) ?_
       refine Ll.nil (Lu.joint (fun _ h => h.pick [1, 2, 3, 4] rfl (by decide)) ?_)
       refine Lu.take (v := str (b.rel.drop ((k32 + (1 : Int)).toNat))) rfl rfl rfl rfl rfl (OpQ.sliceStrFrom rfl Tryd.underlying9 rfl rfl (by omega) (by omega)) (fun _ h => h.pick [1, 2, 3, 4] rfl (by decide)) ?_
       refine Lu.take (v := str (((b.rel.take ((k32).toNat)) ++ t43) ++ (b.rel.drop ((k32 + (1 : Int)).toNat)))) rfl rfl rfl rfl rfl (OpQ.sadd rfl rfl rfl (by (try simp only [List.length_append]); rw [List.length_take, hlt43, List.length_take, List.length_drop, List.length_drop]; omega)) (fun _ h => h.pick [1, 2, 3, 4] rfl (by decide)) ?_
       refine Lu.take (v := .pointer (some ⟨q, 2, none⟩)) rfl rfl rfl rfl rfl (OpQ.fieldAddr rfl Tryd.runUnderlying26 rfl Tryd.sizeOf9 rfl rfl) (fun _ h => h.pick [1, 2, 3, 4] rfl (by decide)) ?_
       refine Lu.loud rfl ?_
       refine Ll.store1 (v := str (((b.rel.take ((k32).toNat)) ++ t43) ++ (b.rel.drop ((k32 + (1 : Int)).toNat)))) (hs' := ((q, .cells #[.int .i64 b.n, str b.set, str (((b.rel.take ((k32).toNat)) ++ t43) ++ (b.rel.drop ((k32 + (1 : Int)).toNat)))] 26 (0, 0)) :: (p4, .cells #[.int .i64 a8.n, str a8.set, str a8.rel] 26 (0, 0)) :: (p3, .cells #[.int .i64 0, str ([]), str ([])] 26 (0, 0)) :: (p2, .cells #[.int .i64 0, str ([]), str ([])] 26 (0, 0)) :: (rp, .cells #[bv, .int .i64 ((p_32 : Int))] 106 (0, 0)) :: hs)) 0 rfl rfl rfl rfl rfl rfl Tryd.sizeOf9 rfl (by simp) rfl ?_
       refine Ll.nil (Lu.joint (fun _ h => h.pick [1, 2, 3, 4] rfl (by decide)) ?_)
       refine Lu.nil ?_
       refine Kt.joined (((b.rel.take ((k32).toNat)) ++ t43) ++ (b.rel.drop ((k32 + (1 : Int)).toNat))) (turned_fine h0k32 hltk32 hlt43) (Sub.cons rfl (Sub.cons rfl (Sub.cons rfl (Sub.cons rfl Sub.nil)))) (fun _ h => h)
      ·
       refine Ll.op (v := str b.rel) rfl rfl rfl (OpQ.loadOwn 0 rfl Tryd.isAgg9 rfl rfl rfl) ?_
       refine Ll.nil (Lu.joint (fun _ h => h.pick [1, 2, 3, 4] rfl (by decide)) ?_)
       refine Lu.take (v := str (b.rel.drop ((k32 + (1 : Int)).toNat))) rfl rfl rfl rfl rfl (OpQ.sliceStrFrom rfl Tryd.underlying9 rfl rfl (by omega) (by omega)) (fun _ h => h.pick [1, 2, 3, 4] rfl (by decide)) ?_
       refine Lu.loud rfl ?_
       refine Ll.callSome (ok := fun (t : List UInt8) => t.length = ((b.rel.drop ((k32).toNat)).take ((k32 + (1 : Int)).toNat - (k32).toNat)).length) (v := fun (t : List UInt8) => str t) (xs := [.tmp 42]) (vs := [str ((b.rel.drop ((k32).toNat)).take ((k32 + (1 : Int)).toNat - (k32).toNat))]) rfl rfl rfl rfl Tryd.call129 rfl (fun w1 hw1 => (flip_ok ((b.rel.drop ((k32).toNat)).take ((k32 + (1 : Int)).toNat - (k32).toNat)) w1 (by rw [List.length_take, List.length_drop]; omega)).mono fun en w' ⟨t, h1, h2, h3⟩ => ⟨t, h1, h2, h3⟩) fun t43_1 hS43_1 => ?_
       show Ll _ _ (Own _ _ ((q, .cells #[.int .i64 b.n, str b.set, str b.rel] 26 (0, 0)) :: (p4, .cells #[.int .i64 a8.n, str a8.set, str a8.rel] 26 (0, 0)) :: (p3, .cells #[.int .i64 0, str ([]), str ([])] 26 (0, 0)) :: (p2, .cells #[.int .i64 0, str ([]), str ([])] 26 (0, 0)) :: (rp, .cells #[bv, .int .i64 ((p_32 : Int))] 106 (0, 0)) :: hs)) _ _ ((43, str t43_1) :: _) _ _ _
       have hlt43_1 := hS43_1
       refine Ll.nil (Lu.joint (fun _ h => h.pick [1, 2, 3, 4] rfl (by decide)) ?_)
       refine Lu.take (v := str ((b.rel.take ((k32).toNat)) ++ t43_1)) rfl rfl rfl rfl rfl (OpQ.sadd rfl rfl rfl (by (try simp only [List.length_append]); rw [List.length_take, hlt43_1, List.length_take, List.length_drop]; omega)) (fun _ h => h.pick [1, 2, 3, 4] rfl (by decide)) ?_
       refine Lu.take (v := str (((b.rel.take ((k32).toNat)) ++ t43_1) ++ (b.rel.drop ((k32 + (1 : Int)).toNat)))) rfl rfl rfl rfl rfl (OpQ.sadd rfl rfl rfl (by (try simp only [List.length_append]); rw [List.length_take, hlt43_1, List.length_take, List.length_drop, List.length_drop]; omega)) (fun _ h => h.pick [1, 2, 3, 4] rfl (by decide)) ?_
       refine Lu.take (v := .pointer (some ⟨q, 2, none⟩)) rfl rfl rfl rfl rfl (OpQ.fieldAddr rfl Tryd.runUnderlying26 rfl Tryd.sizeOf9 rfl rfl) (fun _ h => h.pick [1, 2, 3, 4] rfl (by decide)) ?_
       refine Lu.loud rfl ?_
       refine Ll.store1 (v := str (((b.rel.take ((k32).toNat)) ++ t43_1) ++ (b.rel.drop ((k32 + (1 : Int)).toNat)))) (hs' := ((q, .cells #[.int .i64 b.n, str b.set, str (((b.rel.take ((k32).toNat)) ++ t43_1) ++ (b.rel.drop ((k32 + (1 : Int)).toNat)))] 26 (0, 0)) :: (p4, .cells #[.int .i64 a8.n, str a8.set, str a8.rel] 26 (0, 0)) :: (p3, .cells #[.int .i64 0, str ([]), str ([])] 26 (0, 0)) :: (p2, .cells #[.int .i64 0, str ([]), str ([])] 26 (0, 0)) :: (rp, .cells #[bv, .int .i64 ((p_32 : Int))] 106 (0, 0)) :: hs)) 0 rfl rfl rfl rfl rfl rfl Tryd.sizeOf9 rfl (by simp) rfl ?_
       refine Ll.nil (Lu.joint (fun _ h => h.pick [1, 2, 3, 4] rfl (by decide)) ?_)
       refine Lu.nil ?_
       refine Kt.joined (((b.rel.take ((k32).toNat)) ++ t43_1) ++ (b.rel.drop ((k32 + (1 : Int)).toNat))) (turned_fine h0k32 hltk32 hlt43_1) (Sub.cons rfl (Sub.cons rfl (Sub.cons rfl (Sub.cons rfl Sub.nil)))) (fun _ h => h)
     ·
      refine Ll.op (v := str b.rel) rfl rfl rfl (OpQ.loadOwn 0 rfl Tryd.isAgg9 rfl rfl rfl) ?_
      refine Ll.nil (Lu.joint (fun _ h => h.pick [1, 2, 3, 4] rfl (by decide)) ?_)
      refine Lu.take (v := str (b.rel.drop ((k32 + (1 : Int)).toNat))) rfl rfl rfl rfl rfl (OpQ.sliceStrFrom rfl Tryd.underlying9 rfl rfl (by omega) (by omega)) (fun _ h => h.pick [1, 2, 3, 4] rfl (by decide)) ?_
      refine Lu.loud rfl ?_
      refine Ll.op (v := str b.rel) rfl rfl rfl (OpQ.loadOwn 0 rfl Tryd.isAgg9 rfl rfl rfl) ?_
      refine Ll.nil (Lu.joint (fun _ h => h.pick [1, 2, 3, 4] rfl (by decide)) ?_)
      refine Lu.take (v := str ((b.rel.drop ((k32).toNat)).take ((k32 + (1 : Int)).toNat - (k32).toNat))) rfl rfl rfl rfl rfl (OpQ.sliceStr rfl Tryd.underlying9 rfl rfl rfl (by omega) (by omega) (by first | omega | (simp; omega))) (fun _ h => h.pick [1, 2, 3, 4] rfl (by decide)) ?_
      refine Lu.loud rfl ?_
      refine Ll.callSome (ok := fun (t : List UInt8) => t.length = ((b.rel.drop ((k32).toNat)).take ((k32 + (1 : Int)).toNat - (k32).toNat)).length) (v := fun (t : List UInt8) => str t) (xs := [.tmp 42]) (vs := [str ((b.rel.drop ((k32).toNat)).take ((k32 + (1 : Int)).toNat - (k32).toNat))]) rfl rfl rfl rfl Tryd.call129 rfl (fun w1 hw1 => (flip_ok ((b.rel.drop ((k32).toNat)).take ((k32 + (1 : Int)).toNat - (k32).toNat)) w1 (by rw [List.length_take, List.length_drop]; omega)).mono fun en w' ⟨t, h1, h2, h3⟩ => ⟨t, h1, h2, h3⟩) fun t43_2 hS43_2 => ?_
      show Ll _ _ (Own _ _ ((q, .cells #[.int .i64 b.n, str b.set, str b.rel] 26 (0, 0)) :: (p4, .cells #[.int .i64 a8.n, str a8.set, str a8.rel] 26 (0, 0)) :: (p3, .cells #[.int .i64 0, str ([]), str ([])] 26 (0, 0)) :: (p2, .cells #[.int .i64 0, str ([]), str ([])] 26 (0, 0)) :: (rp, .cells #[bv, .int .i64 ((p_32 : Int))] 106 (0, 0)) :: hs)) _ _ ((43, str t43_2) :: _) _ _ _
      have hlt43_2 := hS43_2
      refine Ll.nil (Lu.joint (fun _ h => h.pick [1, 2, 3, 4] rfl (by decide)) ?_)
      refine Lu.take (v := str ((b.rel.take ((k32).toNat)) ++ t43_2)) rfl rfl rfl rfl rfl (OpQ.sadd rfl rfl rfl (by (try simp only [List.length_append]); rw [List.length_take, hlt43_2, List.length_take, List.length_drop]; omega)) (fun _ h => h.pick [1, 2, 3, 4] rfl (by decide)) ?_
      refine Lu.take (v := str (((b.rel.take ((k32).toNat)) ++ t43_2) ++ (b.rel.drop ((k32 + (1 : Int)).toNat)))) rfl rfl rfl rfl rfl (OpQ.sadd rfl rfl rfl (by (try simp only [List.length_append]); rw [List.length_take, hlt43_2, List.length_take, List.length_drop, List.length_drop]; omega)) (fun _ h => h.pick [1, 2, 3, 4] rfl (by decide)) ?_
      refine Lu.take (v := .pointer (some ⟨q, 2, none⟩)) rfl rfl rfl rfl rfl (OpQ.fieldAddr rfl Tryd.runUnderlying26 rfl Tryd.sizeOf9 rfl rfl) (fun _ h => h.pick [1, 2, 3, 4] rfl (by decide)) ?_
      refine Lu.loud rfl ?_
      refine Ll.store1 (v := str (((b.rel.take ((k32).toNat)) ++ t43_2) ++ (b.rel.drop ((k32 + (1 : Int)).toNat)))) (hs' := ((q, .cells #[.int .i64 b.n, str b.set, str (((b.rel.take ((k32).toNat)) ++ t43_2) ++ (b.rel.drop ((k32 + (1 : Int)).toNat)))] 26 (0, 0)) :: (p4, .cells #[.int .i64 a8.n, str a8.set, str a8.rel] 26 (0, 0)) :: (p3, .cells #[.int .i64 0, str ([]), str ([])] 26 (0, 0)) :: (p2, .cells #[.int .i64 0, str ([]), str ([])] 26 (0, 0)) :: (rp, .cells #[bv, .int .i64 ((p_32 : Int))] 106 (0, 0)) :: hs)) 0 rfl rfl rfl rfl rfl rfl Tryd.sizeOf9 rfl (by simp) rfl ?_
      refine Ll.nil (Lu.joint (fun _ h => h.pick [1, 2, 3, 4] rfl (by decide)) ?_)
      refine Lu.nil ?_
      refine Kt.joined (((b.rel.take ((k32).toNat)) ++ t43_2) ++ (b.rel.drop ((k32 + (1 : Int)).toNat))) (turned_fine h0k32 hltk32 hlt43_2) (Sub.cons rfl (Sub.cons rfl (Sub.cons rfl (Sub.cons rfl Sub.nil)))) (fun _ h => h)
    ·
     refine Ll.op (v := str b.rel) rfl rfl rfl (OpQ.loadOwn 0 rfl Tryd.isAgg9 rfl rfl rfl) ?_
     refine Ll.nil (Lu.joint (fun _ h => h.pick [1, 2, 3, 4] rfl (by decide)) ?_)
     refine Lu.take (v := str ((b.rel.drop ((k32).toNat)).take ((k32 + (1 : Int)).toNat - (k32).toNat))) rfl rfl rfl rfl rfl (OpQ.sliceStr rfl Tryd.underlying9 rfl rfl rfl (by omega) (by omega) (by first | omega | (simp; omega))) (fun _ h => h.pick [1, 2, 3, 4] rfl (by decide)) ?_
     refine Lu.three rfl rfl rfl ?_ ?_ ?_
     ·
      refine Ll.op (v := str b.rel) rfl rfl rfl (OpQ.loadOwn 0 rfl Tryd.isAgg9 rfl rfl rfl) ?_
      refine Ll.nil (Lu.joint (fun _ h => h.pick [1, 2, 3, 4] rfl (by decide)) ?_)
      refine Lu.take (v := str (b.rel.take ((k32).toNat))) rfl rfl rfl rfl rfl (OpQ.sliceStrTo rfl Tryd.underlying9 rfl rfl (by omega) (by omega)) (fun _ h => h.pick [1, 2, 3, 4] rfl (by decide)) ?_
      refine Lu.two rfl rfl ?_ ?_
      ·
       refine Ll.callSome (ok := fun (t : List UInt8) => t.length = ((b.rel.drop ((k32).toNat)).take ((k32 + (1 : Int)).toNat - (k32).toNat)).length) (v := fun (t : List UInt8) => str t) (xs := [.tmp 42]) (vs := [str ((b.rel.drop ((k32).toNat)).take ((k32 + (1 : Int)).toNat - (k32).toNat))]) rfl rfl rfl rfl Tryd.call129 rfl (fun w1 hw1 => (flip_ok ((b.rel.drop ((k32).toNat)).take ((k32 + (1 : Int)).toNat - (k32).toNat)) w1 (by rw [List.length_take, List.length_drop]; omega)).mono fun en w' ⟨t, h1, h2, h3⟩ => ⟨t, h1, h2, h3⟩) fun t43_3 hS43_3 => ?_
       show Ll _ _ (Own _ _ ((q, .cells #[.int .i64 b.n, str b.set, str b.rel] 26 (0, 0)) :: (p4, .cells #[.int .i64 a8.n, str a8.set, str a8.rel] 26 (0, 0)) :: (p3, .cells #[.int .i64 0, str ([]), str ([])] 26 (0, 0)) :: (p2, .cells #[.int .i64 0, str ([]), str ([])] 26 (0, 0)) :: (rp, .cells #[bv, .int .i64 ((p_32 : Int))] 106 (0, 0)) :: hs)) _ _ ((43, str t43_3) :: _) _ _ _
       have hlt43_3 := hS43_3
       refine Ll.nil (Lu.joint (fun _ h => h.pick [1, 2, 3, 4] rfl (by decide)) ?_)
       refine Lu.take (v := str ((b.rel.take ((k32).toNat)) ++ t43_3)) rfl rfl rfl rfl rfl (OpQ.sadd rfl rfl rfl (by (try simp only [List.length_append]); rw [List.length_take, hlt43_3, List.length_take, List.length_drop]; omega)) (fun _ h => h.pick [1, 2, 3, 4] rfl (by decide)) ?_
       refine Lu.loud rfl ?_
       refine Ll.op (v := str b.rel) rfl rfl rfl (OpQ.loadOwn 0 rfl Tryd.isAgg9 rfl rfl rfl) ?_
       refine Ll.nil (Lu.joint (fun _ h => h.pick [1, 2, 3, 4] rfl (by decide)) ?_)
       refine Lu.take (v := str (b.rel.drop ((k32 + (1 : Int)).toNat))) rfl rfl rfl rfl rfl (OpQ.sliceStrFrom rfl Tryd.underlying9 rfl rfl (by omega) (by omega)) (fun _ h => h.pick [1, 2, 3, 4] rfl (by decide)) ?_
       refine Lu.take (v := str (((b.rel.take ((k32).toNat)) ++ t43_3) ++ (b.rel.drop ((k32 + (1 : Int)).toNat)))) rfl rfl rfl rfl rfl (OpQ.sadd rfl rfl rfl (by (try simp only [List.length_append]); rw [List.length_take, hlt43_3, List.length_take, List.length_drop, List.length_drop]; omega)) (fun _ h => h.pick [1, 2, 3, 4] rfl (by decide)) ?_
       refine Lu.take (v := .pointer (some ⟨q, 2, none⟩)) rfl rfl rfl rfl rfl (OpQ.fieldAddr rfl Tryd.runUnderlying26 rfl Tryd.sizeOf9 rfl rfl) (fun _ h => h.pick [1, 2, 3, 4] rfl (by decide)) ?_
       refine Lu.loud rfl ?_
       refine Ll.store1 (v := str (((b.rel.take ((k32).toNat)) ++ t43_3) ++ (b.rel.drop ((k32 + (1 : Int)).toNat)))) (hs' := ((q, .cells #[.int .i64 b.n, str b.set, str (((b.rel.take ((k32).toNat)) ++ t43_3) ++ (b.rel.drop ((k32 + (1 : Int)).toNat)))] 26 (0, 0)) :: (p4, .cells #[.int .i64 a8.n, str a8.set, str a8.rel] 26 (0, 0)) :: (p3, .cells #[.int .i64 0, str ([]), str ([])] 26 (0, 0)) :: (p2, .cells #[.int .i64 0, str ([]), str ([])] 26 (0, 0)) :: (rp, .cells #[bv, .int .i64 ((p_32 : Int))] 106 (0, 0)) :: hs)) 0 rfl rfl rfl rfl rfl rfl Tryd.sizeOf9 rfl (by simp) rfl ?_
       refine Ll.nil (Lu.joint (fun _ h => h.pick [1, 2, 3, 4] rfl (by decide)) ?_)
       refine Lu.nil ?_
       refine Kt.joined (((b.rel.take ((k32).toNat)) ++ t43_3) ++ (b.rel.drop ((k32 + (1 : Int)).toNat))) (turned_fine h0k32 hltk32 hlt43_3) (Sub.cons rfl (Sub.cons rfl (Sub.cons rfl (Sub.cons rfl Sub.nil)))) (fun _ h => h)
      ·
       refine Ll.op (v := str b.rel) rfl rfl rfl (OpQ.loadOwn 0 rfl Tryd.isAgg9 rfl rfl rfl) ?_
       refine Ll.nil (Lu.joint (fun _ h => h.pick [1, 2, 3, 4] rfl (by decide)) ?_)
       refine Lu.take (v := str (b.rel.drop ((k32 + (1 : Int)).toNat))) rfl rfl rfl rfl rfl (OpQ.sliceStrFrom rfl Tryd.underlying9 rfl rfl (by omega) (by omega)) (fun _ h => h.pick [1, 2, 3, 4] rfl (by decide)) ?_
       refine Lu.loud rfl ?_
       refine Ll.callSome (ok := fun (t : List UInt8) => t.length = ((b.rel.drop ((k32).toNat)).take ((k32 + (1 : Int)).toNat - (k32).toNat)).length) (v := fun (t : List UInt8) => str t) (xs := [.tmp 42]) (vs := [str ((b.rel.drop ((k32).toNat)).take ((k32 + (1 : Int)).toNat - (k32).toNat))]) rfl rfl rfl rfl Tryd.call129 rfl (fun w1 hw1 => (flip_ok ((b.rel.drop ((k32).toNat)).take ((k32 + (1 : Int)).toNat - (k32).toNat)) w1 (by rw [List.length_take, List.length_drop]; omega)).mono fun en w' ⟨t, h1, h2, h3⟩ => ⟨t, h1, h2, h3⟩) fun t43_4 hS43_4 => ?_
       show Ll _ _ (Own _ _ ((q, .cells #[.int .i64 b.n, str b.set, str b.rel] 26 (0, 0)) :: (p4, .cells #[.int .i64 a8.n, str a8.set, str a8.rel] 26 (0, 0)) :: (p3, .cells #[.int .i64 0, str ([]), str ([])] 26 (0, 0)) :: (p2, .cells #[.int .i64 0, str ([]), str ([])] 26 (0, 0)) :: (rp, .cells #[bv, .int .i64 ((p_32 : Int))] 106 (0, 0)) :: hs)) _ _ ((43, str t43_4) :: _) _ _ _
       have hlt43_4 := hS43_4
       refine Ll.nil (Lu.joint (fun _ h => h.pick [1, 2, 3, 4] rfl (by decide)) ?_)
       refine Lu.take (v := str ((b.rel.take ((k32).toNat)) ++ t43_4)) rfl rfl rfl rfl rfl (OpQ.sadd rfl rfl rfl (by (try simp only [List.length_append]); rw [List.length_take, hlt43_4, List.length_take, List.length_drop]; omega)) (fun _ h => h.pick [1, 2, 3, 4] rfl (by decide)) ?_
       refine Lu.take (v := str (((b.rel.take ((k32).toNat)) ++ t43_4) ++ (b.rel.drop ((k32 + (1 : Int)).toNat)))) rfl rfl rfl rfl rfl (OpQ.sadd rfl rfl rfl (by (try simp only [List.length_append]); rw [List.length_take, hlt43_4, List.length_take, List.length_drop, List.length_drop]; omega)) (fun _ h => h.pick [1, 2, 3, 4] rfl (by decide)) ?_
       refine Lu.take (v := .pointer (some ⟨q, 2, none⟩)) rfl rfl rfl rfl rfl (OpQ.fieldAddr rfl Tryd.runUnderlying26 rfl Tryd.sizeOf9 rfl rfl) (fun _ h => h.pick [1, 2, 3, 4] rfl (by decide)) ?_
       refine Lu.loud rfl ?_
       refine Ll.store1 (v := str (((b.rel.take ((k32).toNat)) ++ t43_4) ++ (b.rel.drop ((k32 + (1 : Int)).toNat)))) (hs' := ((q, .cells #[.int .i64 b.n, str b.set, str (((b.rel.take ((k32).toNat)) ++ t43_4) ++ (b.rel.drop ((k32 + (1 : Int)).toNat)))] 26 (0, 0)) :: (p4, .cells #[.int .i64 a8.n, str a8.set, str a8.rel] 26 (0, 0)) :: (p3, .cells #[.int .i64 0, str ([]), str ([])] 26 (0, 0)) :: (p2, .cells #[.int .i64 0, str ([]), str ([])] 26 (0, 0)) :: (rp, .cells #[bv, .int .i64 ((p_32 : Int))] 106 (0, 0)) :: hs)) 0 rfl rfl rfl rfl rfl rfl Tryd.sizeOf9 rfl (by simp) rfl ?_
       refine Ll.nil (Lu.joint (fun _ h => h.pick [1, 2, 3, 4] rfl (by decide)) ?_)
       refine Lu.nil ?_
       refine Kt.joined (((b.rel.take ((k32).toNat)) ++ t43_4) ++ (b.rel.drop ((k32 + (1 : Int)).toNat))) (turned_fine h0k32 hltk32 hlt43_4) (Sub.cons rfl (Sub.cons rfl (Sub.cons rfl (Sub.cons rfl Sub.nil)))) (fun _ h => h)
     ·
      refine Ll.callSome (ok := fun (t : List UInt8) => t.length = ((b.rel.drop ((k32).toNat)).take ((k32 + (1 : Int)).toNat - (k32).toNat)).length) (v := fun (t : List UInt8) => str t) (xs := [.tmp 42]) (vs := [str ((b.rel.drop ((k32).toNat)).take ((k32 + (1 : Int)).toNat - (k32).toNat))]) rfl rfl rfl rfl Tryd.call129 rfl (fun w1 hw1 => (flip_ok ((b.rel.drop ((k32).toNat)).take ((k32 + (1 : Int)).toNat - (k32).toNat)) w1 (by rw [List.length_take, List.length_drop]; omega)).mono fun en w' ⟨t, h1, h2, h3⟩ => ⟨t, h1, h2, h3⟩) fun t43_5 hS43_5 => ?_
      show Ll _ _ (Own _ _ ((q, .cells #[.int .i64 b.n, str b.set, str b.rel] 26 (0, 0)) :: (p4, .cells #[.int .i64 a8.n, str a8.set, str a8.rel] 26 (0, 0)) :: (p3, .cells #[.int .i64 0, str ([]), str ([])] 26 (0, 0)) :: (p2, .cells #[.int .i64 0, str ([]), str ([])] 26 (0, 0)) :: (rp, .cells #[bv, .int .i64 ((p_32 : Int))] 106 (0, 0)) :: hs)) _ _ ((43, str t43_5) :: _) _ _ _
      have hlt43_5 := hS43_5
      refine Ll.nil (Lu.joint (fun _ h => h.pick [1, 2, 3, 4] rfl (by decide)) ?_)
      refine Lu.two rfl rfl ?_ ?_
      ·
       refine Ll.op (v := str b.rel) rfl rfl rfl (OpQ.loadOwn 0 rfl Tryd.isAgg9 rfl rfl rfl) ?_
       refine Ll.nil (Lu.joint (fun _ h => h.pick [1, 2, 3, 4] rfl (by decide)) ?_)
       refine Lu.take (v := str (b.rel.take ((k32).toNat))) rfl rfl rfl rfl rfl (OpQ.sliceStrTo rfl Tryd.underlying9 rfl rfl (by omega) (by omega)) (fun _ h => h.pick [1, 2, 3, 4] rfl (by decide)) ?_
       refine Lu.take (v := str ((b.rel.take ((k32).toNat)) ++ t43_5)) rfl rfl rfl rfl rfl (OpQ.sadd rfl rfl rfl (by (try simp only [List.length_append]); rw [List.length_take, hlt43_5, List.length_take, List.length_drop]; omega)) (fun _ h => h.pick [1, 2, 3, 4] rfl (by decide)) ?_
       refine Lu.loud rfl ?_
       refine Ll.op (v := str b.rel) rfl rfl rfl (OpQ.loadOwn 0 rfl Tryd.isAgg9 rfl rfl rfl) ?_
       refine Ll.nil (Lu.joint (fun _ h => h.pick [1, 2, 3, 4] rfl (by decide)) ?_)
       refine Lu.take (v := str (b.rel.drop ((k32 + (1 : Int)).toNat))) rfl rfl rfl rfl rfl (OpQ.sliceStrFrom rfl Tryd.underlying9 rfl rfl (by omega) (by omega)) (fun _ h => h.pick [1, 2, 3, 4] rfl (by decide)) ?_
       refine Lu.take (v := str (((b.rel.take ((k32).toNat)) ++ t43_5) ++ (b.rel.drop ((k32 + (1 : Int)).toNat)))) rfl rfl rfl rfl rfl (OpQ.sadd rfl rfl rfl (by (try simp only [List.length_append]); rw [List.length_take, hlt43_5, List.length_take, List.length_drop, List.length_drop]; omega)) (fun _ h => h.pick [1, 2, 3, 4] rfl (by decide)) ?_
       refine Lu.take (v := .pointer (some ⟨q, 2, none⟩)) rfl rfl rfl rfl rfl (OpQ.fieldAddr rfl Tryd.runUnderlying26 rfl Tryd.sizeOf9 rfl rfl) (fun _ h => h.pick [1, 2, 3, 4] rfl (by decide)) ?_
       refine Lu.loud rfl ?_
       refine Ll.store1 (v := str (((b.rel.take ((k32).toNat)) ++ t43_5) ++ (b.rel.drop ((k32 + (1 : Int)).toNat)))) (hs' := ((q, .cells #[.int .i64 b.n, str b.set, str (((b.rel.take ((k32).toNat)) ++ t43_5) ++ (b.rel.drop ((k32 + (1 : Int)).toNat)))] 26 (0, 0)) :: (p4, .cells #[.int .i64 a8.n, str a8.set, str a8.rel] 26 (0, 0)) :: (p3, .cells #[.int .i64 0, str ([]), str ([])] 26 (0, 0)) :: (p2, .cells #[.int .i64 0, str ([]), str ([])] 26 (0, 0)) :: (rp, .cells #[bv, .int .i64 ((p_32 : Int))] 106 (0, 0)) :: hs)) 0 rfl rfl rfl rfl rfl rfl Tryd.sizeOf9 rfl (by simp) rfl ?_
       refine Ll.nil (Lu.joint (fun _ h => h.pick [1, 2, 3, 4] rfl (by decide)) ?_)
       refine Lu.nil ?_
       refine Kt.joined (((b.rel.take ((k32).toNat)) ++ t43_5) ++ (b.rel.drop ((k32 + (1 : Int)).toNat))) (turned_fine h0k32 hltk32 hlt43_5) (Sub.cons rfl (Sub.cons rfl (Sub.cons rfl (Sub.cons rfl Sub.nil)))) (fun _ h => h)
      ·
       refine Ll.op (v := str b.rel) rfl rfl rfl (OpQ.loadOwn 0 rfl Tryd.isAgg9 rfl rfl rfl) ?_
       refine Ll.nil (Lu.joint (fun _ h => h.pick [1, 2, 3, 4] rfl (by decide)) ?_)
       refine Lu.take (v := str (b.rel.drop ((k32 + (1 : Int)).toNat))) rfl rfl rfl rfl rfl (OpQ.sliceStrFrom rfl Tryd.underlying9 rfl rfl (by omega) (by omega)) (fun _ h => h.pick [1, 2, 3, 4] rfl (by decide)) ?_
       refine Lu.loud rfl ?_
       refine Ll.op (v := str b.rel) rfl rfl rfl (OpQ.loadOwn 0 rfl Tryd.isAgg9 rfl rfl rfl) ?_
       refine Ll.nil (Lu.joint (fun _ h => h.pick [1, 2, 3, 4] rfl (by decide)) ?_)
       refine Lu.take (v := str (b.rel.take ((k32).toNat))) rfl rfl rfl rfl rfl (OpQ.sliceStrTo rfl Tryd.underlying9 rfl rfl (by omega) (by omega)) (fun _ h => h.pick [1, 2, 3, 4] rfl (by decide)) ?_
       refine Lu.take (v := str ((b.rel.take ((k32).toNat)) ++ t43_5)) rfl rfl rfl rfl rfl (OpQ.sadd rfl rfl rfl (by (try simp only [List.length_append]); rw [List.length_take, hlt43_5, List.length_take, List.length_drop]; omega)) (fun _ h => h.pick [1, 2, 3, 4] rfl (by decide)) ?_
       refine Lu.take (v := str (((b.rel.take ((k32).toNat)) ++ t43_5) ++ (b.rel.drop ((k32 + (1 : Int)).toNat)))) rfl rfl rfl rfl rfl (OpQ.sadd rfl rfl rfl (by (try simp only [List.length_append]); rw [List.length_take, hlt43_5, List.length_take, List.length_drop, List.length_drop]; omega)) (fun _ h => h.pick [1, 2, 3, 4] rfl (by decide)) ?_
       refine Lu.take (v := .pointer (some ⟨q, 2, none⟩)) rfl rfl rfl rfl rfl (OpQ.fieldAddr rfl Tryd.runUnderlying26 rfl Tryd.sizeOf9 rfl rfl) (fun _ h => h.pick [1, 2, 3, 4] rfl (by decide)) ?_
       refine Lu.loud rfl ?_
       refine Ll.store1 (v := str (((b.rel.take ((k32).toNat)) ++ t43_5) ++ (b.rel.drop ((k32 + (1 : Int)).toNat)))) (hs' := ((q, .cells #[.int .i64 b.n, str b.set, str (((b.rel.take ((k32).toNat)) ++ t43_5) ++ (b.rel.drop ((k32 + (1 : Int)).toNat)))] 26 (0, 0)) :: (p4, .cells #[.int .i64 a8.n, str a8.set, str a8.rel] 26 (0, 0)) :: (p3, .cells #[.int .i64 0, str ([]), str ([])] 26 (0, 0)) :: (p2, .cells #[.int .i64 0, str ([]), str ([])] 26 (0, 0)) :: (rp, .cells #[bv, .int .i64 ((p_32 : Int))] 106 (0, 0)) :: hs)) 0 rfl rfl rfl rfl rfl rfl Tryd.sizeOf9 rfl (by simp) rfl ?_
       refine Ll.nil (Lu.joint (fun _ h => h.pick [1, 2, 3, 4] rfl (by decide)) ?_)
       refine Lu.nil ?_
       refine Kt.joined (((b.rel.take ((k32).toNat)) ++ t43_5) ++ (b.rel.drop ((k32 + (1 : Int)).toNat))) (turned_fine h0k32 hltk32 hlt43_5) (Sub.cons rfl (Sub.cons rfl (Sub.cons rfl (Sub.cons rfl Sub.nil)))) (fun _ h => h)
     ·
      refine Ll.op (v := str b.rel) rfl rfl rfl (OpQ.loadOwn 0 rfl Tryd.isAgg9 rfl rfl rfl) ?_
      refine Ll.nil (Lu.joint (fun _ h => h.pick [1, 2, 3, 4] rfl (by decide)) ?_)
      refine Lu.take (v := str (b.rel.drop ((k32 + (1 : Int)).toNat))) rfl rfl rfl rfl rfl (OpQ.sliceStrFrom rfl Tryd.underlying9 rfl rfl (by omega) (by omega)) (fun _ h => h.pick [1, 2, 3, 4] rfl (by decide)) ?_
      refine Lu.two rfl rfl ?_ ?_
      ·
       refine Ll.op (v := str b.rel) rfl rfl rfl (OpQ.loadOwn 0 rfl Tryd.isAgg9 rfl rfl rfl) ?_
       refine Ll.nil (Lu.joint (fun _ h => h.pick [1, 2, 3, 4] rfl (by decide)) ?_)
       refine Lu.take (v := str (b.rel.take ((k32).toNat))) rfl rfl rfl rfl rfl (OpQ.sliceStrTo rfl Tryd.underlying9 rfl rfl (by omega) (by omega)) (fun _ h => h.pick [1, 2, 3, 4] rfl (by decide)) ?_
       refine Lu.loud rfl ?_
       refine Ll.callSome (ok := fun (t : List UInt8) => t.length = ((b.rel.drop ((k32).toNat)).take ((k32 + (1 : Int)).toNat - (k32).toNat)).length) (v := fun (t : List UInt8) => str t) (xs := [.tmp 42]) (vs := [str ((b.rel.drop ((k32).toNat)).take ((k32 + (1 : Int)).toNat - (k32).toNat))]) rfl rfl rfl rfl Tryd.call129 rfl (fun w1 hw1 => (flip_ok ((b.rel.drop ((k32).toNat)).take ((k32 + (1 : Int)).toNat - (k32).toNat)) w1 (by rw [List.length_take, List.length_drop]; omega)).mono fun en w' ⟨t, h1, h2, h3⟩ => ⟨t, h1, h2, h3⟩) fun t43_6 hS43_6 => ?_
       show Ll _ _ (Own _ _ ((q, .cells #[.int .i64 b.n, str b.set, str b.rel] 26 (0, 0)) :: (p4, .cells #[.int .i64 a8.n, str a8.set, str a8.rel] 26 (0, 0)) :: (p3, .cells #[.int .i64 0, str ([]), str ([])] 26 (0, 0)) :: (p2, .cells #[.int .i64 0, str ([]), str ([])] 26 (0, 0)) :: (rp, .cells #[bv, .int .i64 ((p_32 : Int))] 106 (0, 0)) :: hs)) _ _ ((43, str t43_6) :: _) _ _ _
       have hlt43_6 := hS43_6
       refine Ll.nil (Lu.joint (fun _ h => h.pick [1, 2, 3, 4] rfl (by decide)) ?_)
       refine Lu.take (v := str ((b.rel.take ((k32).toNat)) ++ t43_6)) rfl rfl rfl rfl rfl (OpQ.sadd rfl rfl rfl (by (try simp only [List.length_append]); rw [List.length_take, hlt43_6, List.length_take, List.length_drop]; omega)) (fun _ h => h.pick [1, 2, 3, 4] rfl (by decide)) ?_
       refine Lu.take (v := str (((b.rel.take ((k32).toNat)) ++ t43_6) ++ (b.rel.drop ((k32 + (1 : Int)).toNat)))) rfl rfl rfl rfl rfl (OpQ.sadd rfl rfl rfl (by (try simp only [List.length_append]); rw [List.length_take, hlt43_6, List.length_take, List.length_drop, List.length_drop]; omega)) (fun _ h => h.pick [1, 2, 3, 4] rfl (by decide)) ?_
       refine Lu.take (v := .pointer (some ⟨q, 2, none⟩)) rfl rfl rfl rfl rfl (OpQ.fieldAddr rfl Tryd.runUnderlying26 rfl Tryd.sizeOf9 rfl rfl) (fun _ h => h.pick [1, 2, 3, 4] rfl (by decide)) ?_
       refine Lu.loud rfl ?_
       refine Ll.store1 (v := str (((b.rel.take ((k32).toNat)) ++ t43_6) ++ (b.rel.drop ((k32 + (1 : Int)).toNat)))) (hs' := ((q, .cells #[.int .i64 b.n, str b.set, str (((b.rel.take ((k32).toNat)) ++ t43_6) ++ (b.rel.drop ((k32 + (1 : Int)).toNat)))] 26 (0, 0)) :: (p4, .cells #[.int .i64 a8.n, str a8.set, str a8.rel] 26 (0, 0)) :: (p3, .cells #[.int .i64 0, str ([]), str ([])] 26 (0, 0)) :: (p2, .cells #[.int .i64 0, str ([]), str ([])] 26 (0, 0)) :: (rp, .cells #[bv, .int .i64 ((p_32 : Int))] 106 (0, 0)) :: hs)) 0 rfl rfl rfl rfl rfl rfl Tryd.sizeOf9 rfl (by simp) rfl ?_
       refine Ll.nil (Lu.joint (fun _ h => h.pick [1, 2, 3, 4] rfl (by decide)) ?_)
       refine Lu.nil ?_
       refine Kt.joined (((b.rel.take ((k32).toNat)) ++ t43_6) ++ (b.rel.drop ((k32 + (1 : Int)).toNat))) (turned_fine h0k32 hltk32 hlt43_6) (Sub.cons rfl (Sub.cons rfl (Sub.cons rfl (Sub.cons rfl Sub.nil)))) (fun _ h => h)
      ·
       refine Ll.callSome (ok := fun (t : List UInt8) => t.length = ((b.rel.drop ((k32).toNat)).take ((k32 + (1 : Int)).toNat - (k32).toNat)).length) (v := fun (t : List UInt8) => str t) (xs := [.tmp 42]) (vs := [str ((b.rel.drop ((k32).toNat)).take ((k32 + (1 : Int)).toNat - (k32).toNat))]) rfl rfl rfl rfl Tryd.call129 rfl (fun w1 hw1 => (flip_ok ((b.rel.drop ((k32).toNat)).take ((k32 + (1 : Int)).toNat - (k32).toNat)) w1 (by rw [List.length_take, List.length_drop]; omega)).mono fun en w' ⟨t, h1, h2, h3⟩ => ⟨t, h1, h2, h3⟩) fun t43_7 hS43_7 => ?_
       show Ll _ _ (Own _ _ ((q, .cells #[.int .i64 b.n, str b.set, str b.rel] 26 (0, 0)) :: (p4, .cells #[.int .i64 a8.n, str a8.set, str a8.rel] 26 (0, 0)) :: (p3, .cells #[.int .i64 0, str ([]), str ([])] 26 (0, 0)) :: (p2, .cells #[.int .i64 0, str ([]), str ([])] 26 (0, 0)) :: (rp, .cells #[bv, .int .i64 ((p_32 : Int))] 106 (0, 0)) :: hs)) _ _ ((43, str t43_7) :: _) _ _ _
       have hlt43_7 := hS43_7
       refine Ll.nil (Lu.joint (fun _ h => h.pick [1, 2, 3, 4] rfl (by decide)) ?_)
       refine Lu.loud rfl ?_
       refine Ll.op (v := str b.rel) rfl rfl rfl (OpQ.loadOwn 0 rfl Tryd.isAgg9 rfl rfl rfl) ?_
       refine Ll.nil (Lu.joint (fun _ h => h.pick [1, 2, 3, 4] rfl (by decide)) ?_)
       refine Lu.take (v := str (b.rel.take ((k32).toNat))) rfl rfl rfl rfl rfl (OpQ.sliceStrTo rfl Tryd.underlying9 rfl rfl (by omega) (by omega)) (fun _ h => h.pick [1, 2, 3, 4] rfl (by decide)) ?_
       refine Lu.take (v := str ((b.rel.take ((k32).toNat)) ++ t43_7)) rfl rfl rfl rfl rfl (OpQ.sadd rfl rfl rfl (by (try simp only [List.length_append]); rw [List.length_take, hlt43_7, List.length_take, List.length_drop]; omega)) (fun _ h => h.pick [1, 2, 3, 4] rfl (by decide)) ?_
       refine Lu.take (v := str (((b.rel.take ((k32).toNat)) ++ t43_7) ++ (b.rel.drop ((k32 + (1 : Int)).toNat)))) rfl rfl rfl rfl rfl (OpQ.sadd rfl rfl rfl (by (try simp only [List.length_append]); rw [List.length_take, hlt43_7, List.length_take, List.length_drop, List.length_drop]; omega)) (fun _ h => h.pick [1, 2, 3, 4] rfl (by decide)) ?_
       refine Lu.take (v := .pointer (some ⟨q, 2, none⟩)) rfl rfl rfl rfl rfl (OpQ.fieldAddr rfl Tryd.runUnderlying26 rfl Tryd.sizeOf9 rfl rfl) (fun _ h => h.pick [1, 2, 3, 4] rfl (by decide)) ?_
       refine Lu.loud rfl ?_
       refine Ll.store1 (v := str (((b.rel.take ((k32).toNat)) ++ t43_7) ++ (b.rel.drop ((k32 + (1 : Int)).toNat)))) (hs' := ((q, .cells #[.int .i64 b.n, str b.set, str (((b.rel.take ((k32).toNat)) ++ t43_7) ++ (b.rel.drop ((k32 + (1 : Int)).toNat)))] 26 (0, 0)) :: (p4, .cells #[.int .i64 a8.n, str a8.set, str a8.rel] 26 (0, 0)) :: (p3, .cells #[.int .i64 0, str ([]), str ([])] 26 (0, 0)) :: (p2, .cells #[.int .i64 0, str ([]), str ([])] 26 (0, 0)) :: (rp, .cells #[bv, .int .i64 ((p_32 : Int))] 106 (0, 0)) :: hs)) 0 rfl rfl rfl rfl rfl rfl Tryd.sizeOf9 rfl (by simp) rfl ?_
       refine Ll.nil (Lu.joint (fun _ h => h.pick [1, 2, 3, 4] rfl (by decide)) ?_)
       refine Lu.nil ?_
       refine Kt.joined (((b.rel.take ((k32).toNat)) ++ t43_7) ++ (b.rel.drop ((k32 + (1 : Int)).toNat))) (turned_fine h0k32 hltk32 hlt43_7) (Sub.cons rfl (Sub.cons rfl (Sub.cons rfl (Sub.cons rfl Sub.nil)))) (fun _ h => h)
    ·
     refine Ll.op (v := str b.rel) rfl rfl rfl (OpQ.loadOwn 0 rfl Tryd.isAgg9 rfl rfl rfl) ?_
     refine Ll.nil (Lu.joint (fun _ h => h.pick [1, 2, 3, 4] rfl (by decide)) ?_)
     refine Lu.take (v := str (b.rel.drop ((k32 + (1 : Int)).toNat))) rfl rfl rfl rfl rfl (OpQ.sliceStrFrom rfl Tryd.underlying9 rfl rfl (by omega) (by omega)) (fun _ h => h.pick [1, 2, 3, 4] rfl (by decide)) ?_
     refine Lu.two rfl rfl ?_ ?_
     ·
      refine Ll.op (v := str b.rel) rfl rfl rfl (OpQ.loadOwn 0 rfl Tryd.isAgg9 rfl rfl rfl) ?_
      refine Ll.nil (Lu.joint (fun _ h => h.pick [1, 2, 3, 4] rfl (by decide)) ?_)
      refine Lu.take (v := str (b.rel.take ((k32).toNat))) rfl rfl rfl rfl rfl (OpQ.sliceStrTo rfl Tryd.underlying9 rfl rfl (by omega) (by omega)) (fun _ h => h.pick [1, 2, 3, 4] rfl (by decide)) ?_
      refine Lu.loud rfl ?_
      refine Ll.op (v := str b.rel) rfl rfl rfl (OpQ.loadOwn 0 rfl Tryd.isAgg9 rfl rfl rfl) ?_
      refine Ll.nil (Lu.joint (fun _ h => h.pick [1, 2, 3, 4] rfl (by decide)) ?_)
      refine Lu.take (v := str ((b.rel.drop ((k32).toNat)).take ((k32 + (1 : Int)).toNat - (k32).toNat))) rfl rfl rfl rfl rfl (OpQ.sliceStr rfl Tryd.underlying9 rfl rfl rfl (by omega) (by omega) (by first | omega | (simp; omega))) (fun _ h => h.pick [1, 2, 3, 4] rfl (by decide)) ?_
      refine Lu.loud rfl ?_
      refine Ll.callSome (ok := fun (t : List UInt8) => t.length = ((b.rel.drop ((k32).toNat)).take ((k32 + (1 : Int)).toNat - (k32).toNat)).length) (v := fun (t : List UInt8) => str t) (xs := [.tmp 42]) (vs := [str ((b.rel.drop ((k32).toNat)).take ((k32 + (1 : Int)).toNat - (k32).toNat))]) rfl rfl rfl rfl Tryd.call129 rfl (fun w1 hw1 => (flip_ok ((b.rel.drop ((k32).toNat)).take ((k32 + (1 : Int)).toNat - (k32).toNat)) w1 (by rw [List.length_take, List.length_drop]; omega)).mono fun en w' ⟨t, h1, h2, h3⟩ => ⟨t, h1, h2, h3⟩) fun t43_8 hS43_8 => ?_
      show Ll _ _ (Own _ _ ((q, .cells #[.int .i64 b.n, str b.set, str b.rel] 26 (0, 0)) :: (p4, .cells #[.int .i64 a8.n, str a8.set, str a8.rel] 26 (0, 0)) :: (p3, .cells #[.int .i64 0, str ([]), str ([])] 26 (0, 0)) :: (p2, .cells #[.int .i64 0, str ([]), str ([])] 26 (0, 0)) :: (rp, .cells #[bv, .int .i64 ((p_32 : Int))] 106 (0, 0)) :: hs)) _ _ ((43, str t43_8) :: _) _ _ _
      have hlt43_8 := hS43_8
      refine Ll.nil (Lu.joint (fun _ h => h.pick [1, 2, 3, 4] rfl (by decide)) ?_)
      refine Lu.take (v := str ((b.rel.take ((k32).toNat)) ++ t43_8)) rfl rfl rfl rfl rfl (OpQ.sadd rfl rfl rfl (by (try simp only [List.length_append]); rw [List.length_take, hlt43_8, List.length_take, List.length_drop]; omega)) (fun _ h => h.pick [1, 2, 3, 4] rfl (by decide)) ?_
      refine Lu.take (v := str (((b.rel.take ((k32).toNat)) ++ t43_8) ++ (b.rel.drop ((k32 + (1 : Int)).toNat)))) rfl rfl rfl rfl rfl (OpQ.sadd rfl rfl rfl (by (try simp only [List.length_append]); rw [List.length_take, hlt43_8, List.length_take, List.length_drop, List.length_drop]; omega)) (fun _ h => h.pick [1, 2, 3, 4] rfl (by decide)) ?_
      refine Lu.take (v := .pointer (some ⟨q, 2, none⟩)) rfl rfl rfl rfl rfl (OpQ.fieldAddr rfl Tryd.runUnderlying26 rfl Tryd.sizeOf9 rfl rfl) (fun _ h => h.pick [1, 2, 3, 4] rfl (by decide)) ?_
      refine Lu.loud rfl ?_
      refine Ll.store1 (v := str (((b.rel.take ((k32).toNat)) ++ t43_8) ++ (b.rel.drop ((k32 + (1 : Int)).toNat)))) (hs' := ((q, .cells #[.int .i64 b.n, str b.set, str (((b.rel.take ((k32).toNat)) ++ t43_8) ++ (b.rel.drop ((k32 + (1 : Int)).toNat)))] 26 (0, 0)) :: (p4, .cells #[.int .i64 a8.n, str a8.set, str a8.rel] 26 (0, 0)) :: (p3, .cells #[.int .i64 0, str ([]), str ([])] 26 (0, 0)) :: (p2, .cells #[.int .i64 0, str ([]), str ([])] 26 (0, 0)) :: (rp, .cells #[bv, .int .i64 ((p_32 : Int))] 106 (0, 0)) :: hs)) 0 rfl rfl rfl rfl rfl rfl Tryd.sizeOf9 rfl (by simp) rfl ?_
      refine Ll.nil (Lu.joint (fun _ h => h.pick [1, 2, 3, 4] rfl (by decide)) ?_)
      refine Lu.nil ?_
      refine Kt.joined (((b.rel.take ((k32).toNat)) ++ t43_8) ++ (b.rel.drop ((k32 + (1 : Int)).toNat))) (turned_fine h0k32 hltk32 hlt43_8) (Sub.cons rfl (Sub.cons rfl (Sub.cons rfl (Sub.cons rfl Sub.nil)))) (fun _ h => h)
     ·
      refine Ll.op (v := str b.rel) rfl rfl rfl (OpQ.loadOwn 0 rfl Tryd.isAgg9 rfl rfl rfl) ?_
      refine Ll.nil (Lu.joint (fun _ h => h.pick [1, 2, 3, 4] rfl (by decide)) ?_)
      refine Lu.take (v := str ((b.rel.drop ((k32).toNat)).take ((k32 + (1 : Int)).toNat - (k32).toNat))) rfl rfl rfl rfl rfl (OpQ.sliceStr rfl Tryd.underlying9 rfl rfl rfl (by omega) (by omega) (by first | omega | (simp; omega))) (fun _ h => h.pick [1, 2, 3, 4] rfl (by decide)) ?_
      refine Lu.two rfl rfl ?_ ?_
      ·
       refine Ll.op (v := str b.rel) rfl rfl rfl (OpQ.loadOwn 0 rfl Tryd.isAgg9 rfl rfl rfl) ?_
       refine Ll.nil (Lu.joint (fun _ h => h.pick [1, 2, 3, 4] rfl (by decide)) ?_)
       refine Lu.take (v := str (b.rel.take ((k32).toNat))) rfl rfl rfl rfl rfl (OpQ.sliceStrTo rfl Tryd.underlying9 rfl rfl (by omega) (by omega)) (fun _ h => h.pick [1, 2, 3, 4] rfl (by decide)) ?_
       refine Lu.loud rfl ?_
       refine Ll.callSome (ok := fun (t : List UInt8) => t.length = ((b.rel.drop ((k32).toNat)).take ((k32 + (1 : Int)).toNat - (k32).toNat)).length) (v := fun (t : List UInt8) => str t) (xs := [.tmp 42]) (vs := [str ((b.rel.drop ((k32).toNat)).take ((k32 + (1 : Int)).toNat - (k32).toNat))]) rfl rfl rfl rfl Tryd.call129 rfl (fun w1 hw1 => (flip_ok ((b.rel.drop ((k32).toNat)).take ((k32 + (1 : Int)).toNat - (k32).toNat)) w1 (by rw [List.length_take, List.length_drop]; omega)).mono fun en w' ⟨t, h1, h2, h3⟩ => ⟨t, h1, h2, h3⟩) fun t43_9 hS43_9 => ?_
       show Ll _ _ (Own _ _ ((q, .cells #[.int .i64 b.n, str b.set, str b.rel] 26 (0, 0)) :: (p4, .cells #[.int .i64 a8.n, str a8.set, str a8.rel] 26 (0, 0)) :: (p3, .cells #[.int .i64 0, str ([]), str ([])] 26 (0, 0)) :: (p2, .cells #[.int .i64 0, str ([]), str ([])] 26 (0, 0)) :: (rp, .cells #[bv, .int .i64 ((p_32 : Int))] 106 (0, 0)) :: hs)) _ _ ((43, str t43_9) :: _) _ _ _
       have hlt43_9 := hS43_9
       refine Ll.nil (Lu.joint (fun _ h => h.pick [1, 2, 3, 4] rfl (by decide)) ?_)
       refine Lu.take (v := str ((b.rel.take ((k32).toNat)) ++ t43_9)) rfl rfl rfl rfl rfl (OpQ.sadd rfl rfl rfl (by (try simp only [List.length_append]); rw [List.length_take, hlt43_9, List.length_take, List.length_drop]; omega)) (fun _ h => h.pick [1, 2, 3, 4] rfl (by decide)) ?_
       refine Lu.take (v := str (((b.rel.take ((k32).toNat)) ++ t43_9) ++ (b.rel.drop ((k32 + (1 : Int)).toNat)))) rfl rfl rfl rfl rfl (OpQ.sadd rfl rfl rfl (by (try simp only [List.length_append]); rw [List.length_take, hlt43_9, List.length_take, List.length_drop, List.length_drop]; omega)) (fun _ h => h.pick [1, 2, 3, 4] rfl (by decide)) ?_
       refine Lu.take (v := .pointer (some ⟨q, 2, none⟩)) rfl rfl rfl rfl rfl (OpQ.fieldAddr rfl Tryd.runUnderlying26 rfl Tryd.sizeOf9 rfl rfl) (fun _ h => h.pick [1, 2, 3, 4] rfl (by decide)) ?_
       refine Lu.loud rfl ?_
       refine Ll.store1 (v := str (((b.rel.take ((k32).toNat)) ++ t43_9) ++ (b.rel.drop ((k32 + (1 : Int)).toNat)))) (hs' := ((q, .cells #[.int .i64 b.n, str b.set, str (((b.rel.take ((k32).toNat)) ++ t43_9) ++ (b.rel.drop ((k32 + (1 : Int)).toNat)))] 26 (0, 0)) :: (p4, .cells #[.int .i64 a8.n, str a8.set, str a8.rel] 26 (0, 0)) :: (p3, .cells #[.int .i64 0, str ([]), str ([])] 26 (0, 0)) :: (p2, .cells #[.int .i64 0, str ([]), str ([])] 26 (0, 0)) :: (rp, .cells #[bv, .int .i64 ((p_32 : Int))] 106 (0, 0)) :: hs)) 0 rfl rfl rfl rfl rfl rfl Tryd.sizeOf9 rfl (by simp) rfl ?_
       refine Ll.nil (Lu.joint (fun _ h => h.pick [1, 2, 3, 4] rfl (by decide)) ?_)
       refine Lu.nil ?_
       refine Kt.joined (((b.rel.take ((k32).toNat)) ++ t43_9) ++ (b.rel.drop ((k32 + (1 : Int)).toNat))) (turned_fine h0k32 hltk32 hlt43_9) (Sub.cons rfl (Sub.cons rfl (Sub.cons rfl (Sub.cons rfl Sub.nil)))) (fun _ h => h)
      ·
       refine Ll.callSome (ok := fun (t : List UInt8) => t.length = ((b.rel.drop ((k32).toNat)).take ((k32 + (1 : Int)).toNat - (k32).toNat)).length) (v := fun (t : List UInt8) => str t) (xs := [.tmp 42]) (vs := [str ((b.rel.drop ((k32).toNat)).take ((k32 + (1 : Int)).toNat - (k32).toNat))]) rfl rfl rfl rfl Tryd.call129 rfl (fun w1 hw1 => (flip_ok ((b.rel.drop ((k32).toNat)).take ((k32 + (1 : Int)).toNat - (k32).toNat)) w1 (by rw [List.length_take, List.length_drop]; omega)).mono fun en w' ⟨t, h1, h2, h3⟩ => ⟨t, h1, h2, h3⟩) fun t43_10 hS43_10 => ?_
       show Ll _ _ (Own _ _ ((q, .cells #[.int .i64 b.n, str b.set, str b.rel] 26 (0, 0)) :: (p4, .cells #[.int .i64 a8.n, str a8.set, str a8.rel] 26 (0, 0)) :: (p3, .cells #[.int .i64 0, str ([]), str ([])] 26 (0, 0)) :: (p2, .cells #[.int .i64 0, str ([]), str ([])] 26 (0, 0)) :: (rp, .cells #[bv, .int .i64 ((p_32 : Int))] 106 (0, 0)) :: hs)) _ _ ((43, str t43_10) :: _) _ _ _
       have hlt43_10 := hS43_10
       refine Ll.nil (Lu.joint (fun _ h => h.pick [1, 2, 3, 4] rfl (by decide)) ?_)
       refine Lu.loud rfl ?_
       refine Ll.op (v := str b.rel) rfl rfl rfl (OpQ.loadOwn 0 rfl Tryd.isAgg9 rfl rfl rfl) ?_
       refine Ll.nil (Lu.joint (fun _ h => h.pick [1, 2, 3, 4] rfl (by decide)) ?_)
       refine Lu.take (v := str (b.rel.take ((k32).toNat))) rfl rfl rfl rfl rfl (OpQ.sliceStrTo rfl Tryd.underlying9 rfl rfl (by omega) (by omega)) (fun _ h => h.pick [1, 2, 3, 4] rfl (by decide)) ?_
       refine Lu.take (v := str ((b.rel.take ((k32).toNat)) ++ t43_10)) rfl rfl rfl rfl rfl (OpQ.sadd rfl rfl rfl (by (try simp only [List.length_append]); rw [List.length_take, hlt43_10, List.length_take, List.length_drop]; omega)) (fun _ h => h.pick [1, 2, 3, 4] rfl (by decide)) ?_
       refine Lu.take (v := str (((b.rel.take ((k32).toNat)) ++ t43_10) ++ (b.rel.drop ((k32 + (1 : Int)).toNat)))) rfl rfl rfl rfl rfl (OpQ.sadd rfl rfl rfl (by (try simp only [List.length_append]); rw [List.length_take, hlt43_10, List.length_take, List.length_drop, List.length_drop]; omega)) (fun _ h => h.pick [1, 2, 3, 4] rfl (by decide)) ?_
       refine Lu.take (v := .pointer (some ⟨q, 2, none⟩)) rfl rfl rfl rfl rfl (OpQ.fieldAddr rfl Tryd.runUnderlying26 rfl Tryd.sizeOf9 rfl rfl) (fun _ h => h.pick [1, 2, 3, 4] rfl (by decide)) ?_
       refine Lu.loud rfl ?_
       refine Ll.store1 (v := str (((b.rel.take ((k32).toNat)) ++ t43_10) ++ (b.rel.drop ((k32 + (1 : Int)).toNat)))) (hs' := ((q, .cells #[.int .i64 b.n, str b.set, str (((b.rel.take ((k32).toNat)) ++ t43_10) ++ (b.rel.drop ((k32 + (1 : Int)).toNat)))] 26 (0, 0)) :: (p4, .cells #[.int .i64 a8.n, str a8.set, str a8.rel] 26 (0, 0)) :: (p3, .cells #[.int .i64 0, str ([]), str ([])] 26 (0, 0)) :: (p2, .cells #[.int .i64 0, str ([]), str ([])] 26 (0, 0)) :: (rp, .cells #[bv, .int .i64 ((p_32 : Int))] 106 (0, 0)) :: hs)) 0 rfl rfl rfl rfl rfl rfl Tryd.sizeOf9 rfl (by simp) rfl ?_
       refine Ll.nil (Lu.joint (fun _ h => h.pick [1, 2, 3, 4] rfl (by decide)) ?_)
       refine Lu.nil ?_
       refine Kt.joined (((b.rel.take ((k32).toNat)) ++ t43_10) ++ (b.rel.drop ((k32 + (1 : Int)).toNat))) (turned_fine h0k32 hltk32 hlt43_10) (Sub.cons rfl (Sub.cons rfl (Sub.cons rfl (Sub.cons rfl Sub.nil)))) (fun _ h => h)
   rintro R hRl
   refine Kt.onSub (e' := [(2, .pointer (some ⟨p2, 0, none⟩)), (3, .pointer (some ⟨p3, 0, none⟩)), (4, .pointer (some ⟨p4, 0, none⟩)), (5, .pointer (some ⟨q, 0, none⟩))]) (Sub.cons rfl (Sub.cons rfl (Sub.cons rfl (Sub.cons rfl Sub.nil)))) ?_
   refine Wk.seq ?_
   refine Wk.regionS (S := Own B w0 [(q, .cells #[.int .i64 b.n, str b.set, str R] 26 (0, 0)), (p4, .cells #[.int .i64 a8.n, str a8.set, str a8.rel] 26 (0, 0)), (rp, .cells #[bv, .int .i64 ((p_32 : Int))] 106 (0, 0))]) [(0, true), (1, true), (2, false), (3, false)] Base.mixed (fun _ h => h.drawn) (by kernel_rfl) ?_
   refine Ld.take (v := vS a8) rfl rfl rfl rfl rfl (OpQ.loadBox (cs := #[.int .i64 a8.n, str a8.set, str a8.rel]) 1 rfl Tryd.isAgg26 rfl rfl Tryd.sizeOf26) (fun _ h => h.pick [0, 1, 4] rfl (by decide)) ?_
   refine Ld.take (v := .agg #[.int .i64 b.n, str b.set, str R]) rfl rfl rfl rfl rfl (OpQ.loadBox (cs := #[.int .i64 b.n, str b.set, str R]) 0 rfl Tryd.isAgg26 rfl rfl Tryd.sizeOf26) (fun _ h => h.pick [0, 1, 4] rfl (by decide)) ?_
   refine Ld.loud rfl ?_
   refine Ll.storeBox (cs' := #[.int .i64 a8.n, str a8.set, str a8.rel]) (hs' := ((q, .cells #[.int .i64 b.n, str b.set, str R] 26 (0, 0)) :: (p4, .cells #[.int .i64 a8.n, str a8.set, str a8.rel] 26 (0, 0)) :: (p3, .cells #[.int .i64 0, str ([]), str ([])] 26 (0, 0)) :: (p2, .cells #[.int .i64 a8.n, str a8.set, str a8.rel] 26 (0, 0)) :: (rp, .cells #[bv, .int .i64 ((p_32 : Int))] 106 (0, 0)) :: hs)) 3 rfl rfl rfl rfl rfl (by kernel_rfl : _ = some Tryd.t26) rfl rfl rfl rfl rfl ?_
   refine Ll.nil (Ld.joint (fun _ h => h.pick [0, 1, 4] rfl (by decide)) ?_)
   refine Ld.loud rfl ?_
   refine Ll.storeBox (cs' := #[.int .i64 b.n, str b.set, str R]) (hs' := ((q, .cells #[.int .i64 b.n, str b.set, str R] 26 (0, 0)) :: (p4, .cells #[.int .i64 a8.n, str a8.set, str a8.rel] 26 (0, 0)) :: (p3, .cells #[.int .i64 b.n, str b.set, str R] 26 (0, 0)) :: (p2, .cells #[.int .i64 a8.n, str a8.set, str a8.rel] 26 (0, 0)) :: (rp, .cells #[bv, .int .i64 ((p_32 : Int))] 106 (0, 0)) :: hs)) 2 rfl rfl rfl rfl rfl (by kernel_rfl : _ = some Tryd.t26) rfl rfl rfl rfl rfl ?_
   refine Ll.nil (Ld.joint (fun _ h => h.pick [0, 1, 4] rfl (by decide)) ?_)
   refine Ld.nil ?_
   refine Kt.onSub (e' := [(2, .pointer (some ⟨p2, 0, none⟩)), (3, .pointer (some ⟨p3, 0, none⟩))]) (Sub.cons rfl (Sub.cons rfl Sub.nil)) ?_
   refine Wk.ret (Kt.endMany rfl (.cell (cs := #[.int .i64 a8.n, str a8.set, str a8.rel]) rfl (fun w1 hw1 => hw1.loadBox 3 rfl Tryd.isAgg26 Tryd.sizeOf26) (.cell (cs := #[.int .i64 b.n, str b.set, str R]) rfl (fun w1 hw1 => hw1.loadBox 2 rfl Tryd.isAgg26 Tryd.sizeOf26) ResAt.nil)) (by simp) fun w' hw => ?_)
   -- ret 1: vS a8; .agg #[.int .i64 b.n, str b.set, str R]
   exact ⟨a8, ⟨b.n, b.set, R⟩, p_32, rfl, ⟨⟨⟨hfa8, h5a8⟩, ⟨⟨hfb.lo, hfb.hi, hfb.set, by rw [show (_ : List UInt8).length = b.rel.length from hRl]; exact hfb.rel⟩, h5b⟩⟩, by omega⟩, hw.sub (List.Sublist.cons _ (List.Sublist.cons _ (List.Sublist.cons _ (List.Sublist.cons _ (List.Sublist.cons_cons _ (List.Sublist.refl _))))))⟩
  ·
   replace h20 := of_decide_eq_false h20
   refine Wk.seq ?_
   refine Wk.regionQ ?_
   refine Lq.op (v := .bool (decide (k10 = (2 : Int)))) rfl rfl rfl (OpQ.eql rfl rfl rfl) ?_
   refine Lq.op (v := .bool (decide (k10 = (2 : Int)))) rfl rfl rfl (OpQ.assign rfl rfl) ?_
   refine Lq.nil ?_
   refine Kt.onSub (e' := [(0, .pointer (some ⟨rp, 0, none⟩)), (2, .pointer (some ⟨p2, 0, none⟩)), (3, .pointer (some ⟨p3, 0, none⟩)), (4, .pointer (some ⟨p4, 0, none⟩)), (54, .bool (decide (k10 = (2 : Int))))]) (Sub.cons rfl (Sub.cons rfl (Sub.cons rfl (Sub.cons rfl (Sub.cons rfl Sub.nil))))) ?_
   refine Wk.cond (b := decide (k10 = (2 : Int))) rfl (fun h54 => ?_) (fun h54 => ?_)
   ·
    replace h54 := of_decide_eq_true h54
    refine Wk.seq ?_
    refine Wk.regionS (S := Own B w0 [(p4, .cells #[.int .i64 a8.n, str a8.set, str a8.rel] 26 (0, 0))]) [(0, true), (1, true), (2, true), (3, true), (4, false), (5, false), (6, false)] Base.mixed (fun _ h => h.drawn) (by kernel_rfl) ?_
    refine Ld.take (v := vS a8) rfl rfl rfl rfl rfl (OpQ.loadBox (cs := #[.int .i64 a8.n, str a8.set, str a8.rel]) 0 rfl Tryd.isAgg26 rfl rfl Tryd.sizeOf26) (fun _ h => h.pick [0] rfl (by decide)) ?_
    refine Ld.take rfl rfl rfl rfl rfl (OpQ.move rfl rfl) (fun _ h => h.pick [0] rfl (by decide)) ?_
    refine Ld.take (v := .pointer (some ⟨p4, 0, none⟩)) rfl rfl rfl rfl rfl (OpQ.fieldAddr rfl Tryd.runUnderlying26 rfl Tryd.sizeOf3 rfl rfl) (fun _ h => h.pick [0] rfl (by decide)) ?_
    refine Ld.take (v := .int .i64 a8.n) rfl rfl rfl rfl rfl (OpQ.loadOwn 0 rfl Tryd.isAgg3 rfl rfl rfl) (fun _ h => h.pick [0] rfl (by decide)) ?_
    refine Ld.loud rfl ?_
    refine Ll.callRd (rp := rp) (RT := 106) (p := p_10) (bv := bv) (hs := hs) (ok := fun (a : St) p' => (a.n = a8.n ∧ (a.set.length : Int) = a8.n ∧ a.rel.length = a8.n.toNat * a8.n.toNat) ∧ p' ≤ p_10 + 100) (v := fun (a : St) => vS a) (new := fun (a : St) => []) (xs := [.tmp 57, .tmp 59]) (vs := [.pointer (some ⟨rp, 0, none⟩), .int .i64 a8.n]) ([(p4, .cells #[.int .i64 a8.n, str a8.set, str a8.rel] 26 (0, 0)), (p3, .cells #[.int .i64 0, str ([]), str ([])] 26 (0, 0)), (p2, .cells #[.int .i64 0, str ([]), str ([])] 26 (0, 0))] : List (Nat × Obj)) rfl rfl rfl rfl Tryd.call130 rfl (fun w1 hw1 => (l1Draw_ok B w0 (([(p4, .cells #[.int .i64 a8.n, str a8.set, str a8.rel] 26 (0, 0)), (p3, .cells #[.int .i64 0, str ([]), str ([])] 26 (0, 0)), (p2, .cells #[.int .i64 0, str ([]), str ([])] 26 (0, 0))] : List (Nat × Obj)) ++ hs) rp p_10 bv L a8.n w1 (fun w2 hw2 => hb w2 (Own.drop (f := ([(p4, .cells #[.int .i64 a8.n, str a8.set, str a8.rel] 26 (0, 0)), (p3, .cells #[.int .i64 0, str ([]), str ([])] 26 (0, 0)), (p2, .cells #[.int .i64 0, str ([]), str ([])] 26 (0, 0))] : List (Nat × Obj))) hw2)) hL8 hL (by omega) (by omega) (by omega) hw1).mono fun en w' ⟨a', p', h1, h2, h3⟩ => ⟨a', p', h1, h2, h3⟩) fun a60 p_60 hKp_60 => ?_
    show Ll _ _ (Own _ _ ((p4, .cells #[.int .i64 a8.n, str a8.set, str a8.rel] 26 (0, 0)) :: (p3, .cells #[.int .i64 0, str ([]), str ([])] 26 (0, 0)) :: (p2, .cells #[.int .i64 0, str ([]), str ([])] 26 (0, 0)) :: (rp, .cells #[bv, .int .i64 ((p_60 : Int))] 106 (0, 0)) :: hs)) _ _ ((60, vS a60) :: _) _ _ _
    obtain ⟨⟨hna60, hsa60, hra60⟩, hep_60⟩ := hKp_60
    refine Ll.nil (Ld.joint (fun _ h => h.pick [0] rfl (by decide)) ?_)
    refine Ld.loud rfl ?_
    refine Ll.storeBox (cs' := #[.int .i64 a8.n, str a8.set, str a8.rel]) (hs' := ((p4, .cells #[.int .i64 a8.n, str a8.set, str a8.rel] 26 (0, 0)) :: (p3, .cells #[.int .i64 0, str ([]), str ([])] 26 (0, 0)) :: (p2, .cells #[.int .i64 a8.n, str a8.set, str a8.rel] 26 (0, 0)) :: (rp, .cells #[bv, .int .i64 ((p_60 : Int))] 106 (0, 0)) :: hs)) 2 rfl rfl rfl rfl rfl (by kernel_rfl : _ = some Tryd.t26) rfl rfl rfl rfl rfl ?_
    refine Ll.nil (Ld.joint (fun _ h => h.pick [0] rfl (by decide)) ?_)
    refine Ld.loud rfl ?_
    refine Ll.storeBox (cs' := #[.int .i64 a60.n, str a60.set, str a60.rel]) (hs' := ((p4, .cells #[.int .i64 a8.n, str a8.set, str a8.rel] 26 (0, 0)) :: (p3, .cells #[.int .i64 a60.n, str a60.set, str a60.rel] 26 (0, 0)) :: (p2, .cells #[.int .i64 a8.n, str a8.set, str a8.rel] 26 (0, 0)) :: (rp, .cells #[bv, .int .i64 ((p_60 : Int))] 106 (0, 0)) :: hs)) 1 rfl rfl rfl rfl rfl (by kernel_rfl : _ = some Tryd.t26) rfl rfl rfl rfl rfl ?_
    refine Ll.nil (Ld.joint (fun _ h => h.pick [0] rfl (by decide)) ?_)
    refine Ld.nil ?_
    refine Kt.onSub (e' := [(2, .pointer (some ⟨p2, 0, none⟩)), (3, .pointer (some ⟨p3, 0, none⟩))]) (Sub.cons rfl (Sub.cons rfl Sub.nil)) ?_
    refine Wk.ret (Kt.endMany rfl (.cell (cs := #[.int .i64 a8.n, str a8.set, str a8.rel]) rfl (fun w1 hw1 => hw1.loadBox 2 rfl Tryd.isAgg26 Tryd.sizeOf26) (.cell (cs := #[.int .i64 a60.n, str a60.set, str a60.rel]) rfl (fun w1 hw1 => hw1.loadBox 1 rfl Tryd.isAgg26 Tryd.sizeOf26) ResAt.nil)) (by simp) fun w' hw => ?_)
    -- ret 2: vS a8; vS a60
    exact ⟨a8, a60, p_60, rfl, ⟨⟨⟨hfa8, h5a8⟩, draw_fine hna60 hsa60 hra60 (by omega) (by omega)⟩, by omega⟩, hw.sub (List.Sublist.cons _ (List.Sublist.cons _ (List.Sublist.cons _ (List.Sublist.cons_cons _ (List.Sublist.refl _)))))⟩
   ·
    replace h54 := of_decide_eq_false h54
    refine Wk.skip ?_
    refine Kt.onSub (e' := [(0, .pointer (some ⟨rp, 0, none⟩)), (2, .pointer (some ⟨p2, 0, none⟩)), (3, .pointer (some ⟨p3, 0, none⟩)), (4, .pointer (some ⟨p4, 0, none⟩))]) (Sub.cons rfl (Sub.cons rfl (Sub.cons rfl (Sub.cons rfl Sub.nil)))) ?_
    refine Wk.seq ?_
    refine Wk.regionS (S := Own B w0 [(p4, .cells #[.int .i64 a8.n, str a8.set, str a8.rel] 26 (0, 0))]) [(0, true), (1, true), (2, false), (3, false), (4, false)] Base.mixed (fun _ h => h.drawn) (by kernel_rfl) ?_
    refine Ld.take (v := vS a8) rfl rfl rfl rfl rfl (OpQ.loadBox (cs := #[.int .i64 a8.n, str a8.set, str a8.rel]) 0 rfl Tryd.isAgg26 rfl rfl Tryd.sizeOf26) (fun _ h => h.pick [0] rfl (by decide)) ?_
    refine Ld.take rfl rfl rfl rfl rfl (OpQ.move rfl rfl) (fun _ h => h.pick [0] rfl (by decide)) ?_
    refine Ld.loud rfl ?_
    refine Ll.callRd (rp := rp) (RT := 106) (p := p_10) (bv := bv) (hs := hs) (ok := fun (a : St) p' => (a.Fine ∧ a.n ≤ 5) ∧ p' ≤ p_10 + 200) (v := fun (a : St) => vS a) (new := fun (a : St) => []) (xs := [.tmp 62]) (vs := [.pointer (some ⟨rp, 0, none⟩)]) ([(p4, .cells #[.int .i64 a8.n, str a8.set, str a8.rel] 26 (0, 0)), (p3, .cells #[.int .i64 0, str ([]), str ([])] 26 (0, 0)), (p2, .cells #[.int .i64 0, str ([]), str ([])] 26 (0, 0))] : List (Nat × Obj)) rfl rfl rfl rfl Tryd.call127 rfl (fun w1 hw1 => (l1Some_ok B w0 (([(p4, .cells #[.int .i64 a8.n, str a8.set, str a8.rel] 26 (0, 0)), (p3, .cells #[.int .i64 0, str ([]), str ([])] 26 (0, 0)), (p2, .cells #[.int .i64 0, str ([]), str ([])] 26 (0, 0))] : List (Nat × Obj)) ++ hs) rp p_10 bv L w1 (fun w2 hw2 => hb w2 (Own.drop (f := ([(p4, .cells #[.int .i64 a8.n, str a8.set, str a8.rel] 26 (0, 0)), (p3, .cells #[.int .i64 0, str ([]), str ([])] 26 (0, 0)), (p2, .cells #[.int .i64 0, str ([]), str ([])] 26 (0, 0))] : List (Nat × Obj))) hw2)) hL8 hL (by omega) hw1).mono fun en w' ⟨a', p', h1, h2, h3⟩ => ⟨a', p', h1, h2, h3⟩) fun a63 p_63 hKp_63 => ?_
    show Ll _ _ (Own _ _ ((p4, .cells #[.int .i64 a8.n, str a8.set, str a8.rel] 26 (0, 0)) :: (p3, .cells #[.int .i64 0, str ([]), str ([])] 26 (0, 0)) :: (p2, .cells #[.int .i64 0, str ([]), str ([])] 26 (0, 0)) :: (rp, .cells #[bv, .int .i64 ((p_63 : Int))] 106 (0, 0)) :: hs)) _ _ ((63, vS a63) :: _) _ _ _
    obtain ⟨⟨hfa63, h5a63⟩, hep_63⟩ := hKp_63
    have hloa63 := hfa63.lo
    refine Ll.nil (Ld.joint (fun _ h => h.pick [0] rfl (by decide)) ?_)
    refine Ld.loud rfl ?_
    refine Ll.storeBox (cs' := #[.int .i64 a8.n, str a8.set, str a8.rel]) (hs' := ((p4, .cells #[.int .i64 a8.n, str a8.set, str a8.rel] 26 (0, 0)) :: (p3, .cells #[.int .i64 0, str ([]), str ([])] 26 (0, 0)) :: (p2, .cells #[.int .i64 a8.n, str a8.set, str a8.rel] 26 (0, 0)) :: (rp, .cells #[bv, .int .i64 ((p_63 : Int))] 106 (0, 0)) :: hs)) 2 rfl rfl rfl rfl rfl (by kernel_rfl : _ = some Tryd.t26) rfl rfl rfl rfl rfl ?_
    refine Ll.nil (Ld.joint (fun _ h => h.pick [0] rfl (by decide)) ?_)
    refine Ld.loud rfl ?_
    refine Ll.storeBox (cs' := #[.int .i64 a63.n, str a63.set, str a63.rel]) (hs' := ((p4, .cells #[.int .i64 a8.n, str a8.set, str a8.rel] 26 (0, 0)) :: (p3, .cells #[.int .i64 a63.n, str a63.set, str a63.rel] 26 (0, 0)) :: (p2, .cells #[.int .i64 a8.n, str a8.set, str a8.rel] 26 (0, 0)) :: (rp, .cells #[bv, .int .i64 ((p_63 : Int))] 106 (0, 0)) :: hs)) 1 rfl rfl rfl rfl rfl (by kernel_rfl : _ = some Tryd.t26) rfl rfl rfl rfl rfl ?_
    refine Ll.nil (Ld.joint (fun _ h => h.pick [0] rfl (by decide)) ?_)
    refine Ld.nil ?_
    refine Kt.onSub (e' := [(2, .pointer (some ⟨p2, 0, none⟩)), (3, .pointer (some ⟨p3, 0, none⟩))]) (Sub.cons rfl (Sub.cons rfl Sub.nil)) ?_
    refine Wk.ret (Kt.endMany rfl (.cell (cs := #[.int .i64 a8.n, str a8.set, str a8.rel]) rfl (fun w1 hw1 => hw1.loadBox 2 rfl Tryd.isAgg26 Tryd.sizeOf26) (.cell (cs := #[.int .i64 a63.n, str a63.set, str a63.rel]) rfl (fun w1 hw1 => hw1.loadBox 1 rfl Tryd.isAgg26 Tryd.sizeOf26) ResAt.nil)) (by simp) fun w' hw => ?_)
    -- ret 3: vS a8; vS a63
    exact ⟨a8, a63, p_63, rfl, ⟨⟨⟨hfa8, h5a8⟩, ⟨hfa63, h5a63⟩⟩, by omega⟩, hw.sub (List.Sublist.cons _ (List.Sublist.cons _ (List.Sublist.cons _ (List.Sublist.cons_cons _ (List.Sublist.refl _)))))⟩

set_option maxHeartbeats 400000 in
/-- spec.l15Open -/
theorem open_ok (B : Nat) (w0 : World) (fr hs : List (Nat × Obj)) (bv : Value) (L : List Int) (w : World) (hb : ∀ w, Own B w0 hs w → Row w bv (u8s L)) (hL8 : Bytes8 L) (hLs : L.length ≤ 1048576) (hw : Own B w0 (fr ++ hs) w) :
    Calls Tryd.prog 80 [bv].toArray w fun en w' => ∃ (rp : Nat) (v : Value) (M : List Int), en = .returned (.pointer (some ⟨rp, 0, none⟩)) ∧ (M.length ≤ 2000 ∧ Bytes8 M ∧ ∀ w, Own B w0 hs w → Row w v (u8s M)) ∧ Own B w0 ([(rp, .cells #[v, .int .i64 ((0 : Nat) : Int)] 106 (0, 0))] ++ (fr ++ hs)) w' := by
 refine fnStartC (Own B w0 (fr ++ hs)) (n := 11) (e := [(0, bv)]) Tryd.func80 rfl rfl rfl rfl Ends.both hw ?_
 obtain ⟨ad, cap, hbv, -⟩ := hb w (Own.drop (f := fr) hw)
 refine Wk.seq ?_
 refine Wk.regionQ ?_
 refine Lq.op (v := .pointer none) rfl rfl rfl (OpQ.assign rfl rfl) ?_
 refine Lq.nil ?_
 refine Kt.onSub (e' := [(0, bv)]) (Sub.cons rfl Sub.nil) ?_
 refine Wk.seq ?_
 refine Wk.seq ?_
 refine Wk.regionQ ?_
 refine Lq.op rfl rfl rfl (OpQ.move rfl rfl) ?_
 refine Lq.op (v := .int .i64 ((L.length : Int))) rfl rfl rfl (OpQ.lenRow rfl Tryd.runUnderlying47 rfl (u8s_length _) (fun w1 hw1 => hb _ (Own.drop (f := fr) hw1))) ?_
 refine Lq.op (v := .bool (decide ((2000 : Int) < ((L.length : Int))))) rfl rfl rfl (OpQ.gtr rfl rfl rfl) ?_
 refine Lq.nil ?_
 refine Kt.onSub (e' := [(0, bv), (5, .bool (decide ((2000 : Int) < ((L.length : Int)))))]) (Sub.cons rfl (Sub.cons rfl Sub.nil)) ?_
 refine Wk.cond (b := decide ((2000 : Int) < ((L.length : Int)))) rfl (fun h5 => ?_) (fun h5 => ?_)
 ·
  replace h5 := of_decide_eq_true h5
  refine Wk.regionQ ?_
  refine Lq.op rfl rfl rfl (OpQ.move rfl rfl) ?_
  refine Lq.op (v := sTake bv ((2000 : Int).toNat)) rfl rfl rfl (OpQ.takeRow (i := 2000) rfl Tryd.runUnderlying47 Tryd.sizeOf5 rfl rfl (by omega) (by rw [u8s_length]; omega) (fun w1 hw1 => hb _ (Own.drop (f := fr) hw1))) ?_
  refine Lq.op rfl rfl rfl (OpQ.assign rfl rfl) ?_
  refine Lq.nil ?_
  refine Kt.onSub (e' := [(0, sTake bv ((2000 : Int).toNat))]) (Sub.cons rfl Sub.nil) ?_
  refine Wk.seq ?_
  refine Wk.region ?_
  refine Ll.op rfl rfl rfl (OpQ.move rfl rfl) ?_
  refine Ll.op (v := .agg #[sTake bv ((2000 : Int).toNat), .int .i64 (((0 : Nat) : Int))]) rfl rfl rfl (OpQ.build (xs := [.tmp 8]) (vs := [sTake bv ((2000 : Int).toNat)]) rfl rfl (by rw [hbv]; kernel_rfl)) ?_
  refine Ll.box (v := .agg #[sTake bv ((2000 : Int).toNat), .int .i64 (((0 : Nat) : Int))]) rfl rfl rfl rfl rfl fun p10 hp10 => ?_
  show Ll _ _ (Own _ _ ((p10, .cells #[sTake bv ((2000 : Int).toNat), .int .i64 (((0 : Nat) : Int))] 106 (0, 0)) :: (fr ++ hs))) _ _ ((10, .pointer (some ⟨p10, 0, none⟩)) :: _) _ _ _
  refine Ll.op rfl rfl rfl (OpQ.assign rfl rfl) ?_
  refine Ll.nil ?_
  refine Kt.onSub (e' := [(2, .pointer (some ⟨p10, 0, none⟩))]) (Sub.cons rfl Sub.nil) ?_
  refine Wk.ret (Kt.end1 rfl rfl fun w' hw => ?_)
  -- ret 0: .pointer (some ⟨p10, 0, none⟩)
  exact ⟨p10, _, L.take 2000, rfl, ⟨by rw [List.length_take]; omega, hL8.take _, fun w1 h1 => by rw [u8s_take]; exact Row.take (hb _ h1) 2000 (by rw [u8s_length]; omega)⟩, hw⟩
 ·
  replace h5 := of_decide_eq_false h5
  refine Wk.skip ?_
  refine Kt.onSub (e' := [(0, bv)]) (Sub.cons rfl Sub.nil) ?_
  refine Wk.seq ?_
  refine Wk.region ?_
  refine Ll.op rfl rfl rfl (OpQ.move rfl rfl) ?_
  refine Ll.op (v := .agg #[bv, .int .i64 (((0 : Nat) : Int))]) rfl rfl rfl (OpQ.build (xs := [.tmp 8]) (vs := [bv]) rfl rfl (by rw [hbv]; kernel_rfl)) ?_
  refine Ll.box (v := .agg #[bv, .int .i64 (((0 : Nat) : Int))]) rfl rfl rfl rfl rfl fun p10_1 hp10_1 => ?_
  show Ll _ _ (Own _ _ ((p10_1, .cells #[bv, .int .i64 (((0 : Nat) : Int))] 106 (0, 0)) :: (fr ++ hs))) _ _ ((10, .pointer (some ⟨p10_1, 0, none⟩)) :: _) _ _ _
  refine Ll.op rfl rfl rfl (OpQ.assign rfl rfl) ?_
  refine Ll.nil ?_
  refine Kt.onSub (e' := [(2, .pointer (some ⟨p10_1, 0, none⟩))]) (Sub.cons rfl Sub.nil) ?_
  refine Wk.ret (Kt.end1 rfl rfl fun w' hw => ?_)
  -- ret 1: .pointer (some ⟨p10_1, 0, none⟩)
  exact ⟨p10_1, bv, L, rfl, ⟨by omega, hL8, hb⟩, hw⟩

end Go.Proofs.YtcanofailfbllaaDoor
