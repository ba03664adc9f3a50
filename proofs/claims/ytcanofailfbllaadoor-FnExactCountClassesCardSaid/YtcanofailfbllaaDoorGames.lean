/-
  The games of two players, by walks.
-/
import Derived.Test.YtcanofailfbllaaDoorPlain16
import Derived.Test.YtcanofailfbllaaDoorPebbles
import Derived.Test.YtcanofailfbllaaDoorBase
namespace Go.Proofs.YtcanofailfbllaaDoor
open Go.RowKit Go.Wk
set_option linter.unusedSimpArgs false

set_option maxHeartbeats 400000 in
/-- impl.with -/
theorem with_ok (va : Value) (xs : List Int) (x : Int) (w : World) (hva : Ints w va xs) (hs : xs.length ≤ 1048576) :
    Calls Tryd.prog 108 [va, .int .i64 x].toArray w fun en w' => ∃ v, en = .returned v ∧ Below w.heap.size w w' ∧ NewRow w.heap.size 3 1 w' v (xs ++ [x]).length (ints (xs ++ [x])) := by
  refine fnStart (n := 11) (e := [(0, va), (1, .int .i64 x)]) Tryd.func108 rfl rfl rfl rfl Ends.both ?_
  refine Wk.seq ?_
  refine Wk.regionQ ?_
  refine Lq.op (v := .slice none 0 0) rfl rfl rfl (OpQ.assign rfl rfl) ?_
  refine Lq.nil ?_
  refine Kt.onSub (e' := [(0, va), (1, .int .i64 x)]) (Sub.cons rfl (Sub.cons rfl Sub.nil)) ?_
  refine Wk.seq ?_
  refine Wk.region ?_
  refine Ll.slice (xs := []) (vs := []) Base.elem31 rfl rfl rfl rfl rfl rfl (by decide) rfl fun p5 hp5 => ?_
  refine Ll.op (v := va) rfl rfl rfl (OpQ.move rfl rfl) ?_
  refine Ll.appendInts (xs := []) (ys := xs) Base.elem31 0 rfl rfl rfl rfl rfl rfl rfl rfl (by decide) rfl (fun w1 hw1 => (Row.own hva hw1)) ((xs).length) (by first | (simp; done) | (simp; omega)) (by first | (simp; done) | (simp; omega) | omega) fun p7 cap7 cur7 hp7 hcp7 hlp7 htp7 => ?_
  show Ll _ _ (Own _ _ [(p7, .cells cur7 3 (0, 0))]) _ _ ((7, .slice (some ⟨p7, 0, none⟩) (((xs).length)) cap7) :: _) _ _ _
  refine Ll.op (v := .int .i64 x) rfl rfl rfl (OpQ.move rfl rfl) ?_
  refine Ll.slice (xs := [.tmp 8]) (vs := [.int .i64 x]) Base.elem31 rfl rfl rfl rfl rfl rfl (by decide) rfl fun p9 hp9 => ?_
  refine Ll.appendInts (xs := xs) (ys := [x]) Base.elem31 1 rfl rfl rfl rfl rfl rfl rfl hcp7 hlp7 (by simpa using htp7) (fun w1 hw1 => (Own.row hw1 (i := 0) rfl (n := 1) (cap := 1) (vs := ints [x]) rfl rfl (by decide))) ((xs ++ ([x])).length) (by first | (simp; done) | (simp; omega)) (by first | (simp; done) | (simp; omega) | omega) fun p10 cap10 cur10 hp10 hcp10 hlp10 htp10 => ?_
  show Ll _ _ (Own _ _ [(p9, .cells #[.int .i64 x] 3 (0, 0)), (p10, .cells cur10 3 (0, 0))]) _ _ ((10, .slice (some ⟨p10, 0, none⟩) (((xs ++ ([x])).length)) cap10) :: _) _ _ _
  refine Ll.op (v := .slice (some ⟨p10, 0, none⟩) (((xs ++ ([x])).length)) cap10) rfl rfl rfl (OpQ.assign rfl rfl) ?_
  refine Ll.nil ?_
  refine Kt.onSub (e' := [(4, .slice (some ⟨p10, 0, none⟩) (((xs ++ ([x])).length)) cap10)]) (Sub.cons rfl Sub.nil) ?_
  refine Wk.ret (Kt.end1 rfl rfl fun w' hw => ?_)
  -- ret 0: .slice (some ⟨p10, 0, none⟩) (((xs ++ ([x])).length)) cap10
  exact ⟨_, rfl, hw.below, hw.newRow (i := 1) (n := _) rfl (by assumption) (by assumption) (by assumption)⟩

set_option maxHeartbeats 400000 in
/-- impl.replyTo -/
theorem reply_of (n : Nat) (ih : ∀ (a b : St) (xs ys : List Int) (va vb : Value) (w : World), a.Fine → b.Fine → Ints w va xs → Ints w vb ys → a.Els xs → b.Els ys → xs.length = ys.length → xs.length + n ≤ 7 → Calls Tryd.prog 101 #[vS a, va, vS b, vb, .int .i64 (n : Int)] w fun en w' => en = .returned (.bool (goB n a xs b ys)) ∧ Below w.heap.size w w') (a b : St) (xs ys : List Int) (va vb : Value) (w : World) (ha : a.Fine) (hb : b.Fine) (hva : Ints w va xs) (hvb : Ints w vb ys) (hA : a.Els xs) (hB : b.Els ys) (hlen : xs.length = ys.length) (h7 : xs.length + (n + 1) ≤ 7) (x : Int) (hx : a.El x) :
    Calls Tryd.prog 76 [vS a, va, vS b, vb, .int .i64 ((n : Int) + 1), .int .i64 x].toArray w fun en w' => en = .returned (.tuple #[.int .i64 (((rep (goB n) a xs b ys x).getD 0 : Nat) : Int), .bool (rep (goB n) a xs b ys x).isSome]) ∧ Below w.heap.size w w' := by
  refine fnStart (n := 48) (e := [(0, vS a), (1, va), (2, vS b), (3, vb), (4, .int .i64 ((n : Int) + 1)), (5, .int .i64 x)]) Tryd.func76 rfl rfl rfl rfl Ends.both ?_
  have hn8 := hb.hi
  have hn1 := hb.lo
  have hL := rep_law (g := goB n) (a := a) (xs := xs) (b := b) (ys := ys) (x := x)
  refine Wk.seq ?_
  refine Wk.region ?_
  refine Ll.box (v := vS a) rfl rfl rfl rfl rfl fun p6 hp6 => ?_
  show Ll _ _ (Own _ _ [(p6, .cells #[.int .i64 a.n, str a.set, str a.rel] 26 (0, 0))]) _ _ ((6, .pointer (some ⟨p6, 0, none⟩)) :: _) _ _ _
  refine Ll.box (v := vS b) rfl rfl rfl rfl rfl fun p8 hp8 => ?_
  show Ll _ _ (Own _ _ [(p8, .cells #[.int .i64 b.n, str b.set, str b.rel] 26 (0, 0)), (p6, .cells #[.int .i64 a.n, str a.set, str a.rel] 26 (0, 0))]) _ _ ((8, .pointer (some ⟨p8, 0, none⟩)) :: _) _ _ _
  refine Ll.op (v := .int .i64 0) rfl rfl rfl (OpQ.assign rfl rfl) ?_
  refine Ll.op (v := .bool false) rfl rfl rfl (OpQ.assign rfl rfl) ?_
  refine Ll.nil ?_
  refine Kt.onSub (e' := [(1, va), (3, vb), (4, .int .i64 ((n : Int) + 1)), (5, .int .i64 x), (6, .pointer (some ⟨p6, 0, none⟩)), (8, .pointer (some ⟨p8, 0, none⟩))]) (Sub.cons rfl (Sub.cons rfl (Sub.cons rfl (Sub.cons rfl (Sub.cons rfl (Sub.cons rfl Sub.nil)))))) ?_
  refine Wk.seq ?_
  refine Wk.seq ?_
  refine Wk.regionQ ?_
  refine Lq.op (v := vS a) rfl rfl rfl (OpQ.loadBox (cs := #[.int .i64 a.n, str a.set, str a.rel]) 1 rfl Tryd.isAgg26 rfl rfl Tryd.sizeOf26) ?_
  refine Lq.op (v := va) rfl rfl rfl (OpQ.move rfl rfl) ?_
  refine Lq.op (v := vS b) rfl rfl rfl (OpQ.loadBox (cs := #[.int .i64 b.n, str b.set, str b.rel]) 0 rfl Tryd.isAgg26 rfl rfl Tryd.sizeOf26) ?_
  refine Lq.op (v := vb) rfl rfl rfl (OpQ.move rfl rfl) ?_
  refine Lq.op (v := .bool (sameB a xs b ys)) rfl rfl rfl (OpQ.call rfl Tryd.call83 rfl Own.stable (fun w1 hw1 => sameWay_ok a b xs ys va vb w1 ha hb (Row.own hva hw1) (Row.own hvb hw1) hA hB (by omega) (by omega))) ?_
  refine Lq.op (v := .bool (!(sameB a xs b ys))) rfl rfl rfl (OpQ.not rfl rfl) ?_
  refine Lq.nil ?_
  refine Kt.onSub (e' := [(1, va), (3, vb), (4, .int .i64 ((n : Int) + 1)), (5, .int .i64 x), (6, .pointer (some ⟨p6, 0, none⟩)), (8, .pointer (some ⟨p8, 0, none⟩)), (20, .bool (!(sameB a xs b ys)))]) (Sub.cons rfl (Sub.cons rfl (Sub.cons rfl (Sub.cons rfl (Sub.cons rfl (Sub.cons rfl (Sub.cons rfl Sub.nil))))))) ?_
  refine Wk.cond (b := !(sameB a xs b ys)) rfl (fun h20 => ?_) (fun h20 => ?_)
  · skip
    replace h20 := not_true h20
    refine Wk.seq ?_
    refine Wk.regionQ ?_
    refine Lq.op (v := .int .i64 0) rfl rfl rfl (OpQ.assign rfl rfl) ?_
    refine Lq.op (v := .bool false) rfl rfl rfl (OpQ.assign rfl rfl) ?_
    refine Lq.nil ?_
    refine Kt.onSub (e' := [(12, .int .i64 0), (13, .bool false)]) (Sub.cons rfl (Sub.cons rfl Sub.nil)) ?_
    refine Wk.ret (Kt.end2 rfl rfl rfl fun w' hw => ?_)
    -- ret 0: .int .i64 0; .bool false
    exact ⟨by rw [hL.1 (by simpa using h20)]; rfl, hw.below⟩
  · skip
    replace h20 := not_false h20
    refine Wk.skip ?_
    refine Kt.onSub (e' := [(1, va), (3, vb), (4, .int .i64 ((n : Int) + 1)), (5, .int .i64 x), (6, .pointer (some ⟨p6, 0, none⟩)), (8, .pointer (some ⟨p8, 0, none⟩))]) (Sub.cons rfl (Sub.cons rfl (Sub.cons rfl (Sub.cons rfl (Sub.cons rfl (Sub.cons rfl Sub.nil)))))) ?_
    refine Wk.seq ?_
    refine Wk.seq ?_
    refine Wk.regionQ ?_
    refine Lq.op (v := .pointer (some ⟨p8, 0, none⟩)) rfl rfl rfl (OpQ.fieldAddr rfl Tryd.runUnderlying26 rfl Tryd.sizeOf3 rfl rfl) ?_
    refine Lq.op (v := .int .i64 b.n) rfl rfl rfl (OpQ.loadOwn 0 rfl Tryd.isAgg3 rfl rfl rfl) ?_
    refine Lq.op (v := .int .i64 0) rfl rfl rfl (OpQ.move rfl rfl) ?_
    refine Lq.nil ?_
    refine Kt.onSub (e' := [(1, va), (3, vb), (4, .int .i64 ((n : Int) + 1)), (5, .int .i64 x), (6, .pointer (some ⟨p6, 0, none⟩)), (8, .pointer (some ⟨p8, 0, none⟩)), (22, .int .i64 b.n), (23, .int .i64 0)]) (Sub.cons rfl (Sub.cons rfl (Sub.cons rfl (Sub.cons rfl (Sub.cons rfl (Sub.cons rfl (Sub.cons rfl (Sub.cons rfl Sub.nil)))))))) ?_
    refine Wk.block ?_
    refine Wk.loop (σ := Nat) (fun k => (k : Int) ≤ b.n ∧ ∀ i : Nat, i < k → (stillB a xs b ys x i && goB n a (xs ++ [x]) b (ys ++ [(i : Int)])) = false) (fun k => [(1, va), (3, vb), (4, .int .i64 ((n : Int) + 1)), (5, .int .i64 x), (6, .pointer (some ⟨p6, 0, none⟩)), (8, .pointer (some ⟨p8, 0, none⟩)), (22, .int .i64 b.n), (23, .int .i64 ((k : Int)))]) (fun k => Own w.heap.size w [(p8, .cells #[.int .i64 b.n, str b.set, str b.rel] 26 (0, 0)), (p6, .cells #[.int .i64 a.n, str a.set, str a.rel] 26 (0, 0))]) (fun k => (b.n - k).toNat) (0) ⟨by omega, fun i hi => absurd hi (by omega)⟩ (Sub.cons rfl (Sub.cons rfl (Sub.cons rfl (Sub.cons rfl (Sub.cons rfl (Sub.cons rfl (Sub.cons rfl (Sub.cons rfl Sub.nil)))))))) (fun _ h => h) ?_
    rintro k ⟨hk, hall⟩
    refine Wk.seq ?_
    refine Wk.regionQ ?_
    refine Lq.op (v := .bool (decide (((k : Int)) < b.n))) rfl rfl rfl (OpQ.lss rfl rfl rfl) ?_
    refine Lq.nil ?_
    refine Kt.onSub (e' := [(1, va), (3, vb), (4, .int .i64 ((n : Int) + 1)), (5, .int .i64 x), (6, .pointer (some ⟨p6, 0, none⟩)), (8, .pointer (some ⟨p8, 0, none⟩)), (22, .int .i64 b.n), (23, .int .i64 ((k : Int))), (24, .bool (decide (((k : Int)) < b.n)))]) (Sub.cons rfl (Sub.cons rfl (Sub.cons rfl (Sub.cons rfl (Sub.cons rfl (Sub.cons rfl (Sub.cons rfl (Sub.cons rfl (Sub.cons rfl Sub.nil))))))))) ?_
    refine Wk.seq ?_
    refine Wk.cond (b := decide (((k : Int)) < b.n)) rfl (fun h24 => ?_) (fun h24 => ?_)
    · skip
      replace h24 := of_decide_eq_true h24
      have hy : b.El k := ⟨by omega, by omega⟩
      refine Wk.skip ?_
      refine Kt.onSub (e' := [(1, va), (3, vb), (4, .int .i64 ((n : Int) + 1)), (5, .int .i64 x), (6, .pointer (some ⟨p6, 0, none⟩)), (8, .pointer (some ⟨p8, 0, none⟩)), (22, .int .i64 b.n), (23, .int .i64 ((k : Int)))]) (Sub.cons rfl (Sub.cons rfl (Sub.cons rfl (Sub.cons rfl (Sub.cons rfl (Sub.cons rfl (Sub.cons rfl (Sub.cons rfl Sub.nil)))))))) ?_
      refine Wk.seq ?_
      refine Wk.block ?_
      refine Wk.seq ?_
      refine Wk.regionQ ?_
      refine Lq.op (v := .int .i64 ((k : Int))) rfl rfl rfl (OpQ.move rfl rfl) ?_
      refine Lq.op (v := .int .i64 ((k : Int))) rfl rfl rfl (OpQ.assign rfl rfl) ?_
      refine Lq.nil ?_
      refine Kt.onSub (e' := [(1, va), (3, vb), (4, .int .i64 ((n : Int) + 1)), (5, .int .i64 x), (6, .pointer (some ⟨p6, 0, none⟩)), (8, .pointer (some ⟨p8, 0, none⟩)), (14, .int .i64 ((k : Int))), (22, .int .i64 b.n), (23, .int .i64 ((k : Int)))]) (Sub.cons rfl (Sub.cons rfl (Sub.cons rfl (Sub.cons rfl (Sub.cons rfl (Sub.cons rfl (Sub.cons rfl (Sub.cons rfl (Sub.cons rfl Sub.nil))))))))) ?_
      refine Wk.seq ?_
      refine Wk.regionO [(0, true), (1, true), (2, true), (3, true), (4, true), (5, true), (6, false), (7, true), (8, true), (9, true), (10, true), (12, true), (13, true), (14, true), (16, true), (17, true), (11, false), (15, false), (18, false), (19, true)] Base.mixed (fun _ h => h.drawn) (by kernel_rfl) ?_
      refine Ld.take (v := vS a) rfl rfl rfl rfl rfl (OpQ.loadBox (cs := #[.int .i64 a.n, str a.set, str a.rel]) 1 rfl Tryd.isAgg26 rfl rfl Tryd.sizeOf26) (fun _ h => h) ?_
      refine Ld.take (v := va) rfl rfl rfl rfl rfl (OpQ.move rfl rfl) (fun _ h => h) ?_
      refine Ld.take (v := vS b) rfl rfl rfl rfl rfl (OpQ.loadBox (cs := #[.int .i64 b.n, str b.set, str b.rel]) 0 rfl Tryd.isAgg26 rfl rfl Tryd.sizeOf26) (fun _ h => h) ?_
      refine Ld.take (v := vb) rfl rfl rfl rfl rfl (OpQ.move rfl rfl) (fun _ h => h) ?_
      refine Ld.take (v := .int .i64 x) rfl rfl rfl rfl rfl (OpQ.move rfl rfl) (fun _ h => h) ?_
      refine Ld.take (v := .int .i64 ((k : Int))) rfl rfl rfl rfl rfl (OpQ.move rfl rfl) (fun _ h => h) ?_
      refine Ld.loud rfl ?_
      refine Ll.op (v := .bool (stillB a xs b ys x ((k : Int)))) rfl rfl rfl (OpQ.call rfl Tryd.call81 rfl Own.stable (fun w1 hw1 => stillSame_ok a b xs ys va vb x ((k : Int)) w1 (ha) (hb) ((Row.own hva hw1)) ((Row.own hvb hw1)) (hA) (hB) ((by first | (simp; done) | (simp; omega) | omega)) ((by first | (simp; done) | (simp; omega) | omega)) ((by first | assumption | exact St.Els.at (by assumption) (by omega) (by omega))) ((by first | assumption | exact St.Els.at (by assumption) (by omega) (by omega))))) ?_
      refine Ll.nil (Ld.joint (fun _ h => h) ?_)
      refine Ld.take (v := .bool (stillB a xs b ys x ((k : Int)))) rfl rfl rfl rfl rfl (OpQ.move rfl rfl) (fun _ h => h) ?_
      refine Ld.bool fun b33 hg33 => ?_
      cases b33
      · skip
        refine Ld.pass rfl rfl rfl rfl (fun _ h => h) ?_
        refine Ld.pass rfl rfl rfl rfl (fun _ h => h) ?_
        refine Ld.pass rfl rfl rfl rfl (fun _ h => h) ?_
        refine Ld.pass rfl rfl rfl rfl (fun _ h => h) ?_
        refine Ld.pass rfl rfl rfl rfl (fun _ h => h) ?_
        refine Ld.pass rfl rfl rfl rfl (fun _ h => h) ?_
        refine Ld.pass rfl rfl rfl rfl (fun _ h => h) ?_
        refine Ld.pass rfl rfl rfl rfl (fun _ h => h) ?_
        refine Ld.loud rfl ?_
        refine Ll.pass rfl rfl rfl ?_
        refine Ll.nil (Ld.joint (fun _ h => h) ?_)
        refine Ld.loud rfl ?_
        refine Ll.pass rfl rfl rfl ?_
        refine Ll.nil (Ld.joint (fun _ h => h) ?_)
        refine Ld.loud rfl ?_
        refine Ll.pass rfl rfl rfl ?_
        refine Ll.nil (Ld.joint (fun _ h => h) ?_)
        refine Ld.take (v := .bool false) rfl rfl rfl rfl rfl (OpQ.pickF rfl rfl rfl) (fun _ h => h) ?_
        refine Ld.nil ?_
        refine Kt.onSub (e' := [(1, va), (3, vb), (4, .int .i64 ((n : Int) + 1)), (5, .int .i64 x), (6, .pointer (some ⟨p6, 0, none⟩)), (8, .pointer (some ⟨p8, 0, none⟩)), (14, .int .i64 ((k : Int))), (22, .int .i64 b.n), (23, .int .i64 ((k : Int))), (45, .bool false)]) (Sub.cons rfl (Sub.cons rfl (Sub.cons rfl (Sub.cons rfl (Sub.cons rfl (Sub.cons rfl (Sub.cons rfl (Sub.cons rfl (Sub.cons rfl (Sub.cons rfl Sub.nil)))))))))) ?_
        refine Wk.condF rfl ?_
        refine Wk.skip ?_
        refine Kt.onSub (e' := [(1, va), (3, vb), (4, .int .i64 ((n : Int) + 1)), (5, .int .i64 x), (6, .pointer (some ⟨p6, 0, none⟩)), (8, .pointer (some ⟨p8, 0, none⟩)), (22, .int .i64 b.n), (23, .int .i64 ((k : Int)))]) (Sub.cons rfl (Sub.cons rfl (Sub.cons rfl (Sub.cons rfl (Sub.cons rfl (Sub.cons rfl (Sub.cons rfl (Sub.cons rfl Sub.nil)))))))) ?_
        refine Wk.regionQ ?_
        refine Lq.op (v := .int .i64 (((k : Int)) + (1 : Int))) rfl rfl rfl (OpQ.add rfl rfl rfl (by omega) (by omega)) ?_
        refine Lq.op (v := .int .i64 (((k : Int)) + (1 : Int))) rfl rfl rfl (OpQ.move rfl rfl) ?_
        refine Lq.nil ?_
        refine Kt.again (k + 1) ⟨by omega, fun i hi => (Nat.lt_succ_iff_lt_or_eq.1 hi).elim (hall i) (fun e => by subst e; simp_all)⟩ (by omega) (Sub.cons rfl (Sub.cons rfl (Sub.cons rfl (Sub.cons rfl (Sub.cons rfl (Sub.cons rfl (Sub.cons rfl (Sub.cons rfl Sub.nil)))))))) (fun _ h => h)
      · skip
        refine Ld.take (v := vS a) rfl rfl rfl rfl rfl (OpQ.loadBox (cs := #[.int .i64 a.n, str a.set, str a.rel]) 1 rfl Tryd.isAgg26 rfl rfl Tryd.sizeOf26) (fun _ h => h) ?_
        refine Ld.take (v := va) rfl rfl rfl rfl rfl (OpQ.move rfl rfl) (fun _ h => h) ?_
        refine Ld.take (v := .int .i64 x) rfl rfl rfl rfl rfl (OpQ.move rfl rfl) (fun _ h => h) ?_
        refine Ld.take (v := vS b) rfl rfl rfl rfl rfl (OpQ.loadBox (cs := #[.int .i64 b.n, str b.set, str b.rel]) 0 rfl Tryd.isAgg26 rfl rfl Tryd.sizeOf26) (fun _ h => h) ?_
        refine Ld.take (v := vb) rfl rfl rfl rfl rfl (OpQ.move rfl rfl) (fun _ h => h) ?_
        refine Ld.take (v := .int .i64 ((k : Int))) rfl rfl rfl rfl rfl (OpQ.move rfl rfl) (fun _ h => h) ?_
        refine Ld.take (v := .int .i64 ((n : Int) + 1)) rfl rfl rfl rfl rfl (OpQ.move rfl rfl) (fun _ h => h) ?_
        refine Ld.take (v := .int .i64 ((n : Int))) rfl rfl rfl rfl rfl (OpQ.cast (by congr 1; omega) (OpQ.sub rfl rfl rfl (by omega) (by omega))) (fun _ h => h) ?_
        refine Ld.loud rfl ?_
        refine Ll.callRow (xs := [.tmp 35, .tmp 36]) (m := (xs ++ [x]).length) (vs := ints (xs ++ [x])) (el := 3) (size := 1) rfl rfl rfl rfl Tryd.call108 rfl (fun w1 hw1 => with_ok va xs x w1 (Row.own hva hw1) (by omega)) fun p37 cap37 cur37 hp37 hcp37 hlp37 htp37 => ?_
        refine Ll.nil (Ld.joint (fun _ h => h.tail) ?_)
        refine Ld.loud rfl ?_
        refine Ll.callRow (xs := [.tmp 39, .tmp 40]) (m := (ys ++ [(k : Int)]).length) (vs := ints (ys ++ [(k : Int)])) (el := 3) (size := 1) rfl rfl rfl rfl Tryd.call108 rfl (fun w1 hw1 => with_ok vb ys ((k : Int)) w1 (Row.own hvb hw1) (by omega)) fun p41 cap41 cur41 hp41 hcp41 hlp41 htp41 => ?_
        refine Ll.nil (Ld.joint (fun _ h => h.tail.tail) ?_)
        refine Ld.loud rfl ?_
        refine Ll.op (v := .bool (goB n a (xs ++ [x]) b (ys ++ [(k : Int)]))) rfl rfl rfl (OpQ.call rfl Tryd.call101 rfl Own.stable (fun w1 hw1 => ih a b (xs ++ [x]) (ys ++ [(k : Int)]) (.slice (some ⟨p37, 0, none⟩) ((xs ++ [x]).length) cap37) (.slice (some ⟨p41, 0, none⟩) ((ys ++ [(k : Int)]).length) cap41) w1 ha hb (Own.row hw1 (i := 1) rfl (by simpa using htp37) (by simp) hlp37) (Own.row hw1 (i := 0) rfl (by simpa using htp41) (by simp) hlp41) (els_more hA hx) (els_more hB hy) (by first | (simp; done) | (simp; omega) | omega) (by first | (simp; done) | (simp; omega) | omega))) ?_
        refine Ll.nil (Ld.joint (fun _ h => h.tail.tail) ?_)
        refine Ld.take (v := .bool (goB n a (xs ++ [x]) b (ys ++ [(k : Int)]))) rfl rfl rfl rfl rfl (OpQ.pickT rfl rfl rfl) (fun _ h => h.tail.tail) ?_
        refine Ld.nil ?_
        refine Kt.onSub (e' := [(1, va), (3, vb), (4, .int .i64 ((n : Int) + 1)), (5, .int .i64 x), (6, .pointer (some ⟨p6, 0, none⟩)), (8, .pointer (some ⟨p8, 0, none⟩)), (14, .int .i64 ((k : Int))), (22, .int .i64 b.n), (23, .int .i64 ((k : Int))), (45, .bool (goB n a (xs ++ [x]) b (ys ++ [(k : Int)])))]) (Sub.cons rfl (Sub.cons rfl (Sub.cons rfl (Sub.cons rfl (Sub.cons rfl (Sub.cons rfl (Sub.cons rfl (Sub.cons rfl (Sub.cons rfl (Sub.cons rfl Sub.nil)))))))))) ?_
        refine Wk.cond (b := goB n a (xs ++ [x]) b (ys ++ [(k : Int)])) rfl (fun h45 => ?_) (fun h45 => ?_)
        · skip
          refine Wk.seq ?_
          refine Wk.regionQ ?_
          refine Lq.op (v := .int .i64 ((k : Int))) rfl rfl rfl (OpQ.move rfl rfl) ?_
          refine Lq.op (v := .int .i64 ((k : Int))) rfl rfl rfl (OpQ.assign rfl rfl) ?_
          refine Lq.op (v := .bool true) rfl rfl rfl (OpQ.assign rfl rfl) ?_
          refine Lq.nil ?_
          refine Kt.onSub (e' := [(12, .int .i64 ((k : Int))), (13, .bool true)]) (Sub.cons rfl (Sub.cons rfl Sub.nil)) ?_
          refine Wk.ret (Kt.end2 rfl rfl rfl fun w' hw => ?_)
          -- ret 1: .int .i64 ((k : Int)); .bool true
          exact ⟨by rw [hL.2.1 (by simpa using h20) k (by omega) hall (by simp [*])]; rfl, hw.below⟩
        · skip
          refine Wk.skip ?_
          refine Kt.onSub (e' := [(1, va), (3, vb), (4, .int .i64 ((n : Int) + 1)), (5, .int .i64 x), (6, .pointer (some ⟨p6, 0, none⟩)), (8, .pointer (some ⟨p8, 0, none⟩)), (22, .int .i64 b.n), (23, .int .i64 ((k : Int)))]) (Sub.cons rfl (Sub.cons rfl (Sub.cons rfl (Sub.cons rfl (Sub.cons rfl (Sub.cons rfl (Sub.cons rfl (Sub.cons rfl Sub.nil)))))))) ?_
          refine Wk.regionQ ?_
          refine Lq.op (v := .int .i64 (((k : Int)) + (1 : Int))) rfl rfl rfl (OpQ.add rfl rfl rfl (by omega) (by omega)) ?_
          refine Lq.op (v := .int .i64 (((k : Int)) + (1 : Int))) rfl rfl rfl (OpQ.move rfl rfl) ?_
          refine Lq.nil ?_
          refine Kt.again (k + 1) ⟨by omega, fun i hi => (Nat.lt_succ_iff_lt_or_eq.1 hi).elim (hall i) (fun e => by subst e; simp_all)⟩ (by omega) (Sub.cons rfl (Sub.cons rfl (Sub.cons rfl (Sub.cons rfl (Sub.cons rfl (Sub.cons rfl (Sub.cons rfl (Sub.cons rfl Sub.nil)))))))) (fun _ h => h.tail.tail)
    · skip
      replace h24 := of_decide_eq_false h24
      refine Wk.exit rfl ?_
      refine Kt.onSub (e' := []) Sub.nil ?_
      refine Wk.seq ?_
      refine Wk.regionQ ?_
      refine Lq.op (v := .int .i64 0) rfl rfl rfl (OpQ.assign rfl rfl) ?_
      refine Lq.op (v := .bool false) rfl rfl rfl (OpQ.assign rfl rfl) ?_
      refine Lq.nil ?_
      refine Kt.onSub (e' := [(12, .int .i64 0), (13, .bool false)]) (Sub.cons rfl (Sub.cons rfl Sub.nil)) ?_
      refine Wk.ret (Kt.end2 rfl rfl rfl fun w' hw => ?_)
      -- ret 2: .int .i64 0; .bool false
      exact ⟨by rw [hL.2.2 (fun i hi => hall i (by omega))]; rfl, hw.below⟩

set_option maxHeartbeats 400000 in
/-- impl.goesOn|zero -/
theorem goes_zero (a b : St) (xs ys : List Int) (va vb : Value) (w : World) :
    Calls Tryd.prog 101 [vS a, va, vS b, vb, .int .i64 0].toArray w fun en w' => en = .returned (.bool (goB 0 a xs b ys)) ∧ Below w.heap.size w w' := by
  refine fnStart (n := 55) (e := [(0, vS a), (1, va), (2, vS b), (3, vb), (4, .int .i64 0)]) Tryd.func101 rfl rfl rfl rfl Ends.both ?_
  refine Wk.seq ?_
  refine Wk.region ?_
  refine Ll.box (v := vS a) rfl rfl rfl rfl rfl fun p5 hp5 => ?_
  show Ll _ _ (Own _ _ [(p5, .cells #[.int .i64 a.n, str a.set, str a.rel] 26 (0, 0))]) _ _ ((5, .pointer (some ⟨p5, 0, none⟩)) :: _) _ _ _
  refine Ll.box (v := vS b) rfl rfl rfl rfl rfl fun p7 hp7 => ?_
  show Ll _ _ (Own _ _ [(p7, .cells #[.int .i64 b.n, str b.set, str b.rel] 26 (0, 0)), (p5, .cells #[.int .i64 a.n, str a.set, str a.rel] 26 (0, 0))]) _ _ ((7, .pointer (some ⟨p7, 0, none⟩)) :: _) _ _ _
  refine Ll.op (v := .bool false) rfl rfl rfl (OpQ.assign rfl rfl) ?_
  refine Ll.nil ?_
  refine Kt.onSub (e' := [(1, va), (3, vb), (4, .int .i64 0), (5, .pointer (some ⟨p5, 0, none⟩)), (7, .pointer (some ⟨p7, 0, none⟩))]) (Sub.cons rfl (Sub.cons rfl (Sub.cons rfl (Sub.cons rfl (Sub.cons rfl Sub.nil))))) ?_
  refine Wk.seq ?_
  refine Wk.seq ?_
  refine Wk.regionQ ?_
  refine Lq.op (v := .int .i64 0) rfl rfl rfl (OpQ.move rfl rfl) ?_
  refine Lq.op (v := .bool (decide ((0 : Int) = (0 : Int)))) rfl rfl rfl (OpQ.eql rfl rfl rfl) ?_
  refine Lq.nil ?_
  refine Kt.onSub (e' := [(1, va), (3, vb), (4, .int .i64 0), (5, .pointer (some ⟨p5, 0, none⟩)), (7, .pointer (some ⟨p7, 0, none⟩)), (18, .bool (decide ((0 : Int) = (0 : Int))))]) (Sub.cons rfl (Sub.cons rfl (Sub.cons rfl (Sub.cons rfl (Sub.cons rfl (Sub.cons rfl Sub.nil)))))) ?_
  refine Wk.cond (b := decide ((0 : Int) = (0 : Int))) rfl (fun h18 => ?_) (fun h18 => ?_)
  · skip
    replace h18 := of_decide_eq_true h18
    refine Wk.seq ?_
    refine Wk.regionQ ?_
    refine Lq.op (v := .bool true) rfl rfl rfl (OpQ.assign rfl rfl) ?_
    refine Lq.nil ?_
    refine Kt.onSub (e' := [(10, .bool true)]) (Sub.cons rfl Sub.nil) ?_
    refine Wk.ret (Kt.end1 rfl rfl fun w' hw => ?_)
    -- ret 0: .bool true
    exact ⟨rfl, hw.below⟩
  · skip
    replace h18 := of_decide_eq_false h18
    exact absurd rfl h18

set_option maxHeartbeats 400000 in
/-- impl.goesOn -/
theorem goes_of (n : Nat) (ih : ∀ (a b : St) (xs ys : List Int) (va vb : Value) (w : World), a.Fine → b.Fine → Ints w va xs → Ints w vb ys → a.Els xs → b.Els ys → xs.length = ys.length → xs.length + (n + 1) ≤ 7 → ∀ x : Int, a.El x → Calls Tryd.prog 76 #[vS a, va, vS b, vb, .int .i64 ((n : Int) + 1), .int .i64 x] w fun en w' => en = .returned (.tuple #[.int .i64 (((rep (goB n) a xs b ys x).getD 0 : Nat) : Int), .bool (rep (goB n) a xs b ys x).isSome]) ∧ Below w.heap.size w w') (a b : St) (xs ys : List Int) (va vb : Value) (w : World) (ha : a.Fine) (hb : b.Fine) (hva : Ints w va xs) (hvb : Ints w vb ys) (hA : a.Els xs) (hB : b.Els ys) (hlen : xs.length = ys.length) (h7 : xs.length + (n + 1) ≤ 7) :
    Calls Tryd.prog 101 [vS a, va, vS b, vb, .int .i64 ((n : Int) + 1)].toArray w fun en w' => en = .returned (.bool (goB (n + 1) a xs b ys)) ∧ Below w.heap.size w w' := by
  refine fnStart (n := 55) (e := [(0, vS a), (1, va), (2, vS b), (3, vb), (4, .int .i64 ((n : Int) + 1))]) Tryd.func101 rfl rfl rfl rfl Ends.both ?_
  have hn8 := hb.hi
  have hn1 := hb.lo
  have hm8 := ha.hi
  have hm1 := ha.lo
  refine Wk.seq ?_
  refine Wk.region ?_
  refine Ll.box (v := vS a) rfl rfl rfl rfl rfl fun p5 hp5 => ?_
  show Ll _ _ (Own _ _ [(p5, .cells #[.int .i64 a.n, str a.set, str a.rel] 26 (0, 0))]) _ _ ((5, .pointer (some ⟨p5, 0, none⟩)) :: _) _ _ _
  refine Ll.box (v := vS b) rfl rfl rfl rfl rfl fun p7 hp7 => ?_
  show Ll _ _ (Own _ _ [(p7, .cells #[.int .i64 b.n, str b.set, str b.rel] 26 (0, 0)), (p5, .cells #[.int .i64 a.n, str a.set, str a.rel] 26 (0, 0))]) _ _ ((7, .pointer (some ⟨p7, 0, none⟩)) :: _) _ _ _
  refine Ll.op (v := .bool false) rfl rfl rfl (OpQ.assign rfl rfl) ?_
  refine Ll.nil ?_
  refine Kt.onSub (e' := [(1, va), (3, vb), (4, .int .i64 ((n : Int) + 1)), (5, .pointer (some ⟨p5, 0, none⟩)), (7, .pointer (some ⟨p7, 0, none⟩))]) (Sub.cons rfl (Sub.cons rfl (Sub.cons rfl (Sub.cons rfl (Sub.cons rfl Sub.nil))))) ?_
  refine Wk.seq ?_
  refine Wk.seq ?_
  refine Wk.regionQ ?_
  refine Lq.op (v := .int .i64 ((n : Int) + 1)) rfl rfl rfl (OpQ.move rfl rfl) ?_
  refine Lq.op (v := .bool (decide (((n : Int) + 1) = (0 : Int)))) rfl rfl rfl (OpQ.eql rfl rfl rfl) ?_
  refine Lq.nil ?_
  refine Kt.onSub (e' := [(1, va), (3, vb), (4, .int .i64 ((n : Int) + 1)), (5, .pointer (some ⟨p5, 0, none⟩)), (7, .pointer (some ⟨p7, 0, none⟩)), (18, .bool (decide (((n : Int) + 1) = (0 : Int))))]) (Sub.cons rfl (Sub.cons rfl (Sub.cons rfl (Sub.cons rfl (Sub.cons rfl (Sub.cons rfl Sub.nil)))))) ?_
  refine Wk.cond (b := decide (((n : Int) + 1) = (0 : Int))) rfl (fun h18 => ?_) (fun h18 => ?_)
  · skip
    replace h18 := of_decide_eq_true h18
    omega
  · skip
    replace h18 := of_decide_eq_false h18
    refine Wk.skip ?_
    refine Kt.onSub (e' := [(1, va), (3, vb), (4, .int .i64 ((n : Int) + 1)), (5, .pointer (some ⟨p5, 0, none⟩)), (7, .pointer (some ⟨p7, 0, none⟩))]) (Sub.cons rfl (Sub.cons rfl (Sub.cons rfl (Sub.cons rfl (Sub.cons rfl Sub.nil))))) ?_
    refine Wk.seq ?_
    refine Wk.seq ?_
    refine Wk.regionQ ?_
    refine Lq.op (v := .pointer (some ⟨p5, 0, none⟩)) rfl rfl rfl (OpQ.fieldAddr rfl Tryd.runUnderlying26 rfl Tryd.sizeOf3 rfl rfl) ?_
    refine Lq.op (v := .int .i64 a.n) rfl rfl rfl (OpQ.loadOwn 1 rfl Tryd.isAgg3 rfl rfl rfl) ?_
    refine Lq.op (v := .int .i64 0) rfl rfl rfl (OpQ.move rfl rfl) ?_
    refine Lq.nil ?_
    refine Kt.onSub (e' := [(1, va), (3, vb), (4, .int .i64 ((n : Int) + 1)), (5, .pointer (some ⟨p5, 0, none⟩)), (7, .pointer (some ⟨p7, 0, none⟩)), (20, .int .i64 a.n), (21, .int .i64 0)]) (Sub.cons rfl (Sub.cons rfl (Sub.cons rfl (Sub.cons rfl (Sub.cons rfl (Sub.cons rfl (Sub.cons rfl Sub.nil))))))) ?_
    refine Wk.block ?_
    refine Wk.loop (σ := Nat) (fun k => (k : Int) ≤ a.n ∧ ∀ i : Nat, i < k → (rep (goB n) a xs b ys i).isSome = true) (fun k => [(1, va), (3, vb), (4, .int .i64 ((n : Int) + 1)), (5, .pointer (some ⟨p5, 0, none⟩)), (7, .pointer (some ⟨p7, 0, none⟩)), (20, .int .i64 a.n), (21, .int .i64 ((k : Int)))]) (fun k => Own w.heap.size w [(p7, .cells #[.int .i64 b.n, str b.set, str b.rel] 26 (0, 0)), (p5, .cells #[.int .i64 a.n, str a.set, str a.rel] 26 (0, 0))]) (fun k => (a.n - k).toNat) (0) ⟨by omega, fun i hi => absurd hi (by omega)⟩ (Sub.cons rfl (Sub.cons rfl (Sub.cons rfl (Sub.cons rfl (Sub.cons rfl (Sub.cons rfl (Sub.cons rfl Sub.nil))))))) (fun _ h => h) ?_
    rintro k ⟨hk1, hall1⟩
    refine Wk.seq ?_
    refine Wk.regionQ ?_
    refine Lq.op (v := .bool (decide (((k : Int)) < a.n))) rfl rfl rfl (OpQ.lss rfl rfl rfl) ?_
    refine Lq.nil ?_
    refine Kt.onSub (e' := [(1, va), (3, vb), (4, .int .i64 ((n : Int) + 1)), (5, .pointer (some ⟨p5, 0, none⟩)), (7, .pointer (some ⟨p7, 0, none⟩)), (20, .int .i64 a.n), (21, .int .i64 ((k : Int))), (22, .bool (decide (((k : Int)) < a.n)))]) (Sub.cons rfl (Sub.cons rfl (Sub.cons rfl (Sub.cons rfl (Sub.cons rfl (Sub.cons rfl (Sub.cons rfl (Sub.cons rfl Sub.nil)))))))) ?_
    refine Wk.seq ?_
    refine Wk.cond (b := decide (((k : Int)) < a.n)) rfl (fun h22 => ?_) (fun h22 => ?_)
    · skip
      replace h22 := of_decide_eq_true h22
      have hx : a.El k := ⟨by omega, by omega⟩
      refine Wk.skip ?_
      refine Kt.onSub (e' := [(1, va), (3, vb), (4, .int .i64 ((n : Int) + 1)), (5, .pointer (some ⟨p5, 0, none⟩)), (7, .pointer (some ⟨p7, 0, none⟩)), (20, .int .i64 a.n), (21, .int .i64 ((k : Int)))]) (Sub.cons rfl (Sub.cons rfl (Sub.cons rfl (Sub.cons rfl (Sub.cons rfl (Sub.cons rfl (Sub.cons rfl Sub.nil))))))) ?_
      refine Wk.seq ?_
      refine Wk.block ?_
      refine Wk.seq ?_
      refine Wk.regionQ ?_
      refine Lq.op (v := .int .i64 ((k : Int))) rfl rfl rfl (OpQ.move rfl rfl) ?_
      refine Lq.op (v := .int .i64 ((k : Int))) rfl rfl rfl (OpQ.assign rfl rfl) ?_
      refine Lq.nil ?_
      refine Kt.onSub (e' := [(1, va), (3, vb), (4, .int .i64 ((n : Int) + 1)), (5, .pointer (some ⟨p5, 0, none⟩)), (7, .pointer (some ⟨p7, 0, none⟩)), (11, .int .i64 ((k : Int))), (20, .int .i64 a.n), (21, .int .i64 ((k : Int)))]) (Sub.cons rfl (Sub.cons rfl (Sub.cons rfl (Sub.cons rfl (Sub.cons rfl (Sub.cons rfl (Sub.cons rfl (Sub.cons rfl Sub.nil)))))))) ?_
      refine Wk.seq ?_
      refine Wk.regionQ ?_
      refine Lq.op (v := vS a) rfl rfl rfl (OpQ.loadBox (cs := #[.int .i64 a.n, str a.set, str a.rel]) 1 rfl Tryd.isAgg26 rfl rfl Tryd.sizeOf26) ?_
      refine Lq.op (v := va) rfl rfl rfl (OpQ.move rfl rfl) ?_
      refine Lq.op (v := vS b) rfl rfl rfl (OpQ.loadBox (cs := #[.int .i64 b.n, str b.set, str b.rel]) 0 rfl Tryd.isAgg26 rfl rfl Tryd.sizeOf26) ?_
      refine Lq.op (v := vb) rfl rfl rfl (OpQ.move rfl rfl) ?_
      refine Lq.op (v := .int .i64 ((n : Int) + 1)) rfl rfl rfl (OpQ.move rfl rfl) ?_
      refine Lq.op (v := .int .i64 ((k : Int))) rfl rfl rfl (OpQ.move rfl rfl) ?_
      refine Lq.op (v := .tuple #[.int .i64 ((((rep (goB n) a xs b ys ((k : Int))).getD 0 : Nat) : Int)), .bool ((rep (goB n) a xs b ys ((k : Int))).isSome)]) rfl rfl rfl (OpQ.call rfl Tryd.call76 rfl Own.stable (fun w1 hw1 => ih a b xs ys va vb w1 ha hb (Row.own hva hw1) (Row.own hvb hw1) hA hB (by first | (simp; done) | (simp; omega) | omega) (by first | (simp; done) | (simp; omega) | omega) ((k : Int)) hx)) ?_
      refine Lq.op (v := .tuple #[.int .i64 ((((rep (goB n) a xs b ys ((k : Int))).getD 0 : Nat) : Int)), .bool ((rep (goB n) a xs b ys ((k : Int))).isSome)]) rfl rfl rfl (OpQ.move rfl rfl) ?_
      refine Lq.op (v := .int .i64 ((((rep (goB n) a xs b ys ((k : Int))).getD 0 : Nat) : Int))) rfl rfl rfl (OpQ.extract rfl rfl rfl) ?_
      refine Lq.op (v := .bool ((rep (goB n) a xs b ys ((k : Int))).isSome)) rfl rfl rfl (OpQ.extract rfl rfl rfl) ?_
      refine Lq.op (v := .int .i64 ((((rep (goB n) a xs b ys ((k : Int))).getD 0 : Nat) : Int))) rfl rfl rfl (OpQ.assign rfl rfl) ?_
      refine Lq.op (v := .bool ((rep (goB n) a xs b ys ((k : Int))).isSome)) rfl rfl rfl (OpQ.assign rfl rfl) ?_
      refine Lq.nil ?_
      refine Kt.onSub (e' := [(1, va), (3, vb), (4, .int .i64 ((n : Int) + 1)), (5, .pointer (some ⟨p5, 0, none⟩)), (7, .pointer (some ⟨p7, 0, none⟩)), (13, .bool ((rep (goB n) a xs b ys ((k : Int))).isSome)), (20, .int .i64 a.n), (21, .int .i64 ((k : Int)))]) (Sub.cons rfl (Sub.cons rfl (Sub.cons rfl (Sub.cons rfl (Sub.cons rfl (Sub.cons rfl (Sub.cons rfl (Sub.cons rfl Sub.nil)))))))) ?_
      refine Wk.seq ?_
      refine Wk.regionQ ?_
      refine Lq.op (v := .bool ((rep (goB n) a xs b ys ((k : Int))).isSome)) rfl rfl rfl (OpQ.move rfl rfl) ?_
      refine Lq.op (v := .bool (!((rep (goB n) a xs b ys ((k : Int))).isSome))) rfl rfl rfl (OpQ.not rfl rfl) ?_
      refine Lq.nil ?_
      refine Kt.onSub (e' := [(1, va), (3, vb), (4, .int .i64 ((n : Int) + 1)), (5, .pointer (some ⟨p5, 0, none⟩)), (7, .pointer (some ⟨p7, 0, none⟩)), (20, .int .i64 a.n), (21, .int .i64 ((k : Int))), (35, .bool (!((rep (goB n) a xs b ys ((k : Int))).isSome)))]) (Sub.cons rfl (Sub.cons rfl (Sub.cons rfl (Sub.cons rfl (Sub.cons rfl (Sub.cons rfl (Sub.cons rfl (Sub.cons rfl Sub.nil)))))))) ?_
      refine Wk.cond (b := !((rep (goB n) a xs b ys ((k : Int))).isSome)) rfl (fun h35 => ?_) (fun h35 => ?_)
      · skip
        replace h35 := not_true h35
        refine Wk.seq ?_
        refine Wk.regionQ ?_
        refine Lq.op (v := .bool false) rfl rfl rfl (OpQ.assign rfl rfl) ?_
        refine Lq.nil ?_
        refine Kt.onSub (e' := [(10, .bool false)]) (Sub.cons rfl Sub.nil) ?_
        refine Wk.ret (Kt.end1 rfl rfl fun w' hw => ?_)
        -- ret 0: .bool false
        exact ⟨ret_b (go_no1 (x := k) (by omega) (by simpa using h35)).symm, hw.below⟩
      · skip
        replace h35 := not_false h35
        refine Wk.skip ?_
        refine Kt.onSub (e' := [(1, va), (3, vb), (4, .int .i64 ((n : Int) + 1)), (5, .pointer (some ⟨p5, 0, none⟩)), (7, .pointer (some ⟨p7, 0, none⟩)), (20, .int .i64 a.n), (21, .int .i64 ((k : Int)))]) (Sub.cons rfl (Sub.cons rfl (Sub.cons rfl (Sub.cons rfl (Sub.cons rfl (Sub.cons rfl (Sub.cons rfl Sub.nil))))))) ?_
        refine Wk.regionQ ?_
        refine Lq.op (v := .int .i64 (((k : Int)) + (1 : Int))) rfl rfl rfl (OpQ.add rfl rfl rfl (by omega) (by omega)) ?_
        refine Lq.op (v := .int .i64 (((k : Int)) + (1 : Int))) rfl rfl rfl (OpQ.move rfl rfl) ?_
        refine Lq.nil ?_
        refine Kt.again (k + 1) ⟨by omega, fun i hi => (Nat.lt_succ_iff_lt_or_eq.1 hi).elim (hall1 i) (fun e => by subst e; assumption)⟩ (by omega) (Sub.cons rfl (Sub.cons rfl (Sub.cons rfl (Sub.cons rfl (Sub.cons rfl (Sub.cons rfl (Sub.cons rfl Sub.nil))))))) (fun _ h => h)
    · skip
      replace h22 := of_decide_eq_false h22
      refine Wk.exit rfl ?_
      refine Kt.onSub (e' := [(1, va), (3, vb), (4, .int .i64 ((n : Int) + 1)), (5, .pointer (some ⟨p5, 0, none⟩)), (7, .pointer (some ⟨p7, 0, none⟩))]) (Sub.cons rfl (Sub.cons rfl (Sub.cons rfl (Sub.cons rfl (Sub.cons rfl Sub.nil))))) ?_
      refine Wk.seq ?_
      refine Wk.seq ?_
      refine Wk.regionQ ?_
      refine Lq.op (v := .pointer (some ⟨p7, 0, none⟩)) rfl rfl rfl (OpQ.fieldAddr rfl Tryd.runUnderlying26 rfl Tryd.sizeOf3 rfl rfl) ?_
      refine Lq.op (v := .int .i64 b.n) rfl rfl rfl (OpQ.loadOwn 0 rfl Tryd.isAgg3 rfl rfl rfl) ?_
      refine Lq.op (v := .int .i64 0) rfl rfl rfl (OpQ.move rfl rfl) ?_
      refine Lq.nil ?_
      refine Kt.onSub (e' := [(1, va), (3, vb), (4, .int .i64 ((n : Int) + 1)), (5, .pointer (some ⟨p5, 0, none⟩)), (7, .pointer (some ⟨p7, 0, none⟩)), (38, .int .i64 b.n), (39, .int .i64 0)]) (Sub.cons rfl (Sub.cons rfl (Sub.cons rfl (Sub.cons rfl (Sub.cons rfl (Sub.cons rfl (Sub.cons rfl Sub.nil))))))) ?_
      refine Wk.block ?_
      refine Wk.loop (σ := Nat) (fun m => (m : Int) ≤ b.n ∧ ∀ i : Nat, i < m → (rep (goB n) b ys a xs i).isSome = true) (fun m => [(1, va), (3, vb), (4, .int .i64 ((n : Int) + 1)), (5, .pointer (some ⟨p5, 0, none⟩)), (7, .pointer (some ⟨p7, 0, none⟩)), (38, .int .i64 b.n), (39, .int .i64 ((m : Int)))]) (fun m => Own w.heap.size w [(p7, .cells #[.int .i64 b.n, str b.set, str b.rel] 26 (0, 0)), (p5, .cells #[.int .i64 a.n, str a.set, str a.rel] 26 (0, 0))]) (fun m => (b.n - m).toNat) (0) ⟨by omega, fun i hi => absurd hi (by omega)⟩ (Sub.cons rfl (Sub.cons rfl (Sub.cons rfl (Sub.cons rfl (Sub.cons rfl (Sub.cons rfl (Sub.cons rfl Sub.nil))))))) (fun _ h => h) ?_
      rintro m ⟨hk2, hall2⟩
      refine Wk.seq ?_
      refine Wk.regionQ ?_
      refine Lq.op (v := .bool (decide (((m : Int)) < b.n))) rfl rfl rfl (OpQ.lss rfl rfl rfl) ?_
      refine Lq.nil ?_
      refine Kt.onSub (e' := [(1, va), (3, vb), (4, .int .i64 ((n : Int) + 1)), (5, .pointer (some ⟨p5, 0, none⟩)), (7, .pointer (some ⟨p7, 0, none⟩)), (38, .int .i64 b.n), (39, .int .i64 ((m : Int))), (40, .bool (decide (((m : Int)) < b.n)))]) (Sub.cons rfl (Sub.cons rfl (Sub.cons rfl (Sub.cons rfl (Sub.cons rfl (Sub.cons rfl (Sub.cons rfl (Sub.cons rfl Sub.nil)))))))) ?_
      refine Wk.seq ?_
      refine Wk.cond (b := decide (((m : Int)) < b.n)) rfl (fun h40 => ?_) (fun h40 => ?_)
      · skip
        replace h40 := of_decide_eq_true h40
        have hy : b.El m := ⟨by omega, by omega⟩
        refine Wk.skip ?_
        refine Kt.onSub (e' := [(1, va), (3, vb), (4, .int .i64 ((n : Int) + 1)), (5, .pointer (some ⟨p5, 0, none⟩)), (7, .pointer (some ⟨p7, 0, none⟩)), (38, .int .i64 b.n), (39, .int .i64 ((m : Int)))]) (Sub.cons rfl (Sub.cons rfl (Sub.cons rfl (Sub.cons rfl (Sub.cons rfl (Sub.cons rfl (Sub.cons rfl Sub.nil))))))) ?_
        refine Wk.seq ?_
        refine Wk.block ?_
        refine Wk.seq ?_
        refine Wk.regionQ ?_
        refine Lq.op (v := .int .i64 ((m : Int))) rfl rfl rfl (OpQ.move rfl rfl) ?_
        refine Lq.op (v := .int .i64 ((m : Int))) rfl rfl rfl (OpQ.assign rfl rfl) ?_
        refine Lq.nil ?_
        refine Kt.onSub (e' := [(1, va), (3, vb), (4, .int .i64 ((n : Int) + 1)), (5, .pointer (some ⟨p5, 0, none⟩)), (7, .pointer (some ⟨p7, 0, none⟩)), (14, .int .i64 ((m : Int))), (38, .int .i64 b.n), (39, .int .i64 ((m : Int)))]) (Sub.cons rfl (Sub.cons rfl (Sub.cons rfl (Sub.cons rfl (Sub.cons rfl (Sub.cons rfl (Sub.cons rfl (Sub.cons rfl Sub.nil)))))))) ?_
        refine Wk.seq ?_
        refine Wk.regionQ ?_
        refine Lq.op (v := vS b) rfl rfl rfl (OpQ.loadBox (cs := #[.int .i64 b.n, str b.set, str b.rel]) 0 rfl Tryd.isAgg26 rfl rfl Tryd.sizeOf26) ?_
        refine Lq.op (v := vb) rfl rfl rfl (OpQ.move rfl rfl) ?_
        refine Lq.op (v := vS a) rfl rfl rfl (OpQ.loadBox (cs := #[.int .i64 a.n, str a.set, str a.rel]) 1 rfl Tryd.isAgg26 rfl rfl Tryd.sizeOf26) ?_
        refine Lq.op (v := va) rfl rfl rfl (OpQ.move rfl rfl) ?_
        refine Lq.op (v := .int .i64 ((n : Int) + 1)) rfl rfl rfl (OpQ.move rfl rfl) ?_
        refine Lq.op (v := .int .i64 ((m : Int))) rfl rfl rfl (OpQ.move rfl rfl) ?_
        refine Lq.op (v := .tuple #[.int .i64 ((((rep (goB n) b ys a xs ((m : Int))).getD 0 : Nat) : Int)), .bool ((rep (goB n) b ys a xs ((m : Int))).isSome)]) rfl rfl rfl (OpQ.call rfl Tryd.call76 rfl Own.stable (fun w1 hw1 => ih b a ys xs vb va w1 hb ha (Row.own hvb hw1) (Row.own hva hw1) hB hA (by first | (simp; done) | (simp; omega) | omega) (by first | (simp; done) | (simp; omega) | omega) ((m : Int)) hy)) ?_
        refine Lq.op (v := .tuple #[.int .i64 ((((rep (goB n) b ys a xs ((m : Int))).getD 0 : Nat) : Int)), .bool ((rep (goB n) b ys a xs ((m : Int))).isSome)]) rfl rfl rfl (OpQ.move rfl rfl) ?_
        refine Lq.op (v := .int .i64 ((((rep (goB n) b ys a xs ((m : Int))).getD 0 : Nat) : Int))) rfl rfl rfl (OpQ.extract rfl rfl rfl) ?_
        refine Lq.op (v := .bool ((rep (goB n) b ys a xs ((m : Int))).isSome)) rfl rfl rfl (OpQ.extract rfl rfl rfl) ?_
        refine Lq.op (v := .int .i64 ((((rep (goB n) b ys a xs ((m : Int))).getD 0 : Nat) : Int))) rfl rfl rfl (OpQ.assign rfl rfl) ?_
        refine Lq.op (v := .bool ((rep (goB n) b ys a xs ((m : Int))).isSome)) rfl rfl rfl (OpQ.assign rfl rfl) ?_
        refine Lq.nil ?_
        refine Kt.onSub (e' := [(1, va), (3, vb), (4, .int .i64 ((n : Int) + 1)), (5, .pointer (some ⟨p5, 0, none⟩)), (7, .pointer (some ⟨p7, 0, none⟩)), (16, .bool ((rep (goB n) b ys a xs ((m : Int))).isSome)), (38, .int .i64 b.n), (39, .int .i64 ((m : Int)))]) (Sub.cons rfl (Sub.cons rfl (Sub.cons rfl (Sub.cons rfl (Sub.cons rfl (Sub.cons rfl (Sub.cons rfl (Sub.cons rfl Sub.nil)))))))) ?_
        refine Wk.seq ?_
        refine Wk.regionQ ?_
        refine Lq.op (v := .bool ((rep (goB n) b ys a xs ((m : Int))).isSome)) rfl rfl rfl (OpQ.move rfl rfl) ?_
        refine Lq.op (v := .bool (!((rep (goB n) b ys a xs ((m : Int))).isSome))) rfl rfl rfl (OpQ.not rfl rfl) ?_
        refine Lq.nil ?_
        refine Kt.onSub (e' := [(1, va), (3, vb), (4, .int .i64 ((n : Int) + 1)), (5, .pointer (some ⟨p5, 0, none⟩)), (7, .pointer (some ⟨p7, 0, none⟩)), (38, .int .i64 b.n), (39, .int .i64 ((m : Int))), (53, .bool (!((rep (goB n) b ys a xs ((m : Int))).isSome)))]) (Sub.cons rfl (Sub.cons rfl (Sub.cons rfl (Sub.cons rfl (Sub.cons rfl (Sub.cons rfl (Sub.cons rfl (Sub.cons rfl Sub.nil)))))))) ?_
        refine Wk.cond (b := !((rep (goB n) b ys a xs ((m : Int))).isSome)) rfl (fun h53 => ?_) (fun h53 => ?_)
        · skip
          replace h53 := not_true h53
          refine Wk.seq ?_
          refine Wk.regionQ ?_
          refine Lq.op (v := .bool false) rfl rfl rfl (OpQ.assign rfl rfl) ?_
          refine Lq.nil ?_
          refine Kt.onSub (e' := [(10, .bool false)]) (Sub.cons rfl Sub.nil) ?_
          refine Wk.ret (Kt.end1 rfl rfl fun w' hw => ?_)
          -- ret 1: .bool false
          exact ⟨ret_b (go_no2 (y := m) (by omega) (by simpa using h53)).symm, hw.below⟩
        · skip
          replace h53 := not_false h53
          refine Wk.skip ?_
          refine Kt.onSub (e' := [(1, va), (3, vb), (4, .int .i64 ((n : Int) + 1)), (5, .pointer (some ⟨p5, 0, none⟩)), (7, .pointer (some ⟨p7, 0, none⟩)), (38, .int .i64 b.n), (39, .int .i64 ((m : Int)))]) (Sub.cons rfl (Sub.cons rfl (Sub.cons rfl (Sub.cons rfl (Sub.cons rfl (Sub.cons rfl (Sub.cons rfl Sub.nil))))))) ?_
          refine Wk.regionQ ?_
          refine Lq.op (v := .int .i64 (((m : Int)) + (1 : Int))) rfl rfl rfl (OpQ.add rfl rfl rfl (by omega) (by omega)) ?_
          refine Lq.op (v := .int .i64 (((m : Int)) + (1 : Int))) rfl rfl rfl (OpQ.move rfl rfl) ?_
          refine Lq.nil ?_
          refine Kt.again (m + 1) ⟨by omega, fun i hi => (Nat.lt_succ_iff_lt_or_eq.1 hi).elim (hall2 i) (fun e => by subst e; assumption)⟩ (by omega) (Sub.cons rfl (Sub.cons rfl (Sub.cons rfl (Sub.cons rfl (Sub.cons rfl (Sub.cons rfl (Sub.cons rfl Sub.nil))))))) (fun _ h => h)
      · skip
        replace h40 := of_decide_eq_false h40
        refine Wk.exit rfl ?_
        refine Kt.onSub (e' := []) Sub.nil ?_
        refine Wk.seq ?_
        refine Wk.regionQ ?_
        refine Lq.op (v := .bool true) rfl rfl rfl (OpQ.assign rfl rfl) ?_
        refine Lq.nil ?_
        refine Kt.onSub (e' := [(10, .bool true)]) (Sub.cons rfl Sub.nil) ?_
        refine Wk.ret (Kt.end1 rfl rfl fun w' hw => ?_)
        -- ret 2: .bool true
        exact ⟨ret_b (go_yes (fun i hi => hall1 i (by omega)) (fun i hi => hall2 i (by omega))).symm, hw.below⟩

theorem goes_ok : ∀ n : Nat, ∀ (a b : St) (xs ys : List Int) (va vb : Value) (w : World), a.Fine → b.Fine → Ints w va xs → Ints w vb ys → a.Els xs → b.Els ys → xs.length = ys.length → xs.length + n ≤ 7 → Calls Tryd.prog 101 #[vS a, va, vS b, vb, .int .i64 (n : Int)] w fun en w' => en = .returned (.bool (goB n a xs b ys)) ∧ Below w.heap.size w w'
  | 0 => fun a b xs ys va vb w _ _ _ _ _ _ _ _ => goes_zero a b xs ys va vb w
  | n + 1 => fun a b xs ys va vb w ha hb hva hvb hA hB hl h7 =>
    goes_of n (fun a b xs ys va vb w ha hb hva hvb hA hB hl h7 x hx => reply_of n (goes_ok n) a b xs ys va vb w ha hb hva hvb hA hB hl h7 x hx) a b xs ys va vb w ha hb hva hvb hA hB hl h7
theorem goes_at (r : Int) (h0 : 0 ≤ r) : ∀ (a b : St) (xs ys : List Int) (va vb : Value) (w : World), a.Fine → b.Fine → Ints w va xs → Ints w vb ys → a.Els xs → b.Els ys → xs.length = ys.length → xs.length + r.toNat ≤ 7 → Calls Tryd.prog 101 #[vS a, va, vS b, vb, .int .i64 r] w fun en w' => en = .returned (.bool (goB r.toNat a xs b ys)) ∧ Below w.heap.size w w' := by
  have h := goes_ok r.toNat
  rw [Int.toNat_of_nonneg h0] at h
  exact h
theorem reply_at (r : Int) (h0 : 0 ≤ r) : ∀ (a b : St) (xs ys : List Int) (va vb : Value) (w : World), a.Fine → b.Fine → Ints w va xs → Ints w vb ys → a.Els xs → b.Els ys → xs.length = ys.length → xs.length + (r.toNat + 1) ≤ 7 → ∀ x : Int, a.El x → Calls Tryd.prog 76 #[vS a, va, vS b, vb, .int .i64 (r + 1), .int .i64 x] w fun en w' => en = .returned (.tuple #[.int .i64 (((rep (goB r.toNat) a xs b ys x).getD 0 : Nat) : Int), .bool (rep (goB r.toNat) a xs b ys x).isSome]) ∧ Below w.heap.size w w' := by
  intro a b xs ys va vb w ha hb hva hvb hA hB hl h7 x hx
  have h := reply_of r.toNat (goes_ok r.toNat) a b xs ys va vb w ha hb hva hvb hA hB hl h7 x hx
  rw [Int.toNat_of_nonneg h0] at h
  exact h

set_option maxHeartbeats 400000 in
/-- impl.isGame -/
theorem isGame_ok (a b : St) (xs ys : List Int) (va vb : Value) (w : World) (hsa : a.Small) (hsb : b.Small) (hva : Ints w va xs) (hvb : Ints w vb ys) (hs1 : xs.length ≤ 140737488355328) (hs2 : ys.length ≤ 140737488355328) (r : Int) :
    Calls Tryd.prog 62 [vS a, va, vS b, vb, .int .i64 r].toArray w fun en w' => en = .returned (.bool (gameB a xs b ys r)) ∧ Below w.heap.size w w' := by
  refine fnStart (n := 24) (e := [(0, vS a), (1, va), (2, vS b), (3, vb), (4, .int .i64 r)]) Tryd.func62 rfl rfl rfl rfl Ends.both ?_
  refine Wk.seq ?_
  refine Wk.region ?_
  refine Ll.box (v := vS a) rfl rfl rfl rfl rfl fun p5 hp5 => ?_
  show Ll _ _ (Own _ _ [(p5, .cells #[.int .i64 a.n, str a.set, str a.rel] 26 (0, 0))]) _ _ ((5, .pointer (some ⟨p5, 0, none⟩)) :: _) _ _ _
  refine Ll.box (v := vS b) rfl rfl rfl rfl rfl fun p7 hp7 => ?_
  show Ll _ _ (Own _ _ [(p7, .cells #[.int .i64 b.n, str b.set, str b.rel] 26 (0, 0)), (p5, .cells #[.int .i64 a.n, str a.set, str a.rel] 26 (0, 0))]) _ _ ((7, .pointer (some ⟨p7, 0, none⟩)) :: _) _ _ _
  refine Ll.op (v := .bool false) rfl rfl rfl (OpQ.assign rfl rfl) ?_
  refine Ll.nil ?_
  refine Kt.onSub (e' := [(1, va), (3, vb), (4, .int .i64 r), (5, .pointer (some ⟨p5, 0, none⟩)), (7, .pointer (some ⟨p7, 0, none⟩))]) (Sub.cons rfl (Sub.cons rfl (Sub.cons rfl (Sub.cons rfl (Sub.cons rfl Sub.nil))))) ?_
  refine Wk.seq ?_
  refine Wk.regionQ ?_
  refine Lq.op (v := vS a) rfl rfl rfl (OpQ.loadBox (cs := #[.int .i64 a.n, str a.set, str a.rel]) 1 rfl Tryd.isAgg26 rfl rfl Tryd.sizeOf26) ?_
  refine Lq.op (v := va) rfl rfl rfl (OpQ.move rfl rfl) ?_
  refine Lq.op (v := vS b) rfl rfl rfl (OpQ.loadBox (cs := #[.int .i64 b.n, str b.set, str b.rel]) 0 rfl Tryd.isAgg26 rfl rfl Tryd.sizeOf26) ?_
  refine Lq.op (v := vb) rfl rfl rfl (OpQ.move rfl rfl) ?_
  refine Lq.op (v := .bool (listsB a xs b ys)) rfl rfl rfl (OpQ.call rfl Tryd.call65 rfl Own.stable (fun w1 hw1 => areLists_ok a b xs ys va vb w1 hsa hsb (Row.own hva hw1) (Row.own hvb hw1) (by first | (simp; done) | (simp; omega) | omega) (by first | (simp; done) | (simp; omega) | omega))) ?_
  refine Lq.op (v := .bool (listsB a xs b ys)) rfl rfl rfl (OpQ.move rfl rfl) ?_
  refine Lq.bool fun b16 hg16 => ?_
  cases b16
  · skip
    refine Lq.pass rfl rfl rfl ?_
    refine Lq.pass rfl rfl rfl ?_
    refine Lq.op (v := .bool false) rfl rfl rfl (OpQ.pickF rfl rfl rfl) ?_
    refine Lq.op (v := .bool false) rfl rfl rfl (OpQ.move rfl rfl) ?_
    refine Lq.pass rfl rfl rfl ?_
    refine Lq.pass rfl rfl rfl ?_
    refine Lq.op (v := .bool false) rfl rfl rfl (OpQ.pickF rfl rfl rfl) ?_
    refine Lq.op (v := .bool false) rfl rfl rfl (OpQ.assign rfl rfl) ?_
    refine Lq.nil ?_
    refine Kt.onSub (e' := [(10, .bool false)]) (Sub.cons rfl Sub.nil) ?_
    refine Wk.ret (Kt.end1 rfl rfl fun w' hw => ?_)
    -- ret 0: .bool false
    exact ⟨ret_b (by unfold gameB inB; first | (simp_all; done) | (simp_all; omega)), hw.below⟩
  · skip
    refine Lq.op (v := .int .i64 r) rfl rfl rfl (OpQ.move rfl rfl) ?_
    refine Lq.op (v := .bool (decide ((0 : Int) ≤ r))) rfl rfl rfl (OpQ.geq rfl rfl rfl) ?_
    refine Lq.op (v := .bool (decide ((0 : Int) ≤ r))) rfl rfl rfl (OpQ.pickT rfl rfl rfl) ?_
    refine Lq.op (v := .bool (decide ((0 : Int) ≤ r))) rfl rfl rfl (OpQ.move rfl rfl) ?_
    refine Lq.bool fun b20 hg20 => ?_
    cases b20
    · skip
      replace hg20 := of_decide_eq_false hg20
      refine Lq.pass rfl rfl rfl ?_
      refine Lq.pass rfl rfl rfl ?_
      refine Lq.op (v := .bool false) rfl rfl rfl (OpQ.pickF rfl rfl rfl) ?_
      refine Lq.op (v := .bool false) rfl rfl rfl (OpQ.assign rfl rfl) ?_
      refine Lq.nil ?_
      refine Kt.onSub (e' := [(10, .bool false)]) (Sub.cons rfl Sub.nil) ?_
      refine Wk.ret (Kt.end1 rfl rfl fun w' hw => ?_)
      -- ret 1: .bool false
      exact ⟨ret_b (by unfold gameB inB; first | (simp_all; done) | (simp_all; omega)), hw.below⟩
    · skip
      replace hg20 := of_decide_eq_true hg20
      refine Lq.op (v := .int .i64 r) rfl rfl rfl (OpQ.move rfl rfl) ?_
      refine Lq.op (v := .bool (decide (r ≤ (3 : Int)))) rfl rfl rfl (OpQ.leq rfl rfl rfl) ?_
      refine Lq.op (v := .bool (decide (r ≤ (3 : Int)))) rfl rfl rfl (OpQ.pickT rfl rfl rfl) ?_
      refine Lq.op (v := .bool (decide (r ≤ (3 : Int)))) rfl rfl rfl (OpQ.assign rfl rfl) ?_
      refine Lq.nil ?_
      refine Kt.onSub (e' := [(10, .bool (decide (r ≤ (3 : Int))))]) (Sub.cons rfl Sub.nil) ?_
      refine Wk.ret (Kt.end1 rfl rfl fun w' hw => ?_)
      -- ret 2: .bool (decide (r ≤ (3 : Int)))
      exact ⟨ret_b (by unfold gameB inB; first | (simp_all; done) | (simp_all; omega)), hw.below⟩

set_option maxHeartbeats 400000 in
/-- impl.secondWins -/
theorem wins_ok (a b : St) (xs ys : List Int) (va vb : Value) (w : World) (ha : a.Fine) (hb : b.Fine) (hva : Ints w va xs) (hvb : Ints w vb ys) (hA : a.Els xs) (hB : b.Els ys) (hlen : xs.length = ys.length) (h4 : xs.length ≤ 4) (r : Int) (h0 : 0 ≤ r) (h3 : r ≤ 3) :
    Calls Tryd.prog 63 [vS a, va, vS b, vb, .int .i64 r].toArray w fun en w' => en = .returned (.bool (winB r.toNat a xs b ys)) ∧ Below w.heap.size w w' := by
  refine fnStart (n := 24) (e := [(0, vS a), (1, va), (2, vS b), (3, vb), (4, .int .i64 r)]) Tryd.func63 rfl rfl rfl rfl Ends.both ?_
  refine Wk.seq ?_
  refine Wk.region ?_
  refine Ll.box (v := vS a) rfl rfl rfl rfl rfl fun p5 hp5 => ?_
  show Ll _ _ (Own _ _ [(p5, .cells #[.int .i64 a.n, str a.set, str a.rel] 26 (0, 0))]) _ _ ((5, .pointer (some ⟨p5, 0, none⟩)) :: _) _ _ _
  refine Ll.box (v := vS b) rfl rfl rfl rfl rfl fun p7 hp7 => ?_
  show Ll _ _ (Own _ _ [(p7, .cells #[.int .i64 b.n, str b.set, str b.rel] 26 (0, 0)), (p5, .cells #[.int .i64 a.n, str a.set, str a.rel] 26 (0, 0))]) _ _ ((7, .pointer (some ⟨p7, 0, none⟩)) :: _) _ _ _
  refine Ll.op (v := .bool false) rfl rfl rfl (OpQ.assign rfl rfl) ?_
  refine Ll.nil ?_
  refine Kt.onSub (e' := [(1, va), (3, vb), (4, .int .i64 r), (5, .pointer (some ⟨p5, 0, none⟩)), (7, .pointer (some ⟨p7, 0, none⟩))]) (Sub.cons rfl (Sub.cons rfl (Sub.cons rfl (Sub.cons rfl (Sub.cons rfl Sub.nil))))) ?_
  refine Wk.seq ?_
  refine Wk.regionQ ?_
  refine Lq.op (v := vS a) rfl rfl rfl (OpQ.loadBox (cs := #[.int .i64 a.n, str a.set, str a.rel]) 1 rfl Tryd.isAgg26 rfl rfl Tryd.sizeOf26) ?_
  refine Lq.op (v := va) rfl rfl rfl (OpQ.move rfl rfl) ?_
  refine Lq.op (v := vS b) rfl rfl rfl (OpQ.loadBox (cs := #[.int .i64 b.n, str b.set, str b.rel]) 0 rfl Tryd.isAgg26 rfl rfl Tryd.sizeOf26) ?_
  refine Lq.op (v := vb) rfl rfl rfl (OpQ.move rfl rfl) ?_
  refine Lq.op (v := .bool (sameB a xs b ys)) rfl rfl rfl (OpQ.call rfl Tryd.call83 rfl Own.stable (fun w1 hw1 => sameWay_ok a b xs ys va vb w1 ha hb (Row.own hva hw1) (Row.own hvb hw1) hA hB (by omega) (by omega))) ?_
  refine Lq.op (v := .bool (sameB a xs b ys)) rfl rfl rfl (OpQ.move rfl rfl) ?_
  refine Lq.bool fun b16 hg16 => ?_
  cases b16
  · skip
    refine Lq.pass rfl rfl rfl ?_
    refine Lq.pass rfl rfl rfl ?_
    refine Lq.pass rfl rfl rfl ?_
    refine Lq.pass rfl rfl rfl ?_
    refine Lq.pass rfl rfl rfl ?_
    refine Lq.pass rfl rfl rfl ?_
    refine Lq.op (v := .bool false) rfl rfl rfl (OpQ.pickF rfl rfl rfl) ?_
    refine Lq.op (v := .bool false) rfl rfl rfl (OpQ.assign rfl rfl) ?_
    refine Lq.nil ?_
    refine Kt.onSub (e' := [(10, .bool false)]) (Sub.cons rfl Sub.nil) ?_
    refine Wk.ret (Kt.end1 rfl rfl fun w' hw => ?_)
    -- ret 0: .bool false
    exact ⟨ret_b (by unfold winB; simp [*]), hw.below⟩
  · skip
    refine Lq.op (v := vS a) rfl rfl rfl (OpQ.loadBox (cs := #[.int .i64 a.n, str a.set, str a.rel]) 1 rfl Tryd.isAgg26 rfl rfl Tryd.sizeOf26) ?_
    refine Lq.op (v := va) rfl rfl rfl (OpQ.move rfl rfl) ?_
    refine Lq.op (v := vS b) rfl rfl rfl (OpQ.loadBox (cs := #[.int .i64 b.n, str b.set, str b.rel]) 0 rfl Tryd.isAgg26 rfl rfl Tryd.sizeOf26) ?_
    refine Lq.op (v := vb) rfl rfl rfl (OpQ.move rfl rfl) ?_
    refine Lq.op (v := .int .i64 r) rfl rfl rfl (OpQ.move rfl rfl) ?_
    refine Lq.op (v := .bool (goB r.toNat a xs b ys)) rfl rfl rfl (OpQ.call rfl Tryd.call101 rfl Own.stable (fun w1 hw1 => goes_at r h0 a b xs ys va vb w1 ha hb (Row.own hva hw1) (Row.own hvb hw1) hA hB (by first | (simp; done) | (simp; omega) | omega) (by first | (simp; done) | (simp; omega) | omega))) ?_
    refine Lq.op (v := .bool (goB r.toNat a xs b ys)) rfl rfl rfl (OpQ.pickT rfl rfl rfl) ?_
    refine Lq.op (v := .bool (goB r.toNat a xs b ys)) rfl rfl rfl (OpQ.assign rfl rfl) ?_
    refine Lq.nil ?_
    refine Kt.onSub (e' := [(10, .bool (goB r.toNat a xs b ys))]) (Sub.cons rfl Sub.nil) ?_
    refine Wk.ret (Kt.end1 rfl rfl fun w' hw => ?_)
    -- ret 1: .bool (goB r.toNat a xs b ys)
    exact ⟨ret_b (by unfold winB; simp [*]), hw.below⟩

set_option maxHeartbeats 400000 in
/-- impl.SecondWins -/
theorem iWins_ok (a b : St) (xs ys : List Int) (va vb : Value) (w : World) (hsa : a.Small) (hsb : b.Small) (hva : Ints w va xs) (hvb : Ints w vb ys) (hs1 : xs.length ≤ 140737488355328) (hs2 : ys.length ≤ 140737488355328) (r : Int) :
    Calls Tryd.prog 23 [vS a, va, vS b, vb, .int .i64 r].toArray w fun en w' => en = .returned (.bool (secB a xs b ys r)) ∧ Below w.heap.size w w' := by
  refine fnStart (n := 25) (e := [(0, vS a), (1, va), (2, vS b), (3, vb), (4, .int .i64 r)]) Tryd.func23 rfl rfl rfl rfl Ends.both ?_
  refine Wk.seq ?_
  refine Wk.region ?_
  refine Ll.box (v := vS a) rfl rfl rfl rfl rfl fun p5 hp5 => ?_
  show Ll _ _ (Own _ _ [(p5, .cells #[.int .i64 a.n, str a.set, str a.rel] 26 (0, 0))]) _ _ ((5, .pointer (some ⟨p5, 0, none⟩)) :: _) _ _ _
  refine Ll.box (v := vS b) rfl rfl rfl rfl rfl fun p7 hp7 => ?_
  show Ll _ _ (Own _ _ [(p7, .cells #[.int .i64 b.n, str b.set, str b.rel] 26 (0, 0)), (p5, .cells #[.int .i64 a.n, str a.set, str a.rel] 26 (0, 0))]) _ _ ((7, .pointer (some ⟨p7, 0, none⟩)) :: _) _ _ _
  refine Ll.op (v := .bool false) rfl rfl rfl (OpQ.assign rfl rfl) ?_
  refine Ll.nil ?_
  refine Kt.onSub (e' := [(1, va), (3, vb), (4, .int .i64 r), (5, .pointer (some ⟨p5, 0, none⟩)), (7, .pointer (some ⟨p7, 0, none⟩))]) (Sub.cons rfl (Sub.cons rfl (Sub.cons rfl (Sub.cons rfl (Sub.cons rfl Sub.nil))))) ?_
  refine Wk.seq ?_
  refine Wk.regionQ ?_
  refine Lq.op (v := vS a) rfl rfl rfl (OpQ.loadBox (cs := #[.int .i64 a.n, str a.set, str a.rel]) 1 rfl Tryd.isAgg26 rfl rfl Tryd.sizeOf26) ?_
  refine Lq.op (v := va) rfl rfl rfl (OpQ.move rfl rfl) ?_
  refine Lq.op (v := vS b) rfl rfl rfl (OpQ.loadBox (cs := #[.int .i64 b.n, str b.set, str b.rel]) 0 rfl Tryd.isAgg26 rfl rfl Tryd.sizeOf26) ?_
  refine Lq.op (v := vb) rfl rfl rfl (OpQ.move rfl rfl) ?_
  refine Lq.op (v := .int .i64 r) rfl rfl rfl (OpQ.move rfl rfl) ?_
  refine Lq.op (v := .bool (gameB a xs b ys r)) rfl rfl rfl (OpQ.call rfl Tryd.call62 rfl Own.stable (fun w1 hw1 => isGame_ok a b xs ys va vb w1 hsa hsb (Row.own hva hw1) (Row.own hvb hw1) (by first | (simp; done) | (simp; omega) | omega) (by first | (simp; done) | (simp; omega) | omega) r)) ?_
  refine Lq.op (v := .bool (gameB a xs b ys r)) rfl rfl rfl (OpQ.move rfl rfl) ?_
  refine Lq.bool fun b17 hg17 => ?_
  cases b17
  · skip
    refine Lq.pass rfl rfl rfl ?_
    refine Lq.pass rfl rfl rfl ?_
    refine Lq.pass rfl rfl rfl ?_
    refine Lq.pass rfl rfl rfl ?_
    refine Lq.pass rfl rfl rfl ?_
    refine Lq.pass rfl rfl rfl ?_
    refine Lq.op (v := .bool false) rfl rfl rfl (OpQ.pickF rfl rfl rfl) ?_
    refine Lq.op (v := .bool false) rfl rfl rfl (OpQ.assign rfl rfl) ?_
    refine Lq.nil ?_
    refine Kt.onSub (e' := [(10, .bool false)]) (Sub.cons rfl Sub.nil) ?_
    refine Wk.ret (Kt.end1 rfl rfl fun w' hw => ?_)
    -- ret 0: .bool false
    exact ⟨ret_b (by unfold secB; simp [*]), hw.below⟩
  · skip
    replace hg17 : gameB a xs b ys r = true := by simpa using hg17
    obtain ⟨hLL, hr0, hr3⟩ := gameB_true hg17
    obtain ⟨LA, LB, hlen⟩ := listsB_true hLL
    have ha := LA.fine
    have hb := LB.fine
    have hA := LA.els
    have hB := LB.els
    have hl4 := LA.len
    refine Lq.op (v := vS a) rfl rfl rfl (OpQ.loadBox (cs := #[.int .i64 a.n, str a.set, str a.rel]) 1 rfl Tryd.isAgg26 rfl rfl Tryd.sizeOf26) ?_
    refine Lq.op (v := va) rfl rfl rfl (OpQ.move rfl rfl) ?_
    refine Lq.op (v := vS b) rfl rfl rfl (OpQ.loadBox (cs := #[.int .i64 b.n, str b.set, str b.rel]) 0 rfl Tryd.isAgg26 rfl rfl Tryd.sizeOf26) ?_
    refine Lq.op (v := vb) rfl rfl rfl (OpQ.move rfl rfl) ?_
    refine Lq.op (v := .int .i64 r) rfl rfl rfl (OpQ.move rfl rfl) ?_
    refine Lq.op (v := .bool (winB r.toNat a xs b ys)) rfl rfl rfl (OpQ.call rfl Tryd.call63 rfl Own.stable (fun w1 hw1 => wins_ok a b xs ys va vb w1 ha hb (Row.own hva hw1) (Row.own hvb hw1) hA hB (by first | (simp; done) | (simp; omega) | omega) (by first | (simp; done) | (simp; omega) | omega) r (by omega) (by omega))) ?_
    refine Lq.op (v := .bool (winB r.toNat a xs b ys)) rfl rfl rfl (OpQ.pickT rfl rfl rfl) ?_
    refine Lq.op (v := .bool (winB r.toNat a xs b ys)) rfl rfl rfl (OpQ.assign rfl rfl) ?_
    refine Lq.nil ?_
    refine Kt.onSub (e' := [(10, .bool (winB r.toNat a xs b ys))]) (Sub.cons rfl Sub.nil) ?_
    refine Wk.ret (Kt.end1 rfl rfl fun w' hw => ?_)
    -- ret 1: .bool (winB r.toNat a xs b ys)
    exact ⟨ret_b (by unfold secB; simp [*]), hw.below⟩

set_option maxHeartbeats 400000 in
/-- impl.WonRounds -/
theorem iWon_ok (a b : St) (xs ys : List Int) (va vb : Value) (w : World) (hsa : a.Small) (hsb : b.Small) (hva : Ints w va xs) (hvb : Ints w vb ys) (hs1 : xs.length ≤ 140737488355328) (hs2 : ys.length ≤ 140737488355328) :
    Calls Tryd.prog 26 [vS a, va, vS b, vb].toArray w fun en w' => en = .returned (.int .i64 (wonI a xs b ys)) ∧ Below w.heap.size w w' := by
  refine fnStart (n := 29) (e := [(0, vS a), (1, va), (2, vS b), (3, vb)]) Tryd.func26 rfl rfl rfl rfl Ends.both ?_
  refine Wk.seq ?_
  refine Wk.region ?_
  refine Ll.box (v := vS a) rfl rfl rfl rfl rfl fun p4 hp4 => ?_
  show Ll _ _ (Own _ _ [(p4, .cells #[.int .i64 a.n, str a.set, str a.rel] 26 (0, 0))]) _ _ ((4, .pointer (some ⟨p4, 0, none⟩)) :: _) _ _ _
  refine Ll.box (v := vS b) rfl rfl rfl rfl rfl fun p6 hp6 => ?_
  show Ll _ _ (Own _ _ [(p6, .cells #[.int .i64 b.n, str b.set, str b.rel] 26 (0, 0)), (p4, .cells #[.int .i64 a.n, str a.set, str a.rel] 26 (0, 0))]) _ _ ((6, .pointer (some ⟨p6, 0, none⟩)) :: _) _ _ _
  refine Ll.op (v := .int .i64 0) rfl rfl rfl (OpQ.assign rfl rfl) ?_
  refine Ll.nil ?_
  refine Kt.onSub (e' := [(1, va), (3, vb), (4, .pointer (some ⟨p4, 0, none⟩)), (6, .pointer (some ⟨p6, 0, none⟩))]) (Sub.cons rfl (Sub.cons rfl (Sub.cons rfl (Sub.cons rfl Sub.nil)))) ?_
  refine Wk.seq ?_
  refine Wk.seq ?_
  refine Wk.regionQ ?_
  refine Lq.op (v := vS a) rfl rfl rfl (OpQ.loadBox (cs := #[.int .i64 a.n, str a.set, str a.rel]) 1 rfl Tryd.isAgg26 rfl rfl Tryd.sizeOf26) ?_
  refine Lq.op (v := va) rfl rfl rfl (OpQ.move rfl rfl) ?_
  refine Lq.op (v := vS b) rfl rfl rfl (OpQ.loadBox (cs := #[.int .i64 b.n, str b.set, str b.rel]) 0 rfl Tryd.isAgg26 rfl rfl Tryd.sizeOf26) ?_
  refine Lq.op (v := vb) rfl rfl rfl (OpQ.move rfl rfl) ?_
  refine Lq.op (v := .bool (listsB a xs b ys)) rfl rfl rfl (OpQ.call rfl Tryd.call65 rfl Own.stable (fun w1 hw1 => areLists_ok a b xs ys va vb w1 hsa hsb (Row.own hva hw1) (Row.own hvb hw1) (by first | (simp; done) | (simp; omega) | omega) (by first | (simp; done) | (simp; omega) | omega))) ?_
  refine Lq.op (v := .bool (!(listsB a xs b ys))) rfl rfl rfl (OpQ.not rfl rfl) ?_
  refine Lq.nil ?_
  refine Kt.onSub (e' := [(1, va), (3, vb), (4, .pointer (some ⟨p4, 0, none⟩)), (6, .pointer (some ⟨p6, 0, none⟩)), (16, .bool (!(listsB a xs b ys)))]) (Sub.cons rfl (Sub.cons rfl (Sub.cons rfl (Sub.cons rfl (Sub.cons rfl Sub.nil))))) ?_
  refine Wk.cond (b := !(listsB a xs b ys)) rfl (fun h16 => ?_) (fun h16 => ?_)
  · skip
    replace h16 := not_true h16
    refine Wk.seq ?_
    refine Wk.regionQ ?_
    refine Lq.op (v := .int .i64 (-2)) rfl rfl rfl (OpQ.assign rfl rfl) ?_
    refine Lq.nil ?_
    refine Kt.onSub (e' := [(8, .int .i64 (-2))]) (Sub.cons rfl Sub.nil) ?_
    refine Wk.ret (Kt.end1 rfl rfl fun w' hw => ?_)
    -- ret 0: .int .i64 (-2)
    exact ⟨ret_i (by unfold wonI; simp [*]), hw.below⟩
  · skip
    replace h16 := not_false h16
    replace h16 : listsB a xs b ys = true := by simpa using h16
    obtain ⟨LA, LB, hlen⟩ := listsB_true h16
    have ha := LA.fine
    have hb := LB.fine
    have hA := LA.els
    have hB := LB.els
    have hl4 := LA.len
    refine Wk.skip ?_
    refine Kt.onSub (e' := [(1, va), (3, vb), (4, .pointer (some ⟨p4, 0, none⟩)), (6, .pointer (some ⟨p6, 0, none⟩))]) (Sub.cons rfl (Sub.cons rfl (Sub.cons rfl (Sub.cons rfl Sub.nil)))) ?_
    refine Wk.seq ?_
    refine Wk.regionQ ?_
    refine Lq.op (v := .int .i64 (-1)) rfl rfl rfl (OpQ.assign rfl rfl) ?_
    refine Lq.nil ?_
    refine Kt.onSub (e' := [(1, va), (3, vb), (4, .pointer (some ⟨p4, 0, none⟩)), (6, .pointer (some ⟨p6, 0, none⟩)), (9, .int .i64 (-1))]) (Sub.cons rfl (Sub.cons rfl (Sub.cons rfl (Sub.cons rfl (Sub.cons rfl Sub.nil))))) ?_
    refine Wk.seq ?_
    refine Wk.seq ?_
    refine Wk.regionQ ?_
    refine Lq.op (v := .int .i64 0) rfl rfl rfl (OpQ.move rfl rfl) ?_
    refine Lq.nil ?_
    refine Kt.onSub (e' := [(1, va), (3, vb), (4, .pointer (some ⟨p4, 0, none⟩)), (6, .pointer (some ⟨p6, 0, none⟩)), (9, .int .i64 (-1)), (17, .int .i64 0)]) (Sub.cons rfl (Sub.cons rfl (Sub.cons rfl (Sub.cons rfl (Sub.cons rfl (Sub.cons rfl Sub.nil)))))) ?_
    refine Wk.block ?_
    refine Wk.loop (σ := Nat) (fun k => k ≤ 4) (fun k => [(1, va), (3, vb), (4, .pointer (some ⟨p4, 0, none⟩)), (6, .pointer (some ⟨p6, 0, none⟩)), (9, .int .i64 (lastW (fun n => winB n a xs b ys) k)), (17, .int .i64 ((k : Int)))]) (fun k => Own w.heap.size w [(p6, .cells #[.int .i64 b.n, str b.set, str b.rel] 26 (0, 0)), (p4, .cells #[.int .i64 a.n, str a.set, str a.rel] 26 (0, 0))]) (fun k => 4 - k) (0) (by omega) (Sub.cons rfl (Sub.cons rfl (Sub.cons rfl (Sub.cons rfl (Sub.cons rfl (Sub.cons rfl Sub.nil)))))) (fun _ h => h) ?_
    rintro k hk
    refine Wk.seq ?_
    refine Wk.regionQ ?_
    refine Lq.op (v := .bool (decide (((k : Int)) < (4 : Int)))) rfl rfl rfl (OpQ.lss rfl rfl rfl) ?_
    refine Lq.nil ?_
    refine Kt.onSub (e' := [(1, va), (3, vb), (4, .pointer (some ⟨p4, 0, none⟩)), (6, .pointer (some ⟨p6, 0, none⟩)), (9, .int .i64 (lastW (fun n => winB n a xs b ys) k)), (17, .int .i64 ((k : Int))), (18, .bool (decide (((k : Int)) < (4 : Int))))]) (Sub.cons rfl (Sub.cons rfl (Sub.cons rfl (Sub.cons rfl (Sub.cons rfl (Sub.cons rfl (Sub.cons rfl Sub.nil))))))) ?_
    refine Wk.seq ?_
    refine Wk.cond (b := decide (((k : Int)) < (4 : Int))) rfl (fun h18 => ?_) (fun h18 => ?_)
    · skip
      replace h18 := of_decide_eq_true h18
      refine Wk.skip ?_
      refine Kt.onSub (e' := [(1, va), (3, vb), (4, .pointer (some ⟨p4, 0, none⟩)), (6, .pointer (some ⟨p6, 0, none⟩)), (9, .int .i64 (lastW (fun n => winB n a xs b ys) k)), (17, .int .i64 ((k : Int)))]) (Sub.cons rfl (Sub.cons rfl (Sub.cons rfl (Sub.cons rfl (Sub.cons rfl (Sub.cons rfl Sub.nil)))))) ?_
      refine Wk.seq ?_
      refine Wk.block ?_
      refine Wk.seq ?_
      refine Wk.regionQ ?_
      refine Lq.op (v := .int .i64 ((k : Int))) rfl rfl rfl (OpQ.move rfl rfl) ?_
      refine Lq.op (v := .int .i64 ((k : Int))) rfl rfl rfl (OpQ.assign rfl rfl) ?_
      refine Lq.nil ?_
      refine Kt.onSub (e' := [(1, va), (3, vb), (4, .pointer (some ⟨p4, 0, none⟩)), (6, .pointer (some ⟨p6, 0, none⟩)), (9, .int .i64 (lastW (fun n => winB n a xs b ys) k)), (10, .int .i64 ((k : Int))), (17, .int .i64 ((k : Int)))]) (Sub.cons rfl (Sub.cons rfl (Sub.cons rfl (Sub.cons rfl (Sub.cons rfl (Sub.cons rfl (Sub.cons rfl Sub.nil))))))) ?_
      refine Wk.seq ?_
      refine Wk.regionQ ?_
      refine Lq.op (v := vS a) rfl rfl rfl (OpQ.loadBox (cs := #[.int .i64 a.n, str a.set, str a.rel]) 1 rfl Tryd.isAgg26 rfl rfl Tryd.sizeOf26) ?_
      refine Lq.op (v := va) rfl rfl rfl (OpQ.move rfl rfl) ?_
      refine Lq.op (v := vS b) rfl rfl rfl (OpQ.loadBox (cs := #[.int .i64 b.n, str b.set, str b.rel]) 0 rfl Tryd.isAgg26 rfl rfl Tryd.sizeOf26) ?_
      refine Lq.op (v := vb) rfl rfl rfl (OpQ.move rfl rfl) ?_
      refine Lq.op (v := .int .i64 ((k : Int))) rfl rfl rfl (OpQ.move rfl rfl) ?_
      refine Lq.op (v := .bool (winB k a xs b ys)) rfl rfl rfl (OpQ.call rfl Tryd.call63 rfl Own.stable (fun w1 hw1 => wins_ok a b xs ys va vb w1 ha hb (Row.own hva hw1) (Row.own hvb hw1) hA hB (by first | (simp; done) | (simp; omega) | omega) (by first | (simp; done) | (simp; omega) | omega) ((k : Int)) (by omega) (by omega))) ?_
      refine Lq.nil ?_
      refine Kt.onSub (e' := [(1, va), (3, vb), (4, .pointer (some ⟨p4, 0, none⟩)), (6, .pointer (some ⟨p6, 0, none⟩)), (9, .int .i64 (lastW (fun n => winB n a xs b ys) k)), (10, .int .i64 ((k : Int))), (17, .int .i64 ((k : Int))), (25, .bool (winB k a xs b ys))]) (Sub.cons rfl (Sub.cons rfl (Sub.cons rfl (Sub.cons rfl (Sub.cons rfl (Sub.cons rfl (Sub.cons rfl (Sub.cons rfl Sub.nil)))))))) ?_
      refine Wk.cond (b := winB k a xs b ys) rfl (fun h25 => ?_) (fun h25 => ?_)
      · skip
        refine Wk.regionQ ?_
        refine Lq.op (v := .int .i64 ((k : Int))) rfl rfl rfl (OpQ.move rfl rfl) ?_
        refine Lq.op (v := .int .i64 ((k : Int))) rfl rfl rfl (OpQ.assign rfl rfl) ?_
        refine Lq.nil ?_
        refine Kt.onSub (e' := [(1, va), (3, vb), (4, .pointer (some ⟨p4, 0, none⟩)), (6, .pointer (some ⟨p6, 0, none⟩)), (9, .int .i64 ((k : Int))), (17, .int .i64 ((k : Int)))]) (Sub.cons rfl (Sub.cons rfl (Sub.cons rfl (Sub.cons rfl (Sub.cons rfl (Sub.cons rfl Sub.nil)))))) ?_
        refine Wk.regionQ ?_
        refine Lq.op (v := .int .i64 (((k : Int)) + (1 : Int))) rfl rfl rfl (OpQ.add rfl rfl rfl (by omega) (by omega)) ?_
        refine Lq.op (v := .int .i64 (((k : Int)) + (1 : Int))) rfl rfl rfl (OpQ.move rfl rfl) ?_
        refine Lq.nil ?_
        refine Kt.again (k + 1) (by omega) (by omega) (Sub.cons rfl (Sub.cons rfl (Sub.cons rfl (Sub.cons rfl (Sub.cons (by rw [lastW_yes (f := fun n => winB n a xs b ys) h25]; rfl) (Sub.cons rfl Sub.nil)))))) (fun _ h => h)
      · skip
        refine Wk.skip ?_
        refine Kt.onSub (e' := [(1, va), (3, vb), (4, .pointer (some ⟨p4, 0, none⟩)), (6, .pointer (some ⟨p6, 0, none⟩)), (9, .int .i64 (lastW (fun n => winB n a xs b ys) k)), (17, .int .i64 ((k : Int)))]) (Sub.cons rfl (Sub.cons rfl (Sub.cons rfl (Sub.cons rfl (Sub.cons rfl (Sub.cons rfl Sub.nil)))))) ?_
        refine Wk.regionQ ?_
        refine Lq.op (v := .int .i64 (((k : Int)) + (1 : Int))) rfl rfl rfl (OpQ.add rfl rfl rfl (by omega) (by omega)) ?_
        refine Lq.op (v := .int .i64 (((k : Int)) + (1 : Int))) rfl rfl rfl (OpQ.move rfl rfl) ?_
        refine Lq.nil ?_
        refine Kt.again (k + 1) (by omega) (by omega) (Sub.cons rfl (Sub.cons rfl (Sub.cons rfl (Sub.cons rfl (Sub.cons (by rw [lastW_no (f := fun n => winB n a xs b ys) h25]; rfl) (Sub.cons rfl Sub.nil)))))) (fun _ h => h)
    · skip
      replace h18 := of_decide_eq_false h18
      refine Wk.exit rfl ?_
      refine Kt.onSub (e' := [(9, .int .i64 (lastW (fun n => winB n a xs b ys) k))]) (Sub.cons rfl Sub.nil) ?_
      refine Wk.seq ?_
      refine Wk.regionQ ?_
      refine Lq.op (v := .int .i64 (lastW (fun n => winB n a xs b ys) k)) rfl rfl rfl (OpQ.move rfl rfl) ?_
      refine Lq.op (v := .int .i64 (lastW (fun n => winB n a xs b ys) k)) rfl rfl rfl (OpQ.assign rfl rfl) ?_
      refine Lq.nil ?_
      refine Kt.onSub (e' := [(8, .int .i64 (lastW (fun n => winB n a xs b ys) k))]) (Sub.cons rfl Sub.nil) ?_
      refine Wk.ret (Kt.end1 rfl rfl fun w' hw => ?_)
      -- ret 1: .int .i64 (lastW (fun n => winB n a xs b ys) k)
      exact ⟨ret_i (by unfold wonI; rw [h16, if_pos rfl, show k = 4 from by omega]), hw.below⟩

set_option maxHeartbeats 400000 in
/-- spec.l15Dec -/
theorem l15Dec_ok (x : Int) (w : World) (h0 : 0 ≤ x) (h1 : x < 1000000000000) :
    Calls Tryd.prog 104 [.int .i64 x].toArray w fun en w' => en = .returned (str (decS x.toNat)) ∧ Below w.heap.size w w' := by
  refine fnStart (n := 31) (e := [(0, .int .i64 x)]) Tryd.func104 rfl rfl rfl rfl Ends.both ?_
  have hdl := decS_len x.toNat 12 (show x.toNat < 1000000000000 by omega) (by decide)
  refine Wk.seq ?_
  refine Wk.regionQ ?_
  refine Lq.op (v := str ([])) rfl rfl rfl (OpQ.assign rfl rfl) ?_
  refine Lq.nil ?_
  refine Kt.onSub (e' := [(0, .int .i64 x)]) (Sub.cons rfl Sub.nil) ?_
  refine Wk.seq ?_
  refine Wk.seq ?_
  refine Wk.regionQ ?_
  refine Lq.op (v := .int .i64 x) rfl rfl rfl (OpQ.move rfl rfl) ?_
  refine Lq.op (v := .bool (decide (x < (-9223372036854775807 : Int)))) rfl rfl rfl (OpQ.lss rfl rfl rfl) ?_
  refine Lq.nil ?_
  refine Kt.onSub (e' := [(0, .int .i64 x), (5, .bool (decide (x < (-9223372036854775807 : Int))))]) (Sub.cons rfl (Sub.cons rfl Sub.nil)) ?_
  refine Wk.cond (b := decide (x < (-9223372036854775807 : Int))) rfl (fun h5 => ?_) (fun h5 => ?_)
  · skip
    replace h5 := of_decide_eq_true h5
    omega
  · skip
    replace h5 := of_decide_eq_false h5
    refine Wk.skip ?_
    refine Kt.onSub (e' := [(0, .int .i64 x)]) (Sub.cons rfl Sub.nil) ?_
    refine Wk.seq ?_
    refine Wk.seq ?_
    refine Wk.regionQ ?_
    refine Lq.op (v := .int .i64 x) rfl rfl rfl (OpQ.move rfl rfl) ?_
    refine Lq.op (v := .bool (decide (x < (0 : Int)))) rfl rfl rfl (OpQ.lss rfl rfl rfl) ?_
    refine Lq.nil ?_
    refine Kt.onSub (e' := [(0, .int .i64 x), (7, .bool (decide (x < (0 : Int))))]) (Sub.cons rfl (Sub.cons rfl Sub.nil)) ?_
    refine Wk.cond (b := decide (x < (0 : Int))) rfl (fun h7 => ?_) (fun h7 => ?_)
    · skip
      replace h7 := of_decide_eq_true h7
      omega
    · skip
      replace h7 := of_decide_eq_false h7
      refine Wk.skip ?_
      refine Kt.onSub (e' := [(0, .int .i64 x)]) (Sub.cons rfl Sub.nil) ?_
      refine Wk.seq ?_
      refine Wk.regionQ ?_
      refine Lq.op (v := str ([])) rfl rfl rfl (OpQ.assign rfl rfl) ?_
      refine Lq.nil ?_
      refine Kt.onSub (e' := [(0, .int .i64 x), (3, str ([]))]) (Sub.cons rfl (Sub.cons rfl Sub.nil)) ?_
      refine Wk.seq ?_
      refine Wk.block ?_
      refine Wk.loop (σ := Nat × List UInt8) (fun ⟨n, o⟩ => decS x.toNat = decS n ++ o ∧ n ≤ x.toNat) (fun ⟨n, o⟩ => [(0, .int .i64 ((n : Int))), (3, str o)]) (fun ⟨n, o⟩ => Own w.heap.size w []) (fun ⟨n, o⟩ => n) ((x.toNat, [])) ⟨by simp, Nat.le_refl _⟩ (Sub.cons (by rw [Int.toNat_of_nonneg h0]; rfl) (Sub.cons rfl Sub.nil)) (fun _ h => h) ?_
      rintro ⟨n, o⟩ ⟨ho, hn⟩
      dsimp only
      have hol := dec_len ho hdl
      refine Wk.seq ?_
      refine Wk.seq ?_
      refine Wk.regionQ ?_
      refine Lq.op (v := .int .i64 ((n : Int))) rfl rfl rfl (OpQ.move rfl rfl) ?_
      refine Lq.op (v := .bool (decide ((9 : Int) < ((n : Int))))) rfl rfl rfl (OpQ.gtr rfl rfl rfl) ?_
      refine Lq.nil ?_
      refine Kt.onSub (e' := [(0, .int .i64 ((n : Int))), (3, str o), (13, .bool (decide ((9 : Int) < ((n : Int)))))]) (Sub.cons rfl (Sub.cons rfl (Sub.cons rfl Sub.nil))) ?_
      refine Wk.cond (b := decide ((9 : Int) < ((n : Int)))) rfl (fun h13 => ?_) (fun h13 => ?_)
      · skip
        replace h13 := of_decide_eq_true h13
        refine Wk.skip ?_
        refine Kt.onSub (e' := [(0, .int .i64 ((n : Int))), (3, str o)]) (Sub.cons rfl (Sub.cons rfl Sub.nil)) ?_
        refine Wk.block ?_
        refine Wk.seq ?_
        refine Wk.region ?_
        refine Ll.op (v := .int .i64 ((n : Int))) rfl rfl rfl (OpQ.move rfl rfl) ?_
        refine Ll.op (v := .int .i64 (((n : Int)) % (10 : Int))) rfl rfl rfl (OpQ.rem rfl rfl rfl (by omega) (by decide)) ?_
        refine Ll.op (v := .int .i64 ((48 : Int) + (((n : Int)) % (10 : Int)))) rfl rfl rfl (OpQ.add rfl rfl rfl (by omega) (by omega)) ?_
        refine Ll.op (v := .int .u8 ((48 : Int) + (((n : Int)) % (10 : Int)))) rfl rfl rfl (OpQ.convInt .u8 rfl Tryd.underlying3 Tryd.underlying5 rfl (IntWalk.u8_in _ (by omega))) ?_
        refine Ll.slice (xs := [.tmp 17]) (vs := [.int .u8 ((48 : Int) + (((n : Int)) % (10 : Int)))]) Base.elem47 rfl rfl rfl rfl rfl rfl (by decide) rfl fun p18 hp18 => ?_
        refine Ll.op (v := str ([UInt8.ofNat (48 + n % 10)])) rfl rfl rfl (OpQ.byteStr (b := UInt8.ofNat (48 + n % 10)) 0 rfl Tryd.underlying47 Tryd.underlying5 Tryd.underlying9 rfl rfl (by rw [toNat_dig (by omega)]; omega)) ?_
        refine Ll.op (v := str o) rfl rfl rfl (OpQ.move rfl rfl) ?_
        refine Ll.op (v := str (([UInt8.ofNat (48 + n % 10)]) ++ o)) rfl rfl rfl (OpQ.sadd rfl rfl rfl (by first | omega | (simp only [List.length_append, List.length_cons, List.length_nil]; omega))) ?_
        refine Ll.op (v := str (([UInt8.ofNat (48 + n % 10)]) ++ o)) rfl rfl rfl (OpQ.assign rfl rfl) ?_
        refine Ll.nil ?_
        refine Kt.onSub (e' := [(0, .int .i64 ((n : Int))), (3, str (([UInt8.ofNat (48 + n % 10)]) ++ o))]) (Sub.cons rfl (Sub.cons rfl Sub.nil)) ?_
        refine Wk.regionQ ?_
        refine Lq.op (v := .int .i64 ((n : Int))) rfl rfl rfl (OpQ.move rfl rfl) ?_
        refine Lq.op (v := .int .i64 (((n / 10 : Nat) : Int))) rfl rfl rfl (OpQ.cast (by simp) (OpQ.quo rfl rfl rfl (by omega) (by omega) (by decide))) ?_
        refine Lq.op (v := .int .i64 (((n / 10 : Nat) : Int))) rfl rfl rfl (OpQ.assign rfl rfl) ?_
        refine Lq.nil ?_
        refine Kt.again ((n / 10, [UInt8.ofNat (48 + n % 10)] ++ o)) ⟨dec_step ho (by omega), by omega⟩ (by omega) (Sub.cons rfl (Sub.cons rfl Sub.nil)) (fun _ h => h.tail)
      · skip
        replace h13 := of_decide_eq_false h13
        refine Wk.exit rfl ?_
        refine Kt.onSub (e' := [(0, .int .i64 ((n : Int))), (3, str o)]) (Sub.cons rfl (Sub.cons rfl Sub.nil)) ?_
        refine Wk.seq ?_
        refine Wk.region ?_
        refine Ll.op (v := .int .i64 ((n : Int))) rfl rfl rfl (OpQ.move rfl rfl) ?_
        refine Ll.op (v := .int .i64 ((48 : Int) + ((n : Int)))) rfl rfl rfl (OpQ.add rfl rfl rfl (by omega) (by omega)) ?_
        refine Ll.op (v := .int .u8 ((48 : Int) + ((n : Int)))) rfl rfl rfl (OpQ.convInt .u8 rfl Tryd.underlying3 Tryd.underlying5 rfl (IntWalk.u8_in _ (by omega))) ?_
        refine Ll.slice (xs := [.tmp 26]) (vs := [.int .u8 ((48 : Int) + ((n : Int)))]) Base.elem47 rfl rfl rfl rfl rfl rfl (by decide) rfl fun p27 hp27 => ?_
        refine Ll.op (v := str ([UInt8.ofNat (48 + n)])) rfl rfl rfl (OpQ.byteStr (b := UInt8.ofNat (48 + n)) 0 rfl Tryd.underlying47 Tryd.underlying5 Tryd.underlying9 rfl rfl (by rw [toNat_dig (by omega)]; omega)) ?_
        refine Ll.op (v := str o) rfl rfl rfl (OpQ.move rfl rfl) ?_
        refine Ll.op (v := str (([UInt8.ofNat (48 + n)]) ++ o)) rfl rfl rfl (OpQ.sadd rfl rfl rfl (by first | omega | (simp only [List.length_append, List.length_cons, List.length_nil]; omega))) ?_
        refine Ll.op (v := str (([UInt8.ofNat (48 + n)]) ++ o)) rfl rfl rfl (OpQ.assign rfl rfl) ?_
        refine Ll.nil ?_
        refine Kt.onSub (e' := [(2, str (([UInt8.ofNat (48 + n)]) ++ o))]) (Sub.cons rfl Sub.nil) ?_
        refine Wk.ret (Kt.end1 rfl rfl fun w' hw => ?_)
        -- ret 0: str (([UInt8.ofNat (48 + n)]) ++ o)
        exact ⟨ret_s (by rw [ho, decS, if_pos (by omega)]), hw.below⟩

set_option maxHeartbeats 400000 in
/-- spec.l5Insert -/
theorem l5Insert_ok (B : Nat) (w0 : World) (hs : List (Nat × Obj)) (g cap : Nat) (cur : Array Value) (xs : List Int) (m : Int) (w : World) (hc : cur.size = cap * 1) (hle : xs.length ≤ cap) (ht : cur.toList.take xs.length = ints xs) (hs1 : xs.length ≤ 1000) (hw : Own B w0 ((g, .cells cur 3 (0, 0)) :: hs) w) :
    Calls Tryd.prog 67 [.slice (some ⟨g, 0, none⟩) xs.length cap, .int .i64 m].toArray w fun en w' => ∃ (g' cap' : Nat) (cur' : Array Value), en = .returned (.slice (some ⟨g', 0, none⟩) (insS xs m).length cap') ∧ (cur'.size = cap' * 1 ∧ (insS xs m).length ≤ cap' ∧ cur'.toList.take (insS xs m).length = ints (insS xs m)) ∧ Own B w0 ((g', .cells cur' 3 (0, 0)) :: hs) w' := by
  refine fnStartC (Own B w0 ((g, .cells cur 3 (0, 0)) :: hs)) (n := 41) (e := [(0, .slice (some ⟨g, 0, none⟩) xs.length cap), (1, .int .i64 m)]) Tryd.func67 rfl rfl rfl rfl Ends.both hw ?_
  refine Wk.seq ?_
  refine Wk.regionQ ?_
  refine Lq.op (v := .slice none 0 0) rfl rfl rfl (OpQ.assign rfl rfl) ?_
  refine Lq.nil ?_
  refine Kt.onSub (e' := [(0, .slice (some ⟨g, 0, none⟩) xs.length cap), (1, .int .i64 m)]) (Sub.cons rfl (Sub.cons rfl Sub.nil)) ?_
  refine Wk.seq ?_
  refine Wk.seq ?_
  refine Wk.regionQ ?_
  refine Lq.op (v := .int .i64 0) rfl rfl rfl (OpQ.assign rfl rfl) ?_
  refine Lq.nil ?_
  refine Kt.onSub (e' := [(0, .slice (some ⟨g, 0, none⟩) xs.length cap), (1, .int .i64 m), (5, .int .i64 0)]) (Sub.cons rfl (Sub.cons rfl (Sub.cons rfl Sub.nil))) ?_
  refine Wk.block ?_
  refine Wk.loop (σ := Nat) (fun k => k ≤ xs.length ∧ ∀ j : Nat, j < k → ¬ xs.getD j 0 = m ∧ ¬ m < xs.getD j 0) (fun k => [(0, .slice (some ⟨g, 0, none⟩) xs.length cap), (1, .int .i64 m), (5, .int .i64 ((k : Int)))]) (fun k => Own B w0 ((g, .cells cur 3 (0, 0)) :: hs)) (fun k => xs.length - k) (0) ⟨by omega, fun i hi => absurd hi (by omega)⟩ (Sub.cons rfl (Sub.cons rfl (Sub.cons rfl Sub.nil))) (fun _ h => h) ?_
  rintro k ⟨hk, hall⟩
  refine Wk.seq ?_
  refine Wk.seq ?_
  refine Wk.regionQ ?_
  refine Lq.op (v := .int .i64 ((k : Int))) rfl rfl rfl (OpQ.move rfl rfl) ?_
  refine Lq.op (v := .slice (some ⟨g, 0, none⟩) xs.length cap) rfl rfl rfl (OpQ.move rfl rfl) ?_
  refine Lq.op (v := .int .i64 ((xs.length : Int))) rfl rfl rfl (OpQ.lenS rfl Tryd.runUnderlying31 rfl) ?_
  refine Lq.op (v := .bool (decide (((k : Int)) < ((xs.length : Int))))) rfl rfl rfl (OpQ.lss rfl rfl rfl) ?_
  refine Lq.nil ?_
  refine Kt.onSub (e' := [(0, .slice (some ⟨g, 0, none⟩) xs.length cap), (1, .int .i64 m), (5, .int .i64 ((k : Int))), (9, .bool (decide (((k : Int)) < ((xs.length : Int)))))]) (Sub.cons rfl (Sub.cons rfl (Sub.cons rfl (Sub.cons rfl Sub.nil)))) ?_
  refine Wk.cond (b := decide (((k : Int)) < ((xs.length : Int)))) rfl (fun h9 => ?_) (fun h9 => ?_)
  · skip
    replace h9 := of_decide_eq_true h9
    have hk2 : k < xs.length := by omega
    refine Wk.skip ?_
    refine Kt.onSub (e' := [(0, .slice (some ⟨g, 0, none⟩) xs.length cap), (1, .int .i64 m), (5, .int .i64 ((k : Int)))]) (Sub.cons rfl (Sub.cons rfl (Sub.cons rfl Sub.nil))) ?_
    refine Wk.seq ?_
    refine Wk.block ?_
    refine Wk.seq ?_
    refine Wk.seq ?_
    refine Wk.regionQ ?_
    refine Lq.op (v := .slice (some ⟨g, 0, none⟩) xs.length cap) rfl rfl rfl (OpQ.move rfl rfl) ?_
    refine Lq.op (v := .int .i64 ((k : Int))) rfl rfl rfl (OpQ.move rfl rfl) ?_
    refine Lq.op (v := .pointer (some ⟨g, k, none⟩)) rfl rfl rfl (OpQ.cast (by simp) (OpQ.indexAddr1 rfl Tryd.runUnderlying31 Tryd.sizeOf3 rfl rfl (by omega) (by omega))) ?_
    refine Lq.op (v := .int .i64 (xs.getD (k) 0)) rfl rfl rfl (OpQ.loadAt 0 rfl Tryd.isAgg3 rfl rfl (cur_at ht (ints_at2 (by omega)))) ?_
    refine Lq.op (v := .int .i64 m) rfl rfl rfl (OpQ.move rfl rfl) ?_
    refine Lq.op (v := .bool (decide ((xs.getD (k) 0) = m))) rfl rfl rfl (OpQ.eql rfl rfl rfl) ?_
    refine Lq.nil ?_
    refine Kt.onSub (e' := [(0, .slice (some ⟨g, 0, none⟩) xs.length cap), (1, .int .i64 m), (5, .int .i64 ((k : Int))), (17, .bool (decide ((xs.getD (k) 0) = m)))]) (Sub.cons rfl (Sub.cons rfl (Sub.cons rfl (Sub.cons rfl Sub.nil)))) ?_
    refine Wk.cond (b := decide ((xs.getD (k) 0) = m)) rfl (fun h17 => ?_) (fun h17 => ?_)
    · skip
      replace h17 := of_decide_eq_true h17
      refine Wk.seq ?_
      refine Wk.regionQ ?_
      refine Lq.op (v := .slice (some ⟨g, 0, none⟩) xs.length cap) rfl rfl rfl (OpQ.move rfl rfl) ?_
      refine Lq.op (v := .slice (some ⟨g, 0, none⟩) xs.length cap) rfl rfl rfl (OpQ.assign rfl rfl) ?_
      refine Lq.nil ?_
      refine Kt.onSub (e' := [(4, .slice (some ⟨g, 0, none⟩) xs.length cap)]) (Sub.cons rfl Sub.nil) ?_
      refine Wk.ret (Kt.end1 rfl rfl fun w' hw => ?_)
      -- ret 0: .slice (some ⟨g, 0, none⟩) xs.length cap
      have e := insS_at (n := m) hk2 hall (by simpa using h17)
      exact ⟨g, cap, cur, by rw [e], ⟨hc, by rw [e]; exact hle, by rw [e]; exact ht⟩, hw⟩
    · skip
      replace h17 := of_decide_eq_false h17
      refine Wk.skip ?_
      refine Kt.onSub (e' := [(0, .slice (some ⟨g, 0, none⟩) xs.length cap), (1, .int .i64 m), (5, .int .i64 ((k : Int)))]) (Sub.cons rfl (Sub.cons rfl (Sub.cons rfl Sub.nil))) ?_
      refine Wk.seq ?_
      refine Wk.regionQ ?_
      refine Lq.op (v := .slice (some ⟨g, 0, none⟩) xs.length cap) rfl rfl rfl (OpQ.move rfl rfl) ?_
      refine Lq.op (v := .int .i64 ((k : Int))) rfl rfl rfl (OpQ.move rfl rfl) ?_
      refine Lq.op (v := .pointer (some ⟨g, k, none⟩)) rfl rfl rfl (OpQ.cast (by simp) (OpQ.indexAddr1 rfl Tryd.runUnderlying31 Tryd.sizeOf3 rfl rfl (by omega) (by omega))) ?_
      refine Lq.op (v := .int .i64 (xs.getD (k) 0)) rfl rfl rfl (OpQ.loadAt 0 rfl Tryd.isAgg3 rfl rfl (cur_at ht (ints_at2 (by omega)))) ?_
      refine Lq.op (v := .int .i64 m) rfl rfl rfl (OpQ.move rfl rfl) ?_
      refine Lq.op (v := .bool (decide (m < (xs.getD (k) 0)))) rfl rfl rfl (OpQ.gtr rfl rfl rfl) ?_
      refine Lq.nil ?_
      refine Kt.onSub (e' := [(0, .slice (some ⟨g, 0, none⟩) xs.length cap), (1, .int .i64 m), (5, .int .i64 ((k : Int))), (24, .bool (decide (m < (xs.getD (k) 0))))]) (Sub.cons rfl (Sub.cons rfl (Sub.cons rfl (Sub.cons rfl Sub.nil)))) ?_
      refine Wk.cond (b := decide (m < (xs.getD (k) 0))) rfl (fun h24 => ?_) (fun h24 => ?_)
      · skip
        replace h24 := of_decide_eq_true h24
        refine Wk.seq ?_
        refine Wk.regionT (S := Own B w0 [(g, .cells cur 3 (0, 0))]) (.take 1 (.take 2 (.take 3 (.take 5 (.take 8 (.take 9 (.take 10 (.two 0 (.two 4 (.one 6 (.one 7 (.one 11 (.take 12 .done)))) 6 (.one 4 (.one 7 (.one 11 (.take 12 .done))))) 6 (.one 0 (.one 4 (.one 7 (.one 11 (.take 12 .done))))))))))))) Base.mixed (fun _ h => h.drawn) (by kernel_rfl) ?_
        refine Lt.take (v := .slice (some ⟨g, 0, none⟩) xs.length cap) rfl rfl rfl rfl rfl (OpQ.move rfl rfl) (fun _ h => h.pick [0] rfl (by decide)) ?_
        refine Lt.take (v := .int .i64 ((k : Int))) rfl rfl rfl rfl rfl (OpQ.move rfl rfl) (fun _ h => h.pick [0] rfl (by decide)) ?_
        refine Lt.take (v := .slice (some ⟨g, 0, none⟩) (((k : Int)).toNat) cap) rfl rfl rfl rfl rfl (OpQ.takeS (i := (k : Int)) rfl Tryd.runUnderlying31 Tryd.sizeOf3 rfl rfl (by omega) (by omega)) (fun _ h => h.pick [0] rfl (by decide)) ?_
        refine Lt.take (v := .int .i64 m) rfl rfl rfl rfl rfl (OpQ.move rfl rfl) (fun _ h => h.pick [0] rfl (by decide)) ?_
        refine Lt.take (v := .slice (some ⟨g, 0, none⟩) xs.length cap) rfl rfl rfl rfl rfl (OpQ.move rfl rfl) (fun _ h => h.pick [0] rfl (by decide)) ?_
        refine Lt.take (v := .int .i64 ((k : Int))) rfl rfl rfl rfl rfl (OpQ.move rfl rfl) (fun _ h => h.pick [0] rfl (by decide)) ?_
        refine Lt.take (v := .slice (some ⟨g, ((k : Int)).toNat, none⟩) (xs.length - ((k : Int)).toNat) (cap - ((k : Int)).toNat)) rfl rfl rfl rfl rfl (OpQ.dropS rfl Tryd.runUnderlying31 Tryd.sizeOf3 rfl rfl (by omega) (by omega) (by omega)) (fun _ h => h.pick [0] rfl (by decide)) ?_
        refine Lt.two rfl rfl ?_ ?_
        · skip
          refine Ll.slice (xs := []) (vs := []) Base.elem31 rfl rfl rfl rfl rfl rfl (by decide) rfl fun p25 hp25 => ?_
          refine Ll.nil (Lt.joint (fun _ h => h.pick [1] rfl (by decide)) ?_)
          refine Lt.two rfl rfl ?_ ?_
          · skip
            refine Ll.appendInts (xs := []) (ys := (xs).take (((k : Int)).toNat)) Base.elem31 0 rfl rfl rfl rfl rfl rfl rfl rfl (by decide) rfl (fun w1 hw1 => (Own.rowTake hw1 (i := 1) rfl ht (by omega) hle)) (((xs).take (((k : Int)).toNat)).length) (by first | (simp; done) | (simp; omega)) (by first | (simp; done) | (simp; omega) | omega) fun p29 cap29 cur29 hp29 hcp29 hlp29 htp29 => ?_
            show Ll _ _ (Own _ _ ((p29, .cells cur29 3 (0, 0)) :: (g, .cells cur 3 (0, 0)) :: hs)) _ _ ((29, .slice (some ⟨p29, 0, none⟩) ((((xs).take (((k : Int)).toNat)).length)) cap29) :: _) _ _ _
            refine Ll.nil (Lt.joint (fun _ h => h.pick [1] rfl (by decide)) ?_)
            refine Lt.loud rfl ?_
            refine Ll.slice (xs := [.tmp 30]) (vs := [.int .i64 m]) Base.elem31 rfl rfl rfl rfl rfl rfl (by decide) rfl fun p31 hp31 => ?_
            refine Ll.nil (Lt.joint (fun _ h => h.pick [2] rfl (by decide)) ?_)
            refine Lt.loud rfl ?_
            refine Ll.appendInts (xs := (xs).take (((k : Int)).toNat)) (ys := [m]) Base.elem31 1 rfl rfl rfl rfl rfl rfl rfl hcp29 hlp29 (by simpa using htp29) (fun w1 hw1 => (Own.row hw1 (i := 0) rfl (n := 1) (cap := 1) (vs := ints [m]) rfl rfl (by decide))) ((((xs).take (((k : Int)).toNat)) ++ ([m])).length) (by first | (simp; done) | (simp; omega)) (by first | (simp; done) | (simp; omega) | omega) fun p32 cap32 cur32 hp32 hcp32 hlp32 htp32 => ?_
            show Ll _ _ (Own _ _ ((p31, .cells #[.int .i64 m] 3 (0, 0)) :: (p32, .cells cur32 3 (0, 0)) :: (g, .cells cur 3 (0, 0)) :: hs)) _ _ ((32, .slice (some ⟨p32, 0, none⟩) (((((xs).take (((k : Int)).toNat)) ++ ([m])).length)) cap32) :: _) _ _ _
            refine Ll.nil (Lt.joint (fun _ h => h.pick [2] rfl (by decide)) ?_)
            refine Lt.loud rfl ?_
            refine Ll.appendInts (xs := ((xs).take (((k : Int)).toNat)) ++ ([m])) (ys := (xs).drop (((k : Int)).toNat)) Base.elem31 1 rfl rfl rfl rfl rfl rfl rfl hcp32 hlp32 (by simpa using htp32) (fun w1 hw1 => (Own.rowDrop hw1 (i := 2) rfl ht (by omega) hle)) (((((xs).take (((k : Int)).toNat)) ++ ([m])) ++ ((xs).drop (((k : Int)).toNat))).length) (by first | (simp; done) | (simp; omega)) (by first | (simp; done) | (simp; omega) | omega) fun p36 cap36 cur36 hp36 hcp36 hlp36 htp36 => ?_
            show Ll _ _ (Own _ _ ((p31, .cells #[.int .i64 m] 3 (0, 0)) :: (p36, .cells cur36 3 (0, 0)) :: (g, .cells cur 3 (0, 0)) :: hs)) _ _ ((36, .slice (some ⟨p36, 0, none⟩) ((((((xs).take (((k : Int)).toNat)) ++ ([m])) ++ ((xs).drop (((k : Int)).toNat))).length)) cap36) :: _) _ _ _
            refine Ll.nil (Lt.joint (fun _ h => h.pick [2] rfl (by decide)) ?_)
            refine Lt.take (v := .slice (some ⟨p36, 0, none⟩) ((((((xs).take (((k : Int)).toNat)) ++ ([m])) ++ ((xs).drop (((k : Int)).toNat))).length)) cap36) rfl rfl rfl rfl rfl (OpQ.assign rfl rfl) (fun _ h => h.pick [2] rfl (by decide)) ?_
            refine Lt.nil ?_
            refine Kt.onSub (e' := [(4, .slice (some ⟨p36, 0, none⟩) ((((((xs).take (((k : Int)).toNat)) ++ ([m])) ++ ((xs).drop (((k : Int)).toNat))).length)) cap36)]) (Sub.cons rfl Sub.nil) ?_
            refine Wk.ret (Kt.end1 rfl rfl fun w' hw => ?_)
            -- ret 1: .slice (some ⟨p36, 0, none⟩) ((((((xs).take (((k : Int)).toNat)) ++ ([m])) ++ ((xs).drop (((k : Int)).toNat))).length)) cap36
            have e := insS_mid (n := m) hk2 hall (by simpa using h24)
            simp only [Int.toNat_natCast, Nat.mul_one] at *
            exact ⟨p36, cap36, cur36, by rw [e], ⟨by simpa using hcp36, by rw [e]; exact hlp36, by rw [e]; exact htp36⟩, hw.sub (List.Sublist.cons _ (List.Sublist.cons_cons _ (List.Sublist.cons _ (List.Sublist.refl _))))⟩
          · skip
            refine Ll.slice (xs := [.tmp 30]) (vs := [.int .i64 m]) Base.elem31 rfl rfl rfl rfl rfl rfl (by decide) rfl fun p31_1 hp31_1 => ?_
            refine Ll.nil (Lt.joint (fun _ h => h.pick [2] rfl (by decide)) ?_)
            refine Lt.loud rfl ?_
            refine Ll.appendInts (xs := []) (ys := (xs).take (((k : Int)).toNat)) Base.elem31 1 rfl rfl rfl rfl rfl rfl rfl rfl (by decide) rfl (fun w1 hw1 => (Own.rowTake hw1 (i := 2) rfl ht (by omega) hle)) (((xs).take (((k : Int)).toNat)).length) (by first | (simp; done) | (simp; omega)) (by first | (simp; done) | (simp; omega) | omega) fun p29_1 cap29_1 cur29_1 hp29_1 hcp29_1 hlp29_1 htp29_1 => ?_
            show Ll _ _ (Own _ _ ((p31_1, .cells #[.int .i64 m] 3 (0, 0)) :: (p29_1, .cells cur29_1 3 (0, 0)) :: (g, .cells cur 3 (0, 0)) :: hs)) _ _ ((29, .slice (some ⟨p29_1, 0, none⟩) ((((xs).take (((k : Int)).toNat)).length)) cap29_1) :: _) _ _ _
            refine Ll.nil (Lt.joint (fun _ h => h.pick [2] rfl (by decide)) ?_)
            refine Lt.loud rfl ?_
            refine Ll.appendInts (xs := (xs).take (((k : Int)).toNat)) (ys := [m]) Base.elem31 1 rfl rfl rfl rfl rfl rfl rfl hcp29_1 hlp29_1 (by simpa using htp29_1) (fun w1 hw1 => (Own.row hw1 (i := 0) rfl (n := 1) (cap := 1) (vs := ints [m]) rfl rfl (by decide))) ((((xs).take (((k : Int)).toNat)) ++ ([m])).length) (by first | (simp; done) | (simp; omega)) (by first | (simp; done) | (simp; omega) | omega) fun p32_1 cap32_1 cur32_1 hp32_1 hcp32_1 hlp32_1 htp32_1 => ?_
            show Ll _ _ (Own _ _ ((p31_1, .cells #[.int .i64 m] 3 (0, 0)) :: (p32_1, .cells cur32_1 3 (0, 0)) :: (g, .cells cur 3 (0, 0)) :: hs)) _ _ ((32, .slice (some ⟨p32_1, 0, none⟩) (((((xs).take (((k : Int)).toNat)) ++ ([m])).length)) cap32_1) :: _) _ _ _
            refine Ll.nil (Lt.joint (fun _ h => h.pick [2] rfl (by decide)) ?_)
            refine Lt.loud rfl ?_
            refine Ll.appendInts (xs := ((xs).take (((k : Int)).toNat)) ++ ([m])) (ys := (xs).drop (((k : Int)).toNat)) Base.elem31 1 rfl rfl rfl rfl rfl rfl rfl hcp32_1 hlp32_1 (by simpa using htp32_1) (fun w1 hw1 => (Own.rowDrop hw1 (i := 2) rfl ht (by omega) hle)) (((((xs).take (((k : Int)).toNat)) ++ ([m])) ++ ((xs).drop (((k : Int)).toNat))).length) (by first | (simp; done) | (simp; omega)) (by first | (simp; done) | (simp; omega) | omega) fun p36_1 cap36_1 cur36_1 hp36_1 hcp36_1 hlp36_1 htp36_1 => ?_
            show Ll _ _ (Own _ _ ((p31_1, .cells #[.int .i64 m] 3 (0, 0)) :: (p36_1, .cells cur36_1 3 (0, 0)) :: (g, .cells cur 3 (0, 0)) :: hs)) _ _ ((36, .slice (some ⟨p36_1, 0, none⟩) ((((((xs).take (((k : Int)).toNat)) ++ ([m])) ++ ((xs).drop (((k : Int)).toNat))).length)) cap36_1) :: _) _ _ _
            refine Ll.nil (Lt.joint (fun _ h => h.pick [2] rfl (by decide)) ?_)
            refine Lt.take (v := .slice (some ⟨p36_1, 0, none⟩) ((((((xs).take (((k : Int)).toNat)) ++ ([m])) ++ ((xs).drop (((k : Int)).toNat))).length)) cap36_1) rfl rfl rfl rfl rfl (OpQ.assign rfl rfl) (fun _ h => h.pick [2] rfl (by decide)) ?_
            refine Lt.nil ?_
            refine Kt.onSub (e' := [(4, .slice (some ⟨p36_1, 0, none⟩) ((((((xs).take (((k : Int)).toNat)) ++ ([m])) ++ ((xs).drop (((k : Int)).toNat))).length)) cap36_1)]) (Sub.cons rfl Sub.nil) ?_
            refine Wk.ret (Kt.end1 rfl rfl fun w' hw => ?_)
            -- ret 2: .slice (some ⟨p36_1, 0, none⟩) ((((((xs).take (((k : Int)).toNat)) ++ ([m])) ++ ((xs).drop (((k : Int)).toNat))).length)) cap36_1
            have e := insS_mid (n := m) hk2 hall (by simpa using h24)
            simp only [Int.toNat_natCast, Nat.mul_one] at *
            exact ⟨p36_1, cap36_1, cur36_1, by rw [e], ⟨by simpa using hcp36_1, by rw [e]; exact hlp36_1, by rw [e]; exact htp36_1⟩, hw.sub (List.Sublist.cons _ (List.Sublist.cons_cons _ (List.Sublist.cons _ (List.Sublist.refl _))))⟩
        · skip
          refine Ll.slice (xs := [.tmp 30]) (vs := [.int .i64 m]) Base.elem31 rfl rfl rfl rfl rfl rfl (by decide) rfl fun p31_2 hp31_2 => ?_
          refine Ll.nil (Lt.joint (fun _ h => h.pick [1] rfl (by decide)) ?_)
          refine Lt.loud rfl ?_
          refine Ll.slice (xs := []) (vs := []) Base.elem31 rfl rfl rfl rfl rfl rfl (by decide) rfl fun p25_1 hp25_1 => ?_
          refine Ll.nil (Lt.joint (fun _ h => h.pick [2] rfl (by decide)) ?_)
          refine Lt.loud rfl ?_
          refine Ll.appendInts (xs := []) (ys := (xs).take (((k : Int)).toNat)) Base.elem31 0 rfl rfl rfl rfl rfl rfl rfl rfl (by decide) rfl (fun w1 hw1 => (Own.rowTake hw1 (i := 2) rfl ht (by omega) hle)) (((xs).take (((k : Int)).toNat)).length) (by first | (simp; done) | (simp; omega)) (by first | (simp; done) | (simp; omega) | omega) fun p29_2 cap29_2 cur29_2 hp29_2 hcp29_2 hlp29_2 htp29_2 => ?_
          show Ll _ _ (Own _ _ ((p29_2, .cells cur29_2 3 (0, 0)) :: (p31_2, .cells #[.int .i64 m] 3 (0, 0)) :: (g, .cells cur 3 (0, 0)) :: hs)) _ _ ((29, .slice (some ⟨p29_2, 0, none⟩) ((((xs).take (((k : Int)).toNat)).length)) cap29_2) :: _) _ _ _
          refine Ll.nil (Lt.joint (fun _ h => h.pick [2] rfl (by decide)) ?_)
          refine Lt.loud rfl ?_
          refine Ll.appendInts (xs := (xs).take (((k : Int)).toNat)) (ys := [m]) Base.elem31 0 rfl rfl rfl rfl rfl rfl rfl hcp29_2 hlp29_2 (by simpa using htp29_2) (fun w1 hw1 => (Own.row hw1 (i := 1) rfl (n := 1) (cap := 1) (vs := ints [m]) rfl rfl (by decide))) ((((xs).take (((k : Int)).toNat)) ++ ([m])).length) (by first | (simp; done) | (simp; omega)) (by first | (simp; done) | (simp; omega) | omega) fun p32_2 cap32_2 cur32_2 hp32_2 hcp32_2 hlp32_2 htp32_2 => ?_
          show Ll _ _ (Own _ _ ((p32_2, .cells cur32_2 3 (0, 0)) :: (p31_2, .cells #[.int .i64 m] 3 (0, 0)) :: (g, .cells cur 3 (0, 0)) :: hs)) _ _ ((32, .slice (some ⟨p32_2, 0, none⟩) (((((xs).take (((k : Int)).toNat)) ++ ([m])).length)) cap32_2) :: _) _ _ _
          refine Ll.nil (Lt.joint (fun _ h => h.pick [2] rfl (by decide)) ?_)
          refine Lt.loud rfl ?_
          refine Ll.appendInts (xs := ((xs).take (((k : Int)).toNat)) ++ ([m])) (ys := (xs).drop (((k : Int)).toNat)) Base.elem31 0 rfl rfl rfl rfl rfl rfl rfl hcp32_2 hlp32_2 (by simpa using htp32_2) (fun w1 hw1 => (Own.rowDrop hw1 (i := 2) rfl ht (by omega) hle)) (((((xs).take (((k : Int)).toNat)) ++ ([m])) ++ ((xs).drop (((k : Int)).toNat))).length) (by first | (simp; done) | (simp; omega)) (by first | (simp; done) | (simp; omega) | omega) fun p36_2 cap36_2 cur36_2 hp36_2 hcp36_2 hlp36_2 htp36_2 => ?_
          show Ll _ _ (Own _ _ ((p36_2, .cells cur36_2 3 (0, 0)) :: (p31_2, .cells #[.int .i64 m] 3 (0, 0)) :: (g, .cells cur 3 (0, 0)) :: hs)) _ _ ((36, .slice (some ⟨p36_2, 0, none⟩) ((((((xs).take (((k : Int)).toNat)) ++ ([m])) ++ ((xs).drop (((k : Int)).toNat))).length)) cap36_2) :: _) _ _ _
          refine Ll.nil (Lt.joint (fun _ h => h.pick [2] rfl (by decide)) ?_)
          refine Lt.take (v := .slice (some ⟨p36_2, 0, none⟩) ((((((xs).take (((k : Int)).toNat)) ++ ([m])) ++ ((xs).drop (((k : Int)).toNat))).length)) cap36_2) rfl rfl rfl rfl rfl (OpQ.assign rfl rfl) (fun _ h => h.pick [2] rfl (by decide)) ?_
          refine Lt.nil ?_
          refine Kt.onSub (e' := [(4, .slice (some ⟨p36_2, 0, none⟩) ((((((xs).take (((k : Int)).toNat)) ++ ([m])) ++ ((xs).drop (((k : Int)).toNat))).length)) cap36_2)]) (Sub.cons rfl Sub.nil) ?_
          refine Wk.ret (Kt.end1 rfl rfl fun w' hw => ?_)
          -- ret 3: .slice (some ⟨p36_2, 0, none⟩) ((((((xs).take (((k : Int)).toNat)) ++ ([m])) ++ ((xs).drop (((k : Int)).toNat))).length)) cap36_2
          have e := insS_mid (n := m) hk2 hall (by simpa using h24)
          simp only [Int.toNat_natCast, Nat.mul_one] at *
          exact ⟨p36_2, cap36_2, cur36_2, by rw [e], ⟨by simpa using hcp36_2, by rw [e]; exact hlp36_2, by rw [e]; exact htp36_2⟩, hw.sub (List.Sublist.cons_cons _ (List.Sublist.cons _ (List.Sublist.cons _ (List.Sublist.refl _))))⟩
      · skip
        replace h24 := of_decide_eq_false h24
        refine Wk.skip ?_
        refine Kt.onSub (e' := [(0, .slice (some ⟨g, 0, none⟩) xs.length cap), (1, .int .i64 m), (5, .int .i64 ((k : Int)))]) (Sub.cons rfl (Sub.cons rfl (Sub.cons rfl Sub.nil))) ?_
        refine Wk.regionQ ?_
        refine Lq.op (v := .int .i64 ((k : Int))) rfl rfl rfl (OpQ.move rfl rfl) ?_
        refine Lq.op (v := .int .i64 (((k : Int)) + (1 : Int))) rfl rfl rfl (OpQ.add rfl rfl rfl (by omega) (by omega)) ?_
        refine Lq.op (v := .int .i64 (((k : Int)) + (1 : Int))) rfl rfl rfl (OpQ.assign rfl rfl) ?_
        refine Lq.nil ?_
        refine Kt.again (k + 1) ⟨by omega, fun i hi => (Nat.lt_succ_iff_lt_or_eq.1 hi).elim (hall i) (fun e => by subst e; exact ⟨by simpa using h17, by simpa using h24⟩)⟩ (by omega) (Sub.cons rfl (Sub.cons rfl (Sub.cons rfl Sub.nil))) (fun _ h => h)
  · skip
    replace h9 := of_decide_eq_false h9
    refine Wk.exit rfl ?_
    refine Kt.onSub (e' := [(0, .slice (some ⟨g, 0, none⟩) xs.length cap), (1, .int .i64 m)]) (Sub.cons rfl (Sub.cons rfl Sub.nil)) ?_
    refine Wk.seq ?_
    refine Wk.region ?_
    refine Ll.op (v := .slice (some ⟨g, 0, none⟩) xs.length cap) rfl rfl rfl (OpQ.move rfl rfl) ?_
    refine Ll.op (v := .int .i64 m) rfl rfl rfl (OpQ.move rfl rfl) ?_
    refine Ll.slice (xs := [.tmp 38]) (vs := [.int .i64 m]) Base.elem31 rfl rfl rfl rfl rfl rfl (by decide) rfl fun p39 hp39 => ?_
    refine Ll.appendInts (xs := xs) (ys := [m]) Base.elem31 1 rfl rfl rfl rfl rfl rfl rfl hc hle ht (fun w1 hw1 => (Own.row hw1 (i := 0) rfl (n := 1) (cap := 1) (vs := ints [m]) rfl rfl (by decide))) ((xs ++ ([m])).length) (by first | (simp; done) | (simp; omega)) (by first | (simp; done) | (simp; omega) | omega) fun p40 cap40 cur40 hp40 hcp40 hlp40 htp40 => ?_
    show Ll _ _ (Own _ _ ((p39, .cells #[.int .i64 m] 3 (0, 0)) :: (p40, .cells cur40 3 (0, 0)) :: hs)) _ _ ((40, .slice (some ⟨p40, 0, none⟩) (((xs ++ ([m])).length)) cap40) :: _) _ _ _
    refine Ll.op (v := .slice (some ⟨p40, 0, none⟩) (((xs ++ ([m])).length)) cap40) rfl rfl rfl (OpQ.assign rfl rfl) ?_
    refine Ll.nil ?_
    refine Kt.onSub (e' := [(4, .slice (some ⟨p40, 0, none⟩) (((xs ++ ([m])).length)) cap40)]) (Sub.cons rfl Sub.nil) ?_
    refine Wk.ret (Kt.end1 rfl rfl fun w' hw => ?_)
    -- ret 4: .slice (some ⟨p40, 0, none⟩) (((xs ++ ([m])).length)) cap40
    have e := insS_end (l := xs) (n := m) (fun j hj => hall j (by omega))
    simp only [Int.toNat_natCast, Nat.mul_one] at *
    exact ⟨p40, cap40, cur40, by rw [e], ⟨by simpa using hcp40, by rw [e]; exact hlp40, by rw [e]; exact htp40⟩, hw.sub (List.Sublist.cons _ (List.Sublist.cons_cons _ (List.Sublist.refl _)))⟩

set_option maxHeartbeats 400000 in
/-- spec.l5New -/
theorem l5New_ok (B : Nat) (w0 : World) (hs : List (Nat × Obj)) (w : World) (hw : Own B w0 hs w) :
    Calls Tryd.prog 66 [].toArray w fun en w' => ∃ q c : Nat, en = .returned (.agg #[.slice (some ⟨q, 0, none⟩) 997 997, .slice (some ⟨c, 0, none⟩) 1 1]) ∧ Own B w0 (tabL 114 3 116 q c (List.replicate 997 none) [] ++ hs) w' := by
  refine fnStartC (Own B w0 hs) (n := 4) (e := []) Tryd.func66 rfl rfl rfl rfl Ends.both hw ?_
  refine Wk.seq ?_
  refine Wk.region ?_
  refine Ll.alloc rfl rfl rfl rfl Tryd.zeroValue71 fun p0 hp0 => ?_
  show Ll _ _ (Own _ _ ((p0, .cells #[.slice none 0 0, .slice none 0 0] 71 (0, 0)) :: hs)) _ _ ((0, .pointer (some ⟨p0, 0, none⟩)) :: _) _ _ _
  refine Ll.nil ?_
  refine Kt.onSub (e' := [(0, .pointer (some ⟨p0, 0, none⟩))]) (Sub.cons rfl Sub.nil) ?_
  refine Wk.seq ?_
  refine Wk.region ?_
  refine Ll.make (k := 997) Base.elem69 Tryd.zeroValue114 rfl rfl rfl rfl rfl (by omega) fun p1 hp1 => ?_
  rw [show madeCells (Value.cells (.slice none 0 0)) (997 * 1) = (List.replicate 997 (.slice none 0 0)).toArray from made_list _ _ rfl]
  refine Ll.slice (xs := [.const (.int .i64 0)]) (vs := [.int .i64 0]) Base.elem31 rfl rfl rfl rfl rfl rfl (by decide) rfl fun p2 hp2 => ?_
  refine Ll.op (v := .agg #[.slice (some ⟨p1, 0, none⟩) 997 997, .slice (some ⟨p2, 0, none⟩) 1 1]) rfl rfl rfl (OpQ.build (xs := [.tmp 1, .tmp 2]) (vs := [.slice (some ⟨p1, 0, none⟩) 997 997, .slice (some ⟨p2, 0, none⟩) 1 1]) rfl rfl (by kernel_rfl)) ?_
  refine Ll.storeBox (cs' := #[.slice (some ⟨p1, 0, none⟩) 997 997, .slice (some ⟨p2, 0, none⟩) 1 1]) (hs' := ((p2, .cells #[.int .i64 0] 3 (0, 0)) :: (p1, .cells ((List.replicate 997 (.slice none 0 0)).toArray) 114 (0, 0)) :: (p0, .cells #[.slice (some ⟨p1, 0, none⟩) 997 997, .slice (some ⟨p2, 0, none⟩) 1 1] 71 (0, 0)) :: hs)) 2 rfl rfl rfl rfl rfl (by kernel_rfl : _ = some Tryd.t71) rfl rfl rfl rfl rfl ?_
  refine Ll.nil ?_
  refine Kt.onSub (e' := [(0, .pointer (some ⟨p0, 0, none⟩))]) (Sub.cons rfl Sub.nil) ?_
  refine Wk.ret (Kt.endBox (cs := #[.slice (some ⟨p1, 0, none⟩) 997 997, .slice (some ⟨p2, 0, none⟩) 1 1]) 2 rfl rfl rfl Tryd.isAgg71 Tryd.sizeOf71 fun w' hw => ?_)
  -- ret 0: .pointer (some ⟨p0, 0, none⟩)
  refine ⟨p1, p2, rfl, ?_⟩
  show Own B w0 (_ :: _ :: (blks _ _ ++ hs)) w'
  rw [blks_new, ← new_bkts]
  exact (hw.perm (List.Perm.swap _ _ _)).sub (List.Sublist.cons_cons _ (List.Sublist.cons_cons _ (List.Sublist.cons _ (List.Sublist.refl _))))

set_option maxHeartbeats 400000 in
/-- spec.l5Number|nil -/
theorem number_nil (B : Nat) (w0 : World) (hs : List (Nat × Obj)) (q c : Nat) (bs : List Bkt) (T : List (List UInt8)) (s : List UInt8) (w : World) (hT : TabOk bs T) (hlT : T.length ≤ 1000000) (hls : s.length ≤ 1000) (hb : bs.getD (hashS s) none = none) (hw : Own B w0 ((q, .cells ((bs.map bktV).toArray) 114 (0, 0)) :: (c, .cells #[.int .i64 ((T.length : Int))] 3 (0, 0)) :: hs) w) :
    Calls Tryd.prog 105 [.agg #[.slice (some ⟨q, 0, none⟩) 997 997, .slice (some ⟨c, 0, none⟩) 1 1], str s].toArray w fun en w' => en = .returned (.int .i64 (T.length : Int)) ∧ s ∉ T ∧ ∃ (g' cap' : Nat) (cur' : Array Value), cur'.size = cap' * 2 ∧ 1 ≤ cap' ∧ cur'.toList.take (1 * 2) = entC (s, T.length) ∧ Own B w0 ((g', .cells cur' 116 (0, 0)) :: (q, .cells ((bs.set (hashS s) (some (g', 1, cap', cur'))).map bktV).toArray 114 (0, 0)) :: (c, .cells #[.int .i64 ((T.length : Int) + 1)] 3 (0, 0)) :: hs) w' := by
  refine fnStartC (Own B w0 ((q, .cells ((bs.map bktV).toArray) 114 (0, 0)) :: (c, .cells #[.int .i64 ((T.length : Int))] 3 (0, 0)) :: hs)) (n := 77) (e := [(0, .agg #[.slice (some ⟨q, 0, none⟩) 997 997, .slice (some ⟨c, 0, none⟩) 1 1]), (1, str s)]) Tryd.func105 rfl rfl rfl rfl Ends.both hw ?_
  have h997 := hash_lt s
  have hkl : hashS s < bs.length := by rw [hT.len]; exact h997
  have hE := hT.no _ h997 hb
  have hEl : (ents T (hashS s)).length = 0 := by rw [hE]; rfl
  refine Wk.seq ?_
  refine Wk.region ?_
  refine Ll.box (v := .agg #[.slice (some ⟨q, 0, none⟩) 997 997, .slice (some ⟨c, 0, none⟩) 1 1]) rfl rfl rfl rfl rfl fun p2 hp2 => ?_
  show Ll _ _ (Own _ _ ((p2, .cells #[.slice (some ⟨q, 0, none⟩) 997 997, .slice (some ⟨c, 0, none⟩) 1 1] 71 (0, 0)) :: (q, .cells ((bs.map bktV).toArray) 114 (0, 0)) :: (c, .cells #[.int .i64 ((T.length : Int))] 3 (0, 0)) :: hs)) _ _ ((2, .pointer (some ⟨p2, 0, none⟩)) :: _) _ _ _
  refine Ll.op (v := .int .i64 0) rfl rfl rfl (OpQ.assign rfl rfl) ?_
  refine Ll.nil ?_
  refine Kt.onSub (e' := [(1, str s), (2, .pointer (some ⟨p2, 0, none⟩))]) (Sub.cons rfl (Sub.cons rfl Sub.nil)) ?_
  refine Wk.seq ?_
  refine Wk.regionQ ?_
  refine Lq.op (v := .int .i64 0) rfl rfl rfl (OpQ.assign rfl rfl) ?_
  refine Lq.nil ?_
  refine Kt.onSub (e' := [(1, str s), (2, .pointer (some ⟨p2, 0, none⟩)), (5, .int .i64 0)]) (Sub.cons rfl (Sub.cons rfl (Sub.cons rfl Sub.nil))) ?_
  refine Wk.seq ?_
  refine Wk.seq ?_
  refine Wk.regionQ ?_
  refine Lq.op (v := .int .i64 0) rfl rfl rfl (OpQ.assign rfl rfl) ?_
  refine Lq.nil ?_
  refine Kt.onSub (e' := [(1, str s), (2, .pointer (some ⟨p2, 0, none⟩)), (5, .int .i64 0), (6, .int .i64 0)]) (Sub.cons rfl (Sub.cons rfl (Sub.cons rfl (Sub.cons rfl Sub.nil)))) ?_
  refine Wk.block ?_
  refine Wk.loop (σ := Nat) (fun k => k ≤ s.length) (fun k => [(1, str s), (2, .pointer (some ⟨p2, 0, none⟩)), (5, .int .i64 (((hashS (s.take k) : Nat) : Int))), (6, .int .i64 ((k : Int)))]) (fun k => Own B w0 ((p2, .cells #[.slice (some ⟨q, 0, none⟩) 997 997, .slice (some ⟨c, 0, none⟩) 1 1] 71 (0, 0)) :: (q, .cells ((bs.map bktV).toArray) 114 (0, 0)) :: (c, .cells #[.int .i64 ((T.length : Int))] 3 (0, 0)) :: hs)) (fun k => s.length - k) (0) (by omega) (Sub.cons rfl (Sub.cons rfl (Sub.cons rfl (Sub.cons rfl Sub.nil)))) (fun _ h => h) ?_
  rintro k hk
  refine Wk.seq ?_
  refine Wk.seq ?_
  refine Wk.regionQ ?_
  refine Lq.op (v := .int .i64 ((k : Int))) rfl rfl rfl (OpQ.move rfl rfl) ?_
  refine Lq.op (v := str s) rfl rfl rfl (OpQ.move rfl rfl) ?_
  refine Lq.op (v := .int .i64 ((s.length : Int))) rfl rfl rfl (OpQ.lenStr rfl Tryd.runUnderlying9 rfl) ?_
  refine Lq.op (v := .bool (decide (((k : Int)) < ((s.length : Int))))) rfl rfl rfl (OpQ.lss rfl rfl rfl) ?_
  refine Lq.nil ?_
  refine Kt.onSub (e' := [(1, str s), (2, .pointer (some ⟨p2, 0, none⟩)), (5, .int .i64 (((hashS (s.take k) : Nat) : Int))), (6, .int .i64 ((k : Int))), (12, .bool (decide (((k : Int)) < ((s.length : Int)))))]) (Sub.cons rfl (Sub.cons rfl (Sub.cons rfl (Sub.cons rfl (Sub.cons rfl Sub.nil))))) ?_
  refine Wk.cond (b := decide (((k : Int)) < ((s.length : Int)))) rfl (fun h12 => ?_) (fun h12 => ?_)
  · skip
    replace h12 := of_decide_eq_true h12
    have hk2 : k < s.length := by omega
    have hkh := hash_lt (s.take k)
    have hby := UInt8.toNat_lt (s.getD k 0)
    refine Wk.skip ?_
    refine Kt.onSub (e' := [(1, str s), (2, .pointer (some ⟨p2, 0, none⟩)), (5, .int .i64 (((hashS (s.take k) : Nat) : Int))), (6, .int .i64 ((k : Int)))]) (Sub.cons rfl (Sub.cons rfl (Sub.cons rfl (Sub.cons rfl Sub.nil)))) ?_
    refine Wk.seq ?_
    refine Wk.block ?_
    refine Wk.regionQ ?_
    refine Lq.op (v := .int .i64 (((hashS (s.take k) : Nat) : Int))) rfl rfl rfl (OpQ.move rfl rfl) ?_
    refine Lq.op (v := .int .i64 ((((hashS (s.take k) : Nat) : Int)) * (31 : Int))) rfl rfl rfl (OpQ.mul rfl rfl rfl (by omega) (by omega)) ?_
    refine Lq.op (v := str s) rfl rfl rfl (OpQ.move rfl rfl) ?_
    refine Lq.op (v := .int .i64 ((k : Int))) rfl rfl rfl (OpQ.move rfl rfl) ?_
    refine Lq.op (v := .int .u8 (((s.getD (((k : Int)).toNat) 0).toNat : Int))) rfl rfl rfl (OpQ.indexStr rfl Tryd.runUnderlying9 rfl rfl (by omega) (by omega)) ?_
    refine Lq.op (v := .int .i64 (((s.getD (((k : Int)).toNat) 0).toNat : Int))) rfl rfl rfl (OpQ.convInt .i64 rfl Tryd.underlying5 Tryd.underlying3 rfl (IntWalk.i64_in _ (by have := UInt8.toNat_lt (s.getD (((k : Int)).toNat) 0); omega))) ?_
    refine Lq.op (v := .int .i64 (((((hashS (s.take k) : Nat) : Int)) * (31 : Int)) + (((s.getD (((k : Int)).toNat) 0).toNat : Int)))) rfl rfl rfl (OpQ.add rfl rfl rfl (by simp only [Int.toNat_natCast]; omega) (by simp only [Int.toNat_natCast]; omega)) ?_
    refine Lq.op (v := .int .i64 (((hashS (s.take (k + 1)) : Nat) : Int))) rfl rfl rfl (OpQ.cast (by rw [Wk.hash_step hk2]; simp) (OpQ.rem rfl rfl rfl (by omega) (by decide))) ?_
    refine Lq.op (v := .int .i64 (((hashS (s.take (k + 1)) : Nat) : Int))) rfl rfl rfl (OpQ.assign rfl rfl) ?_
    refine Lq.nil ?_
    refine Kt.onSub (e' := [(1, str s), (2, .pointer (some ⟨p2, 0, none⟩)), (5, .int .i64 (((hashS (s.take (k + 1)) : Nat) : Int))), (6, .int .i64 ((k : Int)))]) (Sub.cons rfl (Sub.cons rfl (Sub.cons rfl (Sub.cons rfl Sub.nil)))) ?_
    refine Wk.regionQ ?_
    refine Lq.op (v := .int .i64 ((k : Int))) rfl rfl rfl (OpQ.move rfl rfl) ?_
    refine Lq.op (v := .int .i64 (((k : Int)) + (1 : Int))) rfl rfl rfl (OpQ.add rfl rfl rfl (by omega) (by omega)) ?_
    refine Lq.op (v := .int .i64 (((k : Int)) + (1 : Int))) rfl rfl rfl (OpQ.assign rfl rfl) ?_
    refine Lq.nil ?_
    refine Kt.again (k + 1) (by omega) (by omega) (Sub.cons rfl (Sub.cons rfl (Sub.cons rfl (Sub.cons rfl Sub.nil)))) (fun _ h => h)
  · skip
    replace h12 := of_decide_eq_false h12
    obtain rfl : k = s.length := by omega
    rw [List.take_length]
    refine Wk.exit rfl ?_
    refine Kt.onSub (e' := [(1, str s), (2, .pointer (some ⟨p2, 0, none⟩)), (5, .int .i64 (((hashS s : Nat) : Int)))]) (Sub.cons rfl (Sub.cons rfl (Sub.cons rfl Sub.nil))) ?_
    refine Wk.seq ?_
    refine Wk.seq ?_
    refine Wk.regionQ ?_
    refine Lq.op (v := .int .i64 0) rfl rfl rfl (OpQ.assign rfl rfl) ?_
    refine Lq.nil ?_
    refine Kt.onSub (e' := [(1, str s), (2, .pointer (some ⟨p2, 0, none⟩)), (5, .int .i64 (((hashS s : Nat) : Int))), (7, .int .i64 0)]) (Sub.cons rfl (Sub.cons rfl (Sub.cons rfl (Sub.cons rfl Sub.nil)))) ?_
    refine Wk.block ?_
    refine Wk.loop (σ := Nat) (fun j => j ≤ 0 ∧ ∀ i : Nat, i < j → ¬ ((ents T (hashS s)).getD i ([], 0)).1 = s) (fun j => [(1, str s), (2, .pointer (some ⟨p2, 0, none⟩)), (5, .int .i64 (((hashS s : Nat) : Int))), (7, .int .i64 ((j : Int)))]) (fun j => Own B w0 ((p2, .cells #[.slice (some ⟨q, 0, none⟩) 997 997, .slice (some ⟨c, 0, none⟩) 1 1] 71 (0, 0)) :: (q, .cells ((bs.map bktV).toArray) 114 (0, 0)) :: (c, .cells #[.int .i64 ((T.length : Int))] 3 (0, 0)) :: hs)) (fun j => 0 - j) (0) ⟨by omega, fun i hi => absurd hi (by omega)⟩ (Sub.cons rfl (Sub.cons rfl (Sub.cons rfl (Sub.cons rfl Sub.nil)))) (fun _ h => h) ?_
    rintro j ⟨hj0, hall⟩
    refine Wk.seq ?_
    refine Wk.seq ?_
    refine Wk.regionQ ?_
    refine Lq.op (v := .int .i64 ((j : Int))) rfl rfl rfl (OpQ.move rfl rfl) ?_
    refine Lq.op (v := .pointer (some ⟨p2, 0, none⟩)) rfl rfl rfl (OpQ.fieldAddr rfl Tryd.runUnderlying71 rfl Tryd.sizeOf69 rfl rfl) ?_
    refine Lq.op (v := .slice (some ⟨q, 0, none⟩) 997 997) rfl rfl rfl (OpQ.loadOwn 0 rfl Tryd.isAgg69 rfl rfl rfl) ?_
    refine Lq.op (v := .int .i64 (((hashS s : Nat) : Int))) rfl rfl rfl (OpQ.move rfl rfl) ?_
    refine Lq.op (v := .pointer (some ⟨q, hashS s, none⟩)) rfl rfl rfl (OpQ.cast (by simp) (OpQ.indexAddr1 rfl Tryd.runUnderlying69 Tryd.sizeOf114 rfl rfl (by omega) (by omega))) ?_
    refine Lq.op (v := .slice none 0 0) rfl rfl rfl (OpQ.loadAt (v := .slice none 0 0) 1 rfl Tryd.isAgg114 rfl rfl (bkt_at (b := none) hkl hb)) ?_
    refine Lq.op (v := .int .i64 ((0 : Int))) rfl rfl rfl (OpQ.lenS rfl Tryd.runUnderlying114 rfl) ?_
    refine Lq.op (v := .bool (decide (((j : Int)) < ((0 : Int))))) rfl rfl rfl (OpQ.lss rfl rfl rfl) ?_
    refine Lq.nil ?_
    refine Kt.onSub (e' := [(1, str s), (2, .pointer (some ⟨p2, 0, none⟩)), (5, .int .i64 (((hashS s : Nat) : Int))), (7, .int .i64 ((j : Int))), (30, .bool (decide (((j : Int)) < ((0 : Int)))))]) (Sub.cons rfl (Sub.cons rfl (Sub.cons rfl (Sub.cons rfl (Sub.cons rfl Sub.nil))))) ?_
    refine Wk.cond (b := decide (((j : Int)) < ((0 : Int)))) rfl (fun h30 => ?_) (fun h30 => ?_)
    · skip
      replace h30 := of_decide_eq_true h30
      omega
    · skip
      replace h30 := of_decide_eq_false h30
      refine Wk.exit rfl ?_
      refine Kt.onSub (e' := [(1, str s), (2, .pointer (some ⟨p2, 0, none⟩)), (5, .int .i64 (((hashS s : Nat) : Int)))]) (Sub.cons rfl (Sub.cons rfl (Sub.cons rfl Sub.nil))) ?_
      refine Wk.seq ?_
      refine Wk.regionQ ?_
      refine Lq.op (v := .pointer (some ⟨p2, 1, none⟩)) rfl rfl rfl (OpQ.fieldAddr rfl Tryd.runUnderlying71 rfl Tryd.sizeOf31 rfl rfl) ?_
      refine Lq.op (v := .slice (some ⟨c, 0, none⟩) 1 1) rfl rfl rfl (OpQ.loadOwn 0 rfl Tryd.isAgg31 rfl rfl rfl) ?_
      refine Lq.op (v := .pointer (some ⟨c, 0, none⟩)) rfl rfl rfl (OpQ.cast rfl (OpQ.indexAddr1 (i := 0) rfl Tryd.runUnderlying31 Tryd.sizeOf3 rfl rfl (by decide) (by decide))) ?_
      refine Lq.op (v := .int .i64 ((T.length : Int))) rfl rfl rfl (OpQ.loadOwn 2 rfl Tryd.isAgg3 rfl rfl rfl) ?_
      refine Lq.op (v := .int .i64 ((T.length : Int))) rfl rfl rfl (OpQ.assign rfl rfl) ?_
      refine Lq.nil ?_
      refine Kt.onSub (e' := [(1, str s), (2, .pointer (some ⟨p2, 0, none⟩)), (5, .int .i64 (((hashS s : Nat) : Int))), (8, .int .i64 ((T.length : Int)))]) (Sub.cons rfl (Sub.cons rfl (Sub.cons rfl (Sub.cons rfl Sub.nil)))) ?_
      refine Wk.seq ?_
      refine Wk.region ?_
      refine Ll.op (v := .pointer (some ⟨p2, 1, none⟩)) rfl rfl rfl (OpQ.fieldAddr rfl Tryd.runUnderlying71 rfl Tryd.sizeOf31 rfl rfl) ?_
      refine Ll.op (v := .slice (some ⟨c, 0, none⟩) 1 1) rfl rfl rfl (OpQ.loadOwn 0 rfl Tryd.isAgg31 rfl rfl rfl) ?_
      refine Ll.op (v := .int .i64 ((T.length : Int))) rfl rfl rfl (OpQ.move rfl rfl) ?_
      refine Ll.op (v := .int .i64 (((T.length : Int)) + (1 : Int))) rfl rfl rfl (OpQ.add rfl rfl rfl (by omega) (by omega)) ?_
      refine Ll.op (v := .pointer (some ⟨c, 0, none⟩)) rfl rfl rfl (OpQ.cast rfl (OpQ.indexAddr1 (i := 0) rfl Tryd.runUnderlying31 Tryd.sizeOf3 rfl rfl (by decide) (by decide))) ?_
      refine Ll.store1 (v := .int .i64 (((T.length : Int)) + (1 : Int))) (hs' := ((p2, .cells #[.slice (some ⟨q, 0, none⟩) 997 997, .slice (some ⟨c, 0, none⟩) 1 1] 71 (0, 0)) :: (q, .cells ((bs.map bktV).toArray) 114 (0, 0)) :: (c, .cells #[.int .i64 (((T.length : Int)) + (1 : Int))] 3 (0, 0)) :: hs)) 2 rfl rfl rfl rfl rfl rfl Tryd.sizeOf3 rfl (by simp) rfl ?_
      refine Ll.nil ?_
      refine Kt.onSub (e' := [(1, str s), (2, .pointer (some ⟨p2, 0, none⟩)), (5, .int .i64 (((hashS s : Nat) : Int))), (8, .int .i64 ((T.length : Int)))]) (Sub.cons rfl (Sub.cons rfl (Sub.cons rfl (Sub.cons rfl Sub.nil)))) ?_
      refine Wk.seq ?_
      refine Wk.regionT (S := Own B w0 [(p2, .cells #[.slice (some ⟨q, 0, none⟩) 997 997, .slice (some ⟨c, 0, none⟩) 1 1] 71 (0, 0)), (c, .cells #[.int .i64 (((T.length : Int)) + (1 : Int))] 3 (0, 0))]) (.take 0 (.take 1 (.take 2 (.take 3 (.take 4 (.take 5 (.take 6 (.take 8 (.take 9 (.take 10 (.two 7 (.one 11 (.one 12 (.take 13 (.one 14 .done)))) 11 (.one 7 (.one 12 (.take 13 (.one 14 .done))))))))))))))) Base.mixed (fun _ h => h.drawn) (by kernel_rfl) ?_
      refine Lt.take (v := .pointer (some ⟨p2, 0, none⟩)) rfl rfl rfl rfl rfl (OpQ.fieldAddr rfl Tryd.runUnderlying71 rfl Tryd.sizeOf69 rfl rfl) (fun _ h => h.pick [0, 2] rfl (by decide)) ?_
      refine Lt.take (v := .slice (some ⟨q, 0, none⟩) 997 997) rfl rfl rfl rfl rfl (OpQ.loadOwn 0 rfl Tryd.isAgg69 rfl rfl rfl) (fun _ h => h.pick [0, 2] rfl (by decide)) ?_
      refine Lt.take (v := .int .i64 (((hashS s : Nat) : Int))) rfl rfl rfl rfl rfl (OpQ.move rfl rfl) (fun _ h => h.pick [0, 2] rfl (by decide)) ?_
      refine Lt.take (v := .pointer (some ⟨p2, 0, none⟩)) rfl rfl rfl rfl rfl (OpQ.fieldAddr rfl Tryd.runUnderlying71 rfl Tryd.sizeOf69 rfl rfl) (fun _ h => h.pick [0, 2] rfl (by decide)) ?_
      refine Lt.take (v := .slice (some ⟨q, 0, none⟩) 997 997) rfl rfl rfl rfl rfl (OpQ.loadOwn 0 rfl Tryd.isAgg69 rfl rfl rfl) (fun _ h => h.pick [0, 2] rfl (by decide)) ?_
      refine Lt.take (v := .int .i64 (((hashS s : Nat) : Int))) rfl rfl rfl rfl rfl (OpQ.move rfl rfl) (fun _ h => h.pick [0, 2] rfl (by decide)) ?_
      refine Lt.take (v := .pointer (some ⟨q, hashS s, none⟩)) rfl rfl rfl rfl rfl (OpQ.cast (by simp) (OpQ.indexAddr1 rfl Tryd.runUnderlying69 Tryd.sizeOf114 rfl rfl (by omega) (by omega))) (fun _ h => h.pick [0, 2] rfl (by decide)) ?_
      refine Lt.take (v := str s) rfl rfl rfl rfl rfl (OpQ.move rfl rfl) (fun _ h => h.pick [0, 2] rfl (by decide)) ?_
      refine Lt.take (v := .int .i64 ((T.length : Int))) rfl rfl rfl rfl rfl (OpQ.move rfl rfl) (fun _ h => h.pick [0, 2] rfl (by decide)) ?_
      refine Lt.take (v := .agg #[str s, .int .i64 ((T.length : Int))]) rfl rfl rfl rfl rfl (OpQ.build (xs := [.tmp 70, .tmp 71]) (vs := [str s, .int .i64 ((T.length : Int))]) rfl rfl (by kernel_rfl)) (fun _ h => h.pick [0, 2] rfl (by decide)) ?_
      refine Lt.two rfl rfl ?_ ?_
      · skip
        refine Ll.op (v := .slice none 0 0) rfl rfl rfl (OpQ.loadAt (v := .slice none 0 0) 1 rfl Tryd.isAgg114 rfl rfl (bkt_at (b := none) hkl hb)) ?_
        refine Ll.nil (Lt.joint (fun _ h => h.pick [0, 2] rfl (by decide)) ?_)
        refine Lt.loud rfl ?_
        refine Ll.slice2 Base.elem114 rfl rfl rfl rfl rfl fun p73 hp73 => ?_
        refine Ll.nil (Lt.joint (fun _ h => h.pick [1, 3] rfl (by decide)) ?_)
        refine Lt.loud rfl ?_
        refine Ll.appendNil Base.elem114 (entC (s, T.length)) rfl rfl rfl rfl rfl rfl (by decide) (by simp) rfl (fun w1 hw1 ad had j u hj => by injection had with had; subst had; rw [Addr.add_lit, Nat.zero_add, hw1.cell (i := 0) rfl]; simpa [entC] using hj) (by decide) fun g2 cap2 cur2 hg2 hcg2 hlg2 htg2 => ?_
        show Ll _ _ (Own _ _ ((g2, .cells cur2 116 (0, 0)) :: (p73, .cells #[str s, .int .i64 ((T.length : Int))] 116 (0, 0)) :: (p2, .cells #[.slice (some ⟨q, 0, none⟩) 997 997, .slice (some ⟨c, 0, none⟩) 1 1] 71 (0, 0)) :: (q, .cells ((bs.map bktV).toArray) 114 (0, 0)) :: (c, .cells #[.int .i64 (((T.length : Int)) + (1 : Int))] 3 (0, 0)) :: hs)) _ _ ((74, .slice (some ⟨g2, 0, none⟩) 1 cap2) :: _) _ _ _
        refine Ll.nil (Lt.joint (fun _ h => h.pick [2, 4] rfl (by decide)) ?_)
        refine Lt.take (v := .pointer (some ⟨q, hashS s, none⟩)) rfl rfl rfl rfl rfl (OpQ.cast (by simp) (OpQ.indexAddr1 rfl Tryd.runUnderlying69 Tryd.sizeOf114 rfl rfl (by omega) (by omega))) (fun _ h => h.pick [2, 4] rfl (by decide)) ?_
        refine Lt.loud rfl ?_
        refine Ll.store1 (v := .slice (some ⟨g2, 0, none⟩) 1 cap2) (hs' := ((g2, .cells cur2 116 (0, 0)) :: (p73, .cells #[str s, .int .i64 ((T.length : Int))] 116 (0, 0)) :: (p2, .cells #[.slice (some ⟨q, 0, none⟩) 997 997, .slice (some ⟨c, 0, none⟩) 1 1] 71 (0, 0)) :: (q, .cells (((bs.set (hashS s) (some (g2, 1, cap2, cur2))).map bktV).toArray) 114 (0, 0)) :: (c, .cells #[.int .i64 (((T.length : Int)) + (1 : Int))] 3 (0, 0)) :: hs)) 3 rfl rfl rfl rfl rfl rfl Tryd.sizeOf114 rfl (by simpa using hkl) (by rw [← set_bkt]; rfl) ?_
        refine Ll.nil (Lt.joint (fun _ h => h.pick [2, 4] rfl (by decide)) ?_)
        refine Lt.nil ?_
        refine Kt.onSub (e' := [(8, .int .i64 ((T.length : Int)))]) (Sub.cons rfl Sub.nil) ?_
        refine Wk.seq ?_
        refine Wk.regionQ ?_
        refine Lq.op (v := .int .i64 ((T.length : Int))) rfl rfl rfl (OpQ.move rfl rfl) ?_
        refine Lq.op (v := .int .i64 ((T.length : Int))) rfl rfl rfl (OpQ.assign rfl rfl) ?_
        refine Lq.nil ?_
        refine Kt.onSub (e' := [(4, .int .i64 ((T.length : Int)))]) (Sub.cons rfl Sub.nil) ?_
        refine Wk.ret (Kt.end1 rfl rfl fun w' hw => ?_)
        -- ret 0: .int .i64 ((T.length : Int))
        exact ⟨rfl, ents_not (fun e he => by obtain ⟨i, hi, rfl⟩ := List.mem_iff_getElem.1 he; have := hall i (by omega); rwa [getD_at hi] at this), g2, cap2, cur2, hcg2, hlg2, htg2, hw.sub (List.Sublist.cons_cons _ (List.Sublist.cons _ (List.Sublist.cons _ (List.Sublist.cons_cons _ (List.Sublist.cons_cons _ (List.Sublist.refl _))))))⟩
      · skip
        refine Ll.slice2 Base.elem114 rfl rfl rfl rfl rfl fun p73_1 hp73_1 => ?_
        refine Ll.nil (Lt.joint (fun _ h => h.pick [1, 3] rfl (by decide)) ?_)
        refine Lt.loud rfl ?_
        refine Ll.op (v := .slice none 0 0) rfl rfl rfl (OpQ.loadAt (v := .slice none 0 0) 2 rfl Tryd.isAgg114 rfl rfl (bkt_at (b := none) hkl hb)) ?_
        refine Ll.nil (Lt.joint (fun _ h => h.pick [1, 3] rfl (by decide)) ?_)
        refine Lt.loud rfl ?_
        refine Ll.appendNil Base.elem114 (entC (s, T.length)) rfl rfl rfl rfl rfl rfl (by decide) (by simp) rfl (fun w1 hw1 ad had j u hj => by injection had with had; subst had; rw [Addr.add_lit, Nat.zero_add, hw1.cell (i := 0) rfl]; simpa [entC] using hj) (by decide) fun g2_1 cap2_1 cur2_1 hg2_1 hcg2_1 hlg2_1 htg2_1 => ?_
        show Ll _ _ (Own _ _ ((g2_1, .cells cur2_1 116 (0, 0)) :: (p73_1, .cells #[str s, .int .i64 ((T.length : Int))] 116 (0, 0)) :: (p2, .cells #[.slice (some ⟨q, 0, none⟩) 997 997, .slice (some ⟨c, 0, none⟩) 1 1] 71 (0, 0)) :: (q, .cells ((bs.map bktV).toArray) 114 (0, 0)) :: (c, .cells #[.int .i64 (((T.length : Int)) + (1 : Int))] 3 (0, 0)) :: hs)) _ _ ((74, .slice (some ⟨g2_1, 0, none⟩) 1 cap2_1) :: _) _ _ _
        refine Ll.nil (Lt.joint (fun _ h => h.pick [2, 4] rfl (by decide)) ?_)
        refine Lt.take (v := .pointer (some ⟨q, hashS s, none⟩)) rfl rfl rfl rfl rfl (OpQ.cast (by simp) (OpQ.indexAddr1 rfl Tryd.runUnderlying69 Tryd.sizeOf114 rfl rfl (by omega) (by omega))) (fun _ h => h.pick [2, 4] rfl (by decide)) ?_
        refine Lt.loud rfl ?_
        refine Ll.store1 (v := .slice (some ⟨g2_1, 0, none⟩) 1 cap2_1) (hs' := ((g2_1, .cells cur2_1 116 (0, 0)) :: (p73_1, .cells #[str s, .int .i64 ((T.length : Int))] 116 (0, 0)) :: (p2, .cells #[.slice (some ⟨q, 0, none⟩) 997 997, .slice (some ⟨c, 0, none⟩) 1 1] 71 (0, 0)) :: (q, .cells (((bs.set (hashS s) (some (g2_1, 1, cap2_1, cur2_1))).map bktV).toArray) 114 (0, 0)) :: (c, .cells #[.int .i64 (((T.length : Int)) + (1 : Int))] 3 (0, 0)) :: hs)) 3 rfl rfl rfl rfl rfl rfl Tryd.sizeOf114 rfl (by simpa using hkl) (by rw [← set_bkt]; rfl) ?_
        refine Ll.nil (Lt.joint (fun _ h => h.pick [2, 4] rfl (by decide)) ?_)
        refine Lt.nil ?_
        refine Kt.onSub (e' := [(8, .int .i64 ((T.length : Int)))]) (Sub.cons rfl Sub.nil) ?_
        refine Wk.seq ?_
        refine Wk.regionQ ?_
        refine Lq.op (v := .int .i64 ((T.length : Int))) rfl rfl rfl (OpQ.move rfl rfl) ?_
        refine Lq.op (v := .int .i64 ((T.length : Int))) rfl rfl rfl (OpQ.assign rfl rfl) ?_
        refine Lq.nil ?_
        refine Kt.onSub (e' := [(4, .int .i64 ((T.length : Int)))]) (Sub.cons rfl Sub.nil) ?_
        refine Wk.ret (Kt.end1 rfl rfl fun w' hw => ?_)
        -- ret 1: .int .i64 ((T.length : Int))
        exact ⟨rfl, ents_not (fun e he => by obtain ⟨i, hi, rfl⟩ := List.mem_iff_getElem.1 he; have := hall i (by omega); rwa [getD_at hi] at this), g2_1, cap2_1, cur2_1, hcg2_1, hlg2_1, htg2_1, hw.sub (List.Sublist.cons_cons _ (List.Sublist.cons _ (List.Sublist.cons _ (List.Sublist.cons_cons _ (List.Sublist.cons_cons _ (List.Sublist.refl _))))))⟩

set_option maxHeartbeats 400000 in
/-- spec.l5Number|some -/
theorem number_some (B : Nat) (w0 : World) (hs : List (Nat × Obj)) (q c : Nat) (bs : List Bkt) (T : List (List UInt8)) (s : List UInt8) (w : World) (hT : TabOk bs T) (hlT : T.length ≤ 1000000) (hls : s.length ≤ 1000) (g m cap : Nat) (cur : Array Value) (hb : bs.getD (hashS s) none = some (g, m, cap, cur)) (hw : Own B w0 ((g, .cells cur 116 (0, 0)) :: (q, .cells ((bs.map bktV).toArray) 114 (0, 0)) :: (c, .cells #[.int .i64 ((T.length : Int))] 3 (0, 0)) :: hs) w) :
    Calls Tryd.prog 105 [.agg #[.slice (some ⟨q, 0, none⟩) 997 997, .slice (some ⟨c, 0, none⟩) 1 1], str s].toArray w fun en w' => (∃ n : Nat, en = .returned (.int .i64 (n : Int)) ∧ T[n]? = some s ∧ Own B w0 ((g, .cells cur 116 (0, 0)) :: (q, .cells ((bs.map bktV).toArray) 114 (0, 0)) :: (c, .cells #[.int .i64 ((T.length : Int))] 3 (0, 0)) :: hs) w') ∨ (en = .returned (.int .i64 (T.length : Int)) ∧ s ∉ T ∧ ∃ (g' cap' : Nat) (cur' : Array Value), cur'.size = cap' * 2 ∧ m + 1 ≤ cap' ∧ cur'.toList.take ((m + 1) * 2) = flatE (ents T (hashS s)) ++ entC (s, T.length) ∧ Own B w0 ((g', .cells cur' 116 (0, 0)) :: (q, .cells ((bs.set (hashS s) (some (g', m + 1, cap', cur'))).map bktV).toArray 114 (0, 0)) :: (c, .cells #[.int .i64 ((T.length : Int) + 1)] 3 (0, 0)) :: hs) w') := by
  refine fnStartC (Own B w0 ((g, .cells cur 116 (0, 0)) :: (q, .cells ((bs.map bktV).toArray) 114 (0, 0)) :: (c, .cells #[.int .i64 ((T.length : Int))] 3 (0, 0)) :: hs)) (n := 77) (e := [(0, .agg #[.slice (some ⟨q, 0, none⟩) 997 997, .slice (some ⟨c, 0, none⟩) 1 1]), (1, str s)]) Tryd.func105 rfl rfl rfl rfl Ends.both hw ?_
  have h997 := hash_lt s
  have hkl : hashS s < bs.length := by rw [hT.len]; exact h997
  obtain ⟨hm, hc, hle, ht⟩ := hT.yes _ h997 _ _ _ _ hb
  have hmT := ents_le T (hashS s)
  refine Wk.seq ?_
  refine Wk.region ?_
  refine Ll.box (v := .agg #[.slice (some ⟨q, 0, none⟩) 997 997, .slice (some ⟨c, 0, none⟩) 1 1]) rfl rfl rfl rfl rfl fun p2 hp2 => ?_
  show Ll _ _ (Own _ _ ((p2, .cells #[.slice (some ⟨q, 0, none⟩) 997 997, .slice (some ⟨c, 0, none⟩) 1 1] 71 (0, 0)) :: (g, .cells cur 116 (0, 0)) :: (q, .cells ((bs.map bktV).toArray) 114 (0, 0)) :: (c, .cells #[.int .i64 ((T.length : Int))] 3 (0, 0)) :: hs)) _ _ ((2, .pointer (some ⟨p2, 0, none⟩)) :: _) _ _ _
  refine Ll.op (v := .int .i64 0) rfl rfl rfl (OpQ.assign rfl rfl) ?_
  refine Ll.nil ?_
  refine Kt.onSub (e' := [(1, str s), (2, .pointer (some ⟨p2, 0, none⟩))]) (Sub.cons rfl (Sub.cons rfl Sub.nil)) ?_
  refine Wk.seq ?_
  refine Wk.regionQ ?_
  refine Lq.op (v := .int .i64 0) rfl rfl rfl (OpQ.assign rfl rfl) ?_
  refine Lq.nil ?_
  refine Kt.onSub (e' := [(1, str s), (2, .pointer (some ⟨p2, 0, none⟩)), (5, .int .i64 0)]) (Sub.cons rfl (Sub.cons rfl (Sub.cons rfl Sub.nil))) ?_
  refine Wk.seq ?_
  refine Wk.seq ?_
  refine Wk.regionQ ?_
  refine Lq.op (v := .int .i64 0) rfl rfl rfl (OpQ.assign rfl rfl) ?_
  refine Lq.nil ?_
  refine Kt.onSub (e' := [(1, str s), (2, .pointer (some ⟨p2, 0, none⟩)), (5, .int .i64 0), (6, .int .i64 0)]) (Sub.cons rfl (Sub.cons rfl (Sub.cons rfl (Sub.cons rfl Sub.nil)))) ?_
  refine Wk.block ?_
  refine Wk.loop (σ := Nat) (fun k => k ≤ s.length) (fun k => [(1, str s), (2, .pointer (some ⟨p2, 0, none⟩)), (5, .int .i64 (((hashS (s.take k) : Nat) : Int))), (6, .int .i64 ((k : Int)))]) (fun k => Own B w0 ((p2, .cells #[.slice (some ⟨q, 0, none⟩) 997 997, .slice (some ⟨c, 0, none⟩) 1 1] 71 (0, 0)) :: (g, .cells cur 116 (0, 0)) :: (q, .cells ((bs.map bktV).toArray) 114 (0, 0)) :: (c, .cells #[.int .i64 ((T.length : Int))] 3 (0, 0)) :: hs)) (fun k => s.length - k) (0) (by omega) (Sub.cons rfl (Sub.cons rfl (Sub.cons rfl (Sub.cons rfl Sub.nil)))) (fun _ h => h) ?_
  rintro k hk
  refine Wk.seq ?_
  refine Wk.seq ?_
  refine Wk.regionQ ?_
  refine Lq.op (v := .int .i64 ((k : Int))) rfl rfl rfl (OpQ.move rfl rfl) ?_
  refine Lq.op (v := str s) rfl rfl rfl (OpQ.move rfl rfl) ?_
  refine Lq.op (v := .int .i64 ((s.length : Int))) rfl rfl rfl (OpQ.lenStr rfl Tryd.runUnderlying9 rfl) ?_
  refine Lq.op (v := .bool (decide (((k : Int)) < ((s.length : Int))))) rfl rfl rfl (OpQ.lss rfl rfl rfl) ?_
  refine Lq.nil ?_
  refine Kt.onSub (e' := [(1, str s), (2, .pointer (some ⟨p2, 0, none⟩)), (5, .int .i64 (((hashS (s.take k) : Nat) : Int))), (6, .int .i64 ((k : Int))), (12, .bool (decide (((k : Int)) < ((s.length : Int)))))]) (Sub.cons rfl (Sub.cons rfl (Sub.cons rfl (Sub.cons rfl (Sub.cons rfl Sub.nil))))) ?_
  refine Wk.cond (b := decide (((k : Int)) < ((s.length : Int)))) rfl (fun h12 => ?_) (fun h12 => ?_)
  · skip
    replace h12 := of_decide_eq_true h12
    have hk2 : k < s.length := by omega
    have hkh := hash_lt (s.take k)
    have hby := UInt8.toNat_lt (s.getD k 0)
    refine Wk.skip ?_
    refine Kt.onSub (e' := [(1, str s), (2, .pointer (some ⟨p2, 0, none⟩)), (5, .int .i64 (((hashS (s.take k) : Nat) : Int))), (6, .int .i64 ((k : Int)))]) (Sub.cons rfl (Sub.cons rfl (Sub.cons rfl (Sub.cons rfl Sub.nil)))) ?_
    refine Wk.seq ?_
    refine Wk.block ?_
    refine Wk.regionQ ?_
    refine Lq.op (v := .int .i64 (((hashS (s.take k) : Nat) : Int))) rfl rfl rfl (OpQ.move rfl rfl) ?_
    refine Lq.op (v := .int .i64 ((((hashS (s.take k) : Nat) : Int)) * (31 : Int))) rfl rfl rfl (OpQ.mul rfl rfl rfl (by omega) (by omega)) ?_
    refine Lq.op (v := str s) rfl rfl rfl (OpQ.move rfl rfl) ?_
    refine Lq.op (v := .int .i64 ((k : Int))) rfl rfl rfl (OpQ.move rfl rfl) ?_
    refine Lq.op (v := .int .u8 (((s.getD (((k : Int)).toNat) 0).toNat : Int))) rfl rfl rfl (OpQ.indexStr rfl Tryd.runUnderlying9 rfl rfl (by omega) (by omega)) ?_
    refine Lq.op (v := .int .i64 (((s.getD (((k : Int)).toNat) 0).toNat : Int))) rfl rfl rfl (OpQ.convInt .i64 rfl Tryd.underlying5 Tryd.underlying3 rfl (IntWalk.i64_in _ (by have := UInt8.toNat_lt (s.getD (((k : Int)).toNat) 0); omega))) ?_
    refine Lq.op (v := .int .i64 (((((hashS (s.take k) : Nat) : Int)) * (31 : Int)) + (((s.getD (((k : Int)).toNat) 0).toNat : Int)))) rfl rfl rfl (OpQ.add rfl rfl rfl (by simp only [Int.toNat_natCast]; omega) (by simp only [Int.toNat_natCast]; omega)) ?_
    refine Lq.op (v := .int .i64 (((hashS (s.take (k + 1)) : Nat) : Int))) rfl rfl rfl (OpQ.cast (by rw [Wk.hash_step hk2]; simp) (OpQ.rem rfl rfl rfl (by omega) (by decide))) ?_
    refine Lq.op (v := .int .i64 (((hashS (s.take (k + 1)) : Nat) : Int))) rfl rfl rfl (OpQ.assign rfl rfl) ?_
    refine Lq.nil ?_
    refine Kt.onSub (e' := [(1, str s), (2, .pointer (some ⟨p2, 0, none⟩)), (5, .int .i64 (((hashS (s.take (k + 1)) : Nat) : Int))), (6, .int .i64 ((k : Int)))]) (Sub.cons rfl (Sub.cons rfl (Sub.cons rfl (Sub.cons rfl Sub.nil)))) ?_
    refine Wk.regionQ ?_
    refine Lq.op (v := .int .i64 ((k : Int))) rfl rfl rfl (OpQ.move rfl rfl) ?_
    refine Lq.op (v := .int .i64 (((k : Int)) + (1 : Int))) rfl rfl rfl (OpQ.add rfl rfl rfl (by omega) (by omega)) ?_
    refine Lq.op (v := .int .i64 (((k : Int)) + (1 : Int))) rfl rfl rfl (OpQ.assign rfl rfl) ?_
    refine Lq.nil ?_
    refine Kt.again (k + 1) (by omega) (by omega) (Sub.cons rfl (Sub.cons rfl (Sub.cons rfl (Sub.cons rfl Sub.nil)))) (fun _ h => h)
  · skip
    replace h12 := of_decide_eq_false h12
    obtain rfl : k = s.length := by omega
    rw [List.take_length]
    refine Wk.exit rfl ?_
    refine Kt.onSub (e' := [(1, str s), (2, .pointer (some ⟨p2, 0, none⟩)), (5, .int .i64 (((hashS s : Nat) : Int)))]) (Sub.cons rfl (Sub.cons rfl (Sub.cons rfl Sub.nil))) ?_
    refine Wk.seq ?_
    refine Wk.seq ?_
    refine Wk.regionQ ?_
    refine Lq.op (v := .int .i64 0) rfl rfl rfl (OpQ.assign rfl rfl) ?_
    refine Lq.nil ?_
    refine Kt.onSub (e' := [(1, str s), (2, .pointer (some ⟨p2, 0, none⟩)), (5, .int .i64 (((hashS s : Nat) : Int))), (7, .int .i64 0)]) (Sub.cons rfl (Sub.cons rfl (Sub.cons rfl (Sub.cons rfl Sub.nil)))) ?_
    refine Wk.block ?_
    refine Wk.loop (σ := Nat) (fun j => j ≤ m ∧ ∀ i : Nat, i < j → ¬ ((ents T (hashS s)).getD i ([], 0)).1 = s) (fun j => [(1, str s), (2, .pointer (some ⟨p2, 0, none⟩)), (5, .int .i64 (((hashS s : Nat) : Int))), (7, .int .i64 ((j : Int)))]) (fun j => Own B w0 ((p2, .cells #[.slice (some ⟨q, 0, none⟩) 997 997, .slice (some ⟨c, 0, none⟩) 1 1] 71 (0, 0)) :: (g, .cells cur 116 (0, 0)) :: (q, .cells ((bs.map bktV).toArray) 114 (0, 0)) :: (c, .cells #[.int .i64 ((T.length : Int))] 3 (0, 0)) :: hs)) (fun j => m - j) (0) ⟨by omega, fun i hi => absurd hi (by omega)⟩ (Sub.cons rfl (Sub.cons rfl (Sub.cons rfl (Sub.cons rfl Sub.nil)))) (fun _ h => h) ?_
    rintro j ⟨hj0, hall⟩
    refine Wk.seq ?_
    refine Wk.seq ?_
    refine Wk.regionQ ?_
    refine Lq.op (v := .int .i64 ((j : Int))) rfl rfl rfl (OpQ.move rfl rfl) ?_
    refine Lq.op (v := .pointer (some ⟨p2, 0, none⟩)) rfl rfl rfl (OpQ.fieldAddr rfl Tryd.runUnderlying71 rfl Tryd.sizeOf69 rfl rfl) ?_
    refine Lq.op (v := .slice (some ⟨q, 0, none⟩) 997 997) rfl rfl rfl (OpQ.loadOwn 0 rfl Tryd.isAgg69 rfl rfl rfl) ?_
    refine Lq.op (v := .int .i64 (((hashS s : Nat) : Int))) rfl rfl rfl (OpQ.move rfl rfl) ?_
    refine Lq.op (v := .pointer (some ⟨q, hashS s, none⟩)) rfl rfl rfl (OpQ.cast (by simp) (OpQ.indexAddr1 rfl Tryd.runUnderlying69 Tryd.sizeOf114 rfl rfl (by omega) (by omega))) ?_
    refine Lq.op (v := .slice (some ⟨g, 0, none⟩) m cap) rfl rfl rfl (OpQ.loadAt (v := .slice (some ⟨g, 0, none⟩) m cap) 2 rfl Tryd.isAgg114 rfl rfl (bkt_at (b := some (g, m, cap, cur)) hkl hb)) ?_
    refine Lq.op (v := .int .i64 ((m : Int))) rfl rfl rfl (OpQ.lenS rfl Tryd.runUnderlying114 rfl) ?_
    refine Lq.op (v := .bool (decide (((j : Int)) < ((m : Int))))) rfl rfl rfl (OpQ.lss rfl rfl rfl) ?_
    refine Lq.nil ?_
    refine Kt.onSub (e' := [(1, str s), (2, .pointer (some ⟨p2, 0, none⟩)), (5, .int .i64 (((hashS s : Nat) : Int))), (7, .int .i64 ((j : Int))), (30, .bool (decide (((j : Int)) < ((m : Int)))))]) (Sub.cons rfl (Sub.cons rfl (Sub.cons rfl (Sub.cons rfl (Sub.cons rfl Sub.nil))))) ?_
    refine Wk.cond (b := decide (((j : Int)) < ((m : Int)))) rfl (fun h30 => ?_) (fun h30 => ?_)
    · skip
      replace h30 := of_decide_eq_true h30
      have hj : j < m := by omega
      refine Wk.skip ?_
      refine Kt.onSub (e' := [(1, str s), (2, .pointer (some ⟨p2, 0, none⟩)), (5, .int .i64 (((hashS s : Nat) : Int))), (7, .int .i64 ((j : Int)))]) (Sub.cons rfl (Sub.cons rfl (Sub.cons rfl (Sub.cons rfl Sub.nil)))) ?_
      refine Wk.seq ?_
      refine Wk.block ?_
      refine Wk.seq ?_
      refine Wk.regionQ ?_
      refine Lq.op (v := .pointer (some ⟨p2, 0, none⟩)) rfl rfl rfl (OpQ.fieldAddr rfl Tryd.runUnderlying71 rfl Tryd.sizeOf69 rfl rfl) ?_
      refine Lq.op (v := .slice (some ⟨q, 0, none⟩) 997 997) rfl rfl rfl (OpQ.loadOwn 0 rfl Tryd.isAgg69 rfl rfl rfl) ?_
      refine Lq.op (v := .int .i64 (((hashS s : Nat) : Int))) rfl rfl rfl (OpQ.move rfl rfl) ?_
      refine Lq.op (v := .pointer (some ⟨q, hashS s, none⟩)) rfl rfl rfl (OpQ.cast (by simp) (OpQ.indexAddr1 rfl Tryd.runUnderlying69 Tryd.sizeOf114 rfl rfl (by omega) (by omega))) ?_
      refine Lq.op (v := .slice (some ⟨g, 0, none⟩) m cap) rfl rfl rfl (OpQ.loadAt (v := .slice (some ⟨g, 0, none⟩) m cap) 2 rfl Tryd.isAgg114 rfl rfl (bkt_at (b := some (g, m, cap, cur)) hkl hb)) ?_
      refine Lq.op (v := .int .i64 ((j : Int))) rfl rfl rfl (OpQ.move rfl rfl) ?_
      refine Lq.op (v := .pointer (some ⟨g, j * 2, none⟩)) rfl rfl rfl (OpQ.cast (v' := .pointer (some ⟨g, j * 2, none⟩)) (by simp) (OpQ.indexAddr (i := (j : Int)) rfl Tryd.runUnderlying114 Tryd.sizeOf116 rfl rfl (by omega) (by omega))) ?_
      refine Lq.op (v := .pointer (some ⟨g, j * 2, none⟩)) rfl rfl rfl (OpQ.fieldAddr rfl Tryd.runUnderlying116 rfl Tryd.sizeOf9 rfl rfl) ?_
      refine Lq.op (v := str (((ents T (hashS s)).getD j ([], 0)).1)) rfl rfl rfl (OpQ.loadAt (v := str (((ents T (hashS s)).getD j ([], 0)).1)) 1 rfl Tryd.isAgg9 rfl rfl (ent_at ht hm hj).1) ?_
      refine Lq.op (v := str s) rfl rfl rfl (OpQ.move rfl rfl) ?_
      refine Lq.op (v := .bool ((((ents T (hashS s)).getD j ([], 0)).1) == s)) rfl rfl rfl (OpQ.seql rfl rfl rfl) ?_
      refine Lq.nil ?_
      refine Kt.onSub (e' := [(1, str s), (2, .pointer (some ⟨p2, 0, none⟩)), (5, .int .i64 (((hashS s : Nat) : Int))), (7, .int .i64 ((j : Int))), (43, .bool ((((ents T (hashS s)).getD j ([], 0)).1) == s))]) (Sub.cons rfl (Sub.cons rfl (Sub.cons rfl (Sub.cons rfl (Sub.cons rfl Sub.nil))))) ?_
      refine Wk.cond (b := (((ents T (hashS s)).getD j ([], 0)).1) == s) rfl (fun h43 => ?_) (fun h43 => ?_)
      · skip
        refine Wk.seq ?_
        refine Wk.regionQ ?_
        refine Lq.op (v := .pointer (some ⟨p2, 0, none⟩)) rfl rfl rfl (OpQ.fieldAddr rfl Tryd.runUnderlying71 rfl Tryd.sizeOf69 rfl rfl) ?_
        refine Lq.op (v := .slice (some ⟨q, 0, none⟩) 997 997) rfl rfl rfl (OpQ.loadOwn 0 rfl Tryd.isAgg69 rfl rfl rfl) ?_
        refine Lq.op (v := .int .i64 (((hashS s : Nat) : Int))) rfl rfl rfl (OpQ.move rfl rfl) ?_
        refine Lq.op (v := .pointer (some ⟨q, hashS s, none⟩)) rfl rfl rfl (OpQ.cast (by simp) (OpQ.indexAddr1 rfl Tryd.runUnderlying69 Tryd.sizeOf114 rfl rfl (by omega) (by omega))) ?_
        refine Lq.op (v := .slice (some ⟨g, 0, none⟩) m cap) rfl rfl rfl (OpQ.loadAt (v := .slice (some ⟨g, 0, none⟩) m cap) 2 rfl Tryd.isAgg114 rfl rfl (bkt_at (b := some (g, m, cap, cur)) hkl hb)) ?_
        refine Lq.op (v := .int .i64 ((j : Int))) rfl rfl rfl (OpQ.move rfl rfl) ?_
        refine Lq.op (v := .pointer (some ⟨g, j * 2, none⟩)) rfl rfl rfl (OpQ.cast (v' := .pointer (some ⟨g, j * 2, none⟩)) (by simp) (OpQ.indexAddr (i := (j : Int)) rfl Tryd.runUnderlying114 Tryd.sizeOf116 rfl rfl (by omega) (by omega))) ?_
        refine Lq.op (v := .pointer (some ⟨g, j * 2 + 1, none⟩)) rfl rfl rfl (OpQ.fieldAddr rfl Tryd.runUnderlying116 rfl Tryd.sizeOf3 rfl rfl) ?_
        refine Lq.op (v := .int .i64 ((((ents T (hashS s)).getD j ([], 0)).2 : Int))) rfl rfl rfl (OpQ.loadAt (v := .int .i64 ((((ents T (hashS s)).getD j ([], 0)).2 : Int))) 1 rfl Tryd.isAgg3 rfl rfl (ent_at ht hm hj).2) ?_
        refine Lq.op (v := .int .i64 ((((ents T (hashS s)).getD j ([], 0)).2 : Int))) rfl rfl rfl (OpQ.assign rfl rfl) ?_
        refine Lq.nil ?_
        refine Kt.onSub (e' := [(4, .int .i64 ((((ents T (hashS s)).getD j ([], 0)).2 : Int)))]) (Sub.cons rfl Sub.nil) ?_
        refine Wk.ret (Kt.end1 rfl rfl fun w' hw => ?_)
        -- ret 0: .int .i64 ((((ents T (hashS s)).getD j ([], 0)).2 : Int))
        exact .inl ⟨_, rfl, ents_mem (e := (ents T (hashS s)).getD j ([], 0)) (by rw [getD_at (by omega)]; exact List.getElem_mem _) |>.trans (by rw [show ((ents T (hashS s)).getD j ([], 0)).1 = s from by simpa using h43]), hw.sub ((List.Sublist.cons _ (List.Sublist.cons_cons _ (List.Sublist.cons_cons _ (List.Sublist.cons_cons _ (List.Sublist.refl _))))))⟩
      · skip
        refine Wk.skip ?_
        refine Kt.onSub (e' := [(1, str s), (2, .pointer (some ⟨p2, 0, none⟩)), (5, .int .i64 (((hashS s : Nat) : Int))), (7, .int .i64 ((j : Int)))]) (Sub.cons rfl (Sub.cons rfl (Sub.cons rfl (Sub.cons rfl Sub.nil)))) ?_
        refine Wk.regionQ ?_
        refine Lq.op (v := .int .i64 ((j : Int))) rfl rfl rfl (OpQ.move rfl rfl) ?_
        refine Lq.op (v := .int .i64 (((j : Int)) + (1 : Int))) rfl rfl rfl (OpQ.add rfl rfl rfl (by omega) (by omega)) ?_
        refine Lq.op (v := .int .i64 (((j : Int)) + (1 : Int))) rfl rfl rfl (OpQ.assign rfl rfl) ?_
        refine Lq.nil ?_
        refine Kt.again (j + 1) ⟨by omega, fun i hi => (Nat.lt_succ_iff_lt_or_eq.1 hi).elim (hall i) (fun e => by subst e; simpa using h43)⟩ (by omega) (Sub.cons rfl (Sub.cons rfl (Sub.cons rfl (Sub.cons rfl Sub.nil)))) (fun _ h => h)
    · skip
      replace h30 := of_decide_eq_false h30
      refine Wk.exit rfl ?_
      refine Kt.onSub (e' := [(1, str s), (2, .pointer (some ⟨p2, 0, none⟩)), (5, .int .i64 (((hashS s : Nat) : Int)))]) (Sub.cons rfl (Sub.cons rfl (Sub.cons rfl Sub.nil))) ?_
      refine Wk.seq ?_
      refine Wk.regionQ ?_
      refine Lq.op (v := .pointer (some ⟨p2, 1, none⟩)) rfl rfl rfl (OpQ.fieldAddr rfl Tryd.runUnderlying71 rfl Tryd.sizeOf31 rfl rfl) ?_
      refine Lq.op (v := .slice (some ⟨c, 0, none⟩) 1 1) rfl rfl rfl (OpQ.loadOwn 0 rfl Tryd.isAgg31 rfl rfl rfl) ?_
      refine Lq.op (v := .pointer (some ⟨c, 0, none⟩)) rfl rfl rfl (OpQ.cast rfl (OpQ.indexAddr1 (i := 0) rfl Tryd.runUnderlying31 Tryd.sizeOf3 rfl rfl (by decide) (by decide))) ?_
      refine Lq.op (v := .int .i64 ((T.length : Int))) rfl rfl rfl (OpQ.loadOwn 3 rfl Tryd.isAgg3 rfl rfl rfl) ?_
      refine Lq.op (v := .int .i64 ((T.length : Int))) rfl rfl rfl (OpQ.assign rfl rfl) ?_
      refine Lq.nil ?_
      refine Kt.onSub (e' := [(1, str s), (2, .pointer (some ⟨p2, 0, none⟩)), (5, .int .i64 (((hashS s : Nat) : Int))), (8, .int .i64 ((T.length : Int)))]) (Sub.cons rfl (Sub.cons rfl (Sub.cons rfl (Sub.cons rfl Sub.nil)))) ?_
      refine Wk.seq ?_
      refine Wk.region ?_
      refine Ll.op (v := .pointer (some ⟨p2, 1, none⟩)) rfl rfl rfl (OpQ.fieldAddr rfl Tryd.runUnderlying71 rfl Tryd.sizeOf31 rfl rfl) ?_
      refine Ll.op (v := .slice (some ⟨c, 0, none⟩) 1 1) rfl rfl rfl (OpQ.loadOwn 0 rfl Tryd.isAgg31 rfl rfl rfl) ?_
      refine Ll.op (v := .int .i64 ((T.length : Int))) rfl rfl rfl (OpQ.move rfl rfl) ?_
      refine Ll.op (v := .int .i64 (((T.length : Int)) + (1 : Int))) rfl rfl rfl (OpQ.add rfl rfl rfl (by omega) (by omega)) ?_
      refine Ll.op (v := .pointer (some ⟨c, 0, none⟩)) rfl rfl rfl (OpQ.cast rfl (OpQ.indexAddr1 (i := 0) rfl Tryd.runUnderlying31 Tryd.sizeOf3 rfl rfl (by decide) (by decide))) ?_
      refine Ll.store1 (v := .int .i64 (((T.length : Int)) + (1 : Int))) (hs' := ((p2, .cells #[.slice (some ⟨q, 0, none⟩) 997 997, .slice (some ⟨c, 0, none⟩) 1 1] 71 (0, 0)) :: (g, .cells cur 116 (0, 0)) :: (q, .cells ((bs.map bktV).toArray) 114 (0, 0)) :: (c, .cells #[.int .i64 (((T.length : Int)) + (1 : Int))] 3 (0, 0)) :: hs)) 3 rfl rfl rfl rfl rfl rfl Tryd.sizeOf3 rfl (by simp) rfl ?_
      refine Ll.nil ?_
      refine Kt.onSub (e' := [(1, str s), (2, .pointer (some ⟨p2, 0, none⟩)), (5, .int .i64 (((hashS s : Nat) : Int))), (8, .int .i64 ((T.length : Int)))]) (Sub.cons rfl (Sub.cons rfl (Sub.cons rfl (Sub.cons rfl Sub.nil)))) ?_
      refine Wk.seq ?_
      refine Wk.regionT (S := Own B w0 [(p2, .cells #[.slice (some ⟨q, 0, none⟩) 997 997, .slice (some ⟨c, 0, none⟩) 1 1] 71 (0, 0)), (c, .cells #[.int .i64 (((T.length : Int)) + (1 : Int))] 3 (0, 0))]) (.take 0 (.take 1 (.take 2 (.take 3 (.take 4 (.take 5 (.take 6 (.take 8 (.take 9 (.take 10 (.two 7 (.one 11 (.one 12 (.take 13 (.one 14 .done)))) 11 (.one 7 (.one 12 (.take 13 (.one 14 .done))))))))))))))) Base.mixed (fun _ h => h.drawn) (by kernel_rfl) ?_
      refine Lt.take (v := .pointer (some ⟨p2, 0, none⟩)) rfl rfl rfl rfl rfl (OpQ.fieldAddr rfl Tryd.runUnderlying71 rfl Tryd.sizeOf69 rfl rfl) (fun _ h => h.pick [0, 3] rfl (by decide)) ?_
      refine Lt.take (v := .slice (some ⟨q, 0, none⟩) 997 997) rfl rfl rfl rfl rfl (OpQ.loadOwn 0 rfl Tryd.isAgg69 rfl rfl rfl) (fun _ h => h.pick [0, 3] rfl (by decide)) ?_
      refine Lt.take (v := .int .i64 (((hashS s : Nat) : Int))) rfl rfl rfl rfl rfl (OpQ.move rfl rfl) (fun _ h => h.pick [0, 3] rfl (by decide)) ?_
      refine Lt.take (v := .pointer (some ⟨p2, 0, none⟩)) rfl rfl rfl rfl rfl (OpQ.fieldAddr rfl Tryd.runUnderlying71 rfl Tryd.sizeOf69 rfl rfl) (fun _ h => h.pick [0, 3] rfl (by decide)) ?_
      refine Lt.take (v := .slice (some ⟨q, 0, none⟩) 997 997) rfl rfl rfl rfl rfl (OpQ.loadOwn 0 rfl Tryd.isAgg69 rfl rfl rfl) (fun _ h => h.pick [0, 3] rfl (by decide)) ?_
      refine Lt.take (v := .int .i64 (((hashS s : Nat) : Int))) rfl rfl rfl rfl rfl (OpQ.move rfl rfl) (fun _ h => h.pick [0, 3] rfl (by decide)) ?_
      refine Lt.take (v := .pointer (some ⟨q, hashS s, none⟩)) rfl rfl rfl rfl rfl (OpQ.cast (by simp) (OpQ.indexAddr1 rfl Tryd.runUnderlying69 Tryd.sizeOf114 rfl rfl (by omega) (by omega))) (fun _ h => h.pick [0, 3] rfl (by decide)) ?_
      refine Lt.take (v := str s) rfl rfl rfl rfl rfl (OpQ.move rfl rfl) (fun _ h => h.pick [0, 3] rfl (by decide)) ?_
      refine Lt.take (v := .int .i64 ((T.length : Int))) rfl rfl rfl rfl rfl (OpQ.move rfl rfl) (fun _ h => h.pick [0, 3] rfl (by decide)) ?_
      refine Lt.take (v := .agg #[str s, .int .i64 ((T.length : Int))]) rfl rfl rfl rfl rfl (OpQ.build (xs := [.tmp 70, .tmp 71]) (vs := [str s, .int .i64 ((T.length : Int))]) rfl rfl (by kernel_rfl)) (fun _ h => h.pick [0, 3] rfl (by decide)) ?_
      refine Lt.two rfl rfl ?_ ?_
      · skip
        refine Ll.op (v := .slice (some ⟨g, 0, none⟩) m cap) rfl rfl rfl (OpQ.loadAt (v := .slice (some ⟨g, 0, none⟩) m cap) 2 rfl Tryd.isAgg114 rfl rfl (bkt_at (b := some (g, m, cap, cur)) hkl hb)) ?_
        refine Ll.nil (Lt.joint (fun _ h => h.pick [0, 3] rfl (by decide)) ?_)
        refine Lt.loud rfl ?_
        refine Ll.slice2 Base.elem114 rfl rfl rfl rfl rfl fun p73 hp73 => ?_
        refine Ll.nil (Lt.joint (fun _ h => h.pick [1, 4] rfl (by decide)) ?_)
        refine Lt.loud rfl ?_
        refine Ll.append Base.elem114 2 (entC (s, T.length)) rfl rfl rfl rfl rfl rfl rfl hc hle rfl (fun h => by cases h) (fun w1 hw1 ad had j u hj => by injection had with had; subst had; rw [Addr.add_lit, Nat.zero_add, hw1.cell (i := 0) rfl]; simpa [entC] using hj) (by simp [entC, str, Value.oneCell']) (by omega) fun g2 cap2 cur2 hg2 hcg2 hlg2 htg2 => ?_
        show Ll _ _ (Own _ _ ((p73, .cells #[str s, .int .i64 ((T.length : Int))] 116 (0, 0)) :: (p2, .cells #[.slice (some ⟨q, 0, none⟩) 997 997, .slice (some ⟨c, 0, none⟩) 1 1] 71 (0, 0)) :: (g2, .cells cur2 116 (0, 0)) :: (q, .cells ((bs.map bktV).toArray) 114 (0, 0)) :: (c, .cells #[.int .i64 (((T.length : Int)) + (1 : Int))] 3 (0, 0)) :: hs)) _ _ ((74, .slice (some ⟨g2, 0, none⟩) ((m + 1)) cap2) :: _) _ _ _
        refine Ll.nil (Lt.joint (fun _ h => h.pick [1, 4] rfl (by decide)) ?_)
        refine Lt.take (v := .pointer (some ⟨q, hashS s, none⟩)) rfl rfl rfl rfl rfl (OpQ.cast (by simp) (OpQ.indexAddr1 rfl Tryd.runUnderlying69 Tryd.sizeOf114 rfl rfl (by omega) (by omega))) (fun _ h => h.pick [1, 4] rfl (by decide)) ?_
        refine Lt.loud rfl ?_
        refine Ll.store1 (v := .slice (some ⟨g2, 0, none⟩) ((m + 1)) cap2) (hs' := ((p73, .cells #[str s, .int .i64 ((T.length : Int))] 116 (0, 0)) :: (p2, .cells #[.slice (some ⟨q, 0, none⟩) 997 997, .slice (some ⟨c, 0, none⟩) 1 1] 71 (0, 0)) :: (g2, .cells cur2 116 (0, 0)) :: (q, .cells (((bs.set (hashS s) (some (g2, (m + 1), cap2, cur2))).map bktV).toArray) 114 (0, 0)) :: (c, .cells #[.int .i64 (((T.length : Int)) + (1 : Int))] 3 (0, 0)) :: hs)) 3 rfl rfl rfl rfl rfl rfl Tryd.sizeOf114 rfl (by simpa using hkl) (by rw [← set_bkt]; rfl) ?_
        refine Ll.nil (Lt.joint (fun _ h => h.pick [1, 4] rfl (by decide)) ?_)
        refine Lt.nil ?_
        refine Kt.onSub (e' := [(8, .int .i64 ((T.length : Int)))]) (Sub.cons rfl Sub.nil) ?_
        refine Wk.seq ?_
        refine Wk.regionQ ?_
        refine Lq.op (v := .int .i64 ((T.length : Int))) rfl rfl rfl (OpQ.move rfl rfl) ?_
        refine Lq.op (v := .int .i64 ((T.length : Int))) rfl rfl rfl (OpQ.assign rfl rfl) ?_
        refine Lq.nil ?_
        refine Kt.onSub (e' := [(4, .int .i64 ((T.length : Int)))]) (Sub.cons rfl Sub.nil) ?_
        refine Wk.ret (Kt.end1 rfl rfl fun w' hw => ?_)
        -- ret 1: .int .i64 ((T.length : Int))
        exact .inr ⟨rfl, ents_not (fun e he => by obtain ⟨i, hi, rfl⟩ := List.mem_iff_getElem.1 he; have := hall i (by omega); rwa [getD_at hi] at this), g2, cap2, cur2, hcg2, hlg2, by rw [htg2, ht], hw.sub (List.Sublist.cons _ (List.Sublist.cons _ (List.Sublist.cons_cons _ (List.Sublist.cons_cons _ (List.Sublist.cons_cons _ (List.Sublist.refl _))))))⟩
      · skip
        refine Ll.slice2 Base.elem114 rfl rfl rfl rfl rfl fun p73_1 hp73_1 => ?_
        refine Ll.nil (Lt.joint (fun _ h => h.pick [1, 4] rfl (by decide)) ?_)
        refine Lt.loud rfl ?_
        refine Ll.op (v := .slice (some ⟨g, 0, none⟩) m cap) rfl rfl rfl (OpQ.loadAt (v := .slice (some ⟨g, 0, none⟩) m cap) 3 rfl Tryd.isAgg114 rfl rfl (bkt_at (b := some (g, m, cap, cur)) hkl hb)) ?_
        refine Ll.nil (Lt.joint (fun _ h => h.pick [1, 4] rfl (by decide)) ?_)
        refine Lt.loud rfl ?_
        refine Ll.append Base.elem114 2 (entC (s, T.length)) rfl rfl rfl rfl rfl rfl rfl hc hle rfl (fun h => by cases h) (fun w1 hw1 ad had j u hj => by injection had with had; subst had; rw [Addr.add_lit, Nat.zero_add, hw1.cell (i := 0) rfl]; simpa [entC] using hj) (by simp [entC, str, Value.oneCell']) (by omega) fun g2_1 cap2_1 cur2_1 hg2_1 hcg2_1 hlg2_1 htg2_1 => ?_
        show Ll _ _ (Own _ _ ((p73_1, .cells #[str s, .int .i64 ((T.length : Int))] 116 (0, 0)) :: (p2, .cells #[.slice (some ⟨q, 0, none⟩) 997 997, .slice (some ⟨c, 0, none⟩) 1 1] 71 (0, 0)) :: (g2_1, .cells cur2_1 116 (0, 0)) :: (q, .cells ((bs.map bktV).toArray) 114 (0, 0)) :: (c, .cells #[.int .i64 (((T.length : Int)) + (1 : Int))] 3 (0, 0)) :: hs)) _ _ ((74, .slice (some ⟨g2_1, 0, none⟩) ((m + 1)) cap2_1) :: _) _ _ _
        refine Ll.nil (Lt.joint (fun _ h => h.pick [1, 4] rfl (by decide)) ?_)
        refine Lt.take (v := .pointer (some ⟨q, hashS s, none⟩)) rfl rfl rfl rfl rfl (OpQ.cast (by simp) (OpQ.indexAddr1 rfl Tryd.runUnderlying69 Tryd.sizeOf114 rfl rfl (by omega) (by omega))) (fun _ h => h.pick [1, 4] rfl (by decide)) ?_
        refine Lt.loud rfl ?_
        refine Ll.store1 (v := .slice (some ⟨g2_1, 0, none⟩) ((m + 1)) cap2_1) (hs' := ((p73_1, .cells #[str s, .int .i64 ((T.length : Int))] 116 (0, 0)) :: (p2, .cells #[.slice (some ⟨q, 0, none⟩) 997 997, .slice (some ⟨c, 0, none⟩) 1 1] 71 (0, 0)) :: (g2_1, .cells cur2_1 116 (0, 0)) :: (q, .cells (((bs.set (hashS s) (some (g2_1, (m + 1), cap2_1, cur2_1))).map bktV).toArray) 114 (0, 0)) :: (c, .cells #[.int .i64 (((T.length : Int)) + (1 : Int))] 3 (0, 0)) :: hs)) 3 rfl rfl rfl rfl rfl rfl Tryd.sizeOf114 rfl (by simpa using hkl) (by rw [← set_bkt]; rfl) ?_
        refine Ll.nil (Lt.joint (fun _ h => h.pick [1, 4] rfl (by decide)) ?_)
        refine Lt.nil ?_
        refine Kt.onSub (e' := [(8, .int .i64 ((T.length : Int)))]) (Sub.cons rfl Sub.nil) ?_
        refine Wk.seq ?_
        refine Wk.regionQ ?_
        refine Lq.op (v := .int .i64 ((T.length : Int))) rfl rfl rfl (OpQ.move rfl rfl) ?_
        refine Lq.op (v := .int .i64 ((T.length : Int))) rfl rfl rfl (OpQ.assign rfl rfl) ?_
        refine Lq.nil ?_
        refine Kt.onSub (e' := [(4, .int .i64 ((T.length : Int)))]) (Sub.cons rfl Sub.nil) ?_
        refine Wk.ret (Kt.end1 rfl rfl fun w' hw => ?_)
        -- ret 2: .int .i64 ((T.length : Int))
        exact .inr ⟨rfl, ents_not (fun e he => by obtain ⟨i, hi, rfl⟩ := List.mem_iff_getElem.1 he; have := hall i (by omega); rwa [getD_at hi] at this), g2_1, cap2_1, cur2_1, hcg2_1, hlg2_1, by rw [htg2_1, ht], hw.sub (List.Sublist.cons _ (List.Sublist.cons _ (List.Sublist.cons_cons _ (List.Sublist.cons_cons _ (List.Sublist.cons_cons _ (List.Sublist.refl _))))))⟩

theorem number_ok (B : Nat) (w0 : World) (hs : List (Nat × Obj)) (q c : Nat) (bs : List Bkt) (T : List (List UInt8)) (s : List UInt8) (w : World) (hT : TabOk bs T) (hlT : T.length ≤ 1000000) (hls : s.length ≤ 1000) (hw : Own B w0 (tabL 114 3 116 q c bs T ++ hs) w) :
    Calls Tryd.prog 105 [.agg #[.slice (some ⟨q, 0, none⟩) 997 997, .slice (some ⟨c, 0, none⟩) 1 1], str s].toArray w fun en w' => ∃ (n : Nat) (bs' : List Bkt) (T' : List (List UInt8)), en = .returned (.int .i64 (n : Int)) ∧ (TabTo T bs' T' 1 ∧ T'[n]? = some s) ∧ Own B w0 (tabL 114 3 116 q c bs' T' ++ hs) w' := by
  have h997 := hash_lt s
  have hkl : hashS s < bs.length := by rw [hT.len]; exact h997
  cases hb : bs.getD (hashS s) none with
  | none =>
    refine (number_nil B w0 (blks 116 bs ++ hs) q c bs T s w hT hlT hls hb hw).mono fun en w' ⟨h1, h2, g', cap', cur', h3, h4, h5, h6⟩ => ?_
    refine ⟨T.length, bs.set (hashS s) (some (g', 1, cap', cur')), T ++ [s], h1, ⟨⟨hT.add h2 (by rw [hT.no _ h997 hb]; rfl) h3 h4 (by rw [hT.no _ h997 hb]; exact h5), List.prefix_append _ _, by simp⟩, by simp⟩, ?_⟩
    have hp := (blks_put (E := 116) (g := g') (m := 1) (cap := cap') (cur := cur') hkl)
    rw [blks_none hkl hb] at hp
    have e1 : ((T ++ [s]).length : Int) = (T.length : Int) + 1 := by simp
    show Own B w0 (_ :: (_, .cells #[.int .i64 ((T ++ [s]).length : Int)] _ (0, 0)) :: (blks _ _ ++ hs)) w'
    rw [e1]
    exact h6.perm ((perm_back [_] [_, _] _).trans (List.Perm.cons _ (List.Perm.cons _ ((hp.symm.append_right hs)))))
  | some b =>
    obtain ⟨g, m, cap, cur⟩ := b
    have hp := (blks_take (E := 116) hkl hb)
    have hw2 : Own B w0 ((g, .cells cur 116 (0, 0)) :: (q, .cells (bs.map bktV).toArray 114 (0, 0)) :: (c, .cells #[.int .i64 (T.length : Int)] 3 (0, 0)) :: (blks 116 (bs.set (hashS s) none) ++ hs)) w :=
      hw.perm ((List.Perm.cons _ (List.Perm.cons _ (hp.append_right hs))).trans (perm_back [_, _] [_] _))
    refine (number_some B w0 (blks 116 (bs.set (hashS s) none) ++ hs) q c bs T s w hT hlT hls g m cap cur hb hw2).mono fun en w' h => ?_
    rcases h with ⟨n, h1, h2, h3⟩ | ⟨h1, h2, g', cap', cur', h3, h4, h5, h6⟩
    · exact ⟨n, bs, T, h1, ⟨⟨hT, List.prefix_refl _, by omega⟩, h2⟩, h3.perm ((perm_back [_] [_, _] _).trans (List.Perm.cons _ (List.Perm.cons _ (hp.symm.append_right hs))))⟩
    · refine ⟨T.length, bs.set (hashS s) (some (g', m + 1, cap', cur')), T ++ [s], h1, ⟨⟨hT.add h2 (by rw [(hT.yes _ h997 _ _ _ _ hb).1]) h3 h4 h5, List.prefix_append _ _, by simp⟩, by simp⟩, ?_⟩
      have hp2 := (blks_put (E := 116) (g := g') (m := m + 1) (cap := cap') (cur := cur') hkl)
      have e1 : ((T ++ [s]).length : Int) = (T.length : Int) + 1 := by simp
      show Own B w0 (_ :: (_, .cells #[.int .i64 ((T ++ [s]).length : Int)] _ (0, 0)) :: (blks _ _ ++ hs)) w'
      rw [e1]
      exact h6.perm ((perm_back [_] [_, _] _).trans (List.Perm.cons _ (List.Perm.cons _ (hp2.symm.append_right hs))))

set_option maxHeartbeats 400000 in
/-- spec.l5Type|zero -/
theorem type_zero (B : Nat) (w0 : World) (hs : List (Nat × Obj)) (q c : Nat) (bs : List Bkt) (T : List (List UInt8)) (a : St) (va : Value) (xs : List Int) (w : World) (hT : TabOk bs T) (ha : a.Fine) (hva : ∀ w, Own B w0 hs w → Ints w va xs) (hA : a.Els xs) (h7 : xs.length + 0 ≤ 7) (hcap : T.length + cnt 0 ≤ 1000000) (hw : Own B w0 (tabL 114 3 116 q c bs T ++ hs) w) :
    Calls Tryd.prog 68 [.agg #[.slice (some ⟨q, 0, none⟩) 997 997, .slice (some ⟨c, 0, none⟩) 1 1], vS a, va, .int .i64 0].toArray w fun en w' => ∃ (m : Nat) (bs' : List Bkt) (T' : List (List UInt8)), en = .returned (.int .i64 (m : Int)) ∧ (TabTo T bs' T' (cnt 0) ∧ Means T' 0 a xs m) ∧ Own B w0 (tabL 114 3 116 q c bs' T' ++ hs) w' := by
  refine fnStartC (Own B w0 (tabL 114 3 116 q c bs T ++ hs)) (n := 56) (e := [(0, .agg #[.slice (some ⟨q, 0, none⟩) 997 997, .slice (some ⟨c, 0, none⟩) 1 1]), (1, vS a), (2, va), (3, .int .i64 0)]) Tryd.func68 rfl rfl rfl rfl Ends.both hw ?_
  have hc0 : cnt 0 = 1 := rfl
  have hbits : (atomBits a xs).length ≤ 175 := bits_small (by omega)
  have hd0 := decS_len 0 12 (by decide) (by decide)
  refine Wk.seq ?_
  refine Wk.region ?_
  refine Ll.box (v := .agg #[.slice (some ⟨q, 0, none⟩) 997 997, .slice (some ⟨c, 0, none⟩) 1 1]) rfl rfl rfl rfl rfl fun p4 hp4 => ?_
  show Ll _ _ (Own _ _ ((p4, .cells #[.slice (some ⟨q, 0, none⟩) 997 997, .slice (some ⟨c, 0, none⟩) 1 1] 71 (0, 0)) :: (q, .cells ((bs.map bktV).toArray) 114 (0, 0)) :: (c, .cells #[.int .i64 ((T.length : Int))] 3 (0, 0)) :: ((blks 116 bs ++ hs)))) _ _ ((4, .pointer (some ⟨p4, 0, none⟩)) :: _) _ _ _
  refine Ll.box (v := vS a) rfl rfl rfl rfl rfl fun p5 hp5 => ?_
  show Ll _ _ (Own _ _ ((p5, .cells #[.int .i64 a.n, str a.set, str a.rel] 26 (0, 0)) :: (p4, .cells #[.slice (some ⟨q, 0, none⟩) 997 997, .slice (some ⟨c, 0, none⟩) 1 1] 71 (0, 0)) :: (q, .cells ((bs.map bktV).toArray) 114 (0, 0)) :: (c, .cells #[.int .i64 ((T.length : Int))] 3 (0, 0)) :: ((blks 116 bs ++ hs)))) _ _ ((5, .pointer (some ⟨p5, 0, none⟩)) :: _) _ _ _
  refine Ll.op (v := .int .i64 0) rfl rfl rfl (OpQ.assign rfl rfl) ?_
  refine Ll.nil ?_
  refine Kt.onSub (e' := [(2, va), (3, .int .i64 0), (4, .pointer (some ⟨p4, 0, none⟩)), (5, .pointer (some ⟨p5, 0, none⟩))]) (Sub.cons rfl (Sub.cons rfl (Sub.cons rfl (Sub.cons rfl Sub.nil)))) ?_
  refine Wk.seq ?_
  refine Wk.regionQ ?_
  refine Lq.op (v := vS a) rfl rfl rfl (OpQ.loadBox (cs := #[.int .i64 a.n, str a.set, str a.rel]) 0 rfl Tryd.isAgg26 rfl rfl Tryd.sizeOf26) ?_
  refine Lq.op (v := va) rfl rfl rfl (OpQ.move rfl rfl) ?_
  refine Lq.op (v := str (atomBits a xs)) rfl rfl rfl (OpQ.call rfl Tryd.call103 rfl Own.stable (fun w1 hw1 => l5Atoms_ok a va xs w1 ha (hva _ (Own.drop (f := (p5, .cells #[.int .i64 a.n, str a.set, str a.rel] 26 (0, 0)) :: (p4, .cells #[.slice (some ⟨q, 0, none⟩) 997 997, .slice (some ⟨c, 0, none⟩) 1 1] 71 (0, 0)) :: (q, .cells ((bs.map bktV).toArray) 114 (0, 0)) :: (c, .cells #[.int .i64 ((T.length : Int))] 3 (0, 0)) :: blks 116 (bs)) hw1)) hA (by first | (simp; done) | (simp; omega) | omega))) ?_
  refine Lq.op (v := str (atomBits a xs)) rfl rfl rfl (OpQ.assign rfl rfl) ?_
  refine Lq.nil ?_
  refine Kt.onSub (e' := [(2, va), (3, .int .i64 0), (4, .pointer (some ⟨p4, 0, none⟩)), (5, .pointer (some ⟨p5, 0, none⟩)), (9, str (atomBits a xs))]) (Sub.cons rfl (Sub.cons rfl (Sub.cons rfl (Sub.cons rfl (Sub.cons rfl Sub.nil))))) ?_
  refine Wk.seq ?_
  refine Wk.seq ?_
  refine Wk.regionQ ?_
  refine Lq.op (v := .int .i64 0) rfl rfl rfl (OpQ.move rfl rfl) ?_
  refine Lq.op (v := .bool (decide ((0 : Int) < (0 : Int)))) rfl rfl rfl (OpQ.gtr rfl rfl rfl) ?_
  refine Lq.nil ?_
  refine Kt.onSub (e' := [(2, va), (3, .int .i64 0), (4, .pointer (some ⟨p4, 0, none⟩)), (5, .pointer (some ⟨p5, 0, none⟩)), (9, str (atomBits a xs)), (17, .bool (decide ((0 : Int) < (0 : Int))))]) (Sub.cons rfl (Sub.cons rfl (Sub.cons rfl (Sub.cons rfl (Sub.cons rfl (Sub.cons rfl Sub.nil)))))) ?_
  refine Wk.cond (b := decide ((0 : Int) < (0 : Int))) rfl (fun h17 => ?_) (fun h17 => ?_)
  · skip
    replace h17 := of_decide_eq_true h17
    exact absurd h17 (by decide)
  · skip
    replace h17 := of_decide_eq_false h17
    refine Wk.skip ?_
    refine Kt.onSub (e' := [(3, .int .i64 0), (4, .pointer (some ⟨p4, 0, none⟩)), (9, str (atomBits a xs))]) (Sub.cons rfl (Sub.cons rfl (Sub.cons rfl Sub.nil))) ?_
    refine Wk.seq ?_
    refine Wk.regionS (S := Own B w0 [(p5, .cells #[.int .i64 a.n, str a.set, str a.rel] 26 (0, 0)), (p4, .cells #[.slice (some ⟨q, 0, none⟩) 997 997, .slice (some ⟨c, 0, none⟩) 1 1] 71 (0, 0))]) [(0, true), (1, true), (4, true), (2, false), (3, true), (5, true), (6, false), (7, true)] Base.mixed (fun _ h => h.drawn) (by kernel_rfl) ?_
    refine Ld.take (v := .agg #[.slice (some ⟨q, 0, none⟩) 997 997, .slice (some ⟨c, 0, none⟩) 1 1]) rfl rfl rfl rfl rfl (OpQ.loadBox (cs := #[.slice (some ⟨q, 0, none⟩) 997 997, .slice (some ⟨c, 0, none⟩) 1 1]) 1 rfl Tryd.isAgg71 rfl rfl Tryd.sizeOf71) (fun _ h => h.pick [0, 1] rfl (by decide)) ?_
    refine Ld.take (v := .int .i64 0) rfl rfl rfl rfl rfl (OpQ.move rfl rfl) (fun _ h => h.pick [0, 1] rfl (by decide)) ?_
    refine Ld.take (v := str (atomBits a xs)) rfl rfl rfl rfl rfl (OpQ.move rfl rfl) (fun _ h => h.pick [0, 1] rfl (by decide)) ?_
    refine Ld.loud rfl ?_
    refine Ll.op (v := str (decS 0)) rfl rfl rfl (OpQ.cast rfl (OpQ.call rfl Tryd.call104 rfl Own.stable (fun w1 hw1 => l15Dec_ok 0 w1 (by omega) (by omega)))) ?_
    refine Ll.nil (Ld.joint (fun _ h => h.pick [0, 1] rfl (by decide)) ?_)
    refine Ld.take (v := str ((decS 0) ++ ([58]))) rfl rfl rfl rfl rfl (OpQ.sadd rfl rfl rfl (by simp only [List.length_append, List.length_cons, List.length_nil]; omega)) (fun _ h => h.pick [0, 1] rfl (by decide)) ?_
    refine Ld.take (v := str (((decS 0) ++ ([58])) ++ (atomBits a xs))) rfl rfl rfl rfl rfl (OpQ.sadd rfl rfl rfl (by simp only [List.length_append, List.length_cons, List.length_nil]; omega)) (fun _ h => h.pick [0, 1] rfl (by decide)) ?_
    refine Ld.loud rfl ?_
    refine Ll.callTab (S := 114) (I := 3) (E := 116) (q := q) (c := c) (bs := bs) (T := T) (hs := hs) (ok := fun m bs' T' => TabTo T bs' T' 1 ∧ T'[m]? = some (((decS 0) ++ ([58])) ++ (atomBits a xs))) (xs := [.tmp 49, .tmp 54]) (vs := [.agg #[.slice (some ⟨q, 0, none⟩) 997 997, .slice (some ⟨c, 0, none⟩) 1 1], str (((decS 0) ++ ([58])) ++ (atomBits a xs))]) [(p5, .cells #[.int .i64 a.n, str a.set, str a.rel] 26 (0, 0)), (p4, .cells #[.slice (some ⟨q, 0, none⟩) 997 997, .slice (some ⟨c, 0, none⟩) 1 1] 71 (0, 0))] rfl rfl rfl rfl Tryd.call105 rfl (fun w1 hw1 => number_ok B w0 ([(p5, .cells #[.int .i64 a.n, str a.set, str a.rel] 26 (0, 0)), (p4, .cells #[.slice (some ⟨q, 0, none⟩) 997 997, .slice (some ⟨c, 0, none⟩) 1 1] 71 (0, 0))] ++ hs) q c bs T (((decS 0) ++ ([58])) ++ (atomBits a xs)) w1 hT (by omega) (by simp only [List.length_append, List.length_cons, List.length_nil]; omega) hw1) fun m bs_ T_ hKm => ?_
    show Ll _ _ (Own _ _ ((p5, .cells #[.int .i64 a.n, str a.set, str a.rel] 26 (0, 0)) :: (p4, .cells #[.slice (some ⟨q, 0, none⟩) 997 997, .slice (some ⟨c, 0, none⟩) 1 1] 71 (0, 0)) :: (q, .cells ((bs_.map bktV).toArray) 114 (0, 0)) :: (c, .cells #[.int .i64 ((T_.length : Int))] 3 (0, 0)) :: ((blks 116 bs_ ++ hs)))) _ _ ((55, .int .i64 ((m : Int))) :: _) _ _ _
    refine Ll.nil (Ld.joint (fun _ h => h.pick [0, 1] rfl (by decide)) ?_)
    refine Ld.take (v := .int .i64 ((m : Int))) rfl rfl rfl rfl rfl (OpQ.assign rfl rfl) (fun _ h => h.pick [0, 1] rfl (by decide)) ?_
    refine Ld.nil ?_
    refine Kt.onSub (e' := [(8, .int .i64 ((m : Int)))]) (Sub.cons rfl Sub.nil) ?_
    refine Wk.ret (Kt.end1 rfl rfl fun w' hw => ?_)
    -- ret 0: .int .i64 ((m : Int))
    exact ⟨m, bs_, T_, rfl, ⟨hKm.1, by show _ = some (descr 0 _ []); simpa [descr, commas] using hKm.2⟩, hw.drop (f := [(p5, .cells #[.int .i64 a.n, str a.set, str a.rel] 26 (0, 0)), (p4, .cells #[.slice (some ⟨q, 0, none⟩) 997 997, .slice (some ⟨c, 0, none⟩) 1 1] 71 (0, 0))])⟩

set_option maxHeartbeats 400000 in
/-- spec.l5Type -/
theorem type_of (n : Nat) (ih : ∀ (B : Nat) (w0 : World) (hs : List (Nat × Obj)) (q c : Nat) (bs : List Bkt) (T : List (List UInt8)) (a : St) (va : Value) (xs : List Int) (w : World), TabOk bs T → a.Fine → (∀ w, Own B w0 hs w → Ints w va xs) → a.Els xs → xs.length + n ≤ 7 → T.length + cnt n ≤ 1000000 → Own B w0 (tabL 114 3 116 q c bs T ++ hs) w → Calls Tryd.prog 68 #[.agg #[.slice (some ⟨q, 0, none⟩) 997 997, .slice (some ⟨c, 0, none⟩) 1 1], vS a, va, .int .i64 (n : Int)] w fun en w' => ∃ (m : Nat) (bs' : List Bkt) (T' : List (List UInt8)), en = .returned (.int .i64 (m : Int)) ∧ (TabTo T bs' T' (cnt n) ∧ Means T' n a xs m) ∧ Own B w0 (tabL 114 3 116 q c bs' T' ++ hs) w') (B : Nat) (w0 : World) (hs : List (Nat × Obj)) (q c : Nat) (bs : List Bkt) (T : List (List UInt8)) (a : St) (va : Value) (xs : List Int) (w : World) (hT : TabOk bs T) (ha : a.Fine) (hva : ∀ w, Own B w0 hs w → Ints w va xs) (hA : a.Els xs) (h7 : xs.length + (n + 1) ≤ 7) (hcap : T.length + cnt (n + 1) ≤ 1000000) (hw : Own B w0 (tabL 114 3 116 q c bs T ++ hs) w) :
    Calls Tryd.prog 68 [.agg #[.slice (some ⟨q, 0, none⟩) 997 997, .slice (some ⟨c, 0, none⟩) 1 1], vS a, va, .int .i64 ((n : Int) + 1)].toArray w fun en w' => ∃ (m : Nat) (bs' : List Bkt) (T' : List (List UInt8)), en = .returned (.int .i64 (m : Int)) ∧ (TabTo T bs' T' (cnt (n + 1)) ∧ Means T' (n + 1) a xs m) ∧ Own B w0 (tabL 114 3 116 q c bs' T' ++ hs) w' := by
  refine fnStartC (Own B w0 (tabL 114 3 116 q c bs T ++ hs)) (n := 56) (e := [(0, .agg #[.slice (some ⟨q, 0, none⟩) 997 997, .slice (some ⟨c, 0, none⟩) 1 1]), (1, vS a), (2, va), (3, .int .i64 ((n : Int) + 1))]) Tryd.func68 rfl rfl rfl rfl Ends.both hw ?_
  have hcs := cnt_succ n
  have hbits : (atomBits a xs).length ≤ 175 := bits_small (by omega)
  have hm8 := ha.hi
  have hm1 := ha.lo
  have hdn := decS_len (n + 1) 12 (show n + 1 < 1000000000000 by omega) (by decide)
  refine Wk.seq ?_
  refine Wk.region ?_
  refine Ll.box (v := .agg #[.slice (some ⟨q, 0, none⟩) 997 997, .slice (some ⟨c, 0, none⟩) 1 1]) rfl rfl rfl rfl rfl fun p4 hp4 => ?_
  show Ll _ _ (Own _ _ ((p4, .cells #[.slice (some ⟨q, 0, none⟩) 997 997, .slice (some ⟨c, 0, none⟩) 1 1] 71 (0, 0)) :: (q, .cells ((bs.map bktV).toArray) 114 (0, 0)) :: (c, .cells #[.int .i64 ((T.length : Int))] 3 (0, 0)) :: ((blks 116 bs ++ hs)))) _ _ ((4, .pointer (some ⟨p4, 0, none⟩)) :: _) _ _ _
  refine Ll.box (v := vS a) rfl rfl rfl rfl rfl fun p5 hp5 => ?_
  show Ll _ _ (Own _ _ ((p5, .cells #[.int .i64 a.n, str a.set, str a.rel] 26 (0, 0)) :: (p4, .cells #[.slice (some ⟨q, 0, none⟩) 997 997, .slice (some ⟨c, 0, none⟩) 1 1] 71 (0, 0)) :: (q, .cells ((bs.map bktV).toArray) 114 (0, 0)) :: (c, .cells #[.int .i64 ((T.length : Int))] 3 (0, 0)) :: ((blks 116 bs ++ hs)))) _ _ ((5, .pointer (some ⟨p5, 0, none⟩)) :: _) _ _ _
  refine Ll.op (v := .int .i64 0) rfl rfl rfl (OpQ.assign rfl rfl) ?_
  refine Ll.nil ?_
  refine Kt.onSub (e' := [(2, va), (3, .int .i64 ((n : Int) + 1)), (4, .pointer (some ⟨p4, 0, none⟩)), (5, .pointer (some ⟨p5, 0, none⟩))]) (Sub.cons rfl (Sub.cons rfl (Sub.cons rfl (Sub.cons rfl Sub.nil)))) ?_
  refine Wk.seq ?_
  refine Wk.regionQ ?_
  refine Lq.op (v := vS a) rfl rfl rfl (OpQ.loadBox (cs := #[.int .i64 a.n, str a.set, str a.rel]) 0 rfl Tryd.isAgg26 rfl rfl Tryd.sizeOf26) ?_
  refine Lq.op (v := va) rfl rfl rfl (OpQ.move rfl rfl) ?_
  refine Lq.op (v := str (atomBits a xs)) rfl rfl rfl (OpQ.call rfl Tryd.call103 rfl Own.stable (fun w1 hw1 => l5Atoms_ok a va xs w1 ha (hva _ (Own.drop (f := (p5, .cells #[.int .i64 a.n, str a.set, str a.rel] 26 (0, 0)) :: (p4, .cells #[.slice (some ⟨q, 0, none⟩) 997 997, .slice (some ⟨c, 0, none⟩) 1 1] 71 (0, 0)) :: (q, .cells ((bs.map bktV).toArray) 114 (0, 0)) :: (c, .cells #[.int .i64 ((T.length : Int))] 3 (0, 0)) :: blks 116 (bs)) hw1)) hA (by first | (simp; done) | (simp; omega) | omega))) ?_
  refine Lq.op (v := str (atomBits a xs)) rfl rfl rfl (OpQ.assign rfl rfl) ?_
  refine Lq.nil ?_
  refine Kt.onSub (e' := [(2, va), (3, .int .i64 ((n : Int) + 1)), (4, .pointer (some ⟨p4, 0, none⟩)), (5, .pointer (some ⟨p5, 0, none⟩)), (9, str (atomBits a xs))]) (Sub.cons rfl (Sub.cons rfl (Sub.cons rfl (Sub.cons rfl (Sub.cons rfl Sub.nil))))) ?_
  refine Wk.seq ?_
  refine Wk.seq ?_
  refine Wk.regionQ ?_
  refine Lq.op (v := .int .i64 ((n : Int) + 1)) rfl rfl rfl (OpQ.move rfl rfl) ?_
  refine Lq.op (v := .bool (decide ((0 : Int) < ((n : Int) + 1)))) rfl rfl rfl (OpQ.gtr rfl rfl rfl) ?_
  refine Lq.nil ?_
  refine Kt.onSub (e' := [(2, va), (3, .int .i64 ((n : Int) + 1)), (4, .pointer (some ⟨p4, 0, none⟩)), (5, .pointer (some ⟨p5, 0, none⟩)), (9, str (atomBits a xs)), (17, .bool (decide ((0 : Int) < ((n : Int) + 1))))]) (Sub.cons rfl (Sub.cons rfl (Sub.cons rfl (Sub.cons rfl (Sub.cons rfl (Sub.cons rfl Sub.nil)))))) ?_
  refine Wk.cond (b := decide ((0 : Int) < ((n : Int) + 1))) rfl (fun h17 => ?_) (fun h17 => ?_)
  · skip
    replace h17 := of_decide_eq_true h17
    refine Wk.seq ?_
    refine Wk.region ?_
    refine Ll.slice (xs := []) (vs := []) Base.elem31 rfl rfl rfl rfl rfl rfl (by decide) rfl fun p18 hp18 => ?_
    refine Ll.op (v := .slice (some ⟨p18, 0, none⟩) 0 0) rfl rfl rfl (OpQ.assign rfl rfl) ?_
    refine Ll.nil ?_
    refine Kt.onSub (e' := [(2, va), (3, .int .i64 ((n : Int) + 1)), (4, .pointer (some ⟨p4, 0, none⟩)), (5, .pointer (some ⟨p5, 0, none⟩)), (9, str (atomBits a xs)), (10, .slice (some ⟨p18, 0, none⟩) 0 0)]) (Sub.cons rfl (Sub.cons rfl (Sub.cons rfl (Sub.cons rfl (Sub.cons rfl (Sub.cons rfl Sub.nil)))))) ?_
    refine Wk.seq ?_
    refine Wk.seq ?_
    refine Wk.regionQ ?_
    refine Lq.op (v := .int .i64 0) rfl rfl rfl (OpQ.assign rfl rfl) ?_
    refine Lq.nil ?_
    refine Kt.onSub (e' := [(2, va), (3, .int .i64 ((n : Int) + 1)), (4, .pointer (some ⟨p4, 0, none⟩)), (5, .pointer (some ⟨p5, 0, none⟩)), (9, str (atomBits a xs)), (10, .slice (some ⟨p18, 0, none⟩) 0 0), (11, .int .i64 0)]) (Sub.cons rfl (Sub.cons rfl (Sub.cons rfl (Sub.cons rfl (Sub.cons rfl (Sub.cons rfl (Sub.cons rfl Sub.nil))))))) ?_
    refine Wk.block ?_
    refine Wk.loop (σ := Nat × List Bkt × List (List UInt8) × Nat × Nat × Array Value × List Int) (fun ⟨k, bs1, T1, g, cap, cur, L⟩ => (k : Int) ≤ a.n ∧ TabTo T bs1 T1 (k * cnt n) ∧ FoundL T1 n a xs L k ∧ cur.size = cap * 1 ∧ L.length ≤ cap ∧ cur.toList.take L.length = ints L) (fun ⟨k, bs1, T1, g, cap, cur, L⟩ => [(2, va), (3, .int .i64 ((n : Int) + 1)), (4, .pointer (some ⟨p4, 0, none⟩)), (5, .pointer (some ⟨p5, 0, none⟩)), (9, str (atomBits a xs)), (10, .slice (some ⟨g, 0, none⟩) L.length cap), (11, .int .i64 ((k : Int)))]) (fun ⟨k, bs1, T1, g, cap, cur, L⟩ => Own B w0 ((g, .cells cur 3 (0, 0)) :: (p5, .cells #[.int .i64 a.n, str a.set, str a.rel] 26 (0, 0)) :: (p4, .cells #[.slice (some ⟨q, 0, none⟩) 997 997, .slice (some ⟨c, 0, none⟩) 1 1] 71 (0, 0)) :: (q, .cells ((bs1.map bktV).toArray) 114 (0, 0)) :: (c, .cells #[.int .i64 ((T1.length : Int))] 3 (0, 0)) :: ((blks 116 bs1 ++ hs)))) (fun ⟨k, bs1, T1, g, cap, cur, L⟩ => (a.n - k).toNat) ((0, bs, T, p18, 0, #[], [])) ⟨by omega, ⟨hT, List.prefix_refl _, by omega⟩, FoundL.zero, rfl, Nat.le_refl _, rfl⟩ (Sub.cons rfl (Sub.cons rfl (Sub.cons rfl (Sub.cons rfl (Sub.cons rfl (Sub.cons rfl (Sub.cons rfl Sub.nil))))))) (fun _ h => h) ?_
    rintro ⟨k, bs1, T1, g, cap, cur, L⟩ ⟨hk, hTT, hF, hc, hle, ht⟩
    dsimp only
    have hFl := hF.len
    have hTl := hTT.len
    have hk8 := cnt_le k n (by omega)
    refine Wk.seq ?_
    refine Wk.seq ?_
    refine Wk.regionQ ?_
    refine Lq.op (v := .int .i64 ((k : Int))) rfl rfl rfl (OpQ.move rfl rfl) ?_
    refine Lq.op (v := .pointer (some ⟨p5, 0, none⟩)) rfl rfl rfl (OpQ.fieldAddr rfl Tryd.runUnderlying26 rfl Tryd.sizeOf3 rfl rfl) ?_
    refine Lq.op (v := .int .i64 a.n) rfl rfl rfl (OpQ.loadOwn 1 rfl Tryd.isAgg3 rfl rfl rfl) ?_
    refine Lq.op (v := .bool (decide (((k : Int)) < a.n))) rfl rfl rfl (OpQ.lss rfl rfl rfl) ?_
    refine Lq.nil ?_
    refine Kt.onSub (e' := [(2, va), (3, .int .i64 ((n : Int) + 1)), (4, .pointer (some ⟨p4, 0, none⟩)), (5, .pointer (some ⟨p5, 0, none⟩)), (9, str (atomBits a xs)), (10, .slice (some ⟨g, 0, none⟩) L.length cap), (11, .int .i64 ((k : Int))), (22, .bool (decide (((k : Int)) < a.n)))]) (Sub.cons rfl (Sub.cons rfl (Sub.cons rfl (Sub.cons rfl (Sub.cons rfl (Sub.cons rfl (Sub.cons rfl (Sub.cons rfl Sub.nil)))))))) ?_
    refine Wk.cond (b := decide (((k : Int)) < a.n)) rfl (fun h22 => ?_) (fun h22 => ?_)
    · skip
      replace h22 := of_decide_eq_true h22
      have hx : a.El k := ⟨by omega, by omega⟩
      have hk8b := cnt_le (k + 1) n (by omega)
      rw [Nat.add_mul, Nat.one_mul] at hk8b
      refine Wk.skip ?_
      refine Kt.onSub (e' := [(2, va), (3, .int .i64 ((n : Int) + 1)), (4, .pointer (some ⟨p4, 0, none⟩)), (5, .pointer (some ⟨p5, 0, none⟩)), (9, str (atomBits a xs)), (10, .slice (some ⟨g, 0, none⟩) L.length cap), (11, .int .i64 ((k : Int)))]) (Sub.cons rfl (Sub.cons rfl (Sub.cons rfl (Sub.cons rfl (Sub.cons rfl (Sub.cons rfl (Sub.cons rfl Sub.nil))))))) ?_
      refine Wk.seq ?_
      refine Wk.block ?_
      refine Wk.regionS (S := Own B w0 [(p5, .cells #[.int .i64 a.n, str a.set, str a.rel] 26 (0, 0)), (p4, .cells #[.slice (some ⟨q, 0, none⟩) 997 997, .slice (some ⟨c, 0, none⟩) 1 1] 71 (0, 0))]) [(0, true), (1, true), (2, true), (3, true), (4, true), (6, true), (7, true), (5, false), (8, false), (9, false), (10, true)] Base.mixed (fun _ h => h.drawn) (by kernel_rfl) ?_
      refine Ld.take (v := .slice (some ⟨g, 0, none⟩) L.length cap) rfl rfl rfl rfl rfl (OpQ.move rfl rfl) (fun _ h => h.pick [1, 2] rfl (by decide)) ?_
      refine Ld.take (v := .agg #[.slice (some ⟨q, 0, none⟩) 997 997, .slice (some ⟨c, 0, none⟩) 1 1]) rfl rfl rfl rfl rfl (OpQ.loadBox (cs := #[.slice (some ⟨q, 0, none⟩) 997 997, .slice (some ⟨c, 0, none⟩) 1 1]) 1 rfl Tryd.isAgg71 rfl rfl Tryd.sizeOf71) (fun _ h => h.pick [1, 2] rfl (by decide)) ?_
      refine Ld.take (v := vS a) rfl rfl rfl rfl rfl (OpQ.loadBox (cs := #[.int .i64 a.n, str a.set, str a.rel]) 0 rfl Tryd.isAgg26 rfl rfl Tryd.sizeOf26) (fun _ h => h.pick [1, 2] rfl (by decide)) ?_
      refine Ld.take (v := va) rfl rfl rfl rfl rfl (OpQ.move rfl rfl) (fun _ h => h.pick [1, 2] rfl (by decide)) ?_
      refine Ld.take (v := .int .i64 ((k : Int))) rfl rfl rfl rfl rfl (OpQ.move rfl rfl) (fun _ h => h.pick [1, 2] rfl (by decide)) ?_
      refine Ld.take (v := .int .i64 ((n : Int) + 1)) rfl rfl rfl rfl rfl (OpQ.move rfl rfl) (fun _ h => h.pick [1, 2] rfl (by decide)) ?_
      refine Ld.take (v := .int .i64 ((n : Int))) rfl rfl rfl rfl rfl (OpQ.cast (by congr 1; omega) (OpQ.sub rfl rfl rfl (by omega) (by omega))) (fun _ h => h.pick [1, 2] rfl (by decide)) ?_
      refine Ld.loud rfl ?_
      refine Ll.callRow (xs := [.tmp 28, .tmp 29]) (m := (xs ++ [(k : Int)]).length) (vs := ints (xs ++ [(k : Int)])) (el := 3) (size := 1) rfl rfl rfl rfl Tryd.call92 rfl (fun w1 hw1 => l4With_ok va xs ((k : Int)) w1 (hva _ (Own.drop (f := (g, .cells cur 3 (0, 0)) :: (p5, .cells #[.int .i64 a.n, str a.set, str a.rel] 26 (0, 0)) :: (p4, .cells #[.slice (some ⟨q, 0, none⟩) 997 997, .slice (some ⟨c, 0, none⟩) 1 1] 71 (0, 0)) :: (q, .cells ((bs1.map bktV).toArray) 114 (0, 0)) :: (c, .cells #[.int .i64 ((T1.length : Int))] 3 (0, 0)) :: blks 116 (bs1)) hw1)) (by omega)) fun p30 cap30 cur30 hp30 hcp30 hlp30 htp30 => ?_
      refine Ll.nil (Ld.joint (fun _ h => h.pick [2, 3] rfl (by decide)) ?_)
      refine Ld.loud rfl ?_
      refine Ll.callTab (S := 114) (I := 3) (E := 116) (q := q) (c := c) (bs := bs1) (T := T1) (hs := hs) (ok := fun m bs' T' => TabTo T1 bs' T' (cnt n) ∧ Means T' n a (xs ++ [(k : Int)]) m) (xs := [.tmp 26, .tmp 27, .tmp 30, .tmp 32]) (vs := [.agg #[.slice (some ⟨q, 0, none⟩) 997 997, .slice (some ⟨c, 0, none⟩) 1 1], vS a, .slice (some ⟨p30, 0, none⟩) ((xs ++ [(k : Int)]).length) cap30, .int .i64 ((n : Int))]) [(p30, .cells cur30 3 (0, 0)), (g, .cells cur 3 (0, 0)), (p5, .cells #[.int .i64 a.n, str a.set, str a.rel] 26 (0, 0)), (p4, .cells #[.slice (some ⟨q, 0, none⟩) 997 997, .slice (some ⟨c, 0, none⟩) 1 1] 71 (0, 0))] rfl rfl rfl rfl Tryd.call68 rfl (fun w1 hw1 => ih B w0 ([(p30, .cells cur30 3 (0, 0)), (g, .cells cur 3 (0, 0)), (p5, .cells #[.int .i64 a.n, str a.set, str a.rel] 26 (0, 0)), (p4, .cells #[.slice (some ⟨q, 0, none⟩) 997 997, .slice (some ⟨c, 0, none⟩) 1 1] 71 (0, 0))] ++ hs) q c bs1 T1 a (.slice (some ⟨p30, 0, none⟩) ((xs ++ [(k : Int)]).length) cap30) (xs ++ [(k : Int)]) w1 hTT.ok ha (fun w2 hw2 => (Own.row hw2 (i := 0) rfl (by simpa using htp30) (by simp) hlp30)) (els_more hA hx) (by first | (simp; done) | (simp; omega) | omega) (by omega) hw1) fun m bs_ T_ hKm => ?_
      show Ll _ _ (Own _ _ ((p30, .cells cur30 3 (0, 0)) :: (g, .cells cur 3 (0, 0)) :: (p5, .cells #[.int .i64 a.n, str a.set, str a.rel] 26 (0, 0)) :: (p4, .cells #[.slice (some ⟨q, 0, none⟩) 997 997, .slice (some ⟨c, 0, none⟩) 1 1] 71 (0, 0)) :: (q, .cells ((bs_.map bktV).toArray) 114 (0, 0)) :: (c, .cells #[.int .i64 ((T_.length : Int))] 3 (0, 0)) :: ((blks 116 bs_ ++ hs)))) _ _ ((33, .int .i64 ((m : Int))) :: _) _ _ _
      refine Ll.nil (Ld.joint (fun _ h => h.pick [2, 3] rfl (by decide)) ?_)
      refine Ld.loud rfl ?_
      refine Ll.callGet (σ := Nat × Nat × Array Value) (ok := fun (g, c', u) => u.size = c' * 1 ∧ (insS L ((m : Int))).length ≤ c' ∧ u.toList.take (insS L ((m : Int))).length = ints (insS L ((m : Int)))) (v := fun (g, c', u) => .slice (some ⟨g, 0, none⟩) (insS L ((m : Int))).length c') (xs := [.tmp 25, .tmp 33]) (vs := [.slice (some ⟨g, 0, none⟩) L.length cap, .int .i64 ((m : Int))]) (hs' := fun (g, c', u) => ((p30, .cells cur30 3 (0, 0)) :: (g, .cells u 3 (0, 0)) :: (p5, .cells #[.int .i64 a.n, str a.set, str a.rel] 26 (0, 0)) :: (p4, .cells #[.slice (some ⟨q, 0, none⟩) 997 997, .slice (some ⟨c, 0, none⟩) 1 1] 71 (0, 0)) :: (q, .cells ((bs_.map bktV).toArray) 114 (0, 0)) :: (c, .cells #[.int .i64 ((T_.length : Int))] 3 (0, 0)) :: ((blks 116 bs_ ++ hs)))) rfl rfl rfl rfl Tryd.call67 rfl (fun w1 hw1 => (l5Insert_ok _ _ _ g cap cur L ((m : Int)) w1 hc hle ht (by omega) (hw1.perm (perm_back [(p30, .cells cur30 3 (0, 0))] [_] _))).mono fun en w' ⟨g', cap', cur', h1, h2, h3⟩ => ⟨(g', cap', cur'), h1, h2, h3.perm (perm_back [_] [(p30, .cells cur30 3 (0, 0))] _)⟩) fun ⟨g_, cap_, cur_⟩ ⟨hcg_, hlg_, htg_⟩ => ?_
      show Ll _ _ (Own _ _ ((p30, .cells cur30 3 (0, 0)) :: (g_, .cells cur_ 3 (0, 0)) :: (p5, .cells #[.int .i64 a.n, str a.set, str a.rel] 26 (0, 0)) :: (p4, .cells #[.slice (some ⟨q, 0, none⟩) 997 997, .slice (some ⟨c, 0, none⟩) 1 1] 71 (0, 0)) :: (q, .cells ((bs_.map bktV).toArray) 114 (0, 0)) :: (c, .cells #[.int .i64 ((T_.length : Int))] 3 (0, 0)) :: ((blks 116 bs_ ++ hs)))) _ _ ((34, .slice (some ⟨g_, 0, none⟩) ((insS L ((m : Int))).length) cap_) :: _) _ _ _
      refine Ll.nil (Ld.joint (fun _ h => h.pick [2, 3] rfl (by decide)) ?_)
      refine Ld.take (v := .slice (some ⟨g_, 0, none⟩) ((insS L ((m : Int))).length) cap_) rfl rfl rfl rfl rfl (OpQ.assign rfl rfl) (fun _ h => h.pick [2, 3] rfl (by decide)) ?_
      refine Ld.nil ?_
      refine Kt.onSub (e' := [(2, va), (3, .int .i64 ((n : Int) + 1)), (4, .pointer (some ⟨p4, 0, none⟩)), (5, .pointer (some ⟨p5, 0, none⟩)), (9, str (atomBits a xs)), (10, .slice (some ⟨g_, 0, none⟩) ((insS L ((m : Int))).length) cap_), (11, .int .i64 ((k : Int)))]) (Sub.cons rfl (Sub.cons rfl (Sub.cons rfl (Sub.cons rfl (Sub.cons rfl (Sub.cons rfl (Sub.cons rfl Sub.nil))))))) ?_
      refine Wk.regionQ ?_
      refine Lq.op (v := .int .i64 ((k : Int))) rfl rfl rfl (OpQ.move rfl rfl) ?_
      refine Lq.op (v := .int .i64 (((k : Int)) + (1 : Int))) rfl rfl rfl (OpQ.add rfl rfl rfl (by omega) (by omega)) ?_
      refine Lq.op (v := .int .i64 (((k : Int)) + (1 : Int))) rfl rfl rfl (OpQ.assign rfl rfl) ?_
      refine Lq.nil ?_
      refine Kt.again ((k + 1, bs_, T_, g_, cap_, cur_, (insS L ((m : Int))))) ⟨by omega, hTT.trans hKm.1 (by rw [Nat.add_mul, Nat.one_mul]; exact Nat.le_refl _), hF.step hKm.1.pre hKm.2, hcg_, hlg_, htg_⟩ (by omega) (Sub.cons rfl (Sub.cons rfl (Sub.cons rfl (Sub.cons rfl (Sub.cons rfl (Sub.cons rfl (Sub.cons rfl Sub.nil))))))) (fun _ h => h.tail)
    · skip
      replace h22 := of_decide_eq_false h22
      have hsm := hF.small (by omega)
      refine Wk.exit rfl ?_
      refine Kt.onSub (e' := [(3, .int .i64 ((n : Int) + 1)), (4, .pointer (some ⟨p4, 0, none⟩)), (9, str (atomBits a xs)), (10, .slice (some ⟨g, 0, none⟩) L.length cap)]) (Sub.cons rfl (Sub.cons rfl (Sub.cons rfl (Sub.cons rfl Sub.nil)))) ?_
      refine Wk.seq ?_
      refine Wk.regionQ ?_
      refine Lq.op (v := .int .i64 0) rfl rfl rfl (OpQ.assign rfl rfl) ?_
      refine Lq.nil ?_
      refine Kt.onSub (e' := [(3, .int .i64 ((n : Int) + 1)), (4, .pointer (some ⟨p4, 0, none⟩)), (9, str (atomBits a xs)), (10, .slice (some ⟨g, 0, none⟩) L.length cap), (12, .int .i64 0)]) (Sub.cons rfl (Sub.cons rfl (Sub.cons rfl (Sub.cons rfl (Sub.cons rfl Sub.nil))))) ?_
      refine Wk.block ?_
      refine Wk.loop (σ := Nat) (fun i => i ≤ L.length) (fun i => [(3, .int .i64 ((n : Int) + 1)), (4, .pointer (some ⟨p4, 0, none⟩)), (9, str (atomBits a xs ++ commas (L.take i))), (10, .slice (some ⟨g, 0, none⟩) L.length cap), (12, .int .i64 ((i : Int)))]) (fun i => Own B w0 ((g, .cells cur 3 (0, 0)) :: (p5, .cells #[.int .i64 a.n, str a.set, str a.rel] 26 (0, 0)) :: (p4, .cells #[.slice (some ⟨q, 0, none⟩) 997 997, .slice (some ⟨c, 0, none⟩) 1 1] 71 (0, 0)) :: (q, .cells ((bs1.map bktV).toArray) 114 (0, 0)) :: (c, .cells #[.int .i64 ((T1.length : Int))] 3 (0, 0)) :: ((blks 116 bs1 ++ hs)))) (fun i => L.length - i) (0) (by omega) (Sub.cons rfl (Sub.cons rfl (Sub.cons (by simp [commas, List.lookup]) (Sub.cons rfl (Sub.cons rfl Sub.nil))))) (fun _ h => h) ?_
      rintro i hi
      refine Wk.seq ?_
      refine Wk.seq ?_
      refine Wk.regionQ ?_
      refine Lq.op (v := .int .i64 ((i : Int))) rfl rfl rfl (OpQ.move rfl rfl) ?_
      refine Lq.op (v := .slice (some ⟨g, 0, none⟩) L.length cap) rfl rfl rfl (OpQ.move rfl rfl) ?_
      refine Lq.op (v := .int .i64 ((L.length : Int))) rfl rfl rfl (OpQ.lenS rfl Tryd.runUnderlying31 rfl) ?_
      refine Lq.op (v := .bool (decide (((i : Int)) < ((L.length : Int))))) rfl rfl rfl (OpQ.lss rfl rfl rfl) ?_
      refine Lq.nil ?_
      refine Kt.onSub (e' := [(3, .int .i64 ((n : Int) + 1)), (4, .pointer (some ⟨p4, 0, none⟩)), (9, str (atomBits a xs ++ commas (L.take i))), (10, .slice (some ⟨g, 0, none⟩) L.length cap), (12, .int .i64 ((i : Int))), (38, .bool (decide (((i : Int)) < ((L.length : Int)))))]) (Sub.cons rfl (Sub.cons rfl (Sub.cons rfl (Sub.cons rfl (Sub.cons rfl (Sub.cons rfl Sub.nil)))))) ?_
      refine Wk.cond (b := decide (((i : Int)) < ((L.length : Int)))) rfl (fun h38 => ?_) (fun h38 => ?_)
      · skip
        replace h38 := of_decide_eq_true h38
        have hct := commas_take (i := i) hsm (by omega)
        obtain ⟨hs0, hs1⟩ := at_small hsm (i := i) (by omega)
        have hdi := decS_len (L.getD i 0).toNat 12 (show _ < 1000000000000 by omega) (by decide)
        refine Wk.skip ?_
        refine Kt.onSub (e' := [(3, .int .i64 ((n : Int) + 1)), (4, .pointer (some ⟨p4, 0, none⟩)), (9, str (atomBits a xs ++ commas (L.take i))), (10, .slice (some ⟨g, 0, none⟩) L.length cap), (12, .int .i64 ((i : Int)))]) (Sub.cons rfl (Sub.cons rfl (Sub.cons rfl (Sub.cons rfl (Sub.cons rfl Sub.nil))))) ?_
        refine Wk.seq ?_
        refine Wk.block ?_
        refine Wk.regionQ ?_
        refine Lq.op (v := str (atomBits a xs ++ commas (L.take i))) rfl rfl rfl (OpQ.move rfl rfl) ?_
        refine Lq.op (v := str ((atomBits a xs ++ commas (L.take i)) ++ ([44]))) rfl rfl rfl (OpQ.sadd rfl rfl rfl (by simp only [List.length_append, List.length_cons, List.length_nil]; omega)) ?_
        refine Lq.op (v := .slice (some ⟨g, 0, none⟩) L.length cap) rfl rfl rfl (OpQ.move rfl rfl) ?_
        refine Lq.op (v := .int .i64 ((i : Int))) rfl rfl rfl (OpQ.move rfl rfl) ?_
        refine Lq.op (v := .pointer (some ⟨g, i, none⟩)) rfl rfl rfl (OpQ.cast (by simp) (OpQ.indexAddr1 rfl Tryd.runUnderlying31 Tryd.sizeOf3 rfl rfl (by omega) (by omega))) ?_
        refine Lq.op (v := .int .i64 (L.getD (i) 0)) rfl rfl rfl (OpQ.loadAt 0 rfl Tryd.isAgg3 rfl rfl (cur_at ht (ints_at2 (by omega)))) ?_
        refine Lq.op (v := str (decS (L.getD (i) 0).toNat)) rfl rfl rfl (OpQ.call rfl Tryd.call104 rfl Own.stable (fun w1 hw1 => l15Dec_ok (L.getD (i) 0) w1 (by omega) (by omega))) ?_
        refine Lq.op (v := str (((atomBits a xs ++ commas (L.take i)) ++ ([44])) ++ (decS (L.getD (i) 0).toNat))) rfl rfl rfl (OpQ.sadd rfl rfl rfl (by simp only [List.length_append, List.length_cons, List.length_nil, Int.toNat_natCast] at *; omega)) ?_
        refine Lq.op (v := str (((atomBits a xs ++ commas (L.take i)) ++ ([44])) ++ (decS (L.getD (i) 0).toNat))) rfl rfl rfl (OpQ.assign rfl rfl) ?_
        refine Lq.nil ?_
        refine Kt.onSub (e' := [(3, .int .i64 ((n : Int) + 1)), (4, .pointer (some ⟨p4, 0, none⟩)), (9, str (((atomBits a xs ++ commas (L.take i)) ++ ([44])) ++ (decS (L.getD (i) 0).toNat))), (10, .slice (some ⟨g, 0, none⟩) L.length cap), (12, .int .i64 ((i : Int)))]) (Sub.cons rfl (Sub.cons rfl (Sub.cons rfl (Sub.cons rfl (Sub.cons rfl Sub.nil))))) ?_
        refine Wk.regionQ ?_
        refine Lq.op (v := .int .i64 ((i : Int))) rfl rfl rfl (OpQ.move rfl rfl) ?_
        refine Lq.op (v := .int .i64 (((i : Int)) + (1 : Int))) rfl rfl rfl (OpQ.add rfl rfl rfl (by omega) (by omega)) ?_
        refine Lq.op (v := .int .i64 (((i : Int)) + (1 : Int))) rfl rfl rfl (OpQ.assign rfl rfl) ?_
        refine Lq.nil ?_
        refine Kt.again (i + 1) (by omega) (by omega) (Sub.cons rfl (Sub.cons rfl (Sub.cons (by rw [commas_step (by omega)]; rfl) (Sub.cons rfl (Sub.cons rfl Sub.nil))))) (fun _ h => h)
      · skip
        replace h38 := of_decide_eq_false h38
        obtain rfl : i = L.length := by omega
        rw [List.take_length]
        have hcl := commas_len hsm
        refine Wk.exit rfl ?_
        refine Kt.onSub (e' := [(3, .int .i64 ((n : Int) + 1)), (4, .pointer (some ⟨p4, 0, none⟩)), (9, str (atomBits a xs ++ commas L))]) (Sub.cons rfl (Sub.cons rfl (Sub.cons rfl Sub.nil))) ?_
        refine Wk.seq ?_
        refine Wk.regionS (S := Own B w0 [(g, .cells cur 3 (0, 0)), (p5, .cells #[.int .i64 a.n, str a.set, str a.rel] 26 (0, 0)), (p4, .cells #[.slice (some ⟨q, 0, none⟩) 997 997, .slice (some ⟨c, 0, none⟩) 1 1] 71 (0, 0))]) [(0, true), (1, true), (4, true), (2, false), (3, true), (5, true), (6, false), (7, true)] Base.mixed (fun _ h => h.drawn) (by kernel_rfl) ?_
        refine Ld.take (v := .agg #[.slice (some ⟨q, 0, none⟩) 997 997, .slice (some ⟨c, 0, none⟩) 1 1]) rfl rfl rfl rfl rfl (OpQ.loadBox (cs := #[.slice (some ⟨q, 0, none⟩) 997 997, .slice (some ⟨c, 0, none⟩) 1 1]) 2 rfl Tryd.isAgg71 rfl rfl Tryd.sizeOf71) (fun _ h => h.pick [0, 1, 2] rfl (by decide)) ?_
        refine Ld.take (v := .int .i64 ((n : Int) + 1)) rfl rfl rfl rfl rfl (OpQ.move rfl rfl) (fun _ h => h.pick [0, 1, 2] rfl (by decide)) ?_
        refine Ld.take (v := str (atomBits a xs ++ commas L)) rfl rfl rfl rfl rfl (OpQ.move rfl rfl) (fun _ h => h.pick [0, 1, 2] rfl (by decide)) ?_
        refine Ld.loud rfl ?_
        refine Ll.op (v := str (decS (n + 1))) rfl rfl rfl (OpQ.cast (by rw [show ((n : Int) + 1).toNat = n + 1 from by omega]) (OpQ.call rfl Tryd.call104 rfl Own.stable (fun w1 hw1 => l15Dec_ok ((n : Int) + 1) w1 (by omega) (by omega)))) ?_
        refine Ll.nil (Ld.joint (fun _ h => h.pick [0, 1, 2] rfl (by decide)) ?_)
        refine Ld.take (v := str ((decS (n + 1)) ++ ([58]))) rfl rfl rfl rfl rfl (OpQ.sadd rfl rfl rfl (by simp only [List.length_append, List.length_cons, List.length_nil]; omega)) (fun _ h => h.pick [0, 1, 2] rfl (by decide)) ?_
        refine Ld.take (v := str (((decS (n + 1)) ++ ([58])) ++ (atomBits a xs ++ commas L))) rfl rfl rfl rfl rfl (OpQ.sadd rfl rfl rfl (by simp only [List.length_append, List.length_cons, List.length_nil]; omega)) (fun _ h => h.pick [0, 1, 2] rfl (by decide)) ?_
        refine Ld.loud rfl ?_
        refine Ll.callTab (S := 114) (I := 3) (E := 116) (q := q) (c := c) (bs := bs1) (T := T1) (hs := hs) (ok := fun m bs' T' => TabTo T1 bs' T' 1 ∧ T'[m]? = some (((decS (n + 1)) ++ ([58])) ++ (atomBits a xs ++ commas L))) (xs := [.tmp 49, .tmp 54]) (vs := [.agg #[.slice (some ⟨q, 0, none⟩) 997 997, .slice (some ⟨c, 0, none⟩) 1 1], str (((decS (n + 1)) ++ ([58])) ++ (atomBits a xs ++ commas L))]) [(g, .cells cur 3 (0, 0)), (p5, .cells #[.int .i64 a.n, str a.set, str a.rel] 26 (0, 0)), (p4, .cells #[.slice (some ⟨q, 0, none⟩) 997 997, .slice (some ⟨c, 0, none⟩) 1 1] 71 (0, 0))] rfl rfl rfl rfl Tryd.call105 rfl (fun w1 hw1 => number_ok B w0 ([(g, .cells cur 3 (0, 0)), (p5, .cells #[.int .i64 a.n, str a.set, str a.rel] 26 (0, 0)), (p4, .cells #[.slice (some ⟨q, 0, none⟩) 997 997, .slice (some ⟨c, 0, none⟩) 1 1] 71 (0, 0))] ++ hs) q c bs1 T1 (((decS (n + 1)) ++ ([58])) ++ (atomBits a xs ++ commas L)) w1 hTT.ok (by omega) (by simp only [List.length_append, List.length_cons, List.length_nil]; omega) hw1) fun m_1 bs__1 T__1 hKm_1 => ?_
        show Ll _ _ (Own _ _ ((g, .cells cur 3 (0, 0)) :: (p5, .cells #[.int .i64 a.n, str a.set, str a.rel] 26 (0, 0)) :: (p4, .cells #[.slice (some ⟨q, 0, none⟩) 997 997, .slice (some ⟨c, 0, none⟩) 1 1] 71 (0, 0)) :: (q, .cells ((bs__1.map bktV).toArray) 114 (0, 0)) :: (c, .cells #[.int .i64 ((T__1.length : Int))] 3 (0, 0)) :: ((blks 116 bs__1 ++ hs)))) _ _ ((55, .int .i64 ((m_1 : Int))) :: _) _ _ _
        refine Ll.nil (Ld.joint (fun _ h => h.pick [0, 1, 2] rfl (by decide)) ?_)
        refine Ld.take (v := .int .i64 ((m_1 : Int))) rfl rfl rfl rfl rfl (OpQ.assign rfl rfl) (fun _ h => h.pick [0, 1, 2] rfl (by decide)) ?_
        refine Ld.nil ?_
        refine Kt.onSub (e' := [(8, .int .i64 ((m_1 : Int)))]) (Sub.cons rfl Sub.nil) ?_
        refine Wk.ret (Kt.end1 rfl rfl fun w' hw => ?_)
        -- ret 0: .int .i64 ((m_1 : Int))
        obtain rfl : k = a.n.toNat := by omega
        exact ⟨m_1, bs__1, T__1, rfl, ⟨hTT.trans hKm_1.1 (by rw [cnt_succ]; omega), hF.means hKm_1.1.pre hKm_1.2⟩, hw.drop (f := [(g, .cells cur 3 (0, 0)), (p5, .cells #[.int .i64 a.n, str a.set, str a.rel] 26 (0, 0)), (p4, .cells #[.slice (some ⟨q, 0, none⟩) 997 997, .slice (some ⟨c, 0, none⟩) 1 1] 71 (0, 0))])⟩
  · skip
    replace h17 := of_decide_eq_false h17
    exact absurd h17 (by omega)

theorem type_ok : ∀ n : Nat, ∀ (B : Nat) (w0 : World) (hs : List (Nat × Obj)) (q c : Nat) (bs : List Bkt) (T : List (List UInt8)) (a : St) (va : Value) (xs : List Int) (w : World), TabOk bs T → a.Fine → (∀ w, Own B w0 hs w → Ints w va xs) → a.Els xs → xs.length + n ≤ 7 → T.length + cnt n ≤ 1000000 → Own B w0 (tabL 114 3 116 q c bs T ++ hs) w → Calls Tryd.prog 68 #[.agg #[.slice (some ⟨q, 0, none⟩) 997 997, .slice (some ⟨c, 0, none⟩) 1 1], vS a, va, .int .i64 (n : Int)] w fun en w' => ∃ (m : Nat) (bs' : List Bkt) (T' : List (List UInt8)), en = .returned (.int .i64 (m : Int)) ∧ (TabTo T bs' T' (cnt n) ∧ Means T' n a xs m) ∧ Own B w0 (tabL 114 3 116 q c bs' T' ++ hs) w'
  | 0 => fun B w0 hs q c bs T a va xs w hT ha hva hA h7 hcap hw => type_zero B w0 hs q c bs T a va xs w hT ha hva hA h7 hcap hw
  | n + 1 => fun B w0 hs q c bs T a va xs w hT ha hva hA h7 hcap hw => type_of n (type_ok n) B w0 hs q c bs T a va xs w hT ha hva hA h7 hcap hw
theorem type_at (r : Int) (h0 : 0 ≤ r) : ∀ (B : Nat) (w0 : World) (hs : List (Nat × Obj)) (q c : Nat) (bs : List Bkt) (T : List (List UInt8)) (a : St) (va : Value) (xs : List Int) (w : World), TabOk bs T → a.Fine → (∀ w, Own B w0 hs w → Ints w va xs) → a.Els xs → xs.length + r.toNat ≤ 7 → T.length + cnt r.toNat ≤ 1000000 → Own B w0 (tabL 114 3 116 q c bs T ++ hs) w → Calls Tryd.prog 68 #[.agg #[.slice (some ⟨q, 0, none⟩) 997 997, .slice (some ⟨c, 0, none⟩) 1 1], vS a, va, .int .i64 r] w fun en w' => ∃ (m : Nat) (bs' : List Bkt) (T' : List (List UInt8)), en = .returned (.int .i64 (m : Int)) ∧ (TabTo T bs' T' (cnt r.toNat) ∧ Means T' r.toNat a xs m) ∧ Own B w0 (tabL 114 3 116 q c bs' T' ++ hs) w' := by
  have h := type_ok r.toNat
  rw [Int.toNat_of_nonneg h0] at h
  exact h

set_option maxHeartbeats 400000 in
/-- spec.l5Wins -/
theorem l5Wins_ok (a b : St) (xs ys : List Int) (va vb : Value) (w : World) (ha : a.Fine) (hb : b.Fine) (hva : Ints w va xs) (hvb : Ints w vb ys) (hA : a.Els xs) (hB : b.Els ys) (hlen : xs.length = ys.length) (h4 : xs.length ≤ 4) (r : Int) (h0 : 0 ≤ r) (h3 : r ≤ 3) :
    Calls Tryd.prog 61 [vS a, va, vS b, vb, .int .i64 r].toArray w fun en w' => en = .returned (.bool (winB r.toNat a xs b ys)) ∧ Below w.heap.size w w' := by
  refine fnStart (n := 24) (e := [(0, vS a), (1, va), (2, vS b), (3, vb), (4, .int .i64 r)]) Tryd.func61 rfl rfl rfl rfl Ends.both ?_
  have hcn := cnt_small (n := r.toNat) (by omega)
  refine Wk.seq ?_
  refine Wk.region ?_
  refine Ll.box (v := vS a) rfl rfl rfl rfl rfl fun p5 hp5 => ?_
  show Ll _ _ (Own _ _ [(p5, .cells #[.int .i64 a.n, str a.set, str a.rel] 26 (0, 0))]) _ _ ((5, .pointer (some ⟨p5, 0, none⟩)) :: _) _ _ _
  refine Ll.box (v := vS b) rfl rfl rfl rfl rfl fun p7 hp7 => ?_
  show Ll _ _ (Own _ _ [(p7, .cells #[.int .i64 b.n, str b.set, str b.rel] 26 (0, 0)), (p5, .cells #[.int .i64 a.n, str a.set, str a.rel] 26 (0, 0))]) _ _ ((7, .pointer (some ⟨p7, 0, none⟩)) :: _) _ _ _
  refine Ll.op (v := .bool false) rfl rfl rfl (OpQ.assign rfl rfl) ?_
  refine Ll.nil ?_
  refine Kt.onSub (e' := [(1, va), (3, vb), (4, .int .i64 r), (5, .pointer (some ⟨p5, 0, none⟩)), (7, .pointer (some ⟨p7, 0, none⟩))]) (Sub.cons rfl (Sub.cons rfl (Sub.cons rfl (Sub.cons rfl (Sub.cons rfl Sub.nil))))) ?_
  refine Wk.seq ?_
  refine Wk.region ?_
  refine Ll.callGet (σ := Nat × Nat × List Bkt) (ok := fun s => TabOk s.2.2 []) (v := fun s => .agg #[.slice (some ⟨s.1, 0, none⟩) 997 997, .slice (some ⟨s.2.1, 0, none⟩) 1 1]) (xs := []) (vs := []) (hs' := fun s => [(p7, .cells #[.int .i64 b.n, str b.set, str b.rel] 26 (0, 0)), (p5, .cells #[.int .i64 a.n, str a.set, str a.rel] 26 (0, 0))] ++ (tabL 114 3 116 s.1 s.2.1 s.2.2 [] ++ [])) rfl rfl rfl rfl Tryd.call66 rfl (fun w1 hw1 => (l5New_ok _ _ _ w1 hw1).mono fun en w' ⟨q, c, h1, h2⟩ => ⟨(q, c, _), h1, TabOk.new, by dsimp only; rw [List.append_nil]; exact h2.perm perm_front⟩) fun ⟨q, c, bs0⟩ hT0 => ?_
  show Ll _ _ (Own _ _ ((p7, .cells #[.int .i64 b.n, str b.set, str b.rel] 26 (0, 0)) :: (p5, .cells #[.int .i64 a.n, str a.set, str a.rel] 26 (0, 0)) :: (q, .cells ((bs0.map bktV).toArray) 114 (0, 0)) :: (c, .cells #[.int .i64 (((([] : List (List UInt8))).length : Int))] 3 (0, 0)) :: ((blks 116 bs0 ++ [])))) _ _ ((12, .agg #[.slice (some ⟨q, 0, none⟩) 997 997, .slice (some ⟨c, 0, none⟩) 1 1]) :: _) _ _ _
  refine Ll.alloc rfl rfl rfl rfl Tryd.zeroValue71 fun p11 hp11 => ?_
  show Ll _ _ (Own _ _ ((p11, .cells #[.slice none 0 0, .slice none 0 0] 71 (0, 0)) :: (p7, .cells #[.int .i64 b.n, str b.set, str b.rel] 26 (0, 0)) :: (p5, .cells #[.int .i64 a.n, str a.set, str a.rel] 26 (0, 0)) :: (q, .cells ((bs0.map bktV).toArray) 114 (0, 0)) :: (c, .cells #[.int .i64 (((([] : List (List UInt8))).length : Int))] 3 (0, 0)) :: ((blks 116 bs0 ++ [])))) _ _ ((11, .pointer (some ⟨p11, 0, none⟩)) :: _) _ _ _
  refine Ll.storeBox (cs' := #[.slice (some ⟨q, 0, none⟩) 997 997, .slice (some ⟨c, 0, none⟩) 1 1]) (hs' := ((p11, .cells #[.slice (some ⟨q, 0, none⟩) 997 997, .slice (some ⟨c, 0, none⟩) 1 1] 71 (0, 0)) :: (p7, .cells #[.int .i64 b.n, str b.set, str b.rel] 26 (0, 0)) :: (p5, .cells #[.int .i64 a.n, str a.set, str a.rel] 26 (0, 0)) :: (q, .cells ((bs0.map bktV).toArray) 114 (0, 0)) :: (c, .cells #[.int .i64 (((([] : List (List UInt8))).length : Int))] 3 (0, 0)) :: ((blks 116 bs0 ++ [])))) 0 rfl rfl rfl rfl rfl (by kernel_rfl : _ = some Tryd.t71) rfl rfl rfl rfl rfl ?_
  refine Ll.nil ?_
  refine Kt.onSub (e' := [(1, va), (3, vb), (4, .int .i64 r), (5, .pointer (some ⟨p5, 0, none⟩)), (7, .pointer (some ⟨p7, 0, none⟩)), (11, .pointer (some ⟨p11, 0, none⟩))]) (Sub.cons rfl (Sub.cons rfl (Sub.cons rfl (Sub.cons rfl (Sub.cons rfl (Sub.cons rfl Sub.nil)))))) ?_
  refine Wk.seq ?_
  refine Wk.regionS (S := Own w.heap.size w [(p11, .cells #[.slice (some ⟨q, 0, none⟩) 997 997, .slice (some ⟨c, 0, none⟩) 1 1] 71 (0, 0)), (p7, .cells #[.int .i64 b.n, str b.set, str b.rel] 26 (0, 0)), (p5, .cells #[.int .i64 a.n, str a.set, str a.rel] 26 (0, 0))]) [(0, true), (1, true), (2, true), (3, true), (5, true), (6, true), (7, true), (8, true), (4, false), (9, false), (10, true), (11, true)] Base.mixed (fun _ h => h.drawn) (by kernel_rfl) ?_
  refine Ld.take (v := .agg #[.slice (some ⟨q, 0, none⟩) 997 997, .slice (some ⟨c, 0, none⟩) 1 1]) rfl rfl rfl rfl rfl (OpQ.loadBox (cs := #[.slice (some ⟨q, 0, none⟩) 997 997, .slice (some ⟨c, 0, none⟩) 1 1]) 0 rfl Tryd.isAgg71 rfl rfl Tryd.sizeOf71) (fun _ h => h.pick [0, 1, 2] rfl (by decide)) ?_
  refine Ld.take (v := vS a) rfl rfl rfl rfl rfl (OpQ.loadBox (cs := #[.int .i64 a.n, str a.set, str a.rel]) 2 rfl Tryd.isAgg26 rfl rfl Tryd.sizeOf26) (fun _ h => h.pick [0, 1, 2] rfl (by decide)) ?_
  refine Ld.take (v := va) rfl rfl rfl rfl rfl (OpQ.move rfl rfl) (fun _ h => h.pick [0, 1, 2] rfl (by decide)) ?_
  refine Ld.take (v := .int .i64 r) rfl rfl rfl rfl rfl (OpQ.move rfl rfl) (fun _ h => h.pick [0, 1, 2] rfl (by decide)) ?_
  refine Ld.take (v := .agg #[.slice (some ⟨q, 0, none⟩) 997 997, .slice (some ⟨c, 0, none⟩) 1 1]) rfl rfl rfl rfl rfl (OpQ.loadBox (cs := #[.slice (some ⟨q, 0, none⟩) 997 997, .slice (some ⟨c, 0, none⟩) 1 1]) 0 rfl Tryd.isAgg71 rfl rfl Tryd.sizeOf71) (fun _ h => h.pick [0, 1, 2] rfl (by decide)) ?_
  refine Ld.take (v := vS b) rfl rfl rfl rfl rfl (OpQ.loadBox (cs := #[.int .i64 b.n, str b.set, str b.rel]) 1 rfl Tryd.isAgg26 rfl rfl Tryd.sizeOf26) (fun _ h => h.pick [0, 1, 2] rfl (by decide)) ?_
  refine Ld.take (v := vb) rfl rfl rfl rfl rfl (OpQ.move rfl rfl) (fun _ h => h.pick [0, 1, 2] rfl (by decide)) ?_
  refine Ld.take (v := .int .i64 r) rfl rfl rfl rfl rfl (OpQ.move rfl rfl) (fun _ h => h.pick [0, 1, 2] rfl (by decide)) ?_
  refine Ld.loud rfl ?_
  refine Ll.callTab (S := 114) (I := 3) (E := 116) (q := q) (c := c) (bs := bs0) (T := (([] : List (List UInt8)))) (hs := []) (ok := fun m bs' T' => TabTo (([] : List (List UInt8))) bs' T' (cnt r.toNat) ∧ Means T' r.toNat a xs m) (xs := [.tmp 13, .tmp 14, .tmp 15, .tmp 16]) (vs := [.agg #[.slice (some ⟨q, 0, none⟩) 997 997, .slice (some ⟨c, 0, none⟩) 1 1], vS a, va, .int .i64 r]) [(p11, .cells #[.slice (some ⟨q, 0, none⟩) 997 997, .slice (some ⟨c, 0, none⟩) 1 1] 71 (0, 0)), (p7, .cells #[.int .i64 b.n, str b.set, str b.rel] 26 (0, 0)), (p5, .cells #[.int .i64 a.n, str a.set, str a.rel] 26 (0, 0))] rfl rfl rfl rfl Tryd.call68 rfl (fun w1 hw1 => type_at r h0 w.heap.size w ([(p11, .cells #[.slice (some ⟨q, 0, none⟩) 997 997, .slice (some ⟨c, 0, none⟩) 1 1] 71 (0, 0)), (p7, .cells #[.int .i64 b.n, str b.set, str b.rel] 26 (0, 0)), (p5, .cells #[.int .i64 a.n, str a.set, str a.rel] 26 (0, 0))] ++ []) q c bs0 (([] : List (List UInt8))) a va xs w1 hT0 ha (fun w2 hw2 => (Row.own hva hw2)) hA (by first | (simp; done) | (simp; omega) | omega) (by simp only [List.length_nil]; omega) hw1) fun m bs_ T_ hKm => ?_
  show Ll _ _ (Own _ _ ((p11, .cells #[.slice (some ⟨q, 0, none⟩) 997 997, .slice (some ⟨c, 0, none⟩) 1 1] 71 (0, 0)) :: (p7, .cells #[.int .i64 b.n, str b.set, str b.rel] 26 (0, 0)) :: (p5, .cells #[.int .i64 a.n, str a.set, str a.rel] 26 (0, 0)) :: (q, .cells ((bs_.map bktV).toArray) 114 (0, 0)) :: (c, .cells #[.int .i64 ((T_.length : Int))] 3 (0, 0)) :: ((blks 116 bs_ ++ [])))) _ _ ((17, .int .i64 ((m : Int))) :: _) _ _ _
  refine Ll.nil (Ld.joint (fun _ h => h.pick [0, 1, 2] rfl (by decide)) ?_)
  refine Ld.loud rfl ?_
  refine Ll.callTab (S := 114) (I := 3) (E := 116) (q := q) (c := c) (bs := bs_) (T := T_) (hs := []) (ok := fun m bs' T' => TabTo T_ bs' T' (cnt r.toNat) ∧ Means T' r.toNat b ys m) (xs := [.tmp 18, .tmp 19, .tmp 20, .tmp 21]) (vs := [.agg #[.slice (some ⟨q, 0, none⟩) 997 997, .slice (some ⟨c, 0, none⟩) 1 1], vS b, vb, .int .i64 r]) [(p11, .cells #[.slice (some ⟨q, 0, none⟩) 997 997, .slice (some ⟨c, 0, none⟩) 1 1] 71 (0, 0)), (p7, .cells #[.int .i64 b.n, str b.set, str b.rel] 26 (0, 0)), (p5, .cells #[.int .i64 a.n, str a.set, str a.rel] 26 (0, 0))] rfl rfl rfl rfl Tryd.call68 rfl (fun w1 hw1 => type_at r h0 w.heap.size w ([(p11, .cells #[.slice (some ⟨q, 0, none⟩) 997 997, .slice (some ⟨c, 0, none⟩) 1 1] 71 (0, 0)), (p7, .cells #[.int .i64 b.n, str b.set, str b.rel] 26 (0, 0)), (p5, .cells #[.int .i64 a.n, str a.set, str a.rel] 26 (0, 0))] ++ []) q c bs_ T_ b vb ys w1 hKm.1.ok hb (fun w2 hw2 => (Row.own hvb hw2)) hB (by first | (simp; done) | (simp; omega) | omega) (by have := hKm.1.len; simp only [List.length_nil] at this; omega) hw1) fun m_1 bs__1 T__1 hKm_1 => ?_
  show Ll _ _ (Own _ _ ((p11, .cells #[.slice (some ⟨q, 0, none⟩) 997 997, .slice (some ⟨c, 0, none⟩) 1 1] 71 (0, 0)) :: (p7, .cells #[.int .i64 b.n, str b.set, str b.rel] 26 (0, 0)) :: (p5, .cells #[.int .i64 a.n, str a.set, str a.rel] 26 (0, 0)) :: (q, .cells ((bs__1.map bktV).toArray) 114 (0, 0)) :: (c, .cells #[.int .i64 ((T__1.length : Int))] 3 (0, 0)) :: ((blks 116 bs__1 ++ [])))) _ _ ((22, .int .i64 ((m_1 : Int))) :: _) _ _ _
  refine Ll.nil (Ld.joint (fun _ h => h.pick [0, 1, 2] rfl (by decide)) ?_)
  refine Ld.take (v := .bool (decide (((m : Int)) = ((m_1 : Int))))) rfl rfl rfl rfl rfl (OpQ.eql rfl rfl rfl) (fun _ h => h.pick [0, 1, 2] rfl (by decide)) ?_
  refine Ld.take (v := .bool (decide (((m : Int)) = ((m_1 : Int))))) rfl rfl rfl rfl rfl (OpQ.assign rfl rfl) (fun _ h => h.pick [0, 1, 2] rfl (by decide)) ?_
  refine Ld.nil ?_
  refine Kt.onSub (e' := [(10, .bool (decide (((m : Int)) = ((m_1 : Int)))))]) (Sub.cons rfl Sub.nil) ?_
  refine Wk.ret (Kt.end1 rfl rfl fun w' hw => ?_)
  -- ret 0: .bool (decide (((m : Int)) = ((m_1 : Int))))
  exact ⟨ret_b (winB_eq hKm_1.1.ok.nodup hlen (hKm.2.mono hKm_1.1.pre _ _ _ _) hKm_1.2), hw.below⟩

set_option maxHeartbeats 400000 in
/-- spec.l5Ready -/
theorem l5Ready_ok (a b : St) (xs ys : List Int) (va vb : Value) (w : World) (hsa : a.Small) (hsb : b.Small) (hva : Ints w va xs) (hvb : Ints w vb ys) (hs1 : xs.length ≤ 140737488355328) (hs2 : ys.length ≤ 140737488355328) (loa : -9223372036854775808 ≤ a.n) (hia : a.n ≤ 9223372036854775807) (lob : -9223372036854775808 ≤ b.n) (hib : b.n ≤ 9223372036854775807) (r : Int) :
    Calls Tryd.prog 60 [vS a, va, vS b, vb, .int .i64 r].toArray w fun en w' => en = .returned (.bool (gameB a xs b ys r)) ∧ Below w.heap.size w w' := by
  refine fnStart (n := 20) (e := [(0, vS a), (1, va), (2, vS b), (3, vb), (4, .int .i64 r)]) Tryd.func60 rfl rfl rfl rfl Ends.both ?_
  refine Wk.seq ?_
  refine Wk.region ?_
  refine Ll.box (v := vS a) rfl rfl rfl rfl rfl fun p5 hp5 => ?_
  show Ll _ _ (Own _ _ [(p5, .cells #[.int .i64 a.n, str a.set, str a.rel] 26 (0, 0))]) _ _ ((5, .pointer (some ⟨p5, 0, none⟩)) :: _) _ _ _
  refine Ll.box (v := vS b) rfl rfl rfl rfl rfl fun p7 hp7 => ?_
  show Ll _ _ (Own _ _ [(p7, .cells #[.int .i64 b.n, str b.set, str b.rel] 26 (0, 0)), (p5, .cells #[.int .i64 a.n, str a.set, str a.rel] 26 (0, 0))]) _ _ ((7, .pointer (some ⟨p7, 0, none⟩)) :: _) _ _ _
  refine Ll.op (v := .bool false) rfl rfl rfl (OpQ.assign rfl rfl) ?_
  refine Ll.nil ?_
  refine Kt.onSub (e' := [(1, va), (3, vb), (4, .int .i64 r), (5, .pointer (some ⟨p5, 0, none⟩)), (7, .pointer (some ⟨p7, 0, none⟩))]) (Sub.cons rfl (Sub.cons rfl (Sub.cons rfl (Sub.cons rfl (Sub.cons rfl Sub.nil))))) ?_
  refine Wk.seq ?_
  refine Wk.regionQ ?_
  refine Lq.op (v := vS a) rfl rfl rfl (OpQ.loadBox (cs := #[.int .i64 a.n, str a.set, str a.rel]) 1 rfl Tryd.isAgg26 rfl rfl Tryd.sizeOf26) ?_
  refine Lq.op (v := va) rfl rfl rfl (OpQ.move rfl rfl) ?_
  refine Lq.op (v := vS b) rfl rfl rfl (OpQ.loadBox (cs := #[.int .i64 b.n, str b.set, str b.rel]) 0 rfl Tryd.isAgg26 rfl rfl Tryd.sizeOf26) ?_
  refine Lq.op (v := vb) rfl rfl rfl (OpQ.move rfl rfl) ?_
  refine Lq.op (v := .bool (listsB a xs b ys)) rfl rfl rfl (OpQ.call rfl Tryd.call64 rfl Own.stable (fun w1 hw1 => l4Lists_ok a b xs ys va vb w1 hsa hsb (Row.own hva hw1) (Row.own hvb hw1) (by first | (simp; done) | (simp; omega) | omega) (by first | (simp; done) | (simp; omega) | omega) loa hia lob hib)) ?_
  refine Lq.op (v := .bool (listsB a xs b ys)) rfl rfl rfl (OpQ.move rfl rfl) ?_
  refine Lq.bool fun b16 hg16 => ?_
  cases b16
  · skip
    refine Lq.pass rfl rfl rfl ?_
    refine Lq.pass rfl rfl rfl ?_
    refine Lq.op (v := .bool false) rfl rfl rfl (OpQ.pickF rfl rfl rfl) ?_
    refine Lq.op (v := .bool false) rfl rfl rfl (OpQ.assign rfl rfl) ?_
    refine Lq.nil ?_
    refine Kt.onSub (e' := [(10, .bool false)]) (Sub.cons rfl Sub.nil) ?_
    refine Wk.ret (Kt.end1 rfl rfl fun w' hw => ?_)
    -- ret 0: .bool false
    exact ⟨ret_b (by unfold gameB; first | (simp_all; done) | (simp_all; omega)), hw.below⟩
  · skip
    refine Lq.op (v := .int .i64 r) rfl rfl rfl (OpQ.move rfl rfl) ?_
    refine Lq.op (v := .bool (inB r 0 3)) rfl rfl rfl (OpQ.call rfl Tryd.call52 rfl Own.stable (fun w1 hw1 => l1In_ok r 0 3 w1 )) ?_
    refine Lq.op (v := .bool (inB r 0 3)) rfl rfl rfl (OpQ.pickT rfl rfl rfl) ?_
    refine Lq.op (v := .bool (inB r 0 3)) rfl rfl rfl (OpQ.assign rfl rfl) ?_
    refine Lq.nil ?_
    refine Kt.onSub (e' := [(10, .bool (inB r 0 3))]) (Sub.cons rfl Sub.nil) ?_
    refine Wk.ret (Kt.end1 rfl rfl fun w' hw => ?_)
    -- ret 1: .bool (inB r 0 3)
    exact ⟨ret_b (by unfold gameB; first | (simp_all; done) | (simp_all; omega)), hw.below⟩

set_option maxHeartbeats 400000 in
/-- spec.SecondWins -/
theorem sWins_ok (a b : St) (xs ys : List Int) (va vb : Value) (w : World) (hsa : a.Small) (hsb : b.Small) (hva : Ints w va xs) (hvb : Ints w vb ys) (hs1 : xs.length ≤ 140737488355328) (hs2 : ys.length ≤ 140737488355328) (loa : -9223372036854775808 ≤ a.n) (hia : a.n ≤ 9223372036854775807) (lob : -9223372036854775808 ≤ b.n) (hib : b.n ≤ 9223372036854775807) (r : Int) :
    Calls Tryd.prog 21 [vS a, va, vS b, vb, .int .i64 r].toArray w fun en w' => en = .returned (.bool (secB a xs b ys r)) ∧ Below w.heap.size w w' := by
  refine fnStart (n := 25) (e := [(0, vS a), (1, va), (2, vS b), (3, vb), (4, .int .i64 r)]) Tryd.func21 rfl rfl rfl rfl Ends.both ?_
  refine Wk.seq ?_
  refine Wk.region ?_
  refine Ll.box (v := vS a) rfl rfl rfl rfl rfl fun p5 hp5 => ?_
  show Ll _ _ (Own _ _ [(p5, .cells #[.int .i64 a.n, str a.set, str a.rel] 26 (0, 0))]) _ _ ((5, .pointer (some ⟨p5, 0, none⟩)) :: _) _ _ _
  refine Ll.box (v := vS b) rfl rfl rfl rfl rfl fun p7 hp7 => ?_
  show Ll _ _ (Own _ _ [(p7, .cells #[.int .i64 b.n, str b.set, str b.rel] 26 (0, 0)), (p5, .cells #[.int .i64 a.n, str a.set, str a.rel] 26 (0, 0))]) _ _ ((7, .pointer (some ⟨p7, 0, none⟩)) :: _) _ _ _
  refine Ll.op (v := .bool false) rfl rfl rfl (OpQ.assign rfl rfl) ?_
  refine Ll.nil ?_
  refine Kt.onSub (e' := [(1, va), (3, vb), (4, .int .i64 r), (5, .pointer (some ⟨p5, 0, none⟩)), (7, .pointer (some ⟨p7, 0, none⟩))]) (Sub.cons rfl (Sub.cons rfl (Sub.cons rfl (Sub.cons rfl (Sub.cons rfl Sub.nil))))) ?_
  refine Wk.seq ?_
  refine Wk.regionQ ?_
  refine Lq.op (v := vS a) rfl rfl rfl (OpQ.loadBox (cs := #[.int .i64 a.n, str a.set, str a.rel]) 1 rfl Tryd.isAgg26 rfl rfl Tryd.sizeOf26) ?_
  refine Lq.op (v := va) rfl rfl rfl (OpQ.move rfl rfl) ?_
  refine Lq.op (v := vS b) rfl rfl rfl (OpQ.loadBox (cs := #[.int .i64 b.n, str b.set, str b.rel]) 0 rfl Tryd.isAgg26 rfl rfl Tryd.sizeOf26) ?_
  refine Lq.op (v := vb) rfl rfl rfl (OpQ.move rfl rfl) ?_
  refine Lq.op (v := .int .i64 r) rfl rfl rfl (OpQ.move rfl rfl) ?_
  refine Lq.op (v := .bool (gameB a xs b ys r)) rfl rfl rfl (OpQ.call rfl Tryd.call60 rfl Own.stable (fun w1 hw1 => l5Ready_ok a b xs ys va vb w1 hsa hsb (Row.own hva hw1) (Row.own hvb hw1) (by first | (simp; done) | (simp; omega) | omega) (by first | (simp; done) | (simp; omega) | omega) loa hia lob hib r)) ?_
  refine Lq.op (v := .bool (gameB a xs b ys r)) rfl rfl rfl (OpQ.move rfl rfl) ?_
  refine Lq.bool fun b17 hg17 => ?_
  cases b17
  · skip
    refine Lq.pass rfl rfl rfl ?_
    refine Lq.pass rfl rfl rfl ?_
    refine Lq.pass rfl rfl rfl ?_
    refine Lq.pass rfl rfl rfl ?_
    refine Lq.pass rfl rfl rfl ?_
    refine Lq.pass rfl rfl rfl ?_
    refine Lq.op (v := .bool false) rfl rfl rfl (OpQ.pickF rfl rfl rfl) ?_
    refine Lq.op (v := .bool false) rfl rfl rfl (OpQ.assign rfl rfl) ?_
    refine Lq.nil ?_
    refine Kt.onSub (e' := [(10, .bool false)]) (Sub.cons rfl Sub.nil) ?_
    refine Wk.ret (Kt.end1 rfl rfl fun w' hw => ?_)
    -- ret 0: .bool false
    exact ⟨ret_b (by unfold secB; simp [*]), hw.below⟩
  · skip
    replace hg17 : gameB a xs b ys r = true := by simpa using hg17
    obtain ⟨hLL, hr0, hr3⟩ := gameB_true hg17
    obtain ⟨LA, LB, hlen⟩ := listsB_true hLL
    have ha := LA.fine
    have hb := LB.fine
    have hA := LA.els
    have hB := LB.els
    have hl4 := LA.len
    refine Lq.op (v := vS a) rfl rfl rfl (OpQ.loadBox (cs := #[.int .i64 a.n, str a.set, str a.rel]) 1 rfl Tryd.isAgg26 rfl rfl Tryd.sizeOf26) ?_
    refine Lq.op (v := va) rfl rfl rfl (OpQ.move rfl rfl) ?_
    refine Lq.op (v := vS b) rfl rfl rfl (OpQ.loadBox (cs := #[.int .i64 b.n, str b.set, str b.rel]) 0 rfl Tryd.isAgg26 rfl rfl Tryd.sizeOf26) ?_
    refine Lq.op (v := vb) rfl rfl rfl (OpQ.move rfl rfl) ?_
    refine Lq.op (v := .int .i64 r) rfl rfl rfl (OpQ.move rfl rfl) ?_
    refine Lq.op (v := .bool (winB r.toNat a xs b ys)) rfl rfl rfl (OpQ.call rfl Tryd.call61 rfl Own.stable (fun w1 hw1 => l5Wins_ok a b xs ys va vb w1 ha hb (Row.own hva hw1) (Row.own hvb hw1) hA hB (by first | (simp; done) | (simp; omega) | omega) (by first | (simp; done) | (simp; omega) | omega) r (by omega) (by omega))) ?_
    refine Lq.op (v := .bool (winB r.toNat a xs b ys)) rfl rfl rfl (OpQ.pickT rfl rfl rfl) ?_
    refine Lq.op (v := .bool (winB r.toNat a xs b ys)) rfl rfl rfl (OpQ.assign rfl rfl) ?_
    refine Lq.nil ?_
    refine Kt.onSub (e' := [(10, .bool (winB r.toNat a xs b ys))]) (Sub.cons rfl Sub.nil) ?_
    refine Wk.ret (Kt.end1 rfl rfl fun w' hw => ?_)
    -- ret 1: .bool (winB r.toNat a xs b ys)
    exact ⟨ret_b (by unfold secB; simp [*]), hw.below⟩

set_option maxHeartbeats 400000 in
/-- spec.WonRounds -/
theorem sWon_ok (a b : St) (xs ys : List Int) (va vb : Value) (w : World) (hsa : a.Small) (hsb : b.Small) (hva : Ints w va xs) (hvb : Ints w vb ys) (hs1 : xs.length ≤ 140737488355328) (hs2 : ys.length ≤ 140737488355328) (loa : -9223372036854775808 ≤ a.n) (hia : a.n ≤ 9223372036854775807) (lob : -9223372036854775808 ≤ b.n) (hib : b.n ≤ 9223372036854775807) :
    Calls Tryd.prog 25 [vS a, va, vS b, vb].toArray w fun en w' => en = .returned (.int .i64 (wonI a xs b ys)) ∧ Below w.heap.size w w' := by
  refine fnStart (n := 30) (e := [(0, vS a), (1, va), (2, vS b), (3, vb)]) Tryd.func25 rfl rfl rfl rfl Ends.both ?_
  refine Wk.seq ?_
  refine Wk.region ?_
  refine Ll.box (v := vS a) rfl rfl rfl rfl rfl fun p4 hp4 => ?_
  show Ll _ _ (Own _ _ [(p4, .cells #[.int .i64 a.n, str a.set, str a.rel] 26 (0, 0))]) _ _ ((4, .pointer (some ⟨p4, 0, none⟩)) :: _) _ _ _
  refine Ll.box (v := vS b) rfl rfl rfl rfl rfl fun p6 hp6 => ?_
  show Ll _ _ (Own _ _ [(p6, .cells #[.int .i64 b.n, str b.set, str b.rel] 26 (0, 0)), (p4, .cells #[.int .i64 a.n, str a.set, str a.rel] 26 (0, 0))]) _ _ ((6, .pointer (some ⟨p6, 0, none⟩)) :: _) _ _ _
  refine Ll.op (v := .int .i64 0) rfl rfl rfl (OpQ.assign rfl rfl) ?_
  refine Ll.nil ?_
  refine Kt.onSub (e' := [(1, va), (3, vb), (4, .pointer (some ⟨p4, 0, none⟩)), (6, .pointer (some ⟨p6, 0, none⟩))]) (Sub.cons rfl (Sub.cons rfl (Sub.cons rfl (Sub.cons rfl Sub.nil)))) ?_
  refine Wk.seq ?_
  refine Wk.regionQ ?_
  refine Lq.op (v := .int .i64 (-1)) rfl rfl rfl (OpQ.assign rfl rfl) ?_
  refine Lq.nil ?_
  refine Kt.onSub (e' := [(1, va), (3, vb), (4, .pointer (some ⟨p4, 0, none⟩)), (6, .pointer (some ⟨p6, 0, none⟩)), (9, .int .i64 (-1))]) (Sub.cons rfl (Sub.cons rfl (Sub.cons rfl (Sub.cons rfl (Sub.cons rfl Sub.nil))))) ?_
  refine Wk.seq ?_
  refine Wk.seq ?_
  refine Wk.regionQ ?_
  refine Lq.op (v := vS a) rfl rfl rfl (OpQ.loadBox (cs := #[.int .i64 a.n, str a.set, str a.rel]) 1 rfl Tryd.isAgg26 rfl rfl Tryd.sizeOf26) ?_
  refine Lq.op (v := va) rfl rfl rfl (OpQ.move rfl rfl) ?_
  refine Lq.op (v := vS b) rfl rfl rfl (OpQ.loadBox (cs := #[.int .i64 b.n, str b.set, str b.rel]) 0 rfl Tryd.isAgg26 rfl rfl Tryd.sizeOf26) ?_
  refine Lq.op (v := vb) rfl rfl rfl (OpQ.move rfl rfl) ?_
  refine Lq.op (v := .bool (listsB a xs b ys)) rfl rfl rfl (OpQ.call rfl Tryd.call64 rfl Own.stable (fun w1 hw1 => l4Lists_ok a b xs ys va vb w1 hsa hsb (Row.own hva hw1) (Row.own hvb hw1) (by first | (simp; done) | (simp; omega) | omega) (by first | (simp; done) | (simp; omega) | omega) loa hia lob hib)) ?_
  refine Lq.op (v := .bool (!(listsB a xs b ys))) rfl rfl rfl (OpQ.not rfl rfl) ?_
  refine Lq.nil ?_
  refine Kt.onSub (e' := [(1, va), (3, vb), (4, .pointer (some ⟨p4, 0, none⟩)), (6, .pointer (some ⟨p6, 0, none⟩)), (9, .int .i64 (-1)), (15, .bool (!(listsB a xs b ys)))]) (Sub.cons rfl (Sub.cons rfl (Sub.cons rfl (Sub.cons rfl (Sub.cons rfl (Sub.cons rfl Sub.nil)))))) ?_
  refine Wk.cond (b := !(listsB a xs b ys)) rfl (fun h15 => ?_) (fun h15 => ?_)
  · skip
    replace h15 := not_true h15
    refine Wk.seq ?_
    refine Wk.regionQ ?_
    refine Lq.op (v := .int .i64 (-2)) rfl rfl rfl (OpQ.assign rfl rfl) ?_
    refine Lq.nil ?_
    refine Kt.onSub (e' := [(8, .int .i64 (-2))]) (Sub.cons rfl Sub.nil) ?_
    refine Wk.ret (Kt.end1 rfl rfl fun w' hw => ?_)
    -- ret 0: .int .i64 (-2)
    exact ⟨ret_i (by unfold wonI; simp_all), hw.below⟩
  · skip
    replace h15 := not_false h15
    replace h15 : listsB a xs b ys = true := by simpa using h15
    obtain ⟨LA, LB, hlen⟩ := listsB_true h15
    have ha := LA.fine
    have hb := LB.fine
    have hA := LA.els
    have hB := LB.els
    have hl4 := LA.len
    refine Wk.skip ?_
    refine Kt.onSub (e' := [(1, va), (3, vb), (4, .pointer (some ⟨p4, 0, none⟩)), (6, .pointer (some ⟨p6, 0, none⟩)), (9, .int .i64 (-1))]) (Sub.cons rfl (Sub.cons rfl (Sub.cons rfl (Sub.cons rfl (Sub.cons rfl Sub.nil))))) ?_
    refine Wk.seq ?_
    refine Wk.block ?_
    refine Wk.loop (σ := Nat) (fun k => k ≤ 4 ∧ ∀ i : Nat, i < k → winB i a xs b ys = true) (fun k => [(1, va), (3, vb), (4, .pointer (some ⟨p4, 0, none⟩)), (6, .pointer (some ⟨p6, 0, none⟩)), (9, .int .i64 ((k : Int) - 1))]) (fun k => Own w.heap.size w [(p6, .cells #[.int .i64 b.n, str b.set, str b.rel] 26 (0, 0)), (p4, .cells #[.int .i64 a.n, str a.set, str a.rel] 26 (0, 0))]) (fun k => 5 - k) (0) ⟨by omega, fun i hi => absurd hi (by omega)⟩ (Sub.cons rfl (Sub.cons rfl (Sub.cons rfl (Sub.cons rfl (Sub.cons rfl Sub.nil))))) (fun _ h => h) ?_
    rintro k ⟨hk, hall⟩
    refine Wk.seq ?_
    refine Wk.seq ?_
    refine Wk.regionQ ?_
    refine Lq.op (v := .int .i64 ((k : Int) - 1)) rfl rfl rfl (OpQ.move rfl rfl) ?_
    refine Lq.op (v := .bool (decide (((k : Int) - 1) < (3 : Int)))) rfl rfl rfl (OpQ.lss rfl rfl rfl) ?_
    refine Lq.op (v := .bool (decide (((k : Int) - 1) < (3 : Int)))) rfl rfl rfl (OpQ.move rfl rfl) ?_
    refine Lq.bool fun b18 hg18 => ?_
    cases b18
    · skip
      replace hg18 := of_decide_eq_false hg18
      refine Lq.pass rfl rfl rfl ?_
      refine Lq.pass rfl rfl rfl ?_
      refine Lq.pass rfl rfl rfl ?_
      refine Lq.pass rfl rfl rfl ?_
      refine Lq.pass rfl rfl rfl ?_
      refine Lq.pass rfl rfl rfl ?_
      refine Lq.pass rfl rfl rfl ?_
      refine Lq.op (v := .bool false) rfl rfl rfl (OpQ.pickF rfl rfl rfl) ?_
      refine Lq.nil ?_
      refine Kt.onSub (e' := [(1, va), (3, vb), (4, .pointer (some ⟨p4, 0, none⟩)), (6, .pointer (some ⟨p6, 0, none⟩)), (9, .int .i64 ((k : Int) - 1)), (26, .bool false)]) (Sub.cons rfl (Sub.cons rfl (Sub.cons rfl (Sub.cons rfl (Sub.cons rfl (Sub.cons rfl Sub.nil)))))) ?_
      refine Wk.condF rfl ?_
      refine Wk.exit rfl ?_
      refine Kt.onSub (e' := [(9, .int .i64 ((k : Int) - 1))]) (Sub.cons rfl Sub.nil) ?_
      refine Wk.seq ?_
      refine Wk.regionQ ?_
      refine Lq.op (v := .int .i64 ((k : Int) - 1)) rfl rfl rfl (OpQ.move rfl rfl) ?_
      refine Lq.op (v := .int .i64 ((k : Int) - 1)) rfl rfl rfl (OpQ.assign rfl rfl) ?_
      refine Lq.nil ?_
      refine Kt.onSub (e' := [(8, .int .i64 ((k : Int) - 1))]) (Sub.cons rfl Sub.nil) ?_
      refine Wk.ret (Kt.end1 rfl rfl fun w' hw => ?_)
      -- ret 1: .int .i64 ((k : Int) - 1)
      exact ⟨ret_i (by unfold wonI; rw [h15, if_pos rfl, lastW_of (f := fun n => winB n a xs b ys) (fun n h => win_less hlen h) hk hall (fun hk4 => by first | assumption | omega)]), hw.below⟩
    · skip
      replace hg18 := of_decide_eq_true hg18
      refine Lq.op (v := vS a) rfl rfl rfl (OpQ.loadBox (cs := #[.int .i64 a.n, str a.set, str a.rel]) 1 rfl Tryd.isAgg26 rfl rfl Tryd.sizeOf26) ?_
      refine Lq.op (v := va) rfl rfl rfl (OpQ.move rfl rfl) ?_
      refine Lq.op (v := vS b) rfl rfl rfl (OpQ.loadBox (cs := #[.int .i64 b.n, str b.set, str b.rel]) 0 rfl Tryd.isAgg26 rfl rfl Tryd.sizeOf26) ?_
      refine Lq.op (v := vb) rfl rfl rfl (OpQ.move rfl rfl) ?_
      refine Lq.op (v := .int .i64 ((k : Int) - 1)) rfl rfl rfl (OpQ.move rfl rfl) ?_
      refine Lq.op (v := .int .i64 ((k : Int))) rfl rfl rfl (OpQ.cast (by congr 1; omega) (OpQ.add rfl rfl rfl (by omega) (by omega))) ?_
      refine Lq.op (v := .bool (winB k a xs b ys)) rfl rfl rfl (OpQ.call rfl Tryd.call61 rfl Own.stable (fun w1 hw1 => l5Wins_ok a b xs ys va vb w1 ha hb (Row.own hva hw1) (Row.own hvb hw1) hA hB (by first | (simp; done) | (simp; omega) | omega) (by first | (simp; done) | (simp; omega) | omega) ((k : Int)) (by omega) (by omega))) ?_
      refine Lq.op (v := .bool (winB k a xs b ys)) rfl rfl rfl (OpQ.pickT rfl rfl rfl) ?_
      refine Lq.nil ?_
      refine Kt.onSub (e' := [(1, va), (3, vb), (4, .pointer (some ⟨p4, 0, none⟩)), (6, .pointer (some ⟨p6, 0, none⟩)), (9, .int .i64 ((k : Int) - 1)), (26, .bool (winB k a xs b ys))]) (Sub.cons rfl (Sub.cons rfl (Sub.cons rfl (Sub.cons rfl (Sub.cons rfl (Sub.cons rfl Sub.nil)))))) ?_
      refine Wk.cond (b := winB k a xs b ys) rfl (fun h26 => ?_) (fun h26 => ?_)
      · skip
        refine Wk.skip ?_
        refine Kt.onSub (e' := [(1, va), (3, vb), (4, .pointer (some ⟨p4, 0, none⟩)), (6, .pointer (some ⟨p6, 0, none⟩)), (9, .int .i64 ((k : Int) - 1))]) (Sub.cons rfl (Sub.cons rfl (Sub.cons rfl (Sub.cons rfl (Sub.cons rfl Sub.nil))))) ?_
        refine Wk.block ?_
        refine Wk.regionQ ?_
        refine Lq.op (v := .int .i64 ((k : Int) - 1)) rfl rfl rfl (OpQ.move rfl rfl) ?_
        refine Lq.op (v := .int .i64 (((k : Int) - 1) + (1 : Int))) rfl rfl rfl (OpQ.add rfl rfl rfl (by omega) (by omega)) ?_
        refine Lq.op (v := .int .i64 (((k : Int) - 1) + (1 : Int))) rfl rfl rfl (OpQ.assign rfl rfl) ?_
        refine Lq.nil ?_
        refine Kt.again (k + 1) ⟨by omega, fun i hi => (Nat.lt_succ_iff_lt_or_eq.1 hi).elim (hall i) (fun e => by subst e; assumption)⟩ (by omega) (Sub.cons rfl (Sub.cons rfl (Sub.cons rfl (Sub.cons rfl (Sub.cons (by first | (simp [List.lookup]; done) | (simp [List.lookup]; omega)) Sub.nil))))) (fun _ h => h)
      · skip
        refine Wk.exit rfl ?_
        refine Kt.onSub (e' := [(9, .int .i64 ((k : Int) - 1))]) (Sub.cons rfl Sub.nil) ?_
        refine Wk.seq ?_
        refine Wk.regionQ ?_
        refine Lq.op (v := .int .i64 ((k : Int) - 1)) rfl rfl rfl (OpQ.move rfl rfl) ?_
        refine Lq.op (v := .int .i64 ((k : Int) - 1)) rfl rfl rfl (OpQ.assign rfl rfl) ?_
        refine Lq.nil ?_
        refine Kt.onSub (e' := [(8, .int .i64 ((k : Int) - 1))]) (Sub.cons rfl Sub.nil) ?_
        refine Wk.ret (Kt.end1 rfl rfl fun w' hw => ?_)
        -- ret 2: .int .i64 ((k : Int) - 1)
        exact ⟨ret_i (by unfold wonI; rw [h15, if_pos rfl, lastW_of (f := fun n => winB n a xs b ys) (fun n h => win_less hlen h) hk hall (fun hk4 => by first | assumption | omega)]), hw.below⟩

set_option maxHeartbeats 400000 in
/-- impl.SameRank -/
theorem iSame_ok (a b : St) (w : World) (hsa : a.Small) (hsb : b.Small) (r : Int) :
    Calls Tryd.prog 20 [vS a, vS b, .int .i64 r].toArray w fun en w' => en = .returned (.bool (secB a [] b [] r)) ∧ Below w.heap.size w w' := by
  refine fnStart (n := 11) (e := [(0, vS a), (1, vS b), (2, .int .i64 r)]) Tryd.func20 rfl rfl rfl rfl Ends.both ?_
  refine Wk.seq ?_
  refine Wk.region ?_
  refine Ll.box (v := vS a) rfl rfl rfl rfl rfl fun p3 hp3 => ?_
  show Ll _ _ (Own _ _ [(p3, .cells #[.int .i64 a.n, str a.set, str a.rel] 26 (0, 0))]) _ _ ((3, .pointer (some ⟨p3, 0, none⟩)) :: _) _ _ _
  refine Ll.box (v := vS b) rfl rfl rfl rfl rfl fun p4 hp4 => ?_
  show Ll _ _ (Own _ _ [(p4, .cells #[.int .i64 b.n, str b.set, str b.rel] 26 (0, 0)), (p3, .cells #[.int .i64 a.n, str a.set, str a.rel] 26 (0, 0))]) _ _ ((4, .pointer (some ⟨p4, 0, none⟩)) :: _) _ _ _
  refine Ll.op (v := .bool false) rfl rfl rfl (OpQ.assign rfl rfl) ?_
  refine Ll.nil ?_
  refine Kt.onSub (e' := [(2, .int .i64 r), (3, .pointer (some ⟨p3, 0, none⟩)), (4, .pointer (some ⟨p4, 0, none⟩))]) (Sub.cons rfl (Sub.cons rfl (Sub.cons rfl Sub.nil))) ?_
  refine Wk.seq ?_
  refine Wk.regionQ ?_
  refine Lq.op (v := vS a) rfl rfl rfl (OpQ.loadBox (cs := #[.int .i64 a.n, str a.set, str a.rel]) 1 rfl Tryd.isAgg26 rfl rfl Tryd.sizeOf26) ?_
  refine Lq.op (v := vS b) rfl rfl rfl (OpQ.loadBox (cs := #[.int .i64 b.n, str b.set, str b.rel]) 0 rfl Tryd.isAgg26 rfl rfl Tryd.sizeOf26) ?_
  refine Lq.op (v := .int .i64 r) rfl rfl rfl (OpQ.move rfl rfl) ?_
  refine Lq.op (v := .bool (secB a ([]) b ([]) r)) rfl rfl rfl (OpQ.call rfl Tryd.call23 rfl Own.stable (fun w1 hw1 => iWins_ok a b ([]) ([]) (.slice none 0 0) (.slice none 0 0) w1 hsa hsb Ints.nil Ints.nil (by first | (simp; done) | (simp; omega) | omega) (by first | (simp; done) | (simp; omega) | omega) r)) ?_
  refine Lq.op (v := .bool (secB a ([]) b ([]) r)) rfl rfl rfl (OpQ.assign rfl rfl) ?_
  refine Lq.nil ?_
  refine Kt.onSub (e' := [(6, .bool (secB a ([]) b ([]) r))]) (Sub.cons rfl Sub.nil) ?_
  refine Wk.ret (Kt.end1 rfl rfl fun w' hw => ?_)
  -- ret 0: .bool (secB a ([]) b ([]) r)
  exact ⟨rfl, hw.below⟩

set_option maxHeartbeats 400000 in
/-- spec.SameRank -/
theorem sSame_ok (a b : St) (w : World) (hsa : a.Small) (hsb : b.Small) (loa : -9223372036854775808 ≤ a.n) (hia : a.n ≤ 9223372036854775807) (lob : -9223372036854775808 ≤ b.n) (hib : b.n ≤ 9223372036854775807) (r : Int) :
    Calls Tryd.prog 19 [vS a, vS b, .int .i64 r].toArray w fun en w' => en = .returned (.bool (secB a [] b [] r)) ∧ Below w.heap.size w w' := by
  refine fnStart (n := 13) (e := [(0, vS a), (1, vS b), (2, .int .i64 r)]) Tryd.func19 rfl rfl rfl rfl Ends.both ?_
  refine Wk.seq ?_
  refine Wk.region ?_
  refine Ll.box (v := vS a) rfl rfl rfl rfl rfl fun p3 hp3 => ?_
  show Ll _ _ (Own _ _ [(p3, .cells #[.int .i64 a.n, str a.set, str a.rel] 26 (0, 0))]) _ _ ((3, .pointer (some ⟨p3, 0, none⟩)) :: _) _ _ _
  refine Ll.box (v := vS b) rfl rfl rfl rfl rfl fun p4 hp4 => ?_
  show Ll _ _ (Own _ _ [(p4, .cells #[.int .i64 b.n, str b.set, str b.rel] 26 (0, 0)), (p3, .cells #[.int .i64 a.n, str a.set, str a.rel] 26 (0, 0))]) _ _ ((4, .pointer (some ⟨p4, 0, none⟩)) :: _) _ _ _
  refine Ll.op (v := .bool false) rfl rfl rfl (OpQ.assign rfl rfl) ?_
  refine Ll.nil ?_
  refine Kt.onSub (e' := [(2, .int .i64 r), (3, .pointer (some ⟨p3, 0, none⟩)), (4, .pointer (some ⟨p4, 0, none⟩))]) (Sub.cons rfl (Sub.cons rfl (Sub.cons rfl Sub.nil))) ?_
  refine Wk.seq ?_
  refine Wk.region ?_
  refine Ll.op (v := vS a) rfl rfl rfl (OpQ.loadBox (cs := #[.int .i64 a.n, str a.set, str a.rel]) 1 rfl Tryd.isAgg26 rfl rfl Tryd.sizeOf26) ?_
  refine Ll.slice (xs := []) (vs := []) Base.elem31 rfl rfl rfl rfl rfl rfl (by decide) rfl fun p8 hp8 => ?_
  refine Ll.op (v := vS b) rfl rfl rfl (OpQ.loadBox (cs := #[.int .i64 b.n, str b.set, str b.rel]) 1 rfl Tryd.isAgg26 rfl rfl Tryd.sizeOf26) ?_
  refine Ll.slice (xs := []) (vs := []) Base.elem31 rfl rfl rfl rfl rfl rfl (by decide) rfl fun p10 hp10 => ?_
  refine Ll.op (v := .int .i64 r) rfl rfl rfl (OpQ.move rfl rfl) ?_
  refine Ll.op (v := .bool (secB a ([]) b ([]) r)) rfl rfl rfl (OpQ.call rfl Tryd.call21 rfl Own.stable (fun w1 hw1 => sWins_ok a b ([]) ([]) (.slice (some ⟨p8, 0, none⟩) 0 0) (.slice (some ⟨p10, 0, none⟩) 0 0) w1 hsa hsb (Own.row hw1 (i := 1) rfl (n := 0) (cap := 0) (vs := ints []) rfl rfl (by decide)) (Own.row hw1 (i := 0) rfl (n := 0) (cap := 0) (vs := ints []) rfl rfl (by decide)) (by first | (simp; done) | (simp; omega) | omega) (by first | (simp; done) | (simp; omega) | omega) loa hia lob hib r)) ?_
  refine Ll.op (v := .bool (secB a ([]) b ([]) r)) rfl rfl rfl (OpQ.assign rfl rfl) ?_
  refine Ll.nil ?_
  refine Kt.onSub (e' := [(6, .bool (secB a ([]) b ([]) r))]) (Sub.cons rfl Sub.nil) ?_
  refine Wk.ret (Kt.end1 rfl rfl fun w' hw => ?_)
  -- ret 0: .bool (secB a ([]) b ([]) r)
  exact ⟨rfl, hw.below⟩

set_option maxHeartbeats 400000 in
/-- laws.FnExactSecondWins -/
theorem lawWins (a b : St) (xs ys : List Int) (va vb : Value) (w : World) (h1a : a.set.length ≤ 9223372036854775807) (h2a : a.rel.length ≤ 9223372036854775807) (h1b : b.set.length ≤ 9223372036854775807) (h2b : b.rel.length ≤ 9223372036854775807) (hva : Ints w va xs) (hvb : Ints w vb ys) (loa : -9223372036854775808 ≤ a.n) (hia : a.n ≤ 9223372036854775807) (lob : -9223372036854775808 ≤ b.n) (hib : b.n ≤ 9223372036854775807) (r : Int) :
    Calls Tryd.prog 5 [vS a, va, vS b, vb, .int .i64 r].toArray w fun en w' => en = .returned (.bool true) ∧ Below w.heap.size w w' := by
  refine fnStart (n := 67) (e := [(0, vS a), (1, va), (2, vS b), (3, vb), (4, .int .i64 r)]) Tryd.func5 rfl rfl rfl rfl Ends.both ?_
  refine Wk.seq ?_
  refine Wk.region ?_
  refine Ll.box (v := vS a) rfl rfl rfl rfl rfl fun p5 hp5 => ?_
  show Ll _ _ (Own _ _ [(p5, .cells #[.int .i64 a.n, str a.set, str a.rel] 23 (0, 0))]) _ _ ((5, .pointer (some ⟨p5, 0, none⟩)) :: _) _ _ _
  refine Ll.box (v := vS b) rfl rfl rfl rfl rfl fun p7 hp7 => ?_
  show Ll _ _ (Own _ _ [(p7, .cells #[.int .i64 b.n, str b.set, str b.rel] 23 (0, 0)), (p5, .cells #[.int .i64 a.n, str a.set, str a.rel] 23 (0, 0))]) _ _ ((7, .pointer (some ⟨p7, 0, none⟩)) :: _) _ _ _
  refine Ll.op (v := .bool false) rfl rfl rfl (OpQ.assign rfl rfl) ?_
  refine Ll.nil ?_
  refine Kt.onSub (e' := [(1, va), (3, vb), (4, .int .i64 r), (5, .pointer (some ⟨p5, 0, none⟩)), (7, .pointer (some ⟨p7, 0, none⟩))]) (Sub.cons rfl (Sub.cons rfl (Sub.cons rfl (Sub.cons rfl (Sub.cons rfl Sub.nil))))) ?_
  refine Wk.seq ?_
  refine Wk.seq ?_
  refine Wk.regionQ ?_
  refine Lq.op (v := va) rfl rfl rfl (OpQ.move rfl rfl) ?_
  refine Lq.op (v := .int .i64 ((xs.length : Int))) rfl rfl rfl (OpQ.lenRow rfl Tryd.runUnderlying31 rfl (ints_length _) (fun w1 hw1 => Row.own hva hw1)) ?_
  refine Lq.op (v := .bool (decide ((1048576 : Int) < ((xs.length : Int))))) rfl rfl rfl (OpQ.gtr rfl rfl rfl) ?_
  refine Lq.nil ?_
  refine Kt.onSub (e' := [(1, va), (3, vb), (4, .int .i64 r), (5, .pointer (some ⟨p5, 0, none⟩)), (7, .pointer (some ⟨p7, 0, none⟩)), (18, .bool (decide ((1048576 : Int) < ((xs.length : Int)))))]) (Sub.cons rfl (Sub.cons rfl (Sub.cons rfl (Sub.cons rfl (Sub.cons rfl (Sub.cons rfl Sub.nil)))))) ?_
  refine Wk.cond (b := decide ((1048576 : Int) < ((xs.length : Int)))) rfl (fun h18 => ?_) (fun h18 => ?_)
  · skip
    replace h18 := of_decide_eq_true h18
    refine Wk.seq ?_
    refine Wk.regionQ ?_
    refine Lq.op (v := .bool true) rfl rfl rfl (OpQ.assign rfl rfl) ?_
    refine Lq.nil ?_
    refine Kt.onSub (e' := [(10, .bool true)]) (Sub.cons rfl Sub.nil) ?_
    refine Wk.ret (Kt.end1 rfl rfl fun w' hw => ?_)
    -- ret 0: .bool true
    exact ⟨ret_b (by first | rfl | (simp_all; done) | (simp_all; omega)), hw.below⟩
  · skip
    replace h18 := of_decide_eq_false h18
    refine Wk.skip ?_
    refine Kt.onSub (e' := [(1, va), (3, vb), (4, .int .i64 r), (5, .pointer (some ⟨p5, 0, none⟩)), (7, .pointer (some ⟨p7, 0, none⟩))]) (Sub.cons rfl (Sub.cons rfl (Sub.cons rfl (Sub.cons rfl (Sub.cons rfl Sub.nil))))) ?_
    refine Wk.seq ?_
    refine Wk.seq ?_
    refine Wk.regionQ ?_
    refine Lq.op (v := vb) rfl rfl rfl (OpQ.move rfl rfl) ?_
    refine Lq.op (v := .int .i64 ((ys.length : Int))) rfl rfl rfl (OpQ.lenRow rfl Tryd.runUnderlying31 rfl (ints_length _) (fun w1 hw1 => Row.own hvb hw1)) ?_
    refine Lq.op (v := .bool (decide ((1048576 : Int) < ((ys.length : Int))))) rfl rfl rfl (OpQ.gtr rfl rfl rfl) ?_
    refine Lq.nil ?_
    refine Kt.onSub (e' := [(1, va), (3, vb), (4, .int .i64 r), (5, .pointer (some ⟨p5, 0, none⟩)), (7, .pointer (some ⟨p7, 0, none⟩)), (21, .bool (decide ((1048576 : Int) < ((ys.length : Int)))))]) (Sub.cons rfl (Sub.cons rfl (Sub.cons rfl (Sub.cons rfl (Sub.cons rfl (Sub.cons rfl Sub.nil)))))) ?_
    refine Wk.cond (b := decide ((1048576 : Int) < ((ys.length : Int)))) rfl (fun h21 => ?_) (fun h21 => ?_)
    · skip
      replace h21 := of_decide_eq_true h21
      refine Wk.seq ?_
      refine Wk.regionQ ?_
      refine Lq.op (v := .bool true) rfl rfl rfl (OpQ.assign rfl rfl) ?_
      refine Lq.nil ?_
      refine Kt.onSub (e' := [(10, .bool true)]) (Sub.cons rfl Sub.nil) ?_
      refine Wk.ret (Kt.end1 rfl rfl fun w' hw => ?_)
      -- ret 1: .bool true
      exact ⟨ret_b (by first | rfl | (simp_all; done) | (simp_all; omega)), hw.below⟩
    · skip
      replace h21 := of_decide_eq_false h21
      refine Wk.skip ?_
      refine Kt.onSub (e' := [(1, va), (3, vb), (4, .int .i64 r), (5, .pointer (some ⟨p5, 0, none⟩)), (7, .pointer (some ⟨p7, 0, none⟩))]) (Sub.cons rfl (Sub.cons rfl (Sub.cons rfl (Sub.cons rfl (Sub.cons rfl Sub.nil))))) ?_
      refine Wk.seq ?_
      refine Wk.regionQ ?_
      refine Lq.op (v := .int .i64 1048576) rfl rfl rfl (OpQ.assign rfl rfl) ?_
      refine Lq.nil ?_
      refine Kt.onSub (e' := [(1, va), (3, vb), (4, .int .i64 r), (5, .pointer (some ⟨p5, 0, none⟩)), (7, .pointer (some ⟨p7, 0, none⟩)), (11, .int .i64 1048576)]) (Sub.cons rfl (Sub.cons rfl (Sub.cons rfl (Sub.cons rfl (Sub.cons rfl (Sub.cons rfl Sub.nil)))))) ?_
      refine Wk.seq ?_
      refine Wk.regionQ ?_
      refine Lq.op (v := vS a) rfl rfl rfl (OpQ.loadBox (cs := #[.int .i64 a.n, str a.set, str a.rel]) 1 rfl Tryd.isAgg23 rfl rfl Tryd.sizeOf23) ?_
      refine Lq.op (v := .int .i64 1048576) rfl rfl rfl (OpQ.move rfl rfl) ?_
      refine Lq.op (v := .int .i64 (szB a 1048576)) rfl rfl rfl (OpQ.call rfl Tryd.call15 rfl Own.stable (fun w1 hw1 => sz_ok a 1048576 w1 (by omega) (by omega) h1a h2a)) ?_
      refine Lq.op (v := .int .i64 (szB a 1048576)) rfl rfl rfl (OpQ.assign rfl rfl) ?_
      refine Lq.nil ?_
      refine Kt.onSub (e' := [(1, va), (3, vb), (4, .int .i64 r), (5, .pointer (some ⟨p5, 0, none⟩)), (7, .pointer (some ⟨p7, 0, none⟩)), (11, .int .i64 (szB a 1048576))]) (Sub.cons rfl (Sub.cons rfl (Sub.cons rfl (Sub.cons rfl (Sub.cons rfl (Sub.cons rfl Sub.nil)))))) ?_
      refine Wk.seq ?_
      refine Wk.seq ?_
      refine Wk.regionQ ?_
      refine Lq.op (v := .int .i64 (szB a 1048576)) rfl rfl rfl (OpQ.move rfl rfl) ?_
      refine Lq.op (v := .bool (decide ((szB a 1048576) < (0 : Int)))) rfl rfl rfl (OpQ.lss rfl rfl rfl) ?_
      refine Lq.nil ?_
      refine Kt.onSub (e' := [(1, va), (3, vb), (4, .int .i64 r), (5, .pointer (some ⟨p5, 0, none⟩)), (7, .pointer (some ⟨p7, 0, none⟩)), (11, .int .i64 (szB a 1048576)), (26, .bool (decide ((szB a 1048576) < (0 : Int))))]) (Sub.cons rfl (Sub.cons rfl (Sub.cons rfl (Sub.cons rfl (Sub.cons rfl (Sub.cons rfl (Sub.cons rfl Sub.nil))))))) ?_
      refine Wk.cond (b := decide ((szB a 1048576) < (0 : Int))) rfl (fun h26 => ?_) (fun h26 => ?_)
      · skip
        replace h26 := of_decide_eq_true h26
        refine Wk.seq ?_
        refine Wk.regionQ ?_
        refine Lq.op (v := .bool true) rfl rfl rfl (OpQ.assign rfl rfl) ?_
        refine Lq.nil ?_
        refine Kt.onSub (e' := [(10, .bool true)]) (Sub.cons rfl Sub.nil) ?_
        refine Wk.ret (Kt.end1 rfl rfl fun w' hw => ?_)
        -- ret 2: .bool true
        exact ⟨ret_b (by first | rfl | (simp_all; done) | (simp_all; omega)), hw.below⟩
      · skip
        replace h26 := of_decide_eq_false h26
        obtain ⟨hsa, hz0a, hz1a⟩ := szB_small (by omega) h26
        refine Wk.skip ?_
        refine Kt.onSub (e' := [(1, va), (3, vb), (4, .int .i64 r), (5, .pointer (some ⟨p5, 0, none⟩)), (7, .pointer (some ⟨p7, 0, none⟩)), (11, .int .i64 (szB a 1048576))]) (Sub.cons rfl (Sub.cons rfl (Sub.cons rfl (Sub.cons rfl (Sub.cons rfl (Sub.cons rfl Sub.nil)))))) ?_
        refine Wk.seq ?_
        refine Wk.regionQ ?_
        refine Lq.op (v := vS b) rfl rfl rfl (OpQ.loadBox (cs := #[.int .i64 b.n, str b.set, str b.rel]) 0 rfl Tryd.isAgg23 rfl rfl Tryd.sizeOf23) ?_
        refine Lq.op (v := .int .i64 (szB a 1048576)) rfl rfl rfl (OpQ.move rfl rfl) ?_
        refine Lq.op (v := .int .i64 (szB b (szB a 1048576))) rfl rfl rfl (OpQ.call rfl Tryd.call15 rfl Own.stable (fun w1 hw1 => sz_ok b (szB a 1048576) w1 (by omega) (by omega) h1b h2b)) ?_
        refine Lq.op (v := .int .i64 (szB b (szB a 1048576))) rfl rfl rfl (OpQ.assign rfl rfl) ?_
        refine Lq.nil ?_
        refine Kt.onSub (e' := [(1, va), (3, vb), (4, .int .i64 r), (5, .pointer (some ⟨p5, 0, none⟩)), (7, .pointer (some ⟨p7, 0, none⟩)), (11, .int .i64 (szB b (szB a 1048576)))]) (Sub.cons rfl (Sub.cons rfl (Sub.cons rfl (Sub.cons rfl (Sub.cons rfl (Sub.cons rfl Sub.nil)))))) ?_
        refine Wk.seq ?_
        refine Wk.seq ?_
        refine Wk.regionQ ?_
        refine Lq.op (v := .int .i64 (szB b (szB a 1048576))) rfl rfl rfl (OpQ.move rfl rfl) ?_
        refine Lq.op (v := .bool (decide ((szB b (szB a 1048576)) < (0 : Int)))) rfl rfl rfl (OpQ.lss rfl rfl rfl) ?_
        refine Lq.nil ?_
        refine Kt.onSub (e' := [(1, va), (3, vb), (4, .int .i64 r), (5, .pointer (some ⟨p5, 0, none⟩)), (7, .pointer (some ⟨p7, 0, none⟩)), (31, .bool (decide ((szB b (szB a 1048576)) < (0 : Int))))]) (Sub.cons rfl (Sub.cons rfl (Sub.cons rfl (Sub.cons rfl (Sub.cons rfl (Sub.cons rfl Sub.nil)))))) ?_
        refine Wk.cond (b := decide ((szB b (szB a 1048576)) < (0 : Int))) rfl (fun h31 => ?_) (fun h31 => ?_)
        · skip
          replace h31 := of_decide_eq_true h31
          refine Wk.seq ?_
          refine Wk.regionQ ?_
          refine Lq.op (v := .bool true) rfl rfl rfl (OpQ.assign rfl rfl) ?_
          refine Lq.nil ?_
          refine Kt.onSub (e' := [(10, .bool true)]) (Sub.cons rfl Sub.nil) ?_
          refine Wk.ret (Kt.end1 rfl rfl fun w' hw => ?_)
          -- ret 3: .bool true
          exact ⟨ret_b (by first | rfl | (simp_all; done) | (simp_all; omega)), hw.below⟩
        · skip
          replace h31 := of_decide_eq_false h31
          obtain ⟨hsb, hz0b, hz1b⟩ := szB_small (by omega) h31
          refine Wk.skip ?_
          refine Kt.onSub (e' := [(1, va), (3, vb), (4, .int .i64 r), (5, .pointer (some ⟨p5, 0, none⟩)), (7, .pointer (some ⟨p7, 0, none⟩))]) (Sub.cons rfl (Sub.cons rfl (Sub.cons rfl (Sub.cons rfl (Sub.cons rfl Sub.nil))))) ?_
          refine Wk.seq ?_
          refine Wk.regionO [(0, true), (2, true), (4, true), (6, true), (8, true), (1, false), (3, false), (5, false), (7, false), (9, false), (10, true)] Base.mixed (fun _ h => h.drawn) (by kernel_rfl) ?_
          refine Ld.take (v := vS a) rfl rfl rfl rfl rfl (OpQ.loadBox (cs := #[.int .i64 a.n, str a.set, str a.rel]) 1 rfl Tryd.isAgg23 rfl rfl Tryd.sizeOf23) (fun _ h => h) ?_
          refine Ld.take (v := va) rfl rfl rfl rfl rfl (OpQ.move rfl rfl) (fun _ h => h) ?_
          refine Ld.take (v := vS b) rfl rfl rfl rfl rfl (OpQ.loadBox (cs := #[.int .i64 b.n, str b.set, str b.rel]) 0 rfl Tryd.isAgg23 rfl rfl Tryd.sizeOf23) (fun _ h => h) ?_
          refine Ld.take (v := vb) rfl rfl rfl rfl rfl (OpQ.move rfl rfl) (fun _ h => h) ?_
          refine Ld.take (v := .int .i64 r) rfl rfl rfl rfl rfl (OpQ.move rfl rfl) (fun _ h => h) ?_
          refine Ld.loud rfl ?_
          refine Ll.op (v := vS a) rfl rfl rfl (OpQ.call rfl Tryd.call17 rfl Own.stable (fun w1 hw1 => toSt_ok a w1 )) ?_
          refine Ll.nil (Ld.joint (fun _ h => h) ?_)
          refine Ld.loud rfl ?_
          refine Ll.callRow (xs := [.tmp 34]) (m := xs.length) (vs := ints xs) (el := 3) (size := 1) rfl rfl rfl rfl Tryd.call22 rfl (fun w1 hw1 => toInt_ok va xs w1 (Row.own hva hw1) (by omega)) fun p35 cap35 cur35 hp35 hcp35 hlp35 htp35 => ?_
          refine Ll.nil (Ld.joint (fun _ h => h.tail) ?_)
          refine Ld.loud rfl ?_
          refine Ll.op (v := vS b) rfl rfl rfl (OpQ.call rfl Tryd.call17 rfl Own.stable (fun w1 hw1 => toSt_ok b w1 )) ?_
          refine Ll.nil (Ld.joint (fun _ h => h.tail) ?_)
          refine Ld.loud rfl ?_
          refine Ll.callRow (xs := [.tmp 38]) (m := ys.length) (vs := ints ys) (el := 3) (size := 1) rfl rfl rfl rfl Tryd.call22 rfl (fun w1 hw1 => toInt_ok vb ys w1 (Row.own hvb hw1) (by omega)) fun p39 cap39 cur39 hp39 hcp39 hlp39 htp39 => ?_
          refine Ll.nil (Ld.joint (fun _ h => h.tail.tail) ?_)
          refine Ld.loud rfl ?_
          refine Ll.op (v := .bool (secB a xs b ys r)) rfl rfl rfl (OpQ.call rfl Tryd.call21 rfl Own.stable (fun w1 hw1 => sWins_ok a b xs ys (.slice (some ⟨p35, 0, none⟩) xs.length cap35) (.slice (some ⟨p39, 0, none⟩) ys.length cap39) w1 hsa hsb (Own.row hw1 (i := 1) rfl (by simpa using htp35) (by simp) hlp35) (Own.row hw1 (i := 0) rfl (by simpa using htp39) (by simp) hlp39) (by first | (simp; done) | (simp; omega) | omega) (by first | (simp; done) | (simp; omega) | omega) loa hia lob hib r)) ?_
          refine Ll.nil (Ld.joint (fun _ h => h.tail.tail) ?_)
          refine Ld.take (v := .bool (secB a xs b ys r)) rfl rfl rfl rfl rfl (OpQ.assign rfl rfl) (fun _ h => h.tail.tail) ?_
          refine Ld.nil ?_
          refine Kt.onSub (e' := [(1, va), (3, vb), (4, .int .i64 r), (5, .pointer (some ⟨p5, 0, none⟩)), (7, .pointer (some ⟨p7, 0, none⟩)), (12, .bool (secB a xs b ys r))]) (Sub.cons rfl (Sub.cons rfl (Sub.cons rfl (Sub.cons rfl (Sub.cons rfl (Sub.cons rfl Sub.nil)))))) ?_
          refine Wk.seq ?_
          refine Wk.region ?_
          refine Ll.op (v := va) rfl rfl rfl (OpQ.move rfl rfl) ?_
          refine Ll.callRow (xs := [.tmp 42]) (m := xs.length) (vs := ints xs) (el := 3) (size := 1) rfl rfl rfl rfl Tryd.call22 rfl (fun w1 hw1 => toInt_ok va xs w1 (Row.own hva hw1) (by omega)) fun p43 cap43 cur43 hp43 hcp43 hlp43 htp43 => ?_
          refine Ll.op (v := .slice (some ⟨p43, 0, none⟩) xs.length cap43) rfl rfl rfl (OpQ.assign rfl rfl) ?_
          refine Ll.nil ?_
          refine Kt.onSub (e' := [(1, va), (3, vb), (4, .int .i64 r), (5, .pointer (some ⟨p5, 0, none⟩)), (7, .pointer (some ⟨p7, 0, none⟩)), (12, .bool (secB a xs b ys r)), (13, .slice (some ⟨p43, 0, none⟩) xs.length cap43)]) (Sub.cons rfl (Sub.cons rfl (Sub.cons rfl (Sub.cons rfl (Sub.cons rfl (Sub.cons rfl (Sub.cons rfl Sub.nil))))))) ?_
          refine Wk.seq ?_
          refine Wk.region ?_
          refine Ll.op (v := vb) rfl rfl rfl (OpQ.move rfl rfl) ?_
          refine Ll.callRow (xs := [.tmp 44]) (m := ys.length) (vs := ints ys) (el := 3) (size := 1) rfl rfl rfl rfl Tryd.call22 rfl (fun w1 hw1 => toInt_ok vb ys w1 (Row.own hvb hw1) (by omega)) fun p45 cap45 cur45 hp45 hcp45 hlp45 htp45 => ?_
          refine Ll.op (v := .slice (some ⟨p45, 0, none⟩) ys.length cap45) rfl rfl rfl (OpQ.assign rfl rfl) ?_
          refine Ll.nil ?_
          refine Kt.onSub (e' := [(1, va), (3, vb), (4, .int .i64 r), (5, .pointer (some ⟨p5, 0, none⟩)), (7, .pointer (some ⟨p7, 0, none⟩)), (12, .bool (secB a xs b ys r)), (13, .slice (some ⟨p43, 0, none⟩) xs.length cap43), (14, .slice (some ⟨p45, 0, none⟩) ys.length cap45)]) (Sub.cons rfl (Sub.cons rfl (Sub.cons rfl (Sub.cons rfl (Sub.cons rfl (Sub.cons rfl (Sub.cons rfl (Sub.cons rfl Sub.nil)))))))) ?_
          refine Wk.seq ?_
          refine Wk.regionD Base.mixed (fun _ h => h.drawn) (by kernel_rfl) ?_
          refine Lq.op (v := vS a) rfl rfl rfl (OpQ.loadBox (cs := #[.int .i64 a.n, str a.set, str a.rel]) 5 rfl Tryd.isAgg23 rfl rfl Tryd.sizeOf23) ?_
          refine Lq.op (v := vS a) rfl rfl rfl (OpQ.call rfl Tryd.call17 rfl Own.stable (fun w1 hw1 => toSt_ok a w1 )) ?_
          refine Lq.op (v := .slice (some ⟨p43, 0, none⟩) xs.length cap43) rfl rfl rfl (OpQ.move rfl rfl) ?_
          refine Lq.op (v := vS b) rfl rfl rfl (OpQ.loadBox (cs := #[.int .i64 b.n, str b.set, str b.rel]) 4 rfl Tryd.isAgg23 rfl rfl Tryd.sizeOf23) ?_
          refine Lq.op (v := vS b) rfl rfl rfl (OpQ.call rfl Tryd.call17 rfl Own.stable (fun w1 hw1 => toSt_ok b w1 )) ?_
          refine Lq.op (v := .slice (some ⟨p45, 0, none⟩) ys.length cap45) rfl rfl rfl (OpQ.move rfl rfl) ?_
          refine Lq.op (v := .int .i64 r) rfl rfl rfl (OpQ.move rfl rfl) ?_
          refine Lq.op (v := .bool (secB a xs b ys r)) rfl rfl rfl (OpQ.call rfl Tryd.call23 rfl Own.stable (fun w1 hw1 => iWins_ok a b xs ys (.slice (some ⟨p43, 0, none⟩) xs.length cap43) (.slice (some ⟨p45, 0, none⟩) ys.length cap45) w1 hsa hsb (Own.row hw1 (i := 1) rfl (by simpa using htp43) (by simp) hlp43) (Own.row hw1 (i := 0) rfl (by simpa using htp45) (by simp) hlp45) (by first | (simp; done) | (simp; omega) | omega) (by first | (simp; done) | (simp; omega) | omega) r)) ?_
          refine Lq.op (v := .bool (secB a xs b ys r)) rfl rfl rfl (OpQ.assign rfl rfl) ?_
          refine Lq.nil ?_
          refine Kt.onSub (e' := [(1, va), (3, vb), (12, .bool (secB a xs b ys r)), (13, .slice (some ⟨p43, 0, none⟩) xs.length cap43), (14, .slice (some ⟨p45, 0, none⟩) ys.length cap45), (15, .bool (secB a xs b ys r))]) (Sub.cons rfl (Sub.cons rfl (Sub.cons rfl (Sub.cons rfl (Sub.cons rfl (Sub.cons rfl Sub.nil)))))) ?_
          refine Wk.seq ?_
          refine Wk.seq ?_
          refine Wk.regionQ ?_
          refine Lq.op (v := .bool (secB a xs b ys r)) rfl rfl rfl (OpQ.move rfl rfl) ?_
          refine Lq.op (v := .bool (secB a xs b ys r)) rfl rfl rfl (OpQ.move rfl rfl) ?_
          refine Lq.op (v := .bool ((secB a xs b ys r) != (secB a xs b ys r))) rfl rfl rfl (OpQ.bne rfl Tryd.runUnderlying4 rfl rfl) ?_
          refine Lq.nil ?_
          refine Kt.onSub (e' := [(1, va), (3, vb), (13, .slice (some ⟨p43, 0, none⟩) xs.length cap43), (14, .slice (some ⟨p45, 0, none⟩) ys.length cap45), (56, .bool ((secB a xs b ys r) != (secB a xs b ys r)))]) (Sub.cons rfl (Sub.cons rfl (Sub.cons rfl (Sub.cons rfl (Sub.cons rfl Sub.nil))))) ?_
          refine Wk.cond (b := (secB a xs b ys r) != (secB a xs b ys r)) rfl (fun h56 => ?_) (fun h56 => ?_)
          · skip
            exact absurd h56 (by simp)
          · skip
            refine Wk.skip ?_
            refine Kt.onSub (e' := [(1, va), (3, vb), (13, .slice (some ⟨p43, 0, none⟩) xs.length cap43), (14, .slice (some ⟨p45, 0, none⟩) ys.length cap45)]) (Sub.cons rfl (Sub.cons rfl (Sub.cons rfl (Sub.cons rfl Sub.nil)))) ?_
            refine Wk.seq ?_
            refine Wk.seq ?_
            refine Wk.region ?_
            refine Ll.op (v := .slice (some ⟨p43, 0, none⟩) xs.length cap43) rfl rfl rfl (OpQ.move rfl rfl) ?_
            refine Ll.op (v := va) rfl rfl rfl (OpQ.move rfl rfl) ?_
            refine Ll.callRow (xs := [.tmp 58]) (m := xs.length) (vs := ints xs) (el := 3) (size := 1) rfl rfl rfl rfl Tryd.call22 rfl (fun w1 hw1 => toInt_ok va xs w1 (Row.own hva hw1) (by omega)) fun p59 cap59 cur59 hp59 hcp59 hlp59 htp59 => ?_
            refine Ll.op (v := .bool true) rfl rfl rfl (OpQ.call rfl Tryd.call24 rfl Own.stable (fun w1 hw1 => known_b (beq_self_eq_true _) (eqInt_ok (.slice (some ⟨p43, 0, none⟩) xs.length cap43) (.slice (some ⟨p59, 0, none⟩) xs.length cap59) xs xs w1 (Own.row hw1 (i := 2) rfl (by simpa using htp43) (by simp) hlp43) (Own.row hw1 (i := 0) rfl (by simpa using htp59) (by simp) hlp59) (by first | (simp; done) | (simp; omega) | omega)))) ?_
            refine Ll.op (v := .bool false) rfl rfl rfl (OpQ.notT rfl rfl) ?_
            refine Ll.nil ?_
            refine Kt.onSub (e' := [(3, vb), (14, .slice (some ⟨p45, 0, none⟩) ys.length cap45), (61, .bool false)]) (Sub.cons rfl (Sub.cons rfl (Sub.cons rfl Sub.nil))) ?_
            refine Wk.condF rfl ?_
            refine Wk.skip ?_
            refine Kt.onSub (e' := [(3, vb), (14, .slice (some ⟨p45, 0, none⟩) ys.length cap45)]) (Sub.cons rfl (Sub.cons rfl Sub.nil)) ?_
            refine Wk.seq ?_
            refine Wk.seq ?_
            refine Wk.region ?_
            refine Ll.op (v := .slice (some ⟨p45, 0, none⟩) ys.length cap45) rfl rfl rfl (OpQ.move rfl rfl) ?_
            refine Ll.op (v := vb) rfl rfl rfl (OpQ.move rfl rfl) ?_
            refine Ll.callRow (xs := [.tmp 63]) (m := ys.length) (vs := ints ys) (el := 3) (size := 1) rfl rfl rfl rfl Tryd.call22 rfl (fun w1 hw1 => toInt_ok vb ys w1 (Row.own hvb hw1) (by omega)) fun p64 cap64 cur64 hp64 hcp64 hlp64 htp64 => ?_
            refine Ll.op (v := .bool true) rfl rfl rfl (OpQ.call rfl Tryd.call24 rfl Own.stable (fun w1 hw1 => known_b (beq_self_eq_true _) (eqInt_ok (.slice (some ⟨p45, 0, none⟩) ys.length cap45) (.slice (some ⟨p64, 0, none⟩) ys.length cap64) ys ys w1 (Own.row hw1 (i := 2) rfl (by simpa using htp45) (by simp) hlp45) (Own.row hw1 (i := 0) rfl (by simpa using htp64) (by simp) hlp64) (by first | (simp; done) | (simp; omega) | omega)))) ?_
            refine Ll.op (v := .bool false) rfl rfl rfl (OpQ.notT rfl rfl) ?_
            refine Ll.nil ?_
            refine Kt.onSub (e' := [(66, .bool false)]) (Sub.cons rfl Sub.nil) ?_
            refine Wk.condF rfl ?_
            refine Wk.skip ?_
            refine Kt.onSub (e' := []) Sub.nil ?_
            refine Wk.seq ?_
            refine Wk.regionQ ?_
            refine Lq.op (v := .bool true) rfl rfl rfl (OpQ.assign rfl rfl) ?_
            refine Lq.nil ?_
            refine Kt.onSub (e' := [(10, .bool true)]) (Sub.cons rfl Sub.nil) ?_
            refine Wk.ret (Kt.end1 rfl rfl fun w' hw => ?_)
            -- ret 4: .bool true
            exact ⟨ret_b (by first | rfl | (simp_all; done) | (simp_all; omega)), hw.below⟩

set_option maxHeartbeats 400000 in
/-- laws.FnExactWonRounds -/
theorem lawWon (a b : St) (xs ys : List Int) (va vb : Value) (w : World) (h1a : a.set.length ≤ 9223372036854775807) (h2a : a.rel.length ≤ 9223372036854775807) (h1b : b.set.length ≤ 9223372036854775807) (h2b : b.rel.length ≤ 9223372036854775807) (hva : Ints w va xs) (hvb : Ints w vb ys) (loa : -9223372036854775808 ≤ a.n) (hia : a.n ≤ 9223372036854775807) (lob : -9223372036854775808 ≤ b.n) (hib : b.n ≤ 9223372036854775807) :
    Calls Tryd.prog 6 [vS a, va, vS b, vb].toArray w fun en w' => en = .returned (.bool true) ∧ Below w.heap.size w w' := by
  refine fnStart (n := 63) (e := [(0, vS a), (1, va), (2, vS b), (3, vb)]) Tryd.func6 rfl rfl rfl rfl Ends.both ?_
  refine Wk.seq ?_
  refine Wk.region ?_
  refine Ll.box (v := vS a) rfl rfl rfl rfl rfl fun p4 hp4 => ?_
  show Ll _ _ (Own _ _ [(p4, .cells #[.int .i64 a.n, str a.set, str a.rel] 23 (0, 0))]) _ _ ((4, .pointer (some ⟨p4, 0, none⟩)) :: _) _ _ _
  refine Ll.box (v := vS b) rfl rfl rfl rfl rfl fun p6 hp6 => ?_
  show Ll _ _ (Own _ _ [(p6, .cells #[.int .i64 b.n, str b.set, str b.rel] 23 (0, 0)), (p4, .cells #[.int .i64 a.n, str a.set, str a.rel] 23 (0, 0))]) _ _ ((6, .pointer (some ⟨p6, 0, none⟩)) :: _) _ _ _
  refine Ll.op (v := .bool false) rfl rfl rfl (OpQ.assign rfl rfl) ?_
  refine Ll.nil ?_
  refine Kt.onSub (e' := [(1, va), (3, vb), (4, .pointer (some ⟨p4, 0, none⟩)), (6, .pointer (some ⟨p6, 0, none⟩))]) (Sub.cons rfl (Sub.cons rfl (Sub.cons rfl (Sub.cons rfl Sub.nil)))) ?_
  refine Wk.seq ?_
  refine Wk.seq ?_
  refine Wk.regionQ ?_
  refine Lq.op (v := va) rfl rfl rfl (OpQ.move rfl rfl) ?_
  refine Lq.op (v := .int .i64 ((xs.length : Int))) rfl rfl rfl (OpQ.lenRow rfl Tryd.runUnderlying31 rfl (ints_length _) (fun w1 hw1 => Row.own hva hw1)) ?_
  refine Lq.op (v := .bool (decide ((1048576 : Int) < ((xs.length : Int))))) rfl rfl rfl (OpQ.gtr rfl rfl rfl) ?_
  refine Lq.nil ?_
  refine Kt.onSub (e' := [(1, va), (3, vb), (4, .pointer (some ⟨p4, 0, none⟩)), (6, .pointer (some ⟨p6, 0, none⟩)), (16, .bool (decide ((1048576 : Int) < ((xs.length : Int)))))]) (Sub.cons rfl (Sub.cons rfl (Sub.cons rfl (Sub.cons rfl (Sub.cons rfl Sub.nil))))) ?_
  refine Wk.cond (b := decide ((1048576 : Int) < ((xs.length : Int)))) rfl (fun h16 => ?_) (fun h16 => ?_)
  · skip
    replace h16 := of_decide_eq_true h16
    refine Wk.seq ?_
    refine Wk.regionQ ?_
    refine Lq.op (v := .bool true) rfl rfl rfl (OpQ.assign rfl rfl) ?_
    refine Lq.nil ?_
    refine Kt.onSub (e' := [(8, .bool true)]) (Sub.cons rfl Sub.nil) ?_
    refine Wk.ret (Kt.end1 rfl rfl fun w' hw => ?_)
    -- ret 0: .bool true
    exact ⟨ret_b (by first | rfl | (simp_all; done) | (simp_all; omega)), hw.below⟩
  · skip
    replace h16 := of_decide_eq_false h16
    refine Wk.skip ?_
    refine Kt.onSub (e' := [(1, va), (3, vb), (4, .pointer (some ⟨p4, 0, none⟩)), (6, .pointer (some ⟨p6, 0, none⟩))]) (Sub.cons rfl (Sub.cons rfl (Sub.cons rfl (Sub.cons rfl Sub.nil)))) ?_
    refine Wk.seq ?_
    refine Wk.seq ?_
    refine Wk.regionQ ?_
    refine Lq.op (v := vb) rfl rfl rfl (OpQ.move rfl rfl) ?_
    refine Lq.op (v := .int .i64 ((ys.length : Int))) rfl rfl rfl (OpQ.lenRow rfl Tryd.runUnderlying31 rfl (ints_length _) (fun w1 hw1 => Row.own hvb hw1)) ?_
    refine Lq.op (v := .bool (decide ((1048576 : Int) < ((ys.length : Int))))) rfl rfl rfl (OpQ.gtr rfl rfl rfl) ?_
    refine Lq.nil ?_
    refine Kt.onSub (e' := [(1, va), (3, vb), (4, .pointer (some ⟨p4, 0, none⟩)), (6, .pointer (some ⟨p6, 0, none⟩)), (19, .bool (decide ((1048576 : Int) < ((ys.length : Int)))))]) (Sub.cons rfl (Sub.cons rfl (Sub.cons rfl (Sub.cons rfl (Sub.cons rfl Sub.nil))))) ?_
    refine Wk.cond (b := decide ((1048576 : Int) < ((ys.length : Int)))) rfl (fun h19 => ?_) (fun h19 => ?_)
    · skip
      replace h19 := of_decide_eq_true h19
      refine Wk.seq ?_
      refine Wk.regionQ ?_
      refine Lq.op (v := .bool true) rfl rfl rfl (OpQ.assign rfl rfl) ?_
      refine Lq.nil ?_
      refine Kt.onSub (e' := [(8, .bool true)]) (Sub.cons rfl Sub.nil) ?_
      refine Wk.ret (Kt.end1 rfl rfl fun w' hw => ?_)
      -- ret 1: .bool true
      exact ⟨ret_b (by first | rfl | (simp_all; done) | (simp_all; omega)), hw.below⟩
    · skip
      replace h19 := of_decide_eq_false h19
      refine Wk.skip ?_
      refine Kt.onSub (e' := [(1, va), (3, vb), (4, .pointer (some ⟨p4, 0, none⟩)), (6, .pointer (some ⟨p6, 0, none⟩))]) (Sub.cons rfl (Sub.cons rfl (Sub.cons rfl (Sub.cons rfl Sub.nil)))) ?_
      refine Wk.seq ?_
      refine Wk.regionQ ?_
      refine Lq.op (v := .int .i64 1048576) rfl rfl rfl (OpQ.assign rfl rfl) ?_
      refine Lq.nil ?_
      refine Kt.onSub (e' := [(1, va), (3, vb), (4, .pointer (some ⟨p4, 0, none⟩)), (6, .pointer (some ⟨p6, 0, none⟩)), (9, .int .i64 1048576)]) (Sub.cons rfl (Sub.cons rfl (Sub.cons rfl (Sub.cons rfl (Sub.cons rfl Sub.nil))))) ?_
      refine Wk.seq ?_
      refine Wk.regionQ ?_
      refine Lq.op (v := vS a) rfl rfl rfl (OpQ.loadBox (cs := #[.int .i64 a.n, str a.set, str a.rel]) 1 rfl Tryd.isAgg23 rfl rfl Tryd.sizeOf23) ?_
      refine Lq.op (v := .int .i64 1048576) rfl rfl rfl (OpQ.move rfl rfl) ?_
      refine Lq.op (v := .int .i64 (szB a 1048576)) rfl rfl rfl (OpQ.call rfl Tryd.call15 rfl Own.stable (fun w1 hw1 => sz_ok a 1048576 w1 (by omega) (by omega) h1a h2a)) ?_
      refine Lq.op (v := .int .i64 (szB a 1048576)) rfl rfl rfl (OpQ.assign rfl rfl) ?_
      refine Lq.nil ?_
      refine Kt.onSub (e' := [(1, va), (3, vb), (4, .pointer (some ⟨p4, 0, none⟩)), (6, .pointer (some ⟨p6, 0, none⟩)), (9, .int .i64 (szB a 1048576))]) (Sub.cons rfl (Sub.cons rfl (Sub.cons rfl (Sub.cons rfl (Sub.cons rfl Sub.nil))))) ?_
      refine Wk.seq ?_
      refine Wk.seq ?_
      refine Wk.regionQ ?_
      refine Lq.op (v := .int .i64 (szB a 1048576)) rfl rfl rfl (OpQ.move rfl rfl) ?_
      refine Lq.op (v := .bool (decide ((szB a 1048576) < (0 : Int)))) rfl rfl rfl (OpQ.lss rfl rfl rfl) ?_
      refine Lq.nil ?_
      refine Kt.onSub (e' := [(1, va), (3, vb), (4, .pointer (some ⟨p4, 0, none⟩)), (6, .pointer (some ⟨p6, 0, none⟩)), (9, .int .i64 (szB a 1048576)), (24, .bool (decide ((szB a 1048576) < (0 : Int))))]) (Sub.cons rfl (Sub.cons rfl (Sub.cons rfl (Sub.cons rfl (Sub.cons rfl (Sub.cons rfl Sub.nil)))))) ?_
      refine Wk.cond (b := decide ((szB a 1048576) < (0 : Int))) rfl (fun h24 => ?_) (fun h24 => ?_)
      · skip
        replace h24 := of_decide_eq_true h24
        refine Wk.seq ?_
        refine Wk.regionQ ?_
        refine Lq.op (v := .bool true) rfl rfl rfl (OpQ.assign rfl rfl) ?_
        refine Lq.nil ?_
        refine Kt.onSub (e' := [(8, .bool true)]) (Sub.cons rfl Sub.nil) ?_
        refine Wk.ret (Kt.end1 rfl rfl fun w' hw => ?_)
        -- ret 2: .bool true
        exact ⟨ret_b (by first | rfl | (simp_all; done) | (simp_all; omega)), hw.below⟩
      · skip
        replace h24 := of_decide_eq_false h24
        obtain ⟨hsa, hz0a, hz1a⟩ := szB_small (by omega) h24
        refine Wk.skip ?_
        refine Kt.onSub (e' := [(1, va), (3, vb), (4, .pointer (some ⟨p4, 0, none⟩)), (6, .pointer (some ⟨p6, 0, none⟩)), (9, .int .i64 (szB a 1048576))]) (Sub.cons rfl (Sub.cons rfl (Sub.cons rfl (Sub.cons rfl (Sub.cons rfl Sub.nil))))) ?_
        refine Wk.seq ?_
        refine Wk.regionQ ?_
        refine Lq.op (v := vS b) rfl rfl rfl (OpQ.loadBox (cs := #[.int .i64 b.n, str b.set, str b.rel]) 0 rfl Tryd.isAgg23 rfl rfl Tryd.sizeOf23) ?_
        refine Lq.op (v := .int .i64 (szB a 1048576)) rfl rfl rfl (OpQ.move rfl rfl) ?_
        refine Lq.op (v := .int .i64 (szB b (szB a 1048576))) rfl rfl rfl (OpQ.call rfl Tryd.call15 rfl Own.stable (fun w1 hw1 => sz_ok b (szB a 1048576) w1 (by omega) (by omega) h1b h2b)) ?_
        refine Lq.op (v := .int .i64 (szB b (szB a 1048576))) rfl rfl rfl (OpQ.assign rfl rfl) ?_
        refine Lq.nil ?_
        refine Kt.onSub (e' := [(1, va), (3, vb), (4, .pointer (some ⟨p4, 0, none⟩)), (6, .pointer (some ⟨p6, 0, none⟩)), (9, .int .i64 (szB b (szB a 1048576)))]) (Sub.cons rfl (Sub.cons rfl (Sub.cons rfl (Sub.cons rfl (Sub.cons rfl Sub.nil))))) ?_
        refine Wk.seq ?_
        refine Wk.seq ?_
        refine Wk.regionQ ?_
        refine Lq.op (v := .int .i64 (szB b (szB a 1048576))) rfl rfl rfl (OpQ.move rfl rfl) ?_
        refine Lq.op (v := .bool (decide ((szB b (szB a 1048576)) < (0 : Int)))) rfl rfl rfl (OpQ.lss rfl rfl rfl) ?_
        refine Lq.nil ?_
        refine Kt.onSub (e' := [(1, va), (3, vb), (4, .pointer (some ⟨p4, 0, none⟩)), (6, .pointer (some ⟨p6, 0, none⟩)), (29, .bool (decide ((szB b (szB a 1048576)) < (0 : Int))))]) (Sub.cons rfl (Sub.cons rfl (Sub.cons rfl (Sub.cons rfl (Sub.cons rfl Sub.nil))))) ?_
        refine Wk.cond (b := decide ((szB b (szB a 1048576)) < (0 : Int))) rfl (fun h29 => ?_) (fun h29 => ?_)
        · skip
          replace h29 := of_decide_eq_true h29
          refine Wk.seq ?_
          refine Wk.regionQ ?_
          refine Lq.op (v := .bool true) rfl rfl rfl (OpQ.assign rfl rfl) ?_
          refine Lq.nil ?_
          refine Kt.onSub (e' := [(8, .bool true)]) (Sub.cons rfl Sub.nil) ?_
          refine Wk.ret (Kt.end1 rfl rfl fun w' hw => ?_)
          -- ret 3: .bool true
          exact ⟨ret_b (by first | rfl | (simp_all; done) | (simp_all; omega)), hw.below⟩
        · skip
          replace h29 := of_decide_eq_false h29
          obtain ⟨hsb, hz0b, hz1b⟩ := szB_small (by omega) h29
          refine Wk.skip ?_
          refine Kt.onSub (e' := [(1, va), (3, vb), (4, .pointer (some ⟨p4, 0, none⟩)), (6, .pointer (some ⟨p6, 0, none⟩))]) (Sub.cons rfl (Sub.cons rfl (Sub.cons rfl (Sub.cons rfl Sub.nil)))) ?_
          refine Wk.seq ?_
          refine Wk.regionO [(0, true), (2, true), (4, true), (6, true), (1, false), (3, false), (5, false), (7, false), (8, false), (9, true)] Base.mixed (fun _ h => h.drawn) (by kernel_rfl) ?_
          refine Ld.take (v := vS a) rfl rfl rfl rfl rfl (OpQ.loadBox (cs := #[.int .i64 a.n, str a.set, str a.rel]) 1 rfl Tryd.isAgg23 rfl rfl Tryd.sizeOf23) (fun _ h => h) ?_
          refine Ld.take (v := va) rfl rfl rfl rfl rfl (OpQ.move rfl rfl) (fun _ h => h) ?_
          refine Ld.take (v := vS b) rfl rfl rfl rfl rfl (OpQ.loadBox (cs := #[.int .i64 b.n, str b.set, str b.rel]) 0 rfl Tryd.isAgg23 rfl rfl Tryd.sizeOf23) (fun _ h => h) ?_
          refine Ld.take (v := vb) rfl rfl rfl rfl rfl (OpQ.move rfl rfl) (fun _ h => h) ?_
          refine Ld.loud rfl ?_
          refine Ll.op (v := vS a) rfl rfl rfl (OpQ.call rfl Tryd.call17 rfl Own.stable (fun w1 hw1 => toSt_ok a w1 )) ?_
          refine Ll.nil (Ld.joint (fun _ h => h) ?_)
          refine Ld.loud rfl ?_
          refine Ll.callRow (xs := [.tmp 32]) (m := xs.length) (vs := ints xs) (el := 3) (size := 1) rfl rfl rfl rfl Tryd.call22 rfl (fun w1 hw1 => toInt_ok va xs w1 (Row.own hva hw1) (by omega)) fun p33 cap33 cur33 hp33 hcp33 hlp33 htp33 => ?_
          refine Ll.nil (Ld.joint (fun _ h => h.tail) ?_)
          refine Ld.loud rfl ?_
          refine Ll.op (v := vS b) rfl rfl rfl (OpQ.call rfl Tryd.call17 rfl Own.stable (fun w1 hw1 => toSt_ok b w1 )) ?_
          refine Ll.nil (Ld.joint (fun _ h => h.tail) ?_)
          refine Ld.loud rfl ?_
          refine Ll.callRow (xs := [.tmp 36]) (m := ys.length) (vs := ints ys) (el := 3) (size := 1) rfl rfl rfl rfl Tryd.call22 rfl (fun w1 hw1 => toInt_ok vb ys w1 (Row.own hvb hw1) (by omega)) fun p37 cap37 cur37 hp37 hcp37 hlp37 htp37 => ?_
          refine Ll.nil (Ld.joint (fun _ h => h.tail.tail) ?_)
          refine Ld.loud rfl ?_
          refine Ll.op (v := .int .i64 (wonI a xs b ys)) rfl rfl rfl (OpQ.call rfl Tryd.call25 rfl Own.stable (fun w1 hw1 => sWon_ok a b xs ys (.slice (some ⟨p33, 0, none⟩) xs.length cap33) (.slice (some ⟨p37, 0, none⟩) ys.length cap37) w1 hsa hsb (Own.row hw1 (i := 1) rfl (by simpa using htp33) (by simp) hlp33) (Own.row hw1 (i := 0) rfl (by simpa using htp37) (by simp) hlp37) (by first | (simp; done) | (simp; omega) | omega) (by first | (simp; done) | (simp; omega) | omega) loa hia lob hib)) ?_
          refine Ll.nil (Ld.joint (fun _ h => h.tail.tail) ?_)
          refine Ld.take (v := .int .i64 (wonI a xs b ys)) rfl rfl rfl rfl rfl (OpQ.assign rfl rfl) (fun _ h => h.tail.tail) ?_
          refine Ld.nil ?_
          refine Kt.onSub (e' := [(1, va), (3, vb), (4, .pointer (some ⟨p4, 0, none⟩)), (6, .pointer (some ⟨p6, 0, none⟩)), (10, .int .i64 (wonI a xs b ys))]) (Sub.cons rfl (Sub.cons rfl (Sub.cons rfl (Sub.cons rfl (Sub.cons rfl Sub.nil))))) ?_
          refine Wk.seq ?_
          refine Wk.region ?_
          refine Ll.op (v := va) rfl rfl rfl (OpQ.move rfl rfl) ?_
          refine Ll.callRow (xs := [.tmp 39]) (m := xs.length) (vs := ints xs) (el := 3) (size := 1) rfl rfl rfl rfl Tryd.call22 rfl (fun w1 hw1 => toInt_ok va xs w1 (Row.own hva hw1) (by omega)) fun p40 cap40 cur40 hp40 hcp40 hlp40 htp40 => ?_
          refine Ll.op (v := .slice (some ⟨p40, 0, none⟩) xs.length cap40) rfl rfl rfl (OpQ.assign rfl rfl) ?_
          refine Ll.nil ?_
          refine Kt.onSub (e' := [(1, va), (3, vb), (4, .pointer (some ⟨p4, 0, none⟩)), (6, .pointer (some ⟨p6, 0, none⟩)), (10, .int .i64 (wonI a xs b ys)), (11, .slice (some ⟨p40, 0, none⟩) xs.length cap40)]) (Sub.cons rfl (Sub.cons rfl (Sub.cons rfl (Sub.cons rfl (Sub.cons rfl (Sub.cons rfl Sub.nil)))))) ?_
          refine Wk.seq ?_
          refine Wk.region ?_
          refine Ll.op (v := vb) rfl rfl rfl (OpQ.move rfl rfl) ?_
          refine Ll.callRow (xs := [.tmp 41]) (m := ys.length) (vs := ints ys) (el := 3) (size := 1) rfl rfl rfl rfl Tryd.call22 rfl (fun w1 hw1 => toInt_ok vb ys w1 (Row.own hvb hw1) (by omega)) fun p42 cap42 cur42 hp42 hcp42 hlp42 htp42 => ?_
          refine Ll.op (v := .slice (some ⟨p42, 0, none⟩) ys.length cap42) rfl rfl rfl (OpQ.assign rfl rfl) ?_
          refine Ll.nil ?_
          refine Kt.onSub (e' := [(1, va), (3, vb), (4, .pointer (some ⟨p4, 0, none⟩)), (6, .pointer (some ⟨p6, 0, none⟩)), (10, .int .i64 (wonI a xs b ys)), (11, .slice (some ⟨p40, 0, none⟩) xs.length cap40), (12, .slice (some ⟨p42, 0, none⟩) ys.length cap42)]) (Sub.cons rfl (Sub.cons rfl (Sub.cons rfl (Sub.cons rfl (Sub.cons rfl (Sub.cons rfl (Sub.cons rfl Sub.nil))))))) ?_
          refine Wk.seq ?_
          refine Wk.regionD Base.mixed (fun _ h => h.drawn) (by kernel_rfl) ?_
          refine Lq.op (v := vS a) rfl rfl rfl (OpQ.loadBox (cs := #[.int .i64 a.n, str a.set, str a.rel]) 5 rfl Tryd.isAgg23 rfl rfl Tryd.sizeOf23) ?_
          refine Lq.op (v := vS a) rfl rfl rfl (OpQ.call rfl Tryd.call17 rfl Own.stable (fun w1 hw1 => toSt_ok a w1 )) ?_
          refine Lq.op (v := .slice (some ⟨p40, 0, none⟩) xs.length cap40) rfl rfl rfl (OpQ.move rfl rfl) ?_
          refine Lq.op (v := vS b) rfl rfl rfl (OpQ.loadBox (cs := #[.int .i64 b.n, str b.set, str b.rel]) 4 rfl Tryd.isAgg23 rfl rfl Tryd.sizeOf23) ?_
          refine Lq.op (v := vS b) rfl rfl rfl (OpQ.call rfl Tryd.call17 rfl Own.stable (fun w1 hw1 => toSt_ok b w1 )) ?_
          refine Lq.op (v := .slice (some ⟨p42, 0, none⟩) ys.length cap42) rfl rfl rfl (OpQ.move rfl rfl) ?_
          refine Lq.op (v := .int .i64 (wonI a xs b ys)) rfl rfl rfl (OpQ.call rfl Tryd.call26 rfl Own.stable (fun w1 hw1 => iWon_ok a b xs ys (.slice (some ⟨p40, 0, none⟩) xs.length cap40) (.slice (some ⟨p42, 0, none⟩) ys.length cap42) w1 hsa hsb (Own.row hw1 (i := 1) rfl (by simpa using htp40) (by simp) hlp40) (Own.row hw1 (i := 0) rfl (by simpa using htp42) (by simp) hlp42) (by first | (simp; done) | (simp; omega) | omega) (by first | (simp; done) | (simp; omega) | omega))) ?_
          refine Lq.op (v := .int .i64 (wonI a xs b ys)) rfl rfl rfl (OpQ.assign rfl rfl) ?_
          refine Lq.nil ?_
          refine Kt.onSub (e' := [(1, va), (3, vb), (10, .int .i64 (wonI a xs b ys)), (11, .slice (some ⟨p40, 0, none⟩) xs.length cap40), (12, .slice (some ⟨p42, 0, none⟩) ys.length cap42), (13, .int .i64 (wonI a xs b ys))]) (Sub.cons rfl (Sub.cons rfl (Sub.cons rfl (Sub.cons rfl (Sub.cons rfl (Sub.cons rfl Sub.nil)))))) ?_
          refine Wk.seq ?_
          refine Wk.seq ?_
          refine Wk.regionQ ?_
          refine Lq.op (v := .int .i64 (wonI a xs b ys)) rfl rfl rfl (OpQ.move rfl rfl) ?_
          refine Lq.op (v := .int .i64 (wonI a xs b ys)) rfl rfl rfl (OpQ.move rfl rfl) ?_
          refine Lq.op (v := .bool (!(decide ((wonI a xs b ys) = (wonI a xs b ys))))) rfl rfl rfl (OpQ.neq rfl rfl rfl) ?_
          refine Lq.nil ?_
          refine Kt.onSub (e' := [(1, va), (3, vb), (11, .slice (some ⟨p40, 0, none⟩) xs.length cap40), (12, .slice (some ⟨p42, 0, none⟩) ys.length cap42), (52, .bool (!(decide ((wonI a xs b ys) = (wonI a xs b ys)))))]) (Sub.cons rfl (Sub.cons rfl (Sub.cons rfl (Sub.cons rfl (Sub.cons rfl Sub.nil))))) ?_
          refine Wk.cond (b := !(decide ((wonI a xs b ys) = (wonI a xs b ys)))) rfl (fun h52 => ?_) (fun h52 => ?_)
          · skip
            replace h52 := not_true h52
            replace h52 := of_decide_eq_false h52
            exact absurd rfl h52
          · skip
            replace h52 := not_false h52
            replace h52 := of_decide_eq_true h52
            refine Wk.skip ?_
            refine Kt.onSub (e' := [(1, va), (3, vb), (11, .slice (some ⟨p40, 0, none⟩) xs.length cap40), (12, .slice (some ⟨p42, 0, none⟩) ys.length cap42)]) (Sub.cons rfl (Sub.cons rfl (Sub.cons rfl (Sub.cons rfl Sub.nil)))) ?_
            refine Wk.seq ?_
            refine Wk.seq ?_
            refine Wk.region ?_
            refine Ll.op (v := .slice (some ⟨p40, 0, none⟩) xs.length cap40) rfl rfl rfl (OpQ.move rfl rfl) ?_
            refine Ll.op (v := va) rfl rfl rfl (OpQ.move rfl rfl) ?_
            refine Ll.callRow (xs := [.tmp 54]) (m := xs.length) (vs := ints xs) (el := 3) (size := 1) rfl rfl rfl rfl Tryd.call22 rfl (fun w1 hw1 => toInt_ok va xs w1 (Row.own hva hw1) (by omega)) fun p55 cap55 cur55 hp55 hcp55 hlp55 htp55 => ?_
            refine Ll.op (v := .bool true) rfl rfl rfl (OpQ.call rfl Tryd.call24 rfl Own.stable (fun w1 hw1 => known_b (beq_self_eq_true _) (eqInt_ok (.slice (some ⟨p40, 0, none⟩) xs.length cap40) (.slice (some ⟨p55, 0, none⟩) xs.length cap55) xs xs w1 (Own.row hw1 (i := 2) rfl (by simpa using htp40) (by simp) hlp40) (Own.row hw1 (i := 0) rfl (by simpa using htp55) (by simp) hlp55) (by first | (simp; done) | (simp; omega) | omega)))) ?_
            refine Ll.op (v := .bool false) rfl rfl rfl (OpQ.notT rfl rfl) ?_
            refine Ll.nil ?_
            refine Kt.onSub (e' := [(3, vb), (12, .slice (some ⟨p42, 0, none⟩) ys.length cap42), (57, .bool false)]) (Sub.cons rfl (Sub.cons rfl (Sub.cons rfl Sub.nil))) ?_
            refine Wk.condF rfl ?_
            refine Wk.skip ?_
            refine Kt.onSub (e' := [(3, vb), (12, .slice (some ⟨p42, 0, none⟩) ys.length cap42)]) (Sub.cons rfl (Sub.cons rfl Sub.nil)) ?_
            refine Wk.seq ?_
            refine Wk.seq ?_
            refine Wk.region ?_
            refine Ll.op (v := .slice (some ⟨p42, 0, none⟩) ys.length cap42) rfl rfl rfl (OpQ.move rfl rfl) ?_
            refine Ll.op (v := vb) rfl rfl rfl (OpQ.move rfl rfl) ?_
            refine Ll.callRow (xs := [.tmp 59]) (m := ys.length) (vs := ints ys) (el := 3) (size := 1) rfl rfl rfl rfl Tryd.call22 rfl (fun w1 hw1 => toInt_ok vb ys w1 (Row.own hvb hw1) (by omega)) fun p60 cap60 cur60 hp60 hcp60 hlp60 htp60 => ?_
            refine Ll.op (v := .bool true) rfl rfl rfl (OpQ.call rfl Tryd.call24 rfl Own.stable (fun w1 hw1 => known_b (beq_self_eq_true _) (eqInt_ok (.slice (some ⟨p42, 0, none⟩) ys.length cap42) (.slice (some ⟨p60, 0, none⟩) ys.length cap60) ys ys w1 (Own.row hw1 (i := 2) rfl (by simpa using htp42) (by simp) hlp42) (Own.row hw1 (i := 0) rfl (by simpa using htp60) (by simp) hlp60) (by first | (simp; done) | (simp; omega) | omega)))) ?_
            refine Ll.op (v := .bool false) rfl rfl rfl (OpQ.notT rfl rfl) ?_
            refine Ll.nil ?_
            refine Kt.onSub (e' := [(62, .bool false)]) (Sub.cons rfl Sub.nil) ?_
            refine Wk.condF rfl ?_
            refine Wk.skip ?_
            refine Kt.onSub (e' := []) Sub.nil ?_
            refine Wk.seq ?_
            refine Wk.regionQ ?_
            refine Lq.op (v := .bool true) rfl rfl rfl (OpQ.assign rfl rfl) ?_
            refine Lq.nil ?_
            refine Kt.onSub (e' := [(8, .bool true)]) (Sub.cons rfl Sub.nil) ?_
            refine Wk.ret (Kt.end1 rfl rfl fun w' hw => ?_)
            -- ret 4: .bool true
            exact ⟨ret_b (by first | rfl | (simp_all; done) | (simp_all; omega)), hw.below⟩

set_option maxHeartbeats 400000 in
/-- laws.FnExactSameRank -/
theorem lawSame (a b : St) (w : World) (h1a : a.set.length ≤ 9223372036854775807) (h2a : a.rel.length ≤ 9223372036854775807) (h1b : b.set.length ≤ 9223372036854775807) (h2b : b.rel.length ≤ 9223372036854775807) (loa : -9223372036854775808 ≤ a.n) (hia : a.n ≤ 9223372036854775807) (lob : -9223372036854775808 ≤ b.n) (hib : b.n ≤ 9223372036854775807) (r : Int) :
    Calls Tryd.prog 4 [vS a, vS b, .int .i64 r].toArray w fun en w' => en = .returned (.bool true) ∧ Below w.heap.size w w' := by
  refine fnStart (n := 35) (e := [(0, vS a), (1, vS b), (2, .int .i64 r)]) Tryd.func4 rfl rfl rfl rfl Ends.both ?_
  refine Wk.seq ?_
  refine Wk.region ?_
  refine Ll.box (v := vS a) rfl rfl rfl rfl rfl fun p3 hp3 => ?_
  show Ll _ _ (Own _ _ [(p3, .cells #[.int .i64 a.n, str a.set, str a.rel] 23 (0, 0))]) _ _ ((3, .pointer (some ⟨p3, 0, none⟩)) :: _) _ _ _
  refine Ll.box (v := vS b) rfl rfl rfl rfl rfl fun p4 hp4 => ?_
  show Ll _ _ (Own _ _ [(p4, .cells #[.int .i64 b.n, str b.set, str b.rel] 23 (0, 0)), (p3, .cells #[.int .i64 a.n, str a.set, str a.rel] 23 (0, 0))]) _ _ ((4, .pointer (some ⟨p4, 0, none⟩)) :: _) _ _ _
  refine Ll.op (v := .bool false) rfl rfl rfl (OpQ.assign rfl rfl) ?_
  refine Ll.nil ?_
  refine Kt.onSub (e' := [(2, .int .i64 r), (3, .pointer (some ⟨p3, 0, none⟩)), (4, .pointer (some ⟨p4, 0, none⟩))]) (Sub.cons rfl (Sub.cons rfl (Sub.cons rfl Sub.nil))) ?_
  refine Wk.seq ?_
  refine Wk.regionQ ?_
  refine Lq.op (v := .int .i64 1048576) rfl rfl rfl (OpQ.assign rfl rfl) ?_
  refine Lq.nil ?_
  refine Kt.onSub (e' := [(2, .int .i64 r), (3, .pointer (some ⟨p3, 0, none⟩)), (4, .pointer (some ⟨p4, 0, none⟩)), (7, .int .i64 1048576)]) (Sub.cons rfl (Sub.cons rfl (Sub.cons rfl (Sub.cons rfl Sub.nil)))) ?_
  refine Wk.seq ?_
  refine Wk.regionQ ?_
  refine Lq.op (v := vS a) rfl rfl rfl (OpQ.loadBox (cs := #[.int .i64 a.n, str a.set, str a.rel]) 1 rfl Tryd.isAgg23 rfl rfl Tryd.sizeOf23) ?_
  refine Lq.op (v := .int .i64 1048576) rfl rfl rfl (OpQ.move rfl rfl) ?_
  refine Lq.op (v := .int .i64 (szB a 1048576)) rfl rfl rfl (OpQ.call rfl Tryd.call15 rfl Own.stable (fun w1 hw1 => sz_ok a 1048576 w1 (by omega) (by omega) h1a h2a)) ?_
  refine Lq.op (v := .int .i64 (szB a 1048576)) rfl rfl rfl (OpQ.assign rfl rfl) ?_
  refine Lq.nil ?_
  refine Kt.onSub (e' := [(2, .int .i64 r), (3, .pointer (some ⟨p3, 0, none⟩)), (4, .pointer (some ⟨p4, 0, none⟩)), (7, .int .i64 (szB a 1048576))]) (Sub.cons rfl (Sub.cons rfl (Sub.cons rfl (Sub.cons rfl Sub.nil)))) ?_
  refine Wk.seq ?_
  refine Wk.seq ?_
  refine Wk.regionQ ?_
  refine Lq.op (v := .int .i64 (szB a 1048576)) rfl rfl rfl (OpQ.move rfl rfl) ?_
  refine Lq.op (v := .bool (decide ((szB a 1048576) < (0 : Int)))) rfl rfl rfl (OpQ.lss rfl rfl rfl) ?_
  refine Lq.nil ?_
  refine Kt.onSub (e' := [(2, .int .i64 r), (3, .pointer (some ⟨p3, 0, none⟩)), (4, .pointer (some ⟨p4, 0, none⟩)), (7, .int .i64 (szB a 1048576)), (14, .bool (decide ((szB a 1048576) < (0 : Int))))]) (Sub.cons rfl (Sub.cons rfl (Sub.cons rfl (Sub.cons rfl (Sub.cons rfl Sub.nil))))) ?_
  refine Wk.cond (b := decide ((szB a 1048576) < (0 : Int))) rfl (fun h14 => ?_) (fun h14 => ?_)
  · skip
    replace h14 := of_decide_eq_true h14
    refine Wk.seq ?_
    refine Wk.regionQ ?_
    refine Lq.op (v := .bool true) rfl rfl rfl (OpQ.assign rfl rfl) ?_
    refine Lq.nil ?_
    refine Kt.onSub (e' := [(6, .bool true)]) (Sub.cons rfl Sub.nil) ?_
    refine Wk.ret (Kt.end1 rfl rfl fun w' hw => ?_)
    -- ret 0: .bool true
    exact ⟨ret_b (by first | rfl | (simp_all; done) | (simp_all; omega)), hw.below⟩
  · skip
    replace h14 := of_decide_eq_false h14
    obtain ⟨hsa, hz0a, hz1a⟩ := szB_small (by omega) h14
    refine Wk.skip ?_
    refine Kt.onSub (e' := [(2, .int .i64 r), (3, .pointer (some ⟨p3, 0, none⟩)), (4, .pointer (some ⟨p4, 0, none⟩)), (7, .int .i64 (szB a 1048576))]) (Sub.cons rfl (Sub.cons rfl (Sub.cons rfl (Sub.cons rfl Sub.nil)))) ?_
    refine Wk.seq ?_
    refine Wk.regionQ ?_
    refine Lq.op (v := vS b) rfl rfl rfl (OpQ.loadBox (cs := #[.int .i64 b.n, str b.set, str b.rel]) 0 rfl Tryd.isAgg23 rfl rfl Tryd.sizeOf23) ?_
    refine Lq.op (v := .int .i64 (szB a 1048576)) rfl rfl rfl (OpQ.move rfl rfl) ?_
    refine Lq.op (v := .int .i64 (szB b (szB a 1048576))) rfl rfl rfl (OpQ.call rfl Tryd.call15 rfl Own.stable (fun w1 hw1 => sz_ok b (szB a 1048576) w1 (by omega) (by omega) h1b h2b)) ?_
    refine Lq.op (v := .int .i64 (szB b (szB a 1048576))) rfl rfl rfl (OpQ.assign rfl rfl) ?_
    refine Lq.nil ?_
    refine Kt.onSub (e' := [(2, .int .i64 r), (3, .pointer (some ⟨p3, 0, none⟩)), (4, .pointer (some ⟨p4, 0, none⟩)), (7, .int .i64 (szB b (szB a 1048576)))]) (Sub.cons rfl (Sub.cons rfl (Sub.cons rfl (Sub.cons rfl Sub.nil)))) ?_
    refine Wk.seq ?_
    refine Wk.seq ?_
    refine Wk.regionQ ?_
    refine Lq.op (v := .int .i64 (szB b (szB a 1048576))) rfl rfl rfl (OpQ.move rfl rfl) ?_
    refine Lq.op (v := .bool (decide ((szB b (szB a 1048576)) < (0 : Int)))) rfl rfl rfl (OpQ.lss rfl rfl rfl) ?_
    refine Lq.nil ?_
    refine Kt.onSub (e' := [(2, .int .i64 r), (3, .pointer (some ⟨p3, 0, none⟩)), (4, .pointer (some ⟨p4, 0, none⟩)), (19, .bool (decide ((szB b (szB a 1048576)) < (0 : Int))))]) (Sub.cons rfl (Sub.cons rfl (Sub.cons rfl (Sub.cons rfl Sub.nil)))) ?_
    refine Wk.cond (b := decide ((szB b (szB a 1048576)) < (0 : Int))) rfl (fun h19 => ?_) (fun h19 => ?_)
    · skip
      replace h19 := of_decide_eq_true h19
      refine Wk.seq ?_
      refine Wk.regionQ ?_
      refine Lq.op (v := .bool true) rfl rfl rfl (OpQ.assign rfl rfl) ?_
      refine Lq.nil ?_
      refine Kt.onSub (e' := [(6, .bool true)]) (Sub.cons rfl Sub.nil) ?_
      refine Wk.ret (Kt.end1 rfl rfl fun w' hw => ?_)
      -- ret 1: .bool true
      exact ⟨ret_b (by first | rfl | (simp_all; done) | (simp_all; omega)), hw.below⟩
    · skip
      replace h19 := of_decide_eq_false h19
      obtain ⟨hsb, hz0b, hz1b⟩ := szB_small (by omega) h19
      refine Wk.skip ?_
      refine Kt.onSub (e' := [(2, .int .i64 r), (3, .pointer (some ⟨p3, 0, none⟩)), (4, .pointer (some ⟨p4, 0, none⟩))]) (Sub.cons rfl (Sub.cons rfl (Sub.cons rfl Sub.nil))) ?_
      refine Wk.seq ?_
      refine Wk.regionD Base.mixed (fun _ h => h.drawn) (by kernel_rfl) ?_
      refine Lq.op (v := vS a) rfl rfl rfl (OpQ.loadBox (cs := #[.int .i64 a.n, str a.set, str a.rel]) 1 rfl Tryd.isAgg23 rfl rfl Tryd.sizeOf23) ?_
      refine Lq.op (v := vS a) rfl rfl rfl (OpQ.call rfl Tryd.call17 rfl Own.stable (fun w1 hw1 => toSt_ok a w1 )) ?_
      refine Lq.op (v := vS b) rfl rfl rfl (OpQ.loadBox (cs := #[.int .i64 b.n, str b.set, str b.rel]) 0 rfl Tryd.isAgg23 rfl rfl Tryd.sizeOf23) ?_
      refine Lq.op (v := vS b) rfl rfl rfl (OpQ.call rfl Tryd.call17 rfl Own.stable (fun w1 hw1 => toSt_ok b w1 )) ?_
      refine Lq.op (v := .int .i64 r) rfl rfl rfl (OpQ.move rfl rfl) ?_
      refine Lq.op (v := .bool (secB a [] b [] r)) rfl rfl rfl (OpQ.call rfl Tryd.call19 rfl Own.stable (fun w1 hw1 => sSame_ok a b w1 hsa hsb loa hia lob hib r)) ?_
      refine Lq.op (v := .bool (secB a [] b [] r)) rfl rfl rfl (OpQ.assign rfl rfl) ?_
      refine Lq.nil ?_
      refine Kt.onSub (e' := [(2, .int .i64 r), (3, .pointer (some ⟨p3, 0, none⟩)), (4, .pointer (some ⟨p4, 0, none⟩)), (8, .bool (secB a [] b [] r))]) (Sub.cons rfl (Sub.cons rfl (Sub.cons rfl (Sub.cons rfl Sub.nil)))) ?_
      refine Wk.seq ?_
      refine Wk.regionD Base.mixed (fun _ h => h.drawn) (by kernel_rfl) ?_
      refine Lq.op (v := vS a) rfl rfl rfl (OpQ.loadBox (cs := #[.int .i64 a.n, str a.set, str a.rel]) 1 rfl Tryd.isAgg23 rfl rfl Tryd.sizeOf23) ?_
      refine Lq.op (v := vS a) rfl rfl rfl (OpQ.call rfl Tryd.call17 rfl Own.stable (fun w1 hw1 => toSt_ok a w1 )) ?_
      refine Lq.op (v := vS b) rfl rfl rfl (OpQ.loadBox (cs := #[.int .i64 b.n, str b.set, str b.rel]) 0 rfl Tryd.isAgg23 rfl rfl Tryd.sizeOf23) ?_
      refine Lq.op (v := vS b) rfl rfl rfl (OpQ.call rfl Tryd.call17 rfl Own.stable (fun w1 hw1 => toSt_ok b w1 )) ?_
      refine Lq.op (v := .int .i64 r) rfl rfl rfl (OpQ.move rfl rfl) ?_
      refine Lq.op (v := .bool (secB a [] b [] r)) rfl rfl rfl (OpQ.call rfl Tryd.call20 rfl Own.stable (fun w1 hw1 => iSame_ok a b w1 hsa hsb r)) ?_
      refine Lq.op (v := .bool (secB a [] b [] r)) rfl rfl rfl (OpQ.assign rfl rfl) ?_
      refine Lq.nil ?_
      refine Kt.onSub (e' := [(8, .bool (secB a [] b [] r)), (9, .bool (secB a [] b [] r))]) (Sub.cons rfl (Sub.cons rfl Sub.nil)) ?_
      refine Wk.seq ?_
      refine Wk.seq ?_
      refine Wk.regionQ ?_
      refine Lq.op (v := .bool (secB a [] b [] r)) rfl rfl rfl (OpQ.move rfl rfl) ?_
      refine Lq.op (v := .bool (secB a [] b [] r)) rfl rfl rfl (OpQ.move rfl rfl) ?_
      refine Lq.op (v := .bool ((secB a [] b [] r) != (secB a [] b [] r))) rfl rfl rfl (OpQ.bne rfl Tryd.runUnderlying4 rfl rfl) ?_
      refine Lq.nil ?_
      refine Kt.onSub (e' := [(34, .bool ((secB a [] b [] r) != (secB a [] b [] r)))]) (Sub.cons rfl Sub.nil) ?_
      refine Wk.cond (b := (secB a [] b [] r) != (secB a [] b [] r)) rfl (fun h34 => ?_) (fun h34 => ?_)
      · skip
        exact absurd h34 (by simp)
      · skip
        refine Wk.skip ?_
        refine Kt.onSub (e' := []) Sub.nil ?_
        refine Wk.seq ?_
        refine Wk.regionQ ?_
        refine Lq.op (v := .bool true) rfl rfl rfl (OpQ.assign rfl rfl) ?_
        refine Lq.nil ?_
        refine Kt.onSub (e' := [(6, .bool true)]) (Sub.cons rfl Sub.nil) ?_
        refine Wk.ret (Kt.end1 rfl rfl fun w' hw => ?_)
        -- ret 2: .bool true
        exact ⟨ret_b (by first | rfl | (simp_all; done) | (simp_all; omega)), hw.below⟩

end Go.Proofs.YtcanofailfbllaaDoor
