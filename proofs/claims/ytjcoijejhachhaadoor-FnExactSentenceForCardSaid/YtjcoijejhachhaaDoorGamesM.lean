/-
  Walks: games.
-/
import Derived.Test.YtjcoijejhachhaaDoorTabM
import Derived.Test.YtjcoijejhachhaaDoorPartL
import Derived.Test.YtjcoijejhachhaaDoorBase
namespace Go.Proofs.YtjcoijejhachhaaDoor
open Go.RowKit Go.Wk
set_option linter.unusedSimpArgs false

set_option maxHeartbeats 400000 in
/-- spec.l4With -/
theorem l4With_ok (va : Value) (xs : List Int) (x : Int) (w : World) (hva : Ints w va xs) (hs : xs.length ≤ 1048576) :
    Calls Tryd.prog 85 [va, i6_ x].toArray w fun en w' => ∃ v, en = .returned v ∧ Below w.heap.size w w' ∧ NewRow w.heap.size 3 1 w' v (xs ++ [x]).length (ints (xs ++ [x])) := by
 refine fnStart (n := 11) (e := [(0, va), (1, i6_ x)]) Tryd.func85 rfl rfl rfl rfl Ends.both ?_
 refine Wk.seq ?_
 refine Wk.regionQ ?_
 refine Lq.run 1 rfl ?_
 refine Lq.nil ?_
 refine Kt.sel [0, 1] [_, _] rfl ?_
 refine Wk.seq ?_
 refine Wk.region ?_
 refine Ll.slice (xs := []) (vs := []) Base.elem24 rfl rfl rfl rfl rfl rfl (by decide) rfl fun p5 hp5 => ?_
 refine Ll.run 1 rfl ?_
 refine Ll.appendInts (xs := []) (ys := xs) Base.elem24 0 rfl rfl rfl rfl rfl rfl rfl rfl (by decide) rfl (fun w1 hw1 => (Row.own hva hw1)) ((xs).length) (by first | (simp; done) | (simp; omega)) (by first | (simp; done) | (simp; omega) | omega) fun p7 cap7 cur7 hp7 hcp7 hlp7 htp7 => ?_
 show Ll _ _ (Own _ _ [_]) _ _ ((7, sl_ p7 (((xs).length)) cap7) :: _) _ _ _
 refine Ll.run 1 rfl ?_
 refine Ll.slice (xs := [.tmp 8]) (vs := [i6_ x]) Base.elem24 rfl rfl rfl rfl rfl rfl (by decide) rfl fun p9 hp9 => ?_
 refine Ll.appendInts (xs := xs) (ys := [x]) Base.elem24 1 rfl rfl rfl rfl rfl rfl rfl hcp7 hlp7 (by simpa using htp7) (fun w1 hw1 => (Own.row hw1 (i := 0) rfl (n := 1) (cap := 1) (vs := ints [x]) rfl rfl (by decide))) ((xs ++ ([x])).length) (by first | (simp; done) | (simp; omega)) (by first | (simp; done) | (simp; omega) | omega) fun p10 cap10 cur10 hp10 hcp10 hlp10 htp10 => ?_
 show Ll _ _ (Own _ _ [_, _]) _ _ ((10, sl_ p10 (((xs ++ ([x])).length)) cap10) :: _) _ _ _
 refine Ll.run 1 rfl ?_
 refine Ll.nil ?_
 refine Kt.sel [4] [_] rfl ?_
 refine Wk.ret (Kt.end1 rfl rfl fun w' hw => ?_)
 -- ret 0: sl_ p10 (((xs ++ ([x])).length)) cap10
 exact ⟨_, rfl, hw.below, hw.newRow (i := 1) (n := _) rfl (by assumption) (by assumption) (by assumption)⟩

set_option maxHeartbeats 400000 in
/-- impl.with -/
theorem with_ok (va : Value) (xs : List Int) (x : Int) (w : World) (hva : Ints w va xs) (hs : xs.length ≤ 1048576) :
    Calls Tryd.prog 91 [va, i6_ x].toArray w fun en w' => ∃ v, en = .returned v ∧ Below w.heap.size w w' ∧ NewRow w.heap.size 3 1 w' v (xs ++ [x]).length (ints (xs ++ [x])) := by
 refine fnStart (n := 11) (e := [(0, va), (1, i6_ x)]) Tryd.func91 rfl rfl rfl rfl Ends.both ?_
 refine Wk.seq ?_
 refine Wk.regionQ ?_
 refine Lq.run 1 rfl ?_
 refine Lq.nil ?_
 refine Kt.sel [0, 1] [_, _] rfl ?_
 refine Wk.seq ?_
 refine Wk.region ?_
 refine Ll.slice (xs := []) (vs := []) Base.elem24 rfl rfl rfl rfl rfl rfl (by decide) rfl fun p5 hp5 => ?_
 refine Ll.run 1 rfl ?_
 refine Ll.appendInts (xs := []) (ys := xs) Base.elem24 0 rfl rfl rfl rfl rfl rfl rfl rfl (by decide) rfl (fun w1 hw1 => (Row.own hva hw1)) ((xs).length) (by first | (simp; done) | (simp; omega)) (by first | (simp; done) | (simp; omega) | omega) fun p7 cap7 cur7 hp7 hcp7 hlp7 htp7 => ?_
 show Ll _ _ (Own _ _ [_]) _ _ ((7, sl_ p7 (((xs).length)) cap7) :: _) _ _ _
 refine Ll.run 1 rfl ?_
 refine Ll.slice (xs := [.tmp 8]) (vs := [i6_ x]) Base.elem24 rfl rfl rfl rfl rfl rfl (by decide) rfl fun p9 hp9 => ?_
 refine Ll.appendInts (xs := xs) (ys := [x]) Base.elem24 1 rfl rfl rfl rfl rfl rfl rfl hcp7 hlp7 (by simpa using htp7) (fun w1 hw1 => (Own.row hw1 (i := 0) rfl (n := 1) (cap := 1) (vs := ints [x]) rfl rfl (by decide))) ((xs ++ ([x])).length) (by first | (simp; done) | (simp; omega)) (by first | (simp; done) | (simp; omega) | omega) fun p10 cap10 cur10 hp10 hcp10 hlp10 htp10 => ?_
 show Ll _ _ (Own _ _ [_, _]) _ _ ((10, sl_ p10 (((xs ++ ([x])).length)) cap10) :: _) _ _ _
 refine Ll.run 1 rfl ?_
 refine Ll.nil ?_
 refine Kt.sel [4] [_] rfl ?_
 refine Wk.ret (Kt.end1 rfl rfl fun w' hw => ?_)
 -- ret 0: sl_ p10 (((xs ++ ([x])).length)) cap10
 exact ⟨_, rfl, hw.below, hw.newRow (i := 1) (n := _) rfl (by assumption) (by assumption) (by assumption)⟩

set_option maxHeartbeats 400000 in
/-- impl.replyTo -/
theorem reply_of (n : Nat) (ih : ∀ (a b : St) (xs ys : List Int) (va vb : Value) (w : World), a.Fine → b.Fine → Ints w va xs → Ints w vb ys → a.Els xs → b.Els ys → xs.length = ys.length → xs.length + n ≤ 7 → Calls Tryd.prog 102 #[vS a, va, vS b, vb, .int .i64 (n : Int)] w fun en w' => en = .returned (.bool (goB n a xs b ys)) ∧ Below w.heap.size w w') (a b : St) (xs ys : List Int) (va vb : Value) (w : World) (ha : a.Fine) (hb : b.Fine) (hva : Ints w va xs) (hvb : Ints w vb ys) (hA : a.Els xs) (hB : b.Els ys) (hlen : xs.length = ys.length) (h7 : xs.length + (n + 1) ≤ 7) (x : Int) (hx : a.El x) :
    Calls Tryd.prog 140 [vS a, va, vS b, vb, i6_ ((n : Int) + 1), i6_ x].toArray w fun en w' => en = .returned (.tuple #[.int .i64 (((rep (goB n) a xs b ys x).getD 0 : Nat) : Int), .bool (rep (goB n) a xs b ys x).isSome]) ∧ Below w.heap.size w w' := by
 refine fnStart (n := 48) (e := [(0, vS a), (1, va), (2, vS b), (3, vb), (4, i6_ ((n : Int) + 1)), (5, i6_ x)]) Tryd.func140 rfl rfl rfl rfl Ends.both ?_
 have hn8 := hb.hi
 have hn1 := hb.lo
 have hL := rep_law (g := goB n) (a := a) (xs := xs) (b := b) (ys := ys) (x := x)
 refine Wk.seq ?_
 refine Wk.region ?_
 refine Ll.box (v := vS a) rfl rfl rfl rfl rfl fun p6 hp6 => ?_
 show Ll _ _ (Own _ _ [_]) _ _ ((6, pt_ p6) :: _) _ _ _
 refine Ll.box (v := vS b) rfl rfl rfl rfl rfl fun p8 hp8 => ?_
 show Ll _ _ (Own _ _ [_, _]) _ _ ((8, pt_ p8) :: _) _ _ _
 refine Ll.run 2 rfl ?_
 refine Ll.nil ?_
 refine Kt.sel [1, 3, 4, 5, 6, 8] [_, _, _, _, _, _] rfl ?_
 refine Wk.seq ?_
 refine Wk.seq ?_
 refine Wk.regionQ ?_
 refine Lq.op rfl rfl rfl (OpQ.loadBox (cs := #[i6_ a.n, str a.set, str a.rel]) 1 rfl Tryd.isAgg28 rfl rfl Tryd.sizeOf28) ?_
 refine Lq.run 1 rfl ?_
 refine Lq.op rfl rfl rfl (OpQ.loadBox (cs := #[i6_ b.n, str b.set, str b.rel]) 0 rfl Tryd.isAgg28 rfl rfl Tryd.sizeOf28) ?_
 refine Lq.run 1 rfl ?_
 refine Lq.op (v := bo_ (sameB a xs b ys)) rfl rfl rfl (OpQ.call rfl Tryd.call76 rfl Own.stable (fun w1 hw1 => sameWay_ok a b xs ys va vb w1 ha hb (Row.own hva hw1) (Row.own hvb hw1) hA hB (by omega) (by omega))) ?_
 refine Lq.run 1 rfl ?_
 refine Lq.nil ?_
 refine Kt.sel [1, 3, 4, 5, 6, 8, 20] [_, _, _, _, _, _, _] rfl ?_
 refine Wk.cond (b := !(sameB a xs b ys)) rfl (fun h20 => ?_) (fun h20 => ?_)
 ·
  replace h20 := not_true h20
  refine Wk.seq ?_
  refine Wk.regionQ ?_
  refine Lq.run 2 rfl ?_
  refine Lq.nil ?_
  refine Kt.sel [12, 13] [_, _] rfl ?_
  refine Wk.ret (Kt.end2 rfl rfl rfl fun w' hw => ?_)
  -- ret 0: i6_ 0; bo_ false
  exact ⟨by rw [hL.1 (by simpa using h20)]; rfl, hw.below⟩
 ·
  replace h20 := not_false h20
  refine Wk.skip ?_
  refine Kt.sel [1, 3, 4, 5, 6, 8] [_, _, _, _, _, _] rfl ?_
  refine Wk.seq ?_
  refine Wk.seq ?_
  refine Wk.regionQ ?_
  refine Lq.op rfl rfl rfl (OpQ.fieldAddr rfl Tryd.runUnderlying28 rfl Tryd.sizeOf3 rfl rfl) ?_
  refine Lq.op rfl rfl rfl (OpQ.loadOwn 0 rfl Tryd.isAgg3 rfl rfl rfl) ?_
  refine Lq.run 1 rfl ?_
  refine Lq.nil ?_
  refine Kt.sel [1, 3, 4, 5, 6, 8, 22, 23] [_, _, _, _, _, _, _, _] rfl ?_
  refine Wk.block ?_
  refine Wk.loop (σ := Nat) (fun k => (k : Int) ≤ b.n ∧ ∀ i : Nat, i < k → (stillB a xs b ys x i && goB n a (xs ++ [x]) b (ys ++ [(i : Int)])) = false) (fun k => [(1, va), (3, vb), (4, i6_ ((n : Int) + 1)), (5, i6_ x), (6, pt_ p6), (8, pt_ p8), (22, i6_ b.n), (23, i6_ ((k : Int)))]) (fun k => Own w.heap.size w [bk_ p8 #[i6_ b.n, str b.set, str b.rel] 28, bk_ p6 #[i6_ a.n, str a.set, str a.rel] 28]) (fun k => (b.n - k).toNat) (0) ⟨by omega, fun i hi => absurd hi (by omega)⟩ (Sub.sel [1, 3, 4, 5, 6, 8, 22, 23] rfl) (fun _ h => h) ?_
  rintro k ⟨hk, hall⟩
  refine Wk.seq ?_
  refine Wk.regionQ ?_
  refine Lq.run 1 rfl ?_
  refine Lq.nil ?_
  refine Kt.sel [1, 3, 4, 5, 6, 8, 22, 23, 24] [_, _, _, _, _, _, _, _, _] rfl ?_
  refine Wk.seq ?_
  refine Wk.cond (b := decide (((k : Int)) < b.n)) rfl (fun h24 => ?_) (fun h24 => ?_)
  ·
   replace h24 := of_decide_eq_true h24
   have hy : b.El k := ⟨by omega, by omega⟩
   refine Wk.skip ?_
   refine Kt.sel [1, 3, 4, 5, 6, 8, 22, 23] [_, _, _, _, _, _, _, _] rfl ?_
   refine Wk.seq ?_
   refine Wk.block ?_
   refine Wk.seq ?_
   refine Wk.regionQ ?_
   refine Lq.run 2 rfl ?_
   refine Lq.nil ?_
   refine Kt.sel [1, 3, 4, 5, 6, 8, 14, 22, 23] [_, _, _, _, _, _, _, _, _] rfl ?_
   refine Wk.seq ?_
   refine Wk.regionO [(0, true), (1, true), (2, true), (3, true), (4, true), (5, true), (6, false), (7, true), (8, true), (9, true), (10, true), (12, true), (13, true), (14, true), (16, true), (17, true), (11, false), (15, false), (18, false), (19, true)] Base.mixed (fun _ h => h.drawn) (by kernel_rfl) ?_
   refine Ld.take rfl rfl rfl rfl rfl (OpQ.loadBox (cs := #[i6_ a.n, str a.set, str a.rel]) 1 rfl Tryd.isAgg28 rfl rfl Tryd.sizeOf28) (fun _ h => h) ?_
   refine Ld.run 1 rfl (fun _ h => h) ?_
   refine Ld.take rfl rfl rfl rfl rfl (OpQ.loadBox (cs := #[i6_ b.n, str b.set, str b.rel]) 0 rfl Tryd.isAgg28 rfl rfl Tryd.sizeOf28) (fun _ h => h) ?_
   refine Ld.run 3 rfl (fun _ h => h) ?_
   refine Ld.loud rfl ?_
   refine Ll.op (v := bo_ (stillB a xs b ys x ((k : Int)))) rfl rfl rfl (OpQ.call rfl Tryd.call117 rfl Own.stable (fun w1 hw1 => stillSame_ok a b xs ys va vb x ((k : Int)) w1 (ha) (hb) ((Row.own hva hw1)) ((Row.own hvb hw1)) (hA) (hB) ((by first | (simp; done) | (simp; omega) | omega)) ((by first | (simp; done) | (simp; omega) | omega)) ((by first | assumption | exact St.Els.at (by assumption) (by omega) (by omega))) ((by first | assumption | exact St.Els.at (by assumption) (by omega) (by omega))))) ?_
   refine Ll.nil (Ld.joint (fun _ h => h) ?_)
   refine Ld.run 1 rfl (fun _ h => h) ?_
   refine Ld.bool fun b33 hg33 => ?_
   cases b33
   ·
    refine Ld.pass rfl rfl rfl rfl (fun _ h => h) ?_
    refine Ld.pass rfl rfl rfl rfl (fun _ h => h) ?_
    refine Ld.pass rfl rfl rfl rfl (fun _ h => h) ?_
    refine Ld.pass rfl rfl rfl rfl (fun _ h => h) ?_
    refine Ld.pass rfl rfl rfl rfl (fun _ h => h) ?_
    refine Ld.pass rfl rfl rfl rfl (fun _ h => h) ?_
    refine Ld.pass rfl rfl rfl rfl (fun _ h => h) ?_
    refine Ld.pass rfl rfl rfl rfl (fun _ h => h) ?_
    refine Ld.loud rfl ?_
    refine Ll.pass rfl rfl rfl ?_
    refine Ll.nil (Ld.joint (fun _ h => h) ?_)
    refine Ld.loud rfl ?_
    refine Ll.pass rfl rfl rfl ?_
    refine Ll.nil (Ld.joint (fun _ h => h) ?_)
    refine Ld.loud rfl ?_
    refine Ll.pass rfl rfl rfl ?_
    refine Ll.nil (Ld.joint (fun _ h => h) ?_)
    refine Ld.run 1 rfl (fun _ h => h) ?_
    refine Ld.nil ?_
    refine Kt.sel [1, 3, 4, 5, 6, 8, 14, 22, 23, 45] [_, _, _, _, _, _, _, _, _, _] rfl ?_
    refine Wk.condF rfl ?_
    refine Wk.skip ?_
    refine Kt.sel [1, 3, 4, 5, 6, 8, 22, 23] [_, _, _, _, _, _, _, _] rfl ?_
    refine Wk.regionQ ?_
    refine Lq.op rfl rfl rfl (OpQ.add rfl rfl rfl (by omega) (by omega)) ?_
    refine Lq.run 1 rfl ?_
    refine Lq.nil ?_
    refine Kt.again (k + 1) ⟨by omega, fun i hi => (Nat.lt_succ_iff_lt_or_eq.1 hi).elim (hall i) (fun e => by subst e; simp_all)⟩ (by omega) (Sub.sel [1, 3, 4, 5, 6, 8, 22, 23] rfl) (fun _ h => h)
   ·
    refine Ld.take rfl rfl rfl rfl rfl (OpQ.loadBox (cs := #[i6_ a.n, str a.set, str a.rel]) 1 rfl Tryd.isAgg28 rfl rfl Tryd.sizeOf28) (fun _ h => h) ?_
    refine Ld.run 2 rfl (fun _ h => h) ?_
    refine Ld.take rfl rfl rfl rfl rfl (OpQ.loadBox (cs := #[i6_ b.n, str b.set, str b.rel]) 0 rfl Tryd.isAgg28 rfl rfl Tryd.sizeOf28) (fun _ h => h) ?_
    refine Ld.run 3 rfl (fun _ h => h) ?_
    refine Ld.take (v := i6_ ((n : Int))) rfl rfl rfl rfl rfl (OpQ.cast (by congr 1; omega) (OpQ.sub rfl rfl rfl (by omega) (by omega))) (fun _ h => h) ?_
    refine Ld.loud rfl ?_
    refine Ll.callRow (xs := [.tmp 35, .tmp 36]) (m := (xs ++ [x]).length) (vs := ints (xs ++ [x])) (el := 3) (size := 1) rfl rfl rfl rfl Tryd.call91 rfl (fun w1 hw1 => with_ok va xs x w1 (Row.own hva hw1) (by omega)) fun p37 cap37 cur37 hp37 hcp37 hlp37 htp37 => ?_
    refine Ll.nil (Ld.joint (fun _ h => h.tail) ?_)
    refine Ld.loud rfl ?_
    refine Ll.callRow (xs := [.tmp 39, .tmp 40]) (m := (ys ++ [(k : Int)]).length) (vs := ints (ys ++ [(k : Int)])) (el := 3) (size := 1) rfl rfl rfl rfl Tryd.call91 rfl (fun w1 hw1 => with_ok vb ys ((k : Int)) w1 (Row.own hvb hw1) (by omega)) fun p41 cap41 cur41 hp41 hcp41 hlp41 htp41 => ?_
    refine Ll.nil (Ld.joint (fun _ h => h.tail.tail) ?_)
    refine Ld.loud rfl ?_
    refine Ll.op (v := bo_ (goB n a (xs ++ [x]) b (ys ++ [(k : Int)]))) rfl rfl rfl (OpQ.call rfl Tryd.call102 rfl Own.stable (fun w1 hw1 => ih a b (xs ++ [x]) (ys ++ [(k : Int)]) (sl_ p37 ((xs ++ [x]).length) cap37) (sl_ p41 ((ys ++ [(k : Int)]).length) cap41) w1 ha hb (Own.row hw1 (i := 1) rfl (by simpa using htp37) (by simp) hlp37) (Own.row hw1 (i := 0) rfl (by simpa using htp41) (by simp) hlp41) (els_more hA hx) (els_more hB hy) (by first | (simp; done) | (simp; omega) | omega) (by first | (simp; done) | (simp; omega) | omega))) ?_
    refine Ll.nil (Ld.joint (fun _ h => h.tail.tail) ?_)
    refine Ld.run 1 rfl (fun _ h => h.tail.tail) ?_
    refine Ld.nil ?_
    refine Kt.sel [1, 3, 4, 5, 6, 8, 14, 22, 23, 45] [_, _, _, _, _, _, _, _, _, _] rfl ?_
    refine Wk.cond (b := goB n a (xs ++ [x]) b (ys ++ [(k : Int)])) rfl (fun h45 => ?_) (fun h45 => ?_)
    ·
     refine Wk.seq ?_
     refine Wk.regionQ ?_
     refine Lq.run 3 rfl ?_
     refine Lq.nil ?_
     refine Kt.sel [12, 13] [_, _] rfl ?_
     refine Wk.ret (Kt.end2 rfl rfl rfl fun w' hw => ?_)
     -- ret 1: i6_ ((k : Int)); bo_ true
     exact ⟨by rw [hL.2.1 (by simpa using h20) k (by omega) hall (by simp [*])]; rfl, hw.below⟩
    ·
     refine Wk.skip ?_
     refine Kt.sel [1, 3, 4, 5, 6, 8, 22, 23] [_, _, _, _, _, _, _, _] rfl ?_
     refine Wk.regionQ ?_
     refine Lq.op rfl rfl rfl (OpQ.add rfl rfl rfl (by omega) (by omega)) ?_
     refine Lq.run 1 rfl ?_
     refine Lq.nil ?_
     refine Kt.again (k + 1) ⟨by omega, fun i hi => (Nat.lt_succ_iff_lt_or_eq.1 hi).elim (hall i) (fun e => by subst e; simp_all)⟩ (by omega) (Sub.sel [1, 3, 4, 5, 6, 8, 22, 23] rfl) (fun _ h => h.tail.tail)
  ·
   replace h24 := of_decide_eq_false h24
   refine Wk.exit rfl ?_
   refine Kt.sel [] [] rfl ?_
   refine Wk.seq ?_
   refine Wk.regionQ ?_
   refine Lq.run 2 rfl ?_
   refine Lq.nil ?_
   refine Kt.sel [12, 13] [_, _] rfl ?_
   refine Wk.ret (Kt.end2 rfl rfl rfl fun w' hw => ?_)
   -- ret 2: i6_ 0; bo_ false
   exact ⟨by rw [hL.2.2 (fun i hi => hall i (by omega))]; rfl, hw.below⟩

set_option maxHeartbeats 400000 in
/-- impl.goesOn|zero -/
theorem goes_zero (a b : St) (xs ys : List Int) (va vb : Value) (w : World) :
    Calls Tryd.prog 102 [vS a, va, vS b, vb, i6_ 0].toArray w fun en w' => en = .returned (.bool (goB 0 a xs b ys)) ∧ Below w.heap.size w w' := by
 refine fnStart (n := 55) (e := [(0, vS a), (1, va), (2, vS b), (3, vb), (4, i6_ 0)]) Tryd.func102 rfl rfl rfl rfl Ends.both ?_
 refine Wk.seq ?_
 refine Wk.region ?_
 refine Ll.box (v := vS a) rfl rfl rfl rfl rfl fun p5 hp5 => ?_
 show Ll _ _ (Own _ _ [_]) _ _ ((5, pt_ p5) :: _) _ _ _
 refine Ll.box (v := vS b) rfl rfl rfl rfl rfl fun p7 hp7 => ?_
 show Ll _ _ (Own _ _ [_, _]) _ _ ((7, pt_ p7) :: _) _ _ _
 refine Ll.run 1 rfl ?_
 refine Ll.nil ?_
 refine Kt.sel [1, 3, 4, 5, 7] [_, _, _, _, _] rfl ?_
 refine Wk.seq ?_
 refine Wk.seq ?_
 refine Wk.regionQ ?_
 refine Lq.run 2 rfl ?_
 refine Lq.nil ?_
 refine Kt.sel [1, 3, 4, 5, 7, 18] [_, _, _, _, _, _] rfl ?_
 refine Wk.cond (b := decide ((0 : Int) = (0 : Int))) rfl (fun h18 => ?_) (fun h18 => ?_)
 ·
  replace h18 := of_decide_eq_true h18
  refine Wk.seq ?_
  refine Wk.regionQ ?_
  refine Lq.run 1 rfl ?_
  refine Lq.nil ?_
  refine Kt.sel [10] [_] rfl ?_
  refine Wk.ret (Kt.end1 rfl rfl fun w' hw => ?_)
  -- ret 0: bo_ true
  exact ⟨rfl, hw.below⟩
 ·
  replace h18 := of_decide_eq_false h18
  exact absurd rfl h18

set_option maxHeartbeats 400000 in
/-- impl.goesOn -/
theorem goes_of (n : Nat) (ih : ∀ (a b : St) (xs ys : List Int) (va vb : Value) (w : World), a.Fine → b.Fine → Ints w va xs → Ints w vb ys → a.Els xs → b.Els ys → xs.length = ys.length → xs.length + (n + 1) ≤ 7 → ∀ x : Int, a.El x → Calls Tryd.prog 140 #[vS a, va, vS b, vb, .int .i64 ((n : Int) + 1), .int .i64 x] w fun en w' => en = .returned (.tuple #[.int .i64 (((rep (goB n) a xs b ys x).getD 0 : Nat) : Int), .bool (rep (goB n) a xs b ys x).isSome]) ∧ Below w.heap.size w w') (a b : St) (xs ys : List Int) (va vb : Value) (w : World) (ha : a.Fine) (hb : b.Fine) (hva : Ints w va xs) (hvb : Ints w vb ys) (hA : a.Els xs) (hB : b.Els ys) (hlen : xs.length = ys.length) (h7 : xs.length + (n + 1) ≤ 7) :
    Calls Tryd.prog 102 [vS a, va, vS b, vb, i6_ ((n : Int) + 1)].toArray w fun en w' => en = .returned (.bool (goB (n + 1) a xs b ys)) ∧ Below w.heap.size w w' := by
 refine fnStart (n := 55) (e := [(0, vS a), (1, va), (2, vS b), (3, vb), (4, i6_ ((n : Int) + 1))]) Tryd.func102 rfl rfl rfl rfl Ends.both ?_
 have hn8 := hb.hi
 have hn1 := hb.lo
 have hm8 := ha.hi
 have hm1 := ha.lo
 refine Wk.seq ?_
 refine Wk.region ?_
 refine Ll.box (v := vS a) rfl rfl rfl rfl rfl fun p5 hp5 => ?_
 show Ll _ _ (Own _ _ [_]) _ _ ((5, pt_ p5) :: _) _ _ _
 refine Ll.box (v := vS b) rfl rfl rfl rfl rfl fun p7 hp7 => ?_
 show Ll _ _ (Own _ _ [_, _]) _ _ ((7, pt_ p7) :: _) _ _ _
 refine Ll.run 1 rfl ?_
 refine Ll.nil ?_
 refine Kt.sel [1, 3, 4, 5, 7] [_, _, _, _, _] rfl ?_
 refine Wk.seq ?_
 refine Wk.seq ?_
 refine Wk.regionQ ?_
 refine Lq.run 2 rfl ?_
 refine Lq.nil ?_
 refine Kt.sel [1, 3, 4, 5, 7, 18] [_, _, _, _, _, _] rfl ?_
 refine Wk.cond (b := decide (((n : Int) + 1) = (0 : Int))) rfl (fun h18 => ?_) (fun h18 => ?_)
 ·
  replace h18 := of_decide_eq_true h18
  omega
 ·
  replace h18 := of_decide_eq_false h18
  refine Wk.skip ?_
  refine Kt.sel [1, 3, 4, 5, 7] [_, _, _, _, _] rfl ?_
  refine Wk.seq ?_
  refine Wk.seq ?_
  refine Wk.regionQ ?_
  refine Lq.op rfl rfl rfl (OpQ.fieldAddr rfl Tryd.runUnderlying28 rfl Tryd.sizeOf3 rfl rfl) ?_
  refine Lq.op rfl rfl rfl (OpQ.loadOwn 1 rfl Tryd.isAgg3 rfl rfl rfl) ?_
  refine Lq.run 1 rfl ?_
  refine Lq.nil ?_
  refine Kt.sel [1, 3, 4, 5, 7, 20, 21] [_, _, _, _, _, _, _] rfl ?_
  refine Wk.block ?_
  refine Wk.loop (σ := Nat) (fun k => (k : Int) ≤ a.n ∧ ∀ i : Nat, i < k → (rep (goB n) a xs b ys i).isSome = true) (fun k => [(1, va), (3, vb), (4, i6_ ((n : Int) + 1)), (5, pt_ p5), (7, pt_ p7), (20, i6_ a.n), (21, i6_ ((k : Int)))]) (fun k => Own w.heap.size w [bk_ p7 #[i6_ b.n, str b.set, str b.rel] 28, bk_ p5 #[i6_ a.n, str a.set, str a.rel] 28]) (fun k => (a.n - k).toNat) (0) ⟨by omega, fun i hi => absurd hi (by omega)⟩ (Sub.sel [1, 3, 4, 5, 7, 20, 21] rfl) (fun _ h => h) ?_
  rintro k ⟨hk1, hall1⟩
  refine Wk.seq ?_
  refine Wk.regionQ ?_
  refine Lq.run 1 rfl ?_
  refine Lq.nil ?_
  refine Kt.sel [1, 3, 4, 5, 7, 20, 21, 22] [_, _, _, _, _, _, _, _] rfl ?_
  refine Wk.seq ?_
  refine Wk.cond (b := decide (((k : Int)) < a.n)) rfl (fun h22 => ?_) (fun h22 => ?_)
  ·
   replace h22 := of_decide_eq_true h22
   have hx : a.El k := ⟨by omega, by omega⟩
   refine Wk.skip ?_
   refine Kt.sel [1, 3, 4, 5, 7, 20, 21] [_, _, _, _, _, _, _] rfl ?_
   refine Wk.seq ?_
   refine Wk.block ?_
   refine Wk.seq ?_
   refine Wk.regionQ ?_
   refine Lq.run 2 rfl ?_
   refine Lq.nil ?_
   refine Kt.sel [1, 3, 4, 5, 7, 11, 20, 21] [_, _, _, _, _, _, _, _] rfl ?_
   refine Wk.seq ?_
   refine Wk.regionQ ?_
   refine Lq.op rfl rfl rfl (OpQ.loadBox (cs := #[i6_ a.n, str a.set, str a.rel]) 1 rfl Tryd.isAgg28 rfl rfl Tryd.sizeOf28) ?_
   refine Lq.run 1 rfl ?_
   refine Lq.op rfl rfl rfl (OpQ.loadBox (cs := #[i6_ b.n, str b.set, str b.rel]) 0 rfl Tryd.isAgg28 rfl rfl Tryd.sizeOf28) ?_
   refine Lq.run 3 rfl ?_
   refine Lq.op (v := .tuple #[i6_ ((((rep (goB n) a xs b ys ((k : Int))).getD 0 : Nat) : Int)), bo_ ((rep (goB n) a xs b ys ((k : Int))).isSome)]) rfl rfl rfl (OpQ.call rfl Tryd.call140 rfl Own.stable (fun w1 hw1 => ih a b xs ys va vb w1 ha hb (Row.own hva hw1) (Row.own hvb hw1) hA hB (by first | (simp; done) | (simp; omega) | omega) (by first | (simp; done) | (simp; omega) | omega) ((k : Int)) hx)) ?_
   refine Lq.run 1 rfl ?_
   refine Lq.op (v := i6_ ((((rep (goB n) a xs b ys ((k : Int))).getD 0 : Nat) : Int))) rfl rfl rfl (OpQ.extract rfl rfl rfl) ?_
   refine Lq.op (v := bo_ ((rep (goB n) a xs b ys ((k : Int))).isSome)) rfl rfl rfl (OpQ.extract rfl rfl rfl) ?_
   refine Lq.run 2 rfl ?_
   refine Lq.nil ?_
   refine Kt.sel [1, 3, 4, 5, 7, 13, 20, 21] [_, _, _, _, _, _, _, _] rfl ?_
   refine Wk.seq ?_
   refine Wk.regionQ ?_
   refine Lq.run 2 rfl ?_
   refine Lq.nil ?_
   refine Kt.sel [1, 3, 4, 5, 7, 20, 21, 35] [_, _, _, _, _, _, _, _] rfl ?_
   refine Wk.cond (b := !((rep (goB n) a xs b ys ((k : Int))).isSome)) rfl (fun h35 => ?_) (fun h35 => ?_)
   ·
    replace h35 := not_true h35
    refine Wk.seq ?_
    refine Wk.regionQ ?_
    refine Lq.run 1 rfl ?_
    refine Lq.nil ?_
    refine Kt.sel [10] [_] rfl ?_
    refine Wk.ret (Kt.end1 rfl rfl fun w' hw => ?_)
    -- ret 0: bo_ false
    exact ⟨ret_b (go_no1 (x := k) (by omega) (by simpa using h35)).symm, hw.below⟩
   ·
    replace h35 := not_false h35
    refine Wk.skip ?_
    refine Kt.sel [1, 3, 4, 5, 7, 20, 21] [_, _, _, _, _, _, _] rfl ?_
    refine Wk.regionQ ?_
    refine Lq.op rfl rfl rfl (OpQ.add rfl rfl rfl (by omega) (by omega)) ?_
    refine Lq.run 1 rfl ?_
    refine Lq.nil ?_
    refine Kt.again (k + 1) ⟨by omega, fun i hi => (Nat.lt_succ_iff_lt_or_eq.1 hi).elim (hall1 i) (fun e => by subst e; assumption)⟩ (by omega) (Sub.sel [1, 3, 4, 5, 7, 20, 21] rfl) (fun _ h => h)
  ·
   replace h22 := of_decide_eq_false h22
   refine Wk.exit rfl ?_
   refine Kt.sel [1, 3, 4, 5, 7] [_, _, _, _, _] rfl ?_
   refine Wk.seq ?_
   refine Wk.seq ?_
   refine Wk.regionQ ?_
   refine Lq.op rfl rfl rfl (OpQ.fieldAddr rfl Tryd.runUnderlying28 rfl Tryd.sizeOf3 rfl rfl) ?_
   refine Lq.op rfl rfl rfl (OpQ.loadOwn 0 rfl Tryd.isAgg3 rfl rfl rfl) ?_
   refine Lq.run 1 rfl ?_
   refine Lq.nil ?_
   refine Kt.sel [1, 3, 4, 5, 7, 38, 39] [_, _, _, _, _, _, _] rfl ?_
   refine Wk.block ?_
   refine Wk.loop (σ := Nat) (fun m => (m : Int) ≤ b.n ∧ ∀ i : Nat, i < m → (rep (goB n) b ys a xs i).isSome = true) (fun m => [(1, va), (3, vb), (4, i6_ ((n : Int) + 1)), (5, pt_ p5), (7, pt_ p7), (38, i6_ b.n), (39, i6_ ((m : Int)))]) (fun m => Own w.heap.size w [bk_ p7 #[i6_ b.n, str b.set, str b.rel] 28, bk_ p5 #[i6_ a.n, str a.set, str a.rel] 28]) (fun m => (b.n - m).toNat) (0) ⟨by omega, fun i hi => absurd hi (by omega)⟩ (Sub.sel [1, 3, 4, 5, 7, 38, 39] rfl) (fun _ h => h) ?_
   rintro m ⟨hk2, hall2⟩
   refine Wk.seq ?_
   refine Wk.regionQ ?_
   refine Lq.run 1 rfl ?_
   refine Lq.nil ?_
   refine Kt.sel [1, 3, 4, 5, 7, 38, 39, 40] [_, _, _, _, _, _, _, _] rfl ?_
   refine Wk.seq ?_
   refine Wk.cond (b := decide (((m : Int)) < b.n)) rfl (fun h40 => ?_) (fun h40 => ?_)
   ·
    replace h40 := of_decide_eq_true h40
    have hy : b.El m := ⟨by omega, by omega⟩
    refine Wk.skip ?_
    refine Kt.sel [1, 3, 4, 5, 7, 38, 39] [_, _, _, _, _, _, _] rfl ?_
    refine Wk.seq ?_
    refine Wk.block ?_
    refine Wk.seq ?_
    refine Wk.regionQ ?_
    refine Lq.run 2 rfl ?_
    refine Lq.nil ?_
    refine Kt.sel [1, 3, 4, 5, 7, 14, 38, 39] [_, _, _, _, _, _, _, _] rfl ?_
    refine Wk.seq ?_
    refine Wk.regionQ ?_
    refine Lq.op rfl rfl rfl (OpQ.loadBox (cs := #[i6_ b.n, str b.set, str b.rel]) 0 rfl Tryd.isAgg28 rfl rfl Tryd.sizeOf28) ?_
    refine Lq.run 1 rfl ?_
    refine Lq.op rfl rfl rfl (OpQ.loadBox (cs := #[i6_ a.n, str a.set, str a.rel]) 1 rfl Tryd.isAgg28 rfl rfl Tryd.sizeOf28) ?_
    refine Lq.run 3 rfl ?_
    refine Lq.op (v := .tuple #[i6_ ((((rep (goB n) b ys a xs ((m : Int))).getD 0 : Nat) : Int)), bo_ ((rep (goB n) b ys a xs ((m : Int))).isSome)]) rfl rfl rfl (OpQ.call rfl Tryd.call140 rfl Own.stable (fun w1 hw1 => ih b a ys xs vb va w1 hb ha (Row.own hvb hw1) (Row.own hva hw1) hB hA (by first | (simp; done) | (simp; omega) | omega) (by first | (simp; done) | (simp; omega) | omega) ((m : Int)) hy)) ?_
    refine Lq.run 1 rfl ?_
    refine Lq.op (v := i6_ ((((rep (goB n) b ys a xs ((m : Int))).getD 0 : Nat) : Int))) rfl rfl rfl (OpQ.extract rfl rfl rfl) ?_
    refine Lq.op (v := bo_ ((rep (goB n) b ys a xs ((m : Int))).isSome)) rfl rfl rfl (OpQ.extract rfl rfl rfl) ?_
    refine Lq.run 2 rfl ?_
    refine Lq.nil ?_
    refine Kt.sel [1, 3, 4, 5, 7, 16, 38, 39] [_, _, _, _, _, _, _, _] rfl ?_
    refine Wk.seq ?_
    refine Wk.regionQ ?_
    refine Lq.run 2 rfl ?_
    refine Lq.nil ?_
    refine Kt.sel [1, 3, 4, 5, 7, 38, 39, 53] [_, _, _, _, _, _, _, _] rfl ?_
    refine Wk.cond (b := !((rep (goB n) b ys a xs ((m : Int))).isSome)) rfl (fun h53 => ?_) (fun h53 => ?_)
    ·
     replace h53 := not_true h53
     refine Wk.seq ?_
     refine Wk.regionQ ?_
     refine Lq.run 1 rfl ?_
     refine Lq.nil ?_
     refine Kt.sel [10] [_] rfl ?_
     refine Wk.ret (Kt.end1 rfl rfl fun w' hw => ?_)
     -- ret 1: bo_ false
     exact ⟨ret_b (go_no2 (y := m) (by omega) (by simpa using h53)).symm, hw.below⟩
    ·
     replace h53 := not_false h53
     refine Wk.skip ?_
     refine Kt.sel [1, 3, 4, 5, 7, 38, 39] [_, _, _, _, _, _, _] rfl ?_
     refine Wk.regionQ ?_
     refine Lq.op rfl rfl rfl (OpQ.add rfl rfl rfl (by omega) (by omega)) ?_
     refine Lq.run 1 rfl ?_
     refine Lq.nil ?_
     refine Kt.again (m + 1) ⟨by omega, fun i hi => (Nat.lt_succ_iff_lt_or_eq.1 hi).elim (hall2 i) (fun e => by subst e; assumption)⟩ (by omega) (Sub.sel [1, 3, 4, 5, 7, 38, 39] rfl) (fun _ h => h)
   ·
    replace h40 := of_decide_eq_false h40
    refine Wk.exit rfl ?_
    refine Kt.sel [] [] rfl ?_
    refine Wk.seq ?_
    refine Wk.regionQ ?_
    refine Lq.run 1 rfl ?_
    refine Lq.nil ?_
    refine Kt.sel [10] [_] rfl ?_
    refine Wk.ret (Kt.end1 rfl rfl fun w' hw => ?_)
    -- ret 2: bo_ true
    exact ⟨ret_b (go_yes (fun i hi => hall1 i (by omega)) (fun i hi => hall2 i (by omega))).symm, hw.below⟩

theorem goes_ok : ∀ n : Nat, ∀ (a b : St) (xs ys : List Int) (va vb : Value) (w : World), a.Fine → b.Fine → Ints w va xs → Ints w vb ys → a.Els xs → b.Els ys → xs.length = ys.length → xs.length + n ≤ 7 → Calls Tryd.prog 102 #[vS a, va, vS b, vb, .int .i64 (n : Int)] w fun en w' => en = .returned (.bool (goB n a xs b ys)) ∧ Below w.heap.size w w'
  | 0 => fun a b xs ys va vb w _ _ _ _ _ _ _ _ => goes_zero a b xs ys va vb w
  | n + 1 => fun a b xs ys va vb w ha hb hva hvb hA hB hl h7 =>
    goes_of n (fun a b xs ys va vb w ha hb hva hvb hA hB hl h7 x hx => reply_of n (goes_ok n) a b xs ys va vb w ha hb hva hvb hA hB hl h7 x hx) a b xs ys va vb w ha hb hva hvb hA hB hl h7
theorem goes_at (r : Int) (h0 : 0 ≤ r) : ∀ (a b : St) (xs ys : List Int) (va vb : Value) (w : World), a.Fine → b.Fine → Ints w va xs → Ints w vb ys → a.Els xs → b.Els ys → xs.length = ys.length → xs.length + r.toNat ≤ 7 → Calls Tryd.prog 102 #[vS a, va, vS b, vb, .int .i64 r] w fun en w' => en = .returned (.bool (goB r.toNat a xs b ys)) ∧ Below w.heap.size w w' := by
  have h := goes_ok r.toNat
  rw [Int.toNat_of_nonneg h0] at h
  exact h
theorem reply_at (r : Int) (h0 : 0 ≤ r) : ∀ (a b : St) (xs ys : List Int) (va vb : Value) (w : World), a.Fine → b.Fine → Ints w va xs → Ints w vb ys → a.Els xs → b.Els ys → xs.length = ys.length → xs.length + (r.toNat + 1) ≤ 7 → ∀ x : Int, a.El x → Calls Tryd.prog 140 #[vS a, va, vS b, vb, .int .i64 (r + 1), .int .i64 x] w fun en w' => en = .returned (.tuple #[.int .i64 (((rep (goB r.toNat) a xs b ys x).getD 0 : Nat) : Int), .bool (rep (goB r.toNat) a xs b ys x).isSome]) ∧ Below w.heap.size w w' := by
  intro a b xs ys va vb w ha hb hva hvb hA hB hl h7 x hx
  have h := reply_of r.toNat (goes_ok r.toNat) a b xs ys va vb w ha hb hva hvb hA hB hl h7 x hx
  rw [Int.toNat_of_nonneg h0] at h
  exact h

set_option maxHeartbeats 400000 in
/-- impl.isGame -/
theorem isGame_ok (a b : St) (xs ys : List Int) (va vb : Value) (w : World) (hsa : a.Small) (hsb : b.Small) (hva : Ints w va xs) (hvb : Ints w vb ys) (hs1 : xs.length ≤ 140737488355328) (hs2 : ys.length ≤ 140737488355328) (r : Int) :
    Calls Tryd.prog 49 [vS a, va, vS b, vb, i6_ r].toArray w fun en w' => en = .returned (.bool (gameB a xs b ys r)) ∧ Below w.heap.size w w' := by
 refine fnStart (n := 24) (e := [(0, vS a), (1, va), (2, vS b), (3, vb), (4, i6_ r)]) Tryd.func49 rfl rfl rfl rfl Ends.both ?_
 refine Wk.seq ?_
 refine Wk.region ?_
 refine Ll.box (v := vS a) rfl rfl rfl rfl rfl fun p5 hp5 => ?_
 show Ll _ _ (Own _ _ [_]) _ _ ((5, pt_ p5) :: _) _ _ _
 refine Ll.box (v := vS b) rfl rfl rfl rfl rfl fun p7 hp7 => ?_
 show Ll _ _ (Own _ _ [_, _]) _ _ ((7, pt_ p7) :: _) _ _ _
 refine Ll.run 1 rfl ?_
 refine Ll.nil ?_
 refine Kt.sel [1, 3, 4, 5, 7] [_, _, _, _, _] rfl ?_
 refine Wk.seq ?_
 refine Wk.regionQ ?_
 refine Lq.op rfl rfl rfl (OpQ.loadBox (cs := #[i6_ a.n, str a.set, str a.rel]) 1 rfl Tryd.isAgg28 rfl rfl Tryd.sizeOf28) ?_
 refine Lq.run 1 rfl ?_
 refine Lq.op rfl rfl rfl (OpQ.loadBox (cs := #[i6_ b.n, str b.set, str b.rel]) 0 rfl Tryd.isAgg28 rfl rfl Tryd.sizeOf28) ?_
 refine Lq.run 1 rfl ?_
 refine Lq.op (v := bo_ (listsB a xs b ys)) rfl rfl rfl (OpQ.call rfl Tryd.call101 rfl Own.stable (fun w1 hw1 => areLists_ok a b xs ys va vb w1 hsa hsb (Row.own hva hw1) (Row.own hvb hw1) (by first | (simp; done) | (simp; omega) | omega) (by first | (simp; done) | (simp; omega) | omega))) ?_
 refine Lq.run 1 rfl ?_
 refine Lq.bool fun b16 hg16 => ?_
 cases b16
 ·
  refine Lq.pass rfl rfl rfl ?_
  refine Lq.pass rfl rfl rfl ?_
  refine Lq.run 2 rfl ?_
  refine Lq.pass rfl rfl rfl ?_
  refine Lq.pass rfl rfl rfl ?_
  refine Lq.run 2 rfl ?_
  refine Lq.nil ?_
  refine Kt.sel [10] [_] rfl ?_
  refine Wk.ret (Kt.end1 rfl rfl fun w' hw => ?_)
  -- ret 0: bo_ false
  exact ⟨ret_b (by unfold gameB inB; first | (simp_all; done) | (simp_all; omega)), hw.below⟩
 ·
  refine Lq.run 4 rfl ?_
  refine Lq.bool fun b20 hg20 => ?_
  cases b20
  ·
   replace hg20 := of_decide_eq_false hg20
   refine Lq.pass rfl rfl rfl ?_
   refine Lq.pass rfl rfl rfl ?_
   refine Lq.run 2 rfl ?_
   refine Lq.nil ?_
   refine Kt.sel [10] [_] rfl ?_
   refine Wk.ret (Kt.end1 rfl rfl fun w' hw => ?_)
   -- ret 1: bo_ false
   exact ⟨ret_b (by unfold gameB inB; first | (simp_all; done) | (simp_all; omega)), hw.below⟩
  ·
   replace hg20 := of_decide_eq_true hg20
   refine Lq.run 4 rfl ?_
   refine Lq.nil ?_
   refine Kt.sel [10] [_] rfl ?_
   refine Wk.ret (Kt.end1 rfl rfl fun w' hw => ?_)
   -- ret 2: bo_ (decide (r ≤ (3 : Int)))
   exact ⟨ret_b (by unfold gameB inB; first | (simp_all; done) | (simp_all; omega)), hw.below⟩

set_option maxHeartbeats 400000 in
/-- impl.secondWins -/
theorem wins_ok (a b : St) (xs ys : List Int) (va vb : Value) (w : World) (ha : a.Fine) (hb : b.Fine) (hva : Ints w va xs) (hvb : Ints w vb ys) (hA : a.Els xs) (hB : b.Els ys) (hlen : xs.length = ys.length) (h4 : xs.length ≤ 4) (r : Int) (h0 : 0 ≤ r) (h3 : r ≤ 3) :
    Calls Tryd.prog 50 [vS a, va, vS b, vb, i6_ r].toArray w fun en w' => en = .returned (.bool (winB r.toNat a xs b ys)) ∧ Below w.heap.size w w' := by
 refine fnStart (n := 24) (e := [(0, vS a), (1, va), (2, vS b), (3, vb), (4, i6_ r)]) Tryd.func50 rfl rfl rfl rfl Ends.both ?_
 refine Wk.seq ?_
 refine Wk.region ?_
 refine Ll.box (v := vS a) rfl rfl rfl rfl rfl fun p5 hp5 => ?_
 show Ll _ _ (Own _ _ [_]) _ _ ((5, pt_ p5) :: _) _ _ _
 refine Ll.box (v := vS b) rfl rfl rfl rfl rfl fun p7 hp7 => ?_
 show Ll _ _ (Own _ _ [_, _]) _ _ ((7, pt_ p7) :: _) _ _ _
 refine Ll.run 1 rfl ?_
 refine Ll.nil ?_
 refine Kt.sel [1, 3, 4, 5, 7] [_, _, _, _, _] rfl ?_
 refine Wk.seq ?_
 refine Wk.regionQ ?_
 refine Lq.op rfl rfl rfl (OpQ.loadBox (cs := #[i6_ a.n, str a.set, str a.rel]) 1 rfl Tryd.isAgg28 rfl rfl Tryd.sizeOf28) ?_
 refine Lq.run 1 rfl ?_
 refine Lq.op rfl rfl rfl (OpQ.loadBox (cs := #[i6_ b.n, str b.set, str b.rel]) 0 rfl Tryd.isAgg28 rfl rfl Tryd.sizeOf28) ?_
 refine Lq.run 1 rfl ?_
 refine Lq.op (v := bo_ (sameB a xs b ys)) rfl rfl rfl (OpQ.call rfl Tryd.call76 rfl Own.stable (fun w1 hw1 => sameWay_ok a b xs ys va vb w1 ha hb (Row.own hva hw1) (Row.own hvb hw1) hA hB (by omega) (by omega))) ?_
 refine Lq.run 1 rfl ?_
 refine Lq.bool fun b16 hg16 => ?_
 cases b16
 ·
  refine Lq.pass rfl rfl rfl ?_
  refine Lq.pass rfl rfl rfl ?_
  refine Lq.pass rfl rfl rfl ?_
  refine Lq.pass rfl rfl rfl ?_
  refine Lq.pass rfl rfl rfl ?_
  refine Lq.pass rfl rfl rfl ?_
  refine Lq.run 2 rfl ?_
  refine Lq.nil ?_
  refine Kt.sel [10] [_] rfl ?_
  refine Wk.ret (Kt.end1 rfl rfl fun w' hw => ?_)
  -- ret 0: bo_ false
  exact ⟨ret_b (by unfold winB; simp [*]), hw.below⟩
 ·
  refine Lq.op rfl rfl rfl (OpQ.loadBox (cs := #[i6_ a.n, str a.set, str a.rel]) 1 rfl Tryd.isAgg28 rfl rfl Tryd.sizeOf28) ?_
  refine Lq.run 1 rfl ?_
  refine Lq.op rfl rfl rfl (OpQ.loadBox (cs := #[i6_ b.n, str b.set, str b.rel]) 0 rfl Tryd.isAgg28 rfl rfl Tryd.sizeOf28) ?_
  refine Lq.run 2 rfl ?_
  refine Lq.op (v := bo_ (goB r.toNat a xs b ys)) rfl rfl rfl (OpQ.call rfl Tryd.call102 rfl Own.stable (fun w1 hw1 => goes_at r h0 a b xs ys va vb w1 ha hb (Row.own hva hw1) (Row.own hvb hw1) hA hB (by first | (simp; done) | (simp; omega) | omega) (by first | (simp; done) | (simp; omega) | omega))) ?_
  refine Lq.run 2 rfl ?_
  refine Lq.nil ?_
  refine Kt.sel [10] [_] rfl ?_
  refine Wk.ret (Kt.end1 rfl rfl fun w' hw => ?_)
  -- ret 1: bo_ (goB r.toNat a xs b ys)
  exact ⟨ret_b (by unfold winB; simp [*]), hw.below⟩

set_option maxHeartbeats 400000 in
/-- impl.SecondWins -/
theorem iWins_ok (a b : St) (xs ys : List Int) (va vb : Value) (w : World) (hsa : a.Small) (hsb : b.Small) (hva : Ints w va xs) (hvb : Ints w vb ys) (hs1 : xs.length ≤ 140737488355328) (hs2 : ys.length ≤ 140737488355328) (r : Int) :
    Calls Tryd.prog 82 [vS a, va, vS b, vb, i6_ r].toArray w fun en w' => en = .returned (.bool (secB a xs b ys r)) ∧ Below w.heap.size w w' := by
 refine fnStart (n := 25) (e := [(0, vS a), (1, va), (2, vS b), (3, vb), (4, i6_ r)]) Tryd.func82 rfl rfl rfl rfl Ends.both ?_
 refine Wk.seq ?_
 refine Wk.region ?_
 refine Ll.box (v := vS a) rfl rfl rfl rfl rfl fun p5 hp5 => ?_
 show Ll _ _ (Own _ _ [_]) _ _ ((5, pt_ p5) :: _) _ _ _
 refine Ll.box (v := vS b) rfl rfl rfl rfl rfl fun p7 hp7 => ?_
 show Ll _ _ (Own _ _ [_, _]) _ _ ((7, pt_ p7) :: _) _ _ _
 refine Ll.run 1 rfl ?_
 refine Ll.nil ?_
 refine Kt.sel [1, 3, 4, 5, 7] [_, _, _, _, _] rfl ?_
 refine Wk.seq ?_
 refine Wk.regionQ ?_
 refine Lq.op rfl rfl rfl (OpQ.loadBox (cs := #[i6_ a.n, str a.set, str a.rel]) 1 rfl Tryd.isAgg28 rfl rfl Tryd.sizeOf28) ?_
 refine Lq.run 1 rfl ?_
 refine Lq.op rfl rfl rfl (OpQ.loadBox (cs := #[i6_ b.n, str b.set, str b.rel]) 0 rfl Tryd.isAgg28 rfl rfl Tryd.sizeOf28) ?_
 refine Lq.run 2 rfl ?_
 refine Lq.op (v := bo_ (gameB a xs b ys r)) rfl rfl rfl (OpQ.call rfl Tryd.call49 rfl Own.stable (fun w1 hw1 => isGame_ok a b xs ys va vb w1 hsa hsb (Row.own hva hw1) (Row.own hvb hw1) (by first | (simp; done) | (simp; omega) | omega) (by first | (simp; done) | (simp; omega) | omega) r)) ?_
 refine Lq.run 1 rfl ?_
 refine Lq.bool fun b17 hg17 => ?_
 cases b17
 ·
  refine Lq.pass rfl rfl rfl ?_
  refine Lq.pass rfl rfl rfl ?_
  refine Lq.pass rfl rfl rfl ?_
  refine Lq.pass rfl rfl rfl ?_
  refine Lq.pass rfl rfl rfl ?_
  refine Lq.pass rfl rfl rfl ?_
  refine Lq.run 2 rfl ?_
  refine Lq.nil ?_
  refine Kt.sel [10] [_] rfl ?_
  refine Wk.ret (Kt.end1 rfl rfl fun w' hw => ?_)
  -- ret 0: bo_ false
  exact ⟨ret_b (by unfold secB; simp [*]), hw.below⟩
 ·
  replace hg17 : gameB a xs b ys r = true := by simpa using hg17
  obtain ⟨hLL, hr0, hr3⟩ := gameB_true hg17
  obtain ⟨LA, LB, hlen⟩ := listsB_true hLL
  have ha := LA.fine
  have hb := LB.fine
  have hA := LA.els
  have hB := LB.els
  have hl4 := LA.len
  refine Lq.op rfl rfl rfl (OpQ.loadBox (cs := #[i6_ a.n, str a.set, str a.rel]) 1 rfl Tryd.isAgg28 rfl rfl Tryd.sizeOf28) ?_
  refine Lq.run 1 rfl ?_
  refine Lq.op rfl rfl rfl (OpQ.loadBox (cs := #[i6_ b.n, str b.set, str b.rel]) 0 rfl Tryd.isAgg28 rfl rfl Tryd.sizeOf28) ?_
  refine Lq.run 2 rfl ?_
  refine Lq.op (v := bo_ (winB r.toNat a xs b ys)) rfl rfl rfl (OpQ.call rfl Tryd.call50 rfl Own.stable (fun w1 hw1 => wins_ok a b xs ys va vb w1 ha hb (Row.own hva hw1) (Row.own hvb hw1) hA hB (by first | (simp; done) | (simp; omega) | omega) (by first | (simp; done) | (simp; omega) | omega) r (by omega) (by omega))) ?_
  refine Lq.run 2 rfl ?_
  refine Lq.nil ?_
  refine Kt.sel [10] [_] rfl ?_
  refine Wk.ret (Kt.end1 rfl rfl fun w' hw => ?_)
  -- ret 1: bo_ (winB r.toNat a xs b ys)
  exact ⟨ret_b (by unfold secB; simp [*]), hw.below⟩

set_option maxHeartbeats 400000 in
/-- spec.l5Type|zero -/
theorem type_zero (B : Nat) (w0 : World) (hs : List (Nat × Obj)) (q c : Nat) (bs : List Bkt) (T : List (List UInt8)) (a : St) (va : Value) (xs : List Int) (w : World) (hT : TabOk bs T) (ha : a.Fine) (hva : ∀ w, Own B w0 hs w → Ints w va xs) (hA : a.Els xs) (h7 : xs.length + 0 ≤ 7) (hcap : T.length + cnt 0 ≤ 1000000) (hw : Own B w0 (tabL 143 3 145 q c bs T ++ hs) w) :
    Calls Tryd.prog 97 [.agg #[sl_ q 997 997, sl_ c 1 1], vS a, va, i6_ 0].toArray w fun en w' => ∃ (m : Nat) (bs' : List Bkt) (T' : List (List UInt8)), en = .returned (.int .i64 (m : Int)) ∧ (TabTo T bs' T' (cnt 0) ∧ Means T' 0 a xs m) ∧ Own B w0 (tabL 143 3 145 q c bs' T' ++ hs) w' := by
 refine fnStartC (Own B w0 (tabL 143 3 145 q c bs T ++ hs)) (n := 56) (e := [(0, .agg #[sl_ q 997 997, sl_ c 1 1]), (1, vS a), (2, va), (3, i6_ 0)]) Tryd.func97 rfl rfl rfl rfl Ends.both hw ?_
 have hc0 : cnt 0 = 1 := rfl
 have hbits : (atomBits a xs).length ≤ 175 := bits_small (by omega)
 have hd0 := decS_len 0 12 (by decide) (by decide)
 refine Wk.seq ?_
 refine Wk.region ?_
 refine Ll.box (v := .agg #[sl_ q 997 997, sl_ c 1 1]) rfl rfl rfl rfl rfl fun p4 hp4 => ?_
 show Ll _ _ (Own _ _ (_ :: _ :: _ :: ((blks 145 bs ++ hs)))) _ _ ((4, pt_ p4) :: _) _ _ _
 refine Ll.box (v := vS a) rfl rfl rfl rfl rfl fun p5 hp5 => ?_
 show Ll _ _ (Own _ _ (_ :: _ :: _ :: _ :: ((blks 145 bs ++ hs)))) _ _ ((5, pt_ p5) :: _) _ _ _
 refine Ll.run 1 rfl ?_
 refine Ll.nil ?_
 refine Kt.sel [2, 3, 4, 5] [_, _, _, _] rfl ?_
 refine Wk.seq ?_
 refine Wk.regionQ ?_
 refine Lq.op rfl rfl rfl (OpQ.loadBox (cs := #[i6_ a.n, str a.set, str a.rel]) 0 rfl Tryd.isAgg28 rfl rfl Tryd.sizeOf28) ?_
 refine Lq.run 1 rfl ?_
 refine Lq.op (v := str (atomBits a xs)) rfl rfl rfl (OpQ.call rfl Tryd.call135 rfl Own.stable (fun w1 hw1 => l5Atoms_ok a va xs w1 ha (hva _ (Own.drop (f := bk_ p5 #[i6_ a.n, str a.set, str a.rel] 28 :: bk_ p4 #[sl_ q 997 997, sl_ c 1 1] 98 :: bk_ q ((bs.map bktV).toArray) 143 :: bk_ c #[i6_ ((T.length : Int))] 3 :: blks 145 (bs)) hw1)) hA (by first | (simp; done) | (simp; omega) | omega))) ?_
 refine Lq.run 1 rfl ?_
 refine Lq.nil ?_
 refine Kt.sel [2, 3, 4, 5, 9] [_, _, _, _, _] rfl ?_
 refine Wk.seq ?_
 refine Wk.seq ?_
 refine Wk.regionQ ?_
 refine Lq.run 2 rfl ?_
 refine Lq.nil ?_
 refine Kt.sel [2, 3, 4, 5, 9, 17] [_, _, _, _, _, _] rfl ?_
 refine Wk.cond (b := decide ((0 : Int) < (0 : Int))) rfl (fun h17 => ?_) (fun h17 => ?_)
 ·
  replace h17 := of_decide_eq_true h17
  exact absurd h17 (by decide)
 ·
  replace h17 := of_decide_eq_false h17
  refine Wk.skip ?_
  refine Kt.sel [3, 4, 9] [_, _, _] rfl ?_
  refine Wk.seq ?_
  refine Wk.regionS (S := Own B w0 [bk_ p5 #[i6_ a.n, str a.set, str a.rel] 28, bk_ p4 #[sl_ q 997 997, sl_ c 1 1] 98]) [(0, true), (1, true), (4, true), (2, false), (3, true), (5, true), (6, false), (7, true)] Base.mixed (fun _ h => h.drawn) (by kernel_rfl) ?_
  refine Ld.take rfl rfl rfl rfl rfl (OpQ.loadBox (cs := #[sl_ q 997 997, sl_ c 1 1]) 1 rfl Tryd.isAgg98 rfl rfl Tryd.sizeOf98) (pk [0, 1] rfl rfl) ?_
  refine Ld.run 2 rfl (pk [0, 1] rfl rfl) ?_
  refine Ld.loud rfl ?_
  refine Ll.op (v := str (decS 0)) rfl rfl rfl (OpQ.cast rfl (OpQ.call rfl Tryd.call136 rfl Own.stable (fun w1 hw1 => l15Dec_ok 0 w1 (by omega) (by omega)))) ?_
  refine Ll.nil (Ld.joint (pk [0, 1] rfl rfl) ?_)
  refine Ld.take rfl rfl rfl rfl rfl (OpQ.sadd rfl rfl rfl (by simp only [List.length_append, List.length_cons, List.length_nil]; omega)) (pk [0, 1] rfl rfl) ?_
  refine Ld.take rfl rfl rfl rfl rfl (OpQ.sadd rfl rfl rfl (by simp only [List.length_append, List.length_cons, List.length_nil]; omega)) (pk [0, 1] rfl rfl) ?_
  refine Ld.loud rfl ?_
  refine Ll.callTab (S := 143) (I := 3) (E := 145) (q := q) (c := c) (bs := bs) (T := T) (hs := hs) (ok := fun m bs' T' => TabTo T bs' T' 1 ∧ T'[m]? = some (((decS 0) ++ ([58])) ++ (atomBits a xs))) (xs := [.tmp 49, .tmp 54]) (vs := [.agg #[sl_ q 997 997, sl_ c 1 1], str (((decS 0) ++ ([58])) ++ (atomBits a xs))]) [bk_ p5 #[i6_ a.n, str a.set, str a.rel] 28, bk_ p4 #[sl_ q 997 997, sl_ c 1 1] 98] rfl rfl rfl rfl Tryd.call137 rfl (fun w1 hw1 => number_ok B w0 ([bk_ p5 #[i6_ a.n, str a.set, str a.rel] 28, bk_ p4 #[sl_ q 997 997, sl_ c 1 1] 98] ++ hs) q c bs T (((decS 0) ++ ([58])) ++ (atomBits a xs)) w1 hT (by omega) (by simp only [List.length_append, List.length_cons, List.length_nil]; omega) hw1) fun m bs_ T_ hKm => ?_
  show Ll _ _ (Own _ _ (_ :: _ :: _ :: _ :: ((blks 145 bs_ ++ hs)))) _ _ ((55, i6_ ((m : Int))) :: _) _ _ _
  refine Ll.nil (Ld.joint (pk [0, 1] rfl rfl) ?_)
  refine Ld.run 1 rfl (pk [0, 1] rfl rfl) ?_
  refine Ld.nil ?_
  refine Kt.sel [8] [_] rfl ?_
  refine Wk.ret (Kt.end1 rfl rfl fun w' hw => ?_)
  -- ret 0: i6_ ((m : Int))
  exact ⟨m, bs_, T_, rfl, ⟨hKm.1, by show _ = some (descr 0 _ []); simpa [descr, commas] using hKm.2⟩, hw.drop (f := [bk_ p5 #[i6_ a.n, str a.set, str a.rel] 28, bk_ p4 #[sl_ q 997 997, sl_ c 1 1] 98])⟩

set_option maxHeartbeats 400000 in
/-- spec.l5Type -/
theorem type_of (n : Nat) (ih : ∀ (B : Nat) (w0 : World) (hs : List (Nat × Obj)) (q c : Nat) (bs : List Bkt) (T : List (List UInt8)) (a : St) (va : Value) (xs : List Int) (w : World), TabOk bs T → a.Fine → (∀ w, Own B w0 hs w → Ints w va xs) → a.Els xs → xs.length + n ≤ 7 → T.length + cnt n ≤ 1000000 → Own B w0 (tabL 143 3 145 q c bs T ++ hs) w → Calls Tryd.prog 97 #[.agg #[.slice (some ⟨q, 0, none⟩) 997 997, .slice (some ⟨c, 0, none⟩) 1 1], vS a, va, .int .i64 (n : Int)] w fun en w' => ∃ (m : Nat) (bs' : List Bkt) (T' : List (List UInt8)), en = .returned (.int .i64 (m : Int)) ∧ (TabTo T bs' T' (cnt n) ∧ Means T' n a xs m) ∧ Own B w0 (tabL 143 3 145 q c bs' T' ++ hs) w') (B : Nat) (w0 : World) (hs : List (Nat × Obj)) (q c : Nat) (bs : List Bkt) (T : List (List UInt8)) (a : St) (va : Value) (xs : List Int) (w : World) (hT : TabOk bs T) (ha : a.Fine) (hva : ∀ w, Own B w0 hs w → Ints w va xs) (hA : a.Els xs) (h7 : xs.length + (n + 1) ≤ 7) (hcap : T.length + cnt (n + 1) ≤ 1000000) (hw : Own B w0 (tabL 143 3 145 q c bs T ++ hs) w) :
    Calls Tryd.prog 97 [.agg #[sl_ q 997 997, sl_ c 1 1], vS a, va, i6_ ((n : Int) + 1)].toArray w fun en w' => ∃ (m : Nat) (bs' : List Bkt) (T' : List (List UInt8)), en = .returned (.int .i64 (m : Int)) ∧ (TabTo T bs' T' (cnt (n + 1)) ∧ Means T' (n + 1) a xs m) ∧ Own B w0 (tabL 143 3 145 q c bs' T' ++ hs) w' := by
 refine fnStartC (Own B w0 (tabL 143 3 145 q c bs T ++ hs)) (n := 56) (e := [(0, .agg #[sl_ q 997 997, sl_ c 1 1]), (1, vS a), (2, va), (3, i6_ ((n : Int) + 1))]) Tryd.func97 rfl rfl rfl rfl Ends.both hw ?_
 have hcs := cnt_succ n
 have hbits : (atomBits a xs).length ≤ 175 := bits_small (by omega)
 have hm8 := ha.hi
 have hm1 := ha.lo
 have hdn := decS_len (n + 1) 12 (show n + 1 < 1000000000000 by omega) (by decide)
 refine Wk.seq ?_
 refine Wk.region ?_
 refine Ll.box (v := .agg #[sl_ q 997 997, sl_ c 1 1]) rfl rfl rfl rfl rfl fun p4 hp4 => ?_
 show Ll _ _ (Own _ _ (_ :: _ :: _ :: ((blks 145 bs ++ hs)))) _ _ ((4, pt_ p4) :: _) _ _ _
 refine Ll.box (v := vS a) rfl rfl rfl rfl rfl fun p5 hp5 => ?_
 show Ll _ _ (Own _ _ (_ :: _ :: _ :: _ :: ((blks 145 bs ++ hs)))) _ _ ((5, pt_ p5) :: _) _ _ _
 refine Ll.run 1 rfl ?_
 refine Ll.nil ?_
 refine Kt.sel [2, 3, 4, 5] [_, _, _, _] rfl ?_
 refine Wk.seq ?_
 refine Wk.regionQ ?_
 refine Lq.op rfl rfl rfl (OpQ.loadBox (cs := #[i6_ a.n, str a.set, str a.rel]) 0 rfl Tryd.isAgg28 rfl rfl Tryd.sizeOf28) ?_
 refine Lq.run 1 rfl ?_
 refine Lq.op (v := str (atomBits a xs)) rfl rfl rfl (OpQ.call rfl Tryd.call135 rfl Own.stable (fun w1 hw1 => l5Atoms_ok a va xs w1 ha (hva _ (Own.drop (f := bk_ p5 #[i6_ a.n, str a.set, str a.rel] 28 :: bk_ p4 #[sl_ q 997 997, sl_ c 1 1] 98 :: bk_ q ((bs.map bktV).toArray) 143 :: bk_ c #[i6_ ((T.length : Int))] 3 :: blks 145 (bs)) hw1)) hA (by first | (simp; done) | (simp; omega) | omega))) ?_
 refine Lq.run 1 rfl ?_
 refine Lq.nil ?_
 refine Kt.sel [2, 3, 4, 5, 9] [_, _, _, _, _] rfl ?_
 refine Wk.seq ?_
 refine Wk.seq ?_
 refine Wk.regionQ ?_
 refine Lq.run 2 rfl ?_
 refine Lq.nil ?_
 refine Kt.sel [2, 3, 4, 5, 9, 17] [_, _, _, _, _, _] rfl ?_
 refine Wk.cond (b := decide ((0 : Int) < ((n : Int) + 1))) rfl (fun h17 => ?_) (fun h17 => ?_)
 ·
  replace h17 := of_decide_eq_true h17
  refine Wk.seq ?_
  refine Wk.region ?_
  refine Ll.slice (xs := []) (vs := []) Base.elem24 rfl rfl rfl rfl rfl rfl (by decide) rfl fun p18 hp18 => ?_
  refine Ll.run 1 rfl ?_
  refine Ll.nil ?_
  refine Kt.sel [2, 3, 4, 5, 9, 10] [_, _, _, _, _, _] rfl ?_
  refine Wk.seq ?_
  refine Wk.seq ?_
  refine Wk.regionQ ?_
  refine Lq.run 1 rfl ?_
  refine Lq.nil ?_
  refine Kt.sel [2, 3, 4, 5, 9, 10, 11] [_, _, _, _, _, _, _] rfl ?_
  refine Wk.block ?_
  refine Wk.loop (σ := Nat × List Bkt × List (List UInt8) × Nat × Nat × Array Value × List Int) (fun ⟨k, bs1, T1, g, cap, cur, L⟩ => (k : Int) ≤ a.n ∧ TabTo T bs1 T1 (k * cnt n) ∧ FoundL T1 n a xs L k ∧ cur.size = cap * 1 ∧ L.length ≤ cap ∧ cur.toList.take L.length = ints L) (fun ⟨k, bs1, T1, g, cap, cur, L⟩ => [(2, va), (3, i6_ ((n : Int) + 1)), (4, pt_ p4), (5, pt_ p5), (9, str (atomBits a xs)), (10, sl_ g L.length cap), (11, i6_ ((k : Int)))]) (fun ⟨k, bs1, T1, g, cap, cur, L⟩ => Own B w0 (bk_ g cur 3 :: bk_ p5 #[i6_ a.n, str a.set, str a.rel] 28 :: bk_ p4 #[sl_ q 997 997, sl_ c 1 1] 98 :: bk_ q ((bs1.map bktV).toArray) 143 :: bk_ c #[i6_ ((T1.length : Int))] 3 :: ((blks 145 bs1 ++ hs)))) (fun ⟨k, bs1, T1, g, cap, cur, L⟩ => (a.n - k).toNat) ((0, bs, T, p18, 0, #[], [])) ⟨by omega, ⟨hT, List.prefix_refl _, by omega⟩, FoundL.zero, rfl, Nat.le_refl _, rfl⟩ (Sub.sel [2, 3, 4, 5, 9, 10, 11] rfl) (fun _ h => h) ?_
  rintro ⟨k, bs1, T1, g, cap, cur, L⟩ ⟨hk, hTT, hF, hc, hle, ht⟩
  dsimp only
  have hFl := hF.len
  have hTl := hTT.len
  have hk8 := cnt_le k n (by omega)
  refine Wk.seq ?_
  refine Wk.seq ?_
  refine Wk.regionQ ?_
  refine Lq.run 1 rfl ?_
  refine Lq.op rfl rfl rfl (OpQ.fieldAddr rfl Tryd.runUnderlying28 rfl Tryd.sizeOf3 rfl rfl) ?_
  refine Lq.op rfl rfl rfl (OpQ.loadOwn 1 rfl Tryd.isAgg3 rfl rfl rfl) ?_
  refine Lq.run 1 rfl ?_
  refine Lq.nil ?_
  refine Kt.sel [2, 3, 4, 5, 9, 10, 11, 22] [_, _, _, _, _, _, _, _] rfl ?_
  refine Wk.cond (b := decide (((k : Int)) < a.n)) rfl (fun h22 => ?_) (fun h22 => ?_)
  ·
   replace h22 := of_decide_eq_true h22
   have hx : a.El k := ⟨by omega, by omega⟩
   have hk8b := cnt_le (k + 1) n (by omega)
   rw [Nat.add_mul, Nat.one_mul] at hk8b
   refine Wk.skip ?_
   refine Kt.sel [2, 3, 4, 5, 9, 10, 11] [_, _, _, _, _, _, _] rfl ?_
   refine Wk.seq ?_
   refine Wk.block ?_
   refine Wk.regionS (S := Own B w0 [bk_ p5 #[i6_ a.n, str a.set, str a.rel] 28, bk_ p4 #[sl_ q 997 997, sl_ c 1 1] 98]) [(0, true), (1, true), (2, true), (3, true), (4, true), (6, true), (7, true), (5, false), (8, false), (9, false), (10, true)] Base.mixed (fun _ h => h.drawn) (by kernel_rfl) ?_
   refine Ld.run 1 rfl (pk [1, 2] rfl rfl) ?_
   refine Ld.take rfl rfl rfl rfl rfl (OpQ.loadBox (cs := #[sl_ q 997 997, sl_ c 1 1]) 1 rfl Tryd.isAgg98 rfl rfl Tryd.sizeOf98) (pk [1, 2] rfl rfl) ?_
   refine Ld.take rfl rfl rfl rfl rfl (OpQ.loadBox (cs := #[i6_ a.n, str a.set, str a.rel]) 0 rfl Tryd.isAgg28 rfl rfl Tryd.sizeOf28) (pk [1, 2] rfl rfl) ?_
   refine Ld.run 3 rfl (pk [1, 2] rfl rfl) ?_
   refine Ld.take (v := i6_ ((n : Int))) rfl rfl rfl rfl rfl (OpQ.cast (by congr 1; omega) (OpQ.sub rfl rfl rfl (by omega) (by omega))) (pk [1, 2] rfl rfl) ?_
   refine Ld.loud rfl ?_
   refine Ll.callRow (xs := [.tmp 28, .tmp 29]) (m := (xs ++ [(k : Int)]).length) (vs := ints (xs ++ [(k : Int)])) (el := 3) (size := 1) rfl rfl rfl rfl Tryd.call85 rfl (fun w1 hw1 => l4With_ok va xs ((k : Int)) w1 (hva _ (Own.drop (f := bk_ g cur 3 :: bk_ p5 #[i6_ a.n, str a.set, str a.rel] 28 :: bk_ p4 #[sl_ q 997 997, sl_ c 1 1] 98 :: bk_ q ((bs1.map bktV).toArray) 143 :: bk_ c #[i6_ ((T1.length : Int))] 3 :: blks 145 (bs1)) hw1)) (by omega)) fun p30 cap30 cur30 hp30 hcp30 hlp30 htp30 => ?_
   refine Ll.nil (Ld.joint (pk [2, 3] rfl rfl) ?_)
   refine Ld.loud rfl ?_
   refine Ll.callTab (S := 143) (I := 3) (E := 145) (q := q) (c := c) (bs := bs1) (T := T1) (hs := hs) (ok := fun m bs' T' => TabTo T1 bs' T' (cnt n) ∧ Means T' n a (xs ++ [(k : Int)]) m) (xs := [.tmp 26, .tmp 27, .tmp 30, .tmp 32]) (vs := [.agg #[sl_ q 997 997, sl_ c 1 1], vS a, sl_ p30 ((xs ++ [(k : Int)]).length) cap30, i6_ ((n : Int))]) [bk_ p30 cur30 3, bk_ g cur 3, bk_ p5 #[i6_ a.n, str a.set, str a.rel] 28, bk_ p4 #[sl_ q 997 997, sl_ c 1 1] 98] rfl rfl rfl rfl Tryd.call97 rfl (fun w1 hw1 => ih B w0 ([bk_ p30 cur30 3, bk_ g cur 3, bk_ p5 #[i6_ a.n, str a.set, str a.rel] 28, bk_ p4 #[sl_ q 997 997, sl_ c 1 1] 98] ++ hs) q c bs1 T1 a (sl_ p30 ((xs ++ [(k : Int)]).length) cap30) (xs ++ [(k : Int)]) w1 hTT.ok ha (fun w2 hw2 => (Own.row hw2 (i := 0) rfl (by simpa using htp30) (by simp) hlp30)) (els_more hA hx) (by first | (simp; done) | (simp; omega) | omega) (by omega) hw1) fun m bs_ T_ hKm => ?_
   show Ll _ _ (Own _ _ (_ :: _ :: _ :: _ :: _ :: _ :: ((blks 145 bs_ ++ hs)))) _ _ ((33, i6_ ((m : Int))) :: _) _ _ _
   refine Ll.nil (Ld.joint (pk [2, 3] rfl rfl) ?_)
   refine Ld.loud rfl ?_
   refine Ll.callGet (σ := Nat × Nat × Array Value) (ok := fun (g, c', u) => u.size = c' * 1 ∧ (insS L ((m : Int))).length ≤ c' ∧ u.toList.take (insS L ((m : Int))).length = ints (insS L ((m : Int)))) (v := fun (g, c', u) => .slice (some ⟨g, 0, none⟩) (insS L ((m : Int))).length c') (xs := [.tmp 25, .tmp 33]) (vs := [sl_ g L.length cap, i6_ ((m : Int))]) (hs' := fun (g, c', u) => (bk_ p30 cur30 3 :: bk_ g u 3 :: bk_ p5 #[i6_ a.n, str a.set, str a.rel] 28 :: bk_ p4 #[sl_ q 997 997, sl_ c 1 1] 98 :: bk_ q ((bs_.map bktV).toArray) 143 :: bk_ c #[i6_ ((T_.length : Int))] 3 :: ((blks 145 bs_ ++ hs)))) rfl rfl rfl rfl Tryd.call62 rfl (fun w1 hw1 => (l5Insert_ok _ _ _ g cap cur L ((m : Int)) w1 hc hle ht (by omega) (hw1.perm (perm_back [bk_ p30 cur30 3] [_] _))).mono fun en w' ⟨g', cap', cur', h1, h2, h3⟩ => ⟨(g', cap', cur'), h1, h2, h3.perm (perm_back [_] [bk_ p30 cur30 3] _)⟩) fun ⟨g_, cap_, cur_⟩ ⟨hcg_, hlg_, htg_⟩ => ?_
   show Ll _ _ (Own _ _ (_ :: _ :: _ :: _ :: _ :: _ :: ((blks 145 bs_ ++ hs)))) _ _ ((34, sl_ g_ ((insS L ((m : Int))).length) cap_) :: _) _ _ _
   refine Ll.nil (Ld.joint (pk [2, 3] rfl rfl) ?_)
   refine Ld.run 1 rfl (pk [2, 3] rfl rfl) ?_
   refine Ld.nil ?_
   refine Kt.sel [2, 3, 4, 5, 9, 10, 11] [_, _, _, _, _, _, _] rfl ?_
   refine Wk.regionQ ?_
   refine Lq.run 1 rfl ?_
   refine Lq.op rfl rfl rfl (OpQ.add rfl rfl rfl (by omega) (by omega)) ?_
   refine Lq.run 1 rfl ?_
   refine Lq.nil ?_
   refine Kt.again ((k + 1, bs_, T_, g_, cap_, cur_, (insS L ((m : Int))))) ⟨by omega, hTT.trans hKm.1 (by rw [Nat.add_mul, Nat.one_mul]; exact Nat.le_refl _), hF.step hKm.1.pre hKm.2, hcg_, hlg_, htg_⟩ (by omega) (Sub.sel [2, 3, 4, 5, 9, 10, 11] rfl) (fun _ h => h.tail)
  ·
   replace h22 := of_decide_eq_false h22
   have hsm := hF.small (by omega)
   refine Wk.exit rfl ?_
   refine Kt.sel [3, 4, 9, 10] [_, _, _, _] rfl ?_
   refine Wk.seq ?_
   refine Wk.regionQ ?_
   refine Lq.run 1 rfl ?_
   refine Lq.nil ?_
   refine Kt.sel [3, 4, 9, 10, 12] [_, _, _, _, _] rfl ?_
   refine Wk.block ?_
   refine Wk.loop (σ := Nat) (fun i => i ≤ L.length) (fun i => [(3, i6_ ((n : Int) + 1)), (4, pt_ p4), (9, str (atomBits a xs ++ commas (L.take i))), (10, sl_ g L.length cap), (12, i6_ ((i : Int)))]) (fun i => Own B w0 (bk_ g cur 3 :: bk_ p5 #[i6_ a.n, str a.set, str a.rel] 28 :: bk_ p4 #[sl_ q 997 997, sl_ c 1 1] 98 :: bk_ q ((bs1.map bktV).toArray) 143 :: bk_ c #[i6_ ((T1.length : Int))] 3 :: ((blks 145 bs1 ++ hs)))) (fun i => L.length - i) (0) (by omega) (Sub.cons rfl (Sub.cons rfl (Sub.cons (by simp [commas, List.lookup]) (Sub.sel [10, 12] rfl)))) (fun _ h => h) ?_
   rintro i hi
   refine Wk.seq ?_
   refine Wk.seq ?_
   refine Wk.regionQ ?_
   refine Lq.run 2 rfl ?_
   refine Lq.op rfl rfl rfl (OpQ.lenS rfl Tryd.runUnderlying24 rfl) ?_
   refine Lq.run 1 rfl ?_
   refine Lq.nil ?_
   refine Kt.sel [3, 4, 9, 10, 12, 38] [_, _, _, _, _, _] rfl ?_
   refine Wk.cond (b := decide (((i : Int)) < ((L.length : Int)))) rfl (fun h38 => ?_) (fun h38 => ?_)
   ·
    replace h38 := of_decide_eq_true h38
    have hct := commas_take (i := i) hsm (by omega)
    obtain ⟨hs0, hs1⟩ := at_small hsm (i := i) (by omega)
    have hdi := decS_len (L.getD i 0).toNat 12 (show _ < 1000000000000 by omega) (by decide)
    refine Wk.skip ?_
    refine Kt.sel [3, 4, 9, 10, 12] [_, _, _, _, _] rfl ?_
    refine Wk.seq ?_
    refine Wk.block ?_
    refine Wk.regionQ ?_
    refine Lq.run 1 rfl ?_
    refine Lq.op rfl rfl rfl (OpQ.sadd rfl rfl rfl (by simp only [List.length_append, List.length_cons, List.length_nil]; omega)) ?_
    refine Lq.run 2 rfl ?_
    refine Lq.op (v := pf_ g i) rfl rfl rfl (OpQ.cast (by simp) (OpQ.indexAddr1 rfl Tryd.runUnderlying24 Tryd.sizeOf3 rfl rfl (by omega) (by omega))) ?_
    refine Lq.op (v := i6_ (L.getD (i) 0)) rfl rfl rfl (OpQ.loadAt 0 rfl Tryd.isAgg3 rfl rfl (cur_at ht (ints_at2 (by omega)))) ?_
    refine Lq.op (v := str (decS (L.getD (i) 0).toNat)) rfl rfl rfl (OpQ.call rfl Tryd.call136 rfl Own.stable (fun w1 hw1 => l15Dec_ok (L.getD (i) 0) w1 (by omega) (by omega))) ?_
    refine Lq.op rfl rfl rfl (OpQ.sadd rfl rfl rfl (by simp only [List.length_append, List.length_cons, List.length_nil, Int.toNat_natCast] at *; omega)) ?_
    refine Lq.run 1 rfl ?_
    refine Lq.nil ?_
    refine Kt.sel [3, 4, 9, 10, 12] [_, _, _, _, _] rfl ?_
    refine Wk.regionQ ?_
    refine Lq.run 1 rfl ?_
    refine Lq.op rfl rfl rfl (OpQ.add rfl rfl rfl (by omega) (by omega)) ?_
    refine Lq.run 1 rfl ?_
    refine Lq.nil ?_
    refine Kt.again (i + 1) (by omega) (by omega) (Sub.cons rfl (Sub.cons rfl (Sub.cons (by rw [commas_step (by omega)]; rfl) (Sub.sel [10, 12] rfl)))) (fun _ h => h)
   ·
    replace h38 := of_decide_eq_false h38
    obtain rfl : i = L.length := by omega
    rw [List.take_length]
    have hcl := commas_len hsm
    refine Wk.exit rfl ?_
    refine Kt.sel [3, 4, 9] [_, _, _] rfl ?_
    refine Wk.seq ?_
    refine Wk.regionS (S := Own B w0 [bk_ g cur 3, bk_ p5 #[i6_ a.n, str a.set, str a.rel] 28, bk_ p4 #[sl_ q 997 997, sl_ c 1 1] 98]) [(0, true), (1, true), (4, true), (2, false), (3, true), (5, true), (6, false), (7, true)] Base.mixed (fun _ h => h.drawn) (by kernel_rfl) ?_
    refine Ld.take rfl rfl rfl rfl rfl (OpQ.loadBox (cs := #[sl_ q 997 997, sl_ c 1 1]) 2 rfl Tryd.isAgg98 rfl rfl Tryd.sizeOf98) (pk [0, 1, 2] rfl rfl) ?_
    refine Ld.run 2 rfl (pk [0, 1, 2] rfl rfl) ?_
    refine Ld.loud rfl ?_
    refine Ll.op (v := str (decS (n + 1))) rfl rfl rfl (OpQ.cast (by rw [show ((n : Int) + 1).toNat = n + 1 from by omega]) (OpQ.call rfl Tryd.call136 rfl Own.stable (fun w1 hw1 => l15Dec_ok ((n : Int) + 1) w1 (by omega) (by omega)))) ?_
    refine Ll.nil (Ld.joint (pk [0, 1, 2] rfl rfl) ?_)
    refine Ld.take rfl rfl rfl rfl rfl (OpQ.sadd rfl rfl rfl (by simp only [List.length_append, List.length_cons, List.length_nil]; omega)) (pk [0, 1, 2] rfl rfl) ?_
    refine Ld.take rfl rfl rfl rfl rfl (OpQ.sadd rfl rfl rfl (by simp only [List.length_append, List.length_cons, List.length_nil]; omega)) (pk [0, 1, 2] rfl rfl) ?_
    refine Ld.loud rfl ?_
    refine Ll.callTab (S := 143) (I := 3) (E := 145) (q := q) (c := c) (bs := bs1) (T := T1) (hs := hs) (ok := fun m bs' T' => TabTo T1 bs' T' 1 ∧ T'[m]? = some (((decS (n + 1)) ++ ([58])) ++ (atomBits a xs ++ commas L))) (xs := [.tmp 49, .tmp 54]) (vs := [.agg #[sl_ q 997 997, sl_ c 1 1], str (((decS (n + 1)) ++ ([58])) ++ (atomBits a xs ++ commas L))]) [bk_ g cur 3, bk_ p5 #[i6_ a.n, str a.set, str a.rel] 28, bk_ p4 #[sl_ q 997 997, sl_ c 1 1] 98] rfl rfl rfl rfl Tryd.call137 rfl (fun w1 hw1 => number_ok B w0 ([bk_ g cur 3, bk_ p5 #[i6_ a.n, str a.set, str a.rel] 28, bk_ p4 #[sl_ q 997 997, sl_ c 1 1] 98] ++ hs) q c bs1 T1 (((decS (n + 1)) ++ ([58])) ++ (atomBits a xs ++ commas L)) w1 hTT.ok (by omega) (by simp only [List.length_append, List.length_cons, List.length_nil]; omega) hw1) fun m_1 bs__1 T__1 hKm_1 => ?_
    show Ll _ _ (Own _ _ (_ :: _ :: _ :: _ :: _ :: ((blks 145 bs__1 ++ hs)))) _ _ ((55, i6_ ((m_1 : Int))) :: _) _ _ _
    refine Ll.nil (Ld.joint (pk [0, 1, 2] rfl rfl) ?_)
    refine Ld.run 1 rfl (pk [0, 1, 2] rfl rfl) ?_
    refine Ld.nil ?_
    refine Kt.sel [8] [_] rfl ?_
    refine Wk.ret (Kt.end1 rfl rfl fun w' hw => ?_)
    -- ret 0: i6_ ((m_1 : Int))
    obtain rfl : k = a.n.toNat := by omega
    exact ⟨m_1, bs__1, T__1, rfl, ⟨hTT.trans hKm_1.1 (by rw [cnt_succ]; omega), hF.means hKm_1.1.pre hKm_1.2⟩, hw.drop (f := [bk_ g cur 3, bk_ p5 #[i6_ a.n, str a.set, str a.rel] 28, bk_ p4 #[sl_ q 997 997, sl_ c 1 1] 98])⟩
 ·
  replace h17 := of_decide_eq_false h17
  exact absurd h17 (by omega)

theorem type_ok : ∀ n : Nat, ∀ (B : Nat) (w0 : World) (hs : List (Nat × Obj)) (q c : Nat) (bs : List Bkt) (T : List (List UInt8)) (a : St) (va : Value) (xs : List Int) (w : World), TabOk bs T → a.Fine → (∀ w, Own B w0 hs w → Ints w va xs) → a.Els xs → xs.length + n ≤ 7 → T.length + cnt n ≤ 1000000 → Own B w0 (tabL 143 3 145 q c bs T ++ hs) w → Calls Tryd.prog 97 #[.agg #[.slice (some ⟨q, 0, none⟩) 997 997, .slice (some ⟨c, 0, none⟩) 1 1], vS a, va, .int .i64 (n : Int)] w fun en w' => ∃ (m : Nat) (bs' : List Bkt) (T' : List (List UInt8)), en = .returned (.int .i64 (m : Int)) ∧ (TabTo T bs' T' (cnt n) ∧ Means T' n a xs m) ∧ Own B w0 (tabL 143 3 145 q c bs' T' ++ hs) w'
  | 0 => fun B w0 hs q c bs T a va xs w hT ha hva hA h7 hcap hw => type_zero B w0 hs q c bs T a va xs w hT ha hva hA h7 hcap hw
  | n + 1 => fun B w0 hs q c bs T a va xs w hT ha hva hA h7 hcap hw => type_of n (type_ok n) B w0 hs q c bs T a va xs w hT ha hva hA h7 hcap hw
theorem type_at (r : Int) (h0 : 0 ≤ r) : ∀ (B : Nat) (w0 : World) (hs : List (Nat × Obj)) (q c : Nat) (bs : List Bkt) (T : List (List UInt8)) (a : St) (va : Value) (xs : List Int) (w : World), TabOk bs T → a.Fine → (∀ w, Own B w0 hs w → Ints w va xs) → a.Els xs → xs.length + r.toNat ≤ 7 → T.length + cnt r.toNat ≤ 1000000 → Own B w0 (tabL 143 3 145 q c bs T ++ hs) w → Calls Tryd.prog 97 #[.agg #[.slice (some ⟨q, 0, none⟩) 997 997, .slice (some ⟨c, 0, none⟩) 1 1], vS a, va, .int .i64 r] w fun en w' => ∃ (m : Nat) (bs' : List Bkt) (T' : List (List UInt8)), en = .returned (.int .i64 (m : Int)) ∧ (TabTo T bs' T' (cnt r.toNat) ∧ Means T' r.toNat a xs m) ∧ Own B w0 (tabL 143 3 145 q c bs' T' ++ hs) w' := by
  have h := type_ok r.toNat
  rw [Int.toNat_of_nonneg h0] at h
  exact h

set_option maxHeartbeats 400000 in
/-- spec.l5Wins -/
theorem l5Wins_ok (a b : St) (xs ys : List Int) (va vb : Value) (w : World) (ha : a.Fine) (hb : b.Fine) (hva : Ints w va xs) (hvb : Ints w vb ys) (hA : a.Els xs) (hB : b.Els ys) (hlen : xs.length = ys.length) (h4 : xs.length ≤ 4) (r : Int) (h0 : 0 ≤ r) (h3 : r ≤ 3) :
    Calls Tryd.prog 47 [vS a, va, vS b, vb, i6_ r].toArray w fun en w' => en = .returned (.bool (winB r.toNat a xs b ys)) ∧ Below w.heap.size w w' := by
 refine fnStart (n := 24) (e := [(0, vS a), (1, va), (2, vS b), (3, vb), (4, i6_ r)]) Tryd.func47 rfl rfl rfl rfl Ends.both ?_
 have hcn := cnt_small (n := r.toNat) (by omega)
 refine Wk.seq ?_
 refine Wk.region ?_
 refine Ll.box (v := vS a) rfl rfl rfl rfl rfl fun p5 hp5 => ?_
 show Ll _ _ (Own _ _ [_]) _ _ ((5, pt_ p5) :: _) _ _ _
 refine Ll.box (v := vS b) rfl rfl rfl rfl rfl fun p7 hp7 => ?_
 show Ll _ _ (Own _ _ [_, _]) _ _ ((7, pt_ p7) :: _) _ _ _
 refine Ll.run 1 rfl ?_
 refine Ll.nil ?_
 refine Kt.sel [1, 3, 4, 5, 7] [_, _, _, _, _] rfl ?_
 refine Wk.seq ?_
 refine Wk.region ?_
 refine Ll.callGet (σ := Nat × Nat × List Bkt) (ok := fun s => TabOk s.2.2 []) (v := fun s => .agg #[.slice (some ⟨s.1, 0, none⟩) 997 997, .slice (some ⟨s.2.1, 0, none⟩) 1 1]) (xs := []) (vs := []) (hs' := fun s => [bk_ p7 #[i6_ b.n, str b.set, str b.rel] 28, bk_ p5 #[i6_ a.n, str a.set, str a.rel] 28] ++ (tabL 143 3 145 s.1 s.2.1 s.2.2 [] ++ [])) rfl rfl rfl rfl Tryd.call96 rfl (fun w1 hw1 => (l5New_ok _ _ _ w1 hw1).mono fun en w' ⟨q, c, h1, h2⟩ => ⟨(q, c, _), h1, TabOk.new, by dsimp only; rw [List.append_nil]; exact h2.perm perm_front⟩) fun ⟨q, c, bs0⟩ hT0 => ?_
 show Ll _ _ (Own _ _ (_ :: _ :: _ :: _ :: ((blks 145 bs0 ++ [])))) _ _ ((12, .agg #[sl_ q 997 997, sl_ c 1 1]) :: _) _ _ _
 refine Ll.alloc rfl rfl rfl rfl Tryd.zeroValue98 fun p11 hp11 => ?_
 show Ll _ _ (Own _ _ (bk_ p11 #[.slice none 0 0, .slice none 0 0] 98 :: _ :: _ :: _ :: _ :: ((blks 145 bs0 ++ [])))) _ _ ((11, pt_ p11) :: _) _ _ _
 refine Ll.storeBox (cs' := #[sl_ q 997 997, sl_ c 1 1]) (hs' := (bk_ p11 #[sl_ q 997 997, sl_ c 1 1] 98 :: _ :: _ :: _ :: _ :: ((blks 145 bs0 ++ [])))) 0 rfl rfl rfl rfl rfl (by kernel_rfl : _ = some Tryd.t98) rfl rfl rfl rfl rfl ?_
 refine Ll.nil ?_
 refine Kt.sel [1, 3, 4, 5, 7, 11] [_, _, _, _, _, _] rfl ?_
 refine Wk.seq ?_
 refine Wk.regionS (S := Own w.heap.size w [bk_ p11 #[sl_ q 997 997, sl_ c 1 1] 98, bk_ p7 #[i6_ b.n, str b.set, str b.rel] 28, bk_ p5 #[i6_ a.n, str a.set, str a.rel] 28]) [(0, true), (1, true), (2, true), (3, true), (5, true), (6, true), (7, true), (8, true), (4, false), (9, false), (10, true), (11, true)] Base.mixed (fun _ h => h.drawn) (by kernel_rfl) ?_
 refine Ld.take rfl rfl rfl rfl rfl (OpQ.loadBox (cs := #[sl_ q 997 997, sl_ c 1 1]) 0 rfl Tryd.isAgg98 rfl rfl Tryd.sizeOf98) (pk [0, 1, 2] rfl rfl) ?_
 refine Ld.take rfl rfl rfl rfl rfl (OpQ.loadBox (cs := #[i6_ a.n, str a.set, str a.rel]) 2 rfl Tryd.isAgg28 rfl rfl Tryd.sizeOf28) (pk [0, 1, 2] rfl rfl) ?_
 refine Ld.run 2 rfl (pk [0, 1, 2] rfl rfl) ?_
 refine Ld.take rfl rfl rfl rfl rfl (OpQ.loadBox (cs := #[sl_ q 997 997, sl_ c 1 1]) 0 rfl Tryd.isAgg98 rfl rfl Tryd.sizeOf98) (pk [0, 1, 2] rfl rfl) ?_
 refine Ld.take rfl rfl rfl rfl rfl (OpQ.loadBox (cs := #[i6_ b.n, str b.set, str b.rel]) 1 rfl Tryd.isAgg28 rfl rfl Tryd.sizeOf28) (pk [0, 1, 2] rfl rfl) ?_
 refine Ld.run 2 rfl (pk [0, 1, 2] rfl rfl) ?_
 refine Ld.loud rfl ?_
 refine Ll.callTab (S := 143) (I := 3) (E := 145) (q := q) (c := c) (bs := bs0) (T := (([] : List (List UInt8)))) (hs := []) (ok := fun m bs' T' => TabTo (([] : List (List UInt8))) bs' T' (cnt r.toNat) ∧ Means T' r.toNat a xs m) (xs := [.tmp 13, .tmp 14, .tmp 15, .tmp 16]) (vs := [.agg #[sl_ q 997 997, sl_ c 1 1], vS a, va, i6_ r]) [bk_ p11 #[sl_ q 997 997, sl_ c 1 1] 98, bk_ p7 #[i6_ b.n, str b.set, str b.rel] 28, bk_ p5 #[i6_ a.n, str a.set, str a.rel] 28] rfl rfl rfl rfl Tryd.call97 rfl (fun w1 hw1 => type_at r h0 w.heap.size w ([bk_ p11 #[sl_ q 997 997, sl_ c 1 1] 98, bk_ p7 #[i6_ b.n, str b.set, str b.rel] 28, bk_ p5 #[i6_ a.n, str a.set, str a.rel] 28] ++ []) q c bs0 (([] : List (List UInt8))) a va xs w1 hT0 ha (fun w2 hw2 => (Row.own hva hw2)) hA (by first | (simp; done) | (simp; omega) | omega) (by simp only [List.length_nil]; omega) hw1) fun m bs_ T_ hKm => ?_
 show Ll _ _ (Own _ _ (_ :: _ :: _ :: _ :: _ :: ((blks 145 bs_ ++ [])))) _ _ ((17, i6_ ((m : Int))) :: _) _ _ _
 refine Ll.nil (Ld.joint (pk [0, 1, 2] rfl rfl) ?_)
 refine Ld.loud rfl ?_
 refine Ll.callTab (S := 143) (I := 3) (E := 145) (q := q) (c := c) (bs := bs_) (T := T_) (hs := []) (ok := fun m bs' T' => TabTo T_ bs' T' (cnt r.toNat) ∧ Means T' r.toNat b ys m) (xs := [.tmp 18, .tmp 19, .tmp 20, .tmp 21]) (vs := [.agg #[sl_ q 997 997, sl_ c 1 1], vS b, vb, i6_ r]) [bk_ p11 #[sl_ q 997 997, sl_ c 1 1] 98, bk_ p7 #[i6_ b.n, str b.set, str b.rel] 28, bk_ p5 #[i6_ a.n, str a.set, str a.rel] 28] rfl rfl rfl rfl Tryd.call97 rfl (fun w1 hw1 => type_at r h0 w.heap.size w ([bk_ p11 #[sl_ q 997 997, sl_ c 1 1] 98, bk_ p7 #[i6_ b.n, str b.set, str b.rel] 28, bk_ p5 #[i6_ a.n, str a.set, str a.rel] 28] ++ []) q c bs_ T_ b vb ys w1 hKm.1.ok hb (fun w2 hw2 => (Row.own hvb hw2)) hB (by first | (simp; done) | (simp; omega) | omega) (by have := hKm.1.len; simp only [List.length_nil] at this; omega) hw1) fun m_1 bs__1 T__1 hKm_1 => ?_
 show Ll _ _ (Own _ _ (_ :: _ :: _ :: _ :: _ :: ((blks 145 bs__1 ++ [])))) _ _ ((22, i6_ ((m_1 : Int))) :: _) _ _ _
 refine Ll.nil (Ld.joint (pk [0, 1, 2] rfl rfl) ?_)
 refine Ld.run 2 rfl (pk [0, 1, 2] rfl rfl) ?_
 refine Ld.nil ?_
 refine Kt.sel [10] [_] rfl ?_
 refine Wk.ret (Kt.end1 rfl rfl fun w' hw => ?_)
 -- ret 0: bo_ (decide (((m : Int)) = ((m_1 : Int))))
 exact ⟨ret_b (winB_eq hKm_1.1.ok.nodup hlen (hKm.2.mono hKm_1.1.pre _ _ _ _) hKm_1.2), hw.below⟩

set_option maxHeartbeats 400000 in
/-- spec.l5Ready -/
theorem l5Ready_ok (a b : St) (xs ys : List Int) (va vb : Value) (w : World) (hsa : a.Small) (hsb : b.Small) (hva : Ints w va xs) (hvb : Ints w vb ys) (hs1 : xs.length ≤ 140737488355328) (hs2 : ys.length ≤ 140737488355328) (loa : -9223372036854775808 ≤ a.n) (hia : a.n ≤ 9223372036854775807) (lob : -9223372036854775808 ≤ b.n) (hib : b.n ≤ 9223372036854775807) (r : Int) :
    Calls Tryd.prog 46 [vS a, va, vS b, vb, i6_ r].toArray w fun en w' => en = .returned (.bool (gameB a xs b ys r)) ∧ Below w.heap.size w w' := by
 refine fnStart (n := 20) (e := [(0, vS a), (1, va), (2, vS b), (3, vb), (4, i6_ r)]) Tryd.func46 rfl rfl rfl rfl Ends.both ?_
 refine Wk.seq ?_
 refine Wk.region ?_
 refine Ll.box (v := vS a) rfl rfl rfl rfl rfl fun p5 hp5 => ?_
 show Ll _ _ (Own _ _ [_]) _ _ ((5, pt_ p5) :: _) _ _ _
 refine Ll.box (v := vS b) rfl rfl rfl rfl rfl fun p7 hp7 => ?_
 show Ll _ _ (Own _ _ [_, _]) _ _ ((7, pt_ p7) :: _) _ _ _
 refine Ll.run 1 rfl ?_
 refine Ll.nil ?_
 refine Kt.sel [1, 3, 4, 5, 7] [_, _, _, _, _] rfl ?_
 refine Wk.seq ?_
 refine Wk.regionQ ?_
 refine Lq.op rfl rfl rfl (OpQ.loadBox (cs := #[i6_ a.n, str a.set, str a.rel]) 1 rfl Tryd.isAgg28 rfl rfl Tryd.sizeOf28) ?_
 refine Lq.run 1 rfl ?_
 refine Lq.op rfl rfl rfl (OpQ.loadBox (cs := #[i6_ b.n, str b.set, str b.rel]) 0 rfl Tryd.isAgg28 rfl rfl Tryd.sizeOf28) ?_
 refine Lq.run 1 rfl ?_
 refine Lq.op (v := bo_ (listsB a xs b ys)) rfl rfl rfl (OpQ.call rfl Tryd.call95 rfl Own.stable (fun w1 hw1 => l4Lists_ok a b xs ys va vb w1 hsa hsb (Row.own hva hw1) (Row.own hvb hw1) (by first | (simp; done) | (simp; omega) | omega) (by first | (simp; done) | (simp; omega) | omega) loa hia lob hib)) ?_
 refine Lq.run 1 rfl ?_
 refine Lq.bool fun b16 hg16 => ?_
 cases b16
 ·
  refine Lq.pass rfl rfl rfl ?_
  refine Lq.pass rfl rfl rfl ?_
  refine Lq.run 2 rfl ?_
  refine Lq.nil ?_
  refine Kt.sel [10] [_] rfl ?_
  refine Wk.ret (Kt.end1 rfl rfl fun w' hw => ?_)
  -- ret 0: bo_ false
  exact ⟨ret_b (by unfold gameB; first | (simp_all; done) | (simp_all; omega)), hw.below⟩
 ·
  refine Lq.run 1 rfl ?_
  refine Lq.op (v := bo_ (inB r 0 3)) rfl rfl rfl (OpQ.call rfl Tryd.call42 rfl Own.stable (fun w1 hw1 => l1In_ok r 0 3 w1 )) ?_
  refine Lq.run 2 rfl ?_
  refine Lq.nil ?_
  refine Kt.sel [10] [_] rfl ?_
  refine Wk.ret (Kt.end1 rfl rfl fun w' hw => ?_)
  -- ret 1: bo_ (inB r 0 3)
  exact ⟨ret_b (by unfold gameB; first | (simp_all; done) | (simp_all; omega)), hw.below⟩

set_option maxHeartbeats 400000 in
/-- spec.SecondWins -/
theorem sWins_ok (a b : St) (xs ys : List Int) (va vb : Value) (w : World) (hsa : a.Small) (hsb : b.Small) (hva : Ints w va xs) (hvb : Ints w vb ys) (hs1 : xs.length ≤ 140737488355328) (hs2 : ys.length ≤ 140737488355328) (loa : -9223372036854775808 ≤ a.n) (hia : a.n ≤ 9223372036854775807) (lob : -9223372036854775808 ≤ b.n) (hib : b.n ≤ 9223372036854775807) (r : Int) :
    Calls Tryd.prog 83 [vS a, va, vS b, vb, i6_ r].toArray w fun en w' => en = .returned (.bool (secB a xs b ys r)) ∧ Below w.heap.size w w' := by
 refine fnStart (n := 25) (e := [(0, vS a), (1, va), (2, vS b), (3, vb), (4, i6_ r)]) Tryd.func83 rfl rfl rfl rfl Ends.both ?_
 refine Wk.seq ?_
 refine Wk.region ?_
 refine Ll.box (v := vS a) rfl rfl rfl rfl rfl fun p5 hp5 => ?_
 show Ll _ _ (Own _ _ [_]) _ _ ((5, pt_ p5) :: _) _ _ _
 refine Ll.box (v := vS b) rfl rfl rfl rfl rfl fun p7 hp7 => ?_
 show Ll _ _ (Own _ _ [_, _]) _ _ ((7, pt_ p7) :: _) _ _ _
 refine Ll.run 1 rfl ?_
 refine Ll.nil ?_
 refine Kt.sel [1, 3, 4, 5, 7] [_, _, _, _, _] rfl ?_
 refine Wk.seq ?_
 refine Wk.regionQ ?_
 refine Lq.op rfl rfl rfl (OpQ.loadBox (cs := #[i6_ a.n, str a.set, str a.rel]) 1 rfl Tryd.isAgg28 rfl rfl Tryd.sizeOf28) ?_
 refine Lq.run 1 rfl ?_
 refine Lq.op rfl rfl rfl (OpQ.loadBox (cs := #[i6_ b.n, str b.set, str b.rel]) 0 rfl Tryd.isAgg28 rfl rfl Tryd.sizeOf28) ?_
 refine Lq.run 2 rfl ?_
 refine Lq.op (v := bo_ (gameB a xs b ys r)) rfl rfl rfl (OpQ.call rfl Tryd.call46 rfl Own.stable (fun w1 hw1 => l5Ready_ok a b xs ys va vb w1 hsa hsb (Row.own hva hw1) (Row.own hvb hw1) (by first | (simp; done) | (simp; omega) | omega) (by first | (simp; done) | (simp; omega) | omega) loa hia lob hib r)) ?_
 refine Lq.run 1 rfl ?_
 refine Lq.bool fun b17 hg17 => ?_
 cases b17
 ·
  refine Lq.pass rfl rfl rfl ?_
  refine Lq.pass rfl rfl rfl ?_
  refine Lq.pass rfl rfl rfl ?_
  refine Lq.pass rfl rfl rfl ?_
  refine Lq.pass rfl rfl rfl ?_
  refine Lq.pass rfl rfl rfl ?_
  refine Lq.run 2 rfl ?_
  refine Lq.nil ?_
  refine Kt.sel [10] [_] rfl ?_
  refine Wk.ret (Kt.end1 rfl rfl fun w' hw => ?_)
  -- ret 0: bo_ false
  exact ⟨ret_b (by unfold secB; simp [*]), hw.below⟩
 ·
  replace hg17 : gameB a xs b ys r = true := by simpa using hg17
  obtain ⟨hLL, hr0, hr3⟩ := gameB_true hg17
  obtain ⟨LA, LB, hlen⟩ := listsB_true hLL
  have ha := LA.fine
  have hb := LB.fine
  have hA := LA.els
  have hB := LB.els
  have hl4 := LA.len
  refine Lq.op rfl rfl rfl (OpQ.loadBox (cs := #[i6_ a.n, str a.set, str a.rel]) 1 rfl Tryd.isAgg28 rfl rfl Tryd.sizeOf28) ?_
  refine Lq.run 1 rfl ?_
  refine Lq.op rfl rfl rfl (OpQ.loadBox (cs := #[i6_ b.n, str b.set, str b.rel]) 0 rfl Tryd.isAgg28 rfl rfl Tryd.sizeOf28) ?_
  refine Lq.run 2 rfl ?_
  refine Lq.op (v := bo_ (winB r.toNat a xs b ys)) rfl rfl rfl (OpQ.call rfl Tryd.call47 rfl Own.stable (fun w1 hw1 => l5Wins_ok a b xs ys va vb w1 ha hb (Row.own hva hw1) (Row.own hvb hw1) hA hB (by first | (simp; done) | (simp; omega) | omega) (by first | (simp; done) | (simp; omega) | omega) r (by omega) (by omega))) ?_
  refine Lq.run 2 rfl ?_
  refine Lq.nil ?_
  refine Kt.sel [10] [_] rfl ?_
  refine Wk.ret (Kt.end1 rfl rfl fun w' hw => ?_)
  -- ret 1: bo_ (winB r.toNat a xs b ys)
  exact ⟨ret_b (by unfold secB; simp [*]), hw.below⟩

end Go.Proofs.YtjcoijejhachhaaDoor
