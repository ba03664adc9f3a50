/-
  Walks: the law of games without an end.
-/
import Derived.Test.YtjcoijejhachhaaDoorSzM
import Derived.Test.YtjcoijejhachhaaDoorPebFM
import Derived.Test.YtjcoijejhachhaaDoorBase
namespace Go.Proofs.YtjcoijejhachhaaDoor
open Go.RowKit Go.Wk
set_option linter.unusedSimpArgs false

set_option maxHeartbeats 400000 in
/-- laws.FnExactPebblesForever -/
theorem lawEver (a b : St) (xs ys : List Int) (va vb : Value) (w : World) (h1a : a.set.length ≤ 9223372036854775807) (h2a : a.rel.length ≤ 9223372036854775807) (h1b : b.set.length ≤ 9223372036854775807) (h2b : b.rel.length ≤ 9223372036854775807) (hva : Ints w va xs) (hvb : Ints w vb ys) (loa : -9223372036854775808 ≤ a.n) (hia : a.n ≤ 9223372036854775807) (lob : -9223372036854775808 ≤ b.n) (hib : b.n ≤ 9223372036854775807) :
    Calls Tryd.prog 8 [vS a, va, vS b, vb].toArray w fun en w' => en = .returned (.bool true) ∧ Below w.heap.size w w' := by
 refine fnStart (n := 63) (e := [(0, vS a), (1, va), (2, vS b), (3, vb)]) Tryd.func8 rfl rfl rfl rfl Ends.both ?_
 refine Wk.seq ?_
 refine Wk.region ?_
 refine Ll.box (v := vS a) rfl rfl rfl rfl rfl fun p4 hp4 => ?_
 show Ll _ _ (Own _ _ [_]) _ _ ((4, pt_ p4) :: _) _ _ _
 refine Ll.box (v := vS b) rfl rfl rfl rfl rfl fun p6 hp6 => ?_
 show Ll _ _ (Own _ _ [_, _]) _ _ ((6, pt_ p6) :: _) _ _ _
 refine Ll.run 1 rfl ?_
 refine Ll.nil ?_
 refine Kt.sel [1, 3, 4, 6] [_, _, _, _] rfl ?_
 refine Wk.seq ?_
 refine Wk.seq ?_
 refine Wk.regionQ ?_
 refine Lq.run 1 rfl ?_
 refine Lq.op (v := i6_ ((xs.length : Int))) rfl rfl rfl (OpQ.lenRow rfl Tryd.runUnderlying24 rfl (ints_length _) (fun w1 hw1 => Row.own hva hw1)) ?_
 refine Lq.run 1 rfl ?_
 refine Lq.nil ?_
 refine Kt.sel [1, 3, 4, 6, 16] [_, _, _, _, _] rfl ?_
 refine Wk.cond (b := decide ((1048576 : Int) < ((xs.length : Int)))) rfl (fun h16 => ?_) (fun h16 => ?_)
 ·
  replace h16 := of_decide_eq_true h16
  refine Wk.seq ?_
  refine Wk.regionQ ?_
  refine Lq.run 1 rfl ?_
  refine Lq.nil ?_
  refine Kt.sel [8] [_] rfl ?_
  refine Wk.ret (Kt.end1 rfl rfl fun w' hw => ?_)
  -- ret 0: bo_ true
  exact ⟨ret_b (by first | rfl | (simp_all; done) | (simp_all; omega)), hw.below⟩
 ·
  replace h16 := of_decide_eq_false h16
  refine Wk.skip ?_
  refine Kt.sel [1, 3, 4, 6] [_, _, _, _] rfl ?_
  refine Wk.seq ?_
  refine Wk.seq ?_
  refine Wk.regionQ ?_
  refine Lq.run 1 rfl ?_
  refine Lq.op (v := i6_ ((ys.length : Int))) rfl rfl rfl (OpQ.lenRow rfl Tryd.runUnderlying24 rfl (ints_length _) (fun w1 hw1 => Row.own hvb hw1)) ?_
  refine Lq.run 1 rfl ?_
  refine Lq.nil ?_
  refine Kt.sel [1, 3, 4, 6, 19] [_, _, _, _, _] rfl ?_
  refine Wk.cond (b := decide ((1048576 : Int) < ((ys.length : Int)))) rfl (fun h19 => ?_) (fun h19 => ?_)
  ·
   replace h19 := of_decide_eq_true h19
   refine Wk.seq ?_
   refine Wk.regionQ ?_
   refine Lq.run 1 rfl ?_
   refine Lq.nil ?_
   refine Kt.sel [8] [_] rfl ?_
   refine Wk.ret (Kt.end1 rfl rfl fun w' hw => ?_)
   -- ret 1: bo_ true
   exact ⟨ret_b (by first | rfl | (simp_all; done) | (simp_all; omega)), hw.below⟩
  ·
   replace h19 := of_decide_eq_false h19
   refine Wk.skip ?_
   refine Kt.sel [1, 3, 4, 6] [_, _, _, _] rfl ?_
   refine Wk.seq ?_
   refine Wk.regionQ ?_
   refine Lq.run 1 rfl ?_
   refine Lq.nil ?_
   refine Kt.sel [1, 3, 4, 6, 9] [_, _, _, _, _] rfl ?_
   refine Wk.seq ?_
   refine Wk.regionQ ?_
   refine Lq.op rfl rfl rfl (OpQ.loadBox (cs := #[i6_ a.n, str a.set, str a.rel]) 1 rfl Tryd.isAgg23 rfl rfl Tryd.sizeOf23) ?_
   refine Lq.run 1 rfl ?_
   refine Lq.op (v := i6_ (szB a 1048576)) rfl rfl rfl (OpQ.call rfl Tryd.call14 rfl Own.stable (fun w1 hw1 => sz_ok a 1048576 w1 (by omega) (by omega) h1a h2a)) ?_
   refine Lq.run 1 rfl ?_
   refine Lq.nil ?_
   refine Kt.sel [1, 3, 4, 6, 9] [_, _, _, _, _] rfl ?_
   refine Wk.seq ?_
   refine Wk.seq ?_
   refine Wk.regionQ ?_
   refine Lq.run 2 rfl ?_
   refine Lq.nil ?_
   refine Kt.sel [1, 3, 4, 6, 9, 24] [_, _, _, _, _, _] rfl ?_
   refine Wk.cond (b := decide ((szB a 1048576) < (0 : Int))) rfl (fun h24 => ?_) (fun h24 => ?_)
   ·
    replace h24 := of_decide_eq_true h24
    refine Wk.seq ?_
    refine Wk.regionQ ?_
    refine Lq.run 1 rfl ?_
    refine Lq.nil ?_
    refine Kt.sel [8] [_] rfl ?_
    refine Wk.ret (Kt.end1 rfl rfl fun w' hw => ?_)
    -- ret 2: bo_ true
    exact ⟨ret_b (by first | rfl | (simp_all; done) | (simp_all; omega)), hw.below⟩
   ·
    replace h24 := of_decide_eq_false h24
    obtain ⟨hsa, hz0a, hz1a⟩ := szB_small (by omega) h24
    refine Wk.skip ?_
    refine Kt.sel [1, 3, 4, 6, 9] [_, _, _, _, _] rfl ?_
    refine Wk.seq ?_
    refine Wk.regionQ ?_
    refine Lq.op rfl rfl rfl (OpQ.loadBox (cs := #[i6_ b.n, str b.set, str b.rel]) 0 rfl Tryd.isAgg23 rfl rfl Tryd.sizeOf23) ?_
    refine Lq.run 1 rfl ?_
    refine Lq.op (v := i6_ (szB b (szB a 1048576))) rfl rfl rfl (OpQ.call rfl Tryd.call14 rfl Own.stable (fun w1 hw1 => sz_ok b (szB a 1048576) w1 (by omega) (by omega) h1b h2b)) ?_
    refine Lq.run 1 rfl ?_
    refine Lq.nil ?_
    refine Kt.sel [1, 3, 4, 6, 9] [_, _, _, _, _] rfl ?_
    refine Wk.seq ?_
    refine Wk.seq ?_
    refine Wk.regionQ ?_
    refine Lq.run 2 rfl ?_
    refine Lq.nil ?_
    refine Kt.sel [1, 3, 4, 6, 29] [_, _, _, _, _] rfl ?_
    refine Wk.cond (b := decide ((szB b (szB a 1048576)) < (0 : Int))) rfl (fun h29 => ?_) (fun h29 => ?_)
    ·
     replace h29 := of_decide_eq_true h29
     refine Wk.seq ?_
     refine Wk.regionQ ?_
     refine Lq.run 1 rfl ?_
     refine Lq.nil ?_
     refine Kt.sel [8] [_] rfl ?_
     refine Wk.ret (Kt.end1 rfl rfl fun w' hw => ?_)
     -- ret 3: bo_ true
     exact ⟨ret_b (by first | rfl | (simp_all; done) | (simp_all; omega)), hw.below⟩
    ·
     replace h29 := of_decide_eq_false h29
     obtain ⟨hsb, hz0b, hz1b⟩ := szB_small (by omega) h29
     refine Wk.skip ?_
     refine Kt.sel [1, 3, 4, 6] [_, _, _, _] rfl ?_
     refine Wk.seq ?_
     refine Wk.regionO [(0, true), (2, true), (4, true), (6, true), (1, false), (3, false), (5, false), (7, false), (8, false), (9, true)] Base.mixed (fun _ h => h.drawn) (by kernel_rfl) ?_
     refine Ld.take rfl rfl rfl rfl rfl (OpQ.loadBox (cs := #[i6_ a.n, str a.set, str a.rel]) 1 rfl Tryd.isAgg23 rfl rfl Tryd.sizeOf23) (fun _ h => h) ?_
     refine Ld.run 1 rfl (fun _ h => h) ?_
     refine Ld.take rfl rfl rfl rfl rfl (OpQ.loadBox (cs := #[i6_ b.n, str b.set, str b.rel]) 0 rfl Tryd.isAgg23 rfl rfl Tryd.sizeOf23) (fun _ h => h) ?_
     refine Ld.run 1 rfl (fun _ h => h) ?_
     refine Ld.loud rfl ?_
     refine Ll.op (v := vS a) rfl rfl rfl (OpQ.call rfl Tryd.call16 rfl Own.stable (fun w1 hw1 => toSt_ok a w1 )) ?_
     refine Ll.nil (Ld.joint (fun _ h => h) ?_)
     refine Ld.loud rfl ?_
     refine Ll.callRow (xs := [.tmp 32]) (m := xs.length) (vs := ints xs) (el := 3) (size := 1) rfl rfl rfl rfl Tryd.call17 rfl (fun w1 hw1 => toInt_ok va xs w1 (Row.own hva hw1) (by omega)) fun p33 cap33 cur33 hp33 hcp33 hlp33 htp33 => ?_
     refine Ll.nil (Ld.joint (fun _ h => h.tail) ?_)
     refine Ld.loud rfl ?_
     refine Ll.op (v := vS b) rfl rfl rfl (OpQ.call rfl Tryd.call16 rfl Own.stable (fun w1 hw1 => toSt_ok b w1 )) ?_
     refine Ll.nil (Ld.joint (fun _ h => h.tail) ?_)
     refine Ld.loud rfl ?_
     refine Ll.callRow (xs := [.tmp 36]) (m := ys.length) (vs := ints ys) (el := 3) (size := 1) rfl rfl rfl rfl Tryd.call17 rfl (fun w1 hw1 => toInt_ok vb ys w1 (Row.own hvb hw1) (by omega)) fun p37 cap37 cur37 hp37 hcp37 hlp37 htp37 => ?_
     refine Ll.nil (Ld.joint (fun _ h => h.tail.tail) ?_)
     refine Ld.loud rfl ?_
     refine Ll.op (v := bo_ (pebEverB a xs b ys)) rfl rfl rfl (OpQ.call rfl Tryd.call28 rfl Own.stable (fun w1 hw1 => sEver_ok a b xs ys (sl_ p33 xs.length cap33) (sl_ p37 ys.length cap37) w1 hsa hsb (Own.row hw1 (i := 1) rfl (by simpa using htp33) (by simp) hlp33) (Own.row hw1 (i := 0) rfl (by simpa using htp37) (by simp) hlp37) (by first | (simp; done) | (simp; omega) | omega) (by first | (simp; done) | (simp; omega) | omega) loa hia lob hib)) ?_
     refine Ll.nil (Ld.joint (fun _ h => h.tail.tail) ?_)
     refine Ld.run 1 rfl (fun _ h => h.tail.tail) ?_
     refine Ld.nil ?_
     refine Kt.sel [1, 3, 4, 6, 10] [_, _, _, _, _] rfl ?_
     refine Wk.seq ?_
     refine Wk.region ?_
     refine Ll.run 1 rfl ?_
     refine Ll.callRow (xs := [.tmp 39]) (m := xs.length) (vs := ints xs) (el := 3) (size := 1) rfl rfl rfl rfl Tryd.call17 rfl (fun w1 hw1 => toInt_ok va xs w1 (Row.own hva hw1) (by omega)) fun p40 cap40 cur40 hp40 hcp40 hlp40 htp40 => ?_
     refine Ll.run 1 rfl ?_
     refine Ll.nil ?_
     refine Kt.sel [1, 3, 4, 6, 10, 11] [_, _, _, _, _, _] rfl ?_
     refine Wk.seq ?_
     refine Wk.region ?_
     refine Ll.run 1 rfl ?_
     refine Ll.callRow (xs := [.tmp 41]) (m := ys.length) (vs := ints ys) (el := 3) (size := 1) rfl rfl rfl rfl Tryd.call17 rfl (fun w1 hw1 => toInt_ok vb ys w1 (Row.own hvb hw1) (by omega)) fun p42 cap42 cur42 hp42 hcp42 hlp42 htp42 => ?_
     refine Ll.run 1 rfl ?_
     refine Ll.nil ?_
     refine Kt.sel [1, 3, 4, 6, 10, 11, 12] [_, _, _, _, _, _, _] rfl ?_
     refine Wk.seq ?_
     refine Wk.regionD Base.mixed (fun _ h => h.drawn) (by kernel_rfl) ?_
     refine Lq.op rfl rfl rfl (OpQ.loadBox (cs := #[i6_ a.n, str a.set, str a.rel]) 5 rfl Tryd.isAgg23 rfl rfl Tryd.sizeOf23) ?_
     refine Lq.op (v := vS a) rfl rfl rfl (OpQ.call rfl Tryd.call16 rfl Own.stable (fun w1 hw1 => toSt_ok a w1 )) ?_
     refine Lq.run 1 rfl ?_
     refine Lq.op rfl rfl rfl (OpQ.loadBox (cs := #[i6_ b.n, str b.set, str b.rel]) 4 rfl Tryd.isAgg23 rfl rfl Tryd.sizeOf23) ?_
     refine Lq.op (v := vS b) rfl rfl rfl (OpQ.call rfl Tryd.call16 rfl Own.stable (fun w1 hw1 => toSt_ok b w1 )) ?_
     refine Lq.run 1 rfl ?_
     refine Lq.op (v := bo_ (pebEverB a xs b ys)) rfl rfl rfl (OpQ.call rfl Tryd.call29 rfl Own.stable (fun w1 hw1 => iEver_ok a b xs ys (sl_ p40 xs.length cap40) (sl_ p42 ys.length cap42) w1 hsa hsb (Own.row hw1 (i := 1) rfl (by simpa using htp40) (by simp) hlp40) (Own.row hw1 (i := 0) rfl (by simpa using htp42) (by simp) hlp42) (by first | (simp; done) | (simp; omega) | omega) (by first | (simp; done) | (simp; omega) | omega))) ?_
     refine Lq.run 1 rfl ?_
     refine Lq.nil ?_
     refine Kt.sel [1, 3, 10, 11, 12, 13] [_, _, _, _, _, _] rfl ?_
     refine Wk.seq ?_
     refine Wk.seq ?_
     refine Wk.regionQ ?_
     refine Lq.run 2 rfl ?_
     refine Lq.op rfl rfl rfl (OpQ.bne rfl Tryd.runUnderlying4 rfl rfl) ?_
     refine Lq.nil ?_
     refine Kt.sel [1, 3, 11, 12, 52] [_, _, _, _, _] rfl ?_
     refine Wk.cond (b := (pebEverB a xs b ys) != (pebEverB a xs b ys)) rfl (fun h52 => ?_) (fun h52 => ?_)
     ·
      exact absurd h52 (by simp)
     ·
      refine Wk.skip ?_
      refine Kt.sel [1, 3, 11, 12] [_, _, _, _] rfl ?_
      refine Wk.seq ?_
      refine Wk.seq ?_
      refine Wk.region ?_
      refine Ll.run 2 rfl ?_
      refine Ll.callRow (xs := [.tmp 54]) (m := xs.length) (vs := ints xs) (el := 3) (size := 1) rfl rfl rfl rfl Tryd.call17 rfl (fun w1 hw1 => toInt_ok va xs w1 (Row.own hva hw1) (by omega)) fun p55 cap55 cur55 hp55 hcp55 hlp55 htp55 => ?_
      refine Ll.op (v := bo_ true) rfl rfl rfl (OpQ.call rfl Tryd.call19 rfl Own.stable (fun w1 hw1 => known_b (beq_self_eq_true _) (eqInt_ok (sl_ p40 xs.length cap40) (sl_ p55 xs.length cap55) xs xs w1 (Own.row hw1 (i := 2) rfl (by simpa using htp40) (by simp) hlp40) (Own.row hw1 (i := 0) rfl (by simpa using htp55) (by simp) hlp55) (by first | (simp; done) | (simp; omega) | omega)))) ?_
      refine Ll.run 1 rfl ?_
      refine Ll.nil ?_
      refine Kt.sel [3, 12, 57] [_, _, _] rfl ?_
      refine Wk.condF rfl ?_
      refine Wk.skip ?_
      refine Kt.sel [3, 12] [_, _] rfl ?_
      refine Wk.seq ?_
      refine Wk.seq ?_
      refine Wk.region ?_
      refine Ll.run 2 rfl ?_
      refine Ll.callRow (xs := [.tmp 59]) (m := ys.length) (vs := ints ys) (el := 3) (size := 1) rfl rfl rfl rfl Tryd.call17 rfl (fun w1 hw1 => toInt_ok vb ys w1 (Row.own hvb hw1) (by omega)) fun p60 cap60 cur60 hp60 hcp60 hlp60 htp60 => ?_
      refine Ll.op (v := bo_ true) rfl rfl rfl (OpQ.call rfl Tryd.call19 rfl Own.stable (fun w1 hw1 => known_b (beq_self_eq_true _) (eqInt_ok (sl_ p42 ys.length cap42) (sl_ p60 ys.length cap60) ys ys w1 (Own.row hw1 (i := 2) rfl (by simpa using htp42) (by simp) hlp42) (Own.row hw1 (i := 0) rfl (by simpa using htp60) (by simp) hlp60) (by first | (simp; done) | (simp; omega) | omega)))) ?_
      refine Ll.run 1 rfl ?_
      refine Ll.nil ?_
      refine Kt.sel [62] [_] rfl ?_
      refine Wk.condF rfl ?_
      refine Wk.skip ?_
      refine Kt.sel [] [] rfl ?_
      refine Wk.seq ?_
      refine Wk.regionQ ?_
      refine Lq.run 1 rfl ?_
      refine Lq.nil ?_
      refine Kt.sel [8] [_] rfl ?_
      refine Wk.ret (Kt.end1 rfl rfl fun w' hw => ?_)
      -- ret 4: bo_ true
      exact ⟨ret_b (by first | rfl | (simp_all; done) | (simp_all; omega)), hw.below⟩

end Go.Proofs.YtjcoijejhachhaaDoor
