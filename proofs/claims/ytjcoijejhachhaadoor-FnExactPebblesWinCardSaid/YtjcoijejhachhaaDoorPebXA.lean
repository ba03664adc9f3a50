/-
  Walks: the law of pebble games.
-/
import Derived.Test.YtjcoijejhachhaaDoorSzM
import Derived.Test.YtjcoijejhachhaaDoorPebWM
import Derived.Test.YtjcoijejhachhaaDoorPebLM
import Derived.Test.YtjcoijejhachhaaDoorBase
namespace Go.Proofs.YtjcoijejhachhaaDoor
open Go.RowKit Go.Wk
set_option linter.unusedSimpArgs false

set_option maxHeartbeats 400000 in
/-- laws.FnExactPebblesWin -/
theorem lawPWin (a b : St) (xs ys : List Int) (va vb : Value) (w : World) (h1a : a.set.length ≤ 9223372036854775807) (h2a : a.rel.length ≤ 9223372036854775807) (h1b : b.set.length ≤ 9223372036854775807) (h2b : b.rel.length ≤ 9223372036854775807) (hva : Ints w va xs) (hvb : Ints w vb ys) (loa : -9223372036854775808 ≤ a.n) (hia : a.n ≤ 9223372036854775807) (lob : -9223372036854775808 ≤ b.n) (hib : b.n ≤ 9223372036854775807) (t : Int) :
    Calls Tryd.prog 6 [vS a, va, vS b, vb, i6_ t].toArray w fun en w' => en = .returned (.bool true) ∧ Below w.heap.size w w' := by
 refine fnStart (n := 67) (e := [(0, vS a), (1, va), (2, vS b), (3, vb), (4, i6_ t)]) Tryd.func6 rfl rfl rfl rfl Ends.both ?_
 refine Wk.seq ?_
 refine Wk.region ?_
 refine Ll.box (v := vS a) rfl rfl rfl rfl rfl fun p5 hp5 => ?_
 show Ll _ _ (Own _ _ [_]) _ _ ((5, pt_ p5) :: _) _ _ _
 refine Ll.box (v := vS b) rfl rfl rfl rfl rfl fun p7 hp7 => ?_
 show Ll _ _ (Own _ _ [_, _]) _ _ ((7, pt_ p7) :: _) _ _ _
 refine Ll.run 1 rfl ?_
 refine Ll.nil ?_
 refine Kt.sel [1, 3, 4, 5, 7] [_, _, _, _, _] rfl ?_
 refine Wk.seq ?_
 refine Wk.seq ?_
 refine Wk.regionQ ?_
 refine Lq.run 1 rfl ?_
 refine Lq.op (v := i6_ ((xs.length : Int))) rfl rfl rfl (OpQ.lenRow rfl Tryd.runUnderlying24 rfl (ints_length _) (fun w1 hw1 => Row.own hva hw1)) ?_
 refine Lq.run 1 rfl ?_
 refine Lq.nil ?_
 refine Kt.sel [1, 3, 4, 5, 7, 18] [_, _, _, _, _, _] rfl ?_
 refine Wk.cond (b := decide ((1048576 : Int) < ((xs.length : Int)))) rfl (fun h18 => ?_) (fun h18 => ?_)
 ·
  replace h18 := of_decide_eq_true h18
  refine Wk.seq ?_
  refine Wk.regionQ ?_
  refine Lq.run 1 rfl ?_
  refine Lq.nil ?_
  refine Kt.sel [10] [_] rfl ?_
  refine Wk.ret (Kt.end1 rfl rfl fun w' hw => ?_)
  -- ret 0: bo_ true
  exact ⟨ret_b (by first | rfl | (simp_all; done) | (simp_all; omega)), hw.below⟩
 ·
  replace h18 := of_decide_eq_false h18
  refine Wk.skip ?_
  refine Kt.sel [1, 3, 4, 5, 7] [_, _, _, _, _] rfl ?_
  refine Wk.seq ?_
  refine Wk.seq ?_
  refine Wk.regionQ ?_
  refine Lq.run 1 rfl ?_
  refine Lq.op (v := i6_ ((ys.length : Int))) rfl rfl rfl (OpQ.lenRow rfl Tryd.runUnderlying24 rfl (ints_length _) (fun w1 hw1 => Row.own hvb hw1)) ?_
  refine Lq.run 1 rfl ?_
  refine Lq.nil ?_
  refine Kt.sel [1, 3, 4, 5, 7, 21] [_, _, _, _, _, _] rfl ?_
  refine Wk.cond (b := decide ((1048576 : Int) < ((ys.length : Int)))) rfl (fun h21 => ?_) (fun h21 => ?_)
  ·
   replace h21 := of_decide_eq_true h21
   refine Wk.seq ?_
   refine Wk.regionQ ?_
   refine Lq.run 1 rfl ?_
   refine Lq.nil ?_
   refine Kt.sel [10] [_] rfl ?_
   refine Wk.ret (Kt.end1 rfl rfl fun w' hw => ?_)
   -- ret 1: bo_ true
   exact ⟨ret_b (by first | rfl | (simp_all; done) | (simp_all; omega)), hw.below⟩
  ·
   replace h21 := of_decide_eq_false h21
   refine Wk.skip ?_
   refine Kt.sel [1, 3, 4, 5, 7] [_, _, _, _, _] rfl ?_
   refine Wk.seq ?_
   refine Wk.regionQ ?_
   refine Lq.run 1 rfl ?_
   refine Lq.nil ?_
   refine Kt.sel [1, 3, 4, 5, 7, 11] [_, _, _, _, _, _] rfl ?_
   refine Wk.seq ?_
   refine Wk.regionQ ?_
   refine Lq.op rfl rfl rfl (OpQ.loadBox (cs := #[i6_ a.n, str a.set, str a.rel]) 1 rfl Tryd.isAgg23 rfl rfl Tryd.sizeOf23) ?_
   refine Lq.run 1 rfl ?_
   refine Lq.op (v := i6_ (szB a 1048576)) rfl rfl rfl (OpQ.call rfl Tryd.call14 rfl Own.stable (fun w1 hw1 => sz_ok a 1048576 w1 (by omega) (by omega) h1a h2a)) ?_
   refine Lq.run 1 rfl ?_
   refine Lq.nil ?_
   refine Kt.sel [1, 3, 4, 5, 7, 11] [_, _, _, _, _, _] rfl ?_
   refine Wk.seq ?_
   refine Wk.seq ?_
   refine Wk.regionQ ?_
   refine Lq.run 2 rfl ?_
   refine Lq.nil ?_
   refine Kt.sel [1, 3, 4, 5, 7, 11, 26] [_, _, _, _, _, _, _] rfl ?_
   refine Wk.cond (b := decide ((szB a 1048576) < (0 : Int))) rfl (fun h26 => ?_) (fun h26 => ?_)
   ·
    replace h26 := of_decide_eq_true h26
    refine Wk.seq ?_
    refine Wk.regionQ ?_
    refine Lq.run 1 rfl ?_
    refine Lq.nil ?_
    refine Kt.sel [10] [_] rfl ?_
    refine Wk.ret (Kt.end1 rfl rfl fun w' hw => ?_)
    -- ret 2: bo_ true
    exact ⟨ret_b (by first | rfl | (simp_all; done) | (simp_all; omega)), hw.below⟩
   ·
    replace h26 := of_decide_eq_false h26
    obtain ⟨hsa, hz0a, hz1a⟩ := szB_small (by omega) h26
    refine Wk.skip ?_
    refine Kt.sel [1, 3, 4, 5, 7, 11] [_, _, _, _, _, _] rfl ?_
    refine Wk.seq ?_
    refine Wk.regionQ ?_
    refine Lq.op rfl rfl rfl (OpQ.loadBox (cs := #[i6_ b.n, str b.set, str b.rel]) 0 rfl Tryd.isAgg23 rfl rfl Tryd.sizeOf23) ?_
    refine Lq.run 1 rfl ?_
    refine Lq.op (v := i6_ (szB b (szB a 1048576))) rfl rfl rfl (OpQ.call rfl Tryd.call14 rfl Own.stable (fun w1 hw1 => sz_ok b (szB a 1048576) w1 (by omega) (by omega) h1b h2b)) ?_
    refine Lq.run 1 rfl ?_
    refine Lq.nil ?_
    refine Kt.sel [1, 3, 4, 5, 7, 11] [_, _, _, _, _, _] rfl ?_
    refine Wk.seq ?_
    refine Wk.seq ?_
    refine Wk.regionQ ?_
    refine Lq.run 2 rfl ?_
    refine Lq.nil ?_
    refine Kt.sel [1, 3, 4, 5, 7, 31] [_, _, _, _, _, _] rfl ?_
    refine Wk.cond (b := decide ((szB b (szB a 1048576)) < (0 : Int))) rfl (fun h31 => ?_) (fun h31 => ?_)
    ·
     replace h31 := of_decide_eq_true h31
     refine Wk.seq ?_
     refine Wk.regionQ ?_
     refine Lq.run 1 rfl ?_
     refine Lq.nil ?_
     refine Kt.sel [10] [_] rfl ?_
     refine Wk.ret (Kt.end1 rfl rfl fun w' hw => ?_)
     -- ret 3: bo_ true
     exact ⟨ret_b (by first | rfl | (simp_all; done) | (simp_all; omega)), hw.below⟩
    ·
     replace h31 := of_decide_eq_false h31
     obtain ⟨hsb, hz0b, hz1b⟩ := szB_small (by omega) h31
     refine Wk.skip ?_
     refine Kt.sel [1, 3, 4, 5, 7] [_, _, _, _, _] rfl ?_
     refine Wk.seq ?_
     refine Wk.regionO [(0, true), (2, true), (4, true), (6, true), (8, true), (1, false), (3, false), (5, false), (7, false), (9, false), (10, true)] Base.mixed (fun _ h => h.drawn) (by kernel_rfl) ?_
     refine Ld.take rfl rfl rfl rfl rfl (OpQ.loadBox (cs := #[i6_ a.n, str a.set, str a.rel]) 1 rfl Tryd.isAgg23 rfl rfl Tryd.sizeOf23) (fun _ h => h) ?_
     refine Ld.run 1 rfl (fun _ h => h) ?_
     refine Ld.take rfl rfl rfl rfl rfl (OpQ.loadBox (cs := #[i6_ b.n, str b.set, str b.rel]) 0 rfl Tryd.isAgg23 rfl rfl Tryd.sizeOf23) (fun _ h => h) ?_
     refine Ld.run 2 rfl (fun _ h => h) ?_
     refine Ld.loud rfl ?_
     refine Ll.op (v := vS a) rfl rfl rfl (OpQ.call rfl Tryd.call16 rfl Own.stable (fun w1 hw1 => toSt_ok a w1 )) ?_
     refine Ll.nil (Ld.joint (fun _ h => h) ?_)
     refine Ld.loud rfl ?_
     refine Ll.callRow (xs := [.tmp 34]) (m := xs.length) (vs := ints xs) (el := 3) (size := 1) rfl rfl rfl rfl Tryd.call17 rfl (fun w1 hw1 => toInt_ok va xs w1 (Row.own hva hw1) (by omega)) fun p35 cap35 cur35 hp35 hcp35 hlp35 htp35 => ?_
     refine Ll.nil (Ld.joint (fun _ h => h.tail) ?_)
     refine Ld.loud rfl ?_
     refine Ll.op (v := vS b) rfl rfl rfl (OpQ.call rfl Tryd.call16 rfl Own.stable (fun w1 hw1 => toSt_ok b w1 )) ?_
     refine Ll.nil (Ld.joint (fun _ h => h.tail) ?_)
     refine Ld.loud rfl ?_
     refine Ll.callRow (xs := [.tmp 38]) (m := ys.length) (vs := ints ys) (el := 3) (size := 1) rfl rfl rfl rfl Tryd.call17 rfl (fun w1 hw1 => toInt_ok vb ys w1 (Row.own hvb hw1) (by omega)) fun p39 cap39 cur39 hp39 hcp39 hlp39 htp39 => ?_
     refine Ll.nil (Ld.joint (fun _ h => h.tail.tail) ?_)
     refine Ld.loud rfl ?_
     refine Ll.op (v := bo_ (pebWinB a xs b ys t)) rfl rfl rfl (OpQ.call rfl Tryd.call24 rfl Own.stable (fun w1 hw1 => sPWin_ok a b xs ys (sl_ p35 xs.length cap35) (sl_ p39 ys.length cap39) w1 hsa hsb (Own.row hw1 (i := 1) rfl (by simpa using htp35) (by simp) hlp35) (Own.row hw1 (i := 0) rfl (by simpa using htp39) (by simp) hlp39) (by first | (simp; done) | (simp; omega) | omega) (by first | (simp; done) | (simp; omega) | omega) loa hia lob hib t)) ?_
     refine Ll.nil (Ld.joint (fun _ h => h.tail.tail) ?_)
     refine Ld.run 1 rfl (fun _ h => h.tail.tail) ?_
     refine Ld.nil ?_
     refine Kt.sel [1, 3, 4, 5, 7, 12] [_, _, _, _, _, _] rfl ?_
     refine Wk.seq ?_
     refine Wk.region ?_
     refine Ll.run 1 rfl ?_
     refine Ll.callRow (xs := [.tmp 42]) (m := xs.length) (vs := ints xs) (el := 3) (size := 1) rfl rfl rfl rfl Tryd.call17 rfl (fun w1 hw1 => toInt_ok va xs w1 (Row.own hva hw1) (by omega)) fun p43 cap43 cur43 hp43 hcp43 hlp43 htp43 => ?_
     refine Ll.run 1 rfl ?_
     refine Ll.nil ?_
     refine Kt.sel [1, 3, 4, 5, 7, 12, 13] [_, _, _, _, _, _, _] rfl ?_
     refine Wk.seq ?_
     refine Wk.region ?_
     refine Ll.run 1 rfl ?_
     refine Ll.callRow (xs := [.tmp 44]) (m := ys.length) (vs := ints ys) (el := 3) (size := 1) rfl rfl rfl rfl Tryd.call17 rfl (fun w1 hw1 => toInt_ok vb ys w1 (Row.own hvb hw1) (by omega)) fun p45 cap45 cur45 hp45 hcp45 hlp45 htp45 => ?_
     refine Ll.run 1 rfl ?_
     refine Ll.nil ?_
     refine Kt.sel [1, 3, 4, 5, 7, 12, 13, 14] [_, _, _, _, _, _, _, _] rfl ?_
     refine Wk.seq ?_
     refine Wk.regionD Base.mixed (fun _ h => h.drawn) (by kernel_rfl) ?_
     refine Lq.op rfl rfl rfl (OpQ.loadBox (cs := #[i6_ a.n, str a.set, str a.rel]) 5 rfl Tryd.isAgg23 rfl rfl Tryd.sizeOf23) ?_
     refine Lq.op (v := vS a) rfl rfl rfl (OpQ.call rfl Tryd.call16 rfl Own.stable (fun w1 hw1 => toSt_ok a w1 )) ?_
     refine Lq.run 1 rfl ?_
     refine Lq.op rfl rfl rfl (OpQ.loadBox (cs := #[i6_ b.n, str b.set, str b.rel]) 4 rfl Tryd.isAgg23 rfl rfl Tryd.sizeOf23) ?_
     refine Lq.op (v := vS b) rfl rfl rfl (OpQ.call rfl Tryd.call16 rfl Own.stable (fun w1 hw1 => toSt_ok b w1 )) ?_
     refine Lq.run 2 rfl ?_
     refine Lq.op (v := bo_ (pebWinB a xs b ys t)) rfl rfl rfl (OpQ.call rfl Tryd.call25 rfl Own.stable (fun w1 hw1 => iPWin_ok a b xs ys (sl_ p43 xs.length cap43) (sl_ p45 ys.length cap45) w1 hsa hsb (Own.row hw1 (i := 1) rfl (by simpa using htp43) (by simp) hlp43) (Own.row hw1 (i := 0) rfl (by simpa using htp45) (by simp) hlp45) (by first | (simp; done) | (simp; omega) | omega) (by first | (simp; done) | (simp; omega) | omega) t)) ?_
     refine Lq.run 1 rfl ?_
     refine Lq.nil ?_
     refine Kt.sel [1, 3, 12, 13, 14, 15] [_, _, _, _, _, _] rfl ?_
     refine Wk.seq ?_
     refine Wk.seq ?_
     refine Wk.regionQ ?_
     refine Lq.run 2 rfl ?_
     refine Lq.op rfl rfl rfl (OpQ.bne rfl Tryd.runUnderlying4 rfl rfl) ?_
     refine Lq.nil ?_
     refine Kt.sel [1, 3, 13, 14, 56] [_, _, _, _, _] rfl ?_
     refine Wk.cond (b := (pebWinB a xs b ys t) != (pebWinB a xs b ys t)) rfl (fun h56 => ?_) (fun h56 => ?_)
     ·
      exact absurd h56 (by simp)
     ·
      refine Wk.skip ?_
      refine Kt.sel [1, 3, 13, 14] [_, _, _, _] rfl ?_
      refine Wk.seq ?_
      refine Wk.seq ?_
      refine Wk.region ?_
      refine Ll.run 2 rfl ?_
      refine Ll.callRow (xs := [.tmp 58]) (m := xs.length) (vs := ints xs) (el := 3) (size := 1) rfl rfl rfl rfl Tryd.call17 rfl (fun w1 hw1 => toInt_ok va xs w1 (Row.own hva hw1) (by omega)) fun p59 cap59 cur59 hp59 hcp59 hlp59 htp59 => ?_
      refine Ll.op (v := bo_ true) rfl rfl rfl (OpQ.call rfl Tryd.call19 rfl Own.stable (fun w1 hw1 => known_b (beq_self_eq_true _) (eqInt_ok (sl_ p43 xs.length cap43) (sl_ p59 xs.length cap59) xs xs w1 (Own.row hw1 (i := 2) rfl (by simpa using htp43) (by simp) hlp43) (Own.row hw1 (i := 0) rfl (by simpa using htp59) (by simp) hlp59) (by first | (simp; done) | (simp; omega) | omega)))) ?_
      refine Ll.run 1 rfl ?_
      refine Ll.nil ?_
      refine Kt.sel [3, 14, 61] [_, _, _] rfl ?_
      refine Wk.condF rfl ?_
      refine Wk.skip ?_
      refine Kt.sel [3, 14] [_, _] rfl ?_
      refine Wk.seq ?_
      refine Wk.seq ?_
      refine Wk.region ?_
      refine Ll.run 2 rfl ?_
      refine Ll.callRow (xs := [.tmp 63]) (m := ys.length) (vs := ints ys) (el := 3) (size := 1) rfl rfl rfl rfl Tryd.call17 rfl (fun w1 hw1 => toInt_ok vb ys w1 (Row.own hvb hw1) (by omega)) fun p64 cap64 cur64 hp64 hcp64 hlp64 htp64 => ?_
      refine Ll.op (v := bo_ true) rfl rfl rfl (OpQ.call rfl Tryd.call19 rfl Own.stable (fun w1 hw1 => known_b (beq_self_eq_true _) (eqInt_ok (sl_ p45 ys.length cap45) (sl_ p64 ys.length cap64) ys ys w1 (Own.row hw1 (i := 2) rfl (by simpa using htp45) (by simp) hlp45) (Own.row hw1 (i := 0) rfl (by simpa using htp64) (by simp) hlp64) (by first | (simp; done) | (simp; omega) | omega)))) ?_
      refine Ll.run 1 rfl ?_
      refine Ll.nil ?_
      refine Kt.sel [66] [_] rfl ?_
      refine Wk.condF rfl ?_
      refine Wk.skip ?_
      refine Kt.sel [] [] rfl ?_
      refine Wk.seq ?_
      refine Wk.regionQ ?_
      refine Lq.run 1 rfl ?_
      refine Lq.nil ?_
      refine Kt.sel [10] [_] rfl ?_
      refine Wk.ret (Kt.end1 rfl rfl fun w' hw => ?_)
      -- ret 4: bo_ true
      exact ⟨ret_b (by first | rfl | (simp_all; done) | (simp_all; omega)), hw.below⟩

end Go.Proofs.YtjcoijejhachhaaDoor
