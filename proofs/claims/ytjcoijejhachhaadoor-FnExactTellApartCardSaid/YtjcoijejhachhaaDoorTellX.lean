/-
  Walks: the law of formulas that tell lists apart.
-/
import Derived.Test.YtjcoijejhachhaaDoorSzM
import Derived.Test.YtjcoijejhachhaaDoorTellM
import Derived.Test.YtjcoijejhachhaaDoorBase
namespace Go.Proofs.YtjcoijejhachhaaDoor
open Go.RowKit Go.Wk
set_option linter.unusedSimpArgs false

set_option maxHeartbeats 400000 in
/-- laws.FnExactTellApart -/
theorem lawTell (a b : St) (xs ys : List Int) (va vb : Value) (w : World) (h1a : a.set.length ≤ 9223372036854775807) (h2a : a.rel.length ≤ 9223372036854775807) (h1b : b.set.length ≤ 9223372036854775807) (h2b : b.rel.length ≤ 9223372036854775807) (hva : Ints w va xs) (hvb : Ints w vb ys) (loa : -9223372036854775808 ≤ a.n) (hia : a.n ≤ 9223372036854775807) (lob : -9223372036854775808 ≤ b.n) (hib : b.n ≤ 9223372036854775807) (r : Int) :
    Calls Tryd.prog 4 [vS a, va, vS b, vb, i6_ r].toArray w fun en w' => en = .returned (.bool true) ∧ Below w.heap.size w w' := by
 refine fnStart (n := 80) (e := [(0, vS a), (1, va), (2, vS b), (3, vb), (4, i6_ r)]) Tryd.func4 rfl rfl rfl rfl Ends.both ?_
 refine Wk.seq ?_
 refine Wk.region ?_
 refine Ll.box (v := vS a) rfl rfl rfl rfl rfl fun p5 hp5 => ?_
 show Ll _ _ (Own _ _ [_]) _ _ ((5, pt_ p5) :: _) _ _ _
 refine Ll.box (v := vS b) rfl rfl rfl rfl rfl fun p7 hp7 => ?_
 show Ll _ _ (Own _ _ [_, _]) _ _ ((7, pt_ p7) :: _) _ _ _
 refine Ll.run 1 rfl ?_
 refine Ll.nil ?_
 refine Kt.sel [1, 3, 4, 5, 7] [_, _, _, _, _] rfl ?_
 refine Wk.seq ?_
 refine Wk.seq ?_
 refine Wk.regionQ ?_
 refine Lq.run 1 rfl ?_
 refine Lq.op (v := i6_ ((xs.length : Int))) rfl rfl rfl (OpQ.lenRow rfl Tryd.runUnderlying24 rfl (ints_length _) (fun w1 hw1 => Row.own hva hw1)) ?_
 refine Lq.run 1 rfl ?_
 refine Lq.nil ?_
 refine Kt.sel [1, 3, 4, 5, 7, 20] [_, _, _, _, _, _] rfl ?_
 refine Wk.cond (b := decide ((1048576 : Int) < ((xs.length : Int)))) rfl (fun h20 => ?_) (fun h20 => ?_)
 ·
  replace h20 := of_decide_eq_true h20
  refine Wk.seq ?_
  refine Wk.regionQ ?_
  refine Lq.run 1 rfl ?_
  refine Lq.nil ?_
  refine Kt.sel [10] [_] rfl ?_
  refine Wk.ret (Kt.end1 rfl rfl fun w' hw => ?_)
  -- ret 0: bo_ true
  exact ⟨ret_b (by first | rfl | (simp_all; done) | (simp_all; omega)), hw.below⟩
 ·
  replace h20 := of_decide_eq_false h20
  refine Wk.skip ?_
  refine Kt.sel [1, 3, 4, 5, 7] [_, _, _, _, _] rfl ?_
  refine Wk.seq ?_
  refine Wk.seq ?_
  refine Wk.regionQ ?_
  refine Lq.run 1 rfl ?_
  refine Lq.op (v := i6_ ((ys.length : Int))) rfl rfl rfl (OpQ.lenRow rfl Tryd.runUnderlying24 rfl (ints_length _) (fun w1 hw1 => Row.own hvb hw1)) ?_
  refine Lq.run 1 rfl ?_
  refine Lq.nil ?_
  refine Kt.sel [1, 3, 4, 5, 7, 23] [_, _, _, _, _, _] rfl ?_
  refine Wk.cond (b := decide ((1048576 : Int) < ((ys.length : Int)))) rfl (fun h23 => ?_) (fun h23 => ?_)
  ·
   replace h23 := of_decide_eq_true h23
   refine Wk.seq ?_
   refine Wk.regionQ ?_
   refine Lq.run 1 rfl ?_
   refine Lq.nil ?_
   refine Kt.sel [10] [_] rfl ?_
   refine Wk.ret (Kt.end1 rfl rfl fun w' hw => ?_)
   -- ret 1: bo_ true
   exact ⟨ret_b (by first | rfl | (simp_all; done) | (simp_all; omega)), hw.below⟩
  ·
   replace h23 := of_decide_eq_false h23
   refine Wk.skip ?_
   refine Kt.sel [1, 3, 4, 5, 7] [_, _, _, _, _] rfl ?_
   refine Wk.seq ?_
   refine Wk.regionQ ?_
   refine Lq.run 1 rfl ?_
   refine Lq.nil ?_
   refine Kt.sel [1, 3, 4, 5, 7, 11] [_, _, _, _, _, _] rfl ?_
   refine Wk.seq ?_
   refine Wk.regionQ ?_
   refine Lq.op rfl rfl rfl (OpQ.loadBox (cs := #[i6_ a.n, str a.set, str a.rel]) 1 rfl Tryd.isAgg23 rfl rfl Tryd.sizeOf23) ?_
   refine Lq.run 1 rfl ?_
   refine Lq.op (v := i6_ (szB a 1048576)) rfl rfl rfl (OpQ.call rfl Tryd.call14 rfl Own.stable (fun w1 hw1 => sz_ok a 1048576 w1 (by omega) (by omega) h1a h2a)) ?_
   refine Lq.run 1 rfl ?_
   refine Lq.nil ?_
   refine Kt.sel [1, 3, 4, 5, 7, 11] [_, _, _, _, _, _] rfl ?_
   refine Wk.seq ?_
   refine Wk.seq ?_
   refine Wk.regionQ ?_
   refine Lq.run 2 rfl ?_
   refine Lq.nil ?_
   refine Kt.sel [1, 3, 4, 5, 7, 11, 28] [_, _, _, _, _, _, _] rfl ?_
   refine Wk.cond (b := decide ((szB a 1048576) < (0 : Int))) rfl (fun h28 => ?_) (fun h28 => ?_)
   ·
    replace h28 := of_decide_eq_true h28
    refine Wk.seq ?_
    refine Wk.regionQ ?_
    refine Lq.run 1 rfl ?_
    refine Lq.nil ?_
    refine Kt.sel [10] [_] rfl ?_
    refine Wk.ret (Kt.end1 rfl rfl fun w' hw => ?_)
    -- ret 2: bo_ true
    exact ⟨ret_b (by first | rfl | (simp_all; done) | (simp_all; omega)), hw.below⟩
   ·
    replace h28 := of_decide_eq_false h28
    obtain ⟨hsa, hz0a, hz1a⟩ := szB_small (by omega) h28
    refine Wk.skip ?_
    refine Kt.sel [1, 3, 4, 5, 7, 11] [_, _, _, _, _, _] rfl ?_
    refine Wk.seq ?_
    refine Wk.regionQ ?_
    refine Lq.op rfl rfl rfl (OpQ.loadBox (cs := #[i6_ b.n, str b.set, str b.rel]) 0 rfl Tryd.isAgg23 rfl rfl Tryd.sizeOf23) ?_
    refine Lq.run 1 rfl ?_
    refine Lq.op (v := i6_ (szB b (szB a 1048576))) rfl rfl rfl (OpQ.call rfl Tryd.call14 rfl Own.stable (fun w1 hw1 => sz_ok b (szB a 1048576) w1 (by omega) (by omega) h1b h2b)) ?_
    refine Lq.run 1 rfl ?_
    refine Lq.nil ?_
    refine Kt.sel [1, 3, 4, 5, 7, 11] [_, _, _, _, _, _] rfl ?_
    refine Wk.seq ?_
    refine Wk.seq ?_
    refine Wk.regionQ ?_
    refine Lq.run 2 rfl ?_
    refine Lq.nil ?_
    refine Kt.sel [1, 3, 4, 5, 7, 33] [_, _, _, _, _, _] rfl ?_
    refine Wk.cond (b := decide ((szB b (szB a 1048576)) < (0 : Int))) rfl (fun h33 => ?_) (fun h33 => ?_)
    ·
     replace h33 := of_decide_eq_true h33
     refine Wk.seq ?_
     refine Wk.regionQ ?_
     refine Lq.run 1 rfl ?_
     refine Lq.nil ?_
     refine Kt.sel [10] [_] rfl ?_
     refine Wk.ret (Kt.end1 rfl rfl fun w' hw => ?_)
     -- ret 3: bo_ true
     exact ⟨ret_b (by first | rfl | (simp_all; done) | (simp_all; omega)), hw.below⟩
    ·
     replace h33 := of_decide_eq_false h33
     obtain ⟨hsb, hz0b, hz1b⟩ := szB_small (by omega) h33
     refine Wk.skip ?_
     refine Kt.sel [1, 3, 4, 5, 7] [_, _, _, _, _] rfl ?_
     refine Wk.seq ?_
     refine Wk.regionO [(0, true), (2, true), (4, true), (6, true), (8, true), (1, false), (3, false), (5, false), (7, false), (9, false), (10, true), (11, true), (12, true), (13, true), (14, true)] Base.mixed (fun _ h => h.drawn) (by kernel_rfl) ?_
     refine Ld.take rfl rfl rfl rfl rfl (OpQ.loadBox (cs := #[i6_ a.n, str a.set, str a.rel]) 1 rfl Tryd.isAgg23 rfl rfl Tryd.sizeOf23) (fun _ h => h) ?_
     refine Ld.run 1 rfl (fun _ h => h) ?_
     refine Ld.take rfl rfl rfl rfl rfl (OpQ.loadBox (cs := #[i6_ b.n, str b.set, str b.rel]) 0 rfl Tryd.isAgg23 rfl rfl Tryd.sizeOf23) (fun _ h => h) ?_
     refine Ld.run 2 rfl (fun _ h => h) ?_
     refine Ld.loud rfl ?_
     refine Ll.op (v := vS a) rfl rfl rfl (OpQ.call rfl Tryd.call16 rfl Own.stable (fun w1 hw1 => toSt_ok a w1 )) ?_
     refine Ll.nil (Ld.joint (fun _ h => h) ?_)
     refine Ld.loud rfl ?_
     refine Ll.callRow (xs := [.tmp 37]) (m := xs.length) (vs := ints xs) (el := 3) (size := 1) rfl rfl rfl rfl Tryd.call17 rfl (fun w1 hw1 => toInt_ok va xs w1 (Row.own hva hw1) (by omega)) fun p38 cap38 cur38 hp38 hcp38 hlp38 htp38 => ?_
     refine Ll.nil (Ld.joint (fun _ h => h.tail) ?_)
     refine Ld.loud rfl ?_
     refine Ll.op (v := vS b) rfl rfl rfl (OpQ.call rfl Tryd.call16 rfl Own.stable (fun w1 hw1 => toSt_ok b w1 )) ?_
     refine Ll.nil (Ld.joint (fun _ h => h.tail) ?_)
     refine Ld.loud rfl ?_
     refine Ll.callRow (xs := [.tmp 41]) (m := ys.length) (vs := ints ys) (el := 3) (size := 1) rfl rfl rfl rfl Tryd.call17 rfl (fun w1 hw1 => toInt_ok vb ys w1 (Row.own hvb hw1) (by omega)) fun p42 cap42 cur42 hp42 hcp42 hlp42 htp42 => ?_
     refine Ll.nil (Ld.joint (fun _ h => h.tail.tail) ?_)
     refine Ld.loud rfl ?_
     refine Ll.op (v := .tuple #[str ((telOut a xs b ys r).1), bo_ ((telOut a xs b ys r).2)]) rfl rfl rfl (OpQ.call rfl Tryd.call20 rfl Own.stable (fun w1 hw1 => sTell_ok a b xs ys (sl_ p38 xs.length cap38) (sl_ p42 ys.length cap42) w1 hsa hsb (Own.row hw1 (i := 1) rfl (by simpa using htp38) (by simp) hlp38) (Own.row hw1 (i := 0) rfl (by simpa using htp42) (by simp) hlp42) (by first | (simp; done) | (simp; omega) | omega) (by first | (simp; done) | (simp; omega) | omega) loa hia lob hib r)) ?_
     refine Ll.nil (Ld.joint (fun _ h => h.tail.tail) ?_)
     refine Ld.run 1 rfl (fun _ h => h.tail.tail) ?_
     refine Ld.take (v := str ((telOut a xs b ys r).1)) rfl rfl rfl rfl rfl (OpQ.extract rfl rfl rfl) (fun _ h => h.tail.tail) ?_
     refine Ld.take (v := bo_ ((telOut a xs b ys r).2)) rfl rfl rfl rfl rfl (OpQ.extract rfl rfl rfl) (fun _ h => h.tail.tail) ?_
     refine Ld.run 2 rfl (fun _ h => h.tail.tail) ?_
     refine Ld.nil ?_
     refine Kt.sel [1, 3, 4, 5, 7, 12, 13] [_, _, _, _, _, _, _] rfl ?_
     refine Wk.seq ?_
     refine Wk.region ?_
     refine Ll.run 1 rfl ?_
     refine Ll.callRow (xs := [.tmp 47]) (m := xs.length) (vs := ints xs) (el := 3) (size := 1) rfl rfl rfl rfl Tryd.call17 rfl (fun w1 hw1 => toInt_ok va xs w1 (Row.own hva hw1) (by omega)) fun p48 cap48 cur48 hp48 hcp48 hlp48 htp48 => ?_
     refine Ll.run 1 rfl ?_
     refine Ll.nil ?_
     refine Kt.sel [1, 3, 4, 5, 7, 12, 13, 14] [_, _, _, _, _, _, _, _] rfl ?_
     refine Wk.seq ?_
     refine Wk.region ?_
     refine Ll.run 1 rfl ?_
     refine Ll.callRow (xs := [.tmp 49]) (m := ys.length) (vs := ints ys) (el := 3) (size := 1) rfl rfl rfl rfl Tryd.call17 rfl (fun w1 hw1 => toInt_ok vb ys w1 (Row.own hvb hw1) (by omega)) fun p50 cap50 cur50 hp50 hcp50 hlp50 htp50 => ?_
     refine Ll.run 1 rfl ?_
     refine Ll.nil ?_
     refine Kt.sel [1, 3, 4, 5, 7, 12, 13, 14, 15] [_, _, _, _, _, _, _, _, _] rfl ?_
     refine Wk.seq ?_
     refine Wk.regionD Base.mixed (fun _ h => h.drawn) (by kernel_rfl) ?_
     refine Lq.op rfl rfl rfl (OpQ.loadBox (cs := #[i6_ a.n, str a.set, str a.rel]) 5 rfl Tryd.isAgg23 rfl rfl Tryd.sizeOf23) ?_
     refine Lq.op (v := vS a) rfl rfl rfl (OpQ.call rfl Tryd.call16 rfl Own.stable (fun w1 hw1 => toSt_ok a w1 )) ?_
     refine Lq.run 1 rfl ?_
     refine Lq.op rfl rfl rfl (OpQ.loadBox (cs := #[i6_ b.n, str b.set, str b.rel]) 4 rfl Tryd.isAgg23 rfl rfl Tryd.sizeOf23) ?_
     refine Lq.op (v := vS b) rfl rfl rfl (OpQ.call rfl Tryd.call16 rfl Own.stable (fun w1 hw1 => toSt_ok b w1 )) ?_
     refine Lq.run 2 rfl ?_
     refine Lq.op (v := .tuple #[str ((telOut a xs b ys r).1), bo_ ((telOut a xs b ys r).2)]) rfl rfl rfl (OpQ.call rfl Tryd.call21 rfl Own.stable (fun w1 hw1 => iTell_ok a b xs ys (sl_ p48 xs.length cap48) (sl_ p50 ys.length cap50) w1 hsa hsb (Own.row hw1 (i := 1) rfl (by simpa using htp48) (by simp) hlp48) (Own.row hw1 (i := 0) rfl (by simpa using htp50) (by simp) hlp50) (by first | (simp; done) | (simp; omega) | omega) (by first | (simp; done) | (simp; omega) | omega) r)) ?_
     refine Lq.run 1 rfl ?_
     refine Lq.op (v := str ((telOut a xs b ys r).1)) rfl rfl rfl (OpQ.extract rfl rfl rfl) ?_
     refine Lq.op (v := bo_ ((telOut a xs b ys r).2)) rfl rfl rfl (OpQ.extract rfl rfl rfl) ?_
     refine Lq.run 2 rfl ?_
     refine Lq.nil ?_
     refine Kt.sel [1, 3, 12, 13, 14, 15, 16, 17] [_, _, _, _, _, _, _, _] rfl ?_
     refine Wk.seq ?_
     refine Wk.seq ?_
     refine Wk.regionQ ?_
     refine Lq.run 2 rfl ?_
     refine Lq.op rfl rfl rfl (OpQ.sneq rfl rfl rfl) ?_
     refine Lq.run 1 rfl ?_
     refine Lq.bool fun b65 hg65 => ?_
     cases b65
     ·
      replace hg65 := not_false hg65
      refine Lq.run 2 rfl ?_
      refine Lq.op rfl rfl rfl (OpQ.bne rfl Tryd.runUnderlying4 rfl rfl) ?_
      refine Lq.run 1 rfl ?_
      refine Lq.nil ?_
      refine Kt.sel [1, 3, 14, 15, 69] [_, _, _, _, _] rfl ?_
      refine Wk.cond (b := ((telOut a xs b ys r).2) != ((telOut a xs b ys r).2)) rfl (fun h69 => ?_) (fun h69 => ?_)
      ·
       exact absurd h69 (by simp)
      ·
       refine Wk.skip ?_
       refine Kt.sel [1, 3, 14, 15] [_, _, _, _] rfl ?_
       refine Wk.seq ?_
       refine Wk.seq ?_
       refine Wk.region ?_
       refine Ll.run 2 rfl ?_
       refine Ll.callRow (xs := [.tmp 71]) (m := xs.length) (vs := ints xs) (el := 3) (size := 1) rfl rfl rfl rfl Tryd.call17 rfl (fun w1 hw1 => toInt_ok va xs w1 (Row.own hva hw1) (by omega)) fun p72 cap72 cur72 hp72 hcp72 hlp72 htp72 => ?_
       refine Ll.op (v := bo_ true) rfl rfl rfl (OpQ.call rfl Tryd.call19 rfl Own.stable (fun w1 hw1 => known_b (beq_self_eq_true _) (eqInt_ok (sl_ p48 xs.length cap48) (sl_ p72 xs.length cap72) xs xs w1 (Own.row hw1 (i := 2) rfl (by simpa using htp48) (by simp) hlp48) (Own.row hw1 (i := 0) rfl (by simpa using htp72) (by simp) hlp72) (by first | (simp; done) | (simp; omega) | omega)))) ?_
       refine Ll.run 1 rfl ?_
       refine Ll.nil ?_
       refine Kt.sel [3, 15, 74] [_, _, _] rfl ?_
       refine Wk.condF rfl ?_
       refine Wk.skip ?_
       refine Kt.sel [3, 15] [_, _] rfl ?_
       refine Wk.seq ?_
       refine Wk.seq ?_
       refine Wk.region ?_
       refine Ll.run 2 rfl ?_
       refine Ll.callRow (xs := [.tmp 76]) (m := ys.length) (vs := ints ys) (el := 3) (size := 1) rfl rfl rfl rfl Tryd.call17 rfl (fun w1 hw1 => toInt_ok vb ys w1 (Row.own hvb hw1) (by omega)) fun p77 cap77 cur77 hp77 hcp77 hlp77 htp77 => ?_
       refine Ll.op (v := bo_ true) rfl rfl rfl (OpQ.call rfl Tryd.call19 rfl Own.stable (fun w1 hw1 => known_b (beq_self_eq_true _) (eqInt_ok (sl_ p50 ys.length cap50) (sl_ p77 ys.length cap77) ys ys w1 (Own.row hw1 (i := 2) rfl (by simpa using htp50) (by simp) hlp50) (Own.row hw1 (i := 0) rfl (by simpa using htp77) (by simp) hlp77) (by first | (simp; done) | (simp; omega) | omega)))) ?_
       refine Ll.run 1 rfl ?_
       refine Ll.nil ?_
       refine Kt.sel [79] [_] rfl ?_
       refine Wk.condF rfl ?_
       refine Wk.skip ?_
       refine Kt.sel [] [] rfl ?_
       refine Wk.seq ?_
       refine Wk.regionQ ?_
       refine Lq.run 1 rfl ?_
       refine Lq.nil ?_
       refine Kt.sel [10] [_] rfl ?_
       refine Wk.ret (Kt.end1 rfl rfl fun w' hw => ?_)
       -- ret 4: bo_ true
       exact ⟨ret_b (by first | rfl | (simp_all; done) | (simp_all; omega)), hw.below⟩
     ·
      replace hg65 := not_true hg65
      exact absurd hg65 (by simp)

end Go.Proofs.YtjcoijejhachhaaDoor
