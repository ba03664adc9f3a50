/-
  Walks: the law of sentences.
-/
import Derived.Test.YtjcoijejhachhaaDoorSzM
import Derived.Test.YtjcoijejhachhaaDoorTellM
import Derived.Test.YtjcoijejhachhaaDoorBase
namespace Go.Proofs.YtjcoijejhachhaaDoor
open Go.RowKit Go.Wk
set_option linter.unusedSimpArgs false

set_option maxHeartbeats 400000 in
/-- spec.SameRank -/
theorem sSame_ok (a b : St) (w : World) (hsa : a.Small) (hsb : b.Small) (loa : -9223372036854775808 ≤ a.n) (hia : a.n ≤ 9223372036854775807) (lob : -9223372036854775808 ≤ b.n) (hib : b.n ≤ 9223372036854775807) (r : Int) :
    Calls Tryd.prog 39 [vS a, vS b, i6_ r].toArray w fun en w' => en = .returned (.bool (secB a [] b [] r)) ∧ Below w.heap.size w w' := by
 refine fnStart (n := 13) (e := [(0, vS a), (1, vS b), (2, i6_ r)]) Tryd.func39 rfl rfl rfl rfl Ends.both ?_
 refine Wk.seq ?_
 refine Wk.region ?_
 refine Ll.box (v := vS a) rfl rfl rfl rfl rfl fun p3 hp3 => ?_
 show Ll _ _ (Own _ _ [_]) _ _ ((3, pt_ p3) :: _) _ _ _
 refine Ll.box (v := vS b) rfl rfl rfl rfl rfl fun p4 hp4 => ?_
 show Ll _ _ (Own _ _ [_, _]) _ _ ((4, pt_ p4) :: _) _ _ _
 refine Ll.run 1 rfl ?_
 refine Ll.nil ?_
 refine Kt.sel [2, 3, 4] [_, _, _] rfl ?_
 refine Wk.seq ?_
 refine Wk.region ?_
 refine Ll.op rfl rfl rfl (OpQ.loadBox (cs := #[i6_ a.n, str a.set, str a.rel]) 1 rfl Tryd.isAgg28 rfl rfl Tryd.sizeOf28) ?_
 refine Ll.slice (xs := []) (vs := []) Base.elem24 rfl rfl rfl rfl rfl rfl (by decide) rfl fun p8 hp8 => ?_
 refine Ll.op rfl rfl rfl (OpQ.loadBox (cs := #[i6_ b.n, str b.set, str b.rel]) 1 rfl Tryd.isAgg28 rfl rfl Tryd.sizeOf28) ?_
 refine Ll.slice (xs := []) (vs := []) Base.elem24 rfl rfl rfl rfl rfl rfl (by decide) rfl fun p10 hp10 => ?_
 refine Ll.run 1 rfl ?_
 refine Ll.op (v := bo_ (secB a ([]) b ([]) r)) rfl rfl rfl (OpQ.call rfl Tryd.call83 rfl Own.stable (fun w1 hw1 => sWins_ok a b ([]) ([]) (sl_ p8 0 0) (sl_ p10 0 0) w1 hsa hsb (Own.row hw1 (i := 1) rfl (n := 0) (cap := 0) (vs := ints []) rfl rfl (by decide)) (Own.row hw1 (i := 0) rfl (n := 0) (cap := 0) (vs := ints []) rfl rfl (by decide)) (by first | (simp; done) | (simp; omega) | omega) (by first | (simp; done) | (simp; omega) | omega) loa hia lob hib r)) ?_
 refine Ll.run 1 rfl ?_
 refine Ll.nil ?_
 refine Kt.sel [6] [_] rfl ?_
 refine Wk.ret (Kt.end1 rfl rfl fun w' hw => ?_)
 -- ret 0: bo_ (secB a ([]) b ([]) r)
 exact ⟨rfl, hw.below⟩

set_option maxHeartbeats 400000 in
/-- impl.SentenceFor -/
theorem iSent_ok (a b : St) (w : World) (hsa : a.Small) (hsb : b.Small) :
    Calls Tryd.prog 23 [vS a, vS b].toArray w fun en w' => en = .returned (.tuple #[str (sentO a b).1, .int .i64 (sentO a b).2.1, .bool (sentO a b).2.2]) ∧ Below w.heap.size w w' := by
 refine fnStart (n := 37) (e := [(0, vS a), (1, vS b)]) Tryd.func23 rfl rfl rfl rfl Ends.both ?_
 refine Wk.seq ?_
 refine Wk.region ?_
 refine Ll.box (v := vS a) rfl rfl rfl rfl rfl fun p2 hp2 => ?_
 show Ll _ _ (Own _ _ [_]) _ _ ((2, pt_ p2) :: _) _ _ _
 refine Ll.box (v := vS b) rfl rfl rfl rfl rfl fun p3 hp3 => ?_
 show Ll _ _ (Own _ _ [_, _]) _ _ ((3, pt_ p3) :: _) _ _ _
 refine Ll.op (v := str ([])) rfl rfl rfl (OpQ.assign rfl rfl) ?_
 refine Ll.run 2 rfl ?_
 refine Ll.nil ?_
 refine Kt.sel [2, 3] [_, _] rfl ?_
 refine Wk.seq ?_
 refine Wk.seq ?_
 refine Wk.regionQ ?_
 refine Lq.op rfl rfl rfl (OpQ.loadBox (cs := #[i6_ a.n, str a.set, str a.rel]) 1 rfl Tryd.isAgg28 rfl rfl Tryd.sizeOf28) ?_
 refine Lq.op (v := bo_ (validB a)) rfl rfl rfl (OpQ.call rfl Tryd.call53 rfl Own.stable (fun w1 hw1 => isStructure_ok a w1 hsa)) ?_
 refine Lq.run 2 rfl ?_
 refine Lq.bool fun b13 hg13 => ?_
 cases b13
 ·
  replace hg13 := not_false hg13
  refine Lq.op rfl rfl rfl (OpQ.loadBox (cs := #[i6_ b.n, str b.set, str b.rel]) 0 rfl Tryd.isAgg28 rfl rfl Tryd.sizeOf28) ?_
  refine Lq.op (v := bo_ (validB b)) rfl rfl rfl (OpQ.call rfl Tryd.call53 rfl Own.stable (fun w1 hw1 => isStructure_ok b w1 hsb)) ?_
  refine Lq.run 2 rfl ?_
  refine Lq.nil ?_
  refine Kt.sel [2, 3, 17] [_, _, _] rfl ?_
  refine Wk.cond (b := !(validB b)) rfl (fun h17 => ?_) (fun h17 => ?_)
  ·
   replace h17 := not_true h17
   refine Wk.seq ?_
   refine Wk.regionQ ?_
   refine Lq.op (v := str ([])) rfl rfl rfl (OpQ.assign rfl rfl) ?_
   refine Lq.run 2 rfl ?_
   refine Lq.nil ?_
   refine Kt.sel [4, 5, 6] [_, _, _] rfl ?_
   refine Wk.ret (Kt.end3 rfl rfl rfl rfl fun w' hw => ?_)
   -- ret 0: str ([]); i6_ 0; bo_ false
   refine ⟨?_, hw.below⟩
   first | rw [sent_none (fun j hj => hall j (by omega))] | (rw [sent_bad]; simp_all; done)
  ·
   replace h17 := not_false h17
   have hVa : validB a = true := by simp_all
   have hVb : validB b = true := by simp_all
   have ha := validB_fine hVa
   have hb := validB_fine hVb
   have hlen : ([] : List Int).length = ([] : List Int).length := rfl
   have hA : a.Els [] := fun x hx => by cases hx
   have hB : b.Els [] := fun x hx => by cases hx
   refine Wk.skip ?_
   refine Kt.sel [2, 3] [_, _] rfl ?_
   refine Wk.seq ?_
   refine Wk.seq ?_
   refine Wk.regionQ ?_
   refine Lq.run 1 rfl ?_
   refine Lq.nil ?_
   refine Kt.sel [2, 3, 7] [_, _, _] rfl ?_
   refine Wk.block ?_
   refine Wk.loop (σ := Nat) (fun i => i ≤ 3 ∧ ∀ j : Nat, j < i → winB (j + 1) a [] b [] = true) (fun i => [(2, pt_ p2), (3, pt_ p3), (7, i6_ ((i : Int) + 1))]) (fun i => Own w.heap.size w [bk_ p3 #[i6_ b.n, str b.set, str b.rel] 28, bk_ p2 #[i6_ a.n, str a.set, str a.rel] 28]) (fun i => 3 - i) (0) ⟨by omega, fun j hj => absurd hj (by omega)⟩ (Sub.cons rfl (Sub.cons rfl (Sub.cons (by simp [List.lookup]) Sub.nil))) (fun _ h => h) ?_
   rintro i ⟨hi3, hall⟩
   refine Wk.seq ?_
   refine Wk.seq ?_
   refine Wk.regionQ ?_
   refine Lq.run 2 rfl ?_
   refine Lq.nil ?_
   refine Kt.sel [2, 3, 7, 19] [_, _, _, _] rfl ?_
   refine Wk.cond (b := decide (((i : Int) + 1) ≤ (3 : Int))) rfl (fun h19 => ?_) (fun h19 => ?_)
   ·
    replace h19 := of_decide_eq_true h19
    refine Wk.skip ?_
    refine Kt.sel [2, 3, 7] [_, _, _] rfl ?_
    refine Wk.seq ?_
    refine Wk.block ?_
    refine Wk.seq ?_
    refine Wk.seq ?_
    refine Wk.regionQ ?_
    refine Lq.op rfl rfl rfl (OpQ.loadBox (cs := #[i6_ a.n, str a.set, str a.rel]) 1 rfl Tryd.isAgg28 rfl rfl Tryd.sizeOf28) ?_
    refine Lq.op rfl rfl rfl (OpQ.loadBox (cs := #[i6_ b.n, str b.set, str b.rel]) 0 rfl Tryd.isAgg28 rfl rfl Tryd.sizeOf28) ?_
    refine Lq.run 1 rfl ?_
    refine Lq.op (v := bo_ (winB (i + 1) a ([]) b ([]))) rfl rfl rfl (OpQ.call rfl Tryd.call50 rfl Own.stable (fun w1 hw1 => wins_ok a b ([]) ([]) (.slice none 0 0) (.slice none 0 0) w1 ha hb Ints.nil Ints.nil (fun x hx => by cases hx) (fun x hx => by cases hx) (by first | (simp; done) | (simp; omega) | omega) (by first | (simp; done) | (simp; omega) | omega) ((i : Int) + 1) (by omega) (by omega))) ?_
    refine Lq.nil ?_
    refine Kt.sel [2, 3, 7, 25] [_, _, _, _] rfl ?_
    refine Wk.cond (b := winB (i + 1) a ([]) b ([])) rfl (fun h25 => ?_) (fun h25 => ?_)
    ·
     have hyes : winB (i + 1) a [] b [] = true := by assumption
     refine Wk.exit rfl ?_
     refine Kt.sel [2, 3, 7] [_, _, _] rfl ?_
     refine Wk.regionQ ?_
     refine Lq.run 1 rfl ?_
     refine Lq.op rfl rfl rfl (OpQ.add rfl rfl rfl (by omega) (by omega)) ?_
     refine Lq.run 1 rfl ?_
     refine Lq.nil ?_
     refine Kt.again (i + 1) ⟨by omega, fun j hj => (Nat.lt_succ_iff_lt_or_eq.1 hj).elim (hall j) (fun e => by subst e; exact hyes)⟩ (by omega) (Sub.cons rfl (Sub.cons rfl (Sub.cons (by simp [List.lookup]) Sub.nil))) (fun _ h => h)
    ·
     have hno1 : winB (i + 1) a [] b [] = false := by assumption
     refine Wk.skip ?_
     refine Kt.sel [2, 3, 7] [_, _, _] rfl ?_
     refine Wk.seq ?_
     refine Wk.regionQ ?_
     refine Lq.op rfl rfl rfl (OpQ.loadBox (cs := #[i6_ a.n, str a.set, str a.rel]) 1 rfl Tryd.isAgg28 rfl rfl Tryd.sizeOf28) ?_
     refine Lq.op rfl rfl rfl (OpQ.loadBox (cs := #[i6_ b.n, str b.set, str b.rel]) 0 rfl Tryd.isAgg28 rfl rfl Tryd.sizeOf28) ?_
     refine Lq.run 1 rfl ?_
     refine Lq.op (v := .tuple #[str (tellF (i + 1) a ([]) b ([])), bo_ true]) rfl rfl rfl (OpQ.call rfl Tryd.call51 rfl Own.stable (fun w1 hw1 => ta_ok (i + 1) a b ([]) ([]) (.slice none 0 0) (.slice none 0 0) w1 hVa hVb Ints.nil Ints.nil hA hB rfl (by simp; omega) (by omega) hno1)) ?_
     refine Lq.run 1 rfl ?_
     refine Lq.op (v := str (tellF (i + 1) a ([]) b ([]))) rfl rfl rfl (OpQ.extract rfl rfl rfl) ?_
     refine Lq.op (v := bo_ true) rfl rfl rfl (OpQ.extract rfl rfl rfl) ?_
     refine Lq.run 2 rfl ?_
     refine Lq.nil ?_
     refine Kt.sel [7, 8, 9] [_, _, _] rfl ?_
     refine Wk.seq ?_
     refine Wk.seq ?_
     refine Wk.regionQ ?_
     refine Lq.run 2 rfl ?_
     refine Lq.nil ?_
     refine Kt.sel [7, 8, 34] [_, _, _] rfl ?_
     refine Wk.condF rfl ?_
     refine Wk.skip ?_
     refine Kt.sel [7, 8] [_, _] rfl ?_
     refine Wk.seq ?_
     refine Wk.regionQ ?_
     refine Lq.run 5 rfl ?_
     refine Lq.nil ?_
     refine Kt.sel [4, 5, 6] [_, _, _] rfl ?_
     refine Wk.ret (Kt.end3 rfl rfl rfl rfl fun w' hw => ?_)
     -- ret 1: str (tellF (i + 1) a ([]) b ([])); i6_ ((i : Int) + 1); bo_ true
     exact ⟨by rw [sent_at hVa hVb (by omega) hall hno1], hw.below⟩
   ·
    replace h19 := of_decide_eq_false h19
    refine Wk.exit rfl ?_
    refine Kt.sel [] [] rfl ?_
    refine Wk.seq ?_
    refine Wk.regionQ ?_
    refine Lq.op (v := str ([])) rfl rfl rfl (OpQ.assign rfl rfl) ?_
    refine Lq.run 2 rfl ?_
    refine Lq.nil ?_
    refine Kt.sel [4, 5, 6] [_, _, _] rfl ?_
    refine Wk.ret (Kt.end3 rfl rfl rfl rfl fun w' hw => ?_)
    -- ret 2: str ([]); i6_ 0; bo_ false
    refine ⟨?_, hw.below⟩
    first | rw [sent_none (fun j hj => hall j (by omega))] | (rw [sent_bad]; simp_all; done)
 ·
  replace hg13 := not_true hg13
  refine Lq.pass rfl rfl rfl ?_
  refine Lq.pass rfl rfl rfl ?_
  refine Lq.pass rfl rfl rfl ?_
  refine Lq.run 1 rfl ?_
  refine Lq.nil ?_
  refine Kt.sel [2, 3, 17] [_, _, _] rfl ?_
  refine Wk.condT rfl ?_
  refine Wk.seq ?_
  refine Wk.regionQ ?_
  refine Lq.op (v := str ([])) rfl rfl rfl (OpQ.assign rfl rfl) ?_
  refine Lq.run 2 rfl ?_
  refine Lq.nil ?_
  refine Kt.sel [4, 5, 6] [_, _, _] rfl ?_
  refine Wk.ret (Kt.end3 rfl rfl rfl rfl fun w' hw => ?_)
  -- ret 3: str ([]); i6_ 0; bo_ false
  refine ⟨?_, hw.below⟩
  first | rw [sent_none (fun j hj => hall j (by omega))] | (rw [sent_bad]; simp_all; done)

set_option maxHeartbeats 400000 in
/-- spec.SentenceFor -/
theorem sSent_ok (a b : St) (w : World) (hsa : a.Small) (hsb : b.Small) (loa : -9223372036854775808 ≤ a.n) (hia : a.n ≤ 9223372036854775807) (lob : -9223372036854775808 ≤ b.n) (hib : b.n ≤ 9223372036854775807) :
    Calls Tryd.prog 22 [vS a, vS b].toArray w fun en w' => en = .returned (.tuple #[str (sentO a b).1, .int .i64 (sentO a b).2.1, .bool (sentO a b).2.2]) ∧ Below w.heap.size w w' := by
 refine fnStart (n := 40) (e := [(0, vS a), (1, vS b)]) Tryd.func22 rfl rfl rfl rfl Ends.both ?_
 refine Wk.seq ?_
 refine Wk.region ?_
 refine Ll.box (v := vS a) rfl rfl rfl rfl rfl fun p2 hp2 => ?_
 show Ll _ _ (Own _ _ [_]) _ _ ((2, pt_ p2) :: _) _ _ _
 refine Ll.box (v := vS b) rfl rfl rfl rfl rfl fun p3 hp3 => ?_
 show Ll _ _ (Own _ _ [_, _]) _ _ ((3, pt_ p3) :: _) _ _ _
 refine Ll.op (v := str ([])) rfl rfl rfl (OpQ.assign rfl rfl) ?_
 refine Ll.run 2 rfl ?_
 refine Ll.nil ?_
 refine Kt.sel [2, 3] [_, _] rfl ?_
 refine Wk.seq ?_
 refine Wk.seq ?_
 refine Wk.regionQ ?_
 refine Lq.op rfl rfl rfl (OpQ.loadBox (cs := #[i6_ a.n, str a.set, str a.rel]) 1 rfl Tryd.isAgg28 rfl rfl Tryd.sizeOf28) ?_
 refine Lq.op (v := bo_ (validB a)) rfl rfl rfl (OpQ.call rfl Tryd.call52 rfl Own.stable (fun w1 hw1 => sValid_ok a w1 hsa)) ?_
 refine Lq.run 2 rfl ?_
 refine Lq.bool fun b13 hg13 => ?_
 cases b13
 ·
  replace hg13 := not_false hg13
  refine Lq.op rfl rfl rfl (OpQ.loadBox (cs := #[i6_ b.n, str b.set, str b.rel]) 0 rfl Tryd.isAgg28 rfl rfl Tryd.sizeOf28) ?_
  refine Lq.op (v := bo_ (validB b)) rfl rfl rfl (OpQ.call rfl Tryd.call52 rfl Own.stable (fun w1 hw1 => sValid_ok b w1 hsb)) ?_
  refine Lq.run 2 rfl ?_
  refine Lq.nil ?_
  refine Kt.sel [2, 3, 17] [_, _, _] rfl ?_
  refine Wk.cond (b := !(validB b)) rfl (fun h17 => ?_) (fun h17 => ?_)
  ·
   replace h17 := not_true h17
   refine Wk.seq ?_
   refine Wk.regionQ ?_
   refine Lq.op (v := str ([])) rfl rfl rfl (OpQ.assign rfl rfl) ?_
   refine Lq.run 2 rfl ?_
   refine Lq.nil ?_
   refine Kt.sel [4, 5, 6] [_, _, _] rfl ?_
   refine Wk.ret (Kt.end3 rfl rfl rfl rfl fun w' hw => ?_)
   -- ret 0: str ([]); i6_ 0; bo_ false
   refine ⟨?_, hw.below⟩
   first | rw [sent_none (fun j hj => hall j (by omega))] | (rw [sent_bad]; simp_all; done)
  ·
   replace h17 := not_false h17
   have hVa : validB a = true := by simp_all
   have hVb : validB b = true := by simp_all
   have ha := validB_fine hVa
   have hb := validB_fine hVb
   have hlen : ([] : List Int).length = ([] : List Int).length := rfl
   have hA : a.Els [] := fun x hx => by cases hx
   have hB : b.Els [] := fun x hx => by cases hx
   refine Wk.skip ?_
   refine Kt.sel [2, 3] [_, _] rfl ?_
   refine Wk.seq ?_
   refine Wk.seq ?_
   refine Wk.regionQ ?_
   refine Lq.run 1 rfl ?_
   refine Lq.nil ?_
   refine Kt.sel [2, 3, 7] [_, _, _] rfl ?_
   refine Wk.block ?_
   refine Wk.loop (σ := Nat) (fun i => i ≤ 3 ∧ ∀ j : Nat, j < i → winB (j + 1) a [] b [] = true) (fun i => [(2, pt_ p2), (3, pt_ p3), (7, i6_ ((i : Int) + 1))]) (fun i => Own w.heap.size w [bk_ p3 #[i6_ b.n, str b.set, str b.rel] 28, bk_ p2 #[i6_ a.n, str a.set, str a.rel] 28]) (fun i => 3 - i) (0) ⟨by omega, fun j hj => absurd hj (by omega)⟩ (Sub.cons rfl (Sub.cons rfl (Sub.cons (by simp [List.lookup]) Sub.nil))) (fun _ h => h) ?_
   rintro i ⟨hi3, hall⟩
   refine Wk.seq ?_
   refine Wk.seq ?_
   refine Wk.regionQ ?_
   refine Lq.run 2 rfl ?_
   refine Lq.nil ?_
   refine Kt.sel [2, 3, 7, 19] [_, _, _, _] rfl ?_
   refine Wk.cond (b := decide (((i : Int) + 1) ≤ (3 : Int))) rfl (fun h19 => ?_) (fun h19 => ?_)
   ·
    replace h19 := of_decide_eq_true h19
    refine Wk.skip ?_
    refine Kt.sel [2, 3, 7] [_, _, _] rfl ?_
    refine Wk.seq ?_
    refine Wk.block ?_
    refine Wk.seq ?_
    refine Wk.regionQ ?_
    refine Lq.op rfl rfl rfl (OpQ.loadBox (cs := #[i6_ a.n, str a.set, str a.rel]) 1 rfl Tryd.isAgg28 rfl rfl Tryd.sizeOf28) ?_
    refine Lq.op rfl rfl rfl (OpQ.loadBox (cs := #[i6_ b.n, str b.set, str b.rel]) 0 rfl Tryd.isAgg28 rfl rfl Tryd.sizeOf28) ?_
    refine Lq.run 1 rfl ?_
    refine Lq.op (v := bo_ (secB a [] b [] ((i : Int) + 1))) rfl rfl rfl (OpQ.call rfl Tryd.call39 rfl Own.stable (fun w1 hw1 => sSame_ok a b w1 hsa hsb loa hia lob hib ((i : Int) + 1))) ?_
    refine Lq.run 1 rfl ?_
    refine Lq.nil ?_
    refine Kt.sel [2, 3, 7, 26] [_, _, _, _] rfl ?_
    refine Wk.cond (b := !(secB a [] b [] ((i : Int) + 1))) rfl (fun h26 => ?_) (fun h26 => ?_)
    ·
     replace h26 := not_true h26
     have hno1 : winB (i + 1) a [] b [] = false := sec_no hVa hVb (by omega) (by first | assumption | simpa using h26)
     refine Wk.seq ?_
     refine Wk.region ?_
     refine Ll.op rfl rfl rfl (OpQ.loadBox (cs := #[i6_ a.n, str a.set, str a.rel]) 1 rfl Tryd.isAgg28 rfl rfl Tryd.sizeOf28) ?_
     refine Ll.slice (xs := []) (vs := []) Base.elem24 rfl rfl rfl rfl rfl rfl (by decide) rfl fun p29 hp29 => ?_
     refine Ll.op rfl rfl rfl (OpQ.loadBox (cs := #[i6_ b.n, str b.set, str b.rel]) 1 rfl Tryd.isAgg28 rfl rfl Tryd.sizeOf28) ?_
     refine Ll.slice (xs := []) (vs := []) Base.elem24 rfl rfl rfl rfl rfl rfl (by decide) rfl fun p31 hp31 => ?_
     refine Ll.run 1 rfl ?_
     refine Ll.op (v := .tuple #[str ((telOut a ([]) b ([]) ((i : Int) + 1)).1), bo_ ((telOut a ([]) b ([]) ((i : Int) + 1)).2)]) rfl rfl rfl (OpQ.call rfl Tryd.call20 rfl Own.stable (fun w1 hw1 => sTell_ok a b ([]) ([]) (sl_ p29 0 0) (sl_ p31 0 0) w1 hsa hsb (Own.row hw1 (i := 1) rfl (n := 0) (cap := 0) (vs := ints []) rfl rfl (by decide)) (Own.row hw1 (i := 0) rfl (n := 0) (cap := 0) (vs := ints []) rfl rfl (by decide)) (by first | (simp; done) | (simp; omega) | omega) (by first | (simp; done) | (simp; omega) | omega) loa hia lob hib ((i : Int) + 1))) ?_
     refine Ll.run 1 rfl ?_
     refine Ll.op (v := str ((telOut a ([]) b ([]) ((i : Int) + 1)).1)) rfl rfl rfl (OpQ.extract rfl rfl rfl) ?_
     refine Ll.op (v := bo_ ((telOut a ([]) b ([]) ((i : Int) + 1)).2)) rfl rfl rfl (OpQ.extract rfl rfl rfl) ?_
     refine Ll.run 2 rfl ?_
     refine Ll.nil ?_
     refine Kt.sel [7, 8, 9] [_, _, _] rfl ?_
     refine Wk.seq ?_
     refine Wk.seq ?_
     refine Wk.regionQ ?_
     refine Lq.run 2 rfl ?_
     refine Lq.nil ?_
     refine Kt.sel [7, 8, 37] [_, _, _] rfl ?_
     refine Wk.cond (b := !((telOut a ([]) b ([]) ((i : Int) + 1)).2)) rfl (fun h37 => ?_) (fun h37 => ?_)
     ·
      replace h37 := not_true h37
      exact absurd h37 (by rw [telOut_nil hVa hVb (by omega) hno1]; simp)
     ·
      replace h37 := not_false h37
      refine Wk.skip ?_
      refine Kt.sel [7, 8] [_, _] rfl ?_
      refine Wk.seq ?_
      refine Wk.regionQ ?_
      refine Lq.run 5 rfl ?_
      refine Lq.nil ?_
      refine Kt.sel [4, 5, 6] [_, _, _] rfl ?_
      refine Wk.ret (Kt.end3 rfl rfl rfl rfl fun w' hw => ?_)
      -- ret 1: str ((telOut a ([]) b ([]) ((i : Int) + 1)).1); i6_ ((i : Int) + 1); bo_ true
      exact ⟨by rw [sent_at hVa hVb (by omega) hall hno1, telOut_nil hVa hVb (by omega) hno1], hw.below⟩
    ·
     replace h26 := not_false h26
     have hyes : winB (i + 1) a [] b [] = true := by
      have h9 : secB a [] b [] ((i : Int) + 1) = true := by first | assumption | simpa using h26
      unfold secB at h9; simp only [Bool.and_eq_true] at h9; exact h9.2
     refine Wk.skip ?_
     refine Kt.sel [2, 3, 7] [_, _, _] rfl ?_
     refine Wk.regionQ ?_
     refine Lq.run 1 rfl ?_
     refine Lq.op rfl rfl rfl (OpQ.add rfl rfl rfl (by omega) (by omega)) ?_
     refine Lq.run 1 rfl ?_
     refine Lq.nil ?_
     refine Kt.again (i + 1) ⟨by omega, fun j hj => (Nat.lt_succ_iff_lt_or_eq.1 hj).elim (hall j) (fun e => by subst e; exact hyes)⟩ (by omega) (Sub.cons rfl (Sub.cons rfl (Sub.cons (by simp [List.lookup]) Sub.nil))) (fun _ h => h)
   ·
    replace h19 := of_decide_eq_false h19
    refine Wk.exit rfl ?_
    refine Kt.sel [] [] rfl ?_
    refine Wk.seq ?_
    refine Wk.regionQ ?_
    refine Lq.op (v := str ([])) rfl rfl rfl (OpQ.assign rfl rfl) ?_
    refine Lq.run 2 rfl ?_
    refine Lq.nil ?_
    refine Kt.sel [4, 5, 6] [_, _, _] rfl ?_
    refine Wk.ret (Kt.end3 rfl rfl rfl rfl fun w' hw => ?_)
    -- ret 2: str ([]); i6_ 0; bo_ false
    refine ⟨?_, hw.below⟩
    first | rw [sent_none (fun j hj => hall j (by omega))] | (rw [sent_bad]; simp_all; done)
 ·
  replace hg13 := not_true hg13
  refine Lq.pass rfl rfl rfl ?_
  refine Lq.pass rfl rfl rfl ?_
  refine Lq.pass rfl rfl rfl ?_
  refine Lq.run 1 rfl ?_
  refine Lq.nil ?_
  refine Kt.sel [2, 3, 17] [_, _, _] rfl ?_
  refine Wk.condT rfl ?_
  refine Wk.seq ?_
  refine Wk.regionQ ?_
  refine Lq.op (v := str ([])) rfl rfl rfl (OpQ.assign rfl rfl) ?_
  refine Lq.run 2 rfl ?_
  refine Lq.nil ?_
  refine Kt.sel [4, 5, 6] [_, _, _] rfl ?_
  refine Wk.ret (Kt.end3 rfl rfl rfl rfl fun w' hw => ?_)
  -- ret 3: str ([]); i6_ 0; bo_ false
  refine ⟨?_, hw.below⟩
  first | rw [sent_none (fun j hj => hall j (by omega))] | (rw [sent_bad]; simp_all; done)

set_option maxHeartbeats 400000 in
/-- laws.FnExactSentenceFor -/
theorem lawSent (a b : St) (w : World) (h1a : a.set.length ≤ 9223372036854775807) (h2a : a.rel.length ≤ 9223372036854775807) (h1b : b.set.length ≤ 9223372036854775807) (h2b : b.rel.length ≤ 9223372036854775807) (loa : -9223372036854775808 ≤ a.n) (hia : a.n ≤ 9223372036854775807) (lob : -9223372036854775808 ≤ b.n) (hib : b.n ≤ 9223372036854775807) :
    Calls Tryd.prog 5 [vS a, vS b].toArray w fun en w' => en = .returned (.bool true) ∧ Below w.heap.size w w' := by
 refine fnStart (n := 53) (e := [(0, vS a), (1, vS b)]) Tryd.func5 rfl rfl rfl rfl Ends.both ?_
 refine Wk.seq ?_
 refine Wk.region ?_
 refine Ll.box (v := vS a) rfl rfl rfl rfl rfl fun p2 hp2 => ?_
 show Ll _ _ (Own _ _ [_]) _ _ ((2, pt_ p2) :: _) _ _ _
 refine Ll.box (v := vS b) rfl rfl rfl rfl rfl fun p3 hp3 => ?_
 show Ll _ _ (Own _ _ [_, _]) _ _ ((3, pt_ p3) :: _) _ _ _
 refine Ll.run 1 rfl ?_
 refine Ll.nil ?_
 refine Kt.sel [2, 3] [_, _] rfl ?_
 refine Wk.seq ?_
 refine Wk.regionQ ?_
 refine Lq.run 1 rfl ?_
 refine Lq.nil ?_
 refine Kt.sel [2, 3, 5] [_, _, _] rfl ?_
 refine Wk.seq ?_
 refine Wk.regionQ ?_
 refine Lq.op rfl rfl rfl (OpQ.loadBox (cs := #[i6_ a.n, str a.set, str a.rel]) 1 rfl Tryd.isAgg23 rfl rfl Tryd.sizeOf23) ?_
 refine Lq.run 1 rfl ?_
 refine Lq.op (v := i6_ (szB a 1048576)) rfl rfl rfl (OpQ.call rfl Tryd.call14 rfl Own.stable (fun w1 hw1 => sz_ok a 1048576 w1 (by omega) (by omega) h1a h2a)) ?_
 refine Lq.run 1 rfl ?_
 refine Lq.nil ?_
 refine Kt.sel [2, 3, 5] [_, _, _] rfl ?_
 refine Wk.seq ?_
 refine Wk.seq ?_
 refine Wk.regionQ ?_
 refine Lq.run 2 rfl ?_
 refine Lq.nil ?_
 refine Kt.sel [2, 3, 5, 16] [_, _, _, _] rfl ?_
 refine Wk.cond (b := decide ((szB a 1048576) < (0 : Int))) rfl (fun h16 => ?_) (fun h16 => ?_)
 ·
  replace h16 := of_decide_eq_true h16
  refine Wk.seq ?_
  refine Wk.regionQ ?_
  refine Lq.run 1 rfl ?_
  refine Lq.nil ?_
  refine Kt.sel [4] [_] rfl ?_
  refine Wk.ret (Kt.end1 rfl rfl fun w' hw => ?_)
  -- ret 0: bo_ true
  exact ⟨ret_b (by first | rfl | (simp_all; done) | (simp_all; omega)), hw.below⟩
 ·
  replace h16 := of_decide_eq_false h16
  obtain ⟨hsa, hz0a, hz1a⟩ := szB_small (by omega) h16
  refine Wk.skip ?_
  refine Kt.sel [2, 3, 5] [_, _, _] rfl ?_
  refine Wk.seq ?_
  refine Wk.regionQ ?_
  refine Lq.op rfl rfl rfl (OpQ.loadBox (cs := #[i6_ b.n, str b.set, str b.rel]) 0 rfl Tryd.isAgg23 rfl rfl Tryd.sizeOf23) ?_
  refine Lq.run 1 rfl ?_
  refine Lq.op (v := i6_ (szB b (szB a 1048576))) rfl rfl rfl (OpQ.call rfl Tryd.call14 rfl Own.stable (fun w1 hw1 => sz_ok b (szB a 1048576) w1 (by omega) (by omega) h1b h2b)) ?_
  refine Lq.run 1 rfl ?_
  refine Lq.nil ?_
  refine Kt.sel [2, 3, 5] [_, _, _] rfl ?_
  refine Wk.seq ?_
  refine Wk.seq ?_
  refine Wk.regionQ ?_
  refine Lq.run 2 rfl ?_
  refine Lq.nil ?_
  refine Kt.sel [2, 3, 21] [_, _, _] rfl ?_
  refine Wk.cond (b := decide ((szB b (szB a 1048576)) < (0 : Int))) rfl (fun h21 => ?_) (fun h21 => ?_)
  ·
   replace h21 := of_decide_eq_true h21
   refine Wk.seq ?_
   refine Wk.regionQ ?_
   refine Lq.run 1 rfl ?_
   refine Lq.nil ?_
   refine Kt.sel [4] [_] rfl ?_
   refine Wk.ret (Kt.end1 rfl rfl fun w' hw => ?_)
   -- ret 1: bo_ true
   exact ⟨ret_b (by first | rfl | (simp_all; done) | (simp_all; omega)), hw.below⟩
  ·
   replace h21 := of_decide_eq_false h21
   obtain ⟨hsb, hz0b, hz1b⟩ := szB_small (by omega) h21
   refine Wk.skip ?_
   refine Kt.sel [2, 3] [_, _] rfl ?_
   refine Wk.seq ?_
   refine Wk.regionD Base.mixed (fun _ h => h.drawn) (by kernel_rfl) ?_
   refine Lq.op rfl rfl rfl (OpQ.loadBox (cs := #[i6_ a.n, str a.set, str a.rel]) 1 rfl Tryd.isAgg23 rfl rfl Tryd.sizeOf23) ?_
   refine Lq.op (v := vS a) rfl rfl rfl (OpQ.call rfl Tryd.call16 rfl Own.stable (fun w1 hw1 => toSt_ok a w1 )) ?_
   refine Lq.op rfl rfl rfl (OpQ.loadBox (cs := #[i6_ b.n, str b.set, str b.rel]) 0 rfl Tryd.isAgg23 rfl rfl Tryd.sizeOf23) ?_
   refine Lq.op (v := vS b) rfl rfl rfl (OpQ.call rfl Tryd.call16 rfl Own.stable (fun w1 hw1 => toSt_ok b w1 )) ?_
   refine Lq.op (v := .tuple #[str ((sentO a b).1), i6_ ((sentO a b).2.1), bo_ ((sentO a b).2.2)]) rfl rfl rfl (OpQ.call rfl Tryd.call22 rfl Own.stable (fun w1 hw1 => sSent_ok a b w1 hsa hsb loa hia lob hib)) ?_
   refine Lq.run 1 rfl ?_
   refine Lq.op (v := str ((sentO a b).1)) rfl rfl rfl (OpQ.extract rfl rfl rfl) ?_
   refine Lq.op (v := i6_ ((sentO a b).2.1)) rfl rfl rfl (OpQ.extract rfl rfl rfl) ?_
   refine Lq.op (v := bo_ ((sentO a b).2.2)) rfl rfl rfl (OpQ.extract rfl rfl rfl) ?_
   refine Lq.run 3 rfl ?_
   refine Lq.nil ?_
   refine Kt.sel [2, 3, 6, 7, 8] [_, _, _, _, _] rfl ?_
   refine Wk.seq ?_
   refine Wk.regionD Base.mixed (fun _ h => h.drawn) (by kernel_rfl) ?_
   refine Lq.op rfl rfl rfl (OpQ.loadBox (cs := #[i6_ a.n, str a.set, str a.rel]) 1 rfl Tryd.isAgg23 rfl rfl Tryd.sizeOf23) ?_
   refine Lq.op (v := vS a) rfl rfl rfl (OpQ.call rfl Tryd.call16 rfl Own.stable (fun w1 hw1 => toSt_ok a w1 )) ?_
   refine Lq.op rfl rfl rfl (OpQ.loadBox (cs := #[i6_ b.n, str b.set, str b.rel]) 0 rfl Tryd.isAgg23 rfl rfl Tryd.sizeOf23) ?_
   refine Lq.op (v := vS b) rfl rfl rfl (OpQ.call rfl Tryd.call16 rfl Own.stable (fun w1 hw1 => toSt_ok b w1 )) ?_
   refine Lq.op (v := .tuple #[str ((sentO a b).1), i6_ ((sentO a b).2.1), bo_ ((sentO a b).2.2)]) rfl rfl rfl (OpQ.call rfl Tryd.call23 rfl Own.stable (fun w1 hw1 => iSent_ok a b w1 hsa hsb)) ?_
   refine Lq.run 1 rfl ?_
   refine Lq.op (v := str ((sentO a b).1)) rfl rfl rfl (OpQ.extract rfl rfl rfl) ?_
   refine Lq.op (v := i6_ ((sentO a b).2.1)) rfl rfl rfl (OpQ.extract rfl rfl rfl) ?_
   refine Lq.op (v := bo_ ((sentO a b).2.2)) rfl rfl rfl (OpQ.extract rfl rfl rfl) ?_
   refine Lq.run 3 rfl ?_
   refine Lq.nil ?_
   refine Kt.sel [6, 7, 8, 9, 10, 11] [_, _, _, _, _, _] rfl ?_
   refine Wk.seq ?_
   refine Wk.seq ?_
   refine Wk.regionQ ?_
   refine Lq.run 2 rfl ?_
   refine Lq.op rfl rfl rfl (OpQ.sneq rfl rfl rfl) ?_
   refine Lq.run 1 rfl ?_
   refine Lq.bool fun b43 hg43 => ?_
   cases b43
   ·
    replace hg43 := not_false hg43
    refine Lq.run 5 rfl ?_
    refine Lq.bool fun b48 hg48 => ?_
    cases b48
    ·
     replace hg48 := not_false hg48
     replace hg48 := of_decide_eq_true hg48
     refine Lq.run 2 rfl ?_
     refine Lq.op rfl rfl rfl (OpQ.bne rfl Tryd.runUnderlying4 rfl rfl) ?_
     refine Lq.run 1 rfl ?_
     refine Lq.nil ?_
     refine Kt.sel [52] [_] rfl ?_
     refine Wk.cond (b := ((sentO a b).2.2) != ((sentO a b).2.2)) rfl (fun h52 => ?_) (fun h52 => ?_)
     ·
      exact absurd h52 (by simp)
     ·
      refine Wk.skip ?_
      refine Kt.sel [] [] rfl ?_
      refine Wk.seq ?_
      refine Wk.regionQ ?_
      refine Lq.run 1 rfl ?_
      refine Lq.nil ?_
      refine Kt.sel [4] [_] rfl ?_
      refine Wk.ret (Kt.end1 rfl rfl fun w' hw => ?_)
      -- ret 2: bo_ true
      exact ⟨ret_b (by first | rfl | (simp_all; done) | (simp_all; omega)), hw.below⟩
    ·
     replace hg48 := not_true hg48
     replace hg48 := of_decide_eq_false hg48
     exact absurd rfl hg48
   ·
    replace hg43 := not_true hg43
    exact absurd hg43 (by simp)

end Go.Proofs.YtjcoijejhachhaaDoor
