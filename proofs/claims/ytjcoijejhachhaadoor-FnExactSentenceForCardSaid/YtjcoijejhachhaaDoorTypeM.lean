/-
  Walks: formulas of types.
-/
import Derived.Test.YtjcoijejhachhaaDoorFormM
import Derived.Test.YtjcoijejhachhaaDoorGamesM
import Derived.Test.YtjcoijejhachhaaDoorBase
namespace Go.Proofs.YtjcoijejhachhaaDoor
open Go.RowKit Go.Wk
set_option linter.unusedSimpArgs false

set_option maxHeartbeats 400000 in
/-- impl.typeFormula|zero -/
theorem tyf_zero (a : St) (va : Value) (xs : List Int) (w : World) (ha : a.Fine) (hva : Ints w va xs) (hA : a.Els xs) (hl4 : xs.length ≤ 4) :
    Calls Tryd.prog 45 [vS a, va, i6_ 0].toArray w fun en w' => en = .returned (.tuple #[str (optS (tyF a 0 xs)), .bool (tyF a 0 xs).isSome]) ∧ Below w.heap.size w w' := by
 refine fnStart (n := 83) (e := [(0, vS a), (1, va), (2, i6_ 0)]) Tryd.func45 rfl rfl rfl rfl Ends.both ?_
 have hfl := formB_len (a := a) hl4
 refine Wk.seq ?_
 refine Wk.region ?_
 refine Ll.box (v := vS a) rfl rfl rfl rfl rfl fun p3 hp3 => ?_
 show Ll _ _ (Own _ _ [_]) _ _ ((3, pt_ p3) :: _) _ _ _
 refine Ll.op (v := str ([])) rfl rfl rfl (OpQ.assign rfl rfl) ?_
 refine Ll.run 1 rfl ?_
 refine Ll.nil ?_
 refine Kt.sel [1, 2, 3] [_, _, _] rfl ?_
 refine Wk.seq ?_
 refine Wk.regionQ ?_
 refine Lq.op rfl rfl rfl (OpQ.loadBox (cs := #[i6_ a.n, str a.set, str a.rel]) 0 rfl Tryd.isAgg28 rfl rfl Tryd.sizeOf28) ?_
 refine Lq.run 1 rfl ?_
 refine Lq.op (v := str (formB a xs)) rfl rfl rfl (OpQ.call rfl Tryd.call89 rfl Own.stable (fun w1 hw1 => factsFormula_ok a va xs w1 ha (Row.own hva hw1) hA hl4)) ?_
 refine Lq.run 1 rfl ?_
 refine Lq.nil ?_
 refine Kt.sel [1, 2, 3, 8] [_, _, _, _] rfl ?_
 refine Wk.seq ?_
 refine Wk.seq ?_
 refine Wk.regionQ ?_
 refine Lq.run 2 rfl ?_
 refine Lq.nil ?_
 refine Kt.sel [1, 2, 3, 8, 21] [_, _, _, _, _] rfl ?_
 refine Wk.cond (b := decide ((0 : Int) = (0 : Int))) rfl (fun h21 => ?_) (fun h21 => ?_)
 ·
  replace h21 := of_decide_eq_true h21
  refine Wk.seq ?_
  refine Wk.regionQ ?_
  refine Lq.run 1 rfl ?_
  refine Lq.op (v := .tuple #[str (shortS (formB a xs)), bo_ (shortB (formB a xs))]) rfl rfl rfl (OpQ.call rfl Tryd.call90 rfl Own.stable (fun w1 hw1 => shortG_ok (formB a xs) w1 (by omega))) ?_
  refine Lq.op (v := str (shortS (formB a xs))) rfl rfl rfl (OpQ.extract rfl rfl rfl) ?_
  refine Lq.op (v := bo_ (shortB (formB a xs))) rfl rfl rfl (OpQ.extract rfl rfl rfl) ?_
  refine Lq.run 2 rfl ?_
  refine Lq.nil ?_
  refine Kt.sel [6, 7] [_, _] rfl ?_
  refine Wk.ret (Kt.end2 rfl rfl rfl fun w' hw => ?_)
  -- ret 0: str (shortS (formB a xs)); bo_ (shortB (formB a xs))
  exact ⟨by rw [shortS_of hfl]; unfold shortB; rw [decide_eq_true hfl]; rfl, hw.below⟩
 ·
  replace h21 := of_decide_eq_false h21
  exact absurd rfl h21

set_option maxHeartbeats 400000 in
/-- impl.typeFormula -/
theorem tyf_of (n : Nat) (a : St) (ih : ∀ (xs : List Int) (va : Value) (w : World), Ints w va xs → a.Els xs → xs.length + n ≤ 4 → Calls Tryd.prog 45 #[vS a, va, .int .i64 (n : Int)] w fun en w' => en = .returned (.tuple #[str (optS (tyF a n xs)), .bool (tyF a n xs).isSome]) ∧ Below w.heap.size w w') (va : Value) (xs : List Int) (w : World) (ha : a.Fine) (hva : Ints w va xs) (hA : a.Els xs) (hl5 : xs.length + (n + 1) ≤ 4) :
    Calls Tryd.prog 45 [vS a, va, i6_ ((n : Int) + 1)].toArray w fun en w' => en = .returned (.tuple #[str (optS (tyF a (n + 1) xs)), .bool (tyF a (n + 1) xs).isSome]) ∧ Below w.heap.size w w' := by
 refine fnStart (n := 83) (e := [(0, vS a), (1, va), (2, i6_ ((n : Int) + 1))]) Tryd.func45 rfl rfl rfl rfl Ends.both ?_
 have hl4 : xs.length ≤ 4 := by omega
 have hfl := formB_len (a := a) hl4
 have hm8 := ha.hi
 have hm1 := ha.lo
 have hv1 : (nameS xs.length).length = 1 := nameS_length (by omega)
 refine Wk.seq ?_
 refine Wk.region ?_
 refine Ll.box (v := vS a) rfl rfl rfl rfl rfl fun p3 hp3 => ?_
 show Ll _ _ (Own _ _ [_]) _ _ ((3, pt_ p3) :: _) _ _ _
 refine Ll.op (v := str ([])) rfl rfl rfl (OpQ.assign rfl rfl) ?_
 refine Ll.run 1 rfl ?_
 refine Ll.nil ?_
 refine Kt.sel [1, 2, 3] [_, _, _] rfl ?_
 refine Wk.seq ?_
 refine Wk.regionQ ?_
 refine Lq.op rfl rfl rfl (OpQ.loadBox (cs := #[i6_ a.n, str a.set, str a.rel]) 0 rfl Tryd.isAgg28 rfl rfl Tryd.sizeOf28) ?_
 refine Lq.run 1 rfl ?_
 refine Lq.op (v := str (formB a xs)) rfl rfl rfl (OpQ.call rfl Tryd.call89 rfl Own.stable (fun w1 hw1 => factsFormula_ok a va xs w1 ha (Row.own hva hw1) hA hl4)) ?_
 refine Lq.run 1 rfl ?_
 refine Lq.nil ?_
 refine Kt.sel [1, 2, 3, 8] [_, _, _, _] rfl ?_
 refine Wk.seq ?_
 refine Wk.seq ?_
 refine Wk.regionQ ?_
 refine Lq.run 2 rfl ?_
 refine Lq.nil ?_
 refine Kt.sel [1, 2, 3, 8, 21] [_, _, _, _, _] rfl ?_
 refine Wk.cond (b := decide (((n : Int) + 1) = (0 : Int))) rfl (fun h21 => ?_) (fun h21 => ?_)
 ·
  replace h21 := of_decide_eq_true h21
  omega
 ·
  replace h21 := of_decide_eq_false h21
  refine Wk.skip ?_
  refine Kt.sel [1, 2, 3, 8] [_, _, _, _] rfl ?_
  refine Wk.seq ?_
  refine Wk.region ?_
  refine Ll.slice (xs := []) (vs := []) Base.elem91 rfl rfl rfl rfl rfl rfl (by decide) rfl fun p26 hp26 => ?_
  refine Ll.run 1 rfl ?_
  refine Ll.nil ?_
  refine Kt.sel [1, 2, 3, 8, 9] [_, _, _, _, _] rfl ?_
  refine Wk.seq ?_
  refine Wk.seq ?_
  refine Wk.regionQ ?_
  refine Lq.op rfl rfl rfl (OpQ.fieldAddr rfl Tryd.runUnderlying28 rfl Tryd.sizeOf3 rfl rfl) ?_
  refine Lq.op rfl rfl rfl (OpQ.loadOwn 1 rfl Tryd.isAgg3 rfl rfl rfl) ?_
  refine Lq.run 1 rfl ?_
  refine Lq.nil ?_
  refine Kt.sel [1, 2, 3, 8, 9, 28, 29] [_, _, _, _, _, _, _] rfl ?_
  refine Wk.block ?_
  refine Wk.loop (σ := Nat × Nat × Nat × Array Value × List (List UInt8)) (fun ⟨k, g, c, cur, fs⟩ => (k : Int) ≤ a.n ∧ allS (fun x : Nat => tyF a n (xs ++ [(x : Int)])) k = some fs ∧ cur.size = c * 1 ∧ fs.length ≤ c ∧ cur.toList.take fs.length = strs fs) (fun ⟨k, g, c, cur, fs⟩ => [(1, va), (2, i6_ ((n : Int) + 1)), (3, pt_ p3), (8, str (formB a xs)), (9, sl_ g fs.length c), (28, i6_ a.n), (29, i6_ ((k : Int)))]) (fun ⟨k, g, c, cur, fs⟩ => Own w.heap.size w [bk_ g cur 9, bk_ p3 #[i6_ a.n, str a.set, str a.rel] 28]) (fun ⟨k, g, c, cur, fs⟩ => (a.n - k).toNat) ((0, p26, 0, #[], [])) ⟨by omega, rfl, rfl, Nat.le_refl 0, rfl⟩ (Sub.sel [1, 2, 3, 8, 9, 28, 29] rfl) (fun _ h => h) ?_
  rintro ⟨k, g, c, cur, fs⟩ ⟨hk, hall, hc, hl, ht⟩
  dsimp only
  have hfn := allS_len hall
  refine Wk.seq ?_
  refine Wk.regionQ ?_
  refine Lq.run 1 rfl ?_
  refine Lq.nil ?_
  refine Kt.sel [1, 2, 3, 8, 9, 28, 29, 30] [_, _, _, _, _, _, _, _] rfl ?_
  refine Wk.seq ?_
  refine Wk.cond (b := decide (((k : Int)) < a.n)) rfl (fun h30 => ?_) (fun h30 => ?_)
  ·
   replace h30 := of_decide_eq_true h30
   have hx : a.El k := ⟨by omega, by omega⟩
   refine Wk.skip ?_
   refine Kt.sel [1, 2, 3, 8, 9, 28, 29] [_, _, _, _, _, _, _] rfl ?_
   refine Wk.seq ?_
   refine Wk.block ?_
   refine Wk.seq ?_
   refine Wk.regionQ ?_
   refine Lq.run 2 rfl ?_
   refine Lq.nil ?_
   refine Kt.sel [1, 2, 3, 8, 9, 10, 28, 29] [_, _, _, _, _, _, _, _] rfl ?_
   refine Wk.seq ?_
   refine Wk.regionO [(0, true), (1, true), (2, true), (4, true), (5, true), (3, false), (6, false), (7, true), (8, true), (9, true), (10, true), (11, true)] Base.mixed (fun _ h => h.drawn) (by kernel_rfl) ?_
   refine Ld.take rfl rfl rfl rfl rfl (OpQ.loadBox (cs := #[i6_ a.n, str a.set, str a.rel]) 1 rfl Tryd.isAgg28 rfl rfl Tryd.sizeOf28) (fun _ h => h) ?_
   refine Ld.run 3 rfl (fun _ h => h) ?_
   refine Ld.take (v := i6_ ((n : Int))) rfl rfl rfl rfl rfl (OpQ.cast (by congr 1; omega) (OpQ.sub rfl rfl rfl (by omega) (by omega))) (fun _ h => h) ?_
   refine Ld.loud rfl ?_
   refine Ll.callRow (xs := [.tmp 34, .tmp 35]) (m := (xs ++ [(k : Int)]).length) (vs := ints (xs ++ [(k : Int)])) (el := 3) (size := 1) rfl rfl rfl rfl Tryd.call91 rfl (fun w1 hw1 => with_ok va xs ((k : Int)) w1 (Row.own hva hw1) (by omega)) fun p36 cap36 cur36 hp36 hcp36 hlp36 htp36 => ?_
   refine Ll.nil (Ld.joint (fun _ h => h.tail) ?_)
   refine Ld.loud rfl ?_
   refine Ll.op (v := .tuple #[str (optS (tyF a n (xs ++ [(k : Int)]))), bo_ ((tyF a n (xs ++ [(k : Int)])).isSome)]) rfl rfl rfl (OpQ.call rfl Tryd.call45 rfl Own.stable (fun w1 hw1 => ih (xs ++ [(k : Int)]) (sl_ p36 ((xs ++ [(k : Int)]).length) cap36) w1 (Own.row hw1 (i := 0) rfl (by simpa using htp36) (by simp) hlp36) (els_more hA hx) (by rw [List.length_append, List.length_singleton]; omega))) ?_
   refine Ll.nil (Ld.joint (fun _ h => h.tail) ?_)
   refine Ld.run 1 rfl (fun _ h => h.tail) ?_
   refine Ld.take (v := str (optS (tyF a n (xs ++ [(k : Int)])))) rfl rfl rfl rfl rfl (OpQ.extract rfl rfl rfl) (fun _ h => h.tail) ?_
   refine Ld.take (v := bo_ ((tyF a n (xs ++ [(k : Int)])).isSome)) rfl rfl rfl rfl rfl (OpQ.extract rfl rfl rfl) (fun _ h => h.tail) ?_
   refine Ld.run 2 rfl (fun _ h => h.tail) ?_
   refine Ld.nil ?_
   refine Kt.sel [1, 2, 3, 8, 9, 11, 12, 28, 29] [_, _, _, _, _, _, _, _, _] rfl ?_
   refine Wk.seq ?_
   refine Wk.seq ?_
   refine Wk.regionQ ?_
   refine Lq.run 2 rfl ?_
   refine Lq.nil ?_
   refine Kt.sel [1, 2, 3, 8, 9, 11, 28, 29, 43] [_, _, _, _, _, _, _, _, _] rfl ?_
   refine Wk.cond (b := !((tyF a n (xs ++ [(k : Int)])).isSome)) rfl (fun h43 => ?_) (fun h43 => ?_)
   ·
    replace h43 := not_true h43
    have hno : tyF a n (xs ++ [(k : Int)]) = none := none_of (by simpa using h43)
    refine Wk.seq ?_
    refine Wk.regionQ ?_
    refine Lq.op (v := str ([])) rfl rfl rfl (OpQ.assign rfl rfl) ?_
    refine Lq.run 1 rfl ?_
    refine Lq.nil ?_
    refine Kt.sel [6, 7] [_, _] rfl ?_
    refine Wk.ret (Kt.end2 rfl rfl rfl fun w' hw => ?_)
    -- ret 0: str ([]); bo_ false
    exact ⟨by rw [tyF_none (by omega) hno]; rfl, hw.below⟩
   ·
    replace h43 := not_false h43
    have hyes : (fun x : Nat => tyF a n (xs ++ [(x : Int)])) k = some (optS (tyF a n (xs ++ [(k : Int)]))) := optS_some (by simpa using h43)
    refine Wk.skip ?_
    refine Kt.sel [1, 2, 3, 8, 9, 11, 28, 29] [_, _, _, _, _, _, _, _] rfl ?_
    refine Wk.region ?_
    refine Ll.run 2 rfl ?_
    refine Ll.slice (xs := [.tmp 45]) (vs := [str (optS (tyF a n (xs ++ [(k : Int)])))]) Base.elem91 rfl rfl rfl rfl rfl rfl (by decide) rfl fun p46 hp46 => ?_
    refine Ll.appendStrs (xs := fs) (ys := ([optS (tyF a n (xs ++ [(k : Int)]))] : List (List UInt8))) Base.elem91 2 rfl rfl rfl rfl rfl rfl rfl hc hl ht (fun w1 hw1 => (Own.row hw1 (i := 0) rfl (n := 1) (cap := 1) (vs := strs ([optS (tyF a n (xs ++ [(k : Int)]))] : List (List UInt8))) rfl rfl (by decide))) ((fs ++ (([optS (tyF a n (xs ++ [(k : Int)]))] : List (List UInt8)))).length) (by first | (simp; done) | (simp; omega)) (by first | (simp; done) | (simp; omega) | omega) fun p47 cap47 cur47 hp47 hcp47 hlp47 htp47 => ?_
    show Ll _ _ (Own _ _ [_, _, _, _]) _ _ ((47, sl_ p47 (((fs ++ (([optS (tyF a n (xs ++ [(k : Int)]))] : List (List UInt8)))).length)) cap47) :: _) _ _ _
    refine Ll.run 1 rfl ?_
    refine Ll.nil ?_
    refine Kt.sel [1, 2, 3, 8, 9, 28, 29] [_, _, _, _, _, _, _] rfl ?_
    refine Wk.regionQ ?_
    refine Lq.op rfl rfl rfl (OpQ.add rfl rfl rfl (by omega) (by omega)) ?_
    refine Lq.run 1 rfl ?_
    refine Lq.nil ?_
    refine Kt.again ((k + 1, p47, cap47, cur47, fs ++ (([optS (tyF a n (xs ++ [(k : Int)]))] : List (List UInt8))))) ⟨by omega, allS_yes hall hyes, by simpa using hcp47, hlp47, by simpa only [Nat.mul_one] using htp47⟩ (by omega) (Sub.sel [1, 2, 3, 8, 9, 28, 29] rfl) (fun _ h => h.sub (List.Sublist.cons _ (List.Sublist.cons _ (List.Sublist.cons_cons _ (List.Sublist.cons_cons _ (List.Sublist.refl _))))))
  ·
   replace h30 := of_decide_eq_false h30
   obtain rfl : k = a.n.toNat := by omega
   obtain ⟨hp4, hpn, hpf⟩ := parts_len (by omega) hall
   have hp0 : (dedup fs).length ≠ 0 := dedup_pos (by omega)
   have hta := typeAll_len (f := formB a xs) (v := nameS xs.length) hfl (by omega) hp4 (by omega) hp0
   have htn := typeAll_count (formB a xs) (nameS xs.length) (dedup fs)
   have hj1 := joinN_len (op := [124]) (by decide) hp4 hp0
   have hj2_ := joinN_len (op := [38]) (by decide) hta (by omega)
   refine Wk.exit rfl ?_
   refine Kt.sel [1, 8, 9] [_, _, _] rfl ?_
   refine Wk.seq ?_
   refine Wk.region ?_
   refine Ll.run 1 rfl ?_
   refine Ll.callRow (xs := [.tmp 49]) (m := (dedup fs).length) (vs := strs (dedup fs)) (el := 9) (size := 1) rfl rfl rfl rfl Tryd.call92 rfl (fun w1 hw1 => withoutEqual_ok (sl_ g fs.length c) fs w1 (Own.row hw1 (i := 0) rfl ht (by simp) hl) (by omega)) fun p50 cap50 cur50 hp50 hcp50 hlp50 htp50 => ?_
   refine Ll.run 1 rfl ?_
   refine Ll.nil ?_
   refine Kt.sel [1, 8, 9] [_, _, _] rfl ?_
   refine Wk.seq ?_
   refine Wk.regionQ ?_
   refine Lq.run 1 rfl ?_
   refine Lq.op (v := i6_ ((xs.length : Int))) rfl rfl rfl (OpQ.lenRow rfl Tryd.runUnderlying24 rfl (ints_length _) (fun w1 hw1 => Row.own hva hw1)) ?_
   refine Lq.op (v := str (nameS xs.length)) rfl rfl rfl (OpQ.call rfl Tryd.call93 rfl Own.stable (fun w1 hw1 => nameOf_ok xs.length w1 (by omega))) ?_
   refine Lq.run 1 rfl ?_
   refine Lq.nil ?_
   refine Kt.sel [8, 9, 13] [_, _, _] rfl ?_
   refine Wk.seq ?_
   refine Wk.region ?_
   refine Ll.run 1 rfl ?_
   refine Ll.slice (xs := [.tmp 54]) (vs := [str (formB a xs)]) Base.elem91 rfl rfl rfl rfl rfl rfl (by decide) rfl fun p55 hp55 => ?_
   refine Ll.run 1 rfl ?_
   refine Ll.nil ?_
   refine Kt.sel [9, 13, 14] [_, _, _] rfl ?_
   refine Wk.seq ?_
   refine Wk.seq ?_
   refine Wk.regionQ ?_
   refine Lq.run 1 rfl ?_
   refine Lq.op rfl rfl rfl (OpQ.lenS rfl Tryd.runUnderlying91 rfl) ?_
   refine Lq.run 1 rfl ?_
   refine Lq.nil ?_
   refine Kt.sel [9, 13, 14, 56, 57, 58] [_, _, _, _, _, _] rfl ?_
   refine Wk.block ?_
   refine Wk.loop (σ := Nat × Nat × Nat × Array Value) (fun ⟨j, g2, c2, cur2⟩ => j ≤ (dedup fs).length ∧ cur2.size = c2 * 1 ∧ ([formB a xs] ++ ((dedup fs).take j).map (somePart (nameS xs.length))).length ≤ c2 ∧ cur2.toList.take ([formB a xs] ++ ((dedup fs).take j).map (somePart (nameS xs.length))).length = strs ([formB a xs] ++ ((dedup fs).take j).map (somePart (nameS xs.length)))) (fun ⟨j, g2, c2, cur2⟩ => [(9, sl_ p50 ((dedup fs).length) cap50), (13, str (nameS xs.length)), (14, sl_ g2 (([formB a xs] ++ ((dedup fs).take j).map (somePart (nameS xs.length))).length) c2), (56, sl_ p50 ((dedup fs).length) cap50), (57, i6_ (((dedup fs).length : Int))), (58, i6_ ((j : Int)))]) (fun ⟨j, g2, c2, cur2⟩ => Own w.heap.size w [bk_ g2 cur2 9, bk_ p50 cur50 9, bk_ g cur 9, bk_ p3 #[i6_ a.n, str a.set, str a.rel] 28]) (fun ⟨j, g2, c2, cur2⟩ => (dedup fs).length - j) ((0, p55, 1, #[str (formB a xs)])) ⟨by omega, rfl, Nat.le_refl 1, rfl⟩ (Sub.sel [9, 13, 14, 56, 57, 58] rfl) (fun _ h => h) ?_
   rintro ⟨j, g2, c2, cur2⟩ ⟨hj, hc2, hl2, ht2⟩
   dsimp only
   refine Wk.seq ?_
   refine Wk.regionQ ?_
   refine Lq.run 1 rfl ?_
   refine Lq.nil ?_
   refine Kt.sel [9, 13, 14, 56, 57, 58, 59] [_, _, _, _, _, _, _] rfl ?_
   refine Wk.seq ?_
   refine Wk.cond (b := decide (((j : Int)) < (((dedup fs).length : Int)))) rfl (fun h59 => ?_) (fun h59 => ?_)
   ·
    replace h59 := of_decide_eq_true h59
    have hj2 : j < (dedup fs).length := by omega
    have hj4 := getM_len hp4 j
    refine Wk.skip ?_
    refine Kt.sel [9, 13, 14, 56, 57, 58] [_, _, _, _, _, _] rfl ?_
    refine Wk.seq ?_
    refine Wk.block ?_
    refine Wk.seq ?_
    refine Wk.regionQ ?_
    refine Lq.op (v := pf_ p50 (((j : Int)).toNat)) rfl rfl rfl (OpQ.cast (by rw [Nat.zero_add]) (OpQ.indexAddr1 (i := (j : Int)) rfl Tryd.runUnderlying91 Tryd.sizeOf9 rfl rfl (by omega) (by omega))) ?_
    refine Lq.op (v := str ((dedup fs).getD (((j : Int)).toNat) [])) rfl rfl rfl (OpQ.loadAt 1 rfl Tryd.isAgg9 rfl rfl (cur_at (by simpa using htp50) (strs_at (c := dedup fs) (off := ((j : Int)).toNat) (by first | (simp; done) | (simp; omega) | omega)))) ?_
    refine Lq.run 1 rfl ?_
    refine Lq.nil ?_
    refine Kt.sel [9, 13, 14, 16, 56, 57, 58] [_, _, _, _, _, _, _] rfl ?_
    refine Wk.region ?_
    refine Ll.run 2 rfl ?_
    refine Ll.op rfl rfl rfl (OpQ.sadd rfl rfl rfl (by first | omega | (simp only [List.length_append, List.length_cons, List.length_nil]; omega))) ?_
    refine Ll.run 1 rfl ?_
    refine Ll.op rfl rfl rfl (OpQ.sadd rfl rfl rfl (by simp only [List.length_append, List.length_cons, List.length_nil, Int.toNat_natCast]; omega)) ?_
    refine Ll.slice (xs := [.tmp 66]) (vs := [str ((([83]) ++ (nameS xs.length)) ++ ((dedup fs).getD (((j : Int)).toNat) []))]) Base.elem91 rfl rfl rfl rfl rfl rfl (by decide) rfl fun p67 hp67 => ?_
    refine Ll.appendStrs (xs := ([formB a xs] ++ ((dedup fs).take j).map (somePart (nameS xs.length)))) (ys := ([(([83]) ++ (nameS xs.length)) ++ ((dedup fs).getD (((j : Int)).toNat) [])] : List (List UInt8))) Base.elem91 1 rfl rfl rfl rfl rfl rfl rfl hc2 hl2 ht2 (fun w1 hw1 => (Own.row hw1 (i := 0) rfl (n := 1) (cap := 1) (vs := strs ([(([83]) ++ (nameS xs.length)) ++ ((dedup fs).getD (((j : Int)).toNat) [])] : List (List UInt8))) rfl rfl (by decide))) (((([formB a xs] ++ ((dedup fs).take j).map (somePart (nameS xs.length)))) ++ (([(([83]) ++ (nameS xs.length)) ++ ((dedup fs).getD (((j : Int)).toNat) [])] : List (List UInt8)))).length) (by first | (simp; done) | (simp; omega)) (by first | (simp; done) | (simp; omega) | omega) fun p68 cap68 cur68 hp68 hcp68 hlp68 htp68 => ?_
    show Ll _ _ (Own _ _ [_, _, _, _, _]) _ _ ((68, sl_ p68 ((((([formB a xs] ++ ((dedup fs).take j).map (somePart (nameS xs.length)))) ++ (([(([83]) ++ (nameS xs.length)) ++ ((dedup fs).getD (((j : Int)).toNat) [])] : List (List UInt8)))).length)) cap68) :: _) _ _ _
    refine Ll.run 1 rfl ?_
    refine Ll.nil ?_
    refine Kt.sel [9, 13, 14, 56, 57, 58] [_, _, _, _, _, _] rfl ?_
    refine Wk.regionQ ?_
    refine Lq.op rfl rfl rfl (OpQ.add rfl rfl rfl (by omega) (by omega)) ?_
    refine Lq.run 1 rfl ?_
    refine Lq.nil ?_
    refine Kt.again ((j + 1, p68, cap68, cur68)) ⟨by omega, by simpa using hcp68, by rw [some_step hj2]; exact hlp68, by rw [some_step hj2]; simpa only [Nat.mul_one, Int.toNat_natCast] using htp68⟩ (by omega) (Sub.cons rfl (Sub.cons rfl (Sub.cons (by rw [some_step hj2]; rfl) (Sub.sel [56, 57, 58] rfl)))) (fun _ h => h.tail)
   ·
    replace h59 := of_decide_eq_false h59
    have hje : j = (dedup fs).length := by omega
    have hTA : ([formB a xs] ++ ((dedup fs).take j).map (somePart (nameS xs.length))) ++ [([65] ++ nameS xs.length) ++ joinN [124] (dedup fs)] = typeAll (formB a xs) (nameS xs.length) (dedup fs) := by
     rw [hje, List.take_length]; rfl
    have hj2b : (joinN [38] (typeAll (formB a xs) (nameS xs.length) (dedup fs))).length ≤ 40001 * 10 := Nat.le_trans hj2_ (Nat.mul_le_mul_left _ (by omega))
    refine Wk.exit rfl ?_
    refine Kt.sel [9, 13, 14] [_, _, _] rfl ?_
    refine Wk.seq ?_
    refine Wk.region ?_
    refine Ll.run 2 rfl ?_
    refine Ll.op rfl rfl rfl (OpQ.sadd rfl rfl rfl (by first | omega | (simp only [List.length_append, List.length_cons, List.length_nil]; omega))) ?_
    refine Ll.run 1 rfl ?_
    refine Ll.op (v := str (joinN ([124]) (dedup fs))) rfl rfl rfl (OpQ.call rfl Tryd.call94 rfl Own.stable (fun w1 hw1 => joinedM_ok ([124]) (dedup fs) (sl_ p50 ((dedup fs).length) cap50) 4000 w1 (Own.row hw1 (i := 1) rfl (by simpa using htp50) (by simp) hlp50) hp4 (by decide) (by decide) (by omega) hp0)) ?_
    refine Ll.op rfl rfl rfl (OpQ.sadd rfl rfl rfl (by first | omega | (simp only [List.length_append, List.length_cons, List.length_nil]; omega))) ?_
    refine Ll.slice (xs := [.tmp 75]) (vs := [str ((([65]) ++ (nameS xs.length)) ++ (joinN ([124]) (dedup fs)))]) Base.elem91 rfl rfl rfl rfl rfl rfl (by decide) rfl fun p76 hp76 => ?_
    refine Ll.appendStrs (xs := ([formB a xs] ++ ((dedup fs).take j).map (somePart (nameS xs.length)))) (ys := ([(([65]) ++ (nameS xs.length)) ++ (joinN ([124]) (dedup fs))] : List (List UInt8))) Base.elem91 1 rfl rfl rfl rfl rfl rfl rfl hc2 hl2 ht2 (fun w1 hw1 => (Own.row hw1 (i := 0) rfl (n := 1) (cap := 1) (vs := strs ([(([65]) ++ (nameS xs.length)) ++ (joinN ([124]) (dedup fs))] : List (List UInt8))) rfl rfl (by decide))) (((([formB a xs] ++ ((dedup fs).take j).map (somePart (nameS xs.length)))) ++ (([(([65]) ++ (nameS xs.length)) ++ (joinN ([124]) (dedup fs))] : List (List UInt8)))).length) (by first | (simp; done) | (simp; omega)) (by first | (simp; done) | (simp; omega) | omega) fun p77 cap77 cur77 hp77 hcp77 hlp77 htp77 => ?_
    show Ll _ _ (Own _ _ [_, _, _, _, _]) _ _ ((77, sl_ p77 ((((([formB a xs] ++ ((dedup fs).take j).map (somePart (nameS xs.length)))) ++ (([(([65]) ++ (nameS xs.length)) ++ (joinN ([124]) (dedup fs))] : List (List UInt8)))).length)) cap77) :: _) _ _ _
    refine Ll.run 1 rfl ?_
    refine Ll.nil ?_
    refine Kt.sel [14] [_] rfl ?_
    refine Wk.seq ?_
    refine Wk.regionQ ?_
    refine Lq.run 1 rfl ?_
    refine Lq.op (v := str (joinN ([38]) ((([formB a xs] ++ ((dedup fs).take j).map (somePart (nameS xs.length)))) ++ (([(([65]) ++ (nameS xs.length)) ++ (joinN ([124]) (dedup fs))] : List (List UInt8)))))) rfl rfl rfl (OpQ.call rfl Tryd.call94 rfl Own.stable (fun w1 hw1 => joinedM_ok ([38]) ((([formB a xs] ++ ((dedup fs).take j).map (somePart (nameS xs.length)))) ++ (([(([65]) ++ (nameS xs.length)) ++ (joinN ([124]) (dedup fs))] : List (List UInt8)))) (sl_ p77 ((((([formB a xs] ++ ((dedup fs).take j).map (somePart (nameS xs.length)))) ++ (([(([65]) ++ (nameS xs.length)) ++ (joinN ([124]) (dedup fs))] : List (List UInt8)))).length)) cap77) 40000 w1 (Own.row hw1 (i := 1) rfl (by simpa using htp77) (by simp) hlp77) (by rw [hTA]; exact hta) (by decide) (by decide) (by rw [hTA, htn]; omega) (by rw [hTA, htn]; omega))) ?_
    refine Lq.op (v := .tuple #[str (shortS (joinN ([38]) ((([formB a xs] ++ ((dedup fs).take j).map (somePart (nameS xs.length)))) ++ (([(([65]) ++ (nameS xs.length)) ++ (joinN ([124]) (dedup fs))] : List (List UInt8)))))), bo_ (shortB (joinN ([38]) ((([formB a xs] ++ ((dedup fs).take j).map (somePart (nameS xs.length)))) ++ (([(([65]) ++ (nameS xs.length)) ++ (joinN ([124]) (dedup fs))] : List (List UInt8))))))]) rfl rfl rfl (OpQ.call rfl Tryd.call90 rfl Own.stable (fun w1 hw1 => shortG_ok (joinN ([38]) ((([formB a xs] ++ ((dedup fs).take j).map (somePart (nameS xs.length)))) ++ (([(([65]) ++ (nameS xs.length)) ++ (joinN ([124]) (dedup fs))] : List (List UInt8))))) w1 (by rw [hTA]; omega))) ?_
    refine Lq.op (v := str (shortS (joinN ([38]) ((([formB a xs] ++ ((dedup fs).take j).map (somePart (nameS xs.length)))) ++ (([(([65]) ++ (nameS xs.length)) ++ (joinN ([124]) (dedup fs))] : List (List UInt8))))))) rfl rfl rfl (OpQ.extract rfl rfl rfl) ?_
    refine Lq.op (v := bo_ (shortB (joinN ([38]) ((([formB a xs] ++ ((dedup fs).take j).map (somePart (nameS xs.length)))) ++ (([(([65]) ++ (nameS xs.length)) ++ (joinN ([124]) (dedup fs))] : List (List UInt8))))))) rfl rfl rfl (OpQ.extract rfl rfl rfl) ?_
    refine Lq.run 2 rfl ?_
    refine Lq.nil ?_
    refine Kt.sel [6, 7] [_, _] rfl ?_
    refine Wk.ret (Kt.end2 rfl rfl rfl fun w' hw => ?_)
    -- ret 1: str (shortS (joinN ([38]) ((([formB a xs] ++ ((dedup fs).take j).map (somePart (nameS xs.length)))) ++ (([(([65]) ++ (nameS xs.length)) ++ (joinN ([124]) (dedup fs))] : List (List UInt8)))))); bo_ (shortB (joinN ([38]) ((([formB a xs] ++ ((dedup fs).take j).map (somePart (nameS xs.length)))) ++ (([(([65]) ++ (nameS xs.length)) ++ (joinN ([124]) (dedup fs))] : List (List UInt8))))))
    have hS := short_ty (tyF_some hall)
    exact ⟨by rw [hTA, ← hS.1, ← hS.2]; rfl, hw.below⟩

set_option maxHeartbeats 400000 in
/-- spec.l6Type|zero -/
theorem tys_zero (a : St) (va : Value) (xs : List Int) (w : World) (ha : a.Fine) (hva : Ints w va xs) (hA : a.Els xs) (hl4 : xs.length ≤ 4) :
    Calls Tryd.prog 43 [vS a, va, i6_ 0].toArray w fun en w' => en = .returned (.tuple #[str (tySp a 0 xs).1, .bool (tySp a 0 xs).2]) ∧ Below w.heap.size w w' := by
 refine fnStart (n := 85) (e := [(0, vS a), (1, va), (2, i6_ 0)]) Tryd.func43 rfl rfl rfl rfl Ends.both ?_
 refine Wk.seq ?_
 refine Wk.region ?_
 refine Ll.box (v := vS a) rfl rfl rfl rfl rfl fun p3 hp3 => ?_
 show Ll _ _ (Own _ _ [_]) _ _ ((3, pt_ p3) :: _) _ _ _
 refine Ll.op (v := str ([])) rfl rfl rfl (OpQ.assign rfl rfl) ?_
 refine Ll.run 1 rfl ?_
 refine Ll.nil ?_
 refine Kt.sel [1, 2, 3] [_, _, _] rfl ?_
 refine Wk.seq ?_
 refine Wk.region ?_
 refine Ll.op rfl rfl rfl (OpQ.loadBox (cs := #[i6_ a.n, str a.set, str a.rel]) 0 rfl Tryd.isAgg28 rfl rfl Tryd.sizeOf28) ?_
 refine Ll.run 1 rfl ?_
 refine Ll.op (v := str (formB a xs)) rfl rfl rfl (OpQ.call rfl Tryd.call84 rfl Own.stable (fun w1 hw1 => l3Describe_ok a va xs w1 ha (Row.own hva hw1) hA hl4)) ?_
 refine Ll.slice (xs := [.tmp 18]) (vs := [str (formB a xs)]) Base.elem91 rfl rfl rfl rfl rfl rfl (by decide) rfl fun p19 hp19 => ?_
 refine Ll.run 1 rfl ?_
 refine Ll.nil ?_
 refine Kt.sel [1, 2, 3, 8] [_, _, _, _] rfl ?_
 refine Wk.seq ?_
 refine Wk.seq ?_
 refine Wk.regionQ ?_
 refine Lq.run 2 rfl ?_
 refine Lq.nil ?_
 refine Kt.sel [1, 2, 3, 8, 21] [_, _, _, _, _] rfl ?_
 refine Wk.cond (b := decide ((0 : Int) = (0 : Int))) rfl (fun h21 => ?_) (fun h21 => ?_)
 ·
  replace h21 := of_decide_eq_true h21
  refine Wk.seq ?_
  refine Wk.regionQ ?_
  refine Lq.run 1 rfl ?_
  refine Lq.op (v := pt_ p19) rfl rfl rfl (OpQ.cast rfl (OpQ.indexAddr1 (i := 0) rfl Tryd.runUnderlying91 Tryd.sizeOf9 rfl rfl (by decide) (by decide))) ?_
  refine Lq.op rfl rfl rfl (OpQ.loadOwn 0 rfl Tryd.isAgg9 rfl rfl rfl) ?_
  refine Lq.run 2 rfl ?_
  refine Lq.nil ?_
  refine Kt.sel [6, 7] [_, _] rfl ?_
  refine Wk.ret (Kt.end2 rfl rfl rfl fun w' hw => ?_)
  -- ret 0: str (formB a xs); bo_ true
  exact ⟨rfl, hw.below⟩
 ·
  replace h21 := of_decide_eq_false h21
  exact absurd rfl h21

set_option maxHeartbeats 400000 in
/-- spec.l6Type -/
theorem tys_of (n : Nat) (a : St) (ih : ∀ (xs : List Int) (va : Value) (w : World), Ints w va xs → a.Els xs → xs.length + n ≤ 4 → Calls Tryd.prog 43 #[vS a, va, .int .i64 (n : Int)] w fun en w' => en = .returned (.tuple #[str (tySp a n xs).1, .bool (tySp a n xs).2]) ∧ Below w.heap.size w w') (va : Value) (xs : List Int) (w : World) (ha : a.Fine) (hva : Ints w va xs) (hA : a.Els xs) (hl5 : xs.length + (n + 1) ≤ 4) :
    Calls Tryd.prog 43 [vS a, va, i6_ ((n : Int) + 1)].toArray w fun en w' => en = .returned (.tuple #[str (tySp a (n + 1) xs).1, .bool (tySp a (n + 1) xs).2]) ∧ Below w.heap.size w w' := by
 refine fnStart (n := 85) (e := [(0, vS a), (1, va), (2, i6_ ((n : Int) + 1))]) Tryd.func43 rfl rfl rfl rfl Ends.both ?_
 have hl4 : xs.length ≤ 4 := by omega
 have hfl := formB_len (a := a) hl4
 have hm8 := ha.hi
 have hm1 := ha.lo
 have hv1 : (nameS xs.length).length = 1 := nameS_length (by omega)
 refine Wk.seq ?_
 refine Wk.region ?_
 refine Ll.box (v := vS a) rfl rfl rfl rfl rfl fun p3 hp3 => ?_
 show Ll _ _ (Own _ _ [_]) _ _ ((3, pt_ p3) :: _) _ _ _
 refine Ll.op (v := str ([])) rfl rfl rfl (OpQ.assign rfl rfl) ?_
 refine Ll.run 1 rfl ?_
 refine Ll.nil ?_
 refine Kt.sel [1, 2, 3] [_, _, _] rfl ?_
 refine Wk.seq ?_
 refine Wk.region ?_
 refine Ll.op rfl rfl rfl (OpQ.loadBox (cs := #[i6_ a.n, str a.set, str a.rel]) 0 rfl Tryd.isAgg28 rfl rfl Tryd.sizeOf28) ?_
 refine Ll.run 1 rfl ?_
 refine Ll.op (v := str (formB a xs)) rfl rfl rfl (OpQ.call rfl Tryd.call84 rfl Own.stable (fun w1 hw1 => l3Describe_ok a va xs w1 ha (Row.own hva hw1) hA hl4)) ?_
 refine Ll.slice (xs := [.tmp 18]) (vs := [str (formB a xs)]) Base.elem91 rfl rfl rfl rfl rfl rfl (by decide) rfl fun p19 hp19 => ?_
 refine Ll.run 1 rfl ?_
 refine Ll.nil ?_
 refine Kt.sel [1, 2, 3, 8] [_, _, _, _] rfl ?_
 refine Wk.seq ?_
 refine Wk.seq ?_
 refine Wk.regionQ ?_
 refine Lq.run 2 rfl ?_
 refine Lq.nil ?_
 refine Kt.sel [1, 2, 3, 8, 21] [_, _, _, _, _] rfl ?_
 refine Wk.cond (b := decide (((n : Int) + 1) = (0 : Int))) rfl (fun h21 => ?_) (fun h21 => ?_)
 ·
  replace h21 := of_decide_eq_true h21
  omega
 ·
  replace h21 := of_decide_eq_false h21
  refine Wk.skip ?_
  refine Kt.sel [1, 2, 3, 8] [_, _, _, _] rfl ?_
  refine Wk.seq ?_
  refine Wk.regionQ ?_
  refine Lq.run 1 rfl ?_
  refine Lq.op (v := i6_ ((xs.length : Int))) rfl rfl rfl (OpQ.lenRow rfl Tryd.runUnderlying24 rfl (ints_length _) (fun w1 hw1 => Row.own hva hw1)) ?_
  refine Lq.run 1 rfl ?_
  refine Lq.op (v := i6_ ((xs.length : Int))) rfl rfl rfl (OpQ.lenRow rfl Tryd.runUnderlying24 rfl (ints_length _) (fun w1 hw1 => Row.own hva hw1)) ?_
  refine Lq.op rfl rfl rfl (OpQ.add rfl rfl rfl (by omega) (by omega)) ?_
  refine Lq.op (v := str (nameS xs.length)) rfl rfl rfl (OpQ.cast (congrArg str (slice_name xs.length)) (OpQ.sliceStr rfl Tryd.underlying9 rfl rfl rfl (by omega) (by omega) (by first | omega | (simp; omega)))) ?_
  refine Lq.run 1 rfl ?_
  refine Lq.nil ?_
  refine Kt.sel [1, 2, 3, 8, 9] [_, _, _, _, _] rfl ?_
  refine Wk.seq ?_
  refine Wk.region ?_
  refine Ll.slice (xs := []) (vs := []) Base.elem91 rfl rfl rfl rfl rfl rfl (by decide) rfl fun p31 hp31 => ?_
  refine Ll.run 1 rfl ?_
  refine Ll.nil ?_
  refine Kt.sel [1, 2, 3, 8, 9, 10] [_, _, _, _, _, _] rfl ?_
  refine Wk.seq ?_
  refine Wk.seq ?_
  refine Wk.regionQ ?_
  refine Lq.run 1 rfl ?_
  refine Lq.nil ?_
  refine Kt.sel [1, 2, 3, 8, 9, 10, 11] [_, _, _, _, _, _, _] rfl ?_
  refine Wk.block ?_
  refine Wk.loop (σ := Nat × Nat × Nat × Array Value × List (List UInt8)) (fun ⟨k, g, c, cur, fs⟩ => (k : Int) ≤ a.n ∧ allS (fun x : Nat => tyF a n (xs ++ [(x : Int)])) k = some fs ∧ cur.size = c * 1 ∧ fs.length ≤ c ∧ cur.toList.take fs.length = strs fs) (fun ⟨k, g, c, cur, fs⟩ => [(1, va), (2, i6_ ((n : Int) + 1)), (3, pt_ p3), (8, sl_ p19 1 1), (9, str (nameS xs.length)), (10, sl_ g fs.length c), (11, i6_ ((k : Int)))]) (fun ⟨k, g, c, cur, fs⟩ => Own w.heap.size w [bk_ g cur 9, bk_ p19 #[str (formB a xs)] 9, bk_ p3 #[i6_ a.n, str a.set, str a.rel] 28]) (fun ⟨k, g, c, cur, fs⟩ => (a.n - k).toNat) ((0, p31, 0, #[], [])) ⟨by omega, rfl, rfl, Nat.le_refl 0, rfl⟩ (Sub.sel [1, 2, 3, 8, 9, 10, 11] rfl) (fun _ h => h) ?_
  rintro ⟨k, g, c, cur, fs⟩ ⟨hk, hall, hc, hl, ht⟩
  dsimp only
  have hfn := allS_len hall
  refine Wk.seq ?_
  refine Wk.seq ?_
  refine Wk.regionQ ?_
  refine Lq.run 1 rfl ?_
  refine Lq.op rfl rfl rfl (OpQ.fieldAddr rfl Tryd.runUnderlying28 rfl Tryd.sizeOf3 rfl rfl) ?_
  refine Lq.op rfl rfl rfl (OpQ.loadOwn 2 rfl Tryd.isAgg3 rfl rfl rfl) ?_
  refine Lq.run 1 rfl ?_
  refine Lq.nil ?_
  refine Kt.sel [1, 2, 3, 8, 9, 10, 11, 35] [_, _, _, _, _, _, _, _] rfl ?_
  refine Wk.cond (b := decide (((k : Int)) < a.n)) rfl (fun h35 => ?_) (fun h35 => ?_)
  ·
   replace h35 := of_decide_eq_true h35
   have hx : a.El k := ⟨by omega, by omega⟩
   refine Wk.skip ?_
   refine Kt.sel [1, 2, 3, 8, 9, 10, 11] [_, _, _, _, _, _, _] rfl ?_
   refine Wk.seq ?_
   refine Wk.block ?_
   refine Wk.seq ?_
   refine Wk.regionO [(0, true), (1, true), (2, true), (4, true), (5, true), (3, false), (6, false), (7, true), (8, true), (9, true), (10, true), (11, true)] Base.mixed (fun _ h => h.drawn) (by kernel_rfl) ?_
   refine Ld.take rfl rfl rfl rfl rfl (OpQ.loadBox (cs := #[i6_ a.n, str a.set, str a.rel]) 2 rfl Tryd.isAgg28 rfl rfl Tryd.sizeOf28) (fun _ h => h) ?_
   refine Ld.run 3 rfl (fun _ h => h) ?_
   refine Ld.take (v := i6_ ((n : Int))) rfl rfl rfl rfl rfl (OpQ.cast (by congr 1; omega) (OpQ.sub rfl rfl rfl (by omega) (by omega))) (fun _ h => h) ?_
   refine Ld.loud rfl ?_
   refine Ll.callRow (xs := [.tmp 40, .tmp 41]) (m := (xs ++ [(k : Int)]).length) (vs := ints (xs ++ [(k : Int)])) (el := 3) (size := 1) rfl rfl rfl rfl Tryd.call85 rfl (fun w1 hw1 => l4With_ok va xs ((k : Int)) w1 (Row.own hva hw1) (by omega)) fun p42 cap42 cur42 hp42 hcp42 hlp42 htp42 => ?_
   refine Ll.nil (Ld.joint (fun _ h => h.tail) ?_)
   refine Ld.loud rfl ?_
   refine Ll.op (v := .tuple #[str ((tySp a n (xs ++ [(k : Int)])).1), bo_ ((tySp a n (xs ++ [(k : Int)])).2)]) rfl rfl rfl (OpQ.call rfl Tryd.call43 rfl Own.stable (fun w1 hw1 => ih (xs ++ [(k : Int)]) (sl_ p42 ((xs ++ [(k : Int)]).length) cap42) w1 (Own.row hw1 (i := 0) rfl (by simpa using htp42) (by simp) hlp42) (els_more hA hx) (by rw [List.length_append, List.length_singleton]; omega))) ?_
   refine Ll.nil (Ld.joint (fun _ h => h.tail) ?_)
   refine Ld.run 1 rfl (fun _ h => h.tail) ?_
   refine Ld.take (v := str ((tySp a n (xs ++ [(k : Int)])).1)) rfl rfl rfl rfl rfl (OpQ.extract rfl rfl rfl) (fun _ h => h.tail) ?_
   refine Ld.take (v := bo_ ((tySp a n (xs ++ [(k : Int)])).2)) rfl rfl rfl rfl rfl (OpQ.extract rfl rfl rfl) (fun _ h => h.tail) ?_
   refine Ld.run 2 rfl (fun _ h => h.tail) ?_
   refine Ld.nil ?_
   refine Kt.sel [1, 2, 3, 8, 9, 10, 11, 12, 13] [_, _, _, _, _, _, _, _, _] rfl ?_
   refine Wk.seq ?_
   refine Wk.seq ?_
   refine Wk.regionQ ?_
   refine Lq.run 2 rfl ?_
   refine Lq.nil ?_
   refine Kt.sel [1, 2, 3, 8, 9, 10, 11, 12, 49] [_, _, _, _, _, _, _, _, _] rfl ?_
   refine Wk.cond (b := !((tySp a n (xs ++ [(k : Int)])).2)) rfl (fun h49 => ?_) (fun h49 => ?_)
   ·
    replace h49 := not_true h49
    have hno : tyF a n (xs ++ [(k : Int)]) = none := tySp_no (by simpa using h49)
    refine Wk.seq ?_
    refine Wk.regionQ ?_
    refine Lq.op (v := str ([])) rfl rfl rfl (OpQ.assign rfl rfl) ?_
    refine Lq.run 1 rfl ?_
    refine Lq.nil ?_
    refine Kt.sel [6, 7] [_, _] rfl ?_
    refine Wk.ret (Kt.end2 rfl rfl rfl fun w' hw => ?_)
    -- ret 0: str ([]); bo_ false
    exact ⟨by rw [tySp_none (by omega) hno], hw.below⟩
   ·
    replace h49 := not_false h49
    have hyes : (fun x : Nat => tyF a n (xs ++ [(x : Int)])) k = some (tySp a n (xs ++ [(k : Int)])).1 := tySp_at (by simpa using h49)
    refine Wk.skip ?_
    refine Kt.sel [1, 2, 3, 8, 9, 10, 11, 12] [_, _, _, _, _, _, _, _] rfl ?_
    refine Wk.region ?_
    refine Ll.run 2 rfl ?_
    refine Ll.slice (xs := [.tmp 51]) (vs := [str ((tySp a n (xs ++ [(k : Int)])).1)]) Base.elem91 rfl rfl rfl rfl rfl rfl (by decide) rfl fun p52 hp52 => ?_
    refine Ll.appendStrs (xs := fs) (ys := ([(tySp a n (xs ++ [(k : Int)])).1] : List (List UInt8))) Base.elem91 2 rfl rfl rfl rfl rfl rfl rfl hc hl ht (fun w1 hw1 => (Own.row hw1 (i := 0) rfl (n := 1) (cap := 1) (vs := strs ([(tySp a n (xs ++ [(k : Int)])).1] : List (List UInt8))) rfl rfl (by decide))) ((fs ++ (([(tySp a n (xs ++ [(k : Int)])).1] : List (List UInt8)))).length) (by first | (simp; done) | (simp; omega)) (by first | (simp; done) | (simp; omega) | omega) fun p53 cap53 cur53 hp53 hcp53 hlp53 htp53 => ?_
    show Ll _ _ (Own _ _ [_, _, _, _, _]) _ _ ((53, sl_ p53 (((fs ++ (([(tySp a n (xs ++ [(k : Int)])).1] : List (List UInt8)))).length)) cap53) :: _) _ _ _
    refine Ll.run 1 rfl ?_
    refine Ll.nil ?_
    refine Kt.sel [1, 2, 3, 8, 9, 10, 11] [_, _, _, _, _, _, _] rfl ?_
    refine Wk.regionQ ?_
    refine Lq.run 1 rfl ?_
    refine Lq.op rfl rfl rfl (OpQ.add rfl rfl rfl (by omega) (by omega)) ?_
    refine Lq.run 1 rfl ?_
    refine Lq.nil ?_
    refine Kt.again ((k + 1, p53, cap53, cur53, fs ++ (([(tySp a n (xs ++ [(k : Int)])).1] : List (List UInt8))))) ⟨by omega, allS_yes hall hyes, by simpa using hcp53, hlp53, by simpa only [Nat.mul_one] using htp53⟩ (by omega) (Sub.sel [1, 2, 3, 8, 9, 10, 11] rfl) (fun _ h => h.sub (List.Sublist.cons _ (List.Sublist.cons _ (List.Sublist.cons_cons _ (List.Sublist.cons_cons _ (List.Sublist.cons_cons _ (List.Sublist.refl _)))))))
  ·
   replace h35 := of_decide_eq_false h35
   obtain rfl : k = a.n.toNat := by omega
   obtain ⟨hp4, hpn, hpf⟩ := parts_len (by omega) hall
   have hp0 : (dedup fs).length ≠ 0 := dedup_pos (by omega)
   have hta := typeAll_len (f := formB a xs) (v := nameS xs.length) hfl (by omega) hp4 (by omega) hp0
   have htn := typeAll_count (formB a xs) (nameS xs.length) (dedup fs)
   have hj1 := joinN_len (op := [124]) (by decide) hp4 hp0
   have hj2_ := joinN_len (op := [38]) (by decide) hta (by omega)
   refine Wk.exit rfl ?_
   refine Kt.sel [8, 9, 10] [_, _, _] rfl ?_
   refine Wk.seq ?_
   refine Wk.region ?_
   refine Ll.run 1 rfl ?_
   refine Ll.callRow (xs := [.tmp 54]) (m := (dedup fs).length) (vs := strs (dedup fs)) (el := 9) (size := 1) rfl rfl rfl rfl Tryd.call86 rfl (fun w1 hw1 => l6Each_ok (sl_ g fs.length c) fs w1 (Own.row hw1 (i := 0) rfl ht (by simp) hl) (by omega)) fun p55 cap55 cur55 hp55 hcp55 hlp55 htp55 => ?_
   refine Ll.run 1 rfl ?_
   refine Ll.nil ?_
   refine Kt.sel [8, 9, 10] [_, _, _] rfl ?_
   refine Wk.seq ?_
   refine Wk.seq ?_
   refine Wk.regionQ ?_
   refine Lq.run 1 rfl ?_
   refine Lq.nil ?_
   refine Kt.sel [8, 9, 10, 14] [_, _, _, _] rfl ?_
   refine Wk.block ?_
   refine Wk.loop (σ := Nat × Nat × Nat × Array Value) (fun ⟨j, g2, c2, cur2⟩ => j ≤ (dedup fs).length ∧ cur2.size = c2 * 1 ∧ ([formB a xs] ++ ((dedup fs).take j).map (somePart (nameS xs.length))).length ≤ c2 ∧ cur2.toList.take ([formB a xs] ++ ((dedup fs).take j).map (somePart (nameS xs.length))).length = strs ([formB a xs] ++ ((dedup fs).take j).map (somePart (nameS xs.length)))) (fun ⟨j, g2, c2, cur2⟩ => [(8, sl_ g2 (([formB a xs] ++ ((dedup fs).take j).map (somePart (nameS xs.length))).length) c2), (9, str (nameS xs.length)), (10, sl_ p55 ((dedup fs).length) cap55), (14, i6_ ((j : Int)))]) (fun ⟨j, g2, c2, cur2⟩ => Own w.heap.size w [bk_ p55 cur55 9, bk_ g cur 9, bk_ g2 cur2 9, bk_ p3 #[i6_ a.n, str a.set, str a.rel] 28]) (fun ⟨j, g2, c2, cur2⟩ => (dedup fs).length - j) ((0, p19, 1, #[str (formB a xs)])) ⟨by omega, rfl, Nat.le_refl 1, rfl⟩ (Sub.sel [8, 9, 10, 14] rfl) (fun _ h => h) ?_
   rintro ⟨j, g2, c2, cur2⟩ ⟨hj, hc2, hl2, ht2⟩
   dsimp only
   refine Wk.seq ?_
   refine Wk.seq ?_
   refine Wk.regionQ ?_
   refine Lq.run 2 rfl ?_
   refine Lq.op rfl rfl rfl (OpQ.lenS rfl Tryd.runUnderlying91 rfl) ?_
   refine Lq.run 1 rfl ?_
   refine Lq.nil ?_
   refine Kt.sel [8, 9, 10, 14, 59] [_, _, _, _, _] rfl ?_
   refine Wk.cond (b := decide (((j : Int)) < (((dedup fs).length : Int)))) rfl (fun h59 => ?_) (fun h59 => ?_)
   ·
    replace h59 := of_decide_eq_true h59
    have hj2 : j < (dedup fs).length := by omega
    have hj4 := getM_len hp4 j
    refine Wk.skip ?_
    refine Kt.sel [8, 9, 10, 14] [_, _, _, _] rfl ?_
    refine Wk.seq ?_
    refine Wk.block ?_
    refine Wk.region ?_
    refine Ll.run 2 rfl ?_
    refine Ll.op rfl rfl rfl (OpQ.sadd rfl rfl rfl (by first | omega | (simp only [List.length_append, List.length_cons, List.length_nil]; omega))) ?_
    refine Ll.run 2 rfl ?_
    refine Ll.op (v := pf_ p55 (((j : Int)).toNat)) rfl rfl rfl (OpQ.cast (by rw [Nat.zero_add]) (OpQ.indexAddr1 (i := (j : Int)) rfl Tryd.runUnderlying91 Tryd.sizeOf9 rfl rfl (by omega) (by omega))) ?_
    refine Ll.op (v := str ((dedup fs).getD (((j : Int)).toNat) [])) rfl rfl rfl (OpQ.loadAt 0 rfl Tryd.isAgg9 rfl rfl (cur_at (by simpa using htp55) (strs_at (c := dedup fs) (off := ((j : Int)).toNat) (by first | (simp; done) | (simp; omega) | omega)))) ?_
    refine Ll.op rfl rfl rfl (OpQ.sadd rfl rfl rfl (by simp only [List.length_append, List.length_cons, List.length_nil, Int.toNat_natCast]; omega)) ?_
    refine Ll.slice (xs := [.tmp 69]) (vs := [str ((([83]) ++ (nameS xs.length)) ++ ((dedup fs).getD (((j : Int)).toNat) []))]) Base.elem91 rfl rfl rfl rfl rfl rfl (by decide) rfl fun p70 hp70 => ?_
    refine Ll.appendStrs (xs := ([formB a xs] ++ ((dedup fs).take j).map (somePart (nameS xs.length)))) (ys := ([(([83]) ++ (nameS xs.length)) ++ ((dedup fs).getD (((j : Int)).toNat) [])] : List (List UInt8))) Base.elem91 3 rfl rfl rfl rfl rfl rfl rfl hc2 hl2 ht2 (fun w1 hw1 => (Own.row hw1 (i := 0) rfl (n := 1) (cap := 1) (vs := strs ([(([83]) ++ (nameS xs.length)) ++ ((dedup fs).getD (((j : Int)).toNat) [])] : List (List UInt8))) rfl rfl (by decide))) (((([formB a xs] ++ ((dedup fs).take j).map (somePart (nameS xs.length)))) ++ (([(([83]) ++ (nameS xs.length)) ++ ((dedup fs).getD (((j : Int)).toNat) [])] : List (List UInt8)))).length) (by first | (simp; done) | (simp; omega)) (by first | (simp; done) | (simp; omega) | omega) fun p71 cap71 cur71 hp71 hcp71 hlp71 htp71 => ?_
    show Ll _ _ (Own _ _ [_, _, _, _, _]) _ _ ((71, sl_ p71 ((((([formB a xs] ++ ((dedup fs).take j).map (somePart (nameS xs.length)))) ++ (([(([83]) ++ (nameS xs.length)) ++ ((dedup fs).getD (((j : Int)).toNat) [])] : List (List UInt8)))).length)) cap71) :: _) _ _ _
    refine Ll.run 1 rfl ?_
    refine Ll.nil ?_
    refine Kt.sel [8, 9, 10, 14] [_, _, _, _] rfl ?_
    refine Wk.regionQ ?_
    refine Lq.run 1 rfl ?_
    refine Lq.op rfl rfl rfl (OpQ.add rfl rfl rfl (by omega) (by omega)) ?_
    refine Lq.run 1 rfl ?_
    refine Lq.nil ?_
    refine Kt.again ((j + 1, p71, cap71, cur71)) ⟨by omega, by simpa using hcp71, by rw [some_step hj2]; exact hlp71, by rw [some_step hj2]; simpa only [Nat.mul_one, Int.toNat_natCast] using htp71⟩ (by omega) (Sub.cons (by rw [some_step hj2]; rfl) (Sub.sel [9, 10, 14] rfl)) (fun _ h => h.tail)
   ·
    replace h59 := of_decide_eq_false h59
    have hje : j = (dedup fs).length := by omega
    have hTA : ([formB a xs] ++ ((dedup fs).take j).map (somePart (nameS xs.length))) ++ [([65] ++ nameS xs.length) ++ joinN [124] (dedup fs)] = typeAll (formB a xs) (nameS xs.length) (dedup fs) := by
     rw [hje, List.take_length]; rfl
    have hj2b : (joinN [38] (typeAll (formB a xs) (nameS xs.length) (dedup fs))).length ≤ 40001 * 10 := Nat.le_trans hj2_ (Nat.mul_le_mul_left _ (by omega))
    have hTS := tySp_some hall
    refine Wk.exit rfl ?_
    refine Kt.sel [8, 9, 10] [_, _, _] rfl ?_
    refine Wk.seq ?_
    refine Wk.region ?_
    refine Ll.run 2 rfl ?_
    refine Ll.op rfl rfl rfl (OpQ.sadd rfl rfl rfl (by first | omega | (simp only [List.length_append, List.length_cons, List.length_nil]; omega))) ?_
    refine Ll.run 1 rfl ?_
    refine Ll.op (v := str (joinN ([124]) (dedup fs))) rfl rfl rfl (OpQ.call rfl Tryd.call87 rfl Own.stable (fun w1 hw1 => l2JoinM_ok ([124]) (dedup fs) (sl_ p55 ((dedup fs).length) cap55) 4000 w1 (Own.row hw1 (i := 0) rfl (by simpa using htp55) (by simp) hlp55) hp4 (by decide) (by decide) (by omega) hp0)) ?_
    refine Ll.op rfl rfl rfl (OpQ.sadd rfl rfl rfl (by first | omega | (simp only [List.length_append, List.length_cons, List.length_nil]; omega))) ?_
    refine Ll.slice (xs := [.tmp 77]) (vs := [str ((([65]) ++ (nameS xs.length)) ++ (joinN ([124]) (dedup fs)))]) Base.elem91 rfl rfl rfl rfl rfl rfl (by decide) rfl fun p78 hp78 => ?_
    refine Ll.appendStrs (xs := ([formB a xs] ++ ((dedup fs).take j).map (somePart (nameS xs.length)))) (ys := ([(([65]) ++ (nameS xs.length)) ++ (joinN ([124]) (dedup fs))] : List (List UInt8))) Base.elem91 3 rfl rfl rfl rfl rfl rfl rfl hc2 hl2 ht2 (fun w1 hw1 => (Own.row hw1 (i := 0) rfl (n := 1) (cap := 1) (vs := strs ([(([65]) ++ (nameS xs.length)) ++ (joinN ([124]) (dedup fs))] : List (List UInt8))) rfl rfl (by decide))) (((([formB a xs] ++ ((dedup fs).take j).map (somePart (nameS xs.length)))) ++ (([(([65]) ++ (nameS xs.length)) ++ (joinN ([124]) (dedup fs))] : List (List UInt8)))).length) (by first | (simp; done) | (simp; omega)) (by first | (simp; done) | (simp; omega) | omega) fun p79 cap79 cur79 hp79 hcp79 hlp79 htp79 => ?_
    show Ll _ _ (Own _ _ [_, _, _, _, _]) _ _ ((79, sl_ p79 ((((([formB a xs] ++ ((dedup fs).take j).map (somePart (nameS xs.length)))) ++ (([(([65]) ++ (nameS xs.length)) ++ (joinN ([124]) (dedup fs))] : List (List UInt8)))).length)) cap79) :: _) _ _ _
    refine Ll.op (v := str (joinN ([38]) ((([formB a xs] ++ ((dedup fs).take j).map (somePart (nameS xs.length)))) ++ (([(([65]) ++ (nameS xs.length)) ++ (joinN ([124]) (dedup fs))] : List (List UInt8)))))) rfl rfl rfl (OpQ.call rfl Tryd.call87 rfl Own.stable (fun w1 hw1 => l2JoinM_ok ([38]) ((([formB a xs] ++ ((dedup fs).take j).map (somePart (nameS xs.length)))) ++ (([(([65]) ++ (nameS xs.length)) ++ (joinN ([124]) (dedup fs))] : List (List UInt8)))) (sl_ p79 ((((([formB a xs] ++ ((dedup fs).take j).map (somePart (nameS xs.length)))) ++ (([(([65]) ++ (nameS xs.length)) ++ (joinN ([124]) (dedup fs))] : List (List UInt8)))).length)) cap79) 40000 w1 (Own.row hw1 (i := 3) rfl (by simpa using htp79) (by simp) hlp79) (by rw [hTA]; exact hta) (by decide) (by decide) (by rw [hTA, htn]; omega) (by rw [hTA, htn]; omega))) ?_
    refine Ll.run 1 rfl ?_
    refine Ll.nil ?_
    refine Kt.sel [15] [_] rfl ?_
    refine Wk.seq ?_
    refine Wk.regionQ ?_
    refine Lq.run 2 rfl ?_
    refine Lq.op (v := i6_ (((joinN ([38]) ((([formB a xs] ++ ((dedup fs).take j).map (somePart (nameS xs.length)))) ++ (([(([65]) ++ (nameS xs.length)) ++ (joinN ([124]) (dedup fs))] : List (List UInt8))))).length : Int))) rfl rfl rfl (OpQ.lenStr rfl Tryd.runUnderlying9 rfl) ?_
    refine Lq.run 3 rfl ?_
    refine Lq.nil ?_
    refine Kt.sel [6, 7] [_, _] rfl ?_
    refine Wk.ret (Kt.end2 rfl rfl rfl fun w' hw => ?_)
    -- ret 1: str (joinN ([38]) ((([formB a xs] ++ ((dedup fs).take j).map (somePart (nameS xs.length)))) ++ (([(([65]) ++ (nameS xs.length)) ++ (joinN ([124]) (dedup fs))] : List (List UInt8))))); bo_ (decide ((((joinN ([38]) ((([formB a xs] ++ ((dedup fs).take j).map (somePart (nameS xs.length)))) ++ (([(([65]) ++ (nameS xs.length)) ++ (joinN ([124]) (dedup fs))] : List (List UInt8))))).length : Int)) ≤ (4000 : Int)))
    have hd : decide (((joinN [38] (typeAll (formB a xs) (nameS xs.length) (dedup fs))).length : Int) ≤ 4000) = decide ((typeJ (formB a xs) (nameS xs.length) (dedup fs)).length ≤ 4000) := decide_eq_decide.2 (by unfold typeJ; omega)
    exact ⟨by rw [hTA, hTS, hd]; rfl, hw.below⟩

theorem tyf_ok (a : St) (ha : a.Fine) : ∀ n : Nat, ∀ (xs : List Int) (va : Value) (w : World), Ints w va xs → a.Els xs → xs.length + n ≤ 4 → Calls Tryd.prog 45 #[vS a, va, .int .i64 (n : Int)] w fun en w' => en = .returned (.tuple #[str (optS (tyF a n xs)), .bool (tyF a n xs).isSome]) ∧ Below w.heap.size w w'
  | 0 => fun xs va w hva hA hl => tyf_zero a va xs w ha hva hA hl
  | n + 1 => fun xs va w hva hA hl => tyf_of n a (tyf_ok a ha n) va xs w ha hva hA hl
theorem tyf_at (a : St) (ha : a.Fine) (r : Int) (h0 : 0 ≤ r) : ∀ (xs : List Int) (va : Value) (w : World), Ints w va xs → a.Els xs → xs.length + r.toNat ≤ 4 → Calls Tryd.prog 45 #[vS a, va, .int .i64 r] w fun en w' => en = .returned (.tuple #[str (optS (tyF a r.toNat xs)), .bool (tyF a r.toNat xs).isSome]) ∧ Below w.heap.size w w' := by
  have h := tyf_ok a ha r.toNat
  rw [Int.toNat_of_nonneg h0] at h
  exact h
theorem tys_ok (a : St) (ha : a.Fine) : ∀ n : Nat, ∀ (xs : List Int) (va : Value) (w : World), Ints w va xs → a.Els xs → xs.length + n ≤ 4 → Calls Tryd.prog 43 #[vS a, va, .int .i64 (n : Int)] w fun en w' => en = .returned (.tuple #[str (tySp a n xs).1, .bool (tySp a n xs).2]) ∧ Below w.heap.size w w'
  | 0 => fun xs va w hva hA hl => tys_zero a va xs w ha hva hA hl
  | n + 1 => fun xs va w hva hA hl => tys_of n a (tys_ok a ha n) va xs w ha hva hA hl
theorem tys_at (a : St) (ha : a.Fine) (r : Int) (h0 : 0 ≤ r) : ∀ (xs : List Int) (va : Value) (w : World), Ints w va xs → a.Els xs → xs.length + r.toNat ≤ 4 → Calls Tryd.prog 43 #[vS a, va, .int .i64 r] w fun en w' => en = .returned (.tuple #[str (tySp a r.toNat xs).1, .bool (tySp a r.toNat xs).2]) ∧ Below w.heap.size w w' := by
  have h := tys_ok a ha r.toNat
  rw [Int.toNat_of_nonneg h0] at h
  exact h

set_option maxHeartbeats 400000 in
/-- impl.TypeFormula -/
theorem iType_ok (a : St) (va : Value) (xs : List Int) (w : World) (hsa : a.Small) (hva : Ints w va xs) (hs : xs.length ≤ 140737488355328) (r : Int) :
    Calls Tryd.prog 18 [vS a, va, i6_ r].toArray w fun en w' => en = .returned (.tuple #[str (optS (tyOut a xs r)), .bool (tyOut a xs r).isSome]) ∧ Below w.heap.size w w' := by
 refine fnStart (n := 33) (e := [(0, vS a), (1, va), (2, i6_ r)]) Tryd.func18 rfl rfl rfl rfl Ends.both ?_
 refine Wk.seq ?_
 refine Wk.region ?_
 refine Ll.box (v := vS a) rfl rfl rfl rfl rfl fun p3 hp3 => ?_
 show Ll _ _ (Own _ _ [_]) _ _ ((3, pt_ p3) :: _) _ _ _
 refine Ll.op (v := str ([])) rfl rfl rfl (OpQ.assign rfl rfl) ?_
 refine Ll.run 1 rfl ?_
 refine Ll.nil ?_
 refine Kt.sel [1, 2, 3] [_, _, _] rfl ?_
 refine Wk.seq ?_
 refine Wk.seq ?_
 refine Wk.regionQ ?_
 refine Lq.op rfl rfl rfl (OpQ.loadBox (cs := #[i6_ a.n, str a.set, str a.rel]) 0 rfl Tryd.isAgg28 rfl rfl Tryd.sizeOf28) ?_
 refine Lq.run 1 rfl ?_
 refine Lq.op (v := bo_ (listB a xs)) rfl rfl rfl (OpQ.call rfl Tryd.call44 rfl Own.stable (fun w1 hw1 => isList_ok a va xs w1 hsa (Row.own hva hw1) (by first | (simp; done) | (simp; omega) | omega))) ?_
 refine Lq.run 2 rfl ?_
 refine Lq.bool fun b12 hg12 => ?_
 cases b12
 ·
  replace hg12 := not_false hg12
  refine Lq.run 4 rfl ?_
  refine Lq.bool fun b16 hg16 => ?_
  cases b16
  ·
   replace hg16 := of_decide_eq_false hg16
   refine Lq.run 4 rfl ?_
   refine Lq.bool fun b20 hg20 => ?_
   cases b20
   ·
    replace hg20 := of_decide_eq_false hg20
    refine Lq.run 1 rfl ?_
    refine Lq.op (v := i6_ ((xs.length : Int))) rfl rfl rfl (OpQ.lenRow rfl Tryd.runUnderlying24 rfl (ints_length _) (fun w1 hw1 => Row.own hva hw1)) ?_
    refine Lq.run 1 rfl ?_
    refine Lq.op rfl rfl rfl (OpQ.add rfl rfl rfl (by omega) (by omega)) ?_
    refine Lq.run 2 rfl ?_
    refine Lq.nil ?_
    refine Kt.sel [1, 2, 3, 26] [_, _, _, _] rfl ?_
    refine Wk.cond (b := decide ((4 : Int) < (((xs.length : Int)) + r))) rfl (fun h26 => ?_) (fun h26 => ?_)
    ·
     replace h26 := of_decide_eq_true h26
     refine Wk.seq ?_
     refine Wk.regionQ ?_
     refine Lq.op (v := str ([])) rfl rfl rfl (OpQ.assign rfl rfl) ?_
     refine Lq.run 1 rfl ?_
     refine Lq.nil ?_
     refine Kt.sel [6, 7] [_, _] rfl ?_
     refine Wk.ret (Kt.end2 rfl rfl rfl fun w' hw => ?_)
     -- ret 0: str ([]); bo_ false
     exact ⟨by unfold tyOut; rw [if_neg (by unfold inB at *; simp_all; try omega)]; rfl, hw.below⟩
    ·
     replace h26 := of_decide_eq_false h26
     have hLb : listB a xs = true := by simp_all
     obtain ⟨_, ha, hA, hl4⟩ := listB_true hLb
     have h0r : 0 ≤ r := (by omega)
     have h3r : r ≤ 3 := (by omega)
     have hrt : ((r.toNat : Nat) : Int) = r := Int.toNat_of_nonneg h0r
     have hO : tyOut a xs r = tyF a r.toNat xs := by unfold tyOut inB; rw [if_pos (by simp [hLb, h0r, h3r]; omega)]
     refine Wk.skip ?_
     refine Kt.sel [1, 2, 3] [_, _, _] rfl ?_
     refine Wk.seq ?_
     refine Wk.regionQ ?_
     refine Lq.op rfl rfl rfl (OpQ.loadBox (cs := #[i6_ a.n, str a.set, str a.rel]) 0 rfl Tryd.isAgg28 rfl rfl Tryd.sizeOf28) ?_
     refine Lq.run 2 rfl ?_
     refine Lq.op (v := .tuple #[str (optS (tyF a r.toNat xs)), bo_ ((tyF a r.toNat xs).isSome)]) rfl rfl rfl (OpQ.call rfl Tryd.call45 rfl Own.stable (fun w1 hw1 => tyf_at a ha r h0r xs va w1 (Row.own hva hw1) hA (by omega))) ?_
     refine Lq.op (v := str (optS (tyF a r.toNat xs))) rfl rfl rfl (OpQ.extract rfl rfl rfl) ?_
     refine Lq.op (v := bo_ ((tyF a r.toNat xs).isSome)) rfl rfl rfl (OpQ.extract rfl rfl rfl) ?_
     refine Lq.run 2 rfl ?_
     refine Lq.nil ?_
     refine Kt.sel [6, 7] [_, _] rfl ?_
     refine Wk.ret (Kt.end2 rfl rfl rfl fun w' hw => ?_)
     -- ret 1: str (optS (tyF a r.toNat xs)); bo_ ((tyF a r.toNat xs).isSome)
     exact ⟨by rw [hO], hw.below⟩
   ·
    replace hg20 := of_decide_eq_true hg20
    refine Lq.pass rfl rfl rfl ?_
    refine Lq.pass rfl rfl rfl ?_
    refine Lq.pass rfl rfl rfl ?_
    refine Lq.pass rfl rfl rfl ?_
    refine Lq.pass rfl rfl rfl ?_
    refine Lq.run 1 rfl ?_
    refine Lq.nil ?_
    refine Kt.sel [1, 2, 3, 26] [_, _, _, _] rfl ?_
    refine Wk.condT rfl ?_
    refine Wk.seq ?_
    refine Wk.regionQ ?_
    refine Lq.op (v := str ([])) rfl rfl rfl (OpQ.assign rfl rfl) ?_
    refine Lq.run 1 rfl ?_
    refine Lq.nil ?_
    refine Kt.sel [6, 7] [_, _] rfl ?_
    refine Wk.ret (Kt.end2 rfl rfl rfl fun w' hw => ?_)
    -- ret 2: str ([]); bo_ false
    exact ⟨by unfold tyOut; rw [if_neg (by unfold inB at *; simp_all; try omega)]; rfl, hw.below⟩
  ·
   replace hg16 := of_decide_eq_true hg16
   refine Lq.pass rfl rfl rfl ?_
   refine Lq.pass rfl rfl rfl ?_
   refine Lq.run 2 rfl ?_
   refine Lq.pass rfl rfl rfl ?_
   refine Lq.pass rfl rfl rfl ?_
   refine Lq.pass rfl rfl rfl ?_
   refine Lq.pass rfl rfl rfl ?_
   refine Lq.pass rfl rfl rfl ?_
   refine Lq.run 1 rfl ?_
   refine Lq.nil ?_
   refine Kt.sel [1, 2, 3, 26] [_, _, _, _] rfl ?_
   refine Wk.condT rfl ?_
   refine Wk.seq ?_
   refine Wk.regionQ ?_
   refine Lq.op (v := str ([])) rfl rfl rfl (OpQ.assign rfl rfl) ?_
   refine Lq.run 1 rfl ?_
   refine Lq.nil ?_
   refine Kt.sel [6, 7] [_, _] rfl ?_
   refine Wk.ret (Kt.end2 rfl rfl rfl fun w' hw => ?_)
   -- ret 3: str ([]); bo_ false
   exact ⟨by unfold tyOut; rw [if_neg (by unfold inB at *; simp_all; try omega)]; rfl, hw.below⟩
 ·
  replace hg12 := not_true hg12
  refine Lq.pass rfl rfl rfl ?_
  refine Lq.pass rfl rfl rfl ?_
  refine Lq.run 2 rfl ?_
  refine Lq.pass rfl rfl rfl ?_
  refine Lq.pass rfl rfl rfl ?_
  refine Lq.run 2 rfl ?_
  refine Lq.pass rfl rfl rfl ?_
  refine Lq.pass rfl rfl rfl ?_
  refine Lq.pass rfl rfl rfl ?_
  refine Lq.pass rfl rfl rfl ?_
  refine Lq.pass rfl rfl rfl ?_
  refine Lq.run 1 rfl ?_
  refine Lq.nil ?_
  refine Kt.sel [1, 2, 3, 26] [_, _, _, _] rfl ?_
  refine Wk.condT rfl ?_
  refine Wk.seq ?_
  refine Wk.regionQ ?_
  refine Lq.op (v := str ([])) rfl rfl rfl (OpQ.assign rfl rfl) ?_
  refine Lq.run 1 rfl ?_
  refine Lq.nil ?_
  refine Kt.sel [6, 7] [_, _] rfl ?_
  refine Wk.ret (Kt.end2 rfl rfl rfl fun w' hw => ?_)
  -- ret 4: str ([]); bo_ false
  exact ⟨by unfold tyOut; rw [if_neg (by unfold inB at *; simp_all; try omega)]; rfl, hw.below⟩

set_option maxHeartbeats 400000 in
/-- spec.TypeFormula -/
theorem sType_ok (a : St) (va : Value) (xs : List Int) (w : World) (hsa : a.Small) (hva : Ints w va xs) (hs : xs.length ≤ 140737488355328) (loa : -9223372036854775808 ≤ a.n) (hia : a.n ≤ 9223372036854775807) (r : Int) :
    Calls Tryd.prog 15 [vS a, va, i6_ r].toArray w fun en w' => en = .returned (.tuple #[str (optS (tyOut a xs r)), .bool (tyOut a xs r).isSome]) ∧ Below w.heap.size w w' := by
 refine fnStart (n := 36) (e := [(0, vS a), (1, va), (2, i6_ r)]) Tryd.func15 rfl rfl rfl rfl Ends.both ?_
 refine Wk.seq ?_
 refine Wk.region ?_
 refine Ll.box (v := vS a) rfl rfl rfl rfl rfl fun p3 hp3 => ?_
 show Ll _ _ (Own _ _ [_]) _ _ ((3, pt_ p3) :: _) _ _ _
 refine Ll.op (v := str ([])) rfl rfl rfl (OpQ.assign rfl rfl) ?_
 refine Ll.run 1 rfl ?_
 refine Ll.nil ?_
 refine Kt.sel [1, 2, 3] [_, _, _] rfl ?_
 refine Wk.seq ?_
 refine Wk.seq ?_
 refine Wk.regionQ ?_
 refine Lq.op rfl rfl rfl (OpQ.loadBox (cs := #[i6_ a.n, str a.set, str a.rel]) 0 rfl Tryd.isAgg28 rfl rfl Tryd.sizeOf28) ?_
 refine Lq.run 1 rfl ?_
 refine Lq.op (v := bo_ (listB a xs)) rfl rfl rfl (OpQ.call rfl Tryd.call41 rfl Own.stable (fun w1 hw1 => l4List_ok a va xs w1 hsa (Row.own hva hw1) (by first | (simp; done) | (simp; omega) | omega) loa hia)) ?_
 refine Lq.run 2 rfl ?_
 refine Lq.bool fun b14 hg14 => ?_
 cases b14
 ·
  replace hg14 := not_false hg14
  refine Lq.run 1 rfl ?_
  refine Lq.op (v := bo_ (inB r 0 3)) rfl rfl rfl (OpQ.call rfl Tryd.call42 rfl Own.stable (fun w1 hw1 => l1In_ok r 0 3 w1 )) ?_
  refine Lq.run 3 rfl ?_
  refine Lq.bool fun b19 hg19 => ?_
  cases b19
  ·
   replace hg19 := not_false hg19
   have hir : 0 ≤ r ∧ r ≤ 3 := by have h9 := hg19; unfold inB at h9; simpa using h9
   refine Lq.run 1 rfl ?_
   refine Lq.op (v := i6_ ((xs.length : Int))) rfl rfl rfl (OpQ.lenRow rfl Tryd.runUnderlying24 rfl (ints_length _) (fun w1 hw1 => Row.own hva hw1)) ?_
   refine Lq.run 1 rfl ?_
   refine Lq.op rfl rfl rfl (OpQ.add rfl rfl rfl (by omega) (by omega)) ?_
   refine Lq.run 2 rfl ?_
   refine Lq.nil ?_
   refine Kt.sel [1, 2, 3, 25] [_, _, _, _] rfl ?_
   refine Wk.cond (b := decide ((4 : Int) < (((xs.length : Int)) + r))) rfl (fun h25 => ?_) (fun h25 => ?_)
   ·
    replace h25 := of_decide_eq_true h25
    refine Wk.seq ?_
    refine Wk.regionQ ?_
    refine Lq.op (v := str ([])) rfl rfl rfl (OpQ.assign rfl rfl) ?_
    refine Lq.run 1 rfl ?_
    refine Lq.nil ?_
    refine Kt.sel [6, 7] [_, _] rfl ?_
    refine Wk.ret (Kt.end2 rfl rfl rfl fun w' hw => ?_)
    -- ret 0: str ([]); bo_ false
    first | exact ⟨by rw [hO, tySp_no (by simpa using h34)]; rfl, hw.below⟩ | exact ⟨by unfold tyOut; rw [if_neg (by unfold inB at *; simp_all; try omega)]; rfl, hw.below⟩
   ·
    replace h25 := of_decide_eq_false h25
    have hLb : listB a xs = true := by simp_all
    obtain ⟨_, ha, hA, hl4⟩ := listB_true hLb
    have h0r : 0 ≤ r := (by unfold inB at *; simp_all)
    have h3r : r ≤ 3 := (by unfold inB at *; simp_all)
    have hrt : ((r.toNat : Nat) : Int) = r := Int.toNat_of_nonneg h0r
    have hO : tyOut a xs r = tyF a r.toNat xs := by unfold tyOut inB; rw [if_pos (by simp [hLb, h0r, h3r]; omega)]
    refine Wk.skip ?_
    refine Kt.sel [1, 2, 3] [_, _, _] rfl ?_
    refine Wk.seq ?_
    refine Wk.regionQ ?_
    refine Lq.op rfl rfl rfl (OpQ.loadBox (cs := #[i6_ a.n, str a.set, str a.rel]) 0 rfl Tryd.isAgg28 rfl rfl Tryd.sizeOf28) ?_
    refine Lq.run 2 rfl ?_
    refine Lq.op (v := .tuple #[str ((tySp a r.toNat xs).1), bo_ ((tySp a r.toNat xs).2)]) rfl rfl rfl (OpQ.call rfl Tryd.call43 rfl Own.stable (fun w1 hw1 => tys_at a ha r h0r xs va w1 (Row.own hva hw1) hA (by omega))) ?_
    refine Lq.run 1 rfl ?_
    refine Lq.op (v := str ((tySp a r.toNat xs).1)) rfl rfl rfl (OpQ.extract rfl rfl rfl) ?_
    refine Lq.op (v := bo_ ((tySp a r.toNat xs).2)) rfl rfl rfl (OpQ.extract rfl rfl rfl) ?_
    refine Lq.run 2 rfl ?_
    refine Lq.nil ?_
    refine Kt.sel [8, 9] [_, _] rfl ?_
    refine Wk.seq ?_
    refine Wk.seq ?_
    refine Wk.regionQ ?_
    refine Lq.run 2 rfl ?_
    refine Lq.nil ?_
    refine Kt.sel [8, 34] [_, _] rfl ?_
    refine Wk.cond (b := !((tySp a r.toNat xs).2)) rfl (fun h34 => ?_) (fun h34 => ?_)
    ·
     replace h34 := not_true h34
     refine Wk.seq ?_
     refine Wk.regionQ ?_
     refine Lq.op (v := str ([])) rfl rfl rfl (OpQ.assign rfl rfl) ?_
     refine Lq.run 1 rfl ?_
     refine Lq.nil ?_
     refine Kt.sel [6, 7] [_, _] rfl ?_
     refine Wk.ret (Kt.end2 rfl rfl rfl fun w' hw => ?_)
     -- ret 1: str ([]); bo_ false
     first | exact ⟨by rw [hO, tySp_no (by simpa using h34)]; rfl, hw.below⟩ | exact ⟨by unfold tyOut; rw [if_neg (by unfold inB at *; simp_all; try omega)]; rfl, hw.below⟩
    ·
     replace h34 := not_false h34
     refine Wk.skip ?_
     refine Kt.sel [8] [_] rfl ?_
     refine Wk.seq ?_
     refine Wk.regionQ ?_
     refine Lq.run 3 rfl ?_
     refine Lq.nil ?_
     refine Kt.sel [6, 7] [_, _] rfl ?_
     refine Wk.ret (Kt.end2 rfl rfl rfl fun w' hw => ?_)
     -- ret 2: str ((tySp a r.toNat xs).1); bo_ true
     exact ⟨by rw [hO, tySp_at (by simpa using h34)]; rfl, hw.below⟩
  ·
   replace hg19 := not_true hg19
   refine Lq.pass rfl rfl rfl ?_
   refine Lq.pass rfl rfl rfl ?_
   refine Lq.pass rfl rfl rfl ?_
   refine Lq.pass rfl rfl rfl ?_
   refine Lq.pass rfl rfl rfl ?_
   refine Lq.run 1 rfl ?_
   refine Lq.nil ?_
   refine Kt.sel [1, 2, 3, 25] [_, _, _, _] rfl ?_
   refine Wk.condT rfl ?_
   refine Wk.seq ?_
   refine Wk.regionQ ?_
   refine Lq.op (v := str ([])) rfl rfl rfl (OpQ.assign rfl rfl) ?_
   refine Lq.run 1 rfl ?_
   refine Lq.nil ?_
   refine Kt.sel [6, 7] [_, _] rfl ?_
   refine Wk.ret (Kt.end2 rfl rfl rfl fun w' hw => ?_)
   -- ret 3: str ([]); bo_ false
   first | exact ⟨by rw [hO, tySp_no (by simpa using h34)]; rfl, hw.below⟩ | exact ⟨by unfold tyOut; rw [if_neg (by unfold inB at *; simp_all; try omega)]; rfl, hw.below⟩
 ·
  replace hg14 := not_true hg14
  refine Lq.pass rfl rfl rfl ?_
  refine Lq.pass rfl rfl rfl ?_
  refine Lq.pass rfl rfl rfl ?_
  refine Lq.run 2 rfl ?_
  refine Lq.pass rfl rfl rfl ?_
  refine Lq.pass rfl rfl rfl ?_
  refine Lq.pass rfl rfl rfl ?_
  refine Lq.pass rfl rfl rfl ?_
  refine Lq.pass rfl rfl rfl ?_
  refine Lq.run 1 rfl ?_
  refine Lq.nil ?_
  refine Kt.sel [1, 2, 3, 25] [_, _, _, _] rfl ?_
  refine Wk.condT rfl ?_
  refine Wk.seq ?_
  refine Wk.regionQ ?_
  refine Lq.op (v := str ([])) rfl rfl rfl (OpQ.assign rfl rfl) ?_
  refine Lq.run 1 rfl ?_
  refine Lq.nil ?_
  refine Kt.sel [6, 7] [_, _] rfl ?_
  refine Wk.ret (Kt.end2 rfl rfl rfl fun w' hw => ?_)
  -- ret 4: str ([]); bo_ false
  first | exact ⟨by rw [hO, tySp_no (by simpa using h34)]; rfl, hw.below⟩ | exact ⟨by unfold tyOut; rw [if_neg (by unfold inB at *; simp_all; try omega)]; rfl, hw.below⟩

end Go.Proofs.YtjcoijejhachhaaDoor
