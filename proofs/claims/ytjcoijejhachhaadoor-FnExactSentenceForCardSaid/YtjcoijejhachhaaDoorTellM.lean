/-
  Walks: formulas that tell lists apart.
-/
import Derived.Test.YtjcoijejhachhaaDoorPlain54
import Derived.Test.YtjcoijejhachhaaDoorTypeM
import Derived.Test.YtjcoijejhachhaaDoorMovesM
import Derived.Test.YtjcoijejhachhaaDoorBase
namespace Go.Proofs.YtjcoijejhachhaaDoor
open Go.RowKit Go.Wk
set_option linter.unusedSimpArgs false

set_option maxHeartbeats 400000 in
/-- impl.firstFact -/
theorem firstFact_ok (a b : St) (xs ys : List Int) (va vb : Value) (w : World) (ha : a.Fine) (hb : b.Fine) (hva : Ints w va xs) (hvb : Ints w vb ys) (hA : a.Els xs) (hB : b.Els ys) (hlen : xs.length = ys.length) (hl4 : xs.length ≤ 4) :
    Calls Tryd.prog 103 [vS a, va, vS b, vb].toArray w fun en w' => en = .returned (str (diffO (factsL a xs xs.length) (factsL b ys ys.length))) ∧ Below w.heap.size w w' := by
 refine fnStart (n := 50) (e := [(0, vS a), (1, va), (2, vS b), (3, vb)]) Tryd.func103 rfl rfl rfl rfl Ends.both ?_
 have hfl : (factsL a xs xs.length).length = (factsL b ys ys.length).length := by rw [← hlen]; exact facts_len a b xs ys xs.length
 have hf26 := factsL_length a xs xs.length hl4
 refine Wk.seq ?_
 refine Wk.region ?_
 refine Ll.box (v := vS a) rfl rfl rfl rfl rfl fun p4 hp4 => ?_
 show Ll _ _ (Own _ _ [_]) _ _ ((4, pt_ p4) :: _) _ _ _
 refine Ll.box (v := vS b) rfl rfl rfl rfl rfl fun p6 hp6 => ?_
 show Ll _ _ (Own _ _ [_, _]) _ _ ((6, pt_ p6) :: _) _ _ _
 refine Ll.op (v := str ([])) rfl rfl rfl (OpQ.assign rfl rfl) ?_
 refine Ll.nil ?_
 refine Kt.sel [1, 3, 4, 6] [_, _, _, _] rfl ?_
 refine Wk.seq ?_
 refine Wk.region ?_
 refine Ll.op rfl rfl rfl (OpQ.loadBox (cs := #[i6_ a.n, str a.set, str a.rel]) 1 rfl Tryd.isAgg28 rfl rfl Tryd.sizeOf28) ?_
 refine Ll.run 1 rfl ?_
 refine Ll.callRows (xs := [.tmp 16, .tmp 17]) (m1 := ((factsL a xs xs.length).map Prod.fst).length) (vs1 := strs ((factsL a xs xs.length).map Prod.fst)) (el1 := 9) (m2 := ((factsL a xs xs.length).map Prod.snd).length) (vs2 := bools ((factsL a xs xs.length).map Prod.snd)) (el2 := 4) rfl rfl rfl rfl Tryd.call132 rfl (fun w1 hw1 => factsOf_ok a va xs w1 ha (Row.own hva hw1) hA (by omega)) fun p18a cap18a cur18a p18b cap18b cur18b hp18a hcp18a hlp18a htp18a hp18b hcp18b hlp18b htp18b => ?_
 refine Ll.run 1 rfl ?_
 refine Ll.op (v := sl_ p18a (((factsL a xs xs.length).map Prod.fst).length) cap18a) rfl rfl rfl (OpQ.extract rfl rfl rfl) ?_
 refine Ll.op (v := sl_ p18b (((factsL a xs xs.length).map Prod.snd).length) cap18b) rfl rfl rfl (OpQ.extract rfl rfl rfl) ?_
 refine Ll.run 2 rfl ?_
 refine Ll.nil ?_
 refine Kt.sel [3, 6, 9, 10] [_, _, _, _] rfl ?_
 refine Wk.seq ?_
 refine Wk.region ?_
 refine Ll.op rfl rfl rfl (OpQ.loadBox (cs := #[i6_ b.n, str b.set, str b.rel]) 2 rfl Tryd.isAgg28 rfl rfl Tryd.sizeOf28) ?_
 refine Ll.run 1 rfl ?_
 refine Ll.callRows (xs := [.tmp 22, .tmp 23]) (m1 := ((factsL b ys ys.length).map Prod.fst).length) (vs1 := strs ((factsL b ys ys.length).map Prod.fst)) (el1 := 9) (m2 := ((factsL b ys ys.length).map Prod.snd).length) (vs2 := bools ((factsL b ys ys.length).map Prod.snd)) (el2 := 4) rfl rfl rfl rfl Tryd.call132 rfl (fun w1 hw1 => factsOf_ok b vb ys w1 hb (Row.own hvb hw1) hB (by omega)) fun p24a cap24a cur24a p24b cap24b cur24b hp24a hcp24a hlp24a htp24a hp24b hcp24b hlp24b htp24b => ?_
 refine Ll.run 1 rfl ?_
 refine Ll.op (v := sl_ p24a (((factsL b ys ys.length).map Prod.fst).length) cap24a) rfl rfl rfl (OpQ.extract rfl rfl rfl) ?_
 refine Ll.op (v := sl_ p24b (((factsL b ys ys.length).map Prod.snd).length) cap24b) rfl rfl rfl (OpQ.extract rfl rfl rfl) ?_
 refine Ll.run 2 rfl ?_
 refine Ll.nil ?_
 refine Kt.sel [9, 10, 12] [_, _, _] rfl ?_
 refine Wk.seq ?_
 refine Wk.seq ?_
 refine Wk.regionQ ?_
 refine Lq.run 1 rfl ?_
 refine Lq.op rfl rfl rfl (OpQ.lenS rfl Tryd.runUnderlying91 rfl) ?_
 refine Lq.run 1 rfl ?_
 refine Lq.nil ?_
 refine Kt.sel [10, 12, 27, 28, 29] [_, _, _, _, _] rfl ?_
 refine Wk.block ?_
 refine Wk.loop (σ := Nat) (fun k => k ≤ (factsL a xs xs.length).length ∧ ∀ i : Nat, i < k → ((factsL a xs xs.length).getD i ([], false)).2 = ((factsL b ys ys.length).getD i ([], false)).2) (fun k => [(10, sl_ p18b (((factsL a xs xs.length).map Prod.snd).length) cap18b), (12, sl_ p24b (((factsL b ys ys.length).map Prod.snd).length) cap24b), (27, sl_ p18a (((factsL a xs xs.length).map Prod.fst).length) cap18a), (28, i6_ ((((factsL a xs xs.length).map Prod.fst).length : Int))), (29, i6_ ((k : Int)))]) (fun k => Own w.heap.size w [bk_ p24a cur24a 9, bk_ p24b cur24b 4, bk_ p18a cur18a 9, bk_ p18b cur18b 4, bk_ p6 #[i6_ b.n, str b.set, str b.rel] 28, bk_ p4 #[i6_ a.n, str a.set, str a.rel] 28]) (fun k => (factsL a xs xs.length).length - k) (0) ⟨by omega, fun i hi => absurd hi (by omega)⟩ (Sub.sel [10, 12, 27, 28, 29] rfl) (fun _ h => h) ?_
 rintro k ⟨hk, hall⟩
 refine Wk.seq ?_
 refine Wk.regionQ ?_
 refine Lq.run 1 rfl ?_
 refine Lq.nil ?_
 refine Kt.sel [10, 12, 27, 28, 29, 30] [_, _, _, _, _, _] rfl ?_
 refine Wk.seq ?_
 refine Wk.cond (b := decide (((k : Int)) < ((((factsL a xs xs.length).map Prod.fst).length : Int)))) rfl (fun h30 => ?_) (fun h30 => ?_)
 ·
  replace h30 := of_decide_eq_true h30
  have hk1 : k < (factsL a xs xs.length).length := by rw [List.length_map] at h30; omega
  have hk2 : k < (factsL b ys ys.length).length := by rw [← hfl]; exact hk1
  have e1 : ((factsL a xs xs.length).map Prod.fst).getD k [] = ((factsL a xs xs.length).getD k ([], false)).1 := map_getD Prod.fst ([], false) [] hk1
  have e2 : ((factsL a xs xs.length).map Prod.snd).getD k false = ((factsL a xs xs.length).getD k ([], false)).2 := map_getD Prod.snd ([], false) false hk1
  have e3 : ((factsL b ys ys.length).map Prod.snd).getD k false = ((factsL b ys ys.length).getD k ([], false)).2 := map_getD Prod.snd ([], false) false hk2
  have hn1 : ((factsL a xs xs.length).map Prod.snd).length = (factsL a xs xs.length).length := List.length_map _
  have hn2 : ((factsL b ys ys.length).map Prod.snd).length = (factsL b ys ys.length).length := List.length_map _
  refine Wk.skip ?_
  refine Kt.sel [10, 12, 27, 28, 29] [_, _, _, _, _] rfl ?_
  refine Wk.seq ?_
  refine Wk.block ?_
  refine Wk.seq ?_
  refine Wk.regionQ ?_
  refine Lq.run 1 rfl ?_
  refine Lq.op (v := pf_ p18a (((k : Int)).toNat)) rfl rfl rfl (OpQ.cast (by rw [Nat.zero_add]) (OpQ.indexAddr1 (i := (k : Int)) rfl Tryd.runUnderlying91 Tryd.sizeOf9 rfl rfl (by omega) (by omega))) ?_
  refine Lq.op (v := str (((factsL a xs xs.length).map Prod.fst).getD (((k : Int)).toNat) [])) rfl rfl rfl (OpQ.loadAt 2 rfl Tryd.isAgg9 rfl rfl (cur_at (by simpa using htp18a) (strs_at (c := (factsL a xs xs.length).map Prod.fst) (off := ((k : Int)).toNat) (by first | (simp; done) | (simp; omega) | omega)))) ?_
  refine Lq.run 2 rfl ?_
  refine Lq.nil ?_
  refine Kt.sel [10, 12, 13, 14, 27, 28, 29] [_, _, _, _, _, _, _] rfl ?_
  refine Wk.seq ?_
  refine Wk.regionD Base.mixed (fun _ h => h.drawn) (by kernel_rfl) ?_
  refine Lq.run 2 rfl ?_
  refine Lq.op (v := pf_ p18b (((k : Int)).toNat)) rfl rfl rfl (OpQ.cast (by rw [Nat.zero_add]) (OpQ.indexAddr1 (i := (k : Int)) rfl Tryd.runUnderlying64 Tryd.sizeOf4 rfl rfl (by omega) (by omega))) ?_
  refine Lq.op (v := bo_ (((factsL a xs xs.length).map Prod.snd).getD (((k : Int)).toNat) false)) rfl rfl rfl (OpQ.loadAt 3 rfl Tryd.isAgg4 rfl rfl (cur_at (by simpa using htp18b) (bools_at (c := (factsL a xs xs.length).map Prod.snd) (off := ((k : Int)).toNat) (by first | (simp; done) | (simp; omega) | omega)))) ?_
  refine Lq.run 2 rfl ?_
  refine Lq.op (v := pf_ p24b (((k : Int)).toNat)) rfl rfl rfl (OpQ.cast (by rw [Nat.zero_add]) (OpQ.indexAddr1 (i := (k : Int)) rfl Tryd.runUnderlying64 Tryd.sizeOf4 rfl rfl (by omega) (by omega))) ?_
  refine Lq.op (v := bo_ (((factsL b ys ys.length).map Prod.snd).getD (((k : Int)).toNat) false)) rfl rfl rfl (OpQ.loadAt 1 rfl Tryd.isAgg4 rfl rfl (cur_at (by simpa using htp24b) (bools_at (c := (factsL b ys ys.length).map Prod.snd) (off := ((k : Int)).toNat) (by first | (simp; done) | (simp; omega) | omega)))) ?_
  refine Lq.op rfl rfl rfl (OpQ.bne rfl Tryd.runUnderlying4 rfl rfl) ?_
  refine Lq.nil ?_
  refine Kt.sel [10, 12, 13, 14, 27, 28, 29, 42] [_, _, _, _, _, _, _, _] rfl ?_
  refine Wk.cond (b := (((factsL a xs xs.length).map Prod.snd).getD (((k : Int)).toNat) false) != (((factsL b ys ys.length).map Prod.snd).getD (((k : Int)).toNat) false)) rfl (fun h42 => ?_) (fun h42 => ?_)
  ·
   have hne : ((factsL a xs xs.length).getD k ([], false)).2 ≠ ((factsL b ys ys.length).getD k ([], false)).2 := by rw [← e2, ← e3]; simpa using h42
   refine Wk.seq ?_
   refine Wk.regionQ ?_
   refine Lq.run 3 rfl ?_
   refine Lq.op (v := pf_ p18b (((k : Int)).toNat)) rfl rfl rfl (OpQ.cast (by rw [Nat.zero_add]) (OpQ.indexAddr1 (i := (k : Int)) rfl Tryd.runUnderlying64 Tryd.sizeOf4 rfl rfl (by omega) (by omega))) ?_
   refine Lq.op (v := bo_ (((factsL a xs xs.length).map Prod.snd).getD (((k : Int)).toNat) false)) rfl rfl rfl (OpQ.loadAt 3 rfl Tryd.isAgg4 rfl rfl (cur_at (by simpa using htp18b) (bools_at (c := (factsL a xs xs.length).map Prod.snd) (off := ((k : Int)).toNat) (by first | (simp; done) | (simp; omega) | omega)))) ?_
   refine Lq.op (v := str (signS (((factsL a xs xs.length).map Prod.snd).getD (((k : Int)).toNat) false) (((factsL a xs xs.length).map Prod.fst).getD (((k : Int)).toNat) []))) rfl rfl rfl (OpQ.call rfl Tryd.call133 rfl Own.stable (fun w1 hw1 => signed_ok (((factsL a xs xs.length).map Prod.fst).getD (((k : Int)).toNat) []) (((factsL a xs xs.length).map Prod.snd).getD (((k : Int)).toNat) false) w1 (by have hf3 := facts_small a xs xs.length ((factsL a xs xs.length).getD k ([], false)) (by rw [getD_at hk1]; exact List.getElem_mem _); simp only [Int.toNat_natCast]; rw [e1]; omega))) ?_
   refine Lq.run 1 rfl ?_
   refine Lq.nil ?_
   refine Kt.sel [8] [_] rfl ?_
   refine Wk.ret (Kt.end1 rfl rfl fun w' hw => ?_)
   -- ret 0: str (signS (((factsL a xs xs.length).map Prod.snd).getD (((k : Int)).toNat) false) (((factsL a xs xs.length).map Prod.fst).getD (((k : Int)).toNat) []))
   exact ⟨ret_s (by rw [diffO_at hk1 hk2 hall hne]; simp only [Int.toNat_natCast]; rw [e1, e2]; rfl), hw.below⟩
  ·
   refine Wk.skip ?_
   refine Kt.sel [10, 12, 27, 28, 29] [_, _, _, _, _] rfl ?_
   refine Wk.regionQ ?_
   refine Lq.op rfl rfl rfl (OpQ.add rfl rfl rfl (by omega) (by omega)) ?_
   refine Lq.run 1 rfl ?_
   refine Lq.nil ?_
   refine Kt.again (k + 1) ⟨by omega, fun i hi => (Nat.lt_succ_iff_lt_or_eq.1 hi).elim (hall i) (fun e => by subst e; rw [← e2, ← e3]; simpa using h42)⟩ (by omega) (Sub.sel [10, 12, 27, 28, 29] rfl) (fun _ h => h)
 ·
  replace h30 := of_decide_eq_false h30
  have hkf : k = (factsL a xs xs.length).length := by rw [List.length_map] at h30; omega
  refine Wk.exit rfl ?_
  refine Kt.sel [] [] rfl ?_
  refine Wk.seq ?_
  refine Wk.regionQ ?_
  refine Lq.op (v := str ([])) rfl rfl rfl (OpQ.assign rfl rfl) ?_
  refine Lq.nil ?_
  refine Kt.sel [8] [_] rfl ?_
  refine Wk.ret (Kt.end1 rfl rfl fun w' hw => ?_)
  -- ret 1: str ([])
  exact ⟨ret_s (by rw [diffO_none (fun i hi => hall i (by omega))]), hw.below⟩

set_option maxHeartbeats 400000 in
/-- spec.l6Differ -/
theorem differ_ok (a b : St) (xs ys : List Int) (va vb : Value) (w : World) (ha : a.Fine) (hb : b.Fine) (hva : Ints w va xs) (hvb : Ints w vb ys) (hA : a.Els xs) (hB : b.Els ys) (hlen : xs.length = ys.length) (hl4 : xs.length ≤ 4) :
    Calls Tryd.prog 99 [vS a, va, vS b, vb].toArray w fun en w' => en = .returned (str (diffO (factsL a xs xs.length) (factsL b ys ys.length))) ∧ Below w.heap.size w w' := by
 refine fnStart (n := 48) (e := [(0, vS a), (1, va), (2, vS b), (3, vb)]) Tryd.func99 rfl rfl rfl rfl Ends.both ?_
 refine Wk.seq ?_
 refine Wk.region ?_
 refine Ll.box (v := vS a) rfl rfl rfl rfl rfl fun p4 hp4 => ?_
 show Ll _ _ (Own _ _ [_]) _ _ ((4, pt_ p4) :: _) _ _ _
 refine Ll.box (v := vS b) rfl rfl rfl rfl rfl fun p6 hp6 => ?_
 show Ll _ _ (Own _ _ [_, _]) _ _ ((6, pt_ p6) :: _) _ _ _
 refine Ll.op (v := str ([])) rfl rfl rfl (OpQ.assign rfl rfl) ?_
 refine Ll.nil ?_
 refine Kt.sel [1, 3, 4, 6] [_, _, _, _] rfl ?_
 refine Wk.seq ?_
 refine Wk.seq ?_
 refine Wk.regionQ ?_
 refine Lq.run 1 rfl ?_
 refine Lq.nil ?_
 refine Kt.sel [1, 3, 4, 6, 9] [_, _, _, _, _] rfl ?_
 refine Wk.block ?_
 refine Wk.loop (σ := Nat) (fun i => i ≤ xs.length ∧ (factsL a xs i).map signed = (factsL b ys i).map signed) (fun i => [(1, va), (3, vb), (4, pt_ p4), (6, pt_ p6), (9, i6_ ((i : Int) + 1))]) (fun i => Own w.heap.size w [bk_ p6 #[i6_ b.n, str b.set, str b.rel] 28, bk_ p4 #[i6_ a.n, str a.set, str a.rel] 28]) (fun i => xs.length - i) (0) ⟨by omega, rfl⟩ (Sub.cons rfl (Sub.cons rfl (Sub.cons rfl (Sub.cons rfl (Sub.cons (by simp [List.lookup]) Sub.nil))))) (fun _ h => h) ?_
 rintro i ⟨hi, hall⟩
 refine Wk.seq ?_
 refine Wk.seq ?_
 refine Wk.regionQ ?_
 refine Lq.run 2 rfl ?_
 refine Lq.op (v := i6_ ((xs.length : Int))) rfl rfl rfl (OpQ.lenRow rfl Tryd.runUnderlying24 rfl (ints_length _) (fun w1 hw1 => Row.own hva hw1)) ?_
 refine Lq.run 1 rfl ?_
 refine Lq.nil ?_
 refine Kt.sel [1, 3, 4, 6, 9, 16] [_, _, _, _, _, _] rfl ?_
 refine Wk.cond (b := decide (((i : Int) + 1) ≤ ((xs.length : Int)))) rfl (fun h16 => ?_) (fun h16 => ?_)
 ·
  replace h16 := of_decide_eq_true h16
  have hin : i < xs.length := by omega
  have hla : ((factL a xs i).map signed).length = 2 + 3 * i := by rw [List.length_map, factL_length]
  have hlb : ((factL b ys i).map signed).length = 2 + 3 * i := by rw [List.length_map, factL_length]
  refine Wk.skip ?_
  refine Kt.sel [1, 3, 4, 6, 9] [_, _, _, _, _] rfl ?_
  refine Wk.seq ?_
  refine Wk.block ?_
  refine Wk.seq ?_
  refine Wk.regionO [(0, true), (1, true), (2, true), (3, true), (4, false), (5, true)] Base.mixed (fun _ h => h.drawn) (by kernel_rfl) ?_
  refine Ld.take rfl rfl rfl rfl rfl (OpQ.loadBox (cs := #[i6_ a.n, str a.set, str a.rel]) 1 rfl Tryd.isAgg28 rfl rfl Tryd.sizeOf28) (fun _ h => h) ?_
  refine Ld.run 1 rfl (fun _ h => h) ?_
  refine Ld.take (v := i6_ (((i + 1 : Nat) : Int))) rfl rfl rfl rfl rfl (OpQ.cast (by simp) (OpQ.move rfl rfl)) (fun _ h => h) ?_
  refine Ld.take (v := sTake va ((i + 1))) rfl rfl rfl rfl rfl (OpQ.takeRow (i := ((i + 1 : Nat) : Int)) rfl Tryd.runUnderlying24 Tryd.sizeOf3 rfl rfl (by omega) (by rw [ints_length]; omega) (fun w1 hw1 => Row.own hva hw1)) (fun _ h => h) ?_
  refine Ld.loud rfl ?_
  refine Ll.callRow (xs := [.tmp 19, .tmp 22]) (m := (((factL a xs i).map signed)).length) (vs := strs (((factL a xs i).map signed))) (el := 9) (size := 1) rfl rfl rfl rfl Tryd.call127 rfl (fun w1 hw1 => l3Facts_ok a (sTake va ((i + 1))) (xs.take ((i + 1))) i (((factL a xs i).map signed)) w1 ha (Ints.take (Row.own hva hw1) ((i + 1)) (by omega)) (hA.take _) (by rw [List.length_take]; omega) (by omega) (by rw [fact_take (by omega)])) fun p23 cap23 cur23 hp23 hcp23 hlp23 htp23 => ?_
  refine Ll.nil (Ld.joint (fun _ h => h.tail) ?_)
  refine Ld.run 1 rfl (fun _ h => h.tail) ?_
  refine Ld.nil ?_
  refine Kt.sel [1, 3, 4, 6, 9, 10] [_, _, _, _, _, _] rfl ?_
  refine Wk.seq ?_
  refine Wk.regionO [(0, true), (1, true), (2, true), (3, true), (4, false), (5, true)] Base.mixed (fun _ h => h.drawn) (by kernel_rfl) ?_
  refine Ld.take rfl rfl rfl rfl rfl (OpQ.loadBox (cs := #[i6_ b.n, str b.set, str b.rel]) 1 rfl Tryd.isAgg28 rfl rfl Tryd.sizeOf28) (fun _ h => h) ?_
  refine Ld.run 1 rfl (fun _ h => h) ?_
  refine Ld.take (v := i6_ (((i + 1 : Nat) : Int))) rfl rfl rfl rfl rfl (OpQ.cast (by simp) (OpQ.move rfl rfl)) (fun _ h => h) ?_
  refine Ld.take (v := sTake vb ((i + 1))) rfl rfl rfl rfl rfl (OpQ.takeRow (i := ((i + 1 : Nat) : Int)) rfl Tryd.runUnderlying24 Tryd.sizeOf3 rfl rfl (by omega) (by rw [ints_length]; omega) (fun w1 hw1 => Row.own hvb hw1)) (fun _ h => h) ?_
  refine Ld.loud rfl ?_
  refine Ll.callRow (xs := [.tmp 24, .tmp 27]) (m := (((factL b ys i).map signed)).length) (vs := strs (((factL b ys i).map signed))) (el := 9) (size := 1) rfl rfl rfl rfl Tryd.call127 rfl (fun w1 hw1 => l3Facts_ok b (sTake vb ((i + 1))) (ys.take ((i + 1))) i (((factL b ys i).map signed)) w1 hb (Ints.take (Row.own hvb hw1) ((i + 1)) (by omega)) (hB.take _) (by rw [List.length_take]; omega) (by omega) (by rw [fact_take (by omega)])) fun p28 cap28 cur28 hp28 hcp28 hlp28 htp28 => ?_
  refine Ll.nil (Ld.joint (fun _ h => h.tail) ?_)
  refine Ld.run 1 rfl (fun _ h => h.tail) ?_
  refine Ld.nil ?_
  refine Kt.sel [1, 3, 4, 6, 9, 10, 11] [_, _, _, _, _, _, _] rfl ?_
  refine Wk.seq ?_
  refine Wk.regionQ ?_
  refine Lq.run 1 rfl ?_
  refine Lq.nil ?_
  refine Kt.sel [1, 3, 4, 6, 9, 10, 11, 12] [_, _, _, _, _, _, _, _] rfl ?_
  refine Wk.block ?_
  refine Wk.loop (σ := Nat) (fun k => k ≤ 2 + 3 * i ∧ ∀ j : Nat, j < k → ((factL a xs i).map signed).getD j [] = ((factL b ys i).map signed).getD j []) (fun k => [(1, va), (3, vb), (4, pt_ p4), (6, pt_ p6), (9, i6_ ((i : Int) + 1)), (10, sl_ p23 ((((factL a xs i).map signed)).length) cap23), (11, sl_ p28 ((((factL b ys i).map signed)).length) cap28), (12, i6_ ((k : Int)))]) (fun k => Own w.heap.size w [bk_ p28 cur28 9, bk_ p23 cur23 9, bk_ p6 #[i6_ b.n, str b.set, str b.rel] 28, bk_ p4 #[i6_ a.n, str a.set, str a.rel] 28]) (fun k => 2 + 3 * i - k) (0) ⟨by omega, fun j hj => absurd hj (by omega)⟩ (Sub.sel [1, 3, 4, 6, 9, 10, 11, 12] rfl) (fun _ h => h) ?_
  rintro k ⟨hk, hal⟩
  refine Wk.seq ?_
  refine Wk.seq ?_
  refine Wk.regionQ ?_
  refine Lq.run 2 rfl ?_
  refine Lq.op rfl rfl rfl (OpQ.lenS rfl Tryd.runUnderlying91 rfl) ?_
  refine Lq.run 1 rfl ?_
  refine Lq.nil ?_
  refine Kt.sel [1, 3, 4, 6, 9, 10, 11, 12, 32] [_, _, _, _, _, _, _, _, _] rfl ?_
  refine Wk.cond (b := decide (((k : Int)) < (((((factL a xs i).map signed)).length : Int)))) rfl (fun h32 => ?_) (fun h32 => ?_)
  ·
   replace h32 := of_decide_eq_true h32
   refine Wk.skip ?_
   refine Kt.sel [1, 3, 4, 6, 9, 10, 11, 12] [_, _, _, _, _, _, _, _] rfl ?_
   refine Wk.seq ?_
   refine Wk.block ?_
   refine Wk.seq ?_
   refine Wk.regionD Base.mixed (fun _ h => h.drawn) (by kernel_rfl) ?_
   refine Lq.run 2 rfl ?_
   refine Lq.op (v := pf_ p23 (((k : Int)).toNat)) rfl rfl rfl (OpQ.cast (by rw [Nat.zero_add]) (OpQ.indexAddr1 (i := (k : Int)) rfl Tryd.runUnderlying91 Tryd.sizeOf9 rfl rfl (by omega) (by omega))) ?_
   refine Lq.op (v := str ((((factL a xs i).map signed)).getD (((k : Int)).toNat) [])) rfl rfl rfl (OpQ.loadAt 1 rfl Tryd.isAgg9 rfl rfl (cur_at (by simpa using htp23) (strs_at (c := ((factL a xs i).map signed)) (off := ((k : Int)).toNat) (by first | (simp; done) | (simp; omega) | omega)))) ?_
   refine Lq.run 2 rfl ?_
   refine Lq.op (v := pf_ p28 (((k : Int)).toNat)) rfl rfl rfl (OpQ.cast (by rw [Nat.zero_add]) (OpQ.indexAddr1 (i := (k : Int)) rfl Tryd.runUnderlying91 Tryd.sizeOf9 rfl rfl (by omega) (by omega))) ?_
   refine Lq.op (v := str ((((factL b ys i).map signed)).getD (((k : Int)).toNat) [])) rfl rfl rfl (OpQ.loadAt 0 rfl Tryd.isAgg9 rfl rfl (cur_at (by simpa using htp28) (strs_at (c := ((factL b ys i).map signed)) (off := ((k : Int)).toNat) (by first | (simp; done) | (simp; omega) | omega)))) ?_
   refine Lq.op rfl rfl rfl (OpQ.sneq rfl rfl rfl) ?_
   refine Lq.nil ?_
   refine Kt.sel [1, 3, 4, 6, 9, 10, 11, 12, 43] [_, _, _, _, _, _, _, _, _] rfl ?_
   refine Wk.cond (b := !(((((factL a xs i).map signed)).getD (((k : Int)).toNat) []) == ((((factL b ys i).map signed)).getD (((k : Int)).toNat) []))) rfl (fun h43 => ?_) (fun h43 => ?_)
   ·
    replace h43 := not_true h43
    have hne : ((factL a xs i).map signed).getD k [] ≠ ((factL b ys i).map signed).getD k [] := by simpa using h43
    refine Wk.seq ?_
    refine Wk.regionQ ?_
    refine Lq.run 2 rfl ?_
    refine Lq.op (v := pf_ p23 (((k : Int)).toNat)) rfl rfl rfl (OpQ.cast (by rw [Nat.zero_add]) (OpQ.indexAddr1 (i := (k : Int)) rfl Tryd.runUnderlying91 Tryd.sizeOf9 rfl rfl (by omega) (by omega))) ?_
    refine Lq.op (v := str ((((factL a xs i).map signed)).getD (((k : Int)).toNat) [])) rfl rfl rfl (OpQ.loadAt 1 rfl Tryd.isAgg9 rfl rfl (cur_at (by simpa using htp23) (strs_at (c := ((factL a xs i).map signed)) (off := ((k : Int)).toNat) (by first | (simp; done) | (simp; omega) | omega)))) ?_
    refine Lq.run 1 rfl ?_
    refine Lq.nil ?_
    refine Kt.sel [8] [_] rfl ?_
    refine Wk.ret (Kt.end1 rfl rfl fun w' hw => ?_)
    -- ret 0: str ((((factL a xs i).map signed)).getD (((k : Int)).toNat) [])
    exact ⟨ret_s (by rw [← hlen, differ_at hin (by rw [factL_length]; omega) hall hal hne]; rfl), hw.below⟩
   ·
    replace h43 := not_false h43
    refine Wk.skip ?_
    refine Kt.sel [1, 3, 4, 6, 9, 10, 11, 12] [_, _, _, _, _, _, _, _] rfl ?_
    refine Wk.regionQ ?_
    refine Lq.run 1 rfl ?_
    refine Lq.op rfl rfl rfl (OpQ.add rfl rfl rfl (by omega) (by omega)) ?_
    refine Lq.run 1 rfl ?_
    refine Lq.nil ?_
    refine Kt.again (k + 1) ⟨by omega, fun j hj => (Nat.lt_succ_iff_lt_or_eq.1 hj).elim (hal j) (fun e => by subst e; simpa using h43)⟩ (by omega) (Sub.sel [1, 3, 4, 6, 9, 10, 11, 12] rfl) (fun _ h => h)
  ·
   replace h32 := of_decide_eq_false h32
   have hsame : ((factL a xs i).map signed) = ((factL b ys i).map signed) := list_extS (by rw [hla, hlb]) (fun j hj => hal j (by omega))
   refine Wk.exit rfl ?_
   refine Kt.sel [1, 3, 4, 6, 9] [_, _, _, _, _] rfl ?_
   refine Wk.regionQ ?_
   refine Lq.run 1 rfl ?_
   refine Lq.op rfl rfl rfl (OpQ.add rfl rfl rfl (by omega) (by omega)) ?_
   refine Lq.run 1 rfl ?_
   refine Lq.nil ?_
   refine Kt.again (i + 1) ⟨by omega, by rw [facts_step, facts_step, hall, hsame]⟩ (by omega) (Sub.cons rfl (Sub.cons rfl (Sub.cons rfl (Sub.cons rfl (Sub.cons (by simp [List.lookup]) Sub.nil))))) (fun _ h => h.sub (List.Sublist.cons _ (List.Sublist.cons _ (List.Sublist.cons_cons _ (List.Sublist.cons_cons _ (List.Sublist.refl _))))))
 ·
  replace h16 := of_decide_eq_false h16
  have hix : i = xs.length := by omega
  refine Wk.exit rfl ?_
  refine Kt.sel [] [] rfl ?_
  refine Wk.seq ?_
  refine Wk.regionQ ?_
  refine Lq.op (v := str ([])) rfl rfl rfl (OpQ.assign rfl rfl) ?_
  refine Lq.nil ?_
  refine Kt.sel [8] [_] rfl ?_
  refine Wk.ret (Kt.end1 rfl rfl fun w' hw => ?_)
  -- ret 1: str ([])
  exact ⟨ret_s (by rw [← hlen, differ_none (by rw [← hix]; exact hall)]), hw.below⟩

set_option maxHeartbeats 400000 in
/-- impl.tellApart|zero -/
theorem ta_zero (a b : St) (xs ys : List Int) (va vb : Value) (w : World) (hVa : validB a = true) (hVb : validB b = true) (hva : Ints w va xs) (hvb : Ints w vb ys) (hA : a.Els xs) (hB : b.Els ys) (hlen : xs.length = ys.length) (hl4 : xs.length ≤ 4) (hwin : winB 0 a xs b ys = false) :
    Calls Tryd.prog 51 [vS a, va, vS b, vb, i6_ 0].toArray w fun en w' => en = .returned (.tuple #[str (tellF 0 a xs b ys), .bool true]) ∧ Below w.heap.size w w' := by
 refine fnStart (n := 86) (e := [(0, vS a), (1, va), (2, vS b), (3, vb), (4, i6_ 0)]) Tryd.func51 rfl rfl rfl rfl Ends.both ?_
 have ha := validB_fine hVa
 have hb := validB_fine hVb
 have hm8 := ha.hi
 have hm1 := ha.lo
 have hb8 := hb.hi
 have hb1 := hb.lo
 refine Wk.seq ?_
 refine Wk.region ?_
 refine Ll.box (v := vS a) rfl rfl rfl rfl rfl fun p5 hp5 => ?_
 show Ll _ _ (Own _ _ [_]) _ _ ((5, pt_ p5) :: _) _ _ _
 refine Ll.box (v := vS b) rfl rfl rfl rfl rfl fun p7 hp7 => ?_
 show Ll _ _ (Own _ _ [_, _]) _ _ ((7, pt_ p7) :: _) _ _ _
 refine Ll.op (v := str ([])) rfl rfl rfl (OpQ.assign rfl rfl) ?_
 refine Ll.run 1 rfl ?_
 refine Ll.nil ?_
 refine Kt.sel [1, 3, 4, 5, 7] [_, _, _, _, _] rfl ?_
 refine Wk.seq ?_
 refine Wk.seq ?_
 refine Wk.regionQ ?_
 refine Lq.op rfl rfl rfl (OpQ.loadBox (cs := #[i6_ a.n, str a.set, str a.rel]) 1 rfl Tryd.isAgg28 rfl rfl Tryd.sizeOf28) ?_
 refine Lq.run 1 rfl ?_
 refine Lq.op rfl rfl rfl (OpQ.loadBox (cs := #[i6_ b.n, str b.set, str b.rel]) 0 rfl Tryd.isAgg28 rfl rfl Tryd.sizeOf28) ?_
 refine Lq.run 1 rfl ?_
 refine Lq.op (v := bo_ (sameB a xs b ys)) rfl rfl rfl (OpQ.call rfl Tryd.call76 rfl Own.stable (fun w1 hw1 => sameWay_ok a b xs ys va vb w1 ha hb (Row.own hva hw1) (Row.own hvb hw1) hA hB (by omega) (by omega))) ?_
 refine Lq.run 1 rfl ?_
 refine Lq.nil ?_
 refine Kt.sel [1, 3, 4, 5, 7, 25] [_, _, _, _, _, _] rfl ?_
 refine Wk.cond (b := !(sameB a xs b ys)) rfl (fun h25 => ?_) (fun h25 => ?_)
 ·
  replace h25 := not_true h25
  refine Wk.seq ?_
  refine Wk.regionQ ?_
  refine Lq.op rfl rfl rfl (OpQ.loadBox (cs := #[i6_ a.n, str a.set, str a.rel]) 1 rfl Tryd.isAgg28 rfl rfl Tryd.sizeOf28) ?_
  refine Lq.run 1 rfl ?_
  refine Lq.op rfl rfl rfl (OpQ.loadBox (cs := #[i6_ b.n, str b.set, str b.rel]) 0 rfl Tryd.isAgg28 rfl rfl Tryd.sizeOf28) ?_
  refine Lq.run 1 rfl ?_
  refine Lq.op (v := str (diffO (factsL a xs xs.length) (factsL b ys ys.length))) rfl rfl rfl (OpQ.call rfl Tryd.call103 rfl Own.stable (fun w1 hw1 => firstFact_ok a b xs ys va vb w1 ha hb (Row.own hva hw1) (Row.own hvb hw1) hA hB (by omega) (by omega))) ?_
  refine Lq.run 2 rfl ?_
  refine Lq.nil ?_
  refine Kt.sel [10, 11] [_, _] rfl ?_
  refine Wk.ret (Kt.end2 rfl rfl rfl fun w' hw => ?_)
  -- ret 0: str (diffO (factsL a xs xs.length) (factsL b ys ys.length)); bo_ true
  exact ⟨by rw [tell_diff (by simp_all)], hw.below⟩
 ·
  replace h25 := not_false h25
  exact absurd hwin (by unfold winB; rw [show sameB a xs b ys = true from by simp_all]; simp [goB])

set_option maxHeartbeats 400000 in
/-- impl.tellApart -/
theorem ta_of (n : Nat) (ih : ∀ (a b : St) (xs ys : List Int) (va vb : Value) (w : World), validB a = true → validB b = true → Ints w va xs → Ints w vb ys → a.Els xs → b.Els ys → xs.length = ys.length → xs.length + n ≤ 4 → n ≤ 3 → winB n a xs b ys = false → Calls Tryd.prog 51 #[vS a, va, vS b, vb, .int .i64 (n : Int)] w fun en w' => en = .returned (.tuple #[str (tellF n a xs b ys), .bool true]) ∧ Below w.heap.size w w') (a b : St) (xs ys : List Int) (va vb : Value) (w : World) (hVa : validB a = true) (hVb : validB b = true) (hva : Ints w va xs) (hvb : Ints w vb ys) (hA : a.Els xs) (hB : b.Els ys) (hlen : xs.length = ys.length) (hl5 : xs.length + (n + 1) ≤ 4) (hn3 : n + 1 ≤ 3) (hwin : winB (n + 1) a xs b ys = false) :
    Calls Tryd.prog 51 [vS a, va, vS b, vb, i6_ ((n : Int) + 1)].toArray w fun en w' => en = .returned (.tuple #[str (tellF (n + 1) a xs b ys), .bool true]) ∧ Below w.heap.size w w' := by
 refine fnStart (n := 86) (e := [(0, vS a), (1, va), (2, vS b), (3, vb), (4, i6_ ((n : Int) + 1))]) Tryd.func51 rfl rfl rfl rfl Ends.both ?_
 have ha := validB_fine hVa
 have hb := validB_fine hVb
 have hm8 := ha.hi
 have hm1 := ha.lo
 have hb8 := hb.hi
 have hb1 := hb.lo
 refine Wk.seq ?_
 refine Wk.region ?_
 refine Ll.box (v := vS a) rfl rfl rfl rfl rfl fun p5 hp5 => ?_
 show Ll _ _ (Own _ _ [_]) _ _ ((5, pt_ p5) :: _) _ _ _
 refine Ll.box (v := vS b) rfl rfl rfl rfl rfl fun p7 hp7 => ?_
 show Ll _ _ (Own _ _ [_, _]) _ _ ((7, pt_ p7) :: _) _ _ _
 refine Ll.op (v := str ([])) rfl rfl rfl (OpQ.assign rfl rfl) ?_
 refine Ll.run 1 rfl ?_
 refine Ll.nil ?_
 refine Kt.sel [1, 3, 4, 5, 7] [_, _, _, _, _] rfl ?_
 refine Wk.seq ?_
 refine Wk.seq ?_
 refine Wk.regionQ ?_
 refine Lq.op rfl rfl rfl (OpQ.loadBox (cs := #[i6_ a.n, str a.set, str a.rel]) 1 rfl Tryd.isAgg28 rfl rfl Tryd.sizeOf28) ?_
 refine Lq.run 1 rfl ?_
 refine Lq.op rfl rfl rfl (OpQ.loadBox (cs := #[i6_ b.n, str b.set, str b.rel]) 0 rfl Tryd.isAgg28 rfl rfl Tryd.sizeOf28) ?_
 refine Lq.run 1 rfl ?_
 refine Lq.op (v := bo_ (sameB a xs b ys)) rfl rfl rfl (OpQ.call rfl Tryd.call76 rfl Own.stable (fun w1 hw1 => sameWay_ok a b xs ys va vb w1 ha hb (Row.own hva hw1) (Row.own hvb hw1) hA hB (by omega) (by omega))) ?_
 refine Lq.run 1 rfl ?_
 refine Lq.nil ?_
 refine Kt.sel [1, 3, 4, 5, 7, 25] [_, _, _, _, _, _] rfl ?_
 refine Wk.cond (b := !(sameB a xs b ys)) rfl (fun h25 => ?_) (fun h25 => ?_)
 ·
  replace h25 := not_true h25
  refine Wk.seq ?_
  refine Wk.regionQ ?_
  refine Lq.op rfl rfl rfl (OpQ.loadBox (cs := #[i6_ a.n, str a.set, str a.rel]) 1 rfl Tryd.isAgg28 rfl rfl Tryd.sizeOf28) ?_
  refine Lq.run 1 rfl ?_
  refine Lq.op rfl rfl rfl (OpQ.loadBox (cs := #[i6_ b.n, str b.set, str b.rel]) 0 rfl Tryd.isAgg28 rfl rfl Tryd.sizeOf28) ?_
  refine Lq.run 1 rfl ?_
  refine Lq.op (v := str (diffO (factsL a xs xs.length) (factsL b ys ys.length))) rfl rfl rfl (OpQ.call rfl Tryd.call103 rfl Own.stable (fun w1 hw1 => firstFact_ok a b xs ys va vb w1 ha hb (Row.own hva hw1) (Row.own hvb hw1) hA hB (by omega) (by omega))) ?_
  refine Lq.run 2 rfl ?_
  refine Lq.nil ?_
  refine Kt.sel [10, 11] [_, _] rfl ?_
  refine Wk.ret (Kt.end2 rfl rfl rfl fun w' hw => ?_)
  -- ret 0: str (diffO (factsL a xs xs.length) (factsL b ys ys.length)); bo_ true
  exact ⟨by rw [tell_diff (by simp_all)], hw.below⟩
 ·
  replace h25 := not_false h25
  refine Wk.skip ?_
  refine Kt.sel [1, 3, 4, 5, 7] [_, _, _, _, _] rfl ?_
  refine Wk.seq ?_
  refine Wk.regionQ ?_
  refine Lq.op rfl rfl rfl (OpQ.loadBox (cs := #[i6_ a.n, str a.set, str a.rel]) 1 rfl Tryd.isAgg28 rfl rfl Tryd.sizeOf28) ?_
  refine Lq.run 1 rfl ?_
  refine Lq.op rfl rfl rfl (OpQ.loadBox (cs := #[i6_ b.n, str b.set, str b.rel]) 0 rfl Tryd.isAgg28 rfl rfl Tryd.sizeOf28) ?_
  refine Lq.run 2 rfl ?_
  have hsame : sameB a xs b ys = true := by simp_all
  obtain ⟨sd, x, hmv⟩ := move_ex hsame hwin
  have hmv2 : (if sameB a xs b ys && decide (1 ≤ (n : Int) + 1) then moveO ((n : Int) + 1 - 1).toNat a xs b ys else none) = some (sd, x) := by
   rw [hsame, decide_eq_true (show 1 ≤ (n : Int) + 1 by omega), show ((n : Int) + 1 - 1).toNat = n from by omega]; exact hmv
  refine Lq.op (v := .tuple #[str (sideS (some (sd, x))), i6_ ((x : Int)), bo_ true]) rfl rfl rfl (OpQ.call rfl Tryd.call104 rfl Own.stable (fun w1 hw1 => by have h9 := firstMove_ok a b xs ys va vb w1 ha hb (Row.own hva hw1) (Row.own hvb hw1) hA hB (by first | (simp; done) | (simp; omega) | omega) (by first | (simp; done) | (simp; omega) | omega) ((n : Int) + 1) (by omega) (by omega); rw [hmv2] at h9; exact h9)) ?_
  refine Lq.run 1 rfl ?_
  refine Lq.op (v := str (sideS (some (sd, x)))) rfl rfl rfl (OpQ.extract rfl rfl rfl) ?_
  refine Lq.op (v := i6_ ((x : Int))) rfl rfl rfl (OpQ.extract rfl rfl rfl) ?_
  refine Lq.op (v := bo_ true) rfl rfl rfl (OpQ.extract rfl rfl rfl) ?_
  refine Lq.run 3 rfl ?_
  refine Lq.nil ?_
  refine Kt.sel [1, 3, 4, 5, 7, 12, 13] [_, _, _, _, _, _, _] rfl ?_
  refine Wk.seq ?_
  refine Wk.regionQ ?_
  refine Lq.op (v := str ([83])) rfl rfl rfl (OpQ.assign rfl rfl) ?_
  refine Lq.nil ?_
  refine Kt.sel [1, 3, 4, 5, 7, 12, 13, 15] [_, _, _, _, _, _, _, _] rfl ?_
  refine Wk.seq ?_
  refine Wk.seq ?_
  refine Wk.regionQ ?_
  refine Lq.run 1 rfl ?_
  refine Lq.op rfl rfl rfl (OpQ.seql rfl rfl rfl) ?_
  refine Lq.nil ?_
  refine Kt.sel [1, 3, 4, 5, 7, 13, 15, 42] [_, _, _, _, _, _, _, _] rfl ?_
  refine Wk.cond (b := (sideS (some (sd, x))) == ([98])) rfl (fun h42 => ?_) (fun h42 => ?_)
  ·
   obtain rfl : sd = false := by
    cases sd with
    | false => rfl
    | true => exact absurd h42 (by simp [sideS])
   obtain ⟨hxm, hno⟩ := move_at2 hlen hmv
   refine Wk.seq ?_
   refine Wk.regionQ ?_
   refine Lq.op (v := str ([33, 83])) rfl rfl rfl (OpQ.assign rfl rfl) ?_
   refine Lq.nil ?_
   refine Kt.sel [1, 3, 4, 5, 7, 13, 15] [_, _, _, _, _, _, _] rfl ?_
   refine Wk.region ?_
   refine Ll.op rfl rfl rfl (OpQ.loadBox (cs := #[i6_ b.n, str b.set, str b.rel]) 0 rfl Tryd.isAgg28 rfl rfl Tryd.sizeOf28) ?_
   refine Ll.run 1 rfl ?_
   refine Ll.op rfl rfl rfl (OpQ.loadBox (cs := #[i6_ a.n, str a.set, str a.rel]) 1 rfl Tryd.isAgg28 rfl rfl Tryd.sizeOf28) ?_
   refine Ll.run 1 rfl ?_
   refine Ll.storeBox (cs' := #[i6_ b.n, str b.set, str b.rel]) (hs' := [_, bk_ p5 #[i6_ b.n, str b.set, str b.rel] 28]) 1 rfl rfl rfl rfl rfl (by kernel_rfl : _ = some Tryd.t28) rfl rfl rfl rfl rfl ?_
   refine Ll.run 1 rfl ?_
   refine Ll.storeBox (cs' := #[i6_ a.n, str a.set, str a.rel]) (hs' := [bk_ p7 #[i6_ a.n, str a.set, str a.rel] 28, _]) 0 rfl rfl rfl rfl rfl (by kernel_rfl : _ = some Tryd.t28) rfl rfl rfl rfl rfl ?_
   refine Ll.run 1 rfl ?_
   refine Ll.nil ?_
   refine Kt.sel [1, 3, 4, 5, 7, 13, 15] [_, _, _, _, _, _, _] rfl ?_
   refine Wk.seq ?_
   refine Wk.region ?_
   refine Ll.slice (xs := []) (vs := []) Base.elem91 rfl rfl rfl rfl rfl rfl (by decide) rfl fun p47 hp47 => ?_
   refine Ll.run 1 rfl ?_
   refine Ll.nil ?_
   refine Kt.sel [1, 3, 4, 5, 7, 13, 15, 16] [_, _, _, _, _, _, _, _] rfl ?_
   refine Wk.seq ?_
   refine Wk.seq ?_
   refine Wk.regionQ ?_
   refine Lq.op rfl rfl rfl (OpQ.fieldAddr rfl Tryd.runUnderlying28 rfl Tryd.sizeOf3 rfl rfl) ?_
   refine Lq.op rfl rfl rfl (OpQ.loadOwn 1 rfl Tryd.isAgg3 rfl rfl rfl) ?_
   refine Lq.run 1 rfl ?_
   refine Lq.nil ?_
   refine Kt.sel [1, 3, 4, 5, 7, 13, 15, 16, 49, 50] [_, _, _, _, _, _, _, _, _, _] rfl ?_
   refine Wk.block ?_
   refine Wk.loop (σ := Nat × Nat × Nat × Array Value) (fun ⟨k, g, c, cur⟩ => (k : Int) ≤ a.n ∧ cur.size = c * 1 ∧ (tlL (fun y : Nat => tellF n b (ys ++ [(x : Int)]) a (xs ++ [(y : Int)])) k).length ≤ c ∧ cur.toList.take (tlL (fun y : Nat => tellF n b (ys ++ [(x : Int)]) a (xs ++ [(y : Int)])) k).length = strs (tlL (fun y : Nat => tellF n b (ys ++ [(x : Int)]) a (xs ++ [(y : Int)])) k)) (fun ⟨k, g, c, cur⟩ => [(1, vb), (3, va), (4, i6_ ((n : Int) + 1)), (5, pt_ p5), (7, pt_ p7), (13, i6_ ((x : Int))), (15, str ([33, 83])), (16, sl_ g ((tlL (fun y : Nat => tellF n b (ys ++ [(x : Int)]) a (xs ++ [(y : Int)])) k).length) c), (49, i6_ a.n), (50, i6_ ((k : Int)))]) (fun ⟨k, g, c, cur⟩ => Own w.heap.size w [bk_ g cur 9, bk_ p7 #[i6_ a.n, str a.set, str a.rel] 28, bk_ p5 #[i6_ b.n, str b.set, str b.rel] 28]) (fun ⟨k, g, c, cur⟩ => (a.n - k).toNat) ((0, p47, 0, #[])) ⟨by omega, rfl, Nat.le_refl 0, rfl⟩ (Sub.sel [1, 3, 4, 5, 7, 13, 15, 16, 49, 50] rfl) (fun _ h => h) ?_
   rintro ⟨k, g, c, cur⟩ ⟨hk, hc, hl, ht⟩
   dsimp only
   have htk := tlL_len (fun y : Nat => tellF n b (ys ++ [(x : Int)]) a (xs ++ [(y : Int)])) k
   refine Wk.seq ?_
   refine Wk.regionQ ?_
   refine Lq.run 1 rfl ?_
   refine Lq.nil ?_
   refine Kt.sel [1, 3, 4, 5, 7, 13, 15, 16, 49, 50, 51] [_, _, _, _, _, _, _, _, _, _, _] rfl ?_
   refine Wk.seq ?_
   refine Wk.cond (b := decide (((k : Int)) < a.n)) rfl (fun h51 => ?_) (fun h51 => ?_)
   ·
    replace h51 := of_decide_eq_true h51
    have hE1 := els_more hB (x := (x : Int)) ⟨by omega, by omega⟩
    have hE2 := els_more hA (x := (k : Int)) ⟨by omega, by omega⟩
    have hx9 : b.El (x : Int) := ⟨by omega, by omega⟩
    refine Wk.skip ?_
    refine Kt.sel [1, 3, 4, 5, 7, 13, 15, 16, 49, 50] [_, _, _, _, _, _, _, _, _, _] rfl ?_
    refine Wk.seq ?_
    refine Wk.block ?_
    refine Wk.seq ?_
    refine Wk.regionQ ?_
    refine Lq.run 2 rfl ?_
    refine Lq.nil ?_
    refine Kt.sel [1, 3, 4, 5, 7, 13, 15, 16, 17, 49, 50] [_, _, _, _, _, _, _, _, _, _, _] rfl ?_
    refine Wk.seq ?_
    refine Wk.regionO [(0, true), (1, true), (2, true), (4, true), (5, true), (6, true), (8, true), (9, true), (3, false), (7, false), (10, false), (11, true), (12, true), (13, true), (14, true), (15, true)] Base.mixed (fun _ h => h.drawn) (by kernel_rfl) ?_
    refine Ld.take rfl rfl rfl rfl rfl (OpQ.loadBox (cs := #[i6_ b.n, str b.set, str b.rel]) 2 rfl Tryd.isAgg28 rfl rfl Tryd.sizeOf28) (fun _ h => h) ?_
    refine Ld.run 2 rfl (fun _ h => h) ?_
    refine Ld.take rfl rfl rfl rfl rfl (OpQ.loadBox (cs := #[i6_ a.n, str a.set, str a.rel]) 1 rfl Tryd.isAgg28 rfl rfl Tryd.sizeOf28) (fun _ h => h) ?_
    refine Ld.run 3 rfl (fun _ h => h) ?_
    refine Ld.take (v := i6_ ((n : Int))) rfl rfl rfl rfl rfl (OpQ.cast (by congr 1; omega) (OpQ.sub rfl rfl rfl (by omega) (by omega))) (fun _ h => h) ?_
    refine Ld.loud rfl ?_
    refine Ll.callRow (xs := [.tmp 55, .tmp 56]) (m := (ys ++ [(x : Int)]).length) (vs := ints (ys ++ [(x : Int)])) (el := 3) (size := 1) rfl rfl rfl rfl Tryd.call91 rfl (fun w1 hw1 => with_ok vb ys ((x : Int)) w1 (Row.own hvb hw1) (by omega)) fun p57 cap57 cur57 hp57 hcp57 hlp57 htp57 => ?_
    refine Ll.nil (Ld.joint (fun _ h => h.tail) ?_)
    refine Ld.loud rfl ?_
    refine Ll.callRow (xs := [.tmp 59, .tmp 60]) (m := (xs ++ [(k : Int)]).length) (vs := ints (xs ++ [(k : Int)])) (el := 3) (size := 1) rfl rfl rfl rfl Tryd.call91 rfl (fun w1 hw1 => with_ok va xs ((k : Int)) w1 (Row.own hva hw1) (by omega)) fun p61 cap61 cur61 hp61 hcp61 hlp61 htp61 => ?_
    refine Ll.nil (Ld.joint (fun _ h => h.tail.tail) ?_)
    refine Ld.loud rfl ?_
    refine Ll.op (v := .tuple #[str (tellF n b (ys ++ [(x : Int)]) a (xs ++ [(k : Int)])), bo_ true]) rfl rfl rfl (OpQ.call rfl Tryd.call51 rfl Own.stable (fun w1 hw1 => ih b a (ys ++ [(x : Int)]) (xs ++ [(k : Int)]) (sl_ p57 ((ys ++ [(x : Int)]).length) cap57) (sl_ p61 ((xs ++ [(k : Int)]).length) cap61) w1 hVb hVa (Own.row hw1 (i := 1) rfl (by simpa using htp57) (by simp) hlp57) (Own.row hw1 (i := 0) rfl (by simpa using htp61) (by simp) hlp61) hE1 hE2 (by simp [hlen]) (by rw [List.length_append, List.length_singleton]; omega) (by omega) (hno k (by omega)))) ?_
    refine Ll.nil (Ld.joint (fun _ h => h.tail.tail) ?_)
    refine Ld.run 1 rfl (fun _ h => h.tail.tail) ?_
    refine Ld.take (v := str (tellF n b (ys ++ [(x : Int)]) a (xs ++ [(k : Int)]))) rfl rfl rfl rfl rfl (OpQ.extract rfl rfl rfl) (fun _ h => h.tail.tail) ?_
    refine Ld.take (v := bo_ true) rfl rfl rfl rfl rfl (OpQ.extract rfl rfl rfl) (fun _ h => h.tail.tail) ?_
    refine Ld.run 2 rfl (fun _ h => h.tail.tail) ?_
    refine Ld.nil ?_
    refine Kt.sel [1, 3, 4, 5, 7, 13, 15, 16, 18, 19, 49, 50] [_, _, _, _, _, _, _, _, _, _, _, _] rfl ?_
    refine Wk.seq ?_
    refine Wk.seq ?_
    refine Wk.regionQ ?_
    refine Lq.run 2 rfl ?_
    refine Lq.nil ?_
    refine Kt.sel [1, 3, 4, 5, 7, 13, 15, 16, 18, 49, 50, 68] [_, _, _, _, _, _, _, _, _, _, _, _] rfl ?_
    refine Wk.condF rfl ?_
    refine Wk.skip ?_
    refine Kt.sel [1, 3, 4, 5, 7, 13, 15, 16, 18, 49, 50] [_, _, _, _, _, _, _, _, _, _, _] rfl ?_
    refine Wk.region ?_
    refine Ll.run 2 rfl ?_
    refine Ll.slice (xs := [.tmp 70]) (vs := [str (tellF n b (ys ++ [(x : Int)]) a (xs ++ [(k : Int)]))]) Base.elem91 rfl rfl rfl rfl rfl rfl (by decide) rfl fun p71 hp71 => ?_
    refine Ll.appendStrs (xs := tlL (fun y : Nat => tellF n b (ys ++ [(x : Int)]) a (xs ++ [(y : Int)])) k) (ys := ([tellF n b (ys ++ [(x : Int)]) a (xs ++ [(k : Int)])] : List (List UInt8))) Base.elem91 3 rfl rfl rfl rfl rfl rfl rfl hc hl ht (fun w1 hw1 => (Own.row hw1 (i := 0) rfl (n := 1) (cap := 1) (vs := strs ([tellF n b (ys ++ [(x : Int)]) a (xs ++ [(k : Int)])] : List (List UInt8))) rfl rfl (by decide))) (((tlL (fun y : Nat => tellF n b (ys ++ [(x : Int)]) a (xs ++ [(y : Int)])) k) ++ (([tellF n b (ys ++ [(x : Int)]) a (xs ++ [(k : Int)])] : List (List UInt8)))).length) (by first | (simp; done) | (simp; omega)) (by first | (simp; done) | (simp; omega) | omega) fun p72 cap72 cur72 hp72 hcp72 hlp72 htp72 => ?_
    show Ll _ _ (Own _ _ [_, _, _, _, _, _]) _ _ ((72, sl_ p72 ((((tlL (fun y : Nat => tellF n b (ys ++ [(x : Int)]) a (xs ++ [(y : Int)])) k) ++ (([tellF n b (ys ++ [(x : Int)]) a (xs ++ [(k : Int)])] : List (List UInt8)))).length)) cap72) :: _) _ _ _
    refine Ll.run 1 rfl ?_
    refine Ll.nil ?_
    refine Kt.sel [1, 3, 4, 5, 7, 13, 15, 16, 49, 50] [_, _, _, _, _, _, _, _, _, _] rfl ?_
    refine Wk.regionQ ?_
    refine Lq.op rfl rfl rfl (OpQ.add rfl rfl rfl (by omega) (by omega)) ?_
    refine Lq.run 1 rfl ?_
    refine Lq.nil ?_
    refine Kt.again ((k + 1, p72, cap72, cur72)) ⟨by omega, by simpa using hcp72, by rw [tlL_step]; exact hlp72, by rw [tlL_step]; simpa only [Nat.mul_one] using htp72⟩ (by omega) (Sub.cons rfl (Sub.cons rfl (Sub.cons rfl (Sub.cons rfl (Sub.cons rfl (Sub.cons rfl (Sub.cons rfl (Sub.cons (by rw [tlL_step]; rfl) (Sub.sel [49, 50] rfl))))))))) (fun _ h => h.sub (List.Sublist.cons _ (List.Sublist.cons _ (List.Sublist.cons _ (List.Sublist.cons_cons _ (List.Sublist.cons_cons _ (List.Sublist.cons_cons _ (List.Sublist.refl _))))))))
   ·
    replace h51 := of_decide_eq_false h51
    have hkn : k = a.n.toNat := by omega
    have hT : ([33, 83] ++ nameS ys.length) ++ joinN [38] (dedup (tlL (fun y : Nat => tellF n b (ys ++ [(x : Int)]) a (xs ++ [(y : Int)])) k)) = tellF (n + 1) a xs b ys := by
     rw [hkn, tell_some2 hsame hmv, hlen]; rfl
    have hS : (tellF (n + 1) a xs b ys).length ≤ 4000 := Nat.le_trans (tell_len (n + 1) (by omega) (by omega) (by omega) (by omega)) (Nat.le_trans (LT3 hn3) (by decide))
    have htl : ∀ s ∈ tlL (fun y : Nat => tellF n b (ys ++ [(x : Int)]) a (xs ++ [(y : Int)])) k, s.length ≤ 4000 := fun s hs => by
     obtain ⟨i, _, rfl⟩ := List.mem_map.1 hs
     exact Nat.le_trans (tell_len n (by omega) (by omega) (by omega) (by omega)) (Nat.le_trans (LT3 (by omega)) (by decide))
    have hdl := dedup_memL htl
    have hd0 := dedup_pos (l := tlL (fun y : Nat => tellF n b (ys ++ [(x : Int)]) a (xs ++ [(y : Int)])) k) (by omega)
    have hdn := dedup_le (tlL (fun y : Nat => tellF n b (ys ++ [(x : Int)]) a (xs ++ [(y : Int)])) k)
    have hjl := joinN_len (op := [38]) (by decide) hdl hd0
    have hnm := nameS_length (show ys.length < 4 by omega)
    refine Wk.exit rfl ?_
    refine Kt.sel [1, 15, 16] [_, _, _] rfl ?_
    refine Wk.seq ?_
    refine Wk.region ?_
    refine Ll.run 2 rfl ?_
    refine Ll.op (v := i6_ ((ys.length : Int))) rfl rfl rfl (OpQ.lenRow rfl Tryd.runUnderlying24 rfl (ints_length _) (fun w1 hw1 => Row.own hvb hw1)) ?_
    refine Ll.op (v := str (nameS ys.length)) rfl rfl rfl (OpQ.call rfl Tryd.call93 rfl Own.stable (fun w1 hw1 => nameOf_ok ys.length w1 (by omega))) ?_
    refine Ll.op rfl rfl rfl (OpQ.sadd rfl rfl rfl (by first | omega | (simp only [List.length_append, List.length_cons, List.length_nil]; omega))) ?_
    refine Ll.run 1 rfl ?_
    refine Ll.callRow (xs := [.tmp 79]) (m := (dedup (tlL (fun y : Nat => tellF n b (ys ++ [(x : Int)]) a (xs ++ [(y : Int)])) k)).length) (vs := strs (dedup (tlL (fun y : Nat => tellF n b (ys ++ [(x : Int)]) a (xs ++ [(y : Int)])) k))) (el := 9) (size := 1) rfl rfl rfl rfl Tryd.call92 rfl (fun w1 hw1 => withoutEqual_ok (sl_ g ((tlL (fun y : Nat => tellF n b (ys ++ [(x : Int)]) a (xs ++ [(y : Int)])) k).length) c) (tlL (fun y : Nat => tellF n b (ys ++ [(x : Int)]) a (xs ++ [(y : Int)])) k) w1 (Own.row hw1 (i := 0) rfl ht (by simp) hl) (by omega)) fun p80 cap80 cur80 hp80 hcp80 hlp80 htp80 => ?_
    refine Ll.op (v := str (joinN ([38]) (dedup (tlL (fun y : Nat => tellF n b (ys ++ [(x : Int)]) a (xs ++ [(y : Int)])) k)))) rfl rfl rfl (OpQ.call rfl Tryd.call94 rfl Own.stable (fun w1 hw1 => joinedM_ok ([38]) (dedup (tlL (fun y : Nat => tellF n b (ys ++ [(x : Int)]) a (xs ++ [(y : Int)])) k)) (sl_ p80 ((dedup (tlL (fun y : Nat => tellF n b (ys ++ [(x : Int)]) a (xs ++ [(y : Int)])) k)).length) cap80) 4000 w1 (Own.row hw1 (i := 0) rfl (by simpa using htp80) (by simp) hlp80) hdl (by decide) (by decide) (by omega) hd0)) ?_
    refine Ll.op rfl rfl rfl (OpQ.sadd rfl rfl rfl (by first | omega | (simp only [List.length_append, List.length_cons, List.length_nil]; omega))) ?_
    refine Ll.op (v := .tuple #[str (shortS ((([33, 83]) ++ (nameS ys.length)) ++ (joinN ([38]) (dedup (tlL (fun y : Nat => tellF n b (ys ++ [(x : Int)]) a (xs ++ [(y : Int)])) k))))), bo_ (shortB ((([33, 83]) ++ (nameS ys.length)) ++ (joinN ([38]) (dedup (tlL (fun y : Nat => tellF n b (ys ++ [(x : Int)]) a (xs ++ [(y : Int)])) k)))))]) rfl rfl rfl (OpQ.call rfl Tryd.call90 rfl Own.stable (fun w1 hw1 => shortG_ok ((([33, 83]) ++ (nameS ys.length)) ++ (joinN ([38]) (dedup (tlL (fun y : Nat => tellF n b (ys ++ [(x : Int)]) a (xs ++ [(y : Int)])) k)))) w1 (by rw [hT]; omega))) ?_
    refine Ll.op (v := str (shortS ((([33, 83]) ++ (nameS ys.length)) ++ (joinN ([38]) (dedup (tlL (fun y : Nat => tellF n b (ys ++ [(x : Int)]) a (xs ++ [(y : Int)])) k)))))) rfl rfl rfl (OpQ.extract rfl rfl rfl) ?_
    refine Ll.op (v := bo_ (shortB ((([33, 83]) ++ (nameS ys.length)) ++ (joinN ([38]) (dedup (tlL (fun y : Nat => tellF n b (ys ++ [(x : Int)]) a (xs ++ [(y : Int)])) k)))))) rfl rfl rfl (OpQ.extract rfl rfl rfl) ?_
    refine Ll.run 2 rfl ?_
    refine Ll.nil ?_
    refine Kt.sel [10, 11] [_, _] rfl ?_
    refine Wk.ret (Kt.end2 rfl rfl rfl fun w' hw => ?_)
    -- ret 1: str (shortS ((([33, 83]) ++ (nameS ys.length)) ++ (joinN ([38]) (dedup (tlL (fun y : Nat => tellF n b (ys ++ [(x : Int)]) a (xs ++ [(y : Int)])) k))))); bo_ (shortB ((([33, 83]) ++ (nameS ys.length)) ++ (joinN ([38]) (dedup (tlL (fun y : Nat => tellF n b (ys ++ [(x : Int)]) a (xs ++ [(y : Int)])) k)))))
    exact ⟨by rw [hT, shortS_of hS]; unfold shortB; rw [decide_eq_true hS], hw.below⟩
  ·
   obtain rfl : sd = true := by
    cases sd with
    | true => rfl
    | false => exact absurd h42 (by simp [sideS])
   obtain ⟨hxm, hno⟩ := move_at1 hlen hmv
   refine Wk.skip ?_
   refine Kt.sel [1, 3, 4, 5, 7, 13, 15] [_, _, _, _, _, _, _] rfl ?_
   refine Wk.seq ?_
   refine Wk.region ?_
   refine Ll.slice (xs := []) (vs := []) Base.elem91 rfl rfl rfl rfl rfl rfl (by decide) rfl fun p47_1 hp47_1 => ?_
   refine Ll.run 1 rfl ?_
   refine Ll.nil ?_
   refine Kt.sel [1, 3, 4, 5, 7, 13, 15, 16] [_, _, _, _, _, _, _, _] rfl ?_
   refine Wk.seq ?_
   refine Wk.seq ?_
   refine Wk.regionQ ?_
   refine Lq.op rfl rfl rfl (OpQ.fieldAddr rfl Tryd.runUnderlying28 rfl Tryd.sizeOf3 rfl rfl) ?_
   refine Lq.op rfl rfl rfl (OpQ.loadOwn 1 rfl Tryd.isAgg3 rfl rfl rfl) ?_
   refine Lq.run 1 rfl ?_
   refine Lq.nil ?_
   refine Kt.sel [1, 3, 4, 5, 7, 13, 15, 16, 49, 50] [_, _, _, _, _, _, _, _, _, _] rfl ?_
   refine Wk.block ?_
   refine Wk.loop (σ := Nat × Nat × Nat × Array Value) (fun ⟨k, g, c, cur⟩ => (k : Int) ≤ b.n ∧ cur.size = c * 1 ∧ (tlL (fun y : Nat => tellF n a (xs ++ [(x : Int)]) b (ys ++ [(y : Int)])) k).length ≤ c ∧ cur.toList.take (tlL (fun y : Nat => tellF n a (xs ++ [(x : Int)]) b (ys ++ [(y : Int)])) k).length = strs (tlL (fun y : Nat => tellF n a (xs ++ [(x : Int)]) b (ys ++ [(y : Int)])) k)) (fun ⟨k, g, c, cur⟩ => [(1, va), (3, vb), (4, i6_ ((n : Int) + 1)), (5, pt_ p5), (7, pt_ p7), (13, i6_ ((x : Int))), (15, str ([83])), (16, sl_ g ((tlL (fun y : Nat => tellF n a (xs ++ [(x : Int)]) b (ys ++ [(y : Int)])) k).length) c), (49, i6_ b.n), (50, i6_ ((k : Int)))]) (fun ⟨k, g, c, cur⟩ => Own w.heap.size w [bk_ g cur 9, bk_ p7 #[i6_ b.n, str b.set, str b.rel] 28, bk_ p5 #[i6_ a.n, str a.set, str a.rel] 28]) (fun ⟨k, g, c, cur⟩ => (b.n - k).toNat) ((0, p47_1, 0, #[])) ⟨by omega, rfl, Nat.le_refl 0, rfl⟩ (Sub.sel [1, 3, 4, 5, 7, 13, 15, 16, 49, 50] rfl) (fun _ h => h) ?_
   rintro ⟨k, g, c, cur⟩ ⟨hk, hc, hl, ht⟩
   dsimp only
   have htk := tlL_len (fun y : Nat => tellF n a (xs ++ [(x : Int)]) b (ys ++ [(y : Int)])) k
   refine Wk.seq ?_
   refine Wk.regionQ ?_
   refine Lq.run 1 rfl ?_
   refine Lq.nil ?_
   refine Kt.sel [1, 3, 4, 5, 7, 13, 15, 16, 49, 50, 51] [_, _, _, _, _, _, _, _, _, _, _] rfl ?_
   refine Wk.seq ?_
   refine Wk.cond (b := decide (((k : Int)) < b.n)) rfl (fun h51_1 => ?_) (fun h51_1 => ?_)
   ·
    replace h51_1 := of_decide_eq_true h51_1
    have hE1 := els_more hA (x := (x : Int)) ⟨by omega, by omega⟩
    have hE2 := els_more hB (x := (k : Int)) ⟨by omega, by omega⟩
    have hx9 : a.El (x : Int) := ⟨by omega, by omega⟩
    refine Wk.skip ?_
    refine Kt.sel [1, 3, 4, 5, 7, 13, 15, 16, 49, 50] [_, _, _, _, _, _, _, _, _, _] rfl ?_
    refine Wk.seq ?_
    refine Wk.block ?_
    refine Wk.seq ?_
    refine Wk.regionQ ?_
    refine Lq.run 2 rfl ?_
    refine Lq.nil ?_
    refine Kt.sel [1, 3, 4, 5, 7, 13, 15, 16, 17, 49, 50] [_, _, _, _, _, _, _, _, _, _, _] rfl ?_
    refine Wk.seq ?_
    refine Wk.regionO [(0, true), (1, true), (2, true), (4, true), (5, true), (6, true), (8, true), (9, true), (3, false), (7, false), (10, false), (11, true), (12, true), (13, true), (14, true), (15, true)] Base.mixed (fun _ h => h.drawn) (by kernel_rfl) ?_
    refine Ld.take rfl rfl rfl rfl rfl (OpQ.loadBox (cs := #[i6_ a.n, str a.set, str a.rel]) 2 rfl Tryd.isAgg28 rfl rfl Tryd.sizeOf28) (fun _ h => h) ?_
    refine Ld.run 2 rfl (fun _ h => h) ?_
    refine Ld.take rfl rfl rfl rfl rfl (OpQ.loadBox (cs := #[i6_ b.n, str b.set, str b.rel]) 1 rfl Tryd.isAgg28 rfl rfl Tryd.sizeOf28) (fun _ h => h) ?_
    refine Ld.run 3 rfl (fun _ h => h) ?_
    refine Ld.take (v := i6_ ((n : Int))) rfl rfl rfl rfl rfl (OpQ.cast (by congr 1; omega) (OpQ.sub rfl rfl rfl (by omega) (by omega))) (fun _ h => h) ?_
    refine Ld.loud rfl ?_
    refine Ll.callRow (xs := [.tmp 55, .tmp 56]) (m := (xs ++ [(x : Int)]).length) (vs := ints (xs ++ [(x : Int)])) (el := 3) (size := 1) rfl rfl rfl rfl Tryd.call91 rfl (fun w1 hw1 => with_ok va xs ((x : Int)) w1 (Row.own hva hw1) (by omega)) fun p57_1 cap57_1 cur57_1 hp57_1 hcp57_1 hlp57_1 htp57_1 => ?_
    refine Ll.nil (Ld.joint (fun _ h => h.tail) ?_)
    refine Ld.loud rfl ?_
    refine Ll.callRow (xs := [.tmp 59, .tmp 60]) (m := (ys ++ [(k : Int)]).length) (vs := ints (ys ++ [(k : Int)])) (el := 3) (size := 1) rfl rfl rfl rfl Tryd.call91 rfl (fun w1 hw1 => with_ok vb ys ((k : Int)) w1 (Row.own hvb hw1) (by omega)) fun p61_1 cap61_1 cur61_1 hp61_1 hcp61_1 hlp61_1 htp61_1 => ?_
    refine Ll.nil (Ld.joint (fun _ h => h.tail.tail) ?_)
    refine Ld.loud rfl ?_
    refine Ll.op (v := .tuple #[str (tellF n a (xs ++ [(x : Int)]) b (ys ++ [(k : Int)])), bo_ true]) rfl rfl rfl (OpQ.call rfl Tryd.call51 rfl Own.stable (fun w1 hw1 => ih a b (xs ++ [(x : Int)]) (ys ++ [(k : Int)]) (sl_ p57_1 ((xs ++ [(x : Int)]).length) cap57_1) (sl_ p61_1 ((ys ++ [(k : Int)]).length) cap61_1) w1 hVa hVb (Own.row hw1 (i := 1) rfl (by simpa using htp57_1) (by simp) hlp57_1) (Own.row hw1 (i := 0) rfl (by simpa using htp61_1) (by simp) hlp61_1) hE1 hE2 (by simp [hlen]) (by rw [List.length_append, List.length_singleton]; omega) (by omega) (hno k (by omega)))) ?_
    refine Ll.nil (Ld.joint (fun _ h => h.tail.tail) ?_)
    refine Ld.run 1 rfl (fun _ h => h.tail.tail) ?_
    refine Ld.take (v := str (tellF n a (xs ++ [(x : Int)]) b (ys ++ [(k : Int)]))) rfl rfl rfl rfl rfl (OpQ.extract rfl rfl rfl) (fun _ h => h.tail.tail) ?_
    refine Ld.take (v := bo_ true) rfl rfl rfl rfl rfl (OpQ.extract rfl rfl rfl) (fun _ h => h.tail.tail) ?_
    refine Ld.run 2 rfl (fun _ h => h.tail.tail) ?_
    refine Ld.nil ?_
    refine Kt.sel [1, 3, 4, 5, 7, 13, 15, 16, 18, 19, 49, 50] [_, _, _, _, _, _, _, _, _, _, _, _] rfl ?_
    refine Wk.seq ?_
    refine Wk.seq ?_
    refine Wk.regionQ ?_
    refine Lq.run 2 rfl ?_
    refine Lq.nil ?_
    refine Kt.sel [1, 3, 4, 5, 7, 13, 15, 16, 18, 49, 50, 68] [_, _, _, _, _, _, _, _, _, _, _, _] rfl ?_
    refine Wk.condF rfl ?_
    refine Wk.skip ?_
    refine Kt.sel [1, 3, 4, 5, 7, 13, 15, 16, 18, 49, 50] [_, _, _, _, _, _, _, _, _, _, _] rfl ?_
    refine Wk.region ?_
    refine Ll.run 2 rfl ?_
    refine Ll.slice (xs := [.tmp 70]) (vs := [str (tellF n a (xs ++ [(x : Int)]) b (ys ++ [(k : Int)]))]) Base.elem91 rfl rfl rfl rfl rfl rfl (by decide) rfl fun p71_1 hp71_1 => ?_
    refine Ll.appendStrs (xs := tlL (fun y : Nat => tellF n a (xs ++ [(x : Int)]) b (ys ++ [(y : Int)])) k) (ys := ([tellF n a (xs ++ [(x : Int)]) b (ys ++ [(k : Int)])] : List (List UInt8))) Base.elem91 3 rfl rfl rfl rfl rfl rfl rfl hc hl ht (fun w1 hw1 => (Own.row hw1 (i := 0) rfl (n := 1) (cap := 1) (vs := strs ([tellF n a (xs ++ [(x : Int)]) b (ys ++ [(k : Int)])] : List (List UInt8))) rfl rfl (by decide))) (((tlL (fun y : Nat => tellF n a (xs ++ [(x : Int)]) b (ys ++ [(y : Int)])) k) ++ (([tellF n a (xs ++ [(x : Int)]) b (ys ++ [(k : Int)])] : List (List UInt8)))).length) (by first | (simp; done) | (simp; omega)) (by first | (simp; done) | (simp; omega) | omega) fun p72_1 cap72_1 cur72_1 hp72_1 hcp72_1 hlp72_1 htp72_1 => ?_
    show Ll _ _ (Own _ _ [_, _, _, _, _, _]) _ _ ((72, sl_ p72_1 ((((tlL (fun y : Nat => tellF n a (xs ++ [(x : Int)]) b (ys ++ [(y : Int)])) k) ++ (([tellF n a (xs ++ [(x : Int)]) b (ys ++ [(k : Int)])] : List (List UInt8)))).length)) cap72_1) :: _) _ _ _
    refine Ll.run 1 rfl ?_
    refine Ll.nil ?_
    refine Kt.sel [1, 3, 4, 5, 7, 13, 15, 16, 49, 50] [_, _, _, _, _, _, _, _, _, _] rfl ?_
    refine Wk.regionQ ?_
    refine Lq.op rfl rfl rfl (OpQ.add rfl rfl rfl (by omega) (by omega)) ?_
    refine Lq.run 1 rfl ?_
    refine Lq.nil ?_
    refine Kt.again ((k + 1, p72_1, cap72_1, cur72_1)) ⟨by omega, by simpa using hcp72_1, by rw [tlL_step]; exact hlp72_1, by rw [tlL_step]; simpa only [Nat.mul_one] using htp72_1⟩ (by omega) (Sub.cons rfl (Sub.cons rfl (Sub.cons rfl (Sub.cons rfl (Sub.cons rfl (Sub.cons rfl (Sub.cons rfl (Sub.cons (by rw [tlL_step]; rfl) (Sub.sel [49, 50] rfl))))))))) (fun _ h => h.sub (List.Sublist.cons _ (List.Sublist.cons _ (List.Sublist.cons _ (List.Sublist.cons_cons _ (List.Sublist.cons_cons _ (List.Sublist.cons_cons _ (List.Sublist.refl _))))))))
   ·
    replace h51_1 := of_decide_eq_false h51_1
    have hkn : k = b.n.toNat := by omega
    have hT : ([83] ++ nameS xs.length) ++ joinN [38] (dedup (tlL (fun y : Nat => tellF n a (xs ++ [(x : Int)]) b (ys ++ [(y : Int)])) k)) = tellF (n + 1) a xs b ys := by
     rw [hkn, tell_some1 hsame hmv]; rfl
    have hS : (tellF (n + 1) a xs b ys).length ≤ 4000 := Nat.le_trans (tell_len (n + 1) (by omega) (by omega) (by omega) (by omega)) (Nat.le_trans (LT3 hn3) (by decide))
    have htl : ∀ s ∈ tlL (fun y : Nat => tellF n a (xs ++ [(x : Int)]) b (ys ++ [(y : Int)])) k, s.length ≤ 4000 := fun s hs => by
     obtain ⟨i, _, rfl⟩ := List.mem_map.1 hs
     exact Nat.le_trans (tell_len n (by omega) (by omega) (by omega) (by omega)) (Nat.le_trans (LT3 (by omega)) (by decide))
    have hdl := dedup_memL htl
    have hd0 := dedup_pos (l := tlL (fun y : Nat => tellF n a (xs ++ [(x : Int)]) b (ys ++ [(y : Int)])) k) (by omega)
    have hdn := dedup_le (tlL (fun y : Nat => tellF n a (xs ++ [(x : Int)]) b (ys ++ [(y : Int)])) k)
    have hjl := joinN_len (op := [38]) (by decide) hdl hd0
    have hnm := nameS_length (show xs.length < 4 by omega)
    refine Wk.exit rfl ?_
    refine Kt.sel [1, 15, 16] [_, _, _] rfl ?_
    refine Wk.seq ?_
    refine Wk.region ?_
    refine Ll.run 2 rfl ?_
    refine Ll.op (v := i6_ ((xs.length : Int))) rfl rfl rfl (OpQ.lenRow rfl Tryd.runUnderlying24 rfl (ints_length _) (fun w1 hw1 => Row.own hva hw1)) ?_
    refine Ll.op (v := str (nameS xs.length)) rfl rfl rfl (OpQ.call rfl Tryd.call93 rfl Own.stable (fun w1 hw1 => nameOf_ok xs.length w1 (by omega))) ?_
    refine Ll.op rfl rfl rfl (OpQ.sadd rfl rfl rfl (by first | omega | (simp only [List.length_append, List.length_cons, List.length_nil]; omega))) ?_
    refine Ll.run 1 rfl ?_
    refine Ll.callRow (xs := [.tmp 79]) (m := (dedup (tlL (fun y : Nat => tellF n a (xs ++ [(x : Int)]) b (ys ++ [(y : Int)])) k)).length) (vs := strs (dedup (tlL (fun y : Nat => tellF n a (xs ++ [(x : Int)]) b (ys ++ [(y : Int)])) k))) (el := 9) (size := 1) rfl rfl rfl rfl Tryd.call92 rfl (fun w1 hw1 => withoutEqual_ok (sl_ g ((tlL (fun y : Nat => tellF n a (xs ++ [(x : Int)]) b (ys ++ [(y : Int)])) k).length) c) (tlL (fun y : Nat => tellF n a (xs ++ [(x : Int)]) b (ys ++ [(y : Int)])) k) w1 (Own.row hw1 (i := 0) rfl ht (by simp) hl) (by omega)) fun p80_1 cap80_1 cur80_1 hp80_1 hcp80_1 hlp80_1 htp80_1 => ?_
    refine Ll.op (v := str (joinN ([38]) (dedup (tlL (fun y : Nat => tellF n a (xs ++ [(x : Int)]) b (ys ++ [(y : Int)])) k)))) rfl rfl rfl (OpQ.call rfl Tryd.call94 rfl Own.stable (fun w1 hw1 => joinedM_ok ([38]) (dedup (tlL (fun y : Nat => tellF n a (xs ++ [(x : Int)]) b (ys ++ [(y : Int)])) k)) (sl_ p80_1 ((dedup (tlL (fun y : Nat => tellF n a (xs ++ [(x : Int)]) b (ys ++ [(y : Int)])) k)).length) cap80_1) 4000 w1 (Own.row hw1 (i := 0) rfl (by simpa using htp80_1) (by simp) hlp80_1) hdl (by decide) (by decide) (by omega) hd0)) ?_
    refine Ll.op rfl rfl rfl (OpQ.sadd rfl rfl rfl (by first | omega | (simp only [List.length_append, List.length_cons, List.length_nil]; omega))) ?_
    refine Ll.op (v := .tuple #[str (shortS ((([83]) ++ (nameS xs.length)) ++ (joinN ([38]) (dedup (tlL (fun y : Nat => tellF n a (xs ++ [(x : Int)]) b (ys ++ [(y : Int)])) k))))), bo_ (shortB ((([83]) ++ (nameS xs.length)) ++ (joinN ([38]) (dedup (tlL (fun y : Nat => tellF n a (xs ++ [(x : Int)]) b (ys ++ [(y : Int)])) k)))))]) rfl rfl rfl (OpQ.call rfl Tryd.call90 rfl Own.stable (fun w1 hw1 => shortG_ok ((([83]) ++ (nameS xs.length)) ++ (joinN ([38]) (dedup (tlL (fun y : Nat => tellF n a (xs ++ [(x : Int)]) b (ys ++ [(y : Int)])) k)))) w1 (by rw [hT]; omega))) ?_
    refine Ll.op (v := str (shortS ((([83]) ++ (nameS xs.length)) ++ (joinN ([38]) (dedup (tlL (fun y : Nat => tellF n a (xs ++ [(x : Int)]) b (ys ++ [(y : Int)])) k)))))) rfl rfl rfl (OpQ.extract rfl rfl rfl) ?_
    refine Ll.op (v := bo_ (shortB ((([83]) ++ (nameS xs.length)) ++ (joinN ([38]) (dedup (tlL (fun y : Nat => tellF n a (xs ++ [(x : Int)]) b (ys ++ [(y : Int)])) k)))))) rfl rfl rfl (OpQ.extract rfl rfl rfl) ?_
    refine Ll.run 2 rfl ?_
    refine Ll.nil ?_
    refine Kt.sel [10, 11] [_, _] rfl ?_
    refine Wk.ret (Kt.end2 rfl rfl rfl fun w' hw => ?_)
    -- ret 2: str (shortS ((([83]) ++ (nameS xs.length)) ++ (joinN ([38]) (dedup (tlL (fun y : Nat => tellF n a (xs ++ [(x : Int)]) b (ys ++ [(y : Int)])) k))))); bo_ (shortB ((([83]) ++ (nameS xs.length)) ++ (joinN ([38]) (dedup (tlL (fun y : Nat => tellF n a (xs ++ [(x : Int)]) b (ys ++ [(y : Int)])) k)))))
    exact ⟨by rw [hT, shortS_of hS]; unfold shortB; rw [decide_eq_true hS], hw.below⟩

set_option maxHeartbeats 400000 in
/-- spec.l6Tell|zero -/
theorem ts_zero (a b : St) (xs ys : List Int) (va vb : Value) (w : World) (hVa : validB a = true) (hVb : validB b = true) (hva : Ints w va xs) (hvb : Ints w vb ys) (hA : a.Els xs) (hB : b.Els ys) (hlen : xs.length = ys.length) (hl4 : xs.length ≤ 4) (hwin : winB 0 a xs b ys = false) :
    Calls Tryd.prog 48 [vS a, va, vS b, vb, i6_ 0].toArray w fun en w' => en = .returned (str (tellF 0 a xs b ys)) ∧ Below w.heap.size w w' := by
 refine fnStart (n := 100) (e := [(0, vS a), (1, va), (2, vS b), (3, vb), (4, i6_ 0)]) Tryd.func48 rfl rfl rfl rfl Ends.both ?_
 have ha := validB_fine hVa
 have hb := validB_fine hVb
 have hm8 := ha.hi
 have hm1 := ha.lo
 have hb8 := hb.hi
 have hb1 := hb.lo
 refine Wk.seq ?_
 refine Wk.region ?_
 refine Ll.box (v := vS a) rfl rfl rfl rfl rfl fun p5 hp5 => ?_
 show Ll _ _ (Own _ _ [_]) _ _ ((5, pt_ p5) :: _) _ _ _
 refine Ll.box (v := vS b) rfl rfl rfl rfl rfl fun p7 hp7 => ?_
 show Ll _ _ (Own _ _ [_, _]) _ _ ((7, pt_ p7) :: _) _ _ _
 refine Ll.op (v := str ([])) rfl rfl rfl (OpQ.assign rfl rfl) ?_
 refine Ll.nil ?_
 refine Kt.sel [1, 3, 4, 5, 7] [_, _, _, _, _] rfl ?_
 refine Wk.seq ?_
 refine Wk.seq ?_
 refine Wk.regionQ ?_
 refine Lq.op rfl rfl rfl (OpQ.loadBox (cs := #[i6_ a.n, str a.set, str a.rel]) 1 rfl Tryd.isAgg28 rfl rfl Tryd.sizeOf28) ?_
 refine Lq.run 1 rfl ?_
 refine Lq.op rfl rfl rfl (OpQ.loadBox (cs := #[i6_ b.n, str b.set, str b.rel]) 0 rfl Tryd.isAgg28 rfl rfl Tryd.sizeOf28) ?_
 refine Lq.run 1 rfl ?_
 refine Lq.op (v := bo_ (sameB a xs b ys)) rfl rfl rfl (OpQ.call rfl Tryd.call98 rfl Own.stable (fun w1 hw1 => l4Partial_ok a b xs ys va vb w1 ha hb (Row.own hva hw1) (Row.own hvb hw1) hA hB (by omega) (by omega))) ?_
 refine Lq.run 1 rfl ?_
 refine Lq.nil ?_
 refine Kt.sel [1, 3, 4, 5, 7, 23] [_, _, _, _, _, _] rfl ?_
 refine Wk.cond (b := !(sameB a xs b ys)) rfl (fun h23 => ?_) (fun h23 => ?_)
 ·
  replace h23 := not_true h23
  refine Wk.seq ?_
  refine Wk.regionQ ?_
  refine Lq.op rfl rfl rfl (OpQ.loadBox (cs := #[i6_ a.n, str a.set, str a.rel]) 1 rfl Tryd.isAgg28 rfl rfl Tryd.sizeOf28) ?_
  refine Lq.run 1 rfl ?_
  refine Lq.op rfl rfl rfl (OpQ.loadBox (cs := #[i6_ b.n, str b.set, str b.rel]) 0 rfl Tryd.isAgg28 rfl rfl Tryd.sizeOf28) ?_
  refine Lq.run 1 rfl ?_
  refine Lq.op (v := str (diffO (factsL a xs xs.length) (factsL b ys ys.length))) rfl rfl rfl (OpQ.call rfl Tryd.call99 rfl Own.stable (fun w1 hw1 => differ_ok a b xs ys va vb w1 ha hb (Row.own hva hw1) (Row.own hvb hw1) hA hB (by omega) (by omega))) ?_
  refine Lq.run 1 rfl ?_
  refine Lq.nil ?_
  refine Kt.sel [10] [_] rfl ?_
  refine Wk.ret (Kt.end1 rfl rfl fun w' hw => ?_)
  -- ret 0: str (diffO (factsL a xs xs.length) (factsL b ys ys.length))
  exact ⟨ret_s (by rw [tell_diff (by simp_all)]), hw.below⟩
 ·
  replace h23 := not_false h23
  exact absurd hwin (by unfold winB; rw [show sameB a xs b ys = true from by simp_all]; simp [goB])

set_option maxHeartbeats 400000 in
/-- spec.l6Tell -/
theorem ts_of (n : Nat) (ih : ∀ (a b : St) (xs ys : List Int) (va vb : Value) (w : World), validB a = true → validB b = true → Ints w va xs → Ints w vb ys → a.Els xs → b.Els ys → xs.length = ys.length → xs.length + n ≤ 4 → n ≤ 3 → winB n a xs b ys = false → Calls Tryd.prog 48 #[vS a, va, vS b, vb, .int .i64 (n : Int)] w fun en w' => en = .returned (str (tellF n a xs b ys)) ∧ Below w.heap.size w w') (a b : St) (xs ys : List Int) (va vb : Value) (w : World) (hVa : validB a = true) (hVb : validB b = true) (hva : Ints w va xs) (hvb : Ints w vb ys) (hA : a.Els xs) (hB : b.Els ys) (hlen : xs.length = ys.length) (hl5 : xs.length + (n + 1) ≤ 4) (hn3 : n + 1 ≤ 3) (hwin : winB (n + 1) a xs b ys = false) :
    Calls Tryd.prog 48 [vS a, va, vS b, vb, i6_ ((n : Int) + 1)].toArray w fun en w' => en = .returned (str (tellF (n + 1) a xs b ys)) ∧ Below w.heap.size w w' := by
 refine fnStart (n := 100) (e := [(0, vS a), (1, va), (2, vS b), (3, vb), (4, i6_ ((n : Int) + 1))]) Tryd.func48 rfl rfl rfl rfl Ends.both ?_
 have ha := validB_fine hVa
 have hb := validB_fine hVb
 have hm8 := ha.hi
 have hm1 := ha.lo
 have hb8 := hb.hi
 have hb1 := hb.lo
 have hsa := ha.small
 have hsb := hb.small
 have loa : -9223372036854775808 ≤ a.n := by omega
 have hia : a.n ≤ 9223372036854775807 := by omega
 have lob : -9223372036854775808 ≤ b.n := by omega
 have hib : b.n ≤ 9223372036854775807 := by omega
 refine Wk.seq ?_
 refine Wk.region ?_
 refine Ll.box (v := vS a) rfl rfl rfl rfl rfl fun p5 hp5 => ?_
 show Ll _ _ (Own _ _ [_]) _ _ ((5, pt_ p5) :: _) _ _ _
 refine Ll.box (v := vS b) rfl rfl rfl rfl rfl fun p7 hp7 => ?_
 show Ll _ _ (Own _ _ [_, _]) _ _ ((7, pt_ p7) :: _) _ _ _
 refine Ll.op (v := str ([])) rfl rfl rfl (OpQ.assign rfl rfl) ?_
 refine Ll.nil ?_
 refine Kt.sel [1, 3, 4, 5, 7] [_, _, _, _, _] rfl ?_
 refine Wk.seq ?_
 refine Wk.seq ?_
 refine Wk.regionQ ?_
 refine Lq.op rfl rfl rfl (OpQ.loadBox (cs := #[i6_ a.n, str a.set, str a.rel]) 1 rfl Tryd.isAgg28 rfl rfl Tryd.sizeOf28) ?_
 refine Lq.run 1 rfl ?_
 refine Lq.op rfl rfl rfl (OpQ.loadBox (cs := #[i6_ b.n, str b.set, str b.rel]) 0 rfl Tryd.isAgg28 rfl rfl Tryd.sizeOf28) ?_
 refine Lq.run 1 rfl ?_
 refine Lq.op (v := bo_ (sameB a xs b ys)) rfl rfl rfl (OpQ.call rfl Tryd.call98 rfl Own.stable (fun w1 hw1 => l4Partial_ok a b xs ys va vb w1 ha hb (Row.own hva hw1) (Row.own hvb hw1) hA hB (by omega) (by omega))) ?_
 refine Lq.run 1 rfl ?_
 refine Lq.nil ?_
 refine Kt.sel [1, 3, 4, 5, 7, 23] [_, _, _, _, _, _] rfl ?_
 refine Wk.cond (b := !(sameB a xs b ys)) rfl (fun h23 => ?_) (fun h23 => ?_)
 ·
  replace h23 := not_true h23
  refine Wk.seq ?_
  refine Wk.regionQ ?_
  refine Lq.op rfl rfl rfl (OpQ.loadBox (cs := #[i6_ a.n, str a.set, str a.rel]) 1 rfl Tryd.isAgg28 rfl rfl Tryd.sizeOf28) ?_
  refine Lq.run 1 rfl ?_
  refine Lq.op rfl rfl rfl (OpQ.loadBox (cs := #[i6_ b.n, str b.set, str b.rel]) 0 rfl Tryd.isAgg28 rfl rfl Tryd.sizeOf28) ?_
  refine Lq.run 1 rfl ?_
  refine Lq.op (v := str (diffO (factsL a xs xs.length) (factsL b ys ys.length))) rfl rfl rfl (OpQ.call rfl Tryd.call99 rfl Own.stable (fun w1 hw1 => differ_ok a b xs ys va vb w1 ha hb (Row.own hva hw1) (Row.own hvb hw1) hA hB (by omega) (by omega))) ?_
  refine Lq.run 1 rfl ?_
  refine Lq.nil ?_
  refine Kt.sel [10] [_] rfl ?_
  refine Wk.ret (Kt.end1 rfl rfl fun w' hw => ?_)
  -- ret 0: str (diffO (factsL a xs xs.length) (factsL b ys ys.length))
  exact ⟨ret_s (by rw [tell_diff (by simp_all)]), hw.below⟩
 ·
  replace h23 := not_false h23
  refine Wk.skip ?_
  refine Kt.sel [1, 3, 4, 5, 7] [_, _, _, _, _] rfl ?_
  refine Wk.seq ?_
  refine Wk.regionQ ?_
  refine Lq.op rfl rfl rfl (OpQ.loadBox (cs := #[i6_ a.n, str a.set, str a.rel]) 1 rfl Tryd.isAgg28 rfl rfl Tryd.sizeOf28) ?_
  refine Lq.run 1 rfl ?_
  refine Lq.op rfl rfl rfl (OpQ.loadBox (cs := #[i6_ b.n, str b.set, str b.rel]) 0 rfl Tryd.isAgg28 rfl rfl Tryd.sizeOf28) ?_
  refine Lq.run 2 rfl ?_
  have hsame : sameB a xs b ys = true := by simp_all
  obtain ⟨sd, x, hmv⟩ := move_ex hsame hwin
  have hmv2 : fmO a xs b ys ((n : Int) + 1) = some (sd, x) := by
   unfold fmO gameB inB
   rw [hsame, show listsB a xs b ys = true from listsB_of (listB_of hVa hA (by omega)) (listB_of hVb hB (by omega)) hlen, decide_eq_true (show 1 ≤ (n : Int) + 1 by omega), decide_eq_true (show (0 : Int) ≤ (n : Int) + 1 by omega), decide_eq_true (show (n : Int) + 1 ≤ 3 by omega), show ((n : Int) + 1 - 1).toNat = n from by omega]; exact hmv
  refine Lq.op (v := .tuple #[str (sideS (some (sd, x))), i6_ ((x : Int)), bo_ true]) rfl rfl rfl (OpQ.call rfl Tryd.call100 rfl Own.stable (fun w1 hw1 => by have h9 := sMove_ok a b xs ys va vb w1 hsa hsb (Row.own hva hw1) (Row.own hvb hw1) (by first | (simp; done) | (simp; omega) | omega) (by first | (simp; done) | (simp; omega) | omega) loa hia lob hib ((n : Int) + 1); rw [hmv2] at h9; exact h9)) ?_
  refine Lq.run 1 rfl ?_
  refine Lq.op (v := str (sideS (some (sd, x)))) rfl rfl rfl (OpQ.extract rfl rfl rfl) ?_
  refine Lq.op (v := i6_ ((x : Int))) rfl rfl rfl (OpQ.extract rfl rfl rfl) ?_
  refine Lq.op (v := bo_ true) rfl rfl rfl (OpQ.extract rfl rfl rfl) ?_
  refine Lq.run 3 rfl ?_
  refine Lq.nil ?_
  refine Kt.sel [1, 3, 4, 5, 7, 11, 12] [_, _, _, _, _, _, _] rfl ?_
  refine Wk.seq ?_
  refine Wk.regionQ ?_
  refine Lq.run 1 rfl ?_
  refine Lq.op (v := i6_ ((xs.length : Int))) rfl rfl rfl (OpQ.lenRow rfl Tryd.runUnderlying24 rfl (ints_length _) (fun w1 hw1 => Row.own hva hw1)) ?_
  refine Lq.run 1 rfl ?_
  refine Lq.op (v := i6_ ((xs.length : Int))) rfl rfl rfl (OpQ.lenRow rfl Tryd.runUnderlying24 rfl (ints_length _) (fun w1 hw1 => Row.own hva hw1)) ?_
  refine Lq.op rfl rfl rfl (OpQ.add rfl rfl rfl (by omega) (by omega)) ?_
  refine Lq.op (v := str (nameS xs.length)) rfl rfl rfl (OpQ.cast (congrArg str (slice_name xs.length)) (OpQ.sliceStr rfl Tryd.underlying9 rfl rfl rfl (by omega) (by omega) (by first | omega | (simp; omega)))) ?_
  refine Lq.run 1 rfl ?_
  refine Lq.nil ?_
  refine Kt.sel [1, 3, 4, 5, 7, 11, 12, 14] [_, _, _, _, _, _, _, _] rfl ?_
  refine Wk.seq ?_
  refine Wk.region ?_
  refine Ll.slice (xs := []) (vs := []) Base.elem91 rfl rfl rfl rfl rfl rfl (by decide) rfl fun p45 hp45 => ?_
  refine Ll.run 1 rfl ?_
  refine Ll.nil ?_
  refine Kt.sel [1, 3, 4, 5, 7, 11, 12, 14, 15] [_, _, _, _, _, _, _, _, _] rfl ?_
  refine Wk.seq ?_
  refine Wk.seq ?_
  refine Wk.regionQ ?_
  refine Lq.run 1 rfl ?_
  refine Lq.op rfl rfl rfl (OpQ.seql rfl rfl rfl) ?_
  refine Lq.nil ?_
  refine Kt.sel [1, 3, 4, 5, 7, 12, 14, 15, 47] [_, _, _, _, _, _, _, _, _] rfl ?_
  refine Wk.cond (b := (sideS (some (sd, x))) == ([97])) rfl (fun h47 => ?_) (fun h47 => ?_)
  ·
   obtain rfl : sd = true := by
    cases sd with
    | true => rfl
    | false => exact absurd h47 (by simp [sideS])
   obtain ⟨hxm, hno⟩ := move_at1 hlen hmv
   refine Wk.seq ?_
   refine Wk.seq ?_
   refine Wk.regionQ ?_
   refine Lq.run 1 rfl ?_
   refine Lq.nil ?_
   refine Kt.sel [1, 3, 4, 5, 7, 12, 14, 15, 16] [_, _, _, _, _, _, _, _, _] rfl ?_
   refine Wk.block ?_
   refine Wk.loop (σ := Nat × Nat × Nat × Array Value) (fun ⟨k, g, c, cur⟩ => (k : Int) ≤ b.n ∧ cur.size = c * 1 ∧ (tlL (fun y : Nat => tellF n a (xs ++ [(x : Int)]) b (ys ++ [(y : Int)])) k).length ≤ c ∧ cur.toList.take (tlL (fun y : Nat => tellF n a (xs ++ [(x : Int)]) b (ys ++ [(y : Int)])) k).length = strs (tlL (fun y : Nat => tellF n a (xs ++ [(x : Int)]) b (ys ++ [(y : Int)])) k)) (fun ⟨k, g, c, cur⟩ => [(1, va), (3, vb), (4, i6_ ((n : Int) + 1)), (5, pt_ p5), (7, pt_ p7), (12, i6_ ((x : Int))), (14, str (nameS xs.length)), (15, sl_ g ((tlL (fun y : Nat => tellF n a (xs ++ [(x : Int)]) b (ys ++ [(y : Int)])) k).length) c), (16, i6_ ((k : Int)))]) (fun ⟨k, g, c, cur⟩ => Own w.heap.size w [bk_ g cur 9, bk_ p7 #[i6_ b.n, str b.set, str b.rel] 28, bk_ p5 #[i6_ a.n, str a.set, str a.rel] 28]) (fun ⟨k, g, c, cur⟩ => (b.n - k).toNat) ((0, p45, 0, #[])) ⟨by omega, rfl, Nat.le_refl 0, rfl⟩ (Sub.sel [1, 3, 4, 5, 7, 12, 14, 15, 16] rfl) (fun _ h => h) ?_
   rintro ⟨k, g, c, cur⟩ ⟨hk, hc, hl, ht⟩
   dsimp only
   have htk := tlL_len (fun y : Nat => tellF n a (xs ++ [(x : Int)]) b (ys ++ [(y : Int)])) k
   refine Wk.seq ?_
   refine Wk.seq ?_
   refine Wk.regionQ ?_
   refine Lq.run 1 rfl ?_
   refine Lq.op rfl rfl rfl (OpQ.fieldAddr rfl Tryd.runUnderlying28 rfl Tryd.sizeOf3 rfl rfl) ?_
   refine Lq.op rfl rfl rfl (OpQ.loadOwn 1 rfl Tryd.isAgg3 rfl rfl rfl) ?_
   refine Lq.run 1 rfl ?_
   refine Lq.nil ?_
   refine Kt.sel [1, 3, 4, 5, 7, 12, 14, 15, 16, 51] [_, _, _, _, _, _, _, _, _, _] rfl ?_
   refine Wk.cond (b := decide (((k : Int)) < b.n)) rfl (fun h51 => ?_) (fun h51 => ?_)
   ·
    replace h51 := of_decide_eq_true h51
    have hE1 := els_more hA (x := (x : Int)) ⟨by omega, by omega⟩
    have hE2 := els_more hB (x := (k : Int)) ⟨by omega, by omega⟩
    have hx9 : a.El (x : Int) := ⟨by omega, by omega⟩
    refine Wk.skip ?_
    refine Kt.sel [1, 3, 4, 5, 7, 12, 14, 15, 16] [_, _, _, _, _, _, _, _, _] rfl ?_
    refine Wk.seq ?_
    refine Wk.block ?_
    refine Wk.regionS (S := Own w.heap.size w [bk_ p7 #[i6_ b.n, str b.set, str b.rel] 28, bk_ p5 #[i6_ a.n, str a.set, str a.rel] 28]) [(0, true), (1, true), (2, true), (3, true), (5, true), (6, true), (7, true), (9, true), (10, true), (4, false), (8, false), (11, false), (12, false), (13, false), (14, true)] Base.mixed (fun _ h => h.drawn) (by kernel_rfl) ?_
    refine Ld.run 1 rfl (fun _ h => h.tail) ?_
    refine Ld.take rfl rfl rfl rfl rfl (OpQ.loadBox (cs := #[i6_ a.n, str a.set, str a.rel]) 1 rfl Tryd.isAgg28 rfl rfl Tryd.sizeOf28) (fun _ h => h.tail) ?_
    refine Ld.run 2 rfl (fun _ h => h.tail) ?_
    refine Ld.take rfl rfl rfl rfl rfl (OpQ.loadBox (cs := #[i6_ b.n, str b.set, str b.rel]) 0 rfl Tryd.isAgg28 rfl rfl Tryd.sizeOf28) (fun _ h => h.tail) ?_
    refine Ld.run 3 rfl (fun _ h => h.tail) ?_
    refine Ld.take (v := i6_ ((n : Int))) rfl rfl rfl rfl rfl (OpQ.cast (by congr 1; omega) (OpQ.sub rfl rfl rfl (by omega) (by omega))) (fun _ h => h.tail) ?_
    refine Ld.loud rfl ?_
    refine Ll.callRow (xs := [.tmp 56, .tmp 57]) (m := (xs ++ [(x : Int)]).length) (vs := ints (xs ++ [(x : Int)])) (el := 3) (size := 1) rfl rfl rfl rfl Tryd.call85 rfl (fun w1 hw1 => l4With_ok va xs ((x : Int)) w1 (Row.own hva hw1) (by omega)) fun p58 cap58 cur58 hp58 hcp58 hlp58 htp58 => ?_
    refine Ll.nil (Ld.joint (fun _ h => h.tail.tail) ?_)
    refine Ld.loud rfl ?_
    refine Ll.callRow (xs := [.tmp 60, .tmp 61]) (m := (ys ++ [(k : Int)]).length) (vs := ints (ys ++ [(k : Int)])) (el := 3) (size := 1) rfl rfl rfl rfl Tryd.call85 rfl (fun w1 hw1 => l4With_ok vb ys ((k : Int)) w1 (Row.own hvb hw1) (by omega)) fun p62 cap62 cur62 hp62 hcp62 hlp62 htp62 => ?_
    refine Ll.nil (Ld.joint (fun _ h => h.tail.tail.tail) ?_)
    refine Ld.loud rfl ?_
    refine Ll.op (v := str (tellF n a (xs ++ [(x : Int)]) b (ys ++ [(k : Int)]))) rfl rfl rfl (OpQ.call rfl Tryd.call48 rfl Own.stable (fun w1 hw1 => ih a b (xs ++ [(x : Int)]) (ys ++ [(k : Int)]) (sl_ p58 ((xs ++ [(x : Int)]).length) cap58) (sl_ p62 ((ys ++ [(k : Int)]).length) cap62) w1 hVa hVb (Own.row hw1 (i := 1) rfl (by simpa using htp58) (by simp) hlp58) (Own.row hw1 (i := 0) rfl (by simpa using htp62) (by simp) hlp62) hE1 hE2 (by simp [hlen]) (by rw [List.length_append, List.length_singleton]; omega) (by omega) (hno k (by omega)))) ?_
    refine Ll.nil (Ld.joint (fun _ h => h.tail.tail.tail) ?_)
    refine Ld.loud rfl ?_
    refine Ll.slice (xs := [.tmp 65]) (vs := [str (tellF n a (xs ++ [(x : Int)]) b (ys ++ [(k : Int)]))]) Base.elem91 rfl rfl rfl rfl rfl rfl (by decide) rfl fun p66 hp66 => ?_
    refine Ll.nil (Ld.joint (fun _ h => h.tail.tail.tail.tail) ?_)
    refine Ld.loud rfl ?_
    refine Ll.appendStrs (xs := tlL (fun y : Nat => tellF n a (xs ++ [(x : Int)]) b (ys ++ [(y : Int)])) k) (ys := ([tellF n a (xs ++ [(x : Int)]) b (ys ++ [(k : Int)])] : List (List UInt8))) Base.elem91 3 rfl rfl rfl rfl rfl rfl rfl hc hl ht (fun w1 hw1 => (Own.row hw1 (i := 0) rfl (n := 1) (cap := 1) (vs := strs ([tellF n a (xs ++ [(x : Int)]) b (ys ++ [(k : Int)])] : List (List UInt8))) rfl rfl (by decide))) (((tlL (fun y : Nat => tellF n a (xs ++ [(x : Int)]) b (ys ++ [(y : Int)])) k) ++ (([tellF n a (xs ++ [(x : Int)]) b (ys ++ [(k : Int)])] : List (List UInt8)))).length) (by first | (simp; done) | (simp; omega)) (by first | (simp; done) | (simp; omega) | omega) fun p67 cap67 cur67 hp67 hcp67 hlp67 htp67 => ?_
    show Ll _ _ (Own _ _ [_, _, _, _, _, _]) _ _ ((67, sl_ p67 ((((tlL (fun y : Nat => tellF n a (xs ++ [(x : Int)]) b (ys ++ [(y : Int)])) k) ++ (([tellF n a (xs ++ [(x : Int)]) b (ys ++ [(k : Int)])] : List (List UInt8)))).length)) cap67) :: _) _ _ _
    refine Ll.nil (Ld.joint (fun _ h => h.tail.tail.tail.tail) ?_)
    refine Ld.run 1 rfl (fun _ h => h.tail.tail.tail.tail) ?_
    refine Ld.nil ?_
    refine Kt.sel [1, 3, 4, 5, 7, 12, 14, 15, 16] [_, _, _, _, _, _, _, _, _] rfl ?_
    refine Wk.regionQ ?_
    refine Lq.run 1 rfl ?_
    refine Lq.op rfl rfl rfl (OpQ.add rfl rfl rfl (by omega) (by omega)) ?_
    refine Lq.run 1 rfl ?_
    refine Lq.nil ?_
    refine Kt.again ((k + 1, p67, cap67, cur67)) ⟨by omega, by simpa using hcp67, by rw [tlL_step]; exact hlp67, by rw [tlL_step]; simpa only [Nat.mul_one] using htp67⟩ (by omega) (Sub.cons rfl (Sub.cons rfl (Sub.cons rfl (Sub.cons rfl (Sub.cons rfl (Sub.cons rfl (Sub.cons rfl (Sub.cons (by rw [tlL_step]; rfl) (Sub.sel [16] rfl))))))))) (fun _ h => h.sub (List.Sublist.cons _ (List.Sublist.cons _ (List.Sublist.cons _ (List.Sublist.cons_cons _ (List.Sublist.cons_cons _ (List.Sublist.cons_cons _ (List.Sublist.refl _))))))))
   ·
    replace h51 := of_decide_eq_false h51
    have hkn : k = b.n.toNat := by omega
    have hT : ([83] ++ nameS xs.length) ++ joinN [38] (dedup (tlL (fun y : Nat => tellF n a (xs ++ [(x : Int)]) b (ys ++ [(y : Int)])) k)) = tellF (n + 1) a xs b ys := by
     rw [hkn, tell_some1 hsame hmv]; rfl
    have hS : (tellF (n + 1) a xs b ys).length ≤ 4000 := Nat.le_trans (tell_len (n + 1) (by omega) (by omega) (by omega) (by omega)) (Nat.le_trans (LT3 hn3) (by decide))
    have htl : ∀ s ∈ tlL (fun y : Nat => tellF n a (xs ++ [(x : Int)]) b (ys ++ [(y : Int)])) k, s.length ≤ 4000 := fun s hs => by
     obtain ⟨i, _, rfl⟩ := List.mem_map.1 hs
     exact Nat.le_trans (tell_len n (by omega) (by omega) (by omega) (by omega)) (Nat.le_trans (LT3 (by omega)) (by decide))
    have hdl := dedup_memL htl
    have hd0 := dedup_pos (l := tlL (fun y : Nat => tellF n a (xs ++ [(x : Int)]) b (ys ++ [(y : Int)])) k) (by omega)
    have hdn := dedup_le (tlL (fun y : Nat => tellF n a (xs ++ [(x : Int)]) b (ys ++ [(y : Int)])) k)
    have hjl := joinN_len (op := [38]) (by decide) hdl hd0
    have hnm := nameS_length (show xs.length < 4 by omega)
    refine Wk.exit rfl ?_
    refine Kt.sel [14, 15] [_, _] rfl ?_
    refine Wk.seq ?_
    refine Wk.region ?_
    refine Ll.run 1 rfl ?_
    refine Ll.op rfl rfl rfl (OpQ.sadd rfl rfl rfl (by first | omega | (simp only [List.length_append, List.length_cons, List.length_nil]; omega))) ?_
    refine Ll.run 1 rfl ?_
    refine Ll.callRow (xs := [.tmp 70]) (m := (dedup (tlL (fun y : Nat => tellF n a (xs ++ [(x : Int)]) b (ys ++ [(y : Int)])) k)).length) (vs := strs (dedup (tlL (fun y : Nat => tellF n a (xs ++ [(x : Int)]) b (ys ++ [(y : Int)])) k))) (el := 9) (size := 1) rfl rfl rfl rfl Tryd.call86 rfl (fun w1 hw1 => l6Each_ok (sl_ g ((tlL (fun y : Nat => tellF n a (xs ++ [(x : Int)]) b (ys ++ [(y : Int)])) k).length) c) (tlL (fun y : Nat => tellF n a (xs ++ [(x : Int)]) b (ys ++ [(y : Int)])) k) w1 (Own.row hw1 (i := 0) rfl ht (by simp) hl) (by omega)) fun p71 cap71 cur71 hp71 hcp71 hlp71 htp71 => ?_
    refine Ll.op (v := str (joinN ([38]) (dedup (tlL (fun y : Nat => tellF n a (xs ++ [(x : Int)]) b (ys ++ [(y : Int)])) k)))) rfl rfl rfl (OpQ.call rfl Tryd.call87 rfl Own.stable (fun w1 hw1 => l2JoinM_ok ([38]) (dedup (tlL (fun y : Nat => tellF n a (xs ++ [(x : Int)]) b (ys ++ [(y : Int)])) k)) (sl_ p71 ((dedup (tlL (fun y : Nat => tellF n a (xs ++ [(x : Int)]) b (ys ++ [(y : Int)])) k)).length) cap71) 4000 w1 (Own.row hw1 (i := 0) rfl (by simpa using htp71) (by simp) hlp71) hdl (by decide) (by decide) (by omega) hd0)) ?_
    refine Ll.op rfl rfl rfl (OpQ.sadd rfl rfl rfl (by first | omega | (simp only [List.length_append, List.length_cons, List.length_nil]; omega))) ?_
    refine Ll.run 1 rfl ?_
    refine Ll.nil ?_
    refine Kt.sel [10] [_] rfl ?_
    refine Wk.ret (Kt.end1 rfl rfl fun w' hw => ?_)
    -- ret 1: str ((([83]) ++ (nameS xs.length)) ++ (joinN ([38]) (dedup (tlL (fun y : Nat => tellF n a (xs ++ [(x : Int)]) b (ys ++ [(y : Int)])) k))))
    exact ⟨ret_s (by rw [hT]), hw.below⟩
  ·
   obtain rfl : sd = false := by
    cases sd with
    | false => rfl
    | true => exact absurd h47 (by simp [sideS])
   obtain ⟨hxm, hno⟩ := move_at2 hlen hmv
   refine Wk.skip ?_
   refine Kt.sel [1, 3, 4, 5, 7, 12, 14, 15] [_, _, _, _, _, _, _, _] rfl ?_
   refine Wk.seq ?_
   refine Wk.seq ?_
   refine Wk.regionQ ?_
   refine Lq.run 1 rfl ?_
   refine Lq.nil ?_
   refine Kt.sel [1, 3, 4, 5, 7, 12, 14, 15, 17] [_, _, _, _, _, _, _, _, _] rfl ?_
   refine Wk.block ?_
   refine Wk.loop (σ := Nat × Nat × Nat × Array Value) (fun ⟨k, g, c, cur⟩ => (k : Int) ≤ a.n ∧ cur.size = c * 1 ∧ (tlL (fun y : Nat => tellF n b (ys ++ [(x : Int)]) a (xs ++ [(y : Int)])) k).length ≤ c ∧ cur.toList.take (tlL (fun y : Nat => tellF n b (ys ++ [(x : Int)]) a (xs ++ [(y : Int)])) k).length = strs (tlL (fun y : Nat => tellF n b (ys ++ [(x : Int)]) a (xs ++ [(y : Int)])) k)) (fun ⟨k, g, c, cur⟩ => [(1, va), (3, vb), (4, i6_ ((n : Int) + 1)), (5, pt_ p5), (7, pt_ p7), (12, i6_ ((x : Int))), (14, str (nameS xs.length)), (15, sl_ g ((tlL (fun y : Nat => tellF n b (ys ++ [(x : Int)]) a (xs ++ [(y : Int)])) k).length) c), (17, i6_ ((k : Int)))]) (fun ⟨k, g, c, cur⟩ => Own w.heap.size w [bk_ g cur 9, bk_ p7 #[i6_ b.n, str b.set, str b.rel] 28, bk_ p5 #[i6_ a.n, str a.set, str a.rel] 28]) (fun ⟨k, g, c, cur⟩ => (a.n - k).toNat) ((0, p45, 0, #[])) ⟨by omega, rfl, Nat.le_refl 0, rfl⟩ (Sub.sel [1, 3, 4, 5, 7, 12, 14, 15, 17] rfl) (fun _ h => h) ?_
   rintro ⟨k, g, c, cur⟩ ⟨hk, hc, hl, ht⟩
   dsimp only
   have htk := tlL_len (fun y : Nat => tellF n b (ys ++ [(x : Int)]) a (xs ++ [(y : Int)])) k
   refine Wk.seq ?_
   refine Wk.seq ?_
   refine Wk.regionQ ?_
   refine Lq.run 1 rfl ?_
   refine Lq.op rfl rfl rfl (OpQ.fieldAddr rfl Tryd.runUnderlying28 rfl Tryd.sizeOf3 rfl rfl) ?_
   refine Lq.op rfl rfl rfl (OpQ.loadOwn 2 rfl Tryd.isAgg3 rfl rfl rfl) ?_
   refine Lq.run 1 rfl ?_
   refine Lq.nil ?_
   refine Kt.sel [1, 3, 4, 5, 7, 12, 14, 15, 17, 77] [_, _, _, _, _, _, _, _, _, _] rfl ?_
   refine Wk.cond (b := decide (((k : Int)) < a.n)) rfl (fun h77 => ?_) (fun h77 => ?_)
   ·
    replace h77 := of_decide_eq_true h77
    have hE1 := els_more hB (x := (x : Int)) ⟨by omega, by omega⟩
    have hE2 := els_more hA (x := (k : Int)) ⟨by omega, by omega⟩
    have hx9 : b.El (x : Int) := ⟨by omega, by omega⟩
    refine Wk.skip ?_
    refine Kt.sel [1, 3, 4, 5, 7, 12, 14, 15, 17] [_, _, _, _, _, _, _, _, _] rfl ?_
    refine Wk.seq ?_
    refine Wk.block ?_
    refine Wk.regionS (S := Own w.heap.size w [bk_ p7 #[i6_ b.n, str b.set, str b.rel] 28, bk_ p5 #[i6_ a.n, str a.set, str a.rel] 28]) [(0, true), (1, true), (2, true), (3, true), (5, true), (6, true), (7, true), (9, true), (10, true), (4, false), (8, false), (11, false), (12, false), (13, false), (14, true)] Base.mixed (fun _ h => h.drawn) (by kernel_rfl) ?_
    refine Ld.run 1 rfl (fun _ h => h.tail) ?_
    refine Ld.take rfl rfl rfl rfl rfl (OpQ.loadBox (cs := #[i6_ b.n, str b.set, str b.rel]) 0 rfl Tryd.isAgg28 rfl rfl Tryd.sizeOf28) (fun _ h => h.tail) ?_
    refine Ld.run 2 rfl (fun _ h => h.tail) ?_
    refine Ld.take rfl rfl rfl rfl rfl (OpQ.loadBox (cs := #[i6_ a.n, str a.set, str a.rel]) 1 rfl Tryd.isAgg28 rfl rfl Tryd.sizeOf28) (fun _ h => h.tail) ?_
    refine Ld.run 3 rfl (fun _ h => h.tail) ?_
    refine Ld.take (v := i6_ ((n : Int))) rfl rfl rfl rfl rfl (OpQ.cast (by congr 1; omega) (OpQ.sub rfl rfl rfl (by omega) (by omega))) (fun _ h => h.tail) ?_
    refine Ld.loud rfl ?_
    refine Ll.callRow (xs := [.tmp 82, .tmp 83]) (m := (ys ++ [(x : Int)]).length) (vs := ints (ys ++ [(x : Int)])) (el := 3) (size := 1) rfl rfl rfl rfl Tryd.call85 rfl (fun w1 hw1 => l4With_ok vb ys ((x : Int)) w1 (Row.own hvb hw1) (by omega)) fun p84 cap84 cur84 hp84 hcp84 hlp84 htp84 => ?_
    refine Ll.nil (Ld.joint (fun _ h => h.tail.tail) ?_)
    refine Ld.loud rfl ?_
    refine Ll.callRow (xs := [.tmp 86, .tmp 87]) (m := (xs ++ [(k : Int)]).length) (vs := ints (xs ++ [(k : Int)])) (el := 3) (size := 1) rfl rfl rfl rfl Tryd.call85 rfl (fun w1 hw1 => l4With_ok va xs ((k : Int)) w1 (Row.own hva hw1) (by omega)) fun p88 cap88 cur88 hp88 hcp88 hlp88 htp88 => ?_
    refine Ll.nil (Ld.joint (fun _ h => h.tail.tail.tail) ?_)
    refine Ld.loud rfl ?_
    refine Ll.op (v := str (tellF n b (ys ++ [(x : Int)]) a (xs ++ [(k : Int)]))) rfl rfl rfl (OpQ.call rfl Tryd.call48 rfl Own.stable (fun w1 hw1 => ih b a (ys ++ [(x : Int)]) (xs ++ [(k : Int)]) (sl_ p84 ((ys ++ [(x : Int)]).length) cap84) (sl_ p88 ((xs ++ [(k : Int)]).length) cap88) w1 hVb hVa (Own.row hw1 (i := 1) rfl (by simpa using htp84) (by simp) hlp84) (Own.row hw1 (i := 0) rfl (by simpa using htp88) (by simp) hlp88) hE1 hE2 (by simp [hlen]) (by rw [List.length_append, List.length_singleton]; omega) (by omega) (hno k (by omega)))) ?_
    refine Ll.nil (Ld.joint (fun _ h => h.tail.tail.tail) ?_)
    refine Ld.loud rfl ?_
    refine Ll.slice (xs := [.tmp 91]) (vs := [str (tellF n b (ys ++ [(x : Int)]) a (xs ++ [(k : Int)]))]) Base.elem91 rfl rfl rfl rfl rfl rfl (by decide) rfl fun p92 hp92 => ?_
    refine Ll.nil (Ld.joint (fun _ h => h.tail.tail.tail.tail) ?_)
    refine Ld.loud rfl ?_
    refine Ll.appendStrs (xs := tlL (fun y : Nat => tellF n b (ys ++ [(x : Int)]) a (xs ++ [(y : Int)])) k) (ys := ([tellF n b (ys ++ [(x : Int)]) a (xs ++ [(k : Int)])] : List (List UInt8))) Base.elem91 3 rfl rfl rfl rfl rfl rfl rfl hc hl ht (fun w1 hw1 => (Own.row hw1 (i := 0) rfl (n := 1) (cap := 1) (vs := strs ([tellF n b (ys ++ [(x : Int)]) a (xs ++ [(k : Int)])] : List (List UInt8))) rfl rfl (by decide))) (((tlL (fun y : Nat => tellF n b (ys ++ [(x : Int)]) a (xs ++ [(y : Int)])) k) ++ (([tellF n b (ys ++ [(x : Int)]) a (xs ++ [(k : Int)])] : List (List UInt8)))).length) (by first | (simp; done) | (simp; omega)) (by first | (simp; done) | (simp; omega) | omega) fun p93 cap93 cur93 hp93 hcp93 hlp93 htp93 => ?_
    show Ll _ _ (Own _ _ [_, _, _, _, _, _]) _ _ ((93, sl_ p93 ((((tlL (fun y : Nat => tellF n b (ys ++ [(x : Int)]) a (xs ++ [(y : Int)])) k) ++ (([tellF n b (ys ++ [(x : Int)]) a (xs ++ [(k : Int)])] : List (List UInt8)))).length)) cap93) :: _) _ _ _
    refine Ll.nil (Ld.joint (fun _ h => h.tail.tail.tail.tail) ?_)
    refine Ld.run 1 rfl (fun _ h => h.tail.tail.tail.tail) ?_
    refine Ld.nil ?_
    refine Kt.sel [1, 3, 4, 5, 7, 12, 14, 15, 17] [_, _, _, _, _, _, _, _, _] rfl ?_
    refine Wk.regionQ ?_
    refine Lq.run 1 rfl ?_
    refine Lq.op rfl rfl rfl (OpQ.add rfl rfl rfl (by omega) (by omega)) ?_
    refine Lq.run 1 rfl ?_
    refine Lq.nil ?_
    refine Kt.again ((k + 1, p93, cap93, cur93)) ⟨by omega, by simpa using hcp93, by rw [tlL_step]; exact hlp93, by rw [tlL_step]; simpa only [Nat.mul_one] using htp93⟩ (by omega) (Sub.cons rfl (Sub.cons rfl (Sub.cons rfl (Sub.cons rfl (Sub.cons rfl (Sub.cons rfl (Sub.cons rfl (Sub.cons (by rw [tlL_step]; rfl) (Sub.sel [17] rfl))))))))) (fun _ h => h.sub (List.Sublist.cons _ (List.Sublist.cons _ (List.Sublist.cons _ (List.Sublist.cons_cons _ (List.Sublist.cons_cons _ (List.Sublist.cons_cons _ (List.Sublist.refl _))))))))
   ·
    replace h77 := of_decide_eq_false h77
    have hkn : k = a.n.toNat := by omega
    have hT : ([33, 83] ++ nameS xs.length) ++ joinN [38] (dedup (tlL (fun y : Nat => tellF n b (ys ++ [(x : Int)]) a (xs ++ [(y : Int)])) k)) = tellF (n + 1) a xs b ys := by
     rw [hkn, tell_some2 hsame hmv]; rfl
    have hS : (tellF (n + 1) a xs b ys).length ≤ 4000 := Nat.le_trans (tell_len (n + 1) (by omega) (by omega) (by omega) (by omega)) (Nat.le_trans (LT3 hn3) (by decide))
    have htl : ∀ s ∈ tlL (fun y : Nat => tellF n b (ys ++ [(x : Int)]) a (xs ++ [(y : Int)])) k, s.length ≤ 4000 := fun s hs => by
     obtain ⟨i, _, rfl⟩ := List.mem_map.1 hs
     exact Nat.le_trans (tell_len n (by omega) (by omega) (by omega) (by omega)) (Nat.le_trans (LT3 (by omega)) (by decide))
    have hdl := dedup_memL htl
    have hd0 := dedup_pos (l := tlL (fun y : Nat => tellF n b (ys ++ [(x : Int)]) a (xs ++ [(y : Int)])) k) (by omega)
    have hdn := dedup_le (tlL (fun y : Nat => tellF n b (ys ++ [(x : Int)]) a (xs ++ [(y : Int)])) k)
    have hjl := joinN_len (op := [38]) (by decide) hdl hd0
    have hnm := nameS_length (show xs.length < 4 by omega)
    refine Wk.exit rfl ?_
    refine Kt.sel [14, 15] [_, _] rfl ?_
    refine Wk.seq ?_
    refine Wk.region ?_
    refine Ll.run 1 rfl ?_
    refine Ll.op rfl rfl rfl (OpQ.sadd rfl rfl rfl (by first | omega | (simp only [List.length_append, List.length_cons, List.length_nil]; omega))) ?_
    refine Ll.run 1 rfl ?_
    refine Ll.callRow (xs := [.tmp 96]) (m := (dedup (tlL (fun y : Nat => tellF n b (ys ++ [(x : Int)]) a (xs ++ [(y : Int)])) k)).length) (vs := strs (dedup (tlL (fun y : Nat => tellF n b (ys ++ [(x : Int)]) a (xs ++ [(y : Int)])) k))) (el := 9) (size := 1) rfl rfl rfl rfl Tryd.call86 rfl (fun w1 hw1 => l6Each_ok (sl_ g ((tlL (fun y : Nat => tellF n b (ys ++ [(x : Int)]) a (xs ++ [(y : Int)])) k).length) c) (tlL (fun y : Nat => tellF n b (ys ++ [(x : Int)]) a (xs ++ [(y : Int)])) k) w1 (Own.row hw1 (i := 0) rfl ht (by simp) hl) (by omega)) fun p97 cap97 cur97 hp97 hcp97 hlp97 htp97 => ?_
    refine Ll.op (v := str (joinN ([38]) (dedup (tlL (fun y : Nat => tellF n b (ys ++ [(x : Int)]) a (xs ++ [(y : Int)])) k)))) rfl rfl rfl (OpQ.call rfl Tryd.call87 rfl Own.stable (fun w1 hw1 => l2JoinM_ok ([38]) (dedup (tlL (fun y : Nat => tellF n b (ys ++ [(x : Int)]) a (xs ++ [(y : Int)])) k)) (sl_ p97 ((dedup (tlL (fun y : Nat => tellF n b (ys ++ [(x : Int)]) a (xs ++ [(y : Int)])) k)).length) cap97) 4000 w1 (Own.row hw1 (i := 0) rfl (by simpa using htp97) (by simp) hlp97) hdl (by decide) (by decide) (by omega) hd0)) ?_
    refine Ll.op rfl rfl rfl (OpQ.sadd rfl rfl rfl (by first | omega | (simp only [List.length_append, List.length_cons, List.length_nil]; omega))) ?_
    refine Ll.run 1 rfl ?_
    refine Ll.nil ?_
    refine Kt.sel [10] [_] rfl ?_
    refine Wk.ret (Kt.end1 rfl rfl fun w' hw => ?_)
    -- ret 2: str ((([33, 83]) ++ (nameS xs.length)) ++ (joinN ([38]) (dedup (tlL (fun y : Nat => tellF n b (ys ++ [(x : Int)]) a (xs ++ [(y : Int)])) k))))
    exact ⟨ret_s (by rw [hT]), hw.below⟩

theorem ta_ok : ∀ n : Nat, ∀ (a b : St) (xs ys : List Int) (va vb : Value) (w : World), validB a = true → validB b = true → Ints w va xs → Ints w vb ys → a.Els xs → b.Els ys → xs.length = ys.length → xs.length + n ≤ 4 → n ≤ 3 → winB n a xs b ys = false → Calls Tryd.prog 51 #[vS a, va, vS b, vb, .int .i64 (n : Int)] w fun en w' => en = .returned (.tuple #[str (tellF n a xs b ys), .bool true]) ∧ Below w.heap.size w w'
  | 0 => fun a b xs ys va vb w hVa hVb hva hvb hA hB hl h4 _ hno => ta_zero a b xs ys va vb w hVa hVb hva hvb hA hB hl h4 hno
  | n + 1 => fun a b xs ys va vb w hVa hVb hva hvb hA hB hl h4 h3 hno => ta_of n (ta_ok n) a b xs ys va vb w hVa hVb hva hvb hA hB hl h4 h3 hno
theorem ta_at (r : Int) (h0 : 0 ≤ r) : ∀ (a b : St) (xs ys : List Int) (va vb : Value) (w : World), validB a = true → validB b = true → Ints w va xs → Ints w vb ys → a.Els xs → b.Els ys → xs.length = ys.length → xs.length + r.toNat ≤ 4 → r.toNat ≤ 3 → winB r.toNat a xs b ys = false → Calls Tryd.prog 51 #[vS a, va, vS b, vb, .int .i64 r] w fun en w' => en = .returned (.tuple #[str (tellF r.toNat a xs b ys), .bool true]) ∧ Below w.heap.size w w' := by
  have h := ta_ok r.toNat
  rw [Int.toNat_of_nonneg h0] at h
  exact h
theorem ts_ok : ∀ n : Nat, ∀ (a b : St) (xs ys : List Int) (va vb : Value) (w : World), validB a = true → validB b = true → Ints w va xs → Ints w vb ys → a.Els xs → b.Els ys → xs.length = ys.length → xs.length + n ≤ 4 → n ≤ 3 → winB n a xs b ys = false → Calls Tryd.prog 48 #[vS a, va, vS b, vb, .int .i64 (n : Int)] w fun en w' => en = .returned (str (tellF n a xs b ys)) ∧ Below w.heap.size w w'
  | 0 => fun a b xs ys va vb w hVa hVb hva hvb hA hB hl h4 _ hno => ts_zero a b xs ys va vb w hVa hVb hva hvb hA hB hl h4 hno
  | n + 1 => fun a b xs ys va vb w hVa hVb hva hvb hA hB hl h4 h3 hno => ts_of n (ts_ok n) a b xs ys va vb w hVa hVb hva hvb hA hB hl h4 h3 hno
theorem ts_at (r : Int) (h0 : 0 ≤ r) : ∀ (a b : St) (xs ys : List Int) (va vb : Value) (w : World), validB a = true → validB b = true → Ints w va xs → Ints w vb ys → a.Els xs → b.Els ys → xs.length = ys.length → xs.length + r.toNat ≤ 4 → r.toNat ≤ 3 → winB r.toNat a xs b ys = false → Calls Tryd.prog 48 #[vS a, va, vS b, vb, .int .i64 r] w fun en w' => en = .returned (str (tellF r.toNat a xs b ys)) ∧ Below w.heap.size w w' := by
  have h := ts_ok r.toNat
  rw [Int.toNat_of_nonneg h0] at h
  exact h

set_option maxHeartbeats 400000 in
/-- impl.TellApart -/
theorem iTell_ok (a b : St) (xs ys : List Int) (va vb : Value) (w : World) (hsa : a.Small) (hsb : b.Small) (hva : Ints w va xs) (hvb : Ints w vb ys) (hs1 : xs.length ≤ 140737488355328) (hs2 : ys.length ≤ 140737488355328) (r : Int) :
    Calls Tryd.prog 21 [vS a, va, vS b, vb, i6_ r].toArray w fun en w' => en = .returned (.tuple #[str (telOut a xs b ys r).1, .bool (telOut a xs b ys r).2]) ∧ Below w.heap.size w w' := by
 refine fnStart (n := 42) (e := [(0, vS a), (1, va), (2, vS b), (3, vb), (4, i6_ r)]) Tryd.func21 rfl rfl rfl rfl Ends.both ?_
 refine Wk.seq ?_
 refine Wk.region ?_
 refine Ll.box (v := vS a) rfl rfl rfl rfl rfl fun p5 hp5 => ?_
 show Ll _ _ (Own _ _ [_]) _ _ ((5, pt_ p5) :: _) _ _ _
 refine Ll.box (v := vS b) rfl rfl rfl rfl rfl fun p7 hp7 => ?_
 show Ll _ _ (Own _ _ [_, _]) _ _ ((7, pt_ p7) :: _) _ _ _
 refine Ll.op (v := str ([])) rfl rfl rfl (OpQ.assign rfl rfl) ?_
 refine Ll.run 1 rfl ?_
 refine Ll.nil ?_
 refine Kt.sel [1, 3, 4, 5, 7] [_, _, _, _, _] rfl ?_
 refine Wk.seq ?_
 refine Wk.seq ?_
 refine Wk.regionQ ?_
 refine Lq.op rfl rfl rfl (OpQ.loadBox (cs := #[i6_ a.n, str a.set, str a.rel]) 1 rfl Tryd.isAgg28 rfl rfl Tryd.sizeOf28) ?_
 refine Lq.run 1 rfl ?_
 refine Lq.op rfl rfl rfl (OpQ.loadBox (cs := #[i6_ b.n, str b.set, str b.rel]) 0 rfl Tryd.isAgg28 rfl rfl Tryd.sizeOf28) ?_
 refine Lq.run 2 rfl ?_
 refine Lq.op (v := bo_ (gameB a xs b ys r)) rfl rfl rfl (OpQ.call rfl Tryd.call49 rfl Own.stable (fun w1 hw1 => isGame_ok a b xs ys va vb w1 hsa hsb (Row.own hva hw1) (Row.own hvb hw1) (by first | (simp; done) | (simp; omega) | omega) (by first | (simp; done) | (simp; omega) | omega) r)) ?_
 refine Lq.run 2 rfl ?_
 refine Lq.bool fun b19 hg19 => ?_
 cases b19
 ·
  replace hg19 := not_false hg19
  replace hg19 : gameB a xs b ys r = true := by simpa using hg19
  obtain ⟨hLL, hr0, hr3⟩ := gameB_true hg19
  obtain ⟨LA, LB, hlen⟩ := listsB_true hLL
  have ha := LA.fine
  have hb := LB.fine
  have hA := LA.els
  have hB := LB.els
  have hl4 := LA.len
  have hVa := LA.valid
  have hVb := LB.valid
  have hgm : gameB a xs b ys r = true := hg19
  refine Lq.run 1 rfl ?_
  refine Lq.op (v := i6_ ((xs.length : Int))) rfl rfl rfl (OpQ.lenRow rfl Tryd.runUnderlying24 rfl (ints_length _) (fun w1 hw1 => Row.own hva hw1)) ?_
  refine Lq.run 1 rfl ?_
  refine Lq.op rfl rfl rfl (OpQ.add rfl rfl rfl (by omega) (by omega)) ?_
  refine Lq.run 3 rfl ?_
  refine Lq.bool fun b26 hg26 => ?_
  cases b26
  ·
   replace hg26 := of_decide_eq_false hg26
   refine Lq.op rfl rfl rfl (OpQ.loadBox (cs := #[i6_ a.n, str a.set, str a.rel]) 1 rfl Tryd.isAgg28 rfl rfl Tryd.sizeOf28) ?_
   refine Lq.run 1 rfl ?_
   refine Lq.op rfl rfl rfl (OpQ.loadBox (cs := #[i6_ b.n, str b.set, str b.rel]) 0 rfl Tryd.isAgg28 rfl rfl Tryd.sizeOf28) ?_
   refine Lq.run 2 rfl ?_
   refine Lq.op (v := bo_ (winB r.toNat a xs b ys)) rfl rfl rfl (OpQ.call rfl Tryd.call50 rfl Own.stable (fun w1 hw1 => wins_ok a b xs ys va vb w1 ha hb (Row.own hva hw1) (Row.own hvb hw1) hA hB (by first | (simp; done) | (simp; omega) | omega) (by first | (simp; done) | (simp; omega) | omega) r (by omega) (by omega))) ?_
   refine Lq.run 1 rfl ?_
   refine Lq.nil ?_
   refine Kt.sel [1, 3, 4, 5, 7, 33] [_, _, _, _, _, _] rfl ?_
   refine Wk.cond (b := winB r.toNat a xs b ys) rfl (fun h33 => ?_) (fun h33 => ?_)
   ·
    refine Wk.seq ?_
    refine Wk.regionQ ?_
    refine Lq.op (v := str ([])) rfl rfl rfl (OpQ.assign rfl rfl) ?_
    refine Lq.run 1 rfl ?_
    refine Lq.nil ?_
    refine Kt.sel [10, 11] [_, _] rfl ?_
    refine Wk.ret (Kt.end2 rfl rfl rfl fun w' hw => ?_)
    -- ret 0: str ([]); bo_ false
    exact ⟨by rw [telOut_no (by first | (refine .inl ?_; assumption) | (refine .inr (.inl ?_); omega) | (refine .inr (.inr ?_); assumption))], hw.below⟩
   ·
    have hnw : winB r.toNat a xs b ys = false := by assumption
    refine Wk.skip ?_
    refine Kt.sel [1, 3, 4, 5, 7] [_, _, _, _, _] rfl ?_
    refine Wk.seq ?_
    refine Wk.regionQ ?_
    refine Lq.op rfl rfl rfl (OpQ.loadBox (cs := #[i6_ a.n, str a.set, str a.rel]) 1 rfl Tryd.isAgg28 rfl rfl Tryd.sizeOf28) ?_
    refine Lq.run 1 rfl ?_
    refine Lq.op rfl rfl rfl (OpQ.loadBox (cs := #[i6_ b.n, str b.set, str b.rel]) 0 rfl Tryd.isAgg28 rfl rfl Tryd.sizeOf28) ?_
    refine Lq.run 2 rfl ?_
    refine Lq.op (v := .tuple #[str (tellF r.toNat a xs b ys), bo_ true]) rfl rfl rfl (OpQ.call rfl Tryd.call51 rfl Own.stable (fun w1 hw1 => ta_at r hr0 a b xs ys va vb w1 hVa hVb (Row.own hva hw1) (Row.own hvb hw1) hA hB hlen (by omega) (by omega) hnw)) ?_
    refine Lq.op (v := str (tellF r.toNat a xs b ys)) rfl rfl rfl (OpQ.extract rfl rfl rfl) ?_
    refine Lq.op (v := bo_ true) rfl rfl rfl (OpQ.extract rfl rfl rfl) ?_
    refine Lq.run 2 rfl ?_
    refine Lq.nil ?_
    refine Kt.sel [10, 11] [_, _] rfl ?_
    refine Wk.ret (Kt.end2 rfl rfl rfl fun w' hw => ?_)
    -- ret 1: str (tellF r.toNat a xs b ys); bo_ true
    exact ⟨by rw [telOut_yes hgm (by omega) hnw], hw.below⟩
  ·
   replace hg26 := of_decide_eq_true hg26
   refine Lq.pass rfl rfl rfl ?_
   refine Lq.pass rfl rfl rfl ?_
   refine Lq.pass rfl rfl rfl ?_
   refine Lq.pass rfl rfl rfl ?_
   refine Lq.pass rfl rfl rfl ?_
   refine Lq.pass rfl rfl rfl ?_
   refine Lq.run 1 rfl ?_
   refine Lq.nil ?_
   refine Kt.sel [1, 3, 4, 5, 7, 33] [_, _, _, _, _, _] rfl ?_
   refine Wk.condT rfl ?_
   refine Wk.seq ?_
   refine Wk.regionQ ?_
   refine Lq.op (v := str ([])) rfl rfl rfl (OpQ.assign rfl rfl) ?_
   refine Lq.run 1 rfl ?_
   refine Lq.nil ?_
   refine Kt.sel [10, 11] [_, _] rfl ?_
   refine Wk.ret (Kt.end2 rfl rfl rfl fun w' hw => ?_)
   -- ret 2: str ([]); bo_ false
   exact ⟨by rw [telOut_no (by first | (refine .inl ?_; assumption) | (refine .inr (.inl ?_); omega) | (refine .inr (.inr ?_); assumption))], hw.below⟩
 ·
  replace hg19 := not_true hg19
  refine Lq.pass rfl rfl rfl ?_
  refine Lq.pass rfl rfl rfl ?_
  refine Lq.pass rfl rfl rfl ?_
  refine Lq.pass rfl rfl rfl ?_
  refine Lq.pass rfl rfl rfl ?_
  refine Lq.run 2 rfl ?_
  refine Lq.pass rfl rfl rfl ?_
  refine Lq.pass rfl rfl rfl ?_
  refine Lq.pass rfl rfl rfl ?_
  refine Lq.pass rfl rfl rfl ?_
  refine Lq.pass rfl rfl rfl ?_
  refine Lq.pass rfl rfl rfl ?_
  refine Lq.run 1 rfl ?_
  refine Lq.nil ?_
  refine Kt.sel [1, 3, 4, 5, 7, 33] [_, _, _, _, _, _] rfl ?_
  refine Wk.condT rfl ?_
  refine Wk.seq ?_
  refine Wk.regionQ ?_
  refine Lq.op (v := str ([])) rfl rfl rfl (OpQ.assign rfl rfl) ?_
  refine Lq.run 1 rfl ?_
  refine Lq.nil ?_
  refine Kt.sel [10, 11] [_, _] rfl ?_
  refine Wk.ret (Kt.end2 rfl rfl rfl fun w' hw => ?_)
  -- ret 3: str ([]); bo_ false
  exact ⟨by rw [telOut_no (by first | (refine .inl ?_; assumption) | (refine .inr (.inl ?_); omega) | (refine .inr (.inr ?_); assumption))], hw.below⟩

set_option maxHeartbeats 400000 in
/-- spec.TellApart -/
theorem sTell_ok (a b : St) (xs ys : List Int) (va vb : Value) (w : World) (hsa : a.Small) (hsb : b.Small) (hva : Ints w va xs) (hvb : Ints w vb ys) (hs1 : xs.length ≤ 140737488355328) (hs2 : ys.length ≤ 140737488355328) (loa : -9223372036854775808 ≤ a.n) (hia : a.n ≤ 9223372036854775807) (lob : -9223372036854775808 ≤ b.n) (hib : b.n ≤ 9223372036854775807) (r : Int) :
    Calls Tryd.prog 20 [vS a, va, vS b, vb, i6_ r].toArray w fun en w' => en = .returned (.tuple #[str (telOut a xs b ys r).1, .bool (telOut a xs b ys r).2]) ∧ Below w.heap.size w w' := by
 refine fnStart (n := 45) (e := [(0, vS a), (1, va), (2, vS b), (3, vb), (4, i6_ r)]) Tryd.func20 rfl rfl rfl rfl Ends.both ?_
 refine Wk.seq ?_
 refine Wk.region ?_
 refine Ll.box (v := vS a) rfl rfl rfl rfl rfl fun p5 hp5 => ?_
 show Ll _ _ (Own _ _ [_]) _ _ ((5, pt_ p5) :: _) _ _ _
 refine Ll.box (v := vS b) rfl rfl rfl rfl rfl fun p7 hp7 => ?_
 show Ll _ _ (Own _ _ [_, _]) _ _ ((7, pt_ p7) :: _) _ _ _
 refine Ll.op (v := str ([])) rfl rfl rfl (OpQ.assign rfl rfl) ?_
 refine Ll.run 1 rfl ?_
 refine Ll.nil ?_
 refine Kt.sel [1, 3, 4, 5, 7] [_, _, _, _, _] rfl ?_
 refine Wk.seq ?_
 refine Wk.seq ?_
 refine Wk.regionQ ?_
 refine Lq.op rfl rfl rfl (OpQ.loadBox (cs := #[i6_ a.n, str a.set, str a.rel]) 1 rfl Tryd.isAgg28 rfl rfl Tryd.sizeOf28) ?_
 refine Lq.run 1 rfl ?_
 refine Lq.op rfl rfl rfl (OpQ.loadBox (cs := #[i6_ b.n, str b.set, str b.rel]) 0 rfl Tryd.isAgg28 rfl rfl Tryd.sizeOf28) ?_
 refine Lq.run 2 rfl ?_
 refine Lq.op (v := bo_ (gameB a xs b ys r)) rfl rfl rfl (OpQ.call rfl Tryd.call46 rfl Own.stable (fun w1 hw1 => l5Ready_ok a b xs ys va vb w1 hsa hsb (Row.own hva hw1) (Row.own hvb hw1) (by first | (simp; done) | (simp; omega) | omega) (by first | (simp; done) | (simp; omega) | omega) loa hia lob hib r)) ?_
 refine Lq.run 2 rfl ?_
 refine Lq.bool fun b20 hg20 => ?_
 cases b20
 ·
  replace hg20 := not_false hg20
  replace hg20 : gameB a xs b ys r = true := by simpa using hg20
  obtain ⟨hLL, hr0, hr3⟩ := gameB_true hg20
  obtain ⟨LA, LB, hlen⟩ := listsB_true hLL
  have ha := LA.fine
  have hb := LB.fine
  have hA := LA.els
  have hB := LB.els
  have hl4 := LA.len
  have hVa := LA.valid
  have hVb := LB.valid
  have hgm : gameB a xs b ys r = true := hg20
  refine Lq.run 1 rfl ?_
  refine Lq.op (v := i6_ ((xs.length : Int))) rfl rfl rfl (OpQ.lenRow rfl Tryd.runUnderlying24 rfl (ints_length _) (fun w1 hw1 => Row.own hva hw1)) ?_
  refine Lq.run 1 rfl ?_
  refine Lq.op rfl rfl rfl (OpQ.add rfl rfl rfl (by omega) (by omega)) ?_
  refine Lq.run 3 rfl ?_
  refine Lq.bool fun b27 hg27 => ?_
  cases b27
  ·
   replace hg27 := of_decide_eq_false hg27
   refine Lq.op rfl rfl rfl (OpQ.loadBox (cs := #[i6_ a.n, str a.set, str a.rel]) 1 rfl Tryd.isAgg28 rfl rfl Tryd.sizeOf28) ?_
   refine Lq.run 1 rfl ?_
   refine Lq.op rfl rfl rfl (OpQ.loadBox (cs := #[i6_ b.n, str b.set, str b.rel]) 0 rfl Tryd.isAgg28 rfl rfl Tryd.sizeOf28) ?_
   refine Lq.run 2 rfl ?_
   refine Lq.op (v := bo_ (winB r.toNat a xs b ys)) rfl rfl rfl (OpQ.call rfl Tryd.call47 rfl Own.stable (fun w1 hw1 => l5Wins_ok a b xs ys va vb w1 ha hb (Row.own hva hw1) (Row.own hvb hw1) hA hB (by first | (simp; done) | (simp; omega) | omega) (by first | (simp; done) | (simp; omega) | omega) r (by omega) (by omega))) ?_
   refine Lq.run 1 rfl ?_
   refine Lq.nil ?_
   refine Kt.sel [1, 3, 4, 5, 7, 34] [_, _, _, _, _, _] rfl ?_
   refine Wk.cond (b := winB r.toNat a xs b ys) rfl (fun h34 => ?_) (fun h34 => ?_)
   ·
    refine Wk.seq ?_
    refine Wk.regionQ ?_
    refine Lq.op (v := str ([])) rfl rfl rfl (OpQ.assign rfl rfl) ?_
    refine Lq.run 1 rfl ?_
    refine Lq.nil ?_
    refine Kt.sel [10, 11] [_, _] rfl ?_
    refine Wk.ret (Kt.end2 rfl rfl rfl fun w' hw => ?_)
    -- ret 0: str ([]); bo_ false
    exact ⟨by rw [telOut_no (by first | (refine .inl ?_; assumption) | (refine .inr (.inl ?_); omega) | (refine .inr (.inr ?_); assumption))], hw.below⟩
   ·
    have hnw : winB r.toNat a xs b ys = false := by assumption
    have hsh : (tellF r.toNat a xs b ys).length ≤ 4000 := tell_short (by omega) ha hb
    refine Wk.skip ?_
    refine Kt.sel [1, 3, 4, 5, 7] [_, _, _, _, _] rfl ?_
    refine Wk.seq ?_
    refine Wk.regionQ ?_
    refine Lq.op rfl rfl rfl (OpQ.loadBox (cs := #[i6_ a.n, str a.set, str a.rel]) 1 rfl Tryd.isAgg28 rfl rfl Tryd.sizeOf28) ?_
    refine Lq.run 1 rfl ?_
    refine Lq.op rfl rfl rfl (OpQ.loadBox (cs := #[i6_ b.n, str b.set, str b.rel]) 0 rfl Tryd.isAgg28 rfl rfl Tryd.sizeOf28) ?_
    refine Lq.run 2 rfl ?_
    refine Lq.op (v := str (tellF r.toNat a xs b ys)) rfl rfl rfl (OpQ.call rfl Tryd.call48 rfl Own.stable (fun w1 hw1 => ts_at r hr0 a b xs ys va vb w1 hVa hVb (Row.own hva hw1) (Row.own hvb hw1) hA hB hlen (by omega) (by omega) hnw)) ?_
    refine Lq.run 1 rfl ?_
    refine Lq.nil ?_
    refine Kt.sel [12] [_] rfl ?_
    refine Wk.seq ?_
    refine Wk.seq ?_
    refine Wk.regionQ ?_
    refine Lq.run 1 rfl ?_
    refine Lq.op (v := i6_ (((tellF r.toNat a xs b ys).length : Int))) rfl rfl rfl (OpQ.lenStr rfl Tryd.runUnderlying9 rfl) ?_
    refine Lq.run 1 rfl ?_
    refine Lq.nil ?_
    refine Kt.sel [12, 43] [_, _] rfl ?_
    refine Wk.cond (b := decide ((4000 : Int) < (((tellF r.toNat a xs b ys).length : Int)))) rfl (fun h43 => ?_) (fun h43 => ?_)
    ·
     replace h43 := of_decide_eq_true h43
     omega
    ·
     replace h43 := of_decide_eq_false h43
     refine Wk.skip ?_
     refine Kt.sel [12] [_] rfl ?_
     refine Wk.seq ?_
     refine Wk.regionQ ?_
     refine Lq.run 3 rfl ?_
     refine Lq.nil ?_
     refine Kt.sel [10, 11] [_, _] rfl ?_
     refine Wk.ret (Kt.end2 rfl rfl rfl fun w' hw => ?_)
     -- ret 1: str (tellF r.toNat a xs b ys); bo_ true
     exact ⟨by rw [telOut_yes hgm (by omega) hnw], hw.below⟩
  ·
   replace hg27 := of_decide_eq_true hg27
   refine Lq.pass rfl rfl rfl ?_
   refine Lq.pass rfl rfl rfl ?_
   refine Lq.pass rfl rfl rfl ?_
   refine Lq.pass rfl rfl rfl ?_
   refine Lq.pass rfl rfl rfl ?_
   refine Lq.pass rfl rfl rfl ?_
   refine Lq.run 1 rfl ?_
   refine Lq.nil ?_
   refine Kt.sel [1, 3, 4, 5, 7, 34] [_, _, _, _, _, _] rfl ?_
   refine Wk.condT rfl ?_
   refine Wk.seq ?_
   refine Wk.regionQ ?_
   refine Lq.op (v := str ([])) rfl rfl rfl (OpQ.assign rfl rfl) ?_
   refine Lq.run 1 rfl ?_
   refine Lq.nil ?_
   refine Kt.sel [10, 11] [_, _] rfl ?_
   refine Wk.ret (Kt.end2 rfl rfl rfl fun w' hw => ?_)
   -- ret 2: str ([]); bo_ false
   exact ⟨by rw [telOut_no (by first | (refine .inl ?_; assumption) | (refine .inr (.inl ?_); omega) | (refine .inr (.inr ?_); assumption))], hw.below⟩
 ·
  replace hg20 := not_true hg20
  refine Lq.pass rfl rfl rfl ?_
  refine Lq.pass rfl rfl rfl ?_
  refine Lq.pass rfl rfl rfl ?_
  refine Lq.pass rfl rfl rfl ?_
  refine Lq.pass rfl rfl rfl ?_
  refine Lq.run 2 rfl ?_
  refine Lq.pass rfl rfl rfl ?_
  refine Lq.pass rfl rfl rfl ?_
  refine Lq.pass rfl rfl rfl ?_
  refine Lq.pass rfl rfl rfl ?_
  refine Lq.pass rfl rfl rfl ?_
  refine Lq.pass rfl rfl rfl ?_
  refine Lq.run 1 rfl ?_
  refine Lq.nil ?_
  refine Kt.sel [1, 3, 4, 5, 7, 34] [_, _, _, _, _, _] rfl ?_
  refine Wk.condT rfl ?_
  refine Wk.seq ?_
  refine Wk.regionQ ?_
  refine Lq.op (v := str ([])) rfl rfl rfl (OpQ.assign rfl rfl) ?_
  refine Lq.run 1 rfl ?_
  refine Lq.nil ?_
  refine Kt.sel [10, 11] [_, _] rfl ?_
  refine Wk.ret (Kt.end2 rfl rfl rfl fun w' hw => ?_)
  -- ret 3: str ([]); bo_ false
  exact ⟨by rw [telOut_no (by first | (refine .inl ?_; assumption) | (refine .inr (.inl ?_); omega) | (refine .inr (.inr ?_); assumption))], hw.below⟩

end Go.Proofs.YtjcoijejhachhaaDoor
