/-
  Walks: pebbles.
-/
import Derived.Test.YtjcoijejhachhaaDoorPlain31
import Derived.Test.YtjcoijejhachhaaDoorAtomM
import Derived.Test.YtjcoijejhachhaaDoorBase
namespace Go.Proofs.YtjcoijejhachhaaDoor
open Go.RowKit Go.Wk
set_option linter.unusedSimpArgs false

set_option maxHeartbeats 400000 in
/-- spec.l7Pebbles -/
theorem l7Pebbles_ok (a : St) (va : Value) (xs : List Int) (w : World) (hsa : a.Small) (hva : Ints w va xs) (hs : xs.length ≤ 140737488355328) (loa : -9223372036854775808 ≤ a.n) (hia : a.n ≤ 9223372036854775807) :
    Calls Tryd.prog 107 [vS a, va].toArray w fun en w' => en = .returned (.bool (pebB a xs)) ∧ Below w.heap.size w w' := by
 refine fnStart (n := 28) (e := [(0, vS a), (1, va)]) Tryd.func107 rfl rfl rfl rfl Ends.both ?_
 refine Wk.seq ?_
 refine Wk.region ?_
 refine Ll.box (v := vS a) rfl rfl rfl rfl rfl fun p2 hp2 => ?_
 show Ll _ _ (Own _ _ [_]) _ _ ((2, pt_ p2) :: _) _ _ _
 refine Ll.run 1 rfl ?_
 refine Ll.nil ?_
 refine Kt.sel [1, 2] [_, _] rfl ?_
 refine Wk.seq ?_
 refine Wk.seq ?_
 refine Wk.regionQ ?_
 refine Lq.run 1 rfl ?_
 refine Lq.nil ?_
 refine Kt.sel [1, 2, 5] [_, _, _] rfl ?_
 refine Wk.block ?_
 refine Wk.loop (σ := Nat) (fun k => k ≤ xs.length ∧ ∀ i : Nat, i < k → inB (xs.getD i 0) (-1) (pred64 a.n) = true) (fun k => [(1, va), (2, pt_ p2), (5, i6_ ((k : Int)))]) (fun k => Own w.heap.size w [bk_ p2 #[i6_ a.n, str a.set, str a.rel] 28]) (fun k => xs.length - k) (0) ⟨by omega, fun i hi => absurd hi (by omega)⟩ (Sub.sel [1, 2, 5] rfl) (fun _ h => h) ?_
 rintro k ⟨hk, hall⟩
 refine Wk.seq ?_
 refine Wk.seq ?_
 refine Wk.regionQ ?_
 refine Lq.run 2 rfl ?_
 refine Lq.op (v := i6_ ((xs.length : Int))) rfl rfl rfl (OpQ.lenRow rfl Tryd.runUnderlying24 rfl (ints_length _) (fun w1 hw1 => Row.own hva hw1)) ?_
 refine Lq.run 1 rfl ?_
 refine Lq.nil ?_
 refine Kt.sel [1, 2, 5, 9] [_, _, _, _] rfl ?_
 refine Wk.cond (b := decide (((k : Int)) < ((xs.length : Int)))) rfl (fun h9 => ?_) (fun h9 => ?_)
 ·
  replace h9 := of_decide_eq_true h9
  refine Wk.skip ?_
  refine Kt.sel [1, 2, 5] [_, _, _] rfl ?_
  refine Wk.seq ?_
  refine Wk.block ?_
  refine Wk.seq ?_
  refine Wk.regionD Base.mixed (fun _ h => h.drawn) (by kernel_rfl) ?_
  refine Lq.run 2 rfl ?_
  refine Lq.op (v := .pointer (some (sAt va ((k : Int))))) rfl rfl rfl (OpQ.atRow rfl Tryd.runUnderlying24 Tryd.sizeOf3 rfl rfl (by omega) (by rw [ints_length]; omega) (fun w1 hw1 => Row.own hva hw1)) ?_
  refine Lq.op (v := i6_ (xs.getD (((k : Int)).toNat) 0)) rfl rfl rfl (OpQ.load1 rfl Tryd.isAgg3 rfl (fun w1 hw1 => Ints.cell (Row.own hva hw1) (by omega) (by omega))) ?_
  refine Lq.op rfl rfl rfl (OpQ.fieldAddr rfl Tryd.runUnderlying28 rfl Tryd.sizeOf3 rfl rfl) ?_
  refine Lq.op rfl rfl rfl (OpQ.loadOwn 0 rfl Tryd.isAgg3 rfl rfl rfl) ?_
  refine Lq.op (v := i6_ (pred64 a.n)) rfl rfl rfl (OpQ.pred rfl rfl rfl (by omega) (by omega)) ?_
  refine Lq.op (v := bo_ (inB (xs.getD (((k : Int)).toNat) 0) (-1) (pred64 a.n))) rfl rfl rfl (OpQ.call rfl Tryd.call42 rfl Own.stable (fun w1 hw1 => l1In_ok (xs.getD (((k : Int)).toNat) 0) (-1) (pred64 a.n) w1 )) ?_
  refine Lq.run 1 rfl ?_
  refine Lq.nil ?_
  refine Kt.sel [1, 2, 5, 20] [_, _, _, _] rfl ?_
  refine Wk.cond (b := !(inB (xs.getD (((k : Int)).toNat) 0) (-1) (pred64 a.n))) rfl (fun h20 => ?_) (fun h20 => ?_)
  ·
   replace h20 := not_true h20
   refine Wk.seq ?_
   refine Wk.regionQ ?_
   refine Lq.run 1 rfl ?_
   refine Lq.nil ?_
   refine Kt.sel [4] [_] rfl ?_
   refine Wk.ret (Kt.end1 rfl rfl fun w' hw => ?_)
   -- ret 0: bo_ false
   exact ⟨ret_b (peb_no (i := k) (by omega) (by simpa using h20)).symm, hw.below⟩
  ·
   replace h20 := not_false h20
   refine Wk.skip ?_
   refine Kt.sel [1, 2, 5] [_, _, _] rfl ?_
   refine Wk.regionQ ?_
   refine Lq.run 1 rfl ?_
   refine Lq.op rfl rfl rfl (OpQ.add rfl rfl rfl (by omega) (by omega)) ?_
   refine Lq.run 1 rfl ?_
   refine Lq.nil ?_
   refine Kt.again (k + 1) ⟨by omega, fun i hi => (Nat.lt_succ_iff_lt_or_eq.1 hi).elim (hall i) (fun e => by subst e; simpa using h20)⟩ (by omega) (Sub.sel [1, 2, 5] rfl) (fun _ h => h)
 ·
  replace h9 := of_decide_eq_false h9
  refine Wk.exit rfl ?_
  refine Kt.sel [1, 2] [_, _] rfl ?_
  refine Wk.seq ?_
  refine Wk.regionQ ?_
  refine Lq.op rfl rfl rfl (OpQ.loadBox (cs := #[i6_ a.n, str a.set, str a.rel]) 0 rfl Tryd.isAgg28 rfl rfl Tryd.sizeOf28) ?_
  refine Lq.op (v := bo_ (validB a)) rfl rfl rfl (OpQ.call rfl Tryd.call52 rfl Own.stable (fun w1 hw1 => sValid_ok a w1 hsa)) ?_
  refine Lq.run 1 rfl ?_
  refine Lq.bool fun b23 hg23 => ?_
  cases b23
  ·
   refine Lq.pass rfl rfl rfl ?_
   refine Lq.pass rfl rfl rfl ?_
   refine Lq.pass rfl rfl rfl ?_
   refine Lq.run 2 rfl ?_
   refine Lq.nil ?_
   refine Kt.sel [4] [_] rfl ?_
   refine Wk.ret (Kt.end1 rfl rfl fun w' hw => ?_)
   -- ret 1: bo_ false
   exact ⟨ret_b (by rw [peb_yes (fun i hi => hall i (by omega))]; simp [*]), hw.below⟩
  ·
   refine Lq.run 1 rfl ?_
   refine Lq.op (v := i6_ ((xs.length : Int))) rfl rfl rfl (OpQ.lenRow rfl Tryd.runUnderlying24 rfl (ints_length _) (fun w1 hw1 => Row.own hva hw1)) ?_
   refine Lq.op (v := bo_ (inB ((xs.length : Int)) 1 3)) rfl rfl rfl (OpQ.call rfl Tryd.call42 rfl Own.stable (fun w1 hw1 => l1In_ok ((xs.length : Int)) 1 3 w1 )) ?_
   refine Lq.run 2 rfl ?_
   refine Lq.nil ?_
   refine Kt.sel [4] [_] rfl ?_
   refine Wk.ret (Kt.end1 rfl rfl fun w' hw => ?_)
   -- ret 2: bo_ (inB ((xs.length : Int)) 1 3)
   exact ⟨ret_b (by rw [peb_yes (fun i hi => hall i (by omega))]; simp [*]), hw.below⟩

set_option maxHeartbeats 400000 in
/-- spec.l7Ready -/
theorem l7Ready_ok (a b : St) (xs ys : List Int) (va vb : Value) (w : World) (hsa : a.Small) (hsb : b.Small) (hva : Ints w va xs) (hvb : Ints w vb ys) (hs1 : xs.length ≤ 140737488355328) (hs2 : ys.length ≤ 140737488355328) (loa : -9223372036854775808 ≤ a.n) (hia : a.n ≤ 9223372036854775807) (lob : -9223372036854775808 ≤ b.n) (hib : b.n ≤ 9223372036854775807) :
    Calls Tryd.prog 54 [vS a, va, vS b, vb].toArray w fun en w' => en = .returned (.bool (readyB a xs b ys)) ∧ Below w.heap.size w w' := by
 refine fnStart (n := 44) (e := [(0, vS a), (1, va), (2, vS b), (3, vb)]) Tryd.func54 rfl rfl rfl rfl Ends.both ?_
 refine Wk.seq ?_
 refine Wk.region ?_
 refine Ll.box (v := vS a) rfl rfl rfl rfl rfl fun p4 hp4 => ?_
 show Ll _ _ (Own _ _ [_]) _ _ ((4, pt_ p4) :: _) _ _ _
 refine Ll.box (v := vS b) rfl rfl rfl rfl rfl fun p6 hp6 => ?_
 show Ll _ _ (Own _ _ [_, _]) _ _ ((6, pt_ p6) :: _) _ _ _
 refine Ll.run 1 rfl ?_
 refine Ll.nil ?_
 refine Kt.sel [1, 3, 4, 6] [_, _, _, _] rfl ?_
 refine Wk.seq ?_
 refine Wk.seq ?_
 refine Wk.regionQ ?_
 refine Lq.op rfl rfl rfl (OpQ.loadBox (cs := #[i6_ a.n, str a.set, str a.rel]) 1 rfl Tryd.isAgg28 rfl rfl Tryd.sizeOf28) ?_
 refine Lq.run 1 rfl ?_
 refine Lq.op (v := bo_ (pebB a xs)) rfl rfl rfl (OpQ.call rfl Tryd.call107 rfl Own.stable (fun w1 hw1 => l7Pebbles_ok a va xs w1 hsa (Row.own hva hw1) (by first | (simp; done) | (simp; omega) | omega) loa hia)) ?_
 refine Lq.run 2 rfl ?_
 refine Lq.bool fun b14 hg14 => ?_
 cases b14
 ·
  replace hg14 := not_false hg14
  refine Lq.op rfl rfl rfl (OpQ.loadBox (cs := #[i6_ b.n, str b.set, str b.rel]) 0 rfl Tryd.isAgg28 rfl rfl Tryd.sizeOf28) ?_
  refine Lq.run 1 rfl ?_
  refine Lq.op (v := bo_ (pebB b ys)) rfl rfl rfl (OpQ.call rfl Tryd.call107 rfl Own.stable (fun w1 hw1 => l7Pebbles_ok b vb ys w1 hsb (Row.own hvb hw1) (by first | (simp; done) | (simp; omega) | omega) lob hib)) ?_
  refine Lq.run 3 rfl ?_
  refine Lq.bool fun b20 hg20 => ?_
  cases b20
  ·
   replace hg20 := not_false hg20
   refine Lq.run 1 rfl ?_
   refine Lq.op (v := i6_ ((xs.length : Int))) rfl rfl rfl (OpQ.lenRow rfl Tryd.runUnderlying24 rfl (ints_length _) (fun w1 hw1 => Row.own hva hw1)) ?_
   refine Lq.run 1 rfl ?_
   refine Lq.op (v := i6_ ((ys.length : Int))) rfl rfl rfl (OpQ.lenRow rfl Tryd.runUnderlying24 rfl (ints_length _) (fun w1 hw1 => Row.own hvb hw1)) ?_
   refine Lq.run 2 rfl ?_
   refine Lq.nil ?_
   refine Kt.sel [1, 3, 26] [_, _, _] rfl ?_
   refine Wk.cond (b := !(decide (((xs.length : Int)) = ((ys.length : Int))))) rfl (fun h26 => ?_) (fun h26 => ?_)
   ·
    replace h26 := not_true h26
    replace h26 := of_decide_eq_false h26
    refine Wk.seq ?_
    refine Wk.regionQ ?_
    refine Lq.run 1 rfl ?_
    refine Lq.nil ?_
    refine Kt.sel [8] [_] rfl ?_
    refine Wk.ret (Kt.end1 rfl rfl fun w' hw => ?_)
    -- ret 0: bo_ false
    exact ⟨ret_b (by unfold readyB; first | (simp [*]; done) | (rw [signs_no (k := k) (by omega) (beq_of_bneT (by assumption))]; simp; done) | (rw [signs_yes (k := k) (by omega) hall]; simp [*]; done) | (simp [*]; omega)), hw.below⟩
   ·
    replace h26 := not_false h26
    replace h26 := of_decide_eq_true h26
    refine Wk.skip ?_
    refine Kt.sel [1, 3] [_, _] rfl ?_
    refine Wk.seq ?_
    refine Wk.seq ?_
    refine Wk.regionQ ?_
    refine Lq.run 1 rfl ?_
    refine Lq.nil ?_
    refine Kt.sel [1, 3, 9] [_, _, _] rfl ?_
    refine Wk.block ?_
    refine Wk.loop (σ := Nat) (fun k => k ≤ xs.length ∧ ∀ i : Nat, i < k → (decide (xs.getD i 0 < 0) == decide (ys.getD i 0 < 0)) = true) (fun k => [(1, va), (3, vb), (9, i6_ ((k : Int)))]) (fun k => Own w.heap.size w [bk_ p6 #[i6_ b.n, str b.set, str b.rel] 28, bk_ p4 #[i6_ a.n, str a.set, str a.rel] 28]) (fun k => xs.length - k) (0) ⟨by omega, fun i hi => absurd hi (by omega)⟩ (Sub.sel [1, 3, 9] rfl) (fun _ h => h) ?_
    rintro k ⟨hk, hall⟩
    refine Wk.seq ?_
    refine Wk.seq ?_
    refine Wk.regionQ ?_
    refine Lq.run 2 rfl ?_
    refine Lq.op (v := i6_ ((xs.length : Int))) rfl rfl rfl (OpQ.lenRow rfl Tryd.runUnderlying24 rfl (ints_length _) (fun w1 hw1 => Row.own hva hw1)) ?_
    refine Lq.run 1 rfl ?_
    refine Lq.nil ?_
    refine Kt.sel [1, 3, 9, 30] [_, _, _, _] rfl ?_
    refine Wk.cond (b := decide (((k : Int)) < ((xs.length : Int)))) rfl (fun h30 => ?_) (fun h30 => ?_)
    ·
     replace h30 := of_decide_eq_true h30
     refine Wk.skip ?_
     refine Kt.sel [1, 3, 9] [_, _, _] rfl ?_
     refine Wk.seq ?_
     refine Wk.block ?_
     refine Wk.seq ?_
     refine Wk.regionD Base.mixed (fun _ h => h.drawn) (by kernel_rfl) ?_
     refine Lq.run 2 rfl ?_
     refine Lq.op (v := .pointer (some (sAt va ((k : Int))))) rfl rfl rfl (OpQ.atRow rfl Tryd.runUnderlying24 Tryd.sizeOf3 rfl rfl (by omega) (by rw [ints_length]; omega) (fun w1 hw1 => Row.own hva hw1)) ?_
     refine Lq.op (v := i6_ (xs.getD (((k : Int)).toNat) 0)) rfl rfl rfl (OpQ.load1 rfl Tryd.isAgg3 rfl (fun w1 hw1 => Ints.cell (Row.own hva hw1) (by omega) (by omega))) ?_
     refine Lq.run 3 rfl ?_
     refine Lq.op (v := .pointer (some (sAt vb ((k : Int))))) rfl rfl rfl (OpQ.atRow rfl Tryd.runUnderlying24 Tryd.sizeOf3 rfl rfl (by omega) (by rw [ints_length]; omega) (fun w1 hw1 => Row.own hvb hw1)) ?_
     refine Lq.op (v := i6_ (ys.getD (((k : Int)).toNat) 0)) rfl rfl rfl (OpQ.load1 rfl Tryd.isAgg3 rfl (fun w1 hw1 => Ints.cell (Row.own hvb hw1) (by omega) (by omega))) ?_
     refine Lq.run 1 rfl ?_
     refine Lq.op rfl rfl rfl (OpQ.bne rfl Tryd.runUnderlying4 rfl rfl) ?_
     refine Lq.nil ?_
     refine Kt.sel [1, 3, 9, 43] [_, _, _, _] rfl ?_
     refine Wk.cond (b := (decide ((xs.getD (((k : Int)).toNat) 0) < (0 : Int))) != (decide ((ys.getD (((k : Int)).toNat) 0) < (0 : Int)))) rfl (fun h43 => ?_) (fun h43 => ?_)
     ·
      refine Wk.seq ?_
      refine Wk.regionQ ?_
      refine Lq.run 1 rfl ?_
      refine Lq.nil ?_
      refine Kt.sel [8] [_] rfl ?_
      refine Wk.ret (Kt.end1 rfl rfl fun w' hw => ?_)
      -- ret 1: bo_ false
      exact ⟨ret_b (by unfold readyB; first | (simp [*]; done) | (rw [signs_no (k := k) (by omega) (beq_of_bneT (by assumption))]; simp; done) | (rw [signs_yes (k := k) (by omega) hall]; simp [*]; done) | (simp [*]; omega)), hw.below⟩
     ·
      refine Wk.skip ?_
      refine Kt.sel [1, 3, 9] [_, _, _] rfl ?_
      refine Wk.regionQ ?_
      refine Lq.run 1 rfl ?_
      refine Lq.op rfl rfl rfl (OpQ.add rfl rfl rfl (by omega) (by omega)) ?_
      refine Lq.run 1 rfl ?_
      refine Lq.nil ?_
      refine Kt.again (k + 1) ⟨by omega, fun i hi => (Nat.lt_succ_iff_lt_or_eq.1 hi).elim (hall i) (fun e => by subst e; exact beq_of_bne h43)⟩ (by omega) (Sub.sel [1, 3, 9] rfl) (fun _ h => h)
    ·
     replace h30 := of_decide_eq_false h30
     refine Wk.exit rfl ?_
     refine Kt.sel [] [] rfl ?_
     refine Wk.seq ?_
     refine Wk.regionQ ?_
     refine Lq.run 1 rfl ?_
     refine Lq.nil ?_
     refine Kt.sel [8] [_] rfl ?_
     refine Wk.ret (Kt.end1 rfl rfl fun w' hw => ?_)
     -- ret 2: bo_ true
     exact ⟨ret_b (by unfold readyB; first | (simp [*]; done) | (rw [signs_no (k := k) (by omega) (beq_of_bneT (by assumption))]; simp; done) | (rw [signs_yes (k := k) (by omega) hall]; simp [*]; done) | (simp [*]; omega)), hw.below⟩
  ·
   replace hg20 := not_true hg20
   refine Lq.pass rfl rfl rfl ?_
   refine Lq.pass rfl rfl rfl ?_
   refine Lq.pass rfl rfl rfl ?_
   refine Lq.pass rfl rfl rfl ?_
   refine Lq.pass rfl rfl rfl ?_
   refine Lq.run 1 rfl ?_
   refine Lq.nil ?_
   refine Kt.sel [1, 3, 26] [_, _, _] rfl ?_
   refine Wk.condT rfl ?_
   refine Wk.seq ?_
   refine Wk.regionQ ?_
   refine Lq.run 1 rfl ?_
   refine Lq.nil ?_
   refine Kt.sel [8] [_] rfl ?_
   refine Wk.ret (Kt.end1 rfl rfl fun w' hw => ?_)
   -- ret 3: bo_ false
   exact ⟨ret_b (by unfold readyB; first | (simp [*]; done) | (rw [signs_no (k := k) (by omega) (beq_of_bneT (by assumption))]; simp; done) | (rw [signs_yes (k := k) (by omega) hall]; simp [*]; done) | (simp [*]; omega)), hw.below⟩
 ·
  replace hg14 := not_true hg14
  refine Lq.pass rfl rfl rfl ?_
  refine Lq.pass rfl rfl rfl ?_
  refine Lq.pass rfl rfl rfl ?_
  refine Lq.pass rfl rfl rfl ?_
  refine Lq.run 2 rfl ?_
  refine Lq.pass rfl rfl rfl ?_
  refine Lq.pass rfl rfl rfl ?_
  refine Lq.pass rfl rfl rfl ?_
  refine Lq.pass rfl rfl rfl ?_
  refine Lq.pass rfl rfl rfl ?_
  refine Lq.run 1 rfl ?_
  refine Lq.nil ?_
  refine Kt.sel [1, 3, 26] [_, _, _] rfl ?_
  refine Wk.condT rfl ?_
  refine Wk.seq ?_
  refine Wk.regionQ ?_
  refine Lq.run 1 rfl ?_
  refine Lq.nil ?_
  refine Kt.sel [8] [_] rfl ?_
  refine Wk.ret (Kt.end1 rfl rfl fun w' hw => ?_)
  -- ret 4: bo_ false
  exact ⟨ret_b (by unfold readyB; first | (simp [*]; done) | (rw [signs_no (k := k) (by omega) (beq_of_bneT (by assumption))]; simp; done) | (rw [signs_yes (k := k) (by omega) hall]; simp [*]; done) | (simp [*]; omega)), hw.below⟩

set_option maxHeartbeats 400000 in
/-- spec.l7Atoms -/
theorem l7Atoms_ok (a : St) (va : Value) (xs : List Int) (w : World) (hP : Pebbles a xs) (hva : Ints w va xs) :
    Calls Tryd.prog 143 [vS a, va].toArray w fun en w' => en = .returned (str (signT xs xs.length ++ atomBits a (placed xs xs.length))) ∧ Below w.heap.size w w' := by
 refine fnStart (n := 36) (e := [(0, vS a), (1, va)]) Tryd.func143 rfl rfl rfl rfl Ends.both ?_
 have ha := hP.fine
 have h3 := hP.hi
 have htop := hP.top
 refine Wk.seq ?_
 refine Wk.region ?_
 refine Ll.box (v := vS a) rfl rfl rfl rfl rfl fun p2 hp2 => ?_
 show Ll _ _ (Own _ _ [_]) _ _ ((2, pt_ p2) :: _) _ _ _
 refine Ll.op (v := str ([])) rfl rfl rfl (OpQ.assign rfl rfl) ?_
 refine Ll.nil ?_
 refine Kt.sel [1, 2] [_, _] rfl ?_
 refine Wk.seq ?_
 refine Wk.regionQ ?_
 refine Lq.op (v := str ([])) rfl rfl rfl (OpQ.assign rfl rfl) ?_
 refine Lq.nil ?_
 refine Kt.sel [1, 2, 5] [_, _, _] rfl ?_
 refine Wk.seq ?_
 refine Wk.region ?_
 refine Ll.slice (xs := []) (vs := []) Base.elem24 rfl rfl rfl rfl rfl rfl (by decide) rfl fun p8 hp8 => ?_
 refine Ll.run 1 rfl ?_
 refine Ll.nil ?_
 refine Kt.sel [1, 2, 5, 6] [_, _, _, _] rfl ?_
 refine Wk.seq ?_
 refine Wk.seq ?_
 refine Wk.regionQ ?_
 refine Lq.run 1 rfl ?_
 refine Lq.nil ?_
 refine Kt.sel [1, 2, 5, 6, 7] [_, _, _, _, _] rfl ?_
 refine Wk.block ?_
 refine Wk.loop (σ := Nat × Nat × Nat × Array Value) (fun ⟨k, g, c, cur⟩ => (k ≤ xs.length) ∧ w.heap.size ≤ g ∧ cur.size = c * 1 ∧ (placed xs k).length ≤ c ∧ cur.toList.take ((placed xs k).length * 1) = ints (placed xs k)) (fun ⟨k, g, c, cur⟩ => [(1, va), (2, pt_ p2), (5, str (signT xs k)), (6, sl_ g ((placed xs k).length) c), (7, i6_ ((k : Int)))]) (fun ⟨k, g, c, cur⟩ => Own w.heap.size w [bk_ g cur 3, bk_ p2 #[i6_ a.n, str a.set, str a.rel] 28]) (fun ⟨k, g, c, cur⟩ => xs.length - k) ((0, p8, 0, #[])) ⟨by omega, hp8, rfl, by simp, rfl⟩ (Sub.cons rfl (Sub.cons rfl (Sub.cons rfl (Sub.sel [6, 7] rfl)))) (fun _ h => h) ?_
 rintro ⟨k, g, c, cur⟩ ⟨hk, hg, hc, hl, ht⟩
 dsimp only
 refine Wk.seq ?_
 refine Wk.seq ?_
 refine Wk.regionQ ?_
 refine Lq.run 2 rfl ?_
 refine Lq.op (v := i6_ ((xs.length : Int))) rfl rfl rfl (OpQ.lenRow rfl Tryd.runUnderlying24 rfl (ints_length _) (fun w1 hw1 => Row.own hva hw1)) ?_
 refine Lq.run 1 rfl ?_
 refine Lq.nil ?_
 refine Kt.sel [1, 2, 5, 6, 7, 12] [_, _, _, _, _, _] rfl ?_
 refine Wk.cond (b := decide (((k : Int)) < ((xs.length : Int)))) rfl (fun h12 => ?_) (fun h12 => ?_)
 ·
  replace h12 := of_decide_eq_true h12
  have hple := placed_le xs k
  refine Wk.skip ?_
  refine Kt.sel [1, 2, 5, 6, 7] [_, _, _, _, _] rfl ?_
  refine Wk.seq ?_
  refine Wk.block ?_
  refine Wk.seq ?_
  refine Wk.seq ?_
  refine Wk.regionQ ?_
  refine Lq.run 2 rfl ?_
  refine Lq.op (v := .pointer (some (sAt va ((k : Int))))) rfl rfl rfl (OpQ.atRow rfl Tryd.runUnderlying24 Tryd.sizeOf3 rfl rfl (by omega) (by rw [ints_length]; omega) (fun w1 hw1 => Row.own hva hw1)) ?_
  refine Lq.op (v := i6_ (xs.getD (((k : Int)).toNat) 0)) rfl rfl rfl (OpQ.load1 rfl Tryd.isAgg3 rfl (fun w1 hw1 => Ints.cell (Row.own hva hw1) (by omega) (by omega))) ?_
  refine Lq.run 1 rfl ?_
  refine Lq.nil ?_
  refine Kt.sel [1, 2, 5, 6, 7, 19] [_, _, _, _, _, _] rfl ?_
  refine Wk.cond (b := decide ((xs.getD (((k : Int)).toNat) 0) < (0 : Int))) rfl (fun h19 => ?_) (fun h19 => ?_)
  ·
   replace h19 := of_decide_eq_true h19
   refine Wk.seq ?_
   refine Wk.regionQ ?_
   refine Lq.run 1 rfl ?_
   refine Lq.op rfl rfl rfl (OpQ.sadd rfl rfl rfl (by simp only [signT_length, List.length_cons, List.length_nil]; omega)) ?_
   refine Lq.run 1 rfl ?_
   refine Lq.nil ?_
   refine Kt.sel [1, 2, 5, 6, 7] [_, _, _, _, _] rfl ?_
   refine Wk.exit rfl ?_
   refine Kt.sel [1, 2, 5, 6, 7] [_, _, _, _, _] rfl ?_
   refine Wk.regionQ ?_
   refine Lq.run 1 rfl ?_
   refine Lq.op rfl rfl rfl (OpQ.add rfl rfl rfl (by omega) (by omega)) ?_
   refine Lq.run 1 rfl ?_
   refine Lq.nil ?_
   refine Kt.again ((k + 1, g, c, cur)) ⟨(by omega), hg, hc, (by rw [placed_neg (by assumption)]; exact hl), (by rw [placed_neg (by assumption)]; exact ht)⟩ (by omega) (Sub.cons rfl (Sub.cons rfl (Sub.cons (by first | (rw [signT_neg (by assumption)]; rfl) | (rw [signT_pos (by assumption)]; rfl)) (Sub.cons (by rw [placed_neg (by assumption)]; rfl) (Sub.sel [7] rfl))))) (fun _ h => h)
  ·
   replace h19 := of_decide_eq_false h19
   refine Wk.skip ?_
   refine Kt.sel [1, 2, 5, 6, 7] [_, _, _, _, _] rfl ?_
   refine Wk.seq ?_
   refine Wk.regionQ ?_
   refine Lq.run 1 rfl ?_
   refine Lq.op rfl rfl rfl (OpQ.sadd rfl rfl rfl (by simp only [signT_length, List.length_cons, List.length_nil]; omega)) ?_
   refine Lq.run 1 rfl ?_
   refine Lq.nil ?_
   refine Kt.sel [1, 2, 5, 6, 7] [_, _, _, _, _] rfl ?_
   refine Wk.region ?_
   refine Ll.run 3 rfl ?_
   refine Ll.op (v := .pointer (some (sAt va ((k : Int))))) rfl rfl rfl (OpQ.atRow rfl Tryd.runUnderlying24 Tryd.sizeOf3 rfl rfl (by omega) (by rw [ints_length]; omega) (fun w1 hw1 => Row.own hva hw1)) ?_
   refine Ll.op (v := i6_ (xs.getD (((k : Int)).toNat) 0)) rfl rfl rfl (OpQ.load1 rfl Tryd.isAgg3 rfl (fun w1 hw1 => Ints.cell (Row.own hva hw1) (by omega) (by omega))) ?_
   refine Ll.slice (xs := [.tmp 28]) (vs := [i6_ (xs.getD (((k : Int)).toNat) 0)]) Base.elem24 rfl rfl rfl rfl rfl rfl (by decide) rfl fun p29 hp29 => ?_
   refine Ll.appendInts (xs := placed xs k) (ys := [xs.getD (((k : Int)).toNat) 0]) Base.elem24 1 rfl rfl rfl rfl rfl rfl rfl hc hl (by simpa using ht) (fun w1 hw1 => (Own.row hw1 (i := 0) rfl (n := 1) (cap := 1) (vs := ints [xs.getD (((k : Int)).toNat) 0]) rfl rfl (by decide))) (((placed xs k) ++ ([xs.getD (((k : Int)).toNat) 0])).length) (by first | (simp; done) | (simp; omega)) (by first | (simp; done) | (simp; omega) | omega) fun p30 cap30 cur30 hp30 hcp30 hlp30 htp30 => ?_
   show Ll _ _ (Own _ _ [_, _, _]) _ _ ((30, sl_ p30 ((((placed xs k) ++ ([xs.getD (((k : Int)).toNat) 0])).length)) cap30) :: _) _ _ _
   refine Ll.run 1 rfl ?_
   refine Ll.nil ?_
   refine Kt.sel [1, 2, 5, 6, 7] [_, _, _, _, _] rfl ?_
   refine Wk.regionQ ?_
   refine Lq.run 1 rfl ?_
   refine Lq.op rfl rfl rfl (OpQ.add rfl rfl rfl (by omega) (by omega)) ?_
   refine Lq.run 1 rfl ?_
   refine Lq.nil ?_
   refine Kt.again ((k + 1, p30, cap30, cur30)) ⟨(by omega), (by omega), hcp30, (by rw [placed_pos (by assumption)]; exact hlp30), (by rw [placed_pos (by assumption)]; exact htp30)⟩ (by omega) (Sub.cons rfl (Sub.cons rfl (Sub.cons (by first | (rw [signT_neg (by assumption)]; rfl) | (rw [signT_pos (by assumption)]; rfl)) (Sub.cons (by rw [placed_pos (by assumption)]; rfl) (Sub.sel [7] rfl))))) (fun _ h => h.tail)
 ·
  replace h12 := of_decide_eq_false h12
  have hple := placed_le xs k
  have hbs := bits_small (a := a) (xs := placed xs k) (i := (placed xs k).length) (by omega)
  refine Wk.exit rfl ?_
  refine Kt.sel [2, 5, 6] [_, _, _] rfl ?_
  refine Wk.seq ?_
  refine Wk.regionQ ?_
  refine Lq.run 1 rfl ?_
  refine Lq.op rfl rfl rfl (OpQ.loadBox (cs := #[i6_ a.n, str a.set, str a.rel]) 1 rfl Tryd.isAgg28 rfl rfl Tryd.sizeOf28) ?_
  refine Lq.run 1 rfl ?_
  refine Lq.op (v := str (atomBits a (placed xs k))) rfl rfl rfl (OpQ.call rfl Tryd.call135 rfl Own.stable (fun w1 hw1 => l5Atoms_ok a (sl_ g ((placed xs k).length) c) (placed xs k) w1 ha (Own.row hw1 (i := 0) rfl (by simpa using ht) (by simp) hl) (placed_els hk htop) (by omega))) ?_
  refine Lq.op rfl rfl rfl (OpQ.sadd rfl rfl rfl (by unfold atomBits; simp only [signT_length]; omega)) ?_
  refine Lq.run 1 rfl ?_
  refine Lq.nil ?_
  refine Kt.sel [4] [_] rfl ?_
  refine Wk.ret (Kt.end1 rfl rfl fun w' hw => ?_)
  -- ret 0: str ((signT xs k) ++ (atomBits a (placed xs k)))
  exact ⟨ret_s (by rw [show k = xs.length from by omega]), hw.below⟩

set_option maxHeartbeats 400000 in
/-- impl.arePebbles$1 -/
theorem noPeb_ok (a : St) (g T : Nat) (x : Int) (w : World) (hg : w.heap[g]? = some (.cells #[.int .i64 a.n, str a.set, str a.rel] T (0, 0))) :
    Calls Tryd.prog 150 [i6_ x, .pointer (some ⟨g, 0, none⟩)].toArray w fun en w' => en = .returned (.bool (!inB x (-1) (a.n - 1))) ∧ Below w.heap.size w w' := by
 refine fnStart (n := 12) (e := [(0, i6_ x), (1, .pointer (some ⟨g, 0, none⟩))]) Tryd.func150 rfl rfl rfl rfl Ends.both ?_
 refine Wk.seq ?_
 refine Wk.regionQ ?_
 refine Lq.run 1 rfl ?_
 refine Lq.nil ?_
 refine Kt.sel [0, 1] [_, _] rfl ?_
 refine Wk.seq ?_
 refine Wk.regionQ ?_
 refine Lq.run 3 rfl ?_
 refine Lq.bool fun b6 hg6 => ?_
 cases b6
 ·
  replace hg6 := of_decide_eq_false hg6
  refine Lq.run 1 rfl ?_
  refine Lq.op rfl rfl rfl (OpQ.fieldAddr rfl Tryd.runUnderlying28 rfl Tryd.sizeOf3 rfl rfl) ?_
  refine Lq.op (v := i6_ a.n) rfl rfl rfl (OpQ.load1 rfl Tryd.isAgg3 rfl (fun w1 hw1 => at_box hg hw1 0 rfl)) ?_
  refine Lq.run 3 rfl ?_
  refine Lq.nil ?_
  refine Kt.sel [3] [_] rfl ?_
  refine Wk.ret (Kt.end1 rfl rfl fun w' hw => ?_)
  -- ret 0: bo_ (decide (a.n ≤ x))
  exact ⟨ret_b (by first | exact pel_neg (by assumption) | exact pel_geq (by assumption)), hw.below⟩
 ·
  replace hg6 := of_decide_eq_true hg6
  refine Lq.pass rfl rfl rfl ?_
  refine Lq.pass rfl rfl rfl ?_
  refine Lq.pass rfl rfl rfl ?_
  refine Lq.pass rfl rfl rfl ?_
  refine Lq.run 2 rfl ?_
  refine Lq.nil ?_
  refine Kt.sel [3] [_] rfl ?_
  refine Wk.ret (Kt.end1 rfl rfl fun w' hw => ?_)
  -- ret 1: bo_ true
  exact ⟨ret_b (by first | exact pel_neg (by assumption) | exact pel_geq (by assumption)), hw.below⟩

set_option maxHeartbeats 400000 in
/-- impl.arePebbles -/
theorem arePebbles_ok (a : St) (va : Value) (xs : List Int) (w : World) (hva : Ints w va xs) (hs : xs.length ≤ 140737488355328) :
    Calls Tryd.prog 115 [vS a, va].toArray w fun en w' => en = .returned (.bool (pebL a xs)) ∧ Below w.heap.size w w' := by
 refine fnStart (n := 19) (e := [(0, vS a), (1, va)]) Tryd.func115 rfl rfl rfl rfl Ends.both ?_
 refine Wk.seq ?_
 refine Wk.region ?_
 refine Ll.box (v := vS a) rfl rfl rfl rfl rfl fun p2 hp2 => ?_
 show Ll _ _ (Own _ _ [_]) _ _ ((2, pt_ p2) :: _) _ _ _
 refine Ll.run 1 rfl ?_
 refine Ll.nil ?_
 refine Kt.sel [1, 2] [_, _] rfl ?_
 refine Wk.seq ?_
 refine Wk.regionQ ?_
 refine Lq.run 1 rfl ?_
 refine Lq.op (v := i6_ ((xs.length : Int))) rfl rfl rfl (OpQ.lenRow rfl Tryd.runUnderlying24 rfl (ints_length _) (fun w1 hw1 => Row.own hva hw1)) ?_
 refine Lq.run 2 rfl ?_
 refine Lq.bool fun b8 hg8 => ?_
 cases b8
 ·
  replace hg8 := of_decide_eq_false hg8
  refine Lq.pass rfl rfl rfl ?_
  refine Lq.pass rfl rfl rfl ?_
  refine Lq.pass rfl rfl rfl ?_
  refine Lq.run 2 rfl ?_
  refine Lq.pass rfl rfl rfl ?_
  refine Lq.pass rfl rfl rfl ?_
  refine Lq.pass rfl rfl rfl ?_
  refine Lq.pass rfl rfl rfl ?_
  refine Lq.run 2 rfl ?_
  refine Lq.nil ?_
  refine Kt.sel [4] [_] rfl ?_
  refine Wk.ret (Kt.end1 rfl rfl fun w' hw => ?_)
  -- ret 0: bo_ false
  exact ⟨ret_b (by unfold pebL; first | (rw [not_any_pel]; simp [*]; done) | (rw [← not_any_pel]; simp [*]; done) | (simp [*]; omega)), hw.below⟩
 ·
  replace hg8 := of_decide_eq_true hg8
  refine Lq.run 1 rfl ?_
  refine Lq.op (v := i6_ ((xs.length : Int))) rfl rfl rfl (OpQ.lenRow rfl Tryd.runUnderlying24 rfl (ints_length _) (fun w1 hw1 => Row.own hva hw1)) ?_
  refine Lq.run 3 rfl ?_
  refine Lq.bool fun b13 hg13 => ?_
  cases b13
  ·
   replace hg13 := of_decide_eq_false hg13
   refine Lq.pass rfl rfl rfl ?_
   refine Lq.pass rfl rfl rfl ?_
   refine Lq.pass rfl rfl rfl ?_
   refine Lq.pass rfl rfl rfl ?_
   refine Lq.run 2 rfl ?_
   refine Lq.nil ?_
   refine Kt.sel [4] [_] rfl ?_
   refine Wk.ret (Kt.end1 rfl rfl fun w' hw => ?_)
   -- ret 1: bo_ false
   exact ⟨ret_b (by unfold pebL; first | (rw [not_any_pel]; simp [*]; done) | (rw [← not_any_pel]; simp [*]; done) | (simp [*]; omega)), hw.below⟩
  ·
   replace hg13 := of_decide_eq_true hg13
   refine Lq.run 1 rfl ?_
   refine Lq.op (v := .func (.func 150) #[] #[pt_ p2]) rfl rfl rfl (OpQ.func' (cap := [.tmp 2]) rfl rfl) ?_
   refine Lq.op (v := bo_ (xs.any fun x => !inB x (-1) (a.n - 1))) rfl rfl rfl (OpQ.call rfl Tryd.call130 rfl Own.stable (fun w1 hw1 => containsFunc_ok va xs w1 (Row.own hva hw1) hs 150 #[.pointer (some ⟨p2, 0, none⟩)] (fun x => !inB x (-1) (a.n - 1)) Tryd.call150 (fun w2 hb x => noPeb_ok a _ _ x w2 ((hw1.stable _ _ hb).has 0 _ _ rfl).2))) ?_
   refine Lq.run 3 rfl ?_
   refine Lq.nil ?_
   refine Kt.sel [4] [_] rfl ?_
   refine Wk.ret (Kt.end1 rfl rfl fun w' hw => ?_)
   -- ret 2: bo_ (!(xs.any fun x => !inB x (-1) (a.n - 1)))
   exact ⟨ret_b (by unfold pebL; first | (rw [not_any_pel]; simp [*]; done) | (rw [← not_any_pel]; simp [*]; done) | (simp [*]; omega)), hw.below⟩

set_option maxHeartbeats 400000 in
/-- impl.areReady -/
theorem areReady_ok (a b : St) (xs ys : List Int) (va vb : Value) (w : World) (hsa : a.Small) (hsb : b.Small) (hva : Ints w va xs) (hvb : Ints w vb ys) (hs1 : xs.length ≤ 140737488355328) (hs2 : ys.length ≤ 140737488355328) :
    Calls Tryd.prog 72 [vS a, va, vS b, vb].toArray w fun en w' => en = .returned (.bool (readyB a xs b ys)) ∧ Below w.heap.size w w' := by
 refine fnStart (n := 54) (e := [(0, vS a), (1, va), (2, vS b), (3, vb)]) Tryd.func72 rfl rfl rfl rfl Ends.both ?_
 refine Wk.seq ?_
 refine Wk.region ?_
 refine Ll.box (v := vS a) rfl rfl rfl rfl rfl fun p4 hp4 => ?_
 show Ll _ _ (Own _ _ [_]) _ _ ((4, pt_ p4) :: _) _ _ _
 refine Ll.box (v := vS b) rfl rfl rfl rfl rfl fun p6 hp6 => ?_
 show Ll _ _ (Own _ _ [_, _]) _ _ ((6, pt_ p6) :: _) _ _ _
 refine Ll.run 1 rfl ?_
 refine Ll.nil ?_
 refine Kt.sel [1, 3, 4, 6] [_, _, _, _] rfl ?_
 refine Wk.seq ?_
 refine Wk.seq ?_
 refine Wk.regionQ ?_
 refine Lq.op rfl rfl rfl (OpQ.loadBox (cs := #[i6_ a.n, str a.set, str a.rel]) 1 rfl Tryd.isAgg28 rfl rfl Tryd.sizeOf28) ?_
 refine Lq.op (v := bo_ (validB a)) rfl rfl rfl (OpQ.call rfl Tryd.call53 rfl Own.stable (fun w1 hw1 => isStructure_ok a w1 hsa)) ?_
 refine Lq.run 2 rfl ?_
 refine Lq.bool fun b14 hg14 => ?_
 cases b14
 ·
  replace hg14 := not_false hg14
  refine Lq.op rfl rfl rfl (OpQ.loadBox (cs := #[i6_ b.n, str b.set, str b.rel]) 0 rfl Tryd.isAgg28 rfl rfl Tryd.sizeOf28) ?_
  refine Lq.op (v := bo_ (validB b)) rfl rfl rfl (OpQ.call rfl Tryd.call53 rfl Own.stable (fun w1 hw1 => isStructure_ok b w1 hsb)) ?_
  refine Lq.run 3 rfl ?_
  refine Lq.bool fun b19 hg19 => ?_
  cases b19
  ·
   replace hg19 := not_false hg19
   refine Lq.op rfl rfl rfl (OpQ.loadBox (cs := #[i6_ a.n, str a.set, str a.rel]) 1 rfl Tryd.isAgg28 rfl rfl Tryd.sizeOf28) ?_
   refine Lq.run 1 rfl ?_
   refine Lq.op (v := bo_ (pebL a xs)) rfl rfl rfl (OpQ.call rfl Tryd.call115 rfl Own.stable (fun w1 hw1 => arePebbles_ok a va xs w1 (Row.own hva hw1) (by first | (simp; done) | (simp; omega) | omega))) ?_
   refine Lq.run 3 rfl ?_
   refine Lq.bool fun b25 hg25 => ?_
   cases b25
   ·
    replace hg25 := not_false hg25
    refine Lq.op rfl rfl rfl (OpQ.loadBox (cs := #[i6_ b.n, str b.set, str b.rel]) 0 rfl Tryd.isAgg28 rfl rfl Tryd.sizeOf28) ?_
    refine Lq.run 1 rfl ?_
    refine Lq.op (v := bo_ (pebL b ys)) rfl rfl rfl (OpQ.call rfl Tryd.call115 rfl Own.stable (fun w1 hw1 => arePebbles_ok b vb ys w1 (Row.own hvb hw1) (by first | (simp; done) | (simp; omega) | omega))) ?_
    refine Lq.run 3 rfl ?_
    refine Lq.bool fun b31 hg31 => ?_
    cases b31
    ·
     replace hg31 := not_false hg31
     refine Lq.run 1 rfl ?_
     refine Lq.op (v := i6_ ((xs.length : Int))) rfl rfl rfl (OpQ.lenRow rfl Tryd.runUnderlying24 rfl (ints_length _) (fun w1 hw1 => Row.own hva hw1)) ?_
     refine Lq.run 1 rfl ?_
     refine Lq.op (v := i6_ ((ys.length : Int))) rfl rfl rfl (OpQ.lenRow rfl Tryd.runUnderlying24 rfl (ints_length _) (fun w1 hw1 => Row.own hvb hw1)) ?_
     refine Lq.run 2 rfl ?_
     refine Lq.nil ?_
     refine Kt.sel [1, 3, 37] [_, _, _] rfl ?_
     refine Wk.cond (b := !(decide (((xs.length : Int)) = ((ys.length : Int))))) rfl (fun h37 => ?_) (fun h37 => ?_)
     ·
      replace h37 := not_true h37
      replace h37 := of_decide_eq_false h37
      refine Wk.seq ?_
      refine Wk.regionQ ?_
      refine Lq.run 1 rfl ?_
      refine Lq.nil ?_
      refine Kt.sel [8] [_] rfl ?_
      refine Wk.ret (Kt.end1 rfl rfl fun w' hw => ?_)
      -- ret 0: bo_ false
      exact ⟨ret_b (by unfold readyB; rw [pebB_eq, pebB_eq]; first | (simp [*]; done) | (rw [signs_no (k := k) (by omega) (beq_of_bneT (by assumption))]; simp; done) | (rw [signs_yes (k := k) (by omega) hall]; simp [*]; done) | (simp [*]; omega)), hw.below⟩
     ·
      replace h37 := not_false h37
      replace h37 := of_decide_eq_true h37
      refine Wk.skip ?_
      refine Kt.sel [1, 3] [_, _] rfl ?_
      refine Wk.seq ?_
      refine Wk.seq ?_
      refine Wk.regionQ ?_
      refine Lq.run 1 rfl ?_
      refine Lq.op (v := i6_ ((xs.length : Int))) rfl rfl rfl (OpQ.lenRow rfl Tryd.runUnderlying24 rfl (ints_length _) (fun w1 hw1 => Row.own hva hw1)) ?_
      refine Lq.run 1 rfl ?_
      refine Lq.nil ?_
      refine Kt.sel [3, 38, 39, 40] [_, _, _, _] rfl ?_
      refine Wk.block ?_
      refine Wk.loop (σ := Nat) (fun k => k ≤ xs.length ∧ ∀ i : Nat, i < k → (decide (xs.getD i 0 < 0) == decide (ys.getD i 0 < 0)) = true) (fun k => [(3, vb), (38, va), (39, i6_ ((xs.length : Int))), (40, i6_ ((k : Int)))]) (fun k => Own w.heap.size w [bk_ p6 #[i6_ b.n, str b.set, str b.rel] 28, bk_ p4 #[i6_ a.n, str a.set, str a.rel] 28]) (fun k => xs.length - k) (0) ⟨by omega, fun i hi => absurd hi (by omega)⟩ (Sub.sel [3, 38, 39, 40] rfl) (fun _ h => h) ?_
      rintro k ⟨hk, hall⟩
      refine Wk.seq ?_
      refine Wk.regionQ ?_
      refine Lq.run 1 rfl ?_
      refine Lq.nil ?_
      refine Kt.sel [3, 38, 39, 40, 41] [_, _, _, _, _] rfl ?_
      refine Wk.seq ?_
      refine Wk.cond (b := decide (((k : Int)) < ((xs.length : Int)))) rfl (fun h41 => ?_) (fun h41 => ?_)
      ·
       replace h41 := of_decide_eq_true h41
       refine Wk.skip ?_
       refine Kt.sel [3, 38, 39, 40] [_, _, _, _] rfl ?_
       refine Wk.seq ?_
       refine Wk.block ?_
       refine Wk.seq ?_
       refine Wk.regionQ ?_
       refine Lq.run 1 rfl ?_
       refine Lq.op (v := .pointer (some (sAt va ((k : Int))))) rfl rfl rfl (OpQ.atRow rfl Tryd.runUnderlying24 Tryd.sizeOf3 rfl rfl (by omega) (by rw [ints_length]; omega) (fun w1 hw1 => Row.own hva hw1)) ?_
       refine Lq.op (v := i6_ (xs.getD (((k : Int)).toNat) 0)) rfl rfl rfl (OpQ.load1 rfl Tryd.isAgg3 rfl (fun w1 hw1 => Ints.cell (Row.own hva hw1) (by omega) (by omega))) ?_
       refine Lq.run 2 rfl ?_
       refine Lq.nil ?_
       refine Kt.sel [3, 9, 10, 38, 39, 40] [_, _, _, _, _, _] rfl ?_
       refine Wk.seq ?_
       refine Wk.regionQ ?_
       refine Lq.run 4 rfl ?_
       refine Lq.op (v := .pointer (some (sAt vb ((k : Int))))) rfl rfl rfl (OpQ.atRow rfl Tryd.runUnderlying24 Tryd.sizeOf3 rfl rfl (by omega) (by rw [ints_length]; omega) (fun w1 hw1 => Row.own hvb hw1)) ?_
       refine Lq.op (v := i6_ (ys.getD (((k : Int)).toNat) 0)) rfl rfl rfl (OpQ.load1 rfl Tryd.isAgg3 rfl (fun w1 hw1 => Ints.cell (Row.own hvb hw1) (by omega) (by omega))) ?_
       refine Lq.run 1 rfl ?_
       refine Lq.op rfl rfl rfl (OpQ.bne rfl Tryd.runUnderlying4 rfl rfl) ?_
       refine Lq.nil ?_
       refine Kt.sel [3, 38, 39, 40, 52] [_, _, _, _, _] rfl ?_
       refine Wk.cond (b := (decide ((xs.getD (((k : Int)).toNat) 0) < (0 : Int))) != (decide ((ys.getD (((k : Int)).toNat) 0) < (0 : Int)))) rfl (fun h52 => ?_) (fun h52 => ?_)
       ·
        refine Wk.seq ?_
        refine Wk.regionQ ?_
        refine Lq.run 1 rfl ?_
        refine Lq.nil ?_
        refine Kt.sel [8] [_] rfl ?_
        refine Wk.ret (Kt.end1 rfl rfl fun w' hw => ?_)
        -- ret 1: bo_ false
        exact ⟨ret_b (by unfold readyB; rw [pebB_eq, pebB_eq]; first | (simp [*]; done) | (rw [signs_no (k := k) (by omega) (beq_of_bneT (by assumption))]; simp; done) | (rw [signs_yes (k := k) (by omega) hall]; simp [*]; done) | (simp [*]; omega)), hw.below⟩
       ·
        refine Wk.skip ?_
        refine Kt.sel [3, 38, 39, 40] [_, _, _, _] rfl ?_
        refine Wk.regionQ ?_
        refine Lq.op rfl rfl rfl (OpQ.add rfl rfl rfl (by omega) (by omega)) ?_
        refine Lq.run 1 rfl ?_
        refine Lq.nil ?_
        refine Kt.again (k + 1) ⟨by omega, fun i hi => (Nat.lt_succ_iff_lt_or_eq.1 hi).elim (hall i) (fun e => by subst e; exact beq_of_bne h52)⟩ (by omega) (Sub.sel [3, 38, 39, 40] rfl) (fun _ h => h)
      ·
       replace h41 := of_decide_eq_false h41
       refine Wk.exit rfl ?_
       refine Kt.sel [] [] rfl ?_
       refine Wk.seq ?_
       refine Wk.regionQ ?_
       refine Lq.run 1 rfl ?_
       refine Lq.nil ?_
       refine Kt.sel [8] [_] rfl ?_
       refine Wk.ret (Kt.end1 rfl rfl fun w' hw => ?_)
       -- ret 2: bo_ true
       exact ⟨ret_b (by unfold readyB; rw [pebB_eq, pebB_eq]; first | (simp [*]; done) | (rw [signs_no (k := k) (by omega) (beq_of_bneT (by assumption))]; simp; done) | (rw [signs_yes (k := k) (by omega) hall]; simp [*]; done) | (simp [*]; omega)), hw.below⟩
    ·
     replace hg31 := not_true hg31
     refine Lq.pass rfl rfl rfl ?_
     refine Lq.pass rfl rfl rfl ?_
     refine Lq.pass rfl rfl rfl ?_
     refine Lq.pass rfl rfl rfl ?_
     refine Lq.pass rfl rfl rfl ?_
     refine Lq.run 1 rfl ?_
     refine Lq.nil ?_
     refine Kt.sel [1, 3, 37] [_, _, _] rfl ?_
     refine Wk.condT rfl ?_
     refine Wk.seq ?_
     refine Wk.regionQ ?_
     refine Lq.run 1 rfl ?_
     refine Lq.nil ?_
     refine Kt.sel [8] [_] rfl ?_
     refine Wk.ret (Kt.end1 rfl rfl fun w' hw => ?_)
     -- ret 3: bo_ false
     exact ⟨ret_b (by unfold readyB; rw [pebB_eq, pebB_eq]; first | (simp [*]; done) | (rw [signs_no (k := k) (by omega) (beq_of_bneT (by assumption))]; simp; done) | (rw [signs_yes (k := k) (by omega) hall]; simp [*]; done) | (simp [*]; omega)), hw.below⟩
   ·
    replace hg25 := not_true hg25
    refine Lq.pass rfl rfl rfl ?_
    refine Lq.pass rfl rfl rfl ?_
    refine Lq.pass rfl rfl rfl ?_
    refine Lq.pass rfl rfl rfl ?_
    refine Lq.run 2 rfl ?_
    refine Lq.pass rfl rfl rfl ?_
    refine Lq.pass rfl rfl rfl ?_
    refine Lq.pass rfl rfl rfl ?_
    refine Lq.pass rfl rfl rfl ?_
    refine Lq.pass rfl rfl rfl ?_
    refine Lq.run 1 rfl ?_
    refine Lq.nil ?_
    refine Kt.sel [1, 3, 37] [_, _, _] rfl ?_
    refine Wk.condT rfl ?_
    refine Wk.seq ?_
    refine Wk.regionQ ?_
    refine Lq.run 1 rfl ?_
    refine Lq.nil ?_
    refine Kt.sel [8] [_] rfl ?_
    refine Wk.ret (Kt.end1 rfl rfl fun w' hw => ?_)
    -- ret 4: bo_ false
    exact ⟨ret_b (by unfold readyB; rw [pebB_eq, pebB_eq]; first | (simp [*]; done) | (rw [signs_no (k := k) (by omega) (beq_of_bneT (by assumption))]; simp; done) | (rw [signs_yes (k := k) (by omega) hall]; simp [*]; done) | (simp [*]; omega)), hw.below⟩
  ·
   replace hg19 := not_true hg19
   refine Lq.pass rfl rfl rfl ?_
   refine Lq.pass rfl rfl rfl ?_
   refine Lq.pass rfl rfl rfl ?_
   refine Lq.pass rfl rfl rfl ?_
   refine Lq.run 2 rfl ?_
   refine Lq.pass rfl rfl rfl ?_
   refine Lq.pass rfl rfl rfl ?_
   refine Lq.pass rfl rfl rfl ?_
   refine Lq.pass rfl rfl rfl ?_
   refine Lq.run 2 rfl ?_
   refine Lq.pass rfl rfl rfl ?_
   refine Lq.pass rfl rfl rfl ?_
   refine Lq.pass rfl rfl rfl ?_
   refine Lq.pass rfl rfl rfl ?_
   refine Lq.pass rfl rfl rfl ?_
   refine Lq.run 1 rfl ?_
   refine Lq.nil ?_
   refine Kt.sel [1, 3, 37] [_, _, _] rfl ?_
   refine Wk.condT rfl ?_
   refine Wk.seq ?_
   refine Wk.regionQ ?_
   refine Lq.run 1 rfl ?_
   refine Lq.nil ?_
   refine Kt.sel [8] [_] rfl ?_
   refine Wk.ret (Kt.end1 rfl rfl fun w' hw => ?_)
   -- ret 5: bo_ false
   exact ⟨ret_b (by unfold readyB; rw [pebB_eq, pebB_eq]; first | (simp [*]; done) | (rw [signs_no (k := k) (by omega) (beq_of_bneT (by assumption))]; simp; done) | (rw [signs_yes (k := k) (by omega) hall]; simp [*]; done) | (simp [*]; omega)), hw.below⟩
 ·
  replace hg14 := not_true hg14
  refine Lq.pass rfl rfl rfl ?_
  refine Lq.pass rfl rfl rfl ?_
  refine Lq.pass rfl rfl rfl ?_
  refine Lq.run 2 rfl ?_
  refine Lq.pass rfl rfl rfl ?_
  refine Lq.pass rfl rfl rfl ?_
  refine Lq.pass rfl rfl rfl ?_
  refine Lq.pass rfl rfl rfl ?_
  refine Lq.run 2 rfl ?_
  refine Lq.pass rfl rfl rfl ?_
  refine Lq.pass rfl rfl rfl ?_
  refine Lq.pass rfl rfl rfl ?_
  refine Lq.pass rfl rfl rfl ?_
  refine Lq.run 2 rfl ?_
  refine Lq.pass rfl rfl rfl ?_
  refine Lq.pass rfl rfl rfl ?_
  refine Lq.pass rfl rfl rfl ?_
  refine Lq.pass rfl rfl rfl ?_
  refine Lq.pass rfl rfl rfl ?_
  refine Lq.run 1 rfl ?_
  refine Lq.nil ?_
  refine Kt.sel [1, 3, 37] [_, _, _] rfl ?_
  refine Wk.condT rfl ?_
  refine Wk.seq ?_
  refine Wk.regionQ ?_
  refine Lq.run 1 rfl ?_
  refine Lq.nil ?_
  refine Kt.sel [8] [_] rfl ?_
  refine Wk.ret (Kt.end1 rfl rfl fun w' hw => ?_)
  -- ret 6: bo_ false
  exact ⟨ret_b (by unfold readyB; rw [pebB_eq, pebB_eq]; first | (simp [*]; done) | (rw [signs_no (k := k) (by omega) (beq_of_bneT (by assumption))]; simp; done) | (rw [signs_yes (k := k) (by omega) hall]; simp [*]; done) | (simp [*]; omega)), hw.below⟩

end Go.Proofs.YtjcoijejhachhaaDoor
