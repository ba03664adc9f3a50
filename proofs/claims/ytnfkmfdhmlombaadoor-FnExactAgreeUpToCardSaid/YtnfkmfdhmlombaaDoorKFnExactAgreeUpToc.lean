/-
  FnExactAgreeUpTo: all that its proof names (part 3)
-/
import Derived.Test.YtnfkmfdhmlombaaDoorKFnExactAgreeUpTob
namespace Go.Proofs.YtnfkmfdhmlombaaDoor
open Go.RowKit Go.Wk
set_option linter.unusedSimpArgs false
theorem containsV_ok (c : UInt8) (w : World) : Calls Tryd.prog 179 #[str [97, 98, 99, 100], str [c]] w fun en w' => en = .returned (.bool (isV c)) ∧ Below w.heap.size w w' :=
  (Go.Proofs.Tryd.strings_Contains_one ⟨#[97, 98, 99, 100]⟩ c w).mono fun en w' ⟨h1, h2⟩ => ⟨by rw [h1, ← idx_abcd], by rw [h2]; exact Below.refl _ _⟩
theorem indexB_q (l : List UInt8) (c : UInt8) (w : World) : Calls Tryd.prog 180 #[str l, .int .u8 (c.toNat : Int)] w fun en w' => en = .returned (.int .i64 (Lib.indexByte l c)) ∧ Below w.heap.size w w' :=
  (Go.Proofs.Tryd.strings_IndexByte ⟨l.toArray⟩ (c.toNat : Int) w).mono fun en w' ⟨h1, h2⟩ => ⟨by rw [h1]; simp, by rw [h2]; exact Below.refl _ _⟩
set_option maxHeartbeats 400000 in
/-- (*impl.formula).isQuantifier -/
theorem isQuant_ok (p T : Nat) (c : UInt8) (x1 x2 x3 x4 : Value) (w : World) (hp : w.heap[p]? = some (.cells #[u8V c, x1, x2, x3, x4] T (0, 0))) :
    Calls Tryd.prog 152 [.pointer (some ⟨p, 0, none⟩)].toArray w fun en w' => en = .returned (.bool (decide (quI (c.toNat : Int)))) ∧ Below w.heap.size w w' := by
 refine fnStart (n := 9) (e := [(0, .pointer (some ⟨p, 0, none⟩))]) Tryd.func152 rfl rfl rfl rfl Ends.both ?_
 refine Wk.seq ?_
 refine Wk.regionQ ?_
 refine Lq.run 1 rfl ?_
 refine Lq.nil ?_
 refine Kt.sel [0] [_] rfl ?_
 refine Wk.seq ?_
 refine Wk.regionQ ?_
 refine Lq.run 1 rfl ?_
 refine Lq.op (v := .pointer (some ⟨p, 0, none⟩)) rfl rfl rfl (OpQ.nilCheck rfl rfl) ?_
 refine Lq.op rfl rfl rfl (OpQ.fieldAddr rfl Tryd.runUnderlying148 rfl Tryd.sizeOf5 rfl rfl) ?_
 refine Lq.op (v := .int .u8 ((c.toNat : Int))) rfl rfl rfl (OpQ.load1 rfl Tryd.isAgg5 rfl (fun w1 hw1 => at_box hp hw1 0 rfl)) ?_
 refine Lq.op (v := i6_ (Lib.indexByte [65, 83, 50, 51, 52] c)) rfl rfl rfl (OpQ.call rfl Tryd.call180 rfl Own.stable (fun w1 hw1 => indexB_q [65, 83, 50, 51, 52] c w1)) ?_
 refine Lq.run 2 rfl ?_
 refine Lq.nil ?_
 refine Kt.sel [2] [_] rfl ?_
 refine Wk.ret (Kt.end1 rfl rfl fun w' hw => ?_)
 exact ⟨ret_b (idx_quant c), hw.below⟩
set_option maxHeartbeats 400000 in
/-- (*impl.formula).isCounting -/
theorem isCount_ok (p T : Nat) (c : UInt8) (x1 x2 x3 x4 : Value) (w : World) (hp : w.heap[p]? = some (.cells #[u8V c, x1, x2, x3, x4] T (0, 0))) :
    Calls Tryd.prog 151 [.pointer (some ⟨p, 0, none⟩)].toArray w fun en w' => en = .returned (.bool (decide ((c.toNat : Int) = 50 ∨ (c.toNat : Int) = 51 ∨ (c.toNat : Int) = 52))) ∧ Below w.heap.size w w' := by
 refine fnStart (n := 9) (e := [(0, .pointer (some ⟨p, 0, none⟩))]) Tryd.func151 rfl rfl rfl rfl Ends.both ?_
 refine Wk.seq ?_
 refine Wk.regionQ ?_
 refine Lq.run 1 rfl ?_
 refine Lq.nil ?_
 refine Kt.sel [0] [_] rfl ?_
 refine Wk.seq ?_
 refine Wk.regionQ ?_
 refine Lq.run 1 rfl ?_
 refine Lq.op (v := .pointer (some ⟨p, 0, none⟩)) rfl rfl rfl (OpQ.nilCheck rfl rfl) ?_
 refine Lq.op rfl rfl rfl (OpQ.fieldAddr rfl Tryd.runUnderlying148 rfl Tryd.sizeOf5 rfl rfl) ?_
 refine Lq.op (v := .int .u8 ((c.toNat : Int))) rfl rfl rfl (OpQ.load1 rfl Tryd.isAgg5 rfl (fun w1 hw1 => at_box hp hw1 0 rfl)) ?_
 refine Lq.op (v := i6_ (Lib.indexByte [50, 51, 52] c)) rfl rfl rfl (OpQ.call rfl Tryd.call180 rfl Own.stable (fun w1 hw1 => indexB_q [50, 51, 52] c w1)) ?_
 refine Lq.run 2 rfl ?_
 refine Lq.nil ?_
 refine Kt.sel [2] [_] rfl ?_
 refine Wk.ret (Kt.end1 rfl rfl fun w' hw => ?_)
 exact ⟨ret_b (idx_cnt c), hw.below⟩
set_option maxHeartbeats 400000 in
/-- impl.parsePart -/
theorem parse_step (s : List UInt8) (B : Nat) (w0 : World) (hs : List (Nat × Obj)) (w : World) (hl : s.length ≤ 4000) (ih : ∀ (s2 : List UInt8) (B : Nat) (w0 : World) (hs : List (Nat × Obj)) (w : World), s2.length < s.length → Own B w0 hs w → Calls Tryd.prog 150 #[str s2] w fun en w' => match parse s2 with | none => ∃ x : List UInt8, en = .returned (.tuple #[.pointer none, str x]) ∧ Own B w0 hs w' | some y => ∃ (q : Nat) (new : List (Nat × Obj)), en = .returned (.tuple #[ptrV q, str y.2]) ∧ TreeB 148 new y.1 q ∧ Own B w0 (new ++ hs) w') (hw : Own B w0 hs w) :
    Calls Tryd.prog 150 [str s].toArray w fun en w' => match parse s with | none => ∃ x : List UInt8, en = .returned (.tuple #[.pointer none, str x]) ∧ Own B w0 hs w' | some y => ∃ (q : Nat) (new : List (Nat × Obj)), en = .returned (.tuple #[ptrV q, str y.2]) ∧ TreeB 148 new y.1 q ∧ Own B w0 (new ++ hs) w' := by
 refine fnStartC (Own B w0 hs) (n := 153) (e := [(0, str s)]) Tryd.func150 rfl rfl rfl rfl Ends.both hw ?_
 refine Wk.seq ?_
 refine Wk.regionQ ?_
 refine Lq.run 1 rfl ?_
 refine Lq.op (v := str ([])) rfl rfl rfl (OpQ.assign rfl rfl) ?_
 refine Lq.nil ?_
 refine Kt.sel [0] [_] rfl ?_
 refine Wk.seq ?_
 refine Wk.seq ?_
 refine Wk.regionQ ?_
 refine Lq.run 1 rfl ?_
 refine Lq.op rfl rfl rfl (OpQ.seql rfl rfl rfl) ?_
 refine Lq.nil ?_
 refine Kt.sel [0, 10] [_, _] rfl ?_
 refine Wk.cond (b := s == ([])) rfl (fun h10 => ?_) (fun h10 => ?_)
 ·
  refine Wk.seq ?_
  refine Wk.regionQ ?_
  refine Lq.run 3 rfl ?_
  refine Lq.nil ?_
  refine Kt.sel [2, 3] [_, _] rfl ?_
  refine Wk.ret (Kt.end2 rfl rfl rfl fun w' hw => ?_)
  have hR : parse s = none := by first | (rw [show s = [] by simpa using h10]; rfl) | exact ppX hs0 (isOp_no (by omega) (by omega) (by omega) (by omega) (by omega) (by omega) (by omega) (by omega) (by assumption))
  rw [hR]
  exact ⟨_, rfl, Own.drop (f := []) hw⟩
 ·
  have hs0 : s ≠ [] := by simpa using h10
  have hl0 := (first_of hs0).1
  have hlI : (0 : Int) < (s.length : Int) := by omega
  refine Wk.skip ?_
  refine Kt.sel [0] [_] rfl ?_
  refine Wk.seq ?_
  refine Wk.region ?_
  refine Ll.run 1 rfl ?_
  refine Ll.op (v := .int .u8 (((s.getD 0 0).toNat : Int))) rfl rfl rfl (OpQ.cast (by rfl) (OpQ.indexStr rfl Tryd.runUnderlying9 rfl rfl (by omega) (by omega))) ?_
  refine Ll.op (v := .agg #[.int .u8 (((s.getD 0 0).toNat : Int)), .slice none 0 0, .slice none 0 0, i6_ 0, i6_ 0]) rfl rfl rfl (OpQ.build (xs := [.tmp 13]) (vs := [.int .u8 (((s.getD 0 0).toNat : Int))]) rfl rfl (by kernel_rfl)) ?_
  refine Ll.box (v := .agg #[.int .u8 (((s.getD 0 0).toNat : Int)), .slice none 0 0, .slice none 0 0, i6_ 0, i6_ 0]) rfl rfl rfl rfl rfl fun p15 hp15 => ?_
  show Ll _ _ (Own _ _ (_ :: hs)) _ _ ((15, pt_ p15) :: _) _ _ _
  refine Ll.run 1 rfl ?_
  refine Ll.nil ?_
  refine Kt.sel [0, 4] [_, _] rfl ?_
  refine Wk.seq ?_
  refine Wk.regionQ ?_
  refine Lq.run 2 rfl ?_
  refine Lq.nil ?_
  refine Kt.sel [0, 4, 5, 6] [_, _, _, _] rfl ?_
  refine Wk.seq ?_
  refine Wk.seq ?_
  refine Wk.regionQ ?_
  refine Lq.run 1 rfl ?_
  refine Lq.op (v := .int .u8 (((s.getD 0 0).toNat : Int))) rfl rfl rfl (OpQ.cast (by rfl) (OpQ.indexStr rfl Tryd.runUnderlying9 rfl rfl (by omega) (by omega))) ?_
  refine Lq.nil ?_
  refine Kt.sel [0, 4, 5, 6, 17] [_, _, _, _, _] rfl ?_
  refine Wk.block ?_
  refine Wk.seq ?_
  refine Wk.seq ?_
  refine Wk.regionQ ?_
  refine Lq.run 2 rfl ?_
  refine Lq.nil ?_
  refine Kt.sel [0, 4, 5, 6, 17, 19] [_, _, _, _, _, _] rfl ?_
  refine Wk.join (σ := Unit) (fun _ => True) (fun _ => [(0, str s), (4, pt_ p15), (5, i6_ 0), (6, i6_ 0), (17, .int .u8 (((s.getD 0 0).toNat : Int))), (19, bo_ (decide ((((s.getD 0 0).toNat : Int)) = (116 : Int) ∨ (((s.getD 0 0).toNat : Int)) = (102 : Int))))]) (fun _ => Own B w0 (bk_ p15 #[.int .u8 (((s.getD 0 0).toNat : Int)), .slice none 0 0, .slice none 0 0, i6_ 0, i6_ 0] 148 :: hs)) ?_ ?_
  ·
   refine Wk.cond (b := decide ((((s.getD 0 0).toNat : Int)) = (116 : Int))) rfl (fun h19 => ?_) (fun h19 => ?_)
   ·
    replace h19 := of_decide_eq_true h19
    refine Wk.skip ?_
    refine Kt.joined (()) trivial (Sub.cons rfl (Sub.cons rfl (Sub.cons rfl (Sub.cons rfl (Sub.cons rfl (Sub.cons (by rw [decide_eq_decide.2 (show ((((s.getD 0 0).toNat : Int)) = (116 : Int) ∨ (((s.getD 0 0).toNat : Int)) = (102 : Int)) ↔ ((((s.getD 0 0).toNat : Int)) = (116 : Int)) by first | omega | (unfold quI at *; omega))]; rfl) Sub.nil)))))) (fun _ h => h)
   ·
    replace h19 := of_decide_eq_false h19
    refine Wk.regionQ ?_
    refine Lq.run 2 rfl ?_
    refine Lq.nil ?_
    refine Kt.joined (()) trivial (Sub.cons rfl (Sub.cons rfl (Sub.cons rfl (Sub.cons rfl (Sub.cons rfl (Sub.cons (by rw [decide_eq_decide.2 (show ((((s.getD 0 0).toNat : Int)) = (116 : Int) ∨ (((s.getD 0 0).toNat : Int)) = (102 : Int)) ↔ ((((s.getD 0 0).toNat : Int)) = (102 : Int)) by first | omega | (unfold quI at *; omega))]; rfl) Sub.nil)))))) (fun _ h => h)
  rintro _ hj
  refine Kt.sel [0, 4, 5, 6, 17, 19] [_, _, _, _, _, _] rfl ?_
  refine Wk.cond (b := decide ((((s.getD 0 0).toNat : Int)) = (116 : Int) ∨ (((s.getD 0 0).toNat : Int)) = (102 : Int))) rfl (fun h19_1 => ?_) (fun h19_1 => ?_)
  ·
   replace h19_1 := of_decide_eq_true h19_1
   refine Wk.skip ?_
   refine Kt.sel [0, 4, 5, 6] [_, _, _, _] rfl ?_
   refine Wk.seq ?_
   refine Wk.regionQ ?_
   refine Lq.run 1 rfl ?_
   refine Lq.op (v := str (s.drop 1)) rfl rfl rfl (OpQ.cast (by rfl) (OpQ.sliceStrFrom rfl Tryd.underlying9 rfl rfl (by omega) (by omega))) ?_
   refine Lq.run 1 rfl ?_
   refine Lq.nil ?_
   refine Kt.sel [0, 4, 5, 6] [_, _, _, _] rfl ?_
   refine Wk.seq ?_
   refine Wk.seq ?_
   refine Wk.regionQ ?_
   refine Lq.run 2 rfl ?_
   refine Lq.nil ?_
   refine Kt.sel [0, 4, 6, 40, 41] [_, _, _, _, _] rfl ?_
   refine Wk.block ?_
   refine Wk.unroll 4 ?_
   refine Wk.seq ?_
   refine Wk.regionQ ?_
   refine Lq.run 1 rfl ?_
   refine Lq.nil ?_
   refine Kt.sel [0, 4, 6, 40, 41, 42] [_, _, _, _, _, _] rfl ?_
   refine Wk.seq ?_
   refine Wk.condF rfl ?_
   refine Wk.exit rfl ?_
   refine Kt.sel [0, 4, 6] [_, _, _] rfl ?_
   refine Wk.seq ?_
   refine Wk.region ?_
   refine Ll.run 2 rfl ?_
   refine Ll.op (v := pt_ p15) rfl rfl rfl (OpQ.nilCheck rfl rfl) ?_
   refine Ll.op rfl rfl rfl (OpQ.fieldAddr rfl Tryd.runUnderlying148 rfl Tryd.sizeOf3 rfl rfl) ?_
   refine Ll.op rfl rfl rfl (OpQ.loadOwn 0 rfl Tryd.isAgg3 rfl rfl rfl) ?_
   refine Ll.op (v := pt_ p15) rfl rfl rfl (OpQ.nilCheck rfl rfl) ?_
   refine Ll.op rfl rfl rfl (OpQ.fieldAddr rfl Tryd.runUnderlying148 rfl Tryd.sizeOf3 rfl rfl) ?_
   refine Ll.store1 (v := i6_ 0) (hs' := (bk_ p15 #[.int .u8 (((s.getD 0 0).toNat : Int)), .slice none 0 0, .slice none 0 0, i6_ 0, i6_ 0] 148 :: hs)) 0 rfl rfl rfl rfl rfl rfl Tryd.sizeOf3 rfl (by simp) rfl ?_
   refine Ll.nil ?_
   refine Kt.sel [0, 4, 6] [_, _, _] rfl ?_
   refine Wk.seq ?_
   refine Wk.seq ?_
   refine Wk.regionQ ?_
   refine Lq.run 2 rfl ?_
   refine Lq.nil ?_
   refine Kt.sel [0, 4, 6, 85] [_, _, _, _] rfl ?_
   refine Wk.condF rfl ?_
   refine Wk.skip ?_
   refine Kt.sel [0, 4, 6] [_, _, _] rfl ?_
   refine Wk.seq ?_
   refine Wk.seq ?_
   refine Wk.regionQ ?_
   refine Lq.run 2 rfl ?_
   refine Lq.nil ?_
   refine Kt.sel [0, 4, 89, 90] [_, _, _, _] rfl ?_
   refine Wk.block ?_
   refine Wk.unroll 4 ?_
   refine Wk.seq ?_
   refine Wk.regionQ ?_
   refine Lq.run 1 rfl ?_
   refine Lq.nil ?_
   refine Kt.sel [0, 4, 89, 90, 91] [_, _, _, _, _] rfl ?_
   refine Wk.seq ?_
   refine Wk.condF rfl ?_
   refine Wk.exit rfl ?_
   refine Kt.sel [0, 4] [_, _] rfl ?_
   refine Wk.seq ?_
   refine Wk.seq ?_
   refine Wk.regionQ ?_
   refine Lq.run 1 rfl ?_
   refine Lq.op (v := bo_ (decide (quI (((s.getD 0 0)).toNat : Int)))) rfl rfl rfl (OpQ.call rfl Tryd.call152 rfl Own.stable (fun w1 hw1 => isQuant_ok _ _ ((s.getD 0 0)) _ _ _ _ w1 (hw1.has 0 _ _ rfl).2)) ?_
   refine Lq.nil ?_
   refine Kt.sel [0, 4, 135] [_, _, _] rfl ?_
   refine Wk.cond (b := decide (quI (((s.getD 0 0)).toNat : Int))) rfl (fun h135 => ?_) (fun h135 => ?_)
   ·
    replace h135 := of_decide_eq_true h135
    exact absurd h135 (by unfold quI; omega)
   ·
    replace h135 := of_decide_eq_false h135
    refine Wk.skip ?_
    refine Kt.sel [0, 4] [_, _] rfl ?_
    refine Wk.seq ?_
    refine Wk.regionQ ?_
    refine Lq.run 4 rfl ?_
    refine Lq.nil ?_
    refine Kt.sel [2, 3] [_, _] rfl ?_
    refine Wk.ret (Kt.end2 rfl rfl rfl fun w' hw => ?_)
    have hR : parse s = some ((.leaf (s.getD 0 0) []), s.drop 1) := pp0 hs0 (two_of (by decide) (by decide) (by assumption))
    rw [hR]
    have e1 : (0 : Nat) = frB (.leaf (s.getD 0 0) []) := by simp [frB, vBits, vBit]
    have e2 : (0 : Nat) = allB (.leaf (s.getD 0 0) []) := by simp [allB, vBits, vBit]
    have hW : Own B w0 (([bk_ p15 #[.int .u8 (((s.getD 0 0).toNat : Int)), .slice none 0 0, .slice none 0 0, i6_ ((frB (.leaf (s.getD 0 0) []) : Int)), i6_ ((allB (.leaf (s.getD 0 0) []) : Int))] 148]) ++ hs) w' := by
     rw [← e1, ← e2]
     first | exact hw | simpa only [List.append_assoc, List.cons_append, List.nil_append] using hw
    exact ⟨p15, [bk_ p15 #[.int .u8 (((s.getD 0 0).toNat : Int)), .slice none 0 0, .slice none 0 0, i6_ ((frB (.leaf (s.getD 0 0) []) : Int)), i6_ ((allB (.leaf (s.getD 0 0) []) : Int))] 148], rfl, ⟨_, _, mem_at (l := [bk_ p15 #[.int .u8 (((s.getD 0 0).toNat : Int)), .slice none 0 0, .slice none 0 0, i6_ ((frB (.leaf (s.getD 0 0) []) : Int)), i6_ ((allB (.leaf (s.getD 0 0) []) : Int))] 148]) (i := 0) rfl, RowB.nil, RowB.nil⟩, hW⟩
  ·
   replace h19_1 := of_decide_eq_false h19_1
   refine Wk.seq ?_
   refine Wk.regionQ ?_
   refine Lq.run 2 rfl ?_
   refine Lq.nil ?_
   refine Kt.sel [0, 4, 5, 6, 17, 22] [_, _, _, _, _, _] rfl ?_
   refine Wk.cond (b := decide ((((s.getD 0 0).toNat : Int)) = (80 : Int))) rfl (fun h22 => ?_) (fun h22 => ?_)
   ·
    replace h22 := of_decide_eq_true h22
    refine Wk.regionQ ?_
    refine Lq.run 1 rfl ?_
    refine Lq.nil ?_
    refine Kt.sel [0, 4, 5, 6] [_, _, _, _] rfl ?_
    refine Wk.seq ?_
    refine Wk.regionQ ?_
    refine Lq.run 1 rfl ?_
    refine Lq.op (v := str (s.drop 1)) rfl rfl rfl (OpQ.cast (by rfl) (OpQ.sliceStrFrom rfl Tryd.underlying9 rfl rfl (by omega) (by omega))) ?_
    refine Lq.run 1 rfl ?_
    refine Lq.nil ?_
    refine Kt.sel [0, 4, 5, 6] [_, _, _, _] rfl ?_
    refine Wk.seq ?_
    refine Wk.seq ?_
    refine Wk.regionQ ?_
    refine Lq.run 2 rfl ?_
    refine Lq.nil ?_
    refine Kt.sel [0, 4, 6, 40, 41] [_, _, _, _, _] rfl ?_
    refine Wk.block ?_
    refine Wk.unroll 4 ?_
    refine Wk.seq ?_
    refine Wk.regionQ ?_
    refine Lq.run 1 rfl ?_
    refine Lq.nil ?_
    refine Kt.sel [0, 4, 6, 40, 41, 42] [_, _, _, _, _, _] rfl ?_
    refine Wk.seq ?_
    refine Wk.condT rfl ?_
    refine Wk.skip ?_
    refine Kt.sel [0, 4, 6, 40, 41] [_, _, _, _, _] rfl ?_
    refine Wk.seq ?_
    refine Wk.block ?_
    refine Wk.seq ?_
    refine Wk.seq ?_
    refine Wk.regionQ ?_
    refine Lq.run 1 rfl ?_
    refine Lq.op rfl rfl rfl (OpQ.seql rfl rfl rfl) ?_
    refine Lq.run 1 rfl ?_
    refine Lq.bool fun b45 hg45 => ?_
    cases b45
    ·
     have hne1 : ¬ s.drop 1 = [] := by simpa using hg45
     have hlk1 : 0 < (s.drop 1).length := (first_of hne1).1
     refine Lq.run 1 rfl ?_
     refine Lq.op (v := str ([s.getD 1 0])) rfl rfl rfl (OpQ.cast (by rw [show (1 : Int).toNat = 1 from rfl, take_drop1 hne1]) (OpQ.sliceStrTo rfl Tryd.underlying9 rfl rfl (by omega) (by omega))) ?_
     refine Lq.op (v := bo_ (isV (s.getD 1 0))) rfl rfl rfl (OpQ.call rfl Tryd.call179 rfl Own.stable (fun w1 hw1 => containsV_ok (s.getD 1 0) w1)) ?_
     refine Lq.run 2 rfl ?_
     refine Lq.nil ?_
     refine Kt.sel [0, 4, 6, 40, 41, 50] [_, _, _, _, _, _] rfl ?_
     refine Wk.cond (b := !(isV (s.getD 1 0))) rfl (fun h50 => ?_) (fun h50 => ?_)
     ·
      replace h50 := not_true h50
      refine Wk.seq ?_
      refine Wk.regionQ ?_
      refine Lq.run 3 rfl ?_
      refine Lq.nil ?_
      refine Kt.sel [2, 3] [_, _] rfl ?_
      refine Wk.ret (Kt.end2 rfl rfl rfl fun w' hw => ?_)
      have hR : parse s = none := (pp1 hs0 (u8_of (n := 80) (by decide) (by assumption))).2 (fun e => by first | exact absurd e.2 (by rw [show isV (s.getD 1 0) = false by assumption]; decide) | exact e.1 (by simpa using (show (s.drop 1 == []) = true by assumption)))
      rw [hR]
      exact ⟨_, rfl, Own.drop (f := [_]) hw⟩
     ·
      replace h50 := not_false h50
      have hv1 : isV (s.getD 1 0) = true := by simpa using h50
      have hvi1 := (vI_lt hv1).1
      have hbl1 := bit_lt hvi1
      refine Wk.skip ?_
      refine Kt.sel [0, 4, 6, 40, 41] [_, _, _, _, _] rfl ?_
      refine Wk.seq ?_
      refine Wk.join (σ := Nat × Nat × Array Value) (fun ⟨g, c, u⟩ => u.size = c * 1 ∧ 1 ≤ c ∧ u.toList.take 1 = [.int .u8 (((s.getD 1 0).toNat : Int))]) (fun ⟨g, c, u⟩ => [(0, str (s.drop 1)), (4, pt_ p15), (6, i6_ 0), (40, i6_ 1), (41, i6_ 0)]) (fun ⟨g, c, u⟩ => Own B w0 (bk_ g u 5 :: bk_ p15 #[.int .u8 (((s.getD 0 0).toNat : Int)), sl_ g 1 c, .slice none 0 0, i6_ 0, i6_ 0] 148 :: hs)) ?_ ?_
      ·
       refine Wk.regionU (S := Own B w0 (hs)) (.take 0 (.take 1 (.take 5 (.take 6 (.two 2 (.take 3 (.two 4 (.one 7 (.one 8 (.one 9 (.take 10 (.one 11 .done))))) 7 (.one 4 (.one 8 (.one 9 (.take 10 (.one 11 .done))))))) 7 (.one 2 (.take 3 (.one 4 (.one 8 (.one 9 (.take 10 (.one 11 .done)))))))))))) Base.mixed (fun _ h => h.drawn) (by kernel_rfl) ?_
       refine Lu.run 3 rfl (pT 1 [] rfl rfl) ?_
       refine Lu.take (v := .int .u8 (((s.getD 1 0).toNat : Int))) rfl rfl rfl rfl rfl (OpQ.cast (by rw [show (0 : Int).toNat = 0 from rfl, getD_drop]) (OpQ.indexStr rfl Tryd.runUnderlying9 rfl rfl (by omega) (by omega))) (pT 1 [] rfl rfl) ?_
       refine Lu.two rfl rfl ?_ ?_
       ·
        refine Ll.op (v := pt_ p15) rfl rfl rfl (OpQ.nilCheck rfl rfl) ?_
        refine Ll.nil (Lu.joint (pT 1 [] rfl rfl) ?_)
        refine Lu.take rfl rfl rfl rfl rfl (OpQ.fieldAddr rfl Tryd.runUnderlying148 rfl Tryd.sizeOf33 rfl rfl) (pT 1 [] rfl rfl) ?_
        refine Lu.two rfl rfl ?_ ?_
        ·
         refine Ll.op rfl rfl rfl (OpQ.loadOwn 0 rfl Tryd.isAgg33 rfl rfl rfl) ?_
         refine Ll.nil (Lu.joint (pT 1 [] rfl rfl) ?_)
         refine Lu.loud rfl ?_
         refine Ll.slice (xs := [.tmp 58]) (vs := [.int .u8 (((s.getD 1 0).toNat : Int))]) Base.elem33 rfl rfl rfl rfl rfl rfl (by decide) rfl fun p59 hp59 => ?_
         refine Ll.nil (Lu.joint (pT 2 [] rfl rfl) ?_)
         refine Lu.loud rfl ?_
         refine Ll.appendN1 (V := .int .u8 (((s.getD 1 0).toNat : Int))) Base.elem33 0 rfl rfl rfl rfl rfl rfl rfl fun g60 c60 u60 hg60 hcg60 hlg60 htg60 => ?_
         show Ll _ _ (Own _ _ (_ :: _ :: _ :: hs)) _ _ ((60, sl_ g60 1 c60) :: _) _ _ _
         refine Ll.nil (Lu.joint (pT 3 [] rfl rfl) ?_)
         refine Lu.loud rfl ?_
         refine Ll.op (v := pt_ p15) rfl rfl rfl (OpQ.nilCheck rfl rfl) ?_
         refine Ll.nil (Lu.joint (pT 3 [] rfl rfl) ?_)
         refine Lu.take rfl rfl rfl rfl rfl (OpQ.fieldAddr rfl Tryd.runUnderlying148 rfl Tryd.sizeOf33 rfl rfl) (pT 3 [] rfl rfl) ?_
         refine Lu.loud rfl ?_
         refine Ll.store1 (v := sl_ g60 1 c60) (hs' := (_ :: _ :: bk_ p15 #[.int .u8 (((s.getD 0 0).toNat : Int)), sl_ g60 1 c60, .slice none 0 0, i6_ 0, i6_ 0] 148 :: hs)) 2 rfl rfl rfl rfl rfl rfl Tryd.sizeOf33 rfl (by simp) rfl ?_
         refine Ll.nil (Lu.joint (pT 3 [] rfl rfl) ?_)
         refine Lu.nil ?_
         refine Kt.joined ((g60, c60, u60)) ⟨hcg60, hlg60, htg60⟩ (Sub.sel [0, 4, 6, 40, 41] rfl) (fun _ h => h.sub (List.Sublist.cons_cons _ (List.Sublist.cons _ (List.Sublist.cons_cons _ (List.Sublist.refl _)))))
        ·
         refine Ll.slice (xs := [.tmp 58]) (vs := [.int .u8 (((s.getD 1 0).toNat : Int))]) Base.elem33 rfl rfl rfl rfl rfl rfl (by decide) rfl fun p59_1 hp59_1 => ?_
         refine Ll.nil (Lu.joint (pT 2 [] rfl rfl) ?_)
         refine Lu.loud rfl ?_
         refine Ll.op rfl rfl rfl (OpQ.loadOwn 1 rfl Tryd.isAgg33 rfl rfl rfl) ?_
         refine Ll.nil (Lu.joint (pT 2 [] rfl rfl) ?_)
         refine Lu.loud rfl ?_
         refine Ll.appendN1 (V := .int .u8 (((s.getD 1 0).toNat : Int))) Base.elem33 0 rfl rfl rfl rfl rfl rfl rfl fun g60_1 c60_1 u60_1 hg60_1 hcg60_1 hlg60_1 htg60_1 => ?_
         show Ll _ _ (Own _ _ (_ :: _ :: _ :: hs)) _ _ ((60, sl_ g60_1 1 c60_1) :: _) _ _ _
         refine Ll.nil (Lu.joint (pT 3 [] rfl rfl) ?_)
         refine Lu.loud rfl ?_
         refine Ll.op (v := pt_ p15) rfl rfl rfl (OpQ.nilCheck rfl rfl) ?_
         refine Ll.nil (Lu.joint (pT 3 [] rfl rfl) ?_)
         refine Lu.take rfl rfl rfl rfl rfl (OpQ.fieldAddr rfl Tryd.runUnderlying148 rfl Tryd.sizeOf33 rfl rfl) (pT 3 [] rfl rfl) ?_
         refine Lu.loud rfl ?_
         refine Ll.store1 (v := sl_ g60_1 1 c60_1) (hs' := (_ :: _ :: bk_ p15 #[.int .u8 (((s.getD 0 0).toNat : Int)), sl_ g60_1 1 c60_1, .slice none 0 0, i6_ 0, i6_ 0] 148 :: hs)) 2 rfl rfl rfl rfl rfl rfl Tryd.sizeOf33 rfl (by simp) rfl ?_
         refine Ll.nil (Lu.joint (pT 3 [] rfl rfl) ?_)
         refine Lu.nil ?_
         refine Kt.joined ((g60_1, c60_1, u60_1)) ⟨hcg60_1, hlg60_1, htg60_1⟩ (Sub.sel [0, 4, 6, 40, 41] rfl) (fun _ h => h.sub (List.Sublist.cons_cons _ (List.Sublist.cons _ (List.Sublist.cons_cons _ (List.Sublist.refl _)))))
       ·
        refine Ll.slice (xs := [.tmp 58]) (vs := [.int .u8 (((s.getD 1 0).toNat : Int))]) Base.elem33 rfl rfl rfl rfl rfl rfl (by decide) rfl fun p59_2 hp59_2 => ?_
        refine Ll.nil (Lu.joint (pT 2 [] rfl rfl) ?_)
        refine Lu.loud rfl ?_
        refine Ll.op (v := pt_ p15) rfl rfl rfl (OpQ.nilCheck rfl rfl) ?_
        refine Ll.nil (Lu.joint (pT 2 [] rfl rfl) ?_)
        refine Lu.take rfl rfl rfl rfl rfl (OpQ.fieldAddr rfl Tryd.runUnderlying148 rfl Tryd.sizeOf33 rfl rfl) (pT 2 [] rfl rfl) ?_
        refine Lu.loud rfl ?_
        refine Ll.op rfl rfl rfl (OpQ.loadOwn 1 rfl Tryd.isAgg33 rfl rfl rfl) ?_
        refine Ll.nil (Lu.joint (pT 2 [] rfl rfl) ?_)
        refine Lu.loud rfl ?_
        refine Ll.appendN1 (V := .int .u8 (((s.getD 1 0).toNat : Int))) Base.elem33 0 rfl rfl rfl rfl rfl rfl rfl fun g60_2 c60_2 u60_2 hg60_2 hcg60_2 hlg60_2 htg60_2 => ?_
        show Ll _ _ (Own _ _ (_ :: _ :: _ :: hs)) _ _ ((60, sl_ g60_2 1 c60_2) :: _) _ _ _
        refine Ll.nil (Lu.joint (pT 3 [] rfl rfl) ?_)
        refine Lu.loud rfl ?_
        refine Ll.op (v := pt_ p15) rfl rfl rfl (OpQ.nilCheck rfl rfl) ?_
        refine Ll.nil (Lu.joint (pT 3 [] rfl rfl) ?_)
        refine Lu.take rfl rfl rfl rfl rfl (OpQ.fieldAddr rfl Tryd.runUnderlying148 rfl Tryd.sizeOf33 rfl rfl) (pT 3 [] rfl rfl) ?_
        refine Lu.loud rfl ?_
        refine Ll.store1 (v := sl_ g60_2 1 c60_2) (hs' := (_ :: _ :: bk_ p15 #[.int .u8 (((s.getD 0 0).toNat : Int)), sl_ g60_2 1 c60_2, .slice none 0 0, i6_ 0, i6_ 0] 148 :: hs)) 2 rfl rfl rfl rfl rfl rfl Tryd.sizeOf33 rfl (by simp) rfl ?_
        refine Ll.nil (Lu.joint (pT 3 [] rfl rfl) ?_)
        refine Lu.nil ?_
        refine Kt.joined ((g60_2, c60_2, u60_2)) ⟨hcg60_2, hlg60_2, htg60_2⟩ (Sub.sel [0, 4, 6, 40, 41] rfl) (fun _ h => h.sub (List.Sublist.cons_cons _ (List.Sublist.cons _ (List.Sublist.cons_cons _ (List.Sublist.refl _)))))
      rintro ⟨g, c, u⟩ ⟨hcg, hlg, htg⟩
      dsimp only
      refine Kt.sel [0, 4, 6, 40, 41] [_, _, _, _, _] rfl ?_
      refine Wk.seq ?_
      refine Wk.join (σ := Unit) (fun _ => True) (fun _ => [(0, str (s.drop 1)), (4, pt_ p15), (6, i6_ 0), (40, i6_ 1), (41, i6_ 0)]) (fun _ => Own B w0 (bk_ g u 5 :: bk_ p15 #[.int .u8 (((s.getD 0 0).toNat : Int)), sl_ g 1 c, .slice none 0 0, i6_ 0, i6_ (((0 ||| (1 * 2 ^ (vI (s.getD 1 0))) : Nat) : Int))] 148 :: hs)) ?_ ?_
      ·
       refine Wk.regionS (S := Own B w0 (bk_ g u 5 :: hs)) [(0, true), (4, true), (5, true), (6, true), (7, true), (1, false), (2, true), (3, false), (8, true), (9, false), (10, true), (11, false)] Base.mixed (fun _ h => h.drawn) (by kernel_rfl) ?_
       refine Ld.run 2 rfl (pT 2 [0] rfl rfl) ?_
       refine Ld.take (v := .int .u8 (((s.getD 1 0).toNat : Int))) rfl rfl rfl rfl rfl (OpQ.cast (by rw [show (0 : Int).toNat = 0 from rfl, getD_drop]) (OpQ.indexStr rfl Tryd.runUnderlying9 rfl rfl (by omega) (by omega))) (pT 2 [0] rfl rfl) ?_
       refine Ld.take (v := .int .u8 ((vI (s.getD 1 0) : Int))) rfl rfl rfl rfl rfl (OpQ.cast (by rw [vI_wrap hv1]) (OpQ.subU8 rfl rfl rfl)) (pT 2 [0] rfl rfl) ?_
       refine Ld.take (v := i6_ (((1 * 2 ^ (vI (s.getD 1 0)) : Nat) : Int))) rfl rfl rfl rfl rfl (OpQ.shl (a := 1) (b := vI (s.getD 1 0)) rfl rfl rfl (by omega) (by omega)) (pT 2 [0] rfl rfl) ?_
       refine Ld.loud rfl ?_
       refine Ll.op (v := pt_ p15) rfl rfl rfl (OpQ.nilCheck rfl rfl) ?_
       refine Ll.nil (Ld.joint (pT 2 [0] rfl rfl) ?_)
       refine Ld.take rfl rfl rfl rfl rfl (OpQ.fieldAddr rfl Tryd.runUnderlying148 rfl Tryd.sizeOf3 rfl rfl) (pT 2 [0] rfl rfl) ?_
       refine Ld.loud rfl ?_
       refine Ll.op rfl rfl rfl (OpQ.loadOwn 1 rfl Tryd.isAgg3 rfl rfl rfl) ?_
       refine Ll.nil (Ld.joint (pT 2 [0] rfl rfl) ?_)
       refine Ld.take (v := i6_ (((0 ||| (1 * 2 ^ (vI (s.getD 1 0))) : Nat) : Int))) rfl rfl rfl rfl rfl (OpQ.or (a := 0) (b := 1 * 2 ^ (vI (s.getD 1 0))) rfl rfl rfl (by repeat' (first | omega | apply or_lt62 | apply or_lt16)) (by repeat' (first | omega | apply or_lt62 | apply or_lt16))) (pT 2 [0] rfl rfl) ?_
       refine Ld.loud rfl ?_
       refine Ll.op (v := pt_ p15) rfl rfl rfl (OpQ.nilCheck rfl rfl) ?_
       refine Ll.nil (Ld.joint (pT 2 [0] rfl rfl) ?_)
       refine Ld.take rfl rfl rfl rfl rfl (OpQ.fieldAddr rfl Tryd.runUnderlying148 rfl Tryd.sizeOf3 rfl rfl) (pT 2 [0] rfl rfl) ?_
       refine Ld.loud rfl ?_
       refine Ll.store1 (v := i6_ (((0 ||| (1 * 2 ^ (vI (s.getD 1 0))) : Nat) : Int))) (hs' := (_ :: bk_ p15 #[.int .u8 (((s.getD 0 0).toNat : Int)), sl_ g 1 c, .slice none 0 0, i6_ 0, i6_ (((0 ||| (1 * 2 ^ (vI (s.getD 1 0))) : Nat) : Int))] 148 :: hs)) 1 rfl rfl rfl rfl rfl rfl Tryd.sizeOf3 rfl (by simp) rfl ?_
       refine Ll.nil (Ld.joint (pT 2 [0] rfl rfl) ?_)
       refine Ld.nil ?_
       refine Kt.joined (()) trivial (Sub.sel [0, 4, 6, 40, 41] rfl) (fun _ h => h.sub (List.Sublist.cons_cons _ (List.Sublist.cons_cons _ (List.Sublist.refl _))))
      rintro _ hj
      refine Kt.sel [0, 4, 6, 40, 41] [_, _, _, _, _] rfl ?_
      refine Wk.regionQ ?_
      refine Lq.run 1 rfl ?_
      refine Lq.op (v := str (s.drop 2)) rfl rfl rfl (OpQ.cast (by rw [List.drop_drop]; rfl) (OpQ.sliceStrFrom rfl Tryd.underlying9 rfl rfl (by omega) (by omega))) ?_
      refine Lq.run 1 rfl ?_
      refine Lq.nil ?_
      refine Kt.sel [0, 4, 6, 40, 41] [_, _, _, _, _] rfl ?_
      refine Wk.regionQ ?_
      refine Lq.op rfl rfl rfl (OpQ.add rfl rfl rfl (by decide) (by decide)) ?_
      refine Lq.run 1 rfl ?_
      refine Lq.nil ?_
      refine Kt.round (e' := [(0, str (s.drop 2)), (4, pt_ p15), (6, i6_ 0), (40, i6_ 1), (41, i6_ 1)]) (Sub.sel [0, 4, 6, 40, 41] rfl) ?_
      refine Wk.seq ?_
      refine Wk.regionQ ?_
      refine Lq.run 1 rfl ?_
      refine Lq.nil ?_
      refine Kt.sel [0, 4, 6, 40, 41, 42] [_, _, _, _, _, _] rfl ?_
      refine Wk.seq ?_
      refine Wk.condF rfl ?_
      refine Wk.exit rfl ?_
      refine Kt.sel [0, 4, 6] [_, _, _] rfl ?_
      refine Wk.seq ?_
      refine Wk.region ?_
      refine Ll.run 2 rfl ?_
      refine Ll.op (v := pt_ p15) rfl rfl rfl (OpQ.nilCheck rfl rfl) ?_
      refine Ll.op rfl rfl rfl (OpQ.fieldAddr rfl Tryd.runUnderlying148 rfl Tryd.sizeOf3 rfl rfl) ?_
      refine Ll.op rfl rfl rfl (OpQ.loadOwn 1 rfl Tryd.isAgg3 rfl rfl rfl) ?_
      refine Ll.op (v := pt_ p15) rfl rfl rfl (OpQ.nilCheck rfl rfl) ?_
      refine Ll.op rfl rfl rfl (OpQ.fieldAddr rfl Tryd.runUnderlying148 rfl Tryd.sizeOf3 rfl rfl) ?_
      refine Ll.store1 (v := i6_ (((0 ||| (1 * 2 ^ (vI (s.getD 1 0))) : Nat) : Int))) (hs' := (_ :: bk_ p15 #[.int .u8 (((s.getD 0 0).toNat : Int)), sl_ g 1 c, .slice none 0 0, i6_ (((0 ||| (1 * 2 ^ (vI (s.getD 1 0))) : Nat) : Int)), i6_ (((0 ||| (1 * 2 ^ (vI (s.getD 1 0))) : Nat) : Int))] 148 :: hs)) 1 rfl rfl rfl rfl rfl rfl Tryd.sizeOf3 rfl (by simp) rfl ?_
      refine Ll.nil ?_
      refine Kt.sel [0, 4, 6] [_, _, _] rfl ?_
      refine Wk.seq ?_
      refine Wk.seq ?_
      refine Wk.regionQ ?_
      refine Lq.run 2 rfl ?_
      refine Lq.nil ?_
      refine Kt.sel [0, 4, 6, 85] [_, _, _, _] rfl ?_
      refine Wk.condF rfl ?_
      refine Wk.skip ?_
      refine Kt.sel [0, 4, 6] [_, _, _] rfl ?_
      refine Wk.seq ?_
      refine Wk.seq ?_
      refine Wk.regionQ ?_
      refine Lq.run 2 rfl ?_
      refine Lq.nil ?_
      refine Kt.sel [0, 4, 89, 90] [_, _, _, _] rfl ?_
      refine Wk.block ?_
      refine Wk.unroll 4 ?_
      refine Wk.seq ?_
      refine Wk.regionQ ?_
      refine Lq.run 1 rfl ?_
      refine Lq.nil ?_
      refine Kt.sel [0, 4, 89, 90, 91] [_, _, _, _, _] rfl ?_
      refine Wk.seq ?_
      refine Wk.condF rfl ?_
      refine Wk.exit rfl ?_
      refine Kt.sel [0, 4] [_, _] rfl ?_
      refine Wk.seq ?_
      refine Wk.seq ?_
      refine Wk.regionQ ?_
      refine Lq.run 1 rfl ?_
      refine Lq.op (v := bo_ (decide (quI (((s.getD 0 0)).toNat : Int)))) rfl rfl rfl (OpQ.call rfl Tryd.call152 rfl Own.stable (fun w1 hw1 => isQuant_ok _ _ ((s.getD 0 0)) _ _ _ _ w1 (hw1.has 1 _ _ rfl).2)) ?_
      refine Lq.nil ?_
      refine Kt.sel [0, 4, 135] [_, _, _] rfl ?_
      refine Wk.cond (b := decide (quI (((s.getD 0 0)).toNat : Int))) rfl (fun h135_1 => ?_) (fun h135_1 => ?_)
      ·
       replace h135_1 := of_decide_eq_true h135_1
       exact absurd h135_1 (by unfold quI; omega)
      ·
       replace h135_1 := of_decide_eq_false h135_1
       refine Wk.skip ?_
       refine Kt.sel [0, 4] [_, _] rfl ?_
       refine Wk.seq ?_
       refine Wk.regionQ ?_
       refine Lq.run 4 rfl ?_
       refine Lq.nil ?_
       refine Kt.sel [2, 3] [_, _] rfl ?_
       refine Wk.ret (Kt.end2 rfl rfl rfl fun w' hw => ?_)
       have hR : parse s = some ((.leaf 80 [s.getD 1 0]), s.drop 2) := (pp1 hs0 (u8_of (n := 80) (by decide) (by assumption))).1 ⟨by simp_all, by simp_all⟩
       rw [hR]
       have e1 : (0 ||| (1 * 2 ^ (vI (s.getD 1 0))) : Nat) = frB (.leaf 80 [s.getD 1 0]) := by simp [frB, vBits, vBit]
       have e2 : (0 ||| (1 * 2 ^ (vI (s.getD 1 0))) : Nat) = allB (.leaf 80 [s.getD 1 0]) := by simp [allB, vBits, vBit]
       have e3 : s.getD 0 0 = _ := u8_of (n := 80) (by decide) (by assumption)
       rw [e3] at hw
       have hW : Own B w0 (([bk_ g u 5, bk_ p15 #[.int .u8 (((80 : UInt8).toNat : Int)), sl_ g 1 c, .slice none 0 0, i6_ ((frB (.leaf 80 [s.getD 1 0]) : Int)), i6_ ((allB (.leaf 80 [s.getD 1 0]) : Int))] 148]) ++ hs) w' := by
        rw [← e1, ← e2]
        first | exact hw | simpa only [List.append_assoc, List.cons_append, List.nil_append] using hw
       exact ⟨p15, [bk_ g u 5, bk_ p15 #[.int .u8 (((80 : UInt8).toNat : Int)), sl_ g 1 c, .slice none 0 0, i6_ ((frB (.leaf 80 [s.getD 1 0]) : Int)), i6_ ((allB (.leaf 80 [s.getD 1 0]) : Int))] 148], rfl, ⟨_, _, mem_at (l := [bk_ g u 5, bk_ p15 #[.int .u8 (((80 : UInt8).toNat : Int)), sl_ g 1 c, .slice none 0 0, i6_ ((frB (.leaf 80 [s.getD 1 0]) : Int)), i6_ ((allB (.leaf 80 [s.getD 1 0]) : Int))] 148]) (i := 1) rfl, (RowB.at (mem_at (l := [bk_ g u 5, bk_ p15 #[.int .u8 (((80 : UInt8).toNat : Int)), sl_ g 1 c, .slice none 0 0, i6_ ((frB (.leaf 80 [s.getD 1 0]) : Int)), i6_ ((allB (.leaf 80 [s.getD 1 0]) : Int))] 148]) (i := 0) rfl) htg rfl hlg), RowB.nil⟩, hW⟩
    ·
     refine Lq.pass rfl rfl rfl ?_
     refine Lq.pass rfl rfl rfl ?_
     refine Lq.pass rfl rfl rfl ?_
     refine Lq.pass rfl rfl rfl ?_
     refine Lq.run 1 rfl ?_
     refine Lq.nil ?_
     refine Kt.sel [0, 4, 6, 40, 41, 50] [_, _, _, _, _, _] rfl ?_
     refine Wk.condT rfl ?_
     refine Wk.seq ?_
     refine Wk.regionQ ?_
     refine Lq.run 3 rfl ?_
     refine Lq.nil ?_
     refine Kt.sel [2, 3] [_, _] rfl ?_
     refine Wk.ret (Kt.end2 rfl rfl rfl fun w' hw => ?_)
     have hR : parse s = none := (pp1 hs0 (u8_of (n := 80) (by decide) (by assumption))).2 (fun e => by first | exact absurd e.2 (by rw [show isV (s.getD 1 0) = false by assumption]; decide) | exact e.1 (by simpa using (show (s.drop 1 == []) = true by assumption)))
     rw [hR]
     exact ⟨_, rfl, Own.drop (f := [_]) hw⟩
   ·
    replace h22 := of_decide_eq_false h22
    refine Wk.seq ?_
    refine Wk.seq ?_
    refine Wk.regionQ ?_
    refine Lq.run 2 rfl ?_
    refine Lq.nil ?_
    refine Kt.sel [0, 4, 5, 6, 17, 24] [_, _, _, _, _, _] rfl ?_
    refine Wk.join (σ := Unit) (fun _ => True) (fun _ => [(0, str s), (4, pt_ p15), (5, i6_ 0), (6, i6_ 0), (17, .int .u8 (((s.getD 0 0).toNat : Int))), (24, bo_ (decide ((((s.getD 0 0).toNat : Int)) = (61 : Int) ∨ (((s.getD 0 0).toNat : Int)) = (69 : Int))))]) (fun _ => Own B w0 (bk_ p15 #[.int .u8 (((s.getD 0 0).toNat : Int)), .slice none 0 0, .slice none 0 0, i6_ 0, i6_ 0] 148 :: hs)) ?_ ?_
    ·
     refine Wk.cond (b := decide ((((s.getD 0 0).toNat : Int)) = (61 : Int))) rfl (fun h24 => ?_) (fun h24 => ?_)
     ·
      replace h24 := of_decide_eq_true h24
      refine Wk.skip ?_
      refine Kt.joined (()) trivial (Sub.cons rfl (Sub.cons rfl (Sub.cons rfl (Sub.cons rfl (Sub.cons rfl (Sub.cons (by rw [decide_eq_decide.2 (show ((((s.getD 0 0).toNat : Int)) = (61 : Int) ∨ (((s.getD 0 0).toNat : Int)) = (69 : Int)) ↔ ((((s.getD 0 0).toNat : Int)) = (61 : Int)) by first | omega | (unfold quI at *; omega))]; rfl) Sub.nil)))))) (fun _ h => h)
     ·
      replace h24 := of_decide_eq_false h24
      refine Wk.regionQ ?_
      refine Lq.run 2 rfl ?_
      refine Lq.nil ?_
      refine Kt.joined (()) trivial (Sub.cons rfl (Sub.cons rfl (Sub.cons rfl (Sub.cons rfl (Sub.cons rfl (Sub.cons (by rw [decide_eq_decide.2 (show ((((s.getD 0 0).toNat : Int)) = (61 : Int) ∨ (((s.getD 0 0).toNat : Int)) = (69 : Int)) ↔ ((((s.getD 0 0).toNat : Int)) = (69 : Int)) by first | omega | (unfold quI at *; omega))]; rfl) Sub.nil)))))) (fun _ h => h)
    rintro _ hj
    refine Kt.sel [0, 4, 5, 6, 17, 24] [_, _, _, _, _, _] rfl ?_
    refine Wk.cond (b := decide ((((s.getD 0 0).toNat : Int)) = (61 : Int) ∨ (((s.getD 0 0).toNat : Int)) = (69 : Int))) rfl (fun h24_1 => ?_) (fun h24_1 => ?_)
    ·
     replace h24_1 := of_decide_eq_true h24_1
     refine Wk.regionQ ?_
     refine Lq.run 1 rfl ?_
     refine Lq.nil ?_
     refine Kt.sel [0, 4, 5, 6] [_, _, _, _] rfl ?_
     refine Wk.seq ?_
     refine Wk.regionQ ?_
     refine Lq.run 1 rfl ?_
     refine Lq.op (v := str (s.drop 1)) rfl rfl rfl (OpQ.cast (by rfl) (OpQ.sliceStrFrom rfl Tryd.underlying9 rfl rfl (by omega) (by omega))) ?_
     refine Lq.run 1 rfl ?_
     refine Lq.nil ?_
     refine Kt.sel [0, 4, 5, 6] [_, _, _, _] rfl ?_
     refine Wk.seq ?_
     refine Wk.seq ?_
     refine Wk.regionQ ?_
     refine Lq.run 2 rfl ?_
     refine Lq.nil ?_
     refine Kt.sel [0, 4, 6, 40, 41] [_, _, _, _, _] rfl ?_
     refine Wk.block ?_
     refine Wk.unroll 4 ?_
     refine Wk.seq ?_
     refine Wk.regionQ ?_
     refine Lq.run 1 rfl ?_
     refine Lq.nil ?_
     refine Kt.sel [0, 4, 6, 40, 41, 42] [_, _, _, _, _, _] rfl ?_
     refine Wk.seq ?_
     refine Wk.condT rfl ?_
     refine Wk.skip ?_
     refine Kt.sel [0, 4, 6, 40, 41] [_, _, _, _, _] rfl ?_
     refine Wk.seq ?_
     refine Wk.block ?_
     refine Wk.seq ?_
     refine Wk.seq ?_
     refine Wk.regionQ ?_
     refine Lq.run 1 rfl ?_
     refine Lq.op rfl rfl rfl (OpQ.seql rfl rfl rfl) ?_
     refine Lq.run 1 rfl ?_
     refine Lq.bool fun b45 hg45_1 => ?_
     cases b45
     ·
      have hne1 : ¬ s.drop 1 = [] := by simpa using hg45_1
      have hlk1 : 0 < (s.drop 1).length := (first_of hne1).1
      refine Lq.run 1 rfl ?_
      refine Lq.op (v := str ([s.getD 1 0])) rfl rfl rfl (OpQ.cast (by rw [show (1 : Int).toNat = 1 from rfl, take_drop1 hne1]) (OpQ.sliceStrTo rfl Tryd.underlying9 rfl rfl (by omega) (by omega))) ?_
      refine Lq.op (v := bo_ (isV (s.getD 1 0))) rfl rfl rfl (OpQ.call rfl Tryd.call179 rfl Own.stable (fun w1 hw1 => containsV_ok (s.getD 1 0) w1)) ?_
      refine Lq.run 2 rfl ?_
      refine Lq.nil ?_
      refine Kt.sel [0, 4, 6, 40, 41, 50] [_, _, _, _, _, _] rfl ?_
      refine Wk.cond (b := !(isV (s.getD 1 0))) rfl (fun h50_1 => ?_) (fun h50_1 => ?_)
      ·
       replace h50_1 := not_true h50_1
       refine Wk.seq ?_
       refine Wk.regionQ ?_
       refine Lq.run 3 rfl ?_
       refine Lq.nil ?_
       refine Kt.sel [2, 3] [_, _] rfl ?_
       refine Wk.ret (Kt.end2 rfl rfl rfl fun w' hw => ?_)
       have hR : parse s = none := (pp2 hs0 (two_of (by decide) (by decide) (by assumption))).2 (by first | exact .inl (fun e => by first | exact absurd e.2 (by rw [show isV (s.getD 1 0) = false by assumption]; decide) | exact e.1 (by simpa using (show (s.drop 1 == []) = true by assumption))) | exact .inr (fun e => by first | exact absurd e.2 (by rw [show isV (s.getD 2 0) = false by assumption]; decide) | exact e.1 (by simpa using (show (s.drop 2 == []) = true by assumption))))
       rw [hR]
       exact ⟨_, rfl, Own.drop (f := [_]) hw⟩
      ·
       replace h50_1 := not_false h50_1
       have hv1 : isV (s.getD 1 0) = true := by simpa using h50_1
       have hvi1 := (vI_lt hv1).1
       have hbl1 := bit_lt hvi1
       refine Wk.skip ?_
       refine Kt.sel [0, 4, 6, 40, 41] [_, _, _, _, _] rfl ?_
       refine Wk.seq ?_
       refine Wk.join (σ := Nat × Nat × Array Value) (fun ⟨g_1, c_1, u_1⟩ => u_1.size = c_1 * 1 ∧ 1 ≤ c_1 ∧ u_1.toList.take 1 = [.int .u8 (((s.getD 1 0).toNat : Int))]) (fun ⟨g_1, c_1, u_1⟩ => [(0, str (s.drop 1)), (4, pt_ p15), (6, i6_ 0), (40, i6_ 2), (41, i6_ 0)]) (fun ⟨g_1, c_1, u_1⟩ => Own B w0 (bk_ g_1 u_1 5 :: bk_ p15 #[.int .u8 (((s.getD 0 0).toNat : Int)), sl_ g_1 1 c_1, .slice none 0 0, i6_ 0, i6_ 0] 148 :: hs)) ?_ ?_
       ·
        refine Wk.regionU (S := Own B w0 (hs)) (.take 0 (.take 1 (.take 5 (.take 6 (.two 2 (.take 3 (.two 4 (.one 7 (.one 8 (.one 9 (.take 10 (.one 11 .done))))) 7 (.one 4 (.one 8 (.one 9 (.take 10 (.one 11 .done))))))) 7 (.one 2 (.take 3 (.one 4 (.one 8 (.one 9 (.take 10 (.one 11 .done)))))))))))) Base.mixed (fun _ h => h.drawn) (by kernel_rfl) ?_
        refine Lu.run 3 rfl (pT 1 [] rfl rfl) ?_
        refine Lu.take (v := .int .u8 (((s.getD 1 0).toNat : Int))) rfl rfl rfl rfl rfl (OpQ.cast (by rw [show (0 : Int).toNat = 0 from rfl, getD_drop]) (OpQ.indexStr rfl Tryd.runUnderlying9 rfl rfl (by omega) (by omega))) (pT 1 [] rfl rfl) ?_
        refine Lu.two rfl rfl ?_ ?_
        ·
         refine Ll.op (v := pt_ p15) rfl rfl rfl (OpQ.nilCheck rfl rfl) ?_
         refine Ll.nil (Lu.joint (pT 1 [] rfl rfl) ?_)
         refine Lu.take rfl rfl rfl rfl rfl (OpQ.fieldAddr rfl Tryd.runUnderlying148 rfl Tryd.sizeOf33 rfl rfl) (pT 1 [] rfl rfl) ?_
         refine Lu.two rfl rfl ?_ ?_
         ·
          refine Ll.op rfl rfl rfl (OpQ.loadOwn 0 rfl Tryd.isAgg33 rfl rfl rfl) ?_
          refine Ll.nil (Lu.joint (pT 1 [] rfl rfl) ?_)
          refine Lu.loud rfl ?_
          refine Ll.slice (xs := [.tmp 58]) (vs := [.int .u8 (((s.getD 1 0).toNat : Int))]) Base.elem33 rfl rfl rfl rfl rfl rfl (by decide) rfl fun p59_3 hp59_3 => ?_
          refine Ll.nil (Lu.joint (pT 2 [] rfl rfl) ?_)
          refine Lu.loud rfl ?_
          refine Ll.appendN1 (V := .int .u8 (((s.getD 1 0).toNat : Int))) Base.elem33 0 rfl rfl rfl rfl rfl rfl rfl fun g60_3 c60_3 u60_3 hg60_3 hcg60_3 hlg60_3 htg60_3 => ?_
          show Ll _ _ (Own _ _ (_ :: _ :: _ :: hs)) _ _ ((60, sl_ g60_3 1 c60_3) :: _) _ _ _
          refine Ll.nil (Lu.joint (pT 3 [] rfl rfl) ?_)
          refine Lu.loud rfl ?_
          refine Ll.op (v := pt_ p15) rfl rfl rfl (OpQ.nilCheck rfl rfl) ?_
          refine Ll.nil (Lu.joint (pT 3 [] rfl rfl) ?_)
          refine Lu.take rfl rfl rfl rfl rfl (OpQ.fieldAddr rfl Tryd.runUnderlying148 rfl Tryd.sizeOf33 rfl rfl) (pT 3 [] rfl rfl) ?_
          refine Lu.loud rfl ?_
          refine Ll.store1 (v := sl_ g60_3 1 c60_3) (hs' := (_ :: _ :: bk_ p15 #[.int .u8 (((s.getD 0 0).toNat : Int)), sl_ g60_3 1 c60_3, .slice none 0 0, i6_ 0, i6_ 0] 148 :: hs)) 2 rfl rfl rfl rfl rfl rfl Tryd.sizeOf33 rfl (by simp) rfl ?_
          refine Ll.nil (Lu.joint (pT 3 [] rfl rfl) ?_)
          refine Lu.nil ?_
          refine Kt.joined ((g60_3, c60_3, u60_3)) ⟨hcg60_3, hlg60_3, htg60_3⟩ (Sub.sel [0, 4, 6, 40, 41] rfl) (fun _ h => h.sub (List.Sublist.cons_cons _ (List.Sublist.cons _ (List.Sublist.cons_cons _ (List.Sublist.refl _)))))
         ·
          refine Ll.slice (xs := [.tmp 58]) (vs := [.int .u8 (((s.getD 1 0).toNat : Int))]) Base.elem33 rfl rfl rfl rfl rfl rfl (by decide) rfl fun p59_4 hp59_4 => ?_
          refine Ll.nil (Lu.joint (pT 2 [] rfl rfl) ?_)
          refine Lu.loud rfl ?_
          refine Ll.op rfl rfl rfl (OpQ.loadOwn 1 rfl Tryd.isAgg33 rfl rfl rfl) ?_
          refine Ll.nil (Lu.joint (pT 2 [] rfl rfl) ?_)
          refine Lu.loud rfl ?_
          refine Ll.appendN1 (V := .int .u8 (((s.getD 1 0).toNat : Int))) Base.elem33 0 rfl rfl rfl rfl rfl rfl rfl fun g60_4 c60_4 u60_4 hg60_4 hcg60_4 hlg60_4 htg60_4 => ?_
          show Ll _ _ (Own _ _ (_ :: _ :: _ :: hs)) _ _ ((60, sl_ g60_4 1 c60_4) :: _) _ _ _
          refine Ll.nil (Lu.joint (pT 3 [] rfl rfl) ?_)
          refine Lu.loud rfl ?_
          refine Ll.op (v := pt_ p15) rfl rfl rfl (OpQ.nilCheck rfl rfl) ?_
          refine Ll.nil (Lu.joint (pT 3 [] rfl rfl) ?_)
          refine Lu.take rfl rfl rfl rfl rfl (OpQ.fieldAddr rfl Tryd.runUnderlying148 rfl Tryd.sizeOf33 rfl rfl) (pT 3 [] rfl rfl) ?_
          refine Lu.loud rfl ?_
          refine Ll.store1 (v := sl_ g60_4 1 c60_4) (hs' := (_ :: _ :: bk_ p15 #[.int .u8 (((s.getD 0 0).toNat : Int)), sl_ g60_4 1 c60_4, .slice none 0 0, i6_ 0, i6_ 0] 148 :: hs)) 2 rfl rfl rfl rfl rfl rfl Tryd.sizeOf33 rfl (by simp) rfl ?_
          refine Ll.nil (Lu.joint (pT 3 [] rfl rfl) ?_)
          refine Lu.nil ?_
          refine Kt.joined ((g60_4, c60_4, u60_4)) ⟨hcg60_4, hlg60_4, htg60_4⟩ (Sub.sel [0, 4, 6, 40, 41] rfl) (fun _ h => h.sub (List.Sublist.cons_cons _ (List.Sublist.cons _ (List.Sublist.cons_cons _ (List.Sublist.refl _)))))
        ·
         refine Ll.slice (xs := [.tmp 58]) (vs := [.int .u8 (((s.getD 1 0).toNat : Int))]) Base.elem33 rfl rfl rfl rfl rfl rfl (by decide) rfl fun p59_5 hp59_5 => ?_
         refine Ll.nil (Lu.joint (pT 2 [] rfl rfl) ?_)
         refine Lu.loud rfl ?_
         refine Ll.op (v := pt_ p15) rfl rfl rfl (OpQ.nilCheck rfl rfl) ?_
         refine Ll.nil (Lu.joint (pT 2 [] rfl rfl) ?_)
         refine Lu.take rfl rfl rfl rfl rfl (OpQ.fieldAddr rfl Tryd.runUnderlying148 rfl Tryd.sizeOf33 rfl rfl) (pT 2 [] rfl rfl) ?_
         refine Lu.loud rfl ?_
         refine Ll.op rfl rfl rfl (OpQ.loadOwn 1 rfl Tryd.isAgg33 rfl rfl rfl) ?_
         refine Ll.nil (Lu.joint (pT 2 [] rfl rfl) ?_)
         refine Lu.loud rfl ?_
         refine Ll.appendN1 (V := .int .u8 (((s.getD 1 0).toNat : Int))) Base.elem33 0 rfl rfl rfl rfl rfl rfl rfl fun g60_5 c60_5 u60_5 hg60_5 hcg60_5 hlg60_5 htg60_5 => ?_
         show Ll _ _ (Own _ _ (_ :: _ :: _ :: hs)) _ _ ((60, sl_ g60_5 1 c60_5) :: _) _ _ _
         refine Ll.nil (Lu.joint (pT 3 [] rfl rfl) ?_)
         refine Lu.loud rfl ?_
         refine Ll.op (v := pt_ p15) rfl rfl rfl (OpQ.nilCheck rfl rfl) ?_
         refine Ll.nil (Lu.joint (pT 3 [] rfl rfl) ?_)
         refine Lu.take rfl rfl rfl rfl rfl (OpQ.fieldAddr rfl Tryd.runUnderlying148 rfl Tryd.sizeOf33 rfl rfl) (pT 3 [] rfl rfl) ?_
         refine Lu.loud rfl ?_
         refine Ll.store1 (v := sl_ g60_5 1 c60_5) (hs' := (_ :: _ :: bk_ p15 #[.int .u8 (((s.getD 0 0).toNat : Int)), sl_ g60_5 1 c60_5, .slice none 0 0, i6_ 0, i6_ 0] 148 :: hs)) 2 rfl rfl rfl rfl rfl rfl Tryd.sizeOf33 rfl (by simp) rfl ?_
         refine Ll.nil (Lu.joint (pT 3 [] rfl rfl) ?_)
         refine Lu.nil ?_
         refine Kt.joined ((g60_5, c60_5, u60_5)) ⟨hcg60_5, hlg60_5, htg60_5⟩ (Sub.sel [0, 4, 6, 40, 41] rfl) (fun _ h => h.sub (List.Sublist.cons_cons _ (List.Sublist.cons _ (List.Sublist.cons_cons _ (List.Sublist.refl _)))))
       rintro ⟨g_1, c_1, u_1⟩ ⟨hcg_1, hlg_1, htg_1⟩
       dsimp only
       refine Kt.sel [0, 4, 6, 40, 41] [_, _, _, _, _] rfl ?_
       refine Wk.seq ?_
       refine Wk.join (σ := Unit) (fun _ => True) (fun _ => [(0, str (s.drop 1)), (4, pt_ p15), (6, i6_ 0), (40, i6_ 2), (41, i6_ 0)]) (fun _ => Own B w0 (bk_ g_1 u_1 5 :: bk_ p15 #[.int .u8 (((s.getD 0 0).toNat : Int)), sl_ g_1 1 c_1, .slice none 0 0, i6_ 0, i6_ (((0 ||| (1 * 2 ^ (vI (s.getD 1 0))) : Nat) : Int))] 148 :: hs)) ?_ ?_
       ·
        refine Wk.regionS (S := Own B w0 (bk_ g_1 u_1 5 :: hs)) [(0, true), (4, true), (5, true), (6, true), (7, true), (1, false), (2, true), (3, false), (8, true), (9, false), (10, true), (11, false)] Base.mixed (fun _ h => h.drawn) (by kernel_rfl) ?_
        refine Ld.run 2 rfl (pT 2 [0] rfl rfl) ?_
        refine Ld.take (v := .int .u8 (((s.getD 1 0).toNat : Int))) rfl rfl rfl rfl rfl (OpQ.cast (by rw [show (0 : Int).toNat = 0 from rfl, getD_drop]) (OpQ.indexStr rfl Tryd.runUnderlying9 rfl rfl (by omega) (by omega))) (pT 2 [0] rfl rfl) ?_
        refine Ld.take (v := .int .u8 ((vI (s.getD 1 0) : Int))) rfl rfl rfl rfl rfl (OpQ.cast (by rw [vI_wrap hv1]) (OpQ.subU8 rfl rfl rfl)) (pT 2 [0] rfl rfl) ?_
        refine Ld.take (v := i6_ (((1 * 2 ^ (vI (s.getD 1 0)) : Nat) : Int))) rfl rfl rfl rfl rfl (OpQ.shl (a := 1) (b := vI (s.getD 1 0)) rfl rfl rfl (by omega) (by omega)) (pT 2 [0] rfl rfl) ?_
        refine Ld.loud rfl ?_
        refine Ll.op (v := pt_ p15) rfl rfl rfl (OpQ.nilCheck rfl rfl) ?_
        refine Ll.nil (Ld.joint (pT 2 [0] rfl rfl) ?_)
        refine Ld.take rfl rfl rfl rfl rfl (OpQ.fieldAddr rfl Tryd.runUnderlying148 rfl Tryd.sizeOf3 rfl rfl) (pT 2 [0] rfl rfl) ?_
        refine Ld.loud rfl ?_
        refine Ll.op rfl rfl rfl (OpQ.loadOwn 1 rfl Tryd.isAgg3 rfl rfl rfl) ?_
        refine Ll.nil (Ld.joint (pT 2 [0] rfl rfl) ?_)
        refine Ld.take (v := i6_ (((0 ||| (1 * 2 ^ (vI (s.getD 1 0))) : Nat) : Int))) rfl rfl rfl rfl rfl (OpQ.or (a := 0) (b := 1 * 2 ^ (vI (s.getD 1 0))) rfl rfl rfl (by repeat' (first | omega | apply or_lt62 | apply or_lt16)) (by repeat' (first | omega | apply or_lt62 | apply or_lt16))) (pT 2 [0] rfl rfl) ?_
        refine Ld.loud rfl ?_
        refine Ll.op (v := pt_ p15) rfl rfl rfl (OpQ.nilCheck rfl rfl) ?_
        refine Ll.nil (Ld.joint (pT 2 [0] rfl rfl) ?_)
        refine Ld.take rfl rfl rfl rfl rfl (OpQ.fieldAddr rfl Tryd.runUnderlying148 rfl Tryd.sizeOf3 rfl rfl) (pT 2 [0] rfl rfl) ?_
        refine Ld.loud rfl ?_
        refine Ll.store1 (v := i6_ (((0 ||| (1 * 2 ^ (vI (s.getD 1 0))) : Nat) : Int))) (hs' := (_ :: bk_ p15 #[.int .u8 (((s.getD 0 0).toNat : Int)), sl_ g_1 1 c_1, .slice none 0 0, i6_ 0, i6_ (((0 ||| (1 * 2 ^ (vI (s.getD 1 0))) : Nat) : Int))] 148 :: hs)) 1 rfl rfl rfl rfl rfl rfl Tryd.sizeOf3 rfl (by simp) rfl ?_
        refine Ll.nil (Ld.joint (pT 2 [0] rfl rfl) ?_)
        refine Ld.nil ?_
        refine Kt.joined (()) trivial (Sub.sel [0, 4, 6, 40, 41] rfl) (fun _ h => h.sub (List.Sublist.cons_cons _ (List.Sublist.cons_cons _ (List.Sublist.refl _))))
       rintro _ hj
       refine Kt.sel [0, 4, 6, 40, 41] [_, _, _, _, _] rfl ?_
       refine Wk.regionQ ?_
       refine Lq.run 1 rfl ?_
       refine Lq.op (v := str (s.drop 2)) rfl rfl rfl (OpQ.cast (by rw [List.drop_drop]; rfl) (OpQ.sliceStrFrom rfl Tryd.underlying9 rfl rfl (by omega) (by omega))) ?_
       refine Lq.run 1 rfl ?_
       refine Lq.nil ?_
       refine Kt.sel [0, 4, 6, 40, 41] [_, _, _, _, _] rfl ?_
       refine Wk.regionQ ?_
       refine Lq.op rfl rfl rfl (OpQ.add rfl rfl rfl (by decide) (by decide)) ?_
       refine Lq.run 1 rfl ?_
       refine Lq.nil ?_
       refine Kt.round (e' := [(0, str (s.drop 2)), (4, pt_ p15), (6, i6_ 0), (40, i6_ 2), (41, i6_ 1)]) (Sub.sel [0, 4, 6, 40, 41] rfl) ?_
       refine Wk.seq ?_
       refine Wk.regionQ ?_
       refine Lq.run 1 rfl ?_
       refine Lq.nil ?_
       refine Kt.sel [0, 4, 6, 40, 41, 42] [_, _, _, _, _, _] rfl ?_
       refine Wk.seq ?_
       refine Wk.condT rfl ?_
       refine Wk.skip ?_
       refine Kt.sel [0, 4, 6, 40, 41] [_, _, _, _, _] rfl ?_
       refine Wk.seq ?_
       refine Wk.block ?_
       refine Wk.seq ?_
       refine Wk.seq ?_
       refine Wk.regionQ ?_
       refine Lq.run 1 rfl ?_
       refine Lq.op rfl rfl rfl (OpQ.seql rfl rfl rfl) ?_
       refine Lq.run 1 rfl ?_
       refine Lq.bool fun b45 hg45_2 => ?_
       cases b45
       ·
        have hne2 : ¬ s.drop 2 = [] := by simpa using hg45_2
        have hlk2 : 0 < (s.drop 2).length := (first_of hne2).1
        refine Lq.run 1 rfl ?_
        refine Lq.op (v := str ([s.getD 2 0])) rfl rfl rfl (OpQ.cast (by rw [show (1 : Int).toNat = 1 from rfl, take_drop1 hne2]) (OpQ.sliceStrTo rfl Tryd.underlying9 rfl rfl (by omega) (by omega))) ?_
        refine Lq.op (v := bo_ (isV (s.getD 2 0))) rfl rfl rfl (OpQ.call rfl Tryd.call179 rfl Own.stable (fun w1 hw1 => containsV_ok (s.getD 2 0) w1)) ?_
        refine Lq.run 2 rfl ?_
        refine Lq.nil ?_
        refine Kt.sel [0, 4, 6, 40, 41, 50] [_, _, _, _, _, _] rfl ?_
        refine Wk.cond (b := !(isV (s.getD 2 0))) rfl (fun h50_2 => ?_) (fun h50_2 => ?_)
        ·
         replace h50_2 := not_true h50_2
         refine Wk.seq ?_
         refine Wk.regionQ ?_
         refine Lq.run 3 rfl ?_
         refine Lq.nil ?_
         refine Kt.sel [2, 3] [_, _] rfl ?_
         refine Wk.ret (Kt.end2 rfl rfl rfl fun w' hw => ?_)
         have hR : parse s = none := (pp2 hs0 (two_of (by decide) (by decide) (by assumption))).2 (by first | exact .inl (fun e => by first | exact absurd e.2 (by rw [show isV (s.getD 1 0) = false by assumption]; decide) | exact e.1 (by simpa using (show (s.drop 1 == []) = true by assumption))) | exact .inr (fun e => by first | exact absurd e.2 (by rw [show isV (s.getD 2 0) = false by assumption]; decide) | exact e.1 (by simpa using (show (s.drop 2 == []) = true by assumption))))
         rw [hR]
         exact ⟨_, rfl, Own.drop (f := [_, _]) hw⟩
        ·
         replace h50_2 := not_false h50_2
         have hv2 : isV (s.getD 2 0) = true := by simpa using h50_2
         have hvi2 := (vI_lt hv2).1
         have hbl2 := bit_lt hvi2
         refine Wk.skip ?_
         refine Kt.sel [0, 4, 6, 40, 41] [_, _, _, _, _] rfl ?_
         refine Wk.seq ?_
         refine Wk.join (σ := Nat × Nat × Array Value) (fun ⟨g_2, c_2, u_2⟩ => u_2.size = c_2 * 1 ∧ 2 ≤ c_2 ∧ u_2.toList.take 2 = [.int .u8 (((s.getD 1 0).toNat : Int)), .int .u8 (((s.getD 2 0).toNat : Int))]) (fun ⟨g_2, c_2, u_2⟩ => [(0, str (s.drop 2)), (4, pt_ p15), (6, i6_ 0), (40, i6_ 2), (41, i6_ 1)]) (fun ⟨g_2, c_2, u_2⟩ => Own B w0 (bk_ g_2 u_2 5 :: bk_ p15 #[.int .u8 (((s.getD 0 0).toNat : Int)), sl_ g_2 2 c_2, .slice none 0 0, i6_ 0, i6_ (((0 ||| (1 * 2 ^ (vI (s.getD 1 0))) : Nat) : Int))] 148 :: hs)) ?_ ?_
         ·
          refine Wk.regionU (S := Own B w0 (hs)) (.take 0 (.take 1 (.take 5 (.take 6 (.two 2 (.take 3 (.two 4 (.one 7 (.one 8 (.one 9 (.take 10 (.one 11 .done))))) 7 (.one 4 (.one 8 (.one 9 (.take 10 (.one 11 .done))))))) 7 (.one 2 (.take 3 (.one 4 (.one 8 (.one 9 (.take 10 (.one 11 .done)))))))))))) Base.mixed (fun _ h => h.drawn) (by kernel_rfl) ?_
          refine Lu.run 3 rfl (pT 2 [] rfl rfl) ?_
          refine Lu.take (v := .int .u8 (((s.getD 2 0).toNat : Int))) rfl rfl rfl rfl rfl (OpQ.cast (by rw [show (0 : Int).toNat = 0 from rfl, getD_drop]) (OpQ.indexStr rfl Tryd.runUnderlying9 rfl rfl (by omega) (by omega))) (pT 2 [] rfl rfl) ?_
          refine Lu.two rfl rfl ?_ ?_
          ·
           refine Ll.op (v := pt_ p15) rfl rfl rfl (OpQ.nilCheck rfl rfl) ?_
           refine Ll.nil (Lu.joint (pT 2 [] rfl rfl) ?_)
           refine Lu.take rfl rfl rfl rfl rfl (OpQ.fieldAddr rfl Tryd.runUnderlying148 rfl Tryd.sizeOf33 rfl rfl) (pT 2 [] rfl rfl) ?_
           refine Lu.two rfl rfl ?_ ?_
           ·
            refine Ll.op rfl rfl rfl (OpQ.loadOwn 1 rfl Tryd.isAgg33 rfl rfl rfl) ?_
            refine Ll.nil (Lu.joint (pT 2 [] rfl rfl) ?_)
            refine Lu.loud rfl ?_
            refine Ll.slice (xs := [.tmp 58]) (vs := [.int .u8 (((s.getD 2 0).toNat : Int))]) Base.elem33 rfl rfl rfl rfl rfl rfl (by decide) rfl fun p59_6 hp59_6 => ?_
            refine Ll.nil (Lu.joint (pT 3 [] rfl rfl) ?_)
            refine Lu.loud rfl ?_
            refine Ll.append1 (V := .int .u8 (((s.getD 2 0).toNat : Int))) (vs := [.int .u8 (((s.getD 1 0).toNat : Int))]) Base.elem33 1 0 rfl rfl rfl rfl rfl rfl rfl hcg_1 hlg_1 htg_1 rfl rfl (by decide) fun g60_6 c60_6 u60_6 hg60_6 hcg60_6 hlg60_6 htg60_6 => ?_
            show Ll _ _ (Own _ _ (_ :: _ :: _ :: hs)) _ _ ((60, sl_ g60_6 2 c60_6) :: _) _ _ _
            refine Ll.nil (Lu.joint (pT 3 [] rfl rfl) ?_)
            refine Lu.loud rfl ?_
            refine Ll.op (v := pt_ p15) rfl rfl rfl (OpQ.nilCheck rfl rfl) ?_
            refine Ll.nil (Lu.joint (pT 3 [] rfl rfl) ?_)
            refine Lu.take rfl rfl rfl rfl rfl (OpQ.fieldAddr rfl Tryd.runUnderlying148 rfl Tryd.sizeOf33 rfl rfl) (pT 3 [] rfl rfl) ?_
            refine Lu.loud rfl ?_
            refine Ll.store1 (v := sl_ g60_6 2 c60_6) (hs' := (_ :: _ :: bk_ p15 #[.int .u8 (((s.getD 0 0).toNat : Int)), sl_ g60_6 2 c60_6, .slice none 0 0, i6_ 0, i6_ (((0 ||| (1 * 2 ^ (vI (s.getD 1 0))) : Nat) : Int))] 148 :: hs)) 2 rfl rfl rfl rfl rfl rfl Tryd.sizeOf33 rfl (by simp) rfl ?_
            refine Ll.nil (Lu.joint (pT 3 [] rfl rfl) ?_)
            refine Lu.nil ?_
            refine Kt.joined ((g60_6, c60_6, u60_6)) ⟨hcg60_6, hlg60_6, htg60_6⟩ (Sub.sel [0, 4, 6, 40, 41] rfl) (fun _ h => h.sub (List.Sublist.cons _ (List.Sublist.cons_cons _ (List.Sublist.cons_cons _ (List.Sublist.refl _)))))
           ·
            refine Ll.slice (xs := [.tmp 58]) (vs := [.int .u8 (((s.getD 2 0).toNat : Int))]) Base.elem33 rfl rfl rfl rfl rfl rfl (by decide) rfl fun p59_7 hp59_7 => ?_
            refine Ll.nil (Lu.joint (pT 3 [] rfl rfl) ?_)
            refine Lu.loud rfl ?_
            refine Ll.op rfl rfl rfl (OpQ.loadOwn 2 rfl Tryd.isAgg33 rfl rfl rfl) ?_
            refine Ll.nil (Lu.joint (pT 3 [] rfl rfl) ?_)
            refine Lu.loud rfl ?_
            refine Ll.append1 (V := .int .u8 (((s.getD 2 0).toNat : Int))) (vs := [.int .u8 (((s.getD 1 0).toNat : Int))]) Base.elem33 1 0 rfl rfl rfl rfl rfl rfl rfl hcg_1 hlg_1 htg_1 rfl rfl (by decide) fun g60_7 c60_7 u60_7 hg60_7 hcg60_7 hlg60_7 htg60_7 => ?_
            show Ll _ _ (Own _ _ (_ :: _ :: _ :: hs)) _ _ ((60, sl_ g60_7 2 c60_7) :: _) _ _ _
            refine Ll.nil (Lu.joint (pT 3 [] rfl rfl) ?_)
            refine Lu.loud rfl ?_
            refine Ll.op (v := pt_ p15) rfl rfl rfl (OpQ.nilCheck rfl rfl) ?_
            refine Ll.nil (Lu.joint (pT 3 [] rfl rfl) ?_)
            refine Lu.take rfl rfl rfl rfl rfl (OpQ.fieldAddr rfl Tryd.runUnderlying148 rfl Tryd.sizeOf33 rfl rfl) (pT 3 [] rfl rfl) ?_
            refine Lu.loud rfl ?_
            refine Ll.store1 (v := sl_ g60_7 2 c60_7) (hs' := (_ :: _ :: bk_ p15 #[.int .u8 (((s.getD 0 0).toNat : Int)), sl_ g60_7 2 c60_7, .slice none 0 0, i6_ 0, i6_ (((0 ||| (1 * 2 ^ (vI (s.getD 1 0))) : Nat) : Int))] 148 :: hs)) 2 rfl rfl rfl rfl rfl rfl Tryd.sizeOf33 rfl (by simp) rfl ?_
            refine Ll.nil (Lu.joint (pT 3 [] rfl rfl) ?_)
            refine Lu.nil ?_
            refine Kt.joined ((g60_7, c60_7, u60_7)) ⟨hcg60_7, hlg60_7, htg60_7⟩ (Sub.sel [0, 4, 6, 40, 41] rfl) (fun _ h => h.sub (List.Sublist.cons _ (List.Sublist.cons_cons _ (List.Sublist.cons_cons _ (List.Sublist.refl _)))))
          ·
           refine Ll.slice (xs := [.tmp 58]) (vs := [.int .u8 (((s.getD 2 0).toNat : Int))]) Base.elem33 rfl rfl rfl rfl rfl rfl (by decide) rfl fun p59_8 hp59_8 => ?_
           refine Ll.nil (Lu.joint (pT 3 [] rfl rfl) ?_)
           refine Lu.loud rfl ?_
           refine Ll.op (v := pt_ p15) rfl rfl rfl (OpQ.nilCheck rfl rfl) ?_
           refine Ll.nil (Lu.joint (pT 3 [] rfl rfl) ?_)
           refine Lu.take rfl rfl rfl rfl rfl (OpQ.fieldAddr rfl Tryd.runUnderlying148 rfl Tryd.sizeOf33 rfl rfl) (pT 3 [] rfl rfl) ?_
           refine Lu.loud rfl ?_
           refine Ll.op rfl rfl rfl (OpQ.loadOwn 2 rfl Tryd.isAgg33 rfl rfl rfl) ?_
           refine Ll.nil (Lu.joint (pT 3 [] rfl rfl) ?_)
           refine Lu.loud rfl ?_
           refine Ll.append1 (V := .int .u8 (((s.getD 2 0).toNat : Int))) (vs := [.int .u8 (((s.getD 1 0).toNat : Int))]) Base.elem33 1 0 rfl rfl rfl rfl rfl rfl rfl hcg_1 hlg_1 htg_1 rfl rfl (by decide) fun g60_8 c60_8 u60_8 hg60_8 hcg60_8 hlg60_8 htg60_8 => ?_
           show Ll _ _ (Own _ _ (_ :: _ :: _ :: hs)) _ _ ((60, sl_ g60_8 2 c60_8) :: _) _ _ _
           refine Ll.nil (Lu.joint (pT 3 [] rfl rfl) ?_)
           refine Lu.loud rfl ?_
           refine Ll.op (v := pt_ p15) rfl rfl rfl (OpQ.nilCheck rfl rfl) ?_
           refine Ll.nil (Lu.joint (pT 3 [] rfl rfl) ?_)
           refine Lu.take rfl rfl rfl rfl rfl (OpQ.fieldAddr rfl Tryd.runUnderlying148 rfl Tryd.sizeOf33 rfl rfl) (pT 3 [] rfl rfl) ?_
           refine Lu.loud rfl ?_
           refine Ll.store1 (v := sl_ g60_8 2 c60_8) (hs' := (_ :: _ :: bk_ p15 #[.int .u8 (((s.getD 0 0).toNat : Int)), sl_ g60_8 2 c60_8, .slice none 0 0, i6_ 0, i6_ (((0 ||| (1 * 2 ^ (vI (s.getD 1 0))) : Nat) : Int))] 148 :: hs)) 2 rfl rfl rfl rfl rfl rfl Tryd.sizeOf33 rfl (by simp) rfl ?_
           refine Ll.nil (Lu.joint (pT 3 [] rfl rfl) ?_)
           refine Lu.nil ?_
           refine Kt.joined ((g60_8, c60_8, u60_8)) ⟨hcg60_8, hlg60_8, htg60_8⟩ (Sub.sel [0, 4, 6, 40, 41] rfl) (fun _ h => h.sub (List.Sublist.cons _ (List.Sublist.cons_cons _ (List.Sublist.cons_cons _ (List.Sublist.refl _)))))
         rintro ⟨g_2, c_2, u_2⟩ ⟨hcg_2, hlg_2, htg_2⟩
         dsimp only
         refine Kt.sel [0, 4, 6, 40, 41] [_, _, _, _, _] rfl ?_
         refine Wk.seq ?_
         refine Wk.join (σ := Unit) (fun _ => True) (fun _ => [(0, str (s.drop 2)), (4, pt_ p15), (6, i6_ 0), (40, i6_ 2), (41, i6_ 1)]) (fun _ => Own B w0 (bk_ g_2 u_2 5 :: bk_ p15 #[.int .u8 (((s.getD 0 0).toNat : Int)), sl_ g_2 2 c_2, .slice none 0 0, i6_ 0, i6_ ((((0 ||| (1 * 2 ^ (vI (s.getD 1 0)))) ||| (1 * 2 ^ (vI (s.getD 2 0))) : Nat) : Int))] 148 :: hs)) ?_ ?_
         ·
          refine Wk.regionS (S := Own B w0 (bk_ g_2 u_2 5 :: hs)) [(0, true), (4, true), (5, true), (6, true), (7, true), (1, false), (2, true), (3, false), (8, true), (9, false), (10, true), (11, false)] Base.mixed (fun _ h => h.drawn) (by kernel_rfl) ?_
          refine Ld.run 2 rfl (pT 2 [0] rfl rfl) ?_
          refine Ld.take (v := .int .u8 (((s.getD 2 0).toNat : Int))) rfl rfl rfl rfl rfl (OpQ.cast (by rw [show (0 : Int).toNat = 0 from rfl, getD_drop]) (OpQ.indexStr rfl Tryd.runUnderlying9 rfl rfl (by omega) (by omega))) (pT 2 [0] rfl rfl) ?_
          refine Ld.take (v := .int .u8 ((vI (s.getD 2 0) : Int))) rfl rfl rfl rfl rfl (OpQ.cast (by rw [vI_wrap hv2]) (OpQ.subU8 rfl rfl rfl)) (pT 2 [0] rfl rfl) ?_
          refine Ld.take (v := i6_ (((1 * 2 ^ (vI (s.getD 2 0)) : Nat) : Int))) rfl rfl rfl rfl rfl (OpQ.shl (a := 1) (b := vI (s.getD 2 0)) rfl rfl rfl (by omega) (by omega)) (pT 2 [0] rfl rfl) ?_
          refine Ld.loud rfl ?_
          refine Ll.op (v := pt_ p15) rfl rfl rfl (OpQ.nilCheck rfl rfl) ?_
          refine Ll.nil (Ld.joint (pT 2 [0] rfl rfl) ?_)
          refine Ld.take rfl rfl rfl rfl rfl (OpQ.fieldAddr rfl Tryd.runUnderlying148 rfl Tryd.sizeOf3 rfl rfl) (pT 2 [0] rfl rfl) ?_
          refine Ld.loud rfl ?_
          refine Ll.op rfl rfl rfl (OpQ.loadOwn 1 rfl Tryd.isAgg3 rfl rfl rfl) ?_
          refine Ll.nil (Ld.joint (pT 2 [0] rfl rfl) ?_)
          refine Ld.take (v := i6_ ((((0 ||| (1 * 2 ^ (vI (s.getD 1 0)))) ||| (1 * 2 ^ (vI (s.getD 2 0))) : Nat) : Int))) rfl rfl rfl rfl rfl (OpQ.or (a := 0 ||| (1 * 2 ^ (vI (s.getD 1 0)))) (b := 1 * 2 ^ (vI (s.getD 2 0))) rfl rfl rfl (by repeat' (first | omega | apply or_lt62 | apply or_lt16)) (by repeat' (first | omega | apply or_lt62 | apply or_lt16))) (pT 2 [0] rfl rfl) ?_
          refine Ld.loud rfl ?_
          refine Ll.op (v := pt_ p15) rfl rfl rfl (OpQ.nilCheck rfl rfl) ?_
          refine Ll.nil (Ld.joint (pT 2 [0] rfl rfl) ?_)
          refine Ld.take rfl rfl rfl rfl rfl (OpQ.fieldAddr rfl Tryd.runUnderlying148 rfl Tryd.sizeOf3 rfl rfl) (pT 2 [0] rfl rfl) ?_
          refine Ld.loud rfl ?_
          refine Ll.store1 (v := i6_ ((((0 ||| (1 * 2 ^ (vI (s.getD 1 0)))) ||| (1 * 2 ^ (vI (s.getD 2 0))) : Nat) : Int))) (hs' := (_ :: bk_ p15 #[.int .u8 (((s.getD 0 0).toNat : Int)), sl_ g_2 2 c_2, .slice none 0 0, i6_ 0, i6_ ((((0 ||| (1 * 2 ^ (vI (s.getD 1 0)))) ||| (1 * 2 ^ (vI (s.getD 2 0))) : Nat) : Int))] 148 :: hs)) 1 rfl rfl rfl rfl rfl rfl Tryd.sizeOf3 rfl (by simp) rfl ?_
          refine Ll.nil (Ld.joint (pT 2 [0] rfl rfl) ?_)
          refine Ld.nil ?_
          refine Kt.joined (()) trivial (Sub.sel [0, 4, 6, 40, 41] rfl) (fun _ h => h.sub (List.Sublist.cons_cons _ (List.Sublist.cons_cons _ (List.Sublist.refl _))))
         rintro _ hj
         refine Kt.sel [0, 4, 6, 40, 41] [_, _, _, _, _] rfl ?_
         refine Wk.regionQ ?_
         refine Lq.run 1 rfl ?_
         refine Lq.op (v := str (s.drop 3)) rfl rfl rfl (OpQ.cast (by rw [List.drop_drop]; rfl) (OpQ.sliceStrFrom rfl Tryd.underlying9 rfl rfl (by omega) (by omega))) ?_
         refine Lq.run 1 rfl ?_
         refine Lq.nil ?_
         refine Kt.sel [0, 4, 6, 40, 41] [_, _, _, _, _] rfl ?_
         refine Wk.regionQ ?_
         refine Lq.op rfl rfl rfl (OpQ.add rfl rfl rfl (by decide) (by decide)) ?_
         refine Lq.run 1 rfl ?_
         refine Lq.nil ?_
         refine Kt.round (e' := [(0, str (s.drop 3)), (4, pt_ p15), (6, i6_ 0), (40, i6_ 2), (41, i6_ 2)]) (Sub.sel [0, 4, 6, 40, 41] rfl) ?_
         refine Wk.seq ?_
         refine Wk.regionQ ?_
         refine Lq.run 1 rfl ?_
         refine Lq.nil ?_
         refine Kt.sel [0, 4, 6, 40, 41, 42] [_, _, _, _, _, _] rfl ?_
         refine Wk.seq ?_
         refine Wk.condF rfl ?_
         refine Wk.exit rfl ?_
         refine Kt.sel [0, 4, 6] [_, _, _] rfl ?_
         refine Wk.seq ?_
         refine Wk.region ?_
         refine Ll.run 2 rfl ?_
         refine Ll.op (v := pt_ p15) rfl rfl rfl (OpQ.nilCheck rfl rfl) ?_
         refine Ll.op rfl rfl rfl (OpQ.fieldAddr rfl Tryd.runUnderlying148 rfl Tryd.sizeOf3 rfl rfl) ?_
         refine Ll.op rfl rfl rfl (OpQ.loadOwn 1 rfl Tryd.isAgg3 rfl rfl rfl) ?_
         refine Ll.op (v := pt_ p15) rfl rfl rfl (OpQ.nilCheck rfl rfl) ?_
         refine Ll.op rfl rfl rfl (OpQ.fieldAddr rfl Tryd.runUnderlying148 rfl Tryd.sizeOf3 rfl rfl) ?_
         refine Ll.store1 (v := i6_ ((((0 ||| (1 * 2 ^ (vI (s.getD 1 0)))) ||| (1 * 2 ^ (vI (s.getD 2 0))) : Nat) : Int))) (hs' := (_ :: bk_ p15 #[.int .u8 (((s.getD 0 0).toNat : Int)), sl_ g_2 2 c_2, .slice none 0 0, i6_ ((((0 ||| (1 * 2 ^ (vI (s.getD 1 0)))) ||| (1 * 2 ^ (vI (s.getD 2 0))) : Nat) : Int)), i6_ ((((0 ||| (1 * 2 ^ (vI (s.getD 1 0)))) ||| (1 * 2 ^ (vI (s.getD 2 0))) : Nat) : Int))] 148 :: hs)) 1 rfl rfl rfl rfl rfl rfl Tryd.sizeOf3 rfl (by simp) rfl ?_
         refine Ll.nil ?_
         refine Kt.sel [0, 4, 6] [_, _, _] rfl ?_
         refine Wk.seq ?_
         refine Wk.seq ?_
         refine Wk.regionQ ?_
         refine Lq.run 2 rfl ?_
         refine Lq.nil ?_
         refine Kt.sel [0, 4, 6, 85] [_, _, _, _] rfl ?_
         refine Wk.condF rfl ?_
         refine Wk.skip ?_
         refine Kt.sel [0, 4, 6] [_, _, _] rfl ?_
         refine Wk.seq ?_
         refine Wk.seq ?_
         refine Wk.regionQ ?_
         refine Lq.run 2 rfl ?_
         refine Lq.nil ?_
         refine Kt.sel [0, 4, 89, 90] [_, _, _, _] rfl ?_
         refine Wk.block ?_
         refine Wk.unroll 4 ?_
         refine Wk.seq ?_
         refine Wk.regionQ ?_
         refine Lq.run 1 rfl ?_
         refine Lq.nil ?_
         refine Kt.sel [0, 4, 89, 90, 91] [_, _, _, _, _] rfl ?_
         refine Wk.seq ?_
         refine Wk.condF rfl ?_
         refine Wk.exit rfl ?_
         refine Kt.sel [0, 4] [_, _] rfl ?_
         refine Wk.seq ?_
         refine Wk.seq ?_
         refine Wk.regionQ ?_
         refine Lq.run 1 rfl ?_
         refine Lq.op (v := bo_ (decide (quI (((s.getD 0 0)).toNat : Int)))) rfl rfl rfl (OpQ.call rfl Tryd.call152 rfl Own.stable (fun w1 hw1 => isQuant_ok _ _ ((s.getD 0 0)) _ _ _ _ w1 (hw1.has 1 _ _ rfl).2)) ?_
         refine Lq.nil ?_
         refine Kt.sel [0, 4, 135] [_, _, _] rfl ?_
         refine Wk.cond (b := decide (quI (((s.getD 0 0)).toNat : Int))) rfl (fun h135_2 => ?_) (fun h135_2 => ?_)
         ·
          replace h135_2 := of_decide_eq_true h135_2
          exact absurd h135_2 (by unfold quI; omega)
         ·
          replace h135_2 := of_decide_eq_false h135_2
          refine Wk.skip ?_
          refine Kt.sel [0, 4] [_, _] rfl ?_
          refine Wk.seq ?_
          refine Wk.regionQ ?_
          refine Lq.run 4 rfl ?_
          refine Lq.nil ?_
          refine Kt.sel [2, 3] [_, _] rfl ?_
          refine Wk.ret (Kt.end2 rfl rfl rfl fun w' hw => ?_)
          have hR : parse s = some ((.leaf (s.getD 0 0) [s.getD 1 0, s.getD 2 0]), s.drop 3) := (pp2 hs0 (two_of (by decide) (by decide) (by assumption))).1 ⟨by simp_all, by simp_all⟩ ⟨by simp_all, by simp_all⟩
          rw [hR]
          have e1 : ((0 ||| (1 * 2 ^ (vI (s.getD 1 0)))) ||| (1 * 2 ^ (vI (s.getD 2 0))) : Nat) = frB (.leaf (s.getD 0 0) [s.getD 1 0, s.getD 2 0]) := by simp [frB, vBits, vBit]
          have e2 : ((0 ||| (1 * 2 ^ (vI (s.getD 1 0)))) ||| (1 * 2 ^ (vI (s.getD 2 0))) : Nat) = allB (.leaf (s.getD 0 0) [s.getD 1 0, s.getD 2 0]) := by simp [allB, vBits, vBit]
          have hW : Own B w0 (([bk_ g_2 u_2 5, bk_ p15 #[.int .u8 (((s.getD 0 0).toNat : Int)), sl_ g_2 2 c_2, .slice none 0 0, i6_ ((frB (.leaf (s.getD 0 0) [s.getD 1 0, s.getD 2 0]) : Int)), i6_ ((allB (.leaf (s.getD 0 0) [s.getD 1 0, s.getD 2 0]) : Int))] 148]) ++ hs) w' := by
           rw [← e1, ← e2]
           first | exact hw | simpa only [List.append_assoc, List.cons_append, List.nil_append] using hw
          exact ⟨p15, [bk_ g_2 u_2 5, bk_ p15 #[.int .u8 (((s.getD 0 0).toNat : Int)), sl_ g_2 2 c_2, .slice none 0 0, i6_ ((frB (.leaf (s.getD 0 0) [s.getD 1 0, s.getD 2 0]) : Int)), i6_ ((allB (.leaf (s.getD 0 0) [s.getD 1 0, s.getD 2 0]) : Int))] 148], rfl, ⟨_, _, mem_at (l := [bk_ g_2 u_2 5, bk_ p15 #[.int .u8 (((s.getD 0 0).toNat : Int)), sl_ g_2 2 c_2, .slice none 0 0, i6_ ((frB (.leaf (s.getD 0 0) [s.getD 1 0, s.getD 2 0]) : Int)), i6_ ((allB (.leaf (s.getD 0 0) [s.getD 1 0, s.getD 2 0]) : Int))] 148]) (i := 1) rfl, (RowB.at (mem_at (l := [bk_ g_2 u_2 5, bk_ p15 #[.int .u8 (((s.getD 0 0).toNat : Int)), sl_ g_2 2 c_2, .slice none 0 0, i6_ ((frB (.leaf (s.getD 0 0) [s.getD 1 0, s.getD 2 0]) : Int)), i6_ ((allB (.leaf (s.getD 0 0) [s.getD 1 0, s.getD 2 0]) : Int))] 148]) (i := 0) rfl) htg_2 rfl hlg_2), RowB.nil⟩, hW⟩
       ·
        refine Lq.pass rfl rfl rfl ?_
        refine Lq.pass rfl rfl rfl ?_
        refine Lq.pass rfl rfl rfl ?_
        refine Lq.pass rfl rfl rfl ?_
        refine Lq.run 1 rfl ?_
        refine Lq.nil ?_
        refine Kt.sel [0, 4, 6, 40, 41, 50] [_, _, _, _, _, _] rfl ?_
        refine Wk.condT rfl ?_
        refine Wk.seq ?_
        refine Wk.regionQ ?_
        refine Lq.run 3 rfl ?_
        refine Lq.nil ?_
        refine Kt.sel [2, 3] [_, _] rfl ?_
        refine Wk.ret (Kt.end2 rfl rfl rfl fun w' hw => ?_)
        have hR : parse s = none := (pp2 hs0 (two_of (by decide) (by decide) (by assumption))).2 (by first | exact .inl (fun e => by first | exact absurd e.2 (by rw [show isV (s.getD 1 0) = false by assumption]; decide) | exact e.1 (by simpa using (show (s.drop 1 == []) = true by assumption))) | exact .inr (fun e => by first | exact absurd e.2 (by rw [show isV (s.getD 2 0) = false by assumption]; decide) | exact e.1 (by simpa using (show (s.drop 2 == []) = true by assumption))))
        rw [hR]
        exact ⟨_, rfl, Own.drop (f := [_, _]) hw⟩
     ·
      refine Lq.pass rfl rfl rfl ?_
      refine Lq.pass rfl rfl rfl ?_
      refine Lq.pass rfl rfl rfl ?_
      refine Lq.pass rfl rfl rfl ?_
      refine Lq.run 1 rfl ?_
      refine Lq.nil ?_
      refine Kt.sel [0, 4, 6, 40, 41, 50] [_, _, _, _, _, _] rfl ?_
      refine Wk.condT rfl ?_
      refine Wk.seq ?_
      refine Wk.regionQ ?_
      refine Lq.run 3 rfl ?_
      refine Lq.nil ?_
      refine Kt.sel [2, 3] [_, _] rfl ?_
      refine Wk.ret (Kt.end2 rfl rfl rfl fun w' hw => ?_)
      have hR : parse s = none := (pp2 hs0 (two_of (by decide) (by decide) (by assumption))).2 (by first | exact .inl (fun e => by first | exact absurd e.2 (by rw [show isV (s.getD 1 0) = false by assumption]; decide) | exact e.1 (by simpa using (show (s.drop 1 == []) = true by assumption))) | exact .inr (fun e => by first | exact absurd e.2 (by rw [show isV (s.getD 2 0) = false by assumption]; decide) | exact e.1 (by simpa using (show (s.drop 2 == []) = true by assumption))))
      rw [hR]
      exact ⟨_, rfl, Own.drop (f := [_]) hw⟩
    ·
     replace h24_1 := of_decide_eq_false h24_1
     refine Wk.seq ?_
     refine Wk.regionQ ?_
     refine Lq.run 2 rfl ?_
     refine Lq.nil ?_
     refine Kt.sel [0, 4, 5, 17, 27] [_, _, _, _, _] rfl ?_
     refine Wk.cond (b := decide ((((s.getD 0 0).toNat : Int)) = (33 : Int))) rfl (fun h27 => ?_) (fun h27 => ?_)
     ·
      replace h27 := of_decide_eq_true h27
      refine Wk.regionQ ?_
      refine Lq.run 1 rfl ?_
      refine Lq.nil ?_
      refine Kt.sel [0, 4, 5, 6] [_, _, _, _] rfl ?_
      refine Wk.seq ?_
      refine Wk.regionQ ?_
      refine Lq.run 1 rfl ?_
      refine Lq.op (v := str (s.drop 1)) rfl rfl rfl (OpQ.cast (by rfl) (OpQ.sliceStrFrom rfl Tryd.underlying9 rfl rfl (by omega) (by omega))) ?_
      refine Lq.run 1 rfl ?_
      refine Lq.nil ?_
      refine Kt.sel [0, 4, 5, 6] [_, _, _, _] rfl ?_
      refine Wk.seq ?_
      refine Wk.seq ?_
      refine Wk.regionQ ?_
      refine Lq.run 2 rfl ?_
      refine Lq.nil ?_
      refine Kt.sel [0, 4, 6, 40, 41] [_, _, _, _, _] rfl ?_
      refine Wk.block ?_
      refine Wk.unroll 4 ?_
      refine Wk.seq ?_
      refine Wk.regionQ ?_
      refine Lq.run 1 rfl ?_
      refine Lq.nil ?_
      refine Kt.sel [0, 4, 6, 40, 41, 42] [_, _, _, _, _, _] rfl ?_
      refine Wk.seq ?_
      refine Wk.condF rfl ?_
      refine Wk.exit rfl ?_
      refine Kt.sel [0, 4, 6] [_, _, _] rfl ?_
      refine Wk.seq ?_
      refine Wk.region ?_
      refine Ll.run 2 rfl ?_
      refine Ll.op (v := pt_ p15) rfl rfl rfl (OpQ.nilCheck rfl rfl) ?_
      refine Ll.op rfl rfl rfl (OpQ.fieldAddr rfl Tryd.runUnderlying148 rfl Tryd.sizeOf3 rfl rfl) ?_
      refine Ll.op rfl rfl rfl (OpQ.loadOwn 0 rfl Tryd.isAgg3 rfl rfl rfl) ?_
      refine Ll.op (v := pt_ p15) rfl rfl rfl (OpQ.nilCheck rfl rfl) ?_
      refine Ll.op rfl rfl rfl (OpQ.fieldAddr rfl Tryd.runUnderlying148 rfl Tryd.sizeOf3 rfl rfl) ?_
      refine Ll.store1 (v := i6_ 0) (hs' := (bk_ p15 #[.int .u8 (((s.getD 0 0).toNat : Int)), .slice none 0 0, .slice none 0 0, i6_ 0, i6_ 0] 148 :: hs)) 0 rfl rfl rfl rfl rfl rfl Tryd.sizeOf3 rfl (by simp) rfl ?_
      refine Ll.nil ?_
      refine Kt.sel [0, 4, 6] [_, _, _] rfl ?_
      refine Wk.seq ?_
      refine Wk.seq ?_
      refine Wk.regionQ ?_
      refine Lq.run 2 rfl ?_
      refine Lq.nil ?_
      refine Kt.sel [0, 4, 6, 85] [_, _, _, _] rfl ?_
      refine Wk.condT rfl ?_
      refine Wk.region ?_
      refine Ll.run 1 rfl ?_
      refine Ll.op (v := pt_ p15) rfl rfl rfl (OpQ.nilCheck rfl rfl) ?_
      refine Ll.op rfl rfl rfl (OpQ.fieldAddr rfl Tryd.runUnderlying148 rfl Tryd.sizeOf3 rfl rfl) ?_
      refine Ll.store1 (v := i6_ 0) (hs' := (bk_ p15 #[.int .u8 (((s.getD 0 0).toNat : Int)), .slice none 0 0, .slice none 0 0, i6_ 0, i6_ 0] 148 :: hs)) 0 rfl rfl rfl rfl rfl rfl Tryd.sizeOf3 rfl (by simp) rfl ?_
      refine Ll.nil ?_
      refine Kt.sel [0, 4, 6] [_, _, _] rfl ?_
      refine Wk.seq ?_
      refine Wk.seq ?_
      refine Wk.regionQ ?_
      refine Lq.run 2 rfl ?_
      refine Lq.nil ?_
      refine Kt.sel [0, 4, 89, 90] [_, _, _, _] rfl ?_
      refine Wk.block ?_
      refine Wk.unroll 4 ?_
      refine Wk.seq ?_
      refine Wk.regionQ ?_
      refine Lq.run 1 rfl ?_
      refine Lq.nil ?_
      refine Kt.sel [0, 4, 89, 90, 91] [_, _, _, _, _] rfl ?_
      refine Wk.seq ?_
      refine Wk.condT rfl ?_
      refine Wk.skip ?_
      refine Kt.sel [0, 4, 89, 90] [_, _, _, _] rfl ?_
      refine Wk.seq ?_
      refine Wk.block ?_
      refine Wk.seq ?_
      rcases hpp1 : parse (s.drop 1) with _ | ⟨fm1, r1⟩
      ·
       refine Wk.region ?_
       refine Ll.run 1 rfl ?_
       refine Ll.callGet (σ := List UInt8) (ok := fun _ => True) (v := fun x => .tuple #[.pointer none, str x]) (hs' := fun _ => (bk_ p15 #[.int .u8 (((s.getD 0 0).toNat : Int)), .slice none 0 0, .slice none 0 0, i6_ 0, i6_ 0] 148 :: hs)) (xs := [.tmp 93]) (vs := [str (s.drop 1)]) rfl rfl rfl rfl Tryd.call150 rfl (fun w1 hw1 => (ih (s.drop 1) B w0 (([bk_ p15 #[.int .u8 (((s.getD 0 0).toNat : Int)), .slice none 0 0, .slice none 0 0, i6_ 0, i6_ 0] 148] : List (Nat × Obj)) ++ hs) w1 (by simp only [List.length_drop] at *; omega) hw1).mono fun en w' hR => by rw [hpp1] at hR; obtain ⟨x, h1, h2⟩ := hR; exact ⟨x, h1, trivial, h2⟩) fun x94 _ => ?_
       show Ll _ _ (Own _ _ (_ :: hs)) _ _ ((94, .tuple #[.pointer none, str x94]) :: _) _ _ _
       refine Ll.run 1 rfl ?_
       refine Ll.op (v := .pointer none) rfl rfl rfl (OpQ.extract rfl rfl rfl) ?_
       refine Ll.op (v := str x94) rfl rfl rfl (OpQ.extract rfl rfl rfl) ?_
       refine Ll.run 2 rfl ?_
       refine Ll.nil ?_
       refine Kt.sel [4, 7, 8, 89, 90] [_, _, _, _, _] rfl ?_
       refine Wk.seq ?_
       refine Wk.seq ?_
       refine Wk.regionQ ?_
       refine Lq.run 1 rfl ?_
       refine Lq.op (v := bo_ true) rfl rfl rfl (OpQ.eqNilP (p := none) rfl Tryd.underlying111 rfl rfl) ?_
       refine Lq.nil ?_
       refine Kt.sel [4, 7, 8, 89, 90, 98] [_, _, _, _, _, _] rfl ?_
       refine Wk.condT rfl ?_
       refine Wk.seq ?_
       refine Wk.regionQ ?_
       refine Lq.run 3 rfl ?_
       refine Lq.nil ?_
       refine Kt.sel [2, 3] [_, _] rfl ?_
       refine Wk.ret (Kt.end2 rfl rfl rfl fun w' hw => ?_)
       have hR : parse s = none := (pp3 hs0 (u8_of (n := 33) (by decide) (by assumption))).2 (by assumption)
       rw [hR]
       exact ⟨_, rfl, Own.drop (f := [_]) hw⟩
      ·
       have hrl1 := parse_len hpp1
       refine Wk.region ?_
       refine Ll.run 1 rfl ?_
       refine Ll.callBack (ok := fun ((q, new) : Nat × List (Nat × Obj)) => TreeB 148 new fm1 q) (v := fun ((q, new) : Nat × List (Nat × Obj)) => .tuple #[ptrV q, str r1]) (new := fun ((q, new) : Nat × List (Nat × Obj)) => new) (hs := hs) (xs := [.tmp 93]) (vs := [str (s.drop 1)]) ([bk_ p15 #[.int .u8 (((s.getD 0 0).toNat : Int)), .slice none 0 0, .slice none 0 0, i6_ 0, i6_ 0] 148] : List (Nat × Obj)) rfl rfl rfl rfl Tryd.call150 rfl (fun w1 hw1 => (ih (s.drop 1) B w0 (([bk_ p15 #[.int .u8 (((s.getD 0 0).toNat : Int)), .slice none 0 0, .slice none 0 0, i6_ 0, i6_ 0] 148] : List (Nat × Obj)) ++ hs) w1 (by simp only [List.length_drop] at *; omega) hw1).mono fun en w' hR => by rw [hpp1] at hR; obtain ⟨q, new, h1, h2, h3⟩ := hR; exact ⟨(q, new), h1, h2, h3⟩) fun ⟨q94, new94⟩ hTq94 => ?_
       dsimp only at hTq94
       have hfq94 := frB_lt (parse_wf _ (Nat.le_refl _) hpp1)
       have haq94 := allB_lt (parse_wf _ (Nat.le_refl _) hpp1)
       show Ll _ _ (Own _ _ (_ :: (new94 ++ hs))) _ _ ((94, .tuple #[ptrV q94, str r1]) :: _) _ _ _
       refine Ll.run 1 rfl ?_
       refine Ll.op (v := ptrV q94) rfl rfl rfl (OpQ.extract rfl rfl rfl) ?_
       refine Ll.op (v := str r1) rfl rfl rfl (OpQ.extract rfl rfl rfl) ?_
       refine Ll.run 2 rfl ?_
       refine Ll.nil ?_
       refine Kt.sel [4, 7, 8, 89, 90] [_, _, _, _, _] rfl ?_
       refine Wk.seq ?_
       refine Wk.seq ?_
       refine Wk.regionQ ?_
       refine Lq.run 1 rfl ?_
       refine Lq.op (v := bo_ false) rfl rfl rfl (OpQ.eqNilP (p := some ⟨q94, 0, none⟩) rfl Tryd.underlying111 rfl rfl) ?_
       refine Lq.nil ?_
       refine Kt.sel [4, 7, 8, 89, 90, 98] [_, _, _, _, _, _] rfl ?_
       refine Wk.condF rfl ?_
       refine Wk.skip ?_
       refine Kt.sel [4, 7, 8, 89, 90] [_, _, _, _, _] rfl ?_
       refine Wk.seq ?_
       refine Wk.region ?_
       refine Ll.run 2 rfl ?_
       refine Ll.op (v := pt_ p15) rfl rfl rfl (OpQ.nilCheck rfl rfl) ?_
       refine Ll.op rfl rfl rfl (OpQ.fieldAddr rfl Tryd.runUnderlying148 rfl Tryd.sizeOf146 rfl rfl) ?_
       refine Ll.op rfl rfl rfl (OpQ.loadOwn 0 rfl Tryd.isAgg146 rfl rfl rfl) ?_
       refine Ll.run 1 rfl ?_
       refine Ll.slice (xs := [.tmp 105]) (vs := [ptrV q94]) Base.elem146 rfl rfl rfl rfl rfl rfl (by decide) rfl fun p106 hp106 => ?_
       refine Ll.appendN1 (V := ptrV q94) Base.elem146 0 rfl rfl rfl rfl rfl rfl rfl fun g107 c107 u107 hg107 hcg107 hlg107 htg107 => ?_
       show Ll _ _ (Own _ _ (_ :: _ :: _ :: (new94 ++ hs))) _ _ ((107, sl_ g107 1 c107) :: _) _ _ _
       refine Ll.op (v := pt_ p15) rfl rfl rfl (OpQ.nilCheck rfl rfl) ?_
       refine Ll.op rfl rfl rfl (OpQ.fieldAddr rfl Tryd.runUnderlying148 rfl Tryd.sizeOf146 rfl rfl) ?_
       refine Ll.store1 (v := sl_ g107 1 c107) (hs' := (_ :: _ :: bk_ p15 #[.int .u8 (((s.getD 0 0).toNat : Int)), .slice none 0 0, sl_ g107 1 c107, i6_ 0, i6_ 0] 148 :: (new94 ++ hs))) 2 rfl rfl rfl rfl rfl rfl Tryd.sizeOf146 rfl (by simp) rfl ?_
       refine Ll.nil ?_
       refine Kt.sel [4, 7, 8, 89, 90] [_, _, _, _, _] rfl ?_
       refine Wk.seq ?_
       refine Wk.join (σ := Unit) (fun _ => True) (fun _ => [(4, pt_ p15), (7, ptrV q94), (8, str r1), (89, i6_ 1), (90, i6_ 0)]) (fun _ => Own B w0 (bk_ g107 u107 111 :: bk_ p106 #[ptrV q94] 111 :: bk_ p15 #[.int .u8 (((s.getD 0 0).toNat : Int)), .slice none 0 0, sl_ g107 1 c107, i6_ (((0 ||| (frB fm1) : Nat) : Int)), i6_ 0] 148 :: (new94 ++ hs))) ?_ ?_
       ·
        refine Wk.regionU (S := Own B w0 (bk_ g107 u107 111 :: bk_ p106 #[ptrV q94] 111 :: (new94 ++ hs))) (.take 0 (.take 4 (.two 1 (.take 2 (.two 3 (.one 5 (.take 6 (.one 7 (.take 8 (.one 9 (.take 10 (.one 11 .done))))))) 5 (.take 6 (.two 3 (.one 7 (.take 8 (.one 9 (.take 10 (.one 11 .done))))) 7 (.one 3 (.take 8 (.one 9 (.take 10 (.one 11 .done))))))))) 5 (.take 6 (.two 1 (.take 2 (.two 3 (.one 7 (.take 8 (.one 9 (.take 10 (.one 11 .done))))) 7 (.one 3 (.take 8 (.one 9 (.take 10 (.one 11 .done))))))) 7 (.one 1 (.take 2 (.one 3 (.take 8 (.one 9 (.take 10 (.one 11 .done)))))))))))) Base.mixed (fun _ h => h.drawn) (by kernel_rfl) ?_
        refine Lu.run 2 rfl (pT 3 [0, 1] rfl rfl) ?_
        refine Lu.two rfl rfl ?_ ?_
        ·
         refine Ll.op (v := pt_ p15) rfl rfl rfl (OpQ.nilCheck rfl rfl) ?_
         refine Ll.nil (Lu.joint (pT 3 [0, 1] rfl rfl) ?_)
         refine Lu.take rfl rfl rfl rfl rfl (OpQ.fieldAddr rfl Tryd.runUnderlying148 rfl Tryd.sizeOf3 rfl rfl) (pT 3 [0, 1] rfl rfl) ?_
         refine Lu.two rfl rfl ?_ ?_
         ·
          refine Ll.op rfl rfl rfl (OpQ.loadOwn 2 rfl Tryd.isAgg3 rfl rfl rfl) ?_
          refine Ll.nil (Lu.joint (pT 3 [0, 1] rfl rfl) ?_)
          refine Lu.loud rfl ?_
          refine Ll.op (v := ptrV q94) rfl rfl rfl (OpQ.nilCheck rfl rfl) ?_
          refine Ll.nil (Lu.joint (pT 3 [0, 1] rfl rfl) ?_)
          refine Lu.take rfl rfl rfl rfl rfl (OpQ.fieldAddr rfl Tryd.runUnderlying148 rfl Tryd.sizeOf3 rfl rfl) (pT 3 [0, 1] rfl rfl) ?_
          refine Lu.loud rfl ?_
          refine Ll.op (v := i6_ ((frB fm1 : Int))) rfl rfl rfl (OpQ.load1 rfl Tryd.isAgg3 rfl (fun w1 hw1 => tree_free (TreeB.tree (Own.dropR (Own.drop (f := [_, _, _]) hw1)) hTq94))) ?_
          refine Ll.nil (Lu.joint (pT 3 [0, 1] rfl rfl) ?_)
          refine Lu.take (v := i6_ (((0 ||| (frB fm1) : Nat) : Int))) rfl rfl rfl rfl rfl (OpQ.or (a := 0) (b := frB fm1) rfl rfl rfl (by repeat' (first | omega | apply or_lt62 | apply or_lt16)) (by repeat' (first | omega | apply or_lt62 | apply or_lt16))) (pT 3 [0, 1] rfl rfl) ?_
          refine Lu.loud rfl ?_
          refine Ll.op (v := pt_ p15) rfl rfl rfl (OpQ.nilCheck rfl rfl) ?_
          refine Ll.nil (Lu.joint (pT 3 [0, 1] rfl rfl) ?_)
          refine Lu.take rfl rfl rfl rfl rfl (OpQ.fieldAddr rfl Tryd.runUnderlying148 rfl Tryd.sizeOf3 rfl rfl) (pT 3 [0, 1] rfl rfl) ?_
          refine Lu.loud rfl ?_
          refine Ll.store1 (v := i6_ (((0 ||| (frB fm1) : Nat) : Int))) (hs' := (_ :: _ :: bk_ p15 #[.int .u8 (((s.getD 0 0).toNat : Int)), .slice none 0 0, sl_ g107 1 c107, i6_ (((0 ||| (frB fm1) : Nat) : Int)), i6_ 0] 148 :: (new94 ++ hs))) 2 rfl rfl rfl rfl rfl rfl Tryd.sizeOf3 rfl (by simp) rfl ?_
          refine Ll.nil (Lu.joint (pT 3 [0, 1] rfl rfl) ?_)
          refine Lu.nil ?_
          refine Kt.joined (()) trivial (Sub.sel [4, 7, 8, 89, 90] rfl) (fun _ h => h.sub (List.Sublist.cons_cons _ (List.Sublist.cons_cons _ (List.Sublist.cons_cons _ (List.Sublist.refl _)))))
         ·
          refine Ll.op (v := ptrV q94) rfl rfl rfl (OpQ.nilCheck rfl rfl) ?_
          refine Ll.nil (Lu.joint (pT 3 [0, 1] rfl rfl) ?_)
          refine Lu.take rfl rfl rfl rfl rfl (OpQ.fieldAddr rfl Tryd.runUnderlying148 rfl Tryd.sizeOf3 rfl rfl) (pT 3 [0, 1] rfl rfl) ?_
          refine Lu.two rfl rfl ?_ ?_
          ·
           refine Ll.op rfl rfl rfl (OpQ.loadOwn 2 rfl Tryd.isAgg3 rfl rfl rfl) ?_
           refine Ll.nil (Lu.joint (pT 3 [0, 1] rfl rfl) ?_)
           refine Lu.loud rfl ?_
           refine Ll.op (v := i6_ ((frB fm1 : Int))) rfl rfl rfl (OpQ.load1 rfl Tryd.isAgg3 rfl (fun w1 hw1 => tree_free (TreeB.tree (Own.dropR (Own.drop (f := [_, _, _]) hw1)) hTq94))) ?_
           refine Ll.nil (Lu.joint (pT 3 [0, 1] rfl rfl) ?_)
           refine Lu.take (v := i6_ (((0 ||| (frB fm1) : Nat) : Int))) rfl rfl rfl rfl rfl (OpQ.or (a := 0) (b := frB fm1) rfl rfl rfl (by repeat' (first | omega | apply or_lt62 | apply or_lt16)) (by repeat' (first | omega | apply or_lt62 | apply or_lt16))) (pT 3 [0, 1] rfl rfl) ?_
           refine Lu.loud rfl ?_
           refine Ll.op (v := pt_ p15) rfl rfl rfl (OpQ.nilCheck rfl rfl) ?_
           refine Ll.nil (Lu.joint (pT 3 [0, 1] rfl rfl) ?_)
           refine Lu.take rfl rfl rfl rfl rfl (OpQ.fieldAddr rfl Tryd.runUnderlying148 rfl Tryd.sizeOf3 rfl rfl) (pT 3 [0, 1] rfl rfl) ?_
           refine Lu.loud rfl ?_
           refine Ll.store1 (v := i6_ (((0 ||| (frB fm1) : Nat) : Int))) (hs' := (_ :: _ :: bk_ p15 #[.int .u8 (((s.getD 0 0).toNat : Int)), .slice none 0 0, sl_ g107 1 c107, i6_ (((0 ||| (frB fm1) : Nat) : Int)), i6_ 0] 148 :: (new94 ++ hs))) 2 rfl rfl rfl rfl rfl rfl Tryd.sizeOf3 rfl (by simp) rfl ?_
           refine Ll.nil (Lu.joint (pT 3 [0, 1] rfl rfl) ?_)
           refine Lu.nil ?_
           refine Kt.joined (()) trivial (Sub.sel [4, 7, 8, 89, 90] rfl) (fun _ h => h.sub (List.Sublist.cons_cons _ (List.Sublist.cons_cons _ (List.Sublist.cons_cons _ (List.Sublist.refl _)))))
          ·
           refine Ll.op (v := i6_ ((frB fm1 : Int))) rfl rfl rfl (OpQ.load1 rfl Tryd.isAgg3 rfl (fun w1 hw1 => tree_free (TreeB.tree (Own.dropR (Own.drop (f := [_, _, _]) hw1)) hTq94))) ?_
           refine Ll.nil (Lu.joint (pT 3 [0, 1] rfl rfl) ?_)
           refine Lu.loud rfl ?_
           refine Ll.op rfl rfl rfl (OpQ.loadOwn 2 rfl Tryd.isAgg3 rfl rfl rfl) ?_
           refine Ll.nil (Lu.joint (pT 3 [0, 1] rfl rfl) ?_)
           refine Lu.take (v := i6_ (((0 ||| (frB fm1) : Nat) : Int))) rfl rfl rfl rfl rfl (OpQ.or (a := 0) (b := frB fm1) rfl rfl rfl (by repeat' (first | omega | apply or_lt62 | apply or_lt16)) (by repeat' (first | omega | apply or_lt62 | apply or_lt16))) (pT 3 [0, 1] rfl rfl) ?_
           refine Lu.loud rfl ?_
           refine Ll.op (v := pt_ p15) rfl rfl rfl (OpQ.nilCheck rfl rfl) ?_
           refine Ll.nil (Lu.joint (pT 3 [0, 1] rfl rfl) ?_)
           refine Lu.take rfl rfl rfl rfl rfl (OpQ.fieldAddr rfl Tryd.runUnderlying148 rfl Tryd.sizeOf3 rfl rfl) (pT 3 [0, 1] rfl rfl) ?_
           refine Lu.loud rfl ?_
           refine Ll.store1 (v := i6_ (((0 ||| (frB fm1) : Nat) : Int))) (hs' := (_ :: _ :: bk_ p15 #[.int .u8 (((s.getD 0 0).toNat : Int)), .slice none 0 0, sl_ g107 1 c107, i6_ (((0 ||| (frB fm1) : Nat) : Int)), i6_ 0] 148 :: (new94 ++ hs))) 2 rfl rfl rfl rfl rfl rfl Tryd.sizeOf3 rfl (by simp) rfl ?_
           refine Ll.nil (Lu.joint (pT 3 [0, 1] rfl rfl) ?_)
           refine Lu.nil ?_
           refine Kt.joined (()) trivial (Sub.sel [4, 7, 8, 89, 90] rfl) (fun _ h => h.sub (List.Sublist.cons_cons _ (List.Sublist.cons_cons _ (List.Sublist.cons_cons _ (List.Sublist.refl _)))))
        ·
         refine Ll.op (v := ptrV q94) rfl rfl rfl (OpQ.nilCheck rfl rfl) ?_
         refine Ll.nil (Lu.joint (pT 3 [0, 1] rfl rfl) ?_)
         refine Lu.take rfl rfl rfl rfl rfl (OpQ.fieldAddr rfl Tryd.runUnderlying148 rfl Tryd.sizeOf3 rfl rfl) (pT 3 [0, 1] rfl rfl) ?_
         refine Lu.two rfl rfl ?_ ?_
         ·
          refine Ll.op (v := pt_ p15) rfl rfl rfl (OpQ.nilCheck rfl rfl) ?_
          refine Ll.nil (Lu.joint (pT 3 [0, 1] rfl rfl) ?_)
          refine Lu.take rfl rfl rfl rfl rfl (OpQ.fieldAddr rfl Tryd.runUnderlying148 rfl Tryd.sizeOf3 rfl rfl) (pT 3 [0, 1] rfl rfl) ?_
          refine Lu.two rfl rfl ?_ ?_
          ·
           refine Ll.op rfl rfl rfl (OpQ.loadOwn 2 rfl Tryd.isAgg3 rfl rfl rfl) ?_
           refine Ll.nil (Lu.joint (pT 3 [0, 1] rfl rfl) ?_)
           refine Lu.loud rfl ?_
           refine Ll.op (v := i6_ ((frB fm1 : Int))) rfl rfl rfl (OpQ.load1 rfl Tryd.isAgg3 rfl (fun w1 hw1 => tree_free (TreeB.tree (Own.dropR (Own.drop (f := [_, _, _]) hw1)) hTq94))) ?_
           refine Ll.nil (Lu.joint (pT 3 [0, 1] rfl rfl) ?_)
           refine Lu.take (v := i6_ (((0 ||| (frB fm1) : Nat) : Int))) rfl rfl rfl rfl rfl (OpQ.or (a := 0) (b := frB fm1) rfl rfl rfl (by repeat' (first | omega | apply or_lt62 | apply or_lt16)) (by repeat' (first | omega | apply or_lt62 | apply or_lt16))) (pT 3 [0, 1] rfl rfl) ?_
           refine Lu.loud rfl ?_
           refine Ll.op (v := pt_ p15) rfl rfl rfl (OpQ.nilCheck rfl rfl) ?_
           refine Ll.nil (Lu.joint (pT 3 [0, 1] rfl rfl) ?_)
           refine Lu.take rfl rfl rfl rfl rfl (OpQ.fieldAddr rfl Tryd.runUnderlying148 rfl Tryd.sizeOf3 rfl rfl) (pT 3 [0, 1] rfl rfl) ?_
           refine Lu.loud rfl ?_
           refine Ll.store1 (v := i6_ (((0 ||| (frB fm1) : Nat) : Int))) (hs' := (_ :: _ :: bk_ p15 #[.int .u8 (((s.getD 0 0).toNat : Int)), .slice none 0 0, sl_ g107 1 c107, i6_ (((0 ||| (frB fm1) : Nat) : Int)), i6_ 0] 148 :: (new94 ++ hs))) 2 rfl rfl rfl rfl rfl rfl Tryd.sizeOf3 rfl (by simp) rfl ?_
           refine Ll.nil (Lu.joint (pT 3 [0, 1] rfl rfl) ?_)
           refine Lu.nil ?_
           refine Kt.joined (()) trivial (Sub.sel [4, 7, 8, 89, 90] rfl) (fun _ h => h.sub (List.Sublist.cons_cons _ (List.Sublist.cons_cons _ (List.Sublist.cons_cons _ (List.Sublist.refl _)))))
          ·
           refine Ll.op (v := i6_ ((frB fm1 : Int))) rfl rfl rfl (OpQ.load1 rfl Tryd.isAgg3 rfl (fun w1 hw1 => tree_free (TreeB.tree (Own.dropR (Own.drop (f := [_, _, _]) hw1)) hTq94))) ?_
           refine Ll.nil (Lu.joint (pT 3 [0, 1] rfl rfl) ?_)
           refine Lu.loud rfl ?_
           refine Ll.op rfl rfl rfl (OpQ.loadOwn 2 rfl Tryd.isAgg3 rfl rfl rfl) ?_
           refine Ll.nil (Lu.joint (pT 3 [0, 1] rfl rfl) ?_)
           refine Lu.take (v := i6_ (((0 ||| (frB fm1) : Nat) : Int))) rfl rfl rfl rfl rfl (OpQ.or (a := 0) (b := frB fm1) rfl rfl rfl (by repeat' (first | omega | apply or_lt62 | apply or_lt16)) (by repeat' (first | omega | apply or_lt62 | apply or_lt16))) (pT 3 [0, 1] rfl rfl) ?_
           refine Lu.loud rfl ?_
           refine Ll.op (v := pt_ p15) rfl rfl rfl (OpQ.nilCheck rfl rfl) ?_
           refine Ll.nil (Lu.joint (pT 3 [0, 1] rfl rfl) ?_)
           refine Lu.take rfl rfl rfl rfl rfl (OpQ.fieldAddr rfl Tryd.runUnderlying148 rfl Tryd.sizeOf3 rfl rfl) (pT 3 [0, 1] rfl rfl) ?_
           refine Lu.loud rfl ?_
           refine Ll.store1 (v := i6_ (((0 ||| (frB fm1) : Nat) : Int))) (hs' := (_ :: _ :: bk_ p15 #[.int .u8 (((s.getD 0 0).toNat : Int)), .slice none 0 0, sl_ g107 1 c107, i6_ (((0 ||| (frB fm1) : Nat) : Int)), i6_ 0] 148 :: (new94 ++ hs))) 2 rfl rfl rfl rfl rfl rfl Tryd.sizeOf3 rfl (by simp) rfl ?_
           refine Ll.nil (Lu.joint (pT 3 [0, 1] rfl rfl) ?_)
           refine Lu.nil ?_
           refine Kt.joined (()) trivial (Sub.sel [4, 7, 8, 89, 90] rfl) (fun _ h => h.sub (List.Sublist.cons_cons _ (List.Sublist.cons_cons _ (List.Sublist.cons_cons _ (List.Sublist.refl _)))))
         ·
          refine Ll.op (v := i6_ ((frB fm1 : Int))) rfl rfl rfl (OpQ.load1 rfl Tryd.isAgg3 rfl (fun w1 hw1 => tree_free (TreeB.tree (Own.dropR (Own.drop (f := [_, _, _]) hw1)) hTq94))) ?_
          refine Ll.nil (Lu.joint (pT 3 [0, 1] rfl rfl) ?_)
          refine Lu.loud rfl ?_
          refine Ll.op (v := pt_ p15) rfl rfl rfl (OpQ.nilCheck rfl rfl) ?_
          refine Ll.nil (Lu.joint (pT 3 [0, 1] rfl rfl) ?_)
          refine Lu.take rfl rfl rfl rfl rfl (OpQ.fieldAddr rfl Tryd.runUnderlying148 rfl Tryd.sizeOf3 rfl rfl) (pT 3 [0, 1] rfl rfl) ?_
          refine Lu.loud rfl ?_
          refine Ll.op rfl rfl rfl (OpQ.loadOwn 2 rfl Tryd.isAgg3 rfl rfl rfl) ?_
          refine Ll.nil (Lu.joint (pT 3 [0, 1] rfl rfl) ?_)
          refine Lu.take (v := i6_ (((0 ||| (frB fm1) : Nat) : Int))) rfl rfl rfl rfl rfl (OpQ.or (a := 0) (b := frB fm1) rfl rfl rfl (by repeat' (first | omega | apply or_lt62 | apply or_lt16)) (by repeat' (first | omega | apply or_lt62 | apply or_lt16))) (pT 3 [0, 1] rfl rfl) ?_
          refine Lu.loud rfl ?_
          refine Ll.op (v := pt_ p15) rfl rfl rfl (OpQ.nilCheck rfl rfl) ?_
          refine Ll.nil (Lu.joint (pT 3 [0, 1] rfl rfl) ?_)
          refine Lu.take rfl rfl rfl rfl rfl (OpQ.fieldAddr rfl Tryd.runUnderlying148 rfl Tryd.sizeOf3 rfl rfl) (pT 3 [0, 1] rfl rfl) ?_
          refine Lu.loud rfl ?_
          refine Ll.store1 (v := i6_ (((0 ||| (frB fm1) : Nat) : Int))) (hs' := (_ :: _ :: bk_ p15 #[.int .u8 (((s.getD 0 0).toNat : Int)), .slice none 0 0, sl_ g107 1 c107, i6_ (((0 ||| (frB fm1) : Nat) : Int)), i6_ 0] 148 :: (new94 ++ hs))) 2 rfl rfl rfl rfl rfl rfl Tryd.sizeOf3 rfl (by simp) rfl ?_
          refine Ll.nil (Lu.joint (pT 3 [0, 1] rfl rfl) ?_)
          refine Lu.nil ?_
          refine Kt.joined (()) trivial (Sub.sel [4, 7, 8, 89, 90] rfl) (fun _ h => h.sub (List.Sublist.cons_cons _ (List.Sublist.cons_cons _ (List.Sublist.cons_cons _ (List.Sublist.refl _)))))
       rintro _ hj
       refine Kt.sel [4, 7, 8, 89, 90] [_, _, _, _, _] rfl ?_
       refine Wk.seq ?_
       refine Wk.join (σ := Unit) (fun _ => True) (fun _ => [(4, pt_ p15), (8, str r1), (89, i6_ 1), (90, i6_ 0)]) (fun _ => Own B w0 (bk_ g107 u107 111 :: bk_ p106 #[ptrV q94] 111 :: bk_ p15 #[.int .u8 (((s.getD 0 0).toNat : Int)), .slice none 0 0, sl_ g107 1 c107, i6_ (((0 ||| (frB fm1) : Nat) : Int)), i6_ (((0 ||| (allB fm1) : Nat) : Int))] 148 :: (new94 ++ hs))) ?_ ?_
       ·
        refine Wk.regionU (S := Own B w0 (bk_ g107 u107 111 :: bk_ p106 #[ptrV q94] 111 :: (new94 ++ hs))) (.take 0 (.take 4 (.two 1 (.take 2 (.two 3 (.one 5 (.take 6 (.one 7 (.take 8 (.one 9 (.take 10 (.one 11 .done))))))) 5 (.take 6 (.two 3 (.one 7 (.take 8 (.one 9 (.take 10 (.one 11 .done))))) 7 (.one 3 (.take 8 (.one 9 (.take 10 (.one 11 .done))))))))) 5 (.take 6 (.two 1 (.take 2 (.two 3 (.one 7 (.take 8 (.one 9 (.take 10 (.one 11 .done))))) 7 (.one 3 (.take 8 (.one 9 (.take 10 (.one 11 .done))))))) 7 (.one 1 (.take 2 (.one 3 (.take 8 (.one 9 (.take 10 (.one 11 .done)))))))))))) Base.mixed (fun _ h => h.drawn) (by kernel_rfl) ?_
        refine Lu.run 2 rfl (pT 3 [0, 1] rfl rfl) ?_
        refine Lu.two rfl rfl ?_ ?_
        ·
         refine Ll.op (v := pt_ p15) rfl rfl rfl (OpQ.nilCheck rfl rfl) ?_
         refine Ll.nil (Lu.joint (pT 3 [0, 1] rfl rfl) ?_)
         refine Lu.take rfl rfl rfl rfl rfl (OpQ.fieldAddr rfl Tryd.runUnderlying148 rfl Tryd.sizeOf3 rfl rfl) (pT 3 [0, 1] rfl rfl) ?_
         refine Lu.two rfl rfl ?_ ?_
         ·
          refine Ll.op rfl rfl rfl (OpQ.loadOwn 2 rfl Tryd.isAgg3 rfl rfl rfl) ?_
          refine Ll.nil (Lu.joint (pT 3 [0, 1] rfl rfl) ?_)
          refine Lu.loud rfl ?_
          refine Ll.op (v := ptrV q94) rfl rfl rfl (OpQ.nilCheck rfl rfl) ?_
          refine Ll.nil (Lu.joint (pT 3 [0, 1] rfl rfl) ?_)
          refine Lu.take rfl rfl rfl rfl rfl (OpQ.fieldAddr rfl Tryd.runUnderlying148 rfl Tryd.sizeOf3 rfl rfl) (pT 3 [0, 1] rfl rfl) ?_
          refine Lu.loud rfl ?_
          refine Ll.op (v := i6_ ((allB fm1 : Int))) rfl rfl rfl (OpQ.load1 rfl Tryd.isAgg3 rfl (fun w1 hw1 => tree_all (TreeB.tree (Own.dropR (Own.drop (f := [_, _, _]) hw1)) hTq94))) ?_
          refine Ll.nil (Lu.joint (pT 3 [0, 1] rfl rfl) ?_)
          refine Lu.take (v := i6_ (((0 ||| (allB fm1) : Nat) : Int))) rfl rfl rfl rfl rfl (OpQ.or (a := 0) (b := allB fm1) rfl rfl rfl (by repeat' (first | omega | apply or_lt62 | apply or_lt16)) (by repeat' (first | omega | apply or_lt62 | apply or_lt16))) (pT 3 [0, 1] rfl rfl) ?_
          refine Lu.loud rfl ?_
          refine Ll.op (v := pt_ p15) rfl rfl rfl (OpQ.nilCheck rfl rfl) ?_
          refine Ll.nil (Lu.joint (pT 3 [0, 1] rfl rfl) ?_)
          refine Lu.take rfl rfl rfl rfl rfl (OpQ.fieldAddr rfl Tryd.runUnderlying148 rfl Tryd.sizeOf3 rfl rfl) (pT 3 [0, 1] rfl rfl) ?_
          refine Lu.loud rfl ?_
          refine Ll.store1 (v := i6_ (((0 ||| (allB fm1) : Nat) : Int))) (hs' := (_ :: _ :: bk_ p15 #[.int .u8 (((s.getD 0 0).toNat : Int)), .slice none 0 0, sl_ g107 1 c107, i6_ (((0 ||| (frB fm1) : Nat) : Int)), i6_ (((0 ||| (allB fm1) : Nat) : Int))] 148 :: (new94 ++ hs))) 2 rfl rfl rfl rfl rfl rfl Tryd.sizeOf3 rfl (by simp) rfl ?_
          refine Ll.nil (Lu.joint (pT 3 [0, 1] rfl rfl) ?_)
          refine Lu.nil ?_
          refine Kt.joined (()) trivial (Sub.sel [4, 8, 89, 90] rfl) (fun _ h => h.sub (List.Sublist.cons_cons _ (List.Sublist.cons_cons _ (List.Sublist.cons_cons _ (List.Sublist.refl _)))))
         ·
          refine Ll.op (v := ptrV q94) rfl rfl rfl (OpQ.nilCheck rfl rfl) ?_
          refine Ll.nil (Lu.joint (pT 3 [0, 1] rfl rfl) ?_)
          refine Lu.take rfl rfl rfl rfl rfl (OpQ.fieldAddr rfl Tryd.runUnderlying148 rfl Tryd.sizeOf3 rfl rfl) (pT 3 [0, 1] rfl rfl) ?_
          refine Lu.two rfl rfl ?_ ?_
          ·
           refine Ll.op rfl rfl rfl (OpQ.loadOwn 2 rfl Tryd.isAgg3 rfl rfl rfl) ?_
           refine Ll.nil (Lu.joint (pT 3 [0, 1] rfl rfl) ?_)
           refine Lu.loud rfl ?_
           refine Ll.op (v := i6_ ((allB fm1 : Int))) rfl rfl rfl (OpQ.load1 rfl Tryd.isAgg3 rfl (fun w1 hw1 => tree_all (TreeB.tree (Own.dropR (Own.drop (f := [_, _, _]) hw1)) hTq94))) ?_
           refine Ll.nil (Lu.joint (pT 3 [0, 1] rfl rfl) ?_)
           refine Lu.take (v := i6_ (((0 ||| (allB fm1) : Nat) : Int))) rfl rfl rfl rfl rfl (OpQ.or (a := 0) (b := allB fm1) rfl rfl rfl (by repeat' (first | omega | apply or_lt62 | apply or_lt16)) (by repeat' (first | omega | apply or_lt62 | apply or_lt16))) (pT 3 [0, 1] rfl rfl) ?_
           refine Lu.loud rfl ?_
           refine Ll.op (v := pt_ p15) rfl rfl rfl (OpQ.nilCheck rfl rfl) ?_
           refine Ll.nil (Lu.joint (pT 3 [0, 1] rfl rfl) ?_)
           refine Lu.take rfl rfl rfl rfl rfl (OpQ.fieldAddr rfl Tryd.runUnderlying148 rfl Tryd.sizeOf3 rfl rfl) (pT 3 [0, 1] rfl rfl) ?_
           refine Lu.loud rfl ?_
           refine Ll.store1 (v := i6_ (((0 ||| (allB fm1) : Nat) : Int))) (hs' := (_ :: _ :: bk_ p15 #[.int .u8 (((s.getD 0 0).toNat : Int)), .slice none 0 0, sl_ g107 1 c107, i6_ (((0 ||| (frB fm1) : Nat) : Int)), i6_ (((0 ||| (allB fm1) : Nat) : Int))] 148 :: (new94 ++ hs))) 2 rfl rfl rfl rfl rfl rfl Tryd.sizeOf3 rfl (by simp) rfl ?_
           refine Ll.nil (Lu.joint (pT 3 [0, 1] rfl rfl) ?_)
           refine Lu.nil ?_
           refine Kt.joined (()) trivial (Sub.sel [4, 8, 89, 90] rfl) (fun _ h => h.sub (List.Sublist.cons_cons _ (List.Sublist.cons_cons _ (List.Sublist.cons_cons _ (List.Sublist.refl _)))))
          ·
           refine Ll.op (v := i6_ ((allB fm1 : Int))) rfl rfl rfl (OpQ.load1 rfl Tryd.isAgg3 rfl (fun w1 hw1 => tree_all (TreeB.tree (Own.dropR (Own.drop (f := [_, _, _]) hw1)) hTq94))) ?_
           refine Ll.nil (Lu.joint (pT 3 [0, 1] rfl rfl) ?_)
           refine Lu.loud rfl ?_
           refine Ll.op rfl rfl rfl (OpQ.loadOwn 2 rfl Tryd.isAgg3 rfl rfl rfl) ?_
           refine Ll.nil (Lu.joint (pT 3 [0, 1] rfl rfl) ?_)
           refine Lu.take (v := i6_ (((0 ||| (allB fm1) : Nat) : Int))) rfl rfl rfl rfl rfl (OpQ.or (a := 0) (b := allB fm1) rfl rfl rfl (by repeat' (first | omega | apply or_lt62 | apply or_lt16)) (by repeat' (first | omega | apply or_lt62 | apply or_lt16))) (pT 3 [0, 1] rfl rfl) ?_
           refine Lu.loud rfl ?_
           refine Ll.op (v := pt_ p15) rfl rfl rfl (OpQ.nilCheck rfl rfl) ?_
           refine Ll.nil (Lu.joint (pT 3 [0, 1] rfl rfl) ?_)
           refine Lu.take rfl rfl rfl rfl rfl (OpQ.fieldAddr rfl Tryd.runUnderlying148 rfl Tryd.sizeOf3 rfl rfl) (pT 3 [0, 1] rfl rfl) ?_
           refine Lu.loud rfl ?_
           refine Ll.store1 (v := i6_ (((0 ||| (allB fm1) : Nat) : Int))) (hs' := (_ :: _ :: bk_ p15 #[.int .u8 (((s.getD 0 0).toNat : Int)), .slice none 0 0, sl_ g107 1 c107, i6_ (((0 ||| (frB fm1) : Nat) : Int)), i6_ (((0 ||| (allB fm1) : Nat) : Int))] 148 :: (new94 ++ hs))) 2 rfl rfl rfl rfl rfl rfl Tryd.sizeOf3 rfl (by simp) rfl ?_
           refine Ll.nil (Lu.joint (pT 3 [0, 1] rfl rfl) ?_)
           refine Lu.nil ?_
           refine Kt.joined (()) trivial (Sub.sel [4, 8, 89, 90] rfl) (fun _ h => h.sub (List.Sublist.cons_cons _ (List.Sublist.cons_cons _ (List.Sublist.cons_cons _ (List.Sublist.refl _)))))
        ·
         refine Ll.op (v := ptrV q94) rfl rfl rfl (OpQ.nilCheck rfl rfl) ?_
         refine Ll.nil (Lu.joint (pT 3 [0, 1] rfl rfl) ?_)
         refine Lu.take rfl rfl rfl rfl rfl (OpQ.fieldAddr rfl Tryd.runUnderlying148 rfl Tryd.sizeOf3 rfl rfl) (pT 3 [0, 1] rfl rfl) ?_
         refine Lu.two rfl rfl ?_ ?_
         ·
          refine Ll.op (v := pt_ p15) rfl rfl rfl (OpQ.nilCheck rfl rfl) ?_
          refine Ll.nil (Lu.joint (pT 3 [0, 1] rfl rfl) ?_)
          refine Lu.take rfl rfl rfl rfl rfl (OpQ.fieldAddr rfl Tryd.runUnderlying148 rfl Tryd.sizeOf3 rfl rfl) (pT 3 [0, 1] rfl rfl) ?_
          refine Lu.two rfl rfl ?_ ?_
          ·
           refine Ll.op rfl rfl rfl (OpQ.loadOwn 2 rfl Tryd.isAgg3 rfl rfl rfl) ?_
           refine Ll.nil (Lu.joint (pT 3 [0, 1] rfl rfl) ?_)
           refine Lu.loud rfl ?_
           refine Ll.op (v := i6_ ((allB fm1 : Int))) rfl rfl rfl (OpQ.load1 rfl Tryd.isAgg3 rfl (fun w1 hw1 => tree_all (TreeB.tree (Own.dropR (Own.drop (f := [_, _, _]) hw1)) hTq94))) ?_
           refine Ll.nil (Lu.joint (pT 3 [0, 1] rfl rfl) ?_)
           refine Lu.take (v := i6_ (((0 ||| (allB fm1) : Nat) : Int))) rfl rfl rfl rfl rfl (OpQ.or (a := 0) (b := allB fm1) rfl rfl rfl (by repeat' (first | omega | apply or_lt62 | apply or_lt16)) (by repeat' (first | omega | apply or_lt62 | apply or_lt16))) (pT 3 [0, 1] rfl rfl) ?_
           refine Lu.loud rfl ?_
           refine Ll.op (v := pt_ p15) rfl rfl rfl (OpQ.nilCheck rfl rfl) ?_
           refine Ll.nil (Lu.joint (pT 3 [0, 1] rfl rfl) ?_)
           refine Lu.take rfl rfl rfl rfl rfl (OpQ.fieldAddr rfl Tryd.runUnderlying148 rfl Tryd.sizeOf3 rfl rfl) (pT 3 [0, 1] rfl rfl) ?_
           refine Lu.loud rfl ?_
           refine Ll.store1 (v := i6_ (((0 ||| (allB fm1) : Nat) : Int))) (hs' := (_ :: _ :: bk_ p15 #[.int .u8 (((s.getD 0 0).toNat : Int)), .slice none 0 0, sl_ g107 1 c107, i6_ (((0 ||| (frB fm1) : Nat) : Int)), i6_ (((0 ||| (allB fm1) : Nat) : Int))] 148 :: (new94 ++ hs))) 2 rfl rfl rfl rfl rfl rfl Tryd.sizeOf3 rfl (by simp) rfl ?_
           refine Ll.nil (Lu.joint (pT 3 [0, 1] rfl rfl) ?_)
           refine Lu.nil ?_
           refine Kt.joined (()) trivial (Sub.sel [4, 8, 89, 90] rfl) (fun _ h => h.sub (List.Sublist.cons_cons _ (List.Sublist.cons_cons _ (List.Sublist.cons_cons _ (List.Sublist.refl _)))))
          ·
           refine Ll.op (v := i6_ ((allB fm1 : Int))) rfl rfl rfl (OpQ.load1 rfl Tryd.isAgg3 rfl (fun w1 hw1 => tree_all (TreeB.tree (Own.dropR (Own.drop (f := [_, _, _]) hw1)) hTq94))) ?_
           refine Ll.nil (Lu.joint (pT 3 [0, 1] rfl rfl) ?_)
           refine Lu.loud rfl ?_
           refine Ll.op rfl rfl rfl (OpQ.loadOwn 2 rfl Tryd.isAgg3 rfl rfl rfl) ?_
           refine Ll.nil (Lu.joint (pT 3 [0, 1] rfl rfl) ?_)
           refine Lu.take (v := i6_ (((0 ||| (allB fm1) : Nat) : Int))) rfl rfl rfl rfl rfl (OpQ.or (a := 0) (b := allB fm1) rfl rfl rfl (by repeat' (first | omega | apply or_lt62 | apply or_lt16)) (by repeat' (first | omega | apply or_lt62 | apply or_lt16))) (pT 3 [0, 1] rfl rfl) ?_
           refine Lu.loud rfl ?_
           refine Ll.op (v := pt_ p15) rfl rfl rfl (OpQ.nilCheck rfl rfl) ?_
           refine Ll.nil (Lu.joint (pT 3 [0, 1] rfl rfl) ?_)
           refine Lu.take rfl rfl rfl rfl rfl (OpQ.fieldAddr rfl Tryd.runUnderlying148 rfl Tryd.sizeOf3 rfl rfl) (pT 3 [0, 1] rfl rfl) ?_
           refine Lu.loud rfl ?_
           refine Ll.store1 (v := i6_ (((0 ||| (allB fm1) : Nat) : Int))) (hs' := (_ :: _ :: bk_ p15 #[.int .u8 (((s.getD 0 0).toNat : Int)), .slice none 0 0, sl_ g107 1 c107, i6_ (((0 ||| (frB fm1) : Nat) : Int)), i6_ (((0 ||| (allB fm1) : Nat) : Int))] 148 :: (new94 ++ hs))) 2 rfl rfl rfl rfl rfl rfl Tryd.sizeOf3 rfl (by simp) rfl ?_
           refine Ll.nil (Lu.joint (pT 3 [0, 1] rfl rfl) ?_)
           refine Lu.nil ?_
           refine Kt.joined (()) trivial (Sub.sel [4, 8, 89, 90] rfl) (fun _ h => h.sub (List.Sublist.cons_cons _ (List.Sublist.cons_cons _ (List.Sublist.cons_cons _ (List.Sublist.refl _)))))
         ·
          refine Ll.op (v := i6_ ((allB fm1 : Int))) rfl rfl rfl (OpQ.load1 rfl Tryd.isAgg3 rfl (fun w1 hw1 => tree_all (TreeB.tree (Own.dropR (Own.drop (f := [_, _, _]) hw1)) hTq94))) ?_
          refine Ll.nil (Lu.joint (pT 3 [0, 1] rfl rfl) ?_)
          refine Lu.loud rfl ?_
          refine Ll.op (v := pt_ p15) rfl rfl rfl (OpQ.nilCheck rfl rfl) ?_
          refine Ll.nil (Lu.joint (pT 3 [0, 1] rfl rfl) ?_)
          refine Lu.take rfl rfl rfl rfl rfl (OpQ.fieldAddr rfl Tryd.runUnderlying148 rfl Tryd.sizeOf3 rfl rfl) (pT 3 [0, 1] rfl rfl) ?_
          refine Lu.loud rfl ?_
          refine Ll.op rfl rfl rfl (OpQ.loadOwn 2 rfl Tryd.isAgg3 rfl rfl rfl) ?_
          refine Ll.nil (Lu.joint (pT 3 [0, 1] rfl rfl) ?_)
          refine Lu.take (v := i6_ (((0 ||| (allB fm1) : Nat) : Int))) rfl rfl rfl rfl rfl (OpQ.or (a := 0) (b := allB fm1) rfl rfl rfl (by repeat' (first | omega | apply or_lt62 | apply or_lt16)) (by repeat' (first | omega | apply or_lt62 | apply or_lt16))) (pT 3 [0, 1] rfl rfl) ?_
          refine Lu.loud rfl ?_
          refine Ll.op (v := pt_ p15) rfl rfl rfl (OpQ.nilCheck rfl rfl) ?_
          refine Ll.nil (Lu.joint (pT 3 [0, 1] rfl rfl) ?_)
          refine Lu.take rfl rfl rfl rfl rfl (OpQ.fieldAddr rfl Tryd.runUnderlying148 rfl Tryd.sizeOf3 rfl rfl) (pT 3 [0, 1] rfl rfl) ?_
          refine Lu.loud rfl ?_
          refine Ll.store1 (v := i6_ (((0 ||| (allB fm1) : Nat) : Int))) (hs' := (_ :: _ :: bk_ p15 #[.int .u8 (((s.getD 0 0).toNat : Int)), .slice none 0 0, sl_ g107 1 c107, i6_ (((0 ||| (frB fm1) : Nat) : Int)), i6_ (((0 ||| (allB fm1) : Nat) : Int))] 148 :: (new94 ++ hs))) 2 rfl rfl rfl rfl rfl rfl Tryd.sizeOf3 rfl (by simp) rfl ?_
          refine Ll.nil (Lu.joint (pT 3 [0, 1] rfl rfl) ?_)
          refine Lu.nil ?_
          refine Kt.joined (()) trivial (Sub.sel [4, 8, 89, 90] rfl) (fun _ h => h.sub (List.Sublist.cons_cons _ (List.Sublist.cons_cons _ (List.Sublist.cons_cons _ (List.Sublist.refl _)))))
       rintro _ hj
       refine Kt.sel [4, 8, 89, 90] [_, _, _, _] rfl ?_
       refine Wk.regionQ ?_
       refine Lq.run 2 rfl ?_
       refine Lq.nil ?_
       refine Kt.sel [0, 4, 89, 90] [_, _, _, _] rfl ?_
       refine Wk.regionQ ?_
       refine Lq.op rfl rfl rfl (OpQ.add rfl rfl rfl (by decide) (by decide)) ?_
       refine Lq.run 1 rfl ?_
       refine Lq.nil ?_
       refine Kt.round (e' := [(0, str r1), (4, pt_ p15), (89, i6_ 1), (90, i6_ 1)]) (Sub.sel [0, 4, 89, 90] rfl) ?_
       refine Wk.seq ?_
       refine Wk.regionQ ?_
       refine Lq.run 1 rfl ?_
       refine Lq.nil ?_
       refine Kt.sel [0, 4, 89, 90, 91] [_, _, _, _, _] rfl ?_
       refine Wk.seq ?_
       refine Wk.condF rfl ?_
       refine Wk.exit rfl ?_
       refine Kt.sel [0, 4] [_, _] rfl ?_
       refine Wk.seq ?_
       refine Wk.seq ?_
       refine Wk.regionQ ?_
       refine Lq.run 1 rfl ?_
       refine Lq.op (v := bo_ (decide (quI (((s.getD 0 0)).toNat : Int)))) rfl rfl rfl (OpQ.call rfl Tryd.call152 rfl Own.stable (fun w1 hw1 => isQuant_ok _ _ ((s.getD 0 0)) _ _ _ _ w1 (hw1.has 2 _ _ rfl).2)) ?_
       refine Lq.nil ?_
       refine Kt.sel [0, 4, 135] [_, _, _] rfl ?_
       refine Wk.cond (b := decide (quI (((s.getD 0 0)).toNat : Int))) rfl (fun h135_3 => ?_) (fun h135_3 => ?_)
       ·
        replace h135_3 := of_decide_eq_true h135_3
        exact absurd h135_3 (by unfold quI; omega)
       ·
        replace h135_3 := of_decide_eq_false h135_3
        refine Wk.skip ?_
        refine Kt.sel [0, 4] [_, _] rfl ?_
        refine Wk.seq ?_
        refine Wk.regionQ ?_
        refine Lq.run 4 rfl ?_
        refine Lq.nil ?_
        refine Kt.sel [2, 3] [_, _] rfl ?_
        refine Wk.ret (Kt.end2 rfl rfl rfl fun w' hw => ?_)
        have hR : parse s = some ((.one 33 [] fm1), r1) := (pp3 hs0 (u8_of (n := 33) (by decide) (by assumption))).1 _ _ hpp1
        rw [hR]
        have e1 : (0 ||| (frB fm1) : Nat) = frB (.one 33 [] fm1) := by simp [frB, vBits, vBit]
        have e2 : (0 ||| (allB fm1) : Nat) = allB (.one 33 [] fm1) := by simp [allB, vBits, vBit]
        have e3 : s.getD 0 0 = _ := u8_of (n := 33) (by decide) (by assumption)
        rw [e3] at hw
        have hW : Own B w0 (([bk_ g107 u107 111, bk_ p106 #[ptrV q94] 111, bk_ p15 #[.int .u8 (((33 : UInt8).toNat : Int)), .slice none 0 0, sl_ g107 1 c107, i6_ ((frB (.one 33 [] fm1) : Int)), i6_ ((allB (.one 33 [] fm1) : Int))] 148] ++ new94) ++ hs) w' := by
         rw [← e1, ← e2]
         first | exact hw | simpa only [List.append_assoc, List.cons_append, List.nil_append] using hw
        exact ⟨p15, [bk_ g107 u107 111, bk_ p106 #[ptrV q94] 111, bk_ p15 #[.int .u8 (((33 : UInt8).toNat : Int)), .slice none 0 0, sl_ g107 1 c107, i6_ ((frB (.one 33 [] fm1) : Int)), i6_ ((allB (.one 33 [] fm1) : Int))] 148] ++ new94, rfl, ⟨q94, ⟨_, _, mem_atL (l := [bk_ g107 u107 111, bk_ p106 #[ptrV q94] 111, bk_ p15 #[.int .u8 (((33 : UInt8).toNat : Int)), .slice none 0 0, sl_ g107 1 c107, i6_ ((frB (.one 33 [] fm1) : Int)), i6_ ((allB (.one 33 [] fm1) : Int))] 148]) (i := 2) rfl, RowB.nil, (RowB.at (mem_atL (l := [bk_ g107 u107 111, bk_ p106 #[ptrV q94] 111, bk_ p15 #[.int .u8 (((33 : UInt8).toNat : Int)), .slice none 0 0, sl_ g107 1 c107, i6_ ((frB (.one 33 [] fm1) : Int)), i6_ ((allB (.one 33 [] fm1) : Int))] 148]) (i := 0) rfl) htg107 rfl hlg107)⟩, (TreeB.right hTq94)⟩, hW⟩
     ·
      replace h27 := of_decide_eq_false h27
      refine Wk.seq ?_
      refine Wk.seq ?_
      refine Wk.regionQ ?_
      refine Lq.run 2 rfl ?_
      refine Lq.nil ?_
      refine Kt.sel [0, 4, 5, 17, 29] [_, _, _, _, _] rfl ?_
      refine Wk.join (σ := Unit) (fun _ => True) (fun _ => [(0, str s), (4, pt_ p15), (5, i6_ 0), (17, .int .u8 (((s.getD 0 0).toNat : Int))), (29, bo_ (decide ((((s.getD 0 0).toNat : Int)) = (38 : Int) ∨ (((s.getD 0 0).toNat : Int)) = (124 : Int))))]) (fun _ => Own B w0 (bk_ p15 #[.int .u8 (((s.getD 0 0).toNat : Int)), .slice none 0 0, .slice none 0 0, i6_ 0, i6_ 0] 148 :: hs)) ?_ ?_
      ·
       refine Wk.cond (b := decide ((((s.getD 0 0).toNat : Int)) = (38 : Int))) rfl (fun h29 => ?_) (fun h29 => ?_)
       ·
        replace h29 := of_decide_eq_true h29
        refine Wk.skip ?_
        refine Kt.joined (()) trivial (Sub.cons rfl (Sub.cons rfl (Sub.cons rfl (Sub.cons rfl (Sub.cons (by rw [decide_eq_decide.2 (show ((((s.getD 0 0).toNat : Int)) = (38 : Int) ∨ (((s.getD 0 0).toNat : Int)) = (124 : Int)) ↔ ((((s.getD 0 0).toNat : Int)) = (38 : Int)) by first | omega | (unfold quI at *; omega))]; rfl) Sub.nil))))) (fun _ h => h)
       ·
        replace h29 := of_decide_eq_false h29
        refine Wk.regionQ ?_
        refine Lq.run 2 rfl ?_
        refine Lq.nil ?_
        refine Kt.joined (()) trivial (Sub.cons rfl (Sub.cons rfl (Sub.cons rfl (Sub.cons rfl (Sub.cons (by rw [decide_eq_decide.2 (show ((((s.getD 0 0).toNat : Int)) = (38 : Int) ∨ (((s.getD 0 0).toNat : Int)) = (124 : Int)) ↔ ((((s.getD 0 0).toNat : Int)) = (124 : Int)) by first | omega | (unfold quI at *; omega))]; rfl) Sub.nil))))) (fun _ h => h)
      rintro _ hj
      refine Kt.sel [0, 4, 5, 17, 29] [_, _, _, _, _] rfl ?_
      refine Wk.cond (b := decide ((((s.getD 0 0).toNat : Int)) = (38 : Int) ∨ (((s.getD 0 0).toNat : Int)) = (124 : Int))) rfl (fun h29_1 => ?_) (fun h29_1 => ?_)
      ·
       replace h29_1 := of_decide_eq_true h29_1
       refine Wk.regionQ ?_
       refine Lq.run 1 rfl ?_
       refine Lq.nil ?_
       refine Kt.sel [0, 4, 5, 6] [_, _, _, _] rfl ?_
       refine Wk.seq ?_
       refine Wk.regionQ ?_
       refine Lq.run 1 rfl ?_
       refine Lq.op (v := str (s.drop 1)) rfl rfl rfl (OpQ.cast (by rfl) (OpQ.sliceStrFrom rfl Tryd.underlying9 rfl rfl (by omega) (by omega))) ?_
       refine Lq.run 1 rfl ?_
       refine Lq.nil ?_
       refine Kt.sel [0, 4, 5, 6] [_, _, _, _] rfl ?_
       refine Wk.seq ?_
       refine Wk.seq ?_
       refine Wk.regionQ ?_
       refine Lq.run 2 rfl ?_
       refine Lq.nil ?_
       refine Kt.sel [0, 4, 6, 40, 41] [_, _, _, _, _] rfl ?_
       refine Wk.block ?_
       refine Wk.unroll 4 ?_
       refine Wk.seq ?_
       refine Wk.regionQ ?_
       refine Lq.run 1 rfl ?_
       refine Lq.nil ?_
       refine Kt.sel [0, 4, 6, 40, 41, 42] [_, _, _, _, _, _] rfl ?_
       refine Wk.seq ?_
       refine Wk.condF rfl ?_
       refine Wk.exit rfl ?_
       refine Kt.sel [0, 4, 6] [_, _, _] rfl ?_
       refine Wk.seq ?_
       refine Wk.region ?_
       refine Ll.run 2 rfl ?_
       refine Ll.op (v := pt_ p15) rfl rfl rfl (OpQ.nilCheck rfl rfl) ?_
       refine Ll.op rfl rfl rfl (OpQ.fieldAddr rfl Tryd.runUnderlying148 rfl Tryd.sizeOf3 rfl rfl) ?_
       refine Ll.op rfl rfl rfl (OpQ.loadOwn 0 rfl Tryd.isAgg3 rfl rfl rfl) ?_
       refine Ll.op (v := pt_ p15) rfl rfl rfl (OpQ.nilCheck rfl rfl) ?_
       refine Ll.op rfl rfl rfl (OpQ.fieldAddr rfl Tryd.runUnderlying148 rfl Tryd.sizeOf3 rfl rfl) ?_
       refine Ll.store1 (v := i6_ 0) (hs' := (bk_ p15 #[.int .u8 (((s.getD 0 0).toNat : Int)), .slice none 0 0, .slice none 0 0, i6_ 0, i6_ 0] 148 :: hs)) 0 rfl rfl rfl rfl rfl rfl Tryd.sizeOf3 rfl (by simp) rfl ?_
       refine Ll.nil ?_
       refine Kt.sel [0, 4, 6] [_, _, _] rfl ?_
       refine Wk.seq ?_
       refine Wk.seq ?_
       refine Wk.regionQ ?_
       refine Lq.run 2 rfl ?_
       refine Lq.nil ?_
       refine Kt.sel [0, 4, 6, 85] [_, _, _, _] rfl ?_
       refine Wk.condT rfl ?_
       refine Wk.region ?_
       refine Ll.run 1 rfl ?_
       refine Ll.op (v := pt_ p15) rfl rfl rfl (OpQ.nilCheck rfl rfl) ?_
       refine Ll.op rfl rfl rfl (OpQ.fieldAddr rfl Tryd.runUnderlying148 rfl Tryd.sizeOf3 rfl rfl) ?_
       refine Ll.store1 (v := i6_ 0) (hs' := (bk_ p15 #[.int .u8 (((s.getD 0 0).toNat : Int)), .slice none 0 0, .slice none 0 0, i6_ 0, i6_ 0] 148 :: hs)) 0 rfl rfl rfl rfl rfl rfl Tryd.sizeOf3 rfl (by simp) rfl ?_
       refine Ll.nil ?_
       refine Kt.sel [0, 4, 6] [_, _, _] rfl ?_
       refine Wk.seq ?_
       refine Wk.seq ?_
       refine Wk.regionQ ?_
       refine Lq.run 2 rfl ?_
       refine Lq.nil ?_
       refine Kt.sel [0, 4, 89, 90] [_, _, _, _] rfl ?_
       refine Wk.block ?_
       refine Wk.unroll 4 ?_
       refine Wk.seq ?_
       refine Wk.regionQ ?_
       refine Lq.run 1 rfl ?_
       refine Lq.nil ?_
       refine Kt.sel [0, 4, 89, 90, 91] [_, _, _, _, _] rfl ?_
       refine Wk.seq ?_
       refine Wk.condT rfl ?_
       refine Wk.skip ?_
       refine Kt.sel [0, 4, 89, 90] [_, _, _, _] rfl ?_
       refine Wk.seq ?_
       refine Wk.block ?_
       refine Wk.seq ?_
       rcases hpp2 : parse (s.drop 1) with _ | ⟨fm2, r2⟩
       ·
        refine Wk.region ?_
        refine Ll.run 1 rfl ?_
        refine Ll.callGet (σ := List UInt8) (ok := fun _ => True) (v := fun x => .tuple #[.pointer none, str x]) (hs' := fun _ => (bk_ p15 #[.int .u8 (((s.getD 0 0).toNat : Int)), .slice none 0 0, .slice none 0 0, i6_ 0, i6_ 0] 148 :: hs)) (xs := [.tmp 93]) (vs := [str (s.drop 1)]) rfl rfl rfl rfl Tryd.call150 rfl (fun w1 hw1 => (ih (s.drop 1) B w0 (([bk_ p15 #[.int .u8 (((s.getD 0 0).toNat : Int)), .slice none 0 0, .slice none 0 0, i6_ 0, i6_ 0] 148] : List (Nat × Obj)) ++ hs) w1 (by simp only [List.length_drop] at *; omega) hw1).mono fun en w' hR => by rw [hpp2] at hR; obtain ⟨x, h1, h2⟩ := hR; exact ⟨x, h1, trivial, h2⟩) fun x94_1 _ => ?_
        show Ll _ _ (Own _ _ (_ :: hs)) _ _ ((94, .tuple #[.pointer none, str x94_1]) :: _) _ _ _
        refine Ll.run 1 rfl ?_
        refine Ll.op (v := .pointer none) rfl rfl rfl (OpQ.extract rfl rfl rfl) ?_
        refine Ll.op (v := str x94_1) rfl rfl rfl (OpQ.extract rfl rfl rfl) ?_
        refine Ll.run 2 rfl ?_
        refine Ll.nil ?_
        refine Kt.sel [4, 7, 8, 89, 90] [_, _, _, _, _] rfl ?_
        refine Wk.seq ?_
        refine Wk.seq ?_
        refine Wk.regionQ ?_
        refine Lq.run 1 rfl ?_
        refine Lq.op (v := bo_ true) rfl rfl rfl (OpQ.eqNilP (p := none) rfl Tryd.underlying111 rfl rfl) ?_
        refine Lq.nil ?_
        refine Kt.sel [4, 7, 8, 89, 90, 98] [_, _, _, _, _, _] rfl ?_
        refine Wk.condT rfl ?_
        refine Wk.seq ?_
        refine Wk.regionQ ?_
        refine Lq.run 3 rfl ?_
        refine Lq.nil ?_
        refine Kt.sel [2, 3] [_, _] rfl ?_
        refine Wk.ret (Kt.end2 rfl rfl rfl fun w' hw => ?_)
        have hR : parse s = none := by first | exact (pp4 hs0 (two_of (by decide) (by decide) (by assumption))).2.1 (by assumption) | exact (pp4 hs0 (two_of (by decide) (by decide) (by assumption))).2.2 _ _ (by assumption) (by assumption)
        rw [hR]
        exact ⟨_, rfl, Own.drop (f := [_]) hw⟩
       ·
        have hrl2 := parse_len hpp2
        refine Wk.region ?_
        refine Ll.run 1 rfl ?_
        refine Ll.callBack (ok := fun ((q, new) : Nat × List (Nat × Obj)) => TreeB 148 new fm2 q) (v := fun ((q, new) : Nat × List (Nat × Obj)) => .tuple #[ptrV q, str r2]) (new := fun ((q, new) : Nat × List (Nat × Obj)) => new) (hs := hs) (xs := [.tmp 93]) (vs := [str (s.drop 1)]) ([bk_ p15 #[.int .u8 (((s.getD 0 0).toNat : Int)), .slice none 0 0, .slice none 0 0, i6_ 0, i6_ 0] 148] : List (Nat × Obj)) rfl rfl rfl rfl Tryd.call150 rfl (fun w1 hw1 => (ih (s.drop 1) B w0 (([bk_ p15 #[.int .u8 (((s.getD 0 0).toNat : Int)), .slice none 0 0, .slice none 0 0, i6_ 0, i6_ 0] 148] : List (Nat × Obj)) ++ hs) w1 (by simp only [List.length_drop] at *; omega) hw1).mono fun en w' hR => by rw [hpp2] at hR; obtain ⟨q, new, h1, h2, h3⟩ := hR; exact ⟨(q, new), h1, h2, h3⟩) fun ⟨q94_1, new94_1⟩ hTq94_1 => ?_
        dsimp only at hTq94_1
        have hfq94_1 := frB_lt (parse_wf _ (Nat.le_refl _) hpp2)
        have haq94_1 := allB_lt (parse_wf _ (Nat.le_refl _) hpp2)
        show Ll _ _ (Own _ _ (_ :: (new94_1 ++ hs))) _ _ ((94, .tuple #[ptrV q94_1, str r2]) :: _) _ _ _
        refine Ll.run 1 rfl ?_
        refine Ll.op (v := ptrV q94_1) rfl rfl rfl (OpQ.extract rfl rfl rfl) ?_
        refine Ll.op (v := str r2) rfl rfl rfl (OpQ.extract rfl rfl rfl) ?_
        refine Ll.run 2 rfl ?_
        refine Ll.nil ?_
        refine Kt.sel [4, 7, 8, 89, 90] [_, _, _, _, _] rfl ?_
        refine Wk.seq ?_
        refine Wk.seq ?_
        refine Wk.regionQ ?_
        refine Lq.run 1 rfl ?_
        refine Lq.op (v := bo_ false) rfl rfl rfl (OpQ.eqNilP (p := some ⟨q94_1, 0, none⟩) rfl Tryd.underlying111 rfl rfl) ?_
        refine Lq.nil ?_
        refine Kt.sel [4, 7, 8, 89, 90, 98] [_, _, _, _, _, _] rfl ?_
        refine Wk.condF rfl ?_
        refine Wk.skip ?_
        refine Kt.sel [4, 7, 8, 89, 90] [_, _, _, _, _] rfl ?_
        refine Wk.seq ?_
        refine Wk.region ?_
        refine Ll.run 2 rfl ?_
        refine Ll.op (v := pt_ p15) rfl rfl rfl (OpQ.nilCheck rfl rfl) ?_
        refine Ll.op rfl rfl rfl (OpQ.fieldAddr rfl Tryd.runUnderlying148 rfl Tryd.sizeOf146 rfl rfl) ?_
        refine Ll.op rfl rfl rfl (OpQ.loadOwn 0 rfl Tryd.isAgg146 rfl rfl rfl) ?_
        refine Ll.run 1 rfl ?_
        refine Ll.slice (xs := [.tmp 105]) (vs := [ptrV q94_1]) Base.elem146 rfl rfl rfl rfl rfl rfl (by decide) rfl fun p106_1 hp106_1 => ?_
        refine Ll.appendN1 (V := ptrV q94_1) Base.elem146 0 rfl rfl rfl rfl rfl rfl rfl fun g107_1 c107_1 u107_1 hg107_1 hcg107_1 hlg107_1 htg107_1 => ?_
        show Ll _ _ (Own _ _ (_ :: _ :: _ :: (new94_1 ++ hs))) _ _ ((107, sl_ g107_1 1 c107_1) :: _) _ _ _
        refine Ll.op (v := pt_ p15) rfl rfl rfl (OpQ.nilCheck rfl rfl) ?_
        refine Ll.op rfl rfl rfl (OpQ.fieldAddr rfl Tryd.runUnderlying148 rfl Tryd.sizeOf146 rfl rfl) ?_
        refine Ll.store1 (v := sl_ g107_1 1 c107_1) (hs' := (_ :: _ :: bk_ p15 #[.int .u8 (((s.getD 0 0).toNat : Int)), .slice none 0 0, sl_ g107_1 1 c107_1, i6_ 0, i6_ 0] 148 :: (new94_1 ++ hs))) 2 rfl rfl rfl rfl rfl rfl Tryd.sizeOf146 rfl (by simp) rfl ?_
        refine Ll.nil ?_
        refine Kt.sel [4, 7, 8, 89, 90] [_, _, _, _, _] rfl ?_
        refine Wk.seq ?_
        refine Wk.join (σ := Unit) (fun _ => True) (fun _ => [(4, pt_ p15), (7, ptrV q94_1), (8, str r2), (89, i6_ 2), (90, i6_ 0)]) (fun _ => Own B w0 (bk_ g107_1 u107_1 111 :: bk_ p106_1 #[ptrV q94_1] 111 :: bk_ p15 #[.int .u8 (((s.getD 0 0).toNat : Int)), .slice none 0 0, sl_ g107_1 1 c107_1, i6_ (((0 ||| (frB fm2) : Nat) : Int)), i6_ 0] 148 :: (new94_1 ++ hs))) ?_ ?_
        ·
         refine Wk.regionU (S := Own B w0 (bk_ g107_1 u107_1 111 :: bk_ p106_1 #[ptrV q94_1] 111 :: (new94_1 ++ hs))) (.take 0 (.take 4 (.two 1 (.take 2 (.two 3 (.one 5 (.take 6 (.one 7 (.take 8 (.one 9 (.take 10 (.one 11 .done))))))) 5 (.take 6 (.two 3 (.one 7 (.take 8 (.one 9 (.take 10 (.one 11 .done))))) 7 (.one 3 (.take 8 (.one 9 (.take 10 (.one 11 .done))))))))) 5 (.take 6 (.two 1 (.take 2 (.two 3 (.one 7 (.take 8 (.one 9 (.take 10 (.one 11 .done))))) 7 (.one 3 (.take 8 (.one 9 (.take 10 (.one 11 .done))))))) 7 (.one 1 (.take 2 (.one 3 (.take 8 (.one 9 (.take 10 (.one 11 .done)))))))))))) Base.mixed (fun _ h => h.drawn) (by kernel_rfl) ?_
         refine Lu.run 2 rfl (pT 3 [0, 1] rfl rfl) ?_
         refine Lu.two rfl rfl ?_ ?_
         ·
          refine Ll.op (v := pt_ p15) rfl rfl rfl (OpQ.nilCheck rfl rfl) ?_
          refine Ll.nil (Lu.joint (pT 3 [0, 1] rfl rfl) ?_)
          refine Lu.take rfl rfl rfl rfl rfl (OpQ.fieldAddr rfl Tryd.runUnderlying148 rfl Tryd.sizeOf3 rfl rfl) (pT 3 [0, 1] rfl rfl) ?_
          refine Lu.two rfl rfl ?_ ?_
          ·
           refine Ll.op rfl rfl rfl (OpQ.loadOwn 2 rfl Tryd.isAgg3 rfl rfl rfl) ?_
           refine Ll.nil (Lu.joint (pT 3 [0, 1] rfl rfl) ?_)
           refine Lu.loud rfl ?_
           refine Ll.op (v := ptrV q94_1) rfl rfl rfl (OpQ.nilCheck rfl rfl) ?_
           refine Ll.nil (Lu.joint (pT 3 [0, 1] rfl rfl) ?_)
           refine Lu.take rfl rfl rfl rfl rfl (OpQ.fieldAddr rfl Tryd.runUnderlying148 rfl Tryd.sizeOf3 rfl rfl) (pT 3 [0, 1] rfl rfl) ?_
           refine Lu.loud rfl ?_
           refine Ll.op (v := i6_ ((frB fm2 : Int))) rfl rfl rfl (OpQ.load1 rfl Tryd.isAgg3 rfl (fun w1 hw1 => tree_free (TreeB.tree (Own.dropR (Own.drop (f := [_, _, _]) hw1)) hTq94_1))) ?_
           refine Ll.nil (Lu.joint (pT 3 [0, 1] rfl rfl) ?_)
           refine Lu.take (v := i6_ (((0 ||| (frB fm2) : Nat) : Int))) rfl rfl rfl rfl rfl (OpQ.or (a := 0) (b := frB fm2) rfl rfl rfl (by repeat' (first | omega | apply or_lt62 | apply or_lt16)) (by repeat' (first | omega | apply or_lt62 | apply or_lt16))) (pT 3 [0, 1] rfl rfl) ?_
           refine Lu.loud rfl ?_
           refine Ll.op (v := pt_ p15) rfl rfl rfl (OpQ.nilCheck rfl rfl) ?_
           refine Ll.nil (Lu.joint (pT 3 [0, 1] rfl rfl) ?_)
           refine Lu.take rfl rfl rfl rfl rfl (OpQ.fieldAddr rfl Tryd.runUnderlying148 rfl Tryd.sizeOf3 rfl rfl) (pT 3 [0, 1] rfl rfl) ?_
           refine Lu.loud rfl ?_
           refine Ll.store1 (v := i6_ (((0 ||| (frB fm2) : Nat) : Int))) (hs' := (_ :: _ :: bk_ p15 #[.int .u8 (((s.getD 0 0).toNat : Int)), .slice none 0 0, sl_ g107_1 1 c107_1, i6_ (((0 ||| (frB fm2) : Nat) : Int)), i6_ 0] 148 :: (new94_1 ++ hs))) 2 rfl rfl rfl rfl rfl rfl Tryd.sizeOf3 rfl (by simp) rfl ?_
           refine Ll.nil (Lu.joint (pT 3 [0, 1] rfl rfl) ?_)
           refine Lu.nil ?_
           refine Kt.joined (()) trivial (Sub.sel [4, 7, 8, 89, 90] rfl) (fun _ h => h.sub (List.Sublist.cons_cons _ (List.Sublist.cons_cons _ (List.Sublist.cons_cons _ (List.Sublist.refl _)))))
          ·
           refine Ll.op (v := ptrV q94_1) rfl rfl rfl (OpQ.nilCheck rfl rfl) ?_
           refine Ll.nil (Lu.joint (pT 3 [0, 1] rfl rfl) ?_)
           refine Lu.take rfl rfl rfl rfl rfl (OpQ.fieldAddr rfl Tryd.runUnderlying148 rfl Tryd.sizeOf3 rfl rfl) (pT 3 [0, 1] rfl rfl) ?_
           refine Lu.two rfl rfl ?_ ?_
           ·
            refine Ll.op rfl rfl rfl (OpQ.loadOwn 2 rfl Tryd.isAgg3 rfl rfl rfl) ?_
            refine Ll.nil (Lu.joint (pT 3 [0, 1] rfl rfl) ?_)
            refine Lu.loud rfl ?_
            refine Ll.op (v := i6_ ((frB fm2 : Int))) rfl rfl rfl (OpQ.load1 rfl Tryd.isAgg3 rfl (fun w1 hw1 => tree_free (TreeB.tree (Own.dropR (Own.drop (f := [_, _, _]) hw1)) hTq94_1))) ?_
            refine Ll.nil (Lu.joint (pT 3 [0, 1] rfl rfl) ?_)
            refine Lu.take (v := i6_ (((0 ||| (frB fm2) : Nat) : Int))) rfl rfl rfl rfl rfl (OpQ.or (a := 0) (b := frB fm2) rfl rfl rfl (by repeat' (first | omega | apply or_lt62 | apply or_lt16)) (by repeat' (first | omega | apply or_lt62 | apply or_lt16))) (pT 3 [0, 1] rfl rfl) ?_
            refine Lu.loud rfl ?_
            refine Ll.op (v := pt_ p15) rfl rfl rfl (OpQ.nilCheck rfl rfl) ?_
            refine Ll.nil (Lu.joint (pT 3 [0, 1] rfl rfl) ?_)
            refine Lu.take rfl rfl rfl rfl rfl (OpQ.fieldAddr rfl Tryd.runUnderlying148 rfl Tryd.sizeOf3 rfl rfl) (pT 3 [0, 1] rfl rfl) ?_
            refine Lu.loud rfl ?_
            refine Ll.store1 (v := i6_ (((0 ||| (frB fm2) : Nat) : Int))) (hs' := (_ :: _ :: bk_ p15 #[.int .u8 (((s.getD 0 0).toNat : Int)), .slice none 0 0, sl_ g107_1 1 c107_1, i6_ (((0 ||| (frB fm2) : Nat) : Int)), i6_ 0] 148 :: (new94_1 ++ hs))) 2 rfl rfl rfl rfl rfl rfl Tryd.sizeOf3 rfl (by simp) rfl ?_
            refine Ll.nil (Lu.joint (pT 3 [0, 1] rfl rfl) ?_)
            refine Lu.nil ?_
            refine Kt.joined (()) trivial (Sub.sel [4, 7, 8, 89, 90] rfl) (fun _ h => h.sub (List.Sublist.cons_cons _ (List.Sublist.cons_cons _ (List.Sublist.cons_cons _ (List.Sublist.refl _)))))
           ·
            refine Ll.op (v := i6_ ((frB fm2 : Int))) rfl rfl rfl (OpQ.load1 rfl Tryd.isAgg3 rfl (fun w1 hw1 => tree_free (TreeB.tree (Own.dropR (Own.drop (f := [_, _, _]) hw1)) hTq94_1))) ?_
            refine Ll.nil (Lu.joint (pT 3 [0, 1] rfl rfl) ?_)
            refine Lu.loud rfl ?_
            refine Ll.op rfl rfl rfl (OpQ.loadOwn 2 rfl Tryd.isAgg3 rfl rfl rfl) ?_
            refine Ll.nil (Lu.joint (pT 3 [0, 1] rfl rfl) ?_)
            refine Lu.take (v := i6_ (((0 ||| (frB fm2) : Nat) : Int))) rfl rfl rfl rfl rfl (OpQ.or (a := 0) (b := frB fm2) rfl rfl rfl (by repeat' (first | omega | apply or_lt62 | apply or_lt16)) (by repeat' (first | omega | apply or_lt62 | apply or_lt16))) (pT 3 [0, 1] rfl rfl) ?_
            refine Lu.loud rfl ?_
            refine Ll.op (v := pt_ p15) rfl rfl rfl (OpQ.nilCheck rfl rfl) ?_
            refine Ll.nil (Lu.joint (pT 3 [0, 1] rfl rfl) ?_)
            refine Lu.take rfl rfl rfl rfl rfl (OpQ.fieldAddr rfl Tryd.runUnderlying148 rfl Tryd.sizeOf3 rfl rfl) (pT 3 [0, 1] rfl rfl) ?_
            refine Lu.loud rfl ?_
            refine Ll.store1 (v := i6_ (((0 ||| (frB fm2) : Nat) : Int))) (hs' := (_ :: _ :: bk_ p15 #[.int .u8 (((s.getD 0 0).toNat : Int)), .slice none 0 0, sl_ g107_1 1 c107_1, i6_ (((0 ||| (frB fm2) : Nat) : Int)), i6_ 0] 148 :: (new94_1 ++ hs))) 2 rfl rfl rfl rfl rfl rfl Tryd.sizeOf3 rfl (by simp) rfl ?_
            refine Ll.nil (Lu.joint (pT 3 [0, 1] rfl rfl) ?_)
            refine Lu.nil ?_
            refine Kt.joined (()) trivial (Sub.sel [4, 7, 8, 89, 90] rfl) (fun _ h => h.sub (List.Sublist.cons_cons _ (List.Sublist.cons_cons _ (List.Sublist.cons_cons _ (List.Sublist.refl _)))))
         ·
          refine Ll.op (v := ptrV q94_1) rfl rfl rfl (OpQ.nilCheck rfl rfl) ?_
          refine Ll.nil (Lu.joint (pT 3 [0, 1] rfl rfl) ?_)
          refine Lu.take rfl rfl rfl rfl rfl (OpQ.fieldAddr rfl Tryd.runUnderlying148 rfl Tryd.sizeOf3 rfl rfl) (pT 3 [0, 1] rfl rfl) ?_
          refine Lu.two rfl rfl ?_ ?_
          ·
           refine Ll.op (v := pt_ p15) rfl rfl rfl (OpQ.nilCheck rfl rfl) ?_
           refine Ll.nil (Lu.joint (pT 3 [0, 1] rfl rfl) ?_)
           refine Lu.take rfl rfl rfl rfl rfl (OpQ.fieldAddr rfl Tryd.runUnderlying148 rfl Tryd.sizeOf3 rfl rfl) (pT 3 [0, 1] rfl rfl) ?_
           refine Lu.two rfl rfl ?_ ?_
           ·
            refine Ll.op rfl rfl rfl (OpQ.loadOwn 2 rfl Tryd.isAgg3 rfl rfl rfl) ?_
            refine Ll.nil (Lu.joint (pT 3 [0, 1] rfl rfl) ?_)
            refine Lu.loud rfl ?_
            refine Ll.op (v := i6_ ((frB fm2 : Int))) rfl rfl rfl (OpQ.load1 rfl Tryd.isAgg3 rfl (fun w1 hw1 => tree_free (TreeB.tree (Own.dropR (Own.drop (f := [_, _, _]) hw1)) hTq94_1))) ?_
            refine Ll.nil (Lu.joint (pT 3 [0, 1] rfl rfl) ?_)
            refine Lu.take (v := i6_ (((0 ||| (frB fm2) : Nat) : Int))) rfl rfl rfl rfl rfl (OpQ.or (a := 0) (b := frB fm2) rfl rfl rfl (by repeat' (first | omega | apply or_lt62 | apply or_lt16)) (by repeat' (first | omega | apply or_lt62 | apply or_lt16))) (pT 3 [0, 1] rfl rfl) ?_
            refine Lu.loud rfl ?_
            refine Ll.op (v := pt_ p15) rfl rfl rfl (OpQ.nilCheck rfl rfl) ?_
            refine Ll.nil (Lu.joint (pT 3 [0, 1] rfl rfl) ?_)
            refine Lu.take rfl rfl rfl rfl rfl (OpQ.fieldAddr rfl Tryd.runUnderlying148 rfl Tryd.sizeOf3 rfl rfl) (pT 3 [0, 1] rfl rfl) ?_
            refine Lu.loud rfl ?_
            refine Ll.store1 (v := i6_ (((0 ||| (frB fm2) : Nat) : Int))) (hs' := (_ :: _ :: bk_ p15 #[.int .u8 (((s.getD 0 0).toNat : Int)), .slice none 0 0, sl_ g107_1 1 c107_1, i6_ (((0 ||| (frB fm2) : Nat) : Int)), i6_ 0] 148 :: (new94_1 ++ hs))) 2 rfl rfl rfl rfl rfl rfl Tryd.sizeOf3 rfl (by simp) rfl ?_
            refine Ll.nil (Lu.joint (pT 3 [0, 1] rfl rfl) ?_)
            refine Lu.nil ?_
            refine Kt.joined (()) trivial (Sub.sel [4, 7, 8, 89, 90] rfl) (fun _ h => h.sub (List.Sublist.cons_cons _ (List.Sublist.cons_cons _ (List.Sublist.cons_cons _ (List.Sublist.refl _)))))
           ·
            refine Ll.op (v := i6_ ((frB fm2 : Int))) rfl rfl rfl (OpQ.load1 rfl Tryd.isAgg3 rfl (fun w1 hw1 => tree_free (TreeB.tree (Own.dropR (Own.drop (f := [_, _, _]) hw1)) hTq94_1))) ?_
            refine Ll.nil (Lu.joint (pT 3 [0, 1] rfl rfl) ?_)
            refine Lu.loud rfl ?_
            refine Ll.op rfl rfl rfl (OpQ.loadOwn 2 rfl Tryd.isAgg3 rfl rfl rfl) ?_
            refine Ll.nil (Lu.joint (pT 3 [0, 1] rfl rfl) ?_)
            refine Lu.take (v := i6_ (((0 ||| (frB fm2) : Nat) : Int))) rfl rfl rfl rfl rfl (OpQ.or (a := 0) (b := frB fm2) rfl rfl rfl (by repeat' (first | omega | apply or_lt62 | apply or_lt16)) (by repeat' (first | omega | apply or_lt62 | apply or_lt16))) (pT 3 [0, 1] rfl rfl) ?_
            refine Lu.loud rfl ?_
            refine Ll.op (v := pt_ p15) rfl rfl rfl (OpQ.nilCheck rfl rfl) ?_
            refine Ll.nil (Lu.joint (pT 3 [0, 1] rfl rfl) ?_)
            refine Lu.take rfl rfl rfl rfl rfl (OpQ.fieldAddr rfl Tryd.runUnderlying148 rfl Tryd.sizeOf3 rfl rfl) (pT 3 [0, 1] rfl rfl) ?_
            refine Lu.loud rfl ?_
            refine Ll.store1 (v := i6_ (((0 ||| (frB fm2) : Nat) : Int))) (hs' := (_ :: _ :: bk_ p15 #[.int .u8 (((s.getD 0 0).toNat : Int)), .slice none 0 0, sl_ g107_1 1 c107_1, i6_ (((0 ||| (frB fm2) : Nat) : Int)), i6_ 0] 148 :: (new94_1 ++ hs))) 2 rfl rfl rfl rfl rfl rfl Tryd.sizeOf3 rfl (by simp) rfl ?_
            refine Ll.nil (Lu.joint (pT 3 [0, 1] rfl rfl) ?_)
            refine Lu.nil ?_
            refine Kt.joined (()) trivial (Sub.sel [4, 7, 8, 89, 90] rfl) (fun _ h => h.sub (List.Sublist.cons_cons _ (List.Sublist.cons_cons _ (List.Sublist.cons_cons _ (List.Sublist.refl _)))))
          ·
           refine Ll.op (v := i6_ ((frB fm2 : Int))) rfl rfl rfl (OpQ.load1 rfl Tryd.isAgg3 rfl (fun w1 hw1 => tree_free (TreeB.tree (Own.dropR (Own.drop (f := [_, _, _]) hw1)) hTq94_1))) ?_
           refine Ll.nil (Lu.joint (pT 3 [0, 1] rfl rfl) ?_)
           refine Lu.loud rfl ?_
           refine Ll.op (v := pt_ p15) rfl rfl rfl (OpQ.nilCheck rfl rfl) ?_
           refine Ll.nil (Lu.joint (pT 3 [0, 1] rfl rfl) ?_)
           refine Lu.take rfl rfl rfl rfl rfl (OpQ.fieldAddr rfl Tryd.runUnderlying148 rfl Tryd.sizeOf3 rfl rfl) (pT 3 [0, 1] rfl rfl) ?_
           refine Lu.loud rfl ?_
           refine Ll.op rfl rfl rfl (OpQ.loadOwn 2 rfl Tryd.isAgg3 rfl rfl rfl) ?_
           refine Ll.nil (Lu.joint (pT 3 [0, 1] rfl rfl) ?_)
           refine Lu.take (v := i6_ (((0 ||| (frB fm2) : Nat) : Int))) rfl rfl rfl rfl rfl (OpQ.or (a := 0) (b := frB fm2) rfl rfl rfl (by repeat' (first | omega | apply or_lt62 | apply or_lt16)) (by repeat' (first | omega | apply or_lt62 | apply or_lt16))) (pT 3 [0, 1] rfl rfl) ?_
           refine Lu.loud rfl ?_
           refine Ll.op (v := pt_ p15) rfl rfl rfl (OpQ.nilCheck rfl rfl) ?_
           refine Ll.nil (Lu.joint (pT 3 [0, 1] rfl rfl) ?_)
           refine Lu.take rfl rfl rfl rfl rfl (OpQ.fieldAddr rfl Tryd.runUnderlying148 rfl Tryd.sizeOf3 rfl rfl) (pT 3 [0, 1] rfl rfl) ?_
           refine Lu.loud rfl ?_
           refine Ll.store1 (v := i6_ (((0 ||| (frB fm2) : Nat) : Int))) (hs' := (_ :: _ :: bk_ p15 #[.int .u8 (((s.getD 0 0).toNat : Int)), .slice none 0 0, sl_ g107_1 1 c107_1, i6_ (((0 ||| (frB fm2) : Nat) : Int)), i6_ 0] 148 :: (new94_1 ++ hs))) 2 rfl rfl rfl rfl rfl rfl Tryd.sizeOf3 rfl (by simp) rfl ?_
           refine Ll.nil (Lu.joint (pT 3 [0, 1] rfl rfl) ?_)
           refine Lu.nil ?_
           refine Kt.joined (()) trivial (Sub.sel [4, 7, 8, 89, 90] rfl) (fun _ h => h.sub (List.Sublist.cons_cons _ (List.Sublist.cons_cons _ (List.Sublist.cons_cons _ (List.Sublist.refl _)))))
        rintro _ hj
        refine Kt.sel [4, 7, 8, 89, 90] [_, _, _, _, _] rfl ?_
        refine Wk.seq ?_
        refine Wk.join (σ := Unit) (fun _ => True) (fun _ => [(4, pt_ p15), (8, str r2), (89, i6_ 2), (90, i6_ 0)]) (fun _ => Own B w0 (bk_ g107_1 u107_1 111 :: bk_ p106_1 #[ptrV q94_1] 111 :: bk_ p15 #[.int .u8 (((s.getD 0 0).toNat : Int)), .slice none 0 0, sl_ g107_1 1 c107_1, i6_ (((0 ||| (frB fm2) : Nat) : Int)), i6_ (((0 ||| (allB fm2) : Nat) : Int))] 148 :: (new94_1 ++ hs))) ?_ ?_
        ·
         refine Wk.regionU (S := Own B w0 (bk_ g107_1 u107_1 111 :: bk_ p106_1 #[ptrV q94_1] 111 :: (new94_1 ++ hs))) (.take 0 (.take 4 (.two 1 (.take 2 (.two 3 (.one 5 (.take 6 (.one 7 (.take 8 (.one 9 (.take 10 (.one 11 .done))))))) 5 (.take 6 (.two 3 (.one 7 (.take 8 (.one 9 (.take 10 (.one 11 .done))))) 7 (.one 3 (.take 8 (.one 9 (.take 10 (.one 11 .done))))))))) 5 (.take 6 (.two 1 (.take 2 (.two 3 (.one 7 (.take 8 (.one 9 (.take 10 (.one 11 .done))))) 7 (.one 3 (.take 8 (.one 9 (.take 10 (.one 11 .done))))))) 7 (.one 1 (.take 2 (.one 3 (.take 8 (.one 9 (.take 10 (.one 11 .done)))))))))))) Base.mixed (fun _ h => h.drawn) (by kernel_rfl) ?_
         refine Lu.run 2 rfl (pT 3 [0, 1] rfl rfl) ?_
         refine Lu.two rfl rfl ?_ ?_
         ·
          refine Ll.op (v := pt_ p15) rfl rfl rfl (OpQ.nilCheck rfl rfl) ?_
          refine Ll.nil (Lu.joint (pT 3 [0, 1] rfl rfl) ?_)
          refine Lu.take rfl rfl rfl rfl rfl (OpQ.fieldAddr rfl Tryd.runUnderlying148 rfl Tryd.sizeOf3 rfl rfl) (pT 3 [0, 1] rfl rfl) ?_
          refine Lu.two rfl rfl ?_ ?_
          ·
           refine Ll.op rfl rfl rfl (OpQ.loadOwn 2 rfl Tryd.isAgg3 rfl rfl rfl) ?_
           refine Ll.nil (Lu.joint (pT 3 [0, 1] rfl rfl) ?_)
           refine Lu.loud rfl ?_
           refine Ll.op (v := ptrV q94_1) rfl rfl rfl (OpQ.nilCheck rfl rfl) ?_
           refine Ll.nil (Lu.joint (pT 3 [0, 1] rfl rfl) ?_)
           refine Lu.take rfl rfl rfl rfl rfl (OpQ.fieldAddr rfl Tryd.runUnderlying148 rfl Tryd.sizeOf3 rfl rfl) (pT 3 [0, 1] rfl rfl) ?_
           refine Lu.loud rfl ?_
           refine Ll.op (v := i6_ ((allB fm2 : Int))) rfl rfl rfl (OpQ.load1 rfl Tryd.isAgg3 rfl (fun w1 hw1 => tree_all (TreeB.tree (Own.dropR (Own.drop (f := [_, _, _]) hw1)) hTq94_1))) ?_
           refine Ll.nil (Lu.joint (pT 3 [0, 1] rfl rfl) ?_)
           refine Lu.take (v := i6_ (((0 ||| (allB fm2) : Nat) : Int))) rfl rfl rfl rfl rfl (OpQ.or (a := 0) (b := allB fm2) rfl rfl rfl (by repeat' (first | omega | apply or_lt62 | apply or_lt16)) (by repeat' (first | omega | apply or_lt62 | apply or_lt16))) (pT 3 [0, 1] rfl rfl) ?_
           refine Lu.loud rfl ?_
           refine Ll.op (v := pt_ p15) rfl rfl rfl (OpQ.nilCheck rfl rfl) ?_
           refine Ll.nil (Lu.joint (pT 3 [0, 1] rfl rfl) ?_)
           refine Lu.take rfl rfl rfl rfl rfl (OpQ.fieldAddr rfl Tryd.runUnderlying148 rfl Tryd.sizeOf3 rfl rfl) (pT 3 [0, 1] rfl rfl) ?_
           refine Lu.loud rfl ?_
           refine Ll.store1 (v := i6_ (((0 ||| (allB fm2) : Nat) : Int))) (hs' := (_ :: _ :: bk_ p15 #[.int .u8 (((s.getD 0 0).toNat : Int)), .slice none 0 0, sl_ g107_1 1 c107_1, i6_ (((0 ||| (frB fm2) : Nat) : Int)), i6_ (((0 ||| (allB fm2) : Nat) : Int))] 148 :: (new94_1 ++ hs))) 2 rfl rfl rfl rfl rfl rfl Tryd.sizeOf3 rfl (by simp) rfl ?_
           refine Ll.nil (Lu.joint (pT 3 [0, 1] rfl rfl) ?_)
           refine Lu.nil ?_
           refine Kt.joined (()) trivial (Sub.sel [4, 8, 89, 90] rfl) (fun _ h => h.sub (List.Sublist.cons_cons _ (List.Sublist.cons_cons _ (List.Sublist.cons_cons _ (List.Sublist.refl _)))))
          ·
           refine Ll.op (v := ptrV q94_1) rfl rfl rfl (OpQ.nilCheck rfl rfl) ?_
           refine Ll.nil (Lu.joint (pT 3 [0, 1] rfl rfl) ?_)
           refine Lu.take rfl rfl rfl rfl rfl (OpQ.fieldAddr rfl Tryd.runUnderlying148 rfl Tryd.sizeOf3 rfl rfl) (pT 3 [0, 1] rfl rfl) ?_
           refine Lu.two rfl rfl ?_ ?_
           ·
            refine Ll.op rfl rfl rfl (OpQ.loadOwn 2 rfl Tryd.isAgg3 rfl rfl rfl) ?_
            refine Ll.nil (Lu.joint (pT 3 [0, 1] rfl rfl) ?_)
            refine Lu.loud rfl ?_
            refine Ll.op (v := i6_ ((allB fm2 : Int))) rfl rfl rfl (OpQ.load1 rfl Tryd.isAgg3 rfl (fun w1 hw1 => tree_all (TreeB.tree (Own.dropR (Own.drop (f := [_, _, _]) hw1)) hTq94_1))) ?_
            refine Ll.nil (Lu.joint (pT 3 [0, 1] rfl rfl) ?_)
            refine Lu.take (v := i6_ (((0 ||| (allB fm2) : Nat) : Int))) rfl rfl rfl rfl rfl (OpQ.or (a := 0) (b := allB fm2) rfl rfl rfl (by repeat' (first | omega | apply or_lt62 | apply or_lt16)) (by repeat' (first | omega | apply or_lt62 | apply or_lt16))) (pT 3 [0, 1] rfl rfl) ?_
            refine Lu.loud rfl ?_
            refine Ll.op (v := pt_ p15) rfl rfl rfl (OpQ.nilCheck rfl rfl) ?_
            refine Ll.nil (Lu.joint (pT 3 [0, 1] rfl rfl) ?_)
            refine Lu.take rfl rfl rfl rfl rfl (OpQ.fieldAddr rfl Tryd.runUnderlying148 rfl Tryd.sizeOf3 rfl rfl) (pT 3 [0, 1] rfl rfl) ?_
            refine Lu.loud rfl ?_
            refine Ll.store1 (v := i6_ (((0 ||| (allB fm2) : Nat) : Int))) (hs' := (_ :: _ :: bk_ p15 #[.int .u8 (((s.getD 0 0).toNat : Int)), .slice none 0 0, sl_ g107_1 1 c107_1, i6_ (((0 ||| (frB fm2) : Nat) : Int)), i6_ (((0 ||| (allB fm2) : Nat) : Int))] 148 :: (new94_1 ++ hs))) 2 rfl rfl rfl rfl rfl rfl Tryd.sizeOf3 rfl (by simp) rfl ?_
            refine Ll.nil (Lu.joint (pT 3 [0, 1] rfl rfl) ?_)
            refine Lu.nil ?_
            refine Kt.joined (()) trivial (Sub.sel [4, 8, 89, 90] rfl) (fun _ h => h.sub (List.Sublist.cons_cons _ (List.Sublist.cons_cons _ (List.Sublist.cons_cons _ (List.Sublist.refl _)))))
           ·
            refine Ll.op (v := i6_ ((allB fm2 : Int))) rfl rfl rfl (OpQ.load1 rfl Tryd.isAgg3 rfl (fun w1 hw1 => tree_all (TreeB.tree (Own.dropR (Own.drop (f := [_, _, _]) hw1)) hTq94_1))) ?_
            refine Ll.nil (Lu.joint (pT 3 [0, 1] rfl rfl) ?_)
            refine Lu.loud rfl ?_
            refine Ll.op rfl rfl rfl (OpQ.loadOwn 2 rfl Tryd.isAgg3 rfl rfl rfl) ?_
            refine Ll.nil (Lu.joint (pT 3 [0, 1] rfl rfl) ?_)
            refine Lu.take (v := i6_ (((0 ||| (allB fm2) : Nat) : Int))) rfl rfl rfl rfl rfl (OpQ.or (a := 0) (b := allB fm2) rfl rfl rfl (by repeat' (first | omega | apply or_lt62 | apply or_lt16)) (by repeat' (first | omega | apply or_lt62 | apply or_lt16))) (pT 3 [0, 1] rfl rfl) ?_
            refine Lu.loud rfl ?_
            refine Ll.op (v := pt_ p15) rfl rfl rfl (OpQ.nilCheck rfl rfl) ?_
            refine Ll.nil (Lu.joint (pT 3 [0, 1] rfl rfl) ?_)
            refine Lu.take rfl rfl rfl rfl rfl (OpQ.fieldAddr rfl Tryd.runUnderlying148 rfl Tryd.sizeOf3 rfl rfl) (pT 3 [0, 1] rfl rfl) ?_
            refine Lu.loud rfl ?_
            refine Ll.store1 (v := i6_ (((0 ||| (allB fm2) : Nat) : Int))) (hs' := (_ :: _ :: bk_ p15 #[.int .u8 (((s.getD 0 0).toNat : Int)), .slice none 0 0, sl_ g107_1 1 c107_1, i6_ (((0 ||| (frB fm2) : Nat) : Int)), i6_ (((0 ||| (allB fm2) : Nat) : Int))] 148 :: (new94_1 ++ hs))) 2 rfl rfl rfl rfl rfl rfl Tryd.sizeOf3 rfl (by simp) rfl ?_
            refine Ll.nil (Lu.joint (pT 3 [0, 1] rfl rfl) ?_)
            refine Lu.nil ?_
            refine Kt.joined (()) trivial (Sub.sel [4, 8, 89, 90] rfl) (fun _ h => h.sub (List.Sublist.cons_cons _ (List.Sublist.cons_cons _ (List.Sublist.cons_cons _ (List.Sublist.refl _)))))
         ·
          refine Ll.op (v := ptrV q94_1) rfl rfl rfl (OpQ.nilCheck rfl rfl) ?_
          refine Ll.nil (Lu.joint (pT 3 [0, 1] rfl rfl) ?_)
          refine Lu.take rfl rfl rfl rfl rfl (OpQ.fieldAddr rfl Tryd.runUnderlying148 rfl Tryd.sizeOf3 rfl rfl) (pT 3 [0, 1] rfl rfl) ?_
          refine Lu.two rfl rfl ?_ ?_
          ·
           refine Ll.op (v := pt_ p15) rfl rfl rfl (OpQ.nilCheck rfl rfl) ?_
           refine Ll.nil (Lu.joint (pT 3 [0, 1] rfl rfl) ?_)
           refine Lu.take rfl rfl rfl rfl rfl (OpQ.fieldAddr rfl Tryd.runUnderlying148 rfl Tryd.sizeOf3 rfl rfl) (pT 3 [0, 1] rfl rfl) ?_
           refine Lu.two rfl rfl ?_ ?_
           ·
            refine Ll.op rfl rfl rfl (OpQ.loadOwn 2 rfl Tryd.isAgg3 rfl rfl rfl) ?_
            refine Ll.nil (Lu.joint (pT 3 [0, 1] rfl rfl) ?_)
            refine Lu.loud rfl ?_
            refine Ll.op (v := i6_ ((allB fm2 : Int))) rfl rfl rfl (OpQ.load1 rfl Tryd.isAgg3 rfl (fun w1 hw1 => tree_all (TreeB.tree (Own.dropR (Own.drop (f := [_, _, _]) hw1)) hTq94_1))) ?_
            refine Ll.nil (Lu.joint (pT 3 [0, 1] rfl rfl) ?_)
            refine Lu.take (v := i6_ (((0 ||| (allB fm2) : Nat) : Int))) rfl rfl rfl rfl rfl (OpQ.or (a := 0) (b := allB fm2) rfl rfl rfl (by repeat' (first | omega | apply or_lt62 | apply or_lt16)) (by repeat' (first | omega | apply or_lt62 | apply or_lt16))) (pT 3 [0, 1] rfl rfl) ?_
            refine Lu.loud rfl ?_
            refine Ll.op (v := pt_ p15) rfl rfl rfl (OpQ.nilCheck rfl rfl) ?_
            refine Ll.nil (Lu.joint (pT 3 [0, 1] rfl rfl) ?_)
            refine Lu.take rfl rfl rfl rfl rfl (OpQ.fieldAddr rfl Tryd.runUnderlying148 rfl Tryd.sizeOf3 rfl rfl) (pT 3 [0, 1] rfl rfl) ?_
            refine Lu.loud rfl ?_
            refine Ll.store1 (v := i6_ (((0 ||| (allB fm2) : Nat) : Int))) (hs' := (_ :: _ :: bk_ p15 #[.int .u8 (((s.getD 0 0).toNat : Int)), .slice none 0 0, sl_ g107_1 1 c107_1, i6_ (((0 ||| (frB fm2) : Nat) : Int)), i6_ (((0 ||| (allB fm2) : Nat) : Int))] 148 :: (new94_1 ++ hs))) 2 rfl rfl rfl rfl rfl rfl Tryd.sizeOf3 rfl (by simp) rfl ?_
            refine Ll.nil (Lu.joint (pT 3 [0, 1] rfl rfl) ?_)
            refine Lu.nil ?_
            refine Kt.joined (()) trivial (Sub.sel [4, 8, 89, 90] rfl) (fun _ h => h.sub (List.Sublist.cons_cons _ (List.Sublist.cons_cons _ (List.Sublist.cons_cons _ (List.Sublist.refl _)))))
           ·
            refine Ll.op (v := i6_ ((allB fm2 : Int))) rfl rfl rfl (OpQ.load1 rfl Tryd.isAgg3 rfl (fun w1 hw1 => tree_all (TreeB.tree (Own.dropR (Own.drop (f := [_, _, _]) hw1)) hTq94_1))) ?_
            refine Ll.nil (Lu.joint (pT 3 [0, 1] rfl rfl) ?_)
            refine Lu.loud rfl ?_
            refine Ll.op rfl rfl rfl (OpQ.loadOwn 2 rfl Tryd.isAgg3 rfl rfl rfl) ?_
            refine Ll.nil (Lu.joint (pT 3 [0, 1] rfl rfl) ?_)
            refine Lu.take (v := i6_ (((0 ||| (allB fm2) : Nat) : Int))) rfl rfl rfl rfl rfl (OpQ.or (a := 0) (b := allB fm2) rfl rfl rfl (by repeat' (first | omega | apply or_lt62 | apply or_lt16)) (by repeat' (first | omega | apply or_lt62 | apply or_lt16))) (pT 3 [0, 1] rfl rfl) ?_
            refine Lu.loud rfl ?_
            refine Ll.op (v := pt_ p15) rfl rfl rfl (OpQ.nilCheck rfl rfl) ?_
            refine Ll.nil (Lu.joint (pT 3 [0, 1] rfl rfl) ?_)
            refine Lu.take rfl rfl rfl rfl rfl (OpQ.fieldAddr rfl Tryd.runUnderlying148 rfl Tryd.sizeOf3 rfl rfl) (pT 3 [0, 1] rfl rfl) ?_
            refine Lu.loud rfl ?_
            refine Ll.store1 (v := i6_ (((0 ||| (allB fm2) : Nat) : Int))) (hs' := (_ :: _ :: bk_ p15 #[.int .u8 (((s.getD 0 0).toNat : Int)), .slice none 0 0, sl_ g107_1 1 c107_1, i6_ (((0 ||| (frB fm2) : Nat) : Int)), i6_ (((0 ||| (allB fm2) : Nat) : Int))] 148 :: (new94_1 ++ hs))) 2 rfl rfl rfl rfl rfl rfl Tryd.sizeOf3 rfl (by simp) rfl ?_
            refine Ll.nil (Lu.joint (pT 3 [0, 1] rfl rfl) ?_)
            refine Lu.nil ?_
            refine Kt.joined (()) trivial (Sub.sel [4, 8, 89, 90] rfl) (fun _ h => h.sub (List.Sublist.cons_cons _ (List.Sublist.cons_cons _ (List.Sublist.cons_cons _ (List.Sublist.refl _)))))
          ·
           refine Ll.op (v := i6_ ((allB fm2 : Int))) rfl rfl rfl (OpQ.load1 rfl Tryd.isAgg3 rfl (fun w1 hw1 => tree_all (TreeB.tree (Own.dropR (Own.drop (f := [_, _, _]) hw1)) hTq94_1))) ?_
           refine Ll.nil (Lu.joint (pT 3 [0, 1] rfl rfl) ?_)
           refine Lu.loud rfl ?_
           refine Ll.op (v := pt_ p15) rfl rfl rfl (OpQ.nilCheck rfl rfl) ?_
           refine Ll.nil (Lu.joint (pT 3 [0, 1] rfl rfl) ?_)
           refine Lu.take rfl rfl rfl rfl rfl (OpQ.fieldAddr rfl Tryd.runUnderlying148 rfl Tryd.sizeOf3 rfl rfl) (pT 3 [0, 1] rfl rfl) ?_
           refine Lu.loud rfl ?_
           refine Ll.op rfl rfl rfl (OpQ.loadOwn 2 rfl Tryd.isAgg3 rfl rfl rfl) ?_
           refine Ll.nil (Lu.joint (pT 3 [0, 1] rfl rfl) ?_)
           refine Lu.take (v := i6_ (((0 ||| (allB fm2) : Nat) : Int))) rfl rfl rfl rfl rfl (OpQ.or (a := 0) (b := allB fm2) rfl rfl rfl (by repeat' (first | omega | apply or_lt62 | apply or_lt16)) (by repeat' (first | omega | apply or_lt62 | apply or_lt16))) (pT 3 [0, 1] rfl rfl) ?_
           refine Lu.loud rfl ?_
           refine Ll.op (v := pt_ p15) rfl rfl rfl (OpQ.nilCheck rfl rfl) ?_
           refine Ll.nil (Lu.joint (pT 3 [0, 1] rfl rfl) ?_)
           refine Lu.take rfl rfl rfl rfl rfl (OpQ.fieldAddr rfl Tryd.runUnderlying148 rfl Tryd.sizeOf3 rfl rfl) (pT 3 [0, 1] rfl rfl) ?_
           refine Lu.loud rfl ?_
           refine Ll.store1 (v := i6_ (((0 ||| (allB fm2) : Nat) : Int))) (hs' := (_ :: _ :: bk_ p15 #[.int .u8 (((s.getD 0 0).toNat : Int)), .slice none 0 0, sl_ g107_1 1 c107_1, i6_ (((0 ||| (frB fm2) : Nat) : Int)), i6_ (((0 ||| (allB fm2) : Nat) : Int))] 148 :: (new94_1 ++ hs))) 2 rfl rfl rfl rfl rfl rfl Tryd.sizeOf3 rfl (by simp) rfl ?_
           refine Ll.nil (Lu.joint (pT 3 [0, 1] rfl rfl) ?_)
           refine Lu.nil ?_
           refine Kt.joined (()) trivial (Sub.sel [4, 8, 89, 90] rfl) (fun _ h => h.sub (List.Sublist.cons_cons _ (List.Sublist.cons_cons _ (List.Sublist.cons_cons _ (List.Sublist.refl _)))))
        rintro _ hj
        refine Kt.sel [4, 8, 89, 90] [_, _, _, _] rfl ?_
        refine Wk.regionQ ?_
        refine Lq.run 2 rfl ?_
        refine Lq.nil ?_
        refine Kt.sel [0, 4, 89, 90] [_, _, _, _] rfl ?_
        refine Wk.regionQ ?_
        refine Lq.op rfl rfl rfl (OpQ.add rfl rfl rfl (by decide) (by decide)) ?_
        refine Lq.run 1 rfl ?_
        refine Lq.nil ?_
        refine Kt.round (e' := [(0, str r2), (4, pt_ p15), (89, i6_ 2), (90, i6_ 1)]) (Sub.sel [0, 4, 89, 90] rfl) ?_
        refine Wk.seq ?_
        refine Wk.regionQ ?_
        refine Lq.run 1 rfl ?_
        refine Lq.nil ?_
        refine Kt.sel [0, 4, 89, 90, 91] [_, _, _, _, _] rfl ?_
        refine Wk.seq ?_
        refine Wk.condT rfl ?_
        refine Wk.skip ?_
        refine Kt.sel [0, 4, 89, 90] [_, _, _, _] rfl ?_
        refine Wk.seq ?_
        refine Wk.block ?_
        refine Wk.seq ?_
        rcases hpp3 : parse r2 with _ | ⟨fm3, r3⟩
        ·
         refine Wk.region ?_
         refine Ll.run 1 rfl ?_
         refine Ll.callGet (σ := List UInt8) (ok := fun _ => True) (v := fun x => .tuple #[.pointer none, str x]) (hs' := fun _ => (bk_ g107_1 u107_1 111 :: bk_ p106_1 #[ptrV q94_1] 111 :: bk_ p15 #[.int .u8 (((s.getD 0 0).toNat : Int)), .slice none 0 0, sl_ g107_1 1 c107_1, i6_ (((0 ||| (frB fm2) : Nat) : Int)), i6_ (((0 ||| (allB fm2) : Nat) : Int))] 148 :: (new94_1 ++ hs))) (xs := [.tmp 93]) (vs := [str r2]) rfl rfl rfl rfl Tryd.call150 rfl (fun w1 hw1 => (ih r2 B w0 (([bk_ g107_1 u107_1 111, bk_ p106_1 #[ptrV q94_1] 111, bk_ p15 #[.int .u8 (((s.getD 0 0).toNat : Int)), .slice none 0 0, sl_ g107_1 1 c107_1, i6_ (((0 ||| (frB fm2) : Nat) : Int)), i6_ (((0 ||| (allB fm2) : Nat) : Int))] 148] : List (Nat × Obj)) ++ (new94_1 ++ hs)) w1 (by simp only [List.length_drop] at *; omega) hw1).mono fun en w' hR => by rw [hpp3] at hR; obtain ⟨x, h1, h2⟩ := hR; exact ⟨x, h1, trivial, h2⟩) fun x94_2 _ => ?_
         show Ll _ _ (Own _ _ (_ :: _ :: _ :: (new94_1 ++ hs))) _ _ ((94, .tuple #[.pointer none, str x94_2]) :: _) _ _ _
         refine Ll.run 1 rfl ?_
         refine Ll.op (v := .pointer none) rfl rfl rfl (OpQ.extract rfl rfl rfl) ?_
         refine Ll.op (v := str x94_2) rfl rfl rfl (OpQ.extract rfl rfl rfl) ?_
         refine Ll.run 2 rfl ?_
         refine Ll.nil ?_
         refine Kt.sel [4, 7, 8, 89, 90] [_, _, _, _, _] rfl ?_
         refine Wk.seq ?_
         refine Wk.seq ?_
         refine Wk.regionQ ?_
         refine Lq.run 1 rfl ?_
         refine Lq.op (v := bo_ true) rfl rfl rfl (OpQ.eqNilP (p := none) rfl Tryd.underlying111 rfl rfl) ?_
         refine Lq.nil ?_
         refine Kt.sel [4, 7, 8, 89, 90, 98] [_, _, _, _, _, _] rfl ?_
         refine Wk.condT rfl ?_
         refine Wk.seq ?_
         refine Wk.regionQ ?_
         refine Lq.run 3 rfl ?_
         refine Lq.nil ?_
         refine Kt.sel [2, 3] [_, _] rfl ?_
         refine Wk.ret (Kt.end2 rfl rfl rfl fun w' hw => ?_)
         have hR : parse s = none := by first | exact (pp4 hs0 (two_of (by decide) (by decide) (by assumption))).2.1 (by assumption) | exact (pp4 hs0 (two_of (by decide) (by decide) (by assumption))).2.2 _ _ (by assumption) (by assumption)
         rw [hR]
         exact ⟨_, rfl, Own.drop (f := new94_1) (Own.drop (f := [_, _, _]) hw)⟩
        ·
         have hrl3 := parse_len hpp3
         refine Wk.region ?_
         refine Ll.run 1 rfl ?_
         refine Ll.callBack (ok := fun ((q, new) : Nat × List (Nat × Obj)) => TreeB 148 new fm3 q) (v := fun ((q, new) : Nat × List (Nat × Obj)) => .tuple #[ptrV q, str r3]) (new := fun ((q, new) : Nat × List (Nat × Obj)) => new) (hs := new94_1 ++ hs) (xs := [.tmp 93]) (vs := [str r2]) ([bk_ g107_1 u107_1 111, bk_ p106_1 #[ptrV q94_1] 111, bk_ p15 #[.int .u8 (((s.getD 0 0).toNat : Int)), .slice none 0 0, sl_ g107_1 1 c107_1, i6_ (((0 ||| (frB fm2) : Nat) : Int)), i6_ (((0 ||| (allB fm2) : Nat) : Int))] 148] : List (Nat × Obj)) rfl rfl rfl rfl Tryd.call150 rfl (fun w1 hw1 => (ih r2 B w0 (([bk_ g107_1 u107_1 111, bk_ p106_1 #[ptrV q94_1] 111, bk_ p15 #[.int .u8 (((s.getD 0 0).toNat : Int)), .slice none 0 0, sl_ g107_1 1 c107_1, i6_ (((0 ||| (frB fm2) : Nat) : Int)), i6_ (((0 ||| (allB fm2) : Nat) : Int))] 148] : List (Nat × Obj)) ++ (new94_1 ++ hs)) w1 (by simp only [List.length_drop] at *; omega) hw1).mono fun en w' hR => by rw [hpp3] at hR; obtain ⟨q, new, h1, h2, h3⟩ := hR; exact ⟨(q, new), h1, h2, h3⟩) fun ⟨q94_2, new94_2⟩ hTq94_2 => ?_
         dsimp only at hTq94_2
         have hfq94_2 := frB_lt (parse_wf _ (Nat.le_refl _) hpp3)
         have haq94_2 := allB_lt (parse_wf _ (Nat.le_refl _) hpp3)
         show Ll _ _ (Own _ _ (_ :: _ :: _ :: (new94_2 ++ (new94_1 ++ hs)))) _ _ ((94, .tuple #[ptrV q94_2, str r3]) :: _) _ _ _
         refine Ll.run 1 rfl ?_
         refine Ll.op (v := ptrV q94_2) rfl rfl rfl (OpQ.extract rfl rfl rfl) ?_
         refine Ll.op (v := str r3) rfl rfl rfl (OpQ.extract rfl rfl rfl) ?_
         refine Ll.run 2 rfl ?_
         refine Ll.nil ?_
         refine Kt.sel [4, 7, 8, 89, 90] [_, _, _, _, _] rfl ?_
         refine Wk.seq ?_
         refine Wk.seq ?_
         refine Wk.regionQ ?_
         refine Lq.run 1 rfl ?_
         refine Lq.op (v := bo_ false) rfl rfl rfl (OpQ.eqNilP (p := some ⟨q94_2, 0, none⟩) rfl Tryd.underlying111 rfl rfl) ?_
         refine Lq.nil ?_
         refine Kt.sel [4, 7, 8, 89, 90, 98] [_, _, _, _, _, _] rfl ?_
         refine Wk.condF rfl ?_
         refine Wk.skip ?_
         refine Kt.sel [4, 7, 8, 89, 90] [_, _, _, _, _] rfl ?_
         refine Wk.seq ?_
         refine Wk.region ?_
         refine Ll.run 2 rfl ?_
         refine Ll.op (v := pt_ p15) rfl rfl rfl (OpQ.nilCheck rfl rfl) ?_
         refine Ll.op rfl rfl rfl (OpQ.fieldAddr rfl Tryd.runUnderlying148 rfl Tryd.sizeOf146 rfl rfl) ?_
         refine Ll.op rfl rfl rfl (OpQ.loadOwn 2 rfl Tryd.isAgg146 rfl rfl rfl) ?_
         refine Ll.run 1 rfl ?_
         refine Ll.slice (xs := [.tmp 105]) (vs := [ptrV q94_2]) Base.elem146 rfl rfl rfl rfl rfl rfl (by decide) rfl fun p106_2 hp106_2 => ?_
         refine Ll.append1 (V := ptrV q94_2) (vs := [ptrV q94_1]) Base.elem146 1 0 rfl rfl rfl rfl rfl rfl rfl hcg107_1 hlg107_1 htg107_1 rfl rfl (by decide) fun g107_2 c107_2 u107_2 hg107_2 hcg107_2 hlg107_2 htg107_2 => ?_
         show Ll _ _ (Own _ _ (_ :: _ :: _ :: _ :: (new94_2 ++ (new94_1 ++ hs)))) _ _ ((107, sl_ g107_2 2 c107_2) :: _) _ _ _
         refine Ll.op (v := pt_ p15) rfl rfl rfl (OpQ.nilCheck rfl rfl) ?_
         refine Ll.op rfl rfl rfl (OpQ.fieldAddr rfl Tryd.runUnderlying148 rfl Tryd.sizeOf146 rfl rfl) ?_
         refine Ll.store1 (v := sl_ g107_2 2 c107_2) (hs' := (_ :: _ :: _ :: bk_ p15 #[.int .u8 (((s.getD 0 0).toNat : Int)), .slice none 0 0, sl_ g107_2 2 c107_2, i6_ (((0 ||| (frB fm2) : Nat) : Int)), i6_ (((0 ||| (allB fm2) : Nat) : Int))] 148 :: (new94_2 ++ (new94_1 ++ hs)))) 3 rfl rfl rfl rfl rfl rfl Tryd.sizeOf146 rfl (by simp) rfl ?_
         refine Ll.nil ?_
         refine Kt.sel [4, 7, 8, 89, 90] [_, _, _, _, _] rfl ?_
         refine Wk.seq ?_
         refine Wk.join (σ := Unit) (fun _ => True) (fun _ => [(4, pt_ p15), (7, ptrV q94_2), (8, str r3), (89, i6_ 2), (90, i6_ 1)]) (fun _ => Own B w0 (bk_ p106_2 #[ptrV q94_2] 111 :: bk_ g107_2 u107_2 111 :: bk_ p106_1 #[ptrV q94_1] 111 :: bk_ p15 #[.int .u8 (((s.getD 0 0).toNat : Int)), .slice none 0 0, sl_ g107_2 2 c107_2, i6_ ((((0 ||| (frB fm2)) ||| (frB fm3) : Nat) : Int)), i6_ (((0 ||| (allB fm2) : Nat) : Int))] 148 :: (new94_2 ++ (new94_1 ++ hs)))) ?_ ?_
         ·
          refine Wk.regionU (S := Own B w0 (bk_ p106_2 #[ptrV q94_2] 111 :: bk_ g107_2 u107_2 111 :: bk_ p106_1 #[ptrV q94_1] 111 :: (new94_2 ++ (new94_1 ++ hs)))) (.take 0 (.take 4 (.two 1 (.take 2 (.two 3 (.one 5 (.take 6 (.one 7 (.take 8 (.one 9 (.take 10 (.one 11 .done))))))) 5 (.take 6 (.two 3 (.one 7 (.take 8 (.one 9 (.take 10 (.one 11 .done))))) 7 (.one 3 (.take 8 (.one 9 (.take 10 (.one 11 .done))))))))) 5 (.take 6 (.two 1 (.take 2 (.two 3 (.one 7 (.take 8 (.one 9 (.take 10 (.one 11 .done))))) 7 (.one 3 (.take 8 (.one 9 (.take 10 (.one 11 .done))))))) 7 (.one 1 (.take 2 (.one 3 (.take 8 (.one 9 (.take 10 (.one 11 .done)))))))))))) Base.mixed (fun _ h => h.drawn) (by kernel_rfl) ?_
          refine Lu.run 2 rfl (pT 4 [0, 1, 2] rfl rfl) ?_
          refine Lu.two rfl rfl ?_ ?_
          ·
           refine Ll.op (v := pt_ p15) rfl rfl rfl (OpQ.nilCheck rfl rfl) ?_
           refine Ll.nil (Lu.joint (pT 4 [0, 1, 2] rfl rfl) ?_)
           refine Lu.take rfl rfl rfl rfl rfl (OpQ.fieldAddr rfl Tryd.runUnderlying148 rfl Tryd.sizeOf3 rfl rfl) (pT 4 [0, 1, 2] rfl rfl) ?_
           refine Lu.two rfl rfl ?_ ?_
           ·
            refine Ll.op rfl rfl rfl (OpQ.loadOwn 3 rfl Tryd.isAgg3 rfl rfl rfl) ?_
            refine Ll.nil (Lu.joint (pT 4 [0, 1, 2] rfl rfl) ?_)
            refine Lu.loud rfl ?_
            refine Ll.op (v := ptrV q94_2) rfl rfl rfl (OpQ.nilCheck rfl rfl) ?_
            refine Ll.nil (Lu.joint (pT 4 [0, 1, 2] rfl rfl) ?_)
            refine Lu.take rfl rfl rfl rfl rfl (OpQ.fieldAddr rfl Tryd.runUnderlying148 rfl Tryd.sizeOf3 rfl rfl) (pT 4 [0, 1, 2] rfl rfl) ?_
            refine Lu.loud rfl ?_
            refine Ll.op (v := i6_ ((frB fm3 : Int))) rfl rfl rfl (OpQ.load1 rfl Tryd.isAgg3 rfl (fun w1 hw1 => tree_free (TreeB.tree (Own.dropR (Own.drop (f := [_, _, _, _]) hw1)) hTq94_2))) ?_
            refine Ll.nil (Lu.joint (pT 4 [0, 1, 2] rfl rfl) ?_)
            refine Lu.take (v := i6_ ((((0 ||| (frB fm2)) ||| (frB fm3) : Nat) : Int))) rfl rfl rfl rfl rfl (OpQ.or (a := 0 ||| (frB fm2)) (b := frB fm3) rfl rfl rfl (by repeat' (first | omega | apply or_lt62 | apply or_lt16)) (by repeat' (first | omega | apply or_lt62 | apply or_lt16))) (pT 4 [0, 1, 2] rfl rfl) ?_
            refine Lu.loud rfl ?_
            refine Ll.op (v := pt_ p15) rfl rfl rfl (OpQ.nilCheck rfl rfl) ?_
            refine Ll.nil (Lu.joint (pT 4 [0, 1, 2] rfl rfl) ?_)
            refine Lu.take rfl rfl rfl rfl rfl (OpQ.fieldAddr rfl Tryd.runUnderlying148 rfl Tryd.sizeOf3 rfl rfl) (pT 4 [0, 1, 2] rfl rfl) ?_
            refine Lu.loud rfl ?_
            refine Ll.store1 (v := i6_ ((((0 ||| (frB fm2)) ||| (frB fm3) : Nat) : Int))) (hs' := (_ :: _ :: _ :: bk_ p15 #[.int .u8 (((s.getD 0 0).toNat : Int)), .slice none 0 0, sl_ g107_2 2 c107_2, i6_ ((((0 ||| (frB fm2)) ||| (frB fm3) : Nat) : Int)), i6_ (((0 ||| (allB fm2) : Nat) : Int))] 148 :: (new94_2 ++ (new94_1 ++ hs)))) 3 rfl rfl rfl rfl rfl rfl Tryd.sizeOf3 rfl (by simp) rfl ?_
            refine Ll.nil (Lu.joint (pT 4 [0, 1, 2] rfl rfl) ?_)
            refine Lu.nil ?_
            refine Kt.joined (()) trivial (Sub.sel [4, 7, 8, 89, 90] rfl) (fun _ h => h.sub (List.Sublist.cons_cons _ (List.Sublist.cons_cons _ (List.Sublist.cons_cons _ (List.Sublist.cons_cons _ (List.Sublist.refl _))))))
           ·
            refine Ll.op (v := ptrV q94_2) rfl rfl rfl (OpQ.nilCheck rfl rfl) ?_
            refine Ll.nil (Lu.joint (pT 4 [0, 1, 2] rfl rfl) ?_)
            refine Lu.take rfl rfl rfl rfl rfl (OpQ.fieldAddr rfl Tryd.runUnderlying148 rfl Tryd.sizeOf3 rfl rfl) (pT 4 [0, 1, 2] rfl rfl) ?_
            refine Lu.two rfl rfl ?_ ?_
            ·
             refine Ll.op rfl rfl rfl (OpQ.loadOwn 3 rfl Tryd.isAgg3 rfl rfl rfl) ?_
             refine Ll.nil (Lu.joint (pT 4 [0, 1, 2] rfl rfl) ?_)
             refine Lu.loud rfl ?_
             refine Ll.op (v := i6_ ((frB fm3 : Int))) rfl rfl rfl (OpQ.load1 rfl Tryd.isAgg3 rfl (fun w1 hw1 => tree_free (TreeB.tree (Own.dropR (Own.drop (f := [_, _, _, _]) hw1)) hTq94_2))) ?_
             refine Ll.nil (Lu.joint (pT 4 [0, 1, 2] rfl rfl) ?_)
             refine Lu.take (v := i6_ ((((0 ||| (frB fm2)) ||| (frB fm3) : Nat) : Int))) rfl rfl rfl rfl rfl (OpQ.or (a := 0 ||| (frB fm2)) (b := frB fm3) rfl rfl rfl (by repeat' (first | omega | apply or_lt62 | apply or_lt16)) (by repeat' (first | omega | apply or_lt62 | apply or_lt16))) (pT 4 [0, 1, 2] rfl rfl) ?_
             refine Lu.loud rfl ?_
             refine Ll.op (v := pt_ p15) rfl rfl rfl (OpQ.nilCheck rfl rfl) ?_
             refine Ll.nil (Lu.joint (pT 4 [0, 1, 2] rfl rfl) ?_)
             refine Lu.take rfl rfl rfl rfl rfl (OpQ.fieldAddr rfl Tryd.runUnderlying148 rfl Tryd.sizeOf3 rfl rfl) (pT 4 [0, 1, 2] rfl rfl) ?_
             refine Lu.loud rfl ?_
             refine Ll.store1 (v := i6_ ((((0 ||| (frB fm2)) ||| (frB fm3) : Nat) : Int))) (hs' := (_ :: _ :: _ :: bk_ p15 #[.int .u8 (((s.getD 0 0).toNat : Int)), .slice none 0 0, sl_ g107_2 2 c107_2, i6_ ((((0 ||| (frB fm2)) ||| (frB fm3) : Nat) : Int)), i6_ (((0 ||| (allB fm2) : Nat) : Int))] 148 :: (new94_2 ++ (new94_1 ++ hs)))) 3 rfl rfl rfl rfl rfl rfl Tryd.sizeOf3 rfl (by simp) rfl ?_
             refine Ll.nil (Lu.joint (pT 4 [0, 1, 2] rfl rfl) ?_)
             refine Lu.nil ?_
             refine Kt.joined (()) trivial (Sub.sel [4, 7, 8, 89, 90] rfl) (fun _ h => h.sub (List.Sublist.cons_cons _ (List.Sublist.cons_cons _ (List.Sublist.cons_cons _ (List.Sublist.cons_cons _ (List.Sublist.refl _))))))
            ·
             refine Ll.op (v := i6_ ((frB fm3 : Int))) rfl rfl rfl (OpQ.load1 rfl Tryd.isAgg3 rfl (fun w1 hw1 => tree_free (TreeB.tree (Own.dropR (Own.drop (f := [_, _, _, _]) hw1)) hTq94_2))) ?_
             refine Ll.nil (Lu.joint (pT 4 [0, 1, 2] rfl rfl) ?_)
             refine Lu.loud rfl ?_
             refine Ll.op rfl rfl rfl (OpQ.loadOwn 3 rfl Tryd.isAgg3 rfl rfl rfl) ?_
             refine Ll.nil (Lu.joint (pT 4 [0, 1, 2] rfl rfl) ?_)
             refine Lu.take (v := i6_ ((((0 ||| (frB fm2)) ||| (frB fm3) : Nat) : Int))) rfl rfl rfl rfl rfl (OpQ.or (a := 0 ||| (frB fm2)) (b := frB fm3) rfl rfl rfl (by repeat' (first | omega | apply or_lt62 | apply or_lt16)) (by repeat' (first | omega | apply or_lt62 | apply or_lt16))) (pT 4 [0, 1, 2] rfl rfl) ?_
             refine Lu.loud rfl ?_
             refine Ll.op (v := pt_ p15) rfl rfl rfl (OpQ.nilCheck rfl rfl) ?_
             refine Ll.nil (Lu.joint (pT 4 [0, 1, 2] rfl rfl) ?_)
             refine Lu.take rfl rfl rfl rfl rfl (OpQ.fieldAddr rfl Tryd.runUnderlying148 rfl Tryd.sizeOf3 rfl rfl) (pT 4 [0, 1, 2] rfl rfl) ?_
             refine Lu.loud rfl ?_
             refine Ll.store1 (v := i6_ ((((0 ||| (frB fm2)) ||| (frB fm3) : Nat) : Int))) (hs' := (_ :: _ :: _ :: bk_ p15 #[.int .u8 (((s.getD 0 0).toNat : Int)), .slice none 0 0, sl_ g107_2 2 c107_2, i6_ ((((0 ||| (frB fm2)) ||| (frB fm3) : Nat) : Int)), i6_ (((0 ||| (allB fm2) : Nat) : Int))] 148 :: (new94_2 ++ (new94_1 ++ hs)))) 3 rfl rfl rfl rfl rfl rfl Tryd.sizeOf3 rfl (by simp) rfl ?_
             refine Ll.nil (Lu.joint (pT 4 [0, 1, 2] rfl rfl) ?_)
             refine Lu.nil ?_
             refine Kt.joined (()) trivial (Sub.sel [4, 7, 8, 89, 90] rfl) (fun _ h => h.sub (List.Sublist.cons_cons _ (List.Sublist.cons_cons _ (List.Sublist.cons_cons _ (List.Sublist.cons_cons _ (List.Sublist.refl _))))))
          ·
           refine Ll.op (v := ptrV q94_2) rfl rfl rfl (OpQ.nilCheck rfl rfl) ?_
           refine Ll.nil (Lu.joint (pT 4 [0, 1, 2] rfl rfl) ?_)
           refine Lu.take rfl rfl rfl rfl rfl (OpQ.fieldAddr rfl Tryd.runUnderlying148 rfl Tryd.sizeOf3 rfl rfl) (pT 4 [0, 1, 2] rfl rfl) ?_
           refine Lu.two rfl rfl ?_ ?_
           ·
            refine Ll.op (v := pt_ p15) rfl rfl rfl (OpQ.nilCheck rfl rfl) ?_
            refine Ll.nil (Lu.joint (pT 4 [0, 1, 2] rfl rfl) ?_)
            refine Lu.take rfl rfl rfl rfl rfl (OpQ.fieldAddr rfl Tryd.runUnderlying148 rfl Tryd.sizeOf3 rfl rfl) (pT 4 [0, 1, 2] rfl rfl) ?_
            refine Lu.two rfl rfl ?_ ?_
            ·
             refine Ll.op rfl rfl rfl (OpQ.loadOwn 3 rfl Tryd.isAgg3 rfl rfl rfl) ?_
             refine Ll.nil (Lu.joint (pT 4 [0, 1, 2] rfl rfl) ?_)
             refine Lu.loud rfl ?_
             refine Ll.op (v := i6_ ((frB fm3 : Int))) rfl rfl rfl (OpQ.load1 rfl Tryd.isAgg3 rfl (fun w1 hw1 => tree_free (TreeB.tree (Own.dropR (Own.drop (f := [_, _, _, _]) hw1)) hTq94_2))) ?_
             refine Ll.nil (Lu.joint (pT 4 [0, 1, 2] rfl rfl) ?_)
             refine Lu.take (v := i6_ ((((0 ||| (frB fm2)) ||| (frB fm3) : Nat) : Int))) rfl rfl rfl rfl rfl (OpQ.or (a := 0 ||| (frB fm2)) (b := frB fm3) rfl rfl rfl (by repeat' (first | omega | apply or_lt62 | apply or_lt16)) (by repeat' (first | omega | apply or_lt62 | apply or_lt16))) (pT 4 [0, 1, 2] rfl rfl) ?_
             refine Lu.loud rfl ?_
             refine Ll.op (v := pt_ p15) rfl rfl rfl (OpQ.nilCheck rfl rfl) ?_
             refine Ll.nil (Lu.joint (pT 4 [0, 1, 2] rfl rfl) ?_)
             refine Lu.take rfl rfl rfl rfl rfl (OpQ.fieldAddr rfl Tryd.runUnderlying148 rfl Tryd.sizeOf3 rfl rfl) (pT 4 [0, 1, 2] rfl rfl) ?_
             refine Lu.loud rfl ?_
             refine Ll.store1 (v := i6_ ((((0 ||| (frB fm2)) ||| (frB fm3) : Nat) : Int))) (hs' := (_ :: _ :: _ :: bk_ p15 #[.int .u8 (((s.getD 0 0).toNat : Int)), .slice none 0 0, sl_ g107_2 2 c107_2, i6_ ((((0 ||| (frB fm2)) ||| (frB fm3) : Nat) : Int)), i6_ (((0 ||| (allB fm2) : Nat) : Int))] 148 :: (new94_2 ++ (new94_1 ++ hs)))) 3 rfl rfl rfl rfl rfl rfl Tryd.sizeOf3 rfl (by simp) rfl ?_
             refine Ll.nil (Lu.joint (pT 4 [0, 1, 2] rfl rfl) ?_)
             refine Lu.nil ?_
             refine Kt.joined (()) trivial (Sub.sel [4, 7, 8, 89, 90] rfl) (fun _ h => h.sub (List.Sublist.cons_cons _ (List.Sublist.cons_cons _ (List.Sublist.cons_cons _ (List.Sublist.cons_cons _ (List.Sublist.refl _))))))
            ·
             refine Ll.op (v := i6_ ((frB fm3 : Int))) rfl rfl rfl (OpQ.load1 rfl Tryd.isAgg3 rfl (fun w1 hw1 => tree_free (TreeB.tree (Own.dropR (Own.drop (f := [_, _, _, _]) hw1)) hTq94_2))) ?_
             refine Ll.nil (Lu.joint (pT 4 [0, 1, 2] rfl rfl) ?_)
             refine Lu.loud rfl ?_
             refine Ll.op rfl rfl rfl (OpQ.loadOwn 3 rfl Tryd.isAgg3 rfl rfl rfl) ?_
             refine Ll.nil (Lu.joint (pT 4 [0, 1, 2] rfl rfl) ?_)
             refine Lu.take (v := i6_ ((((0 ||| (frB fm2)) ||| (frB fm3) : Nat) : Int))) rfl rfl rfl rfl rfl (OpQ.or (a := 0 ||| (frB fm2)) (b := frB fm3) rfl rfl rfl (by repeat' (first | omega | apply or_lt62 | apply or_lt16)) (by repeat' (first | omega | apply or_lt62 | apply or_lt16))) (pT 4 [0, 1, 2] rfl rfl) ?_
             refine Lu.loud rfl ?_
             refine Ll.op (v := pt_ p15) rfl rfl rfl (OpQ.nilCheck rfl rfl) ?_
             refine Ll.nil (Lu.joint (pT 4 [0, 1, 2] rfl rfl) ?_)
             refine Lu.take rfl rfl rfl rfl rfl (OpQ.fieldAddr rfl Tryd.runUnderlying148 rfl Tryd.sizeOf3 rfl rfl) (pT 4 [0, 1, 2] rfl rfl) ?_
             refine Lu.loud rfl ?_
             refine Ll.store1 (v := i6_ ((((0 ||| (frB fm2)) ||| (frB fm3) : Nat) : Int))) (hs' := (_ :: _ :: _ :: bk_ p15 #[.int .u8 (((s.getD 0 0).toNat : Int)), .slice none 0 0, sl_ g107_2 2 c107_2, i6_ ((((0 ||| (frB fm2)) ||| (frB fm3) : Nat) : Int)), i6_ (((0 ||| (allB fm2) : Nat) : Int))] 148 :: (new94_2 ++ (new94_1 ++ hs)))) 3 rfl rfl rfl rfl rfl rfl Tryd.sizeOf3 rfl (by simp) rfl ?_
             refine Ll.nil (Lu.joint (pT 4 [0, 1, 2] rfl rfl) ?_)
             refine Lu.nil ?_
             refine Kt.joined (()) trivial (Sub.sel [4, 7, 8, 89, 90] rfl) (fun _ h => h.sub (List.Sublist.cons_cons _ (List.Sublist.cons_cons _ (List.Sublist.cons_cons _ (List.Sublist.cons_cons _ (List.Sublist.refl _))))))
           ·
            refine Ll.op (v := i6_ ((frB fm3 : Int))) rfl rfl rfl (OpQ.load1 rfl Tryd.isAgg3 rfl (fun w1 hw1 => tree_free (TreeB.tree (Own.dropR (Own.drop (f := [_, _, _, _]) hw1)) hTq94_2))) ?_
            refine Ll.nil (Lu.joint (pT 4 [0, 1, 2] rfl rfl) ?_)
            refine Lu.loud rfl ?_
            refine Ll.op (v := pt_ p15) rfl rfl rfl (OpQ.nilCheck rfl rfl) ?_
            refine Ll.nil (Lu.joint (pT 4 [0, 1, 2] rfl rfl) ?_)
            refine Lu.take rfl rfl rfl rfl rfl (OpQ.fieldAddr rfl Tryd.runUnderlying148 rfl Tryd.sizeOf3 rfl rfl) (pT 4 [0, 1, 2] rfl rfl) ?_
            refine Lu.loud rfl ?_
            refine Ll.op rfl rfl rfl (OpQ.loadOwn 3 rfl Tryd.isAgg3 rfl rfl rfl) ?_
            refine Ll.nil (Lu.joint (pT 4 [0, 1, 2] rfl rfl) ?_)
            refine Lu.take (v := i6_ ((((0 ||| (frB fm2)) ||| (frB fm3) : Nat) : Int))) rfl rfl rfl rfl rfl (OpQ.or (a := 0 ||| (frB fm2)) (b := frB fm3) rfl rfl rfl (by repeat' (first | omega | apply or_lt62 | apply or_lt16)) (by repeat' (first | omega | apply or_lt62 | apply or_lt16))) (pT 4 [0, 1, 2] rfl rfl) ?_
            refine Lu.loud rfl ?_
            refine Ll.op (v := pt_ p15) rfl rfl rfl (OpQ.nilCheck rfl rfl) ?_
            refine Ll.nil (Lu.joint (pT 4 [0, 1, 2] rfl rfl) ?_)
            refine Lu.take rfl rfl rfl rfl rfl (OpQ.fieldAddr rfl Tryd.runUnderlying148 rfl Tryd.sizeOf3 rfl rfl) (pT 4 [0, 1, 2] rfl rfl) ?_
            refine Lu.loud rfl ?_
            refine Ll.store1 (v := i6_ ((((0 ||| (frB fm2)) ||| (frB fm3) : Nat) : Int))) (hs' := (_ :: _ :: _ :: bk_ p15 #[.int .u8 (((s.getD 0 0).toNat : Int)), .slice none 0 0, sl_ g107_2 2 c107_2, i6_ ((((0 ||| (frB fm2)) ||| (frB fm3) : Nat) : Int)), i6_ (((0 ||| (allB fm2) : Nat) : Int))] 148 :: (new94_2 ++ (new94_1 ++ hs)))) 3 rfl rfl rfl rfl rfl rfl Tryd.sizeOf3 rfl (by simp) rfl ?_
            refine Ll.nil (Lu.joint (pT 4 [0, 1, 2] rfl rfl) ?_)
            refine Lu.nil ?_
            refine Kt.joined (()) trivial (Sub.sel [4, 7, 8, 89, 90] rfl) (fun _ h => h.sub (List.Sublist.cons_cons _ (List.Sublist.cons_cons _ (List.Sublist.cons_cons _ (List.Sublist.cons_cons _ (List.Sublist.refl _))))))
         rintro _ hj
         refine Kt.sel [4, 7, 8, 89, 90] [_, _, _, _, _] rfl ?_
         refine Wk.seq ?_
         refine Wk.join (σ := Unit) (fun _ => True) (fun _ => [(4, pt_ p15), (8, str r3), (89, i6_ 2), (90, i6_ 1)]) (fun _ => Own B w0 (bk_ p106_2 #[ptrV q94_2] 111 :: bk_ g107_2 u107_2 111 :: bk_ p106_1 #[ptrV q94_1] 111 :: bk_ p15 #[.int .u8 (((s.getD 0 0).toNat : Int)), .slice none 0 0, sl_ g107_2 2 c107_2, i6_ ((((0 ||| (frB fm2)) ||| (frB fm3) : Nat) : Int)), i6_ ((((0 ||| (allB fm2)) ||| (allB fm3) : Nat) : Int))] 148 :: (new94_2 ++ (new94_1 ++ hs)))) ?_ ?_
         ·
          refine Wk.regionU (S := Own B w0 (bk_ p106_2 #[ptrV q94_2] 111 :: bk_ g107_2 u107_2 111 :: bk_ p106_1 #[ptrV q94_1] 111 :: (new94_2 ++ (new94_1 ++ hs)))) (.take 0 (.take 4 (.two 1 (.take 2 (.two 3 (.one 5 (.take 6 (.one 7 (.take 8 (.one 9 (.take 10 (.one 11 .done))))))) 5 (.take 6 (.two 3 (.one 7 (.take 8 (.one 9 (.take 10 (.one 11 .done))))) 7 (.one 3 (.take 8 (.one 9 (.take 10 (.one 11 .done))))))))) 5 (.take 6 (.two 1 (.take 2 (.two 3 (.one 7 (.take 8 (.one 9 (.take 10 (.one 11 .done))))) 7 (.one 3 (.take 8 (.one 9 (.take 10 (.one 11 .done))))))) 7 (.one 1 (.take 2 (.one 3 (.take 8 (.one 9 (.take 10 (.one 11 .done)))))))))))) Base.mixed (fun _ h => h.drawn) (by kernel_rfl) ?_
          refine Lu.run 2 rfl (pT 4 [0, 1, 2] rfl rfl) ?_
          refine Lu.two rfl rfl ?_ ?_
          ·
           refine Ll.op (v := pt_ p15) rfl rfl rfl (OpQ.nilCheck rfl rfl) ?_
           refine Ll.nil (Lu.joint (pT 4 [0, 1, 2] rfl rfl) ?_)
           refine Lu.take rfl rfl rfl rfl rfl (OpQ.fieldAddr rfl Tryd.runUnderlying148 rfl Tryd.sizeOf3 rfl rfl) (pT 4 [0, 1, 2] rfl rfl) ?_
           refine Lu.two rfl rfl ?_ ?_
           ·
            refine Ll.op rfl rfl rfl (OpQ.loadOwn 3 rfl Tryd.isAgg3 rfl rfl rfl) ?_
            refine Ll.nil (Lu.joint (pT 4 [0, 1, 2] rfl rfl) ?_)
            refine Lu.loud rfl ?_
            refine Ll.op (v := ptrV q94_2) rfl rfl rfl (OpQ.nilCheck rfl rfl) ?_
            refine Ll.nil (Lu.joint (pT 4 [0, 1, 2] rfl rfl) ?_)
            refine Lu.take rfl rfl rfl rfl rfl (OpQ.fieldAddr rfl Tryd.runUnderlying148 rfl Tryd.sizeOf3 rfl rfl) (pT 4 [0, 1, 2] rfl rfl) ?_
            refine Lu.loud rfl ?_
            refine Ll.op (v := i6_ ((allB fm3 : Int))) rfl rfl rfl (OpQ.load1 rfl Tryd.isAgg3 rfl (fun w1 hw1 => tree_all (TreeB.tree (Own.dropR (Own.drop (f := [_, _, _, _]) hw1)) hTq94_2))) ?_
            refine Ll.nil (Lu.joint (pT 4 [0, 1, 2] rfl rfl) ?_)
            refine Lu.take (v := i6_ ((((0 ||| (allB fm2)) ||| (allB fm3) : Nat) : Int))) rfl rfl rfl rfl rfl (OpQ.or (a := 0 ||| (allB fm2)) (b := allB fm3) rfl rfl rfl (by repeat' (first | omega | apply or_lt62 | apply or_lt16)) (by repeat' (first | omega | apply or_lt62 | apply or_lt16))) (pT 4 [0, 1, 2] rfl rfl) ?_
            refine Lu.loud rfl ?_
            refine Ll.op (v := pt_ p15) rfl rfl rfl (OpQ.nilCheck rfl rfl) ?_
            refine Ll.nil (Lu.joint (pT 4 [0, 1, 2] rfl rfl) ?_)
            refine Lu.take rfl rfl rfl rfl rfl (OpQ.fieldAddr rfl Tryd.runUnderlying148 rfl Tryd.sizeOf3 rfl rfl) (pT 4 [0, 1, 2] rfl rfl) ?_
            refine Lu.loud rfl ?_
            refine Ll.store1 (v := i6_ ((((0 ||| (allB fm2)) ||| (allB fm3) : Nat) : Int))) (hs' := (_ :: _ :: _ :: bk_ p15 #[.int .u8 (((s.getD 0 0).toNat : Int)), .slice none 0 0, sl_ g107_2 2 c107_2, i6_ ((((0 ||| (frB fm2)) ||| (frB fm3) : Nat) : Int)), i6_ ((((0 ||| (allB fm2)) ||| (allB fm3) : Nat) : Int))] 148 :: (new94_2 ++ (new94_1 ++ hs)))) 3 rfl rfl rfl rfl rfl rfl Tryd.sizeOf3 rfl (by simp) rfl ?_
            refine Ll.nil (Lu.joint (pT 4 [0, 1, 2] rfl rfl) ?_)
            refine Lu.nil ?_
            refine Kt.joined (()) trivial (Sub.sel [4, 8, 89, 90] rfl) (fun _ h => h.sub (List.Sublist.cons_cons _ (List.Sublist.cons_cons _ (List.Sublist.cons_cons _ (List.Sublist.cons_cons _ (List.Sublist.refl _))))))
           ·
            refine Ll.op (v := ptrV q94_2) rfl rfl rfl (OpQ.nilCheck rfl rfl) ?_
            refine Ll.nil (Lu.joint (pT 4 [0, 1, 2] rfl rfl) ?_)
            refine Lu.take rfl rfl rfl rfl rfl (OpQ.fieldAddr rfl Tryd.runUnderlying148 rfl Tryd.sizeOf3 rfl rfl) (pT 4 [0, 1, 2] rfl rfl) ?_
            refine Lu.two rfl rfl ?_ ?_
            ·
             refine Ll.op rfl rfl rfl (OpQ.loadOwn 3 rfl Tryd.isAgg3 rfl rfl rfl) ?_
             refine Ll.nil (Lu.joint (pT 4 [0, 1, 2] rfl rfl) ?_)
             refine Lu.loud rfl ?_
             refine Ll.op (v := i6_ ((allB fm3 : Int))) rfl rfl rfl (OpQ.load1 rfl Tryd.isAgg3 rfl (fun w1 hw1 => tree_all (TreeB.tree (Own.dropR (Own.drop (f := [_, _, _, _]) hw1)) hTq94_2))) ?_
             refine Ll.nil (Lu.joint (pT 4 [0, 1, 2] rfl rfl) ?_)
             refine Lu.take (v := i6_ ((((0 ||| (allB fm2)) ||| (allB fm3) : Nat) : Int))) rfl rfl rfl rfl rfl (OpQ.or (a := 0 ||| (allB fm2)) (b := allB fm3) rfl rfl rfl (by repeat' (first | omega | apply or_lt62 | apply or_lt16)) (by repeat' (first | omega | apply or_lt62 | apply or_lt16))) (pT 4 [0, 1, 2] rfl rfl) ?_
             refine Lu.loud rfl ?_
             refine Ll.op (v := pt_ p15) rfl rfl rfl (OpQ.nilCheck rfl rfl) ?_
             refine Ll.nil (Lu.joint (pT 4 [0, 1, 2] rfl rfl) ?_)
             refine Lu.take rfl rfl rfl rfl rfl (OpQ.fieldAddr rfl Tryd.runUnderlying148 rfl Tryd.sizeOf3 rfl rfl) (pT 4 [0, 1, 2] rfl rfl) ?_
             refine Lu.loud rfl ?_
             refine Ll.store1 (v := i6_ ((((0 ||| (allB fm2)) ||| (allB fm3) : Nat) : Int))) (hs' := (_ :: _ :: _ :: bk_ p15 #[.int .u8 (((s.getD 0 0).toNat : Int)), .slice none 0 0, sl_ g107_2 2 c107_2, i6_ ((((0 ||| (frB fm2)) ||| (frB fm3) : Nat) : Int)), i6_ ((((0 ||| (allB fm2)) ||| (allB fm3) : Nat) : Int))] 148 :: (new94_2 ++ (new94_1 ++ hs)))) 3 rfl rfl rfl rfl rfl rfl Tryd.sizeOf3 rfl (by simp) rfl ?_
             refine Ll.nil (Lu.joint (pT 4 [0, 1, 2] rfl rfl) ?_)
             refine Lu.nil ?_
             refine Kt.joined (()) trivial (Sub.sel [4, 8, 89, 90] rfl) (fun _ h => h.sub (List.Sublist.cons_cons _ (List.Sublist.cons_cons _ (List.Sublist.cons_cons _ (List.Sublist.cons_cons _ (List.Sublist.refl _))))))
            ·
             refine Ll.op (v := i6_ ((allB fm3 : Int))) rfl rfl rfl (OpQ.load1 rfl Tryd.isAgg3 rfl (fun w1 hw1 => tree_all (TreeB.tree (Own.dropR (Own.drop (f := [_, _, _, _]) hw1)) hTq94_2))) ?_
             refine Ll.nil (Lu.joint (pT 4 [0, 1, 2] rfl rfl) ?_)
             refine Lu.loud rfl ?_
             refine Ll.op rfl rfl rfl (OpQ.loadOwn 3 rfl Tryd.isAgg3 rfl rfl rfl) ?_
             refine Ll.nil (Lu.joint (pT 4 [0, 1, 2] rfl rfl) ?_)
             refine Lu.take (v := i6_ ((((0 ||| (allB fm2)) ||| (allB fm3) : Nat) : Int))) rfl rfl rfl rfl rfl (OpQ.or (a := 0 ||| (allB fm2)) (b := allB fm3) rfl rfl rfl (by repeat' (first | omega | apply or_lt62 | apply or_lt16)) (by repeat' (first | omega | apply or_lt62 | apply or_lt16))) (pT 4 [0, 1, 2] rfl rfl) ?_
             refine Lu.loud rfl ?_
             refine Ll.op (v := pt_ p15) rfl rfl rfl (OpQ.nilCheck rfl rfl) ?_
             refine Ll.nil (Lu.joint (pT 4 [0, 1, 2] rfl rfl) ?_)
             refine Lu.take rfl rfl rfl rfl rfl (OpQ.fieldAddr rfl Tryd.runUnderlying148 rfl Tryd.sizeOf3 rfl rfl) (pT 4 [0, 1, 2] rfl rfl) ?_
             refine Lu.loud rfl ?_
             refine Ll.store1 (v := i6_ ((((0 ||| (allB fm2)) ||| (allB fm3) : Nat) : Int))) (hs' := (_ :: _ :: _ :: bk_ p15 #[.int .u8 (((s.getD 0 0).toNat : Int)), .slice none 0 0, sl_ g107_2 2 c107_2, i6_ ((((0 ||| (frB fm2)) ||| (frB fm3) : Nat) : Int)), i6_ ((((0 ||| (allB fm2)) ||| (allB fm3) : Nat) : Int))] 148 :: (new94_2 ++ (new94_1 ++ hs)))) 3 rfl rfl rfl rfl rfl rfl Tryd.sizeOf3 rfl (by simp) rfl ?_
             refine Ll.nil (Lu.joint (pT 4 [0, 1, 2] rfl rfl) ?_)
             refine Lu.nil ?_
             refine Kt.joined (()) trivial (Sub.sel [4, 8, 89, 90] rfl) (fun _ h => h.sub (List.Sublist.cons_cons _ (List.Sublist.cons_cons _ (List.Sublist.cons_cons _ (List.Sublist.cons_cons _ (List.Sublist.refl _))))))
          ·
           refine Ll.op (v := ptrV q94_2) rfl rfl rfl (OpQ.nilCheck rfl rfl) ?_
           refine Ll.nil (Lu.joint (pT 4 [0, 1, 2] rfl rfl) ?_)
           refine Lu.take rfl rfl rfl rfl rfl (OpQ.fieldAddr rfl Tryd.runUnderlying148 rfl Tryd.sizeOf3 rfl rfl) (pT 4 [0, 1, 2] rfl rfl) ?_
           refine Lu.two rfl rfl ?_ ?_
           ·
            refine Ll.op (v := pt_ p15) rfl rfl rfl (OpQ.nilCheck rfl rfl) ?_
            refine Ll.nil (Lu.joint (pT 4 [0, 1, 2] rfl rfl) ?_)
            refine Lu.take rfl rfl rfl rfl rfl (OpQ.fieldAddr rfl Tryd.runUnderlying148 rfl Tryd.sizeOf3 rfl rfl) (pT 4 [0, 1, 2] rfl rfl) ?_
            refine Lu.two rfl rfl ?_ ?_
            ·
             refine Ll.op rfl rfl rfl (OpQ.loadOwn 3 rfl Tryd.isAgg3 rfl rfl rfl) ?_
             refine Ll.nil (Lu.joint (pT 4 [0, 1, 2] rfl rfl) ?_)
             refine Lu.loud rfl ?_
             refine Ll.op (v := i6_ ((allB fm3 : Int))) rfl rfl rfl (OpQ.load1 rfl Tryd.isAgg3 rfl (fun w1 hw1 => tree_all (TreeB.tree (Own.dropR (Own.drop (f := [_, _, _, _]) hw1)) hTq94_2))) ?_
             refine Ll.nil (Lu.joint (pT 4 [0, 1, 2] rfl rfl) ?_)
             refine Lu.take (v := i6_ ((((0 ||| (allB fm2)) ||| (allB fm3) : Nat) : Int))) rfl rfl rfl rfl rfl (OpQ.or (a := 0 ||| (allB fm2)) (b := allB fm3) rfl rfl rfl (by repeat' (first | omega | apply or_lt62 | apply or_lt16)) (by repeat' (first | omega | apply or_lt62 | apply or_lt16))) (pT 4 [0, 1, 2] rfl rfl) ?_
             refine Lu.loud rfl ?_
             refine Ll.op (v := pt_ p15) rfl rfl rfl (OpQ.nilCheck rfl rfl) ?_
             refine Ll.nil (Lu.joint (pT 4 [0, 1, 2] rfl rfl) ?_)
             refine Lu.take rfl rfl rfl rfl rfl (OpQ.fieldAddr rfl Tryd.runUnderlying148 rfl Tryd.sizeOf3 rfl rfl) (pT 4 [0, 1, 2] rfl rfl) ?_
             refine Lu.loud rfl ?_
             refine Ll.store1 (v := i6_ ((((0 ||| (allB fm2)) ||| (allB fm3) : Nat) : Int))) (hs' := (_ :: _ :: _ :: bk_ p15 #[.int .u8 (((s.getD 0 0).toNat : Int)), .slice none 0 0, sl_ g107_2 2 c107_2, i6_ ((((0 ||| (frB fm2)) ||| (frB fm3) : Nat) : Int)), i6_ ((((0 ||| (allB fm2)) ||| (allB fm3) : Nat) : Int))] 148 :: (new94_2 ++ (new94_1 ++ hs)))) 3 rfl rfl rfl rfl rfl rfl Tryd.sizeOf3 rfl (by simp) rfl ?_
             refine Ll.nil (Lu.joint (pT 4 [0, 1, 2] rfl rfl) ?_)
             refine Lu.nil ?_
             refine Kt.joined (()) trivial (Sub.sel [4, 8, 89, 90] rfl) (fun _ h => h.sub (List.Sublist.cons_cons _ (List.Sublist.cons_cons _ (List.Sublist.cons_cons _ (List.Sublist.cons_cons _ (List.Sublist.refl _))))))
            ·
             refine Ll.op (v := i6_ ((allB fm3 : Int))) rfl rfl rfl (OpQ.load1 rfl Tryd.isAgg3 rfl (fun w1 hw1 => tree_all (TreeB.tree (Own.dropR (Own.drop (f := [_, _, _, _]) hw1)) hTq94_2))) ?_
             refine Ll.nil (Lu.joint (pT 4 [0, 1, 2] rfl rfl) ?_)
             refine Lu.loud rfl ?_
             refine Ll.op rfl rfl rfl (OpQ.loadOwn 3 rfl Tryd.isAgg3 rfl rfl rfl) ?_
             refine Ll.nil (Lu.joint (pT 4 [0, 1, 2] rfl rfl) ?_)
             refine Lu.take (v := i6_ ((((0 ||| (allB fm2)) ||| (allB fm3) : Nat) : Int))) rfl rfl rfl rfl rfl (OpQ.or (a := 0 ||| (allB fm2)) (b := allB fm3) rfl rfl rfl (by repeat' (first | omega | apply or_lt62 | apply or_lt16)) (by repeat' (first | omega | apply or_lt62 | apply or_lt16))) (pT 4 [0, 1, 2] rfl rfl) ?_
             refine Lu.loud rfl ?_
             refine Ll.op (v := pt_ p15) rfl rfl rfl (OpQ.nilCheck rfl rfl) ?_
             refine Ll.nil (Lu.joint (pT 4 [0, 1, 2] rfl rfl) ?_)
             refine Lu.take rfl rfl rfl rfl rfl (OpQ.fieldAddr rfl Tryd.runUnderlying148 rfl Tryd.sizeOf3 rfl rfl) (pT 4 [0, 1, 2] rfl rfl) ?_
             refine Lu.loud rfl ?_
             refine Ll.store1 (v := i6_ ((((0 ||| (allB fm2)) ||| (allB fm3) : Nat) : Int))) (hs' := (_ :: _ :: _ :: bk_ p15 #[.int .u8 (((s.getD 0 0).toNat : Int)), .slice none 0 0, sl_ g107_2 2 c107_2, i6_ ((((0 ||| (frB fm2)) ||| (frB fm3) : Nat) : Int)), i6_ ((((0 ||| (allB fm2)) ||| (allB fm3) : Nat) : Int))] 148 :: (new94_2 ++ (new94_1 ++ hs)))) 3 rfl rfl rfl rfl rfl rfl Tryd.sizeOf3 rfl (by simp) rfl ?_
             refine Ll.nil (Lu.joint (pT 4 [0, 1, 2] rfl rfl) ?_)
             refine Lu.nil ?_
             refine Kt.joined (()) trivial (Sub.sel [4, 8, 89, 90] rfl) (fun _ h => h.sub (List.Sublist.cons_cons _ (List.Sublist.cons_cons _ (List.Sublist.cons_cons _ (List.Sublist.cons_cons _ (List.Sublist.refl _))))))
           ·
            refine Ll.op (v := i6_ ((allB fm3 : Int))) rfl rfl rfl (OpQ.load1 rfl Tryd.isAgg3 rfl (fun w1 hw1 => tree_all (TreeB.tree (Own.dropR (Own.drop (f := [_, _, _, _]) hw1)) hTq94_2))) ?_
            refine Ll.nil (Lu.joint (pT 4 [0, 1, 2] rfl rfl) ?_)
            refine Lu.loud rfl ?_
            refine Ll.op (v := pt_ p15) rfl rfl rfl (OpQ.nilCheck rfl rfl) ?_
            refine Ll.nil (Lu.joint (pT 4 [0, 1, 2] rfl rfl) ?_)
            refine Lu.take rfl rfl rfl rfl rfl (OpQ.fieldAddr rfl Tryd.runUnderlying148 rfl Tryd.sizeOf3 rfl rfl) (pT 4 [0, 1, 2] rfl rfl) ?_
            refine Lu.loud rfl ?_
            refine Ll.op rfl rfl rfl (OpQ.loadOwn 3 rfl Tryd.isAgg3 rfl rfl rfl) ?_
            refine Ll.nil (Lu.joint (pT 4 [0, 1, 2] rfl rfl) ?_)
            refine Lu.take (v := i6_ ((((0 ||| (allB fm2)) ||| (allB fm3) : Nat) : Int))) rfl rfl rfl rfl rfl (OpQ.or (a := 0 ||| (allB fm2)) (b := allB fm3) rfl rfl rfl (by repeat' (first | omega | apply or_lt62 | apply or_lt16)) (by repeat' (first | omega | apply or_lt62 | apply or_lt16))) (pT 4 [0, 1, 2] rfl rfl) ?_
            refine Lu.loud rfl ?_
            refine Ll.op (v := pt_ p15) rfl rfl rfl (OpQ.nilCheck rfl rfl) ?_
            refine Ll.nil (Lu.joint (pT 4 [0, 1, 2] rfl rfl) ?_)
            refine Lu.take rfl rfl rfl rfl rfl (OpQ.fieldAddr rfl Tryd.runUnderlying148 rfl Tryd.sizeOf3 rfl rfl) (pT 4 [0, 1, 2] rfl rfl) ?_
            refine Lu.loud rfl ?_
            refine Ll.store1 (v := i6_ ((((0 ||| (allB fm2)) ||| (allB fm3) : Nat) : Int))) (hs' := (_ :: _ :: _ :: bk_ p15 #[.int .u8 (((s.getD 0 0).toNat : Int)), .slice none 0 0, sl_ g107_2 2 c107_2, i6_ ((((0 ||| (frB fm2)) ||| (frB fm3) : Nat) : Int)), i6_ ((((0 ||| (allB fm2)) ||| (allB fm3) : Nat) : Int))] 148 :: (new94_2 ++ (new94_1 ++ hs)))) 3 rfl rfl rfl rfl rfl rfl Tryd.sizeOf3 rfl (by simp) rfl ?_
            refine Ll.nil (Lu.joint (pT 4 [0, 1, 2] rfl rfl) ?_)
            refine Lu.nil ?_
            refine Kt.joined (()) trivial (Sub.sel [4, 8, 89, 90] rfl) (fun _ h => h.sub (List.Sublist.cons_cons _ (List.Sublist.cons_cons _ (List.Sublist.cons_cons _ (List.Sublist.cons_cons _ (List.Sublist.refl _))))))
         rintro _ hj
         refine Kt.sel [4, 8, 89, 90] [_, _, _, _] rfl ?_
         refine Wk.regionQ ?_
         refine Lq.run 2 rfl ?_
         refine Lq.nil ?_
         refine Kt.sel [0, 4, 89, 90] [_, _, _, _] rfl ?_
         refine Wk.regionQ ?_
         refine Lq.op rfl rfl rfl (OpQ.add rfl rfl rfl (by decide) (by decide)) ?_
         refine Lq.run 1 rfl ?_
         refine Lq.nil ?_
         refine Kt.round (e' := [(0, str r3), (4, pt_ p15), (89, i6_ 2), (90, i6_ 2)]) (Sub.sel [0, 4, 89, 90] rfl) ?_
         refine Wk.seq ?_
         refine Wk.regionQ ?_
         refine Lq.run 1 rfl ?_
         refine Lq.nil ?_
         refine Kt.sel [0, 4, 89, 90, 91] [_, _, _, _, _] rfl ?_
         refine Wk.seq ?_
         refine Wk.condF rfl ?_
         refine Wk.exit rfl ?_
         refine Kt.sel [0, 4] [_, _] rfl ?_
         refine Wk.seq ?_
         refine Wk.seq ?_
         refine Wk.regionQ ?_
         refine Lq.run 1 rfl ?_
         refine Lq.op (v := bo_ (decide (quI (((s.getD 0 0)).toNat : Int)))) rfl rfl rfl (OpQ.call rfl Tryd.call152 rfl Own.stable (fun w1 hw1 => isQuant_ok _ _ ((s.getD 0 0)) _ _ _ _ w1 (hw1.has 3 _ _ rfl).2)) ?_
         refine Lq.nil ?_
         refine Kt.sel [0, 4, 135] [_, _, _] rfl ?_
         refine Wk.cond (b := decide (quI (((s.getD 0 0)).toNat : Int))) rfl (fun h135_4 => ?_) (fun h135_4 => ?_)
         ·
          replace h135_4 := of_decide_eq_true h135_4
          exact absurd h135_4 (by unfold quI; omega)
         ·
          replace h135_4 := of_decide_eq_false h135_4
          refine Wk.skip ?_
          refine Kt.sel [0, 4] [_, _] rfl ?_
          refine Wk.seq ?_
          refine Wk.regionQ ?_
          refine Lq.run 4 rfl ?_
          refine Lq.nil ?_
          refine Kt.sel [2, 3] [_, _] rfl ?_
          refine Wk.ret (Kt.end2 rfl rfl rfl fun w' hw => ?_)
          have hR : parse s = some ((.two (s.getD 0 0) fm2 fm3), r3) := (pp4 hs0 (two_of (by decide) (by decide) (by assumption))).1 _ _ _ _ hpp2 hpp3
          rw [hR]
          have e1 : ((0 ||| (frB fm2)) ||| (frB fm3) : Nat) = frB (.two (s.getD 0 0) fm2 fm3) := by simp [frB, vBits, vBit]
          have e2 : ((0 ||| (allB fm2)) ||| (allB fm3) : Nat) = allB (.two (s.getD 0 0) fm2 fm3) := by simp [allB, vBits, vBit]
          have hW : Own B w0 (([bk_ p106_2 #[ptrV q94_2] 111, bk_ g107_2 u107_2 111, bk_ p106_1 #[ptrV q94_1] 111, bk_ p15 #[.int .u8 (((s.getD 0 0).toNat : Int)), .slice none 0 0, sl_ g107_2 2 c107_2, i6_ ((frB (.two (s.getD 0 0) fm2 fm3) : Int)), i6_ ((allB (.two (s.getD 0 0) fm2 fm3) : Int))] 148] ++ (new94_2 ++ new94_1)) ++ hs) w' := by
           rw [← e1, ← e2]
           first | exact hw | simpa only [List.append_assoc, List.cons_append, List.nil_append] using hw
          exact ⟨p15, [bk_ p106_2 #[ptrV q94_2] 111, bk_ g107_2 u107_2 111, bk_ p106_1 #[ptrV q94_1] 111, bk_ p15 #[.int .u8 (((s.getD 0 0).toNat : Int)), .slice none 0 0, sl_ g107_2 2 c107_2, i6_ ((frB (.two (s.getD 0 0) fm2 fm3) : Int)), i6_ ((allB (.two (s.getD 0 0) fm2 fm3) : Int))] 148] ++ (new94_2 ++ new94_1), rfl, ⟨q94_1, q94_2, ⟨_, _, mem_atL (l := [bk_ p106_2 #[ptrV q94_2] 111, bk_ g107_2 u107_2 111, bk_ p106_1 #[ptrV q94_1] 111, bk_ p15 #[.int .u8 (((s.getD 0 0).toNat : Int)), .slice none 0 0, sl_ g107_2 2 c107_2, i6_ ((frB (.two (s.getD 0 0) fm2 fm3) : Int)), i6_ ((allB (.two (s.getD 0 0) fm2 fm3) : Int))] 148]) (i := 3) rfl, RowB.nil, (RowB.at (mem_atL (l := [bk_ p106_2 #[ptrV q94_2] 111, bk_ g107_2 u107_2 111, bk_ p106_1 #[ptrV q94_1] 111, bk_ p15 #[.int .u8 (((s.getD 0 0).toNat : Int)), .slice none 0 0, sl_ g107_2 2 c107_2, i6_ ((frB (.two (s.getD 0 0) fm2 fm3) : Int)), i6_ ((allB (.two (s.getD 0 0) fm2 fm3) : Int))] 148]) (i := 1) rfl) htg107_2 rfl hlg107_2)⟩, (TreeB.right (TreeB.right hTq94_1)), (TreeB.right (TreeB.left hTq94_2))⟩, hW⟩
      ·
       replace h29_1 := of_decide_eq_false h29_1
       refine Wk.seq ?_
       refine Wk.seq ?_
       refine Wk.regionQ ?_
       refine Lq.run 2 rfl ?_
       refine Lq.nil ?_
       refine Kt.sel [0, 4, 17, 32] [_, _, _, _] rfl ?_
       refine Wk.join (σ := Unit) (fun _ => True) (fun _ => [(0, str s), (4, pt_ p15), (32, bo_ (decide (quI ((((s.getD 0 0).toNat : Int))))))]) (fun _ => Own B w0 (bk_ p15 #[.int .u8 (((s.getD 0 0).toNat : Int)), .slice none 0 0, .slice none 0 0, i6_ 0, i6_ 0] 148 :: hs)) ?_ ?_
       ·
        refine Wk.cond (b := decide ((((s.getD 0 0).toNat : Int)) = (65 : Int))) rfl (fun h32 => ?_) (fun h32 => ?_)
        ·
         replace h32 := of_decide_eq_true h32
         refine Wk.skip ?_
         refine Kt.joined (()) trivial (Sub.cons rfl (Sub.cons rfl (Sub.cons (by rw [decide_eq_decide.2 (show (quI ((((s.getD 0 0).toNat : Int)))) ↔ ((((s.getD 0 0).toNat : Int)) = (65 : Int)) by first | omega | (unfold quI at *; omega))]; rfl) Sub.nil))) (fun _ h => h)
        ·
         replace h32 := of_decide_eq_false h32
         refine Wk.seq ?_
         refine Wk.regionQ ?_
         refine Lq.run 2 rfl ?_
         refine Lq.nil ?_
         refine Kt.sel [0, 4, 17, 32] [_, _, _, _] rfl ?_
         refine Wk.cond (b := decide ((((s.getD 0 0).toNat : Int)) = (83 : Int))) rfl (fun h32_1 => ?_) (fun h32_1 => ?_)
         ·
          replace h32_1 := of_decide_eq_true h32_1
          refine Wk.skip ?_
          refine Kt.joined (()) trivial (Sub.cons rfl (Sub.cons rfl (Sub.cons (by rw [decide_eq_decide.2 (show (quI ((((s.getD 0 0).toNat : Int)))) ↔ ((((s.getD 0 0).toNat : Int)) = (83 : Int)) by first | omega | (unfold quI at *; omega))]; rfl) Sub.nil))) (fun _ h => h)
         ·
          replace h32_1 := of_decide_eq_false h32_1
          refine Wk.seq ?_
          refine Wk.regionQ ?_
          refine Lq.run 2 rfl ?_
          refine Lq.nil ?_
          refine Kt.sel [0, 4, 17, 32] [_, _, _, _] rfl ?_
          refine Wk.cond (b := decide ((((s.getD 0 0).toNat : Int)) = (50 : Int))) rfl (fun h32_2 => ?_) (fun h32_2 => ?_)
          ·
           replace h32_2 := of_decide_eq_true h32_2
           refine Wk.skip ?_
           refine Kt.joined (()) trivial (Sub.cons rfl (Sub.cons rfl (Sub.cons (by rw [decide_eq_decide.2 (show (quI ((((s.getD 0 0).toNat : Int)))) ↔ ((((s.getD 0 0).toNat : Int)) = (50 : Int)) by first | omega | (unfold quI at *; omega))]; rfl) Sub.nil))) (fun _ h => h)
          ·
           replace h32_2 := of_decide_eq_false h32_2
           refine Wk.seq ?_
           refine Wk.regionQ ?_
           refine Lq.run 2 rfl ?_
           refine Lq.nil ?_
           refine Kt.sel [0, 4, 17, 32] [_, _, _, _] rfl ?_
           refine Wk.cond (b := decide ((((s.getD 0 0).toNat : Int)) = (51 : Int))) rfl (fun h32_3 => ?_) (fun h32_3 => ?_)
           ·
            replace h32_3 := of_decide_eq_true h32_3
            refine Wk.skip ?_
            refine Kt.joined (()) trivial (Sub.cons rfl (Sub.cons rfl (Sub.cons (by rw [decide_eq_decide.2 (show (quI ((((s.getD 0 0).toNat : Int)))) ↔ ((((s.getD 0 0).toNat : Int)) = (51 : Int)) by first | omega | (unfold quI at *; omega))]; rfl) Sub.nil))) (fun _ h => h)
           ·
            replace h32_3 := of_decide_eq_false h32_3
            refine Wk.regionQ ?_
            refine Lq.run 2 rfl ?_
            refine Lq.nil ?_
            refine Kt.joined (()) trivial (Sub.cons rfl (Sub.cons rfl (Sub.cons (by rw [decide_eq_decide.2 (show (quI ((((s.getD 0 0).toNat : Int)))) ↔ ((((s.getD 0 0).toNat : Int)) = (52 : Int)) by first | omega | (unfold quI at *; omega))]; rfl) Sub.nil))) (fun _ h => h)
       rintro _ hj
       refine Kt.sel [0, 4, 32] [_, _, _] rfl ?_
       refine Wk.cond (b := decide (quI ((((s.getD 0 0).toNat : Int))))) rfl (fun h32_4 => ?_) (fun h32_4 => ?_)
       ·
        replace h32_4 := of_decide_eq_true h32_4
        refine Wk.regionQ ?_
        refine Lq.run 2 rfl ?_
        refine Lq.nil ?_
        refine Kt.sel [0, 4, 5, 6] [_, _, _, _] rfl ?_
        refine Wk.seq ?_
        refine Wk.regionQ ?_
        refine Lq.run 1 rfl ?_
        refine Lq.op (v := str (s.drop 1)) rfl rfl rfl (OpQ.cast (by rfl) (OpQ.sliceStrFrom rfl Tryd.underlying9 rfl rfl (by omega) (by omega))) ?_
        refine Lq.run 1 rfl ?_
        refine Lq.nil ?_
        refine Kt.sel [0, 4, 5, 6] [_, _, _, _] rfl ?_
        refine Wk.seq ?_
        refine Wk.seq ?_
        refine Wk.regionQ ?_
        refine Lq.run 2 rfl ?_
        refine Lq.nil ?_
        refine Kt.sel [0, 4, 6, 40, 41] [_, _, _, _, _] rfl ?_
        refine Wk.block ?_
        refine Wk.unroll 4 ?_
        refine Wk.seq ?_
        refine Wk.regionQ ?_
        refine Lq.run 1 rfl ?_
        refine Lq.nil ?_
        refine Kt.sel [0, 4, 6, 40, 41, 42] [_, _, _, _, _, _] rfl ?_
        refine Wk.seq ?_
        refine Wk.condT rfl ?_
        refine Wk.skip ?_
        refine Kt.sel [0, 4, 6, 40, 41] [_, _, _, _, _] rfl ?_
        refine Wk.seq ?_
        refine Wk.block ?_
        refine Wk.seq ?_
        refine Wk.seq ?_
        refine Wk.regionQ ?_
        refine Lq.run 1 rfl ?_
        refine Lq.op rfl rfl rfl (OpQ.seql rfl rfl rfl) ?_
        refine Lq.run 1 rfl ?_
        refine Lq.bool fun b45 hg45_3 => ?_
        cases b45
        ·
         have hne1 : ¬ s.drop 1 = [] := by simpa using hg45_3
         have hlk1 : 0 < (s.drop 1).length := (first_of hne1).1
         refine Lq.run 1 rfl ?_
         refine Lq.op (v := str ([s.getD 1 0])) rfl rfl rfl (OpQ.cast (by rw [show (1 : Int).toNat = 1 from rfl, take_drop1 hne1]) (OpQ.sliceStrTo rfl Tryd.underlying9 rfl rfl (by omega) (by omega))) ?_
         refine Lq.op (v := bo_ (isV (s.getD 1 0))) rfl rfl rfl (OpQ.call rfl Tryd.call179 rfl Own.stable (fun w1 hw1 => containsV_ok (s.getD 1 0) w1)) ?_
         refine Lq.run 2 rfl ?_
         refine Lq.nil ?_
         refine Kt.sel [0, 4, 6, 40, 41, 50] [_, _, _, _, _, _] rfl ?_
         refine Wk.cond (b := !(isV (s.getD 1 0))) rfl (fun h50_3 => ?_) (fun h50_3 => ?_)
         ·
          replace h50_3 := not_true h50_3
          refine Wk.seq ?_
          refine Wk.regionQ ?_
          refine Lq.run 3 rfl ?_
          refine Lq.nil ?_
          refine Kt.sel [2, 3] [_, _] rfl ?_
          refine Wk.ret (Kt.end2 rfl rfl rfl fun w' hw => ?_)
          have hR : parse s = none := by first | exact (pp5 hs0 (by assumption)).2.1 (fun e => by first | exact absurd e.2 (by rw [show isV (s.getD 1 0) = false by assumption]; decide) | exact e.1 (by simpa using (show (s.drop 1 == []) = true by assumption))) | exact (pp5 hs0 (by assumption)).2.2 (by assumption)
          rw [hR]
          exact ⟨_, rfl, Own.drop (f := [_]) hw⟩
         ·
          replace h50_3 := not_false h50_3
          have hv1 : isV (s.getD 1 0) = true := by simpa using h50_3
          have hvi1 := (vI_lt hv1).1
          have hbl1 := bit_lt hvi1
          refine Wk.skip ?_
          refine Kt.sel [0, 4, 6, 40, 41] [_, _, _, _, _] rfl ?_
          refine Wk.seq ?_
          refine Wk.join (σ := Nat × Nat × Array Value) (fun ⟨g_3, c_3, u_3⟩ => u_3.size = c_3 * 1 ∧ 1 ≤ c_3 ∧ u_3.toList.take 1 = [.int .u8 (((s.getD 1 0).toNat : Int))]) (fun ⟨g_3, c_3, u_3⟩ => [(0, str (s.drop 1)), (4, pt_ p15), (6, i6_ 1), (40, i6_ 1), (41, i6_ 0)]) (fun ⟨g_3, c_3, u_3⟩ => Own B w0 (bk_ g_3 u_3 5 :: bk_ p15 #[.int .u8 (((s.getD 0 0).toNat : Int)), sl_ g_3 1 c_3, .slice none 0 0, i6_ 0, i6_ 0] 148 :: hs)) ?_ ?_
          ·
           refine Wk.regionU (S := Own B w0 (hs)) (.take 0 (.take 1 (.take 5 (.take 6 (.two 2 (.take 3 (.two 4 (.one 7 (.one 8 (.one 9 (.take 10 (.one 11 .done))))) 7 (.one 4 (.one 8 (.one 9 (.take 10 (.one 11 .done))))))) 7 (.one 2 (.take 3 (.one 4 (.one 8 (.one 9 (.take 10 (.one 11 .done)))))))))))) Base.mixed (fun _ h => h.drawn) (by kernel_rfl) ?_
           refine Lu.run 3 rfl (pT 1 [] rfl rfl) ?_
           refine Lu.take (v := .int .u8 (((s.getD 1 0).toNat : Int))) rfl rfl rfl rfl rfl (OpQ.cast (by rw [show (0 : Int).toNat = 0 from rfl, getD_drop]) (OpQ.indexStr rfl Tryd.runUnderlying9 rfl rfl (by omega) (by omega))) (pT 1 [] rfl rfl) ?_
           refine Lu.two rfl rfl ?_ ?_
           ·
            refine Ll.op (v := pt_ p15) rfl rfl rfl (OpQ.nilCheck rfl rfl) ?_
            refine Ll.nil (Lu.joint (pT 1 [] rfl rfl) ?_)
            refine Lu.take rfl rfl rfl rfl rfl (OpQ.fieldAddr rfl Tryd.runUnderlying148 rfl Tryd.sizeOf33 rfl rfl) (pT 1 [] rfl rfl) ?_
            refine Lu.two rfl rfl ?_ ?_
            ·
             refine Ll.op rfl rfl rfl (OpQ.loadOwn 0 rfl Tryd.isAgg33 rfl rfl rfl) ?_
             refine Ll.nil (Lu.joint (pT 1 [] rfl rfl) ?_)
             refine Lu.loud rfl ?_
             refine Ll.slice (xs := [.tmp 58]) (vs := [.int .u8 (((s.getD 1 0).toNat : Int))]) Base.elem33 rfl rfl rfl rfl rfl rfl (by decide) rfl fun p59_9 hp59_9 => ?_
             refine Ll.nil (Lu.joint (pT 2 [] rfl rfl) ?_)
             refine Lu.loud rfl ?_
             refine Ll.appendN1 (V := .int .u8 (((s.getD 1 0).toNat : Int))) Base.elem33 0 rfl rfl rfl rfl rfl rfl rfl fun g60_9 c60_9 u60_9 hg60_9 hcg60_9 hlg60_9 htg60_9 => ?_
             show Ll _ _ (Own _ _ (_ :: _ :: _ :: hs)) _ _ ((60, sl_ g60_9 1 c60_9) :: _) _ _ _
             refine Ll.nil (Lu.joint (pT 3 [] rfl rfl) ?_)
             refine Lu.loud rfl ?_
             refine Ll.op (v := pt_ p15) rfl rfl rfl (OpQ.nilCheck rfl rfl) ?_
             refine Ll.nil (Lu.joint (pT 3 [] rfl rfl) ?_)
             refine Lu.take rfl rfl rfl rfl rfl (OpQ.fieldAddr rfl Tryd.runUnderlying148 rfl Tryd.sizeOf33 rfl rfl) (pT 3 [] rfl rfl) ?_
             refine Lu.loud rfl ?_
             refine Ll.store1 (v := sl_ g60_9 1 c60_9) (hs' := (_ :: _ :: bk_ p15 #[.int .u8 (((s.getD 0 0).toNat : Int)), sl_ g60_9 1 c60_9, .slice none 0 0, i6_ 0, i6_ 0] 148 :: hs)) 2 rfl rfl rfl rfl rfl rfl Tryd.sizeOf33 rfl (by simp) rfl ?_
             refine Ll.nil (Lu.joint (pT 3 [] rfl rfl) ?_)
             refine Lu.nil ?_
             refine Kt.joined ((g60_9, c60_9, u60_9)) ⟨hcg60_9, hlg60_9, htg60_9⟩ (Sub.sel [0, 4, 6, 40, 41] rfl) (fun _ h => h.sub (List.Sublist.cons_cons _ (List.Sublist.cons _ (List.Sublist.cons_cons _ (List.Sublist.refl _)))))
            ·
             refine Ll.slice (xs := [.tmp 58]) (vs := [.int .u8 (((s.getD 1 0).toNat : Int))]) Base.elem33 rfl rfl rfl rfl rfl rfl (by decide) rfl fun p59_10 hp59_10 => ?_
             refine Ll.nil (Lu.joint (pT 2 [] rfl rfl) ?_)
             refine Lu.loud rfl ?_
             refine Ll.op rfl rfl rfl (OpQ.loadOwn 1 rfl Tryd.isAgg33 rfl rfl rfl) ?_
             refine Ll.nil (Lu.joint (pT 2 [] rfl rfl) ?_)
             refine Lu.loud rfl ?_
             refine Ll.appendN1 (V := .int .u8 (((s.getD 1 0).toNat : Int))) Base.elem33 0 rfl rfl rfl rfl rfl rfl rfl fun g60_10 c60_10 u60_10 hg60_10 hcg60_10 hlg60_10 htg60_10 => ?_
             show Ll _ _ (Own _ _ (_ :: _ :: _ :: hs)) _ _ ((60, sl_ g60_10 1 c60_10) :: _) _ _ _
             refine Ll.nil (Lu.joint (pT 3 [] rfl rfl) ?_)
             refine Lu.loud rfl ?_
             refine Ll.op (v := pt_ p15) rfl rfl rfl (OpQ.nilCheck rfl rfl) ?_
             refine Ll.nil (Lu.joint (pT 3 [] rfl rfl) ?_)
             refine Lu.take rfl rfl rfl rfl rfl (OpQ.fieldAddr rfl Tryd.runUnderlying148 rfl Tryd.sizeOf33 rfl rfl) (pT 3 [] rfl rfl) ?_
             refine Lu.loud rfl ?_
             refine Ll.store1 (v := sl_ g60_10 1 c60_10) (hs' := (_ :: _ :: bk_ p15 #[.int .u8 (((s.getD 0 0).toNat : Int)), sl_ g60_10 1 c60_10, .slice none 0 0, i6_ 0, i6_ 0] 148 :: hs)) 2 rfl rfl rfl rfl rfl rfl Tryd.sizeOf33 rfl (by simp) rfl ?_
             refine Ll.nil (Lu.joint (pT 3 [] rfl rfl) ?_)
             refine Lu.nil ?_
             refine Kt.joined ((g60_10, c60_10, u60_10)) ⟨hcg60_10, hlg60_10, htg60_10⟩ (Sub.sel [0, 4, 6, 40, 41] rfl) (fun _ h => h.sub (List.Sublist.cons_cons _ (List.Sublist.cons _ (List.Sublist.cons_cons _ (List.Sublist.refl _)))))
           ·
            refine Ll.slice (xs := [.tmp 58]) (vs := [.int .u8 (((s.getD 1 0).toNat : Int))]) Base.elem33 rfl rfl rfl rfl rfl rfl (by decide) rfl fun p59_11 hp59_11 => ?_
            refine Ll.nil (Lu.joint (pT 2 [] rfl rfl) ?_)
            refine Lu.loud rfl ?_
            refine Ll.op (v := pt_ p15) rfl rfl rfl (OpQ.nilCheck rfl rfl) ?_
            refine Ll.nil (Lu.joint (pT 2 [] rfl rfl) ?_)
            refine Lu.take rfl rfl rfl rfl rfl (OpQ.fieldAddr rfl Tryd.runUnderlying148 rfl Tryd.sizeOf33 rfl rfl) (pT 2 [] rfl rfl) ?_
            refine Lu.loud rfl ?_
            refine Ll.op rfl rfl rfl (OpQ.loadOwn 1 rfl Tryd.isAgg33 rfl rfl rfl) ?_
            refine Ll.nil (Lu.joint (pT 2 [] rfl rfl) ?_)
            refine Lu.loud rfl ?_
            refine Ll.appendN1 (V := .int .u8 (((s.getD 1 0).toNat : Int))) Base.elem33 0 rfl rfl rfl rfl rfl rfl rfl fun g60_11 c60_11 u60_11 hg60_11 hcg60_11 hlg60_11 htg60_11 => ?_
            show Ll _ _ (Own _ _ (_ :: _ :: _ :: hs)) _ _ ((60, sl_ g60_11 1 c60_11) :: _) _ _ _
            refine Ll.nil (Lu.joint (pT 3 [] rfl rfl) ?_)
            refine Lu.loud rfl ?_
            refine Ll.op (v := pt_ p15) rfl rfl rfl (OpQ.nilCheck rfl rfl) ?_
            refine Ll.nil (Lu.joint (pT 3 [] rfl rfl) ?_)
            refine Lu.take rfl rfl rfl rfl rfl (OpQ.fieldAddr rfl Tryd.runUnderlying148 rfl Tryd.sizeOf33 rfl rfl) (pT 3 [] rfl rfl) ?_
            refine Lu.loud rfl ?_
            refine Ll.store1 (v := sl_ g60_11 1 c60_11) (hs' := (_ :: _ :: bk_ p15 #[.int .u8 (((s.getD 0 0).toNat : Int)), sl_ g60_11 1 c60_11, .slice none 0 0, i6_ 0, i6_ 0] 148 :: hs)) 2 rfl rfl rfl rfl rfl rfl Tryd.sizeOf33 rfl (by simp) rfl ?_
            refine Ll.nil (Lu.joint (pT 3 [] rfl rfl) ?_)
            refine Lu.nil ?_
            refine Kt.joined ((g60_11, c60_11, u60_11)) ⟨hcg60_11, hlg60_11, htg60_11⟩ (Sub.sel [0, 4, 6, 40, 41] rfl) (fun _ h => h.sub (List.Sublist.cons_cons _ (List.Sublist.cons _ (List.Sublist.cons_cons _ (List.Sublist.refl _)))))
          rintro ⟨g_3, c_3, u_3⟩ ⟨hcg_3, hlg_3, htg_3⟩
          dsimp only
          refine Kt.sel [0, 4, 6, 40, 41] [_, _, _, _, _] rfl ?_
          refine Wk.seq ?_
          refine Wk.join (σ := Unit) (fun _ => True) (fun _ => [(0, str (s.drop 1)), (4, pt_ p15), (6, i6_ 1), (40, i6_ 1), (41, i6_ 0)]) (fun _ => Own B w0 (bk_ g_3 u_3 5 :: bk_ p15 #[.int .u8 (((s.getD 0 0).toNat : Int)), sl_ g_3 1 c_3, .slice none 0 0, i6_ 0, i6_ (((0 ||| (1 * 2 ^ (vI (s.getD 1 0))) : Nat) : Int))] 148 :: hs)) ?_ ?_
          ·
           refine Wk.regionS (S := Own B w0 (bk_ g_3 u_3 5 :: hs)) [(0, true), (4, true), (5, true), (6, true), (7, true), (1, false), (2, true), (3, false), (8, true), (9, false), (10, true), (11, false)] Base.mixed (fun _ h => h.drawn) (by kernel_rfl) ?_
           refine Ld.run 2 rfl (pT 2 [0] rfl rfl) ?_
           refine Ld.take (v := .int .u8 (((s.getD 1 0).toNat : Int))) rfl rfl rfl rfl rfl (OpQ.cast (by rw [show (0 : Int).toNat = 0 from rfl, getD_drop]) (OpQ.indexStr rfl Tryd.runUnderlying9 rfl rfl (by omega) (by omega))) (pT 2 [0] rfl rfl) ?_
           refine Ld.take (v := .int .u8 ((vI (s.getD 1 0) : Int))) rfl rfl rfl rfl rfl (OpQ.cast (by rw [vI_wrap hv1]) (OpQ.subU8 rfl rfl rfl)) (pT 2 [0] rfl rfl) ?_
           refine Ld.take (v := i6_ (((1 * 2 ^ (vI (s.getD 1 0)) : Nat) : Int))) rfl rfl rfl rfl rfl (OpQ.shl (a := 1) (b := vI (s.getD 1 0)) rfl rfl rfl (by omega) (by omega)) (pT 2 [0] rfl rfl) ?_
           refine Ld.loud rfl ?_
           refine Ll.op (v := pt_ p15) rfl rfl rfl (OpQ.nilCheck rfl rfl) ?_
           refine Ll.nil (Ld.joint (pT 2 [0] rfl rfl) ?_)
           refine Ld.take rfl rfl rfl rfl rfl (OpQ.fieldAddr rfl Tryd.runUnderlying148 rfl Tryd.sizeOf3 rfl rfl) (pT 2 [0] rfl rfl) ?_
           refine Ld.loud rfl ?_
           refine Ll.op rfl rfl rfl (OpQ.loadOwn 1 rfl Tryd.isAgg3 rfl rfl rfl) ?_
           refine Ll.nil (Ld.joint (pT 2 [0] rfl rfl) ?_)
           refine Ld.take (v := i6_ (((0 ||| (1 * 2 ^ (vI (s.getD 1 0))) : Nat) : Int))) rfl rfl rfl rfl rfl (OpQ.or (a := 0) (b := 1 * 2 ^ (vI (s.getD 1 0))) rfl rfl rfl (by repeat' (first | omega | apply or_lt62 | apply or_lt16)) (by repeat' (first | omega | apply or_lt62 | apply or_lt16))) (pT 2 [0] rfl rfl) ?_
           refine Ld.loud rfl ?_
           refine Ll.op (v := pt_ p15) rfl rfl rfl (OpQ.nilCheck rfl rfl) ?_
           refine Ll.nil (Ld.joint (pT 2 [0] rfl rfl) ?_)
           refine Ld.take rfl rfl rfl rfl rfl (OpQ.fieldAddr rfl Tryd.runUnderlying148 rfl Tryd.sizeOf3 rfl rfl) (pT 2 [0] rfl rfl) ?_
           refine Ld.loud rfl ?_
           refine Ll.store1 (v := i6_ (((0 ||| (1 * 2 ^ (vI (s.getD 1 0))) : Nat) : Int))) (hs' := (_ :: bk_ p15 #[.int .u8 (((s.getD 0 0).toNat : Int)), sl_ g_3 1 c_3, .slice none 0 0, i6_ 0, i6_ (((0 ||| (1 * 2 ^ (vI (s.getD 1 0))) : Nat) : Int))] 148 :: hs)) 1 rfl rfl rfl rfl rfl rfl Tryd.sizeOf3 rfl (by simp) rfl ?_
           refine Ll.nil (Ld.joint (pT 2 [0] rfl rfl) ?_)
           refine Ld.nil ?_
           refine Kt.joined (()) trivial (Sub.sel [0, 4, 6, 40, 41] rfl) (fun _ h => h.sub (List.Sublist.cons_cons _ (List.Sublist.cons_cons _ (List.Sublist.refl _))))
          rintro _ hj
          refine Kt.sel [0, 4, 6, 40, 41] [_, _, _, _, _] rfl ?_
          refine Wk.regionQ ?_
          refine Lq.run 1 rfl ?_
          refine Lq.op (v := str (s.drop 2)) rfl rfl rfl (OpQ.cast (by rw [List.drop_drop]; rfl) (OpQ.sliceStrFrom rfl Tryd.underlying9 rfl rfl (by omega) (by omega))) ?_
          refine Lq.run 1 rfl ?_
          refine Lq.nil ?_
          refine Kt.sel [0, 4, 6, 40, 41] [_, _, _, _, _] rfl ?_
          refine Wk.regionQ ?_
          refine Lq.op rfl rfl rfl (OpQ.add rfl rfl rfl (by decide) (by decide)) ?_
          refine Lq.run 1 rfl ?_
          refine Lq.nil ?_
          refine Kt.round (e' := [(0, str (s.drop 2)), (4, pt_ p15), (6, i6_ 1), (40, i6_ 1), (41, i6_ 1)]) (Sub.sel [0, 4, 6, 40, 41] rfl) ?_
          refine Wk.seq ?_
          refine Wk.regionQ ?_
          refine Lq.run 1 rfl ?_
          refine Lq.nil ?_
          refine Kt.sel [0, 4, 6, 40, 41, 42] [_, _, _, _, _, _] rfl ?_
          refine Wk.seq ?_
          refine Wk.condF rfl ?_
          refine Wk.exit rfl ?_
          refine Kt.sel [0, 4, 6] [_, _, _] rfl ?_
          refine Wk.seq ?_
          refine Wk.region ?_
          refine Ll.run 2 rfl ?_
          refine Ll.op (v := pt_ p15) rfl rfl rfl (OpQ.nilCheck rfl rfl) ?_
          refine Ll.op rfl rfl rfl (OpQ.fieldAddr rfl Tryd.runUnderlying148 rfl Tryd.sizeOf3 rfl rfl) ?_
          refine Ll.op rfl rfl rfl (OpQ.loadOwn 1 rfl Tryd.isAgg3 rfl rfl rfl) ?_
          refine Ll.op (v := pt_ p15) rfl rfl rfl (OpQ.nilCheck rfl rfl) ?_
          refine Ll.op rfl rfl rfl (OpQ.fieldAddr rfl Tryd.runUnderlying148 rfl Tryd.sizeOf3 rfl rfl) ?_
          refine Ll.store1 (v := i6_ (((0 ||| (1 * 2 ^ (vI (s.getD 1 0))) : Nat) : Int))) (hs' := (_ :: bk_ p15 #[.int .u8 (((s.getD 0 0).toNat : Int)), sl_ g_3 1 c_3, .slice none 0 0, i6_ (((0 ||| (1 * 2 ^ (vI (s.getD 1 0))) : Nat) : Int)), i6_ (((0 ||| (1 * 2 ^ (vI (s.getD 1 0))) : Nat) : Int))] 148 :: hs)) 1 rfl rfl rfl rfl rfl rfl Tryd.sizeOf3 rfl (by simp) rfl ?_
          refine Ll.nil ?_
          refine Kt.sel [0, 4, 6] [_, _, _] rfl ?_
          refine Wk.seq ?_
          refine Wk.seq ?_
          refine Wk.regionQ ?_
          refine Lq.run 2 rfl ?_
          refine Lq.nil ?_
          refine Kt.sel [0, 4, 6, 85] [_, _, _, _] rfl ?_
          refine Wk.condT rfl ?_
          refine Wk.region ?_
          refine Ll.run 1 rfl ?_
          refine Ll.op (v := pt_ p15) rfl rfl rfl (OpQ.nilCheck rfl rfl) ?_
          refine Ll.op rfl rfl rfl (OpQ.fieldAddr rfl Tryd.runUnderlying148 rfl Tryd.sizeOf3 rfl rfl) ?_
          refine Ll.store1 (v := i6_ 0) (hs' := (_ :: bk_ p15 #[.int .u8 (((s.getD 0 0).toNat : Int)), sl_ g_3 1 c_3, .slice none 0 0, i6_ 0, i6_ (((0 ||| (1 * 2 ^ (vI (s.getD 1 0))) : Nat) : Int))] 148 :: hs)) 1 rfl rfl rfl rfl rfl rfl Tryd.sizeOf3 rfl (by simp) rfl ?_
          refine Ll.nil ?_
          refine Kt.sel [0, 4, 6] [_, _, _] rfl ?_
          refine Wk.seq ?_
          refine Wk.seq ?_
          refine Wk.regionQ ?_
          refine Lq.run 2 rfl ?_
          refine Lq.nil ?_
          refine Kt.sel [0, 4, 89, 90] [_, _, _, _] rfl ?_
          refine Wk.block ?_
          refine Wk.unroll 4 ?_
          refine Wk.seq ?_
          refine Wk.regionQ ?_
          refine Lq.run 1 rfl ?_
          refine Lq.nil ?_
          refine Kt.sel [0, 4, 89, 90, 91] [_, _, _, _, _] rfl ?_
          refine Wk.seq ?_
          refine Wk.condT rfl ?_
          refine Wk.skip ?_
          refine Kt.sel [0, 4, 89, 90] [_, _, _, _] rfl ?_
          refine Wk.seq ?_
          refine Wk.block ?_
          refine Wk.seq ?_
          rcases hpp4 : parse (s.drop 2) with _ | ⟨fm4, r4⟩
          ·
           refine Wk.region ?_
           refine Ll.run 1 rfl ?_
           refine Ll.callGet (σ := List UInt8) (ok := fun _ => True) (v := fun x => .tuple #[.pointer none, str x]) (hs' := fun _ => (bk_ g_3 u_3 5 :: bk_ p15 #[.int .u8 (((s.getD 0 0).toNat : Int)), sl_ g_3 1 c_3, .slice none 0 0, i6_ 0, i6_ (((0 ||| (1 * 2 ^ (vI (s.getD 1 0))) : Nat) : Int))] 148 :: hs)) (xs := [.tmp 93]) (vs := [str (s.drop 2)]) rfl rfl rfl rfl Tryd.call150 rfl (fun w1 hw1 => (ih (s.drop 2) B w0 (([bk_ g_3 u_3 5, bk_ p15 #[.int .u8 (((s.getD 0 0).toNat : Int)), sl_ g_3 1 c_3, .slice none 0 0, i6_ 0, i6_ (((0 ||| (1 * 2 ^ (vI (s.getD 1 0))) : Nat) : Int))] 148] : List (Nat × Obj)) ++ hs) w1 (by simp only [List.length_drop] at *; omega) hw1).mono fun en w' hR => by rw [hpp4] at hR; obtain ⟨x, h1, h2⟩ := hR; exact ⟨x, h1, trivial, h2⟩) fun x94_3 _ => ?_
           show Ll _ _ (Own _ _ (_ :: _ :: hs)) _ _ ((94, .tuple #[.pointer none, str x94_3]) :: _) _ _ _
           refine Ll.run 1 rfl ?_
           refine Ll.op (v := .pointer none) rfl rfl rfl (OpQ.extract rfl rfl rfl) ?_
           refine Ll.op (v := str x94_3) rfl rfl rfl (OpQ.extract rfl rfl rfl) ?_
           refine Ll.run 2 rfl ?_
           refine Ll.nil ?_
           refine Kt.sel [4, 7, 8, 89, 90] [_, _, _, _, _] rfl ?_
           refine Wk.seq ?_
           refine Wk.seq ?_
           refine Wk.regionQ ?_
           refine Lq.run 1 rfl ?_
           refine Lq.op (v := bo_ true) rfl rfl rfl (OpQ.eqNilP (p := none) rfl Tryd.underlying111 rfl rfl) ?_
           refine Lq.nil ?_
           refine Kt.sel [4, 7, 8, 89, 90, 98] [_, _, _, _, _, _] rfl ?_
           refine Wk.condT rfl ?_
           refine Wk.seq ?_
           refine Wk.regionQ ?_
           refine Lq.run 3 rfl ?_
           refine Lq.nil ?_
           refine Kt.sel [2, 3] [_, _] rfl ?_
           refine Wk.ret (Kt.end2 rfl rfl rfl fun w' hw => ?_)
           have hR : parse s = none := by first | exact (pp5 hs0 (by assumption)).2.1 (fun e => by first | exact absurd e.2 (by rw [show isV (s.getD 1 0) = false by assumption]; decide) | exact e.1 (by simpa using (show (s.drop 1 == []) = true by assumption))) | exact (pp5 hs0 (by assumption)).2.2 (by assumption)
           rw [hR]
           exact ⟨_, rfl, Own.drop (f := [_, _]) hw⟩
          ·
           have hrl4 := parse_len hpp4
           refine Wk.region ?_
           refine Ll.run 1 rfl ?_
           refine Ll.callBack (ok := fun ((q, new) : Nat × List (Nat × Obj)) => TreeB 148 new fm4 q) (v := fun ((q, new) : Nat × List (Nat × Obj)) => .tuple #[ptrV q, str r4]) (new := fun ((q, new) : Nat × List (Nat × Obj)) => new) (hs := hs) (xs := [.tmp 93]) (vs := [str (s.drop 2)]) ([bk_ g_3 u_3 5, bk_ p15 #[.int .u8 (((s.getD 0 0).toNat : Int)), sl_ g_3 1 c_3, .slice none 0 0, i6_ 0, i6_ (((0 ||| (1 * 2 ^ (vI (s.getD 1 0))) : Nat) : Int))] 148] : List (Nat × Obj)) rfl rfl rfl rfl Tryd.call150 rfl (fun w1 hw1 => (ih (s.drop 2) B w0 (([bk_ g_3 u_3 5, bk_ p15 #[.int .u8 (((s.getD 0 0).toNat : Int)), sl_ g_3 1 c_3, .slice none 0 0, i6_ 0, i6_ (((0 ||| (1 * 2 ^ (vI (s.getD 1 0))) : Nat) : Int))] 148] : List (Nat × Obj)) ++ hs) w1 (by simp only [List.length_drop] at *; omega) hw1).mono fun en w' hR => by rw [hpp4] at hR; obtain ⟨q, new, h1, h2, h3⟩ := hR; exact ⟨(q, new), h1, h2, h3⟩) fun ⟨q94_3, new94_3⟩ hTq94_3 => ?_
           dsimp only at hTq94_3
           have hfq94_3 := frB_lt (parse_wf _ (Nat.le_refl _) hpp4)
           have haq94_3 := allB_lt (parse_wf _ (Nat.le_refl _) hpp4)
           show Ll _ _ (Own _ _ (_ :: _ :: (new94_3 ++ hs))) _ _ ((94, .tuple #[ptrV q94_3, str r4]) :: _) _ _ _
           refine Ll.run 1 rfl ?_
           refine Ll.op (v := ptrV q94_3) rfl rfl rfl (OpQ.extract rfl rfl rfl) ?_
           refine Ll.op (v := str r4) rfl rfl rfl (OpQ.extract rfl rfl rfl) ?_
           refine Ll.run 2 rfl ?_
           refine Ll.nil ?_
           refine Kt.sel [4, 7, 8, 89, 90] [_, _, _, _, _] rfl ?_
           refine Wk.seq ?_
           refine Wk.seq ?_
           refine Wk.regionQ ?_
           refine Lq.run 1 rfl ?_
           refine Lq.op (v := bo_ false) rfl rfl rfl (OpQ.eqNilP (p := some ⟨q94_3, 0, none⟩) rfl Tryd.underlying111 rfl rfl) ?_
           refine Lq.nil ?_
           refine Kt.sel [4, 7, 8, 89, 90, 98] [_, _, _, _, _, _] rfl ?_
           refine Wk.condF rfl ?_
           refine Wk.skip ?_
           refine Kt.sel [4, 7, 8, 89, 90] [_, _, _, _, _] rfl ?_
           refine Wk.seq ?_
           refine Wk.region ?_
           refine Ll.run 2 rfl ?_
           refine Ll.op (v := pt_ p15) rfl rfl rfl (OpQ.nilCheck rfl rfl) ?_
           refine Ll.op rfl rfl rfl (OpQ.fieldAddr rfl Tryd.runUnderlying148 rfl Tryd.sizeOf146 rfl rfl) ?_
           refine Ll.op rfl rfl rfl (OpQ.loadOwn 1 rfl Tryd.isAgg146 rfl rfl rfl) ?_
           refine Ll.run 1 rfl ?_
           refine Ll.slice (xs := [.tmp 105]) (vs := [ptrV q94_3]) Base.elem146 rfl rfl rfl rfl rfl rfl (by decide) rfl fun p106_3 hp106_3 => ?_
           refine Ll.appendN1 (V := ptrV q94_3) Base.elem146 0 rfl rfl rfl rfl rfl rfl rfl fun g107_3 c107_3 u107_3 hg107_3 hcg107_3 hlg107_3 htg107_3 => ?_
           show Ll _ _ (Own _ _ (_ :: _ :: _ :: _ :: (new94_3 ++ hs))) _ _ ((107, sl_ g107_3 1 c107_3) :: _) _ _ _
           refine Ll.op (v := pt_ p15) rfl rfl rfl (OpQ.nilCheck rfl rfl) ?_
           refine Ll.op rfl rfl rfl (OpQ.fieldAddr rfl Tryd.runUnderlying148 rfl Tryd.sizeOf146 rfl rfl) ?_
           refine Ll.store1 (v := sl_ g107_3 1 c107_3) (hs' := (_ :: _ :: _ :: bk_ p15 #[.int .u8 (((s.getD 0 0).toNat : Int)), sl_ g_3 1 c_3, sl_ g107_3 1 c107_3, i6_ 0, i6_ (((0 ||| (1 * 2 ^ (vI (s.getD 1 0))) : Nat) : Int))] 148 :: (new94_3 ++ hs))) 3 rfl rfl rfl rfl rfl rfl Tryd.sizeOf146 rfl (by simp) rfl ?_
           refine Ll.nil ?_
           refine Kt.sel [4, 7, 8, 89, 90] [_, _, _, _, _] rfl ?_
           refine Wk.seq ?_
           refine Wk.join (σ := Unit) (fun _ => True) (fun _ => [(4, pt_ p15), (7, ptrV q94_3), (8, str r4), (89, i6_ 1), (90, i6_ 0)]) (fun _ => Own B w0 (bk_ g107_3 u107_3 111 :: bk_ p106_3 #[ptrV q94_3] 111 :: bk_ g_3 u_3 5 :: bk_ p15 #[.int .u8 (((s.getD 0 0).toNat : Int)), sl_ g_3 1 c_3, sl_ g107_3 1 c107_3, i6_ (((0 ||| (frB fm4) : Nat) : Int)), i6_ (((0 ||| (1 * 2 ^ (vI (s.getD 1 0))) : Nat) : Int))] 148 :: (new94_3 ++ hs))) ?_ ?_
           ·
            refine Wk.regionU (S := Own B w0 (bk_ g107_3 u107_3 111 :: bk_ p106_3 #[ptrV q94_3] 111 :: bk_ g_3 u_3 5 :: (new94_3 ++ hs))) (.take 0 (.take 4 (.two 1 (.take 2 (.two 3 (.one 5 (.take 6 (.one 7 (.take 8 (.one 9 (.take 10 (.one 11 .done))))))) 5 (.take 6 (.two 3 (.one 7 (.take 8 (.one 9 (.take 10 (.one 11 .done))))) 7 (.one 3 (.take 8 (.one 9 (.take 10 (.one 11 .done))))))))) 5 (.take 6 (.two 1 (.take 2 (.two 3 (.one 7 (.take 8 (.one 9 (.take 10 (.one 11 .done))))) 7 (.one 3 (.take 8 (.one 9 (.take 10 (.one 11 .done))))))) 7 (.one 1 (.take 2 (.one 3 (.take 8 (.one 9 (.take 10 (.one 11 .done)))))))))))) Base.mixed (fun _ h => h.drawn) (by kernel_rfl) ?_
            refine Lu.run 2 rfl (pT 4 [0, 1, 2] rfl rfl) ?_
            refine Lu.two rfl rfl ?_ ?_
            ·
             refine Ll.op (v := pt_ p15) rfl rfl rfl (OpQ.nilCheck rfl rfl) ?_
             refine Ll.nil (Lu.joint (pT 4 [0, 1, 2] rfl rfl) ?_)
             refine Lu.take rfl rfl rfl rfl rfl (OpQ.fieldAddr rfl Tryd.runUnderlying148 rfl Tryd.sizeOf3 rfl rfl) (pT 4 [0, 1, 2] rfl rfl) ?_
             refine Lu.two rfl rfl ?_ ?_
             ·
              refine Ll.op rfl rfl rfl (OpQ.loadOwn 3 rfl Tryd.isAgg3 rfl rfl rfl) ?_
              refine Ll.nil (Lu.joint (pT 4 [0, 1, 2] rfl rfl) ?_)
              refine Lu.loud rfl ?_
              refine Ll.op (v := ptrV q94_3) rfl rfl rfl (OpQ.nilCheck rfl rfl) ?_
              refine Ll.nil (Lu.joint (pT 4 [0, 1, 2] rfl rfl) ?_)
              refine Lu.take rfl rfl rfl rfl rfl (OpQ.fieldAddr rfl Tryd.runUnderlying148 rfl Tryd.sizeOf3 rfl rfl) (pT 4 [0, 1, 2] rfl rfl) ?_
              refine Lu.loud rfl ?_
              refine Ll.op (v := i6_ ((frB fm4 : Int))) rfl rfl rfl (OpQ.load1 rfl Tryd.isAgg3 rfl (fun w1 hw1 => tree_free (TreeB.tree (Own.dropR (Own.drop (f := [_, _, _, _]) hw1)) hTq94_3))) ?_
              refine Ll.nil (Lu.joint (pT 4 [0, 1, 2] rfl rfl) ?_)
              refine Lu.take (v := i6_ (((0 ||| (frB fm4) : Nat) : Int))) rfl rfl rfl rfl rfl (OpQ.or (a := 0) (b := frB fm4) rfl rfl rfl (by repeat' (first | omega | apply or_lt62 | apply or_lt16)) (by repeat' (first | omega | apply or_lt62 | apply or_lt16))) (pT 4 [0, 1, 2] rfl rfl) ?_
              refine Lu.loud rfl ?_
              refine Ll.op (v := pt_ p15) rfl rfl rfl (OpQ.nilCheck rfl rfl) ?_
              refine Ll.nil (Lu.joint (pT 4 [0, 1, 2] rfl rfl) ?_)
              refine Lu.take rfl rfl rfl rfl rfl (OpQ.fieldAddr rfl Tryd.runUnderlying148 rfl Tryd.sizeOf3 rfl rfl) (pT 4 [0, 1, 2] rfl rfl) ?_
              refine Lu.loud rfl ?_
              refine Ll.store1 (v := i6_ (((0 ||| (frB fm4) : Nat) : Int))) (hs' := (_ :: _ :: _ :: bk_ p15 #[.int .u8 (((s.getD 0 0).toNat : Int)), sl_ g_3 1 c_3, sl_ g107_3 1 c107_3, i6_ (((0 ||| (frB fm4) : Nat) : Int)), i6_ (((0 ||| (1 * 2 ^ (vI (s.getD 1 0))) : Nat) : Int))] 148 :: (new94_3 ++ hs))) 3 rfl rfl rfl rfl rfl rfl Tryd.sizeOf3 rfl (by simp) rfl ?_
              refine Ll.nil (Lu.joint (pT 4 [0, 1, 2] rfl rfl) ?_)
              refine Lu.nil ?_
              refine Kt.joined (()) trivial (Sub.sel [4, 7, 8, 89, 90] rfl) (fun _ h => h.sub (List.Sublist.cons_cons _ (List.Sublist.cons_cons _ (List.Sublist.cons_cons _ (List.Sublist.cons_cons _ (List.Sublist.refl _))))))
             ·
              refine Ll.op (v := ptrV q94_3) rfl rfl rfl (OpQ.nilCheck rfl rfl) ?_
              refine Ll.nil (Lu.joint (pT 4 [0, 1, 2] rfl rfl) ?_)
              refine Lu.take rfl rfl rfl rfl rfl (OpQ.fieldAddr rfl Tryd.runUnderlying148 rfl Tryd.sizeOf3 rfl rfl) (pT 4 [0, 1, 2] rfl rfl) ?_
              refine Lu.two rfl rfl ?_ ?_
              ·
               refine Ll.op rfl rfl rfl (OpQ.loadOwn 3 rfl Tryd.isAgg3 rfl rfl rfl) ?_
               refine Ll.nil (Lu.joint (pT 4 [0, 1, 2] rfl rfl) ?_)
               refine Lu.loud rfl ?_
               refine Ll.op (v := i6_ ((frB fm4 : Int))) rfl rfl rfl (OpQ.load1 rfl Tryd.isAgg3 rfl (fun w1 hw1 => tree_free (TreeB.tree (Own.dropR (Own.drop (f := [_, _, _, _]) hw1)) hTq94_3))) ?_
               refine Ll.nil (Lu.joint (pT 4 [0, 1, 2] rfl rfl) ?_)
               refine Lu.take (v := i6_ (((0 ||| (frB fm4) : Nat) : Int))) rfl rfl rfl rfl rfl (OpQ.or (a := 0) (b := frB fm4) rfl rfl rfl (by repeat' (first | omega | apply or_lt62 | apply or_lt16)) (by repeat' (first | omega | apply or_lt62 | apply or_lt16))) (pT 4 [0, 1, 2] rfl rfl) ?_
               refine Lu.loud rfl ?_
               refine Ll.op (v := pt_ p15) rfl rfl rfl (OpQ.nilCheck rfl rfl) ?_
               refine Ll.nil (Lu.joint (pT 4 [0, 1, 2] rfl rfl) ?_)
               refine Lu.take rfl rfl rfl rfl rfl (OpQ.fieldAddr rfl Tryd.runUnderlying148 rfl Tryd.sizeOf3 rfl rfl) (pT 4 [0, 1, 2] rfl rfl) ?_
               refine Lu.loud rfl ?_
               refine Ll.store1 (v := i6_ (((0 ||| (frB fm4) : Nat) : Int))) (hs' := (_ :: _ :: _ :: bk_ p15 #[.int .u8 (((s.getD 0 0).toNat : Int)), sl_ g_3 1 c_3, sl_ g107_3 1 c107_3, i6_ (((0 ||| (frB fm4) : Nat) : Int)), i6_ (((0 ||| (1 * 2 ^ (vI (s.getD 1 0))) : Nat) : Int))] 148 :: (new94_3 ++ hs))) 3 rfl rfl rfl rfl rfl rfl Tryd.sizeOf3 rfl (by simp) rfl ?_
               refine Ll.nil (Lu.joint (pT 4 [0, 1, 2] rfl rfl) ?_)
               refine Lu.nil ?_
               refine Kt.joined (()) trivial (Sub.sel [4, 7, 8, 89, 90] rfl) (fun _ h => h.sub (List.Sublist.cons_cons _ (List.Sublist.cons_cons _ (List.Sublist.cons_cons _ (List.Sublist.cons_cons _ (List.Sublist.refl _))))))
              ·
               refine Ll.op (v := i6_ ((frB fm4 : Int))) rfl rfl rfl (OpQ.load1 rfl Tryd.isAgg3 rfl (fun w1 hw1 => tree_free (TreeB.tree (Own.dropR (Own.drop (f := [_, _, _, _]) hw1)) hTq94_3))) ?_
               refine Ll.nil (Lu.joint (pT 4 [0, 1, 2] rfl rfl) ?_)
               refine Lu.loud rfl ?_
               refine Ll.op rfl rfl rfl (OpQ.loadOwn 3 rfl Tryd.isAgg3 rfl rfl rfl) ?_
               refine Ll.nil (Lu.joint (pT 4 [0, 1, 2] rfl rfl) ?_)
               refine Lu.take (v := i6_ (((0 ||| (frB fm4) : Nat) : Int))) rfl rfl rfl rfl rfl (OpQ.or (a := 0) (b := frB fm4) rfl rfl rfl (by repeat' (first | omega | apply or_lt62 | apply or_lt16)) (by repeat' (first | omega | apply or_lt62 | apply or_lt16))) (pT 4 [0, 1, 2] rfl rfl) ?_
               refine Lu.loud rfl ?_
               refine Ll.op (v := pt_ p15) rfl rfl rfl (OpQ.nilCheck rfl rfl) ?_
               refine Ll.nil (Lu.joint (pT 4 [0, 1, 2] rfl rfl) ?_)
               refine Lu.take rfl rfl rfl rfl rfl (OpQ.fieldAddr rfl Tryd.runUnderlying148 rfl Tryd.sizeOf3 rfl rfl) (pT 4 [0, 1, 2] rfl rfl) ?_
               refine Lu.loud rfl ?_
               refine Ll.store1 (v := i6_ (((0 ||| (frB fm4) : Nat) : Int))) (hs' := (_ :: _ :: _ :: bk_ p15 #[.int .u8 (((s.getD 0 0).toNat : Int)), sl_ g_3 1 c_3, sl_ g107_3 1 c107_3, i6_ (((0 ||| (frB fm4) : Nat) : Int)), i6_ (((0 ||| (1 * 2 ^ (vI (s.getD 1 0))) : Nat) : Int))] 148 :: (new94_3 ++ hs))) 3 rfl rfl rfl rfl rfl rfl Tryd.sizeOf3 rfl (by simp) rfl ?_
               refine Ll.nil (Lu.joint (pT 4 [0, 1, 2] rfl rfl) ?_)
               refine Lu.nil ?_
               refine Kt.joined (()) trivial (Sub.sel [4, 7, 8, 89, 90] rfl) (fun _ h => h.sub (List.Sublist.cons_cons _ (List.Sublist.cons_cons _ (List.Sublist.cons_cons _ (List.Sublist.cons_cons _ (List.Sublist.refl _))))))
            ·
             refine Ll.op (v := ptrV q94_3) rfl rfl rfl (OpQ.nilCheck rfl rfl) ?_
             refine Ll.nil (Lu.joint (pT 4 [0, 1, 2] rfl rfl) ?_)
             refine Lu.take rfl rfl rfl rfl rfl (OpQ.fieldAddr rfl Tryd.runUnderlying148 rfl Tryd.sizeOf3 rfl rfl) (pT 4 [0, 1, 2] rfl rfl) ?_
             refine Lu.two rfl rfl ?_ ?_
             ·
              refine Ll.op (v := pt_ p15) rfl rfl rfl (OpQ.nilCheck rfl rfl) ?_
              refine Ll.nil (Lu.joint (pT 4 [0, 1, 2] rfl rfl) ?_)
              refine Lu.take rfl rfl rfl rfl rfl (OpQ.fieldAddr rfl Tryd.runUnderlying148 rfl Tryd.sizeOf3 rfl rfl) (pT 4 [0, 1, 2] rfl rfl) ?_
              refine Lu.two rfl rfl ?_ ?_
              ·
               refine Ll.op rfl rfl rfl (OpQ.loadOwn 3 rfl Tryd.isAgg3 rfl rfl rfl) ?_
               refine Ll.nil (Lu.joint (pT 4 [0, 1, 2] rfl rfl) ?_)
               refine Lu.loud rfl ?_
               refine Ll.op (v := i6_ ((frB fm4 : Int))) rfl rfl rfl (OpQ.load1 rfl Tryd.isAgg3 rfl (fun w1 hw1 => tree_free (TreeB.tree (Own.dropR (Own.drop (f := [_, _, _, _]) hw1)) hTq94_3))) ?_
               refine Ll.nil (Lu.joint (pT 4 [0, 1, 2] rfl rfl) ?_)
               refine Lu.take (v := i6_ (((0 ||| (frB fm4) : Nat) : Int))) rfl rfl rfl rfl rfl (OpQ.or (a := 0) (b := frB fm4) rfl rfl rfl (by repeat' (first | omega | apply or_lt62 | apply or_lt16)) (by repeat' (first | omega | apply or_lt62 | apply or_lt16))) (pT 4 [0, 1, 2] rfl rfl) ?_
               refine Lu.loud rfl ?_
               refine Ll.op (v := pt_ p15) rfl rfl rfl (OpQ.nilCheck rfl rfl) ?_
               refine Ll.nil (Lu.joint (pT 4 [0, 1, 2] rfl rfl) ?_)
               refine Lu.take rfl rfl rfl rfl rfl (OpQ.fieldAddr rfl Tryd.runUnderlying148 rfl Tryd.sizeOf3 rfl rfl) (pT 4 [0, 1, 2] rfl rfl) ?_
               refine Lu.loud rfl ?_
               refine Ll.store1 (v := i6_ (((0 ||| (frB fm4) : Nat) : Int))) (hs' := (_ :: _ :: _ :: bk_ p15 #[.int .u8 (((s.getD 0 0).toNat : Int)), sl_ g_3 1 c_3, sl_ g107_3 1 c107_3, i6_ (((0 ||| (frB fm4) : Nat) : Int)), i6_ (((0 ||| (1 * 2 ^ (vI (s.getD 1 0))) : Nat) : Int))] 148 :: (new94_3 ++ hs))) 3 rfl rfl rfl rfl rfl rfl Tryd.sizeOf3 rfl (by simp) rfl ?_
               refine Ll.nil (Lu.joint (pT 4 [0, 1, 2] rfl rfl) ?_)
               refine Lu.nil ?_
               refine Kt.joined (()) trivial (Sub.sel [4, 7, 8, 89, 90] rfl) (fun _ h => h.sub (List.Sublist.cons_cons _ (List.Sublist.cons_cons _ (List.Sublist.cons_cons _ (List.Sublist.cons_cons _ (List.Sublist.refl _))))))
              ·
               refine Ll.op (v := i6_ ((frB fm4 : Int))) rfl rfl rfl (OpQ.load1 rfl Tryd.isAgg3 rfl (fun w1 hw1 => tree_free (TreeB.tree (Own.dropR (Own.drop (f := [_, _, _, _]) hw1)) hTq94_3))) ?_
               refine Ll.nil (Lu.joint (pT 4 [0, 1, 2] rfl rfl) ?_)
               refine Lu.loud rfl ?_
               refine Ll.op rfl rfl rfl (OpQ.loadOwn 3 rfl Tryd.isAgg3 rfl rfl rfl) ?_
               refine Ll.nil (Lu.joint (pT 4 [0, 1, 2] rfl rfl) ?_)
               refine Lu.take (v := i6_ (((0 ||| (frB fm4) : Nat) : Int))) rfl rfl rfl rfl rfl (OpQ.or (a := 0) (b := frB fm4) rfl rfl rfl (by repeat' (first | omega | apply or_lt62 | apply or_lt16)) (by repeat' (first | omega | apply or_lt62 | apply or_lt16))) (pT 4 [0, 1, 2] rfl rfl) ?_
               refine Lu.loud rfl ?_
               refine Ll.op (v := pt_ p15) rfl rfl rfl (OpQ.nilCheck rfl rfl) ?_
               refine Ll.nil (Lu.joint (pT 4 [0, 1, 2] rfl rfl) ?_)
               refine Lu.take rfl rfl rfl rfl rfl (OpQ.fieldAddr rfl Tryd.runUnderlying148 rfl Tryd.sizeOf3 rfl rfl) (pT 4 [0, 1, 2] rfl rfl) ?_
               refine Lu.loud rfl ?_
               refine Ll.store1 (v := i6_ (((0 ||| (frB fm4) : Nat) : Int))) (hs' := (_ :: _ :: _ :: bk_ p15 #[.int .u8 (((s.getD 0 0).toNat : Int)), sl_ g_3 1 c_3, sl_ g107_3 1 c107_3, i6_ (((0 ||| (frB fm4) : Nat) : Int)), i6_ (((0 ||| (1 * 2 ^ (vI (s.getD 1 0))) : Nat) : Int))] 148 :: (new94_3 ++ hs))) 3 rfl rfl rfl rfl rfl rfl Tryd.sizeOf3 rfl (by simp) rfl ?_
               refine Ll.nil (Lu.joint (pT 4 [0, 1, 2] rfl rfl) ?_)
               refine Lu.nil ?_
               refine Kt.joined (()) trivial (Sub.sel [4, 7, 8, 89, 90] rfl) (fun _ h => h.sub (List.Sublist.cons_cons _ (List.Sublist.cons_cons _ (List.Sublist.cons_cons _ (List.Sublist.cons_cons _ (List.Sublist.refl _))))))
             ·
              refine Ll.op (v := i6_ ((frB fm4 : Int))) rfl rfl rfl (OpQ.load1 rfl Tryd.isAgg3 rfl (fun w1 hw1 => tree_free (TreeB.tree (Own.dropR (Own.drop (f := [_, _, _, _]) hw1)) hTq94_3))) ?_
              refine Ll.nil (Lu.joint (pT 4 [0, 1, 2] rfl rfl) ?_)
              refine Lu.loud rfl ?_
              refine Ll.op (v := pt_ p15) rfl rfl rfl (OpQ.nilCheck rfl rfl) ?_
              refine Ll.nil (Lu.joint (pT 4 [0, 1, 2] rfl rfl) ?_)
              refine Lu.take rfl rfl rfl rfl rfl (OpQ.fieldAddr rfl Tryd.runUnderlying148 rfl Tryd.sizeOf3 rfl rfl) (pT 4 [0, 1, 2] rfl rfl) ?_
              refine Lu.loud rfl ?_
              refine Ll.op rfl rfl rfl (OpQ.loadOwn 3 rfl Tryd.isAgg3 rfl rfl rfl) ?_
              refine Ll.nil (Lu.joint (pT 4 [0, 1, 2] rfl rfl) ?_)
              refine Lu.take (v := i6_ (((0 ||| (frB fm4) : Nat) : Int))) rfl rfl rfl rfl rfl (OpQ.or (a := 0) (b := frB fm4) rfl rfl rfl (by repeat' (first | omega | apply or_lt62 | apply or_lt16)) (by repeat' (first | omega | apply or_lt62 | apply or_lt16))) (pT 4 [0, 1, 2] rfl rfl) ?_
              refine Lu.loud rfl ?_
              refine Ll.op (v := pt_ p15) rfl rfl rfl (OpQ.nilCheck rfl rfl) ?_
              refine Ll.nil (Lu.joint (pT 4 [0, 1, 2] rfl rfl) ?_)
              refine Lu.take rfl rfl rfl rfl rfl (OpQ.fieldAddr rfl Tryd.runUnderlying148 rfl Tryd.sizeOf3 rfl rfl) (pT 4 [0, 1, 2] rfl rfl) ?_
              refine Lu.loud rfl ?_
              refine Ll.store1 (v := i6_ (((0 ||| (frB fm4) : Nat) : Int))) (hs' := (_ :: _ :: _ :: bk_ p15 #[.int .u8 (((s.getD 0 0).toNat : Int)), sl_ g_3 1 c_3, sl_ g107_3 1 c107_3, i6_ (((0 ||| (frB fm4) : Nat) : Int)), i6_ (((0 ||| (1 * 2 ^ (vI (s.getD 1 0))) : Nat) : Int))] 148 :: (new94_3 ++ hs))) 3 rfl rfl rfl rfl rfl rfl Tryd.sizeOf3 rfl (by simp) rfl ?_
              refine Ll.nil (Lu.joint (pT 4 [0, 1, 2] rfl rfl) ?_)
              refine Lu.nil ?_
              refine Kt.joined (()) trivial (Sub.sel [4, 7, 8, 89, 90] rfl) (fun _ h => h.sub (List.Sublist.cons_cons _ (List.Sublist.cons_cons _ (List.Sublist.cons_cons _ (List.Sublist.cons_cons _ (List.Sublist.refl _))))))
           rintro _ hj
           refine Kt.sel [4, 7, 8, 89, 90] [_, _, _, _, _] rfl ?_
           refine Wk.seq ?_
           refine Wk.join (σ := Unit) (fun _ => True) (fun _ => [(4, pt_ p15), (8, str r4), (89, i6_ 1), (90, i6_ 0)]) (fun _ => Own B w0 (bk_ g107_3 u107_3 111 :: bk_ p106_3 #[ptrV q94_3] 111 :: bk_ g_3 u_3 5 :: bk_ p15 #[.int .u8 (((s.getD 0 0).toNat : Int)), sl_ g_3 1 c_3, sl_ g107_3 1 c107_3, i6_ (((0 ||| (frB fm4) : Nat) : Int)), i6_ ((((0 ||| (1 * 2 ^ (vI (s.getD 1 0)))) ||| (allB fm4) : Nat) : Int))] 148 :: (new94_3 ++ hs))) ?_ ?_
           ·
            refine Wk.regionU (S := Own B w0 (bk_ g107_3 u107_3 111 :: bk_ p106_3 #[ptrV q94_3] 111 :: bk_ g_3 u_3 5 :: (new94_3 ++ hs))) (.take 0 (.take 4 (.two 1 (.take 2 (.two 3 (.one 5 (.take 6 (.one 7 (.take 8 (.one 9 (.take 10 (.one 11 .done))))))) 5 (.take 6 (.two 3 (.one 7 (.take 8 (.one 9 (.take 10 (.one 11 .done))))) 7 (.one 3 (.take 8 (.one 9 (.take 10 (.one 11 .done))))))))) 5 (.take 6 (.two 1 (.take 2 (.two 3 (.one 7 (.take 8 (.one 9 (.take 10 (.one 11 .done))))) 7 (.one 3 (.take 8 (.one 9 (.take 10 (.one 11 .done))))))) 7 (.one 1 (.take 2 (.one 3 (.take 8 (.one 9 (.take 10 (.one 11 .done)))))))))))) Base.mixed (fun _ h => h.drawn) (by kernel_rfl) ?_
            refine Lu.run 2 rfl (pT 4 [0, 1, 2] rfl rfl) ?_
            refine Lu.two rfl rfl ?_ ?_
            ·
             refine Ll.op (v := pt_ p15) rfl rfl rfl (OpQ.nilCheck rfl rfl) ?_
             refine Ll.nil (Lu.joint (pT 4 [0, 1, 2] rfl rfl) ?_)
             refine Lu.take rfl rfl rfl rfl rfl (OpQ.fieldAddr rfl Tryd.runUnderlying148 rfl Tryd.sizeOf3 rfl rfl) (pT 4 [0, 1, 2] rfl rfl) ?_
             refine Lu.two rfl rfl ?_ ?_
             ·
              refine Ll.op rfl rfl rfl (OpQ.loadOwn 3 rfl Tryd.isAgg3 rfl rfl rfl) ?_
              refine Ll.nil (Lu.joint (pT 4 [0, 1, 2] rfl rfl) ?_)
              refine Lu.loud rfl ?_
              refine Ll.op (v := ptrV q94_3) rfl rfl rfl (OpQ.nilCheck rfl rfl) ?_
              refine Ll.nil (Lu.joint (pT 4 [0, 1, 2] rfl rfl) ?_)
              refine Lu.take rfl rfl rfl rfl rfl (OpQ.fieldAddr rfl Tryd.runUnderlying148 rfl Tryd.sizeOf3 rfl rfl) (pT 4 [0, 1, 2] rfl rfl) ?_
              refine Lu.loud rfl ?_
              refine Ll.op (v := i6_ ((allB fm4 : Int))) rfl rfl rfl (OpQ.load1 rfl Tryd.isAgg3 rfl (fun w1 hw1 => tree_all (TreeB.tree (Own.dropR (Own.drop (f := [_, _, _, _]) hw1)) hTq94_3))) ?_
              refine Ll.nil (Lu.joint (pT 4 [0, 1, 2] rfl rfl) ?_)
              refine Lu.take (v := i6_ ((((0 ||| (1 * 2 ^ (vI (s.getD 1 0)))) ||| (allB fm4) : Nat) : Int))) rfl rfl rfl rfl rfl (OpQ.or (a := 0 ||| (1 * 2 ^ (vI (s.getD 1 0)))) (b := allB fm4) rfl rfl rfl (by repeat' (first | omega | apply or_lt62 | apply or_lt16)) (by repeat' (first | omega | apply or_lt62 | apply or_lt16))) (pT 4 [0, 1, 2] rfl rfl) ?_
              refine Lu.loud rfl ?_
              refine Ll.op (v := pt_ p15) rfl rfl rfl (OpQ.nilCheck rfl rfl) ?_
              refine Ll.nil (Lu.joint (pT 4 [0, 1, 2] rfl rfl) ?_)
              refine Lu.take rfl rfl rfl rfl rfl (OpQ.fieldAddr rfl Tryd.runUnderlying148 rfl Tryd.sizeOf3 rfl rfl) (pT 4 [0, 1, 2] rfl rfl) ?_
              refine Lu.loud rfl ?_
              refine Ll.store1 (v := i6_ ((((0 ||| (1 * 2 ^ (vI (s.getD 1 0)))) ||| (allB fm4) : Nat) : Int))) (hs' := (_ :: _ :: _ :: bk_ p15 #[.int .u8 (((s.getD 0 0).toNat : Int)), sl_ g_3 1 c_3, sl_ g107_3 1 c107_3, i6_ (((0 ||| (frB fm4) : Nat) : Int)), i6_ ((((0 ||| (1 * 2 ^ (vI (s.getD 1 0)))) ||| (allB fm4) : Nat) : Int))] 148 :: (new94_3 ++ hs))) 3 rfl rfl rfl rfl rfl rfl Tryd.sizeOf3 rfl (by simp) rfl ?_
              refine Ll.nil (Lu.joint (pT 4 [0, 1, 2] rfl rfl) ?_)
              refine Lu.nil ?_
              refine Kt.joined (()) trivial (Sub.sel [4, 8, 89, 90] rfl) (fun _ h => h.sub (List.Sublist.cons_cons _ (List.Sublist.cons_cons _ (List.Sublist.cons_cons _ (List.Sublist.cons_cons _ (List.Sublist.refl _))))))
             ·
              refine Ll.op (v := ptrV q94_3) rfl rfl rfl (OpQ.nilCheck rfl rfl) ?_
              refine Ll.nil (Lu.joint (pT 4 [0, 1, 2] rfl rfl) ?_)
              refine Lu.take rfl rfl rfl rfl rfl (OpQ.fieldAddr rfl Tryd.runUnderlying148 rfl Tryd.sizeOf3 rfl rfl) (pT 4 [0, 1, 2] rfl rfl) ?_
              refine Lu.two rfl rfl ?_ ?_
              ·
               refine Ll.op rfl rfl rfl (OpQ.loadOwn 3 rfl Tryd.isAgg3 rfl rfl rfl) ?_
               refine Ll.nil (Lu.joint (pT 4 [0, 1, 2] rfl rfl) ?_)
               refine Lu.loud rfl ?_
               refine Ll.op (v := i6_ ((allB fm4 : Int))) rfl rfl rfl (OpQ.load1 rfl Tryd.isAgg3 rfl (fun w1 hw1 => tree_all (TreeB.tree (Own.dropR (Own.drop (f := [_, _, _, _]) hw1)) hTq94_3))) ?_
               refine Ll.nil (Lu.joint (pT 4 [0, 1, 2] rfl rfl) ?_)
               refine Lu.take (v := i6_ ((((0 ||| (1 * 2 ^ (vI (s.getD 1 0)))) ||| (allB fm4) : Nat) : Int))) rfl rfl rfl rfl rfl (OpQ.or (a := 0 ||| (1 * 2 ^ (vI (s.getD 1 0)))) (b := allB fm4) rfl rfl rfl (by repeat' (first | omega | apply or_lt62 | apply or_lt16)) (by repeat' (first | omega | apply or_lt62 | apply or_lt16))) (pT 4 [0, 1, 2] rfl rfl) ?_
               refine Lu.loud rfl ?_
               refine Ll.op (v := pt_ p15) rfl rfl rfl (OpQ.nilCheck rfl rfl) ?_
               refine Ll.nil (Lu.joint (pT 4 [0, 1, 2] rfl rfl) ?_)
               refine Lu.take rfl rfl rfl rfl rfl (OpQ.fieldAddr rfl Tryd.runUnderlying148 rfl Tryd.sizeOf3 rfl rfl) (pT 4 [0, 1, 2] rfl rfl) ?_
               refine Lu.loud rfl ?_
               refine Ll.store1 (v := i6_ ((((0 ||| (1 * 2 ^ (vI (s.getD 1 0)))) ||| (allB fm4) : Nat) : Int))) (hs' := (_ :: _ :: _ :: bk_ p15 #[.int .u8 (((s.getD 0 0).toNat : Int)), sl_ g_3 1 c_3, sl_ g107_3 1 c107_3, i6_ (((0 ||| (frB fm4) : Nat) : Int)), i6_ ((((0 ||| (1 * 2 ^ (vI (s.getD 1 0)))) ||| (allB fm4) : Nat) : Int))] 148 :: (new94_3 ++ hs))) 3 rfl rfl rfl rfl rfl rfl Tryd.sizeOf3 rfl (by simp) rfl ?_
               refine Ll.nil (Lu.joint (pT 4 [0, 1, 2] rfl rfl) ?_)
               refine Lu.nil ?_
               refine Kt.joined (()) trivial (Sub.sel [4, 8, 89, 90] rfl) (fun _ h => h.sub (List.Sublist.cons_cons _ (List.Sublist.cons_cons _ (List.Sublist.cons_cons _ (List.Sublist.cons_cons _ (List.Sublist.refl _))))))
              ·
               refine Ll.op (v := i6_ ((allB fm4 : Int))) rfl rfl rfl (OpQ.load1 rfl Tryd.isAgg3 rfl (fun w1 hw1 => tree_all (TreeB.tree (Own.dropR (Own.drop (f := [_, _, _, _]) hw1)) hTq94_3))) ?_
               refine Ll.nil (Lu.joint (pT 4 [0, 1, 2] rfl rfl) ?_)
               refine Lu.loud rfl ?_
               refine Ll.op rfl rfl rfl (OpQ.loadOwn 3 rfl Tryd.isAgg3 rfl rfl rfl) ?_
               refine Ll.nil (Lu.joint (pT 4 [0, 1, 2] rfl rfl) ?_)
               refine Lu.take (v := i6_ ((((0 ||| (1 * 2 ^ (vI (s.getD 1 0)))) ||| (allB fm4) : Nat) : Int))) rfl rfl rfl rfl rfl (OpQ.or (a := 0 ||| (1 * 2 ^ (vI (s.getD 1 0)))) (b := allB fm4) rfl rfl rfl (by repeat' (first | omega | apply or_lt62 | apply or_lt16)) (by repeat' (first | omega | apply or_lt62 | apply or_lt16))) (pT 4 [0, 1, 2] rfl rfl) ?_
               refine Lu.loud rfl ?_
               refine Ll.op (v := pt_ p15) rfl rfl rfl (OpQ.nilCheck rfl rfl) ?_
               refine Ll.nil (Lu.joint (pT 4 [0, 1, 2] rfl rfl) ?_)
               refine Lu.take rfl rfl rfl rfl rfl (OpQ.fieldAddr rfl Tryd.runUnderlying148 rfl Tryd.sizeOf3 rfl rfl) (pT 4 [0, 1, 2] rfl rfl) ?_
               refine Lu.loud rfl ?_
               refine Ll.store1 (v := i6_ ((((0 ||| (1 * 2 ^ (vI (s.getD 1 0)))) ||| (allB fm4) : Nat) : Int))) (hs' := (_ :: _ :: _ :: bk_ p15 #[.int .u8 (((s.getD 0 0).toNat : Int)), sl_ g_3 1 c_3, sl_ g107_3 1 c107_3, i6_ (((0 ||| (frB fm4) : Nat) : Int)), i6_ ((((0 ||| (1 * 2 ^ (vI (s.getD 1 0)))) ||| (allB fm4) : Nat) : Int))] 148 :: (new94_3 ++ hs))) 3 rfl rfl rfl rfl rfl rfl Tryd.sizeOf3 rfl (by simp) rfl ?_
               refine Ll.nil (Lu.joint (pT 4 [0, 1, 2] rfl rfl) ?_)
               refine Lu.nil ?_
               refine Kt.joined (()) trivial (Sub.sel [4, 8, 89, 90] rfl) (fun _ h => h.sub (List.Sublist.cons_cons _ (List.Sublist.cons_cons _ (List.Sublist.cons_cons _ (List.Sublist.cons_cons _ (List.Sublist.refl _))))))
            ·
             refine Ll.op (v := ptrV q94_3) rfl rfl rfl (OpQ.nilCheck rfl rfl) ?_
             refine Ll.nil (Lu.joint (pT 4 [0, 1, 2] rfl rfl) ?_)
             refine Lu.take rfl rfl rfl rfl rfl (OpQ.fieldAddr rfl Tryd.runUnderlying148 rfl Tryd.sizeOf3 rfl rfl) (pT 4 [0, 1, 2] rfl rfl) ?_
             refine Lu.two rfl rfl ?_ ?_
             ·
              refine Ll.op (v := pt_ p15) rfl rfl rfl (OpQ.nilCheck rfl rfl) ?_
              refine Ll.nil (Lu.joint (pT 4 [0, 1, 2] rfl rfl) ?_)
              refine Lu.take rfl rfl rfl rfl rfl (OpQ.fieldAddr rfl Tryd.runUnderlying148 rfl Tryd.sizeOf3 rfl rfl) (pT 4 [0, 1, 2] rfl rfl) ?_
              refine Lu.two rfl rfl ?_ ?_
              ·
               refine Ll.op rfl rfl rfl (OpQ.loadOwn 3 rfl Tryd.isAgg3 rfl rfl rfl) ?_
               refine Ll.nil (Lu.joint (pT 4 [0, 1, 2] rfl rfl) ?_)
               refine Lu.loud rfl ?_
               refine Ll.op (v := i6_ ((allB fm4 : Int))) rfl rfl rfl (OpQ.load1 rfl Tryd.isAgg3 rfl (fun w1 hw1 => tree_all (TreeB.tree (Own.dropR (Own.drop (f := [_, _, _, _]) hw1)) hTq94_3))) ?_
               refine Ll.nil (Lu.joint (pT 4 [0, 1, 2] rfl rfl) ?_)
               refine Lu.take (v := i6_ ((((0 ||| (1 * 2 ^ (vI (s.getD 1 0)))) ||| (allB fm4) : Nat) : Int))) rfl rfl rfl rfl rfl (OpQ.or (a := 0 ||| (1 * 2 ^ (vI (s.getD 1 0)))) (b := allB fm4) rfl rfl rfl (by repeat' (first | omega | apply or_lt62 | apply or_lt16)) (by repeat' (first | omega | apply or_lt62 | apply or_lt16))) (pT 4 [0, 1, 2] rfl rfl) ?_
               refine Lu.loud rfl ?_
               refine Ll.op (v := pt_ p15) rfl rfl rfl (OpQ.nilCheck rfl rfl) ?_
               refine Ll.nil (Lu.joint (pT 4 [0, 1, 2] rfl rfl) ?_)
               refine Lu.take rfl rfl rfl rfl rfl (OpQ.fieldAddr rfl Tryd.runUnderlying148 rfl Tryd.sizeOf3 rfl rfl) (pT 4 [0, 1, 2] rfl rfl) ?_
               refine Lu.loud rfl ?_
               refine Ll.store1 (v := i6_ ((((0 ||| (1 * 2 ^ (vI (s.getD 1 0)))) ||| (allB fm4) : Nat) : Int))) (hs' := (_ :: _ :: _ :: bk_ p15 #[.int .u8 (((s.getD 0 0).toNat : Int)), sl_ g_3 1 c_3, sl_ g107_3 1 c107_3, i6_ (((0 ||| (frB fm4) : Nat) : Int)), i6_ ((((0 ||| (1 * 2 ^ (vI (s.getD 1 0)))) ||| (allB fm4) : Nat) : Int))] 148 :: (new94_3 ++ hs))) 3 rfl rfl rfl rfl rfl rfl Tryd.sizeOf3 rfl (by simp) rfl ?_
               refine Ll.nil (Lu.joint (pT 4 [0, 1, 2] rfl rfl) ?_)
               refine Lu.nil ?_
               refine Kt.joined (()) trivial (Sub.sel [4, 8, 89, 90] rfl) (fun _ h => h.sub (List.Sublist.cons_cons _ (List.Sublist.cons_cons _ (List.Sublist.cons_cons _ (List.Sublist.cons_cons _ (List.Sublist.refl _))))))
              ·
               refine Ll.op (v := i6_ ((allB fm4 : Int))) rfl rfl rfl (OpQ.load1 rfl Tryd.isAgg3 rfl (fun w1 hw1 => tree_all (TreeB.tree (Own.dropR (Own.drop (f := [_, _, _, _]) hw1)) hTq94_3))) ?_
               refine Ll.nil (Lu.joint (pT 4 [0, 1, 2] rfl rfl) ?_)
               refine Lu.loud rfl ?_
               refine Ll.op rfl rfl rfl (OpQ.loadOwn 3 rfl Tryd.isAgg3 rfl rfl rfl) ?_
               refine Ll.nil (Lu.joint (pT 4 [0, 1, 2] rfl rfl) ?_)
               refine Lu.take (v := i6_ ((((0 ||| (1 * 2 ^ (vI (s.getD 1 0)))) ||| (allB fm4) : Nat) : Int))) rfl rfl rfl rfl rfl (OpQ.or (a := 0 ||| (1 * 2 ^ (vI (s.getD 1 0)))) (b := allB fm4) rfl rfl rfl (by repeat' (first | omega | apply or_lt62 | apply or_lt16)) (by repeat' (first | omega | apply or_lt62 | apply or_lt16))) (pT 4 [0, 1, 2] rfl rfl) ?_
               refine Lu.loud rfl ?_
               refine Ll.op (v := pt_ p15) rfl rfl rfl (OpQ.nilCheck rfl rfl) ?_
               refine Ll.nil (Lu.joint (pT 4 [0, 1, 2] rfl rfl) ?_)
               refine Lu.take rfl rfl rfl rfl rfl (OpQ.fieldAddr rfl Tryd.runUnderlying148 rfl Tryd.sizeOf3 rfl rfl) (pT 4 [0, 1, 2] rfl rfl) ?_
               refine Lu.loud rfl ?_
               refine Ll.store1 (v := i6_ ((((0 ||| (1 * 2 ^ (vI (s.getD 1 0)))) ||| (allB fm4) : Nat) : Int))) (hs' := (_ :: _ :: _ :: bk_ p15 #[.int .u8 (((s.getD 0 0).toNat : Int)), sl_ g_3 1 c_3, sl_ g107_3 1 c107_3, i6_ (((0 ||| (frB fm4) : Nat) : Int)), i6_ ((((0 ||| (1 * 2 ^ (vI (s.getD 1 0)))) ||| (allB fm4) : Nat) : Int))] 148 :: (new94_3 ++ hs))) 3 rfl rfl rfl rfl rfl rfl Tryd.sizeOf3 rfl (by simp) rfl ?_
               refine Ll.nil (Lu.joint (pT 4 [0, 1, 2] rfl rfl) ?_)
               refine Lu.nil ?_
               refine Kt.joined (()) trivial (Sub.sel [4, 8, 89, 90] rfl) (fun _ h => h.sub (List.Sublist.cons_cons _ (List.Sublist.cons_cons _ (List.Sublist.cons_cons _ (List.Sublist.cons_cons _ (List.Sublist.refl _))))))
             ·
              refine Ll.op (v := i6_ ((allB fm4 : Int))) rfl rfl rfl (OpQ.load1 rfl Tryd.isAgg3 rfl (fun w1 hw1 => tree_all (TreeB.tree (Own.dropR (Own.drop (f := [_, _, _, _]) hw1)) hTq94_3))) ?_
              refine Ll.nil (Lu.joint (pT 4 [0, 1, 2] rfl rfl) ?_)
              refine Lu.loud rfl ?_
              refine Ll.op (v := pt_ p15) rfl rfl rfl (OpQ.nilCheck rfl rfl) ?_
              refine Ll.nil (Lu.joint (pT 4 [0, 1, 2] rfl rfl) ?_)
              refine Lu.take rfl rfl rfl rfl rfl (OpQ.fieldAddr rfl Tryd.runUnderlying148 rfl Tryd.sizeOf3 rfl rfl) (pT 4 [0, 1, 2] rfl rfl) ?_
              refine Lu.loud rfl ?_
              refine Ll.op rfl rfl rfl (OpQ.loadOwn 3 rfl Tryd.isAgg3 rfl rfl rfl) ?_
              refine Ll.nil (Lu.joint (pT 4 [0, 1, 2] rfl rfl) ?_)
              refine Lu.take (v := i6_ ((((0 ||| (1 * 2 ^ (vI (s.getD 1 0)))) ||| (allB fm4) : Nat) : Int))) rfl rfl rfl rfl rfl (OpQ.or (a := 0 ||| (1 * 2 ^ (vI (s.getD 1 0)))) (b := allB fm4) rfl rfl rfl (by repeat' (first | omega | apply or_lt62 | apply or_lt16)) (by repeat' (first | omega | apply or_lt62 | apply or_lt16))) (pT 4 [0, 1, 2] rfl rfl) ?_
              refine Lu.loud rfl ?_
              refine Ll.op (v := pt_ p15) rfl rfl rfl (OpQ.nilCheck rfl rfl) ?_
              refine Ll.nil (Lu.joint (pT 4 [0, 1, 2] rfl rfl) ?_)
              refine Lu.take rfl rfl rfl rfl rfl (OpQ.fieldAddr rfl Tryd.runUnderlying148 rfl Tryd.sizeOf3 rfl rfl) (pT 4 [0, 1, 2] rfl rfl) ?_
              refine Lu.loud rfl ?_
              refine Ll.store1 (v := i6_ ((((0 ||| (1 * 2 ^ (vI (s.getD 1 0)))) ||| (allB fm4) : Nat) : Int))) (hs' := (_ :: _ :: _ :: bk_ p15 #[.int .u8 (((s.getD 0 0).toNat : Int)), sl_ g_3 1 c_3, sl_ g107_3 1 c107_3, i6_ (((0 ||| (frB fm4) : Nat) : Int)), i6_ ((((0 ||| (1 * 2 ^ (vI (s.getD 1 0)))) ||| (allB fm4) : Nat) : Int))] 148 :: (new94_3 ++ hs))) 3 rfl rfl rfl rfl rfl rfl Tryd.sizeOf3 rfl (by simp) rfl ?_
              refine Ll.nil (Lu.joint (pT 4 [0, 1, 2] rfl rfl) ?_)
              refine Lu.nil ?_
              refine Kt.joined (()) trivial (Sub.sel [4, 8, 89, 90] rfl) (fun _ h => h.sub (List.Sublist.cons_cons _ (List.Sublist.cons_cons _ (List.Sublist.cons_cons _ (List.Sublist.cons_cons _ (List.Sublist.refl _))))))
           rintro _ hj
           refine Kt.sel [4, 8, 89, 90] [_, _, _, _] rfl ?_
           refine Wk.regionQ ?_
           refine Lq.run 2 rfl ?_
           refine Lq.nil ?_
           refine Kt.sel [0, 4, 89, 90] [_, _, _, _] rfl ?_
           refine Wk.regionQ ?_
           refine Lq.op rfl rfl rfl (OpQ.add rfl rfl rfl (by decide) (by decide)) ?_
           refine Lq.run 1 rfl ?_
           refine Lq.nil ?_
           refine Kt.round (e' := [(0, str r4), (4, pt_ p15), (89, i6_ 1), (90, i6_ 1)]) (Sub.sel [0, 4, 89, 90] rfl) ?_
           refine Wk.seq ?_
           refine Wk.regionQ ?_
           refine Lq.run 1 rfl ?_
           refine Lq.nil ?_
           refine Kt.sel [0, 4, 89, 90, 91] [_, _, _, _, _] rfl ?_
           refine Wk.seq ?_
           refine Wk.condF rfl ?_
           refine Wk.exit rfl ?_
           refine Kt.sel [0, 4] [_, _] rfl ?_
           refine Wk.seq ?_
           refine Wk.seq ?_
           refine Wk.regionQ ?_
           refine Lq.run 1 rfl ?_
           refine Lq.op (v := bo_ (decide (quI (((s.getD 0 0)).toNat : Int)))) rfl rfl rfl (OpQ.call rfl Tryd.call152 rfl Own.stable (fun w1 hw1 => isQuant_ok _ _ ((s.getD 0 0)) _ _ _ _ w1 (hw1.has 3 _ _ rfl).2)) ?_
           refine Lq.nil ?_
           refine Kt.sel [0, 4, 135] [_, _, _] rfl ?_
           refine Wk.cond (b := decide (quI (((s.getD 0 0)).toNat : Int))) rfl (fun h135_5 => ?_) (fun h135_5 => ?_)
           ·
            replace h135_5 := of_decide_eq_true h135_5
            refine Wk.join (σ := Unit) (fun _ => True) (fun _ => [(0, str r4), (4, pt_ p15)]) (fun _ => Own B w0 (bk_ g107_3 u107_3 111 :: bk_ p106_3 #[ptrV q94_3] 111 :: bk_ g_3 u_3 5 :: bk_ p15 #[.int .u8 (((s.getD 0 0).toNat : Int)), sl_ g_3 1 c_3, sl_ g107_3 1 c107_3, i6_ ((((0 ||| (frB fm4)) &&& (15 ^^^ (1 * 2 ^ (vI (s.getD 1 0)))) : Nat) : Int)), i6_ ((((0 ||| (1 * 2 ^ (vI (s.getD 1 0)))) ||| (allB fm4) : Nat) : Int))] 148 :: (new94_3 ++ hs))) ?_ ?_
            ·
             refine Wk.regionU (S := Own B w0 (bk_ g107_3 u107_3 111 :: bk_ p106_3 #[ptrV q94_3] 111 :: bk_ g_3 u_3 5 :: (new94_3 ++ hs))) (.take 0 (.take 4 (.two 1 (.take 2 (.two 3 (.one 5 (.take 6 (.one 7 (.take 8 (.one 9 (.take 10 (.take 11 (.take 12 (.one 13 (.take 14 (.one 15 .done))))))))))) 5 (.take 6 (.two 3 (.one 7 (.take 8 (.one 9 (.take 10 (.take 11 (.take 12 (.one 13 (.take 14 (.one 15 .done))))))))) 7 (.take 8 (.two 3 (.one 9 (.take 10 (.take 11 (.take 12 (.one 13 (.take 14 (.one 15 .done))))))) 9 (.take 10 (.take 11 (.one 3 (.take 12 (.one 13 (.take 14 (.one 15 .done))))))))))))) 5 (.take 6 (.two 1 (.take 2 (.two 3 (.one 7 (.take 8 (.one 9 (.take 10 (.take 11 (.take 12 (.one 13 (.take 14 (.one 15 .done))))))))) 7 (.take 8 (.two 3 (.one 9 (.take 10 (.take 11 (.take 12 (.one 13 (.take 14 (.one 15 .done))))))) 9 (.take 10 (.take 11 (.one 3 (.take 12 (.one 13 (.take 14 (.one 15 .done))))))))))) 7 (.take 8 (.two 1 (.take 2 (.two 3 (.one 9 (.take 10 (.take 11 (.take 12 (.one 13 (.take 14 (.one 15 .done))))))) 9 (.take 10 (.take 11 (.one 3 (.take 12 (.one 13 (.take 14 (.one 15 .done))))))))) 9 (.take 10 (.take 11 (.one 1 (.take 2 (.one 3 (.take 12 (.one 13 (.take 14 (.one 15 .done)))))))))))))))) Base.mixed (fun _ h => h.drawn) (by kernel_rfl) ?_
             refine Lu.run 2 rfl (pT 4 [0, 1, 2] rfl rfl) ?_
             refine Lu.two rfl rfl ?_ ?_
             ·
              refine Ll.op (v := pt_ p15) rfl rfl rfl (OpQ.nilCheck rfl rfl) ?_
              refine Ll.nil (Lu.joint (pT 4 [0, 1, 2] rfl rfl) ?_)
              refine Lu.take rfl rfl rfl rfl rfl (OpQ.fieldAddr rfl Tryd.runUnderlying148 rfl Tryd.sizeOf3 rfl rfl) (pT 4 [0, 1, 2] rfl rfl) ?_
              refine Lu.two rfl rfl ?_ ?_
              ·
               refine Ll.op rfl rfl rfl (OpQ.loadOwn 3 rfl Tryd.isAgg3 rfl rfl rfl) ?_
               refine Ll.nil (Lu.joint (pT 4 [0, 1, 2] rfl rfl) ?_)
               refine Lu.loud rfl ?_
               refine Ll.op (v := pt_ p15) rfl rfl rfl (OpQ.nilCheck rfl rfl) ?_
               refine Ll.nil (Lu.joint (pT 4 [0, 1, 2] rfl rfl) ?_)
               refine Lu.take rfl rfl rfl rfl rfl (OpQ.fieldAddr rfl Tryd.runUnderlying148 rfl Tryd.sizeOf33 rfl rfl) (pT 4 [0, 1, 2] rfl rfl) ?_
               refine Lu.loud rfl ?_
               refine Ll.op rfl rfl rfl (OpQ.loadOwn 3 rfl Tryd.isAgg33 rfl rfl rfl) ?_
               refine Ll.nil (Lu.joint (pT 4 [0, 1, 2] rfl rfl) ?_)
               refine Lu.take (v := pf_ g_3 (0 + (0 : Int).toNat)) rfl rfl rfl rfl rfl (OpQ.indexAddr1 rfl Tryd.runUnderlying33 Tryd.sizeOf5 rfl rfl (by omega) (by omega)) (pT 4 [0, 1, 2] rfl rfl) ?_
               refine Lu.loud rfl ?_
               refine Ll.op (v := .int .u8 (((s.getD 1 0).toNat : Int))) rfl rfl rfl (OpQ.loadAt 2 rfl Tryd.isAgg5 rfl rfl (cur_at htg_3 rfl)) ?_
               refine Ll.nil (Lu.joint (pT 4 [0, 1, 2] rfl rfl) ?_)
               refine Lu.take (v := .int .u8 ((vI (s.getD 1 0) : Int))) rfl rfl rfl rfl rfl (OpQ.cast (by rw [vI_wrap hv1]) (OpQ.subU8 rfl rfl rfl)) (pT 4 [0, 1, 2] rfl rfl) ?_
               refine Lu.take (v := i6_ (((1 * 2 ^ (vI (s.getD 1 0)) : Nat) : Int))) rfl rfl rfl rfl rfl (OpQ.shl (a := 1) (b := vI (s.getD 1 0)) rfl rfl rfl (by omega) (by omega)) (pT 4 [0, 1, 2] rfl rfl) ?_
               refine Lu.take (v := i6_ ((((0 ||| (frB fm4)) &&& (15 ^^^ (1 * 2 ^ (vI (s.getD 1 0)))) : Nat) : Int))) rfl rfl rfl rfl rfl (OpQ.strike (a := 0 ||| (frB fm4)) (b := 1 * 2 ^ (vI (s.getD 1 0))) rfl rfl rfl (by repeat' (first | omega | apply or_lt16)) (by repeat' (first | omega | apply or_lt16))) (pT 4 [0, 1, 2] rfl rfl) ?_
               refine Lu.loud rfl ?_
               refine Ll.op (v := pt_ p15) rfl rfl rfl (OpQ.nilCheck rfl rfl) ?_
               refine Ll.nil (Lu.joint (pT 4 [0, 1, 2] rfl rfl) ?_)
               refine Lu.take rfl rfl rfl rfl rfl (OpQ.fieldAddr rfl Tryd.runUnderlying148 rfl Tryd.sizeOf3 rfl rfl) (pT 4 [0, 1, 2] rfl rfl) ?_
               refine Lu.loud rfl ?_
               refine Ll.store1 (v := i6_ ((((0 ||| (frB fm4)) &&& (15 ^^^ (1 * 2 ^ (vI (s.getD 1 0)))) : Nat) : Int))) (hs' := (_ :: _ :: _ :: bk_ p15 #[.int .u8 (((s.getD 0 0).toNat : Int)), sl_ g_3 1 c_3, sl_ g107_3 1 c107_3, i6_ ((((0 ||| (frB fm4)) &&& (15 ^^^ (1 * 2 ^ (vI (s.getD 1 0)))) : Nat) : Int)), i6_ ((((0 ||| (1 * 2 ^ (vI (s.getD 1 0)))) ||| (allB fm4) : Nat) : Int))] 148 :: (new94_3 ++ hs))) 3 rfl rfl rfl rfl rfl rfl Tryd.sizeOf3 rfl (by simp) rfl ?_
               refine Ll.nil (Lu.joint (pT 4 [0, 1, 2] rfl rfl) ?_)
               refine Lu.nil ?_
               refine Kt.joined (()) trivial (Sub.sel [0, 4] rfl) (fun _ h => h.sub (List.Sublist.cons_cons _ (List.Sublist.cons_cons _ (List.Sublist.cons_cons _ (List.Sublist.cons_cons _ (List.Sublist.refl _))))))
              ·
               refine Ll.op (v := pt_ p15) rfl rfl rfl (OpQ.nilCheck rfl rfl) ?_
               refine Ll.nil (Lu.joint (pT 4 [0, 1, 2] rfl rfl) ?_)
               refine Lu.take rfl rfl rfl rfl rfl (OpQ.fieldAddr rfl Tryd.runUnderlying148 rfl Tryd.sizeOf33 rfl rfl) (pT 4 [0, 1, 2] rfl rfl) ?_
               refine Lu.two rfl rfl ?_ ?_
               ·
                refine Ll.op rfl rfl rfl (OpQ.loadOwn 3 rfl Tryd.isAgg3 rfl rfl rfl) ?_
                refine Ll.nil (Lu.joint (pT 4 [0, 1, 2] rfl rfl) ?_)
                refine Lu.loud rfl ?_
                refine Ll.op rfl rfl rfl (OpQ.loadOwn 3 rfl Tryd.isAgg33 rfl rfl rfl) ?_
                refine Ll.nil (Lu.joint (pT 4 [0, 1, 2] rfl rfl) ?_)
                refine Lu.take (v := pf_ g_3 (0 + (0 : Int).toNat)) rfl rfl rfl rfl rfl (OpQ.indexAddr1 rfl Tryd.runUnderlying33 Tryd.sizeOf5 rfl rfl (by omega) (by omega)) (pT 4 [0, 1, 2] rfl rfl) ?_
                refine Lu.loud rfl ?_
                refine Ll.op (v := .int .u8 (((s.getD 1 0).toNat : Int))) rfl rfl rfl (OpQ.loadAt 2 rfl Tryd.isAgg5 rfl rfl (cur_at htg_3 rfl)) ?_
                refine Ll.nil (Lu.joint (pT 4 [0, 1, 2] rfl rfl) ?_)
                refine Lu.take (v := .int .u8 ((vI (s.getD 1 0) : Int))) rfl rfl rfl rfl rfl (OpQ.cast (by rw [vI_wrap hv1]) (OpQ.subU8 rfl rfl rfl)) (pT 4 [0, 1, 2] rfl rfl) ?_
                refine Lu.take (v := i6_ (((1 * 2 ^ (vI (s.getD 1 0)) : Nat) : Int))) rfl rfl rfl rfl rfl (OpQ.shl (a := 1) (b := vI (s.getD 1 0)) rfl rfl rfl (by omega) (by omega)) (pT 4 [0, 1, 2] rfl rfl) ?_
                refine Lu.take (v := i6_ ((((0 ||| (frB fm4)) &&& (15 ^^^ (1 * 2 ^ (vI (s.getD 1 0)))) : Nat) : Int))) rfl rfl rfl rfl rfl (OpQ.strike (a := 0 ||| (frB fm4)) (b := 1 * 2 ^ (vI (s.getD 1 0))) rfl rfl rfl (by repeat' (first | omega | apply or_lt16)) (by repeat' (first | omega | apply or_lt16))) (pT 4 [0, 1, 2] rfl rfl) ?_
                refine Lu.loud rfl ?_
                refine Ll.op (v := pt_ p15) rfl rfl rfl (OpQ.nilCheck rfl rfl) ?_
                refine Ll.nil (Lu.joint (pT 4 [0, 1, 2] rfl rfl) ?_)
                refine Lu.take rfl rfl rfl rfl rfl (OpQ.fieldAddr rfl Tryd.runUnderlying148 rfl Tryd.sizeOf3 rfl rfl) (pT 4 [0, 1, 2] rfl rfl) ?_
                refine Lu.loud rfl ?_
                refine Ll.store1 (v := i6_ ((((0 ||| (frB fm4)) &&& (15 ^^^ (1 * 2 ^ (vI (s.getD 1 0)))) : Nat) : Int))) (hs' := (_ :: _ :: _ :: bk_ p15 #[.int .u8 (((s.getD 0 0).toNat : Int)), sl_ g_3 1 c_3, sl_ g107_3 1 c107_3, i6_ ((((0 ||| (frB fm4)) &&& (15 ^^^ (1 * 2 ^ (vI (s.getD 1 0)))) : Nat) : Int)), i6_ ((((0 ||| (1 * 2 ^ (vI (s.getD 1 0)))) ||| (allB fm4) : Nat) : Int))] 148 :: (new94_3 ++ hs))) 3 rfl rfl rfl rfl rfl rfl Tryd.sizeOf3 rfl (by simp) rfl ?_
                refine Ll.nil (Lu.joint (pT 4 [0, 1, 2] rfl rfl) ?_)
                refine Lu.nil ?_
                refine Kt.joined (()) trivial (Sub.sel [0, 4] rfl) (fun _ h => h.sub (List.Sublist.cons_cons _ (List.Sublist.cons_cons _ (List.Sublist.cons_cons _ (List.Sublist.cons_cons _ (List.Sublist.refl _))))))
               ·
                refine Ll.op rfl rfl rfl (OpQ.loadOwn 3 rfl Tryd.isAgg33 rfl rfl rfl) ?_
                refine Ll.nil (Lu.joint (pT 4 [0, 1, 2] rfl rfl) ?_)
                refine Lu.take (v := pf_ g_3 (0 + (0 : Int).toNat)) rfl rfl rfl rfl rfl (OpQ.indexAddr1 rfl Tryd.runUnderlying33 Tryd.sizeOf5 rfl rfl (by omega) (by omega)) (pT 4 [0, 1, 2] rfl rfl) ?_
                refine Lu.two rfl rfl ?_ ?_
                ·
                 refine Ll.op rfl rfl rfl (OpQ.loadOwn 3 rfl Tryd.isAgg3 rfl rfl rfl) ?_
                 refine Ll.nil (Lu.joint (pT 4 [0, 1, 2] rfl rfl) ?_)
                 refine Lu.loud rfl ?_
                 refine Ll.op (v := .int .u8 (((s.getD 1 0).toNat : Int))) rfl rfl rfl (OpQ.loadAt 2 rfl Tryd.isAgg5 rfl rfl (cur_at htg_3 rfl)) ?_
                 refine Ll.nil (Lu.joint (pT 4 [0, 1, 2] rfl rfl) ?_)
                 refine Lu.take (v := .int .u8 ((vI (s.getD 1 0) : Int))) rfl rfl rfl rfl rfl (OpQ.cast (by rw [vI_wrap hv1]) (OpQ.subU8 rfl rfl rfl)) (pT 4 [0, 1, 2] rfl rfl) ?_
                 refine Lu.take (v := i6_ (((1 * 2 ^ (vI (s.getD 1 0)) : Nat) : Int))) rfl rfl rfl rfl rfl (OpQ.shl (a := 1) (b := vI (s.getD 1 0)) rfl rfl rfl (by omega) (by omega)) (pT 4 [0, 1, 2] rfl rfl) ?_
                 refine Lu.take (v := i6_ ((((0 ||| (frB fm4)) &&& (15 ^^^ (1 * 2 ^ (vI (s.getD 1 0)))) : Nat) : Int))) rfl rfl rfl rfl rfl (OpQ.strike (a := 0 ||| (frB fm4)) (b := 1 * 2 ^ (vI (s.getD 1 0))) rfl rfl rfl (by repeat' (first | omega | apply or_lt16)) (by repeat' (first | omega | apply or_lt16))) (pT 4 [0, 1, 2] rfl rfl) ?_
                 refine Lu.loud rfl ?_
                 refine Ll.op (v := pt_ p15) rfl rfl rfl (OpQ.nilCheck rfl rfl) ?_
                 refine Ll.nil (Lu.joint (pT 4 [0, 1, 2] rfl rfl) ?_)
                 refine Lu.take rfl rfl rfl rfl rfl (OpQ.fieldAddr rfl Tryd.runUnderlying148 rfl Tryd.sizeOf3 rfl rfl) (pT 4 [0, 1, 2] rfl rfl) ?_
                 refine Lu.loud rfl ?_
                 refine Ll.store1 (v := i6_ ((((0 ||| (frB fm4)) &&& (15 ^^^ (1 * 2 ^ (vI (s.getD 1 0)))) : Nat) : Int))) (hs' := (_ :: _ :: _ :: bk_ p15 #[.int .u8 (((s.getD 0 0).toNat : Int)), sl_ g_3 1 c_3, sl_ g107_3 1 c107_3, i6_ ((((0 ||| (frB fm4)) &&& (15 ^^^ (1 * 2 ^ (vI (s.getD 1 0)))) : Nat) : Int)), i6_ ((((0 ||| (1 * 2 ^ (vI (s.getD 1 0)))) ||| (allB fm4) : Nat) : Int))] 148 :: (new94_3 ++ hs))) 3 rfl rfl rfl rfl rfl rfl Tryd.sizeOf3 rfl (by simp) rfl ?_
                 refine Ll.nil (Lu.joint (pT 4 [0, 1, 2] rfl rfl) ?_)
                 refine Lu.nil ?_
                 refine Kt.joined (()) trivial (Sub.sel [0, 4] rfl) (fun _ h => h.sub (List.Sublist.cons_cons _ (List.Sublist.cons_cons _ (List.Sublist.cons_cons _ (List.Sublist.cons_cons _ (List.Sublist.refl _))))))
                ·
                 refine Ll.op (v := .int .u8 (((s.getD 1 0).toNat : Int))) rfl rfl rfl (OpQ.loadAt 2 rfl Tryd.isAgg5 rfl rfl (cur_at htg_3 rfl)) ?_
                 refine Ll.nil (Lu.joint (pT 4 [0, 1, 2] rfl rfl) ?_)
                 refine Lu.take (v := .int .u8 ((vI (s.getD 1 0) : Int))) rfl rfl rfl rfl rfl (OpQ.cast (by rw [vI_wrap hv1]) (OpQ.subU8 rfl rfl rfl)) (pT 4 [0, 1, 2] rfl rfl) ?_
                 refine Lu.take (v := i6_ (((1 * 2 ^ (vI (s.getD 1 0)) : Nat) : Int))) rfl rfl rfl rfl rfl (OpQ.shl (a := 1) (b := vI (s.getD 1 0)) rfl rfl rfl (by omega) (by omega)) (pT 4 [0, 1, 2] rfl rfl) ?_
                 refine Lu.loud rfl ?_
                 refine Ll.op rfl rfl rfl (OpQ.loadOwn 3 rfl Tryd.isAgg3 rfl rfl rfl) ?_
                 refine Ll.nil (Lu.joint (pT 4 [0, 1, 2] rfl rfl) ?_)
                 refine Lu.take (v := i6_ ((((0 ||| (frB fm4)) &&& (15 ^^^ (1 * 2 ^ (vI (s.getD 1 0)))) : Nat) : Int))) rfl rfl rfl rfl rfl (OpQ.strike (a := 0 ||| (frB fm4)) (b := 1 * 2 ^ (vI (s.getD 1 0))) rfl rfl rfl (by repeat' (first | omega | apply or_lt16)) (by repeat' (first | omega | apply or_lt16))) (pT 4 [0, 1, 2] rfl rfl) ?_
                 refine Lu.loud rfl ?_
                 refine Ll.op (v := pt_ p15) rfl rfl rfl (OpQ.nilCheck rfl rfl) ?_
                 refine Ll.nil (Lu.joint (pT 4 [0, 1, 2] rfl rfl) ?_)
                 refine Lu.take rfl rfl rfl rfl rfl (OpQ.fieldAddr rfl Tryd.runUnderlying148 rfl Tryd.sizeOf3 rfl rfl) (pT 4 [0, 1, 2] rfl rfl) ?_
                 refine Lu.loud rfl ?_
                 refine Ll.store1 (v := i6_ ((((0 ||| (frB fm4)) &&& (15 ^^^ (1 * 2 ^ (vI (s.getD 1 0)))) : Nat) : Int))) (hs' := (_ :: _ :: _ :: bk_ p15 #[.int .u8 (((s.getD 0 0).toNat : Int)), sl_ g_3 1 c_3, sl_ g107_3 1 c107_3, i6_ ((((0 ||| (frB fm4)) &&& (15 ^^^ (1 * 2 ^ (vI (s.getD 1 0)))) : Nat) : Int)), i6_ ((((0 ||| (1 * 2 ^ (vI (s.getD 1 0)))) ||| (allB fm4) : Nat) : Int))] 148 :: (new94_3 ++ hs))) 3 rfl rfl rfl rfl rfl rfl Tryd.sizeOf3 rfl (by simp) rfl ?_
                 refine Ll.nil (Lu.joint (pT 4 [0, 1, 2] rfl rfl) ?_)
                 refine Lu.nil ?_
                 refine Kt.joined (()) trivial (Sub.sel [0, 4] rfl) (fun _ h => h.sub (List.Sublist.cons_cons _ (List.Sublist.cons_cons _ (List.Sublist.cons_cons _ (List.Sublist.cons_cons _ (List.Sublist.refl _))))))
             ·
              refine Ll.op (v := pt_ p15) rfl rfl rfl (OpQ.nilCheck rfl rfl) ?_
              refine Ll.nil (Lu.joint (pT 4 [0, 1, 2] rfl rfl) ?_)
              refine Lu.take rfl rfl rfl rfl rfl (OpQ.fieldAddr rfl Tryd.runUnderlying148 rfl Tryd.sizeOf33 rfl rfl) (pT 4 [0, 1, 2] rfl rfl) ?_
              refine Lu.two rfl rfl ?_ ?_
              ·
               refine Ll.op (v := pt_ p15) rfl rfl rfl (OpQ.nilCheck rfl rfl) ?_
               refine Ll.nil (Lu.joint (pT 4 [0, 1, 2] rfl rfl) ?_)
               refine Lu.take rfl rfl rfl rfl rfl (OpQ.fieldAddr rfl Tryd.runUnderlying148 rfl Tryd.sizeOf3 rfl rfl) (pT 4 [0, 1, 2] rfl rfl) ?_
               refine Lu.two rfl rfl ?_ ?_
               ·
                refine Ll.op rfl rfl rfl (OpQ.loadOwn 3 rfl Tryd.isAgg3 rfl rfl rfl) ?_
                refine Ll.nil (Lu.joint (pT 4 [0, 1, 2] rfl rfl) ?_)
                refine Lu.loud rfl ?_
                refine Ll.op rfl rfl rfl (OpQ.loadOwn 3 rfl Tryd.isAgg33 rfl rfl rfl) ?_
                refine Ll.nil (Lu.joint (pT 4 [0, 1, 2] rfl rfl) ?_)
                refine Lu.take (v := pf_ g_3 (0 + (0 : Int).toNat)) rfl rfl rfl rfl rfl (OpQ.indexAddr1 rfl Tryd.runUnderlying33 Tryd.sizeOf5 rfl rfl (by omega) (by omega)) (pT 4 [0, 1, 2] rfl rfl) ?_
                refine Lu.loud rfl ?_
                refine Ll.op (v := .int .u8 (((s.getD 1 0).toNat : Int))) rfl rfl rfl (OpQ.loadAt 2 rfl Tryd.isAgg5 rfl rfl (cur_at htg_3 rfl)) ?_
                refine Ll.nil (Lu.joint (pT 4 [0, 1, 2] rfl rfl) ?_)
                refine Lu.take (v := .int .u8 ((vI (s.getD 1 0) : Int))) rfl rfl rfl rfl rfl (OpQ.cast (by rw [vI_wrap hv1]) (OpQ.subU8 rfl rfl rfl)) (pT 4 [0, 1, 2] rfl rfl) ?_
                refine Lu.take (v := i6_ (((1 * 2 ^ (vI (s.getD 1 0)) : Nat) : Int))) rfl rfl rfl rfl rfl (OpQ.shl (a := 1) (b := vI (s.getD 1 0)) rfl rfl rfl (by omega) (by omega)) (pT 4 [0, 1, 2] rfl rfl) ?_
                refine Lu.take (v := i6_ ((((0 ||| (frB fm4)) &&& (15 ^^^ (1 * 2 ^ (vI (s.getD 1 0)))) : Nat) : Int))) rfl rfl rfl rfl rfl (OpQ.strike (a := 0 ||| (frB fm4)) (b := 1 * 2 ^ (vI (s.getD 1 0))) rfl rfl rfl (by repeat' (first | omega | apply or_lt16)) (by repeat' (first | omega | apply or_lt16))) (pT 4 [0, 1, 2] rfl rfl) ?_
                refine Lu.loud rfl ?_
                refine Ll.op (v := pt_ p15) rfl rfl rfl (OpQ.nilCheck rfl rfl) ?_
                refine Ll.nil (Lu.joint (pT 4 [0, 1, 2] rfl rfl) ?_)
                refine Lu.take rfl rfl rfl rfl rfl (OpQ.fieldAddr rfl Tryd.runUnderlying148 rfl Tryd.sizeOf3 rfl rfl) (pT 4 [0, 1, 2] rfl rfl) ?_
                refine Lu.loud rfl ?_
                refine Ll.store1 (v := i6_ ((((0 ||| (frB fm4)) &&& (15 ^^^ (1 * 2 ^ (vI (s.getD 1 0)))) : Nat) : Int))) (hs' := (_ :: _ :: _ :: bk_ p15 #[.int .u8 (((s.getD 0 0).toNat : Int)), sl_ g_3 1 c_3, sl_ g107_3 1 c107_3, i6_ ((((0 ||| (frB fm4)) &&& (15 ^^^ (1 * 2 ^ (vI (s.getD 1 0)))) : Nat) : Int)), i6_ ((((0 ||| (1 * 2 ^ (vI (s.getD 1 0)))) ||| (allB fm4) : Nat) : Int))] 148 :: (new94_3 ++ hs))) 3 rfl rfl rfl rfl rfl rfl Tryd.sizeOf3 rfl (by simp) rfl ?_
                refine Ll.nil (Lu.joint (pT 4 [0, 1, 2] rfl rfl) ?_)
                refine Lu.nil ?_
                refine Kt.joined (()) trivial (Sub.sel [0, 4] rfl) (fun _ h => h.sub (List.Sublist.cons_cons _ (List.Sublist.cons_cons _ (List.Sublist.cons_cons _ (List.Sublist.cons_cons _ (List.Sublist.refl _))))))
               ·
                refine Ll.op rfl rfl rfl (OpQ.loadOwn 3 rfl Tryd.isAgg33 rfl rfl rfl) ?_
                refine Ll.nil (Lu.joint (pT 4 [0, 1, 2] rfl rfl) ?_)
                refine Lu.take (v := pf_ g_3 (0 + (0 : Int).toNat)) rfl rfl rfl rfl rfl (OpQ.indexAddr1 rfl Tryd.runUnderlying33 Tryd.sizeOf5 rfl rfl (by omega) (by omega)) (pT 4 [0, 1, 2] rfl rfl) ?_
                refine Lu.two rfl rfl ?_ ?_
                ·
                 refine Ll.op rfl rfl rfl (OpQ.loadOwn 3 rfl Tryd.isAgg3 rfl rfl rfl) ?_
                 refine Ll.nil (Lu.joint (pT 4 [0, 1, 2] rfl rfl) ?_)
                 refine Lu.loud rfl ?_
                 refine Ll.op (v := .int .u8 (((s.getD 1 0).toNat : Int))) rfl rfl rfl (OpQ.loadAt 2 rfl Tryd.isAgg5 rfl rfl (cur_at htg_3 rfl)) ?_
                 refine Ll.nil (Lu.joint (pT 4 [0, 1, 2] rfl rfl) ?_)
                 refine Lu.take (v := .int .u8 ((vI (s.getD 1 0) : Int))) rfl rfl rfl rfl rfl (OpQ.cast (by rw [vI_wrap hv1]) (OpQ.subU8 rfl rfl rfl)) (pT 4 [0, 1, 2] rfl rfl) ?_
                 refine Lu.take (v := i6_ (((1 * 2 ^ (vI (s.getD 1 0)) : Nat) : Int))) rfl rfl rfl rfl rfl (OpQ.shl (a := 1) (b := vI (s.getD 1 0)) rfl rfl rfl (by omega) (by omega)) (pT 4 [0, 1, 2] rfl rfl) ?_
                 refine Lu.take (v := i6_ ((((0 ||| (frB fm4)) &&& (15 ^^^ (1 * 2 ^ (vI (s.getD 1 0)))) : Nat) : Int))) rfl rfl rfl rfl rfl (OpQ.strike (a := 0 ||| (frB fm4)) (b := 1 * 2 ^ (vI (s.getD 1 0))) rfl rfl rfl (by repeat' (first | omega | apply or_lt16)) (by repeat' (first | omega | apply or_lt16))) (pT 4 [0, 1, 2] rfl rfl) ?_
                 refine Lu.loud rfl ?_
                 refine Ll.op (v := pt_ p15) rfl rfl rfl (OpQ.nilCheck rfl rfl) ?_
                 refine Ll.nil (Lu.joint (pT 4 [0, 1, 2] rfl rfl) ?_)
                 refine Lu.take rfl rfl rfl rfl rfl (OpQ.fieldAddr rfl Tryd.runUnderlying148 rfl Tryd.sizeOf3 rfl rfl) (pT 4 [0, 1, 2] rfl rfl) ?_
                 refine Lu.loud rfl ?_
                 refine Ll.store1 (v := i6_ ((((0 ||| (frB fm4)) &&& (15 ^^^ (1 * 2 ^ (vI (s.getD 1 0)))) : Nat) : Int))) (hs' := (_ :: _ :: _ :: bk_ p15 #[.int .u8 (((s.getD 0 0).toNat : Int)), sl_ g_3 1 c_3, sl_ g107_3 1 c107_3, i6_ ((((0 ||| (frB fm4)) &&& (15 ^^^ (1 * 2 ^ (vI (s.getD 1 0)))) : Nat) : Int)), i6_ ((((0 ||| (1 * 2 ^ (vI (s.getD 1 0)))) ||| (allB fm4) : Nat) : Int))] 148 :: (new94_3 ++ hs))) 3 rfl rfl rfl rfl rfl rfl Tryd.sizeOf3 rfl (by simp) rfl ?_
                 refine Ll.nil (Lu.joint (pT 4 [0, 1, 2] rfl rfl) ?_)
                 refine Lu.nil ?_
                 refine Kt.joined (()) trivial (Sub.sel [0, 4] rfl) (fun _ h => h.sub (List.Sublist.cons_cons _ (List.Sublist.cons_cons _ (List.Sublist.cons_cons _ (List.Sublist.cons_cons _ (List.Sublist.refl _))))))
                ·
                 refine Ll.op (v := .int .u8 (((s.getD 1 0).toNat : Int))) rfl rfl rfl (OpQ.loadAt 2 rfl Tryd.isAgg5 rfl rfl (cur_at htg_3 rfl)) ?_
                 refine Ll.nil (Lu.joint (pT 4 [0, 1, 2] rfl rfl) ?_)
                 refine Lu.take (v := .int .u8 ((vI (s.getD 1 0) : Int))) rfl rfl rfl rfl rfl (OpQ.cast (by rw [vI_wrap hv1]) (OpQ.subU8 rfl rfl rfl)) (pT 4 [0, 1, 2] rfl rfl) ?_
                 refine Lu.take (v := i6_ (((1 * 2 ^ (vI (s.getD 1 0)) : Nat) : Int))) rfl rfl rfl rfl rfl (OpQ.shl (a := 1) (b := vI (s.getD 1 0)) rfl rfl rfl (by omega) (by omega)) (pT 4 [0, 1, 2] rfl rfl) ?_
                 refine Lu.loud rfl ?_
                 refine Ll.op rfl rfl rfl (OpQ.loadOwn 3 rfl Tryd.isAgg3 rfl rfl rfl) ?_
                 refine Ll.nil (Lu.joint (pT 4 [0, 1, 2] rfl rfl) ?_)
                 refine Lu.take (v := i6_ ((((0 ||| (frB fm4)) &&& (15 ^^^ (1 * 2 ^ (vI (s.getD 1 0)))) : Nat) : Int))) rfl rfl rfl rfl rfl (OpQ.strike (a := 0 ||| (frB fm4)) (b := 1 * 2 ^ (vI (s.getD 1 0))) rfl rfl rfl (by repeat' (first | omega | apply or_lt16)) (by repeat' (first | omega | apply or_lt16))) (pT 4 [0, 1, 2] rfl rfl) ?_
                 refine Lu.loud rfl ?_
                 refine Ll.op (v := pt_ p15) rfl rfl rfl (OpQ.nilCheck rfl rfl) ?_
                 refine Ll.nil (Lu.joint (pT 4 [0, 1, 2] rfl rfl) ?_)
                 refine Lu.take rfl rfl rfl rfl rfl (OpQ.fieldAddr rfl Tryd.runUnderlying148 rfl Tryd.sizeOf3 rfl rfl) (pT 4 [0, 1, 2] rfl rfl) ?_
                 refine Lu.loud rfl ?_
                 refine Ll.store1 (v := i6_ ((((0 ||| (frB fm4)) &&& (15 ^^^ (1 * 2 ^ (vI (s.getD 1 0)))) : Nat) : Int))) (hs' := (_ :: _ :: _ :: bk_ p15 #[.int .u8 (((s.getD 0 0).toNat : Int)), sl_ g_3 1 c_3, sl_ g107_3 1 c107_3, i6_ ((((0 ||| (frB fm4)) &&& (15 ^^^ (1 * 2 ^ (vI (s.getD 1 0)))) : Nat) : Int)), i6_ ((((0 ||| (1 * 2 ^ (vI (s.getD 1 0)))) ||| (allB fm4) : Nat) : Int))] 148 :: (new94_3 ++ hs))) 3 rfl rfl rfl rfl rfl rfl Tryd.sizeOf3 rfl (by simp) rfl ?_
                 refine Ll.nil (Lu.joint (pT 4 [0, 1, 2] rfl rfl) ?_)
                 refine Lu.nil ?_
                 refine Kt.joined (()) trivial (Sub.sel [0, 4] rfl) (fun _ h => h.sub (List.Sublist.cons_cons _ (List.Sublist.cons_cons _ (List.Sublist.cons_cons _ (List.Sublist.cons_cons _ (List.Sublist.refl _))))))
              ·
               refine Ll.op rfl rfl rfl (OpQ.loadOwn 3 rfl Tryd.isAgg33 rfl rfl rfl) ?_
               refine Ll.nil (Lu.joint (pT 4 [0, 1, 2] rfl rfl) ?_)
               refine Lu.take (v := pf_ g_3 (0 + (0 : Int).toNat)) rfl rfl rfl rfl rfl (OpQ.indexAddr1 rfl Tryd.runUnderlying33 Tryd.sizeOf5 rfl rfl (by omega) (by omega)) (pT 4 [0, 1, 2] rfl rfl) ?_
               refine Lu.two rfl rfl ?_ ?_
               ·
                refine Ll.op (v := pt_ p15) rfl rfl rfl (OpQ.nilCheck rfl rfl) ?_
                refine Ll.nil (Lu.joint (pT 4 [0, 1, 2] rfl rfl) ?_)
                refine Lu.take rfl rfl rfl rfl rfl (OpQ.fieldAddr rfl Tryd.runUnderlying148 rfl Tryd.sizeOf3 rfl rfl) (pT 4 [0, 1, 2] rfl rfl) ?_
                refine Lu.two rfl rfl ?_ ?_
                ·
                 refine Ll.op rfl rfl rfl (OpQ.loadOwn 3 rfl Tryd.isAgg3 rfl rfl rfl) ?_
                 refine Ll.nil (Lu.joint (pT 4 [0, 1, 2] rfl rfl) ?_)
                 refine Lu.loud rfl ?_
                 refine Ll.op (v := .int .u8 (((s.getD 1 0).toNat : Int))) rfl rfl rfl (OpQ.loadAt 2 rfl Tryd.isAgg5 rfl rfl (cur_at htg_3 rfl)) ?_
                 refine Ll.nil (Lu.joint (pT 4 [0, 1, 2] rfl rfl) ?_)
                 refine Lu.take (v := .int .u8 ((vI (s.getD 1 0) : Int))) rfl rfl rfl rfl rfl (OpQ.cast (by rw [vI_wrap hv1]) (OpQ.subU8 rfl rfl rfl)) (pT 4 [0, 1, 2] rfl rfl) ?_
                 refine Lu.take (v := i6_ (((1 * 2 ^ (vI (s.getD 1 0)) : Nat) : Int))) rfl rfl rfl rfl rfl (OpQ.shl (a := 1) (b := vI (s.getD 1 0)) rfl rfl rfl (by omega) (by omega)) (pT 4 [0, 1, 2] rfl rfl) ?_
                 refine Lu.take (v := i6_ ((((0 ||| (frB fm4)) &&& (15 ^^^ (1 * 2 ^ (vI (s.getD 1 0)))) : Nat) : Int))) rfl rfl rfl rfl rfl (OpQ.strike (a := 0 ||| (frB fm4)) (b := 1 * 2 ^ (vI (s.getD 1 0))) rfl rfl rfl (by repeat' (first | omega | apply or_lt16)) (by repeat' (first | omega | apply or_lt16))) (pT 4 [0, 1, 2] rfl rfl) ?_
                 refine Lu.loud rfl ?_
                 refine Ll.op (v := pt_ p15) rfl rfl rfl (OpQ.nilCheck rfl rfl) ?_
                 refine Ll.nil (Lu.joint (pT 4 [0, 1, 2] rfl rfl) ?_)
                 refine Lu.take rfl rfl rfl rfl rfl (OpQ.fieldAddr rfl Tryd.runUnderlying148 rfl Tryd.sizeOf3 rfl rfl) (pT 4 [0, 1, 2] rfl rfl) ?_
                 refine Lu.loud rfl ?_
                 refine Ll.store1 (v := i6_ ((((0 ||| (frB fm4)) &&& (15 ^^^ (1 * 2 ^ (vI (s.getD 1 0)))) : Nat) : Int))) (hs' := (_ :: _ :: _ :: bk_ p15 #[.int .u8 (((s.getD 0 0).toNat : Int)), sl_ g_3 1 c_3, sl_ g107_3 1 c107_3, i6_ ((((0 ||| (frB fm4)) &&& (15 ^^^ (1 * 2 ^ (vI (s.getD 1 0)))) : Nat) : Int)), i6_ ((((0 ||| (1 * 2 ^ (vI (s.getD 1 0)))) ||| (allB fm4) : Nat) : Int))] 148 :: (new94_3 ++ hs))) 3 rfl rfl rfl rfl rfl rfl Tryd.sizeOf3 rfl (by simp) rfl ?_
                 refine Ll.nil (Lu.joint (pT 4 [0, 1, 2] rfl rfl) ?_)
                 refine Lu.nil ?_
                 refine Kt.joined (()) trivial (Sub.sel [0, 4] rfl) (fun _ h => h.sub (List.Sublist.cons_cons _ (List.Sublist.cons_cons _ (List.Sublist.cons_cons _ (List.Sublist.cons_cons _ (List.Sublist.refl _))))))
                ·
                 refine Ll.op (v := .int .u8 (((s.getD 1 0).toNat : Int))) rfl rfl rfl (OpQ.loadAt 2 rfl Tryd.isAgg5 rfl rfl (cur_at htg_3 rfl)) ?_
                 refine Ll.nil (Lu.joint (pT 4 [0, 1, 2] rfl rfl) ?_)
                 refine Lu.take (v := .int .u8 ((vI (s.getD 1 0) : Int))) rfl rfl rfl rfl rfl (OpQ.cast (by rw [vI_wrap hv1]) (OpQ.subU8 rfl rfl rfl)) (pT 4 [0, 1, 2] rfl rfl) ?_
                 refine Lu.take (v := i6_ (((1 * 2 ^ (vI (s.getD 1 0)) : Nat) : Int))) rfl rfl rfl rfl rfl (OpQ.shl (a := 1) (b := vI (s.getD 1 0)) rfl rfl rfl (by omega) (by omega)) (pT 4 [0, 1, 2] rfl rfl) ?_
                 refine Lu.loud rfl ?_
                 refine Ll.op rfl rfl rfl (OpQ.loadOwn 3 rfl Tryd.isAgg3 rfl rfl rfl) ?_
                 refine Ll.nil (Lu.joint (pT 4 [0, 1, 2] rfl rfl) ?_)
                 refine Lu.take (v := i6_ ((((0 ||| (frB fm4)) &&& (15 ^^^ (1 * 2 ^ (vI (s.getD 1 0)))) : Nat) : Int))) rfl rfl rfl rfl rfl (OpQ.strike (a := 0 ||| (frB fm4)) (b := 1 * 2 ^ (vI (s.getD 1 0))) rfl rfl rfl (by repeat' (first | omega | apply or_lt16)) (by repeat' (first | omega | apply or_lt16))) (pT 4 [0, 1, 2] rfl rfl) ?_
                 refine Lu.loud rfl ?_
                 refine Ll.op (v := pt_ p15) rfl rfl rfl (OpQ.nilCheck rfl rfl) ?_
                 refine Ll.nil (Lu.joint (pT 4 [0, 1, 2] rfl rfl) ?_)
                 refine Lu.take rfl rfl rfl rfl rfl (OpQ.fieldAddr rfl Tryd.runUnderlying148 rfl Tryd.sizeOf3 rfl rfl) (pT 4 [0, 1, 2] rfl rfl) ?_
                 refine Lu.loud rfl ?_
                 refine Ll.store1 (v := i6_ ((((0 ||| (frB fm4)) &&& (15 ^^^ (1 * 2 ^ (vI (s.getD 1 0)))) : Nat) : Int))) (hs' := (_ :: _ :: _ :: bk_ p15 #[.int .u8 (((s.getD 0 0).toNat : Int)), sl_ g_3 1 c_3, sl_ g107_3 1 c107_3, i6_ ((((0 ||| (frB fm4)) &&& (15 ^^^ (1 * 2 ^ (vI (s.getD 1 0)))) : Nat) : Int)), i6_ ((((0 ||| (1 * 2 ^ (vI (s.getD 1 0)))) ||| (allB fm4) : Nat) : Int))] 148 :: (new94_3 ++ hs))) 3 rfl rfl rfl rfl rfl rfl Tryd.sizeOf3 rfl (by simp) rfl ?_
                 refine Ll.nil (Lu.joint (pT 4 [0, 1, 2] rfl rfl) ?_)
                 refine Lu.nil ?_
                 refine Kt.joined (()) trivial (Sub.sel [0, 4] rfl) (fun _ h => h.sub (List.Sublist.cons_cons _ (List.Sublist.cons_cons _ (List.Sublist.cons_cons _ (List.Sublist.cons_cons _ (List.Sublist.refl _))))))
               ·
                refine Ll.op (v := .int .u8 (((s.getD 1 0).toNat : Int))) rfl rfl rfl (OpQ.loadAt 2 rfl Tryd.isAgg5 rfl rfl (cur_at htg_3 rfl)) ?_
                refine Ll.nil (Lu.joint (pT 4 [0, 1, 2] rfl rfl) ?_)
                refine Lu.take (v := .int .u8 ((vI (s.getD 1 0) : Int))) rfl rfl rfl rfl rfl (OpQ.cast (by rw [vI_wrap hv1]) (OpQ.subU8 rfl rfl rfl)) (pT 4 [0, 1, 2] rfl rfl) ?_
                refine Lu.take (v := i6_ (((1 * 2 ^ (vI (s.getD 1 0)) : Nat) : Int))) rfl rfl rfl rfl rfl (OpQ.shl (a := 1) (b := vI (s.getD 1 0)) rfl rfl rfl (by omega) (by omega)) (pT 4 [0, 1, 2] rfl rfl) ?_
                refine Lu.loud rfl ?_
                refine Ll.op (v := pt_ p15) rfl rfl rfl (OpQ.nilCheck rfl rfl) ?_
                refine Ll.nil (Lu.joint (pT 4 [0, 1, 2] rfl rfl) ?_)
                refine Lu.take rfl rfl rfl rfl rfl (OpQ.fieldAddr rfl Tryd.runUnderlying148 rfl Tryd.sizeOf3 rfl rfl) (pT 4 [0, 1, 2] rfl rfl) ?_
                refine Lu.loud rfl ?_
                refine Ll.op rfl rfl rfl (OpQ.loadOwn 3 rfl Tryd.isAgg3 rfl rfl rfl) ?_
                refine Ll.nil (Lu.joint (pT 4 [0, 1, 2] rfl rfl) ?_)
                refine Lu.take (v := i6_ ((((0 ||| (frB fm4)) &&& (15 ^^^ (1 * 2 ^ (vI (s.getD 1 0)))) : Nat) : Int))) rfl rfl rfl rfl rfl (OpQ.strike (a := 0 ||| (frB fm4)) (b := 1 * 2 ^ (vI (s.getD 1 0))) rfl rfl rfl (by repeat' (first | omega | apply or_lt16)) (by repeat' (first | omega | apply or_lt16))) (pT 4 [0, 1, 2] rfl rfl) ?_
                refine Lu.loud rfl ?_
                refine Ll.op (v := pt_ p15) rfl rfl rfl (OpQ.nilCheck rfl rfl) ?_
                refine Ll.nil (Lu.joint (pT 4 [0, 1, 2] rfl rfl) ?_)
                refine Lu.take rfl rfl rfl rfl rfl (OpQ.fieldAddr rfl Tryd.runUnderlying148 rfl Tryd.sizeOf3 rfl rfl) (pT 4 [0, 1, 2] rfl rfl) ?_
                refine Lu.loud rfl ?_
                refine Ll.store1 (v := i6_ ((((0 ||| (frB fm4)) &&& (15 ^^^ (1 * 2 ^ (vI (s.getD 1 0)))) : Nat) : Int))) (hs' := (_ :: _ :: _ :: bk_ p15 #[.int .u8 (((s.getD 0 0).toNat : Int)), sl_ g_3 1 c_3, sl_ g107_3 1 c107_3, i6_ ((((0 ||| (frB fm4)) &&& (15 ^^^ (1 * 2 ^ (vI (s.getD 1 0)))) : Nat) : Int)), i6_ ((((0 ||| (1 * 2 ^ (vI (s.getD 1 0)))) ||| (allB fm4) : Nat) : Int))] 148 :: (new94_3 ++ hs))) 3 rfl rfl rfl rfl rfl rfl Tryd.sizeOf3 rfl (by simp) rfl ?_
                refine Ll.nil (Lu.joint (pT 4 [0, 1, 2] rfl rfl) ?_)
                refine Lu.nil ?_
                refine Kt.joined (()) trivial (Sub.sel [0, 4] rfl) (fun _ h => h.sub (List.Sublist.cons_cons _ (List.Sublist.cons_cons _ (List.Sublist.cons_cons _ (List.Sublist.cons_cons _ (List.Sublist.refl _))))))
            rintro _ hj
            refine Kt.sel [0, 4] [_, _] rfl ?_
            refine Wk.seq ?_
            refine Wk.regionQ ?_
            refine Lq.run 4 rfl ?_
            refine Lq.nil ?_
            refine Kt.sel [2, 3] [_, _] rfl ?_
            refine Wk.ret (Kt.end2 rfl rfl rfl fun w' hw => ?_)
            have hR : parse s = some ((.one (s.getD 0 0) [s.getD 1 0] fm4), r4) := (pp5 hs0 (by assumption)).1 _ _ ⟨by simp_all, by simp_all⟩ hpp4
            rw [hR]
            have e1 : ((0 ||| (frB fm4)) &&& (15 ^^^ (1 * 2 ^ (vI (s.getD 1 0)))) : Nat) = frB (.one (s.getD 0 0) [s.getD 1 0] fm4) := by simp [frB, vBits, vBit]
            have e2 : ((0 ||| (1 * 2 ^ (vI (s.getD 1 0)))) ||| (allB fm4) : Nat) = allB (.one (s.getD 0 0) [s.getD 1 0] fm4) := by simp [allB, vBits, vBit]
            have hW : Own B w0 (([bk_ g107_3 u107_3 111, bk_ p106_3 #[ptrV q94_3] 111, bk_ g_3 u_3 5, bk_ p15 #[.int .u8 (((s.getD 0 0).toNat : Int)), sl_ g_3 1 c_3, sl_ g107_3 1 c107_3, i6_ ((frB (.one (s.getD 0 0) [s.getD 1 0] fm4) : Int)), i6_ ((allB (.one (s.getD 0 0) [s.getD 1 0] fm4) : Int))] 148] ++ new94_3) ++ hs) w' := by
             rw [← e1, ← e2]
             first | exact hw | simpa only [List.append_assoc, List.cons_append, List.nil_append] using hw
            exact ⟨p15, [bk_ g107_3 u107_3 111, bk_ p106_3 #[ptrV q94_3] 111, bk_ g_3 u_3 5, bk_ p15 #[.int .u8 (((s.getD 0 0).toNat : Int)), sl_ g_3 1 c_3, sl_ g107_3 1 c107_3, i6_ ((frB (.one (s.getD 0 0) [s.getD 1 0] fm4) : Int)), i6_ ((allB (.one (s.getD 0 0) [s.getD 1 0] fm4) : Int))] 148] ++ new94_3, rfl, ⟨q94_3, ⟨_, _, mem_atL (l := [bk_ g107_3 u107_3 111, bk_ p106_3 #[ptrV q94_3] 111, bk_ g_3 u_3 5, bk_ p15 #[.int .u8 (((s.getD 0 0).toNat : Int)), sl_ g_3 1 c_3, sl_ g107_3 1 c107_3, i6_ ((frB (.one (s.getD 0 0) [s.getD 1 0] fm4) : Int)), i6_ ((allB (.one (s.getD 0 0) [s.getD 1 0] fm4) : Int))] 148]) (i := 3) rfl, (RowB.at (mem_atL (l := [bk_ g107_3 u107_3 111, bk_ p106_3 #[ptrV q94_3] 111, bk_ g_3 u_3 5, bk_ p15 #[.int .u8 (((s.getD 0 0).toNat : Int)), sl_ g_3 1 c_3, sl_ g107_3 1 c107_3, i6_ ((frB (.one (s.getD 0 0) [s.getD 1 0] fm4) : Int)), i6_ ((allB (.one (s.getD 0 0) [s.getD 1 0] fm4) : Int))] 148]) (i := 2) rfl) htg_3 rfl hlg_3), (RowB.at (mem_atL (l := [bk_ g107_3 u107_3 111, bk_ p106_3 #[ptrV q94_3] 111, bk_ g_3 u_3 5, bk_ p15 #[.int .u8 (((s.getD 0 0).toNat : Int)), sl_ g_3 1 c_3, sl_ g107_3 1 c107_3, i6_ ((frB (.one (s.getD 0 0) [s.getD 1 0] fm4) : Int)), i6_ ((allB (.one (s.getD 0 0) [s.getD 1 0] fm4) : Int))] 148]) (i := 0) rfl) htg107_3 rfl hlg107_3)⟩, (TreeB.right hTq94_3)⟩, hW⟩
           ·
            replace h135_5 := of_decide_eq_false h135_5
            exact absurd (show quI _ by assumption) h135_5
        ·
         refine Lq.pass rfl rfl rfl ?_
         refine Lq.pass rfl rfl rfl ?_
         refine Lq.pass rfl rfl rfl ?_
         refine Lq.pass rfl rfl rfl ?_
         refine Lq.run 1 rfl ?_
         refine Lq.nil ?_
         refine Kt.sel [0, 4, 6, 40, 41, 50] [_, _, _, _, _, _] rfl ?_
         refine Wk.condT rfl ?_
         refine Wk.seq ?_
         refine Wk.regionQ ?_
         refine Lq.run 3 rfl ?_
         refine Lq.nil ?_
         refine Kt.sel [2, 3] [_, _] rfl ?_
         refine Wk.ret (Kt.end2 rfl rfl rfl fun w' hw => ?_)
         have hR : parse s = none := by first | exact (pp5 hs0 (by assumption)).2.1 (fun e => by first | exact absurd e.2 (by rw [show isV (s.getD 1 0) = false by assumption]; decide) | exact e.1 (by simpa using (show (s.drop 1 == []) = true by assumption))) | exact (pp5 hs0 (by assumption)).2.2 (by assumption)
         rw [hR]
         exact ⟨_, rfl, Own.drop (f := [_]) hw⟩
       ·
        replace h32_4 := of_decide_eq_false h32_4
        refine Wk.seq ?_
        refine Wk.regionQ ?_
        refine Lq.run 3 rfl ?_
        refine Lq.nil ?_
        refine Kt.sel [2, 3] [_, _] rfl ?_
        refine Wk.ret (Kt.end2 rfl rfl rfl fun w' hw => ?_)
        have hR : parse s = none := by first | (rw [show s = [] by simpa using h10]; rfl) | exact ppX hs0 (isOp_no (by omega) (by omega) (by omega) (by omega) (by omega) (by omega) (by omega) (by omega) (by assumption))
        rw [hR]
        exact ⟨_, rfl, Own.drop (f := [_]) hw⟩
theorem parse_ok (s : List UInt8) (B : Nat) (w0 : World) (hs : List (Nat × Obj)) (w : World) (hl : s.length ≤ 4000) (hw : Own B w0 hs w) : Calls Tryd.prog 150 #[str s] w fun en w' => match parse s with | none => ∃ x : List UInt8, en = .returned (.tuple #[.pointer none, str x]) ∧ Own B w0 hs w' | some y => ∃ (q : Nat) (new : List (Nat × Obj)), en = .returned (.tuple #[ptrV q, str y.2]) ∧ TreeB 148 new y.1 q ∧ Own B w0 (new ++ hs) w' := by
  have key : ∀ (m : Nat) (s : List UInt8) (B : Nat) (w0 : World) (hs : List (Nat × Obj)) (w : World), s.length ≤ m → s.length ≤ 4000 → Own B w0 hs w → Calls Tryd.prog 150 #[str s] w fun en w' => match parse s with | none => ∃ x : List UInt8, en = .returned (.tuple #[.pointer none, str x]) ∧ Own B w0 hs w' | some y => ∃ (q : Nat) (new : List (Nat × Obj)), en = .returned (.tuple #[ptrV q, str y.2]) ∧ TreeB 148 new y.1 q ∧ Own B w0 (new ++ hs) w' := fun m => by
    induction m with
    | zero => exact fun s B w0 hs w h1 h2 hw => parse_step s B w0 hs w h2 (fun s2 B w0 hs w h => absurd h (by omega)) hw
    | succ m ih => exact fun s B w0 hs w h1 h2 hw => parse_step s B w0 hs w h2 (fun s2 B w0 hs w h hw2 => ih s2 B w0 hs w (by omega) (by omega) hw2) hw
  exact key _ s B w0 hs w (Nat.le_refl _) hl hw
set_option maxHeartbeats 400000 in
/-- impl.parseFormula -/
theorem pform_ok (s : List UInt8) (B : Nat) (w0 : World) (hs : List (Nat × Obj)) (w : World) (hw : Own B w0 hs w) :
    Calls Tryd.prog 105 [str s].toArray w fun en w' => match formO s with | none => en = .returned (.pointer none) ∧ Own B w0 hs w' | some fm => ∃ (q : Nat) (new : List (Nat × Obj)), en = .returned (ptrV q) ∧ TreeB 148 new fm q ∧ Own B w0 (new ++ hs) w' := by
 refine fnStartC (Own B w0 hs) (n := 16) (e := [(0, str s)]) Tryd.func105 rfl rfl rfl rfl Ends.both hw ?_
 refine Wk.seq ?_
 refine Wk.regionQ ?_
 refine Lq.run 1 rfl ?_
 refine Lq.nil ?_
 refine Kt.sel [0] [_] rfl ?_
 refine Wk.seq ?_
 refine Wk.seq ?_
 refine Wk.regionQ ?_
 refine Lq.run 1 rfl ?_
 refine Lq.op (v := i6_ ((s.length : Int))) rfl rfl rfl (OpQ.lenStr rfl Tryd.runUnderlying9 rfl) ?_
 refine Lq.run 1 rfl ?_
 refine Lq.nil ?_
 refine Kt.sel [0, 7] [_, _] rfl ?_
 refine Wk.cond (b := decide ((4000 : Int) < ((s.length : Int)))) rfl (fun h7 => ?_) (fun h7 => ?_)
 ·
  replace h7 := of_decide_eq_true h7
  refine Wk.seq ?_
  refine Wk.regionQ ?_
  refine Lq.run 1 rfl ?_
  refine Lq.nil ?_
  refine Kt.sel [2] [_] rfl ?_
  refine Wk.ret (Kt.end1 rfl rfl fun w' hw => ?_)
  have hR : formO s = none := formO_long (by omega)
  rw [hR]
  exact ⟨rfl, hw⟩
 ·
  replace h7 := of_decide_eq_false h7
  have hl : s.length ≤ 4000 := by omega
  refine Wk.skip ?_
  refine Kt.sel [0] [_] rfl ?_
  refine Wk.seq ?_
  rcases hpp1 : parse s with _ | ⟨fm1, r1⟩
  ·
   refine Wk.region ?_
   refine Ll.run 1 rfl ?_
   refine Ll.callGet (σ := List UInt8) (ok := fun _ => True) (v := fun x => .tuple #[.pointer none, str x]) (hs' := fun _ => (hs)) (xs := [.tmp 9]) (vs := [str s]) rfl rfl rfl rfl Tryd.call150 rfl (fun w1 hw1 => (parse_ok s B w0 (([] : List (Nat × Obj)) ++ hs) w1 hl hw1).mono fun en w' hR => by rw [hpp1] at hR; obtain ⟨x, h1, h2⟩ := hR; exact ⟨x, h1, trivial, h2⟩) fun x10 _ => ?_
   show Ll _ _ (Own _ _ (hs)) _ _ ((10, .tuple #[.pointer none, str x10]) :: _) _ _ _
   refine Ll.run 1 rfl ?_
   refine Ll.op (v := .pointer none) rfl rfl rfl (OpQ.extract rfl rfl rfl) ?_
   refine Ll.op (v := str x10) rfl rfl rfl (OpQ.extract rfl rfl rfl) ?_
   refine Ll.run 2 rfl ?_
   refine Ll.nil ?_
   refine Kt.sel [3, 4] [_, _] rfl ?_
   refine Wk.seq ?_
   refine Wk.seq ?_
   refine Wk.regionQ ?_
   refine Lq.run 1 rfl ?_
   refine Lq.op rfl rfl rfl (OpQ.sneq rfl rfl rfl) ?_
   refine Lq.nil ?_
   refine Kt.sel [3, 14] [_, _] rfl ?_
   refine Wk.cond (b := !(x10 == ([]))) rfl (fun h14 => ?_) (fun h14 => ?_)
   ·
    replace h14 := not_true h14
    refine Wk.seq ?_
    refine Wk.regionQ ?_
    refine Lq.run 1 rfl ?_
    refine Lq.nil ?_
    refine Kt.sel [2] [_] rfl ?_
    refine Wk.ret (Kt.end1 rfl rfl fun w' hw => ?_)
    have hR : formO s = none := formO_none hpp1
    rw [hR]
    exact ⟨rfl, hw⟩
   ·
    replace h14 := not_false h14
    refine Wk.skip ?_
    refine Kt.sel [3] [_] rfl ?_
    refine Wk.seq ?_
    refine Wk.regionQ ?_
    refine Lq.run 2 rfl ?_
    refine Lq.nil ?_
    refine Kt.sel [2] [_] rfl ?_
    refine Wk.ret (Kt.end1 rfl rfl fun w' hw => ?_)
    have hR : formO s = none := formO_none hpp1
    rw [hR]
    exact ⟨rfl, hw⟩
  ·
   have hrl1 := parse_len hpp1
   refine Wk.region ?_
   refine Ll.run 1 rfl ?_
   refine Ll.callBack (ok := fun ((q, new) : Nat × List (Nat × Obj)) => TreeB 148 new fm1 q) (v := fun ((q, new) : Nat × List (Nat × Obj)) => .tuple #[ptrV q, str r1]) (new := fun ((q, new) : Nat × List (Nat × Obj)) => new) (hs := hs) (xs := [.tmp 9]) (vs := [str s]) ([] : List (Nat × Obj)) rfl rfl rfl rfl Tryd.call150 rfl (fun w1 hw1 => (parse_ok s B w0 (([] : List (Nat × Obj)) ++ hs) w1 hl hw1).mono fun en w' hR => by rw [hpp1] at hR; obtain ⟨q, new, h1, h2, h3⟩ := hR; exact ⟨(q, new), h1, h2, h3⟩) fun ⟨q10, new10⟩ hTq10 => ?_
   dsimp only at hTq10
   have hfq10 := frB_lt (parse_wf _ (Nat.le_refl _) hpp1)
   have haq10 := allB_lt (parse_wf _ (Nat.le_refl _) hpp1)
   show Ll _ _ (Own _ _ ((new10 ++ hs))) _ _ ((10, .tuple #[ptrV q10, str r1]) :: _) _ _ _
   refine Ll.run 1 rfl ?_
   refine Ll.op (v := ptrV q10) rfl rfl rfl (OpQ.extract rfl rfl rfl) ?_
   refine Ll.op (v := str r1) rfl rfl rfl (OpQ.extract rfl rfl rfl) ?_
   refine Ll.run 2 rfl ?_
   refine Ll.nil ?_
   refine Kt.sel [3, 4] [_, _] rfl ?_
   refine Wk.seq ?_
   refine Wk.seq ?_
   refine Wk.regionQ ?_
   refine Lq.run 1 rfl ?_
   refine Lq.op rfl rfl rfl (OpQ.sneq rfl rfl rfl) ?_
   refine Lq.nil ?_
   refine Kt.sel [3, 14] [_, _] rfl ?_
   refine Wk.cond (b := !(r1 == ([]))) rfl (fun h14_1 => ?_) (fun h14_1 => ?_)
   ·
    replace h14_1 := not_true h14_1
    refine Wk.seq ?_
    refine Wk.regionQ ?_
    refine Lq.run 1 rfl ?_
    refine Lq.nil ?_
    refine Kt.sel [2] [_] rfl ?_
    refine Wk.ret (Kt.end1 rfl rfl fun w' hw => ?_)
    have hR : formO s = none := formO_rest hpp1 (by simpa using h14_1)
    rw [hR]
    exact ⟨rfl, Own.drop (f := new10) (hw)⟩
   ·
    replace h14_1 := not_false h14_1
    refine Wk.skip ?_
    refine Kt.sel [3] [_] rfl ?_
    refine Wk.seq ?_
    refine Wk.regionQ ?_
    refine Lq.run 2 rfl ?_
    refine Lq.nil ?_
    refine Kt.sel [2] [_] rfl ?_
    refine Wk.ret (Kt.end1 rfl rfl fun w' hw => ?_)
    have hr : r1 = [] := by simpa using h14_1
    have hR : formO s = some fm1 := parse_formO hl (by rw [hpp1, hr])
    rw [hR]
    exact ⟨_, _, rfl, hTq10, hw⟩
end Go.Proofs.YtnfkmfdhmlombaaDoor
