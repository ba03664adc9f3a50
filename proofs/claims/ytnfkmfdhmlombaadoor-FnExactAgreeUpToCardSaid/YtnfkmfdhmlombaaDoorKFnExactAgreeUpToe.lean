/-
  FnExactAgreeUpTo: all that its proof names (part 5)
-/
import Derived.Test.YtnfkmfdhmlombaaDoorKFnExactAgreeUpTod
import Derived.Test.YtnfkmfdhmlombaaDoorKFnExactAgreeUpTob
import Derived.Test.YtnfkmfdhmlombaaDoorKFnExactAgreeUpToa
namespace Go.Proofs.YtnfkmfdhmlombaaDoor
open Go.RowKit Go.Wk
set_option linter.unusedSimpArgs false
set_option maxHeartbeats 400000 in
/-- spec.l2Var -/
theorem l2Var_ok (f : List UInt8) (i : Int) (w : World) :
    Calls Tryd.prog 169 [str f, i6_ i].toArray w fun en w' => en = .returned (.int .i64 (varI f i)) ∧ Below w.heap.size w w' := by
 refine fnStart (n := 17) (e := [(0, str f), (1, i6_ i)]) Tryd.func169 rfl rfl rfl rfl Ends.both ?_
 refine Wk.seq ?_
 refine Wk.regionQ ?_
 refine Lq.run 1 rfl ?_
 refine Lq.nil ?_
 refine Kt.sel [0, 1] [_, _] rfl ?_
 refine Wk.seq ?_
 refine Wk.seq ?_
 refine Wk.regionQ ?_
 refine Lq.run 3 rfl ?_
 refine Lq.bool fun b7 hg7 => ?_
 cases b7
 ·
  replace hg7 := of_decide_eq_false hg7
  refine Lq.run 2 rfl ?_
  refine Lq.op (v := i6_ ((f.length : Int))) rfl rfl rfl (OpQ.lenStr rfl Tryd.runUnderlying9 rfl) ?_
  refine Lq.run 2 rfl ?_
  refine Lq.nil ?_
  refine Kt.sel [0, 1, 12] [_, _, _] rfl ?_
  refine Wk.cond (b := decide (((f.length : Int)) ≤ i)) rfl (fun h12 => ?_) (fun h12 => ?_)
  ·
   replace h12 := of_decide_eq_true h12
   refine Wk.seq ?_
   refine Wk.regionQ ?_
   refine Lq.run 1 rfl ?_
   refine Lq.nil ?_
   refine Kt.sel [4] [_] rfl ?_
   refine Wk.ret (Kt.end1 rfl rfl fun w' hw => ?_)
   exact ⟨ret_i (varI_out (by first | exact .inl (by omega) | exact .inr (by omega))).symm, hw.below⟩
  ·
   replace h12 := of_decide_eq_false h12
   refine Wk.skip ?_
   refine Kt.sel [0, 1] [_, _] rfl ?_
   refine Wk.seq ?_
   refine Wk.regionQ ?_
   refine Lq.run 2 rfl ?_
   refine Lq.op (v := .int .u8 (((f.getD ((i).toNat) 0).toNat : Int))) rfl rfl rfl (OpQ.indexStr rfl Tryd.runUnderlying9 rfl rfl (by omega) (by omega)) ?_
   refine Lq.op (v := i6_ (findS ([97, 98, 99, 100]) (((f.getD ((i).toNat) 0).toNat : Int)))) rfl rfl rfl (OpQ.call rfl Tryd.call178 rfl Own.stable (fun w1 hw1 => l15Find_ok ([97, 98, 99, 100]) (((f.getD ((i).toNat) 0).toNat : Int)) w1 (by decide))) ?_
   refine Lq.run 1 rfl ?_
   refine Lq.nil ?_
   refine Kt.sel [4] [_] rfl ?_
   refine Wk.ret (Kt.end1 rfl rfl fun w' hw => ?_)
   exact ⟨ret_i (varI_find (by omega) (by omega)), hw.below⟩
 ·
  replace hg7 := of_decide_eq_true hg7
  refine Lq.pass rfl rfl rfl ?_
  refine Lq.pass rfl rfl rfl ?_
  refine Lq.pass rfl rfl rfl ?_
  refine Lq.pass rfl rfl rfl ?_
  refine Lq.run 1 rfl ?_
  refine Lq.nil ?_
  refine Kt.sel [0, 1, 12] [_, _, _] rfl ?_
  refine Wk.condT rfl ?_
  refine Wk.seq ?_
  refine Wk.regionQ ?_
  refine Lq.run 1 rfl ?_
  refine Lq.nil ?_
  refine Kt.sel [4] [_] rfl ?_
  refine Wk.ret (Kt.end1 rfl rfl fun w' hw => ?_)
  exact ⟨ret_i (varI_out (by first | exact .inl (by omega) | exact .inr (by omega))).symm, hw.below⟩
theorem l2Var_at (f : List UInt8) (i : Int) (k : Nat) (w : World) (hi : i = (k : Int)) (hl : k < f.length) (hv : isV (f.getD k 0) = true) : Calls Tryd.prog 169 #[str f, .int .i64 i] w fun en w' => en = .returned (.int .i64 (vI (f.getD k 0) : Int)) ∧ Below w.heap.size w w' :=
  (l2Var_ok f i w).mono fun en w' ⟨h1, h2⟩ => ⟨by rw [h1, hi, (varI_nat hl hv).1], h2⟩
set_option maxHeartbeats 400000 in
/-- spec.l2End -/
theorem l2End_step (f : List UInt8) (i : Int) (w : World) (hf : f.length ≤ 1048576) (ih : ∀ (j : Int) (w : World), endM f j < endM f i → Calls Tryd.prog 168 #[str f, .int .i64 j] w fun en w' => en = .returned (.int .i64 (endI f j)) ∧ Below w.heap.size w w') :
    Calls Tryd.prog 168 [str f, i6_ i].toArray w fun en w' => en = .returned (.int .i64 (endI f i)) ∧ Below w.heap.size w w' := by
 refine fnStart (n := 77) (e := [(0, str f), (1, i6_ i)]) Tryd.func168 rfl rfl rfl rfl Ends.both ?_
 refine Wk.seq ?_
 refine Wk.regionQ ?_
 refine Lq.run 1 rfl ?_
 refine Lq.nil ?_
 refine Kt.sel [0, 1] [_, _] rfl ?_
 refine Wk.seq ?_
 refine Wk.seq ?_
 refine Wk.regionQ ?_
 refine Lq.run 3 rfl ?_
 refine Lq.bool fun b7 hg7 => ?_
 cases b7
 ·
  replace hg7 := of_decide_eq_false hg7
  refine Lq.run 2 rfl ?_
  refine Lq.op (v := i6_ ((f.length : Int))) rfl rfl rfl (OpQ.lenStr rfl Tryd.runUnderlying9 rfl) ?_
  refine Lq.run 2 rfl ?_
  refine Lq.nil ?_
  refine Kt.sel [0, 1, 12] [_, _, _] rfl ?_
  refine Wk.cond (b := decide (((f.length : Int)) ≤ i)) rfl (fun h12 => ?_) (fun h12 => ?_)
  ·
   replace h12 := of_decide_eq_true h12
   refine Wk.seq ?_
   refine Wk.regionQ ?_
   refine Lq.run 1 rfl ?_
   refine Lq.nil ?_
   refine Kt.sel [4] [_] rfl ?_
   refine Wk.ret (Kt.end1 rfl rfl fun w' hw => ?_)
   exact ⟨ret_i (by first | exact (endI_neg (by omega)).symm | exact (endI_out (by omega)).symm | (refine Eq.trans ?_ (endI_case (f := f) (i := i) (by omega) (by omega)).symm; unfold endC chI; repeat (first | rw [if_pos (by omega)] | rw [if_neg (by omega)]))), hw.below⟩
  ·
   replace h12 := of_decide_eq_false h12
   refine Wk.skip ?_
   refine Kt.sel [0, 1] [_, _] rfl ?_
   refine Wk.seq ?_
   refine Wk.seq ?_
   refine Wk.regionQ ?_
   refine Lq.run 2 rfl ?_
   refine Lq.op (v := .int .u8 (((f.getD ((i).toNat) 0).toNat : Int))) rfl rfl rfl (OpQ.indexStr rfl Tryd.runUnderlying9 rfl rfl (by omega) (by omega)) ?_
   refine Lq.nil ?_
   refine Kt.sel [0, 1, 15] [_, _, _] rfl ?_
   refine Wk.block ?_
   refine Wk.seq ?_
   refine Wk.seq ?_
   refine Wk.regionQ ?_
   refine Lq.run 2 rfl ?_
   refine Lq.nil ?_
   refine Kt.sel [0, 1, 15, 16] [_, _, _, _] rfl ?_
   refine Wk.cond (b := decide ((((f.getD ((i).toNat) 0).toNat : Int)) = (116 : Int))) rfl (fun h16 => ?_) (fun h16 => ?_)
   ·
    replace h16 := of_decide_eq_true h16
    refine Wk.skip ?_
    refine Kt.sel [0, 1, 15, 16] [_, _, _, _] rfl ?_
    refine Wk.condT (congrArg (fun b => some (Value.bool b)) (decide_eq_true h16)) ?_
    refine Wk.seq ?_
    refine Wk.regionQ ?_
    refine Lq.run 1 rfl ?_
    refine Lq.op rfl rfl rfl (OpQ.add rfl rfl rfl (by omega) (by omega)) ?_
    refine Lq.run 1 rfl ?_
    refine Lq.nil ?_
    refine Kt.sel [4] [_] rfl ?_
    refine Wk.ret (Kt.end1 rfl rfl fun w' hw => ?_)
    exact ⟨ret_i (by first | exact (endI_neg (by omega)).symm | exact (endI_out (by omega)).symm | (refine Eq.trans ?_ (endI_case (f := f) (i := i) (by omega) (by omega)).symm; unfold endC chI; repeat (first | rw [if_pos (by omega)] | rw [if_neg (by omega)]))), hw.below⟩
   ·
    replace h16 := of_decide_eq_false h16
    refine Wk.regionQ ?_
    refine Lq.run 2 rfl ?_
    refine Lq.nil ?_
    refine Kt.sel [0, 1, 15, 16] [_, _, _, _] rfl ?_
    refine Wk.cond (b := decide ((((f.getD ((i).toNat) 0).toNat : Int)) = (102 : Int))) rfl (fun h16_1 => ?_) (fun h16_1 => ?_)
    ·
     replace h16_1 := of_decide_eq_true h16_1
     refine Wk.seq ?_
     refine Wk.regionQ ?_
     refine Lq.run 1 rfl ?_
     refine Lq.op rfl rfl rfl (OpQ.add rfl rfl rfl (by omega) (by omega)) ?_
     refine Lq.run 1 rfl ?_
     refine Lq.nil ?_
     refine Kt.sel [4] [_] rfl ?_
     refine Wk.ret (Kt.end1 rfl rfl fun w' hw => ?_)
     exact ⟨ret_i (by first | exact (endI_neg (by omega)).symm | exact (endI_out (by omega)).symm | (refine Eq.trans ?_ (endI_case (f := f) (i := i) (by omega) (by omega)).symm; unfold endC chI; repeat (first | rw [if_pos (by omega)] | rw [if_neg (by omega)]))), hw.below⟩
    ·
     replace h16_1 := of_decide_eq_false h16_1
     refine Wk.seq ?_
     refine Wk.regionQ ?_
     refine Lq.run 2 rfl ?_
     refine Lq.nil ?_
     refine Kt.sel [0, 1, 15, 21] [_, _, _, _] rfl ?_
     refine Wk.cond (b := decide ((((f.getD ((i).toNat) 0).toNat : Int)) = (80 : Int))) rfl (fun h21 => ?_) (fun h21 => ?_)
     ·
      replace h21 := of_decide_eq_true h21
      refine Wk.seq ?_
      refine Wk.seq ?_
      refine Wk.regionQ ?_
      refine Lq.run 2 rfl ?_
      refine Lq.op rfl rfl rfl (OpQ.add rfl rfl rfl (by omega) (by omega)) ?_
      refine Lq.op (v := i6_ (varI f (i + (1 : Int)))) rfl rfl rfl (OpQ.call rfl Tryd.call169 rfl Own.stable (fun w1 hw1 => l2Var_ok f (i + (1 : Int)) w1 )) ?_
      refine Lq.run 1 rfl ?_
      refine Lq.nil ?_
      refine Kt.sel [1, 27] [_, _] rfl ?_
      refine Wk.cond (b := decide ((varI f (i + (1 : Int))) < (0 : Int))) rfl (fun h27 => ?_) (fun h27 => ?_)
      ·
       replace h27 := of_decide_eq_true h27
       refine Wk.seq ?_
       refine Wk.regionQ ?_
       refine Lq.run 1 rfl ?_
       refine Lq.nil ?_
       refine Kt.sel [4] [_] rfl ?_
       refine Wk.ret (Kt.end1 rfl rfl fun w' hw => ?_)
       exact ⟨ret_i (by first | exact (endI_neg (by omega)).symm | exact (endI_out (by omega)).symm | (refine Eq.trans ?_ (endI_case (f := f) (i := i) (by omega) (by omega)).symm; unfold endC chI; repeat (first | rw [if_pos (by omega)] | rw [if_neg (by omega)]))), hw.below⟩
      ·
       replace h27 := of_decide_eq_false h27
       refine Wk.skip ?_
       refine Kt.sel [1] [_] rfl ?_
       refine Wk.seq ?_
       refine Wk.regionQ ?_
       refine Lq.run 1 rfl ?_
       refine Lq.op rfl rfl rfl (OpQ.add rfl rfl rfl (by omega) (by omega)) ?_
       refine Lq.run 1 rfl ?_
       refine Lq.nil ?_
       refine Kt.sel [4] [_] rfl ?_
       refine Wk.ret (Kt.end1 rfl rfl fun w' hw => ?_)
       exact ⟨ret_i (by first | exact (endI_neg (by omega)).symm | exact (endI_out (by omega)).symm | (refine Eq.trans ?_ (endI_case (f := f) (i := i) (by omega) (by omega)).symm; unfold endC chI; repeat (first | rw [if_pos (by omega)] | rw [if_neg (by omega)]))), hw.below⟩
     ·
      replace h21 := of_decide_eq_false h21
      refine Wk.seq ?_
      refine Wk.seq ?_
      refine Wk.regionQ ?_
      refine Lq.run 2 rfl ?_
      refine Lq.nil ?_
      refine Kt.sel [0, 1, 15, 30] [_, _, _, _] rfl ?_
      refine Wk.cond (b := decide ((((f.getD ((i).toNat) 0).toNat : Int)) = (61 : Int))) rfl (fun h30 => ?_) (fun h30 => ?_)
      ·
       replace h30 := of_decide_eq_true h30
       refine Wk.skip ?_
       refine Kt.sel [0, 1, 15, 30] [_, _, _, _] rfl ?_
       refine Wk.condT (congrArg (fun b => some (Value.bool b)) (decide_eq_true h30)) ?_
       refine Wk.seq ?_
       refine Wk.seq ?_
       refine Wk.regionQ ?_
       refine Lq.run 2 rfl ?_
       refine Lq.op rfl rfl rfl (OpQ.add rfl rfl rfl (by omega) (by omega)) ?_
       refine Lq.op (v := i6_ (varI f (i + (1 : Int)))) rfl rfl rfl (OpQ.call rfl Tryd.call169 rfl Own.stable (fun w1 hw1 => l2Var_ok f (i + (1 : Int)) w1 )) ?_
       refine Lq.run 2 rfl ?_
       refine Lq.bool fun b38 hg38 => ?_
       cases b38
       ·
        replace hg38 := of_decide_eq_false hg38
        refine Lq.run 2 rfl ?_
        refine Lq.op rfl rfl rfl (OpQ.add rfl rfl rfl (by omega) (by omega)) ?_
        refine Lq.op (v := i6_ (varI f (i + (2 : Int)))) rfl rfl rfl (OpQ.call rfl Tryd.call169 rfl Own.stable (fun w1 hw1 => l2Var_ok f (i + (2 : Int)) w1 )) ?_
        refine Lq.run 2 rfl ?_
        refine Lq.nil ?_
        refine Kt.sel [1, 44] [_, _] rfl ?_
        refine Wk.cond (b := decide ((varI f (i + (2 : Int))) < (0 : Int))) rfl (fun h44 => ?_) (fun h44 => ?_)
        ·
         replace h44 := of_decide_eq_true h44
         refine Wk.seq ?_
         refine Wk.regionQ ?_
         refine Lq.run 1 rfl ?_
         refine Lq.nil ?_
         refine Kt.sel [4] [_] rfl ?_
         refine Wk.ret (Kt.end1 rfl rfl fun w' hw => ?_)
         exact ⟨ret_i (by first | exact (endI_neg (by omega)).symm | exact (endI_out (by omega)).symm | (refine Eq.trans ?_ (endI_case (f := f) (i := i) (by omega) (by omega)).symm; unfold endC chI; repeat (first | rw [if_pos (by omega)] | rw [if_neg (by omega)]))), hw.below⟩
        ·
         replace h44 := of_decide_eq_false h44
         refine Wk.skip ?_
         refine Kt.sel [1] [_] rfl ?_
         refine Wk.seq ?_
         refine Wk.regionQ ?_
         refine Lq.run 1 rfl ?_
         refine Lq.op rfl rfl rfl (OpQ.add rfl rfl rfl (by omega) (by omega)) ?_
         refine Lq.run 1 rfl ?_
         refine Lq.nil ?_
         refine Kt.sel [4] [_] rfl ?_
         refine Wk.ret (Kt.end1 rfl rfl fun w' hw => ?_)
         exact ⟨ret_i (by first | exact (endI_neg (by omega)).symm | exact (endI_out (by omega)).symm | (refine Eq.trans ?_ (endI_case (f := f) (i := i) (by omega) (by omega)).symm; unfold endC chI; repeat (first | rw [if_pos (by omega)] | rw [if_neg (by omega)]))), hw.below⟩
       ·
        replace hg38 := of_decide_eq_true hg38
        refine Lq.pass rfl rfl rfl ?_
        refine Lq.pass rfl rfl rfl ?_
        refine Lq.pass rfl rfl rfl ?_
        refine Lq.pass rfl rfl rfl ?_
        refine Lq.pass rfl rfl rfl ?_
        refine Lq.run 1 rfl ?_
        refine Lq.nil ?_
        refine Kt.sel [1, 44] [_, _] rfl ?_
        refine Wk.condT rfl ?_
        refine Wk.seq ?_
        refine Wk.regionQ ?_
        refine Lq.run 1 rfl ?_
        refine Lq.nil ?_
        refine Kt.sel [4] [_] rfl ?_
        refine Wk.ret (Kt.end1 rfl rfl fun w' hw => ?_)
        exact ⟨ret_i (by first | exact (endI_neg (by omega)).symm | exact (endI_out (by omega)).symm | (refine Eq.trans ?_ (endI_case (f := f) (i := i) (by omega) (by omega)).symm; unfold endC chI; repeat (first | rw [if_pos (by omega)] | rw [if_neg (by omega)]))), hw.below⟩
      ·
       replace h30 := of_decide_eq_false h30
       refine Wk.regionQ ?_
       refine Lq.run 2 rfl ?_
       refine Lq.nil ?_
       refine Kt.sel [0, 1, 15, 30] [_, _, _, _] rfl ?_
       refine Wk.cond (b := decide ((((f.getD ((i).toNat) 0).toNat : Int)) = (69 : Int))) rfl (fun h30_1 => ?_) (fun h30_1 => ?_)
       ·
        replace h30_1 := of_decide_eq_true h30_1
        refine Wk.seq ?_
        refine Wk.seq ?_
        refine Wk.regionQ ?_
        refine Lq.run 2 rfl ?_
        refine Lq.op rfl rfl rfl (OpQ.add rfl rfl rfl (by omega) (by omega)) ?_
        refine Lq.op (v := i6_ (varI f (i + (1 : Int)))) rfl rfl rfl (OpQ.call rfl Tryd.call169 rfl Own.stable (fun w1 hw1 => l2Var_ok f (i + (1 : Int)) w1 )) ?_
        refine Lq.run 2 rfl ?_
        refine Lq.bool fun b38 hg38_1 => ?_
        cases b38
        ·
         replace hg38_1 := of_decide_eq_false hg38_1
         refine Lq.run 2 rfl ?_
         refine Lq.op rfl rfl rfl (OpQ.add rfl rfl rfl (by omega) (by omega)) ?_
         refine Lq.op (v := i6_ (varI f (i + (2 : Int)))) rfl rfl rfl (OpQ.call rfl Tryd.call169 rfl Own.stable (fun w1 hw1 => l2Var_ok f (i + (2 : Int)) w1 )) ?_
         refine Lq.run 2 rfl ?_
         refine Lq.nil ?_
         refine Kt.sel [1, 44] [_, _] rfl ?_
         refine Wk.cond (b := decide ((varI f (i + (2 : Int))) < (0 : Int))) rfl (fun h44_1 => ?_) (fun h44_1 => ?_)
         ·
          replace h44_1 := of_decide_eq_true h44_1
          refine Wk.seq ?_
          refine Wk.regionQ ?_
          refine Lq.run 1 rfl ?_
          refine Lq.nil ?_
          refine Kt.sel [4] [_] rfl ?_
          refine Wk.ret (Kt.end1 rfl rfl fun w' hw => ?_)
          exact ⟨ret_i (by first | exact (endI_neg (by omega)).symm | exact (endI_out (by omega)).symm | (refine Eq.trans ?_ (endI_case (f := f) (i := i) (by omega) (by omega)).symm; unfold endC chI; repeat (first | rw [if_pos (by omega)] | rw [if_neg (by omega)]))), hw.below⟩
         ·
          replace h44_1 := of_decide_eq_false h44_1
          refine Wk.skip ?_
          refine Kt.sel [1] [_] rfl ?_
          refine Wk.seq ?_
          refine Wk.regionQ ?_
          refine Lq.run 1 rfl ?_
          refine Lq.op rfl rfl rfl (OpQ.add rfl rfl rfl (by omega) (by omega)) ?_
          refine Lq.run 1 rfl ?_
          refine Lq.nil ?_
          refine Kt.sel [4] [_] rfl ?_
          refine Wk.ret (Kt.end1 rfl rfl fun w' hw => ?_)
          exact ⟨ret_i (by first | exact (endI_neg (by omega)).symm | exact (endI_out (by omega)).symm | (refine Eq.trans ?_ (endI_case (f := f) (i := i) (by omega) (by omega)).symm; unfold endC chI; repeat (first | rw [if_pos (by omega)] | rw [if_neg (by omega)]))), hw.below⟩
        ·
         replace hg38_1 := of_decide_eq_true hg38_1
         refine Lq.pass rfl rfl rfl ?_
         refine Lq.pass rfl rfl rfl ?_
         refine Lq.pass rfl rfl rfl ?_
         refine Lq.pass rfl rfl rfl ?_
         refine Lq.pass rfl rfl rfl ?_
         refine Lq.run 1 rfl ?_
         refine Lq.nil ?_
         refine Kt.sel [1, 44] [_, _] rfl ?_
         refine Wk.condT rfl ?_
         refine Wk.seq ?_
         refine Wk.regionQ ?_
         refine Lq.run 1 rfl ?_
         refine Lq.nil ?_
         refine Kt.sel [4] [_] rfl ?_
         refine Wk.ret (Kt.end1 rfl rfl fun w' hw => ?_)
         exact ⟨ret_i (by first | exact (endI_neg (by omega)).symm | exact (endI_out (by omega)).symm | (refine Eq.trans ?_ (endI_case (f := f) (i := i) (by omega) (by omega)).symm; unfold endC chI; repeat (first | rw [if_pos (by omega)] | rw [if_neg (by omega)]))), hw.below⟩
       ·
        replace h30_1 := of_decide_eq_false h30_1
        refine Wk.seq ?_
        refine Wk.regionQ ?_
        refine Lq.run 2 rfl ?_
        refine Lq.nil ?_
        refine Kt.sel [0, 1, 15, 47] [_, _, _, _] rfl ?_
        refine Wk.cond (b := decide ((((f.getD ((i).toNat) 0).toNat : Int)) = (33 : Int))) rfl (fun h47 => ?_) (fun h47 => ?_)
        ·
         replace h47 := of_decide_eq_true h47
         refine Wk.seq ?_
         refine Wk.regionQ ?_
         refine Lq.run 2 rfl ?_
         refine Lq.op rfl rfl rfl (OpQ.add rfl rfl rfl (by omega) (by omega)) ?_
         refine Lq.op (v := i6_ (endI f (i + (1 : Int)))) rfl rfl rfl (OpQ.call rfl Tryd.call168 rfl Own.stable (fun w1 hw1 => ih (i + (1 : Int)) w1 (endM_lt (by omega) (by first | exact .inl (by omega) | exact .inr (by omega) | exact endI_gt (by omega))))) ?_
         refine Lq.run 1 rfl ?_
         refine Lq.nil ?_
         refine Kt.sel [4] [_] rfl ?_
         refine Wk.ret (Kt.end1 rfl rfl fun w' hw => ?_)
         exact ⟨ret_i (by first | exact (endI_neg (by omega)).symm | exact (endI_out (by omega)).symm | (refine Eq.trans ?_ (endI_case (f := f) (i := i) (by omega) (by omega)).symm; unfold endC chI; repeat (first | rw [if_pos (by omega)] | rw [if_neg (by omega)]))), hw.below⟩
        ·
         replace h47 := of_decide_eq_false h47
         refine Wk.seq ?_
         refine Wk.seq ?_
         refine Wk.regionQ ?_
         refine Lq.run 2 rfl ?_
         refine Lq.nil ?_
         refine Kt.sel [0, 1, 15, 53] [_, _, _, _] rfl ?_
         refine Wk.cond (b := decide ((((f.getD ((i).toNat) 0).toNat : Int)) = (38 : Int))) rfl (fun h53 => ?_) (fun h53 => ?_)
         ·
          replace h53 := of_decide_eq_true h53
          refine Wk.skip ?_
          refine Kt.sel [0, 1, 15, 53] [_, _, _, _] rfl ?_
          refine Wk.condT (congrArg (fun b => some (Value.bool b)) (decide_eq_true h53)) ?_
          refine Wk.seq ?_
          refine Wk.regionQ ?_
          refine Lq.run 3 rfl ?_
          refine Lq.op rfl rfl rfl (OpQ.add rfl rfl rfl (by omega) (by omega)) ?_
          refine Lq.op (v := i6_ (endI f (i + (1 : Int)))) rfl rfl rfl (OpQ.call rfl Tryd.call168 rfl Own.stable (fun w1 hw1 => ih (i + (1 : Int)) w1 (endM_lt (by omega) (by first | exact .inl (by omega) | exact .inr (by omega) | exact endI_gt (by omega))))) ?_
          refine Lq.op (v := i6_ (endI f (endI f (i + (1 : Int))))) rfl rfl rfl (OpQ.call rfl Tryd.call168 rfl Own.stable (fun w1 hw1 => ih (endI f (i + (1 : Int))) w1 (endM_lt (by omega) (by first | exact .inl (by omega) | exact .inr (by omega) | exact endI_gt (by omega))))) ?_
          refine Lq.run 1 rfl ?_
          refine Lq.nil ?_
          refine Kt.sel [4] [_] rfl ?_
          refine Wk.ret (Kt.end1 rfl rfl fun w' hw => ?_)
          exact ⟨ret_i (by first | exact (endI_neg (by omega)).symm | exact (endI_out (by omega)).symm | (refine Eq.trans ?_ (endI_case (f := f) (i := i) (by omega) (by omega)).symm; unfold endC chI; repeat (first | rw [if_pos (by omega)] | rw [if_neg (by omega)]))), hw.below⟩
         ·
          replace h53 := of_decide_eq_false h53
          refine Wk.regionQ ?_
          refine Lq.run 2 rfl ?_
          refine Lq.nil ?_
          refine Kt.sel [0, 1, 15, 53] [_, _, _, _] rfl ?_
          refine Wk.cond (b := decide ((((f.getD ((i).toNat) 0).toNat : Int)) = (124 : Int))) rfl (fun h53_1 => ?_) (fun h53_1 => ?_)
          ·
           replace h53_1 := of_decide_eq_true h53_1
           refine Wk.seq ?_
           refine Wk.regionQ ?_
           refine Lq.run 3 rfl ?_
           refine Lq.op rfl rfl rfl (OpQ.add rfl rfl rfl (by omega) (by omega)) ?_
           refine Lq.op (v := i6_ (endI f (i + (1 : Int)))) rfl rfl rfl (OpQ.call rfl Tryd.call168 rfl Own.stable (fun w1 hw1 => ih (i + (1 : Int)) w1 (endM_lt (by omega) (by first | exact .inl (by omega) | exact .inr (by omega) | exact endI_gt (by omega))))) ?_
           refine Lq.op (v := i6_ (endI f (endI f (i + (1 : Int))))) rfl rfl rfl (OpQ.call rfl Tryd.call168 rfl Own.stable (fun w1 hw1 => ih (endI f (i + (1 : Int))) w1 (endM_lt (by omega) (by first | exact .inl (by omega) | exact .inr (by omega) | exact endI_gt (by omega))))) ?_
           refine Lq.run 1 rfl ?_
           refine Lq.nil ?_
           refine Kt.sel [4] [_] rfl ?_
           refine Wk.ret (Kt.end1 rfl rfl fun w' hw => ?_)
           exact ⟨ret_i (by first | exact (endI_neg (by omega)).symm | exact (endI_out (by omega)).symm | (refine Eq.trans ?_ (endI_case (f := f) (i := i) (by omega) (by omega)).symm; unfold endC chI; repeat (first | rw [if_pos (by omega)] | rw [if_neg (by omega)]))), hw.below⟩
          ·
           replace h53_1 := of_decide_eq_false h53_1
           refine Wk.seq ?_
           refine Wk.seq ?_
           refine Wk.regionQ ?_
           refine Lq.run 2 rfl ?_
           refine Lq.nil ?_
           refine Kt.sel [0, 1, 15, 62] [_, _, _, _] rfl ?_
           refine Wk.cond (b := decide ((((f.getD ((i).toNat) 0).toNat : Int)) = (65 : Int))) rfl (fun h62 => ?_) (fun h62 => ?_)
           ·
            replace h62 := of_decide_eq_true h62
            refine Wk.skip ?_
            refine Kt.sel [0, 1, 62] [_, _, _] rfl ?_
            refine Wk.condT (congrArg (fun b => some (Value.bool b)) (decide_eq_true h62)) ?_
            refine Wk.seq ?_
            refine Wk.seq ?_
            refine Wk.regionQ ?_
            refine Lq.run 2 rfl ?_
            refine Lq.op rfl rfl rfl (OpQ.add rfl rfl rfl (by omega) (by omega)) ?_
            refine Lq.op (v := i6_ (varI f (i + (1 : Int)))) rfl rfl rfl (OpQ.call rfl Tryd.call169 rfl Own.stable (fun w1 hw1 => l2Var_ok f (i + (1 : Int)) w1 )) ?_
            refine Lq.run 1 rfl ?_
            refine Lq.nil ?_
            refine Kt.sel [0, 1, 72] [_, _, _] rfl ?_
            refine Wk.cond (b := decide ((varI f (i + (1 : Int))) < (0 : Int))) rfl (fun h72 => ?_) (fun h72 => ?_)
            ·
             replace h72 := of_decide_eq_true h72
             refine Wk.seq ?_
             refine Wk.regionQ ?_
             refine Lq.run 1 rfl ?_
             refine Lq.nil ?_
             refine Kt.sel [4] [_] rfl ?_
             refine Wk.ret (Kt.end1 rfl rfl fun w' hw => ?_)
             exact ⟨ret_i (by first | exact (endI_neg (by omega)).symm | exact (endI_out (by omega)).symm | (refine Eq.trans ?_ (endI_case (f := f) (i := i) (by omega) (by omega)).symm; unfold endC chI; repeat (first | rw [if_pos (by omega)] | rw [if_neg (by omega)]))), hw.below⟩
            ·
             replace h72 := of_decide_eq_false h72
             refine Wk.skip ?_
             refine Kt.sel [0, 1] [_, _] rfl ?_
             refine Wk.seq ?_
             refine Wk.regionQ ?_
             refine Lq.run 2 rfl ?_
             refine Lq.op rfl rfl rfl (OpQ.add rfl rfl rfl (by omega) (by omega)) ?_
             refine Lq.op (v := i6_ (endI f (i + (2 : Int)))) rfl rfl rfl (OpQ.call rfl Tryd.call168 rfl Own.stable (fun w1 hw1 => ih (i + (2 : Int)) w1 (endM_lt (by omega) (by first | exact .inl (by omega) | exact .inr (by omega) | exact endI_gt (by omega))))) ?_
             refine Lq.run 1 rfl ?_
             refine Lq.nil ?_
             refine Kt.sel [4] [_] rfl ?_
             refine Wk.ret (Kt.end1 rfl rfl fun w' hw => ?_)
             exact ⟨ret_i (by first | exact (endI_neg (by omega)).symm | exact (endI_out (by omega)).symm | (refine Eq.trans ?_ (endI_case (f := f) (i := i) (by omega) (by omega)).symm; unfold endC chI; repeat (first | rw [if_pos (by omega)] | rw [if_neg (by omega)]))), hw.below⟩
           ·
            replace h62 := of_decide_eq_false h62
            refine Wk.seq ?_
            refine Wk.regionQ ?_
            refine Lq.run 2 rfl ?_
            refine Lq.nil ?_
            refine Kt.sel [0, 1, 15, 62] [_, _, _, _] rfl ?_
            refine Wk.cond (b := decide ((((f.getD ((i).toNat) 0).toNat : Int)) = (83 : Int))) rfl (fun h62_1 => ?_) (fun h62_1 => ?_)
            ·
             replace h62_1 := of_decide_eq_true h62_1
             refine Wk.skip ?_
             refine Kt.sel [0, 1, 62] [_, _, _] rfl ?_
             refine Wk.condT (congrArg (fun b => some (Value.bool b)) (decide_eq_true h62_1)) ?_
             refine Wk.seq ?_
             refine Wk.seq ?_
             refine Wk.regionQ ?_
             refine Lq.run 2 rfl ?_
             refine Lq.op rfl rfl rfl (OpQ.add rfl rfl rfl (by omega) (by omega)) ?_
             refine Lq.op (v := i6_ (varI f (i + (1 : Int)))) rfl rfl rfl (OpQ.call rfl Tryd.call169 rfl Own.stable (fun w1 hw1 => l2Var_ok f (i + (1 : Int)) w1 )) ?_
             refine Lq.run 1 rfl ?_
             refine Lq.nil ?_
             refine Kt.sel [0, 1, 72] [_, _, _] rfl ?_
             refine Wk.cond (b := decide ((varI f (i + (1 : Int))) < (0 : Int))) rfl (fun h72_1 => ?_) (fun h72_1 => ?_)
             ·
              replace h72_1 := of_decide_eq_true h72_1
              refine Wk.seq ?_
              refine Wk.regionQ ?_
              refine Lq.run 1 rfl ?_
              refine Lq.nil ?_
              refine Kt.sel [4] [_] rfl ?_
              refine Wk.ret (Kt.end1 rfl rfl fun w' hw => ?_)
              exact ⟨ret_i (by first | exact (endI_neg (by omega)).symm | exact (endI_out (by omega)).symm | (refine Eq.trans ?_ (endI_case (f := f) (i := i) (by omega) (by omega)).symm; unfold endC chI; repeat (first | rw [if_pos (by omega)] | rw [if_neg (by omega)]))), hw.below⟩
             ·
              replace h72_1 := of_decide_eq_false h72_1
              refine Wk.skip ?_
              refine Kt.sel [0, 1] [_, _] rfl ?_
              refine Wk.seq ?_
              refine Wk.regionQ ?_
              refine Lq.run 2 rfl ?_
              refine Lq.op rfl rfl rfl (OpQ.add rfl rfl rfl (by omega) (by omega)) ?_
              refine Lq.op (v := i6_ (endI f (i + (2 : Int)))) rfl rfl rfl (OpQ.call rfl Tryd.call168 rfl Own.stable (fun w1 hw1 => ih (i + (2 : Int)) w1 (endM_lt (by omega) (by first | exact .inl (by omega) | exact .inr (by omega) | exact endI_gt (by omega))))) ?_
              refine Lq.run 1 rfl ?_
              refine Lq.nil ?_
              refine Kt.sel [4] [_] rfl ?_
              refine Wk.ret (Kt.end1 rfl rfl fun w' hw => ?_)
              exact ⟨ret_i (by first | exact (endI_neg (by omega)).symm | exact (endI_out (by omega)).symm | (refine Eq.trans ?_ (endI_case (f := f) (i := i) (by omega) (by omega)).symm; unfold endC chI; repeat (first | rw [if_pos (by omega)] | rw [if_neg (by omega)]))), hw.below⟩
            ·
             replace h62_1 := of_decide_eq_false h62_1
             refine Wk.seq ?_
             refine Wk.regionQ ?_
             refine Lq.run 2 rfl ?_
             refine Lq.nil ?_
             refine Kt.sel [0, 1, 15, 62] [_, _, _, _] rfl ?_
             refine Wk.cond (b := decide ((((f.getD ((i).toNat) 0).toNat : Int)) = (50 : Int))) rfl (fun h62_2 => ?_) (fun h62_2 => ?_)
             ·
              replace h62_2 := of_decide_eq_true h62_2
              refine Wk.skip ?_
              refine Kt.sel [0, 1, 62] [_, _, _] rfl ?_
              refine Wk.condT (congrArg (fun b => some (Value.bool b)) (decide_eq_true h62_2)) ?_
              refine Wk.seq ?_
              refine Wk.seq ?_
              refine Wk.regionQ ?_
              refine Lq.run 2 rfl ?_
              refine Lq.op rfl rfl rfl (OpQ.add rfl rfl rfl (by omega) (by omega)) ?_
              refine Lq.op (v := i6_ (varI f (i + (1 : Int)))) rfl rfl rfl (OpQ.call rfl Tryd.call169 rfl Own.stable (fun w1 hw1 => l2Var_ok f (i + (1 : Int)) w1 )) ?_
              refine Lq.run 1 rfl ?_
              refine Lq.nil ?_
              refine Kt.sel [0, 1, 72] [_, _, _] rfl ?_
              refine Wk.cond (b := decide ((varI f (i + (1 : Int))) < (0 : Int))) rfl (fun h72_2 => ?_) (fun h72_2 => ?_)
              ·
               replace h72_2 := of_decide_eq_true h72_2
               refine Wk.seq ?_
               refine Wk.regionQ ?_
               refine Lq.run 1 rfl ?_
               refine Lq.nil ?_
               refine Kt.sel [4] [_] rfl ?_
               refine Wk.ret (Kt.end1 rfl rfl fun w' hw => ?_)
               exact ⟨ret_i (by first | exact (endI_neg (by omega)).symm | exact (endI_out (by omega)).symm | (refine Eq.trans ?_ (endI_case (f := f) (i := i) (by omega) (by omega)).symm; unfold endC chI; repeat (first | rw [if_pos (by omega)] | rw [if_neg (by omega)]))), hw.below⟩
              ·
               replace h72_2 := of_decide_eq_false h72_2
               refine Wk.skip ?_
               refine Kt.sel [0, 1] [_, _] rfl ?_
               refine Wk.seq ?_
               refine Wk.regionQ ?_
               refine Lq.run 2 rfl ?_
               refine Lq.op rfl rfl rfl (OpQ.add rfl rfl rfl (by omega) (by omega)) ?_
               refine Lq.op (v := i6_ (endI f (i + (2 : Int)))) rfl rfl rfl (OpQ.call rfl Tryd.call168 rfl Own.stable (fun w1 hw1 => ih (i + (2 : Int)) w1 (endM_lt (by omega) (by first | exact .inl (by omega) | exact .inr (by omega) | exact endI_gt (by omega))))) ?_
               refine Lq.run 1 rfl ?_
               refine Lq.nil ?_
               refine Kt.sel [4] [_] rfl ?_
               refine Wk.ret (Kt.end1 rfl rfl fun w' hw => ?_)
               exact ⟨ret_i (by first | exact (endI_neg (by omega)).symm | exact (endI_out (by omega)).symm | (refine Eq.trans ?_ (endI_case (f := f) (i := i) (by omega) (by omega)).symm; unfold endC chI; repeat (first | rw [if_pos (by omega)] | rw [if_neg (by omega)]))), hw.below⟩
             ·
              replace h62_2 := of_decide_eq_false h62_2
              refine Wk.seq ?_
              refine Wk.regionQ ?_
              refine Lq.run 2 rfl ?_
              refine Lq.nil ?_
              refine Kt.sel [0, 1, 15, 62] [_, _, _, _] rfl ?_
              refine Wk.cond (b := decide ((((f.getD ((i).toNat) 0).toNat : Int)) = (51 : Int))) rfl (fun h62_3 => ?_) (fun h62_3 => ?_)
              ·
               replace h62_3 := of_decide_eq_true h62_3
               refine Wk.skip ?_
               refine Kt.sel [0, 1, 62] [_, _, _] rfl ?_
               refine Wk.condT (congrArg (fun b => some (Value.bool b)) (decide_eq_true h62_3)) ?_
               refine Wk.seq ?_
               refine Wk.seq ?_
               refine Wk.regionQ ?_
               refine Lq.run 2 rfl ?_
               refine Lq.op rfl rfl rfl (OpQ.add rfl rfl rfl (by omega) (by omega)) ?_
               refine Lq.op (v := i6_ (varI f (i + (1 : Int)))) rfl rfl rfl (OpQ.call rfl Tryd.call169 rfl Own.stable (fun w1 hw1 => l2Var_ok f (i + (1 : Int)) w1 )) ?_
               refine Lq.run 1 rfl ?_
               refine Lq.nil ?_
               refine Kt.sel [0, 1, 72] [_, _, _] rfl ?_
               refine Wk.cond (b := decide ((varI f (i + (1 : Int))) < (0 : Int))) rfl (fun h72_3 => ?_) (fun h72_3 => ?_)
               ·
                replace h72_3 := of_decide_eq_true h72_3
                refine Wk.seq ?_
                refine Wk.regionQ ?_
                refine Lq.run 1 rfl ?_
                refine Lq.nil ?_
                refine Kt.sel [4] [_] rfl ?_
                refine Wk.ret (Kt.end1 rfl rfl fun w' hw => ?_)
                exact ⟨ret_i (by first | exact (endI_neg (by omega)).symm | exact (endI_out (by omega)).symm | (refine Eq.trans ?_ (endI_case (f := f) (i := i) (by omega) (by omega)).symm; unfold endC chI; repeat (first | rw [if_pos (by omega)] | rw [if_neg (by omega)]))), hw.below⟩
               ·
                replace h72_3 := of_decide_eq_false h72_3
                refine Wk.skip ?_
                refine Kt.sel [0, 1] [_, _] rfl ?_
                refine Wk.seq ?_
                refine Wk.regionQ ?_
                refine Lq.run 2 rfl ?_
                refine Lq.op rfl rfl rfl (OpQ.add rfl rfl rfl (by omega) (by omega)) ?_
                refine Lq.op (v := i6_ (endI f (i + (2 : Int)))) rfl rfl rfl (OpQ.call rfl Tryd.call168 rfl Own.stable (fun w1 hw1 => ih (i + (2 : Int)) w1 (endM_lt (by omega) (by first | exact .inl (by omega) | exact .inr (by omega) | exact endI_gt (by omega))))) ?_
                refine Lq.run 1 rfl ?_
                refine Lq.nil ?_
                refine Kt.sel [4] [_] rfl ?_
                refine Wk.ret (Kt.end1 rfl rfl fun w' hw => ?_)
                exact ⟨ret_i (by first | exact (endI_neg (by omega)).symm | exact (endI_out (by omega)).symm | (refine Eq.trans ?_ (endI_case (f := f) (i := i) (by omega) (by omega)).symm; unfold endC chI; repeat (first | rw [if_pos (by omega)] | rw [if_neg (by omega)]))), hw.below⟩
              ·
               replace h62_3 := of_decide_eq_false h62_3
               refine Wk.regionQ ?_
               refine Lq.run 2 rfl ?_
               refine Lq.nil ?_
               refine Kt.sel [0, 1, 62] [_, _, _] rfl ?_
               refine Wk.cond (b := decide ((((f.getD ((i).toNat) 0).toNat : Int)) = (52 : Int))) rfl (fun h62_4 => ?_) (fun h62_4 => ?_)
               ·
                replace h62_4 := of_decide_eq_true h62_4
                refine Wk.seq ?_
                refine Wk.seq ?_
                refine Wk.regionQ ?_
                refine Lq.run 2 rfl ?_
                refine Lq.op rfl rfl rfl (OpQ.add rfl rfl rfl (by omega) (by omega)) ?_
                refine Lq.op (v := i6_ (varI f (i + (1 : Int)))) rfl rfl rfl (OpQ.call rfl Tryd.call169 rfl Own.stable (fun w1 hw1 => l2Var_ok f (i + (1 : Int)) w1 )) ?_
                refine Lq.run 1 rfl ?_
                refine Lq.nil ?_
                refine Kt.sel [0, 1, 72] [_, _, _] rfl ?_
                refine Wk.cond (b := decide ((varI f (i + (1 : Int))) < (0 : Int))) rfl (fun h72_4 => ?_) (fun h72_4 => ?_)
                ·
                 replace h72_4 := of_decide_eq_true h72_4
                 refine Wk.seq ?_
                 refine Wk.regionQ ?_
                 refine Lq.run 1 rfl ?_
                 refine Lq.nil ?_
                 refine Kt.sel [4] [_] rfl ?_
                 refine Wk.ret (Kt.end1 rfl rfl fun w' hw => ?_)
                 exact ⟨ret_i (by first | exact (endI_neg (by omega)).symm | exact (endI_out (by omega)).symm | (refine Eq.trans ?_ (endI_case (f := f) (i := i) (by omega) (by omega)).symm; unfold endC chI; repeat (first | rw [if_pos (by omega)] | rw [if_neg (by omega)]))), hw.below⟩
                ·
                 replace h72_4 := of_decide_eq_false h72_4
                 refine Wk.skip ?_
                 refine Kt.sel [0, 1] [_, _] rfl ?_
                 refine Wk.seq ?_
                 refine Wk.regionQ ?_
                 refine Lq.run 2 rfl ?_
                 refine Lq.op rfl rfl rfl (OpQ.add rfl rfl rfl (by omega) (by omega)) ?_
                 refine Lq.op (v := i6_ (endI f (i + (2 : Int)))) rfl rfl rfl (OpQ.call rfl Tryd.call168 rfl Own.stable (fun w1 hw1 => ih (i + (2 : Int)) w1 (endM_lt (by omega) (by first | exact .inl (by omega) | exact .inr (by omega) | exact endI_gt (by omega))))) ?_
                 refine Lq.run 1 rfl ?_
                 refine Lq.nil ?_
                 refine Kt.sel [4] [_] rfl ?_
                 refine Wk.ret (Kt.end1 rfl rfl fun w' hw => ?_)
                 exact ⟨ret_i (by first | exact (endI_neg (by omega)).symm | exact (endI_out (by omega)).symm | (refine Eq.trans ?_ (endI_case (f := f) (i := i) (by omega) (by omega)).symm; unfold endC chI; repeat (first | rw [if_pos (by omega)] | rw [if_neg (by omega)]))), hw.below⟩
               ·
                replace h62_4 := of_decide_eq_false h62_4
                refine Wk.skip ?_
                refine Kt.sel [] [] rfl ?_
                refine Wk.seq ?_
                refine Wk.regionQ ?_
                refine Lq.run 1 rfl ?_
                refine Lq.nil ?_
                refine Kt.sel [4] [_] rfl ?_
                refine Wk.ret (Kt.end1 rfl rfl fun w' hw => ?_)
                exact ⟨ret_i (by first | exact (endI_neg (by omega)).symm | exact (endI_out (by omega)).symm | (refine Eq.trans ?_ (endI_case (f := f) (i := i) (by omega) (by omega)).symm; unfold endC chI; repeat (first | rw [if_pos (by omega)] | rw [if_neg (by omega)]))), hw.below⟩
 ·
  replace hg7 := of_decide_eq_true hg7
  refine Lq.pass rfl rfl rfl ?_
  refine Lq.pass rfl rfl rfl ?_
  refine Lq.pass rfl rfl rfl ?_
  refine Lq.pass rfl rfl rfl ?_
  refine Lq.run 1 rfl ?_
  refine Lq.nil ?_
  refine Kt.sel [0, 1, 12] [_, _, _] rfl ?_
  refine Wk.condT rfl ?_
  refine Wk.seq ?_
  refine Wk.regionQ ?_
  refine Lq.run 1 rfl ?_
  refine Lq.nil ?_
  refine Kt.sel [4] [_] rfl ?_
  refine Wk.ret (Kt.end1 rfl rfl fun w' hw => ?_)
  exact ⟨ret_i (by first | exact (endI_neg (by omega)).symm | exact (endI_out (by omega)).symm | (refine Eq.trans ?_ (endI_case (f := f) (i := i) (by omega) (by omega)).symm; unfold endC chI; repeat (first | rw [if_pos (by omega)] | rw [if_neg (by omega)]))), hw.below⟩
theorem l2End_ok (f : List UInt8) (i : Int) (w : World) (hf : f.length ≤ 1048576) : Calls Tryd.prog 168 #[str f, .int .i64 i] w fun en w' => en = .returned (.int .i64 (endI f i)) ∧ Below w.heap.size w w' := by
  have key : ∀ (m : Nat) (i : Int) (w : World), endM f i ≤ m → Calls Tryd.prog 168 #[str f, .int .i64 i] w fun en w' => en = .returned (.int .i64 (endI f i)) ∧ Below w.heap.size w w' := fun m => by
    induction m with
    | zero => exact fun i w hm => l2End_step f i w hf fun j w h5 => absurd h5 (by omega)
    | succ m ihm => exact fun i w hm => l2End_step f i w hf fun j w h5 => ihm j w (by omega)
  exact key _ i w (Nat.le_refl _)
set_option maxHeartbeats 400000 in
/-- spec.l2Quant -/
theorem l2Quant_ok (c : UInt8) (w : World) :
    Calls Tryd.prog 170 [.int .u8 ((c.toNat : Int))].toArray w fun en w' => en = .returned (.bool (decide (quI (c.toNat : Int)))) ∧ Below w.heap.size w w' := by
 refine fnStart (n := 6) (e := [(0, .int .u8 ((c.toNat : Int)))]) Tryd.func170 rfl rfl rfl rfl Ends.both ?_
 refine Wk.seq ?_
 refine Wk.regionQ ?_
 refine Lq.run 1 rfl ?_
 refine Lq.nil ?_
 refine Kt.sel [0] [_] rfl ?_
 refine Wk.seq ?_
 refine Wk.regionQ ?_
 refine Lq.run 1 rfl ?_
 refine Lq.op (v := i6_ (findS ([65, 83, 50, 51, 52]) ((c.toNat : Int)))) rfl rfl rfl (OpQ.call rfl Tryd.call178 rfl Own.stable (fun w1 hw1 => l15Find_ok ([65, 83, 50, 51, 52]) ((c.toNat : Int)) w1 (by decide))) ?_
 refine Lq.run 2 rfl ?_
 refine Lq.nil ?_
 refine Kt.sel [2] [_] rfl ?_
 refine Wk.ret (Kt.end1 rfl rfl fun w' hw => ?_)
 exact ⟨ret_b (find_quant c), hw.below⟩
set_option maxHeartbeats 400000 in
/-- spec.l2Free -/
theorem l2Free_step (f : List UInt8) (n : Nat) (p : Fm) (e : Nat) (w : World) (hf : f.length ≤ 1048576) (hP : Pa f n p e) (ih : ∀ (i : Int) (k : Nat) (p : Fm) (e : Nat) (w : World), i = (k : Int) → n < k → Pa f k p e → Calls Tryd.prog 137 #[str f, .int .i64 i] w fun en w' => en = .returned (.tuple #[.int .i64 (frB p : Int), .int .i64 (e : Int)]) ∧ Below w.heap.size w w') :
    Calls Tryd.prog 137 [str f, i6_ ((n : Int))].toArray w fun en w' => en = .returned (.tuple #[.int .i64 (frB p : Int), .int .i64 (e : Int)]) ∧ Below w.heap.size w w' := by
 refine fnStart (n := 113) (e := [(0, str f), (1, i6_ ((n : Int)))]) Tryd.func137 rfl rfl rfl rfl Ends.both ?_
 have hn := hP.lt
 have hne := hP.2
 refine Wk.seq ?_
 refine Wk.regionQ ?_
 refine Lq.run 2 rfl ?_
 refine Lq.nil ?_
 refine Kt.sel [0, 1] [_, _] rfl ?_
 refine Wk.seq ?_
 refine Wk.block ?_
 refine Wk.seq ?_
 refine Wk.regionQ ?_
 refine Lq.run 2 rfl ?_
 refine Lq.op (v := .int .u8 (((f.getD (((n : Int)).toNat) 0).toNat : Int))) rfl rfl rfl (OpQ.indexStr rfl Tryd.runUnderlying9 rfl rfl (by omega) (by omega)) ?_
 refine Lq.run 2 rfl ?_
 refine Lq.bool fun b17 hg17 => ?_
 cases b17
 ·
  replace hg17 := of_decide_eq_false hg17
  refine Lq.run 2 rfl ?_
  refine Lq.op (v := .int .u8 (((f.getD (((n : Int)).toNat) 0).toNat : Int))) rfl rfl rfl (OpQ.indexStr rfl Tryd.runUnderlying9 rfl rfl (by omega) (by omega)) ?_
  refine Lq.run 3 rfl ?_
  refine Lq.nil ?_
  refine Kt.sel [0, 1, 12] [_, _, _] rfl ?_
  refine Wk.cond (b := decide ((((f.getD (((n : Int)).toNat) 0).toNat : Int)) = (102 : Int))) rfl (fun h12 => ?_) (fun h12 => ?_)
  ·
   replace h12 := of_decide_eq_true h12
   refine Wk.seq ?_
   refine Wk.regionQ ?_
   refine Lq.run 1 rfl ?_
   refine Lq.op rfl rfl rfl (OpQ.add rfl rfl rfl (by omega) (by omega)) ?_
   refine Lq.run 2 rfl ?_
   refine Lq.nil ?_
   refine Kt.sel [4, 5] [_, _] rfl ?_
   refine Wk.ret (Kt.end2 rfl rfl rfl fun w' hw => ?_)
   obtain ⟨rfl, rfl⟩ := hP.i0 (by omega)
   exact ⟨rfl, hw.below⟩
  ·
   replace h12 := of_decide_eq_false h12
   refine Wk.seq ?_
   refine Wk.regionQ ?_
   refine Lq.run 2 rfl ?_
   refine Lq.op (v := .int .u8 (((f.getD (((n : Int)).toNat) 0).toNat : Int))) rfl rfl rfl (OpQ.indexStr rfl Tryd.runUnderlying9 rfl rfl (by omega) (by omega)) ?_
   refine Lq.run 2 rfl ?_
   refine Lq.nil ?_
   refine Kt.sel [0, 1, 25] [_, _, _] rfl ?_
   refine Wk.cond (b := decide ((((f.getD (((n : Int)).toNat) 0).toNat : Int)) = (80 : Int))) rfl (fun h25 => ?_) (fun h25 => ?_)
   ·
    replace h25 := of_decide_eq_true h25
    obtain ⟨hl1, hv1, rfl, rfl⟩ := hP.i1 (by omega)
    have hw1 := (vI_lt hv1).1
    have hb1 := bit_lt hw1
    refine Wk.seq ?_
    refine Wk.regionQ ?_
    refine Lq.run 2 rfl ?_
    refine Lq.op rfl rfl rfl (OpQ.add rfl rfl rfl (by omega) (by omega)) ?_
    refine Lq.op (v := i6_ ((vI (f.getD (n + 1) 0) : Int))) rfl rfl rfl (OpQ.call rfl Tryd.call169 rfl Own.stable (fun w1 hw1 => l2Var_at f (((n : Int)) + (1 : Int)) (n + 1) w1 (by omega) hl1 hv1)) ?_
    refine Lq.op (v := .int .u64 ((vI (f.getD (n + 1) 0) : Int))) rfl rfl rfl (OpQ.convInt .u64 rfl Tryd.underlying3 Tryd.underlying144 rfl (IntWalk.u64_in _ (by omega))) ?_
    refine Lq.op (v := i6_ (((1 * 2 ^ (vI (f.getD (n + 1) 0)) : Nat) : Int))) rfl rfl rfl (OpQ.shl (a := 1) (b := vI (f.getD (n + 1) 0)) rfl rfl rfl (by omega) (by omega)) ?_
    refine Lq.run 1 rfl ?_
    refine Lq.op rfl rfl rfl (OpQ.add rfl rfl rfl (by omega) (by omega)) ?_
    refine Lq.run 2 rfl ?_
    refine Lq.nil ?_
    refine Kt.sel [4, 5] [_, _] rfl ?_
    refine Wk.ret (Kt.end2 rfl rfl rfl fun w' hw => ?_)
    exact ⟨by rw [fre1 80] <;> rfl, hw.below⟩
   ·
    replace h25 := of_decide_eq_false h25
    refine Wk.seq ?_
    refine Wk.regionQ ?_
    refine Lq.run 2 rfl ?_
    refine Lq.op (v := .int .u8 (((f.getD (((n : Int)).toNat) 0).toNat : Int))) rfl rfl rfl (OpQ.indexStr rfl Tryd.runUnderlying9 rfl rfl (by omega) (by omega)) ?_
    refine Lq.run 2 rfl ?_
    refine Lq.bool fun b43 hg43 => ?_
    cases b43
    ·
     replace hg43 := of_decide_eq_false hg43
     refine Lq.run 2 rfl ?_
     refine Lq.op (v := .int .u8 (((f.getD (((n : Int)).toNat) 0).toNat : Int))) rfl rfl rfl (OpQ.indexStr rfl Tryd.runUnderlying9 rfl rfl (by omega) (by omega)) ?_
     refine Lq.run 3 rfl ?_
     refine Lq.nil ?_
     refine Kt.sel [0, 1, 38] [_, _, _] rfl ?_
     refine Wk.cond (b := decide ((((f.getD (((n : Int)).toNat) 0).toNat : Int)) = (69 : Int))) rfl (fun h38 => ?_) (fun h38 => ?_)
     ·
      replace h38 := of_decide_eq_true h38
      obtain ⟨hl2, hv1, hv2, rfl, rfl⟩ := hP.i2 (by omega)
      have hl1 : n + 1 < f.length := by omega
      have hw1 := (vI_lt hv1).1
      have hw2 := (vI_lt hv2).1
      have hb1 := bit_lt hw1
      have hb2 := bit_lt hw2
      refine Wk.seq ?_
      refine Wk.regionQ ?_
      refine Lq.run 2 rfl ?_
      refine Lq.op rfl rfl rfl (OpQ.add rfl rfl rfl (by omega) (by omega)) ?_
      refine Lq.op (v := i6_ ((vI (f.getD (n + 1) 0) : Int))) rfl rfl rfl (OpQ.call rfl Tryd.call169 rfl Own.stable (fun w1 hw1 => l2Var_at f (((n : Int)) + (1 : Int)) (n + 1) w1 (by omega) hl1 hv1)) ?_
      refine Lq.op (v := .int .u64 ((vI (f.getD (n + 1) 0) : Int))) rfl rfl rfl (OpQ.convInt .u64 rfl Tryd.underlying3 Tryd.underlying144 rfl (IntWalk.u64_in _ (by omega))) ?_
      refine Lq.op (v := i6_ (((1 * 2 ^ (vI (f.getD (n + 1) 0)) : Nat) : Int))) rfl rfl rfl (OpQ.shl (a := 1) (b := vI (f.getD (n + 1) 0)) rfl rfl rfl (by omega) (by omega)) ?_
      refine Lq.run 2 rfl ?_
      refine Lq.op rfl rfl rfl (OpQ.add rfl rfl rfl (by omega) (by omega)) ?_
      refine Lq.op (v := i6_ ((vI (f.getD (n + 2) 0) : Int))) rfl rfl rfl (OpQ.call rfl Tryd.call169 rfl Own.stable (fun w1 hw1 => l2Var_at f (((n : Int)) + (2 : Int)) (n + 2) w1 (by omega) hl2 hv2)) ?_
      refine Lq.op (v := .int .u64 ((vI (f.getD (n + 2) 0) : Int))) rfl rfl rfl (OpQ.convInt .u64 rfl Tryd.underlying3 Tryd.underlying144 rfl (IntWalk.u64_in _ (by omega))) ?_
      refine Lq.op (v := i6_ (((1 * 2 ^ (vI (f.getD (n + 2) 0)) : Nat) : Int))) rfl rfl rfl (OpQ.shl (a := 1) (b := vI (f.getD (n + 2) 0)) rfl rfl rfl (by omega) (by omega)) ?_
      refine Lq.op (v := i6_ ((((1 * 2 ^ (vI (f.getD (n + 1) 0))) ||| (1 * 2 ^ (vI (f.getD (n + 2) 0))) : Nat) : Int))) rfl rfl rfl (OpQ.or (a := 1 * 2 ^ (vI (f.getD (n + 1) 0))) (b := 1 * 2 ^ (vI (f.getD (n + 2) 0))) rfl rfl rfl (by omega) (by omega)) ?_
      refine Lq.run 1 rfl ?_
      refine Lq.op rfl rfl rfl (OpQ.add rfl rfl rfl (by omega) (by omega)) ?_
      refine Lq.run 2 rfl ?_
      refine Lq.nil ?_
      refine Kt.sel [4, 5] [_, _] rfl ?_
      refine Wk.ret (Kt.end2 rfl rfl rfl fun w' hw => ?_)
      exact ⟨by rw [fre2 (f.getD n 0)] <;> rfl, hw.below⟩
     ·
      replace h38 := of_decide_eq_false h38
      refine Wk.seq ?_
      refine Wk.regionQ ?_
      refine Lq.run 2 rfl ?_
      refine Lq.op (v := .int .u8 (((f.getD (((n : Int)).toNat) 0).toNat : Int))) rfl rfl rfl (OpQ.indexStr rfl Tryd.runUnderlying9 rfl rfl (by omega) (by omega)) ?_
      refine Lq.run 2 rfl ?_
      refine Lq.nil ?_
      refine Kt.sel [0, 1, 64] [_, _, _] rfl ?_
      refine Wk.cond (b := decide ((((f.getD (((n : Int)).toNat) 0).toNat : Int)) = (33 : Int))) rfl (fun h64 => ?_) (fun h64 => ?_)
      ·
       replace h64 := of_decide_eq_true h64
       obtain ⟨q, hq, rfl⟩ := hP.i3 (by omega)
       refine Wk.seq ?_
       refine Wk.regionQ ?_
       refine Lq.run 2 rfl ?_
       refine Lq.op rfl rfl rfl (OpQ.add rfl rfl rfl (by omega) (by omega)) ?_
       refine Lq.op (v := .tuple #[i6_ ((frB q : Int)), i6_ ((e : Int))]) rfl rfl rfl (OpQ.call rfl Tryd.call137 rfl Own.stable (fun w1 hw1 => ih (((n : Int)) + (1 : Int)) (n + 1) q e w1 (by omega) (by omega) hq)) ?_
       refine Lq.op (v := i6_ ((frB q : Int))) rfl rfl rfl (OpQ.extract rfl rfl rfl) ?_
       refine Lq.op (v := i6_ ((e : Int))) rfl rfl rfl (OpQ.extract rfl rfl rfl) ?_
       refine Lq.run 2 rfl ?_
       refine Lq.nil ?_
       refine Kt.sel [4, 5] [_, _] rfl ?_
       refine Wk.ret (Kt.end2 rfl rfl rfl fun w' hw => ?_)
       exact ⟨rfl, hw.below⟩
      ·
       replace h64 := of_decide_eq_false h64
       refine Wk.seq ?_
       refine Wk.regionQ ?_
       refine Lq.run 2 rfl ?_
       refine Lq.op (v := .int .u8 (((f.getD (((n : Int)).toNat) 0).toNat : Int))) rfl rfl rfl (OpQ.indexStr rfl Tryd.runUnderlying9 rfl rfl (by omega) (by omega)) ?_
       refine Lq.op (v := bo_ (decide (quI (((f.getD (((n : Int)).toNat) 0).toNat : Int))))) rfl rfl rfl (OpQ.call rfl Tryd.call170 rfl Own.stable (fun w1 hw1 => l2Quant_ok (f.getD (((n : Int)).toNat) 0) w1)) ?_
       refine Lq.run 1 rfl ?_
       refine Lq.nil ?_
       refine Kt.sel [0, 1, 75] [_, _, _] rfl ?_
       refine Wk.cond (b := decide (quI (((f.getD (((n : Int)).toNat) 0).toNat : Int)))) rfl (fun h75 => ?_) (fun h75 => ?_)
       ·
        replace h75 := of_decide_eq_true h75
        obtain ⟨hl1, hv1, q, hq, rfl⟩ := hP.i5 (by assumption)
        have hw1 := (vI_lt hv1).1
        have hb1 := bit_lt hw1
        have hf1 := frB_lt hq.wf
        refine Wk.seq ?_
        refine Wk.regionQ ?_
        refine Lq.run 2 rfl ?_
        refine Lq.op rfl rfl rfl (OpQ.add rfl rfl rfl (by omega) (by omega)) ?_
        refine Lq.op (v := .tuple #[i6_ ((frB q : Int)), i6_ ((e : Int))]) rfl rfl rfl (OpQ.call rfl Tryd.call137 rfl Own.stable (fun w1 hw1 => ih (((n : Int)) + (2 : Int)) (n + 2) q e w1 (by omega) (by omega) hq)) ?_
        refine Lq.run 1 rfl ?_
        refine Lq.op (v := i6_ ((frB q : Int))) rfl rfl rfl (OpQ.extract rfl rfl rfl) ?_
        refine Lq.op (v := i6_ ((e : Int))) rfl rfl rfl (OpQ.extract rfl rfl rfl) ?_
        refine Lq.run 2 rfl ?_
        refine Lq.nil ?_
        refine Kt.sel [0, 1, 6, 7] [_, _, _, _] rfl ?_
        refine Wk.seq ?_
        refine Wk.regionQ ?_
        refine Lq.run 3 rfl ?_
        refine Lq.op rfl rfl rfl (OpQ.add rfl rfl rfl (by omega) (by omega)) ?_
        refine Lq.op (v := i6_ ((vI (f.getD (n + 1) 0) : Int))) rfl rfl rfl (OpQ.call rfl Tryd.call169 rfl Own.stable (fun w1 hw1 => l2Var_at f (((n : Int)) + (1 : Int)) (n + 1) w1 (by omega) hl1 hv1)) ?_
        refine Lq.op (v := .int .u64 ((vI (f.getD (n + 1) 0) : Int))) rfl rfl rfl (OpQ.convInt .u64 rfl Tryd.underlying3 Tryd.underlying144 rfl (IntWalk.u64_in _ (by omega))) ?_
        refine Lq.op (v := i6_ (((1 * 2 ^ (vI (f.getD (n + 1) 0)) : Nat) : Int))) rfl rfl rfl (OpQ.shl (a := 1) (b := vI (f.getD (n + 1) 0)) rfl rfl rfl (by omega) (by omega)) ?_
        refine Lq.op (v := i6_ ((((frB q) &&& (15 ^^^ (1 * 2 ^ (vI (f.getD (n + 1) 0)))) : Nat) : Int))) rfl rfl rfl (OpQ.strike (a := frB q) (b := 1 * 2 ^ (vI (f.getD (n + 1) 0))) rfl rfl rfl (by omega) (by omega)) ?_
        refine Lq.run 3 rfl ?_
        refine Lq.nil ?_
        refine Kt.sel [4, 5] [_, _] rfl ?_
        refine Wk.ret (Kt.end2 rfl rfl rfl fun w' hw => ?_)
        exact ⟨by rw [freq (f.getD n 0)] <;> rfl, hw.below⟩
       ·
        replace h75 := of_decide_eq_false h75
        unfold quI at h75
        obtain ⟨q, m, q2, hq, hq2, rfl⟩ := hP.i4 (by have := hP.io; omega)
        have hqm := hq.2
        have hf1 := frB_lt hq.wf
        have hf2 := frB_lt hq2.wf
        refine Wk.skip ?_
        refine Kt.sel [0, 1] [_, _] rfl ?_
        refine Wk.seq ?_
        refine Wk.regionQ ?_
        refine Lq.run 2 rfl ?_
        refine Lq.op rfl rfl rfl (OpQ.add rfl rfl rfl (by omega) (by omega)) ?_
        refine Lq.op (v := .tuple #[i6_ ((frB q : Int)), i6_ ((m : Int))]) rfl rfl rfl (OpQ.call rfl Tryd.call137 rfl Own.stable (fun w1 hw1 => ih (((n : Int)) + (1 : Int)) (n + 1) q m w1 (by omega) (by omega) hq)) ?_
        refine Lq.run 1 rfl ?_
        refine Lq.op (v := i6_ ((frB q : Int))) rfl rfl rfl (OpQ.extract rfl rfl rfl) ?_
        refine Lq.op (v := i6_ ((m : Int))) rfl rfl rfl (OpQ.extract rfl rfl rfl) ?_
        refine Lq.run 2 rfl ?_
        refine Lq.nil ?_
        refine Kt.sel [0, 8, 9] [_, _, _] rfl ?_
        refine Wk.seq ?_
        refine Wk.regionQ ?_
        refine Lq.run 2 rfl ?_
        refine Lq.op (v := .tuple #[i6_ ((frB q2 : Int)), i6_ ((e : Int))]) rfl rfl rfl (OpQ.call rfl Tryd.call137 rfl Own.stable (fun w1 hw1 => ih ((m : Int)) m q2 e w1 (by omega) (by omega) hq2)) ?_
        refine Lq.run 1 rfl ?_
        refine Lq.op (v := i6_ ((frB q2 : Int))) rfl rfl rfl (OpQ.extract rfl rfl rfl) ?_
        refine Lq.op (v := i6_ ((e : Int))) rfl rfl rfl (OpQ.extract rfl rfl rfl) ?_
        refine Lq.run 2 rfl ?_
        refine Lq.nil ?_
        refine Kt.sel [8, 10, 11] [_, _, _] rfl ?_
        refine Wk.seq ?_
        refine Wk.regionQ ?_
        refine Lq.run 2 rfl ?_
        refine Lq.op (v := i6_ ((((frB q) ||| (frB q2) : Nat) : Int))) rfl rfl rfl (OpQ.or (a := frB q) (b := frB q2) rfl rfl rfl (by omega) (by omega)) ?_
        refine Lq.run 3 rfl ?_
        refine Lq.nil ?_
        refine Kt.sel [4, 5] [_, _] rfl ?_
        refine Wk.ret (Kt.end2 rfl rfl rfl fun w' hw => ?_)
        exact ⟨rfl, hw.below⟩
    ·
     replace hg43 := of_decide_eq_true hg43
     obtain ⟨hl2, hv1, hv2, rfl, rfl⟩ := hP.i2 (by omega)
     have hl1 : n + 1 < f.length := by omega
     have hw1 := (vI_lt hv1).1
     have hw2 := (vI_lt hv2).1
     have hb1 := bit_lt hw1
     have hb2 := bit_lt hw2
     refine Lq.pass rfl rfl rfl ?_
     refine Lq.pass rfl rfl rfl ?_
     refine Lq.pass rfl rfl rfl ?_
     refine Lq.pass rfl rfl rfl ?_
     refine Lq.run 2 rfl ?_
     refine Lq.nil ?_
     refine Kt.sel [0, 1, 38] [_, _, _] rfl ?_
     refine Wk.condT rfl ?_
     refine Wk.seq ?_
     refine Wk.regionQ ?_
     refine Lq.run 2 rfl ?_
     refine Lq.op rfl rfl rfl (OpQ.add rfl rfl rfl (by omega) (by omega)) ?_
     refine Lq.op (v := i6_ ((vI (f.getD (n + 1) 0) : Int))) rfl rfl rfl (OpQ.call rfl Tryd.call169 rfl Own.stable (fun w1 hw1 => l2Var_at f (((n : Int)) + (1 : Int)) (n + 1) w1 (by omega) hl1 hv1)) ?_
     refine Lq.op (v := .int .u64 ((vI (f.getD (n + 1) 0) : Int))) rfl rfl rfl (OpQ.convInt .u64 rfl Tryd.underlying3 Tryd.underlying144 rfl (IntWalk.u64_in _ (by omega))) ?_
     refine Lq.op (v := i6_ (((1 * 2 ^ (vI (f.getD (n + 1) 0)) : Nat) : Int))) rfl rfl rfl (OpQ.shl (a := 1) (b := vI (f.getD (n + 1) 0)) rfl rfl rfl (by omega) (by omega)) ?_
     refine Lq.run 2 rfl ?_
     refine Lq.op rfl rfl rfl (OpQ.add rfl rfl rfl (by omega) (by omega)) ?_
     refine Lq.op (v := i6_ ((vI (f.getD (n + 2) 0) : Int))) rfl rfl rfl (OpQ.call rfl Tryd.call169 rfl Own.stable (fun w1 hw1 => l2Var_at f (((n : Int)) + (2 : Int)) (n + 2) w1 (by omega) hl2 hv2)) ?_
     refine Lq.op (v := .int .u64 ((vI (f.getD (n + 2) 0) : Int))) rfl rfl rfl (OpQ.convInt .u64 rfl Tryd.underlying3 Tryd.underlying144 rfl (IntWalk.u64_in _ (by omega))) ?_
     refine Lq.op (v := i6_ (((1 * 2 ^ (vI (f.getD (n + 2) 0)) : Nat) : Int))) rfl rfl rfl (OpQ.shl (a := 1) (b := vI (f.getD (n + 2) 0)) rfl rfl rfl (by omega) (by omega)) ?_
     refine Lq.op (v := i6_ ((((1 * 2 ^ (vI (f.getD (n + 1) 0))) ||| (1 * 2 ^ (vI (f.getD (n + 2) 0))) : Nat) : Int))) rfl rfl rfl (OpQ.or (a := 1 * 2 ^ (vI (f.getD (n + 1) 0))) (b := 1 * 2 ^ (vI (f.getD (n + 2) 0))) rfl rfl rfl (by omega) (by omega)) ?_
     refine Lq.run 1 rfl ?_
     refine Lq.op rfl rfl rfl (OpQ.add rfl rfl rfl (by omega) (by omega)) ?_
     refine Lq.run 2 rfl ?_
     refine Lq.nil ?_
     refine Kt.sel [4, 5] [_, _] rfl ?_
     refine Wk.ret (Kt.end2 rfl rfl rfl fun w' hw => ?_)
     exact ⟨by rw [fre2 (f.getD n 0)] <;> rfl, hw.below⟩
 ·
  replace hg17 := of_decide_eq_true hg17
  refine Lq.pass rfl rfl rfl ?_
  refine Lq.pass rfl rfl rfl ?_
  refine Lq.pass rfl rfl rfl ?_
  refine Lq.pass rfl rfl rfl ?_
  refine Lq.run 2 rfl ?_
  refine Lq.nil ?_
  refine Kt.sel [0, 1, 12] [_, _, _] rfl ?_
  refine Wk.condT rfl ?_
  refine Wk.seq ?_
  refine Wk.regionQ ?_
  refine Lq.run 1 rfl ?_
  refine Lq.op rfl rfl rfl (OpQ.add rfl rfl rfl (by omega) (by omega)) ?_
  refine Lq.run 2 rfl ?_
  refine Lq.nil ?_
  refine Kt.sel [4, 5] [_, _] rfl ?_
  refine Wk.ret (Kt.end2 rfl rfl rfl fun w' hw => ?_)
  obtain ⟨rfl, rfl⟩ := hP.i0 (by omega)
  exact ⟨rfl, hw.below⟩
theorem l2Free_ok (f : List UInt8) (i : Int) (n : Nat) (p : Fm) (e : Nat) (w : World) (hf : f.length ≤ 1048576) (hi : i = (n : Int)) (hP : Pa f n p e) : Calls Tryd.prog 137 #[str f, .int .i64 i] w fun en w' => en = .returned (.tuple #[.int .i64 (frB p : Int), .int .i64 (e : Int)]) ∧ Below w.heap.size w w' := by
  have key : ∀ (m n : Nat) (p : Fm) (e : Nat) (w : World), f.length - n ≤ m → Pa f n p e → Calls Tryd.prog 137 #[str f, .int .i64 ((n : Int))] w fun en w' => en = .returned (.tuple #[.int .i64 (frB p : Int), .int .i64 (e : Int)]) ∧ Below w.heap.size w w' := fun m => by
    induction m with
    | zero => exact fun n p e w hm hP => absurd hP.lt (by omega)
    | succ m ihm => exact fun n p e w hm hP => l2Free_step f n p e w hf hP fun i k p e w h1 h2 h3 => by subst h1; exact ihm k p e w (by have := h3.lt; omega) h3
  subst hi; exact key _ n p e w (Nat.le_refl _) hP
set_option maxHeartbeats 1600000 in
/-- spec.l2Holds -/
theorem l2Holds_step (a : St) (f : List UInt8) (n : Nat) (p : Fm) (e : Nat) (en4 : List Int) (w : World) (hf : f.length ≤ 1048576) (ha : a.Fine) (_hsa : a.Small) (hP : Pa f n p e) (hE : EnvA a en4) (ih : ∀ (i : Int) (k : Nat) (p : Fm) (e : Nat) (en4 : List Int) (w : World), i = (k : Int) → n < k → Pa f k p e → EnvA a en4 → Calls Tryd.prog 171 #[vS a, str f, .int .i64 i, .agg (ints en4).toArray] w fun en w' => en = .returned (.tuple #[.bool (ev a p en4), .int .i64 (e : Int)]) ∧ Below w.heap.size w w') :
    Calls Tryd.prog 171 [vS a, str f, i6_ ((n : Int)), .agg ((ints en4).toArray)].toArray w fun en w' => en = .returned (.tuple #[.bool (ev a p en4), .int .i64 (e : Int)]) ∧ Below w.heap.size w w' := by
 refine fnStart (n := 182) (e := [(0, vS a), (1, str f), (2, i6_ ((n : Int))), (3, .agg ((ints en4).toArray))]) Tryd.func171 rfl rfl rfl rfl Ends.both ?_
 have hn := hP.lt
 have hne := hP.2
 have hE4 := hE.1
 have hcn : ((f.getD (n : Int).toNat 0).toNat : Int) = ((f.getD n 0).toNat : Int) := rfl
 refine Wk.seq ?_
 refine Wk.region ?_
 refine Ll.box (v := vS a) rfl rfl rfl rfl rfl fun p4 hp4 => ?_
 show Ll _ _ (Own _ _ [_]) _ _ ((4, pt_ p4) :: _) _ _ _
 refine Ll.box (v := .agg ((ints en4).toArray)) rfl rfl rfl rfl rfl fun p7 hp7 => ?_
 show Ll _ _ (Own _ _ [_, _]) _ _ ((7, pt_ p7) :: _) _ _ _
 refine Ll.run 2 rfl ?_
 refine Ll.nil ?_
 refine Kt.sel [1, 2, 4, 7] [_, _, _, _] rfl ?_
 refine Wk.seq ?_
 refine Wk.seq ?_
 refine Wk.regionQ ?_
 refine Lq.run 2 rfl ?_
 refine Lq.op (v := .int .u8 (((f.getD (((n : Int)).toNat) 0).toNat : Int))) rfl rfl rfl (OpQ.indexStr rfl Tryd.runUnderlying9 rfl rfl (by omega) (by omega)) ?_
 refine Lq.nil ?_
 refine Kt.sel [1, 2, 4, 7, 21] [_, _, _, _, _] rfl ?_
 refine Wk.block ?_
 refine Wk.seq ?_
 refine Wk.seq ?_
 refine Wk.regionQ ?_
 refine Lq.run 2 rfl ?_
 refine Lq.nil ?_
 refine Kt.sel [1, 2, 4, 7, 21, 22] [_, _, _, _, _, _] rfl ?_
 refine Wk.cond (b := decide ((((f.getD (((n : Int)).toNat) 0).toNat : Int)) = (116 : Int))) rfl (fun h22 => ?_) (fun h22 => ?_)
 ·
  replace h22 := of_decide_eq_true h22
  refine Wk.skip ?_
  refine Kt.sel [1, 2, 4, 7, 21, 22] [_, _, _, _, _, _] rfl ?_
  refine Wk.condT (congrArg (fun b => some (Value.bool b)) (decide_eq_true h22)) ?_
  refine Wk.seq ?_
  refine Wk.regionQ ?_
  refine Lq.run 2 rfl ?_
  refine Lq.op (v := .int .u8 (((f.getD (((n : Int)).toNat) 0).toNat : Int))) rfl rfl rfl (OpQ.indexStr rfl Tryd.runUnderlying9 rfl rfl (by omega) (by omega)) ?_
  refine Lq.run 2 rfl ?_
  refine Lq.op rfl rfl rfl (OpQ.add rfl rfl rfl (by omega) (by omega)) ?_
  refine Lq.run 2 rfl ?_
  refine Lq.nil ?_
  refine Kt.sel [8, 9] [_, _] rfl ?_
  refine Wk.ret (Kt.end2 rfl rfl rfl fun w' hw => ?_)
  obtain ⟨rfl, rfl⟩ := hP.i0 (by omega)
  exact ⟨congrArg (fun b => Ending.returned (.tuple #[.bool b, _])) (ev_tf (by omega)), hw.below⟩
 ·
  replace h22 := of_decide_eq_false h22
  refine Wk.regionQ ?_
  refine Lq.run 2 rfl ?_
  refine Lq.nil ?_
  refine Kt.sel [1, 2, 4, 7, 21, 22] [_, _, _, _, _, _] rfl ?_
  refine Wk.cond (b := decide ((((f.getD (((n : Int)).toNat) 0).toNat : Int)) = (102 : Int))) rfl (fun h22_1 => ?_) (fun h22_1 => ?_)
  ·
   replace h22_1 := of_decide_eq_true h22_1
   refine Wk.seq ?_
   refine Wk.regionQ ?_
   refine Lq.run 2 rfl ?_
   refine Lq.op (v := .int .u8 (((f.getD (((n : Int)).toNat) 0).toNat : Int))) rfl rfl rfl (OpQ.indexStr rfl Tryd.runUnderlying9 rfl rfl (by omega) (by omega)) ?_
   refine Lq.run 2 rfl ?_
   refine Lq.op rfl rfl rfl (OpQ.add rfl rfl rfl (by omega) (by omega)) ?_
   refine Lq.run 2 rfl ?_
   refine Lq.nil ?_
   refine Kt.sel [8, 9] [_, _] rfl ?_
   refine Wk.ret (Kt.end2 rfl rfl rfl fun w' hw => ?_)
   obtain ⟨rfl, rfl⟩ := hP.i0 (by omega)
   exact ⟨congrArg (fun b => Ending.returned (.tuple #[.bool b, _])) (ev_tf (by omega)), hw.below⟩
  ·
   replace h22_1 := of_decide_eq_false h22_1
   refine Wk.seq ?_
   refine Wk.regionQ ?_
   refine Lq.run 2 rfl ?_
   refine Lq.nil ?_
   refine Kt.sel [1, 2, 4, 7, 21, 31] [_, _, _, _, _, _] rfl ?_
   refine Wk.cond (b := decide ((((f.getD (((n : Int)).toNat) 0).toNat : Int)) = (80 : Int))) rfl (fun h31 => ?_) (fun h31 => ?_)
   ·
    replace h31 := of_decide_eq_true h31
    obtain ⟨hl1, hv1, rfl, rfl⟩ := hP.i1 (by omega)
    have hw1 := (vI_lt hv1).1
    have hx1 := hE.at hw1
    refine Wk.seq ?_
    refine Wk.regionD Base.mixed (fun _ h => h.drawn) (by kernel_rfl) ?_
    refine Lq.op rfl rfl rfl (OpQ.loadBox (cs := #[i6_ a.n, str a.set, str a.rel]) 1 rfl Tryd.isAgg28 rfl rfl Tryd.sizeOf28) ?_
    refine Lq.run 2 rfl ?_
    refine Lq.op rfl rfl rfl (OpQ.add rfl rfl rfl (by omega) (by omega)) ?_
    refine Lq.op (v := i6_ ((vI (f.getD (n + 1) 0) : Int))) rfl rfl rfl (OpQ.call rfl Tryd.call169 rfl Own.stable (fun w1 hw1 => l2Var_at f (((n : Int)) + (1 : Int)) (n + 1) w1 (by omega) hl1 hv1)) ?_
    refine Lq.op (v := pf_ p7 ((vI (f.getD (n + 1) 0)))) rfl rfl rfl (OpQ.cast (v' := pf_ p7 ((vI (f.getD (n + 1) 0)))) (by first | rfl | (congr 3; omega)) (OpQ.indexArr (i := (vI (f.getD (n + 1) 0) : Int)) rfl Tryd.runUnderlying140 Tryd.sizeOf3 rfl rfl (by omega) (by omega))) ?_
    refine Lq.op (v := i6_ (en4.getD ((vI (f.getD (n + 1) 0))) 0)) rfl rfl rfl (OpQ.loadAt 0 rfl Tryd.isAgg3 rfl rfl (Go.Wk.ints_at (by first | (simp; done) | (simp; omega) | omega))) ?_
    refine Lq.op (v := bo_ (a.inSet (en4.getD ((vI (f.getD (n + 1) 0))) 0))) rfl rfl rfl (OpQ.call rfl Tryd.call90 rfl Own.stable (fun w1 hw1 => l1Set_ok a (en4.getD ((vI (f.getD (n + 1) 0))) 0) w1 ha (by first | assumption | exact St.Els.at (by assumption) (by omega) (by omega)))) ?_
    refine Lq.run 1 rfl ?_
    refine Lq.op rfl rfl rfl (OpQ.add rfl rfl rfl (by omega) (by omega)) ?_
    refine Lq.run 2 rfl ?_
    refine Lq.nil ?_
    refine Kt.sel [8, 9] [_, _] rfl ?_
    refine Wk.ret (Kt.end2 rfl rfl rfl fun w' hw => ?_)
    exact ⟨rfl, hw.below⟩
   ·
    replace h31 := of_decide_eq_false h31
    refine Wk.seq ?_
    refine Wk.regionQ ?_
    refine Lq.run 2 rfl ?_
    refine Lq.nil ?_
    refine Kt.sel [1, 2, 4, 7, 21, 43] [_, _, _, _, _, _] rfl ?_
    refine Wk.cond (b := decide ((((f.getD (((n : Int)).toNat) 0).toNat : Int)) = (61 : Int))) rfl (fun h43 => ?_) (fun h43 => ?_)
    ·
     replace h43 := of_decide_eq_true h43
     obtain ⟨hl2, hv1, hv2, rfl, rfl⟩ := hP.i2 (by omega)
     have hl1 : n + 1 < f.length := by omega
     have hw1 := (vI_lt hv1).1
     have hw2 := (vI_lt hv2).1
     have hx1 := hE.at hw1
     have hx2 := hE.at hw2
     refine Wk.seq ?_
     refine Wk.regionD Base.mixed (fun _ h => h.drawn) (by kernel_rfl) ?_
     refine Lq.run 2 rfl ?_
     refine Lq.op rfl rfl rfl (OpQ.add rfl rfl rfl (by omega) (by omega)) ?_
     refine Lq.op (v := i6_ ((vI (f.getD (n + 1) 0) : Int))) rfl rfl rfl (OpQ.call rfl Tryd.call169 rfl Own.stable (fun w1 hw1 => l2Var_at f (((n : Int)) + (1 : Int)) (n + 1) w1 (by omega) hl1 hv1)) ?_
     refine Lq.op (v := pf_ p7 ((vI (f.getD (n + 1) 0)))) rfl rfl rfl (OpQ.cast (v' := pf_ p7 ((vI (f.getD (n + 1) 0)))) (by first | rfl | (congr 3; omega)) (OpQ.indexArr (i := (vI (f.getD (n + 1) 0) : Int)) rfl Tryd.runUnderlying140 Tryd.sizeOf3 rfl rfl (by omega) (by omega))) ?_
     refine Lq.op (v := i6_ (en4.getD ((vI (f.getD (n + 1) 0))) 0)) rfl rfl rfl (OpQ.loadAt 0 rfl Tryd.isAgg3 rfl rfl (Go.Wk.ints_at (by first | (simp; done) | (simp; omega) | omega))) ?_
     refine Lq.run 2 rfl ?_
     refine Lq.op rfl rfl rfl (OpQ.add rfl rfl rfl (by omega) (by omega)) ?_
     refine Lq.op (v := i6_ ((vI (f.getD (n + 2) 0) : Int))) rfl rfl rfl (OpQ.call rfl Tryd.call169 rfl Own.stable (fun w1 hw1 => l2Var_at f (((n : Int)) + (2 : Int)) (n + 2) w1 (by omega) hl2 hv2)) ?_
     refine Lq.op (v := pf_ p7 ((vI (f.getD (n + 2) 0)))) rfl rfl rfl (OpQ.cast (v' := pf_ p7 ((vI (f.getD (n + 2) 0)))) (by first | rfl | (congr 3; omega)) (OpQ.indexArr (i := (vI (f.getD (n + 2) 0) : Int)) rfl Tryd.runUnderlying140 Tryd.sizeOf3 rfl rfl (by omega) (by omega))) ?_
     refine Lq.op (v := i6_ (en4.getD ((vI (f.getD (n + 2) 0))) 0)) rfl rfl rfl (OpQ.loadAt 0 rfl Tryd.isAgg3 rfl rfl (Go.Wk.ints_at (by first | (simp; done) | (simp; omega) | omega))) ?_
     refine Lq.run 2 rfl ?_
     refine Lq.op rfl rfl rfl (OpQ.add rfl rfl rfl (by omega) (by omega)) ?_
     refine Lq.run 2 rfl ?_
     refine Lq.nil ?_
     refine Kt.sel [8, 9] [_, _] rfl ?_
     refine Wk.ret (Kt.end2 rfl rfl rfl fun w' hw => ?_)
     exact ⟨congrArg (fun b => Ending.returned (.tuple #[.bool b, _])) (ev_eq (by assumption)), hw.below⟩
    ·
     replace h43 := of_decide_eq_false h43
     refine Wk.seq ?_
     refine Wk.regionQ ?_
     refine Lq.run 2 rfl ?_
     refine Lq.nil ?_
     refine Kt.sel [1, 2, 4, 7, 21, 60] [_, _, _, _, _, _] rfl ?_
     refine Wk.cond (b := decide ((((f.getD (((n : Int)).toNat) 0).toNat : Int)) = (69 : Int))) rfl (fun h60 => ?_) (fun h60 => ?_)
     ·
      replace h60 := of_decide_eq_true h60
      obtain ⟨hl2, hv1, hv2, rfl, rfl⟩ := hP.i2 (by omega)
      have hl1 : n + 1 < f.length := by omega
      have hw1 := (vI_lt hv1).1
      have hw2 := (vI_lt hv2).1
      have hx1 := hE.at hw1
      have hx2 := hE.at hw2
      refine Wk.seq ?_
      refine Wk.regionD Base.mixed (fun _ h => h.drawn) (by kernel_rfl) ?_
      refine Lq.op rfl rfl rfl (OpQ.loadBox (cs := #[i6_ a.n, str a.set, str a.rel]) 1 rfl Tryd.isAgg28 rfl rfl Tryd.sizeOf28) ?_
      refine Lq.run 2 rfl ?_
      refine Lq.op rfl rfl rfl (OpQ.add rfl rfl rfl (by omega) (by omega)) ?_
      refine Lq.op (v := i6_ ((vI (f.getD (n + 1) 0) : Int))) rfl rfl rfl (OpQ.call rfl Tryd.call169 rfl Own.stable (fun w1 hw1 => l2Var_at f (((n : Int)) + (1 : Int)) (n + 1) w1 (by omega) hl1 hv1)) ?_
      refine Lq.op (v := pf_ p7 ((vI (f.getD (n + 1) 0)))) rfl rfl rfl (OpQ.cast (v' := pf_ p7 ((vI (f.getD (n + 1) 0)))) (by first | rfl | (congr 3; omega)) (OpQ.indexArr (i := (vI (f.getD (n + 1) 0) : Int)) rfl Tryd.runUnderlying140 Tryd.sizeOf3 rfl rfl (by omega) (by omega))) ?_
      refine Lq.op (v := i6_ (en4.getD ((vI (f.getD (n + 1) 0))) 0)) rfl rfl rfl (OpQ.loadAt 0 rfl Tryd.isAgg3 rfl rfl (Go.Wk.ints_at (by first | (simp; done) | (simp; omega) | omega))) ?_
      refine Lq.run 2 rfl ?_
      refine Lq.op rfl rfl rfl (OpQ.add rfl rfl rfl (by omega) (by omega)) ?_
      refine Lq.op (v := i6_ ((vI (f.getD (n + 2) 0) : Int))) rfl rfl rfl (OpQ.call rfl Tryd.call169 rfl Own.stable (fun w1 hw1 => l2Var_at f (((n : Int)) + (2 : Int)) (n + 2) w1 (by omega) hl2 hv2)) ?_
      refine Lq.op (v := pf_ p7 ((vI (f.getD (n + 2) 0)))) rfl rfl rfl (OpQ.cast (v' := pf_ p7 ((vI (f.getD (n + 2) 0)))) (by first | rfl | (congr 3; omega)) (OpQ.indexArr (i := (vI (f.getD (n + 2) 0) : Int)) rfl Tryd.runUnderlying140 Tryd.sizeOf3 rfl rfl (by omega) (by omega))) ?_
      refine Lq.op (v := i6_ (en4.getD ((vI (f.getD (n + 2) 0))) 0)) rfl rfl rfl (OpQ.loadAt 0 rfl Tryd.isAgg3 rfl rfl (Go.Wk.ints_at (by first | (simp; done) | (simp; omega) | omega))) ?_
      refine Lq.op (v := bo_ (a.inRel (en4.getD ((vI (f.getD (n + 1) 0))) 0) (en4.getD ((vI (f.getD (n + 2) 0))) 0))) rfl rfl rfl (OpQ.call rfl Tryd.call91 rfl Own.stable (fun w1 hw1 => l1Rel_ok a (en4.getD ((vI (f.getD (n + 1) 0))) 0) (en4.getD ((vI (f.getD (n + 2) 0))) 0) w1 ha (by first | assumption | exact St.Els.at (by assumption) (by omega) (by omega)) (by first | assumption | exact St.Els.at (by assumption) (by omega) (by omega)))) ?_
      refine Lq.run 1 rfl ?_
      refine Lq.op rfl rfl rfl (OpQ.add rfl rfl rfl (by omega) (by omega)) ?_
      refine Lq.run 2 rfl ?_
      refine Lq.nil ?_
      refine Kt.sel [8, 9] [_, _] rfl ?_
      refine Wk.ret (Kt.end2 rfl rfl rfl fun w' hw => ?_)
      exact ⟨congrArg (fun b => Ending.returned (.tuple #[.bool b, _])) (ev_rel (by assumption)), hw.below⟩
     ·
      replace h60 := of_decide_eq_false h60
      refine Wk.seq ?_
      refine Wk.regionQ ?_
      refine Lq.run 2 rfl ?_
      refine Lq.nil ?_
      refine Kt.sel [1, 2, 4, 7, 21, 78] [_, _, _, _, _, _] rfl ?_
      refine Wk.cond (b := decide ((((f.getD (((n : Int)).toNat) 0).toNat : Int)) = (33 : Int))) rfl (fun h78 => ?_) (fun h78 => ?_)
      ·
       replace h78 := of_decide_eq_true h78
       obtain ⟨q, hq, rfl⟩ := hP.i3 (by omega)
       refine Wk.seq ?_
       refine Wk.regionQ ?_
       refine Lq.op rfl rfl rfl (OpQ.loadBox (cs := #[i6_ a.n, str a.set, str a.rel]) 1 rfl Tryd.isAgg28 rfl rfl Tryd.sizeOf28) ?_
       refine Lq.run 2 rfl ?_
       refine Lq.op rfl rfl rfl (OpQ.add rfl rfl rfl (by omega) (by omega)) ?_
       refine Lq.op rfl rfl rfl (OpQ.loadBox (cs := (ints en4).toArray) 0 rfl Tryd.isAgg140 rfl rfl (by intro w; rw [show (ints en4).toArray.size = 4 from by simp [hE.1]]; exact Tryd.sizeOf140 w)) ?_
       refine Lq.op (v := .tuple #[bo_ (ev a q en4), i6_ ((e : Int))]) rfl rfl rfl (OpQ.call rfl Tryd.call171 rfl Own.stable (fun w1 hw1 => ih (((n : Int)) + (1 : Int)) (n + 1) q e en4 w1 (by omega) (by omega) hq hE)) ?_
       refine Lq.run 1 rfl ?_
       refine Lq.op (v := bo_ (ev a q en4)) rfl rfl rfl (OpQ.extract rfl rfl rfl) ?_
       refine Lq.op (v := i6_ ((e : Int))) rfl rfl rfl (OpQ.extract rfl rfl rfl) ?_
       refine Lq.run 2 rfl ?_
       refine Lq.nil ?_
       refine Kt.sel [10, 11] [_, _] rfl ?_
       refine Wk.seq ?_
       refine Wk.regionQ ?_
       refine Lq.run 5 rfl ?_
       refine Lq.nil ?_
       refine Kt.sel [8, 9] [_, _] rfl ?_
       refine Wk.ret (Kt.end2 rfl rfl rfl fun w' hw => ?_)
       exact ⟨rfl, hw.below⟩
      ·
       replace h78 := of_decide_eq_false h78
       refine Wk.seq ?_
       refine Wk.seq ?_
       refine Wk.regionQ ?_
       refine Lq.run 2 rfl ?_
       refine Lq.nil ?_
       refine Kt.sel [1, 2, 4, 7, 21, 92] [_, _, _, _, _, _] rfl ?_
       refine Wk.cond (b := decide ((((f.getD (((n : Int)).toNat) 0).toNat : Int)) = (38 : Int))) rfl (fun h92 => ?_) (fun h92 => ?_)
       ·
        replace h92 := of_decide_eq_true h92
        obtain ⟨q, m, q2, hq, hq2, rfl⟩ := hP.i4 (by omega)
        have hqm := hq.2
        have hqm2 := hq2.2
        refine Wk.skip ?_
        refine Kt.sel [1, 2, 4, 7, 92] [_, _, _, _, _] rfl ?_
        refine Wk.condT (congrArg (fun b => some (Value.bool b)) (decide_eq_true h92)) ?_
        refine Wk.seq ?_
        refine Wk.regionQ ?_
        refine Lq.op rfl rfl rfl (OpQ.loadBox (cs := #[i6_ a.n, str a.set, str a.rel]) 1 rfl Tryd.isAgg28 rfl rfl Tryd.sizeOf28) ?_
        refine Lq.run 2 rfl ?_
        refine Lq.op rfl rfl rfl (OpQ.add rfl rfl rfl (by omega) (by omega)) ?_
        refine Lq.op rfl rfl rfl (OpQ.loadBox (cs := (ints en4).toArray) 0 rfl Tryd.isAgg140 rfl rfl (by intro w; rw [show (ints en4).toArray.size = 4 from by simp [hE.1]]; exact Tryd.sizeOf140 w)) ?_
        refine Lq.op (v := .tuple #[bo_ (ev a q en4), i6_ ((m : Int))]) rfl rfl rfl (OpQ.call rfl Tryd.call171 rfl Own.stable (fun w1 hw1 => ih (((n : Int)) + (1 : Int)) (n + 1) q m en4 w1 (by omega) (by omega) hq hE)) ?_
        refine Lq.run 1 rfl ?_
        refine Lq.op (v := bo_ (ev a q en4)) rfl rfl rfl (OpQ.extract rfl rfl rfl) ?_
        refine Lq.op (v := i6_ ((m : Int))) rfl rfl rfl (OpQ.extract rfl rfl rfl) ?_
        refine Lq.run 2 rfl ?_
        refine Lq.nil ?_
        refine Kt.sel [1, 2, 4, 7, 12, 13] [_, _, _, _, _, _] rfl ?_
        refine Wk.seq ?_
        refine Wk.seq ?_
        refine Wk.regionQ ?_
        refine Lq.run 3 rfl ?_
        refine Lq.op (v := .int .u8 (((f.getD (((n : Int)).toNat) 0).toNat : Int))) rfl rfl rfl (OpQ.indexStr rfl Tryd.runUnderlying9 rfl rfl (by omega) (by omega)) ?_
        refine Lq.run 1 rfl ?_
        refine Lq.op rfl rfl rfl (OpQ.beq rfl Tryd.runUnderlying4 rfl rfl) ?_
        refine Lq.nil ?_
        refine Kt.sel [1, 4, 7, 12, 13, 109] [_, _, _, _, _, _] rfl ?_
        refine Wk.cond (b := (ev a q en4) == (decide ((((f.getD (((n : Int)).toNat) 0).toNat : Int)) = (124 : Int)))) rfl (fun h109 => ?_) (fun h109 => ?_)
        ·
         have hb109 := h109
         refine Wk.seq ?_
         refine Wk.regionQ ?_
         refine Lq.run 3 rfl ?_
         refine Lq.op (v := i6_ ((e : Int))) rfl rfl rfl (OpQ.cast (by rw [hq2.endI]) (OpQ.call rfl Tryd.call168 rfl Own.stable (fun w1 hw1 => l2End_ok f ((m : Int)) w1 hf))) ?_
         refine Lq.run 2 rfl ?_
         refine Lq.nil ?_
         refine Kt.sel [8, 9] [_, _] rfl ?_
         refine Wk.ret (Kt.end2 rfl rfl rfl fun w' hw => ?_)
         exact ⟨congrArg (fun b => Ending.returned (.tuple #[.bool b, _])) (two_short (by omega) hb109), hw.below⟩
        ·
         have hb109 := h109
         refine Wk.skip ?_
         refine Kt.sel [1, 4, 7, 13] [_, _, _, _] rfl ?_
         refine Wk.seq ?_
         refine Wk.regionQ ?_
         refine Lq.op rfl rfl rfl (OpQ.loadBox (cs := #[i6_ a.n, str a.set, str a.rel]) 1 rfl Tryd.isAgg28 rfl rfl Tryd.sizeOf28) ?_
         refine Lq.run 2 rfl ?_
         refine Lq.op rfl rfl rfl (OpQ.loadBox (cs := (ints en4).toArray) 0 rfl Tryd.isAgg140 rfl rfl (by intro w; rw [show (ints en4).toArray.size = 4 from by simp [hE.1]]; exact Tryd.sizeOf140 w)) ?_
         refine Lq.op (v := .tuple #[bo_ (ev a q2 en4), i6_ ((e : Int))]) rfl rfl rfl (OpQ.call rfl Tryd.call171 rfl Own.stable (fun w1 hw1 => ih ((m : Int)) m q2 e en4 w1 (by omega) (by omega) hq2 hE)) ?_
         refine Lq.op (v := bo_ (ev a q2 en4)) rfl rfl rfl (OpQ.extract rfl rfl rfl) ?_
         refine Lq.op (v := i6_ ((e : Int))) rfl rfl rfl (OpQ.extract rfl rfl rfl) ?_
         refine Lq.run 2 rfl ?_
         refine Lq.nil ?_
         refine Kt.sel [8, 9] [_, _] rfl ?_
         refine Wk.ret (Kt.end2 rfl rfl rfl fun w' hw => ?_)
         exact ⟨congrArg (fun b => Ending.returned (.tuple #[.bool b, _])) (two_long (by omega) hb109), hw.below⟩
       ·
        replace h92 := of_decide_eq_false h92
        refine Wk.regionQ ?_
        refine Lq.run 2 rfl ?_
        refine Lq.nil ?_
        refine Kt.sel [1, 2, 4, 7, 92] [_, _, _, _, _] rfl ?_
        refine Wk.cond (b := decide ((((f.getD (((n : Int)).toNat) 0).toNat : Int)) = (124 : Int))) rfl (fun h92_1 => ?_) (fun h92_1 => ?_)
        ·
         replace h92_1 := of_decide_eq_true h92_1
         obtain ⟨q, m, q2, hq, hq2, rfl⟩ := hP.i4 (by omega)
         have hqm := hq.2
         have hqm2 := hq2.2
         refine Wk.seq ?_
         refine Wk.regionQ ?_
         refine Lq.op rfl rfl rfl (OpQ.loadBox (cs := #[i6_ a.n, str a.set, str a.rel]) 1 rfl Tryd.isAgg28 rfl rfl Tryd.sizeOf28) ?_
         refine Lq.run 2 rfl ?_
         refine Lq.op rfl rfl rfl (OpQ.add rfl rfl rfl (by omega) (by omega)) ?_
         refine Lq.op rfl rfl rfl (OpQ.loadBox (cs := (ints en4).toArray) 0 rfl Tryd.isAgg140 rfl rfl (by intro w; rw [show (ints en4).toArray.size = 4 from by simp [hE.1]]; exact Tryd.sizeOf140 w)) ?_
         refine Lq.op (v := .tuple #[bo_ (ev a q en4), i6_ ((m : Int))]) rfl rfl rfl (OpQ.call rfl Tryd.call171 rfl Own.stable (fun w1 hw1 => ih (((n : Int)) + (1 : Int)) (n + 1) q m en4 w1 (by omega) (by omega) hq hE)) ?_
         refine Lq.run 1 rfl ?_
         refine Lq.op (v := bo_ (ev a q en4)) rfl rfl rfl (OpQ.extract rfl rfl rfl) ?_
         refine Lq.op (v := i6_ ((m : Int))) rfl rfl rfl (OpQ.extract rfl rfl rfl) ?_
         refine Lq.run 2 rfl ?_
         refine Lq.nil ?_
         refine Kt.sel [1, 2, 4, 7, 12, 13] [_, _, _, _, _, _] rfl ?_
         refine Wk.seq ?_
         refine Wk.seq ?_
         refine Wk.regionQ ?_
         refine Lq.run 3 rfl ?_
         refine Lq.op (v := .int .u8 (((f.getD (((n : Int)).toNat) 0).toNat : Int))) rfl rfl rfl (OpQ.indexStr rfl Tryd.runUnderlying9 rfl rfl (by omega) (by omega)) ?_
         refine Lq.run 1 rfl ?_
         refine Lq.op rfl rfl rfl (OpQ.beq rfl Tryd.runUnderlying4 rfl rfl) ?_
         refine Lq.nil ?_
         refine Kt.sel [1, 4, 7, 12, 13, 109] [_, _, _, _, _, _] rfl ?_
         refine Wk.cond (b := (ev a q en4) == (decide ((((f.getD (((n : Int)).toNat) 0).toNat : Int)) = (124 : Int)))) rfl (fun h109_1 => ?_) (fun h109_1 => ?_)
         ·
          have hb109 := h109_1
          refine Wk.seq ?_
          refine Wk.regionQ ?_
          refine Lq.run 3 rfl ?_
          refine Lq.op (v := i6_ ((e : Int))) rfl rfl rfl (OpQ.cast (by rw [hq2.endI]) (OpQ.call rfl Tryd.call168 rfl Own.stable (fun w1 hw1 => l2End_ok f ((m : Int)) w1 hf))) ?_
          refine Lq.run 2 rfl ?_
          refine Lq.nil ?_
          refine Kt.sel [8, 9] [_, _] rfl ?_
          refine Wk.ret (Kt.end2 rfl rfl rfl fun w' hw => ?_)
          exact ⟨congrArg (fun b => Ending.returned (.tuple #[.bool b, _])) (two_short (by omega) hb109), hw.below⟩
         ·
          have hb109 := h109_1
          refine Wk.skip ?_
          refine Kt.sel [1, 4, 7, 13] [_, _, _, _] rfl ?_
          refine Wk.seq ?_
          refine Wk.regionQ ?_
          refine Lq.op rfl rfl rfl (OpQ.loadBox (cs := #[i6_ a.n, str a.set, str a.rel]) 1 rfl Tryd.isAgg28 rfl rfl Tryd.sizeOf28) ?_
          refine Lq.run 2 rfl ?_
          refine Lq.op rfl rfl rfl (OpQ.loadBox (cs := (ints en4).toArray) 0 rfl Tryd.isAgg140 rfl rfl (by intro w; rw [show (ints en4).toArray.size = 4 from by simp [hE.1]]; exact Tryd.sizeOf140 w)) ?_
          refine Lq.op (v := .tuple #[bo_ (ev a q2 en4), i6_ ((e : Int))]) rfl rfl rfl (OpQ.call rfl Tryd.call171 rfl Own.stable (fun w1 hw1 => ih ((m : Int)) m q2 e en4 w1 (by omega) (by omega) hq2 hE)) ?_
          refine Lq.op (v := bo_ (ev a q2 en4)) rfl rfl rfl (OpQ.extract rfl rfl rfl) ?_
          refine Lq.op (v := i6_ ((e : Int))) rfl rfl rfl (OpQ.extract rfl rfl rfl) ?_
          refine Lq.run 2 rfl ?_
          refine Lq.nil ?_
          refine Kt.sel [8, 9] [_, _] rfl ?_
          refine Wk.ret (Kt.end2 rfl rfl rfl fun w' hw => ?_)
          exact ⟨congrArg (fun b => Ending.returned (.tuple #[.bool b, _])) (two_long (by omega) hb109), hw.below⟩
        ·
         replace h92_1 := of_decide_eq_false h92_1
         have hqu : quI ((f.getD (n : Int).toNat 0).toNat : Int) := by have := hP.io; unfold quI; omega
         obtain ⟨hl1, hv1, q, hq, rfl⟩ := hP.i5 hqu
         have hw1 := (vI_lt hv1).1
         have hqm := hq.2
         have hm8 := ha.hi
         have hm1 := ha.lo
         refine Wk.skip ?_
         refine Kt.sel [1, 2, 4, 7] [_, _, _, _] rfl ?_
         refine Wk.seq ?_
         refine Wk.regionQ ?_
         refine Lq.run 1 rfl ?_
         refine Lq.nil ?_
         refine Kt.sel [1, 2, 4, 7, 14] [_, _, _, _, _] rfl ?_
         refine Wk.seq ?_
         refine Wk.seq ?_
         refine Wk.regionQ ?_
         refine Lq.run 2 rfl ?_
         refine Lq.op (v := .int .u8 (((f.getD (((n : Int)).toNat) 0).toNat : Int))) rfl rfl rfl (OpQ.indexStr rfl Tryd.runUnderlying9 rfl rfl (by omega) (by omega)) ?_
         refine Lq.nil ?_
         refine Kt.sel [1, 2, 4, 7, 14, 123] [_, _, _, _, _, _] rfl ?_
         refine Wk.join (σ := Unit) (fun _ => True) (fun _ => [(1, str f), (2, i6_ ((n : Int))), (4, pt_ p4), (7, pt_ p7), (14, i6_ ((need (f.getD n 0) a.n.toNat : Int)))]) (fun _ => Own w.heap.size w [bk_ p7 ((ints en4).toArray) 140, bk_ p4 #[i6_ a.n, str a.set, str a.rel] 28]) ?_ ?_
         ·
          refine Wk.block ?_
          refine Wk.seq ?_
          refine Wk.regionQ ?_
          refine Lq.run 2 rfl ?_
          refine Lq.nil ?_
          refine Kt.sel [1, 2, 4, 7, 14, 123, 124] [_, _, _, _, _, _, _] rfl ?_
          refine Wk.cond (b := decide ((((f.getD (((n : Int)).toNat) 0).toNat : Int)) = (65 : Int))) rfl (fun h124 => ?_) (fun h124 => ?_)
          ·
           replace h124 := of_decide_eq_true h124
           refine Wk.regionQ ?_
           refine Lq.op rfl rfl rfl (OpQ.fieldAddr rfl Tryd.runUnderlying28 rfl Tryd.sizeOf3 rfl rfl) ?_
           refine Lq.op rfl rfl rfl (OpQ.loadOwn 1 rfl Tryd.isAgg3 rfl rfl rfl) ?_
           refine Lq.run 1 rfl ?_
           refine Lq.nil ?_
           refine Kt.joined (()) trivial (Sub.cons rfl (Sub.cons rfl (Sub.cons rfl (Sub.cons rfl (Sub.cons (by rw [show ((need (f.getD n 0) a.n.toNat : Nat) : Int) = _ from need65 (by assumption) (by omega)]; rfl) Sub.nil))))) (fun _ h => h)
          ·
           replace h124 := of_decide_eq_false h124
           refine Wk.seq ?_
           refine Wk.seq ?_
           refine Wk.regionQ ?_
           refine Lq.run 2 rfl ?_
           refine Lq.nil ?_
           refine Kt.sel [1, 2, 4, 7, 14, 123, 128] [_, _, _, _, _, _, _] rfl ?_
           refine Wk.cond (b := decide ((((f.getD (((n : Int)).toNat) 0).toNat : Int)) = (50 : Int))) rfl (fun h128 => ?_) (fun h128 => ?_)
           ·
            replace h128 := of_decide_eq_true h128
            refine Wk.skip ?_
            refine Kt.sel [1, 2, 4, 7, 14, 128] [_, _, _, _, _, _] rfl ?_
            refine Wk.condT (congrArg (fun b => some (Value.bool b)) (decide_eq_true h128)) ?_
            refine Wk.regionQ ?_
            refine Lq.run 2 rfl ?_
            refine Lq.op (v := .int .u8 (((f.getD (((n : Int)).toNat) 0).toNat : Int))) rfl rfl rfl (OpQ.indexStr rfl Tryd.runUnderlying9 rfl rfl (by omega) (by omega)) ?_
            refine Lq.op (v := i6_ (((f.getD (((n : Int)).toNat) 0).toNat : Int))) rfl rfl rfl (OpQ.convInt .i64 rfl Tryd.underlying5 Tryd.underlying3 rfl (IntWalk.i64_in _ (by have := UInt8.toNat_lt (f.getD (((n : Int)).toNat) 0); omega))) ?_
            refine Lq.op rfl rfl rfl (OpQ.sub rfl rfl rfl (by omega) (by omega)) ?_
            refine Lq.run 1 rfl ?_
            refine Lq.nil ?_
            refine Kt.joined (()) trivial (Sub.cons rfl (Sub.cons rfl (Sub.cons rfl (Sub.cons rfl (Sub.cons (by rw [show ((need (f.getD n 0) a.n.toNat : Nat) : Int) = _ from need234 (by omega)]; rfl) Sub.nil))))) (fun _ h => h)
           ·
            replace h128 := of_decide_eq_false h128
            refine Wk.seq ?_
            refine Wk.regionQ ?_
            refine Lq.run 2 rfl ?_
            refine Lq.nil ?_
            refine Kt.sel [1, 2, 4, 7, 14, 123, 128] [_, _, _, _, _, _, _] rfl ?_
            refine Wk.cond (b := decide ((((f.getD (((n : Int)).toNat) 0).toNat : Int)) = (51 : Int))) rfl (fun h128_1 => ?_) (fun h128_1 => ?_)
            ·
             replace h128_1 := of_decide_eq_true h128_1
             refine Wk.skip ?_
             refine Kt.sel [1, 2, 4, 7, 14, 128] [_, _, _, _, _, _] rfl ?_
             refine Wk.condT (congrArg (fun b => some (Value.bool b)) (decide_eq_true h128_1)) ?_
             refine Wk.regionQ ?_
             refine Lq.run 2 rfl ?_
             refine Lq.op (v := .int .u8 (((f.getD (((n : Int)).toNat) 0).toNat : Int))) rfl rfl rfl (OpQ.indexStr rfl Tryd.runUnderlying9 rfl rfl (by omega) (by omega)) ?_
             refine Lq.op (v := i6_ (((f.getD (((n : Int)).toNat) 0).toNat : Int))) rfl rfl rfl (OpQ.convInt .i64 rfl Tryd.underlying5 Tryd.underlying3 rfl (IntWalk.i64_in _ (by have := UInt8.toNat_lt (f.getD (((n : Int)).toNat) 0); omega))) ?_
             refine Lq.op rfl rfl rfl (OpQ.sub rfl rfl rfl (by omega) (by omega)) ?_
             refine Lq.run 1 rfl ?_
             refine Lq.nil ?_
             refine Kt.joined (()) trivial (Sub.cons rfl (Sub.cons rfl (Sub.cons rfl (Sub.cons rfl (Sub.cons (by rw [show ((need (f.getD n 0) a.n.toNat : Nat) : Int) = _ from need234 (by omega)]; rfl) Sub.nil))))) (fun _ h => h)
            ·
             replace h128_1 := of_decide_eq_false h128_1
             refine Wk.regionQ ?_
             refine Lq.run 2 rfl ?_
             refine Lq.nil ?_
             refine Kt.sel [1, 2, 4, 7, 14, 128] [_, _, _, _, _, _] rfl ?_
             refine Wk.cond (b := decide ((((f.getD (((n : Int)).toNat) 0).toNat : Int)) = (52 : Int))) rfl (fun h128_2 => ?_) (fun h128_2 => ?_)
             ·
              replace h128_2 := of_decide_eq_true h128_2
              refine Wk.regionQ ?_
              refine Lq.run 2 rfl ?_
              refine Lq.op (v := .int .u8 (((f.getD (((n : Int)).toNat) 0).toNat : Int))) rfl rfl rfl (OpQ.indexStr rfl Tryd.runUnderlying9 rfl rfl (by omega) (by omega)) ?_
              refine Lq.op (v := i6_ (((f.getD (((n : Int)).toNat) 0).toNat : Int))) rfl rfl rfl (OpQ.convInt .i64 rfl Tryd.underlying5 Tryd.underlying3 rfl (IntWalk.i64_in _ (by have := UInt8.toNat_lt (f.getD (((n : Int)).toNat) 0); omega))) ?_
              refine Lq.op rfl rfl rfl (OpQ.sub rfl rfl rfl (by omega) (by omega)) ?_
              refine Lq.run 1 rfl ?_
              refine Lq.nil ?_
              refine Kt.joined (()) trivial (Sub.cons rfl (Sub.cons rfl (Sub.cons rfl (Sub.cons rfl (Sub.cons (by rw [show ((need (f.getD n 0) a.n.toNat : Nat) : Int) = _ from need234 (by omega)]; rfl) Sub.nil))))) (fun _ h => h)
             ·
              replace h128_2 := of_decide_eq_false h128_2
              refine Wk.skip ?_
              refine Kt.joined (()) trivial (Sub.cons rfl (Sub.cons rfl (Sub.cons rfl (Sub.cons rfl (Sub.cons (by rw [show ((need (f.getD n 0) a.n.toNat : Nat) : Int) = _ from need83 (by have := hqu; unfold quI at this; omega)]; rfl) Sub.nil))))) (fun _ h => h)
         rintro _ hj
         refine Kt.sel [1, 2, 4, 7, 14] [_, _, _, _, _] rfl ?_
         refine Wk.seq ?_
         refine Wk.regionQ ?_
         refine Lq.run 1 rfl ?_
         refine Lq.nil ?_
         refine Kt.sel [1, 2, 4, 7, 14, 15] [_, _, _, _, _, _] rfl ?_
         refine Wk.seq ?_
         refine Wk.seq ?_
         refine Wk.regionQ ?_
         refine Lq.run 1 rfl ?_
         refine Lq.nil ?_
         refine Kt.sel [1, 2, 4, 7, 14, 15, 16] [_, _, _, _, _, _, _] rfl ?_
         refine Wk.block ?_
         refine Wk.loop (σ := Nat × List Int) (fun ⟨x, E⟩ => (x : Int) ≤ a.n ∧ E.length = 4 ∧ ∀ z : Int, E.set (vI (f.getD (n + 1) 0)) z = en4.set (vI (f.getD (n + 1) 0)) z) (fun ⟨x, E⟩ => [(1, str f), (2, i6_ ((n : Int))), (4, pt_ p4), (7, pt_ p7), (14, i6_ ((need (f.getD n 0) a.n.toNat : Int))), (15, i6_ ((cntT (evC a (f.getD (n + 1) 0) q en4) x : Int))), (16, i6_ ((x : Int)))]) (fun ⟨x, E⟩ => Own w.heap.size w [bk_ p7 ((ints E).toArray) 140, bk_ p4 #[i6_ a.n, str a.set, str a.rel] 28]) (fun ⟨x, E⟩ => (a.n - x).toNat) ((0, en4)) ⟨by omega, hE.1, fun _ => rfl⟩ (Sub.cons rfl (Sub.cons rfl (Sub.cons rfl (Sub.cons rfl (Sub.cons rfl (Sub.cons (by rfl) (Sub.sel [16] rfl))))))) (fun _ h => h) ?_
         rintro ⟨x, E⟩ ⟨hx, hEl, hEs⟩
         dsimp only
         have hcx := cntT_le (evC a (f.getD (n + 1) 0) q en4) x
         refine Wk.seq ?_
         refine Wk.seq ?_
         refine Wk.regionQ ?_
         refine Lq.run 1 rfl ?_
         refine Lq.op rfl rfl rfl (OpQ.fieldAddr rfl Tryd.runUnderlying28 rfl Tryd.sizeOf3 rfl rfl) ?_
         refine Lq.op rfl rfl rfl (OpQ.loadOwn 1 rfl Tryd.isAgg3 rfl rfl rfl) ?_
         refine Lq.run 2 rfl ?_
         refine Lq.bool fun b141 hg141 => ?_
         cases b141
         ·
          replace hg141 := of_decide_eq_false hg141
          refine Lq.pass rfl rfl rfl ?_
          refine Lq.pass rfl rfl rfl ?_
          refine Lq.pass rfl rfl rfl ?_
          refine Lq.run 1 rfl ?_
          refine Lq.nil ?_
          refine Kt.sel [1, 2, 4, 7, 14, 15, 16, 145] [_, _, _, _, _, _, _, _] rfl ?_
          refine Wk.condF rfl ?_
          refine Wk.exit rfl ?_
          refine Kt.sel [1, 2, 14, 15] [_, _, _, _] rfl ?_
          refine Wk.seq ?_
          refine Wk.regionQ ?_
          refine Lq.run 5 rfl ?_
          refine Lq.op rfl rfl rfl (OpQ.add rfl rfl rfl (by omega) (by omega)) ?_
          refine Lq.op (v := i6_ ((e : Int))) rfl rfl rfl (OpQ.cast (by rw [show (n : Int) + 2 = ((n + 2 : Nat) : Int) from rfl, hq.endI]) (OpQ.call rfl Tryd.call168 rfl Own.stable (fun w1 hw1 => l2End_ok f (((n : Int)) + (2 : Int)) w1 hf))) ?_
          refine Lq.run 2 rfl ?_
          refine Lq.nil ?_
          refine Kt.sel [8, 9] [_, _] rfl ?_
          refine Wk.ret (Kt.end2 rfl rfl rfl fun w' hw => ?_)
          exact ⟨by exact congrArg (fun b => Ending.returned (.tuple #[.bool b, _])) (ev_quant (c := f.getD n 0) hqu (quant_end (x := x) (by omega) (by omega))), hw.below⟩
         ·
          replace hg141 := of_decide_eq_true hg141
          refine Lq.run 4 rfl ?_
          refine Lq.nil ?_
          refine Kt.sel [1, 2, 4, 7, 14, 15, 16, 145] [_, _, _, _, _, _, _, _] rfl ?_
          refine Wk.cond (b := decide (((cntT (evC a (f.getD (n + 1) 0) q en4) x : Int)) < ((need (f.getD n 0) a.n.toNat : Int)))) rfl (fun h145 => ?_) (fun h145 => ?_)
          ·
           replace h145 := of_decide_eq_true h145
           refine Wk.skip ?_
           refine Kt.sel [1, 2, 4, 7, 14, 15, 16] [_, _, _, _, _, _, _] rfl ?_
           refine Wk.seq ?_
           refine Wk.block ?_
           refine Wk.seq ?_
           refine Wk.region ?_
           refine Ll.run 2 rfl ?_
           refine Ll.op rfl rfl rfl (OpQ.add rfl rfl rfl (by omega) (by omega)) ?_
           refine Ll.op (v := i6_ ((vI (f.getD (n + 1) 0) : Int))) rfl rfl rfl (OpQ.call rfl Tryd.call169 rfl Own.stable (fun w1 hw1 => l2Var_at f (((n : Int)) + (1 : Int)) (n + 1) w1 (by omega) hl1 hv1)) ?_
           refine Ll.run 1 rfl ?_
           refine Ll.op (v := pf_ p7 ((vI (f.getD (n + 1) 0)))) rfl rfl rfl (OpQ.cast (v' := pf_ p7 ((vI (f.getD (n + 1) 0)))) (by first | rfl | (congr 3; omega)) (OpQ.indexArr (i := (vI (f.getD (n + 1) 0) : Int)) rfl Tryd.runUnderlying140 Tryd.sizeOf3 rfl rfl (by omega) (by omega))) ?_
           refine Ll.store1 (v := i6_ ((x : Int))) (hs' := [bk_ p7 ((ints (E.set ((vI (f.getD (n + 1) 0))) ((x : Int)))).toArray) 140, _]) 0 rfl rfl rfl rfl rfl rfl Tryd.sizeOf3 rfl (by rw [List.size_toArray, ints_length]; omega) (by first | (rw [ints_set]; rfl) | (simp only [Nat.zero_add]; rw [ints_set]; rfl)) ?_
           refine Ll.nil ?_
           refine Kt.sel [1, 2, 4, 7, 14, 15, 16] [_, _, _, _, _, _, _] rfl ?_
           refine Wk.seq ?_
           refine Wk.regionQ ?_
           refine Lq.op rfl rfl rfl (OpQ.loadBox (cs := #[i6_ a.n, str a.set, str a.rel]) 1 rfl Tryd.isAgg28 rfl rfl Tryd.sizeOf28) ?_
           refine Lq.run 2 rfl ?_
           refine Lq.op rfl rfl rfl (OpQ.add rfl rfl rfl (by omega) (by omega)) ?_
           refine Lq.op rfl rfl rfl (OpQ.loadBox (cs := (ints (E.set ((vI (f.getD (n + 1) 0))) ((x : Int)))).toArray) 0 rfl Tryd.isAgg140 rfl rfl (by intro w; rw [show (ints (E.set ((vI (f.getD (n + 1) 0))) ((x : Int)))).toArray.size = 4 from by simp [hEl]]; exact Tryd.sizeOf140 w)) ?_
           refine Lq.op (v := .tuple #[bo_ (ev a q ((E.set ((vI (f.getD (n + 1) 0))) ((x : Int))))), i6_ ((e : Int))]) rfl rfl rfl (OpQ.call rfl Tryd.call171 rfl Own.stable (fun w1 hw1 => ih (((n : Int)) + (2 : Int)) (n + 2) q e ((E.set ((vI (f.getD (n + 1) 0))) ((x : Int)))) w1 (by omega) (by omega) hq (by rw [hEs]; exact hE.set ⟨by omega, by omega⟩))) ?_
           refine Lq.run 1 rfl ?_
           refine Lq.op (v := bo_ (ev a q ((E.set ((vI (f.getD (n + 1) 0))) ((x : Int)))))) rfl rfl rfl (OpQ.extract rfl rfl rfl) ?_
           refine Lq.op (v := i6_ ((e : Int))) rfl rfl rfl (OpQ.extract rfl rfl rfl) ?_
           refine Lq.run 2 rfl ?_
           refine Lq.nil ?_
           refine Kt.sel [1, 2, 4, 7, 14, 15, 16, 17] [_, _, _, _, _, _, _, _] rfl ?_
           refine Wk.seq ?_
           refine Wk.seq ?_
           refine Wk.regionQ ?_
           refine Lq.run 1 rfl ?_
           refine Lq.nil ?_
           refine Kt.sel [1, 2, 4, 7, 14, 15, 16, 163] [_, _, _, _, _, _, _, _] rfl ?_
           refine Wk.cond (b := ev a q ((E.set ((vI (f.getD (n + 1) 0))) ((x : Int))))) rfl (fun h163 => ?_) (fun h163 => ?_)
           ·
            have hF : evC a (f.getD (n + 1) 0) q en4 x = true := evC_of hEs h163
            have hcs := cnt_yes hF
            refine Wk.regionQ ?_
            refine Lq.run 1 rfl ?_
            refine Lq.op rfl rfl rfl (OpQ.add rfl rfl rfl (by omega) (by omega)) ?_
            refine Lq.run 1 rfl ?_
            refine Lq.nil ?_
            refine Kt.sel [1, 2, 4, 7, 14, 15, 16] [_, _, _, _, _, _, _] rfl ?_
            refine Wk.seq ?_
            refine Wk.regionQ ?_
            refine Lq.run 1 rfl ?_
            refine Lq.op rfl rfl rfl (OpQ.fieldAddr rfl Tryd.runUnderlying28 rfl Tryd.sizeOf3 rfl rfl) ?_
            refine Lq.op rfl rfl rfl (OpQ.loadOwn 1 rfl Tryd.isAgg3 rfl rfl rfl) ?_
            refine Lq.op rfl rfl rfl (OpQ.add rfl rfl rfl (by omega) (by omega)) ?_
            refine Lq.run 1 rfl ?_
            refine Lq.op rfl rfl rfl (OpQ.sub rfl rfl rfl (by omega) (by omega)) ?_
            refine Lq.op rfl rfl rfl (OpQ.sub rfl rfl rfl (by omega) (by omega)) ?_
            refine Lq.run 2 rfl ?_
            refine Lq.nil ?_
            refine Kt.sel [1, 2, 4, 7, 14, 15, 16, 174] [_, _, _, _, _, _, _, _] rfl ?_
            refine Wk.cond (b := decide (((((((cntT (evC a (f.getD (n + 1) 0) q en4) x : Int)) + (1 : Int)) + a.n) - ((x : Int))) - (1 : Int)) < ((need (f.getD n 0) a.n.toNat : Int)))) rfl (fun h174 => ?_) (fun h174 => ?_)
            ·
             replace h174 := of_decide_eq_true h174
             refine Wk.exit rfl ?_
             refine Kt.sel [1, 2, 14, 15] [_, _, _, _] rfl ?_
             refine Wk.seq ?_
             refine Wk.regionQ ?_
             refine Lq.run 5 rfl ?_
             refine Lq.op rfl rfl rfl (OpQ.add rfl rfl rfl (by omega) (by omega)) ?_
             refine Lq.op (v := i6_ ((e : Int))) rfl rfl rfl (OpQ.cast (by rw [show (n : Int) + 2 = ((n + 2 : Nat) : Int) from rfl, hq.endI]) (OpQ.call rfl Tryd.call168 rfl Own.stable (fun w1 hw1 => l2End_ok f (((n : Int)) + (2 : Int)) w1 hf))) ?_
             refine Lq.run 2 rfl ?_
             refine Lq.nil ?_
             refine Kt.sel [8, 9] [_, _] rfl ?_
             refine Wk.ret (Kt.end2 rfl rfl rfl fun w' hw => ?_)
             exact ⟨by rw [hcs]; exact congrArg (fun b => Ending.returned (.tuple #[.bool b, _])) (ev_quant (c := f.getD n 0) hqu (quant_end (x := (x + 1)) (by omega) (by omega))), hw.below⟩
            ·
             replace h174 := of_decide_eq_false h174
             refine Wk.skip ?_
             refine Kt.sel [1, 2, 4, 7, 14, 15, 16] [_, _, _, _, _, _, _] rfl ?_
             refine Wk.regionQ ?_
             refine Lq.run 1 rfl ?_
             refine Lq.op rfl rfl rfl (OpQ.add rfl rfl rfl (by omega) (by omega)) ?_
             refine Lq.run 1 rfl ?_
             refine Lq.nil ?_
             refine Kt.again ((x + 1, E.set ((vI (f.getD (n + 1) 0))) ((x : Int)))) ⟨by omega, by simp [hEl], fun z => by dsimp only; rw [List.set_set]; exact hEs z⟩ (by omega) (Sub.cons rfl (Sub.cons rfl (Sub.cons rfl (Sub.cons rfl (Sub.cons rfl (Sub.cons (by rw [← hcs]; rfl) (Sub.sel [16] rfl))))))) (fun _ h => h)
           ·
            have hF : evC a (f.getD (n + 1) 0) q en4 x = false := evC_of hEs (by simpa using h163)
            have hcs := cnt_no hF
            refine Wk.skip ?_
            refine Kt.sel [1, 2, 4, 7, 14, 15, 16] [_, _, _, _, _, _, _] rfl ?_
            refine Wk.seq ?_
            refine Wk.regionQ ?_
            refine Lq.run 1 rfl ?_
            refine Lq.op rfl rfl rfl (OpQ.fieldAddr rfl Tryd.runUnderlying28 rfl Tryd.sizeOf3 rfl rfl) ?_
            refine Lq.op rfl rfl rfl (OpQ.loadOwn 1 rfl Tryd.isAgg3 rfl rfl rfl) ?_
            refine Lq.op rfl rfl rfl (OpQ.add rfl rfl rfl (by omega) (by omega)) ?_
            refine Lq.run 1 rfl ?_
            refine Lq.op rfl rfl rfl (OpQ.sub rfl rfl rfl (by omega) (by omega)) ?_
            refine Lq.op rfl rfl rfl (OpQ.sub rfl rfl rfl (by omega) (by omega)) ?_
            refine Lq.run 2 rfl ?_
            refine Lq.nil ?_
            refine Kt.sel [1, 2, 4, 7, 14, 15, 16, 174] [_, _, _, _, _, _, _, _] rfl ?_
            refine Wk.cond (b := decide ((((((cntT (evC a (f.getD (n + 1) 0) q en4) x : Int)) + a.n) - ((x : Int))) - (1 : Int)) < ((need (f.getD n 0) a.n.toNat : Int)))) rfl (fun h174_1 => ?_) (fun h174_1 => ?_)
            ·
             replace h174_1 := of_decide_eq_true h174_1
             refine Wk.exit rfl ?_
             refine Kt.sel [1, 2, 14, 15] [_, _, _, _] rfl ?_
             refine Wk.seq ?_
             refine Wk.regionQ ?_
             refine Lq.run 5 rfl ?_
             refine Lq.op rfl rfl rfl (OpQ.add rfl rfl rfl (by omega) (by omega)) ?_
             refine Lq.op (v := i6_ ((e : Int))) rfl rfl rfl (OpQ.cast (by rw [show (n : Int) + 2 = ((n + 2 : Nat) : Int) from rfl, hq.endI]) (OpQ.call rfl Tryd.call168 rfl Own.stable (fun w1 hw1 => l2End_ok f (((n : Int)) + (2 : Int)) w1 hf))) ?_
             refine Lq.run 2 rfl ?_
             refine Lq.nil ?_
             refine Kt.sel [8, 9] [_, _] rfl ?_
             refine Wk.ret (Kt.end2 rfl rfl rfl fun w' hw => ?_)
             exact ⟨by rw [← hcs]; exact congrArg (fun b => Ending.returned (.tuple #[.bool b, _])) (ev_quant (c := f.getD n 0) hqu (quant_end (x := (x + 1)) (by omega) (by omega))), hw.below⟩
            ·
             replace h174_1 := of_decide_eq_false h174_1
             refine Wk.skip ?_
             refine Kt.sel [1, 2, 4, 7, 14, 15, 16] [_, _, _, _, _, _, _] rfl ?_
             refine Wk.regionQ ?_
             refine Lq.run 1 rfl ?_
             refine Lq.op rfl rfl rfl (OpQ.add rfl rfl rfl (by omega) (by omega)) ?_
             refine Lq.run 1 rfl ?_
             refine Lq.nil ?_
             refine Kt.again ((x + 1, E.set ((vI (f.getD (n + 1) 0))) ((x : Int)))) ⟨by omega, by simp [hEl], fun z => by dsimp only; rw [List.set_set]; exact hEs z⟩ (by omega) (Sub.cons rfl (Sub.cons rfl (Sub.cons rfl (Sub.cons rfl (Sub.cons rfl (Sub.cons (by rw [hcs]; rfl) (Sub.sel [16] rfl))))))) (fun _ h => h)
          ·
           replace h145 := of_decide_eq_false h145
           refine Wk.exit rfl ?_
           refine Kt.sel [1, 2, 14, 15] [_, _, _, _] rfl ?_
           refine Wk.seq ?_
           refine Wk.regionQ ?_
           refine Lq.run 5 rfl ?_
           refine Lq.op rfl rfl rfl (OpQ.add rfl rfl rfl (by omega) (by omega)) ?_
           refine Lq.op (v := i6_ ((e : Int))) rfl rfl rfl (OpQ.cast (by rw [show (n : Int) + 2 = ((n + 2 : Nat) : Int) from rfl, hq.endI]) (OpQ.call rfl Tryd.call168 rfl Own.stable (fun w1 hw1 => l2End_ok f (((n : Int)) + (2 : Int)) w1 hf))) ?_
           refine Lq.run 2 rfl ?_
           refine Lq.nil ?_
           refine Kt.sel [8, 9] [_, _] rfl ?_
           refine Wk.ret (Kt.end2 rfl rfl rfl fun w' hw => ?_)
           exact ⟨by exact congrArg (fun b => Ending.returned (.tuple #[.bool b, _])) (ev_quant (c := f.getD n 0) hqu (quant_end (x := x) (by omega) (by omega))), hw.below⟩
theorem l2Holds_ok (a : St) (f : List UInt8) (i : Int) (n : Nat) (p : Fm) (e : Nat) (en4 : List Int) (w : World) (hf : f.length ≤ 1048576) (hi : i = (n : Int)) (ha : a.Fine) (hsa : a.Small) (hP : Pa f n p e) (hE : EnvA a en4) : Calls Tryd.prog 171 #[vS a, str f, .int .i64 i, .agg (ints en4).toArray] w fun en w' => en = .returned (.tuple #[.bool (ev a p en4), .int .i64 (e : Int)]) ∧ Below w.heap.size w w' := by
  have key : ∀ (m n : Nat) (p : Fm) (e : Nat) (en4 : List Int) (w : World), f.length - n ≤ m → Pa f n p e → EnvA a en4 → Calls Tryd.prog 171 #[vS a, str f, .int .i64 ((n : Int)), .agg (ints en4).toArray] w fun en w' => en = .returned (.tuple #[.bool (ev a p en4), .int .i64 (e : Int)]) ∧ Below w.heap.size w w' := fun m => by
    induction m with
    | zero => exact fun n p e en4 w hm hP hE => absurd hP.lt (by omega)
    | succ m ihm => exact fun n p e en4 w hm hP hE => l2Holds_step a f n p e en4 w hf ha hsa hP hE fun i k p e en4 w h1 h2 h3 h4 => by subst h1; exact ihm k p e en4 w (by have := h3.lt; omega) h3 h4
  subst hi; exact key _ n p e en4 w (Nat.le_refl _) hP hE
set_option maxHeartbeats 400000 in
/-- spec.FormulaValid -/
theorem sFValid_ok (f : List UInt8) (w : World) (hf : f.length ≤ 1048576) :
    Calls Tryd.prog 136 [str f].toArray w fun en w' => en = .returned (.bool (formO f).isSome) ∧ Below w.heap.size w w' := by
 refine fnStart (n := 13) (e := [(0, str f)]) Tryd.func136 rfl rfl rfl rfl Ends.both ?_
 refine Wk.seq ?_
 refine Wk.regionQ ?_
 refine Lq.run 1 rfl ?_
 refine Lq.nil ?_
 refine Kt.sel [0] [_] rfl ?_
 refine Wk.seq ?_
 refine Wk.regionQ ?_
 refine Lq.run 1 rfl ?_
 refine Lq.op (v := i6_ ((f.length : Int))) rfl rfl rfl (OpQ.lenStr rfl Tryd.runUnderlying9 rfl) ?_
 refine Lq.run 2 rfl ?_
 refine Lq.bool fun b6 hg6 => ?_
 cases b6
 ·
  replace hg6 := of_decide_eq_false hg6
  refine Lq.pass rfl rfl rfl ?_
  refine Lq.pass rfl rfl rfl ?_
  refine Lq.pass rfl rfl rfl ?_
  refine Lq.pass rfl rfl rfl ?_
  refine Lq.pass rfl rfl rfl ?_
  refine Lq.run 2 rfl ?_
  refine Lq.nil ?_
  refine Kt.sel [2] [_] rfl ?_
  refine Wk.ret (Kt.end1 rfl rfl fun w' hw => ?_)
  exact ⟨ret_b (by first | (rw [formO_some, decide_eq_true (show (f.length : Int) ≤ 4000 by omega), Bool.true_and]) | (rw [formO_some, decide_eq_false (show ¬ (f.length : Int) ≤ 4000 by omega)]; rfl)), hw.below⟩
 ·
  replace hg6 := of_decide_eq_true hg6
  refine Lq.run 1 rfl ?_
  refine Lq.op (v := i6_ (endI f 0)) rfl rfl rfl (OpQ.call rfl Tryd.call168 rfl Own.stable (fun w1 hw1 => l2End_ok f 0 w1 hf)) ?_
  refine Lq.run 1 rfl ?_
  refine Lq.op (v := i6_ ((f.length : Int))) rfl rfl rfl (OpQ.lenStr rfl Tryd.runUnderlying9 rfl) ?_
  refine Lq.run 3 rfl ?_
  refine Lq.nil ?_
  refine Kt.sel [2] [_] rfl ?_
  refine Wk.ret (Kt.end1 rfl rfl fun w' hw => ?_)
  exact ⟨ret_b (by first | (rw [formO_some, decide_eq_true (show (f.length : Int) ≤ 4000 by omega), Bool.true_and]) | (rw [formO_some, decide_eq_false (show ¬ (f.length : Int) ≤ 4000 by omega)]; rfl)), hw.below⟩
set_option maxHeartbeats 400000 in
/-- spec.l2Rank -/
theorem l2Rank_step (f : List UInt8) (n : Nat) (p : Fm) (e : Nat) (w : World) (hf : f.length ≤ 1048576) (hP : Pa f n p e) (ih : ∀ (i : Int) (k : Nat) (p : Fm) (e : Nat) (w : World), i = (k : Int) → n < k → Pa f k p e → Calls Tryd.prog 142 #[str f, .int .i64 i] w fun en w' => en = .returned (.tuple #[.int .i64 (rankF p : Int), .int .i64 (e : Int)]) ∧ Below w.heap.size w w') :
    Calls Tryd.prog 142 [str f, i6_ ((n : Int))].toArray w fun en w' => en = .returned (.tuple #[.int .i64 (rankF p : Int), .int .i64 (e : Int)]) ∧ Below w.heap.size w w' := by
 refine fnStart (n := 97) (e := [(0, str f), (1, i6_ ((n : Int)))]) Tryd.func142 rfl rfl rfl rfl Ends.both ?_
 have hn := hP.lt
 have hne := hP.2
 have hcn : ((f.getD (n : Int).toNat 0).toNat : Int) = ((f.getD n 0).toNat : Int) := rfl
 refine Wk.seq ?_
 refine Wk.regionQ ?_
 refine Lq.run 2 rfl ?_
 refine Lq.nil ?_
 refine Kt.sel [0, 1] [_, _] rfl ?_
 refine Wk.seq ?_
 refine Wk.block ?_
 refine Wk.seq ?_
 refine Wk.regionQ ?_
 refine Lq.run 2 rfl ?_
 refine Lq.op (v := .int .u8 (((f.getD (((n : Int)).toNat) 0).toNat : Int))) rfl rfl rfl (OpQ.indexStr rfl Tryd.runUnderlying9 rfl rfl (by omega) (by omega)) ?_
 refine Lq.run 2 rfl ?_
 refine Lq.nil ?_
 refine Kt.sel [0, 1, 14] [_, _, _] rfl ?_
 refine Wk.cond (b := decide ((((f.getD (((n : Int)).toNat) 0).toNat : Int)) = (33 : Int))) rfl (fun h14 => ?_) (fun h14 => ?_)
 ·
  replace h14 := of_decide_eq_true h14
  obtain ⟨q, hq, rfl⟩ := hP.i3 (by omega)
  refine Wk.seq ?_
  refine Wk.regionQ ?_
  refine Lq.run 2 rfl ?_
  refine Lq.op rfl rfl rfl (OpQ.add rfl rfl rfl (by omega) (by omega)) ?_
  refine Lq.op (v := .tuple #[i6_ ((rankF q : Int)), i6_ ((e : Int))]) rfl rfl rfl (OpQ.call rfl Tryd.call142 rfl Own.stable (fun w1 hw1 => ih (((n : Int)) + (1 : Int)) (n + 1) q e w1 (by omega) (by omega) hq)) ?_
  refine Lq.op (v := i6_ ((rankF q : Int))) rfl rfl rfl (OpQ.extract rfl rfl rfl) ?_
  refine Lq.op (v := i6_ ((e : Int))) rfl rfl rfl (OpQ.extract rfl rfl rfl) ?_
  refine Lq.run 2 rfl ?_
  refine Lq.nil ?_
  refine Kt.sel [4, 5] [_, _] rfl ?_
  refine Wk.ret (Kt.end2 rfl rfl rfl fun w' hw => ?_)
  exact ⟨rfl, hw.below⟩
 ·
  replace h14 := of_decide_eq_false h14
  refine Wk.seq ?_
  refine Wk.regionQ ?_
  refine Lq.run 2 rfl ?_
  refine Lq.op (v := .int .u8 (((f.getD (((n : Int)).toNat) 0).toNat : Int))) rfl rfl rfl (OpQ.indexStr rfl Tryd.runUnderlying9 rfl rfl (by omega) (by omega)) ?_
  refine Lq.run 2 rfl ?_
  refine Lq.bool fun b30 hg30 => ?_
  cases b30
  ·
   replace hg30 := of_decide_eq_false hg30
   refine Lq.run 2 rfl ?_
   refine Lq.op (v := .int .u8 (((f.getD (((n : Int)).toNat) 0).toNat : Int))) rfl rfl rfl (OpQ.indexStr rfl Tryd.runUnderlying9 rfl rfl (by omega) (by omega)) ?_
   refine Lq.run 3 rfl ?_
   refine Lq.nil ?_
   refine Kt.sel [0, 1, 25] [_, _, _] rfl ?_
   refine Wk.cond (b := decide ((((f.getD (((n : Int)).toNat) 0).toNat : Int)) = (124 : Int))) rfl (fun h25 => ?_) (fun h25 => ?_)
   ·
    replace h25 := of_decide_eq_true h25
    obtain ⟨q, m, q2, hq, hq2, rfl⟩ := hP.i4 (by omega)
    have hqm := hq.2
    refine Wk.seq ?_
    refine Wk.regionQ ?_
    refine Lq.run 2 rfl ?_
    refine Lq.op rfl rfl rfl (OpQ.add rfl rfl rfl (by omega) (by omega)) ?_
    refine Lq.op (v := .tuple #[i6_ ((rankF q : Int)), i6_ ((m : Int))]) rfl rfl rfl (OpQ.call rfl Tryd.call142 rfl Own.stable (fun w1 hw1 => ih (((n : Int)) + (1 : Int)) (n + 1) q m w1 (by omega) (by omega) hq)) ?_
    refine Lq.run 1 rfl ?_
    refine Lq.op (v := i6_ ((rankF q : Int))) rfl rfl rfl (OpQ.extract rfl rfl rfl) ?_
    refine Lq.op (v := i6_ ((m : Int))) rfl rfl rfl (OpQ.extract rfl rfl rfl) ?_
    refine Lq.run 2 rfl ?_
    refine Lq.nil ?_
    refine Kt.sel [0, 6, 7] [_, _, _] rfl ?_
    refine Wk.seq ?_
    refine Wk.regionQ ?_
    refine Lq.run 2 rfl ?_
    refine Lq.op (v := .tuple #[i6_ ((rankF q2 : Int)), i6_ ((e : Int))]) rfl rfl rfl (OpQ.call rfl Tryd.call142 rfl Own.stable (fun w1 hw1 => ih ((m : Int)) m q2 e w1 (by omega) (by omega) hq2)) ?_
    refine Lq.run 1 rfl ?_
    refine Lq.op (v := i6_ ((rankF q2 : Int))) rfl rfl rfl (OpQ.extract rfl rfl rfl) ?_
    refine Lq.op (v := i6_ ((e : Int))) rfl rfl rfl (OpQ.extract rfl rfl rfl) ?_
    refine Lq.run 2 rfl ?_
    refine Lq.nil ?_
    refine Kt.sel [6, 8, 9] [_, _, _] rfl ?_
    refine Wk.seq ?_
    refine Wk.regionQ ?_
    refine Lq.run 2 rfl ?_
    refine Lq.op (v := i6_ (if ((rankF q2 : Int)) > ((rankF q : Int)) then ((rankF q2 : Int)) else ((rankF q : Int)))) rfl rfl rfl (OpQ.maxU rfl rfl rfl) ?_
    refine Lq.run 3 rfl ?_
    refine Lq.nil ?_
    refine Kt.sel [4, 5] [_, _] rfl ?_
    refine Wk.ret (Kt.end2 rfl rfl rfl fun w' hw => ?_)
    exact ⟨by rw [rank_two], hw.below⟩
   ·
    replace h25 := of_decide_eq_false h25
    refine Wk.seq ?_
    refine Wk.regionQ ?_
    refine Lq.run 2 rfl ?_
    refine Lq.op (v := .int .u8 (((f.getD (((n : Int)).toNat) 0).toNat : Int))) rfl rfl rfl (OpQ.indexStr rfl Tryd.runUnderlying9 rfl rfl (by omega) (by omega)) ?_
    refine Lq.run 2 rfl ?_
    refine Lq.bool fun b58 hg58 => ?_
    cases b58
    ·
     replace hg58 := of_decide_eq_false hg58
     refine Lq.run 2 rfl ?_
     refine Lq.op (v := .int .u8 (((f.getD (((n : Int)).toNat) 0).toNat : Int))) rfl rfl rfl (OpQ.indexStr rfl Tryd.runUnderlying9 rfl rfl (by omega) (by omega)) ?_
     refine Lq.run 3 rfl ?_
     refine Lq.nil ?_
     refine Kt.sel [0, 1, 53] [_, _, _] rfl ?_
     refine Wk.cond (b := decide ((((f.getD (((n : Int)).toNat) 0).toNat : Int)) = (83 : Int))) rfl (fun h53 => ?_) (fun h53 => ?_)
     ·
      replace h53 := of_decide_eq_true h53
      obtain ⟨hl1, hv1, q, hq, rfl⟩ := hP.i5 (by first | assumption | (unfold quI; omega))
      have hrk := rank_pa hq
      have hc8 := (f.getD n 0).toNat_lt
      refine Wk.seq ?_
      refine Wk.regionQ ?_
      refine Lq.run 2 rfl ?_
      refine Lq.op rfl rfl rfl (OpQ.add rfl rfl rfl (by omega) (by omega)) ?_
      refine Lq.op (v := .tuple #[i6_ ((rankF q : Int)), i6_ ((e : Int))]) rfl rfl rfl (OpQ.call rfl Tryd.call142 rfl Own.stable (fun w1 hw1 => ih (((n : Int)) + (2 : Int)) (n + 2) q e w1 (by omega) (by omega) hq)) ?_
      refine Lq.run 1 rfl ?_
      refine Lq.op (v := i6_ ((rankF q : Int))) rfl rfl rfl (OpQ.extract rfl rfl rfl) ?_
      refine Lq.op (v := i6_ ((e : Int))) rfl rfl rfl (OpQ.extract rfl rfl rfl) ?_
      refine Lq.run 2 rfl ?_
      refine Lq.nil ?_
      refine Kt.sel [10, 11] [_, _] rfl ?_
      refine Wk.seq ?_
      refine Wk.regionQ ?_
      refine Lq.run 1 rfl ?_
      refine Lq.op rfl rfl rfl (OpQ.add rfl rfl rfl (by omega) (by omega)) ?_
      refine Lq.run 3 rfl ?_
      refine Lq.nil ?_
      refine Kt.sel [4, 5] [_, _] rfl ?_
      refine Wk.ret (Kt.end2 rfl rfl rfl fun w' hw => ?_)
      exact ⟨by rw [rank_one (c := f.getD n 0) (by omega)], hw.below⟩
     ·
      replace h53 := of_decide_eq_false h53
      refine Wk.seq ?_
      refine Wk.regionQ ?_
      refine Lq.run 2 rfl ?_
      refine Lq.op (v := .int .u8 (((f.getD (((n : Int)).toNat) 0).toNat : Int))) rfl rfl rfl (OpQ.indexStr rfl Tryd.runUnderlying9 rfl rfl (by omega) (by omega)) ?_
      refine Lq.op (v := bo_ (decide (quI (((f.getD (((n : Int)).toNat) 0).toNat : Int))))) rfl rfl rfl (OpQ.call rfl Tryd.call170 rfl Own.stable (fun w1 hw1 => l2Quant_ok (f.getD (((n : Int)).toNat) 0) w1)) ?_
      refine Lq.run 1 rfl ?_
      refine Lq.nil ?_
      refine Kt.sel [0, 1, 74] [_, _, _] rfl ?_
      refine Wk.cond (b := decide (quI (((f.getD (((n : Int)).toNat) 0).toNat : Int)))) rfl (fun h74 => ?_) (fun h74 => ?_)
      ·
       replace h74 := of_decide_eq_true h74
       obtain ⟨hl1, hv1, q, hq, rfl⟩ := hP.i5 (by first | assumption | (unfold quI; omega))
       have hrk := rank_pa hq
       have hc8 := (f.getD n 0).toNat_lt
       refine Wk.seq ?_
       refine Wk.regionQ ?_
       refine Lq.run 2 rfl ?_
       refine Lq.op rfl rfl rfl (OpQ.add rfl rfl rfl (by omega) (by omega)) ?_
       refine Lq.op (v := .tuple #[i6_ ((rankF q : Int)), i6_ ((e : Int))]) rfl rfl rfl (OpQ.call rfl Tryd.call142 rfl Own.stable (fun w1 hw1 => ih (((n : Int)) + (2 : Int)) (n + 2) q e w1 (by omega) (by omega) hq)) ?_
       refine Lq.run 1 rfl ?_
       refine Lq.op (v := i6_ ((rankF q : Int))) rfl rfl rfl (OpQ.extract rfl rfl rfl) ?_
       refine Lq.op (v := i6_ ((e : Int))) rfl rfl rfl (OpQ.extract rfl rfl rfl) ?_
       refine Lq.run 2 rfl ?_
       refine Lq.nil ?_
       refine Kt.sel [0, 1, 12, 13] [_, _, _, _] rfl ?_
       refine Wk.seq ?_
       refine Wk.regionQ ?_
       refine Lq.run 3 rfl ?_
       refine Lq.op (v := .int .u8 (((f.getD (((n : Int)).toNat) 0).toNat : Int))) rfl rfl rfl (OpQ.indexStr rfl Tryd.runUnderlying9 rfl rfl (by omega) (by omega)) ?_
       refine Lq.op (v := i6_ (((f.getD (((n : Int)).toNat) 0).toNat : Int))) rfl rfl rfl (OpQ.convInt .i64 rfl Tryd.underlying5 Tryd.underlying3 rfl (IntWalk.i64_in _ (by have := UInt8.toNat_lt (f.getD (((n : Int)).toNat) 0); omega))) ?_
       refine Lq.op rfl rfl rfl (OpQ.add rfl rfl rfl (by omega) (by omega)) ?_
       refine Lq.op rfl rfl rfl (OpQ.sub rfl rfl rfl (by omega) (by omega)) ?_
       refine Lq.run 3 rfl ?_
       refine Lq.nil ?_
       refine Kt.sel [4, 5] [_, _] rfl ?_
       refine Wk.ret (Kt.end2 rfl rfl rfl fun w' hw => ?_)
       exact ⟨by rw [rank_cnt (c := f.getD n 0) (by assumption) (by omega)]; rfl, hw.below⟩
      ·
       replace h74 := of_decide_eq_false h74
       refine Wk.skip ?_
       refine Kt.sel [0, 1] [_, _] rfl ?_
       refine Wk.seq ?_
       refine Wk.regionQ ?_
       refine Lq.run 2 rfl ?_
       refine Lq.op (v := i6_ ((e : Int))) rfl rfl rfl (OpQ.cast (by rw [hP.endI]) (OpQ.call rfl Tryd.call168 rfl Own.stable (fun w1 hw1 => l2End_ok f ((n : Int)) w1 hf))) ?_
       refine Lq.run 2 rfl ?_
       refine Lq.nil ?_
       refine Kt.sel [4, 5] [_, _] rfl ?_
       refine Wk.ret (Kt.end2 rfl rfl rfl fun w' hw => ?_)
       have h0 : rankF p = 0 := rank_leaf hP (by assumption) (by omega) (by omega)
       exact ⟨by rw [h0]; rfl, hw.below⟩
    ·
     replace hg58 := of_decide_eq_true hg58
     obtain ⟨hl1, hv1, q, hq, rfl⟩ := hP.i5 (by first | assumption | (unfold quI; omega))
     have hrk := rank_pa hq
     have hc8 := (f.getD n 0).toNat_lt
     refine Lq.pass rfl rfl rfl ?_
     refine Lq.pass rfl rfl rfl ?_
     refine Lq.pass rfl rfl rfl ?_
     refine Lq.pass rfl rfl rfl ?_
     refine Lq.run 2 rfl ?_
     refine Lq.nil ?_
     refine Kt.sel [0, 1, 53] [_, _, _] rfl ?_
     refine Wk.condT rfl ?_
     refine Wk.seq ?_
     refine Wk.regionQ ?_
     refine Lq.run 2 rfl ?_
     refine Lq.op rfl rfl rfl (OpQ.add rfl rfl rfl (by omega) (by omega)) ?_
     refine Lq.op (v := .tuple #[i6_ ((rankF q : Int)), i6_ ((e : Int))]) rfl rfl rfl (OpQ.call rfl Tryd.call142 rfl Own.stable (fun w1 hw1 => ih (((n : Int)) + (2 : Int)) (n + 2) q e w1 (by omega) (by omega) hq)) ?_
     refine Lq.run 1 rfl ?_
     refine Lq.op (v := i6_ ((rankF q : Int))) rfl rfl rfl (OpQ.extract rfl rfl rfl) ?_
     refine Lq.op (v := i6_ ((e : Int))) rfl rfl rfl (OpQ.extract rfl rfl rfl) ?_
     refine Lq.run 2 rfl ?_
     refine Lq.nil ?_
     refine Kt.sel [10, 11] [_, _] rfl ?_
     refine Wk.seq ?_
     refine Wk.regionQ ?_
     refine Lq.run 1 rfl ?_
     refine Lq.op rfl rfl rfl (OpQ.add rfl rfl rfl (by omega) (by omega)) ?_
     refine Lq.run 3 rfl ?_
     refine Lq.nil ?_
     refine Kt.sel [4, 5] [_, _] rfl ?_
     refine Wk.ret (Kt.end2 rfl rfl rfl fun w' hw => ?_)
     exact ⟨by rw [rank_one (c := f.getD n 0) (by omega)], hw.below⟩
  ·
   replace hg30 := of_decide_eq_true hg30
   obtain ⟨q, m, q2, hq, hq2, rfl⟩ := hP.i4 (by omega)
   have hqm := hq.2
   refine Lq.pass rfl rfl rfl ?_
   refine Lq.pass rfl rfl rfl ?_
   refine Lq.pass rfl rfl rfl ?_
   refine Lq.pass rfl rfl rfl ?_
   refine Lq.run 2 rfl ?_
   refine Lq.nil ?_
   refine Kt.sel [0, 1, 25] [_, _, _] rfl ?_
   refine Wk.condT rfl ?_
   refine Wk.seq ?_
   refine Wk.regionQ ?_
   refine Lq.run 2 rfl ?_
   refine Lq.op rfl rfl rfl (OpQ.add rfl rfl rfl (by omega) (by omega)) ?_
   refine Lq.op (v := .tuple #[i6_ ((rankF q : Int)), i6_ ((m : Int))]) rfl rfl rfl (OpQ.call rfl Tryd.call142 rfl Own.stable (fun w1 hw1 => ih (((n : Int)) + (1 : Int)) (n + 1) q m w1 (by omega) (by omega) hq)) ?_
   refine Lq.run 1 rfl ?_
   refine Lq.op (v := i6_ ((rankF q : Int))) rfl rfl rfl (OpQ.extract rfl rfl rfl) ?_
   refine Lq.op (v := i6_ ((m : Int))) rfl rfl rfl (OpQ.extract rfl rfl rfl) ?_
   refine Lq.run 2 rfl ?_
   refine Lq.nil ?_
   refine Kt.sel [0, 6, 7] [_, _, _] rfl ?_
   refine Wk.seq ?_
   refine Wk.regionQ ?_
   refine Lq.run 2 rfl ?_
   refine Lq.op (v := .tuple #[i6_ ((rankF q2 : Int)), i6_ ((e : Int))]) rfl rfl rfl (OpQ.call rfl Tryd.call142 rfl Own.stable (fun w1 hw1 => ih ((m : Int)) m q2 e w1 (by omega) (by omega) hq2)) ?_
   refine Lq.run 1 rfl ?_
   refine Lq.op (v := i6_ ((rankF q2 : Int))) rfl rfl rfl (OpQ.extract rfl rfl rfl) ?_
   refine Lq.op (v := i6_ ((e : Int))) rfl rfl rfl (OpQ.extract rfl rfl rfl) ?_
   refine Lq.run 2 rfl ?_
   refine Lq.nil ?_
   refine Kt.sel [6, 8, 9] [_, _, _] rfl ?_
   refine Wk.seq ?_
   refine Wk.regionQ ?_
   refine Lq.run 2 rfl ?_
   refine Lq.op (v := i6_ (if ((rankF q2 : Int)) > ((rankF q : Int)) then ((rankF q2 : Int)) else ((rankF q : Int)))) rfl rfl rfl (OpQ.maxU rfl rfl rfl) ?_
   refine Lq.run 3 rfl ?_
   refine Lq.nil ?_
   refine Kt.sel [4, 5] [_, _] rfl ?_
   refine Wk.ret (Kt.end2 rfl rfl rfl fun w' hw => ?_)
   exact ⟨by rw [rank_two], hw.below⟩
theorem l2Rank_ok (f : List UInt8) (i : Int) (n : Nat) (p : Fm) (e : Nat) (w : World) (hf : f.length ≤ 1048576) (hi : i = (n : Int)) (hP : Pa f n p e) : Calls Tryd.prog 142 #[str f, .int .i64 i] w fun en w' => en = .returned (.tuple #[.int .i64 (rankF p : Int), .int .i64 (e : Int)]) ∧ Below w.heap.size w w' := by
  have key : ∀ (m n : Nat) (p : Fm) (e : Nat) (w : World), f.length - n ≤ m → Pa f n p e → Calls Tryd.prog 142 #[str f, .int .i64 ((n : Int))] w fun en w' => en = .returned (.tuple #[.int .i64 (rankF p : Int), .int .i64 (e : Int)]) ∧ Below w.heap.size w w' := fun m => by
    induction m with
    | zero => exact fun n p e w hm hP => absurd hP.lt (by omega)
    | succ m ihm => exact fun n p e w hm hP => l2Rank_step f n p e w hf hP fun i k p e w h1 h2 h3 => by subst h1; exact ihm k p e w (by have := h3.lt; omega) h3
  subst hi; exact key _ n p e w (Nat.le_refl _) hP
set_option maxHeartbeats 400000 in
/-- spec.RankOf -/
theorem sRank_ok (f : List UInt8) (w : World) (hf : f.length ≤ 1048576) :
    Calls Tryd.prog 85 [str f].toArray w fun en w' => en = .returned (.int .i64 (rankI f)) ∧ Below w.heap.size w w' := by
 refine fnStart (n := 14) (e := [(0, str f)]) Tryd.func85 rfl rfl rfl rfl Ends.both ?_
 refine Wk.seq ?_
 refine Wk.regionQ ?_
 refine Lq.run 1 rfl ?_
 refine Lq.nil ?_
 refine Kt.sel [0] [_] rfl ?_
 refine Wk.seq ?_
 refine Wk.seq ?_
 refine Wk.regionQ ?_
 refine Lq.run 1 rfl ?_
 refine Lq.op (v := bo_ ((formO f).isSome)) rfl rfl rfl (OpQ.call rfl Tryd.call136 rfl Own.stable (fun w1 hw1 => sFValid_ok f w1 hf)) ?_
 refine Lq.run 1 rfl ?_
 refine Lq.nil ?_
 refine Kt.sel [0, 7] [_, _] rfl ?_
 refine Wk.cond (b := !((formO f).isSome)) rfl (fun h7 => ?_) (fun h7 => ?_)
 ·
  replace h7 := not_true h7
  refine Wk.seq ?_
  refine Wk.regionQ ?_
  refine Lq.run 1 rfl ?_
  refine Lq.nil ?_
  refine Kt.sel [2] [_] rfl ?_
  refine Wk.ret (Kt.end1 rfl rfl fun w' hw => ?_)
  exact ⟨ret_i (by unfold rankI; rw [show formO f = none by simp_all]), hw.below⟩
 ·
  replace h7 := not_false h7
  obtain ⟨p, hp⟩ := Option.isSome_iff_exists.1 (show (formO f).isSome = true by simp_all)
  have hP := formO_pa hp
  refine Wk.skip ?_
  refine Kt.sel [0] [_] rfl ?_
  refine Wk.seq ?_
  refine Wk.regionQ ?_
  refine Lq.run 1 rfl ?_
  refine Lq.op (v := .tuple #[i6_ ((rankF p : Int)), i6_ ((f.length : Int))]) rfl rfl rfl (OpQ.call rfl Tryd.call142 rfl Own.stable (fun w1 hw1 => l2Rank_ok f 0 0 p f.length w1 hf (by omega) hP)) ?_
  refine Lq.run 1 rfl ?_
  refine Lq.op (v := i6_ ((rankF p : Int))) rfl rfl rfl (OpQ.extract rfl rfl rfl) ?_
  refine Lq.op (v := i6_ ((f.length : Int))) rfl rfl rfl (OpQ.extract rfl rfl rfl) ?_
  refine Lq.run 2 rfl ?_
  refine Lq.nil ?_
  refine Kt.sel [3] [_] rfl ?_
  refine Wk.seq ?_
  refine Wk.regionQ ?_
  refine Lq.run 2 rfl ?_
  refine Lq.nil ?_
  refine Kt.sel [2] [_] rfl ?_
  refine Wk.ret (Kt.end1 rfl rfl fun w' hw => ?_)
  exact ⟨ret_i (by unfold rankI; rw [hp]), hw.below⟩
set_option maxHeartbeats 400000 in
/-- spec.l2True -/
theorem l2True_ok (a : St) (f : List UInt8) (p : Fm) (en4 : List Int) (w : World) (hf : f.length ≤ 1048576) (ha : a.Fine) (hsa : a.Small) (hP : Pa f 0 p f.length) (hE : EnvA a en4) :
    Calls Tryd.prog 138 [vS a, str f, .agg ((ints en4).toArray)].toArray w fun en w' => en = .returned (.bool (ev a p en4)) ∧ Below w.heap.size w w' := by
 refine fnStart (n := 17) (e := [(0, vS a), (1, str f), (2, .agg ((ints en4).toArray))]) Tryd.func138 rfl rfl rfl rfl Ends.both ?_
 refine Wk.seq ?_
 refine Wk.region ?_
 refine Ll.box (v := vS a) rfl rfl rfl rfl rfl fun p3 hp3 => ?_
 show Ll _ _ (Own _ _ [_]) _ _ ((3, pt_ p3) :: _) _ _ _
 refine Ll.box (v := .agg ((ints en4).toArray)) rfl rfl rfl rfl rfl fun p5 hp5 => ?_
 show Ll _ _ (Own _ _ [_, _]) _ _ ((5, pt_ p5) :: _) _ _ _
 refine Ll.run 1 rfl ?_
 refine Ll.nil ?_
 refine Kt.sel [1, 3, 5] [_, _, _] rfl ?_
 refine Wk.seq ?_
 refine Wk.regionQ ?_
 refine Lq.op rfl rfl rfl (OpQ.loadBox (cs := #[i6_ a.n, str a.set, str a.rel]) 1 rfl Tryd.isAgg28 rfl rfl Tryd.sizeOf28) ?_
 refine Lq.run 1 rfl ?_
 refine Lq.op rfl rfl rfl (OpQ.loadBox (cs := (ints en4).toArray) 0 rfl Tryd.isAgg140 rfl rfl (by intro w; rw [show (ints en4).toArray.size = 4 from by simp [hE.1]]; exact Tryd.sizeOf140 w)) ?_
 refine Lq.op (v := .tuple #[bo_ (ev a p en4), i6_ ((f.length : Int))]) rfl rfl rfl (OpQ.call rfl Tryd.call171 rfl Own.stable (fun w1 hw1 => l2Holds_ok a f 0 0 p f.length en4 w1 hf (by omega) ha hsa hP hE)) ?_
 refine Lq.run 1 rfl ?_
 refine Lq.op (v := bo_ (ev a p en4)) rfl rfl rfl (OpQ.extract rfl rfl rfl) ?_
 refine Lq.op (v := i6_ ((f.length : Int))) rfl rfl rfl (OpQ.extract rfl rfl rfl) ?_
 refine Lq.run 2 rfl ?_
 refine Lq.nil ?_
 refine Kt.sel [7] [_] rfl ?_
 refine Wk.seq ?_
 refine Wk.regionQ ?_
 refine Lq.run 2 rfl ?_
 refine Lq.nil ?_
 refine Kt.sel [6] [_] rfl ?_
 refine Wk.ret (Kt.end1 rfl rfl fun w' hw => ?_)
 exact ⟨rfl, hw.below⟩
set_option maxHeartbeats 400000 in
/-- spec.HoldsAt -/
theorem sHolds_ok (a : St) (f : List UInt8) (va : Value) (xs : List Int) (w : World) (hsa : a.Small) (hf : f.length ≤ 1048576) (hva : Ints w va xs) :
    Calls Tryd.prog 79 [vS a, str f, va].toArray w fun en w' => en = .returned (.tuple #[.bool (holdV a f xs), .bool (holdK a f xs)]) ∧ Below w.heap.size w w' := by
 refine fnStart (n := 62) (e := [(0, vS a), (1, str f), (2, va)]) Tryd.func79 rfl rfl rfl rfl Ends.both ?_
 refine Wk.seq ?_
 refine Wk.region ?_
 refine Ll.box (v := vS a) rfl rfl rfl rfl rfl fun p3 hp3 => ?_
 show Ll _ _ (Own _ _ [_]) _ _ ((3, pt_ p3) :: _) _ _ _
 refine Ll.run 2 rfl ?_
 refine Ll.nil ?_
 refine Kt.sel [1, 2, 3] [_, _, _] rfl ?_
 refine Wk.seq ?_
 refine Wk.region ?_
 refine Ll.op (v := .agg #[i6_ 0, i6_ 0, i6_ 0, i6_ 0]) rfl rfl rfl (OpQ.build (xs := []) (vs := []) rfl rfl (by kernel_rfl)) ?_
 refine Ll.alloc rfl rfl rfl rfl Tryd.zeroValue140 fun p8 hp8 => ?_
 show Ll _ _ (Own _ _ [bk_ p8 #[i6_ 0, i6_ 0, i6_ 0, i6_ 0] 140, _]) _ _ ((8, pt_ p8) :: _) _ _ _
 refine Ll.storeBox (cs' := #[i6_ 0, i6_ 0, i6_ 0, i6_ 0]) (hs' := [bk_ p8 #[i6_ 0, i6_ 0, i6_ 0, i6_ 0] 140, _]) 0 rfl rfl rfl rfl rfl (by kernel_rfl : _ = some Tryd.t140) rfl rfl rfl rfl rfl ?_
 refine Ll.nil ?_
 refine Kt.sel [1, 2, 3, 8] [_, _, _, _] rfl ?_
 refine Wk.seq ?_
 refine Wk.seq ?_
 refine Wk.regionQ ?_
 refine Lq.op rfl rfl rfl (OpQ.loadBox (cs := #[i6_ a.n, str a.set, str a.rel]) 1 rfl Tryd.isAgg28 rfl rfl Tryd.sizeOf28) ?_
 refine Lq.op (v := bo_ (validB a)) rfl rfl rfl (OpQ.call rfl Tryd.call55 rfl Own.stable (fun w1 hw1 => sValid_ok a w1 hsa)) ?_
 refine Lq.run 2 rfl ?_
 refine Lq.bool fun b16 hg16 => ?_
 cases b16
 ·
  replace hg16 := not_false hg16
  refine Lq.run 1 rfl ?_
  refine Lq.op (v := bo_ ((formO f).isSome)) rfl rfl rfl (OpQ.call rfl Tryd.call136 rfl Own.stable (fun w1 hw1 => sFValid_ok f w1 hf)) ?_
  refine Lq.run 3 rfl ?_
  refine Lq.bool fun b21 hg21 => ?_
  cases b21
  ·
   replace hg21 := not_false hg21
   refine Lq.run 1 rfl ?_
   refine Lq.op (v := i6_ ((xs.length : Int))) rfl rfl rfl (OpQ.lenRow rfl Tryd.runUnderlying25 rfl (ints_length _) (fun w1 hw1 => Row.own hva hw1)) ?_
   refine Lq.run 2 rfl ?_
   refine Lq.nil ?_
   refine Kt.sel [1, 2, 3, 8, 25] [_, _, _, _, _] rfl ?_
   refine Wk.cond (b := decide ((4 : Int) < ((xs.length : Int)))) rfl (fun h25 => ?_) (fun h25 => ?_)
   ·
    replace h25 := of_decide_eq_true h25
    refine Wk.seq ?_
    refine Wk.regionQ ?_
    refine Lq.run 2 rfl ?_
    refine Lq.nil ?_
    refine Kt.sel [6, 7] [_, _] rfl ?_
    refine Wk.ret (Kt.end2 rfl rfl rfl fun w' hw => ?_)
    refine ⟨?_, hw.below⟩
    have hO : holdO a f xs = none := holdO_none fun p' hp' hc => ?_
    · rw [(hold_no hO).1, (hold_no hO).2]
    obtain ⟨c1, c2, c3, c4⟩ := hc
    first | omega | exact hxn (c3 _ hxm) | (obtain rfl : p = p' := Option.some.inj (hp.symm.trans hp'); omega) | (simp_all; done)
   ·
    replace h25 := of_decide_eq_false h25
    have hv : validB a = true := by simp_all
    have ha := validB_fine hv
    have hm8 := ha.hi
    have hm1 := ha.lo
    obtain ⟨p, hp⟩ := Option.isSome_iff_exists.1 (show (formO f).isSome = true by simp_all)
    have hP := formO_pa hp
    have hl4 : xs.length ≤ 4 := by omega
    refine Wk.skip ?_
    refine Kt.sel [1, 2, 3, 8] [_, _, _, _] rfl ?_
    refine Wk.seq ?_
    refine Wk.seq ?_
    refine Wk.regionQ ?_
    refine Lq.run 1 rfl ?_
    refine Lq.nil ?_
    refine Kt.sel [1, 2, 3, 8, 9] [_, _, _, _, _] rfl ?_
    refine Wk.block ?_
    refine Wk.loop (σ := Nat) (fun k => k ≤ xs.length ∧ ∀ x ∈ xs.take k, a.El x) (fun k => [(1, str f), (2, va), (3, pt_ p3), (8, pt_ p8), (9, i6_ ((k : Int)))]) (fun k => Own w.heap.size w [bk_ p8 ((ints (envP xs k)).toArray) 140, bk_ p3 #[i6_ a.n, str a.set, str a.rel] 28]) (fun k => xs.length - k) (0) ⟨Nat.zero_le _, by simp⟩ (Sub.sel [1, 2, 3, 8, 9] rfl) (fun _ h => by rw [envP_zero]; exact h) ?_
    rintro k ⟨hk, hxk⟩
    refine Wk.seq ?_
    refine Wk.seq ?_
    refine Wk.regionQ ?_
    refine Lq.run 2 rfl ?_
    refine Lq.op (v := i6_ ((xs.length : Int))) rfl rfl rfl (OpQ.lenRow rfl Tryd.runUnderlying25 rfl (ints_length _) (fun w1 hw1 => Row.own hva hw1)) ?_
    refine Lq.run 1 rfl ?_
    refine Lq.nil ?_
    refine Kt.sel [1, 2, 3, 8, 9, 29] [_, _, _, _, _, _] rfl ?_
    refine Wk.cond (b := decide (((k : Int)) < ((xs.length : Int)))) rfl (fun h29 => ?_) (fun h29 => ?_)
    ·
     replace h29 := of_decide_eq_true h29
     refine Wk.skip ?_
     refine Kt.sel [1, 2, 3, 8, 9] [_, _, _, _, _] rfl ?_
     refine Wk.seq ?_
     refine Wk.block ?_
     refine Wk.seq ?_
     refine Wk.seq ?_
     refine Wk.regionD Base.mixed (fun _ h => h.drawn) (by kernel_rfl) ?_
     refine Lq.run 2 rfl ?_
     refine Lq.op (v := .pointer (some (sAt va ((k : Int))))) rfl rfl rfl (OpQ.atRow rfl Tryd.runUnderlying25 Tryd.sizeOf3 rfl rfl (by omega) (by rw [ints_length]; omega) (fun w1 hw1 => Row.own hva hw1)) ?_
     refine Lq.op (v := i6_ (xs.getD (((k : Int)).toNat) 0)) rfl rfl rfl (OpQ.load1 rfl Tryd.isAgg3 rfl (fun w1 hw1 => Ints.cell (Row.own hva hw1) (by omega) (by omega))) ?_
     refine Lq.op rfl rfl rfl (OpQ.fieldAddr rfl Tryd.runUnderlying28 rfl Tryd.sizeOf3 rfl rfl) ?_
     refine Lq.op rfl rfl rfl (OpQ.loadOwn 1 rfl Tryd.isAgg3 rfl rfl rfl) ?_
     refine Lq.op rfl rfl rfl (OpQ.sub rfl rfl rfl (by omega) (by omega)) ?_
     refine Lq.op (v := bo_ (inB (xs.getD (((k : Int)).toNat) 0) 0 (a.n - (1 : Int)))) rfl rfl rfl (OpQ.call rfl Tryd.call73 rfl Own.stable (fun w1 hw1 => l1In_ok (xs.getD (((k : Int)).toNat) 0) 0 (a.n - (1 : Int)) w1 )) ?_
     refine Lq.run 1 rfl ?_
     refine Lq.nil ?_
     refine Kt.sel [1, 2, 3, 8, 9, 40] [_, _, _, _, _, _] rfl ?_
     refine Wk.cond (b := !(inB (xs.getD (((k : Int)).toNat) 0) 0 (a.n - (1 : Int)))) rfl (fun h40 => ?_) (fun h40 => ?_)
     ·
      replace h40 := not_true h40
      have hxm : xs.getD k 0 ∈ xs := by rw [getD_at (by omega)]; exact List.getElem_mem _
      have hxn : ¬ a.El (xs.getD k 0) := fun e => by have h9 := in_el.2 e; simp_all
      refine Wk.seq ?_
      refine Wk.regionQ ?_
      refine Lq.run 2 rfl ?_
      refine Lq.nil ?_
      refine Kt.sel [6, 7] [_, _] rfl ?_
      refine Wk.ret (Kt.end2 rfl rfl rfl fun w' hw => ?_)
      refine ⟨?_, hw.below⟩
      have hO : holdO a f xs = none := holdO_none fun p' hp' hc => ?_
      · rw [(hold_no hO).1, (hold_no hO).2]
      obtain ⟨c1, c2, c3, c4⟩ := hc
      first | omega | exact hxn (c3 _ hxm) | (obtain rfl : p = p' := Option.some.inj (hp.symm.trans hp'); omega) | (simp_all; done)
     ·
      replace h40 := not_false h40
      have hxe : a.El (xs.getD k 0) := in_el.1 (by simpa using h40)
      refine Wk.skip ?_
      refine Kt.sel [1, 2, 3, 8, 9] [_, _, _, _, _] rfl ?_
      refine Wk.region ?_
      refine Ll.run 3 rfl ?_
      refine Ll.op (v := .pointer (some (sAt va ((k : Int))))) rfl rfl rfl (OpQ.atRow rfl Tryd.runUnderlying25 Tryd.sizeOf3 rfl rfl (by omega) (by rw [ints_length]; omega) (fun w1 hw1 => Row.own hva hw1)) ?_
      refine Ll.op (v := i6_ (xs.getD (((k : Int)).toNat) 0)) rfl rfl rfl (OpQ.load1 rfl Tryd.isAgg3 rfl (fun w1 hw1 => Ints.cell (Row.own hva hw1) (by omega) (by omega))) ?_
      refine Ll.op (v := pf_ p8 k) rfl rfl rfl (OpQ.cast (v' := pf_ p8 k) (by first | rfl | (congr 3; omega)) (OpQ.indexArr (i := (k : Int)) rfl Tryd.runUnderlying140 Tryd.sizeOf3 rfl rfl (by omega) (by omega))) ?_
      refine Ll.store1 (v := i6_ (xs.getD (((k : Int)).toNat) 0)) (hs' := [bk_ p8 ((ints ((envP xs k).set k (xs.getD (((k : Int)).toNat) 0))).toArray) 140, _]) 0 rfl rfl rfl rfl rfl rfl Tryd.sizeOf3 rfl (by rw [List.size_toArray, ints_length, envP_len (by omega) (by omega)]; omega) (by first | (rw [ints_set]; rfl) | (simp only [Nat.zero_add]; rw [ints_set]; rfl)) ?_
      refine Ll.nil ?_
      refine Kt.sel [1, 2, 3, 8, 9] [_, _, _, _, _] rfl ?_
      refine Wk.regionQ ?_
      refine Lq.run 1 rfl ?_
      refine Lq.op rfl rfl rfl (OpQ.add rfl rfl rfl (by omega) (by omega)) ?_
      refine Lq.run 1 rfl ?_
      refine Lq.nil ?_
      refine Kt.again (k + 1) ⟨by omega, els_take (by omega) hxk hxe⟩ (by omega) (Sub.sel [1, 2, 3, 8, 9] rfl) (fun _ h => by rw [← envP_set (by omega) (by omega)]; exact h)
    ·
     replace h29 := of_decide_eq_false h29
     have hkl : k = xs.length := by omega
     have hxA : ∀ x ∈ xs, a.El x := by rw [hkl, List.take_length] at hxk; exact hxk
     have hEv : EnvA a (envP xs k) := by rw [hkl, envP_all]; exact envL_ok hm1 hl4 hxA
     have hEl := hEv.1
     refine Wk.exit rfl ?_
     refine Kt.sel [1, 2, 3, 8] [_, _, _, _] rfl ?_
     refine Wk.seq ?_
     refine Wk.regionQ ?_
     refine Lq.run 1 rfl ?_
     refine Lq.op (v := .tuple #[i6_ ((frB p : Int)), i6_ ((f.length : Int))]) rfl rfl rfl (OpQ.call rfl Tryd.call137 rfl Own.stable (fun w1 hw1 => l2Free_ok f 0 0 p f.length w1 hf (by omega) hP)) ?_
     refine Lq.run 1 rfl ?_
     refine Lq.op (v := i6_ ((frB p : Int))) rfl rfl rfl (OpQ.extract rfl rfl rfl) ?_
     refine Lq.op (v := i6_ ((f.length : Int))) rfl rfl rfl (OpQ.extract rfl rfl rfl) ?_
     refine Lq.run 2 rfl ?_
     refine Lq.nil ?_
     refine Kt.sel [1, 2, 3, 8, 10] [_, _, _, _, _] rfl ?_
     refine Wk.seq ?_
     refine Wk.seq ?_
     refine Wk.regionQ ?_
     refine Lq.run 2 rfl ?_
     refine Lq.op (v := i6_ ((xs.length : Int))) rfl rfl rfl (OpQ.lenRow rfl Tryd.runUnderlying25 rfl (ints_length _) (fun w1 hw1 => Row.own hva hw1)) ?_
     refine Lq.op (v := .int .u64 ((xs.length : Int))) rfl rfl rfl (OpQ.convInt .u64 rfl Tryd.underlying3 Tryd.underlying144 rfl (IntWalk.u64_in _ (by omega))) ?_
     refine Lq.op (v := i6_ ((((frB p) / 2 ^ xs.length : Nat) : Int))) rfl rfl rfl (OpQ.shr (a := frB p) (b := xs.length) rfl rfl rfl (by omega)) ?_
     refine Lq.run 1 rfl ?_
     refine Lq.nil ?_
     refine Kt.sel [1, 3, 8, 57] [_, _, _, _] rfl ?_
     refine Wk.cond (b := !(decide (((((frB p) / 2 ^ xs.length : Nat) : Int)) = (0 : Int)))) rfl (fun h57 => ?_) (fun h57 => ?_)
     ·
      replace h57 := not_true h57
      replace h57 := of_decide_eq_false h57
      refine Wk.seq ?_
      refine Wk.regionQ ?_
      refine Lq.run 2 rfl ?_
      refine Lq.nil ?_
      refine Kt.sel [6, 7] [_, _] rfl ?_
      refine Wk.ret (Kt.end2 rfl rfl rfl fun w' hw => ?_)
      refine ⟨?_, hw.below⟩
      have hO : holdO a f xs = none := holdO_none fun p' hp' hc => ?_
      · rw [(hold_no hO).1, (hold_no hO).2]
      obtain ⟨c1, c2, c3, c4⟩ := hc
      first | omega | exact hxn (c3 _ hxm) | (obtain rfl : p = p' := Option.some.inj (hp.symm.trans hp'); omega) | (simp_all; done)
     ·
      replace h57 := not_false h57
      replace h57 := of_decide_eq_true h57
      refine Wk.skip ?_
      refine Kt.sel [1, 3, 8] [_, _, _] rfl ?_
      refine Wk.seq ?_
      refine Wk.regionQ ?_
      refine Lq.op rfl rfl rfl (OpQ.loadBox (cs := #[i6_ a.n, str a.set, str a.rel]) 1 rfl Tryd.isAgg28 rfl rfl Tryd.sizeOf28) ?_
      refine Lq.run 1 rfl ?_
      refine Lq.op rfl rfl rfl (OpQ.loadBox (cs := (ints (envP xs k)).toArray) 0 rfl Tryd.isAgg140 rfl rfl (by intro w; rw [show (ints (envP xs k)).toArray.size = 4 from by simp [hEl]]; exact Tryd.sizeOf140 w)) ?_
      refine Lq.op (v := bo_ (ev a p ((envP xs k)))) rfl rfl rfl (OpQ.call rfl Tryd.call138 rfl Own.stable (fun w1 hw1 => l2True_ok a f p ((envP xs k)) w1 hf ha hsa hP hEv)) ?_
      refine Lq.run 2 rfl ?_
      refine Lq.nil ?_
      refine Kt.sel [6, 7] [_, _] rfl ?_
      refine Wk.ret (Kt.end2 rfl rfl rfl fun w' hw => ?_)
      have hO := holdO_some hp ⟨hv, hl4, hxA, by omega⟩
      exact ⟨by rw [(hold_yes hO).1, (hold_yes hO).2, ← envP_all, ← hkl], hw.below⟩
  ·
   replace hg21 := not_true hg21
   refine Lq.pass rfl rfl rfl ?_
   refine Lq.pass rfl rfl rfl ?_
   refine Lq.pass rfl rfl rfl ?_
   refine Lq.run 1 rfl ?_
   refine Lq.nil ?_
   refine Kt.sel [1, 2, 3, 8, 25] [_, _, _, _, _] rfl ?_
   refine Wk.condT rfl ?_
   refine Wk.seq ?_
   refine Wk.regionQ ?_
   refine Lq.run 2 rfl ?_
   refine Lq.nil ?_
   refine Kt.sel [6, 7] [_, _] rfl ?_
   refine Wk.ret (Kt.end2 rfl rfl rfl fun w' hw => ?_)
   refine ⟨?_, hw.below⟩
   have hO : holdO a f xs = none := holdO_none fun p' hp' hc => ?_
   · rw [(hold_no hO).1, (hold_no hO).2]
   obtain ⟨c1, c2, c3, c4⟩ := hc
   first | omega | exact hxn (c3 _ hxm) | (obtain rfl : p = p' := Option.some.inj (hp.symm.trans hp'); omega) | (simp_all; done)
 ·
  replace hg16 := not_true hg16
  refine Lq.pass rfl rfl rfl ?_
  refine Lq.pass rfl rfl rfl ?_
  refine Lq.pass rfl rfl rfl ?_
  refine Lq.run 2 rfl ?_
  refine Lq.pass rfl rfl rfl ?_
  refine Lq.pass rfl rfl rfl ?_
  refine Lq.pass rfl rfl rfl ?_
  refine Lq.run 1 rfl ?_
  refine Lq.nil ?_
  refine Kt.sel [1, 2, 3, 8, 25] [_, _, _, _, _] rfl ?_
  refine Wk.condT rfl ?_
  refine Wk.seq ?_
  refine Wk.regionQ ?_
  refine Lq.run 2 rfl ?_
  refine Lq.nil ?_
  refine Kt.sel [6, 7] [_, _] rfl ?_
  refine Wk.ret (Kt.end2 rfl rfl rfl fun w' hw => ?_)
  refine ⟨?_, hw.below⟩
  have hO : holdO a f xs = none := holdO_none fun p' hp' hc => ?_
  · rw [(hold_no hO).1, (hold_no hO).2]
  obtain ⟨c1, c2, c3, c4⟩ := hc
  first | omega | exact hxn (c3 _ hxm) | (obtain rfl : p = p' := Option.some.inj (hp.symm.trans hp'); omega) | (simp_all; done)
set_option maxHeartbeats 400000 in
/-- spec.HoldsIn -/
theorem sIn_ok (a : St) (f : List UInt8) (w : World) (hsa : a.Small) (hf : f.length ≤ 1048576) :
    Calls Tryd.prog 81 [vS a, str f].toArray w fun en w' => en = .returned (.tuple #[.bool (holdV a f []), .bool (holdK a f [])]) ∧ Below w.heap.size w w' := by
 refine fnStart (n := 12) (e := [(0, vS a), (1, str f)]) Tryd.func81 rfl rfl rfl rfl Ends.both ?_
 refine Wk.seq ?_
 refine Wk.region ?_
 refine Ll.box (v := vS a) rfl rfl rfl rfl rfl fun p2 hp2 => ?_
 show Ll _ _ (Own _ _ [_]) _ _ ((2, pt_ p2) :: _) _ _ _
 refine Ll.run 2 rfl ?_
 refine Ll.nil ?_
 refine Kt.sel [1, 2] [_, _] rfl ?_
 refine Wk.seq ?_
 refine Wk.region ?_
 refine Ll.op rfl rfl rfl (OpQ.loadBox (cs := #[i6_ a.n, str a.set, str a.rel]) 0 rfl Tryd.isAgg28 rfl rfl Tryd.sizeOf28) ?_
 refine Ll.run 1 rfl ?_
 refine Ll.slice (xs := []) (vs := []) Base.elem25 rfl rfl rfl rfl rfl rfl (by decide) rfl fun p8 hp8 => ?_
 refine Ll.op (v := .tuple #[bo_ (holdV a f ([])), bo_ (holdK a f ([]))]) rfl rfl rfl (OpQ.call rfl Tryd.call79 rfl Own.stable (fun w1 hw1 => sHolds_ok a f (sl_ p8 0 0) ([]) w1 hsa hf (Own.row hw1 (i := 0) rfl (n := 0) (cap := 0) (vs := ints []) rfl rfl (by decide)))) ?_
 refine Ll.op (v := bo_ (holdV a f ([]))) rfl rfl rfl (OpQ.extract rfl rfl rfl) ?_
 refine Ll.op (v := bo_ (holdK a f ([]))) rfl rfl rfl (OpQ.extract rfl rfl rfl) ?_
 refine Ll.run 2 rfl ?_
 refine Ll.nil ?_
 refine Kt.sel [4, 5] [_, _] rfl ?_
 refine Wk.ret (Kt.end2 rfl rfl rfl fun w' hw => ?_)
 exact ⟨rfl, hw.below⟩
end Go.Proofs.YtnfkmfdhmlombaaDoor
namespace Go.Proofs.YtnfkmfdhmlombaaDoor
open Go.RowKit Go.Wk
set_option linter.unusedSimpArgs false
set_option maxHeartbeats 400000 in
/-- laws.szStructure -/
theorem sz_ok (a : St) (left : Int) (w : World) (hl0 : 0 ≤ left) (hl : left ≤ 1048576) (h1 : a.set.length ≤ 9223372036854775807) (h2 : a.rel.length ≤ 9223372036854775807) :
    Calls Tryd.prog 13 [vS a, i6_ left].toArray w fun en w' => en = .returned (.int .i64 (szB a left)) ∧ Below w.heap.size w w' := by
 refine fnStart (n := 20) (e := [(0, vS a), (1, i6_ left)]) Tryd.func13 rfl rfl rfl rfl Ends.both ?_
 refine Wk.seq ?_
 refine Wk.region ?_
 refine Ll.box (v := vS a) rfl rfl rfl rfl rfl fun p2 hp2 => ?_
 show Ll _ _ (Own _ _ [_]) _ _ ((2, pt_ p2) :: _) _ _ _
 refine Ll.run 1 rfl ?_
 refine Ll.nil ?_
 refine Kt.sel [1, 2] [_, _] rfl ?_
 refine Wk.seq ?_
 refine Wk.regionQ ?_
 refine Lq.run 1 rfl ?_
 refine Lq.op rfl rfl rfl (OpQ.fieldAddr rfl Tryd.runUnderlying23 rfl Tryd.sizeOf9 rfl rfl) ?_
 refine Lq.op rfl rfl rfl (OpQ.loadOwn 0 rfl Tryd.isAgg9 rfl rfl rfl) ?_
 refine Lq.op (v := i6_ ((a.set.length : Int))) rfl rfl rfl (OpQ.lenStr rfl Tryd.runUnderlying9 rfl) ?_
 refine Lq.op rfl rfl rfl (OpQ.sub rfl rfl rfl (by omega) (by omega)) ?_
 refine Lq.run 1 rfl ?_
 refine Lq.nil ?_
 refine Kt.sel [1, 2] [_, _] rfl ?_
 refine Wk.seq ?_
 refine Wk.seq ?_
 refine Wk.regionQ ?_
 refine Lq.run 2 rfl ?_
 refine Lq.nil ?_
 refine Kt.sel [1, 2, 11] [_, _, _] rfl ?_
 refine Wk.cond (b := decide ((left - ((a.set.length : Int))) < (0 : Int))) rfl (fun h11 => ?_) (fun h11 => ?_)
 ·
  replace h11 := of_decide_eq_true h11
  refine Wk.seq ?_
  refine Wk.regionQ ?_
  refine Lq.run 1 rfl ?_
  refine Lq.nil ?_
  refine Kt.sel [4] [_] rfl ?_
  refine Wk.ret (Kt.end1 rfl rfl fun w' hw => ?_)
  exact ⟨ret_i (by unfold szB; simp [*]), hw.below⟩
 ·
  replace h11 := of_decide_eq_false h11
  refine Wk.skip ?_
  refine Kt.sel [1, 2] [_, _] rfl ?_
  refine Wk.seq ?_
  refine Wk.regionQ ?_
  refine Lq.run 1 rfl ?_
  refine Lq.op rfl rfl rfl (OpQ.fieldAddr rfl Tryd.runUnderlying23 rfl Tryd.sizeOf9 rfl rfl) ?_
  refine Lq.op rfl rfl rfl (OpQ.loadOwn 0 rfl Tryd.isAgg9 rfl rfl rfl) ?_
  refine Lq.op (v := i6_ ((a.rel.length : Int))) rfl rfl rfl (OpQ.lenStr rfl Tryd.runUnderlying9 rfl) ?_
  refine Lq.op rfl rfl rfl (OpQ.sub rfl rfl rfl (by omega) (by omega)) ?_
  refine Lq.run 1 rfl ?_
  refine Lq.nil ?_
  refine Kt.sel [1] [_] rfl ?_
  refine Wk.seq ?_
  refine Wk.seq ?_
  refine Wk.regionQ ?_
  refine Lq.run 2 rfl ?_
  refine Lq.nil ?_
  refine Kt.sel [1, 18] [_, _] rfl ?_
  refine Wk.cond (b := decide (((left - ((a.set.length : Int))) - ((a.rel.length : Int))) < (0 : Int))) rfl (fun h18 => ?_) (fun h18 => ?_)
  ·
   replace h18 := of_decide_eq_true h18
   refine Wk.seq ?_
   refine Wk.regionQ ?_
   refine Lq.run 1 rfl ?_
   refine Lq.nil ?_
   refine Kt.sel [4] [_] rfl ?_
   refine Wk.ret (Kt.end1 rfl rfl fun w' hw => ?_)
   exact ⟨ret_i (by unfold szB; simp [*]), hw.below⟩
  ·
   replace h18 := of_decide_eq_false h18
   refine Wk.skip ?_
   refine Kt.sel [1] [_] rfl ?_
   refine Wk.seq ?_
   refine Wk.regionQ ?_
   refine Lq.run 2 rfl ?_
   refine Lq.nil ?_
   refine Kt.sel [4] [_] rfl ?_
   refine Wk.ret (Kt.end1 rfl rfl fun w' hw => ?_)
   exact ⟨ret_i (by unfold szB; simp [*]), hw.below⟩
set_option maxHeartbeats 400000 in
/-- laws.toStructure -/
theorem toSt_ok (a : St) (w : World) :
    Calls Tryd.prog 15 [vS a].toArray w fun en w' => en = .returned (vS a) ∧ Below w.heap.size w w' := by
 refine fnStart (n := 14) (e := [(0, vS a)]) Tryd.func15 rfl rfl rfl rfl Ends.both ?_
 refine Wk.seq ?_
 refine Wk.region ?_
 refine Ll.box (v := vS a) rfl rfl rfl rfl rfl fun p1 hp1 => ?_
 show Ll _ _ (Own _ _ [_]) _ _ ((1, pt_ p1) :: _) _ _ _
 refine Ll.alloc rfl rfl rfl rfl Tryd.zeroValue28 fun p2 hp2 => ?_
 show Ll _ _ (Own _ _ [bk_ p2 #[i6_ 0, str ([]), str ([])] 28, _]) _ _ ((2, pt_ p2) :: _) _ _ _
 refine Ll.nil ?_
 refine Kt.sel [1, 2] [_, _] rfl ?_
 refine Wk.seq ?_
 refine Wk.region ?_
 refine Ll.alloc rfl rfl rfl rfl Tryd.zeroValue28 fun p3 hp3 => ?_
 show Ll _ _ (Own _ _ [bk_ p3 #[i6_ 0, str ([]), str ([])] 28, _, _]) _ _ ((3, pt_ p3) :: _) _ _ _
 refine Ll.nil ?_
 refine Kt.sel [1, 2, 3] [_, _, _] rfl ?_
 refine Wk.seq ?_
 refine Wk.region ?_
 refine Ll.op rfl rfl rfl (OpQ.fieldAddr rfl Tryd.runUnderlying23 rfl Tryd.sizeOf3 rfl rfl) ?_
 refine Ll.op rfl rfl rfl (OpQ.loadOwn 2 rfl Tryd.isAgg3 rfl rfl rfl) ?_
 refine Ll.op rfl rfl rfl (OpQ.fieldAddr rfl Tryd.runUnderlying28 rfl Tryd.sizeOf3 rfl rfl) ?_
 refine Ll.store1 (v := i6_ a.n) (hs' := [bk_ p3 #[i6_ a.n, str ([]), str ([])] 28, _, _]) 0 rfl rfl rfl rfl rfl rfl Tryd.sizeOf3 rfl (by simp) rfl ?_
 refine Ll.nil ?_
 refine Kt.sel [1, 2, 3] [_, _, _] rfl ?_
 refine Wk.seq ?_
 refine Wk.region ?_
 refine Ll.op rfl rfl rfl (OpQ.fieldAddr rfl Tryd.runUnderlying23 rfl Tryd.sizeOf9 rfl rfl) ?_
 refine Ll.op rfl rfl rfl (OpQ.loadOwn 2 rfl Tryd.isAgg9 rfl rfl rfl) ?_
 refine Ll.op rfl rfl rfl (OpQ.fieldAddr rfl Tryd.runUnderlying28 rfl Tryd.sizeOf9 rfl rfl) ?_
 refine Ll.store1 (v := str a.set) (hs' := [bk_ p3 #[i6_ a.n, str a.set, str ([])] 28, _, _]) 0 rfl rfl rfl rfl rfl rfl Tryd.sizeOf9 rfl (by simp) rfl ?_
 refine Ll.nil ?_
 refine Kt.sel [1, 2, 3] [_, _, _] rfl ?_
 refine Wk.seq ?_
 refine Wk.region ?_
 refine Ll.op rfl rfl rfl (OpQ.fieldAddr rfl Tryd.runUnderlying23 rfl Tryd.sizeOf9 rfl rfl) ?_
 refine Ll.op rfl rfl rfl (OpQ.loadOwn 2 rfl Tryd.isAgg9 rfl rfl rfl) ?_
 refine Ll.op rfl rfl rfl (OpQ.fieldAddr rfl Tryd.runUnderlying28 rfl Tryd.sizeOf9 rfl rfl) ?_
 refine Ll.store1 (v := str a.rel) (hs' := [bk_ p3 #[i6_ a.n, str a.set, str a.rel] 28, _, _]) 0 rfl rfl rfl rfl rfl rfl Tryd.sizeOf9 rfl (by simp) rfl ?_
 refine Ll.nil ?_
 refine Kt.sel [2, 3] [_, _] rfl ?_
 refine Wk.seq ?_
 refine Wk.region ?_
 refine Ll.op rfl rfl rfl (OpQ.loadBox (cs := #[i6_ a.n, str a.set, str a.rel]) 0 rfl Tryd.isAgg28 rfl rfl Tryd.sizeOf28) ?_
 refine Ll.storeBox (cs' := #[i6_ a.n, str a.set, str a.rel]) (hs' := [_, bk_ p2 #[i6_ a.n, str a.set, str a.rel] 28, _]) 1 rfl rfl rfl rfl rfl (by kernel_rfl : _ = some Tryd.t28) rfl rfl rfl rfl rfl ?_
 refine Ll.nil ?_
 refine Kt.sel [2] [_] rfl ?_
 refine Wk.ret (Kt.endBox (cs := #[i6_ a.n, str a.set, str a.rel]) 1 rfl rfl rfl Tryd.isAgg28 Tryd.sizeOf28 fun w' hw => ?_)
 exact ⟨rfl, hw.below⟩
end Go.Proofs.YtnfkmfdhmlombaaDoor
namespace Go.Proofs.YtnfkmfdhmlombaaDoor
open Go.RowKit Go.Wk
set_option linter.unusedSimpArgs false
set_option maxHeartbeats 400000 in
/-- spec.AgreeUpTo -/
theorem sAgree_ok (a b : St) (vl : Value) (l : List (List UInt8)) (r : Int) (w : World) (hsa : a.Small) (hsb : b.Small) (hvl : Strs w vl l) (hl : l.length ≤ 1048576) (hls : ∀ s ∈ l, s.length ≤ 1048576) :
    Calls Tryd.prog 36 [vS a, vS b, vl, i6_ r].toArray w fun en w' => en = .returned (.bool (agreeB a b l r)) ∧ Below w.heap.size w w' := by
 refine fnStart (n := 64) (e := [(0, vS a), (1, vS b), (2, vl), (3, i6_ r)]) Tryd.func36 rfl rfl rfl rfl Ends.both ?_
 refine Wk.seq ?_
 refine Wk.region ?_
 refine Ll.box (v := vS a) rfl rfl rfl rfl rfl fun p4 hp4 => ?_
 show Ll _ _ (Own _ _ [_]) _ _ ((4, pt_ p4) :: _) _ _ _
 refine Ll.box (v := vS b) rfl rfl rfl rfl rfl fun p5 hp5 => ?_
 show Ll _ _ (Own _ _ [_, _]) _ _ ((5, pt_ p5) :: _) _ _ _
 refine Ll.run 1 rfl ?_
 refine Ll.nil ?_
 refine Kt.sel [2, 3, 4, 5] [_, _, _, _] rfl ?_
 refine Wk.seq ?_
 refine Wk.seq ?_
 refine Wk.regionQ ?_
 refine Lq.run 1 rfl ?_
 refine Lq.nil ?_
 refine Kt.sel [2, 3, 4, 5, 9] [_, _, _, _, _] rfl ?_
 refine Wk.block ?_
 refine Wk.loop (σ := Nat) (fun k => k ≤ l.length ∧ ∀ i : Nat, i < k → agreeAt a b r (l.getD i []) = true) (fun k => [(2, vl), (3, i6_ r), (4, pt_ p4), (5, pt_ p5), (9, i6_ ((k : Int)))]) (fun k => Own w.heap.size w [bk_ p5 #[i6_ b.n, str b.set, str b.rel] 28, bk_ p4 #[i6_ a.n, str a.set, str a.rel] 28]) (fun k => l.length - k) (0) ⟨by omega, fun i hi => absurd hi (by omega)⟩ (Sub.sel [2, 3, 4, 5, 9] rfl) (fun _ h => h) ?_
 rintro k ⟨hk, hall⟩
 refine Wk.seq ?_
 refine Wk.seq ?_
 refine Wk.regionQ ?_
 refine Lq.run 2 rfl ?_
 refine Lq.op (v := i6_ ((l.length : Int))) rfl rfl rfl (OpQ.lenRow rfl Tryd.runUnderlying45 rfl (strs_length _) (fun w1 hw1 => Row.own hvl hw1)) ?_
 refine Lq.run 1 rfl ?_
 refine Lq.nil ?_
 refine Kt.sel [2, 3, 4, 5, 9, 17] [_, _, _, _, _, _] rfl ?_
 refine Wk.cond (b := decide (((k : Int)) < ((l.length : Int)))) rfl (fun h17 => ?_) (fun h17 => ?_)
 ·
  replace h17 := of_decide_eq_true h17
  have hkl : k < l.length := by omega
  have hfk : (l.getD ((k : Int)).toNat []).length ≤ 1048576 := hls _ (mem_getD (l := l) hkl)
  refine Wk.skip ?_
  refine Kt.sel [2, 3, 4, 5, 9] [_, _, _, _, _] rfl ?_
  refine Wk.seq ?_
  refine Wk.block ?_
  refine Wk.seq ?_
  refine Wk.regionD Base.mixed (fun _ h => h.drawn) (by kernel_rfl) ?_
  refine Lq.op rfl rfl rfl (OpQ.loadBox (cs := #[i6_ a.n, str a.set, str a.rel]) 1 rfl Tryd.isAgg28 rfl rfl Tryd.sizeOf28) ?_
  refine Lq.run 2 rfl ?_
  refine Lq.op (v := .pointer (some (sAt vl ((k : Int))))) rfl rfl rfl (OpQ.atRow rfl Tryd.runUnderlying45 Tryd.sizeOf9 rfl rfl (by omega) (by rw [strs_length]; omega) (fun w1 hw1 => Row.own hvl hw1)) ?_
  refine Lq.op (v := str (l.getD (((k : Int)).toNat) [])) rfl rfl rfl (OpQ.load1 rfl Tryd.isAgg9 rfl (fun w1 hw1 => Strs.cell (Row.own hvl hw1) (by omega) (by omega))) ?_
  refine Lq.op (v := .tuple #[bo_ (holdV a (l.getD (((k : Int)).toNat) []) []), bo_ (holdK a (l.getD (((k : Int)).toNat) []) [])]) rfl rfl rfl (OpQ.call rfl Tryd.call81 rfl Own.stable (fun w1 hw1 => sIn_ok a (l.getD (((k : Int)).toNat) []) w1 hsa hfk)) ?_
  refine Lq.run 1 rfl ?_
  refine Lq.op (v := bo_ (holdV a (l.getD (((k : Int)).toNat) []) [])) rfl rfl rfl (OpQ.extract rfl rfl rfl) ?_
  refine Lq.op (v := bo_ (holdK a (l.getD (((k : Int)).toNat) []) [])) rfl rfl rfl (OpQ.extract rfl rfl rfl) ?_
  refine Lq.run 2 rfl ?_
  refine Lq.nil ?_
  refine Kt.sel [2, 3, 4, 5, 9, 10, 11] [_, _, _, _, _, _, _] rfl ?_
  refine Wk.seq ?_
  refine Wk.regionD Base.mixed (fun _ h => h.drawn) (by kernel_rfl) ?_
  refine Lq.op rfl rfl rfl (OpQ.loadBox (cs := #[i6_ b.n, str b.set, str b.rel]) 0 rfl Tryd.isAgg28 rfl rfl Tryd.sizeOf28) ?_
  refine Lq.run 2 rfl ?_
  refine Lq.op (v := .pointer (some (sAt vl ((k : Int))))) rfl rfl rfl (OpQ.atRow rfl Tryd.runUnderlying45 Tryd.sizeOf9 rfl rfl (by omega) (by rw [strs_length]; omega) (fun w1 hw1 => Row.own hvl hw1)) ?_
  refine Lq.op (v := str (l.getD (((k : Int)).toNat) [])) rfl rfl rfl (OpQ.load1 rfl Tryd.isAgg9 rfl (fun w1 hw1 => Strs.cell (Row.own hvl hw1) (by omega) (by omega))) ?_
  refine Lq.op (v := .tuple #[bo_ (holdV b (l.getD (((k : Int)).toNat) []) []), bo_ (holdK b (l.getD (((k : Int)).toNat) []) [])]) rfl rfl rfl (OpQ.call rfl Tryd.call81 rfl Own.stable (fun w1 hw1 => sIn_ok b (l.getD (((k : Int)).toNat) []) w1 hsb hfk)) ?_
  refine Lq.run 1 rfl ?_
  refine Lq.op (v := bo_ (holdV b (l.getD (((k : Int)).toNat) []) [])) rfl rfl rfl (OpQ.extract rfl rfl rfl) ?_
  refine Lq.op (v := bo_ (holdK b (l.getD (((k : Int)).toNat) []) [])) rfl rfl rfl (OpQ.extract rfl rfl rfl) ?_
  refine Lq.run 2 rfl ?_
  refine Lq.nil ?_
  refine Kt.sel [2, 3, 4, 5, 9, 10, 11, 12, 13] [_, _, _, _, _, _, _, _, _] rfl ?_
  refine Wk.seq ?_
  refine Wk.regionQ ?_
  refine Lq.run 3 rfl ?_
  refine Lq.bool fun b40 hg40 => ?_
  cases b40
  ·
   replace hg40 := not_false hg40
   refine Lq.run 4 rfl ?_
   refine Lq.bool fun b44 hg44 => ?_
   cases b44
   ·
    replace hg44 := not_false hg44
    refine Lq.run 2 rfl ?_
    refine Lq.op (v := .pointer (some (sAt vl ((k : Int))))) rfl rfl rfl (OpQ.atRow rfl Tryd.runUnderlying45 Tryd.sizeOf9 rfl rfl (by omega) (by rw [strs_length]; omega) (fun w1 hw1 => Row.own hvl hw1)) ?_
    refine Lq.op (v := str (l.getD (((k : Int)).toNat) [])) rfl rfl rfl (OpQ.load1 rfl Tryd.isAgg9 rfl (fun w1 hw1 => Strs.cell (Row.own hvl hw1) (by omega) (by omega))) ?_
    refine Lq.op (v := i6_ (rankI (l.getD (((k : Int)).toNat) []))) rfl rfl rfl (OpQ.call rfl Tryd.call85 rfl Own.stable (fun w1 hw1 => sRank_ok (l.getD (((k : Int)).toNat) []) w1 hfk)) ?_
    refine Lq.run 3 rfl ?_
    refine Lq.bool fun b52 hg52 => ?_
    cases b52
    ·
     replace hg52 := of_decide_eq_false hg52
     refine Lq.pass rfl rfl rfl ?_
     refine Lq.pass rfl rfl rfl ?_
     refine Lq.pass rfl rfl rfl ?_
     refine Lq.run 2 rfl ?_
     refine Lq.nil ?_
     refine Kt.sel [2, 3, 4, 5, 9, 57] [_, _, _, _, _, _] rfl ?_
     refine Wk.condF rfl ?_
     refine Wk.skip ?_
     refine Kt.sel [2, 3, 4, 5, 9] [_, _, _, _, _] rfl ?_
     refine Wk.regionQ ?_
     refine Lq.run 1 rfl ?_
     refine Lq.op rfl rfl rfl (OpQ.add rfl rfl rfl (by omega) (by omega)) ?_
     refine Lq.run 1 rfl ?_
     refine Lq.nil ?_
     refine Kt.again (k + 1) ⟨by omega, fun i hi => (Nat.lt_succ_iff_lt_or_eq.1 hi).elim (hall i) (fun e => by subst e; exact agreeAt_yes (by assumption) (by assumption) (by first | exact .inl (by assumption) | exact .inr (bne_false (by assumption))))⟩ (by omega) (Sub.sel [2, 3, 4, 5, 9] rfl) (fun _ h => h)
    ·
     replace hg52 := of_decide_eq_true hg52
     refine Lq.run 2 rfl ?_
     refine Lq.op rfl rfl rfl (OpQ.bne rfl Tryd.runUnderlying4 rfl rfl) ?_
     refine Lq.run 2 rfl ?_
     refine Lq.nil ?_
     refine Kt.sel [2, 3, 4, 5, 9, 57] [_, _, _, _, _, _] rfl ?_
     refine Wk.cond (b := (holdV a (l.getD (((k : Int)).toNat) []) []) != (holdV b (l.getD (((k : Int)).toNat) []) [])) rfl (fun h57 => ?_) (fun h57 => ?_)
     ·
      refine Wk.seq ?_
      refine Wk.regionQ ?_
      refine Lq.run 1 rfl ?_
      refine Lq.nil ?_
      refine Kt.sel [8] [_] rfl ?_
      refine Wk.ret (Kt.end1 rfl rfl fun w' hw => ?_)
      exact ⟨ret_b (agree_no hkl (agreeAt_no (by first | exact .inl (by assumption) | exact .inr (.inl (by assumption)) | exact .inr (.inr ⟨by assumption, bne_true (by assumption)⟩)))).symm, hw.below⟩
     ·
      refine Wk.skip ?_
      refine Kt.sel [2, 3, 4, 5, 9] [_, _, _, _, _] rfl ?_
      refine Wk.regionQ ?_
      refine Lq.run 1 rfl ?_
      refine Lq.op rfl rfl rfl (OpQ.add rfl rfl rfl (by omega) (by omega)) ?_
      refine Lq.run 1 rfl ?_
      refine Lq.nil ?_
      refine Kt.again (k + 1) ⟨by omega, fun i hi => (Nat.lt_succ_iff_lt_or_eq.1 hi).elim (hall i) (fun e => by subst e; exact agreeAt_yes (by assumption) (by assumption) (by first | exact .inl (by assumption) | exact .inr (bne_false (by assumption))))⟩ (by omega) (Sub.sel [2, 3, 4, 5, 9] rfl) (fun _ h => h)
   ·
    replace hg44 := not_true hg44
    refine Lq.pass rfl rfl rfl ?_
    refine Lq.pass rfl rfl rfl ?_
    refine Lq.pass rfl rfl rfl ?_
    refine Lq.pass rfl rfl rfl ?_
    refine Lq.pass rfl rfl rfl ?_
    refine Lq.pass rfl rfl rfl ?_
    refine Lq.pass rfl rfl rfl ?_
    refine Lq.pass rfl rfl rfl ?_
    refine Lq.pass rfl rfl rfl ?_
    refine Lq.pass rfl rfl rfl ?_
    refine Lq.pass rfl rfl rfl ?_
    refine Lq.pass rfl rfl rfl ?_
    refine Lq.run 1 rfl ?_
    refine Lq.nil ?_
    refine Kt.sel [2, 3, 4, 5, 9, 57] [_, _, _, _, _, _] rfl ?_
    refine Wk.condT rfl ?_
    refine Wk.seq ?_
    refine Wk.regionQ ?_
    refine Lq.run 1 rfl ?_
    refine Lq.nil ?_
    refine Kt.sel [8] [_] rfl ?_
    refine Wk.ret (Kt.end1 rfl rfl fun w' hw => ?_)
    exact ⟨ret_b (agree_no hkl (agreeAt_no (by first | exact .inl (by assumption) | exact .inr (.inl (by assumption)) | exact .inr (.inr ⟨by assumption, bne_true (by assumption)⟩)))).symm, hw.below⟩
  ·
   replace hg40 := not_true hg40
   refine Lq.pass rfl rfl rfl ?_
   refine Lq.pass rfl rfl rfl ?_
   refine Lq.run 2 rfl ?_
   refine Lq.pass rfl rfl rfl ?_
   refine Lq.pass rfl rfl rfl ?_
   refine Lq.pass rfl rfl rfl ?_
   refine Lq.pass rfl rfl rfl ?_
   refine Lq.pass rfl rfl rfl ?_
   refine Lq.pass rfl rfl rfl ?_
   refine Lq.pass rfl rfl rfl ?_
   refine Lq.pass rfl rfl rfl ?_
   refine Lq.pass rfl rfl rfl ?_
   refine Lq.pass rfl rfl rfl ?_
   refine Lq.pass rfl rfl rfl ?_
   refine Lq.pass rfl rfl rfl ?_
   refine Lq.run 1 rfl ?_
   refine Lq.nil ?_
   refine Kt.sel [2, 3, 4, 5, 9, 57] [_, _, _, _, _, _] rfl ?_
   refine Wk.condT rfl ?_
   refine Wk.seq ?_
   refine Wk.regionQ ?_
   refine Lq.run 1 rfl ?_
   refine Lq.nil ?_
   refine Kt.sel [8] [_] rfl ?_
   refine Wk.ret (Kt.end1 rfl rfl fun w' hw => ?_)
   exact ⟨ret_b (agree_no hkl (agreeAt_no (by first | exact .inl (by assumption) | exact .inr (.inl (by assumption)) | exact .inr (.inr ⟨by assumption, bne_true (by assumption)⟩)))).symm, hw.below⟩
 ·
  replace h17 := of_decide_eq_false h17
  refine Wk.exit rfl ?_
  refine Kt.sel [4, 5] [_, _] rfl ?_
  refine Wk.seq ?_
  refine Wk.regionQ ?_
  refine Lq.op rfl rfl rfl (OpQ.loadBox (cs := #[i6_ a.n, str a.set, str a.rel]) 1 rfl Tryd.isAgg28 rfl rfl Tryd.sizeOf28) ?_
  refine Lq.op (v := bo_ (validB a)) rfl rfl rfl (OpQ.call rfl Tryd.call55 rfl Own.stable (fun w1 hw1 => sValid_ok a w1 hsa)) ?_
  refine Lq.run 1 rfl ?_
  refine Lq.bool fun b60 hg60 => ?_
  cases b60
  ·
   refine Lq.pass rfl rfl rfl ?_
   refine Lq.pass rfl rfl rfl ?_
   refine Lq.run 2 rfl ?_
   refine Lq.nil ?_
   refine Kt.sel [8] [_] rfl ?_
   refine Wk.ret (Kt.end1 rfl rfl fun w' hw => ?_)
   exact ⟨ret_b (by rw [agree_all fun i hi => hall i (by omega)]; first | (rw [show validB a = false by assumption]; rfl) | (rw [show validB a = true by assumption, Bool.true_and]; done)), hw.below⟩
  ·
   refine Lq.op rfl rfl rfl (OpQ.loadBox (cs := #[i6_ b.n, str b.set, str b.rel]) 0 rfl Tryd.isAgg28 rfl rfl Tryd.sizeOf28) ?_
   refine Lq.op (v := bo_ (validB b)) rfl rfl rfl (OpQ.call rfl Tryd.call55 rfl Own.stable (fun w1 hw1 => sValid_ok b w1 hsb)) ?_
   refine Lq.run 2 rfl ?_
   refine Lq.nil ?_
   refine Kt.sel [8] [_] rfl ?_
   refine Wk.ret (Kt.end1 rfl rfl fun w' hw => ?_)
   exact ⟨ret_b (by rw [agree_all fun i hi => hall i (by omega)]; first | (rw [show validB a = false by assumption]; rfl) | (rw [show validB a = true by assumption, Bool.true_and]; done)), hw.below⟩
set_option maxHeartbeats 400000 in
/-- impl.AgreeUpTo -/
theorem iAgree_ok (a b : St) (vl : Value) (l : List (List UInt8)) (r : Int) (w : World) (hsa : a.Small) (hsb : b.Small) (hvl : Strs w vl l) (_hl : l.length ≤ 1048576) (_hls : ∀ s ∈ l, s.length ≤ 1048576) :
    Calls Tryd.prog 37 [vS a, vS b, vl, i6_ r].toArray w fun en w' => en = .returned (.bool (agreeB a b l r)) ∧ Below w.heap.size w w' := by
 refine fnStart (n := 59) (e := [(0, vS a), (1, vS b), (2, vl), (3, i6_ r)]) Tryd.func37 rfl rfl rfl rfl Ends.both ?_
 refine Wk.seq ?_
 refine Wk.region ?_
 refine Ll.box (v := vS a) rfl rfl rfl rfl rfl fun p4 hp4 => ?_
 show Ll _ _ (Own _ _ [_]) _ _ ((4, pt_ p4) :: _) _ _ _
 refine Ll.box (v := vS b) rfl rfl rfl rfl rfl fun p5 hp5 => ?_
 show Ll _ _ (Own _ _ [_, _]) _ _ ((5, pt_ p5) :: _) _ _ _
 refine Ll.run 1 rfl ?_
 refine Ll.nil ?_
 refine Kt.sel [2, 3, 4, 5] [_, _, _, _] rfl ?_
 refine Wk.seq ?_
 refine Wk.seq ?_
 refine Wk.regionQ ?_
 refine Lq.op rfl rfl rfl (OpQ.loadBox (cs := #[i6_ a.n, str a.set, str a.rel]) 1 rfl Tryd.isAgg28 rfl rfl Tryd.sizeOf28) ?_
 refine Lq.op (v := bo_ (validB a)) rfl rfl rfl (OpQ.call rfl Tryd.call59 rfl Own.stable (fun w1 hw1 => isStructure_ok a w1 hsa)) ?_
 refine Lq.run 2 rfl ?_
 refine Lq.bool fun b19 hg19 => ?_
 cases b19
 ·
  replace hg19 := not_false hg19
  refine Lq.op rfl rfl rfl (OpQ.loadBox (cs := #[i6_ b.n, str b.set, str b.rel]) 0 rfl Tryd.isAgg28 rfl rfl Tryd.sizeOf28) ?_
  refine Lq.op (v := bo_ (validB b)) rfl rfl rfl (OpQ.call rfl Tryd.call59 rfl Own.stable (fun w1 hw1 => isStructure_ok b w1 hsb)) ?_
  refine Lq.run 2 rfl ?_
  refine Lq.nil ?_
  refine Kt.sel [2, 3, 4, 5, 23] [_, _, _, _, _] rfl ?_
  refine Wk.cond (b := !(validB b)) rfl (fun h23 => ?_) (fun h23 => ?_)
  ·
   replace h23 := not_true h23
   refine Wk.seq ?_
   refine Wk.regionQ ?_
   refine Lq.run 1 rfl ?_
   refine Lq.nil ?_
   refine Kt.sel [8] [_] rfl ?_
   refine Wk.ret (Kt.end1 rfl rfl fun w' hw => ?_)
   exact ⟨ret_b (by unfold agreeB; first | (rw [show validB a = false by assumption]; rfl) | (rw [show validB b = false by assumption, Bool.and_false]; rfl)), hw.below⟩
  ·
   replace h23 := not_false h23
   refine Wk.skip ?_
   refine Kt.sel [2, 3, 4, 5] [_, _, _, _] rfl ?_
   refine Wk.seq ?_
   refine Wk.regionQ ?_
   refine Lq.run 1 rfl ?_
   refine Lq.nil ?_
   refine Kt.sel [2, 3, 4, 5, 9] [_, _, _, _, _] rfl ?_
   refine Wk.seq ?_
   refine Wk.seq ?_
   refine Wk.regionQ ?_
   refine Lq.run 1 rfl ?_
   refine Lq.op (v := i6_ ((l.length : Int))) rfl rfl rfl (OpQ.lenRow rfl Tryd.runUnderlying45 rfl (strs_length _) (fun w1 hw1 => Row.own hvl hw1)) ?_
   refine Lq.run 1 rfl ?_
   refine Lq.nil ?_
   refine Kt.sel [3, 4, 5, 9, 24, 25, 26] [_, _, _, _, _, _, _] rfl ?_
   refine Wk.block ?_
   refine Wk.loop (σ := Nat × Bool) (fun ⟨k, g⟩ => k ≤ l.length ∧ g = (l.take k).all (agreeAt a b r)) (fun ⟨k, g⟩ => [(3, i6_ r), (4, pt_ p4), (5, pt_ p5), (9, bo_ g), (24, vl), (25, i6_ ((l.length : Int))), (26, i6_ ((k : Int)))]) (fun ⟨k, g⟩ => Own w.heap.size w [bk_ p5 #[i6_ b.n, str b.set, str b.rel] 28, bk_ p4 #[i6_ a.n, str a.set, str a.rel] 28]) (fun ⟨k, g⟩ => l.length - k) ((0, true)) ⟨by omega, rfl⟩ (Sub.sel [3, 4, 5, 9, 24, 25, 26] rfl) (fun _ h => h) ?_
   rintro ⟨k, g⟩ ⟨hk, hg⟩
   dsimp only
   refine Wk.seq ?_
   refine Wk.regionQ ?_
   refine Lq.run 1 rfl ?_
   refine Lq.nil ?_
   refine Kt.sel [3, 4, 5, 9, 24, 25, 26, 27] [_, _, _, _, _, _, _, _] rfl ?_
   refine Wk.seq ?_
   refine Wk.cond (b := decide (((k : Int)) < ((l.length : Int)))) rfl (fun h27 => ?_) (fun h27 => ?_)
   ·
    replace h27 := of_decide_eq_true h27
    have hkl : k < l.length := by omega
    refine Wk.skip ?_
    refine Kt.sel [3, 4, 5, 9, 24, 25, 26] [_, _, _, _, _, _, _] rfl ?_
    refine Wk.seq ?_
    refine Wk.block ?_
    refine Wk.seq ?_
    refine Wk.regionQ ?_
    refine Lq.op (v := .pointer (some (sAt vl ((k : Int))))) rfl rfl rfl (OpQ.atRow rfl Tryd.runUnderlying45 Tryd.sizeOf9 rfl rfl (by omega) (by rw [strs_length]; omega) (fun w1 hw1 => Row.own hvl hw1)) ?_
    refine Lq.op (v := str (l.getD (((k : Int)).toNat) [])) rfl rfl rfl (OpQ.load1 rfl Tryd.isAgg9 rfl (fun w1 hw1 => Strs.cell (Row.own hvl hw1) (by omega) (by omega))) ?_
    refine Lq.run 1 rfl ?_
    refine Lq.nil ?_
    refine Kt.sel [3, 4, 5, 9, 11, 24, 25, 26] [_, _, _, _, _, _, _, _] rfl ?_
    refine Wk.seq ?_
    refine Wk.regionQ ?_
    refine Lq.op rfl rfl rfl (OpQ.loadBox (cs := #[i6_ a.n, str a.set, str a.rel]) 1 rfl Tryd.isAgg28 rfl rfl Tryd.sizeOf28) ?_
    refine Lq.run 1 rfl ?_
    refine Lq.op (v := .tuple #[bo_ (holdV a (l.getD (((k : Int)).toNat) []) []), bo_ (holdK a (l.getD (((k : Int)).toNat) []) [])]) rfl rfl rfl (OpQ.call rfl Tryd.call83 rfl Own.stable (fun w1 hw1 => iIn_ok a (l.getD (((k : Int)).toNat) []) w1 hsa)) ?_
    refine Lq.run 1 rfl ?_
    refine Lq.op (v := bo_ (holdV a (l.getD (((k : Int)).toNat) []) [])) rfl rfl rfl (OpQ.extract rfl rfl rfl) ?_
    refine Lq.op (v := bo_ (holdK a (l.getD (((k : Int)).toNat) []) [])) rfl rfl rfl (OpQ.extract rfl rfl rfl) ?_
    refine Lq.run 2 rfl ?_
    refine Lq.nil ?_
    refine Kt.sel [3, 4, 5, 9, 11, 12, 13, 24, 25, 26] [_, _, _, _, _, _, _, _, _, _] rfl ?_
    refine Wk.seq ?_
    refine Wk.regionQ ?_
    refine Lq.op rfl rfl rfl (OpQ.loadBox (cs := #[i6_ b.n, str b.set, str b.rel]) 0 rfl Tryd.isAgg28 rfl rfl Tryd.sizeOf28) ?_
    refine Lq.run 1 rfl ?_
    refine Lq.op (v := .tuple #[bo_ (holdV b (l.getD (((k : Int)).toNat) []) []), bo_ (holdK b (l.getD (((k : Int)).toNat) []) [])]) rfl rfl rfl (OpQ.call rfl Tryd.call83 rfl Own.stable (fun w1 hw1 => iIn_ok b (l.getD (((k : Int)).toNat) []) w1 hsb)) ?_
    refine Lq.run 1 rfl ?_
    refine Lq.op (v := bo_ (holdV b (l.getD (((k : Int)).toNat) []) [])) rfl rfl rfl (OpQ.extract rfl rfl rfl) ?_
    refine Lq.op (v := bo_ (holdK b (l.getD (((k : Int)).toNat) []) [])) rfl rfl rfl (OpQ.extract rfl rfl rfl) ?_
    refine Lq.run 2 rfl ?_
    refine Lq.nil ?_
    refine Kt.sel [3, 4, 5, 9, 11, 12, 13, 14, 15, 24, 25, 26] [_, _, _, _, _, _, _, _, _, _, _, _] rfl ?_
    refine Wk.seq ?_
    refine Wk.seq ?_
    refine Wk.regionQ ?_
    refine Lq.run 3 rfl ?_
    refine Lq.bool fun b44 hg44 => ?_
    cases b44
    ·
     replace hg44 := not_false hg44
     refine Lq.run 3 rfl ?_
     refine Lq.nil ?_
     refine Kt.sel [3, 4, 5, 9, 11, 12, 14, 24, 25, 26, 47] [_, _, _, _, _, _, _, _, _, _, _] rfl ?_
     refine Wk.cond (b := !(holdK b (l.getD (((k : Int)).toNat) []) [])) rfl (fun h47 => ?_) (fun h47 => ?_)
     ·
      replace h47 := not_true h47
      refine Wk.seq ?_
      refine Wk.regionQ ?_
      refine Lq.run 1 rfl ?_
      refine Lq.nil ?_
      refine Kt.sel [8] [_] rfl ?_
      refine Wk.ret (Kt.end1 rfl rfl fun w' hw => ?_)
      exact ⟨ret_b (agree_no hkl (agreeAt_no (by first | exact .inl (by assumption) | exact .inr (.inl (by assumption)) | exact .inr (.inr ⟨by assumption, bne_true (by assumption)⟩)))).symm, hw.below⟩
     ·
      replace h47 := not_false h47
      refine Wk.skip ?_
      refine Kt.sel [3, 4, 5, 9, 11, 12, 14, 24, 25, 26] [_, _, _, _, _, _, _, _, _, _] rfl ?_
      refine Wk.seq ?_
      refine Wk.regionQ ?_
      refine Lq.run 1 rfl ?_
      refine Lq.op (v := i6_ (rankI (l.getD (((k : Int)).toNat) []))) rfl rfl rfl (OpQ.call rfl Tryd.call54 rfl Own.stable (fun w1 hw1 => iRank_ok (l.getD (((k : Int)).toNat) []) w1)) ?_
      refine Lq.run 3 rfl ?_
      refine Lq.bool fun b52 hg52 => ?_
      cases b52
      ·
       replace hg52 := of_decide_eq_false hg52
       refine Lq.pass rfl rfl rfl ?_
       refine Lq.pass rfl rfl rfl ?_
       refine Lq.pass rfl rfl rfl ?_
       refine Lq.run 1 rfl ?_
       refine Lq.nil ?_
       refine Kt.sel [3, 4, 5, 9, 24, 25, 26, 56] [_, _, _, _, _, _, _, _] rfl ?_
       refine Wk.condF rfl ?_
       refine Wk.skip ?_
       refine Kt.sel [3, 4, 5, 9, 24, 25, 26] [_, _, _, _, _, _, _] rfl ?_
       refine Wk.regionQ ?_
       refine Lq.op rfl rfl rfl (OpQ.add rfl rfl rfl (by omega) (by omega)) ?_
       refine Lq.run 1 rfl ?_
       refine Lq.nil ?_
       refine Kt.again ((k + 1, g)) ⟨by omega, by rw [all_step hkl, agreeAt_yes (by assumption) (by assumption) (by first | exact .inl (by assumption) | exact .inr (bne_false (by assumption))), Bool.and_true]; exact hg⟩ (by omega) (Sub.sel [3, 4, 5, 9, 24, 25, 26] rfl) (fun _ h => h)
      ·
       replace hg52 := of_decide_eq_true hg52
       refine Lq.run 2 rfl ?_
       refine Lq.op rfl rfl rfl (OpQ.bne rfl Tryd.runUnderlying4 rfl rfl) ?_
       refine Lq.run 1 rfl ?_
       refine Lq.nil ?_
       refine Kt.sel [3, 4, 5, 9, 24, 25, 26, 56] [_, _, _, _, _, _, _, _] rfl ?_
       refine Wk.cond (b := (holdV a (l.getD (((k : Int)).toNat) []) []) != (holdV b (l.getD (((k : Int)).toNat) []) [])) rfl (fun h56 => ?_) (fun h56 => ?_)
       ·
        refine Wk.regionQ ?_
        refine Lq.run 1 rfl ?_
        refine Lq.nil ?_
        refine Kt.sel [3, 4, 5, 9, 24, 25, 26] [_, _, _, _, _, _, _] rfl ?_
        refine Wk.regionQ ?_
        refine Lq.op rfl rfl rfl (OpQ.add rfl rfl rfl (by omega) (by omega)) ?_
        refine Lq.run 1 rfl ?_
        refine Lq.nil ?_
        refine Kt.again ((k + 1, false)) ⟨by omega, by rw [all_step hkl, agreeAt_no (.inr (.inr ⟨by assumption, bne_true (by assumption)⟩)), Bool.and_false]⟩ (by omega) (Sub.sel [3, 4, 5, 9, 24, 25, 26] rfl) (fun _ h => h)
       ·
        refine Wk.skip ?_
        refine Kt.sel [3, 4, 5, 9, 24, 25, 26] [_, _, _, _, _, _, _] rfl ?_
        refine Wk.regionQ ?_
        refine Lq.op rfl rfl rfl (OpQ.add rfl rfl rfl (by omega) (by omega)) ?_
        refine Lq.run 1 rfl ?_
        refine Lq.nil ?_
        refine Kt.again ((k + 1, g)) ⟨by omega, by rw [all_step hkl, agreeAt_yes (by assumption) (by assumption) (by first | exact .inl (by assumption) | exact .inr (bne_false (by assumption))), Bool.and_true]; exact hg⟩ (by omega) (Sub.sel [3, 4, 5, 9, 24, 25, 26] rfl) (fun _ h => h)
    ·
     replace hg44 := not_true hg44
     refine Lq.pass rfl rfl rfl ?_
     refine Lq.pass rfl rfl rfl ?_
     refine Lq.run 1 rfl ?_
     refine Lq.nil ?_
     refine Kt.sel [3, 4, 5, 9, 11, 12, 14, 24, 25, 26, 47] [_, _, _, _, _, _, _, _, _, _, _] rfl ?_
     refine Wk.condT rfl ?_
     refine Wk.seq ?_
     refine Wk.regionQ ?_
     refine Lq.run 1 rfl ?_
     refine Lq.nil ?_
     refine Kt.sel [8] [_] rfl ?_
     refine Wk.ret (Kt.end1 rfl rfl fun w' hw => ?_)
     exact ⟨ret_b (agree_no hkl (agreeAt_no (by first | exact .inl (by assumption) | exact .inr (.inl (by assumption)) | exact .inr (.inr ⟨by assumption, bne_true (by assumption)⟩)))).symm, hw.below⟩
   ·
    replace h27 := of_decide_eq_false h27
    refine Wk.exit rfl ?_
    refine Kt.sel [9] [_] rfl ?_
    refine Wk.seq ?_
    refine Wk.regionQ ?_
    refine Lq.run 2 rfl ?_
    refine Lq.nil ?_
    refine Kt.sel [8] [_] rfl ?_
    refine Wk.ret (Kt.end1 rfl rfl fun w' hw => ?_)
    exact ⟨ret_b (agree_end (k := k) (by omega) (by assumption) (by assumption) hg), hw.below⟩
 ·
  replace hg19 := not_true hg19
  refine Lq.pass rfl rfl rfl ?_
  refine Lq.pass rfl rfl rfl ?_
  refine Lq.pass rfl rfl rfl ?_
  refine Lq.run 1 rfl ?_
  refine Lq.nil ?_
  refine Kt.sel [2, 3, 4, 5, 23] [_, _, _, _, _] rfl ?_
  refine Wk.condT rfl ?_
  refine Wk.seq ?_
  refine Wk.regionQ ?_
  refine Lq.run 1 rfl ?_
  refine Lq.nil ?_
  refine Kt.sel [8] [_] rfl ?_
  refine Wk.ret (Kt.end1 rfl rfl fun w' hw => ?_)
  exact ⟨ret_b (by unfold agreeB; first | (rw [show validB a = false by assumption]; rfl) | (rw [show validB b = false by assumption, Bool.and_false]; rfl)), hw.below⟩
set_option maxHeartbeats 400000 in
/-- laws.FnExactAgreeUpTo -/
theorem lawAgree (a b : St) (vl : Value) (l : List (List UInt8)) (w : World) (h1a : a.set.length ≤ 9223372036854775807) (h2a : a.rel.length ≤ 9223372036854775807) (h1b : b.set.length ≤ 9223372036854775807) (h2b : b.rel.length ≤ 9223372036854775807) (hvl : Strs w vl l) (len_l : l.length ≤ 9223372036854775807) (fit_l : ∀ s ∈ l, s.length ≤ 9223372036854775807) (r : Int) :
    Calls Tryd.prog 9 [vS a, vS b, vl, i6_ r].toArray w fun en w' => en = .returned (.bool true) ∧ Below w.heap.size w w' := by
 refine fnStart (n := 53) (e := [(0, vS a), (1, vS b), (2, vl), (3, i6_ r)]) Tryd.func9 rfl rfl rfl rfl Ends.both ?_
 refine Wk.seq ?_
 refine Wk.region ?_
 refine Ll.box (v := vS a) rfl rfl rfl rfl rfl fun p4 hp4 => ?_
 show Ll _ _ (Own _ _ [_]) _ _ ((4, pt_ p4) :: _) _ _ _
 refine Ll.box (v := vS b) rfl rfl rfl rfl rfl fun p5 hp5 => ?_
 show Ll _ _ (Own _ _ [_, _]) _ _ ((5, pt_ p5) :: _) _ _ _
 refine Ll.run 1 rfl ?_
 refine Ll.nil ?_
 refine Kt.sel [2, 3, 4, 5] [_, _, _, _] rfl ?_
 refine Wk.seq ?_
 refine Wk.regionQ ?_
 refine Lq.run 1 rfl ?_
 refine Lq.nil ?_
 refine Kt.sel [2, 3, 4, 5, 9] [_, _, _, _, _] rfl ?_
 refine Wk.seq ?_
 refine Wk.regionQ ?_
 refine Lq.op rfl rfl rfl (OpQ.loadBox (cs := #[i6_ a.n, str a.set, str a.rel]) 1 rfl Tryd.isAgg23 rfl rfl Tryd.sizeOf23) ?_
 refine Lq.run 1 rfl ?_
 refine Lq.op (v := i6_ (szB a 1048576)) rfl rfl rfl (OpQ.call rfl Tryd.call13 rfl Own.stable (fun w1 hw1 => sz_ok a 1048576 w1 (by omega) (by omega) h1a h2a)) ?_
 refine Lq.run 1 rfl ?_
 refine Lq.nil ?_
 refine Kt.sel [2, 3, 4, 5, 9] [_, _, _, _, _] rfl ?_
 refine Wk.seq ?_
 refine Wk.seq ?_
 refine Wk.regionQ ?_
 refine Lq.run 2 rfl ?_
 refine Lq.nil ?_
 refine Kt.sel [2, 3, 4, 5, 9, 17] [_, _, _, _, _, _] rfl ?_
 refine Wk.cond (b := decide ((szB a 1048576) < (0 : Int))) rfl (fun h17 => ?_) (fun h17 => ?_)
 ·
  replace h17 := of_decide_eq_true h17
  refine Wk.seq ?_
  refine Wk.regionQ ?_
  refine Lq.run 1 rfl ?_
  refine Lq.nil ?_
  refine Kt.sel [8] [_] rfl ?_
  refine Wk.ret (Kt.end1 rfl rfl fun w' hw => ?_)
  exact ⟨ret_b (by first | rfl | (simp_all; done) | (simp_all; omega)), hw.below⟩
 ·
  replace h17 := of_decide_eq_false h17
  obtain ⟨hsa, hz0a, hz1a⟩ := szB_small (by omega) h17
  refine Wk.skip ?_
  refine Kt.sel [2, 3, 4, 5, 9] [_, _, _, _, _] rfl ?_
  refine Wk.seq ?_
  refine Wk.regionQ ?_
  refine Lq.op rfl rfl rfl (OpQ.loadBox (cs := #[i6_ b.n, str b.set, str b.rel]) 0 rfl Tryd.isAgg23 rfl rfl Tryd.sizeOf23) ?_
  refine Lq.run 1 rfl ?_
  refine Lq.op (v := i6_ (szB b (szB a 1048576))) rfl rfl rfl (OpQ.call rfl Tryd.call13 rfl Own.stable (fun w1 hw1 => sz_ok b (szB a 1048576) w1 (by omega) (by omega) h1b h2b)) ?_
  refine Lq.run 1 rfl ?_
  refine Lq.nil ?_
  refine Kt.sel [2, 3, 4, 5, 9] [_, _, _, _, _] rfl ?_
  refine Wk.seq ?_
  refine Wk.seq ?_
  refine Wk.regionQ ?_
  refine Lq.run 2 rfl ?_
  refine Lq.nil ?_
  refine Kt.sel [2, 3, 4, 5, 9, 22] [_, _, _, _, _, _] rfl ?_
  refine Wk.cond (b := decide ((szB b (szB a 1048576)) < (0 : Int))) rfl (fun h22 => ?_) (fun h22 => ?_)
  ·
   replace h22 := of_decide_eq_true h22
   refine Wk.seq ?_
   refine Wk.regionQ ?_
   refine Lq.run 1 rfl ?_
   refine Lq.nil ?_
   refine Kt.sel [8] [_] rfl ?_
   refine Wk.ret (Kt.end1 rfl rfl fun w' hw => ?_)
   exact ⟨ret_b (by first | rfl | (simp_all; done) | (simp_all; omega)), hw.below⟩
  ·
   replace h22 := of_decide_eq_false h22
   obtain ⟨hsb, hz0b, hz1b⟩ := szB_small (by omega) h22
   refine Wk.skip ?_
   refine Kt.sel [2, 3, 4, 5, 9] [_, _, _, _, _] rfl ?_
   refine Wk.seq ?_
   refine Wk.regionQ ?_
   refine Lq.run 2 rfl ?_
   refine Lq.op (v := i6_ (szZ l (szB b (szB a 1048576)))) rfl rfl rfl (OpQ.call rfl Tryd.call31 rfl Own.stable (fun w1 hw1 => szZ_ok vl l (szB b (szB a 1048576)) w1 (Row.own hvl hw1) (by omega) (by omega) len_l fit_l)) ?_
   refine Lq.run 1 rfl ?_
   refine Lq.nil ?_
   refine Kt.sel [2, 3, 4, 5, 9] [_, _, _, _, _] rfl ?_
   refine Wk.seq ?_
   refine Wk.seq ?_
   refine Wk.regionQ ?_
   refine Lq.run 2 rfl ?_
   refine Lq.nil ?_
   refine Kt.sel [2, 3, 4, 5, 27] [_, _, _, _, _] rfl ?_
   refine Wk.cond (b := decide ((szZ l (szB b (szB a 1048576))) < (0 : Int))) rfl (fun h27 => ?_) (fun h27 => ?_)
   ·
    replace h27 := of_decide_eq_true h27
    refine Wk.seq ?_
    refine Wk.regionQ ?_
    refine Lq.run 1 rfl ?_
    refine Lq.nil ?_
    refine Kt.sel [8] [_] rfl ?_
    refine Wk.ret (Kt.end1 rfl rfl fun w' hw => ?_)
    exact ⟨ret_b (by first | rfl | (simp_all; done) | (simp_all; omega)), hw.below⟩
   ·
    replace h27 := of_decide_eq_false h27
    have hlz := szZ_small (by omega) h27
    refine Wk.skip ?_
    refine Kt.sel [2, 3, 4, 5] [_, _, _, _] rfl ?_
    refine Wk.seq ?_
    refine Wk.regionO [(0, true), (2, true), (4, true), (6, true), (1, false), (3, false), (5, false), (7, false), (8, true)] Base.mixed (fun _ h => h.drawn) (by kernel_rfl) ?_
    refine Ld.take rfl rfl rfl rfl rfl (OpQ.loadBox (cs := #[i6_ a.n, str a.set, str a.rel]) 1 rfl Tryd.isAgg23 rfl rfl Tryd.sizeOf23) (fun _ h => h) ?_
    refine Ld.take rfl rfl rfl rfl rfl (OpQ.loadBox (cs := #[i6_ b.n, str b.set, str b.rel]) 0 rfl Tryd.isAgg23 rfl rfl Tryd.sizeOf23) (fun _ h => h) ?_
    refine Ld.run 2 rfl (fun _ h => h) ?_
    refine Ld.loud rfl ?_
    refine Ll.op (v := vS a) rfl rfl rfl (OpQ.call rfl Tryd.call15 rfl Own.stable (fun w1 hw1 => toSt_ok a w1 )) ?_
    refine Ll.nil (Ld.joint (fun _ h => h) ?_)
    refine Ld.loud rfl ?_
    refine Ll.op (v := vS b) rfl rfl rfl (OpQ.call rfl Tryd.call15 rfl Own.stable (fun w1 hw1 => toSt_ok b w1 )) ?_
    refine Ll.nil (Ld.joint (fun _ h => h) ?_)
    refine Ld.loud rfl ?_
    refine Ll.callRow (xs := [.tmp 32]) (m := l.length) (vs := strs l) (el := 9) (size := 1) rfl rfl rfl rfl Tryd.call33 rfl (fun w1 hw1 => toStr_ok vl l w1 (Row.own hvl hw1) (by omega)) fun p33 cap33 cur33 hp33 hcp33 hlp33 htp33 => ?_
    refine Ll.nil (Ld.joint (fun _ h => h.tail) ?_)
    refine Ld.loud rfl ?_
    refine Ll.op (v := bo_ (agreeB a b l r)) rfl rfl rfl (OpQ.call rfl Tryd.call36 rfl Own.stable (fun w1 hw1 => sAgree_ok a b (sl_ p33 l.length cap33) l r w1 hsa hsb (Own.row hw1 (i := 0) rfl (by simpa using htp33) (by simp) hlp33) (hlz.1) (hlz.2))) ?_
    refine Ll.nil (Ld.joint (fun _ h => h.tail) ?_)
    refine Ld.run 1 rfl (fun _ h => h.tail) ?_
    refine Ld.nil ?_
    refine Kt.sel [2, 3, 4, 5, 10] [_, _, _, _, _] rfl ?_
    refine Wk.seq ?_
    refine Wk.region ?_
    refine Ll.run 1 rfl ?_
    refine Ll.callRow (xs := [.tmp 36]) (m := l.length) (vs := strs l) (el := 9) (size := 1) rfl rfl rfl rfl Tryd.call33 rfl (fun w1 hw1 => toStr_ok vl l w1 (Row.own hvl hw1) (by omega)) fun p37 cap37 cur37 hp37 hcp37 hlp37 htp37 => ?_
    refine Ll.run 1 rfl ?_
    refine Ll.nil ?_
    refine Kt.sel [2, 3, 4, 5, 10, 11] [_, _, _, _, _, _] rfl ?_
    refine Wk.seq ?_
    refine Wk.regionD Base.mixed (fun _ h => h.drawn) (by kernel_rfl) ?_
    refine Lq.op rfl rfl rfl (OpQ.loadBox (cs := #[i6_ a.n, str a.set, str a.rel]) 3 rfl Tryd.isAgg23 rfl rfl Tryd.sizeOf23) ?_
    refine Lq.op (v := vS a) rfl rfl rfl (OpQ.call rfl Tryd.call15 rfl Own.stable (fun w1 hw1 => toSt_ok a w1 )) ?_
    refine Lq.op rfl rfl rfl (OpQ.loadBox (cs := #[i6_ b.n, str b.set, str b.rel]) 2 rfl Tryd.isAgg23 rfl rfl Tryd.sizeOf23) ?_
    refine Lq.op (v := vS b) rfl rfl rfl (OpQ.call rfl Tryd.call15 rfl Own.stable (fun w1 hw1 => toSt_ok b w1 )) ?_
    refine Lq.run 2 rfl ?_
    refine Lq.op (v := bo_ (agreeB a b l r)) rfl rfl rfl (OpQ.call rfl Tryd.call37 rfl Own.stable (fun w1 hw1 => iAgree_ok a b (sl_ p37 l.length cap37) l r w1 hsa hsb (Own.row hw1 (i := 0) rfl (by simpa using htp37) (by simp) hlp37) (hlz.1) (hlz.2))) ?_
    refine Lq.run 1 rfl ?_
    refine Lq.nil ?_
    refine Kt.sel [2, 10, 11, 12] [_, _, _, _] rfl ?_
    refine Wk.seq ?_
    refine Wk.seq ?_
    refine Wk.regionQ ?_
    refine Lq.run 2 rfl ?_
    refine Lq.op rfl rfl rfl (OpQ.bne rfl Tryd.runUnderlying4 rfl rfl) ?_
    refine Lq.nil ?_
    refine Kt.sel [2, 11, 47] [_, _, _] rfl ?_
    refine Wk.cond (b := (agreeB a b l r) != (agreeB a b l r)) rfl (fun h47 => ?_) (fun h47 => ?_)
    ·
     exact absurd h47 (by simp)
    ·
     refine Wk.skip ?_
     refine Kt.sel [2, 11] [_, _] rfl ?_
     refine Wk.seq ?_
     refine Wk.seq ?_
     refine Wk.region ?_
     refine Ll.run 2 rfl ?_
     refine Ll.callRow (xs := [.tmp 49]) (m := l.length) (vs := strs l) (el := 9) (size := 1) rfl rfl rfl rfl Tryd.call33 rfl (fun w1 hw1 => toStr_ok vl l w1 (Row.own hvl hw1) (by omega)) fun p50 cap50 cur50 hp50 hcp50 hlp50 htp50 => ?_
     refine Ll.op (v := bo_ true) rfl rfl rfl (OpQ.call rfl Tryd.call35 rfl Own.stable (fun w1 hw1 => known_b (beq_self_eq_true _) (eqStr_ok (sl_ p37 l.length cap37) (sl_ p50 l.length cap50) l l w1 (Own.row hw1 (i := 1) rfl (by simpa using htp37) (by simp) hlp37) (Own.row hw1 (i := 0) rfl (by simpa using htp50) (by simp) hlp50) (by first | (simp; done) | (simp; omega) | omega)))) ?_
     refine Ll.run 1 rfl ?_
     refine Ll.nil ?_
     refine Kt.sel [52] [_] rfl ?_
     refine Wk.condF rfl ?_
     refine Wk.skip ?_
     refine Kt.sel [] [] rfl ?_
     refine Wk.seq ?_
     refine Wk.regionQ ?_
     refine Lq.run 1 rfl ?_
     refine Lq.nil ?_
     refine Kt.sel [8] [_] rfl ?_
     refine Wk.ret (Kt.end1 rfl rfl fun w' hw => ?_)
     exact ⟨ret_b (by first | rfl | (simp_all; done) | (simp_all; omega)), hw.below⟩
end Go.Proofs.YtnfkmfdhmlombaaDoor
namespace Go.Proofs.YtnfkmfdhmlombaaDoor
open Go.ChangeShapes Go.WideShapes Go.ChangeAt Go.RowKit Go.Wk
namespace FnExactAgreeUpTo
def W0 : Array Value := #[vS ⟨0, [], []⟩, vS ⟨0, [], []⟩, .slice none 0 0, .int .i64 0]
set_option maxRecDepth 100000 in
/-- The contract of the row, at every world and every argument. -/
theorem contract (H : Type) (enc : TypeId × Value → H) (W : World) (base : Nat) (args : Array Value) (ds gs : List (DataW H)) (before : List MemPlace)
    (hval : ∀ (j : Nat) t v, Tryd.f9.params[j]? = some t → args[j]? = some v → Value.okWide Tryd.prog W .any base t v)
    (hW : DataW.Whole enc Tryd.prog Tryd.f9.params.toList Rows.fnExactAgreeUpToSpec.vars false W args.toList ds gs before) :
    Calls Tryd.prog 9 args W fun e W' => ∃ v, e = .returned v ∧ Rows.fnExactAgreeUpToSpec.post enc Tryd.prog Tryd.f9 false true false false W args v W' := by
  have hW' := hW
  obtain ⟨p, q, hA0, hV, rfl, hfz, hnd⟩ := hW
  have hA : DataW.TrodAll enc Tryd.prog W 0 (fun _ => true) true Tryd.f9.params.toList args.toList ds p := hA0
  rw [Tryd.params9] at hA hval
  obtain ⟨v0, vs0, d0, ds0, p0, q0, hargs0, rfl, rfl, h0, r0⟩ := trodAll_cons hA
  obtain ⟨v1, vs1, d1, ds1, p1, q1, hargs1, rfl, rfl, h1, r1⟩ := trodAll_cons r0
  obtain ⟨v2, vs2, d2, ds2, p2, q2, hargs2, rfl, rfl, h2, r2⟩ := trodAll_cons r1
  obtain ⟨v3, vs3, d3, ds3, p3, q3, hargs3, rfl, rfl, h3, r3⟩ := trodAll_cons r2
  obtain ⟨rfl, rfl, rfl⟩ := trodAll_nil r3
  obtain rfl : args = #[v0, v1, v2, v3] := by cases args; simp_all
  obtain ⟨a0, rfl, s0, t0, lo0, hi0⟩ := open_St Tryd.underlying23 (by kernel_rfl) (by kernel_rfl) rfl rfl rfl Tryd.underlying3 Tryd.underlying9 (hval 0 23 v0 rfl rfl) h0
  obtain ⟨a1, rfl, s1, t1, lo1, hi1⟩ := open_St Tryd.underlying23 (by kernel_rfl) (by kernel_rfl) rfl rfl rfl Tryd.underlying3 Tryd.underlying9 (hval 1 23 v1 rfl rfl) h1
  obtain ⟨l2, row2, len2, fit2⟩ := open_Z Tryd.underlying45 Tryd.underlying9 (by kernel_rfl) (hval 2 45 v2 rfl rfl) h2
  obtain ⟨a3, rfl, lo3, hi3⟩ := open_I Tryd.underlying3 (hval 3 3 v3 rfl rfl) h3
  have walk : Calls Tryd.prog 9 #[vS a0, vS a1, v2, .int .i64 a3] W fun e w' => e = .returned (.bool true) ∧ Below W.heap.size W w' := by
    exact lawAgree a0 a1 v2 l2 W s0 t0 s1 t1 row2 len2 fit2 a3
  refine walk.mono fun e W' ⟨he, hb⟩ => ⟨_, he, ?_⟩
  exact post_true laidOut (by rw [Tryd.params9]; intro t ht; simp only [List.mem_cons, List.not_mem_nil, or_false] at ht; rcases ht with rfl | rfl | rfl | rfl <;> exact ⟨by kernel_rfl, of_decide_eq_true (by kernel_rfl)⟩) rfl hW' rfl (by kernel_rfl) Tryd.underlying4 hb
theorem reads (os : Os) {H : Type} (enc : TypeId × Value → H) : ∃ places, DataW.whole enc Tryd.prog ((laidWorld os).forCall (fun _ _ => 0) ⟨#[], W0, []⟩).memory Tryd.f9.params.toList Rows.fnExactAgreeUpToSpec.vars false W0.toList 8 = some ([.agg [.lit (.int .i64 0), .lit (.string []), .lit (.string [])], .agg [.lit (.int .i64 0), .lit (.string []), .lit (.string [])], .nil, .lit (.int .i64 0)], [], places) :=
  ⟨[], by kernel_rfl⟩
set_option maxRecDepth 100000 in
theorem lifted (os : Os) (started : os.Started) (H : Type) (enc : TypeId × Value → H) (F : Stop.Interp) :
    ReturnsInHanded {} Tryd.checked os 9 .any ((OpenSpec.ofChange Rows.fnExactAgreeUpToSpec).preRow enc Tryd.prog Tryd.f9 Rows.fnExactAgreeUpToRow.domain false Rows.fnExactAgreeUpToRow.laid) (((OpenSpec.ofChange Rows.fnExactAgreeUpToSpec).at F).post enc Tryd.prog Tryd.f9 false true false false) := by
  obtain ⟨places, hx⟩ := reads os enc
  refine returnsInHanded_of_row (C := Tryd.checked) (s := OpenSpec.ofChange Rows.fnExactAgreeUpToSpec) own started (by kernel_rfl) Tryd.func9
    (witness_row_at (enc := enc) (C := Tryd.checked) false (laidWorld os) W0 rfl (by kernel_rfl) (by kernel_rfl) (by kernel_rfl)
      (OpenSpec.preRow_of_cond 8 hx (by kernel_rfl) (fun k hk => by cases hk) (by kernel_rfl) (laid_met os W0))) ?_
  intro W base args ds gs before hval hW _ _ _ hL _ _
  exact contract H enc W base args ds gs before hval hW
theorem k0 : (Rows.fnExactAgreeUpToRow.wf (OpenSpec.ofChange (OpenSpec.ofChange Rows.fnExactAgreeUpToSpec).bare)) = true := by kernel_rfl
theorem k3 : (Tryd.f9.params.all (Tryd.pinned.checked.prog.readableRec ·)) = true := by kernel_rfl
theorem k4 : (namedTie Tryd.pinned.checked.prog Rows.fnExactAgreeUpToRow.named (OpenSpec.ofChange Rows.fnExactAgreeUpToSpec).bare.vars) = true := by kernel_rfl
theorem k9 : ((Rows.fnExactAgreeUpToRow.inPlace == Tryd.pinned.checked.prog.inPlace 9)) = true := by kernel_rfl
theorem k10 : ((Rows.fnExactAgreeUpToRow.unfollowed == Tryd.pinned.checked.prog.unfollowed 9)) = true := by kernel_rfl
theorem k11 : ((Rows.fnExactAgreeUpToRow.recurses == Tryd.pinned.checked.prog.recurses 9)) = true := by kernel_rfl
theorem k12 : ((Rows.fnExactAgreeUpToRow.named == Tryd.pinned.checked.prog.varsNamed 9)) = true := by kernel_rfl
theorem k13 : ((Rows.fnExactAgreeUpToRow.maps == (Tryd.f9.params.toList ++ (OpenSpec.ofChange Rows.fnExactAgreeUpToSpec).bare.plain.varTypes Tryd.pinned.checked.prog).any (Tryd.pinned.checked.prog.mapsRec ·))) = true := by kernel_rfl
theorem k14 : ((Rows.fnExactAgreeUpToRow.ifaces == (Tryd.f9.params.toList ++ (OpenSpec.ofChange Rows.fnExactAgreeUpToSpec).bare.plain.varTypes Tryd.pinned.checked.prog).any (Tryd.pinned.checked.prog.ifacesRec ·))) = true := by kernel_rfl
theorem k15 : ((Rows.fnExactAgreeUpToRow.mapsOut == Tryd.pinned.checked.prog.mapsAmong Tryd.f9.resultTypes.toList)) = true := by kernel_rfl
theorem k16 : ((Rows.fnExactAgreeUpToRow.loops == (Tryd.f9.params.toList ++ (OpenSpec.ofChange Rows.fnExactAgreeUpToSpec).bare.plain.varTypes Tryd.pinned.checked.prog).any (Tryd.pinned.checked.prog.loopsFrom ·))) = true := by kernel_rfl
theorem k17 : ((Rows.fnExactAgreeUpToRow.wideKeys == (Tryd.f9.params.toList ++ (OpenSpec.ofChange Rows.fnExactAgreeUpToSpec).bare.plain.varTypes Tryd.pinned.checked.prog ++ Tryd.f9.resultTypes.toList).any (Tryd.pinned.checked.prog.wideKeysFrom ·))) = true := by kernel_rfl
theorem k19 : (Tryd.f9.resultTypes.all (fun t => Tryd.pinned.checked.prog.readableRec t && decide (t < Tryd.pinned.checked.prog.types.size))) = true := by kernel_rfl
theorem k20 : ((Rows.fnExactAgreeUpToRow.ifacesOut == Tryd.f9.resultTypes.toList.any (Tryd.pinned.checked.prog.ifacesRec ·))) = true := by kernel_rfl
theorem k21 : ((Rows.fnExactAgreeUpToRow.loopsOut == Tryd.f9.resultTypes.toList.any (Tryd.pinned.checked.prog.loopsFrom ·))) = true := by kernel_rfl
theorem k30 : ((Rows.fnExactAgreeUpToRow.veiled == (Tryd.f9.params.toList ++ (OpenSpec.ofChange Rows.fnExactAgreeUpToSpec).bare.plain.varTypes Tryd.pinned.checked.prog ++ Tryd.f9.resultTypes.toList).any (Tryd.pinned.checked.prog.veiledRec ·))) = true := by kernel_rfl
theorem k31 : (Rows.fnExactAgreeUpToRow.veiledFits Tryd.pinned.checked.prog Tryd.f9.params.toList (Tryd.f9.params.toList ++ (OpenSpec.ofChange Rows.fnExactAgreeUpToSpec).bare.plain.varTypes Tryd.pinned.checked.prog ++ Tryd.f9.resultTypes.toList)) = true := by kernel_rfl
theorem closed : joinedFacts Tryd.pinned.checked.prog 9 Tryd.f9 (OpenSpec.ofChange Rows.fnExactAgreeUpToSpec).bare Rows.fnExactAgreeUpToRow = true :=
  facts_of k0 Laid1 Laid2 k3 k4 (by kernel_rfl) Laid6 (by kernel_rfl) Laid8 k9 k10 k11 k12 k13 k14 k15 k16 k17 (by kernel_rfl) k19 k20 k21 Laid22 (by kernel_rfl) Laid24 Laid25 Laid26 Laid27 (by kernel_rfl) (by kernel_rfl) k30 k31
theorem said : Rows.FnExactAgreeUpToSaid :=
  OpenClaim.holds_of_cond 9 Tryd.f9 rfl rfl rfl rfl rfl rfl rfl ⟨rfl, rfl, rfl, rfl, rfl⟩ rfl rfl rfl rfl rfl (by kernel_rfl) Tryd.func9 closed
    (of_decide_eq_true (by kernel_rfl)) (by unfold Func.isWrapper; first | (rw [if_pos (by decide +kernel)]; kernel_rfl) | (rw [if_neg (by decide +kernel)]; exact ⟨rfl, rfl⟩))
    (fun os started H enc _ F => by rw [OpenClaim.pre_eq_preRow]; exact lifted os started H enc F)
theorem plain (f : FuncId) (fn : Func) (hf : Tryd.pinned.checked.prog.funcNamed Rows.fnExactAgreeUpToRow.func = some f) (hfn : Tryd.pinned.checked.prog.funcs[f]? = some fn) :
    false = Tryd.pinned.checked.prog.looks [] ∧ ∀ (j : Nat) t, fn.params[j]? = some t → Tryd.pinned.checked.prog.wantsStandIn t = false := by
  obtain rfl : f = 9 := Option.some.inj ((show Tryd.pinned.checked.prog.funcNamed Rows.fnExactAgreeUpToRow.func = some 9 by kernel_rfl).symm.trans hf) |>.symm
  obtain rfl : fn = Tryd.f9 := (Option.some.inj (Tryd.func9.symm.trans hfn)).symm
  refine ⟨by kernel_rfl, fun j t ht => ?_⟩
  rw [Tryd.params9] at ht
  have hm : t ∈ [23, 23, 45, 3] := by simpa using Array.mem_of_getElem? ht
  simp only [List.mem_cons, List.not_mem_nil, or_false] at hm
  rcases hm with rfl | rfl | rfl | rfl <;> (show Tryd.prog.wantsStandIn _ = false) <;> kernel_rfl
theorem hw : Rows.fnExactAgreeUpToRow.wfByText (OpenSpec.ofChange Rows.fnExactAgreeUpToSpec) = true := by kernel_rfl
theorem hm : Tryd.pinned.checked.prog.mainIs = some (Rows.fnExactAgreeUpToCard.stood.harness.1, Rows.fnExactAgreeUpToCard.stood.harness.2.toList) := by kernel_rfl
theorem hg : false = Rows.fnExactAgreeUpToRow.goesBy Tryd.pinned.checked.prog := by kernel_rfl
end FnExactAgreeUpTo
/-- The tied card. -/
theorem cardFnExactAgreeUpTo : Rows.FnExactAgreeUpToCardSaid :=
  Claim7.holds_tied_plain_at .later [] _ _ _ _ FnExactAgreeUpTo.said (fun _ h => by cases h) FnExactAgreeUpTo.hw (fun _ h => by cases h) fnExactAgreeUpTo_row_tie rfl ⟨rfl, rfl⟩ FnExactAgreeUpTo.hm rfl FnExactAgreeUpTo.plain FnExactAgreeUpTo.hg
end Go.Proofs.YtnfkmfdhmlombaaDoor
