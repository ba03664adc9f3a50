/-
  FnExactSeparates: all that its proof names (part 5)
-/
import Derived.Test.YtnfkmfdhmlombaaDoorKFnExactSeparatesd
import Derived.Test.YtnfkmfdhmlombaaDoorKFnExactSeparatesb
import Derived.Test.YtnfkmfdhmlombaaDoorKFnExactSeparatesa
namespace Go.Proofs.YtnfkmfdhmlombaaDoor
open Go.RowKit Go.Wk
set_option linter.unusedSimpArgs false
set_option maxHeartbeats 400000 in
/-- spec.l2Var -/
theorem l2Var_ok (f : List UInt8) (i : Int) (w : World) :
    Calls Tryd.prog 169 [str f, i6_ i].toArray w fun en w' => en = .returned (.int .i64 (varI f i)) ∧ Below w.heap.size w w' := by
 refine fnStart (n := 17) (e := [(0, str f), (1, i6_ i)]) Tryd.func169 rfl rfl rfl rfl Ends.both ?_
 refine Wk.seq ?_
 refine Wk.regionQ ?_
 refine Lq.run 1 rfl ?_
 refine Lq.nil ?_
 refine Kt.sel [0, 1] [_, _] rfl ?_
 refine Wk.seq ?_
 refine Wk.seq ?_
 refine Wk.regionQ ?_
 refine Lq.run 3 rfl ?_
 refine Lq.bool fun b7 hg7 => ?_
 cases b7
 ·
  replace hg7 := of_decide_eq_false hg7
  refine Lq.run 2 rfl ?_
  refine Lq.op (v := i6_ ((f.length : Int))) rfl rfl rfl (OpQ.lenStr rfl Tryd.runUnderlying9 rfl) ?_
  refine Lq.run 2 rfl ?_
  refine Lq.nil ?_
  refine Kt.sel [0, 1, 12] [_, _, _] rfl ?_
  refine Wk.cond (b := decide (((f.length : Int)) ≤ i)) rfl (fun h12 => ?_) (fun h12 => ?_)
  ·
   replace h12 := of_decide_eq_true h12
   refine Wk.seq ?_
   refine Wk.regionQ ?_
   refine Lq.run 1 rfl ?_
   refine Lq.nil ?_
   refine Kt.sel [4] [_] rfl ?_
   refine Wk.ret (Kt.end1 rfl rfl fun w' hw => ?_)
   exact ⟨ret_i (varI_out (by first | exact .inl (by omega) | exact .inr (by omega))).symm, hw.below⟩
  ·
   replace h12 := of_decide_eq_false h12
   refine Wk.skip ?_
   refine Kt.sel [0, 1] [_, _] rfl ?_
   refine Wk.seq ?_
   refine Wk.regionQ ?_
   refine Lq.run 2 rfl ?_
   refine Lq.op (v := .int .u8 (((f.getD ((i).toNat) 0).toNat : Int))) rfl rfl rfl (OpQ.indexStr rfl Tryd.runUnderlying9 rfl rfl (by omega) (by omega)) ?_
   refine Lq.op (v := i6_ (findS ([97, 98, 99, 100]) (((f.getD ((i).toNat) 0).toNat : Int)))) rfl rfl rfl (OpQ.call rfl Tryd.call178 rfl Own.stable (fun w1 hw1 => l15Find_ok ([97, 98, 99, 100]) (((f.getD ((i).toNat) 0).toNat : Int)) w1 (by decide))) ?_
   refine Lq.run 1 rfl ?_
   refine Lq.nil ?_
   refine Kt.sel [4] [_] rfl ?_
   refine Wk.ret (Kt.end1 rfl rfl fun w' hw => ?_)
   exact ⟨ret_i (varI_find (by omega) (by omega)), hw.below⟩
 ·
  replace hg7 := of_decide_eq_true hg7
  refine Lq.pass rfl rfl rfl ?_
  refine Lq.pass rfl rfl rfl ?_
  refine Lq.pass rfl rfl rfl ?_
  refine Lq.pass rfl rfl rfl ?_
  refine Lq.run 1 rfl ?_
  refine Lq.nil ?_
  refine Kt.sel [0, 1, 12] [_, _, _] rfl ?_
  refine Wk.condT rfl ?_
  refine Wk.seq ?_
  refine Wk.regionQ ?_
  refine Lq.run 1 rfl ?_
  refine Lq.nil ?_
  refine Kt.sel [4] [_] rfl ?_
  refine Wk.ret (Kt.end1 rfl rfl fun w' hw => ?_)
  exact ⟨ret_i (varI_out (by first | exact .inl (by omega) | exact .inr (by omega))).symm, hw.below⟩
theorem l2Var_at (f : List UInt8) (i : Int) (k : Nat) (w : World) (hi : i = (k : Int)) (hl : k < f.length) (hv : isV (f.getD k 0) = true) : Calls Tryd.prog 169 #[str f, .int .i64 i] w fun en w' => en = .returned (.int .i64 (vI (f.getD k 0) : Int)) ∧ Below w.heap.size w w' :=
  (l2Var_ok f i w).mono fun en w' ⟨h1, h2⟩ => ⟨by rw [h1, hi, (varI_nat hl hv).1], h2⟩
set_option maxHeartbeats 400000 in
/-- spec.l2End -/
theorem l2End_step (f : List UInt8) (i : Int) (w : World) (hf : f.length ≤ 1048576) (ih : ∀ (j : Int) (w : World), endM f j < endM f i → Calls Tryd.prog 168 #[str f, .int .i64 j] w fun en w' => en = .returned (.int .i64 (endI f j)) ∧ Below w.heap.size w w') :
    Calls Tryd.prog 168 [str f, i6_ i].toArray w fun en w' => en = .returned (.int .i64 (endI f i)) ∧ Below w.heap.size w w' := by
 refine fnStart (n := 77) (e := [(0, str f), (1, i6_ i)]) Tryd.func168 rfl rfl rfl rfl Ends.both ?_
 refine Wk.seq ?_
 refine Wk.regionQ ?_
 refine Lq.run 1 rfl ?_
 refine Lq.nil ?_
 refine Kt.sel [0, 1] [_, _] rfl ?_
 refine Wk.seq ?_
 refine Wk.seq ?_
 refine Wk.regionQ ?_
 refine Lq.run 3 rfl ?_
 refine Lq.bool fun b7 hg7 => ?_
 cases b7
 ·
  replace hg7 := of_decide_eq_false hg7
  refine Lq.run 2 rfl ?_
  refine Lq.op (v := i6_ ((f.length : Int))) rfl rfl rfl (OpQ.lenStr rfl Tryd.runUnderlying9 rfl) ?_
  refine Lq.run 2 rfl ?_
  refine Lq.nil ?_
  refine Kt.sel [0, 1, 12] [_, _, _] rfl ?_
  refine Wk.cond (b := decide (((f.length : Int)) ≤ i)) rfl (fun h12 => ?_) (fun h12 => ?_)
  ·
   replace h12 := of_decide_eq_true h12
   refine Wk.seq ?_
   refine Wk.regionQ ?_
   refine Lq.run 1 rfl ?_
   refine Lq.nil ?_
   refine Kt.sel [4] [_] rfl ?_
   refine Wk.ret (Kt.end1 rfl rfl fun w' hw => ?_)
   exact ⟨ret_i (by first | exact (endI_neg (by omega)).symm | exact (endI_out (by omega)).symm | (refine Eq.trans ?_ (endI_case (f := f) (i := i) (by omega) (by omega)).symm; unfold endC chI; repeat (first | rw [if_pos (by omega)] | rw [if_neg (by omega)]))), hw.below⟩
  ·
   replace h12 := of_decide_eq_false h12
   refine Wk.skip ?_
   refine Kt.sel [0, 1] [_, _] rfl ?_
   refine Wk.seq ?_
   refine Wk.seq ?_
   refine Wk.regionQ ?_
   refine Lq.run 2 rfl ?_
   refine Lq.op (v := .int .u8 (((f.getD ((i).toNat) 0).toNat : Int))) rfl rfl rfl (OpQ.indexStr rfl Tryd.runUnderlying9 rfl rfl (by omega) (by omega)) ?_
   refine Lq.nil ?_
   refine Kt.sel [0, 1, 15] [_, _, _] rfl ?_
   refine Wk.block ?_
   refine Wk.seq ?_
   refine Wk.seq ?_
   refine Wk.regionQ ?_
   refine Lq.run 2 rfl ?_
   refine Lq.nil ?_
   refine Kt.sel [0, 1, 15, 16] [_, _, _, _] rfl ?_
   refine Wk.cond (b := decide ((((f.getD ((i).toNat) 0).toNat : Int)) = (116 : Int))) rfl (fun h16 => ?_) (fun h16 => ?_)
   ·
    replace h16 := of_decide_eq_true h16
    refine Wk.skip ?_
    refine Kt.sel [0, 1, 15, 16] [_, _, _, _] rfl ?_
    refine Wk.condT (congrArg (fun b => some (Value.bool b)) (decide_eq_true h16)) ?_
    refine Wk.seq ?_
    refine Wk.regionQ ?_
    refine Lq.run 1 rfl ?_
    refine Lq.op rfl rfl rfl (OpQ.add rfl rfl rfl (by omega) (by omega)) ?_
    refine Lq.run 1 rfl ?_
    refine Lq.nil ?_
    refine Kt.sel [4] [_] rfl ?_
    refine Wk.ret (Kt.end1 rfl rfl fun w' hw => ?_)
    exact ⟨ret_i (by first | exact (endI_neg (by omega)).symm | exact (endI_out (by omega)).symm | (refine Eq.trans ?_ (endI_case (f := f) (i := i) (by omega) (by omega)).symm; unfold endC chI; repeat (first | rw [if_pos (by omega)] | rw [if_neg (by omega)]))), hw.below⟩
   ·
    replace h16 := of_decide_eq_false h16
    refine Wk.regionQ ?_
    refine Lq.run 2 rfl ?_
    refine Lq.nil ?_
    refine Kt.sel [0, 1, 15, 16] [_, _, _, _] rfl ?_
    refine Wk.cond (b := decide ((((f.getD ((i).toNat) 0).toNat : Int)) = (102 : Int))) rfl (fun h16_1 => ?_) (fun h16_1 => ?_)
    ·
     replace h16_1 := of_decide_eq_true h16_1
     refine Wk.seq ?_
     refine Wk.regionQ ?_
     refine Lq.run 1 rfl ?_
     refine Lq.op rfl rfl rfl (OpQ.add rfl rfl rfl (by omega) (by omega)) ?_
     refine Lq.run 1 rfl ?_
     refine Lq.nil ?_
     refine Kt.sel [4] [_] rfl ?_
     refine Wk.ret (Kt.end1 rfl rfl fun w' hw => ?_)
     exact ⟨ret_i (by first | exact (endI_neg (by omega)).symm | exact (endI_out (by omega)).symm | (refine Eq.trans ?_ (endI_case (f := f) (i := i) (by omega) (by omega)).symm; unfold endC chI; repeat (first | rw [if_pos (by omega)] | rw [if_neg (by omega)]))), hw.below⟩
    ·
     replace h16_1 := of_decide_eq_false h16_1
     refine Wk.seq ?_
     refine Wk.regionQ ?_
     refine Lq.run 2 rfl ?_
     refine Lq.nil ?_
     refine Kt.sel [0, 1, 15, 21] [_, _, _, _] rfl ?_
     refine Wk.cond (b := decide ((((f.getD ((i).toNat) 0).toNat : Int)) = (80 : Int))) rfl (fun h21 => ?_) (fun h21 => ?_)
     ·
      replace h21 := of_decide_eq_true h21
      refine Wk.seq ?_
      refine Wk.seq ?_
      refine Wk.regionQ ?_
      refine Lq.run 2 rfl ?_
      refine Lq.op rfl rfl rfl (OpQ.add rfl rfl rfl (by omega) (by omega)) ?_
      refine Lq.op (v := i6_ (varI f (i + (1 : Int)))) rfl rfl rfl (OpQ.call rfl Tryd.call169 rfl Own.stable (fun w1 hw1 => l2Var_ok f (i + (1 : Int)) w1 )) ?_
      refine Lq.run 1 rfl ?_
      refine Lq.nil ?_
      refine Kt.sel [1, 27] [_, _] rfl ?_
      refine Wk.cond (b := decide ((varI f (i + (1 : Int))) < (0 : Int))) rfl (fun h27 => ?_) (fun h27 => ?_)
      ·
       replace h27 := of_decide_eq_true h27
       refine Wk.seq ?_
       refine Wk.regionQ ?_
       refine Lq.run 1 rfl ?_
       refine Lq.nil ?_
       refine Kt.sel [4] [_] rfl ?_
       refine Wk.ret (Kt.end1 rfl rfl fun w' hw => ?_)
       exact ⟨ret_i (by first | exact (endI_neg (by omega)).symm | exact (endI_out (by omega)).symm | (refine Eq.trans ?_ (endI_case (f := f) (i := i) (by omega) (by omega)).symm; unfold endC chI; repeat (first | rw [if_pos (by omega)] | rw [if_neg (by omega)]))), hw.below⟩
      ·
       replace h27 := of_decide_eq_false h27
       refine Wk.skip ?_
       refine Kt.sel [1] [_] rfl ?_
       refine Wk.seq ?_
       refine Wk.regionQ ?_
       refine Lq.run 1 rfl ?_
       refine Lq.op rfl rfl rfl (OpQ.add rfl rfl rfl (by omega) (by omega)) ?_
       refine Lq.run 1 rfl ?_
       refine Lq.nil ?_
       refine Kt.sel [4] [_] rfl ?_
       refine Wk.ret (Kt.end1 rfl rfl fun w' hw => ?_)
       exact ⟨ret_i (by first | exact (endI_neg (by omega)).symm | exact (endI_out (by omega)).symm | (refine Eq.trans ?_ (endI_case (f := f) (i := i) (by omega) (by omega)).symm; unfold endC chI; repeat (first | rw [if_pos (by omega)] | rw [if_neg (by omega)]))), hw.below⟩
     ·
      replace h21 := of_decide_eq_false h21
      refine Wk.seq ?_
      refine Wk.seq ?_
      refine Wk.regionQ ?_
      refine Lq.run 2 rfl ?_
      refine Lq.nil ?_
      refine Kt.sel [0, 1, 15, 30] [_, _, _, _] rfl ?_
      refine Wk.cond (b := decide ((((f.getD ((i).toNat) 0).toNat : Int)) = (61 : Int))) rfl (fun h30 => ?_) (fun h30 => ?_)
      ·
       replace h30 := of_decide_eq_true h30
       refine Wk.skip ?_
       refine Kt.sel [0, 1, 15, 30] [_, _, _, _] rfl ?_
       refine Wk.condT (congrArg (fun b => some (Value.bool b)) (decide_eq_true h30)) ?_
       refine Wk.seq ?_
       refine Wk.seq ?_
       refine Wk.regionQ ?_
       refine Lq.run 2 rfl ?_
       refine Lq.op rfl rfl rfl (OpQ.add rfl rfl rfl (by omega) (by omega)) ?_
       refine Lq.op (v := i6_ (varI f (i + (1 : Int)))) rfl rfl rfl (OpQ.call rfl Tryd.call169 rfl Own.stable (fun w1 hw1 => l2Var_ok f (i + (1 : Int)) w1 )) ?_
       refine Lq.run 2 rfl ?_
       refine Lq.bool fun b38 hg38 => ?_
       cases b38
       ·
        replace hg38 := of_decide_eq_false hg38
        refine Lq.run 2 rfl ?_
        refine Lq.op rfl rfl rfl (OpQ.add rfl rfl rfl (by omega) (by omega)) ?_
        refine Lq.op (v := i6_ (varI f (i + (2 : Int)))) rfl rfl rfl (OpQ.call rfl Tryd.call169 rfl Own.stable (fun w1 hw1 => l2Var_ok f (i + (2 : Int)) w1 )) ?_
        refine Lq.run 2 rfl ?_
        refine Lq.nil ?_
        refine Kt.sel [1, 44] [_, _] rfl ?_
        refine Wk.cond (b := decide ((varI f (i + (2 : Int))) < (0 : Int))) rfl (fun h44 => ?_) (fun h44 => ?_)
        ·
         replace h44 := of_decide_eq_true h44
         refine Wk.seq ?_
         refine Wk.regionQ ?_
         refine Lq.run 1 rfl ?_
         refine Lq.nil ?_
         refine Kt.sel [4] [_] rfl ?_
         refine Wk.ret (Kt.end1 rfl rfl fun w' hw => ?_)
         exact ⟨ret_i (by first | exact (endI_neg (by omega)).symm | exact (endI_out (by omega)).symm | (refine Eq.trans ?_ (endI_case (f := f) (i := i) (by omega) (by omega)).symm; unfold endC chI; repeat (first | rw [if_pos (by omega)] | rw [if_neg (by omega)]))), hw.below⟩
        ·
         replace h44 := of_decide_eq_false h44
         refine Wk.skip ?_
         refine Kt.sel [1] [_] rfl ?_
         refine Wk.seq ?_
         refine Wk.regionQ ?_
         refine Lq.run 1 rfl ?_
         refine Lq.op rfl rfl rfl (OpQ.add rfl rfl rfl (by omega) (by omega)) ?_
         refine Lq.run 1 rfl ?_
         refine Lq.nil ?_
         refine Kt.sel [4] [_] rfl ?_
         refine Wk.ret (Kt.end1 rfl rfl fun w' hw => ?_)
         exact ⟨ret_i (by first | exact (endI_neg (by omega)).symm | exact (endI_out (by omega)).symm | (refine Eq.trans ?_ (endI_case (f := f) (i := i) (by omega) (by omega)).symm; unfold endC chI; repeat (first | rw [if_pos (by omega)] | rw [if_neg (by omega)]))), hw.below⟩
       ·
        replace hg38 := of_decide_eq_true hg38
        refine Lq.pass rfl rfl rfl ?_
        refine Lq.pass rfl rfl rfl ?_
        refine Lq.pass rfl rfl rfl ?_
        refine Lq.pass rfl rfl rfl ?_
        refine Lq.pass rfl rfl rfl ?_
        refine Lq.run 1 rfl ?_
        refine Lq.nil ?_
        refine Kt.sel [1, 44] [_, _] rfl ?_
        refine Wk.condT rfl ?_
        refine Wk.seq ?_
        refine Wk.regionQ ?_
        refine Lq.run 1 rfl ?_
        refine Lq.nil ?_
        refine Kt.sel [4] [_] rfl ?_
        refine Wk.ret (Kt.end1 rfl rfl fun w' hw => ?_)
        exact ⟨ret_i (by first | exact (endI_neg (by omega)).symm | exact (endI_out (by omega)).symm | (refine Eq.trans ?_ (endI_case (f := f) (i := i) (by omega) (by omega)).symm; unfold endC chI; repeat (first | rw [if_pos (by omega)] | rw [if_neg (by omega)]))), hw.below⟩
      ·
       replace h30 := of_decide_eq_false h30
       refine Wk.regionQ ?_
       refine Lq.run 2 rfl ?_
       refine Lq.nil ?_
       refine Kt.sel [0, 1, 15, 30] [_, _, _, _] rfl ?_
       refine Wk.cond (b := decide ((((f.getD ((i).toNat) 0).toNat : Int)) = (69 : Int))) rfl (fun h30_1 => ?_) (fun h30_1 => ?_)
       ·
        replace h30_1 := of_decide_eq_true h30_1
        refine Wk.seq ?_
        refine Wk.seq ?_
        refine Wk.regionQ ?_
        refine Lq.run 2 rfl ?_
        refine Lq.op rfl rfl rfl (OpQ.add rfl rfl rfl (by omega) (by omega)) ?_
        refine Lq.op (v := i6_ (varI f (i + (1 : Int)))) rfl rfl rfl (OpQ.call rfl Tryd.call169 rfl Own.stable (fun w1 hw1 => l2Var_ok f (i + (1 : Int)) w1 )) ?_
        refine Lq.run 2 rfl ?_
        refine Lq.bool fun b38 hg38_1 => ?_
        cases b38
        ·
         replace hg38_1 := of_decide_eq_false hg38_1
         refine Lq.run 2 rfl ?_
         refine Lq.op rfl rfl rfl (OpQ.add rfl rfl rfl (by omega) (by omega)) ?_
         refine Lq.op (v := i6_ (varI f (i + (2 : Int)))) rfl rfl rfl (OpQ.call rfl Tryd.call169 rfl Own.stable (fun w1 hw1 => l2Var_ok f (i + (2 : Int)) w1 )) ?_
         refine Lq.run 2 rfl ?_
         refine Lq.nil ?_
         refine Kt.sel [1, 44] [_, _] rfl ?_
         refine Wk.cond (b := decide ((varI f (i + (2 : Int))) < (0 : Int))) rfl (fun h44_1 => ?_) (fun h44_1 => ?_)
         ·
          replace h44_1 := of_decide_eq_true h44_1
          refine Wk.seq ?_
          refine Wk.regionQ ?_
          refine Lq.run 1 rfl ?_
          refine Lq.nil ?_
          refine Kt.sel [4] [_] rfl ?_
          refine Wk.ret (Kt.end1 rfl rfl fun w' hw => ?_)
          exact ⟨ret_i (by first | exact (endI_neg (by omega)).symm | exact (endI_out (by omega)).symm | (refine Eq.trans ?_ (endI_case (f := f) (i := i) (by omega) (by omega)).symm; unfold endC chI; repeat (first | rw [if_pos (by omega)] | rw [if_neg (by omega)]))), hw.below⟩
         ·
          replace h44_1 := of_decide_eq_false h44_1
          refine Wk.skip ?_
          refine Kt.sel [1] [_] rfl ?_
          refine Wk.seq ?_
          refine Wk.regionQ ?_
          refine Lq.run 1 rfl ?_
          refine Lq.op rfl rfl rfl (OpQ.add rfl rfl rfl (by omega) (by omega)) ?_
          refine Lq.run 1 rfl ?_
          refine Lq.nil ?_
          refine Kt.sel [4] [_] rfl ?_
          refine Wk.ret (Kt.end1 rfl rfl fun w' hw => ?_)
          exact ⟨ret_i (by first | exact (endI_neg (by omega)).symm | exact (endI_out (by omega)).symm | (refine Eq.trans ?_ (endI_case (f := f) (i := i) (by omega) (by omega)).symm; unfold endC chI; repeat (first | rw [if_pos (by omega)] | rw [if_neg (by omega)]))), hw.below⟩
        ·
         replace hg38_1 := of_decide_eq_true hg38_1
         refine Lq.pass rfl rfl rfl ?_
         refine Lq.pass rfl rfl rfl ?_
         refine Lq.pass rfl rfl rfl ?_
         refine Lq.pass rfl rfl rfl ?_
         refine Lq.pass rfl rfl rfl ?_
         refine Lq.run 1 rfl ?_
         refine Lq.nil ?_
         refine Kt.sel [1, 44] [_, _] rfl ?_
         refine Wk.condT rfl ?_
         refine Wk.seq ?_
         refine Wk.regionQ ?_
         refine Lq.run 1 rfl ?_
         refine Lq.nil ?_
         refine Kt.sel [4] [_] rfl ?_
         refine Wk.ret (Kt.end1 rfl rfl fun w' hw => ?_)
         exact ⟨ret_i (by first | exact (endI_neg (by omega)).symm | exact (endI_out (by omega)).symm | (refine Eq.trans ?_ (endI_case (f := f) (i := i) (by omega) (by omega)).symm; unfold endC chI; repeat (first | rw [if_pos (by omega)] | rw [if_neg (by omega)]))), hw.below⟩
       ·
        replace h30_1 := of_decide_eq_false h30_1
        refine Wk.seq ?_
        refine Wk.regionQ ?_
        refine Lq.run 2 rfl ?_
        refine Lq.nil ?_
        refine Kt.sel [0, 1, 15, 47] [_, _, _, _] rfl ?_
        refine Wk.cond (b := decide ((((f.getD ((i).toNat) 0).toNat : Int)) = (33 : Int))) rfl (fun h47 => ?_) (fun h47 => ?_)
        ·
         replace h47 := of_decide_eq_true h47
         refine Wk.seq ?_
         refine Wk.regionQ ?_
         refine Lq.run 2 rfl ?_
         refine Lq.op rfl rfl rfl (OpQ.add rfl rfl rfl (by omega) (by omega)) ?_
         refine Lq.op (v := i6_ (endI f (i + (1 : Int)))) rfl rfl rfl (OpQ.call rfl Tryd.call168 rfl Own.stable (fun w1 hw1 => ih (i + (1 : Int)) w1 (endM_lt (by omega) (by first | exact .inl (by omega) | exact .inr (by omega) | exact endI_gt (by omega))))) ?_
         refine Lq.run 1 rfl ?_
         refine Lq.nil ?_
         refine Kt.sel [4] [_] rfl ?_
         refine Wk.ret (Kt.end1 rfl rfl fun w' hw => ?_)
         exact ⟨ret_i (by first | exact (endI_neg (by omega)).symm | exact (endI_out (by omega)).symm | (refine Eq.trans ?_ (endI_case (f := f) (i := i) (by omega) (by omega)).symm; unfold endC chI; repeat (first | rw [if_pos (by omega)] | rw [if_neg (by omega)]))), hw.below⟩
        ·
         replace h47 := of_decide_eq_false h47
         refine Wk.seq ?_
         refine Wk.seq ?_
         refine Wk.regionQ ?_
         refine Lq.run 2 rfl ?_
         refine Lq.nil ?_
         refine Kt.sel [0, 1, 15, 53] [_, _, _, _] rfl ?_
         refine Wk.cond (b := decide ((((f.getD ((i).toNat) 0).toNat : Int)) = (38 : Int))) rfl (fun h53 => ?_) (fun h53 => ?_)
         ·
          replace h53 := of_decide_eq_true h53
          refine Wk.skip ?_
          refine Kt.sel [0, 1, 15, 53] [_, _, _, _] rfl ?_
          refine Wk.condT (congrArg (fun b => some (Value.bool b)) (decide_eq_true h53)) ?_
          refine Wk.seq ?_
          refine Wk.regionQ ?_
          refine Lq.run 3 rfl ?_
          refine Lq.op rfl rfl rfl (OpQ.add rfl rfl rfl (by omega) (by omega)) ?_
          refine Lq.op (v := i6_ (endI f (i + (1 : Int)))) rfl rfl rfl (OpQ.call rfl Tryd.call168 rfl Own.stable (fun w1 hw1 => ih (i + (1 : Int)) w1 (endM_lt (by omega) (by first | exact .inl (by omega) | exact .inr (by omega) | exact endI_gt (by omega))))) ?_
          refine Lq.op (v := i6_ (endI f (endI f (i + (1 : Int))))) rfl rfl rfl (OpQ.call rfl Tryd.call168 rfl Own.stable (fun w1 hw1 => ih (endI f (i + (1 : Int))) w1 (endM_lt (by omega) (by first | exact .inl (by omega) | exact .inr (by omega) | exact endI_gt (by omega))))) ?_
          refine Lq.run 1 rfl ?_
          refine Lq.nil ?_
          refine Kt.sel [4] [_] rfl ?_
          refine Wk.ret (Kt.end1 rfl rfl fun w' hw => ?_)
          exact ⟨ret_i (by first | exact (endI_neg (by omega)).symm | exact (endI_out (by omega)).symm | (refine Eq.trans ?_ (endI_case (f := f) (i := i) (by omega) (by omega)).symm; unfold endC chI; repeat (first | rw [if_pos (by omega)] | rw [if_neg (by omega)]))), hw.below⟩
         ·
          replace h53 := of_decide_eq_false h53
          refine Wk.regionQ ?_
          refine Lq.run 2 rfl ?_
          refine Lq.nil ?_
          refine Kt.sel [0, 1, 15, 53] [_, _, _, _] rfl ?_
          refine Wk.cond (b := decide ((((f.getD ((i).toNat) 0).toNat : Int)) = (124 : Int))) rfl (fun h53_1 => ?_) (fun h53_1 => ?_)
          ·
           replace h53_1 := of_decide_eq_true h53_1
           refine Wk.seq ?_
           refine Wk.regionQ ?_
           refine Lq.run 3 rfl ?_
           refine Lq.op rfl rfl rfl (OpQ.add rfl rfl rfl (by omega) (by omega)) ?_
           refine Lq.op (v := i6_ (endI f (i + (1 : Int)))) rfl rfl rfl (OpQ.call rfl Tryd.call168 rfl Own.stable (fun w1 hw1 => ih (i + (1 : Int)) w1 (endM_lt (by omega) (by first | exact .inl (by omega) | exact .inr (by omega) | exact endI_gt (by omega))))) ?_
           refine Lq.op (v := i6_ (endI f (endI f (i + (1 : Int))))) rfl rfl rfl (OpQ.call rfl Tryd.call168 rfl Own.stable (fun w1 hw1 => ih (endI f (i + (1 : Int))) w1 (endM_lt (by omega) (by first | exact .inl (by omega) | exact .inr (by omega) | exact endI_gt (by omega))))) ?_
           refine Lq.run 1 rfl ?_
           refine Lq.nil ?_
           refine Kt.sel [4] [_] rfl ?_
           refine Wk.ret (Kt.end1 rfl rfl fun w' hw => ?_)
           exact ⟨ret_i (by first | exact (endI_neg (by omega)).symm | exact (endI_out (by omega)).symm | (refine Eq.trans ?_ (endI_case (f := f) (i := i) (by omega) (by omega)).symm; unfold endC chI; repeat (first | rw [if_pos (by omega)] | rw [if_neg (by omega)]))), hw.below⟩
          ·
           replace h53_1 := of_decide_eq_false h53_1
           refine Wk.seq ?_
           refine Wk.seq ?_
           refine Wk.regionQ ?_
           refine Lq.run 2 rfl ?_
           refine Lq.nil ?_
           refine Kt.sel [0, 1, 15, 62] [_, _, _, _] rfl ?_
           refine Wk.cond (b := decide ((((f.getD ((i).toNat) 0).toNat : Int)) = (65 : Int))) rfl (fun h62 => ?_) (fun h62 => ?_)
           ·
            replace h62 := of_decide_eq_true h62
            refine Wk.skip ?_
            refine Kt.sel [0, 1, 62] [_, _, _] rfl ?_
            refine Wk.condT (congrArg (fun b => some (Value.bool b)) (decide_eq_true h62)) ?_
            refine Wk.seq ?_
            refine Wk.seq ?_
            refine Wk.regionQ ?_
            refine Lq.run 2 rfl ?_
            refine Lq.op rfl rfl rfl (OpQ.add rfl rfl rfl (by omega) (by omega)) ?_
            refine Lq.op (v := i6_ (varI f (i + (1 : Int)))) rfl rfl rfl (OpQ.call rfl Tryd.call169 rfl Own.stable (fun w1 hw1 => l2Var_ok f (i + (1 : Int)) w1 )) ?_
            refine Lq.run 1 rfl ?_
            refine Lq.nil ?_
            refine Kt.sel [0, 1, 72] [_, _, _] rfl ?_
            refine Wk.cond (b := decide ((varI f (i + (1 : Int))) < (0 : Int))) rfl (fun h72 => ?_) (fun h72 => ?_)
            ·
             replace h72 := of_decide_eq_true h72
             refine Wk.seq ?_
             refine Wk.regionQ ?_
             refine Lq.run 1 rfl ?_
             refine Lq.nil ?_
             refine Kt.sel [4] [_] rfl ?_
             refine Wk.ret (Kt.end1 rfl rfl fun w' hw => ?_)
             exact ⟨ret_i (by first | exact (endI_neg (by omega)).symm | exact (endI_out (by omega)).symm | (refine Eq.trans ?_ (endI_case (f := f) (i := i) (by omega) (by omega)).symm; unfold endC chI; repeat (first | rw [if_pos (by omega)] | rw [if_neg (by omega)]))), hw.below⟩
            ·
             replace h72 := of_decide_eq_false h72
             refine Wk.skip ?_
             refine Kt.sel [0, 1] [_, _] rfl ?_
             refine Wk.seq ?_
             refine Wk.regionQ ?_
             refine Lq.run 2 rfl ?_
             refine Lq.op rfl rfl rfl (OpQ.add rfl rfl rfl (by omega) (by omega)) ?_
             refine Lq.op (v := i6_ (endI f (i + (2 : Int)))) rfl rfl rfl (OpQ.call rfl Tryd.call168 rfl Own.stable (fun w1 hw1 => ih (i + (2 : Int)) w1 (endM_lt (by omega) (by first | exact .inl (by omega) | exact .inr (by omega) | exact endI_gt (by omega))))) ?_
             refine Lq.run 1 rfl ?_
             refine Lq.nil ?_
             refine Kt.sel [4] [_] rfl ?_
             refine Wk.ret (Kt.end1 rfl rfl fun w' hw => ?_)
             exact ⟨ret_i (by first | exact (endI_neg (by omega)).symm | exact (endI_out (by omega)).symm | (refine Eq.trans ?_ (endI_case (f := f) (i := i) (by omega) (by omega)).symm; unfold endC chI; repeat (first | rw [if_pos (by omega)] | rw [if_neg (by omega)]))), hw.below⟩
           ·
            replace h62 := of_decide_eq_false h62
            refine Wk.seq ?_
            refine Wk.regionQ ?_
            refine Lq.run 2 rfl ?_
            refine Lq.nil ?_
            refine Kt.sel [0, 1, 15, 62] [_, _, _, _] rfl ?_
            refine Wk.cond (b := decide ((((f.getD ((i).toNat) 0).toNat : Int)) = (83 : Int))) rfl (fun h62_1 => ?_) (fun h62_1 => ?_)
            ·
             replace h62_1 := of_decide_eq_true h62_1
             refine Wk.skip ?_
             refine Kt.sel [0, 1, 62] [_, _, _] rfl ?_
             refine Wk.condT (congrArg (fun b => some (Value.bool b)) (decide_eq_true h62_1)) ?_
             refine Wk.seq ?_
             refine Wk.seq ?_
             refine Wk.regionQ ?_
             refine Lq.run 2 rfl ?_
             refine Lq.op rfl rfl rfl (OpQ.add rfl rfl rfl (by omega) (by omega)) ?_
             refine Lq.op (v := i6_ (varI f (i + (1 : Int)))) rfl rfl rfl (OpQ.call rfl Tryd.call169 rfl Own.stable (fun w1 hw1 => l2Var_ok f (i + (1 : Int)) w1 )) ?_
             refine Lq.run 1 rfl ?_
             refine Lq.nil ?_
             refine Kt.sel [0, 1, 72] [_, _, _] rfl ?_
             refine Wk.cond (b := decide ((varI f (i + (1 : Int))) < (0 : Int))) rfl (fun h72_1 => ?_) (fun h72_1 => ?_)
             ·
              replace h72_1 := of_decide_eq_true h72_1
              refine Wk.seq ?_
              refine Wk.regionQ ?_
              refine Lq.run 1 rfl ?_
              refine Lq.nil ?_
              refine Kt.sel [4] [_] rfl ?_
              refine Wk.ret (Kt.end1 rfl rfl fun w' hw => ?_)
              exact ⟨ret_i (by first | exact (endI_neg (by omega)).symm | exact (endI_out (by omega)).symm | (refine Eq.trans ?_ (endI_case (f := f) (i := i) (by omega) (by omega)).symm; unfold endC chI; repeat (first | rw [if_pos (by omega)] | rw [if_neg (by omega)]))), hw.below⟩
             ·
              replace h72_1 := of_decide_eq_false h72_1
              refine Wk.skip ?_
              refine Kt.sel [0, 1] [_, _] rfl ?_
              refine Wk.seq ?_
              refine Wk.regionQ ?_
              refine Lq.run 2 rfl ?_
              refine Lq.op rfl rfl rfl (OpQ.add rfl rfl rfl (by omega) (by omega)) ?_
              refine Lq.op (v := i6_ (endI f (i + (2 : Int)))) rfl rfl rfl (OpQ.call rfl Tryd.call168 rfl Own.stable (fun w1 hw1 => ih (i + (2 : Int)) w1 (endM_lt (by omega) (by first | exact .inl (by omega) | exact .inr (by omega) | exact endI_gt (by omega))))) ?_
              refine Lq.run 1 rfl ?_
              refine Lq.nil ?_
              refine Kt.sel [4] [_] rfl ?_
              refine Wk.ret (Kt.end1 rfl rfl fun w' hw => ?_)
              exact ⟨ret_i (by first | exact (endI_neg (by omega)).symm | exact (endI_out (by omega)).symm | (refine Eq.trans ?_ (endI_case (f := f) (i := i) (by omega) (by omega)).symm; unfold endC chI; repeat (first | rw [if_pos (by omega)] | rw [if_neg (by omega)]))), hw.below⟩
            ·
             replace h62_1 := of_decide_eq_false h62_1
             refine Wk.seq ?_
             refine Wk.regionQ ?_
             refine Lq.run 2 rfl ?_
             refine Lq.nil ?_
             refine Kt.sel [0, 1, 15, 62] [_, _, _, _] rfl ?_
             refine Wk.cond (b := decide ((((f.getD ((i).toNat) 0).toNat : Int)) = (50 : Int))) rfl (fun h62_2 => ?_) (fun h62_2 => ?_)
             ·
              replace h62_2 := of_decide_eq_true h62_2
              refine Wk.skip ?_
              refine Kt.sel [0, 1, 62] [_, _, _] rfl ?_
              refine Wk.condT (congrArg (fun b => some (Value.bool b)) (decide_eq_true h62_2)) ?_
              refine Wk.seq ?_
              refine Wk.seq ?_
              refine Wk.regionQ ?_
              refine Lq.run 2 rfl ?_
              refine Lq.op rfl rfl rfl (OpQ.add rfl rfl rfl (by omega) (by omega)) ?_
              refine Lq.op (v := i6_ (varI f (i + (1 : Int)))) rfl rfl rfl (OpQ.call rfl Tryd.call169 rfl Own.stable (fun w1 hw1 => l2Var_ok f (i + (1 : Int)) w1 )) ?_
              refine Lq.run 1 rfl ?_
              refine Lq.nil ?_
              refine Kt.sel [0, 1, 72] [_, _, _] rfl ?_
              refine Wk.cond (b := decide ((varI f (i + (1 : Int))) < (0 : Int))) rfl (fun h72_2 => ?_) (fun h72_2 => ?_)
              ·
               replace h72_2 := of_decide_eq_true h72_2
               refine Wk.seq ?_
               refine Wk.regionQ ?_
               refine Lq.run 1 rfl ?_
               refine Lq.nil ?_
               refine Kt.sel [4] [_] rfl ?_
               refine Wk.ret (Kt.end1 rfl rfl fun w' hw => ?_)
               exact ⟨ret_i (by first | exact (endI_neg (by omega)).symm | exact (endI_out (by omega)).symm | (refine Eq.trans ?_ (endI_case (f := f) (i := i) (by omega) (by omega)).symm; unfold endC chI; repeat (first | rw [if_pos (by omega)] | rw [if_neg (by omega)]))), hw.below⟩
              ·
               replace h72_2 := of_decide_eq_false h72_2
               refine Wk.skip ?_
               refine Kt.sel [0, 1] [_, _] rfl ?_
               refine Wk.seq ?_
               refine Wk.regionQ ?_
               refine Lq.run 2 rfl ?_
               refine Lq.op rfl rfl rfl (OpQ.add rfl rfl rfl (by omega) (by omega)) ?_
               refine Lq.op (v := i6_ (endI f (i + (2 : Int)))) rfl rfl rfl (OpQ.call rfl Tryd.call168 rfl Own.stable (fun w1 hw1 => ih (i + (2 : Int)) w1 (endM_lt (by omega) (by first | exact .inl (by omega) | exact .inr (by omega) | exact endI_gt (by omega))))) ?_
               refine Lq.run 1 rfl ?_
               refine Lq.nil ?_
               refine Kt.sel [4] [_] rfl ?_
               refine Wk.ret (Kt.end1 rfl rfl fun w' hw => ?_)
               exact ⟨ret_i (by first | exact (endI_neg (by omega)).symm | exact (endI_out (by omega)).symm | (refine Eq.trans ?_ (endI_case (f := f) (i := i) (by omega) (by omega)).symm; unfold endC chI; repeat (first | rw [if_pos (by omega)] | rw [if_neg (by omega)]))), hw.below⟩
             ·
              replace h62_2 := of_decide_eq_false h62_2
              refine Wk.seq ?_
              refine Wk.regionQ ?_
              refine Lq.run 2 rfl ?_
              refine Lq.nil ?_
              refine Kt.sel [0, 1, 15, 62] [_, _, _, _] rfl ?_
              refine Wk.cond (b := decide ((((f.getD ((i).toNat) 0).toNat : Int)) = (51 : Int))) rfl (fun h62_3 => ?_) (fun h62_3 => ?_)
              ·
               replace h62_3 := of_decide_eq_true h62_3
               refine Wk.skip ?_
               refine Kt.sel [0, 1, 62] [_, _, _] rfl ?_
               refine Wk.condT (congrArg (fun b => some (Value.bool b)) (decide_eq_true h62_3)) ?_
               refine Wk.seq ?_
               refine Wk.seq ?_
               refine Wk.regionQ ?_
               refine Lq.run 2 rfl ?_
               refine Lq.op rfl rfl rfl (OpQ.add rfl rfl rfl (by omega) (by omega)) ?_
               refine Lq.op (v := i6_ (varI f (i + (1 : Int)))) rfl rfl rfl (OpQ.call rfl Tryd.call169 rfl Own.stable (fun w1 hw1 => l2Var_ok f (i + (1 : Int)) w1 )) ?_
               refine Lq.run 1 rfl ?_
               refine Lq.nil ?_
               refine Kt.sel [0, 1, 72] [_, _, _] rfl ?_
               refine Wk.cond (b := decide ((varI f (i + (1 : Int))) < (0 : Int))) rfl (fun h72_3 => ?_) (fun h72_3 => ?_)
               ·
                replace h72_3 := of_decide_eq_true h72_3
                refine Wk.seq ?_
                refine Wk.regionQ ?_
                refine Lq.run 1 rfl ?_
                refine Lq.nil ?_
                refine Kt.sel [4] [_] rfl ?_
                refine Wk.ret (Kt.end1 rfl rfl fun w' hw => ?_)
                exact ⟨ret_i (by first | exact (endI_neg (by omega)).symm | exact (endI_out (by omega)).symm | (refine Eq.trans ?_ (endI_case (f := f) (i := i) (by omega) (by omega)).symm; unfold endC chI; repeat (first | rw [if_pos (by omega)] | rw [if_neg (by omega)]))), hw.below⟩
               ·
                replace h72_3 := of_decide_eq_false h72_3
                refine Wk.skip ?_
                refine Kt.sel [0, 1] [_, _] rfl ?_
                refine Wk.seq ?_
                refine Wk.regionQ ?_
                refine Lq.run 2 rfl ?_
                refine Lq.op rfl rfl rfl (OpQ.add rfl rfl rfl (by omega) (by omega)) ?_
                refine Lq.op (v := i6_ (endI f (i + (2 : Int)))) rfl rfl rfl (OpQ.call rfl Tryd.call168 rfl Own.stable (fun w1 hw1 => ih (i + (2 : Int)) w1 (endM_lt (by omega) (by first | exact .inl (by omega) | exact .inr (by omega) | exact endI_gt (by omega))))) ?_
                refine Lq.run 1 rfl ?_
                refine Lq.nil ?_
                refine Kt.sel [4] [_] rfl ?_
                refine Wk.ret (Kt.end1 rfl rfl fun w' hw => ?_)
                exact ⟨ret_i (by first | exact (endI_neg (by omega)).symm | exact (endI_out (by omega)).symm | (refine Eq.trans ?_ (endI_case (f := f) (i := i) (by omega) (by omega)).symm; unfold endC chI; repeat (first | rw [if_pos (by omega)] | rw [if_neg (by omega)]))), hw.below⟩
              ·
               replace h62_3 := of_decide_eq_false h62_3
               refine Wk.regionQ ?_
               refine Lq.run 2 rfl ?_
               refine Lq.nil ?_
               refine Kt.sel [0, 1, 62] [_, _, _] rfl ?_
               refine Wk.cond (b := decide ((((f.getD ((i).toNat) 0).toNat : Int)) = (52 : Int))) rfl (fun h62_4 => ?_) (fun h62_4 => ?_)
               ·
                replace h62_4 := of_decide_eq_true h62_4
                refine Wk.seq ?_
                refine Wk.seq ?_
                refine Wk.regionQ ?_
                refine Lq.run 2 rfl ?_
                refine Lq.op rfl rfl rfl (OpQ.add rfl rfl rfl (by omega) (by omega)) ?_
                refine Lq.op (v := i6_ (varI f (i + (1 : Int)))) rfl rfl rfl (OpQ.call rfl Tryd.call169 rfl Own.stable (fun w1 hw1 => l2Var_ok f (i + (1 : Int)) w1 )) ?_
                refine Lq.run 1 rfl ?_
                refine Lq.nil ?_
                refine Kt.sel [0, 1, 72] [_, _, _] rfl ?_
                refine Wk.cond (b := decide ((varI f (i + (1 : Int))) < (0 : Int))) rfl (fun h72_4 => ?_) (fun h72_4 => ?_)
                ·
                 replace h72_4 := of_decide_eq_true h72_4
                 refine Wk.seq ?_
                 refine Wk.regionQ ?_
                 refine Lq.run 1 rfl ?_
                 refine Lq.nil ?_
                 refine Kt.sel [4] [_] rfl ?_
                 refine Wk.ret (Kt.end1 rfl rfl fun w' hw => ?_)
                 exact ⟨ret_i (by first | exact (endI_neg (by omega)).symm | exact (endI_out (by omega)).symm | (refine Eq.trans ?_ (endI_case (f := f) (i := i) (by omega) (by omega)).symm; unfold endC chI; repeat (first | rw [if_pos (by omega)] | rw [if_neg (by omega)]))), hw.below⟩
                ·
                 replace h72_4 := of_decide_eq_false h72_4
                 refine Wk.skip ?_
                 refine Kt.sel [0, 1] [_, _] rfl ?_
                 refine Wk.seq ?_
                 refine Wk.regionQ ?_
                 refine Lq.run 2 rfl ?_
                 refine Lq.op rfl rfl rfl (OpQ.add rfl rfl rfl (by omega) (by omega)) ?_
                 refine Lq.op (v := i6_ (endI f (i + (2 : Int)))) rfl rfl rfl (OpQ.call rfl Tryd.call168 rfl Own.stable (fun w1 hw1 => ih (i + (2 : Int)) w1 (endM_lt (by omega) (by first | exact .inl (by omega) | exact .inr (by omega) | exact endI_gt (by omega))))) ?_
                 refine Lq.run 1 rfl ?_
                 refine Lq.nil ?_
                 refine Kt.sel [4] [_] rfl ?_
                 refine Wk.ret (Kt.end1 rfl rfl fun w' hw => ?_)
                 exact ⟨ret_i (by first | exact (endI_neg (by omega)).symm | exact (endI_out (by omega)).symm | (refine Eq.trans ?_ (endI_case (f := f) (i := i) (by omega) (by omega)).symm; unfold endC chI; repeat (first | rw [if_pos (by omega)] | rw [if_neg (by omega)]))), hw.below⟩
               ·
                replace h62_4 := of_decide_eq_false h62_4
                refine Wk.skip ?_
                refine Kt.sel [] [] rfl ?_
                refine Wk.seq ?_
                refine Wk.regionQ ?_
                refine Lq.run 1 rfl ?_
                refine Lq.nil ?_
                refine Kt.sel [4] [_] rfl ?_
                refine Wk.ret (Kt.end1 rfl rfl fun w' hw => ?_)
                exact ⟨ret_i (by first | exact (endI_neg (by omega)).symm | exact (endI_out (by omega)).symm | (refine Eq.trans ?_ (endI_case (f := f) (i := i) (by omega) (by omega)).symm; unfold endC chI; repeat (first | rw [if_pos (by omega)] | rw [if_neg (by omega)]))), hw.below⟩
 ·
  replace hg7 := of_decide_eq_true hg7
  refine Lq.pass rfl rfl rfl ?_
  refine Lq.pass rfl rfl rfl ?_
  refine Lq.pass rfl rfl rfl ?_
  refine Lq.pass rfl rfl rfl ?_
  refine Lq.run 1 rfl ?_
  refine Lq.nil ?_
  refine Kt.sel [0, 1, 12] [_, _, _] rfl ?_
  refine Wk.condT rfl ?_
  refine Wk.seq ?_
  refine Wk.regionQ ?_
  refine Lq.run 1 rfl ?_
  refine Lq.nil ?_
  refine Kt.sel [4] [_] rfl ?_
  refine Wk.ret (Kt.end1 rfl rfl fun w' hw => ?_)
  exact ⟨ret_i (by first | exact (endI_neg (by omega)).symm | exact (endI_out (by omega)).symm | (refine Eq.trans ?_ (endI_case (f := f) (i := i) (by omega) (by omega)).symm; unfold endC chI; repeat (first | rw [if_pos (by omega)] | rw [if_neg (by omega)]))), hw.below⟩
theorem l2End_ok (f : List UInt8) (i : Int) (w : World) (hf : f.length ≤ 1048576) : Calls Tryd.prog 168 #[str f, .int .i64 i] w fun en w' => en = .returned (.int .i64 (endI f i)) ∧ Below w.heap.size w w' := by
  have key : ∀ (m : Nat) (i : Int) (w : World), endM f i ≤ m → Calls Tryd.prog 168 #[str f, .int .i64 i] w fun en w' => en = .returned (.int .i64 (endI f i)) ∧ Below w.heap.size w w' := fun m => by
    induction m with
    | zero => exact fun i w hm => l2End_step f i w hf fun j w h5 => absurd h5 (by omega)
    | succ m ihm => exact fun i w hm => l2End_step f i w hf fun j w h5 => ihm j w (by omega)
  exact key _ i w (Nat.le_refl _)
set_option maxHeartbeats 400000 in
/-- spec.l2Quant -/
theorem l2Quant_ok (c : UInt8) (w : World) :
    Calls Tryd.prog 170 [.int .u8 ((c.toNat : Int))].toArray w fun en w' => en = .returned (.bool (decide (quI (c.toNat : Int)))) ∧ Below w.heap.size w w' := by
 refine fnStart (n := 6) (e := [(0, .int .u8 ((c.toNat : Int)))]) Tryd.func170 rfl rfl rfl rfl Ends.both ?_
 refine Wk.seq ?_
 refine Wk.regionQ ?_
 refine Lq.run 1 rfl ?_
 refine Lq.nil ?_
 refine Kt.sel [0] [_] rfl ?_
 refine Wk.seq ?_
 refine Wk.regionQ ?_
 refine Lq.run 1 rfl ?_
 refine Lq.op (v := i6_ (findS ([65, 83, 50, 51, 52]) ((c.toNat : Int)))) rfl rfl rfl (OpQ.call rfl Tryd.call178 rfl Own.stable (fun w1 hw1 => l15Find_ok ([65, 83, 50, 51, 52]) ((c.toNat : Int)) w1 (by decide))) ?_
 refine Lq.run 2 rfl ?_
 refine Lq.nil ?_
 refine Kt.sel [2] [_] rfl ?_
 refine Wk.ret (Kt.end1 rfl rfl fun w' hw => ?_)
 exact ⟨ret_b (find_quant c), hw.below⟩
set_option maxHeartbeats 400000 in
/-- spec.l2Free -/
theorem l2Free_step (f : List UInt8) (n : Nat) (p : Fm) (e : Nat) (w : World) (hf : f.length ≤ 1048576) (hP : Pa f n p e) (ih : ∀ (i : Int) (k : Nat) (p : Fm) (e : Nat) (w : World), i = (k : Int) → n < k → Pa f k p e → Calls Tryd.prog 137 #[str f, .int .i64 i] w fun en w' => en = .returned (.tuple #[.int .i64 (frB p : Int), .int .i64 (e : Int)]) ∧ Below w.heap.size w w') :
    Calls Tryd.prog 137 [str f, i6_ ((n : Int))].toArray w fun en w' => en = .returned (.tuple #[.int .i64 (frB p : Int), .int .i64 (e : Int)]) ∧ Below w.heap.size w w' := by
 refine fnStart (n := 113) (e := [(0, str f), (1, i6_ ((n : Int)))]) Tryd.func137 rfl rfl rfl rfl Ends.both ?_
 have hn := hP.lt
 have hne := hP.2
 refine Wk.seq ?_
 refine Wk.regionQ ?_
 refine Lq.run 2 rfl ?_
 refine Lq.nil ?_
 refine Kt.sel [0, 1] [_, _] rfl ?_
 refine Wk.seq ?_
 refine Wk.block ?_
 refine Wk.seq ?_
 refine Wk.regionQ ?_
 refine Lq.run 2 rfl ?_
 refine Lq.op (v := .int .u8 (((f.getD (((n : Int)).toNat) 0).toNat : Int))) rfl rfl rfl (OpQ.indexStr rfl Tryd.runUnderlying9 rfl rfl (by omega) (by omega)) ?_
 refine Lq.run 2 rfl ?_
 refine Lq.bool fun b17 hg17 => ?_
 cases b17
 ·
  replace hg17 := of_decide_eq_false hg17
  refine Lq.run 2 rfl ?_
  refine Lq.op (v := .int .u8 (((f.getD (((n : Int)).toNat) 0).toNat : Int))) rfl rfl rfl (OpQ.indexStr rfl Tryd.runUnderlying9 rfl rfl (by omega) (by omega)) ?_
  refine Lq.run 3 rfl ?_
  refine Lq.nil ?_
  refine Kt.sel [0, 1, 12] [_, _, _] rfl ?_
  refine Wk.cond (b := decide ((((f.getD (((n : Int)).toNat) 0).toNat : Int)) = (102 : Int))) rfl (fun h12 => ?_) (fun h12 => ?_)
  ·
   replace h12 := of_decide_eq_true h12
   refine Wk.seq ?_
   refine Wk.regionQ ?_
   refine Lq.run 1 rfl ?_
   refine Lq.op rfl rfl rfl (OpQ.add rfl rfl rfl (by omega) (by omega)) ?_
   refine Lq.run 2 rfl ?_
   refine Lq.nil ?_
   refine Kt.sel [4, 5] [_, _] rfl ?_
   refine Wk.ret (Kt.end2 rfl rfl rfl fun w' hw => ?_)
   obtain ⟨rfl, rfl⟩ := hP.i0 (by omega)
   exact ⟨rfl, hw.below⟩
  ·
   replace h12 := of_decide_eq_false h12
   refine Wk.seq ?_
   refine Wk.regionQ ?_
   refine Lq.run 2 rfl ?_
   refine Lq.op (v := .int .u8 (((f.getD (((n : Int)).toNat) 0).toNat : Int))) rfl rfl rfl (OpQ.indexStr rfl Tryd.runUnderlying9 rfl rfl (by omega) (by omega)) ?_
   refine Lq.run 2 rfl ?_
   refine Lq.nil ?_
   refine Kt.sel [0, 1, 25] [_, _, _] rfl ?_
   refine Wk.cond (b := decide ((((f.getD (((n : Int)).toNat) 0).toNat : Int)) = (80 : Int))) rfl (fun h25 => ?_) (fun h25 => ?_)
   ·
    replace h25 := of_decide_eq_true h25
    obtain ⟨hl1, hv1, rfl, rfl⟩ := hP.i1 (by omega)
    have hw1 := (vI_lt hv1).1
    have hb1 := bit_lt hw1
    refine Wk.seq ?_
    refine Wk.regionQ ?_
    refine Lq.run 2 rfl ?_
    refine Lq.op rfl rfl rfl (OpQ.add rfl rfl rfl (by omega) (by omega)) ?_
    refine Lq.op (v := i6_ ((vI (f.getD (n + 1) 0) : Int))) rfl rfl rfl (OpQ.call rfl Tryd.call169 rfl Own.stable (fun w1 hw1 => l2Var_at f (((n : Int)) + (1 : Int)) (n + 1) w1 (by omega) hl1 hv1)) ?_
    refine Lq.op (v := .int .u64 ((vI (f.getD (n + 1) 0) : Int))) rfl rfl rfl (OpQ.convInt .u64 rfl Tryd.underlying3 Tryd.underlying144 rfl (IntWalk.u64_in _ (by omega))) ?_
    refine Lq.op (v := i6_ (((1 * 2 ^ (vI (f.getD (n + 1) 0)) : Nat) : Int))) rfl rfl rfl (OpQ.shl (a := 1) (b := vI (f.getD (n + 1) 0)) rfl rfl rfl (by omega) (by omega)) ?_
    refine Lq.run 1 rfl ?_
    refine Lq.op rfl rfl rfl (OpQ.add rfl rfl rfl (by omega) (by omega)) ?_
    refine Lq.run 2 rfl ?_
    refine Lq.nil ?_
    refine Kt.sel [4, 5] [_, _] rfl ?_
    refine Wk.ret (Kt.end2 rfl rfl rfl fun w' hw => ?_)
    exact ⟨by rw [fre1 80] <;> rfl, hw.below⟩
   ·
    replace h25 := of_decide_eq_false h25
    refine Wk.seq ?_
    refine Wk.regionQ ?_
    refine Lq.run 2 rfl ?_
    refine Lq.op (v := .int .u8 (((f.getD (((n : Int)).toNat) 0).toNat : Int))) rfl rfl rfl (OpQ.indexStr rfl Tryd.runUnderlying9 rfl rfl (by omega) (by omega)) ?_
    refine Lq.run 2 rfl ?_
    refine Lq.bool fun b43 hg43 => ?_
    cases b43
    ·
     replace hg43 := of_decide_eq_false hg43
     refine Lq.run 2 rfl ?_
     refine Lq.op (v := .int .u8 (((f.getD (((n : Int)).toNat) 0).toNat : Int))) rfl rfl rfl (OpQ.indexStr rfl Tryd.runUnderlying9 rfl rfl (by omega) (by omega)) ?_
     refine Lq.run 3 rfl ?_
     refine Lq.nil ?_
     refine Kt.sel [0, 1, 38] [_, _, _] rfl ?_
     refine Wk.cond (b := decide ((((f.getD (((n : Int)).toNat) 0).toNat : Int)) = (69 : Int))) rfl (fun h38 => ?_) (fun h38 => ?_)
     ·
      replace h38 := of_decide_eq_true h38
      obtain ⟨hl2, hv1, hv2, rfl, rfl⟩ := hP.i2 (by omega)
      have hl1 : n + 1 < f.length := by omega
      have hw1 := (vI_lt hv1).1
      have hw2 := (vI_lt hv2).1
      have hb1 := bit_lt hw1
      have hb2 := bit_lt hw2
      refine Wk.seq ?_
      refine Wk.regionQ ?_
      refine Lq.run 2 rfl ?_
      refine Lq.op rfl rfl rfl (OpQ.add rfl rfl rfl (by omega) (by omega)) ?_
      refine Lq.op (v := i6_ ((vI (f.getD (n + 1) 0) : Int))) rfl rfl rfl (OpQ.call rfl Tryd.call169 rfl Own.stable (fun w1 hw1 => l2Var_at f (((n : Int)) + (1 : Int)) (n + 1) w1 (by omega) hl1 hv1)) ?_
      refine Lq.op (v := .int .u64 ((vI (f.getD (n + 1) 0) : Int))) rfl rfl rfl (OpQ.convInt .u64 rfl Tryd.underlying3 Tryd.underlying144 rfl (IntWalk.u64_in _ (by omega))) ?_
      refine Lq.op (v := i6_ (((1 * 2 ^ (vI (f.getD (n + 1) 0)) : Nat) : Int))) rfl rfl rfl (OpQ.shl (a := 1) (b := vI (f.getD (n + 1) 0)) rfl rfl rfl (by omega) (by omega)) ?_
      refine Lq.run 2 rfl ?_
      refine Lq.op rfl rfl rfl (OpQ.add rfl rfl rfl (by omega) (by omega)) ?_
      refine Lq.op (v := i6_ ((vI (f.getD (n + 2) 0) : Int))) rfl rfl rfl (OpQ.call rfl Tryd.call169 rfl Own.stable (fun w1 hw1 => l2Var_at f (((n : Int)) + (2 : Int)) (n + 2) w1 (by omega) hl2 hv2)) ?_
      refine Lq.op (v := .int .u64 ((vI (f.getD (n + 2) 0) : Int))) rfl rfl rfl (OpQ.convInt .u64 rfl Tryd.underlying3 Tryd.underlying144 rfl (IntWalk.u64_in _ (by omega))) ?_
      refine Lq.op (v := i6_ (((1 * 2 ^ (vI (f.getD (n + 2) 0)) : Nat) : Int))) rfl rfl rfl (OpQ.shl (a := 1) (b := vI (f.getD (n + 2) 0)) rfl rfl rfl (by omega) (by omega)) ?_
      refine Lq.op (v := i6_ ((((1 * 2 ^ (vI (f.getD (n + 1) 0))) ||| (1 * 2 ^ (vI (f.getD (n + 2) 0))) : Nat) : Int))) rfl rfl rfl (OpQ.or (a := 1 * 2 ^ (vI (f.getD (n + 1) 0))) (b := 1 * 2 ^ (vI (f.getD (n + 2) 0))) rfl rfl rfl (by omega) (by omega)) ?_
      refine Lq.run 1 rfl ?_
      refine Lq.op rfl rfl rfl (OpQ.add rfl rfl rfl (by omega) (by omega)) ?_
      refine Lq.run 2 rfl ?_
      refine Lq.nil ?_
      refine Kt.sel [4, 5] [_, _] rfl ?_
      refine Wk.ret (Kt.end2 rfl rfl rfl fun w' hw => ?_)
      exact ⟨by rw [fre2 (f.getD n 0)] <;> rfl, hw.below⟩
     ·
      replace h38 := of_decide_eq_false h38
      refine Wk.seq ?_
      refine Wk.regionQ ?_
      refine Lq.run 2 rfl ?_
      refine Lq.op (v := .int .u8 (((f.getD (((n : Int)).toNat) 0).toNat : Int))) rfl rfl rfl (OpQ.indexStr rfl Tryd.runUnderlying9 rfl rfl (by omega) (by omega)) ?_
      refine Lq.run 2 rfl ?_
      refine Lq.nil ?_
      refine Kt.sel [0, 1, 64] [_, _, _] rfl ?_
      refine Wk.cond (b := decide ((((f.getD (((n : Int)).toNat) 0).toNat : Int)) = (33 : Int))) rfl (fun h64 => ?_) (fun h64 => ?_)
      ·
       replace h64 := of_decide_eq_true h64
       obtain ⟨q, hq, rfl⟩ := hP.i3 (by omega)
       refine Wk.seq ?_
       refine Wk.regionQ ?_
       refine Lq.run 2 rfl ?_
       refine Lq.op rfl rfl rfl (OpQ.add rfl rfl rfl (by omega) (by omega)) ?_
       refine Lq.op (v := .tuple #[i6_ ((frB q : Int)), i6_ ((e : Int))]) rfl rfl rfl (OpQ.call rfl Tryd.call137 rfl Own.stable (fun w1 hw1 => ih (((n : Int)) + (1 : Int)) (n + 1) q e w1 (by omega) (by omega) hq)) ?_
       refine Lq.op (v := i6_ ((frB q : Int))) rfl rfl rfl (OpQ.extract rfl rfl rfl) ?_
       refine Lq.op (v := i6_ ((e : Int))) rfl rfl rfl (OpQ.extract rfl rfl rfl) ?_
       refine Lq.run 2 rfl ?_
       refine Lq.nil ?_
       refine Kt.sel [4, 5] [_, _] rfl ?_
       refine Wk.ret (Kt.end2 rfl rfl rfl fun w' hw => ?_)
       exact ⟨rfl, hw.below⟩
      ·
       replace h64 := of_decide_eq_false h64
       refine Wk.seq ?_
       refine Wk.regionQ ?_
       refine Lq.run 2 rfl ?_
       refine Lq.op (v := .int .u8 (((f.getD (((n : Int)).toNat) 0).toNat : Int))) rfl rfl rfl (OpQ.indexStr rfl Tryd.runUnderlying9 rfl rfl (by omega) (by omega)) ?_
       refine Lq.op (v := bo_ (decide (quI (((f.getD (((n : Int)).toNat) 0).toNat : Int))))) rfl rfl rfl (OpQ.call rfl Tryd.call170 rfl Own.stable (fun w1 hw1 => l2Quant_ok (f.getD (((n : Int)).toNat) 0) w1)) ?_
       refine Lq.run 1 rfl ?_
       refine Lq.nil ?_
       refine Kt.sel [0, 1, 75] [_, _, _] rfl ?_
       refine Wk.cond (b := decide (quI (((f.getD (((n : Int)).toNat) 0).toNat : Int)))) rfl (fun h75 => ?_) (fun h75 => ?_)
       ·
        replace h75 := of_decide_eq_true h75
        obtain ⟨hl1, hv1, q, hq, rfl⟩ := hP.i5 (by assumption)
        have hw1 := (vI_lt hv1).1
        have hb1 := bit_lt hw1
        have hf1 := frB_lt hq.wf
        refine Wk.seq ?_
        refine Wk.regionQ ?_
        refine Lq.run 2 rfl ?_
        refine Lq.op rfl rfl rfl (OpQ.add rfl rfl rfl (by omega) (by omega)) ?_
        refine Lq.op (v := .tuple #[i6_ ((frB q : Int)), i6_ ((e : Int))]) rfl rfl rfl (OpQ.call rfl Tryd.call137 rfl Own.stable (fun w1 hw1 => ih (((n : Int)) + (2 : Int)) (n + 2) q e w1 (by omega) (by omega) hq)) ?_
        refine Lq.run 1 rfl ?_
        refine Lq.op (v := i6_ ((frB q : Int))) rfl rfl rfl (OpQ.extract rfl rfl rfl) ?_
        refine Lq.op (v := i6_ ((e : Int))) rfl rfl rfl (OpQ.extract rfl rfl rfl) ?_
        refine Lq.run 2 rfl ?_
        refine Lq.nil ?_
        refine Kt.sel [0, 1, 6, 7] [_, _, _, _] rfl ?_
        refine Wk.seq ?_
        refine Wk.regionQ ?_
        refine Lq.run 3 rfl ?_
        refine Lq.op rfl rfl rfl (OpQ.add rfl rfl rfl (by omega) (by omega)) ?_
        refine Lq.op (v := i6_ ((vI (f.getD (n + 1) 0) : Int))) rfl rfl rfl (OpQ.call rfl Tryd.call169 rfl Own.stable (fun w1 hw1 => l2Var_at f (((n : Int)) + (1 : Int)) (n + 1) w1 (by omega) hl1 hv1)) ?_
        refine Lq.op (v := .int .u64 ((vI (f.getD (n + 1) 0) : Int))) rfl rfl rfl (OpQ.convInt .u64 rfl Tryd.underlying3 Tryd.underlying144 rfl (IntWalk.u64_in _ (by omega))) ?_
        refine Lq.op (v := i6_ (((1 * 2 ^ (vI (f.getD (n + 1) 0)) : Nat) : Int))) rfl rfl rfl (OpQ.shl (a := 1) (b := vI (f.getD (n + 1) 0)) rfl rfl rfl (by omega) (by omega)) ?_
        refine Lq.op (v := i6_ ((((frB q) &&& (15 ^^^ (1 * 2 ^ (vI (f.getD (n + 1) 0)))) : Nat) : Int))) rfl rfl rfl (OpQ.strike (a := frB q) (b := 1 * 2 ^ (vI (f.getD (n + 1) 0))) rfl rfl rfl (by omega) (by omega)) ?_
        refine Lq.run 3 rfl ?_
        refine Lq.nil ?_
        refine Kt.sel [4, 5] [_, _] rfl ?_
        refine Wk.ret (Kt.end2 rfl rfl rfl fun w' hw => ?_)
        exact ⟨by rw [freq (f.getD n 0)] <;> rfl, hw.below⟩
       ·
        replace h75 := of_decide_eq_false h75
        unfold quI at h75
        obtain ⟨q, m, q2, hq, hq2, rfl⟩ := hP.i4 (by have := hP.io; omega)
        have hqm := hq.2
        have hf1 := frB_lt hq.wf
        have hf2 := frB_lt hq2.wf
        refine Wk.skip ?_
        refine Kt.sel [0, 1] [_, _] rfl ?_
        refine Wk.seq ?_
        refine Wk.regionQ ?_
        refine Lq.run 2 rfl ?_
        refine Lq.op rfl rfl rfl (OpQ.add rfl rfl rfl (by omega) (by omega)) ?_
        refine Lq.op (v := .tuple #[i6_ ((frB q : Int)), i6_ ((m : Int))]) rfl rfl rfl (OpQ.call rfl Tryd.call137 rfl Own.stable (fun w1 hw1 => ih (((n : Int)) + (1 : Int)) (n + 1) q m w1 (by omega) (by omega) hq)) ?_
        refine Lq.run 1 rfl ?_
        refine Lq.op (v := i6_ ((frB q : Int))) rfl rfl rfl (OpQ.extract rfl rfl rfl) ?_
        refine Lq.op (v := i6_ ((m : Int))) rfl rfl rfl (OpQ.extract rfl rfl rfl) ?_
        refine Lq.run 2 rfl ?_
        refine Lq.nil ?_
        refine Kt.sel [0, 8, 9] [_, _, _] rfl ?_
        refine Wk.seq ?_
        refine Wk.regionQ ?_
        refine Lq.run 2 rfl ?_
        refine Lq.op (v := .tuple #[i6_ ((frB q2 : Int)), i6_ ((e : Int))]) rfl rfl rfl (OpQ.call rfl Tryd.call137 rfl Own.stable (fun w1 hw1 => ih ((m : Int)) m q2 e w1 (by omega) (by omega) hq2)) ?_
        refine Lq.run 1 rfl ?_
        refine Lq.op (v := i6_ ((frB q2 : Int))) rfl rfl rfl (OpQ.extract rfl rfl rfl) ?_
        refine Lq.op (v := i6_ ((e : Int))) rfl rfl rfl (OpQ.extract rfl rfl rfl) ?_
        refine Lq.run 2 rfl ?_
        refine Lq.nil ?_
        refine Kt.sel [8, 10, 11] [_, _, _] rfl ?_
        refine Wk.seq ?_
        refine Wk.regionQ ?_
        refine Lq.run 2 rfl ?_
        refine Lq.op (v := i6_ ((((frB q) ||| (frB q2) : Nat) : Int))) rfl rfl rfl (OpQ.or (a := frB q) (b := frB q2) rfl rfl rfl (by omega) (by omega)) ?_
        refine Lq.run 3 rfl ?_
        refine Lq.nil ?_
        refine Kt.sel [4, 5] [_, _] rfl ?_
        refine Wk.ret (Kt.end2 rfl rfl rfl fun w' hw => ?_)
        exact ⟨rfl, hw.below⟩
    ·
     replace hg43 := of_decide_eq_true hg43
     obtain ⟨hl2, hv1, hv2, rfl, rfl⟩ := hP.i2 (by omega)
     have hl1 : n + 1 < f.length := by omega
     have hw1 := (vI_lt hv1).1
     have hw2 := (vI_lt hv2).1
     have hb1 := bit_lt hw1
     have hb2 := bit_lt hw2
     refine Lq.pass rfl rfl rfl ?_
     refine Lq.pass rfl rfl rfl ?_
     refine Lq.pass rfl rfl rfl ?_
     refine Lq.pass rfl rfl rfl ?_
     refine Lq.run 2 rfl ?_
     refine Lq.nil ?_
     refine Kt.sel [0, 1, 38] [_, _, _] rfl ?_
     refine Wk.condT rfl ?_
     refine Wk.seq ?_
     refine Wk.regionQ ?_
     refine Lq.run 2 rfl ?_
     refine Lq.op rfl rfl rfl (OpQ.add rfl rfl rfl (by omega) (by omega)) ?_
     refine Lq.op (v := i6_ ((vI (f.getD (n + 1) 0) : Int))) rfl rfl rfl (OpQ.call rfl Tryd.call169 rfl Own.stable (fun w1 hw1 => l2Var_at f (((n : Int)) + (1 : Int)) (n + 1) w1 (by omega) hl1 hv1)) ?_
     refine Lq.op (v := .int .u64 ((vI (f.getD (n + 1) 0) : Int))) rfl rfl rfl (OpQ.convInt .u64 rfl Tryd.underlying3 Tryd.underlying144 rfl (IntWalk.u64_in _ (by omega))) ?_
     refine Lq.op (v := i6_ (((1 * 2 ^ (vI (f.getD (n + 1) 0)) : Nat) : Int))) rfl rfl rfl (OpQ.shl (a := 1) (b := vI (f.getD (n + 1) 0)) rfl rfl rfl (by omega) (by omega)) ?_
     refine Lq.run 2 rfl ?_
     refine Lq.op rfl rfl rfl (OpQ.add rfl rfl rfl (by omega) (by omega)) ?_
     refine Lq.op (v := i6_ ((vI (f.getD (n + 2) 0) : Int))) rfl rfl rfl (OpQ.call rfl Tryd.call169 rfl Own.stable (fun w1 hw1 => l2Var_at f (((n : Int)) + (2 : Int)) (n + 2) w1 (by omega) hl2 hv2)) ?_
     refine Lq.op (v := .int .u64 ((vI (f.getD (n + 2) 0) : Int))) rfl rfl rfl (OpQ.convInt .u64 rfl Tryd.underlying3 Tryd.underlying144 rfl (IntWalk.u64_in _ (by omega))) ?_
     refine Lq.op (v := i6_ (((1 * 2 ^ (vI (f.getD (n + 2) 0)) : Nat) : Int))) rfl rfl rfl (OpQ.shl (a := 1) (b := vI (f.getD (n + 2) 0)) rfl rfl rfl (by omega) (by omega)) ?_
     refine Lq.op (v := i6_ ((((1 * 2 ^ (vI (f.getD (n + 1) 0))) ||| (1 * 2 ^ (vI (f.getD (n + 2) 0))) : Nat) : Int))) rfl rfl rfl (OpQ.or (a := 1 * 2 ^ (vI (f.getD (n + 1) 0))) (b := 1 * 2 ^ (vI (f.getD (n + 2) 0))) rfl rfl rfl (by omega) (by omega)) ?_
     refine Lq.run 1 rfl ?_
     refine Lq.op rfl rfl rfl (OpQ.add rfl rfl rfl (by omega) (by omega)) ?_
     refine Lq.run 2 rfl ?_
     refine Lq.nil ?_
     refine Kt.sel [4, 5] [_, _] rfl ?_
     refine Wk.ret (Kt.end2 rfl rfl rfl fun w' hw => ?_)
     exact ⟨by rw [fre2 (f.getD n 0)] <;> rfl, hw.below⟩
 ·
  replace hg17 := of_decide_eq_true hg17
  refine Lq.pass rfl rfl rfl ?_
  refine Lq.pass rfl rfl rfl ?_
  refine Lq.pass rfl rfl rfl ?_
  refine Lq.pass rfl rfl rfl ?_
  refine Lq.run 2 rfl ?_
  refine Lq.nil ?_
  refine Kt.sel [0, 1, 12] [_, _, _] rfl ?_
  refine Wk.condT rfl ?_
  refine Wk.seq ?_
  refine Wk.regionQ ?_
  refine Lq.run 1 rfl ?_
  refine Lq.op rfl rfl rfl (OpQ.add rfl rfl rfl (by omega) (by omega)) ?_
  refine Lq.run 2 rfl ?_
  refine Lq.nil ?_
  refine Kt.sel [4, 5] [_, _] rfl ?_
  refine Wk.ret (Kt.end2 rfl rfl rfl fun w' hw => ?_)
  obtain ⟨rfl, rfl⟩ := hP.i0 (by omega)
  exact ⟨rfl, hw.below⟩
theorem l2Free_ok (f : List UInt8) (i : Int) (n : Nat) (p : Fm) (e : Nat) (w : World) (hf : f.length ≤ 1048576) (hi : i = (n : Int)) (hP : Pa f n p e) : Calls Tryd.prog 137 #[str f, .int .i64 i] w fun en w' => en = .returned (.tuple #[.int .i64 (frB p : Int), .int .i64 (e : Int)]) ∧ Below w.heap.size w w' := by
  have key : ∀ (m n : Nat) (p : Fm) (e : Nat) (w : World), f.length - n ≤ m → Pa f n p e → Calls Tryd.prog 137 #[str f, .int .i64 ((n : Int))] w fun en w' => en = .returned (.tuple #[.int .i64 (frB p : Int), .int .i64 (e : Int)]) ∧ Below w.heap.size w w' := fun m => by
    induction m with
    | zero => exact fun n p e w hm hP => absurd hP.lt (by omega)
    | succ m ihm => exact fun n p e w hm hP => l2Free_step f n p e w hf hP fun i k p e w h1 h2 h3 => by subst h1; exact ihm k p e w (by have := h3.lt; omega) h3
  subst hi; exact key _ n p e w (Nat.le_refl _) hP
set_option maxHeartbeats 1600000 in
/-- spec.l2Holds -/
theorem l2Holds_step (a : St) (f : List UInt8) (n : Nat) (p : Fm) (e : Nat) (en4 : List Int) (w : World) (hf : f.length ≤ 1048576) (ha : a.Fine) (_hsa : a.Small) (hP : Pa f n p e) (hE : EnvA a en4) (ih : ∀ (i : Int) (k : Nat) (p : Fm) (e : Nat) (en4 : List Int) (w : World), i = (k : Int) → n < k → Pa f k p e → EnvA a en4 → Calls Tryd.prog 171 #[vS a, str f, .int .i64 i, .agg (ints en4).toArray] w fun en w' => en = .returned (.tuple #[.bool (ev a p en4), .int .i64 (e : Int)]) ∧ Below w.heap.size w w') :
    Calls Tryd.prog 171 [vS a, str f, i6_ ((n : Int)), .agg ((ints en4).toArray)].toArray w fun en w' => en = .returned (.tuple #[.bool (ev a p en4), .int .i64 (e : Int)]) ∧ Below w.heap.size w w' := by
 refine fnStart (n := 182) (e := [(0, vS a), (1, str f), (2, i6_ ((n : Int))), (3, .agg ((ints en4).toArray))]) Tryd.func171 rfl rfl rfl rfl Ends.both ?_
 have hn := hP.lt
 have hne := hP.2
 have hE4 := hE.1
 have hcn : ((f.getD (n : Int).toNat 0).toNat : Int) = ((f.getD n 0).toNat : Int) := rfl
 refine Wk.seq ?_
 refine Wk.region ?_
 refine Ll.box (v := vS a) rfl rfl rfl rfl rfl fun p4 hp4 => ?_
 show Ll _ _ (Own _ _ [_]) _ _ ((4, pt_ p4) :: _) _ _ _
 refine Ll.box (v := .agg ((ints en4).toArray)) rfl rfl rfl rfl rfl fun p7 hp7 => ?_
 show Ll _ _ (Own _ _ [_, _]) _ _ ((7, pt_ p7) :: _) _ _ _
 refine Ll.run 2 rfl ?_
 refine Ll.nil ?_
 refine Kt.sel [1, 2, 4, 7] [_, _, _, _] rfl ?_
 refine Wk.seq ?_
 refine Wk.seq ?_
 refine Wk.regionQ ?_
 refine Lq.run 2 rfl ?_
 refine Lq.op (v := .int .u8 (((f.getD (((n : Int)).toNat) 0).toNat : Int))) rfl rfl rfl (OpQ.indexStr rfl Tryd.runUnderlying9 rfl rfl (by omega) (by omega)) ?_
 refine Lq.nil ?_
 refine Kt.sel [1, 2, 4, 7, 21] [_, _, _, _, _] rfl ?_
 refine Wk.block ?_
 refine Wk.seq ?_
 refine Wk.seq ?_
 refine Wk.regionQ ?_
 refine Lq.run 2 rfl ?_
 refine Lq.nil ?_
 refine Kt.sel [1, 2, 4, 7, 21, 22] [_, _, _, _, _, _] rfl ?_
 refine Wk.cond (b := decide ((((f.getD (((n : Int)).toNat) 0).toNat : Int)) = (116 : Int))) rfl (fun h22 => ?_) (fun h22 => ?_)
 ·
  replace h22 := of_decide_eq_true h22
  refine Wk.skip ?_
  refine Kt.sel [1, 2, 4, 7, 21, 22] [_, _, _, _, _, _] rfl ?_
  refine Wk.condT (congrArg (fun b => some (Value.bool b)) (decide_eq_true h22)) ?_
  refine Wk.seq ?_
  refine Wk.regionQ ?_
  refine Lq.run 2 rfl ?_
  refine Lq.op (v := .int .u8 (((f.getD (((n : Int)).toNat) 0).toNat : Int))) rfl rfl rfl (OpQ.indexStr rfl Tryd.runUnderlying9 rfl rfl (by omega) (by omega)) ?_
  refine Lq.run 2 rfl ?_
  refine Lq.op rfl rfl rfl (OpQ.add rfl rfl rfl (by omega) (by omega)) ?_
  refine Lq.run 2 rfl ?_
  refine Lq.nil ?_
  refine Kt.sel [8, 9] [_, _] rfl ?_
  refine Wk.ret (Kt.end2 rfl rfl rfl fun w' hw => ?_)
  obtain ⟨rfl, rfl⟩ := hP.i0 (by omega)
  exact ⟨congrArg (fun b => Ending.returned (.tuple #[.bool b, _])) (ev_tf (by omega)), hw.below⟩
 ·
  replace h22 := of_decide_eq_false h22
  refine Wk.regionQ ?_
  refine Lq.run 2 rfl ?_
  refine Lq.nil ?_
  refine Kt.sel [1, 2, 4, 7, 21, 22] [_, _, _, _, _, _] rfl ?_
  refine Wk.cond (b := decide ((((f.getD (((n : Int)).toNat) 0).toNat : Int)) = (102 : Int))) rfl (fun h22_1 => ?_) (fun h22_1 => ?_)
  ·
   replace h22_1 := of_decide_eq_true h22_1
   refine Wk.seq ?_
   refine Wk.regionQ ?_
   refine Lq.run 2 rfl ?_
   refine Lq.op (v := .int .u8 (((f.getD (((n : Int)).toNat) 0).toNat : Int))) rfl rfl rfl (OpQ.indexStr rfl Tryd.runUnderlying9 rfl rfl (by omega) (by omega)) ?_
   refine Lq.run 2 rfl ?_
   refine Lq.op rfl rfl rfl (OpQ.add rfl rfl rfl (by omega) (by omega)) ?_
   refine Lq.run 2 rfl ?_
   refine Lq.nil ?_
   refine Kt.sel [8, 9] [_, _] rfl ?_
   refine Wk.ret (Kt.end2 rfl rfl rfl fun w' hw => ?_)
   obtain ⟨rfl, rfl⟩ := hP.i0 (by omega)
   exact ⟨congrArg (fun b => Ending.returned (.tuple #[.bool b, _])) (ev_tf (by omega)), hw.below⟩
  ·
   replace h22_1 := of_decide_eq_false h22_1
   refine Wk.seq ?_
   refine Wk.regionQ ?_
   refine Lq.run 2 rfl ?_
   refine Lq.nil ?_
   refine Kt.sel [1, 2, 4, 7, 21, 31] [_, _, _, _, _, _] rfl ?_
   refine Wk.cond (b := decide ((((f.getD (((n : Int)).toNat) 0).toNat : Int)) = (80 : Int))) rfl (fun h31 => ?_) (fun h31 => ?_)
   ·
    replace h31 := of_decide_eq_true h31
    obtain ⟨hl1, hv1, rfl, rfl⟩ := hP.i1 (by omega)
    have hw1 := (vI_lt hv1).1
    have hx1 := hE.at hw1
    refine Wk.seq ?_
    refine Wk.regionD Base.mixed (fun _ h => h.drawn) (by kernel_rfl) ?_
    refine Lq.op rfl rfl rfl (OpQ.loadBox (cs := #[i6_ a.n, str a.set, str a.rel]) 1 rfl Tryd.isAgg28 rfl rfl Tryd.sizeOf28) ?_
    refine Lq.run 2 rfl ?_
    refine Lq.op rfl rfl rfl (OpQ.add rfl rfl rfl (by omega) (by omega)) ?_
    refine Lq.op (v := i6_ ((vI (f.getD (n + 1) 0) : Int))) rfl rfl rfl (OpQ.call rfl Tryd.call169 rfl Own.stable (fun w1 hw1 => l2Var_at f (((n : Int)) + (1 : Int)) (n + 1) w1 (by omega) hl1 hv1)) ?_
    refine Lq.op (v := pf_ p7 ((vI (f.getD (n + 1) 0)))) rfl rfl rfl (OpQ.cast (v' := pf_ p7 ((vI (f.getD (n + 1) 0)))) (by first | rfl | (congr 3; omega)) (OpQ.indexArr (i := (vI (f.getD (n + 1) 0) : Int)) rfl Tryd.runUnderlying140 Tryd.sizeOf3 rfl rfl (by omega) (by omega))) ?_
    refine Lq.op (v := i6_ (en4.getD ((vI (f.getD (n + 1) 0))) 0)) rfl rfl rfl (OpQ.loadAt 0 rfl Tryd.isAgg3 rfl rfl (Go.Wk.ints_at (by first | (simp; done) | (simp; omega) | omega))) ?_
    refine Lq.op (v := bo_ (a.inSet (en4.getD ((vI (f.getD (n + 1) 0))) 0))) rfl rfl rfl (OpQ.call rfl Tryd.call90 rfl Own.stable (fun w1 hw1 => l1Set_ok a (en4.getD ((vI (f.getD (n + 1) 0))) 0) w1 ha (by first | assumption | exact St.Els.at (by assumption) (by omega) (by omega)))) ?_
    refine Lq.run 1 rfl ?_
    refine Lq.op rfl rfl rfl (OpQ.add rfl rfl rfl (by omega) (by omega)) ?_
    refine Lq.run 2 rfl ?_
    refine Lq.nil ?_
    refine Kt.sel [8, 9] [_, _] rfl ?_
    refine Wk.ret (Kt.end2 rfl rfl rfl fun w' hw => ?_)
    exact ⟨rfl, hw.below⟩
   ·
    replace h31 := of_decide_eq_false h31
    refine Wk.seq ?_
    refine Wk.regionQ ?_
    refine Lq.run 2 rfl ?_
    refine Lq.nil ?_
    refine Kt.sel [1, 2, 4, 7, 21, 43] [_, _, _, _, _, _] rfl ?_
    refine Wk.cond (b := decide ((((f.getD (((n : Int)).toNat) 0).toNat : Int)) = (61 : Int))) rfl (fun h43 => ?_) (fun h43 => ?_)
    ·
     replace h43 := of_decide_eq_true h43
     obtain ⟨hl2, hv1, hv2, rfl, rfl⟩ := hP.i2 (by omega)
     have hl1 : n + 1 < f.length := by omega
     have hw1 := (vI_lt hv1).1
     have hw2 := (vI_lt hv2).1
     have hx1 := hE.at hw1
     have hx2 := hE.at hw2
     refine Wk.seq ?_
     refine Wk.regionD Base.mixed (fun _ h => h.drawn) (by kernel_rfl) ?_
     refine Lq.run 2 rfl ?_
     refine Lq.op rfl rfl rfl (OpQ.add rfl rfl rfl (by omega) (by omega)) ?_
     refine Lq.op (v := i6_ ((vI (f.getD (n + 1) 0) : Int))) rfl rfl rfl (OpQ.call rfl Tryd.call169 rfl Own.stable (fun w1 hw1 => l2Var_at f (((n : Int)) + (1 : Int)) (n + 1) w1 (by omega) hl1 hv1)) ?_
     refine Lq.op (v := pf_ p7 ((vI (f.getD (n + 1) 0)))) rfl rfl rfl (OpQ.cast (v' := pf_ p7 ((vI (f.getD (n + 1) 0)))) (by first | rfl | (congr 3; omega)) (OpQ.indexArr (i := (vI (f.getD (n + 1) 0) : Int)) rfl Tryd.runUnderlying140 Tryd.sizeOf3 rfl rfl (by omega) (by omega))) ?_
     refine Lq.op (v := i6_ (en4.getD ((vI (f.getD (n + 1) 0))) 0)) rfl rfl rfl (OpQ.loadAt 0 rfl Tryd.isAgg3 rfl rfl (Go.Wk.ints_at (by first | (simp; done) | (simp; omega) | omega))) ?_
     refine Lq.run 2 rfl ?_
     refine Lq.op rfl rfl rfl (OpQ.add rfl rfl rfl (by omega) (by omega)) ?_
     refine Lq.op (v := i6_ ((vI (f.getD (n + 2) 0) : Int))) rfl rfl rfl (OpQ.call rfl Tryd.call169 rfl Own.stable (fun w1 hw1 => l2Var_at f (((n : Int)) + (2 : Int)) (n + 2) w1 (by omega) hl2 hv2)) ?_
     refine Lq.op (v := pf_ p7 ((vI (f.getD (n + 2) 0)))) rfl rfl rfl (OpQ.cast (v' := pf_ p7 ((vI (f.getD (n + 2) 0)))) (by first | rfl | (congr 3; omega)) (OpQ.indexArr (i := (vI (f.getD (n + 2) 0) : Int)) rfl Tryd.runUnderlying140 Tryd.sizeOf3 rfl rfl (by omega) (by omega))) ?_
     refine Lq.op (v := i6_ (en4.getD ((vI (f.getD (n + 2) 0))) 0)) rfl rfl rfl (OpQ.loadAt 0 rfl Tryd.isAgg3 rfl rfl (Go.Wk.ints_at (by first | (simp; done) | (simp; omega) | omega))) ?_
     refine Lq.run 2 rfl ?_
     refine Lq.op rfl rfl rfl (OpQ.add rfl rfl rfl (by omega) (by omega)) ?_
     refine Lq.run 2 rfl ?_
     refine Lq.nil ?_
     refine Kt.sel [8, 9] [_, _] rfl ?_
     refine Wk.ret (Kt.end2 rfl rfl rfl fun w' hw => ?_)
     exact ⟨congrArg (fun b => Ending.returned (.tuple #[.bool b, _])) (ev_eq (by assumption)), hw.below⟩
    ·
     replace h43 := of_decide_eq_false h43
     refine Wk.seq ?_
     refine Wk.regionQ ?_
     refine Lq.run 2 rfl ?_
     refine Lq.nil ?_
     refine Kt.sel [1, 2, 4, 7, 21, 60] [_, _, _, _, _, _] rfl ?_
     refine Wk.cond (b := decide ((((f.getD (((n : Int)).toNat) 0).toNat : Int)) = (69 : Int))) rfl (fun h60 => ?_) (fun h60 => ?_)
     ·
      replace h60 := of_decide_eq_true h60
      obtain ⟨hl2, hv1, hv2, rfl, rfl⟩ := hP.i2 (by omega)
      have hl1 : n + 1 < f.length := by omega
      have hw1 := (vI_lt hv1).1
      have hw2 := (vI_lt hv2).1
      have hx1 := hE.at hw1
      have hx2 := hE.at hw2
      refine Wk.seq ?_
      refine Wk.regionD Base.mixed (fun _ h => h.drawn) (by kernel_rfl) ?_
      refine Lq.op rfl rfl rfl (OpQ.loadBox (cs := #[i6_ a.n, str a.set, str a.rel]) 1 rfl Tryd.isAgg28 rfl rfl Tryd.sizeOf28) ?_
      refine Lq.run 2 rfl ?_
      refine Lq.op rfl rfl rfl (OpQ.add rfl rfl rfl (by omega) (by omega)) ?_
      refine Lq.op (v := i6_ ((vI (f.getD (n + 1) 0) : Int))) rfl rfl rfl (OpQ.call rfl Tryd.call169 rfl Own.stable (fun w1 hw1 => l2Var_at f (((n : Int)) + (1 : Int)) (n + 1) w1 (by omega) hl1 hv1)) ?_
      refine Lq.op (v := pf_ p7 ((vI (f.getD (n + 1) 0)))) rfl rfl rfl (OpQ.cast (v' := pf_ p7 ((vI (f.getD (n + 1) 0)))) (by first | rfl | (congr 3; omega)) (OpQ.indexArr (i := (vI (f.getD (n + 1) 0) : Int)) rfl Tryd.runUnderlying140 Tryd.sizeOf3 rfl rfl (by omega) (by omega))) ?_
      refine Lq.op (v := i6_ (en4.getD ((vI (f.getD (n + 1) 0))) 0)) rfl rfl rfl (OpQ.loadAt 0 rfl Tryd.isAgg3 rfl rfl (Go.Wk.ints_at (by first | (simp; done) | (simp; omega) | omega))) ?_
      refine Lq.run 2 rfl ?_
      refine Lq.op rfl rfl rfl (OpQ.add rfl rfl rfl (by omega) (by omega)) ?_
      refine Lq.op (v := i6_ ((vI (f.getD (n + 2) 0) : Int))) rfl rfl rfl (OpQ.call rfl Tryd.call169 rfl Own.stable (fun w1 hw1 => l2Var_at f (((n : Int)) + (2 : Int)) (n + 2) w1 (by omega) hl2 hv2)) ?_
      refine Lq.op (v := pf_ p7 ((vI (f.getD (n + 2) 0)))) rfl rfl rfl (OpQ.cast (v' := pf_ p7 ((vI (f.getD (n + 2) 0)))) (by first | rfl | (congr 3; omega)) (OpQ.indexArr (i := (vI (f.getD (n + 2) 0) : Int)) rfl Tryd.runUnderlying140 Tryd.sizeOf3 rfl rfl (by omega) (by omega))) ?_
      refine Lq.op (v := i6_ (en4.getD ((vI (f.getD (n + 2) 0))) 0)) rfl rfl rfl (OpQ.loadAt 0 rfl Tryd.isAgg3 rfl rfl (Go.Wk.ints_at (by first | (simp; done) | (simp; omega) | omega))) ?_
      refine Lq.op (v := bo_ (a.inRel (en4.getD ((vI (f.getD (n + 1) 0))) 0) (en4.getD ((vI (f.getD (n + 2) 0))) 0))) rfl rfl rfl (OpQ.call rfl Tryd.call91 rfl Own.stable (fun w1 hw1 => l1Rel_ok a (en4.getD ((vI (f.getD (n + 1) 0))) 0) (en4.getD ((vI (f.getD (n + 2) 0))) 0) w1 ha (by first | assumption | exact St.Els.at (by assumption) (by omega) (by omega)) (by first | assumption | exact St.Els.at (by assumption) (by omega) (by omega)))) ?_
      refine Lq.run 1 rfl ?_
      refine Lq.op rfl rfl rfl (OpQ.add rfl rfl rfl (by omega) (by omega)) ?_
      refine Lq.run 2 rfl ?_
      refine Lq.nil ?_
      refine Kt.sel [8, 9] [_, _] rfl ?_
      refine Wk.ret (Kt.end2 rfl rfl rfl fun w' hw => ?_)
      exact ⟨congrArg (fun b => Ending.returned (.tuple #[.bool b, _])) (ev_rel (by assumption)), hw.below⟩
     ·
      replace h60 := of_decide_eq_false h60
      refine Wk.seq ?_
      refine Wk.regionQ ?_
      refine Lq.run 2 rfl ?_
      refine Lq.nil ?_
      refine Kt.sel [1, 2, 4, 7, 21, 78] [_, _, _, _, _, _] rfl ?_
      refine Wk.cond (b := decide ((((f.getD (((n : Int)).toNat) 0).toNat : Int)) = (33 : Int))) rfl (fun h78 => ?_) (fun h78 => ?_)
      ·
       replace h78 := of_decide_eq_true h78
       obtain ⟨q, hq, rfl⟩ := hP.i3 (by omega)
       refine Wk.seq ?_
       refine Wk.regionQ ?_
       refine Lq.op rfl rfl rfl (OpQ.loadBox (cs := #[i6_ a.n, str a.set, str a.rel]) 1 rfl Tryd.isAgg28 rfl rfl Tryd.sizeOf28) ?_
       refine Lq.run 2 rfl ?_
       refine Lq.op rfl rfl rfl (OpQ.add rfl rfl rfl (by omega) (by omega)) ?_
       refine Lq.op rfl rfl rfl (OpQ.loadBox (cs := (ints en4).toArray) 0 rfl Tryd.isAgg140 rfl rfl (by intro w; rw [show (ints en4).toArray.size = 4 from by simp [hE.1]]; exact Tryd.sizeOf140 w)) ?_
       refine Lq.op (v := .tuple #[bo_ (ev a q en4), i6_ ((e : Int))]) rfl rfl rfl (OpQ.call rfl Tryd.call171 rfl Own.stable (fun w1 hw1 => ih (((n : Int)) + (1 : Int)) (n + 1) q e en4 w1 (by omega) (by omega) hq hE)) ?_
       refine Lq.run 1 rfl ?_
       refine Lq.op (v := bo_ (ev a q en4)) rfl rfl rfl (OpQ.extract rfl rfl rfl) ?_
       refine Lq.op (v := i6_ ((e : Int))) rfl rfl rfl (OpQ.extract rfl rfl rfl) ?_
       refine Lq.run 2 rfl ?_
       refine Lq.nil ?_
       refine Kt.sel [10, 11] [_, _] rfl ?_
       refine Wk.seq ?_
       refine Wk.regionQ ?_
       refine Lq.run 5 rfl ?_
       refine Lq.nil ?_
       refine Kt.sel [8, 9] [_, _] rfl ?_
       refine Wk.ret (Kt.end2 rfl rfl rfl fun w' hw => ?_)
       exact ⟨rfl, hw.below⟩
      ·
       replace h78 := of_decide_eq_false h78
       refine Wk.seq ?_
       refine Wk.seq ?_
       refine Wk.regionQ ?_
       refine Lq.run 2 rfl ?_
       refine Lq.nil ?_
       refine Kt.sel [1, 2, 4, 7, 21, 92] [_, _, _, _, _, _] rfl ?_
       refine Wk.cond (b := decide ((((f.getD (((n : Int)).toNat) 0).toNat : Int)) = (38 : Int))) rfl (fun h92 => ?_) (fun h92 => ?_)
       ·
        replace h92 := of_decide_eq_true h92
        obtain ⟨q, m, q2, hq, hq2, rfl⟩ := hP.i4 (by omega)
        have hqm := hq.2
        have hqm2 := hq2.2
        refine Wk.skip ?_
        refine Kt.sel [1, 2, 4, 7, 92] [_, _, _, _, _] rfl ?_
        refine Wk.condT (congrArg (fun b => some (Value.bool b)) (decide_eq_true h92)) ?_
        refine Wk.seq ?_
        refine Wk.regionQ ?_
        refine Lq.op rfl rfl rfl (OpQ.loadBox (cs := #[i6_ a.n, str a.set, str a.rel]) 1 rfl Tryd.isAgg28 rfl rfl Tryd.sizeOf28) ?_
        refine Lq.run 2 rfl ?_
        refine Lq.op rfl rfl rfl (OpQ.add rfl rfl rfl (by omega) (by omega)) ?_
        refine Lq.op rfl rfl rfl (OpQ.loadBox (cs := (ints en4).toArray) 0 rfl Tryd.isAgg140 rfl rfl (by intro w; rw [show (ints en4).toArray.size = 4 from by simp [hE.1]]; exact Tryd.sizeOf140 w)) ?_
        refine Lq.op (v := .tuple #[bo_ (ev a q en4), i6_ ((m : Int))]) rfl rfl rfl (OpQ.call rfl Tryd.call171 rfl Own.stable (fun w1 hw1 => ih (((n : Int)) + (1 : Int)) (n + 1) q m en4 w1 (by omega) (by omega) hq hE)) ?_
        refine Lq.run 1 rfl ?_
        refine Lq.op (v := bo_ (ev a q en4)) rfl rfl rfl (OpQ.extract rfl rfl rfl) ?_
        refine Lq.op (v := i6_ ((m : Int))) rfl rfl rfl (OpQ.extract rfl rfl rfl) ?_
        refine Lq.run 2 rfl ?_
        refine Lq.nil ?_
        refine Kt.sel [1, 2, 4, 7, 12, 13] [_, _, _, _, _, _] rfl ?_
        refine Wk.seq ?_
        refine Wk.seq ?_
        refine Wk.regionQ ?_
        refine Lq.run 3 rfl ?_
        refine Lq.op (v := .int .u8 (((f.getD (((n : Int)).toNat) 0).toNat : Int))) rfl rfl rfl (OpQ.indexStr rfl Tryd.runUnderlying9 rfl rfl (by omega) (by omega)) ?_
        refine Lq.run 1 rfl ?_
        refine Lq.op rfl rfl rfl (OpQ.beq rfl Tryd.runUnderlying4 rfl rfl) ?_
        refine Lq.nil ?_
        refine Kt.sel [1, 4, 7, 12, 13, 109] [_, _, _, _, _, _] rfl ?_
        refine Wk.cond (b := (ev a q en4) == (decide ((((f.getD (((n : Int)).toNat) 0).toNat : Int)) = (124 : Int)))) rfl (fun h109 => ?_) (fun h109 => ?_)
        ·
         have hb109 := h109
         refine Wk.seq ?_
         refine Wk.regionQ ?_
         refine Lq.run 3 rfl ?_
         refine Lq.op (v := i6_ ((e : Int))) rfl rfl rfl (OpQ.cast (by rw [hq2.endI]) (OpQ.call rfl Tryd.call168 rfl Own.stable (fun w1 hw1 => l2End_ok f ((m : Int)) w1 hf))) ?_
         refine Lq.run 2 rfl ?_
         refine Lq.nil ?_
         refine Kt.sel [8, 9] [_, _] rfl ?_
         refine Wk.ret (Kt.end2 rfl rfl rfl fun w' hw => ?_)
         exact ⟨congrArg (fun b => Ending.returned (.tuple #[.bool b, _])) (two_short (by omega) hb109), hw.below⟩
        ·
         have hb109 := h109
         refine Wk.skip ?_
         refine Kt.sel [1, 4, 7, 13] [_, _, _, _] rfl ?_
         refine Wk.seq ?_
         refine Wk.regionQ ?_
         refine Lq.op rfl rfl rfl (OpQ.loadBox (cs := #[i6_ a.n, str a.set, str a.rel]) 1 rfl Tryd.isAgg28 rfl rfl Tryd.sizeOf28) ?_
         refine Lq.run 2 rfl ?_
         refine Lq.op rfl rfl rfl (OpQ.loadBox (cs := (ints en4).toArray) 0 rfl Tryd.isAgg140 rfl rfl (by intro w; rw [show (ints en4).toArray.size = 4 from by simp [hE.1]]; exact Tryd.sizeOf140 w)) ?_
         refine Lq.op (v := .tuple #[bo_ (ev a q2 en4), i6_ ((e : Int))]) rfl rfl rfl (OpQ.call rfl Tryd.call171 rfl Own.stable (fun w1 hw1 => ih ((m : Int)) m q2 e en4 w1 (by omega) (by omega) hq2 hE)) ?_
         refine Lq.op (v := bo_ (ev a q2 en4)) rfl rfl rfl (OpQ.extract rfl rfl rfl) ?_
         refine Lq.op (v := i6_ ((e : Int))) rfl rfl rfl (OpQ.extract rfl rfl rfl) ?_
         refine Lq.run 2 rfl ?_
         refine Lq.nil ?_
         refine Kt.sel [8, 9] [_, _] rfl ?_
         refine Wk.ret (Kt.end2 rfl rfl rfl fun w' hw => ?_)
         exact ⟨congrArg (fun b => Ending.returned (.tuple #[.bool b, _])) (two_long (by omega) hb109), hw.below⟩
       ·
        replace h92 := of_decide_eq_false h92
        refine Wk.regionQ ?_
        refine Lq.run 2 rfl ?_
        refine Lq.nil ?_
        refine Kt.sel [1, 2, 4, 7, 92] [_, _, _, _, _] rfl ?_
        refine Wk.cond (b := decide ((((f.getD (((n : Int)).toNat) 0).toNat : Int)) = (124 : Int))) rfl (fun h92_1 => ?_) (fun h92_1 => ?_)
        ·
         replace h92_1 := of_decide_eq_true h92_1
         obtain ⟨q, m, q2, hq, hq2, rfl⟩ := hP.i4 (by omega)
         have hqm := hq.2
         have hqm2 := hq2.2
         refine Wk.seq ?_
         refine Wk.regionQ ?_
         refine Lq.op rfl rfl rfl (OpQ.loadBox (cs := #[i6_ a.n, str a.set, str a.rel]) 1 rfl Tryd.isAgg28 rfl rfl Tryd.sizeOf28) ?_
         refine Lq.run 2 rfl ?_
         refine Lq.op rfl rfl rfl (OpQ.add rfl rfl rfl (by omega) (by omega)) ?_
         refine Lq.op rfl rfl rfl (OpQ.loadBox (cs := (ints en4).toArray) 0 rfl Tryd.isAgg140 rfl rfl (by intro w; rw [show (ints en4).toArray.size = 4 from by simp [hE.1]]; exact Tryd.sizeOf140 w)) ?_
         refine Lq.op (v := .tuple #[bo_ (ev a q en4), i6_ ((m : Int))]) rfl rfl rfl (OpQ.call rfl Tryd.call171 rfl Own.stable (fun w1 hw1 => ih (((n : Int)) + (1 : Int)) (n + 1) q m en4 w1 (by omega) (by omega) hq hE)) ?_
         refine Lq.run 1 rfl ?_
         refine Lq.op (v := bo_ (ev a q en4)) rfl rfl rfl (OpQ.extract rfl rfl rfl) ?_
         refine Lq.op (v := i6_ ((m : Int))) rfl rfl rfl (OpQ.extract rfl rfl rfl) ?_
         refine Lq.run 2 rfl ?_
         refine Lq.nil ?_
         refine Kt.sel [1, 2, 4, 7, 12, 13] [_, _, _, _, _, _] rfl ?_
         refine Wk.seq ?_
         refine Wk.seq ?_
         refine Wk.regionQ ?_
         refine Lq.run 3 rfl ?_
         refine Lq.op (v := .int .u8 (((f.getD (((n : Int)).toNat) 0).toNat : Int))) rfl rfl rfl (OpQ.indexStr rfl Tryd.runUnderlying9 rfl rfl (by omega) (by omega)) ?_
         refine Lq.run 1 rfl ?_
         refine Lq.op rfl rfl rfl (OpQ.beq rfl Tryd.runUnderlying4 rfl rfl) ?_
         refine Lq.nil ?_
         refine Kt.sel [1, 4, 7, 12, 13, 109] [_, _, _, _, _, _] rfl ?_
         refine Wk.cond (b := (ev a q en4) == (decide ((((f.getD (((n : Int)).toNat) 0).toNat : Int)) = (124 : Int)))) rfl (fun h109_1 => ?_) (fun h109_1 => ?_)
         ·
          have hb109 := h109_1
          refine Wk.seq ?_
          refine Wk.regionQ ?_
          refine Lq.run 3 rfl ?_
          refine Lq.op (v := i6_ ((e : Int))) rfl rfl rfl (OpQ.cast (by rw [hq2.endI]) (OpQ.call rfl Tryd.call168 rfl Own.stable (fun w1 hw1 => l2End_ok f ((m : Int)) w1 hf))) ?_
          refine Lq.run 2 rfl ?_
          refine Lq.nil ?_
          refine Kt.sel [8, 9] [_, _] rfl ?_
          refine Wk.ret (Kt.end2 rfl rfl rfl fun w' hw => ?_)
          exact ⟨congrArg (fun b => Ending.returned (.tuple #[.bool b, _])) (two_short (by omega) hb109), hw.below⟩
         ·
          have hb109 := h109_1
          refine Wk.skip ?_
          refine Kt.sel [1, 4, 7, 13] [_, _, _, _] rfl ?_
          refine Wk.seq ?_
          refine Wk.regionQ ?_
          refine Lq.op rfl rfl rfl (OpQ.loadBox (cs := #[i6_ a.n, str a.set, str a.rel]) 1 rfl Tryd.isAgg28 rfl rfl Tryd.sizeOf28) ?_
          refine Lq.run 2 rfl ?_
          refine Lq.op rfl rfl rfl (OpQ.loadBox (cs := (ints en4).toArray) 0 rfl Tryd.isAgg140 rfl rfl (by intro w; rw [show (ints en4).toArray.size = 4 from by simp [hE.1]]; exact Tryd.sizeOf140 w)) ?_
          refine Lq.op (v := .tuple #[bo_ (ev a q2 en4), i6_ ((e : Int))]) rfl rfl rfl (OpQ.call rfl Tryd.call171 rfl Own.stable (fun w1 hw1 => ih ((m : Int)) m q2 e en4 w1 (by omega) (by omega) hq2 hE)) ?_
          refine Lq.op (v := bo_ (ev a q2 en4)) rfl rfl rfl (OpQ.extract rfl rfl rfl) ?_
          refine Lq.op (v := i6_ ((e : Int))) rfl rfl rfl (OpQ.extract rfl rfl rfl) ?_
          refine Lq.run 2 rfl ?_
          refine Lq.nil ?_
          refine Kt.sel [8, 9] [_, _] rfl ?_
          refine Wk.ret (Kt.end2 rfl rfl rfl fun w' hw => ?_)
          exact ⟨congrArg (fun b => Ending.returned (.tuple #[.bool b, _])) (two_long (by omega) hb109), hw.below⟩
        ·
         replace h92_1 := of_decide_eq_false h92_1
         have hqu : quI ((f.getD (n : Int).toNat 0).toNat : Int) := by have := hP.io; unfold quI; omega
         obtain ⟨hl1, hv1, q, hq, rfl⟩ := hP.i5 hqu
         have hw1 := (vI_lt hv1).1
         have hqm := hq.2
         have hm8 := ha.hi
         have hm1 := ha.lo
         refine Wk.skip ?_
         refine Kt.sel [1, 2, 4, 7] [_, _, _, _] rfl ?_
         refine Wk.seq ?_
         refine Wk.regionQ ?_
         refine Lq.run 1 rfl ?_
         refine Lq.nil ?_
         refine Kt.sel [1, 2, 4, 7, 14] [_, _, _, _, _] rfl ?_
         refine Wk.seq ?_
         refine Wk.seq ?_
         refine Wk.regionQ ?_
         refine Lq.run 2 rfl ?_
         refine Lq.op (v := .int .u8 (((f.getD (((n : Int)).toNat) 0).toNat : Int))) rfl rfl rfl (OpQ.indexStr rfl Tryd.runUnderlying9 rfl rfl (by omega) (by omega)) ?_
         refine Lq.nil ?_
         refine Kt.sel [1, 2, 4, 7, 14, 123] [_, _, _, _, _, _] rfl ?_
         refine Wk.join (σ := Unit) (fun _ => True) (fun _ => [(1, str f), (2, i6_ ((n : Int))), (4, pt_ p4), (7, pt_ p7), (14, i6_ ((need (f.getD n 0) a.n.toNat : Int)))]) (fun _ => Own w.heap.size w [bk_ p7 ((ints en4).toArray) 140, bk_ p4 #[i6_ a.n, str a.set, str a.rel] 28]) ?_ ?_
         ·
          refine Wk.block ?_
          refine Wk.seq ?_
          refine Wk.regionQ ?_
          refine Lq.run 2 rfl ?_
          refine Lq.nil ?_
          refine Kt.sel [1, 2, 4, 7, 14, 123, 124] [_, _, _, _, _, _, _] rfl ?_
          refine Wk.cond (b := decide ((((f.getD (((n : Int)).toNat) 0).toNat : Int)) = (65 : Int))) rfl (fun h124 => ?_) (fun h124 => ?_)
          ·
           replace h124 := of_decide_eq_true h124
           refine Wk.regionQ ?_
           refine Lq.op rfl rfl rfl (OpQ.fieldAddr rfl Tryd.runUnderlying28 rfl Tryd.sizeOf3 rfl rfl) ?_
           refine Lq.op rfl rfl rfl (OpQ.loadOwn 1 rfl Tryd.isAgg3 rfl rfl rfl) ?_
           refine Lq.run 1 rfl ?_
           refine Lq.nil ?_
           refine Kt.joined (()) trivial (Sub.cons rfl (Sub.cons rfl (Sub.cons rfl (Sub.cons rfl (Sub.cons (by rw [show ((need (f.getD n 0) a.n.toNat : Nat) : Int) = _ from need65 (by assumption) (by omega)]; rfl) Sub.nil))))) (fun _ h => h)
          ·
           replace h124 := of_decide_eq_false h124
           refine Wk.seq ?_
           refine Wk.seq ?_
           refine Wk.regionQ ?_
           refine Lq.run 2 rfl ?_
           refine Lq.nil ?_
           refine Kt.sel [1, 2, 4, 7, 14, 123, 128] [_, _, _, _, _, _, _] rfl ?_
           refine Wk.cond (b := decide ((((f.getD (((n : Int)).toNat) 0).toNat : Int)) = (50 : Int))) rfl (fun h128 => ?_) (fun h128 => ?_)
           ·
            replace h128 := of_decide_eq_true h128
            refine Wk.skip ?_
            refine Kt.sel [1, 2, 4, 7, 14, 128] [_, _, _, _, _, _] rfl ?_
            refine Wk.condT (congrArg (fun b => some (Value.bool b)) (decide_eq_true h128)) ?_
            refine Wk.regionQ ?_
            refine Lq.run 2 rfl ?_
            refine Lq.op (v := .int .u8 (((f.getD (((n : Int)).toNat) 0).toNat : Int))) rfl rfl rfl (OpQ.indexStr rfl Tryd.runUnderlying9 rfl rfl (by omega) (by omega)) ?_
            refine Lq.op (v := i6_ (((f.getD (((n : Int)).toNat) 0).toNat : Int))) rfl rfl rfl (OpQ.convInt .i64 rfl Tryd.underlying5 Tryd.underlying3 rfl (IntWalk.i64_in _ (by have := UInt8.toNat_lt (f.getD (((n : Int)).toNat) 0); omega))) ?_
            refine Lq.op rfl rfl rfl (OpQ.sub rfl rfl rfl (by omega) (by omega)) ?_
            refine Lq.run 1 rfl ?_
            refine Lq.nil ?_
            refine Kt.joined (()) trivial (Sub.cons rfl (Sub.cons rfl (Sub.cons rfl (Sub.cons rfl (Sub.cons (by rw [show ((need (f.getD n 0) a.n.toNat : Nat) : Int) = _ from need234 (by omega)]; rfl) Sub.nil))))) (fun _ h => h)
           ·
            replace h128 := of_decide_eq_false h128
            refine Wk.seq ?_
            refine Wk.regionQ ?_
            refine Lq.run 2 rfl ?_
            refine Lq.nil ?_
            refine Kt.sel [1, 2, 4, 7, 14, 123, 128] [_, _, _, _, _, _, _] rfl ?_
            refine Wk.cond (b := decide ((((f.getD (((n : Int)).toNat) 0).toNat : Int)) = (51 : Int))) rfl (fun h128_1 => ?_) (fun h128_1 => ?_)
            ·
             replace h128_1 := of_decide_eq_true h128_1
             refine Wk.skip ?_
             refine Kt.sel [1, 2, 4, 7, 14, 128] [_, _, _, _, _, _] rfl ?_
             refine Wk.condT (congrArg (fun b => some (Value.bool b)) (decide_eq_true h128_1)) ?_
             refine Wk.regionQ ?_
             refine Lq.run 2 rfl ?_
             refine Lq.op (v := .int .u8 (((f.getD (((n : Int)).toNat) 0).toNat : Int))) rfl rfl rfl (OpQ.indexStr rfl Tryd.runUnderlying9 rfl rfl (by omega) (by omega)) ?_
             refine Lq.op (v := i6_ (((f.getD (((n : Int)).toNat) 0).toNat : Int))) rfl rfl rfl (OpQ.convInt .i64 rfl Tryd.underlying5 Tryd.underlying3 rfl (IntWalk.i64_in _ (by have := UInt8.toNat_lt (f.getD (((n : Int)).toNat) 0); omega))) ?_
             refine Lq.op rfl rfl rfl (OpQ.sub rfl rfl rfl (by omega) (by omega)) ?_
             refine Lq.run 1 rfl ?_
             refine Lq.nil ?_
             refine Kt.joined (()) trivial (Sub.cons rfl (Sub.cons rfl (Sub.cons rfl (Sub.cons rfl (Sub.cons (by rw [show ((need (f.getD n 0) a.n.toNat : Nat) : Int) = _ from need234 (by omega)]; rfl) Sub.nil))))) (fun _ h => h)
            ·
             replace h128_1 := of_decide_eq_false h128_1
             refine Wk.regionQ ?_
             refine Lq.run 2 rfl ?_
             refine Lq.nil ?_
             refine Kt.sel [1, 2, 4, 7, 14, 128] [_, _, _, _, _, _] rfl ?_
             refine Wk.cond (b := decide ((((f.getD (((n : Int)).toNat) 0).toNat : Int)) = (52 : Int))) rfl (fun h128_2 => ?_) (fun h128_2 => ?_)
             ·
              replace h128_2 := of_decide_eq_true h128_2
              refine Wk.regionQ ?_
              refine Lq.run 2 rfl ?_
              refine Lq.op (v := .int .u8 (((f.getD (((n : Int)).toNat) 0).toNat : Int))) rfl rfl rfl (OpQ.indexStr rfl Tryd.runUnderlying9 rfl rfl (by omega) (by omega)) ?_
              refine Lq.op (v := i6_ (((f.getD (((n : Int)).toNat) 0).toNat : Int))) rfl rfl rfl (OpQ.convInt .i64 rfl Tryd.underlying5 Tryd.underlying3 rfl (IntWalk.i64_in _ (by have := UInt8.toNat_lt (f.getD (((n : Int)).toNat) 0); omega))) ?_
              refine Lq.op rfl rfl rfl (OpQ.sub rfl rfl rfl (by omega) (by omega)) ?_
              refine Lq.run 1 rfl ?_
              refine Lq.nil ?_
              refine Kt.joined (()) trivial (Sub.cons rfl (Sub.cons rfl (Sub.cons rfl (Sub.cons rfl (Sub.cons (by rw [show ((need (f.getD n 0) a.n.toNat : Nat) : Int) = _ from need234 (by omega)]; rfl) Sub.nil))))) (fun _ h => h)
             ·
              replace h128_2 := of_decide_eq_false h128_2
              refine Wk.skip ?_
              refine Kt.joined (()) trivial (Sub.cons rfl (Sub.cons rfl (Sub.cons rfl (Sub.cons rfl (Sub.cons (by rw [show ((need (f.getD n 0) a.n.toNat : Nat) : Int) = _ from need83 (by have := hqu; unfold quI at this; omega)]; rfl) Sub.nil))))) (fun _ h => h)
         rintro _ hj
         refine Kt.sel [1, 2, 4, 7, 14] [_, _, _, _, _] rfl ?_
         refine Wk.seq ?_
         refine Wk.regionQ ?_
         refine Lq.run 1 rfl ?_
         refine Lq.nil ?_
         refine Kt.sel [1, 2, 4, 7, 14, 15] [_, _, _, _, _, _] rfl ?_
         refine Wk.seq ?_
         refine Wk.seq ?_
         refine Wk.regionQ ?_
         refine Lq.run 1 rfl ?_
         refine Lq.nil ?_
         refine Kt.sel [1, 2, 4, 7, 14, 15, 16] [_, _, _, _, _, _, _] rfl ?_
         refine Wk.block ?_
         refine Wk.loop (σ := Nat × List Int) (fun ⟨x, E⟩ => (x : Int) ≤ a.n ∧ E.length = 4 ∧ ∀ z : Int, E.set (vI (f.getD (n + 1) 0)) z = en4.set (vI (f.getD (n + 1) 0)) z) (fun ⟨x, E⟩ => [(1, str f), (2, i6_ ((n : Int))), (4, pt_ p4), (7, pt_ p7), (14, i6_ ((need (f.getD n 0) a.n.toNat : Int))), (15, i6_ ((cntT (evC a (f.getD (n + 1) 0) q en4) x : Int))), (16, i6_ ((x : Int)))]) (fun ⟨x, E⟩ => Own w.heap.size w [bk_ p7 ((ints E).toArray) 140, bk_ p4 #[i6_ a.n, str a.set, str a.rel] 28]) (fun ⟨x, E⟩ => (a.n - x).toNat) ((0, en4)) ⟨by omega, hE.1, fun _ => rfl⟩ (Sub.cons rfl (Sub.cons rfl (Sub.cons rfl (Sub.cons rfl (Sub.cons rfl (Sub.cons (by rfl) (Sub.sel [16] rfl))))))) (fun _ h => h) ?_
         rintro ⟨x, E⟩ ⟨hx, hEl, hEs⟩
         dsimp only
         have hcx := cntT_le (evC a (f.getD (n + 1) 0) q en4) x
         refine Wk.seq ?_
         refine Wk.seq ?_
         refine Wk.regionQ ?_
         refine Lq.run 1 rfl ?_
         refine Lq.op rfl rfl rfl (OpQ.fieldAddr rfl Tryd.runUnderlying28 rfl Tryd.sizeOf3 rfl rfl) ?_
         refine Lq.op rfl rfl rfl (OpQ.loadOwn 1 rfl Tryd.isAgg3 rfl rfl rfl) ?_
         refine Lq.run 2 rfl ?_
         refine Lq.bool fun b141 hg141 => ?_
         cases b141
         ·
          replace hg141 := of_decide_eq_false hg141
          refine Lq.pass rfl rfl rfl ?_
          refine Lq.pass rfl rfl rfl ?_
          refine Lq.pass rfl rfl rfl ?_
          refine Lq.run 1 rfl ?_
          refine Lq.nil ?_
          refine Kt.sel [1, 2, 4, 7, 14, 15, 16, 145] [_, _, _, _, _, _, _, _] rfl ?_
          refine Wk.condF rfl ?_
          refine Wk.exit rfl ?_
          refine Kt.sel [1, 2, 14, 15] [_, _, _, _] rfl ?_
          refine Wk.seq ?_
          refine Wk.regionQ ?_
          refine Lq.run 5 rfl ?_
          refine Lq.op rfl rfl rfl (OpQ.add rfl rfl rfl (by omega) (by omega)) ?_
          refine Lq.op (v := i6_ ((e : Int))) rfl rfl rfl (OpQ.cast (by rw [show (n : Int) + 2 = ((n + 2 : Nat) : Int) from rfl, hq.endI]) (OpQ.call rfl Tryd.call168 rfl Own.stable (fun w1 hw1 => l2End_ok f (((n : Int)) + (2 : Int)) w1 hf))) ?_
          refine Lq.run 2 rfl ?_
          refine Lq.nil ?_
          refine Kt.sel [8, 9] [_, _] rfl ?_
          refine Wk.ret (Kt.end2 rfl rfl rfl fun w' hw => ?_)
          exact ⟨by exact congrArg (fun b => Ending.returned (.tuple #[.bool b, _])) (ev_quant (c := f.getD n 0) hqu (quant_end (x := x) (by omega) (by omega))), hw.below⟩
         ·
          replace hg141 := of_decide_eq_true hg141
          refine Lq.run 4 rfl ?_
          refine Lq.nil ?_
          refine Kt.sel [1, 2, 4, 7, 14, 15, 16, 145] [_, _, _, _, _, _, _, _] rfl ?_
          refine Wk.cond (b := decide (((cntT (evC a (f.getD (n + 1) 0) q en4) x : Int)) < ((need (f.getD n 0) a.n.toNat : Int)))) rfl (fun h145 => ?_) (fun h145 => ?_)
          ·
           replace h145 := of_decide_eq_true h145
           refine Wk.skip ?_
           refine Kt.sel [1, 2, 4, 7, 14, 15, 16] [_, _, _, _, _, _, _] rfl ?_
           refine Wk.seq ?_
           refine Wk.block ?_
           refine Wk.seq ?_
           refine Wk.region ?_
           refine Ll.run 2 rfl ?_
           refine Ll.op rfl rfl rfl (OpQ.add rfl rfl rfl (by omega) (by omega)) ?_
           refine Ll.op (v := i6_ ((vI (f.getD (n + 1) 0) : Int))) rfl rfl rfl (OpQ.call rfl Tryd.call169 rfl Own.stable (fun w1 hw1 => l2Var_at f (((n : Int)) + (1 : Int)) (n + 1) w1 (by omega) hl1 hv1)) ?_
           refine Ll.run 1 rfl ?_
           refine Ll.op (v := pf_ p7 ((vI (f.getD (n + 1) 0)))) rfl rfl rfl (OpQ.cast (v' := pf_ p7 ((vI (f.getD (n + 1) 0)))) (by first | rfl | (congr 3; omega)) (OpQ.indexArr (i := (vI (f.getD (n + 1) 0) : Int)) rfl Tryd.runUnderlying140 Tryd.sizeOf3 rfl rfl (by omega) (by omega))) ?_
           refine Ll.store1 (v := i6_ ((x : Int))) (hs' := [bk_ p7 ((ints (E.set ((vI (f.getD (n + 1) 0))) ((x : Int)))).toArray) 140, _]) 0 rfl rfl rfl rfl rfl rfl Tryd.sizeOf3 rfl (by rw [List.size_toArray, ints_length]; omega) (by first | (rw [ints_set]; rfl) | (simp only [Nat.zero_add]; rw [ints_set]; rfl)) ?_
           refine Ll.nil ?_
           refine Kt.sel [1, 2, 4, 7, 14, 15, 16] [_, _, _, _, _, _, _] rfl ?_
           refine Wk.seq ?_
           refine Wk.regionQ ?_
           refine Lq.op rfl rfl rfl (OpQ.loadBox (cs := #[i6_ a.n, str a.set, str a.rel]) 1 rfl Tryd.isAgg28 rfl rfl Tryd.sizeOf28) ?_
           refine Lq.run 2 rfl ?_
           refine Lq.op rfl rfl rfl (OpQ.add rfl rfl rfl (by omega) (by omega)) ?_
           refine Lq.op rfl rfl rfl (OpQ.loadBox (cs := (ints (E.set ((vI (f.getD (n + 1) 0))) ((x : Int)))).toArray) 0 rfl Tryd.isAgg140 rfl rfl (by intro w; rw [show (ints (E.set ((vI (f.getD (n + 1) 0))) ((x : Int)))).toArray.size = 4 from by simp [hEl]]; exact Tryd.sizeOf140 w)) ?_
           refine Lq.op (v := .tuple #[bo_ (ev a q ((E.set ((vI (f.getD (n + 1) 0))) ((x : Int))))), i6_ ((e : Int))]) rfl rfl rfl (OpQ.call rfl Tryd.call171 rfl Own.stable (fun w1 hw1 => ih (((n : Int)) + (2 : Int)) (n + 2) q e ((E.set ((vI (f.getD (n + 1) 0))) ((x : Int)))) w1 (by omega) (by omega) hq (by rw [hEs]; exact hE.set ⟨by omega, by omega⟩))) ?_
           refine Lq.run 1 rfl ?_
           refine Lq.op (v := bo_ (ev a q ((E.set ((vI (f.getD (n + 1) 0))) ((x : Int)))))) rfl rfl rfl (OpQ.extract rfl rfl rfl) ?_
           refine Lq.op (v := i6_ ((e : Int))) rfl rfl rfl (OpQ.extract rfl rfl rfl) ?_
           refine Lq.run 2 rfl ?_
           refine Lq.nil ?_
           refine Kt.sel [1, 2, 4, 7, 14, 15, 16, 17] [_, _, _, _, _, _, _, _] rfl ?_
           refine Wk.seq ?_
           refine Wk.seq ?_
           refine Wk.regionQ ?_
           refine Lq.run 1 rfl ?_
           refine Lq.nil ?_
           refine Kt.sel [1, 2, 4, 7, 14, 15, 16, 163] [_, _, _, _, _, _, _, _] rfl ?_
           refine Wk.cond (b := ev a q ((E.set ((vI (f.getD (n + 1) 0))) ((x : Int))))) rfl (fun h163 => ?_) (fun h163 => ?_)
           ·
            have hF : evC a (f.getD (n + 1) 0) q en4 x = true := evC_of hEs h163
            have hcs := cnt_yes hF
            refine Wk.regionQ ?_
            refine Lq.run 1 rfl ?_
            refine Lq.op rfl rfl rfl (OpQ.add rfl rfl rfl (by omega) (by omega)) ?_
            refine Lq.run 1 rfl ?_
            refine Lq.nil ?_
            refine Kt.sel [1, 2, 4, 7, 14, 15, 16] [_, _, _, _, _, _, _] rfl ?_
            refine Wk.seq ?_
            refine Wk.regionQ ?_
            refine Lq.run 1 rfl ?_
            refine Lq.op rfl rfl rfl (OpQ.fieldAddr rfl Tryd.runUnderlying28 rfl Tryd.sizeOf3 rfl rfl) ?_
            refine Lq.op rfl rfl rfl (OpQ.loadOwn 1 rfl Tryd.isAgg3 rfl rfl rfl) ?_
            refine Lq.op rfl rfl rfl (OpQ.add rfl rfl rfl (by omega) (by omega)) ?_
            refine Lq.run 1 rfl ?_
            refine Lq.op rfl rfl rfl (OpQ.sub rfl rfl rfl (by omega) (by omega)) ?_
            refine Lq.op rfl rfl rfl (OpQ.sub rfl rfl rfl (by omega) (by omega)) ?_
            refine Lq.run 2 rfl ?_
            refine Lq.nil ?_
            refine Kt.sel [1, 2, 4, 7, 14, 15, 16, 174] [_, _, _, _, _, _, _, _] rfl ?_
            refine Wk.cond (b := decide (((((((cntT (evC a (f.getD (n + 1) 0) q en4) x : Int)) + (1 : Int)) + a.n) - ((x : Int))) - (1 : Int)) < ((need (f.getD n 0) a.n.toNat : Int)))) rfl (fun h174 => ?_) (fun h174 => ?_)
            ·
             replace h174 := of_decide_eq_true h174
             refine Wk.exit rfl ?_
             refine Kt.sel [1, 2, 14, 15] [_, _, _, _] rfl ?_
             refine Wk.seq ?_
             refine Wk.regionQ ?_
             refine Lq.run 5 rfl ?_
             refine Lq.op rfl rfl rfl (OpQ.add rfl rfl rfl (by omega) (by omega)) ?_
             refine Lq.op (v := i6_ ((e : Int))) rfl rfl rfl (OpQ.cast (by rw [show (n : Int) + 2 = ((n + 2 : Nat) : Int) from rfl, hq.endI]) (OpQ.call rfl Tryd.call168 rfl Own.stable (fun w1 hw1 => l2End_ok f (((n : Int)) + (2 : Int)) w1 hf))) ?_
             refine Lq.run 2 rfl ?_
             refine Lq.nil ?_
             refine Kt.sel [8, 9] [_, _] rfl ?_
             refine Wk.ret (Kt.end2 rfl rfl rfl fun w' hw => ?_)
             exact ⟨by rw [hcs]; exact congrArg (fun b => Ending.returned (.tuple #[.bool b, _])) (ev_quant (c := f.getD n 0) hqu (quant_end (x := (x + 1)) (by omega) (by omega))), hw.below⟩
            ·
             replace h174 := of_decide_eq_false h174
             refine Wk.skip ?_
             refine Kt.sel [1, 2, 4, 7, 14, 15, 16] [_, _, _, _, _, _, _] rfl ?_
             refine Wk.regionQ ?_
             refine Lq.run 1 rfl ?_
             refine Lq.op rfl rfl rfl (OpQ.add rfl rfl rfl (by omega) (by omega)) ?_
             refine Lq.run 1 rfl ?_
             refine Lq.nil ?_
             refine Kt.again ((x + 1, E.set ((vI (f.getD (n + 1) 0))) ((x : Int)))) ⟨by omega, by simp [hEl], fun z => by dsimp only; rw [List.set_set]; exact hEs z⟩ (by omega) (Sub.cons rfl (Sub.cons rfl (Sub.cons rfl (Sub.cons rfl (Sub.cons rfl (Sub.cons (by rw [← hcs]; rfl) (Sub.sel [16] rfl))))))) (fun _ h => h)
           ·
            have hF : evC a (f.getD (n + 1) 0) q en4 x = false := evC_of hEs (by simpa using h163)
            have hcs := cnt_no hF
            refine Wk.skip ?_
            refine Kt.sel [1, 2, 4, 7, 14, 15, 16] [_, _, _, _, _, _, _] rfl ?_
            refine Wk.seq ?_
            refine Wk.regionQ ?_
            refine Lq.run 1 rfl ?_
            refine Lq.op rfl rfl rfl (OpQ.fieldAddr rfl Tryd.runUnderlying28 rfl Tryd.sizeOf3 rfl rfl) ?_
            refine Lq.op rfl rfl rfl (OpQ.loadOwn 1 rfl Tryd.isAgg3 rfl rfl rfl) ?_
            refine Lq.op rfl rfl rfl (OpQ.add rfl rfl rfl (by omega) (by omega)) ?_
            refine Lq.run 1 rfl ?_
            refine Lq.op rfl rfl rfl (OpQ.sub rfl rfl rfl (by omega) (by omega)) ?_
            refine Lq.op rfl rfl rfl (OpQ.sub rfl rfl rfl (by omega) (by omega)) ?_
            refine Lq.run 2 rfl ?_
            refine Lq.nil ?_
            refine Kt.sel [1, 2, 4, 7, 14, 15, 16, 174] [_, _, _, _, _, _, _, _] rfl ?_
            refine Wk.cond (b := decide ((((((cntT (evC a (f.getD (n + 1) 0) q en4) x : Int)) + a.n) - ((x : Int))) - (1 : Int)) < ((need (f.getD n 0) a.n.toNat : Int)))) rfl (fun h174_1 => ?_) (fun h174_1 => ?_)
            ·
             replace h174_1 := of_decide_eq_true h174_1
             refine Wk.exit rfl ?_
             refine Kt.sel [1, 2, 14, 15] [_, _, _, _] rfl ?_
             refine Wk.seq ?_
             refine Wk.regionQ ?_
             refine Lq.run 5 rfl ?_
             refine Lq.op rfl rfl rfl (OpQ.add rfl rfl rfl (by omega) (by omega)) ?_
             refine Lq.op (v := i6_ ((e : Int))) rfl rfl rfl (OpQ.cast (by rw [show (n : Int) + 2 = ((n + 2 : Nat) : Int) from rfl, hq.endI]) (OpQ.call rfl Tryd.call168 rfl Own.stable (fun w1 hw1 => l2End_ok f (((n : Int)) + (2 : Int)) w1 hf))) ?_
             refine Lq.run 2 rfl ?_
             refine Lq.nil ?_
             refine Kt.sel [8, 9] [_, _] rfl ?_
             refine Wk.ret (Kt.end2 rfl rfl rfl fun w' hw => ?_)
             exact ⟨by rw [← hcs]; exact congrArg (fun b => Ending.returned (.tuple #[.bool b, _])) (ev_quant (c := f.getD n 0) hqu (quant_end (x := (x + 1)) (by omega) (by omega))), hw.below⟩
            ·
             replace h174_1 := of_decide_eq_false h174_1
             refine Wk.skip ?_
             refine Kt.sel [1, 2, 4, 7, 14, 15, 16] [_, _, _, _, _, _, _] rfl ?_
             refine Wk.regionQ ?_
             refine Lq.run 1 rfl ?_
             refine Lq.op rfl rfl rfl (OpQ.add rfl rfl rfl (by omega) (by omega)) ?_
             refine Lq.run 1 rfl ?_
             refine Lq.nil ?_
             refine Kt.again ((x + 1, E.set ((vI (f.getD (n + 1) 0))) ((x : Int)))) ⟨by omega, by simp [hEl], fun z => by dsimp only; rw [List.set_set]; exact hEs z⟩ (by omega) (Sub.cons rfl (Sub.cons rfl (Sub.cons rfl (Sub.cons rfl (Sub.cons rfl (Sub.cons (by rw [hcs]; rfl) (Sub.sel [16] rfl))))))) (fun _ h => h)
          ·
           replace h145 := of_decide_eq_false h145
           refine Wk.exit rfl ?_
           refine Kt.sel [1, 2, 14, 15] [_, _, _, _] rfl ?_
           refine Wk.seq ?_
           refine Wk.regionQ ?_
           refine Lq.run 5 rfl ?_
           refine Lq.op rfl rfl rfl (OpQ.add rfl rfl rfl (by omega) (by omega)) ?_
           refine Lq.op (v := i6_ ((e : Int))) rfl rfl rfl (OpQ.cast (by rw [show (n : Int) + 2 = ((n + 2 : Nat) : Int) from rfl, hq.endI]) (OpQ.call rfl Tryd.call168 rfl Own.stable (fun w1 hw1 => l2End_ok f (((n : Int)) + (2 : Int)) w1 hf))) ?_
           refine Lq.run 2 rfl ?_
           refine Lq.nil ?_
           refine Kt.sel [8, 9] [_, _] rfl ?_
           refine Wk.ret (Kt.end2 rfl rfl rfl fun w' hw => ?_)
           exact ⟨by exact congrArg (fun b => Ending.returned (.tuple #[.bool b, _])) (ev_quant (c := f.getD n 0) hqu (quant_end (x := x) (by omega) (by omega))), hw.below⟩
theorem l2Holds_ok (a : St) (f : List UInt8) (i : Int) (n : Nat) (p : Fm) (e : Nat) (en4 : List Int) (w : World) (hf : f.length ≤ 1048576) (hi : i = (n : Int)) (ha : a.Fine) (hsa : a.Small) (hP : Pa f n p e) (hE : EnvA a en4) : Calls Tryd.prog 171 #[vS a, str f, .int .i64 i, .agg (ints en4).toArray] w fun en w' => en = .returned (.tuple #[.bool (ev a p en4), .int .i64 (e : Int)]) ∧ Below w.heap.size w w' := by
  have key : ∀ (m n : Nat) (p : Fm) (e : Nat) (en4 : List Int) (w : World), f.length - n ≤ m → Pa f n p e → EnvA a en4 → Calls Tryd.prog 171 #[vS a, str f, .int .i64 ((n : Int)), .agg (ints en4).toArray] w fun en w' => en = .returned (.tuple #[.bool (ev a p en4), .int .i64 (e : Int)]) ∧ Below w.heap.size w w' := fun m => by
    induction m with
    | zero => exact fun n p e en4 w hm hP hE => absurd hP.lt (by omega)
    | succ m ihm => exact fun n p e en4 w hm hP hE => l2Holds_step a f n p e en4 w hf ha hsa hP hE fun i k p e en4 w h1 h2 h3 h4 => by subst h1; exact ihm k p e en4 w (by have := h3.lt; omega) h3 h4
  subst hi; exact key _ n p e en4 w (Nat.le_refl _) hP hE
set_option maxHeartbeats 400000 in
/-- spec.FormulaValid -/
theorem sFValid_ok (f : List UInt8) (w : World) (hf : f.length ≤ 1048576) :
    Calls Tryd.prog 136 [str f].toArray w fun en w' => en = .returned (.bool (formO f).isSome) ∧ Below w.heap.size w w' := by
 refine fnStart (n := 13) (e := [(0, str f)]) Tryd.func136 rfl rfl rfl rfl Ends.both ?_
 refine Wk.seq ?_
 refine Wk.regionQ ?_
 refine Lq.run 1 rfl ?_
 refine Lq.nil ?_
 refine Kt.sel [0] [_] rfl ?_
 refine Wk.seq ?_
 refine Wk.regionQ ?_
 refine Lq.run 1 rfl ?_
 refine Lq.op (v := i6_ ((f.length : Int))) rfl rfl rfl (OpQ.lenStr rfl Tryd.runUnderlying9 rfl) ?_
 refine Lq.run 2 rfl ?_
 refine Lq.bool fun b6 hg6 => ?_
 cases b6
 ·
  replace hg6 := of_decide_eq_false hg6
  refine Lq.pass rfl rfl rfl ?_
  refine Lq.pass rfl rfl rfl ?_
  refine Lq.pass rfl rfl rfl ?_
  refine Lq.pass rfl rfl rfl ?_
  refine Lq.pass rfl rfl rfl ?_
  refine Lq.run 2 rfl ?_
  refine Lq.nil ?_
  refine Kt.sel [2] [_] rfl ?_
  refine Wk.ret (Kt.end1 rfl rfl fun w' hw => ?_)
  exact ⟨ret_b (by first | (rw [formO_some, decide_eq_true (show (f.length : Int) ≤ 4000 by omega), Bool.true_and]) | (rw [formO_some, decide_eq_false (show ¬ (f.length : Int) ≤ 4000 by omega)]; rfl)), hw.below⟩
 ·
  replace hg6 := of_decide_eq_true hg6
  refine Lq.run 1 rfl ?_
  refine Lq.op (v := i6_ (endI f 0)) rfl rfl rfl (OpQ.call rfl Tryd.call168 rfl Own.stable (fun w1 hw1 => l2End_ok f 0 w1 hf)) ?_
  refine Lq.run 1 rfl ?_
  refine Lq.op (v := i6_ ((f.length : Int))) rfl rfl rfl (OpQ.lenStr rfl Tryd.runUnderlying9 rfl) ?_
  refine Lq.run 3 rfl ?_
  refine Lq.nil ?_
  refine Kt.sel [2] [_] rfl ?_
  refine Wk.ret (Kt.end1 rfl rfl fun w' hw => ?_)
  exact ⟨ret_b (by first | (rw [formO_some, decide_eq_true (show (f.length : Int) ≤ 4000 by omega), Bool.true_and]) | (rw [formO_some, decide_eq_false (show ¬ (f.length : Int) ≤ 4000 by omega)]; rfl)), hw.below⟩
set_option maxHeartbeats 400000 in
/-- spec.l2True -/
theorem l2True_ok (a : St) (f : List UInt8) (p : Fm) (en4 : List Int) (w : World) (hf : f.length ≤ 1048576) (ha : a.Fine) (hsa : a.Small) (hP : Pa f 0 p f.length) (hE : EnvA a en4) :
    Calls Tryd.prog 138 [vS a, str f, .agg ((ints en4).toArray)].toArray w fun en w' => en = .returned (.bool (ev a p en4)) ∧ Below w.heap.size w w' := by
 refine fnStart (n := 17) (e := [(0, vS a), (1, str f), (2, .agg ((ints en4).toArray))]) Tryd.func138 rfl rfl rfl rfl Ends.both ?_
 refine Wk.seq ?_
 refine Wk.region ?_
 refine Ll.box (v := vS a) rfl rfl rfl rfl rfl fun p3 hp3 => ?_
 show Ll _ _ (Own _ _ [_]) _ _ ((3, pt_ p3) :: _) _ _ _
 refine Ll.box (v := .agg ((ints en4).toArray)) rfl rfl rfl rfl rfl fun p5 hp5 => ?_
 show Ll _ _ (Own _ _ [_, _]) _ _ ((5, pt_ p5) :: _) _ _ _
 refine Ll.run 1 rfl ?_
 refine Ll.nil ?_
 refine Kt.sel [1, 3, 5] [_, _, _] rfl ?_
 refine Wk.seq ?_
 refine Wk.regionQ ?_
 refine Lq.op rfl rfl rfl (OpQ.loadBox (cs := #[i6_ a.n, str a.set, str a.rel]) 1 rfl Tryd.isAgg28 rfl rfl Tryd.sizeOf28) ?_
 refine Lq.run 1 rfl ?_
 refine Lq.op rfl rfl rfl (OpQ.loadBox (cs := (ints en4).toArray) 0 rfl Tryd.isAgg140 rfl rfl (by intro w; rw [show (ints en4).toArray.size = 4 from by simp [hE.1]]; exact Tryd.sizeOf140 w)) ?_
 refine Lq.op (v := .tuple #[bo_ (ev a p en4), i6_ ((f.length : Int))]) rfl rfl rfl (OpQ.call rfl Tryd.call171 rfl Own.stable (fun w1 hw1 => l2Holds_ok a f 0 0 p f.length en4 w1 hf (by omega) ha hsa hP hE)) ?_
 refine Lq.run 1 rfl ?_
 refine Lq.op (v := bo_ (ev a p en4)) rfl rfl rfl (OpQ.extract rfl rfl rfl) ?_
 refine Lq.op (v := i6_ ((f.length : Int))) rfl rfl rfl (OpQ.extract rfl rfl rfl) ?_
 refine Lq.run 2 rfl ?_
 refine Lq.nil ?_
 refine Kt.sel [7] [_] rfl ?_
 refine Wk.seq ?_
 refine Wk.regionQ ?_
 refine Lq.run 2 rfl ?_
 refine Lq.nil ?_
 refine Kt.sel [6] [_] rfl ?_
 refine Wk.ret (Kt.end1 rfl rfl fun w' hw => ?_)
 exact ⟨rfl, hw.below⟩
set_option maxHeartbeats 400000 in
/-- spec.HoldsAt -/
theorem sHolds_ok (a : St) (f : List UInt8) (va : Value) (xs : List Int) (w : World) (hsa : a.Small) (hf : f.length ≤ 1048576) (hva : Ints w va xs) :
    Calls Tryd.prog 79 [vS a, str f, va].toArray w fun en w' => en = .returned (.tuple #[.bool (holdV a f xs), .bool (holdK a f xs)]) ∧ Below w.heap.size w w' := by
 refine fnStart (n := 62) (e := [(0, vS a), (1, str f), (2, va)]) Tryd.func79 rfl rfl rfl rfl Ends.both ?_
 refine Wk.seq ?_
 refine Wk.region ?_
 refine Ll.box (v := vS a) rfl rfl rfl rfl rfl fun p3 hp3 => ?_
 show Ll _ _ (Own _ _ [_]) _ _ ((3, pt_ p3) :: _) _ _ _
 refine Ll.run 2 rfl ?_
 refine Ll.nil ?_
 refine Kt.sel [1, 2, 3] [_, _, _] rfl ?_
 refine Wk.seq ?_
 refine Wk.region ?_
 refine Ll.op (v := .agg #[i6_ 0, i6_ 0, i6_ 0, i6_ 0]) rfl rfl rfl (OpQ.build (xs := []) (vs := []) rfl rfl (by kernel_rfl)) ?_
 refine Ll.alloc rfl rfl rfl rfl Tryd.zeroValue140 fun p8 hp8 => ?_
 show Ll _ _ (Own _ _ [bk_ p8 #[i6_ 0, i6_ 0, i6_ 0, i6_ 0] 140, _]) _ _ ((8, pt_ p8) :: _) _ _ _
 refine Ll.storeBox (cs' := #[i6_ 0, i6_ 0, i6_ 0, i6_ 0]) (hs' := [bk_ p8 #[i6_ 0, i6_ 0, i6_ 0, i6_ 0] 140, _]) 0 rfl rfl rfl rfl rfl (by kernel_rfl : _ = some Tryd.t140) rfl rfl rfl rfl rfl ?_
 refine Ll.nil ?_
 refine Kt.sel [1, 2, 3, 8] [_, _, _, _] rfl ?_
 refine Wk.seq ?_
 refine Wk.seq ?_
 refine Wk.regionQ ?_
 refine Lq.op rfl rfl rfl (OpQ.loadBox (cs := #[i6_ a.n, str a.set, str a.rel]) 1 rfl Tryd.isAgg28 rfl rfl Tryd.sizeOf28) ?_
 refine Lq.op (v := bo_ (validB a)) rfl rfl rfl (OpQ.call rfl Tryd.call55 rfl Own.stable (fun w1 hw1 => sValid_ok a w1 hsa)) ?_
 refine Lq.run 2 rfl ?_
 refine Lq.bool fun b16 hg16 => ?_
 cases b16
 ·
  replace hg16 := not_false hg16
  refine Lq.run 1 rfl ?_
  refine Lq.op (v := bo_ ((formO f).isSome)) rfl rfl rfl (OpQ.call rfl Tryd.call136 rfl Own.stable (fun w1 hw1 => sFValid_ok f w1 hf)) ?_
  refine Lq.run 3 rfl ?_
  refine Lq.bool fun b21 hg21 => ?_
  cases b21
  ·
   replace hg21 := not_false hg21
   refine Lq.run 1 rfl ?_
   refine Lq.op (v := i6_ ((xs.length : Int))) rfl rfl rfl (OpQ.lenRow rfl Tryd.runUnderlying25 rfl (ints_length _) (fun w1 hw1 => Row.own hva hw1)) ?_
   refine Lq.run 2 rfl ?_
   refine Lq.nil ?_
   refine Kt.sel [1, 2, 3, 8, 25] [_, _, _, _, _] rfl ?_
   refine Wk.cond (b := decide ((4 : Int) < ((xs.length : Int)))) rfl (fun h25 => ?_) (fun h25 => ?_)
   ·
    replace h25 := of_decide_eq_true h25
    refine Wk.seq ?_
    refine Wk.regionQ ?_
    refine Lq.run 2 rfl ?_
    refine Lq.nil ?_
    refine Kt.sel [6, 7] [_, _] rfl ?_
    refine Wk.ret (Kt.end2 rfl rfl rfl fun w' hw => ?_)
    refine ⟨?_, hw.below⟩
    have hO : holdO a f xs = none := holdO_none fun p' hp' hc => ?_
    · rw [(hold_no hO).1, (hold_no hO).2]
    obtain ⟨c1, c2, c3, c4⟩ := hc
    first | omega | exact hxn (c3 _ hxm) | (obtain rfl : p = p' := Option.some.inj (hp.symm.trans hp'); omega) | (simp_all; done)
   ·
    replace h25 := of_decide_eq_false h25
    have hv : validB a = true := by simp_all
    have ha := validB_fine hv
    have hm8 := ha.hi
    have hm1 := ha.lo
    obtain ⟨p, hp⟩ := Option.isSome_iff_exists.1 (show (formO f).isSome = true by simp_all)
    have hP := formO_pa hp
    have hl4 : xs.length ≤ 4 := by omega
    refine Wk.skip ?_
    refine Kt.sel [1, 2, 3, 8] [_, _, _, _] rfl ?_
    refine Wk.seq ?_
    refine Wk.seq ?_
    refine Wk.regionQ ?_
    refine Lq.run 1 rfl ?_
    refine Lq.nil ?_
    refine Kt.sel [1, 2, 3, 8, 9] [_, _, _, _, _] rfl ?_
    refine Wk.block ?_
    refine Wk.loop (σ := Nat) (fun k => k ≤ xs.length ∧ ∀ x ∈ xs.take k, a.El x) (fun k => [(1, str f), (2, va), (3, pt_ p3), (8, pt_ p8), (9, i6_ ((k : Int)))]) (fun k => Own w.heap.size w [bk_ p8 ((ints (envP xs k)).toArray) 140, bk_ p3 #[i6_ a.n, str a.set, str a.rel] 28]) (fun k => xs.length - k) (0) ⟨Nat.zero_le _, by simp⟩ (Sub.sel [1, 2, 3, 8, 9] rfl) (fun _ h => by rw [envP_zero]; exact h) ?_
    rintro k ⟨hk, hxk⟩
    refine Wk.seq ?_
    refine Wk.seq ?_
    refine Wk.regionQ ?_
    refine Lq.run 2 rfl ?_
    refine Lq.op (v := i6_ ((xs.length : Int))) rfl rfl rfl (OpQ.lenRow rfl Tryd.runUnderlying25 rfl (ints_length _) (fun w1 hw1 => Row.own hva hw1)) ?_
    refine Lq.run 1 rfl ?_
    refine Lq.nil ?_
    refine Kt.sel [1, 2, 3, 8, 9, 29] [_, _, _, _, _, _] rfl ?_
    refine Wk.cond (b := decide (((k : Int)) < ((xs.length : Int)))) rfl (fun h29 => ?_) (fun h29 => ?_)
    ·
     replace h29 := of_decide_eq_true h29
     refine Wk.skip ?_
     refine Kt.sel [1, 2, 3, 8, 9] [_, _, _, _, _] rfl ?_
     refine Wk.seq ?_
     refine Wk.block ?_
     refine Wk.seq ?_
     refine Wk.seq ?_
     refine Wk.regionD Base.mixed (fun _ h => h.drawn) (by kernel_rfl) ?_
     refine Lq.run 2 rfl ?_
     refine Lq.op (v := .pointer (some (sAt va ((k : Int))))) rfl rfl rfl (OpQ.atRow rfl Tryd.runUnderlying25 Tryd.sizeOf3 rfl rfl (by omega) (by rw [ints_length]; omega) (fun w1 hw1 => Row.own hva hw1)) ?_
     refine Lq.op (v := i6_ (xs.getD (((k : Int)).toNat) 0)) rfl rfl rfl (OpQ.load1 rfl Tryd.isAgg3 rfl (fun w1 hw1 => Ints.cell (Row.own hva hw1) (by omega) (by omega))) ?_
     refine Lq.op rfl rfl rfl (OpQ.fieldAddr rfl Tryd.runUnderlying28 rfl Tryd.sizeOf3 rfl rfl) ?_
     refine Lq.op rfl rfl rfl (OpQ.loadOwn 1 rfl Tryd.isAgg3 rfl rfl rfl) ?_
     refine Lq.op rfl rfl rfl (OpQ.sub rfl rfl rfl (by omega) (by omega)) ?_
     refine Lq.op (v := bo_ (inB (xs.getD (((k : Int)).toNat) 0) 0 (a.n - (1 : Int)))) rfl rfl rfl (OpQ.call rfl Tryd.call73 rfl Own.stable (fun w1 hw1 => l1In_ok (xs.getD (((k : Int)).toNat) 0) 0 (a.n - (1 : Int)) w1 )) ?_
     refine Lq.run 1 rfl ?_
     refine Lq.nil ?_
     refine Kt.sel [1, 2, 3, 8, 9, 40] [_, _, _, _, _, _] rfl ?_
     refine Wk.cond (b := !(inB (xs.getD (((k : Int)).toNat) 0) 0 (a.n - (1 : Int)))) rfl (fun h40 => ?_) (fun h40 => ?_)
     ·
      replace h40 := not_true h40
      have hxm : xs.getD k 0 ∈ xs := by rw [getD_at (by omega)]; exact List.getElem_mem _
      have hxn : ¬ a.El (xs.getD k 0) := fun e => by have h9 := in_el.2 e; simp_all
      refine Wk.seq ?_
      refine Wk.regionQ ?_
      refine Lq.run 2 rfl ?_
      refine Lq.nil ?_
      refine Kt.sel [6, 7] [_, _] rfl ?_
      refine Wk.ret (Kt.end2 rfl rfl rfl fun w' hw => ?_)
      refine ⟨?_, hw.below⟩
      have hO : holdO a f xs = none := holdO_none fun p' hp' hc => ?_
      · rw [(hold_no hO).1, (hold_no hO).2]
      obtain ⟨c1, c2, c3, c4⟩ := hc
      first | omega | exact hxn (c3 _ hxm) | (obtain rfl : p = p' := Option.some.inj (hp.symm.trans hp'); omega) | (simp_all; done)
     ·
      replace h40 := not_false h40
      have hxe : a.El (xs.getD k 0) := in_el.1 (by simpa using h40)
      refine Wk.skip ?_
      refine Kt.sel [1, 2, 3, 8, 9] [_, _, _, _, _] rfl ?_
      refine Wk.region ?_
      refine Ll.run 3 rfl ?_
      refine Ll.op (v := .pointer (some (sAt va ((k : Int))))) rfl rfl rfl (OpQ.atRow rfl Tryd.runUnderlying25 Tryd.sizeOf3 rfl rfl (by omega) (by rw [ints_length]; omega) (fun w1 hw1 => Row.own hva hw1)) ?_
      refine Ll.op (v := i6_ (xs.getD (((k : Int)).toNat) 0)) rfl rfl rfl (OpQ.load1 rfl Tryd.isAgg3 rfl (fun w1 hw1 => Ints.cell (Row.own hva hw1) (by omega) (by omega))) ?_
      refine Ll.op (v := pf_ p8 k) rfl rfl rfl (OpQ.cast (v' := pf_ p8 k) (by first | rfl | (congr 3; omega)) (OpQ.indexArr (i := (k : Int)) rfl Tryd.runUnderlying140 Tryd.sizeOf3 rfl rfl (by omega) (by omega))) ?_
      refine Ll.store1 (v := i6_ (xs.getD (((k : Int)).toNat) 0)) (hs' := [bk_ p8 ((ints ((envP xs k).set k (xs.getD (((k : Int)).toNat) 0))).toArray) 140, _]) 0 rfl rfl rfl rfl rfl rfl Tryd.sizeOf3 rfl (by rw [List.size_toArray, ints_length, envP_len (by omega) (by omega)]; omega) (by first | (rw [ints_set]; rfl) | (simp only [Nat.zero_add]; rw [ints_set]; rfl)) ?_
      refine Ll.nil ?_
      refine Kt.sel [1, 2, 3, 8, 9] [_, _, _, _, _] rfl ?_
      refine Wk.regionQ ?_
      refine Lq.run 1 rfl ?_
      refine Lq.op rfl rfl rfl (OpQ.add rfl rfl rfl (by omega) (by omega)) ?_
      refine Lq.run 1 rfl ?_
      refine Lq.nil ?_
      refine Kt.again (k + 1) ⟨by omega, els_take (by omega) hxk hxe⟩ (by omega) (Sub.sel [1, 2, 3, 8, 9] rfl) (fun _ h => by rw [← envP_set (by omega) (by omega)]; exact h)
    ·
     replace h29 := of_decide_eq_false h29
     have hkl : k = xs.length := by omega
     have hxA : ∀ x ∈ xs, a.El x := by rw [hkl, List.take_length] at hxk; exact hxk
     have hEv : EnvA a (envP xs k) := by rw [hkl, envP_all]; exact envL_ok hm1 hl4 hxA
     have hEl := hEv.1
     refine Wk.exit rfl ?_
     refine Kt.sel [1, 2, 3, 8] [_, _, _, _] rfl ?_
     refine Wk.seq ?_
     refine Wk.regionQ ?_
     refine Lq.run 1 rfl ?_
     refine Lq.op (v := .tuple #[i6_ ((frB p : Int)), i6_ ((f.length : Int))]) rfl rfl rfl (OpQ.call rfl Tryd.call137 rfl Own.stable (fun w1 hw1 => l2Free_ok f 0 0 p f.length w1 hf (by omega) hP)) ?_
     refine Lq.run 1 rfl ?_
     refine Lq.op (v := i6_ ((frB p : Int))) rfl rfl rfl (OpQ.extract rfl rfl rfl) ?_
     refine Lq.op (v := i6_ ((f.length : Int))) rfl rfl rfl (OpQ.extract rfl rfl rfl) ?_
     refine Lq.run 2 rfl ?_
     refine Lq.nil ?_
     refine Kt.sel [1, 2, 3, 8, 10] [_, _, _, _, _] rfl ?_
     refine Wk.seq ?_
     refine Wk.seq ?_
     refine Wk.regionQ ?_
     refine Lq.run 2 rfl ?_
     refine Lq.op (v := i6_ ((xs.length : Int))) rfl rfl rfl (OpQ.lenRow rfl Tryd.runUnderlying25 rfl (ints_length _) (fun w1 hw1 => Row.own hva hw1)) ?_
     refine Lq.op (v := .int .u64 ((xs.length : Int))) rfl rfl rfl (OpQ.convInt .u64 rfl Tryd.underlying3 Tryd.underlying144 rfl (IntWalk.u64_in _ (by omega))) ?_
     refine Lq.op (v := i6_ ((((frB p) / 2 ^ xs.length : Nat) : Int))) rfl rfl rfl (OpQ.shr (a := frB p) (b := xs.length) rfl rfl rfl (by omega)) ?_
     refine Lq.run 1 rfl ?_
     refine Lq.nil ?_
     refine Kt.sel [1, 3, 8, 57] [_, _, _, _] rfl ?_
     refine Wk.cond (b := !(decide (((((frB p) / 2 ^ xs.length : Nat) : Int)) = (0 : Int)))) rfl (fun h57 => ?_) (fun h57 => ?_)
     ·
      replace h57 := not_true h57
      replace h57 := of_decide_eq_false h57
      refine Wk.seq ?_
      refine Wk.regionQ ?_
      refine Lq.run 2 rfl ?_
      refine Lq.nil ?_
      refine Kt.sel [6, 7] [_, _] rfl ?_
      refine Wk.ret (Kt.end2 rfl rfl rfl fun w' hw => ?_)
      refine ⟨?_, hw.below⟩
      have hO : holdO a f xs = none := holdO_none fun p' hp' hc => ?_
      · rw [(hold_no hO).1, (hold_no hO).2]
      obtain ⟨c1, c2, c3, c4⟩ := hc
      first | omega | exact hxn (c3 _ hxm) | (obtain rfl : p = p' := Option.some.inj (hp.symm.trans hp'); omega) | (simp_all; done)
     ·
      replace h57 := not_false h57
      replace h57 := of_decide_eq_true h57
      refine Wk.skip ?_
      refine Kt.sel [1, 3, 8] [_, _, _] rfl ?_
      refine Wk.seq ?_
      refine Wk.regionQ ?_
      refine Lq.op rfl rfl rfl (OpQ.loadBox (cs := #[i6_ a.n, str a.set, str a.rel]) 1 rfl Tryd.isAgg28 rfl rfl Tryd.sizeOf28) ?_
      refine Lq.run 1 rfl ?_
      refine Lq.op rfl rfl rfl (OpQ.loadBox (cs := (ints (envP xs k)).toArray) 0 rfl Tryd.isAgg140 rfl rfl (by intro w; rw [show (ints (envP xs k)).toArray.size = 4 from by simp [hEl]]; exact Tryd.sizeOf140 w)) ?_
      refine Lq.op (v := bo_ (ev a p ((envP xs k)))) rfl rfl rfl (OpQ.call rfl Tryd.call138 rfl Own.stable (fun w1 hw1 => l2True_ok a f p ((envP xs k)) w1 hf ha hsa hP hEv)) ?_
      refine Lq.run 2 rfl ?_
      refine Lq.nil ?_
      refine Kt.sel [6, 7] [_, _] rfl ?_
      refine Wk.ret (Kt.end2 rfl rfl rfl fun w' hw => ?_)
      have hO := holdO_some hp ⟨hv, hl4, hxA, by omega⟩
      exact ⟨by rw [(hold_yes hO).1, (hold_yes hO).2, ← envP_all, ← hkl], hw.below⟩
  ·
   replace hg21 := not_true hg21
   refine Lq.pass rfl rfl rfl ?_
   refine Lq.pass rfl rfl rfl ?_
   refine Lq.pass rfl rfl rfl ?_
   refine Lq.run 1 rfl ?_
   refine Lq.nil ?_
   refine Kt.sel [1, 2, 3, 8, 25] [_, _, _, _, _] rfl ?_
   refine Wk.condT rfl ?_
   refine Wk.seq ?_
   refine Wk.regionQ ?_
   refine Lq.run 2 rfl ?_
   refine Lq.nil ?_
   refine Kt.sel [6, 7] [_, _] rfl ?_
   refine Wk.ret (Kt.end2 rfl rfl rfl fun w' hw => ?_)
   refine ⟨?_, hw.below⟩
   have hO : holdO a f xs = none := holdO_none fun p' hp' hc => ?_
   · rw [(hold_no hO).1, (hold_no hO).2]
   obtain ⟨c1, c2, c3, c4⟩ := hc
   first | omega | exact hxn (c3 _ hxm) | (obtain rfl : p = p' := Option.some.inj (hp.symm.trans hp'); omega) | (simp_all; done)
 ·
  replace hg16 := not_true hg16
  refine Lq.pass rfl rfl rfl ?_
  refine Lq.pass rfl rfl rfl ?_
  refine Lq.pass rfl rfl rfl ?_
  refine Lq.run 2 rfl ?_
  refine Lq.pass rfl rfl rfl ?_
  refine Lq.pass rfl rfl rfl ?_
  refine Lq.pass rfl rfl rfl ?_
  refine Lq.run 1 rfl ?_
  refine Lq.nil ?_
  refine Kt.sel [1, 2, 3, 8, 25] [_, _, _, _, _] rfl ?_
  refine Wk.condT rfl ?_
  refine Wk.seq ?_
  refine Wk.regionQ ?_
  refine Lq.run 2 rfl ?_
  refine Lq.nil ?_
  refine Kt.sel [6, 7] [_, _] rfl ?_
  refine Wk.ret (Kt.end2 rfl rfl rfl fun w' hw => ?_)
  refine ⟨?_, hw.below⟩
  have hO : holdO a f xs = none := holdO_none fun p' hp' hc => ?_
  · rw [(hold_no hO).1, (hold_no hO).2]
  obtain ⟨c1, c2, c3, c4⟩ := hc
  first | omega | exact hxn (c3 _ hxm) | (obtain rfl : p = p' := Option.some.inj (hp.symm.trans hp'); omega) | (simp_all; done)
end Go.Proofs.YtnfkmfdhmlombaaDoor
namespace Go.Proofs.YtnfkmfdhmlombaaDoor
open Go.RowKit Go.Wk
set_option linter.unusedSimpArgs false
set_option maxHeartbeats 400000 in
/-- laws.szStructure -/
theorem sz_ok (a : St) (left : Int) (w : World) (hl0 : 0 ≤ left) (hl : left ≤ 1048576) (h1 : a.set.length ≤ 9223372036854775807) (h2 : a.rel.length ≤ 9223372036854775807) :
    Calls Tryd.prog 13 [vS a, i6_ left].toArray w fun en w' => en = .returned (.int .i64 (szB a left)) ∧ Below w.heap.size w w' := by
 refine fnStart (n := 20) (e := [(0, vS a), (1, i6_ left)]) Tryd.func13 rfl rfl rfl rfl Ends.both ?_
 refine Wk.seq ?_
 refine Wk.region ?_
 refine Ll.box (v := vS a) rfl rfl rfl rfl rfl fun p2 hp2 => ?_
 show Ll _ _ (Own _ _ [_]) _ _ ((2, pt_ p2) :: _) _ _ _
 refine Ll.run 1 rfl ?_
 refine Ll.nil ?_
 refine Kt.sel [1, 2] [_, _] rfl ?_
 refine Wk.seq ?_
 refine Wk.regionQ ?_
 refine Lq.run 1 rfl ?_
 refine Lq.op rfl rfl rfl (OpQ.fieldAddr rfl Tryd.runUnderlying23 rfl Tryd.sizeOf9 rfl rfl) ?_
 refine Lq.op rfl rfl rfl (OpQ.loadOwn 0 rfl Tryd.isAgg9 rfl rfl rfl) ?_
 refine Lq.op (v := i6_ ((a.set.length : Int))) rfl rfl rfl (OpQ.lenStr rfl Tryd.runUnderlying9 rfl) ?_
 refine Lq.op rfl rfl rfl (OpQ.sub rfl rfl rfl (by omega) (by omega)) ?_
 refine Lq.run 1 rfl ?_
 refine Lq.nil ?_
 refine Kt.sel [1, 2] [_, _] rfl ?_
 refine Wk.seq ?_
 refine Wk.seq ?_
 refine Wk.regionQ ?_
 refine Lq.run 2 rfl ?_
 refine Lq.nil ?_
 refine Kt.sel [1, 2, 11] [_, _, _] rfl ?_
 refine Wk.cond (b := decide ((left - ((a.set.length : Int))) < (0 : Int))) rfl (fun h11 => ?_) (fun h11 => ?_)
 ·
  replace h11 := of_decide_eq_true h11
  refine Wk.seq ?_
  refine Wk.regionQ ?_
  refine Lq.run 1 rfl ?_
  refine Lq.nil ?_
  refine Kt.sel [4] [_] rfl ?_
  refine Wk.ret (Kt.end1 rfl rfl fun w' hw => ?_)
  exact ⟨ret_i (by unfold szB; simp [*]), hw.below⟩
 ·
  replace h11 := of_decide_eq_false h11
  refine Wk.skip ?_
  refine Kt.sel [1, 2] [_, _] rfl ?_
  refine Wk.seq ?_
  refine Wk.regionQ ?_
  refine Lq.run 1 rfl ?_
  refine Lq.op rfl rfl rfl (OpQ.fieldAddr rfl Tryd.runUnderlying23 rfl Tryd.sizeOf9 rfl rfl) ?_
  refine Lq.op rfl rfl rfl (OpQ.loadOwn 0 rfl Tryd.isAgg9 rfl rfl rfl) ?_
  refine Lq.op (v := i6_ ((a.rel.length : Int))) rfl rfl rfl (OpQ.lenStr rfl Tryd.runUnderlying9 rfl) ?_
  refine Lq.op rfl rfl rfl (OpQ.sub rfl rfl rfl (by omega) (by omega)) ?_
  refine Lq.run 1 rfl ?_
  refine Lq.nil ?_
  refine Kt.sel [1] [_] rfl ?_
  refine Wk.seq ?_
  refine Wk.seq ?_
  refine Wk.regionQ ?_
  refine Lq.run 2 rfl ?_
  refine Lq.nil ?_
  refine Kt.sel [1, 18] [_, _] rfl ?_
  refine Wk.cond (b := decide (((left - ((a.set.length : Int))) - ((a.rel.length : Int))) < (0 : Int))) rfl (fun h18 => ?_) (fun h18 => ?_)
  ·
   replace h18 := of_decide_eq_true h18
   refine Wk.seq ?_
   refine Wk.regionQ ?_
   refine Lq.run 1 rfl ?_
   refine Lq.nil ?_
   refine Kt.sel [4] [_] rfl ?_
   refine Wk.ret (Kt.end1 rfl rfl fun w' hw => ?_)
   exact ⟨ret_i (by unfold szB; simp [*]), hw.below⟩
  ·
   replace h18 := of_decide_eq_false h18
   refine Wk.skip ?_
   refine Kt.sel [1] [_] rfl ?_
   refine Wk.seq ?_
   refine Wk.regionQ ?_
   refine Lq.run 2 rfl ?_
   refine Lq.nil ?_
   refine Kt.sel [4] [_] rfl ?_
   refine Wk.ret (Kt.end1 rfl rfl fun w' hw => ?_)
   exact ⟨ret_i (by unfold szB; simp [*]), hw.below⟩
set_option maxHeartbeats 400000 in
/-- laws.toStructure -/
theorem toSt_ok (a : St) (w : World) :
    Calls Tryd.prog 15 [vS a].toArray w fun en w' => en = .returned (vS a) ∧ Below w.heap.size w w' := by
 refine fnStart (n := 14) (e := [(0, vS a)]) Tryd.func15 rfl rfl rfl rfl Ends.both ?_
 refine Wk.seq ?_
 refine Wk.region ?_
 refine Ll.box (v := vS a) rfl rfl rfl rfl rfl fun p1 hp1 => ?_
 show Ll _ _ (Own _ _ [_]) _ _ ((1, pt_ p1) :: _) _ _ _
 refine Ll.alloc rfl rfl rfl rfl Tryd.zeroValue28 fun p2 hp2 => ?_
 show Ll _ _ (Own _ _ [bk_ p2 #[i6_ 0, str ([]), str ([])] 28, _]) _ _ ((2, pt_ p2) :: _) _ _ _
 refine Ll.nil ?_
 refine Kt.sel [1, 2] [_, _] rfl ?_
 refine Wk.seq ?_
 refine Wk.region ?_
 refine Ll.alloc rfl rfl rfl rfl Tryd.zeroValue28 fun p3 hp3 => ?_
 show Ll _ _ (Own _ _ [bk_ p3 #[i6_ 0, str ([]), str ([])] 28, _, _]) _ _ ((3, pt_ p3) :: _) _ _ _
 refine Ll.nil ?_
 refine Kt.sel [1, 2, 3] [_, _, _] rfl ?_
 refine Wk.seq ?_
 refine Wk.region ?_
 refine Ll.op rfl rfl rfl (OpQ.fieldAddr rfl Tryd.runUnderlying23 rfl Tryd.sizeOf3 rfl rfl) ?_
 refine Ll.op rfl rfl rfl (OpQ.loadOwn 2 rfl Tryd.isAgg3 rfl rfl rfl) ?_
 refine Ll.op rfl rfl rfl (OpQ.fieldAddr rfl Tryd.runUnderlying28 rfl Tryd.sizeOf3 rfl rfl) ?_
 refine Ll.store1 (v := i6_ a.n) (hs' := [bk_ p3 #[i6_ a.n, str ([]), str ([])] 28, _, _]) 0 rfl rfl rfl rfl rfl rfl Tryd.sizeOf3 rfl (by simp) rfl ?_
 refine Ll.nil ?_
 refine Kt.sel [1, 2, 3] [_, _, _] rfl ?_
 refine Wk.seq ?_
 refine Wk.region ?_
 refine Ll.op rfl rfl rfl (OpQ.fieldAddr rfl Tryd.runUnderlying23 rfl Tryd.sizeOf9 rfl rfl) ?_
 refine Ll.op rfl rfl rfl (OpQ.loadOwn 2 rfl Tryd.isAgg9 rfl rfl rfl) ?_
 refine Ll.op rfl rfl rfl (OpQ.fieldAddr rfl Tryd.runUnderlying28 rfl Tryd.sizeOf9 rfl rfl) ?_
 refine Ll.store1 (v := str a.set) (hs' := [bk_ p3 #[i6_ a.n, str a.set, str ([])] 28, _, _]) 0 rfl rfl rfl rfl rfl rfl Tryd.sizeOf9 rfl (by simp) rfl ?_
 refine Ll.nil ?_
 refine Kt.sel [1, 2, 3] [_, _, _] rfl ?_
 refine Wk.seq ?_
 refine Wk.region ?_
 refine Ll.op rfl rfl rfl (OpQ.fieldAddr rfl Tryd.runUnderlying23 rfl Tryd.sizeOf9 rfl rfl) ?_
 refine Ll.op rfl rfl rfl (OpQ.loadOwn 2 rfl Tryd.isAgg9 rfl rfl rfl) ?_
 refine Ll.op rfl rfl rfl (OpQ.fieldAddr rfl Tryd.runUnderlying28 rfl Tryd.sizeOf9 rfl rfl) ?_
 refine Ll.store1 (v := str a.rel) (hs' := [bk_ p3 #[i6_ a.n, str a.set, str a.rel] 28, _, _]) 0 rfl rfl rfl rfl rfl rfl Tryd.sizeOf9 rfl (by simp) rfl ?_
 refine Ll.nil ?_
 refine Kt.sel [2, 3] [_, _] rfl ?_
 refine Wk.seq ?_
 refine Wk.region ?_
 refine Ll.op rfl rfl rfl (OpQ.loadBox (cs := #[i6_ a.n, str a.set, str a.rel]) 0 rfl Tryd.isAgg28 rfl rfl Tryd.sizeOf28) ?_
 refine Ll.storeBox (cs' := #[i6_ a.n, str a.set, str a.rel]) (hs' := [_, bk_ p2 #[i6_ a.n, str a.set, str a.rel] 28, _]) 1 rfl rfl rfl rfl rfl (by kernel_rfl : _ = some Tryd.t28) rfl rfl rfl rfl rfl ?_
 refine Ll.nil ?_
 refine Kt.sel [2] [_] rfl ?_
 refine Wk.ret (Kt.endBox (cs := #[i6_ a.n, str a.set, str a.rel]) 1 rfl rfl rfl Tryd.isAgg28 Tryd.sizeOf28 fun w' hw => ?_)
 exact ⟨rfl, hw.below⟩
set_option maxHeartbeats 400000 in
/-- laws.eqIntS -/
theorem eqInt_ok (va vb : Value) (xs ys : List Int) (w : World) (hva : Ints w va xs) (hvb : Ints w vb ys) (hs : xs.length ≤ 140737488355328) :
    Calls Tryd.prog 17 [va, vb].toArray w fun en w' => en = .returned (.bool (xs == ys)) ∧ Below w.heap.size w w' := by
 refine fnStart (n := 26) (e := [(0, va), (1, vb)]) Tryd.func17 rfl rfl rfl rfl Ends.both ?_
 refine Wk.seq ?_
 refine Wk.regionQ ?_
 refine Lq.run 1 rfl ?_
 refine Lq.nil ?_
 refine Kt.sel [0, 1] [_, _] rfl ?_
 refine Wk.seq ?_
 refine Wk.seq ?_
 refine Wk.regionQ ?_
 refine Lq.run 1 rfl ?_
 refine Lq.op (v := i6_ ((xs.length : Int))) rfl rfl rfl (OpQ.lenRow rfl Tryd.runUnderlying25 rfl (ints_length _) (fun w1 hw1 => Row.own hva hw1)) ?_
 refine Lq.run 1 rfl ?_
 refine Lq.op (v := i6_ ((ys.length : Int))) rfl rfl rfl (OpQ.lenRow rfl Tryd.runUnderlying25 rfl (ints_length _) (fun w1 hw1 => Row.own hvb hw1)) ?_
 refine Lq.run 1 rfl ?_
 refine Lq.nil ?_
 refine Kt.sel [0, 1, 10] [_, _, _] rfl ?_
 refine Wk.cond (b := !(decide (((xs.length : Int)) = ((ys.length : Int))))) rfl (fun h10 => ?_) (fun h10 => ?_)
 ·
  replace h10 := not_true h10
  replace h10 := of_decide_eq_false h10
  refine Wk.seq ?_
  refine Wk.regionQ ?_
  refine Lq.run 1 rfl ?_
  refine Lq.nil ?_
  refine Kt.sel [4] [_] rfl ?_
  refine Wk.ret (Kt.end1 rfl rfl fun w' hw => ?_)
  have hf : (xs == ys) = false := by
   rw [beq_eq_false_iff_ne]; rintro rfl; simp_all
  exact ⟨ret_b hf.symm, hw.below⟩
 ·
  replace h10 := not_false h10
  replace h10 := of_decide_eq_true h10
  have hlen : xs.length = ys.length := by omega
  refine Wk.skip ?_
  refine Kt.sel [0, 1] [_, _] rfl ?_
  refine Wk.seq ?_
  refine Wk.seq ?_
  refine Wk.regionQ ?_
  refine Lq.run 1 rfl ?_
  refine Lq.nil ?_
  refine Kt.sel [0, 1, 5] [_, _, _] rfl ?_
  refine Wk.block ?_
  refine Wk.loop (σ := Nat) (fun k => k ≤ xs.length ∧ xs.take k = ys.take k) (fun k => [(0, va), (1, vb), (5, i6_ ((k : Int)))]) (fun k => Own w.heap.size w []) (fun k => xs.length - k) (0) ⟨by omega, rfl⟩ (Sub.sel [0, 1, 5] rfl) (fun _ h => h) ?_
  rintro k ⟨hk, hall⟩
  refine Wk.seq ?_
  refine Wk.seq ?_
  refine Wk.regionQ ?_
  refine Lq.run 2 rfl ?_
  refine Lq.op (v := i6_ ((xs.length : Int))) rfl rfl rfl (OpQ.lenRow rfl Tryd.runUnderlying25 rfl (ints_length _) (fun w1 hw1 => Row.own hva hw1)) ?_
  refine Lq.run 1 rfl ?_
  refine Lq.nil ?_
  refine Kt.sel [0, 1, 5, 14] [_, _, _, _] rfl ?_
  refine Wk.cond (b := decide (((k : Int)) < ((xs.length : Int)))) rfl (fun h14 => ?_) (fun h14 => ?_)
  ·
   replace h14 := of_decide_eq_true h14
   refine Wk.skip ?_
   refine Kt.sel [0, 1, 5] [_, _, _] rfl ?_
   refine Wk.seq ?_
   refine Wk.block ?_
   refine Wk.seq ?_
   refine Wk.regionD Base.mixed (fun _ h => h.drawn) (by kernel_rfl) ?_
   refine Lq.run 2 rfl ?_
   refine Lq.op (v := .pointer (some (sAt va ((k : Int))))) rfl rfl rfl (OpQ.atRow rfl Tryd.runUnderlying25 Tryd.sizeOf3 rfl rfl (by omega) (by rw [ints_length]; omega) (fun w1 hw1 => Row.own hva hw1)) ?_
   refine Lq.op (v := i6_ (xs.getD (((k : Int)).toNat) 0)) rfl rfl rfl (OpQ.load1 rfl Tryd.isAgg3 rfl (fun w1 hw1 => Ints.cell (Row.own hva hw1) (by omega) (by omega))) ?_
   refine Lq.run 2 rfl ?_
   refine Lq.op (v := .pointer (some (sAt vb ((k : Int))))) rfl rfl rfl (OpQ.atRow rfl Tryd.runUnderlying25 Tryd.sizeOf3 rfl rfl (by omega) (by rw [ints_length]; omega) (fun w1 hw1 => Row.own hvb hw1)) ?_
   refine Lq.op (v := i6_ (ys.getD (((k : Int)).toNat) 0)) rfl rfl rfl (OpQ.load1 rfl Tryd.isAgg3 rfl (fun w1 hw1 => Ints.cell (Row.own hvb hw1) (by omega) (by omega))) ?_
   refine Lq.run 1 rfl ?_
   refine Lq.nil ?_
   refine Kt.sel [0, 1, 5, 25] [_, _, _, _] rfl ?_
   refine Wk.cond (b := !(decide ((xs.getD (((k : Int)).toNat) 0) = (ys.getD (((k : Int)).toNat) 0)))) rfl (fun h25 => ?_) (fun h25 => ?_)
   ·
    replace h25 := not_true h25
    replace h25 := of_decide_eq_false h25
    refine Wk.seq ?_
    refine Wk.regionQ ?_
    refine Lq.run 1 rfl ?_
    refine Lq.nil ?_
    refine Kt.sel [4] [_] rfl ?_
    refine Wk.ret (Kt.end1 rfl rfl fun w' hw => ?_)
    have hf : (xs == ys) = false := by
     rw [beq_eq_false_iff_ne]; rintro rfl; simp_all
    exact ⟨ret_b hf.symm, hw.below⟩
   ·
    replace h25 := not_false h25
    replace h25 := of_decide_eq_true h25
    refine Wk.skip ?_
    refine Kt.sel [0, 1, 5] [_, _, _] rfl ?_
    refine Wk.regionQ ?_
    refine Lq.run 1 rfl ?_
    refine Lq.op rfl rfl rfl (OpQ.add rfl rfl rfl (by omega) (by omega)) ?_
    refine Lq.run 1 rfl ?_
    refine Lq.nil ?_
    refine Kt.again (k + 1) ⟨by omega, eq_take (by omega) (by omega) hall (by simpa using h25)⟩ (by omega) (Sub.sel [0, 1, 5] rfl) (fun _ h => h)
  ·
   replace h14 := of_decide_eq_false h14
   refine Wk.exit rfl ?_
   refine Kt.sel [] [] rfl ?_
   refine Wk.seq ?_
   refine Wk.regionQ ?_
   refine Lq.run 1 rfl ?_
   refine Lq.nil ?_
   refine Kt.sel [4] [_] rfl ?_
   refine Wk.ret (Kt.end1 rfl rfl fun w' hw => ?_)
   exact ⟨ret_b (by rw [List.take_of_length_le (by omega), List.take_of_length_le (by omega)] at hall; simp [hall]), hw.below⟩
set_option maxHeartbeats 400000 in
/-- laws.toIntS -/
theorem toInt_ok (va : Value) (xs : List Int) (w : World) (hva : Ints w va xs) (hs : xs.length ≤ 1048576) :
    Calls Tryd.prog 25 [va].toArray w fun en w' => ∃ v, en = .returned v ∧ Below w.heap.size w w' ∧ NewRow w.heap.size 3 1 w' v xs.length (ints xs) := by
 refine fnStart (n := 22) (e := [(0, va)]) Tryd.func25 rfl rfl rfl rfl Ends.both ?_
 refine Wk.seq ?_
 refine Wk.regionQ ?_
 refine Lq.run 1 rfl ?_
 refine Lq.nil ?_
 refine Kt.sel [0] [_] rfl ?_
 refine Wk.seq ?_
 refine Wk.region ?_
 refine Ll.run 1 rfl ?_
 refine Ll.op (v := i6_ ((xs.length : Int))) rfl rfl rfl (OpQ.lenRow rfl Tryd.runUnderlying25 rfl (ints_length _) (fun w1 hw1 => Row.own hva hw1)) ?_
 refine Ll.make (k := xs.length) Base.elem25 Tryd.zeroValue3 rfl rfl rfl rfl rfl (by omega) fun p7 hp7 => ?_
 rw [show madeCells (Value.cells (i6_ 0)) (xs.length * 1) = (ints (List.replicate xs.length 0)).toArray from made_ints _]
 refine Ll.run 1 rfl ?_
 refine Ll.nil ?_
 refine Kt.sel [0, 3] [_, _] rfl ?_
 refine Wk.seq ?_
 refine Wk.seq ?_
 refine Wk.regionQ ?_
 refine Lq.run 1 rfl ?_
 refine Lq.nil ?_
 refine Kt.sel [0, 3, 4] [_, _, _] rfl ?_
 refine Wk.block ?_
 refine Wk.loop (σ := Nat) (fun k => k ≤ xs.length) (fun k => [(0, va), (3, sl_ p7 xs.length xs.length), (4, i6_ ((k : Int)))]) (fun k => Own w.heap.size w [bk_ p7 ((ints (xs.take k ++ List.replicate (xs.length - k) 0)).toArray) 3]) (fun k => xs.length - k) (0) (by omega) (Sub.sel [0, 3, 4] rfl) (fun _ h => by simpa using h) ?_
 rintro k hk
 refine Wk.seq ?_
 refine Wk.seq ?_
 refine Wk.regionQ ?_
 refine Lq.run 2 rfl ?_
 refine Lq.op (v := i6_ ((xs.length : Int))) rfl rfl rfl (OpQ.lenRow rfl Tryd.runUnderlying25 rfl (ints_length _) (fun w1 hw1 => Row.own hva hw1)) ?_
 refine Lq.run 1 rfl ?_
 refine Lq.nil ?_
 refine Kt.sel [0, 3, 4, 11] [_, _, _, _] rfl ?_
 refine Wk.cond (b := decide (((k : Int)) < ((xs.length : Int)))) rfl (fun h11 => ?_) (fun h11 => ?_)
 ·
  replace h11 := of_decide_eq_true h11
  refine Wk.skip ?_
  refine Kt.sel [0, 3, 4] [_, _, _] rfl ?_
  refine Wk.seq ?_
  refine Wk.block ?_
  refine Wk.region ?_
  refine Ll.run 4 rfl ?_
  refine Ll.op (v := .pointer (some (sAt va ((k : Int))))) rfl rfl rfl (OpQ.atRow rfl Tryd.runUnderlying25 Tryd.sizeOf3 rfl rfl (by omega) (by rw [ints_length]; omega) (fun w1 hw1 => Row.own hva hw1)) ?_
  refine Ll.op (v := i6_ (xs.getD (((k : Int)).toNat) 0)) rfl rfl rfl (OpQ.load1 rfl Tryd.isAgg3 rfl (fun w1 hw1 => Ints.cell (Row.own hva hw1) (by omega) (by omega))) ?_
  refine Ll.op (v := pf_ p7 (0 + ((k : Int)).toNat)) rfl rfl rfl (OpQ.indexAddr1 rfl Tryd.runUnderlying25 Tryd.sizeOf3 rfl rfl (by omega) (by omega)) ?_
  refine Ll.store1 (v := i6_ (xs.getD (((k : Int)).toNat) 0)) (hs' := [bk_ p7 ((ints ((xs.take k ++ List.replicate (xs.length - k) 0).set (((k : Int)).toNat) (xs.getD (((k : Int)).toNat) 0))).toArray) 3]) 0 rfl rfl rfl rfl rfl rfl Tryd.sizeOf3 rfl (by first | (simp; done) | (simp; omega) | omega) (by first | (rw [ints_set]; rfl) | (simp only [Nat.zero_add]; rw [ints_set]; rfl)) ?_
  refine Ll.nil ?_
  refine Kt.sel [0, 3, 4] [_, _, _] rfl ?_
  refine Wk.regionQ ?_
  refine Lq.run 1 rfl ?_
  refine Lq.op rfl rfl rfl (OpQ.add rfl rfl rfl (by omega) (by omega)) ?_
  refine Lq.run 1 rfl ?_
  refine Lq.nil ?_
  refine Kt.again (k + 1) (by omega) (by omega) (Sub.sel [0, 3, 4] rfl) (fun _ h => by rw [show xs.take (k + 1) ++ List.replicate (xs.length - (k + 1)) 0 = (xs.take k ++ List.replicate (xs.length - k) 0).set (((k : Int)).toNat) (xs.getD (((k : Int)).toNat) 0) from (by simp only [Int.toNat_natCast]; exact (rep_set (by omega)).symm)]; exact h)
 ·
  replace h11 := of_decide_eq_false h11
  refine Wk.exit rfl ?_
  refine Kt.sel [3] [_] rfl ?_
  refine Wk.seq ?_
  refine Wk.regionQ ?_
  refine Lq.run 2 rfl ?_
  refine Lq.nil ?_
  refine Kt.sel [2] [_] rfl ?_
  refine Wk.ret (Kt.end1 rfl rfl fun w' hw => ?_)
  obtain rfl : k = xs.length := by omega
  exact ⟨_, rfl, hw.below, hw.newRow (i := 0) (n := xs.length) rfl (by simp) (by omega) (by simp [List.take_of_length_le])⟩
end Go.Proofs.YtnfkmfdhmlombaaDoor
namespace Go.Proofs.YtnfkmfdhmlombaaDoor
open Go.RowKit Go.Wk
set_option linter.unusedSimpArgs false
set_option maxHeartbeats 400000 in
/-- spec.Separates -/
theorem sSep_ok (f : List UInt8) (a b : St) (xs ys : List Int) (va vb : Value) (w : World) (hsa : a.Small) (hsb : b.Small) (hva : Ints w va xs) (hvb : Ints w vb ys) (hf : f.length ≤ 1048576) (_hlx : xs.length ≤ 1048576) (_hly : ys.length ≤ 1048576) :
    Calls Tryd.prog 29 [str f, vS a, va, vS b, vb].toArray w fun en w' => en = .returned (.bool (sepB f a xs b ys)) ∧ Below w.heap.size w w' := by
 refine fnStart (n := 47) (e := [(0, str f), (1, vS a), (2, va), (3, vS b), (4, vb)]) Tryd.func29 rfl rfl rfl rfl Ends.both ?_
 refine Wk.seq ?_
 refine Wk.region ?_
 refine Ll.box (v := vS a) rfl rfl rfl rfl rfl fun p6 hp6 => ?_
 show Ll _ _ (Own _ _ [_]) _ _ ((6, pt_ p6) :: _) _ _ _
 refine Ll.box (v := vS b) rfl rfl rfl rfl rfl fun p8 hp8 => ?_
 show Ll _ _ (Own _ _ [_, _]) _ _ ((8, pt_ p8) :: _) _ _ _
 refine Ll.run 1 rfl ?_
 refine Ll.nil ?_
 refine Kt.sel [0, 2, 4, 6, 8] [_, _, _, _, _] rfl ?_
 refine Wk.seq ?_
 refine Wk.regionQ ?_
 refine Lq.op rfl rfl rfl (OpQ.loadBox (cs := #[i6_ a.n, str a.set, str a.rel]) 1 rfl Tryd.isAgg28 rfl rfl Tryd.sizeOf28) ?_
 refine Lq.run 2 rfl ?_
 refine Lq.op (v := .tuple #[bo_ (holdV a f xs), bo_ (holdK a f xs)]) rfl rfl rfl (OpQ.call rfl Tryd.call79 rfl Own.stable (fun w1 hw1 => sHolds_ok a f va xs w1 hsa hf (Row.own hva hw1))) ?_
 refine Lq.run 1 rfl ?_
 refine Lq.op (v := bo_ (holdV a f xs)) rfl rfl rfl (OpQ.extract rfl rfl rfl) ?_
 refine Lq.op (v := bo_ (holdK a f xs)) rfl rfl rfl (OpQ.extract rfl rfl rfl) ?_
 refine Lq.run 2 rfl ?_
 refine Lq.nil ?_
 refine Kt.sel [0, 2, 4, 8, 11, 12] [_, _, _, _, _, _] rfl ?_
 refine Wk.seq ?_
 refine Wk.regionQ ?_
 refine Lq.op rfl rfl rfl (OpQ.loadBox (cs := #[i6_ b.n, str b.set, str b.rel]) 0 rfl Tryd.isAgg28 rfl rfl Tryd.sizeOf28) ?_
 refine Lq.run 2 rfl ?_
 refine Lq.op (v := .tuple #[bo_ (holdV b f ys), bo_ (holdK b f ys)]) rfl rfl rfl (OpQ.call rfl Tryd.call79 rfl Own.stable (fun w1 hw1 => sHolds_ok b f vb ys w1 hsb hf (Row.own hvb hw1))) ?_
 refine Lq.run 1 rfl ?_
 refine Lq.op (v := bo_ (holdV b f ys)) rfl rfl rfl (OpQ.extract rfl rfl rfl) ?_
 refine Lq.op (v := bo_ (holdK b f ys)) rfl rfl rfl (OpQ.extract rfl rfl rfl) ?_
 refine Lq.run 2 rfl ?_
 refine Lq.nil ?_
 refine Kt.sel [2, 4, 11, 12, 13, 14] [_, _, _, _, _, _] rfl ?_
 refine Wk.seq ?_
 refine Wk.regionQ ?_
 refine Lq.run 2 rfl ?_
 refine Lq.bool fun b30 hg30 => ?_
 cases b30
 ·
  refine Lq.pass rfl rfl rfl ?_
  refine Lq.run 2 rfl ?_
  refine Lq.pass rfl rfl rfl ?_
  refine Lq.pass rfl rfl rfl ?_
  refine Lq.pass rfl rfl rfl ?_
  refine Lq.pass rfl rfl rfl ?_
  refine Lq.pass rfl rfl rfl ?_
  refine Lq.run 2 rfl ?_
  refine Lq.pass rfl rfl rfl ?_
  refine Lq.run 2 rfl ?_
  refine Lq.pass rfl rfl rfl ?_
  refine Lq.pass rfl rfl rfl ?_
  refine Lq.run 2 rfl ?_
  refine Lq.nil ?_
  refine Kt.sel [10] [_] rfl ?_
  refine Wk.ret (Kt.end1 rfl rfl fun w' hw => ?_)
  exact ⟨ret_b (by first | rfl | (simp_all [sepB]; done) | (simp_all [sepB]; omega)), hw.below⟩
 ·
  refine Lq.run 3 rfl ?_
  refine Lq.bool fun b33 hg33 => ?_
  cases b33
  ·
   refine Lq.pass rfl rfl rfl ?_
   refine Lq.pass rfl rfl rfl ?_
   refine Lq.pass rfl rfl rfl ?_
   refine Lq.pass rfl rfl rfl ?_
   refine Lq.pass rfl rfl rfl ?_
   refine Lq.run 2 rfl ?_
   refine Lq.pass rfl rfl rfl ?_
   refine Lq.run 2 rfl ?_
   refine Lq.pass rfl rfl rfl ?_
   refine Lq.pass rfl rfl rfl ?_
   refine Lq.run 2 rfl ?_
   refine Lq.nil ?_
   refine Kt.sel [10] [_] rfl ?_
   refine Wk.ret (Kt.end1 rfl rfl fun w' hw => ?_)
   exact ⟨ret_b (by first | rfl | (simp_all [sepB]; done) | (simp_all [sepB]; omega)), hw.below⟩
  ·
   refine Lq.run 1 rfl ?_
   refine Lq.op (v := i6_ ((xs.length : Int))) rfl rfl rfl (OpQ.lenRow rfl Tryd.runUnderlying25 rfl (ints_length _) (fun w1 hw1 => Row.own hva hw1)) ?_
   refine Lq.run 1 rfl ?_
   refine Lq.op (v := i6_ ((ys.length : Int))) rfl rfl rfl (OpQ.lenRow rfl Tryd.runUnderlying25 rfl (ints_length _) (fun w1 hw1 => Row.own hvb hw1)) ?_
   refine Lq.run 3 rfl ?_
   refine Lq.bool fun b40 hg40 => ?_
   cases b40
   ·
    replace hg40 := of_decide_eq_false hg40
    refine Lq.pass rfl rfl rfl ?_
    refine Lq.run 2 rfl ?_
    refine Lq.pass rfl rfl rfl ?_
    refine Lq.pass rfl rfl rfl ?_
    refine Lq.run 2 rfl ?_
    refine Lq.nil ?_
    refine Kt.sel [10] [_] rfl ?_
    refine Wk.ret (Kt.end1 rfl rfl fun w' hw => ?_)
    exact ⟨ret_b (by first | rfl | (simp_all [sepB]; done) | (simp_all [sepB]; omega)), hw.below⟩
   ·
    replace hg40 := of_decide_eq_true hg40
    refine Lq.run 3 rfl ?_
    refine Lq.bool fun b43 hg43 => ?_
    cases b43
    ·
     refine Lq.pass rfl rfl rfl ?_
     refine Lq.pass rfl rfl rfl ?_
     refine Lq.run 2 rfl ?_
     refine Lq.nil ?_
     refine Kt.sel [10] [_] rfl ?_
     refine Wk.ret (Kt.end1 rfl rfl fun w' hw => ?_)
     exact ⟨ret_b (by first | rfl | (simp_all [sepB]; done) | (simp_all [sepB]; omega)), hw.below⟩
    ·
     refine Lq.run 4 rfl ?_
     refine Lq.nil ?_
     refine Kt.sel [10] [_] rfl ?_
     refine Wk.ret (Kt.end1 rfl rfl fun w' hw => ?_)
     exact ⟨ret_b (by first | rfl | (simp_all [sepB]; done) | (simp_all [sepB]; omega)), hw.below⟩
set_option maxHeartbeats 400000 in
/-- impl.Separates -/
theorem iSep_ok (f : List UInt8) (a b : St) (xs ys : List Int) (va vb : Value) (w : World) (hsa : a.Small) (hsb : b.Small) (hva : Ints w va xs) (hvb : Ints w vb ys) (_hf : f.length ≤ 1048576) (hlx : xs.length ≤ 1048576) (hly : ys.length ≤ 1048576) :
    Calls Tryd.prog 30 [str f, vS a, va, vS b, vb].toArray w fun en w' => en = .returned (.bool (sepB f a xs b ys)) ∧ Below w.heap.size w w' := by
 refine fnStart (n := 47) (e := [(0, str f), (1, vS a), (2, va), (3, vS b), (4, vb)]) Tryd.func30 rfl rfl rfl rfl Ends.both ?_
 refine Wk.seq ?_
 refine Wk.region ?_
 refine Ll.box (v := vS a) rfl rfl rfl rfl rfl fun p6 hp6 => ?_
 show Ll _ _ (Own _ _ [_]) _ _ ((6, pt_ p6) :: _) _ _ _
 refine Ll.box (v := vS b) rfl rfl rfl rfl rfl fun p8 hp8 => ?_
 show Ll _ _ (Own _ _ [_, _]) _ _ ((8, pt_ p8) :: _) _ _ _
 refine Ll.run 1 rfl ?_
 refine Ll.nil ?_
 refine Kt.sel [0, 2, 4, 6, 8] [_, _, _, _, _] rfl ?_
 refine Wk.seq ?_
 refine Wk.regionQ ?_
 refine Lq.op rfl rfl rfl (OpQ.loadBox (cs := #[i6_ a.n, str a.set, str a.rel]) 1 rfl Tryd.isAgg28 rfl rfl Tryd.sizeOf28) ?_
 refine Lq.run 2 rfl ?_
 refine Lq.op (v := .tuple #[bo_ (holdV a f xs), bo_ (holdK a f xs)]) rfl rfl rfl (OpQ.call rfl Tryd.call80 rfl Own.stable (fun w1 hw1 => iHolds_ok a f va xs w1 hsa (Row.own hva hw1) (by first | (simp; done) | omega))) ?_
 refine Lq.run 1 rfl ?_
 refine Lq.op (v := bo_ (holdV a f xs)) rfl rfl rfl (OpQ.extract rfl rfl rfl) ?_
 refine Lq.op (v := bo_ (holdK a f xs)) rfl rfl rfl (OpQ.extract rfl rfl rfl) ?_
 refine Lq.run 2 rfl ?_
 refine Lq.nil ?_
 refine Kt.sel [0, 2, 4, 8, 11, 12] [_, _, _, _, _, _] rfl ?_
 refine Wk.seq ?_
 refine Wk.regionQ ?_
 refine Lq.op rfl rfl rfl (OpQ.loadBox (cs := #[i6_ b.n, str b.set, str b.rel]) 0 rfl Tryd.isAgg28 rfl rfl Tryd.sizeOf28) ?_
 refine Lq.run 2 rfl ?_
 refine Lq.op (v := .tuple #[bo_ (holdV b f ys), bo_ (holdK b f ys)]) rfl rfl rfl (OpQ.call rfl Tryd.call80 rfl Own.stable (fun w1 hw1 => iHolds_ok b f vb ys w1 hsb (Row.own hvb hw1) (by first | (simp; done) | omega))) ?_
 refine Lq.run 1 rfl ?_
 refine Lq.op (v := bo_ (holdV b f ys)) rfl rfl rfl (OpQ.extract rfl rfl rfl) ?_
 refine Lq.op (v := bo_ (holdK b f ys)) rfl rfl rfl (OpQ.extract rfl rfl rfl) ?_
 refine Lq.run 2 rfl ?_
 refine Lq.nil ?_
 refine Kt.sel [2, 4, 11, 12, 13, 14] [_, _, _, _, _, _] rfl ?_
 refine Wk.seq ?_
 refine Wk.regionQ ?_
 refine Lq.run 1 rfl ?_
 refine Lq.op (v := i6_ ((xs.length : Int))) rfl rfl rfl (OpQ.lenRow rfl Tryd.runUnderlying25 rfl (ints_length _) (fun w1 hw1 => Row.own hva hw1)) ?_
 refine Lq.run 1 rfl ?_
 refine Lq.op (v := i6_ ((ys.length : Int))) rfl rfl rfl (OpQ.lenRow rfl Tryd.runUnderlying25 rfl (ints_length _) (fun w1 hw1 => Row.own hvb hw1)) ?_
 refine Lq.run 2 rfl ?_
 refine Lq.bool fun b34 hg34 => ?_
 cases b34
 ·
  replace hg34 := of_decide_eq_false hg34
  refine Lq.pass rfl rfl rfl ?_
  refine Lq.run 2 rfl ?_
  refine Lq.pass rfl rfl rfl ?_
  refine Lq.run 2 rfl ?_
  refine Lq.pass rfl rfl rfl ?_
  refine Lq.run 2 rfl ?_
  refine Lq.pass rfl rfl rfl ?_
  refine Lq.pass rfl rfl rfl ?_
  refine Lq.run 2 rfl ?_
  refine Lq.nil ?_
  refine Kt.sel [10] [_] rfl ?_
  refine Wk.ret (Kt.end1 rfl rfl fun w' hw => ?_)
  exact ⟨ret_b (by first | rfl | (simp_all [sepB]; done) | (simp_all [sepB]; omega)), hw.below⟩
 ·
  replace hg34 := of_decide_eq_true hg34
  refine Lq.run 3 rfl ?_
  refine Lq.bool fun b37 hg37 => ?_
  cases b37
  ·
   refine Lq.pass rfl rfl rfl ?_
   refine Lq.run 2 rfl ?_
   refine Lq.pass rfl rfl rfl ?_
   refine Lq.run 2 rfl ?_
   refine Lq.pass rfl rfl rfl ?_
   refine Lq.pass rfl rfl rfl ?_
   refine Lq.run 2 rfl ?_
   refine Lq.nil ?_
   refine Kt.sel [10] [_] rfl ?_
   refine Wk.ret (Kt.end1 rfl rfl fun w' hw => ?_)
   exact ⟨ret_b (by first | rfl | (simp_all [sepB]; done) | (simp_all [sepB]; omega)), hw.below⟩
  ·
   refine Lq.run 3 rfl ?_
   refine Lq.bool fun b40 hg40 => ?_
   cases b40
   ·
    refine Lq.pass rfl rfl rfl ?_
    refine Lq.run 2 rfl ?_
    refine Lq.pass rfl rfl rfl ?_
    refine Lq.pass rfl rfl rfl ?_
    refine Lq.run 2 rfl ?_
    refine Lq.nil ?_
    refine Kt.sel [10] [_] rfl ?_
    refine Wk.ret (Kt.end1 rfl rfl fun w' hw => ?_)
    exact ⟨ret_b (by first | rfl | (simp_all [sepB]; done) | (simp_all [sepB]; omega)), hw.below⟩
   ·
    refine Lq.run 3 rfl ?_
    refine Lq.bool fun b43 hg43 => ?_
    cases b43
    ·
     refine Lq.pass rfl rfl rfl ?_
     refine Lq.pass rfl rfl rfl ?_
     refine Lq.run 2 rfl ?_
     refine Lq.nil ?_
     refine Kt.sel [10] [_] rfl ?_
     refine Wk.ret (Kt.end1 rfl rfl fun w' hw => ?_)
     exact ⟨ret_b (by first | rfl | (simp_all [sepB]; done) | (simp_all [sepB]; omega)), hw.below⟩
    ·
     refine Lq.run 4 rfl ?_
     refine Lq.nil ?_
     refine Kt.sel [10] [_] rfl ?_
     refine Wk.ret (Kt.end1 rfl rfl fun w' hw => ?_)
     exact ⟨ret_b (by first | rfl | (simp_all [sepB]; done) | (simp_all [sepB]; omega)), hw.below⟩
set_option maxHeartbeats 400000 in
/-- laws.FnExactSeparates -/
theorem lawSep (f : List UInt8) (a b : St) (xs ys : List Int) (va vb : Value) (w : World) (h1a : a.set.length ≤ 9223372036854775807) (h2a : a.rel.length ≤ 9223372036854775807) (h1b : b.set.length ≤ 9223372036854775807) (h2b : b.rel.length ≤ 9223372036854775807) (hva : Ints w va xs) (hvb : Ints w vb ys) :
    Calls Tryd.prog 7 [str f, vS a, va, vS b, vb].toArray w fun en w' => en = .returned (.bool true) ∧ Below w.heap.size w w' := by
 refine fnStart (n := 70) (e := [(0, str f), (1, vS a), (2, va), (3, vS b), (4, vb)]) Tryd.func7 rfl rfl rfl rfl Ends.both ?_
 refine Wk.seq ?_
 refine Wk.region ?_
 refine Ll.box (v := vS a) rfl rfl rfl rfl rfl fun p6 hp6 => ?_
 show Ll _ _ (Own _ _ [_]) _ _ ((6, pt_ p6) :: _) _ _ _
 refine Ll.box (v := vS b) rfl rfl rfl rfl rfl fun p8 hp8 => ?_
 show Ll _ _ (Own _ _ [_, _]) _ _ ((8, pt_ p8) :: _) _ _ _
 refine Ll.run 1 rfl ?_
 refine Ll.nil ?_
 refine Kt.sel [0, 2, 4, 6, 8] [_, _, _, _, _] rfl ?_
 refine Wk.seq ?_
 refine Wk.seq ?_
 refine Wk.regionQ ?_
 refine Lq.run 1 rfl ?_
 refine Lq.op (v := i6_ ((f.length : Int))) rfl rfl rfl (OpQ.lenStr rfl Tryd.runUnderlying9 rfl) ?_
 refine Lq.run 1 rfl ?_
 refine Lq.nil ?_
 refine Kt.sel [0, 2, 4, 6, 8, 18] [_, _, _, _, _, _] rfl ?_
 refine Wk.cond (b := decide ((1048576 : Int) < ((f.length : Int)))) rfl (fun h18 => ?_) (fun h18 => ?_)
 ·
  replace h18 := of_decide_eq_true h18
  refine Wk.seq ?_
  refine Wk.regionQ ?_
  refine Lq.run 1 rfl ?_
  refine Lq.nil ?_
  refine Kt.sel [10] [_] rfl ?_
  refine Wk.ret (Kt.end1 rfl rfl fun w' hw => ?_)
  exact ⟨ret_b (by first | rfl | (simp_all; done) | (simp_all; omega)), hw.below⟩
 ·
  replace h18 := of_decide_eq_false h18
  refine Wk.skip ?_
  refine Kt.sel [0, 2, 4, 6, 8] [_, _, _, _, _] rfl ?_
  refine Wk.seq ?_
  refine Wk.seq ?_
  refine Wk.regionQ ?_
  refine Lq.run 1 rfl ?_
  refine Lq.op (v := i6_ ((xs.length : Int))) rfl rfl rfl (OpQ.lenRow rfl Tryd.runUnderlying25 rfl (ints_length _) (fun w1 hw1 => Row.own hva hw1)) ?_
  refine Lq.run 1 rfl ?_
  refine Lq.nil ?_
  refine Kt.sel [0, 2, 4, 6, 8, 21] [_, _, _, _, _, _] rfl ?_
  refine Wk.cond (b := decide ((1048576 : Int) < ((xs.length : Int)))) rfl (fun h21 => ?_) (fun h21 => ?_)
  ·
   replace h21 := of_decide_eq_true h21
   refine Wk.seq ?_
   refine Wk.regionQ ?_
   refine Lq.run 1 rfl ?_
   refine Lq.nil ?_
   refine Kt.sel [10] [_] rfl ?_
   refine Wk.ret (Kt.end1 rfl rfl fun w' hw => ?_)
   exact ⟨ret_b (by first | rfl | (simp_all; done) | (simp_all; omega)), hw.below⟩
  ·
   replace h21 := of_decide_eq_false h21
   refine Wk.skip ?_
   refine Kt.sel [0, 2, 4, 6, 8] [_, _, _, _, _] rfl ?_
   refine Wk.seq ?_
   refine Wk.seq ?_
   refine Wk.regionQ ?_
   refine Lq.run 1 rfl ?_
   refine Lq.op (v := i6_ ((ys.length : Int))) rfl rfl rfl (OpQ.lenRow rfl Tryd.runUnderlying25 rfl (ints_length _) (fun w1 hw1 => Row.own hvb hw1)) ?_
   refine Lq.run 1 rfl ?_
   refine Lq.nil ?_
   refine Kt.sel [0, 2, 4, 6, 8, 24] [_, _, _, _, _, _] rfl ?_
   refine Wk.cond (b := decide ((1048576 : Int) < ((ys.length : Int)))) rfl (fun h24 => ?_) (fun h24 => ?_)
   ·
    replace h24 := of_decide_eq_true h24
    refine Wk.seq ?_
    refine Wk.regionQ ?_
    refine Lq.run 1 rfl ?_
    refine Lq.nil ?_
    refine Kt.sel [10] [_] rfl ?_
    refine Wk.ret (Kt.end1 rfl rfl fun w' hw => ?_)
    exact ⟨ret_b (by first | rfl | (simp_all; done) | (simp_all; omega)), hw.below⟩
   ·
    replace h24 := of_decide_eq_false h24
    refine Wk.skip ?_
    refine Kt.sel [0, 2, 4, 6, 8] [_, _, _, _, _] rfl ?_
    refine Wk.seq ?_
    refine Wk.regionQ ?_
    refine Lq.run 1 rfl ?_
    refine Lq.nil ?_
    refine Kt.sel [0, 2, 4, 6, 8, 11] [_, _, _, _, _, _] rfl ?_
    refine Wk.seq ?_
    refine Wk.regionQ ?_
    refine Lq.op rfl rfl rfl (OpQ.loadBox (cs := #[i6_ a.n, str a.set, str a.rel]) 1 rfl Tryd.isAgg23 rfl rfl Tryd.sizeOf23) ?_
    refine Lq.run 1 rfl ?_
    refine Lq.op (v := i6_ (szB a 1048576)) rfl rfl rfl (OpQ.call rfl Tryd.call13 rfl Own.stable (fun w1 hw1 => sz_ok a 1048576 w1 (by omega) (by omega) h1a h2a)) ?_
    refine Lq.run 1 rfl ?_
    refine Lq.nil ?_
    refine Kt.sel [0, 2, 4, 6, 8, 11] [_, _, _, _, _, _] rfl ?_
    refine Wk.seq ?_
    refine Wk.seq ?_
    refine Wk.regionQ ?_
    refine Lq.run 2 rfl ?_
    refine Lq.nil ?_
    refine Kt.sel [0, 2, 4, 6, 8, 11, 29] [_, _, _, _, _, _, _] rfl ?_
    refine Wk.cond (b := decide ((szB a 1048576) < (0 : Int))) rfl (fun h29 => ?_) (fun h29 => ?_)
    ·
     replace h29 := of_decide_eq_true h29
     refine Wk.seq ?_
     refine Wk.regionQ ?_
     refine Lq.run 1 rfl ?_
     refine Lq.nil ?_
     refine Kt.sel [10] [_] rfl ?_
     refine Wk.ret (Kt.end1 rfl rfl fun w' hw => ?_)
     exact ⟨ret_b (by first | rfl | (simp_all; done) | (simp_all; omega)), hw.below⟩
    ·
     replace h29 := of_decide_eq_false h29
     obtain ⟨hsa, hz0a, hz1a⟩ := szB_small (by omega) h29
     refine Wk.skip ?_
     refine Kt.sel [0, 2, 4, 6, 8, 11] [_, _, _, _, _, _] rfl ?_
     refine Wk.seq ?_
     refine Wk.regionQ ?_
     refine Lq.op rfl rfl rfl (OpQ.loadBox (cs := #[i6_ b.n, str b.set, str b.rel]) 0 rfl Tryd.isAgg23 rfl rfl Tryd.sizeOf23) ?_
     refine Lq.run 1 rfl ?_
     refine Lq.op (v := i6_ (szB b (szB a 1048576))) rfl rfl rfl (OpQ.call rfl Tryd.call13 rfl Own.stable (fun w1 hw1 => sz_ok b (szB a 1048576) w1 (by omega) (by omega) h1b h2b)) ?_
     refine Lq.run 1 rfl ?_
     refine Lq.nil ?_
     refine Kt.sel [0, 2, 4, 6, 8, 11] [_, _, _, _, _, _] rfl ?_
     refine Wk.seq ?_
     refine Wk.seq ?_
     refine Wk.regionQ ?_
     refine Lq.run 2 rfl ?_
     refine Lq.nil ?_
     refine Kt.sel [0, 2, 4, 6, 8, 34] [_, _, _, _, _, _] rfl ?_
     refine Wk.cond (b := decide ((szB b (szB a 1048576)) < (0 : Int))) rfl (fun h34 => ?_) (fun h34 => ?_)
     ·
      replace h34 := of_decide_eq_true h34
      refine Wk.seq ?_
      refine Wk.regionQ ?_
      refine Lq.run 1 rfl ?_
      refine Lq.nil ?_
      refine Kt.sel [10] [_] rfl ?_
      refine Wk.ret (Kt.end1 rfl rfl fun w' hw => ?_)
      exact ⟨ret_b (by first | rfl | (simp_all; done) | (simp_all; omega)), hw.below⟩
     ·
      replace h34 := of_decide_eq_false h34
      obtain ⟨hsb, hz0b, hz1b⟩ := szB_small (by omega) h34
      refine Wk.skip ?_
      refine Kt.sel [0, 2, 4, 6, 8] [_, _, _, _, _] rfl ?_
      refine Wk.seq ?_
      refine Wk.regionO [(0, true), (1, true), (3, true), (5, true), (7, true), (2, false), (4, false), (6, false), (8, false), (9, false), (10, true)] Base.mixed (fun _ h => h.drawn) (by kernel_rfl) ?_
      refine Ld.run 1 rfl (fun _ h => h) ?_
      refine Ld.take rfl rfl rfl rfl rfl (OpQ.loadBox (cs := #[i6_ a.n, str a.set, str a.rel]) 1 rfl Tryd.isAgg23 rfl rfl Tryd.sizeOf23) (fun _ h => h) ?_
      refine Ld.run 1 rfl (fun _ h => h) ?_
      refine Ld.take rfl rfl rfl rfl rfl (OpQ.loadBox (cs := #[i6_ b.n, str b.set, str b.rel]) 0 rfl Tryd.isAgg23 rfl rfl Tryd.sizeOf23) (fun _ h => h) ?_
      refine Ld.run 1 rfl (fun _ h => h) ?_
      refine Ld.loud rfl ?_
      refine Ll.op (v := vS a) rfl rfl rfl (OpQ.call rfl Tryd.call15 rfl Own.stable (fun w1 hw1 => toSt_ok a w1 )) ?_
      refine Ll.nil (Ld.joint (fun _ h => h) ?_)
      refine Ld.loud rfl ?_
      refine Ll.callRow (xs := [.tmp 38]) (m := xs.length) (vs := ints xs) (el := 3) (size := 1) rfl rfl rfl rfl Tryd.call25 rfl (fun w1 hw1 => toInt_ok va xs w1 (Row.own hva hw1) (by omega)) fun p39 cap39 cur39 hp39 hcp39 hlp39 htp39 => ?_
      refine Ll.nil (Ld.joint (fun _ h => h.tail) ?_)
      refine Ld.loud rfl ?_
      refine Ll.op (v := vS b) rfl rfl rfl (OpQ.call rfl Tryd.call15 rfl Own.stable (fun w1 hw1 => toSt_ok b w1 )) ?_
      refine Ll.nil (Ld.joint (fun _ h => h.tail) ?_)
      refine Ld.loud rfl ?_
      refine Ll.callRow (xs := [.tmp 42]) (m := ys.length) (vs := ints ys) (el := 3) (size := 1) rfl rfl rfl rfl Tryd.call25 rfl (fun w1 hw1 => toInt_ok vb ys w1 (Row.own hvb hw1) (by omega)) fun p43 cap43 cur43 hp43 hcp43 hlp43 htp43 => ?_
      refine Ll.nil (Ld.joint (fun _ h => h.tail.tail) ?_)
      refine Ld.loud rfl ?_
      refine Ll.op (v := bo_ (sepB f a xs b ys)) rfl rfl rfl (OpQ.call rfl Tryd.call29 rfl Own.stable (fun w1 hw1 => sSep_ok f a b xs ys (sl_ p39 xs.length cap39) (sl_ p43 ys.length cap43) w1 hsa hsb (Own.row hw1 (i := 1) rfl (by simpa using htp39) (by simp) hlp39) (Own.row hw1 (i := 0) rfl (by simpa using htp43) (by simp) hlp43) (by omega) (by omega) (by omega))) ?_
      refine Ll.nil (Ld.joint (fun _ h => h.tail.tail) ?_)
      refine Ld.run 1 rfl (fun _ h => h.tail.tail) ?_
      refine Ld.nil ?_
      refine Kt.sel [0, 2, 4, 6, 8, 12] [_, _, _, _, _, _] rfl ?_
      refine Wk.seq ?_
      refine Wk.region ?_
      refine Ll.run 1 rfl ?_
      refine Ll.callRow (xs := [.tmp 45]) (m := xs.length) (vs := ints xs) (el := 3) (size := 1) rfl rfl rfl rfl Tryd.call25 rfl (fun w1 hw1 => toInt_ok va xs w1 (Row.own hva hw1) (by omega)) fun p46 cap46 cur46 hp46 hcp46 hlp46 htp46 => ?_
      refine Ll.run 1 rfl ?_
      refine Ll.nil ?_
      refine Kt.sel [0, 2, 4, 6, 8, 12, 13] [_, _, _, _, _, _, _] rfl ?_
      refine Wk.seq ?_
      refine Wk.region ?_
      refine Ll.run 1 rfl ?_
      refine Ll.callRow (xs := [.tmp 47]) (m := ys.length) (vs := ints ys) (el := 3) (size := 1) rfl rfl rfl rfl Tryd.call25 rfl (fun w1 hw1 => toInt_ok vb ys w1 (Row.own hvb hw1) (by omega)) fun p48 cap48 cur48 hp48 hcp48 hlp48 htp48 => ?_
      refine Ll.run 1 rfl ?_
      refine Ll.nil ?_
      refine Kt.sel [0, 2, 4, 6, 8, 12, 13, 14] [_, _, _, _, _, _, _, _] rfl ?_
      refine Wk.seq ?_
      refine Wk.regionD Base.mixed (fun _ h => h.drawn) (by kernel_rfl) ?_
      refine Lq.run 1 rfl ?_
      refine Lq.op rfl rfl rfl (OpQ.loadBox (cs := #[i6_ a.n, str a.set, str a.rel]) 5 rfl Tryd.isAgg23 rfl rfl Tryd.sizeOf23) ?_
      refine Lq.op (v := vS a) rfl rfl rfl (OpQ.call rfl Tryd.call15 rfl Own.stable (fun w1 hw1 => toSt_ok a w1 )) ?_
      refine Lq.run 1 rfl ?_
      refine Lq.op rfl rfl rfl (OpQ.loadBox (cs := #[i6_ b.n, str b.set, str b.rel]) 4 rfl Tryd.isAgg23 rfl rfl Tryd.sizeOf23) ?_
      refine Lq.op (v := vS b) rfl rfl rfl (OpQ.call rfl Tryd.call15 rfl Own.stable (fun w1 hw1 => toSt_ok b w1 )) ?_
      refine Lq.run 1 rfl ?_
      refine Lq.op (v := bo_ (sepB f a xs b ys)) rfl rfl rfl (OpQ.call rfl Tryd.call30 rfl Own.stable (fun w1 hw1 => iSep_ok f a b xs ys (sl_ p46 xs.length cap46) (sl_ p48 ys.length cap48) w1 hsa hsb (Own.row hw1 (i := 1) rfl (by simpa using htp46) (by simp) hlp46) (Own.row hw1 (i := 0) rfl (by simpa using htp48) (by simp) hlp48) (by omega) (by omega) (by omega))) ?_
      refine Lq.run 1 rfl ?_
      refine Lq.nil ?_
      refine Kt.sel [2, 4, 12, 13, 14, 15] [_, _, _, _, _, _] rfl ?_
      refine Wk.seq ?_
      refine Wk.seq ?_
      refine Wk.regionQ ?_
      refine Lq.run 2 rfl ?_
      refine Lq.op rfl rfl rfl (OpQ.bne rfl Tryd.runUnderlying4 rfl rfl) ?_
      refine Lq.nil ?_
      refine Kt.sel [2, 4, 13, 14, 59] [_, _, _, _, _] rfl ?_
      refine Wk.cond (b := (sepB f a xs b ys) != (sepB f a xs b ys)) rfl (fun h59 => ?_) (fun h59 => ?_)
      ·
       exact absurd h59 (by simp)
      ·
       refine Wk.skip ?_
       refine Kt.sel [2, 4, 13, 14] [_, _, _, _] rfl ?_
       refine Wk.seq ?_
       refine Wk.seq ?_
       refine Wk.region ?_
       refine Ll.run 2 rfl ?_
       refine Ll.callRow (xs := [.tmp 61]) (m := xs.length) (vs := ints xs) (el := 3) (size := 1) rfl rfl rfl rfl Tryd.call25 rfl (fun w1 hw1 => toInt_ok va xs w1 (Row.own hva hw1) (by omega)) fun p62 cap62 cur62 hp62 hcp62 hlp62 htp62 => ?_
       refine Ll.op (v := bo_ true) rfl rfl rfl (OpQ.call rfl Tryd.call17 rfl Own.stable (fun w1 hw1 => known_b (beq_self_eq_true _) (eqInt_ok (sl_ p46 xs.length cap46) (sl_ p62 xs.length cap62) xs xs w1 (Own.row hw1 (i := 2) rfl (by simpa using htp46) (by simp) hlp46) (Own.row hw1 (i := 0) rfl (by simpa using htp62) (by simp) hlp62) (by first | (simp; done) | (simp; omega) | omega)))) ?_
       refine Ll.run 1 rfl ?_
       refine Ll.nil ?_
       refine Kt.sel [4, 14, 64] [_, _, _] rfl ?_
       refine Wk.condF rfl ?_
       refine Wk.skip ?_
       refine Kt.sel [4, 14] [_, _] rfl ?_
       refine Wk.seq ?_
       refine Wk.seq ?_
       refine Wk.region ?_
       refine Ll.run 2 rfl ?_
       refine Ll.callRow (xs := [.tmp 66]) (m := ys.length) (vs := ints ys) (el := 3) (size := 1) rfl rfl rfl rfl Tryd.call25 rfl (fun w1 hw1 => toInt_ok vb ys w1 (Row.own hvb hw1) (by omega)) fun p67 cap67 cur67 hp67 hcp67 hlp67 htp67 => ?_
       refine Ll.op (v := bo_ true) rfl rfl rfl (OpQ.call rfl Tryd.call17 rfl Own.stable (fun w1 hw1 => known_b (beq_self_eq_true _) (eqInt_ok (sl_ p48 ys.length cap48) (sl_ p67 ys.length cap67) ys ys w1 (Own.row hw1 (i := 2) rfl (by simpa using htp48) (by simp) hlp48) (Own.row hw1 (i := 0) rfl (by simpa using htp67) (by simp) hlp67) (by first | (simp; done) | (simp; omega) | omega)))) ?_
       refine Ll.run 1 rfl ?_
       refine Ll.nil ?_
       refine Kt.sel [69] [_] rfl ?_
       refine Wk.condF rfl ?_
       refine Wk.skip ?_
       refine Kt.sel [] [] rfl ?_
       refine Wk.seq ?_
       refine Wk.regionQ ?_
       refine Lq.run 1 rfl ?_
       refine Lq.nil ?_
       refine Kt.sel [10] [_] rfl ?_
       refine Wk.ret (Kt.end1 rfl rfl fun w' hw => ?_)
       exact ⟨ret_b (by first | rfl | (simp_all; done) | (simp_all; omega)), hw.below⟩
end Go.Proofs.YtnfkmfdhmlombaaDoor
namespace Go.Proofs.YtnfkmfdhmlombaaDoor
open Go.ChangeShapes Go.WideShapes Go.ChangeAt Go.RowKit Go.Wk
namespace FnExactSeparates
def W0 : Array Value := #[str [], vS ⟨0, [], []⟩, .slice none 0 0, vS ⟨0, [], []⟩, .slice none 0 0]
set_option maxRecDepth 100000 in
/-- The contract of the row, at every world and every argument. -/
theorem contract (H : Type) (enc : TypeId × Value → H) (W : World) (base : Nat) (args : Array Value) (ds gs : List (DataW H)) (before : List MemPlace)
    (hval : ∀ (j : Nat) t v, Tryd.f7.params[j]? = some t → args[j]? = some v → Value.okWide Tryd.prog W .any base t v)
    (hW : DataW.Whole enc Tryd.prog Tryd.f7.params.toList Rows.fnExactSeparatesSpec.vars false W args.toList ds gs before) :
    Calls Tryd.prog 7 args W fun e W' => ∃ v, e = .returned v ∧ Rows.fnExactSeparatesSpec.post enc Tryd.prog Tryd.f7 false true false false W args v W' := by
  have hW' := hW
  obtain ⟨p, q, hA0, hV, rfl, hfz, hnd⟩ := hW
  have hA : DataW.TrodAll enc Tryd.prog W 0 (fun _ => true) true Tryd.f7.params.toList args.toList ds p := hA0
  rw [Tryd.params7] at hA hval
  obtain ⟨v0, vs0, d0, ds0, p0, q0, hargs0, rfl, rfl, h0, r0⟩ := trodAll_cons hA
  obtain ⟨v1, vs1, d1, ds1, p1, q1, hargs1, rfl, rfl, h1, r1⟩ := trodAll_cons r0
  obtain ⟨v2, vs2, d2, ds2, p2, q2, hargs2, rfl, rfl, h2, r2⟩ := trodAll_cons r1
  obtain ⟨v3, vs3, d3, ds3, p3, q3, hargs3, rfl, rfl, h3, r3⟩ := trodAll_cons r2
  obtain ⟨v4, vs4, d4, ds4, p4, q4, hargs4, rfl, rfl, h4, r4⟩ := trodAll_cons r3
  obtain ⟨rfl, rfl, rfl⟩ := trodAll_nil r4
  obtain rfl : args = #[v0, v1, v2, v3, v4] := by cases args; simp_all
  obtain ⟨a0, rfl⟩ := open_T Tryd.underlying9 (hval 0 9 v0 rfl rfl) h0
  obtain ⟨a1, rfl, s1, t1, lo1, hi1⟩ := open_St Tryd.underlying23 (by kernel_rfl) (by kernel_rfl) rfl rfl rfl Tryd.underlying3 Tryd.underlying9 (hval 1 23 v1 rfl rfl) h1
  obtain ⟨l2, row2, len2, fit2⟩ := open_L Tryd.underlying25 Tryd.underlying3 (by kernel_rfl) (hval 2 25 v2 rfl rfl) h2
  obtain ⟨a3, rfl, s3, t3, lo3, hi3⟩ := open_St Tryd.underlying23 (by kernel_rfl) (by kernel_rfl) rfl rfl rfl Tryd.underlying3 Tryd.underlying9 (hval 3 23 v3 rfl rfl) h3
  obtain ⟨l4, row4, len4, fit4⟩ := open_L Tryd.underlying25 Tryd.underlying3 (by kernel_rfl) (hval 4 25 v4 rfl rfl) h4
  have walk : Calls Tryd.prog 7 #[str a0, vS a1, v2, vS a3, v4] W fun e w' => e = .returned (.bool true) ∧ Below W.heap.size W w' := by
    exact lawSep a0 a1 a3 l2 l4 v2 v4 W s1 t1 s3 t3 row2 row4
  refine walk.mono fun e W' ⟨he, hb⟩ => ⟨_, he, ?_⟩
  exact post_true laidOut (by rw [Tryd.params7]; intro t ht; simp only [List.mem_cons, List.not_mem_nil, or_false] at ht; rcases ht with rfl | rfl | rfl | rfl | rfl <;> exact ⟨by kernel_rfl, of_decide_eq_true (by kernel_rfl)⟩) rfl hW' rfl (by kernel_rfl) Tryd.underlying4 hb
theorem reads (os : Os) {H : Type} (enc : TypeId × Value → H) : ∃ places, DataW.whole enc Tryd.prog ((laidWorld os).forCall (fun _ _ => 0) ⟨#[], W0, []⟩).memory Tryd.f7.params.toList Rows.fnExactSeparatesSpec.vars false W0.toList 8 = some ([.lit (.string []), .agg [.lit (.int .i64 0), .lit (.string []), .lit (.string [])], .nil, .agg [.lit (.int .i64 0), .lit (.string []), .lit (.string [])], .nil], [], places) :=
  ⟨[], by kernel_rfl⟩
set_option maxRecDepth 100000 in
theorem lifted (os : Os) (started : os.Started) (H : Type) (enc : TypeId × Value → H) (F : Stop.Interp) :
    ReturnsInHanded {} Tryd.checked os 7 .any ((OpenSpec.ofChange Rows.fnExactSeparatesSpec).preRow enc Tryd.prog Tryd.f7 Rows.fnExactSeparatesRow.domain false Rows.fnExactSeparatesRow.laid) (((OpenSpec.ofChange Rows.fnExactSeparatesSpec).at F).post enc Tryd.prog Tryd.f7 false true false false) := by
  obtain ⟨places, hx⟩ := reads os enc
  refine returnsInHanded_of_row (C := Tryd.checked) (s := OpenSpec.ofChange Rows.fnExactSeparatesSpec) own started (by kernel_rfl) Tryd.func7
    (witness_row_at (enc := enc) (C := Tryd.checked) false (laidWorld os) W0 rfl (by kernel_rfl) (by kernel_rfl) (by kernel_rfl)
      (OpenSpec.preRow_of_cond 8 hx (by kernel_rfl) (fun k hk => by cases hk) (by kernel_rfl) (laid_met os W0))) ?_
  intro W base args ds gs before hval hW _ _ _ hL _ _
  exact contract H enc W base args ds gs before hval hW
theorem k0 : (Rows.fnExactSeparatesRow.wf (OpenSpec.ofChange (OpenSpec.ofChange Rows.fnExactSeparatesSpec).bare)) = true := by kernel_rfl
theorem k3 : (Tryd.f7.params.all (Tryd.pinned.checked.prog.readableRec ·)) = true := by kernel_rfl
theorem k4 : (namedTie Tryd.pinned.checked.prog Rows.fnExactSeparatesRow.named (OpenSpec.ofChange Rows.fnExactSeparatesSpec).bare.vars) = true := by kernel_rfl
theorem k9 : ((Rows.fnExactSeparatesRow.inPlace == Tryd.pinned.checked.prog.inPlace 7)) = true := by kernel_rfl
theorem k10 : ((Rows.fnExactSeparatesRow.unfollowed == Tryd.pinned.checked.prog.unfollowed 7)) = true := by kernel_rfl
theorem k11 : ((Rows.fnExactSeparatesRow.recurses == Tryd.pinned.checked.prog.recurses 7)) = true := by kernel_rfl
theorem k12 : ((Rows.fnExactSeparatesRow.named == Tryd.pinned.checked.prog.varsNamed 7)) = true := by kernel_rfl
theorem k13 : ((Rows.fnExactSeparatesRow.maps == (Tryd.f7.params.toList ++ (OpenSpec.ofChange Rows.fnExactSeparatesSpec).bare.plain.varTypes Tryd.pinned.checked.prog).any (Tryd.pinned.checked.prog.mapsRec ·))) = true := by kernel_rfl
theorem k14 : ((Rows.fnExactSeparatesRow.ifaces == (Tryd.f7.params.toList ++ (OpenSpec.ofChange Rows.fnExactSeparatesSpec).bare.plain.varTypes Tryd.pinned.checked.prog).any (Tryd.pinned.checked.prog.ifacesRec ·))) = true := by kernel_rfl
theorem k15 : ((Rows.fnExactSeparatesRow.mapsOut == Tryd.pinned.checked.prog.mapsAmong Tryd.f7.resultTypes.toList)) = true := by kernel_rfl
theorem k16 : ((Rows.fnExactSeparatesRow.loops == (Tryd.f7.params.toList ++ (OpenSpec.ofChange Rows.fnExactSeparatesSpec).bare.plain.varTypes Tryd.pinned.checked.prog).any (Tryd.pinned.checked.prog.loopsFrom ·))) = true := by kernel_rfl
theorem k17 : ((Rows.fnExactSeparatesRow.wideKeys == (Tryd.f7.params.toList ++ (OpenSpec.ofChange Rows.fnExactSeparatesSpec).bare.plain.varTypes Tryd.pinned.checked.prog ++ Tryd.f7.resultTypes.toList).any (Tryd.pinned.checked.prog.wideKeysFrom ·))) = true := by kernel_rfl
theorem k19 : (Tryd.f7.resultTypes.all (fun t => Tryd.pinned.checked.prog.readableRec t && decide (t < Tryd.pinned.checked.prog.types.size))) = true := by kernel_rfl
theorem k20 : ((Rows.fnExactSeparatesRow.ifacesOut == Tryd.f7.resultTypes.toList.any (Tryd.pinned.checked.prog.ifacesRec ·))) = true := by kernel_rfl
theorem k21 : ((Rows.fnExactSeparatesRow.loopsOut == Tryd.f7.resultTypes.toList.any (Tryd.pinned.checked.prog.loopsFrom ·))) = true := by kernel_rfl
theorem k30 : ((Rows.fnExactSeparatesRow.veiled == (Tryd.f7.params.toList ++ (OpenSpec.ofChange Rows.fnExactSeparatesSpec).bare.plain.varTypes Tryd.pinned.checked.prog ++ Tryd.f7.resultTypes.toList).any (Tryd.pinned.checked.prog.veiledRec ·))) = true := by kernel_rfl
theorem k31 : (Rows.fnExactSeparatesRow.veiledFits Tryd.pinned.checked.prog Tryd.f7.params.toList (Tryd.f7.params.toList ++ (OpenSpec.ofChange Rows.fnExactSeparatesSpec).bare.plain.varTypes Tryd.pinned.checked.prog ++ Tryd.f7.resultTypes.toList)) = true := by kernel_rfl
theorem closed : joinedFacts Tryd.pinned.checked.prog 7 Tryd.f7 (OpenSpec.ofChange Rows.fnExactSeparatesSpec).bare Rows.fnExactSeparatesRow = true :=
  facts_of k0 Laid1 Laid2 k3 k4 (by kernel_rfl) Laid6 (by kernel_rfl) Laid8 k9 k10 k11 k12 k13 k14 k15 k16 k17 (by kernel_rfl) k19 k20 k21 Laid22 (by kernel_rfl) Laid24 Laid25 Laid26 Laid27 (by kernel_rfl) (by kernel_rfl) k30 k31
theorem said : Rows.FnExactSeparatesSaid :=
  OpenClaim.holds_of_cond 7 Tryd.f7 rfl rfl rfl rfl rfl rfl rfl ⟨rfl, rfl, rfl, rfl, rfl⟩ rfl rfl rfl rfl rfl (by kernel_rfl) Tryd.func7 closed
    (of_decide_eq_true (by kernel_rfl)) (by unfold Func.isWrapper; first | (rw [if_pos (by decide +kernel)]; kernel_rfl) | (rw [if_neg (by decide +kernel)]; exact ⟨rfl, rfl⟩))
    (fun os started H enc _ F => by rw [OpenClaim.pre_eq_preRow]; exact lifted os started H enc F)
theorem plain (f : FuncId) (fn : Func) (hf : Tryd.pinned.checked.prog.funcNamed Rows.fnExactSeparatesRow.func = some f) (hfn : Tryd.pinned.checked.prog.funcs[f]? = some fn) :
    false = Tryd.pinned.checked.prog.looks [] ∧ ∀ (j : Nat) t, fn.params[j]? = some t → Tryd.pinned.checked.prog.wantsStandIn t = false := by
  obtain rfl : f = 7 := Option.some.inj ((show Tryd.pinned.checked.prog.funcNamed Rows.fnExactSeparatesRow.func = some 7 by kernel_rfl).symm.trans hf) |>.symm
  obtain rfl : fn = Tryd.f7 := (Option.some.inj (Tryd.func7.symm.trans hfn)).symm
  refine ⟨by kernel_rfl, fun j t ht => ?_⟩
  rw [Tryd.params7] at ht
  have hm : t ∈ [9, 23, 25, 23, 25] := by simpa using Array.mem_of_getElem? ht
  simp only [List.mem_cons, List.not_mem_nil, or_false] at hm
  rcases hm with rfl | rfl | rfl | rfl | rfl <;> (show Tryd.prog.wantsStandIn _ = false) <;> kernel_rfl
theorem hw : Rows.fnExactSeparatesRow.wfByText (OpenSpec.ofChange Rows.fnExactSeparatesSpec) = true := by kernel_rfl
theorem hm : Tryd.pinned.checked.prog.mainIs = some (Rows.fnExactSeparatesCard.stood.harness.1, Rows.fnExactSeparatesCard.stood.harness.2.toList) := by kernel_rfl
theorem hg : false = Rows.fnExactSeparatesRow.goesBy Tryd.pinned.checked.prog := by kernel_rfl
end FnExactSeparates
/-- The tied card. -/
theorem cardFnExactSeparates : Rows.FnExactSeparatesCardSaid :=
  Claim7.holds_tied_plain_at .later [] _ _ _ _ FnExactSeparates.said (fun _ h => by cases h) FnExactSeparates.hw (fun _ h => by cases h) fnExactSeparates_row_tie rfl ⟨rfl, rfl⟩ FnExactSeparates.hm rfl FnExactSeparates.plain FnExactSeparates.hg
end Go.Proofs.YtnfkmfdhmlombaaDoor
