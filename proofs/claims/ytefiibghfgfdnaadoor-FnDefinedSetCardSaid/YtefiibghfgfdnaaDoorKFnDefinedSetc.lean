/-
  FnDefinedSet: all that its proof names (part 3)
-/
import Derived.Test.YtefiibghfgfdnaaDoorKFnDefinedSetb
import Derived.Test.YtefiibghfgfdnaaDoorKFnDefinedSeta
namespace Go.Proofs.YtefiibghfgfdnaaDoor
open Go.RowKit Go.Wk
set_option linter.unusedSimpArgs false
set_option maxHeartbeats 400000 in
theorem l2Var_ok (f:List UInt8) (i:Int) (w:World) :
    Calls Tryd.prog 165 [str f,i6_ i].toArray w fun en w'=>en=.returned (.int .i64 (varI f i))∧Below w.heap.size w w':=by
 refine fnStart (n:=17) (e:=[(0,str f),(1,i6_ i)]) Tryd.func165 rfl rfl rfl rfl Ends.both ?_;refine zE (zB (zC 1 rfl (zJ (zD [0,1] [_,_] rfl ?_))));refine zE (zE (zB (zC 3 rfl (xG fun b7 hg7=>?_))))
 cases b7
 ·
  replace hg7:=zG hg7;refine zC 2 rfl (zN (v:=i6_ ((f.length:Int))) rfl rfl rfl (xM rfl qI rfl) ?_);refine zC 2 rfl (zJ (zD [0,1,12] [_,_,_] rfl ?_));refine qH (b:=decide (((f.length:Int))≤i)) rfl (fun h12=>?_) (fun h12=>?_)
  ·
   replace h12:=zI h12;refine zE (zB (zC 1 rfl (zJ (zD [4] [_] rfl ?_))));refine qL (qQ rfl rfl fun w' hw=>?_)
   exact ⟨ret_i (varI_out (by first | exact .inl (by omega) | exact .inr (by omega))).symm,hw.below⟩
  replace h12:=zG h12;refine qO (zD [0,1] [_,_] rfl ?_);refine zE (zB (zC 2 rfl (zN (v:=.int .u8 (((f.getD ((i).toNat) 0).toNat:Int))) rfl rfl rfl (yJ rfl qI rfl rfl (by omega) (by omega)) ?_)));refine zN (v:=i6_ (findS ([97,98,99,100]) (((f.getD ((i).toNat) 0).toNat:Int)))) rfl rfl rfl (qS rfl Tryd.call115 rfl qG (fun w1 hw1=>l15Find_ok ([97,98,99,100]) (((f.getD ((i).toNat) 0).toNat:Int)) w1 (by first | decide | omega))) ?_;refine zC 1 rfl (zJ (zD [4] [_] rfl ?_));refine qL (qQ rfl rfl fun w' hw=>?_)
  exact ⟨ret_i (varI_find (by omega) (by omega)),hw.below⟩
 replace hg7:=zI hg7;refine zW rfl rfl rfl (zW rfl rfl rfl (zW rfl rfl rfl (zW rfl rfl rfl (zC 1 rfl (zJ (zD [0,1,12] [_,_,_] rfl ?_))))));refine yN rfl ?_;refine zE (zB (zC 1 rfl (zJ (zD [4] [_] rfl ?_))));refine qL (qQ rfl rfl fun w' hw=>?_)
 exact ⟨ret_i (varI_out (by first | exact .inl (by omega) | exact .inr (by omega))).symm,hw.below⟩
theorem l2Var_at (f:List UInt8) (i:Int) (k:Nat) (w:World) (hi:i=(k:Int)) (hl:k<f.length) (hv:isV (f.getD k 0)=true):Calls Tryd.prog 165 #[str f,.int .i64 i] w fun en w'=>en=.returned (.int .i64 (vI (f.getD k 0):Int))∧Below w.heap.size w w' :=
  (l2Var_ok f i w).mono fun en w' ⟨h1,h2⟩=>⟨by rw [h1,hi,(varI_nat hl hv).1],h2⟩
set_option maxHeartbeats 400000 in
theorem l2End_step (f:List UInt8) (i:Int) (w:World) (hf:f.length≤1048576) (ih:∀ (j:Int) (w:World),endM f j<endM f i→Calls Tryd.prog 164 #[str f,.int .i64 j] w fun en w'=>en=.returned (.int .i64 (endI f j))∧Below w.heap.size w w') :
    Calls Tryd.prog 164 [str f,i6_ i].toArray w fun en w'=>en=.returned (.int .i64 (endI f i))∧Below w.heap.size w w':=by
 refine fnStart (n:=77) (e:=[(0,str f),(1,i6_ i)]) Tryd.func164 rfl rfl rfl rfl Ends.both ?_;refine zE (zB (zC 1 rfl (zJ (zD [0,1] [_,_] rfl ?_))));refine zE (zE (zB (zC 3 rfl (xG fun b7 hg7=>?_))))
 cases b7
 ·
  replace hg7:=zG hg7;refine zC 2 rfl (zN (v:=i6_ ((f.length:Int))) rfl rfl rfl (xM rfl qI rfl) ?_);refine zC 2 rfl (zJ (zD [0,1,12] [_,_,_] rfl ?_));refine qH (b:=decide (((f.length:Int))≤i)) rfl (fun h12=>?_) (fun h12=>?_)
  ·
   replace h12:=zI h12;refine zE (zB (zC 1 rfl (zJ (zD [4] [_] rfl ?_))));refine qL (qQ rfl rfl fun w' hw=>?_)
   exact ⟨ret_i (by first | exact (endI_neg (by omega)).symm | exact (endI_out (by omega)).symm | (refine Eq.trans ?_ (endI_case (f:=f) (i:=i) (by omega) (by omega)).symm;unfold endC chI;repeat (first | rw [if_pos (by omega)] | rw [if_neg (by omega)]))),hw.below⟩
  replace h12:=zG h12;refine qO (zD [0,1] [_,_] rfl ?_);refine zE (zE (zB (zC 2 rfl (zN (v:=.int .u8 (((f.getD ((i).toNat) 0).toNat:Int))) rfl rfl rfl (yJ rfl qI rfl rfl (by omega) (by omega)) ?_))));refine zJ (zD [0,1,15] [_,_,_] rfl ?_);refine yA (zE (zE (zB (zC 2 rfl (zJ (zD [0,1,15,16] [_,_,_,_] rfl ?_))))));refine qH (b:=decide ((((f.getD ((i).toNat) 0).toNat:Int))=(116:Int))) rfl (fun h16=>?_) (fun h16=>?_)
  ·
   replace h16:=zI h16;refine qO (zD [0,1,15,16] [_,_,_,_] rfl ?_);refine yN (congrArg (fun b=>some (Value.bool b)) (decide_eq_true h16)) ?_;refine zE (zB (zC 1 rfl (zN rfl rfl rfl (qT rfl rfl rfl (by omega) (by omega)) ?_)));refine zC 1 rfl (zJ (zD [4] [_] rfl ?_));refine qL (qQ rfl rfl fun w' hw=>?_)
   exact ⟨ret_i (by first | exact (endI_neg (by omega)).symm | exact (endI_out (by omega)).symm | (refine Eq.trans ?_ (endI_case (f:=f) (i:=i) (by omega) (by omega)).symm;unfold endC chI;repeat (first | rw [if_pos (by omega)] | rw [if_neg (by omega)]))),hw.below⟩
  replace h16:=zG h16;refine zB (zC 2 rfl (zJ (zD [0,1,15,16] [_,_,_,_] rfl ?_)));refine qH (b:=decide ((((f.getD ((i).toNat) 0).toNat:Int))=(102:Int))) rfl (fun h16_1=>?_) (fun h16_1=>?_)
  ·
   replace h16_1:=zI h16_1;refine zE (zB (zC 1 rfl (zN rfl rfl rfl (qT rfl rfl rfl (by omega) (by omega)) ?_)));refine zC 1 rfl (zJ (zD [4] [_] rfl ?_));refine qL (qQ rfl rfl fun w' hw=>?_)
   exact ⟨ret_i (by first | exact (endI_neg (by omega)).symm | exact (endI_out (by omega)).symm | (refine Eq.trans ?_ (endI_case (f:=f) (i:=i) (by omega) (by omega)).symm;unfold endC chI;repeat (first | rw [if_pos (by omega)] | rw [if_neg (by omega)]))),hw.below⟩
  replace h16_1:=zG h16_1;refine zE (zB (zC 2 rfl (zJ (zD [0,1,15,21] [_,_,_,_] rfl ?_))));refine qH (b:=decide ((((f.getD ((i).toNat) 0).toNat:Int))=(80:Int))) rfl (fun h21=>?_) (fun h21=>?_)
  ·
   replace h21:=zI h21;refine zE (zE (zB (zC 2 rfl (zN rfl rfl rfl (qT rfl rfl rfl (by omega) (by omega)) ?_))));refine zN (v:=i6_ (varI f (i+(1:Int)))) rfl rfl rfl (qS rfl xB rfl qG (fun w1 hw1=>l2Var_ok f (i+(1:Int)) w1 )) ?_;refine zC 1 rfl (zJ (zD [1,27] [_,_] rfl ?_));refine qH (b:=decide ((varI f (i+(1:Int)))<(0:Int))) rfl (fun h27=>?_) (fun h27=>?_)
   ·
    replace h27:=zI h27;refine zE (zB (zC 1 rfl (zJ (zD [4] [_] rfl ?_))));refine qL (qQ rfl rfl fun w' hw=>?_)
    exact ⟨ret_i (by first | exact (endI_neg (by omega)).symm | exact (endI_out (by omega)).symm | (refine Eq.trans ?_ (endI_case (f:=f) (i:=i) (by omega) (by omega)).symm;unfold endC chI;repeat (first | rw [if_pos (by omega)] | rw [if_neg (by omega)]))),hw.below⟩
   replace h27:=zG h27;refine qO (zD [1] [_] rfl ?_);refine zE (zB (zC 1 rfl (zN rfl rfl rfl (qT rfl rfl rfl (by omega) (by omega)) ?_)));refine zC 1 rfl (zJ (zD [4] [_] rfl ?_));refine qL (qQ rfl rfl fun w' hw=>?_)
   exact ⟨ret_i (by first | exact (endI_neg (by omega)).symm | exact (endI_out (by omega)).symm | (refine Eq.trans ?_ (endI_case (f:=f) (i:=i) (by omega) (by omega)).symm;unfold endC chI;repeat (first | rw [if_pos (by omega)] | rw [if_neg (by omega)]))),hw.below⟩
  replace h21:=zG h21;refine zE (zE (zB (zC 2 rfl (zJ (zD [0,1,15,30] [_,_,_,_] rfl ?_)))));refine qH (b:=decide ((((f.getD ((i).toNat) 0).toNat:Int))=(61:Int))) rfl (fun h30=>?_) (fun h30=>?_)
  ·
   replace h30:=zI h30;refine qO (zD [0,1,15,30] [_,_,_,_] rfl ?_);refine yN (congrArg (fun b=>some (Value.bool b)) (decide_eq_true h30)) ?_;refine zE (zE (zB (zC 2 rfl (zN rfl rfl rfl (qT rfl rfl rfl (by omega) (by omega)) ?_))));refine zN (v:=i6_ (varI f (i+(1:Int)))) rfl rfl rfl (qS rfl xB rfl qG (fun w1 hw1=>l2Var_ok f (i+(1:Int)) w1 )) ?_;refine zC 2 rfl (xG fun b38 hg38=>?_)
   cases b38
   ·
    replace hg38:=zG hg38;refine zC 2 rfl (zN rfl rfl rfl (qT rfl rfl rfl (by omega) (by omega)) ?_);refine zN (v:=i6_ (varI f (i+(2:Int)))) rfl rfl rfl (qS rfl xB rfl qG (fun w1 hw1=>l2Var_ok f (i+(2:Int)) w1 )) ?_;refine zC 2 rfl (zJ (zD [1,44] [_,_] rfl ?_));refine qH (b:=decide ((varI f (i+(2:Int)))<(0:Int))) rfl (fun h44=>?_) (fun h44=>?_)
    ·
     replace h44:=zI h44;refine zE (zB (zC 1 rfl (zJ (zD [4] [_] rfl ?_))));refine qL (qQ rfl rfl fun w' hw=>?_)
     exact ⟨ret_i (by first | exact (endI_neg (by omega)).symm | exact (endI_out (by omega)).symm | (refine Eq.trans ?_ (endI_case (f:=f) (i:=i) (by omega) (by omega)).symm;unfold endC chI;repeat (first | rw [if_pos (by omega)] | rw [if_neg (by omega)]))),hw.below⟩
    replace h44:=zG h44;refine qO (zD [1] [_] rfl ?_);refine zE (zB (zC 1 rfl (zN rfl rfl rfl (qT rfl rfl rfl (by omega) (by omega)) ?_)));refine zC 1 rfl (zJ (zD [4] [_] rfl ?_));refine qL (qQ rfl rfl fun w' hw=>?_)
    exact ⟨ret_i (by first | exact (endI_neg (by omega)).symm | exact (endI_out (by omega)).symm | (refine Eq.trans ?_ (endI_case (f:=f) (i:=i) (by omega) (by omega)).symm;unfold endC chI;repeat (first | rw [if_pos (by omega)] | rw [if_neg (by omega)]))),hw.below⟩
   replace hg38:=zI hg38;refine zW rfl rfl rfl (zW rfl rfl rfl (zW rfl rfl rfl (zW rfl rfl rfl (zW rfl rfl rfl (zC 1 rfl (zJ (zD [1,44] [_,_] rfl ?_)))))));refine yN rfl ?_;refine zE (zB (zC 1 rfl (zJ (zD [4] [_] rfl ?_))));refine qL (qQ rfl rfl fun w' hw=>?_)
   exact ⟨ret_i (by first | exact (endI_neg (by omega)).symm | exact (endI_out (by omega)).symm | (refine Eq.trans ?_ (endI_case (f:=f) (i:=i) (by omega) (by omega)).symm;unfold endC chI;repeat (first | rw [if_pos (by omega)] | rw [if_neg (by omega)]))),hw.below⟩
  replace h30:=zG h30;refine zB (zC 2 rfl (zJ (zD [0,1,15,30] [_,_,_,_] rfl ?_)));refine qH (b:=decide ((((f.getD ((i).toNat) 0).toNat:Int))=(69:Int))) rfl (fun h30_1=>?_) (fun h30_1=>?_)
  ·
   replace h30_1:=zI h30_1;refine zE (zE (zB (zC 2 rfl (zN rfl rfl rfl (qT rfl rfl rfl (by omega) (by omega)) ?_))));refine zN (v:=i6_ (varI f (i+(1:Int)))) rfl rfl rfl (qS rfl xB rfl qG (fun w1 hw1=>l2Var_ok f (i+(1:Int)) w1 )) ?_;refine zC 2 rfl (xG fun b38 hg38_1=>?_)
   cases b38
   ·
    replace hg38_1:=zG hg38_1;refine zC 2 rfl (zN rfl rfl rfl (qT rfl rfl rfl (by omega) (by omega)) ?_);refine zN (v:=i6_ (varI f (i+(2:Int)))) rfl rfl rfl (qS rfl xB rfl qG (fun w1 hw1=>l2Var_ok f (i+(2:Int)) w1 )) ?_;refine zC 2 rfl (zJ (zD [1,44] [_,_] rfl ?_));refine qH (b:=decide ((varI f (i+(2:Int)))<(0:Int))) rfl (fun h44_1=>?_) (fun h44_1=>?_)
    ·
     replace h44_1:=zI h44_1;refine zE (zB (zC 1 rfl (zJ (zD [4] [_] rfl ?_))));refine qL (qQ rfl rfl fun w' hw=>?_)
     exact ⟨ret_i (by first | exact (endI_neg (by omega)).symm | exact (endI_out (by omega)).symm | (refine Eq.trans ?_ (endI_case (f:=f) (i:=i) (by omega) (by omega)).symm;unfold endC chI;repeat (first | rw [if_pos (by omega)] | rw [if_neg (by omega)]))),hw.below⟩
    replace h44_1:=zG h44_1;refine qO (zD [1] [_] rfl ?_);refine zE (zB (zC 1 rfl (zN rfl rfl rfl (qT rfl rfl rfl (by omega) (by omega)) ?_)));refine zC 1 rfl (zJ (zD [4] [_] rfl ?_));refine qL (qQ rfl rfl fun w' hw=>?_)
    exact ⟨ret_i (by first | exact (endI_neg (by omega)).symm | exact (endI_out (by omega)).symm | (refine Eq.trans ?_ (endI_case (f:=f) (i:=i) (by omega) (by omega)).symm;unfold endC chI;repeat (first | rw [if_pos (by omega)] | rw [if_neg (by omega)]))),hw.below⟩
   replace hg38_1:=zI hg38_1;refine zW rfl rfl rfl (zW rfl rfl rfl (zW rfl rfl rfl (zW rfl rfl rfl (zW rfl rfl rfl (zC 1 rfl (zJ (zD [1,44] [_,_] rfl ?_)))))));refine yN rfl ?_;refine zE (zB (zC 1 rfl (zJ (zD [4] [_] rfl ?_))));refine qL (qQ rfl rfl fun w' hw=>?_)
   exact ⟨ret_i (by first | exact (endI_neg (by omega)).symm | exact (endI_out (by omega)).symm | (refine Eq.trans ?_ (endI_case (f:=f) (i:=i) (by omega) (by omega)).symm;unfold endC chI;repeat (first | rw [if_pos (by omega)] | rw [if_neg (by omega)]))),hw.below⟩
  replace h30_1:=zG h30_1;refine zE (zB (zC 2 rfl (zJ (zD [0,1,15,47] [_,_,_,_] rfl ?_))));refine qH (b:=decide ((((f.getD ((i).toNat) 0).toNat:Int))=(33:Int))) rfl (fun h47=>?_) (fun h47=>?_)
  ·
   replace h47:=zI h47;refine zE (zB (zC 2 rfl (zN rfl rfl rfl (qT rfl rfl rfl (by omega) (by omega)) ?_)));refine zN (v:=i6_ (endI f (i+(1:Int)))) rfl rfl rfl (qS rfl xT rfl qG (fun w1 hw1=>ih (i+(1:Int)) w1 (endM_lt (by omega) (by first | exact .inl (by omega) | exact .inr (by omega) | exact endI_gt (by omega))))) ?_;refine zC 1 rfl (zJ (zD [4] [_] rfl ?_));refine qL (qQ rfl rfl fun w' hw=>?_)
   exact ⟨ret_i (by first | exact (endI_neg (by omega)).symm | exact (endI_out (by omega)).symm | (refine Eq.trans ?_ (endI_case (f:=f) (i:=i) (by omega) (by omega)).symm;unfold endC chI;repeat (first | rw [if_pos (by omega)] | rw [if_neg (by omega)]))),hw.below⟩
  replace h47:=zG h47;refine zE (zE (zB (zC 2 rfl (zJ (zD [0,1,15,53] [_,_,_,_] rfl ?_)))));refine qH (b:=decide ((((f.getD ((i).toNat) 0).toNat:Int))=(38:Int))) rfl (fun h53=>?_) (fun h53=>?_)
  ·
   replace h53:=zI h53;refine qO (zD [0,1,15,53] [_,_,_,_] rfl ?_);refine yN (congrArg (fun b=>some (Value.bool b)) (decide_eq_true h53)) ?_;refine zE (zB (zC 3 rfl (zN rfl rfl rfl (qT rfl rfl rfl (by omega) (by omega)) ?_)));refine zN (v:=i6_ (endI f (i+(1:Int)))) rfl rfl rfl (qS rfl xT rfl qG (fun w1 hw1=>ih (i+(1:Int)) w1 (endM_lt (by omega) (by first | exact .inl (by omega) | exact .inr (by omega) | exact endI_gt (by omega))))) ?_;refine zN (v:=i6_ (endI f (endI f (i+(1:Int))))) rfl rfl rfl (qS rfl xT rfl qG (fun w1 hw1=>ih (endI f (i+(1:Int))) w1 (endM_lt (by omega) (by first | exact .inl (by omega) | exact .inr (by omega) | exact endI_gt (by omega))))) ?_;refine zC 1 rfl (zJ (zD [4] [_] rfl ?_));refine qL (qQ rfl rfl fun w' hw=>?_)
   exact ⟨ret_i (by first | exact (endI_neg (by omega)).symm | exact (endI_out (by omega)).symm | (refine Eq.trans ?_ (endI_case (f:=f) (i:=i) (by omega) (by omega)).symm;unfold endC chI;repeat (first | rw [if_pos (by omega)] | rw [if_neg (by omega)]))),hw.below⟩
  replace h53:=zG h53;refine zB (zC 2 rfl (zJ (zD [0,1,15,53] [_,_,_,_] rfl ?_)));refine qH (b:=decide ((((f.getD ((i).toNat) 0).toNat:Int))=(124:Int))) rfl (fun h53_1=>?_) (fun h53_1=>?_)
  ·
   replace h53_1:=zI h53_1;refine zE (zB (zC 3 rfl (zN rfl rfl rfl (qT rfl rfl rfl (by omega) (by omega)) ?_)));refine zN (v:=i6_ (endI f (i+(1:Int)))) rfl rfl rfl (qS rfl xT rfl qG (fun w1 hw1=>ih (i+(1:Int)) w1 (endM_lt (by omega) (by first | exact .inl (by omega) | exact .inr (by omega) | exact endI_gt (by omega))))) ?_;refine zN (v:=i6_ (endI f (endI f (i+(1:Int))))) rfl rfl rfl (qS rfl xT rfl qG (fun w1 hw1=>ih (endI f (i+(1:Int))) w1 (endM_lt (by omega) (by first | exact .inl (by omega) | exact .inr (by omega) | exact endI_gt (by omega))))) ?_;refine zC 1 rfl (zJ (zD [4] [_] rfl ?_));refine qL (qQ rfl rfl fun w' hw=>?_)
   exact ⟨ret_i (by first | exact (endI_neg (by omega)).symm | exact (endI_out (by omega)).symm | (refine Eq.trans ?_ (endI_case (f:=f) (i:=i) (by omega) (by omega)).symm;unfold endC chI;repeat (first | rw [if_pos (by omega)] | rw [if_neg (by omega)]))),hw.below⟩
  replace h53_1:=zG h53_1;refine zE (zE (zB (zC 2 rfl (zJ (zD [0,1,15,62] [_,_,_,_] rfl ?_)))));refine qH (b:=decide ((((f.getD ((i).toNat) 0).toNat:Int))=(65:Int))) rfl (fun h62=>?_) (fun h62=>?_)
  ·
   replace h62:=zI h62;refine qO (zD [0,1,62] [_,_,_] rfl ?_);refine yN (congrArg (fun b=>some (Value.bool b)) (decide_eq_true h62)) ?_;refine zE (zE (zB (zC 2 rfl (zN rfl rfl rfl (qT rfl rfl rfl (by omega) (by omega)) ?_))));refine zN (v:=i6_ (varI f (i+(1:Int)))) rfl rfl rfl (qS rfl xB rfl qG (fun w1 hw1=>l2Var_ok f (i+(1:Int)) w1 )) ?_;refine zC 1 rfl (zJ (zD [0,1,72] [_,_,_] rfl ?_));refine qH (b:=decide ((varI f (i+(1:Int)))<(0:Int))) rfl (fun h72=>?_) (fun h72=>?_)
   ·
    replace h72:=zI h72;refine zE (zB (zC 1 rfl (zJ (zD [4] [_] rfl ?_))));refine qL (qQ rfl rfl fun w' hw=>?_)
    exact ⟨ret_i (by first | exact (endI_neg (by omega)).symm | exact (endI_out (by omega)).symm | (refine Eq.trans ?_ (endI_case (f:=f) (i:=i) (by omega) (by omega)).symm;unfold endC chI;repeat (first | rw [if_pos (by omega)] | rw [if_neg (by omega)]))),hw.below⟩
   replace h72:=zG h72;refine qO (zD [0,1] [_,_] rfl ?_);refine zE (zB (zC 2 rfl (zN rfl rfl rfl (qT rfl rfl rfl (by omega) (by omega)) ?_)));refine zN (v:=i6_ (endI f (i+(2:Int)))) rfl rfl rfl (qS rfl xT rfl qG (fun w1 hw1=>ih (i+(2:Int)) w1 (endM_lt (by omega) (by first | exact .inl (by omega) | exact .inr (by omega) | exact endI_gt (by omega))))) ?_;refine zC 1 rfl (zJ (zD [4] [_] rfl ?_));refine qL (qQ rfl rfl fun w' hw=>?_)
   exact ⟨ret_i (by first | exact (endI_neg (by omega)).symm | exact (endI_out (by omega)).symm | (refine Eq.trans ?_ (endI_case (f:=f) (i:=i) (by omega) (by omega)).symm;unfold endC chI;repeat (first | rw [if_pos (by omega)] | rw [if_neg (by omega)]))),hw.below⟩
  replace h62:=zG h62;refine zE (zB (zC 2 rfl (zJ (zD [0,1,15,62] [_,_,_,_] rfl ?_))));refine qH (b:=decide ((((f.getD ((i).toNat) 0).toNat:Int))=(83:Int))) rfl (fun h62_1=>?_) (fun h62_1=>?_)
  ·
   replace h62_1:=zI h62_1;refine qO (zD [0,1,62] [_,_,_] rfl ?_);refine yN (congrArg (fun b=>some (Value.bool b)) (decide_eq_true h62_1)) ?_;refine zE (zE (zB (zC 2 rfl (zN rfl rfl rfl (qT rfl rfl rfl (by omega) (by omega)) ?_))));refine zN (v:=i6_ (varI f (i+(1:Int)))) rfl rfl rfl (qS rfl xB rfl qG (fun w1 hw1=>l2Var_ok f (i+(1:Int)) w1 )) ?_;refine zC 1 rfl (zJ (zD [0,1,72] [_,_,_] rfl ?_));refine qH (b:=decide ((varI f (i+(1:Int)))<(0:Int))) rfl (fun h72_1=>?_) (fun h72_1=>?_)
   ·
    replace h72_1:=zI h72_1;refine zE (zB (zC 1 rfl (zJ (zD [4] [_] rfl ?_))));refine qL (qQ rfl rfl fun w' hw=>?_)
    exact ⟨ret_i (by first | exact (endI_neg (by omega)).symm | exact (endI_out (by omega)).symm | (refine Eq.trans ?_ (endI_case (f:=f) (i:=i) (by omega) (by omega)).symm;unfold endC chI;repeat (first | rw [if_pos (by omega)] | rw [if_neg (by omega)]))),hw.below⟩
   replace h72_1:=zG h72_1;refine qO (zD [0,1] [_,_] rfl ?_);refine zE (zB (zC 2 rfl (zN rfl rfl rfl (qT rfl rfl rfl (by omega) (by omega)) ?_)));refine zN (v:=i6_ (endI f (i+(2:Int)))) rfl rfl rfl (qS rfl xT rfl qG (fun w1 hw1=>ih (i+(2:Int)) w1 (endM_lt (by omega) (by first | exact .inl (by omega) | exact .inr (by omega) | exact endI_gt (by omega))))) ?_;refine zC 1 rfl (zJ (zD [4] [_] rfl ?_));refine qL (qQ rfl rfl fun w' hw=>?_)
   exact ⟨ret_i (by first | exact (endI_neg (by omega)).symm | exact (endI_out (by omega)).symm | (refine Eq.trans ?_ (endI_case (f:=f) (i:=i) (by omega) (by omega)).symm;unfold endC chI;repeat (first | rw [if_pos (by omega)] | rw [if_neg (by omega)]))),hw.below⟩
  replace h62_1:=zG h62_1;refine zE (zB (zC 2 rfl (zJ (zD [0,1,15,62] [_,_,_,_] rfl ?_))));refine qH (b:=decide ((((f.getD ((i).toNat) 0).toNat:Int))=(50:Int))) rfl (fun h62_2=>?_) (fun h62_2=>?_)
  ·
   replace h62_2:=zI h62_2;refine qO (zD [0,1,62] [_,_,_] rfl ?_);refine yN (congrArg (fun b=>some (Value.bool b)) (decide_eq_true h62_2)) ?_;refine zE (zE (zB (zC 2 rfl (zN rfl rfl rfl (qT rfl rfl rfl (by omega) (by omega)) ?_))));refine zN (v:=i6_ (varI f (i+(1:Int)))) rfl rfl rfl (qS rfl xB rfl qG (fun w1 hw1=>l2Var_ok f (i+(1:Int)) w1 )) ?_;refine zC 1 rfl (zJ (zD [0,1,72] [_,_,_] rfl ?_));refine qH (b:=decide ((varI f (i+(1:Int)))<(0:Int))) rfl (fun h72_2=>?_) (fun h72_2=>?_)
   ·
    replace h72_2:=zI h72_2;refine zE (zB (zC 1 rfl (zJ (zD [4] [_] rfl ?_))));refine qL (qQ rfl rfl fun w' hw=>?_)
    exact ⟨ret_i (by first | exact (endI_neg (by omega)).symm | exact (endI_out (by omega)).symm | (refine Eq.trans ?_ (endI_case (f:=f) (i:=i) (by omega) (by omega)).symm;unfold endC chI;repeat (first | rw [if_pos (by omega)] | rw [if_neg (by omega)]))),hw.below⟩
   replace h72_2:=zG h72_2;refine qO (zD [0,1] [_,_] rfl ?_);refine zE (zB (zC 2 rfl (zN rfl rfl rfl (qT rfl rfl rfl (by omega) (by omega)) ?_)));refine zN (v:=i6_ (endI f (i+(2:Int)))) rfl rfl rfl (qS rfl xT rfl qG (fun w1 hw1=>ih (i+(2:Int)) w1 (endM_lt (by omega) (by first | exact .inl (by omega) | exact .inr (by omega) | exact endI_gt (by omega))))) ?_;refine zC 1 rfl (zJ (zD [4] [_] rfl ?_));refine qL (qQ rfl rfl fun w' hw=>?_)
   exact ⟨ret_i (by first | exact (endI_neg (by omega)).symm | exact (endI_out (by omega)).symm | (refine Eq.trans ?_ (endI_case (f:=f) (i:=i) (by omega) (by omega)).symm;unfold endC chI;repeat (first | rw [if_pos (by omega)] | rw [if_neg (by omega)]))),hw.below⟩
  replace h62_2:=zG h62_2;refine zE (zB (zC 2 rfl (zJ (zD [0,1,15,62] [_,_,_,_] rfl ?_))));refine qH (b:=decide ((((f.getD ((i).toNat) 0).toNat:Int))=(51:Int))) rfl (fun h62_3=>?_) (fun h62_3=>?_)
  ·
   replace h62_3:=zI h62_3;refine qO (zD [0,1,62] [_,_,_] rfl ?_);refine yN (congrArg (fun b=>some (Value.bool b)) (decide_eq_true h62_3)) ?_;refine zE (zE (zB (zC 2 rfl (zN rfl rfl rfl (qT rfl rfl rfl (by omega) (by omega)) ?_))));refine zN (v:=i6_ (varI f (i+(1:Int)))) rfl rfl rfl (qS rfl xB rfl qG (fun w1 hw1=>l2Var_ok f (i+(1:Int)) w1 )) ?_;refine zC 1 rfl (zJ (zD [0,1,72] [_,_,_] rfl ?_));refine qH (b:=decide ((varI f (i+(1:Int)))<(0:Int))) rfl (fun h72_3=>?_) (fun h72_3=>?_)
   ·
    replace h72_3:=zI h72_3;refine zE (zB (zC 1 rfl (zJ (zD [4] [_] rfl ?_))));refine qL (qQ rfl rfl fun w' hw=>?_)
    exact ⟨ret_i (by first | exact (endI_neg (by omega)).symm | exact (endI_out (by omega)).symm | (refine Eq.trans ?_ (endI_case (f:=f) (i:=i) (by omega) (by omega)).symm;unfold endC chI;repeat (first | rw [if_pos (by omega)] | rw [if_neg (by omega)]))),hw.below⟩
   replace h72_3:=zG h72_3;refine qO (zD [0,1] [_,_] rfl ?_);refine zE (zB (zC 2 rfl (zN rfl rfl rfl (qT rfl rfl rfl (by omega) (by omega)) ?_)));refine zN (v:=i6_ (endI f (i+(2:Int)))) rfl rfl rfl (qS rfl xT rfl qG (fun w1 hw1=>ih (i+(2:Int)) w1 (endM_lt (by omega) (by first | exact .inl (by omega) | exact .inr (by omega) | exact endI_gt (by omega))))) ?_;refine zC 1 rfl (zJ (zD [4] [_] rfl ?_));refine qL (qQ rfl rfl fun w' hw=>?_)
   exact ⟨ret_i (by first | exact (endI_neg (by omega)).symm | exact (endI_out (by omega)).symm | (refine Eq.trans ?_ (endI_case (f:=f) (i:=i) (by omega) (by omega)).symm;unfold endC chI;repeat (first | rw [if_pos (by omega)] | rw [if_neg (by omega)]))),hw.below⟩
  replace h62_3:=zG h62_3;refine zB (zC 2 rfl (zJ (zD [0,1,62] [_,_,_] rfl ?_)));refine qH (b:=decide ((((f.getD ((i).toNat) 0).toNat:Int))=(52:Int))) rfl (fun h62_4=>?_) (fun h62_4=>?_)
  ·
   replace h62_4:=zI h62_4;refine zE (zE (zB (zC 2 rfl (zN rfl rfl rfl (qT rfl rfl rfl (by omega) (by omega)) ?_))));refine zN (v:=i6_ (varI f (i+(1:Int)))) rfl rfl rfl (qS rfl xB rfl qG (fun w1 hw1=>l2Var_ok f (i+(1:Int)) w1 )) ?_;refine zC 1 rfl (zJ (zD [0,1,72] [_,_,_] rfl ?_));refine qH (b:=decide ((varI f (i+(1:Int)))<(0:Int))) rfl (fun h72_4=>?_) (fun h72_4=>?_)
   ·
    replace h72_4:=zI h72_4;refine zE (zB (zC 1 rfl (zJ (zD [4] [_] rfl ?_))));refine qL (qQ rfl rfl fun w' hw=>?_)
    exact ⟨ret_i (by first | exact (endI_neg (by omega)).symm | exact (endI_out (by omega)).symm | (refine Eq.trans ?_ (endI_case (f:=f) (i:=i) (by omega) (by omega)).symm;unfold endC chI;repeat (first | rw [if_pos (by omega)] | rw [if_neg (by omega)]))),hw.below⟩
   replace h72_4:=zG h72_4;refine qO (zD [0,1] [_,_] rfl ?_);refine zE (zB (zC 2 rfl (zN rfl rfl rfl (qT rfl rfl rfl (by omega) (by omega)) ?_)));refine zN (v:=i6_ (endI f (i+(2:Int)))) rfl rfl rfl (qS rfl xT rfl qG (fun w1 hw1=>ih (i+(2:Int)) w1 (endM_lt (by omega) (by first | exact .inl (by omega) | exact .inr (by omega) | exact endI_gt (by omega))))) ?_;refine zC 1 rfl (zJ (zD [4] [_] rfl ?_));refine qL (qQ rfl rfl fun w' hw=>?_)
   exact ⟨ret_i (by first | exact (endI_neg (by omega)).symm | exact (endI_out (by omega)).symm | (refine Eq.trans ?_ (endI_case (f:=f) (i:=i) (by omega) (by omega)).symm;unfold endC chI;repeat (first | rw [if_pos (by omega)] | rw [if_neg (by omega)]))),hw.below⟩
  replace h62_4:=zG h62_4;refine qO (zD [] [] rfl ?_);refine zE (zB (zC 1 rfl (zJ (zD [4] [_] rfl ?_))));refine qL (qQ rfl rfl fun w' hw=>?_)
  exact ⟨ret_i (by first | exact (endI_neg (by omega)).symm | exact (endI_out (by omega)).symm | (refine Eq.trans ?_ (endI_case (f:=f) (i:=i) (by omega) (by omega)).symm;unfold endC chI;repeat (first | rw [if_pos (by omega)] | rw [if_neg (by omega)]))),hw.below⟩
 replace hg7:=zI hg7;refine zW rfl rfl rfl (zW rfl rfl rfl (zW rfl rfl rfl (zW rfl rfl rfl (zC 1 rfl (zJ (zD [0,1,12] [_,_,_] rfl ?_))))));refine yN rfl ?_;refine zE (zB (zC 1 rfl (zJ (zD [4] [_] rfl ?_))));refine qL (qQ rfl rfl fun w' hw=>?_)
 exact ⟨ret_i (by first | exact (endI_neg (by omega)).symm | exact (endI_out (by omega)).symm | (refine Eq.trans ?_ (endI_case (f:=f) (i:=i) (by omega) (by omega)).symm;unfold endC chI;repeat (first | rw [if_pos (by omega)] | rw [if_neg (by omega)]))),hw.below⟩
theorem l2End_ok (f:List UInt8) (i:Int) (w:World) (hf:f.length≤1048576):Calls Tryd.prog 164 #[str f,.int .i64 i] w fun en w'=>en=.returned (.int .i64 (endI f i))∧Below w.heap.size w w':=by
  have key:∀ (m:Nat) (i:Int) (w:World),endM f i≤m→Calls Tryd.prog 164 #[str f,.int .i64 i] w fun en w'=>en=.returned (.int .i64 (endI f i))∧Below w.heap.size w w':=fun m=>by
    induction m with
    | zero=>exact fun i w hm=>l2End_step f i w hf fun j w h5=>absurd h5 (by omega)
    | succ m ihm=>exact fun i w hm=>l2End_step f i w hf fun j w h5=>ihm j w (by omega)
  exact key _ i w (Nat.le_refl _)
set_option maxHeartbeats 400000 in
theorem l2Quant_ok (c:UInt8) (w:World) :
    Calls Tryd.prog 166 [.int .u8 ((c.toNat:Int))].toArray w fun en w'=>en=.returned (.bool (decide (quI (c.toNat:Int))))∧Below w.heap.size w w':=by
 refine fnStart (n:=6) (e:=[(0,.int .u8 ((c.toNat:Int)))]) Tryd.func166 rfl rfl rfl rfl Ends.both ?_;refine zE (zB (zC 1 rfl (zJ (zD [0] [_] rfl ?_))));refine zE (zB (zC 1 rfl (zN (v:=i6_ (findS ([65,83,50,51,52]) ((c.toNat:Int)))) rfl rfl rfl (qS rfl Tryd.call115 rfl qG (fun w1 hw1=>l15Find_ok ([65,83,50,51,52]) ((c.toNat:Int)) w1 (by first | decide | omega))) ?_)));refine zC 2 rfl (zJ (zD [2] [_] rfl ?_));refine qL (qQ rfl rfl fun w' hw=>?_)
 exact ⟨ret_b (find_quant c),hw.below⟩
set_option maxHeartbeats 400000 in
theorem l2Free_step (f:List UInt8) (n:Nat) (p:Fm) (e:Nat) (w:World) (hf:f.length≤1048576) (hP:Pa f n p e) (ih:∀ (i:Int) (k:Nat) (p:Fm) (e:Nat) (w:World),i=(k:Int)→n<k→Pa f k p e→Calls Tryd.prog 117 #[str f,.int .i64 i] w fun en w'=>en=.returned (.tuple #[.int .i64 (frB p:Int),.int .i64 (e:Int)])∧Below w.heap.size w w') :
    Calls Tryd.prog 117 [str f,i6_ ((n:Int))].toArray w fun en w'=>en=.returned (.tuple #[.int .i64 (frB p:Int),.int .i64 (e:Int)])∧Below w.heap.size w w':=by
 refine fnStart (n:=113) (e:=[(0,str f),(1,i6_ ((n:Int)))]) Tryd.func117 rfl rfl rfl rfl Ends.both ?_
 have hn:=hP.lt
 have hne:=hP.2;refine zE (zB (zC 2 rfl (zJ (zD [0,1] [_,_] rfl ?_))));refine zE (yA (zE (zB (zC 2 rfl (zN (v:=.int .u8 (((f.getD (((n:Int)).toNat) 0).toNat:Int))) rfl rfl rfl (yJ rfl qI rfl rfl (by omega) (by omega)) ?_)))));refine zC 2 rfl (xG fun b17 hg17=>?_)
 cases b17
 ·
  replace hg17:=zG hg17;refine zC 2 rfl (zN (v:=.int .u8 (((f.getD (((n:Int)).toNat) 0).toNat:Int))) rfl rfl rfl (yJ rfl qI rfl rfl (by omega) (by omega)) ?_);refine zC 3 rfl (zJ (zD [0,1,12] [_,_,_] rfl ?_));refine qH (b:=decide ((((f.getD (((n:Int)).toNat) 0).toNat:Int))=(102:Int))) rfl (fun h12=>?_) (fun h12=>?_)
  ·
   replace h12:=zI h12;refine zE (zB (zC 1 rfl (zN rfl rfl rfl (qT rfl rfl rfl (by omega) (by omega)) ?_)));refine zC 2 rfl (zJ (zD [4,5] [_,_] rfl ?_));refine qL (yT rfl rfl rfl fun w' hw=>?_)
   obtain ⟨rfl,rfl⟩:=hP.i0 (by omega)
   exact ⟨rfl,hw.below⟩
  replace h12:=zG h12;refine zE (zB (zC 2 rfl (zN (v:=.int .u8 (((f.getD (((n:Int)).toNat) 0).toNat:Int))) rfl rfl rfl (yJ rfl qI rfl rfl (by omega) (by omega)) ?_)));refine zC 2 rfl (zJ (zD [0,1,25] [_,_,_] rfl ?_));refine qH (b:=decide ((((f.getD (((n:Int)).toNat) 0).toNat:Int))=(80:Int))) rfl (fun h25=>?_) (fun h25=>?_)
  ·
   replace h25:=zI h25
   obtain ⟨hl1,hv1,rfl,rfl⟩:=hP.i1 (by omega)
   have hw1:=(vI_lt hv1).1
   have hb1:=bit_lt hw1;refine zE (zB (zC 2 rfl (zN rfl rfl rfl (qT rfl rfl rfl (by omega) (by omega)) ?_)));refine zN (v:=i6_ ((vI (f.getD (n+1) 0):Int))) rfl rfl rfl (qS rfl xB rfl qG (fun w1 hw1=>l2Var_at f (((n:Int))+(1:Int)) (n+1) w1 (by omega) hl1 hv1)) ?_;refine zN (v:=.int .u64 ((vI (f.getD (n+1) 0):Int))) rfl rfl rfl (jH .u64 rfl yR jN rfl (IntWalk.u64_in _ (by omega))) ?_;refine zN (v:=i6_ (((1*2 ^ (vI (f.getD (n+1) 0)):Nat):Int))) rfl rfl rfl (vA (a:=1) (b:=vI (f.getD (n+1) 0)) rfl rfl rfl (by omega) (by omega)) ?_;refine zC 1 rfl (zN rfl rfl rfl (qT rfl rfl rfl (by omega) (by omega)) ?_);refine zC 2 rfl (zJ (zD [4,5] [_,_] rfl ?_));refine qL (yT rfl rfl rfl fun w' hw=>?_)
   exact ⟨by rw [fre1 80] <;> rfl,hw.below⟩
  replace h25:=zG h25;refine zE (zB (zC 2 rfl (zN (v:=.int .u8 (((f.getD (((n:Int)).toNat) 0).toNat:Int))) rfl rfl rfl (yJ rfl qI rfl rfl (by omega) (by omega)) ?_)));refine zC 2 rfl (xG fun b43 hg43=>?_)
  cases b43
  ·
   replace hg43:=zG hg43;refine zC 2 rfl (zN (v:=.int .u8 (((f.getD (((n:Int)).toNat) 0).toNat:Int))) rfl rfl rfl (yJ rfl qI rfl rfl (by omega) (by omega)) ?_);refine zC 3 rfl (zJ (zD [0,1,38] [_,_,_] rfl ?_));refine qH (b:=decide ((((f.getD (((n:Int)).toNat) 0).toNat:Int))=(69:Int))) rfl (fun h38=>?_) (fun h38=>?_)
   ·
    replace h38:=zI h38
    obtain ⟨hl2,hv1,hv2,rfl,rfl⟩:=hP.i2 (by omega)
    have hl1:n+1<f.length:=by omega
    have hw1:=(vI_lt hv1).1
    have hw2:=(vI_lt hv2).1
    have hb1:=bit_lt hw1
    have hb2:=bit_lt hw2;refine zE (zB (zC 2 rfl (zN rfl rfl rfl (qT rfl rfl rfl (by omega) (by omega)) ?_)));refine zN (v:=i6_ ((vI (f.getD (n+1) 0):Int))) rfl rfl rfl (qS rfl xB rfl qG (fun w1 hw1=>l2Var_at f (((n:Int))+(1:Int)) (n+1) w1 (by omega) hl1 hv1)) ?_;refine zN (v:=.int .u64 ((vI (f.getD (n+1) 0):Int))) rfl rfl rfl (jH .u64 rfl yR jN rfl (IntWalk.u64_in _ (by omega))) ?_;refine zN (v:=i6_ (((1*2 ^ (vI (f.getD (n+1) 0)):Nat):Int))) rfl rfl rfl (vA (a:=1) (b:=vI (f.getD (n+1) 0)) rfl rfl rfl (by omega) (by omega)) ?_;refine zC 2 rfl (zN rfl rfl rfl (qT rfl rfl rfl (by omega) (by omega)) ?_);refine zN (v:=i6_ ((vI (f.getD (n+2) 0):Int))) rfl rfl rfl (qS rfl xB rfl qG (fun w1 hw1=>l2Var_at f (((n:Int))+(2:Int)) (n+2) w1 (by omega) hl2 hv2)) ?_;refine zN (v:=.int .u64 ((vI (f.getD (n+2) 0):Int))) rfl rfl rfl (jH .u64 rfl yR jN rfl (IntWalk.u64_in _ (by omega))) ?_;refine zN (v:=i6_ (((1*2 ^ (vI (f.getD (n+2) 0)):Nat):Int))) rfl rfl rfl (vA (a:=1) (b:=vI (f.getD (n+2) 0)) rfl rfl rfl (by omega) (by omega)) ?_;refine zN (v:=i6_ ((((1*2 ^ (vI (f.getD (n+1) 0))) ||| (1*2 ^ (vI (f.getD (n+2) 0))):Nat):Int))) rfl rfl rfl (yZ (a:=1*2 ^ (vI (f.getD (n+1) 0))) (b:=1*2 ^ (vI (f.getD (n+2) 0))) rfl rfl rfl (by omega) (by omega)) ?_;refine zC 1 rfl (zN rfl rfl rfl (qT rfl rfl rfl (by omega) (by omega)) ?_);refine zC 2 rfl (zJ (zD [4,5] [_,_] rfl ?_));refine qL (yT rfl rfl rfl fun w' hw=>?_)
    exact ⟨by rw [fre2 (f.getD n 0)] <;> rfl,hw.below⟩
   replace h38:=zG h38;refine zE (zB (zC 2 rfl (zN (v:=.int .u8 (((f.getD (((n:Int)).toNat) 0).toNat:Int))) rfl rfl rfl (yJ rfl qI rfl rfl (by omega) (by omega)) ?_)));refine zC 2 rfl (zJ (zD [0,1,64] [_,_,_] rfl ?_));refine qH (b:=decide ((((f.getD (((n:Int)).toNat) 0).toNat:Int))=(33:Int))) rfl (fun h64=>?_) (fun h64=>?_)
   ·
    replace h64:=zI h64
    obtain ⟨q,hq,rfl⟩:=hP.i3 (by omega);refine zE (zB (zC 2 rfl (zN rfl rfl rfl (qT rfl rfl rfl (by omega) (by omega)) ?_)));refine zN (v:=.tuple #[i6_ ((frB q:Int)),i6_ ((e:Int))]) rfl rfl rfl (qS rfl Tryd.call117 rfl qG (fun w1 hw1=>ih (((n:Int))+(1:Int)) (n+1) q e w1 (by omega) (by omega) hq)) ?_;refine zN (v:=i6_ ((frB q:Int))) rfl rfl rfl (qY rfl rfl rfl) ?_;refine zN (v:=i6_ ((e:Int))) rfl rfl rfl (qY rfl rfl rfl) ?_;refine zC 2 rfl (zJ (zD [4,5] [_,_] rfl ?_));refine qL (yT rfl rfl rfl fun w' hw=>?_)
    exact ⟨rfl,hw.below⟩
   replace h64:=zG h64;refine zE (zB (zC 2 rfl (zN (v:=.int .u8 (((f.getD (((n:Int)).toNat) 0).toNat:Int))) rfl rfl rfl (yJ rfl qI rfl rfl (by omega) (by omega)) ?_)));refine zN (v:=bo_ (decide (quI (((f.getD (((n:Int)).toNat) 0).toNat:Int))))) rfl rfl rfl (qS rfl Tryd.call166 rfl qG (fun w1 hw1=>l2Quant_ok (f.getD (((n:Int)).toNat) 0) w1)) ?_;refine zC 1 rfl (zJ (zD [0,1,75] [_,_,_] rfl ?_));refine qH (b:=decide (quI (((f.getD (((n:Int)).toNat) 0).toNat:Int)))) rfl (fun h75=>?_) (fun h75=>?_)
   ·
    replace h75:=zI h75
    obtain ⟨hl1,hv1,q,hq,rfl⟩:=hP.i5 (by assumption)
    have hw1:=(vI_lt hv1).1
    have hb1:=bit_lt hw1
    have hf1:=frB_lt hq.wf;refine zE (zB (zC 2 rfl (zN rfl rfl rfl (qT rfl rfl rfl (by omega) (by omega)) ?_)));refine zN (v:=.tuple #[i6_ ((frB q:Int)),i6_ ((e:Int))]) rfl rfl rfl (qS rfl Tryd.call117 rfl qG (fun w1 hw1=>ih (((n:Int))+(2:Int)) (n+2) q e w1 (by omega) (by omega) hq)) ?_;refine zC 1 rfl (zN (v:=i6_ ((frB q:Int))) rfl rfl rfl (qY rfl rfl rfl) ?_);refine zN (v:=i6_ ((e:Int))) rfl rfl rfl (qY rfl rfl rfl) ?_;refine zC 2 rfl (zJ (zD [0,1,6,7] [_,_,_,_] rfl ?_));refine zE (zB (zC 3 rfl (zN rfl rfl rfl (qT rfl rfl rfl (by omega) (by omega)) ?_)));refine zN (v:=i6_ ((vI (f.getD (n+1) 0):Int))) rfl rfl rfl (qS rfl xB rfl qG (fun w1 hw1=>l2Var_at f (((n:Int))+(1:Int)) (n+1) w1 (by omega) hl1 hv1)) ?_;refine zN (v:=.int .u64 ((vI (f.getD (n+1) 0):Int))) rfl rfl rfl (jH .u64 rfl yR jN rfl (IntWalk.u64_in _ (by omega))) ?_;refine zN (v:=i6_ (((1*2 ^ (vI (f.getD (n+1) 0)):Nat):Int))) rfl rfl rfl (vA (a:=1) (b:=vI (f.getD (n+1) 0)) rfl rfl rfl (by omega) (by omega)) ?_;refine zN (v:=i6_ ((((frB q) &&& (15 ^^^ (1*2 ^ (vI (f.getD (n+1) 0)))):Nat):Int))) rfl rfl rfl (vJ (a:=frB q) (b:=1*2 ^ (vI (f.getD (n+1) 0))) rfl rfl rfl (by omega) (by omega)) ?_;refine zC 3 rfl (zJ (zD [4,5] [_,_] rfl ?_));refine qL (yT rfl rfl rfl fun w' hw=>?_)
    exact ⟨by rw [freq (f.getD n 0)] <;> rfl,hw.below⟩
   replace h75:=zG h75
   unfold quI at h75
   obtain ⟨q,m,q2,hq,hq2,rfl⟩:=hP.i4 (by have:=hP.io;omega)
   have hqm:=hq.2
   have hf1:=frB_lt hq.wf
   have hf2:=frB_lt hq2.wf;refine qO (zD [0,1] [_,_] rfl ?_);refine zE (zB (zC 2 rfl (zN rfl rfl rfl (qT rfl rfl rfl (by omega) (by omega)) ?_)));refine zN (v:=.tuple #[i6_ ((frB q:Int)),i6_ ((m:Int))]) rfl rfl rfl (qS rfl Tryd.call117 rfl qG (fun w1 hw1=>ih (((n:Int))+(1:Int)) (n+1) q m w1 (by omega) (by omega) hq)) ?_;refine zC 1 rfl (zN (v:=i6_ ((frB q:Int))) rfl rfl rfl (qY rfl rfl rfl) ?_);refine zN (v:=i6_ ((m:Int))) rfl rfl rfl (qY rfl rfl rfl) ?_;refine zC 2 rfl (zJ (zD [0,8,9] [_,_,_] rfl ?_));refine zE (zB (zC 2 rfl (zN (v:=.tuple #[i6_ ((frB q2:Int)),i6_ ((e:Int))]) rfl rfl rfl (qS rfl Tryd.call117 rfl qG (fun w1 hw1=>ih ((m:Int)) m q2 e w1 (by omega) (by omega) hq2)) ?_)));refine zC 1 rfl (zN (v:=i6_ ((frB q2:Int))) rfl rfl rfl (qY rfl rfl rfl) ?_);refine zN (v:=i6_ ((e:Int))) rfl rfl rfl (qY rfl rfl rfl) ?_;refine zC 2 rfl (zJ (zD [8,10,11] [_,_,_] rfl ?_));refine zE (zB (zC 2 rfl (zN (v:=i6_ ((((frB q) ||| (frB q2):Nat):Int))) rfl rfl rfl (yZ (a:=frB q) (b:=frB q2) rfl rfl rfl (by omega) (by omega)) ?_)));refine zC 3 rfl (zJ (zD [4,5] [_,_] rfl ?_));refine qL (yT rfl rfl rfl fun w' hw=>?_)
   exact ⟨rfl,hw.below⟩
  replace hg43:=zI hg43
  obtain ⟨hl2,hv1,hv2,rfl,rfl⟩:=hP.i2 (by omega)
  have hl1:n+1<f.length:=by omega
  have hw1:=(vI_lt hv1).1
  have hw2:=(vI_lt hv2).1
  have hb1:=bit_lt hw1
  have hb2:=bit_lt hw2;refine zW rfl rfl rfl (zW rfl rfl rfl (zW rfl rfl rfl (zW rfl rfl rfl (zC 2 rfl (zJ (zD [0,1,38] [_,_,_] rfl ?_))))));refine yN rfl ?_;refine zE (zB (zC 2 rfl (zN rfl rfl rfl (qT rfl rfl rfl (by omega) (by omega)) ?_)));refine zN (v:=i6_ ((vI (f.getD (n+1) 0):Int))) rfl rfl rfl (qS rfl xB rfl qG (fun w1 hw1=>l2Var_at f (((n:Int))+(1:Int)) (n+1) w1 (by omega) hl1 hv1)) ?_;refine zN (v:=.int .u64 ((vI (f.getD (n+1) 0):Int))) rfl rfl rfl (jH .u64 rfl yR jN rfl (IntWalk.u64_in _ (by omega))) ?_;refine zN (v:=i6_ (((1*2 ^ (vI (f.getD (n+1) 0)):Nat):Int))) rfl rfl rfl (vA (a:=1) (b:=vI (f.getD (n+1) 0)) rfl rfl rfl (by omega) (by omega)) ?_;refine zC 2 rfl (zN rfl rfl rfl (qT rfl rfl rfl (by omega) (by omega)) ?_);refine zN (v:=i6_ ((vI (f.getD (n+2) 0):Int))) rfl rfl rfl (qS rfl xB rfl qG (fun w1 hw1=>l2Var_at f (((n:Int))+(2:Int)) (n+2) w1 (by omega) hl2 hv2)) ?_;refine zN (v:=.int .u64 ((vI (f.getD (n+2) 0):Int))) rfl rfl rfl (jH .u64 rfl yR jN rfl (IntWalk.u64_in _ (by omega))) ?_;refine zN (v:=i6_ (((1*2 ^ (vI (f.getD (n+2) 0)):Nat):Int))) rfl rfl rfl (vA (a:=1) (b:=vI (f.getD (n+2) 0)) rfl rfl rfl (by omega) (by omega)) ?_;refine zN (v:=i6_ ((((1*2 ^ (vI (f.getD (n+1) 0))) ||| (1*2 ^ (vI (f.getD (n+2) 0))):Nat):Int))) rfl rfl rfl (yZ (a:=1*2 ^ (vI (f.getD (n+1) 0))) (b:=1*2 ^ (vI (f.getD (n+2) 0))) rfl rfl rfl (by omega) (by omega)) ?_;refine zC 1 rfl (zN rfl rfl rfl (qT rfl rfl rfl (by omega) (by omega)) ?_);refine zC 2 rfl (zJ (zD [4,5] [_,_] rfl ?_));refine qL (yT rfl rfl rfl fun w' hw=>?_)
  exact ⟨by rw [fre2 (f.getD n 0)] <;> rfl,hw.below⟩
 replace hg17:=zI hg17;refine zW rfl rfl rfl (zW rfl rfl rfl (zW rfl rfl rfl (zW rfl rfl rfl (zC 2 rfl (zJ (zD [0,1,12] [_,_,_] rfl ?_))))));refine yN rfl ?_;refine zE (zB (zC 1 rfl (zN rfl rfl rfl (qT rfl rfl rfl (by omega) (by omega)) ?_)));refine zC 2 rfl (zJ (zD [4,5] [_,_] rfl ?_));refine qL (yT rfl rfl rfl fun w' hw=>?_)
 obtain ⟨rfl,rfl⟩:=hP.i0 (by omega)
 exact ⟨rfl,hw.below⟩
theorem l2Free_ok (f:List UInt8) (i:Int) (n:Nat) (p:Fm) (e:Nat) (w:World) (hf:f.length≤1048576) (hi:i=(n:Int)) (hP:Pa f n p e):Calls Tryd.prog 117 #[str f,.int .i64 i] w fun en w'=>en=.returned (.tuple #[.int .i64 (frB p:Int),.int .i64 (e:Int)])∧Below w.heap.size w w':=by
  have key:∀ (m n:Nat) (p:Fm) (e:Nat) (w:World),f.length - n≤m→Pa f n p e→Calls Tryd.prog 117 #[str f,.int .i64 ((n:Int))] w fun en w'=>en=.returned (.tuple #[.int .i64 (frB p:Int),.int .i64 (e:Int)])∧Below w.heap.size w w':=fun m=>by
    induction m with
    | zero=>exact fun n p e w hm hP=>absurd hP.lt (by omega)
    | succ m ihm=>exact fun n p e w hm hP=>l2Free_step f n p e w hf hP fun i k p e w h1 h2 h3=>by subst h1;exact ihm k p e w (by have:=h3.lt;omega) h3
  subst hi;exact key _ n p e w (Nat.le_refl _) hP
set_option maxHeartbeats 1600000 in
theorem l2Holds_step (a:St) (f:List UInt8) (n:Nat) (p:Fm) (e:Nat) (en4:List Int) (w:World) (hf:f.length≤1048576) (ha:a.Fine) (_hsa:a.Small) (hP:Pa f n p e) (hE:EnvA a en4) (ih:∀ (i:Int) (k:Nat) (p:Fm) (e:Nat) (en4:List Int) (w:World),i=(k:Int)→n<k→Pa f k p e→EnvA a en4→Calls Tryd.prog 120 #[vS a,str f,.int .i64 i,.agg (ints en4).toArray] w fun en w'=>en=.returned (.tuple #[.bool (ev a p en4),.int .i64 (e:Int)])∧Below w.heap.size w w') :
    Calls Tryd.prog 120 [vS a,str f,i6_ ((n:Int)),.agg ((ints en4).toArray)].toArray w fun en w'=>en=.returned (.tuple #[.bool (ev a p en4),.int .i64 (e:Int)])∧Below w.heap.size w w':=by
 refine fnStart (n:=182) (e:=[(0,vS a),(1,str f),(2,i6_ ((n:Int))),(3,.agg ((ints en4).toArray))]) Tryd.func120 rfl rfl rfl rfl Ends.both ?_
 have hn:=hP.lt
 have hne:=hP.2
 have hE4:=hE.1
 have hcn:((f.getD (n:Int).toNat 0).toNat:Int)=((f.getD n 0).toNat:Int):=rfl;refine zE (qF (jC (v:=vS a) rfl rfl rfl rfl rfl fun p4 hp4=>?_))
 show Ll _ _ (Own _ _ [_]) _ _ ((4,pt_ p4)::_) _ _ _;refine jC (v:=.agg ((ints en4).toArray)) rfl rfl rfl rfl rfl fun p7 hp7=>?_
 show Ll _ _ (Own _ _ [_,_]) _ _ ((7,pt_ p7)::_) _ _ _;refine qJ 2 rfl (zM (zD [1,2,4,7] [_,_,_,_] rfl ?_));refine zE (zE (zB (zC 2 rfl (zN (v:=.int .u8 (((f.getD (((n:Int)).toNat) 0).toNat:Int))) rfl rfl rfl (yJ rfl qI rfl rfl (by omega) (by omega)) ?_))));refine zJ (zD [1,2,4,7,21] [_,_,_,_,_] rfl ?_);refine yA (zE (zE (zB (zC 2 rfl (zJ (zD [1,2,4,7,21,22] [_,_,_,_,_,_] rfl ?_))))));refine qH (b:=decide ((((f.getD (((n:Int)).toNat) 0).toNat:Int))=(116:Int))) rfl (fun h22=>?_) (fun h22=>?_)
 ·
  replace h22:=zI h22;refine qO (zD [1,2,4,7,21,22] [_,_,_,_,_,_] rfl ?_);refine yN (congrArg (fun b=>some (Value.bool b)) (decide_eq_true h22)) ?_;refine zE (zB (zC 2 rfl (zN (v:=.int .u8 (((f.getD (((n:Int)).toNat) 0).toNat:Int))) rfl rfl rfl (yJ rfl qI rfl rfl (by omega) (by omega)) ?_)));refine zC 2 rfl (zN rfl rfl rfl (qT rfl rfl rfl (by omega) (by omega)) ?_);refine zC 2 rfl (zJ (zD [8,9] [_,_] rfl ?_));refine qL (yT rfl rfl rfl fun w' hw=>?_)
  obtain ⟨rfl,rfl⟩:=hP.i0 (by omega)
  exact ⟨congrArg (fun b=>Ending.returned (.tuple #[.bool b,_])) (ev_tf (by omega)),hw.below⟩
 replace h22:=zG h22;refine zB (zC 2 rfl (zJ (zD [1,2,4,7,21,22] [_,_,_,_,_,_] rfl ?_)));refine qH (b:=decide ((((f.getD (((n:Int)).toNat) 0).toNat:Int))=(102:Int))) rfl (fun h22_1=>?_) (fun h22_1=>?_)
 ·
  replace h22_1:=zI h22_1;refine zE (zB (zC 2 rfl (zN (v:=.int .u8 (((f.getD (((n:Int)).toNat) 0).toNat:Int))) rfl rfl rfl (yJ rfl qI rfl rfl (by omega) (by omega)) ?_)));refine zC 2 rfl (zN rfl rfl rfl (qT rfl rfl rfl (by omega) (by omega)) ?_);refine zC 2 rfl (zJ (zD [8,9] [_,_] rfl ?_));refine qL (yT rfl rfl rfl fun w' hw=>?_)
  obtain ⟨rfl,rfl⟩:=hP.i0 (by omega)
  exact ⟨congrArg (fun b=>Ending.returned (.tuple #[.bool b,_])) (ev_tf (by omega)),hw.below⟩
 replace h22_1:=zG h22_1;refine zE (zB (zC 2 rfl (zJ (zD [1,2,4,7,21,31] [_,_,_,_,_,_] rfl ?_))));refine qH (b:=decide ((((f.getD (((n:Int)).toNat) 0).toNat:Int))=(80:Int))) rfl (fun h31=>?_) (fun h31=>?_)
 ·
  replace h31:=zI h31
  obtain ⟨hl1,hv1,rfl,rfl⟩:=hP.i1 (by omega)
  have hw1:=(vI_lt hv1).1
  have hx1:=hE.at hw1;refine zE (jF yG (fun _ h=>h.drawn) (by kernel_rfl) ?_);refine zN rfl rfl rfl (qX (cs:=#[i6_ a.n,str a.set,str a.rel]) 1 rfl qW rfl rfl qU) ?_;refine zC 2 rfl (zN rfl rfl rfl (qT rfl rfl rfl (by omega) (by omega)) ?_);refine zN (v:=i6_ ((vI (f.getD (n+1) 0):Int))) rfl rfl rfl (qS rfl xB rfl qG (fun w1 hw1=>l2Var_at f (((n:Int))+(1:Int)) (n+1) w1 (by omega) hl1 hv1)) ?_;refine zN (v:=pf_ p7 ((vI (f.getD (n+1) 0)))) rfl rfl rfl (yF (v':=pf_ p7 ((vI (f.getD (n+1) 0)))) (by first | rfl | (congr 3;omega)) (vN (i:=(vI (f.getD (n+1) 0):Int)) rfl jW zK rfl rfl (by omega) (by omega))) ?_;refine zN (v:=i6_ (en4.getD ((vI (f.getD (n+1) 0))) 0)) rfl rfl rfl (xY 0 rfl zU rfl rfl (Go.Wk.ints_at (by first | (simp;done) | (simp;omega) | omega))) ?_;refine zN (v:=bo_ (a.inSet (en4.getD ((vI (f.getD (n+1) 0))) 0))) rfl rfl rfl (qS rfl Tryd.call86 rfl qG (fun w1 hw1=>l1Set_ok a (en4.getD ((vI (f.getD (n+1) 0))) 0) w1 ha (by first | assumption | exact St.Els.at (by assumption) (by omega) (by omega)))) ?_;refine zC 1 rfl (zN rfl rfl rfl (qT rfl rfl rfl (by omega) (by omega)) ?_);refine zC 2 rfl (zJ (zD [8,9] [_,_] rfl ?_));refine qL (yT rfl rfl rfl fun w' hw=>?_)
  exact ⟨rfl,hw.below⟩
 replace h31:=zG h31;refine zE (zB (zC 2 rfl (zJ (zD [1,2,4,7,21,43] [_,_,_,_,_,_] rfl ?_))));refine qH (b:=decide ((((f.getD (((n:Int)).toNat) 0).toNat:Int))=(61:Int))) rfl (fun h43=>?_) (fun h43=>?_)
 ·
  replace h43:=zI h43
  obtain ⟨hl2,hv1,hv2,rfl,rfl⟩:=hP.i2 (by omega)
  have hl1:n+1<f.length:=by omega
  have hw1:=(vI_lt hv1).1
  have hw2:=(vI_lt hv2).1
  have hx1:=hE.at hw1
  have hx2:=hE.at hw2;refine zE (jF yG (fun _ h=>h.drawn) (by kernel_rfl) ?_);refine zC 2 rfl (zN rfl rfl rfl (qT rfl rfl rfl (by omega) (by omega)) ?_);refine zN (v:=i6_ ((vI (f.getD (n+1) 0):Int))) rfl rfl rfl (qS rfl xB rfl qG (fun w1 hw1=>l2Var_at f (((n:Int))+(1:Int)) (n+1) w1 (by omega) hl1 hv1)) ?_;refine zN (v:=pf_ p7 ((vI (f.getD (n+1) 0)))) rfl rfl rfl (yF (v':=pf_ p7 ((vI (f.getD (n+1) 0)))) (by first | rfl | (congr 3;omega)) (vN (i:=(vI (f.getD (n+1) 0):Int)) rfl jW zK rfl rfl (by omega) (by omega))) ?_;refine zN (v:=i6_ (en4.getD ((vI (f.getD (n+1) 0))) 0)) rfl rfl rfl (xY 0 rfl zU rfl rfl (Go.Wk.ints_at (by first | (simp;done) | (simp;omega) | omega))) ?_;refine zC 2 rfl (zN rfl rfl rfl (qT rfl rfl rfl (by omega) (by omega)) ?_);refine zN (v:=i6_ ((vI (f.getD (n+2) 0):Int))) rfl rfl rfl (qS rfl xB rfl qG (fun w1 hw1=>l2Var_at f (((n:Int))+(2:Int)) (n+2) w1 (by omega) hl2 hv2)) ?_;refine zN (v:=pf_ p7 ((vI (f.getD (n+2) 0)))) rfl rfl rfl (yF (v':=pf_ p7 ((vI (f.getD (n+2) 0)))) (by first | rfl | (congr 3;omega)) (vN (i:=(vI (f.getD (n+2) 0):Int)) rfl jW zK rfl rfl (by omega) (by omega))) ?_;refine zN (v:=i6_ (en4.getD ((vI (f.getD (n+2) 0))) 0)) rfl rfl rfl (xY 0 rfl zU rfl rfl (Go.Wk.ints_at (by first | (simp;done) | (simp;omega) | omega))) ?_;refine zC 2 rfl (zN rfl rfl rfl (qT rfl rfl rfl (by omega) (by omega)) ?_);refine zC 2 rfl (zJ (zD [8,9] [_,_] rfl ?_));refine qL (yT rfl rfl rfl fun w' hw=>?_)
  exact ⟨congrArg (fun b=>Ending.returned (.tuple #[.bool b,_])) (ev_eq (by assumption)),hw.below⟩
 replace h43:=zG h43;refine zE (zB (zC 2 rfl (zJ (zD [1,2,4,7,21,60] [_,_,_,_,_,_] rfl ?_))));refine qH (b:=decide ((((f.getD (((n:Int)).toNat) 0).toNat:Int))=(69:Int))) rfl (fun h60=>?_) (fun h60=>?_)
 ·
  replace h60:=zI h60
  obtain ⟨hl2,hv1,hv2,rfl,rfl⟩:=hP.i2 (by omega)
  have hl1:n+1<f.length:=by omega
  have hw1:=(vI_lt hv1).1
  have hw2:=(vI_lt hv2).1
  have hx1:=hE.at hw1
  have hx2:=hE.at hw2;refine zE (jF yG (fun _ h=>h.drawn) (by kernel_rfl) ?_);refine zN rfl rfl rfl (qX (cs:=#[i6_ a.n,str a.set,str a.rel]) 1 rfl qW rfl rfl qU) ?_;refine zC 2 rfl (zN rfl rfl rfl (qT rfl rfl rfl (by omega) (by omega)) ?_);refine zN (v:=i6_ ((vI (f.getD (n+1) 0):Int))) rfl rfl rfl (qS rfl xB rfl qG (fun w1 hw1=>l2Var_at f (((n:Int))+(1:Int)) (n+1) w1 (by omega) hl1 hv1)) ?_;refine zN (v:=pf_ p7 ((vI (f.getD (n+1) 0)))) rfl rfl rfl (yF (v':=pf_ p7 ((vI (f.getD (n+1) 0)))) (by first | rfl | (congr 3;omega)) (vN (i:=(vI (f.getD (n+1) 0):Int)) rfl jW zK rfl rfl (by omega) (by omega))) ?_;refine zN (v:=i6_ (en4.getD ((vI (f.getD (n+1) 0))) 0)) rfl rfl rfl (xY 0 rfl zU rfl rfl (Go.Wk.ints_at (by first | (simp;done) | (simp;omega) | omega))) ?_;refine zC 2 rfl (zN rfl rfl rfl (qT rfl rfl rfl (by omega) (by omega)) ?_);refine zN (v:=i6_ ((vI (f.getD (n+2) 0):Int))) rfl rfl rfl (qS rfl xB rfl qG (fun w1 hw1=>l2Var_at f (((n:Int))+(2:Int)) (n+2) w1 (by omega) hl2 hv2)) ?_;refine zN (v:=pf_ p7 ((vI (f.getD (n+2) 0)))) rfl rfl rfl (yF (v':=pf_ p7 ((vI (f.getD (n+2) 0)))) (by first | rfl | (congr 3;omega)) (vN (i:=(vI (f.getD (n+2) 0):Int)) rfl jW zK rfl rfl (by omega) (by omega))) ?_;refine zN (v:=i6_ (en4.getD ((vI (f.getD (n+2) 0))) 0)) rfl rfl rfl (xY 0 rfl zU rfl rfl (Go.Wk.ints_at (by first | (simp;done) | (simp;omega) | omega))) ?_;refine zN (v:=bo_ (a.inRel (en4.getD ((vI (f.getD (n+1) 0))) 0) (en4.getD ((vI (f.getD (n+2) 0))) 0))) rfl rfl rfl (qS rfl Tryd.call87 rfl qG (fun w1 hw1=>l1Rel_ok a (en4.getD ((vI (f.getD (n+1) 0))) 0) (en4.getD ((vI (f.getD (n+2) 0))) 0) w1 ha (by first | assumption | exact St.Els.at (by assumption) (by omega) (by omega)) (by first | assumption | exact St.Els.at (by assumption) (by omega) (by omega)))) ?_;refine zC 1 rfl (zN rfl rfl rfl (qT rfl rfl rfl (by omega) (by omega)) ?_);refine zC 2 rfl (zJ (zD [8,9] [_,_] rfl ?_));refine qL (yT rfl rfl rfl fun w' hw=>?_)
  exact ⟨congrArg (fun b=>Ending.returned (.tuple #[.bool b,_])) (ev_rel (by assumption)),hw.below⟩
 replace h60:=zG h60;refine zE (zB (zC 2 rfl (zJ (zD [1,2,4,7,21,78] [_,_,_,_,_,_] rfl ?_))));refine qH (b:=decide ((((f.getD (((n:Int)).toNat) 0).toNat:Int))=(33:Int))) rfl (fun h78=>?_) (fun h78=>?_)
 ·
  replace h78:=zI h78
  obtain ⟨q,hq,rfl⟩:=hP.i3 (by omega);refine zE (zB (zN rfl rfl rfl (qX (cs:=#[i6_ a.n,str a.set,str a.rel]) 1 rfl qW rfl rfl qU) ?_));refine zC 2 rfl (zN rfl rfl rfl (qT rfl rfl rfl (by omega) (by omega)) ?_);refine zN rfl rfl rfl (qX (cs:=(ints en4).toArray) 0 rfl Tryd.isAgg92 rfl rfl (by intro w;rw [show (ints en4).toArray.size=4 from by simp [hE.1]];exact vP w)) ?_;refine zN (v:=.tuple #[bo_ (ev a q en4),i6_ ((e:Int))]) rfl rfl rfl (qS rfl Tryd.call120 rfl qG (fun w1 hw1=>ih (((n:Int))+(1:Int)) (n+1) q e en4 w1 (by omega) (by omega) hq hE)) ?_;refine zC 1 rfl (zN (v:=bo_ (ev a q en4)) rfl rfl rfl (qY rfl rfl rfl) ?_);refine zN (v:=i6_ ((e:Int))) rfl rfl rfl (qY rfl rfl rfl) ?_;refine zC 2 rfl (zJ (zD [10,11] [_,_] rfl ?_));refine zE (zB (zC 5 rfl (zJ (zD [8,9] [_,_] rfl ?_))));refine qL (yT rfl rfl rfl fun w' hw=>?_)
  exact ⟨rfl,hw.below⟩
 replace h78:=zG h78;refine zE (zE (zB (zC 2 rfl (zJ (zD [1,2,4,7,21,92] [_,_,_,_,_,_] rfl ?_)))));refine qH (b:=decide ((((f.getD (((n:Int)).toNat) 0).toNat:Int))=(38:Int))) rfl (fun h92=>?_) (fun h92=>?_)
 ·
  replace h92:=zI h92
  obtain ⟨q,m,q2,hq,hq2,rfl⟩:=hP.i4 (by omega)
  have hqm:=hq.2
  have hqm2:=hq2.2;refine qO (zD [1,2,4,7,92] [_,_,_,_,_] rfl ?_);refine yN (congrArg (fun b=>some (Value.bool b)) (decide_eq_true h92)) ?_;refine zE (zB (zN rfl rfl rfl (qX (cs:=#[i6_ a.n,str a.set,str a.rel]) 1 rfl qW rfl rfl qU) ?_));refine zC 2 rfl (zN rfl rfl rfl (qT rfl rfl rfl (by omega) (by omega)) ?_);refine zN rfl rfl rfl (qX (cs:=(ints en4).toArray) 0 rfl Tryd.isAgg92 rfl rfl (by intro w;rw [show (ints en4).toArray.size=4 from by simp [hE.1]];exact vP w)) ?_;refine zN (v:=.tuple #[bo_ (ev a q en4),i6_ ((m:Int))]) rfl rfl rfl (qS rfl Tryd.call120 rfl qG (fun w1 hw1=>ih (((n:Int))+(1:Int)) (n+1) q m en4 w1 (by omega) (by omega) hq hE)) ?_;refine zC 1 rfl (zN (v:=bo_ (ev a q en4)) rfl rfl rfl (qY rfl rfl rfl) ?_);refine zN (v:=i6_ ((m:Int))) rfl rfl rfl (qY rfl rfl rfl) ?_;refine zC 2 rfl (zJ (zD [1,2,4,7,12,13] [_,_,_,_,_,_] rfl ?_));refine zE (zE (zB (zC 3 rfl (zN (v:=.int .u8 (((f.getD (((n:Int)).toNat) 0).toNat:Int))) rfl rfl rfl (yJ rfl qI rfl rfl (by omega) (by omega)) ?_))));refine zC 1 rfl (zN rfl rfl rfl (OpQ.beq rfl xU rfl rfl) ?_);refine zJ (zD [1,4,7,12,13,109] [_,_,_,_,_,_] rfl ?_);refine qH (b:=(ev a q en4)==(decide ((((f.getD (((n:Int)).toNat) 0).toNat:Int))=(124:Int)))) rfl (fun h109=>?_) (fun h109=>?_)
  ·
   have hb109:=h109;refine zE (zB (zC 3 rfl (zN (v:=i6_ ((e:Int))) rfl rfl rfl (yF (by rw [hq2.endI]) (qS rfl xT rfl qG (fun w1 hw1=>l2End_ok f ((m:Int)) w1 hf))) ?_)));refine zC 2 rfl (zJ (zD [8,9] [_,_] rfl ?_));refine qL (yT rfl rfl rfl fun w' hw=>?_)
   exact ⟨congrArg (fun b=>Ending.returned (.tuple #[.bool b,_])) (two_short (by omega) hb109),hw.below⟩
  have hb109:=h109;refine qO (zD [1,4,7,13] [_,_,_,_] rfl ?_);refine zE (zB (zN rfl rfl rfl (qX (cs:=#[i6_ a.n,str a.set,str a.rel]) 1 rfl qW rfl rfl qU) ?_));refine zC 2 rfl (zN rfl rfl rfl (qX (cs:=(ints en4).toArray) 0 rfl Tryd.isAgg92 rfl rfl (by intro w;rw [show (ints en4).toArray.size=4 from by simp [hE.1]];exact vP w)) ?_);refine zN (v:=.tuple #[bo_ (ev a q2 en4),i6_ ((e:Int))]) rfl rfl rfl (qS rfl Tryd.call120 rfl qG (fun w1 hw1=>ih ((m:Int)) m q2 e en4 w1 (by omega) (by omega) hq2 hE)) ?_;refine zN (v:=bo_ (ev a q2 en4)) rfl rfl rfl (qY rfl rfl rfl) ?_;refine zN (v:=i6_ ((e:Int))) rfl rfl rfl (qY rfl rfl rfl) ?_;refine zC 2 rfl (zJ (zD [8,9] [_,_] rfl ?_));refine qL (yT rfl rfl rfl fun w' hw=>?_)
  exact ⟨congrArg (fun b=>Ending.returned (.tuple #[.bool b,_])) (two_long (by omega) hb109),hw.below⟩
 replace h92:=zG h92;refine zB (zC 2 rfl (zJ (zD [1,2,4,7,92] [_,_,_,_,_] rfl ?_)));refine qH (b:=decide ((((f.getD (((n:Int)).toNat) 0).toNat:Int))=(124:Int))) rfl (fun h92_1=>?_) (fun h92_1=>?_)
 ·
  replace h92_1:=zI h92_1
  obtain ⟨q,m,q2,hq,hq2,rfl⟩:=hP.i4 (by omega)
  have hqm:=hq.2
  have hqm2:=hq2.2;refine zE (zB (zN rfl rfl rfl (qX (cs:=#[i6_ a.n,str a.set,str a.rel]) 1 rfl qW rfl rfl qU) ?_));refine zC 2 rfl (zN rfl rfl rfl (qT rfl rfl rfl (by omega) (by omega)) ?_);refine zN rfl rfl rfl (qX (cs:=(ints en4).toArray) 0 rfl Tryd.isAgg92 rfl rfl (by intro w;rw [show (ints en4).toArray.size=4 from by simp [hE.1]];exact vP w)) ?_;refine zN (v:=.tuple #[bo_ (ev a q en4),i6_ ((m:Int))]) rfl rfl rfl (qS rfl Tryd.call120 rfl qG (fun w1 hw1=>ih (((n:Int))+(1:Int)) (n+1) q m en4 w1 (by omega) (by omega) hq hE)) ?_;refine zC 1 rfl (zN (v:=bo_ (ev a q en4)) rfl rfl rfl (qY rfl rfl rfl) ?_);refine zN (v:=i6_ ((m:Int))) rfl rfl rfl (qY rfl rfl rfl) ?_;refine zC 2 rfl (zJ (zD [1,2,4,7,12,13] [_,_,_,_,_,_] rfl ?_));refine zE (zE (zB (zC 3 rfl (zN (v:=.int .u8 (((f.getD (((n:Int)).toNat) 0).toNat:Int))) rfl rfl rfl (yJ rfl qI rfl rfl (by omega) (by omega)) ?_))));refine zC 1 rfl (zN rfl rfl rfl (OpQ.beq rfl xU rfl rfl) ?_);refine zJ (zD [1,4,7,12,13,109] [_,_,_,_,_,_] rfl ?_);refine qH (b:=(ev a q en4)==(decide ((((f.getD (((n:Int)).toNat) 0).toNat:Int))=(124:Int)))) rfl (fun h109_1=>?_) (fun h109_1=>?_)
  ·
   have hb109:=h109_1;refine zE (zB (zC 3 rfl (zN (v:=i6_ ((e:Int))) rfl rfl rfl (yF (by rw [hq2.endI]) (qS rfl xT rfl qG (fun w1 hw1=>l2End_ok f ((m:Int)) w1 hf))) ?_)));refine zC 2 rfl (zJ (zD [8,9] [_,_] rfl ?_));refine qL (yT rfl rfl rfl fun w' hw=>?_)
   exact ⟨congrArg (fun b=>Ending.returned (.tuple #[.bool b,_])) (two_short (by omega) hb109),hw.below⟩
  have hb109:=h109_1;refine qO (zD [1,4,7,13] [_,_,_,_] rfl ?_);refine zE (zB (zN rfl rfl rfl (qX (cs:=#[i6_ a.n,str a.set,str a.rel]) 1 rfl qW rfl rfl qU) ?_));refine zC 2 rfl (zN rfl rfl rfl (qX (cs:=(ints en4).toArray) 0 rfl Tryd.isAgg92 rfl rfl (by intro w;rw [show (ints en4).toArray.size=4 from by simp [hE.1]];exact vP w)) ?_);refine zN (v:=.tuple #[bo_ (ev a q2 en4),i6_ ((e:Int))]) rfl rfl rfl (qS rfl Tryd.call120 rfl qG (fun w1 hw1=>ih ((m:Int)) m q2 e en4 w1 (by omega) (by omega) hq2 hE)) ?_;refine zN (v:=bo_ (ev a q2 en4)) rfl rfl rfl (qY rfl rfl rfl) ?_;refine zN (v:=i6_ ((e:Int))) rfl rfl rfl (qY rfl rfl rfl) ?_;refine zC 2 rfl (zJ (zD [8,9] [_,_] rfl ?_));refine qL (yT rfl rfl rfl fun w' hw=>?_)
  exact ⟨congrArg (fun b=>Ending.returned (.tuple #[.bool b,_])) (two_long (by omega) hb109),hw.below⟩
 replace h92_1:=zG h92_1
 have hqu:quI ((f.getD (n:Int).toNat 0).toNat:Int):=by have:=hP.io;unfold quI;omega
 obtain ⟨hl1,hv1,q,hq,rfl⟩:=hP.i5 hqu
 have hw1:=(vI_lt hv1).1
 have hqm:=hq.2
 have hm8:=ha.hi
 have hm1:=ha.lo;refine qO (zD [1,2,4,7] [_,_,_,_] rfl ?_);refine zE (zB (zC 1 rfl (zJ (zD [1,2,4,7,14] [_,_,_,_,_] rfl ?_))));refine zE (zE (zB (zC 2 rfl (zN (v:=.int .u8 (((f.getD (((n:Int)).toNat) 0).toNat:Int))) rfl rfl rfl (yJ rfl qI rfl rfl (by omega) (by omega)) ?_))));refine zJ (zD [1,2,4,7,14,123] [_,_,_,_,_,_] rfl ?_);refine xZ (σ:=Unit) (fun _=>True) (fun _=>[(1,str f),(2,i6_ ((n:Int))),(4,pt_ p4),(7,pt_ p7),(14,i6_ ((need (f.getD n 0) a.n.toNat:Int)))]) (fun _=>Own w.heap.size w [bk_ p7 ((ints en4).toArray) 92,bk_ p4 #[i6_ a.n,str a.set,str a.rel] 24]) ?_ ?_
 ·
  refine yA (zE (zB (zC 2 rfl (zJ (zD [1,2,4,7,14,123,124] [_,_,_,_,_,_,_] rfl ?_)))));refine qH (b:=decide ((((f.getD (((n:Int)).toNat) 0).toNat:Int))=(65:Int))) rfl (fun h124=>?_) (fun h124=>?_)
  ·
   replace h124:=zI h124;refine zB (zN rfl rfl rfl (zH rfl qC rfl zK rfl rfl) ?_);refine zN rfl rfl rfl (zR 1 rfl zU rfl rfl rfl) ?_;refine zC 1 rfl (zJ (qK (()) trivial (Sub.cons rfl (Sub.cons rfl (Sub.cons rfl (Sub.cons rfl (Sub.cons (by rw [show ((need (f.getD n 0) a.n.toNat:Nat):Int)=_ from need65 (by assumption) (by omega)];rfl) Sub.nil))))) (fun _ h=>h)))
  replace h124:=zG h124;refine zE (zE (zB (zC 2 rfl (zJ (zD [1,2,4,7,14,123,128] [_,_,_,_,_,_,_] rfl ?_)))));refine qH (b:=decide ((((f.getD (((n:Int)).toNat) 0).toNat:Int))=(50:Int))) rfl (fun h128=>?_) (fun h128=>?_)
  ·
   replace h128:=zI h128;refine qO (zD [1,2,4,7,14,128] [_,_,_,_,_,_] rfl ?_);refine yN (congrArg (fun b=>some (Value.bool b)) (decide_eq_true h128)) ?_;refine zB (zC 2 rfl (zN (v:=.int .u8 (((f.getD (((n:Int)).toNat) 0).toNat:Int))) rfl rfl rfl (yJ rfl qI rfl rfl (by omega) (by omega)) ?_));refine zN (v:=i6_ (((f.getD (((n:Int)).toNat) 0).toNat:Int))) rfl rfl rfl (jH .i64 rfl vF yR rfl (IntWalk.i64_in _ (by have:=UInt8.toNat_lt (f.getD (((n:Int)).toNat) 0);omega))) ?_;refine zN rfl rfl rfl (jM rfl rfl rfl (by omega) (by omega)) ?_;refine zC 1 rfl (zJ (qK (()) trivial (Sub.cons rfl (Sub.cons rfl (Sub.cons rfl (Sub.cons rfl (Sub.cons (by rw [show ((need (f.getD n 0) a.n.toNat:Nat):Int)=_ from need234 (by omega)];rfl) Sub.nil))))) (fun _ h=>h)))
  replace h128:=zG h128;refine zE (zB (zC 2 rfl (zJ (zD [1,2,4,7,14,123,128] [_,_,_,_,_,_,_] rfl ?_))));refine qH (b:=decide ((((f.getD (((n:Int)).toNat) 0).toNat:Int))=(51:Int))) rfl (fun h128_1=>?_) (fun h128_1=>?_)
  ·
   replace h128_1:=zI h128_1;refine qO (zD [1,2,4,7,14,128] [_,_,_,_,_,_] rfl ?_);refine yN (congrArg (fun b=>some (Value.bool b)) (decide_eq_true h128_1)) ?_;refine zB (zC 2 rfl (zN (v:=.int .u8 (((f.getD (((n:Int)).toNat) 0).toNat:Int))) rfl rfl rfl (yJ rfl qI rfl rfl (by omega) (by omega)) ?_));refine zN (v:=i6_ (((f.getD (((n:Int)).toNat) 0).toNat:Int))) rfl rfl rfl (jH .i64 rfl vF yR rfl (IntWalk.i64_in _ (by have:=UInt8.toNat_lt (f.getD (((n:Int)).toNat) 0);omega))) ?_;refine zN rfl rfl rfl (jM rfl rfl rfl (by omega) (by omega)) ?_;refine zC 1 rfl (zJ (qK (()) trivial (Sub.cons rfl (Sub.cons rfl (Sub.cons rfl (Sub.cons rfl (Sub.cons (by rw [show ((need (f.getD n 0) a.n.toNat:Nat):Int)=_ from need234 (by omega)];rfl) Sub.nil))))) (fun _ h=>h)))
  replace h128_1:=zG h128_1;refine zB (zC 2 rfl (zJ (zD [1,2,4,7,14,128] [_,_,_,_,_,_] rfl ?_)));refine qH (b:=decide ((((f.getD (((n:Int)).toNat) 0).toNat:Int))=(52:Int))) rfl (fun h128_2=>?_) (fun h128_2=>?_)
  ·
   replace h128_2:=zI h128_2;refine zB (zC 2 rfl (zN (v:=.int .u8 (((f.getD (((n:Int)).toNat) 0).toNat:Int))) rfl rfl rfl (yJ rfl qI rfl rfl (by omega) (by omega)) ?_));refine zN (v:=i6_ (((f.getD (((n:Int)).toNat) 0).toNat:Int))) rfl rfl rfl (jH .i64 rfl vF yR rfl (IntWalk.i64_in _ (by have:=UInt8.toNat_lt (f.getD (((n:Int)).toNat) 0);omega))) ?_;refine zN rfl rfl rfl (jM rfl rfl rfl (by omega) (by omega)) ?_;refine zC 1 rfl (zJ (qK (()) trivial (Sub.cons rfl (Sub.cons rfl (Sub.cons rfl (Sub.cons rfl (Sub.cons (by rw [show ((need (f.getD n 0) a.n.toNat:Nat):Int)=_ from need234 (by omega)];rfl) Sub.nil))))) (fun _ h=>h)))
  replace h128_2:=zG h128_2;refine qO (qK (()) trivial (Sub.cons rfl (Sub.cons rfl (Sub.cons rfl (Sub.cons rfl (Sub.cons (by rw [show ((need (f.getD n 0) a.n.toNat:Nat):Int)=_ from need83 (by have:=hqu;unfold quI at this;omega)];rfl) Sub.nil))))) (fun _ h=>h))
 rintro _ hj;refine zD [1,2,4,7,14] [_,_,_,_,_] rfl ?_;refine zE (zB (zC 1 rfl (zJ (zD [1,2,4,7,14,15] [_,_,_,_,_,_] rfl ?_))));refine zE (zE (zB (zC 1 rfl (zJ (zD [1,2,4,7,14,15,16] [_,_,_,_,_,_,_] rfl ?_)))));refine yA (jG (σ:=Nat×List Int) (fun ⟨x,E⟩=>(x:Int)≤a.n∧E.length=4∧∀ z:Int,E.set (vI (f.getD (n+1) 0)) z=en4.set (vI (f.getD (n+1) 0)) z) (fun ⟨x,E⟩=>[(1,str f),(2,i6_ ((n:Int))),(4,pt_ p4),(7,pt_ p7),(14,i6_ ((need (f.getD n 0) a.n.toNat:Int))),(15,i6_ ((cntT (evC a (f.getD (n+1) 0) q en4) x:Int))),(16,i6_ ((x:Int)))]) (fun ⟨x,E⟩=>Own w.heap.size w [bk_ p7 ((ints E).toArray) 92,bk_ p4 #[i6_ a.n,str a.set,str a.rel] 24]) (fun ⟨x,E⟩=>(a.n - x).toNat) ((0,en4)) ⟨by omega,hE.1,fun _=>rfl⟩ (Sub.cons rfl (Sub.cons rfl (Sub.cons rfl (Sub.cons rfl (Sub.cons rfl (Sub.cons (by rfl) (Sub.sel [16] rfl))))))) (fun _ h=>h) ?_)
 rintro ⟨x,E⟩ ⟨hx,hEl,hEs⟩
 dsimp only
 have hcx:=cntT_le (evC a (f.getD (n+1) 0) q en4) x;refine zE (zE (zB (zC 1 rfl (zN rfl rfl rfl (zH rfl qC rfl zK rfl rfl) ?_))));refine zN rfl rfl rfl (zR 1 rfl zU rfl rfl rfl) ?_;refine zC 2 rfl (xG fun b141 hg141=>?_)
 cases b141
 ·
  replace hg141:=zG hg141;refine zW rfl rfl rfl (zW rfl rfl rfl (zW rfl rfl rfl (zC 1 rfl (zJ (zD [1,2,4,7,14,15,16,145] [_,_,_,_,_,_,_,_] rfl ?_)))));refine xN rfl ?_;refine xA rfl ?_;refine zD [1,2,14,15] [_,_,_,_] rfl ?_;refine zE (zB (zC 5 rfl (zN rfl rfl rfl (qT rfl rfl rfl (by omega) (by omega)) ?_)));refine zN (v:=i6_ ((e:Int))) rfl rfl rfl (yF (by rw [show (n:Int)+2=((n+2:Nat):Int) from rfl,hq.endI]) (qS rfl xT rfl qG (fun w1 hw1=>l2End_ok f (((n:Int))+(2:Int)) w1 hf))) ?_;refine zC 2 rfl (zJ (zD [8,9] [_,_] rfl ?_));refine qL (yT rfl rfl rfl fun w' hw=>?_)
  exact ⟨by exact congrArg (fun b=>Ending.returned (.tuple #[.bool b,_])) (ev_quant (c:=f.getD n 0) hqu (quant_end (x:=x) (by omega) (by omega))),hw.below⟩
 replace hg141:=zI hg141;refine zC 4 rfl (zJ (zD [1,2,4,7,14,15,16,145] [_,_,_,_,_,_,_,_] rfl ?_));refine qH (b:=decide (((cntT (evC a (f.getD (n+1) 0) q en4) x:Int))<((need (f.getD n 0) a.n.toNat:Int)))) rfl (fun h145=>?_) (fun h145=>?_)
 ·
  replace h145:=zI h145;refine qO (zD [1,2,4,7,14,15,16] [_,_,_,_,_,_,_] rfl ?_);refine zE (yA (zE (qF (qJ 2 rfl (zS rfl rfl rfl (qT rfl rfl rfl (by omega) (by omega)) ?_)))));refine zS (v:=i6_ ((vI (f.getD (n+1) 0):Int))) rfl rfl rfl (qS rfl xB rfl qG (fun w1 hw1=>l2Var_at f (((n:Int))+(1:Int)) (n+1) w1 (by omega) hl1 hv1)) ?_;refine qJ 1 rfl (zS (v:=pf_ p7 ((vI (f.getD (n+1) 0)))) rfl rfl rfl (yF (v':=pf_ p7 ((vI (f.getD (n+1) 0)))) (by first | rfl | (congr 3;omega)) (vN (i:=(vI (f.getD (n+1) 0):Int)) rfl jW zK rfl rfl (by omega) (by omega))) ?_);refine qN (v:=i6_ ((x:Int))) (hs':=[bk_ p7 ((ints (E.set ((vI (f.getD (n+1) 0))) ((x:Int)))).toArray) 92,_]) 0 rfl rfl rfl rfl rfl rfl zK rfl (by rw [List.size_toArray,ints_length];omega) (by first | (rw [ints_set];rfl) | (simp only [Nat.zero_add];rw [ints_set];rfl)) ?_;refine zM (zD [1,2,4,7,14,15,16] [_,_,_,_,_,_,_] rfl ?_);refine zE (zB (zN rfl rfl rfl (qX (cs:=#[i6_ a.n,str a.set,str a.rel]) 1 rfl qW rfl rfl qU) ?_));refine zC 2 rfl (zN rfl rfl rfl (qT rfl rfl rfl (by omega) (by omega)) ?_);refine zN rfl rfl rfl (qX (cs:=(ints (E.set ((vI (f.getD (n+1) 0))) ((x:Int)))).toArray) 0 rfl Tryd.isAgg92 rfl rfl (by intro w;rw [show (ints (E.set ((vI (f.getD (n+1) 0))) ((x:Int)))).toArray.size=4 from by simp [hEl]];exact vP w)) ?_;refine zN (v:=.tuple #[bo_ (ev a q ((E.set ((vI (f.getD (n+1) 0))) ((x:Int))))),i6_ ((e:Int))]) rfl rfl rfl (qS rfl Tryd.call120 rfl qG (fun w1 hw1=>ih (((n:Int))+(2:Int)) (n+2) q e ((E.set ((vI (f.getD (n+1) 0))) ((x:Int)))) w1 (by omega) (by omega) hq (by rw [hEs];exact hE.set ⟨by omega,by omega⟩))) ?_;refine zC 1 rfl (zN (v:=bo_ (ev a q ((E.set ((vI (f.getD (n+1) 0))) ((x:Int)))))) rfl rfl rfl (qY rfl rfl rfl) ?_);refine zN (v:=i6_ ((e:Int))) rfl rfl rfl (qY rfl rfl rfl) ?_;refine zC 2 rfl (zJ (zD [1,2,4,7,14,15,16,17] [_,_,_,_,_,_,_,_] rfl ?_));refine zE (zE (zB (zC 1 rfl (zJ (zD [1,2,4,7,14,15,16,163] [_,_,_,_,_,_,_,_] rfl ?_)))));refine qH (b:=ev a q ((E.set ((vI (f.getD (n+1) 0))) ((x:Int))))) rfl (fun h163=>?_) (fun h163=>?_)
  ·
   have hF:evC a (f.getD (n+1) 0) q en4 x=true:=evC_of hEs h163
   have hcs:=cnt_yes hF;refine zB (zC 1 rfl (zN rfl rfl rfl (qT rfl rfl rfl (by omega) (by omega)) ?_));refine zC 1 rfl (zJ (zD [1,2,4,7,14,15,16] [_,_,_,_,_,_,_] rfl ?_));refine zE (zB (zC 1 rfl (zN rfl rfl rfl (zH rfl qC rfl zK rfl rfl) ?_)));refine zN rfl rfl rfl (zR 1 rfl zU rfl rfl rfl) ?_;refine zN rfl rfl rfl (qT rfl rfl rfl (by omega) (by omega)) ?_;refine zC 1 rfl (zN rfl rfl rfl (jM rfl rfl rfl (by omega) (by omega)) ?_);refine zN rfl rfl rfl (jM rfl rfl rfl (by omega) (by omega)) ?_;refine zC 2 rfl (zJ (zD [1,2,4,7,14,15,16,174] [_,_,_,_,_,_,_,_] rfl ?_));refine qH (b:=decide (((((((cntT (evC a (f.getD (n+1) 0) q en4) x:Int))+(1:Int))+a.n) - ((x:Int))) - (1:Int))<((need (f.getD n 0) a.n.toNat:Int)))) rfl (fun h174=>?_) (fun h174=>?_)
   ·
    replace h174:=zI h174;refine xA rfl ?_;refine zD [1,2,14,15] [_,_,_,_] rfl ?_;refine zE (zB (zC 5 rfl (zN rfl rfl rfl (qT rfl rfl rfl (by omega) (by omega)) ?_)));refine zN (v:=i6_ ((e:Int))) rfl rfl rfl (yF (by rw [show (n:Int)+2=((n+2:Nat):Int) from rfl,hq.endI]) (qS rfl xT rfl qG (fun w1 hw1=>l2End_ok f (((n:Int))+(2:Int)) w1 hf))) ?_;refine zC 2 rfl (zJ (zD [8,9] [_,_] rfl ?_));refine qL (yT rfl rfl rfl fun w' hw=>?_)
    exact ⟨by rw [hcs];exact congrArg (fun b=>Ending.returned (.tuple #[.bool b,_])) (ev_quant (c:=f.getD n 0) hqu (quant_end (x:=(x+1)) (by omega) (by omega))),hw.below⟩
   replace h174:=zG h174;refine qO (zD [1,2,4,7,14,15,16] [_,_,_,_,_,_,_] rfl ?_);refine zB (zC 1 rfl (zN rfl rfl rfl (qT rfl rfl rfl (by omega) (by omega)) ?_));refine zC 1 rfl (zJ (yY ((x+1,E.set ((vI (f.getD (n+1) 0))) ((x:Int)))) ⟨by omega,by simp [hEl],fun z=>by dsimp only;rw [List.set_set];exact hEs z⟩ (by omega) (Sub.cons rfl (Sub.cons rfl (Sub.cons rfl (Sub.cons rfl (Sub.cons rfl (Sub.cons (by rw [← hcs];rfl) (Sub.sel [16] rfl))))))) (fun _ h=>h)))
  have hF:evC a (f.getD (n+1) 0) q en4 x=false:=evC_of hEs (by simpa using h163)
  have hcs:=cnt_no hF;refine qO (zD [1,2,4,7,14,15,16] [_,_,_,_,_,_,_] rfl ?_);refine zE (zB (zC 1 rfl (zN rfl rfl rfl (zH rfl qC rfl zK rfl rfl) ?_)));refine zN rfl rfl rfl (zR 1 rfl zU rfl rfl rfl) ?_;refine zN rfl rfl rfl (qT rfl rfl rfl (by omega) (by omega)) ?_;refine zC 1 rfl (zN rfl rfl rfl (jM rfl rfl rfl (by omega) (by omega)) ?_);refine zN rfl rfl rfl (jM rfl rfl rfl (by omega) (by omega)) ?_;refine zC 2 rfl (zJ (zD [1,2,4,7,14,15,16,174] [_,_,_,_,_,_,_,_] rfl ?_));refine qH (b:=decide ((((((cntT (evC a (f.getD (n+1) 0) q en4) x:Int))+a.n) - ((x:Int))) - (1:Int))<((need (f.getD n 0) a.n.toNat:Int)))) rfl (fun h174_1=>?_) (fun h174_1=>?_)
  ·
   replace h174_1:=zI h174_1;refine xA rfl ?_;refine zD [1,2,14,15] [_,_,_,_] rfl ?_;refine zE (zB (zC 5 rfl (zN rfl rfl rfl (qT rfl rfl rfl (by omega) (by omega)) ?_)));refine zN (v:=i6_ ((e:Int))) rfl rfl rfl (yF (by rw [show (n:Int)+2=((n+2:Nat):Int) from rfl,hq.endI]) (qS rfl xT rfl qG (fun w1 hw1=>l2End_ok f (((n:Int))+(2:Int)) w1 hf))) ?_;refine zC 2 rfl (zJ (zD [8,9] [_,_] rfl ?_));refine qL (yT rfl rfl rfl fun w' hw=>?_)
   exact ⟨by rw [← hcs];exact congrArg (fun b=>Ending.returned (.tuple #[.bool b,_])) (ev_quant (c:=f.getD n 0) hqu (quant_end (x:=(x+1)) (by omega) (by omega))),hw.below⟩
  replace h174_1:=zG h174_1;refine qO (zD [1,2,4,7,14,15,16] [_,_,_,_,_,_,_] rfl ?_);refine zB (zC 1 rfl (zN rfl rfl rfl (qT rfl rfl rfl (by omega) (by omega)) ?_));refine zC 1 rfl (zJ (yY ((x+1,E.set ((vI (f.getD (n+1) 0))) ((x:Int)))) ⟨by omega,by simp [hEl],fun z=>by dsimp only;rw [List.set_set];exact hEs z⟩ (by omega) (Sub.cons rfl (Sub.cons rfl (Sub.cons rfl (Sub.cons rfl (Sub.cons rfl (Sub.cons (by rw [hcs];rfl) (Sub.sel [16] rfl))))))) (fun _ h=>h)))
 replace h145:=zG h145;refine xA rfl ?_;refine zD [1,2,14,15] [_,_,_,_] rfl ?_;refine zE (zB (zC 5 rfl (zN rfl rfl rfl (qT rfl rfl rfl (by omega) (by omega)) ?_)));refine zN (v:=i6_ ((e:Int))) rfl rfl rfl (yF (by rw [show (n:Int)+2=((n+2:Nat):Int) from rfl,hq.endI]) (qS rfl xT rfl qG (fun w1 hw1=>l2End_ok f (((n:Int))+(2:Int)) w1 hf))) ?_;refine zC 2 rfl (zJ (zD [8,9] [_,_] rfl ?_));refine qL (yT rfl rfl rfl fun w' hw=>?_)
 exact ⟨by exact congrArg (fun b=>Ending.returned (.tuple #[.bool b,_])) (ev_quant (c:=f.getD n 0) hqu (quant_end (x:=x) (by omega) (by omega))),hw.below⟩
theorem l2Holds_ok (a:St) (f:List UInt8) (i:Int) (n:Nat) (p:Fm) (e:Nat) (en4:List Int) (w:World) (hf:f.length≤1048576) (hi:i=(n:Int)) (ha:a.Fine) (hsa:a.Small) (hP:Pa f n p e) (hE:EnvA a en4):Calls Tryd.prog 120 #[vS a,str f,.int .i64 i,.agg (ints en4).toArray] w fun en w'=>en=.returned (.tuple #[.bool (ev a p en4),.int .i64 (e:Int)])∧Below w.heap.size w w':=by
  have key:∀ (m n:Nat) (p:Fm) (e:Nat) (en4:List Int) (w:World),f.length - n≤m→Pa f n p e→EnvA a en4→Calls Tryd.prog 120 #[vS a,str f,.int .i64 ((n:Int)),.agg (ints en4).toArray] w fun en w'=>en=.returned (.tuple #[.bool (ev a p en4),.int .i64 (e:Int)])∧Below w.heap.size w w':=fun m=>by
    induction m with
    | zero=>exact fun n p e en4 w hm hP hE=>absurd hP.lt (by omega)
    | succ m ihm=>exact fun n p e en4 w hm hP hE=>l2Holds_step a f n p e en4 w hf ha hsa hP hE fun i k p e en4 w h1 h2 h3 h4=>by subst h1;exact ihm k p e en4 w (by have:=h3.lt;omega) h3 h4
  subst hi;exact key _ n p e en4 w (Nat.le_refl _) hP hE
set_option maxHeartbeats 400000 in
theorem sFValid_ok (f:List UInt8) (w:World) (hf:f.length≤1048576) :
    Calls Tryd.prog 116 [str f].toArray w fun en w'=>en=.returned (.bool (formO f).isSome)∧Below w.heap.size w w':=by
 refine fnStart (n:=13) (e:=[(0,str f)]) Tryd.func116 rfl rfl rfl rfl Ends.both ?_;refine zE (zB (zC 1 rfl (zJ (zD [0] [_] rfl ?_))));refine zE (zB (zC 1 rfl (zN (v:=i6_ ((f.length:Int))) rfl rfl rfl (xM rfl qI rfl) ?_)));refine zC 2 rfl (xG fun b6 hg6=>?_)
 cases b6
 ·
  replace hg6:=zG hg6;refine zW rfl rfl rfl (zW rfl rfl rfl (zW rfl rfl rfl (zW rfl rfl rfl (zW rfl rfl rfl (zC 2 rfl (zJ (zD [2] [_] rfl ?_)))))));refine qL (qQ rfl rfl fun w' hw=>?_)
  exact ⟨ret_b (by first | (rw [formO_some,decide_eq_true (show (f.length:Int)≤4000 by omega),Bool.true_and]) | (rw [formO_some,decide_eq_false (show ¬ (f.length:Int)≤4000 by omega)];rfl)),hw.below⟩
 replace hg6:=zI hg6;refine zC 1 rfl (zN (v:=i6_ (endI f 0)) rfl rfl rfl (qS rfl xT rfl qG (fun w1 hw1=>l2End_ok f 0 w1 hf)) ?_);refine zC 1 rfl (zN (v:=i6_ ((f.length:Int))) rfl rfl rfl (xM rfl qI rfl) ?_);refine zC 3 rfl (zJ (zD [2] [_] rfl ?_));refine qL (qQ rfl rfl fun w' hw=>?_)
 exact ⟨ret_b (by first | (rw [formO_some,decide_eq_true (show (f.length:Int)≤4000 by omega),Bool.true_and]) | (rw [formO_some,decide_eq_false (show ¬ (f.length:Int)≤4000 by omega)];rfl)),hw.below⟩
set_option maxHeartbeats 400000 in
theorem l2True_ok (a:St) (f:List UInt8) (p:Fm) (en4:List Int) (w:World) (hf:f.length≤1048576) (ha:a.Fine) (hsa:a.Small) (hP:Pa f 0 p f.length) (hE:EnvA a en4) :
    Calls Tryd.prog 67 [vS a,str f,.agg ((ints en4).toArray)].toArray w fun en w'=>en=.returned (.bool (ev a p en4))∧Below w.heap.size w w':=by
 refine fnStart (n:=17) (e:=[(0,vS a),(1,str f),(2,.agg ((ints en4).toArray))]) Tryd.func67 rfl rfl rfl rfl Ends.both ?_;refine zE (qF (jC (v:=vS a) rfl rfl rfl rfl rfl fun p3 hp3=>?_))
 show Ll _ _ (Own _ _ [_]) _ _ ((3,pt_ p3)::_) _ _ _;refine jC (v:=.agg ((ints en4).toArray)) rfl rfl rfl rfl rfl fun p5 hp5=>?_
 show Ll _ _ (Own _ _ [_,_]) _ _ ((5,pt_ p5)::_) _ _ _;refine qJ 1 rfl (zM (zD [1,3,5] [_,_,_] rfl ?_));refine zE (zB (zN rfl rfl rfl (qX (cs:=#[i6_ a.n,str a.set,str a.rel]) 1 rfl qW rfl rfl qU) ?_));refine zC 1 rfl (zN rfl rfl rfl (qX (cs:=(ints en4).toArray) 0 rfl Tryd.isAgg92 rfl rfl (by intro w;rw [show (ints en4).toArray.size=4 from by simp [hE.1]];exact vP w)) ?_);refine zN (v:=.tuple #[bo_ (ev a p en4),i6_ ((f.length:Int))]) rfl rfl rfl (qS rfl Tryd.call120 rfl qG (fun w1 hw1=>l2Holds_ok a f 0 0 p f.length en4 w1 hf (by omega) ha hsa hP hE)) ?_;refine zC 1 rfl (zN (v:=bo_ (ev a p en4)) rfl rfl rfl (qY rfl rfl rfl) ?_);refine zN (v:=i6_ ((f.length:Int))) rfl rfl rfl (qY rfl rfl rfl) ?_;refine zC 2 rfl (zJ (zD [7] [_] rfl ?_));refine zE (zB (zC 2 rfl (zJ (zD [6] [_] rfl ?_))));refine qL (qQ rfl rfl fun w' hw=>?_)
 exact ⟨rfl,hw.below⟩
end Go.Proofs.YtefiibghfgfdnaaDoor
namespace Go.Proofs.YtefiibghfgfdnaaDoor
open Go.RowKit Go.Wk
set_option linter.unusedSimpArgs false
set_option maxHeartbeats 400000 in
theorem l1Draw_ok (B:Nat) (w0:World) (hs:List (Nat×Obj)) (rp p:Nat) (bv:Value) (L:List Int) (n:Int) (w:World) (hb:∀ w,Own B w0 hs w→Row w bv (u8s L)) (hL8:Bytes8 L) (hL:L.length≤2000) (hn0:0≤n) (hn8:n≤8) (hp:p≤900000) (hw:Own B w0 ((rp,.cells #[bv,.int .i64 (p:Int)] 130 (0,0))::hs) w) :
    Calls Tryd.prog 147 [pt_ rp,i6_ n].toArray w fun en w'=>∃ a:St,∃ p':Nat,en=.returned (vS a)∧((a.n=n∧(a.set.length:Int)=n∧a.rel.length=n.toNat*n.toNat)∧p'≤p+100)∧Own B w0 (((rp,.cells #[bv,.int .i64 (p':Int)] 130 (0,0))::hs)) w':=by
 refine fnStartC (Own B w0 ((rp,.cells #[bv,.int .i64 (p:Int)] 130 (0,0))::hs)) (n:=111) (e:=[(0,pt_ rp),(1,i6_ n)]) Tryd.func147 rfl rfl rfl rfl Ends.both hw ?_;refine zE (qF (vK rfl rfl rfl rfl jD fun p4 hp4=>?_))
 show Ll _ _ (Own _ _ (bk_ p4 #[i6_ 0,str ([]),str ([])] 24::_::hs)) _ _ ((4,pt_ p4)::_) _ _ _;refine zM (zD [0,1,4] [_,_,_] rfl ?_);refine zE (qF (qJ 1 rfl (zS (v:=.agg #[i6_ n,str ([]),str ([])]) rfl rfl rfl (OpQ.build (xs:=[.tmp 10]) (vs:=[i6_ n]) rfl rfl (by kernel_rfl)) ?_)));refine vK rfl rfl rfl rfl jD fun p5 hp5=>?_
 show Ll _ _ (Own _ _ (bk_ p5 #[i6_ 0,str ([]),str ([])] 24::_::_::hs)) _ _ ((5,pt_ p5)::_) _ _ _;refine jI (cs':=#[i6_ n,str ([]),str ([])]) (hs':=(bk_ p5 #[i6_ n,str ([]),str ([])] 24::_::_::hs)) 0 rfl rfl rfl rfl rfl (by kernel_rfl:_=some Tryd.t24) rfl rfl rfl rfl rfl ?_;refine zM (zD [0,1,4,5] [_,_,_,_] rfl ?_);refine zE (qF (qJ 1 rfl (yH (rp:=rp) (RT:=130) (p:=p) (bv:=bv) (hs:=hs) (ok:=fun (k:Int) p'=>0≤k∧(1≤(8:Int)→k<8)∧p'=p+1) (v:=fun (k:Int)=>i6_ k) (new:=fun (k:Int)=>[]) (xs:=[.tmp 12,.const (i6_ 8)]) (vs:=[pt_ rp,i6_ 8]) ([bk_ p5 #[i6_ n,str ([]),str ([])] 24,bk_ p4 #[i6_ 0,str ([]),str ([])] 24]:List (Nat×Obj)) rfl rfl rfl rfl xR rfl (fun w1 hw1=>(pick_ok B w0 (([bk_ p5 #[i6_ n,str ([]),str ([])] 24,bk_ p4 #[i6_ 0,str ([]),str ([])] 24]:List (Nat×Obj))++hs) rp p bv L 8 w1 (fun w2 hw2=>hb w2 (qA (f:=([bk_ p5 #[i6_ n,str ([]),str ([])] 24,bk_ p4 #[i6_ 0,str ([]),str ([])] 24]:List (Nat×Obj))) hw2)) hL8 hL (by omega) hw1).mono fun en w' ⟨k',p',h1,h2,h3⟩=>⟨k',p',h1,h2,h3⟩) fun k13 p_13 hKp_13=>?_)))
 show Ll _ _ (Own _ _ (_::_::_::hs)) _ _ ((13,i6_ k13)::_) _ _ _
 obtain ⟨h0k13,h1k13,hep_13⟩:=hKp_13
 try have hltk13:=h1k13 (by first | omega | (split <;> omega) | decide);refine qJ 1 rfl (zM (zD [0,1,4,5,6] [_,_,_,_,_] rfl ?_));refine zE (zE (zB (zC 1 rfl (zJ (zD [0,1,4,5,6,7] [_,_,_,_,_,_] rfl ?_)))));refine yA (jG (σ:=Nat×List UInt8×List UInt8×Nat) (fun ⟨k,S,R,p0⟩=>(k:Int)≤n∧S.length=k∧R.length=k*n.toNat∧p0≤p+2+k*9) (fun ⟨k,S,R,p0⟩=>[(0,pt_ rp),(1,i6_ n),(4,pt_ p4),(5,pt_ p5),(6,i6_ k13),(7,i6_ ((k:Int)))]) (fun ⟨k,S,R,p0⟩=>Own B w0 (bk_ p5 #[i6_ n,str S,str R] 24::bk_ p4 #[i6_ 0,str ([]),str ([])] 24::bk_ rp #[bv,i6_ ((p0:Int))] 130::hs)) (fun ⟨k,S,R,p0⟩=>(n - k).toNat) ((0,[],[],p_13)) ⟨by omega,rfl,by simp,by omega⟩ (Sub.sel [0,1,4,5,6,7] rfl) (fun _ h=>h) ?_)
 rintro ⟨k,S,R,p0⟩ ⟨hk,hS,hR,hp0⟩
 dsimp only
 have hkn:k*n.toNat≤8*8:=Nat.mul_le_mul (by omega) (by omega);refine zE (zE (zB (zC 3 rfl (zJ (zD [0,1,4,5,6,7,16] [_,_,_,_,_,_,_] rfl ?_)))));refine qH (b:=decide (((k:Int))<n)) rfl (fun h16=>?_) (fun h16=>?_)
 ·
  replace h16:=zI h16;refine qO (zD [0,1,4,5,6,7] [_,_,_,_,_,_] rfl ?_);refine zE (yA (zE (xZ (σ:=List UInt8×Nat) (fun ⟨S2,p2⟩=>S2.length=k+1∧p2≤p0+1) (fun ⟨S2,p2⟩=>[(0,pt_ rp),(1,i6_ n),(4,pt_ p4),(5,pt_ p5),(6,i6_ k13),(7,i6_ ((k:Int)))]) (fun ⟨S2,p2⟩=>Own B w0 (bk_ p5 #[i6_ n,str S2,str R] 24::bk_ p4 #[i6_ 0,str ([]),str ([])] 24::bk_ rp #[bv,i6_ ((p2:Int))] 130::hs)) ?_ ?_)))
  ·
   refine jK (S:=Own B w0 [bk_ p4 #[i6_ 0,str ([]),str ([])] 24]) (.take 0 (.take 2 (.take 3 (.take 4 (.take 5 (.two 1 (.one 6 (.take 7 (.take 8 (.one 9 (.take 10 (.take 11 (.one 12 .done))))))) 6 (.take 7 (.take 8 (.two 1 (.one 9 (.take 10 (.take 11 (.one 12 .done)))) 9 (.one 1 (.take 10 (.take 11 (.one 12 .done))))))))))))) yG (fun _ h=>h.drawn) (by kernel_rfl) ?_;refine zV rfl rfl rfl rfl rfl (zH rfl qC rfl qZ rfl rfl) (pk [1] rfl rfl) ?_;refine vL 3 rfl (pk [1] rfl rfl) ?_;refine Lu.bool fun b23 hg23=>?_
   cases b23
   ·
    replace hg23:=zG hg23;refine Lu.pass rfl rfl rfl rfl (pk [1] rfl rfl) ?_;refine yW rfl rfl ?_ ?_
    ·
     refine zS rfl rfl rfl (zR 0 rfl yP rfl rfl rfl) ?_;refine zM (zL (pk [1] rfl rfl) ?_);refine zX rfl (jU rfl rfl rfl ?_);refine zM (zL (pk [1] rfl rfl) ?_);refine Lu.pass rfl rfl rfl rfl (pk [1] rfl rfl) ?_;refine vL 1 rfl (pk [1] rfl rfl) ?_;refine zX rfl (zS (v:=str ((if false then [49] else [48]))) rfl rfl rfl (qS rfl vQ rfl qG (fun w1 hw1=>bitD_ok false w1 )) ?_);refine zM (zL (pk [1] rfl rfl) ?_);refine zV rfl rfl rfl rfl rfl (yK rfl rfl rfl (by first | (rw [bit_len];omega) | omega)) (pk [1] rfl rfl) ?_;refine zV rfl rfl rfl rfl rfl (zH rfl qC rfl qZ rfl rfl) (pk [1] rfl rfl) ?_;refine zX rfl (qN (v:=str (S++((if false then [49] else [48])))) (hs':=(bk_ p5 #[i6_ n,str (S++((if false then [49] else [48]))),str R] 24::_::_::hs)) 0 rfl rfl rfl rfl rfl rfl qZ rfl (by simp) rfl ?_);refine zM (zL (pk [1] rfl rfl) ?_);refine yL (qK ((S++((if false then [49] else [48])),p0)) ⟨by (try dsimp only);rw [zQ];first | (rw [bit_len];omega) | (simp;omega),by (try dsimp only);omega⟩ (Sub.sel [0,1,4,5,6,7] rfl) (fun _ h=>h))
    refine jU rfl rfl rfl ?_;refine zM (zL (pk [1] rfl rfl) ?_);refine Lu.pass rfl rfl rfl rfl (pk [1] rfl rfl) ?_;refine vL 1 rfl (pk [1] rfl rfl) ?_;refine yW rfl rfl ?_ ?_
    ·
     refine zS rfl rfl rfl (zR 0 rfl yP rfl rfl rfl) ?_;refine zM (zL (pk [1] rfl rfl) ?_);refine zX rfl (zS (v:=str ((if false then [49] else [48]))) rfl rfl rfl (qS rfl vQ rfl qG (fun w1 hw1=>bitD_ok false w1 )) ?_);refine zM (zL (pk [1] rfl rfl) ?_);refine zV rfl rfl rfl rfl rfl (yK rfl rfl rfl (by first | (rw [bit_len];omega) | omega)) (pk [1] rfl rfl) ?_;refine zV rfl rfl rfl rfl rfl (zH rfl qC rfl qZ rfl rfl) (pk [1] rfl rfl) ?_;refine zX rfl (qN (v:=str (S++((if false then [49] else [48])))) (hs':=(bk_ p5 #[i6_ n,str (S++((if false then [49] else [48]))),str R] 24::_::_::hs)) 0 rfl rfl rfl rfl rfl rfl qZ rfl (by simp) rfl ?_);refine zM (zL (pk [1] rfl rfl) ?_);refine yL (qK ((S++((if false then [49] else [48])),p0)) ⟨by (try dsimp only);rw [zQ];first | (rw [bit_len];omega) | (simp;omega),by (try dsimp only);omega⟩ (Sub.sel [0,1,4,5,6,7] rfl) (fun _ h=>h))
    refine zS (v:=str ((if false then [49] else [48]))) rfl rfl rfl (qS rfl vQ rfl qG (fun w1 hw1=>bitD_ok false w1 )) ?_;refine zM (zL (pk [1] rfl rfl) ?_);refine zX rfl (zS rfl rfl rfl (zR 0 rfl yP rfl rfl rfl) ?_);refine zM (zL (pk [1] rfl rfl) ?_);refine zV rfl rfl rfl rfl rfl (yK rfl rfl rfl (by first | (rw [bit_len];omega) | omega)) (pk [1] rfl rfl) ?_;refine zV rfl rfl rfl rfl rfl (zH rfl qC rfl qZ rfl rfl) (pk [1] rfl rfl) ?_;refine zX rfl (qN (v:=str (S++((if false then [49] else [48])))) (hs':=(bk_ p5 #[i6_ n,str (S++((if false then [49] else [48]))),str R] 24::_::_::hs)) 0 rfl rfl rfl rfl rfl rfl qZ rfl (by simp) rfl ?_);refine zM (zL (pk [1] rfl rfl) ?_);refine yL (qK ((S++((if false then [49] else [48])),p0)) ⟨by (try dsimp only);rw [zQ];first | (rw [bit_len];omega) | (simp;omega),by (try dsimp only);omega⟩ (Sub.sel [0,1,4,5,6,7] rfl) (fun _ h=>h))
   replace hg23:=zI hg23;refine vL 1 rfl (pk [1] rfl rfl) ?_;refine yW rfl rfl ?_ ?_
   ·
    refine zS rfl rfl rfl (zR 0 rfl yP rfl rfl rfl) ?_;refine zM (zL (pk [1] rfl rfl) ?_);refine zX rfl (yH (rp:=rp) (RT:=130) (p:=p0) (bv:=bv) (hs:=hs) (ok:=fun (k:Int) p'=>0≤k∧(1≤(3:Int)→k<3)∧p'=p0+1) (v:=fun (k:Int)=>i6_ k) (new:=fun (k:Int)=>[]) (xs:=[.tmp 24,.const (i6_ 3)]) (vs:=[pt_ rp,i6_ 3]) ([bk_ p5 #[i6_ n,str S,str R] 24,bk_ p4 #[i6_ 0,str ([]),str ([])] 24]:List (Nat×Obj)) rfl rfl rfl rfl xR rfl (fun w1 hw1=>(pick_ok B w0 (([bk_ p5 #[i6_ n,str S,str R] 24,bk_ p4 #[i6_ 0,str ([]),str ([])] 24]:List (Nat×Obj))++hs) rp p0 bv L 3 w1 (fun w2 hw2=>hb w2 (qA (f:=([bk_ p5 #[i6_ n,str S,str R] 24,bk_ p4 #[i6_ 0,str ([]),str ([])] 24]:List (Nat×Obj))) hw2)) hL8 hL (by omega) hw1).mono fun en w' ⟨k',p',h1,h2,h3⟩=>⟨k',p',h1,h2,h3⟩) fun k25 p_25 hKp_25=>?_)
    show Ll _ _ (Own _ _ (_::_::_::hs)) _ _ ((25,i6_ k25)::_) _ _ _
    obtain ⟨h0k25,h1k25,hep_25⟩:=hKp_25
    try have hltk25:=h1k25 (by first | omega | (split <;> omega) | decide);refine zM (zL (pk [1] rfl rfl) ?_);refine vL 2 rfl (pk [1] rfl rfl) ?_;refine zX rfl (zS (v:=str ((if decide (k25=(0:Int)) then [49] else [48]))) rfl rfl rfl (qS rfl vQ rfl qG (fun w1 hw1=>bitD_ok (decide (k25=(0:Int))) w1 )) ?_);refine zM (zL (pk [1] rfl rfl) ?_);refine zV rfl rfl rfl rfl rfl (yK rfl rfl rfl (by first | (rw [bit_len];omega) | omega)) (pk [1] rfl rfl) ?_;refine zV rfl rfl rfl rfl rfl (zH rfl qC rfl qZ rfl rfl) (pk [1] rfl rfl) ?_;refine zX rfl (qN (v:=str (S++((if decide (k25=(0:Int)) then [49] else [48])))) (hs':=(bk_ p5 #[i6_ n,str (S++((if decide (k25=(0:Int)) then [49] else [48]))),str R] 24::_::_::hs)) 0 rfl rfl rfl rfl rfl rfl qZ rfl (by simp) rfl ?_);refine zM (zL (pk [1] rfl rfl) ?_);refine yL (qK ((S++((if decide (k25=(0:Int)) then [49] else [48])),p_25)) ⟨by (try dsimp only);rw [zQ];first | (rw [bit_len];omega) | (simp;omega),by (try dsimp only);omega⟩ (Sub.sel [0,1,4,5,6,7] rfl) (fun _ h=>h))
   refine yH (rp:=rp) (RT:=130) (p:=p0) (bv:=bv) (hs:=hs) (ok:=fun (k:Int) p'=>0≤k∧(1≤(3:Int)→k<3)∧p'=p0+1) (v:=fun (k:Int)=>i6_ k) (new:=fun (k:Int)=>[]) (xs:=[.tmp 24,.const (i6_ 3)]) (vs:=[pt_ rp,i6_ 3]) ([bk_ p5 #[i6_ n,str S,str R] 24,bk_ p4 #[i6_ 0,str ([]),str ([])] 24]:List (Nat×Obj)) rfl rfl rfl rfl xR rfl (fun w1 hw1=>(pick_ok B w0 (([bk_ p5 #[i6_ n,str S,str R] 24,bk_ p4 #[i6_ 0,str ([]),str ([])] 24]:List (Nat×Obj))++hs) rp p0 bv L 3 w1 (fun w2 hw2=>hb w2 (qA (f:=([bk_ p5 #[i6_ n,str S,str R] 24,bk_ p4 #[i6_ 0,str ([]),str ([])] 24]:List (Nat×Obj))) hw2)) hL8 hL (by omega) hw1).mono fun en w' ⟨k',p',h1,h2,h3⟩=>⟨k',p',h1,h2,h3⟩) fun k25_1 p_25_1 hKp_25_1=>?_
   show Ll _ _ (Own _ _ (_::_::_::hs)) _ _ ((25,i6_ k25_1)::_) _ _ _
   obtain ⟨h0k25_1,h1k25_1,hep_25_1⟩:=hKp_25_1
   try have hltk25_1:=h1k25_1 (by first | omega | (split <;> omega) | decide);refine zM (zL (pk [1] rfl rfl) ?_);refine vL 2 rfl (pk [1] rfl rfl) ?_;refine yW rfl rfl ?_ ?_
   ·
    refine zS rfl rfl rfl (zR 0 rfl yP rfl rfl rfl) ?_;refine zM (zL (pk [1] rfl rfl) ?_);refine zX rfl (zS (v:=str ((if decide (k25_1=(0:Int)) then [49] else [48]))) rfl rfl rfl (qS rfl vQ rfl qG (fun w1 hw1=>bitD_ok (decide (k25_1=(0:Int))) w1 )) ?_);refine zM (zL (pk [1] rfl rfl) ?_);refine zV rfl rfl rfl rfl rfl (yK rfl rfl rfl (by first | (rw [bit_len];omega) | omega)) (pk [1] rfl rfl) ?_;refine zV rfl rfl rfl rfl rfl (zH rfl qC rfl qZ rfl rfl) (pk [1] rfl rfl) ?_;refine zX rfl (qN (v:=str (S++((if decide (k25_1=(0:Int)) then [49] else [48])))) (hs':=(bk_ p5 #[i6_ n,str (S++((if decide (k25_1=(0:Int)) then [49] else [48]))),str R] 24::_::_::hs)) 0 rfl rfl rfl rfl rfl rfl qZ rfl (by simp) rfl ?_);refine zM (zL (pk [1] rfl rfl) ?_);refine yL (qK ((S++((if decide (k25_1=(0:Int)) then [49] else [48])),p_25_1)) ⟨by (try dsimp only);rw [zQ];first | (rw [bit_len];omega) | (simp;omega),by (try dsimp only);omega⟩ (Sub.sel [0,1,4,5,6,7] rfl) (fun _ h=>h))
   refine zS (v:=str ((if decide (k25_1=(0:Int)) then [49] else [48]))) rfl rfl rfl (qS rfl vQ rfl qG (fun w1 hw1=>bitD_ok (decide (k25_1=(0:Int))) w1 )) ?_;refine zM (zL (pk [1] rfl rfl) ?_);refine zX rfl (zS rfl rfl rfl (zR 0 rfl yP rfl rfl rfl) ?_);refine zM (zL (pk [1] rfl rfl) ?_);refine zV rfl rfl rfl rfl rfl (yK rfl rfl rfl (by first | (rw [bit_len];omega) | omega)) (pk [1] rfl rfl) ?_;refine zV rfl rfl rfl rfl rfl (zH rfl qC rfl qZ rfl rfl) (pk [1] rfl rfl) ?_;refine zX rfl (qN (v:=str (S++((if decide (k25_1=(0:Int)) then [49] else [48])))) (hs':=(bk_ p5 #[i6_ n,str (S++((if decide (k25_1=(0:Int)) then [49] else [48]))),str R] 24::_::_::hs)) 0 rfl rfl rfl rfl rfl rfl qZ rfl (by simp) rfl ?_);refine zM (zL (pk [1] rfl rfl) ?_);refine yL (qK ((S++((if decide (k25_1=(0:Int)) then [49] else [48])),p_25_1)) ⟨by (try dsimp only);rw [zQ];first | (rw [bit_len];omega) | (simp;omega),by (try dsimp only);omega⟩ (Sub.sel [0,1,4,5,6,7] rfl) (fun _ h=>h))
  rintro ⟨S2,p2⟩ ⟨hS2,hp2⟩
  dsimp only;refine zD [0,1,4,5,6,7] [_,_,_,_,_,_] rfl ?_;refine zE (zB (zC 1 rfl (zJ (zD [0,1,4,5,6,7,8] [_,_,_,_,_,_,_] rfl ?_))));refine yA (jG (σ:=Nat×List UInt8×Nat) (fun ⟨j,R1,p1⟩=>(j:Int)≤n∧R1.length=k*n.toNat+j∧p1≤p+3+k*9+j) (fun ⟨j,R1,p1⟩=>[(0,pt_ rp),(1,i6_ n),(4,pt_ p4),(5,pt_ p5),(6,i6_ k13),(7,i6_ ((k:Int))),(8,i6_ ((j:Int)))]) (fun ⟨j,R1,p1⟩=>Own B w0 (bk_ p5 #[i6_ n,str S2,str R1] 24::bk_ p4 #[i6_ 0,str ([]),str ([])] 24::bk_ rp #[bv,i6_ ((p1:Int))] 130::hs)) (fun ⟨j,R1,p1⟩=>(n - j).toNat) ((0,R,p2)) ⟨by omega,by omega,by omega⟩ (Sub.sel [0,1,4,5,6,7,8] rfl) (fun _ h=>h) ?_)
  rintro ⟨j,R1,p1⟩ ⟨hj,hR1,hp1⟩
  dsimp only
  have hj8:j≤8:=by omega
  refine zE (zE (zB (zC 3 rfl (zJ (zD [0,1,4,5,6,7,8,33] [_,_,_,_,_,_,_,_] rfl ?_)))));refine qH (b:=decide (((j:Int))<n)) rfl (fun h33=>?_) (fun h33=>?_)
  ·
   replace h33:=zI h33;refine qO (zD [0,1,4,5,6,7,8] [_,_,_,_,_,_,_] rfl ?_);refine zE (yA (zE (qF (qJ 1 rfl (yH (rp:=rp) (RT:=130) (p:=p1) (bv:=bv) (hs:=hs) (ok:=fun (k:Int) p'=>0≤k∧(1≤(3:Int)→k<3)∧p'=p1+1) (v:=fun (k:Int)=>i6_ k) (new:=fun (k:Int)=>[]) (xs:=[.tmp 36,.const (i6_ 3)]) (vs:=[pt_ rp,i6_ 3]) ([bk_ p5 #[i6_ n,str S2,str R1] 24,bk_ p4 #[i6_ 0,str ([]),str ([])] 24]:List (Nat×Obj)) rfl rfl rfl rfl xR rfl (fun w1 hw1=>(pick_ok B w0 (([bk_ p5 #[i6_ n,str S2,str R1] 24,bk_ p4 #[i6_ 0,str ([]),str ([])] 24]:List (Nat×Obj))++hs) rp p1 bv L 3 w1 (fun w2 hw2=>hb w2 (qA (f:=([bk_ p5 #[i6_ n,str S2,str R1] 24,bk_ p4 #[i6_ 0,str ([]),str ([])] 24]:List (Nat×Obj))) hw2)) hL8 hL (by omega) hw1).mono fun en w' ⟨k',p',h1,h2,h3⟩=>⟨k',p',h1,h2,h3⟩) fun k37 p_37 hKp_37=>?_)))))
   show Ll _ _ (Own _ _ (_::_::_::hs)) _ _ ((37,i6_ k37)::_) _ _ _
   obtain ⟨h0k37,h1k37,hep_37⟩:=hKp_37
   try have hltk37:=h1k37 (by first | omega | (split <;> omega) | decide);refine qJ 2 rfl (zM (zD [0,1,4,5,6,7,8,9] [_,_,_,_,_,_,_,_] rfl ?_));refine zE (zE (zB (zC 1 rfl (zJ (zD [0,1,4,5,6,7,8,9,39] [_,_,_,_,_,_,_,_,_] rfl ?_)))));refine xZ (σ:=Bool) (fun b9=>True) (fun b9=>[(0,pt_ rp),(1,i6_ n),(4,pt_ p4),(5,pt_ p5),(6,i6_ k13),(7,i6_ ((k:Int))),(8,i6_ ((j:Int))),(9,bo_ b9)]) (fun b9=>Own B w0 (bk_ p5 #[i6_ n,str S2,str R1] 24::bk_ p4 #[i6_ 0,str ([]),str ([])] 24::bk_ rp #[bv,i6_ ((p_37:Int))] 130::hs)) ?_ ?_
   ·
    refine yA (zE (zB (zC 2 rfl (zJ (zD [0,1,4,5,6,7,8,9,39,40] [_,_,_,_,_,_,_,_,_,_] rfl ?_)))));refine qH (b:=decide (k13=(0:Int))) rfl (fun h40=>?_) (fun h40=>?_)
    ·
     replace h40:=zI h40;refine zB (zC 2 rfl (zN rfl rfl rfl (qT rfl rfl rfl (by omega) (by omega)) ?_));refine zC 1 rfl (zN (v:=i6_ ((((k:Int))+(1:Int)) % n)) rfl rfl rfl (OpQ.rem rfl rfl rfl (by omega) (by omega)) ?_);refine zC 2 rfl (zJ (qK (decide (((j:Int))=((((k:Int))+(1:Int)) % n))) trivial (Sub.sel [0,1,4,5,6,7,8,9] rfl) (fun _ h=>h)))
    replace h40:=zG h40;refine zE (zB (zC 2 rfl (zJ (zD [0,1,4,5,6,7,8,9,39,48] [_,_,_,_,_,_,_,_,_,_] rfl ?_))));refine qH (b:=decide (k13=(1:Int))) rfl (fun h48=>?_) (fun h48=>?_)
    ·
     replace h48:=zI h48;refine zB (zC 4 rfl (zJ (qK (decide (((k:Int))<((j:Int)))) trivial (Sub.sel [0,1,4,5,6,7,8,9] rfl) (fun _ h=>h))))
    replace h48:=zG h48;refine zE (zB (zC 2 rfl (zJ (zD [0,1,4,5,6,7,8,9,39,53] [_,_,_,_,_,_,_,_,_,_] rfl ?_))));refine qH (b:=decide (k13=(2:Int))) rfl (fun h53=>?_) (fun h53=>?_)
    ·
     replace h53:=zI h53;refine zB (zC 4 rfl (xG fun b58 hg58=>?_))
     cases b58
     ·
      replace hg58:=not_false hg58
      replace hg58:=zI hg58;refine zW rfl rfl rfl (zW rfl rfl rfl (zW rfl rfl rfl (zW rfl rfl rfl (zW rfl rfl rfl (zC 2 rfl (zJ (qK (false) trivial (Sub.sel [0,1,4,5,6,7,8,9] rfl) (fun _ h=>h))))))))
     replace hg58:=not_true hg58
     replace hg58:=zG hg58;refine zC 2 rfl (zN rfl rfl rfl (qT rfl rfl rfl (by omega) (by omega)) ?_);refine zN (v:=i6_ ((((k:Int))+((j:Int))) % (2:Int))) rfl rfl rfl (OpQ.rem rfl rfl rfl (by omega) (by decide)) ?_;refine zC 3 rfl (zJ (qK (decide (((((k:Int))+((j:Int))) % (2:Int))=(1:Int))) trivial (Sub.sel [0,1,4,5,6,7,8,9] rfl) (fun _ h=>h)))
    replace h53:=zG h53;refine zE (zB (zC 2 rfl (zJ (zD [0,1,4,5,6,7,8,9,39,65] [_,_,_,_,_,_,_,_,_,_] rfl ?_))));refine qH (b:=decide (k13=(3:Int))) rfl (fun h65=>?_) (fun h65=>?_)
    ·
     replace h65:=zI h65;refine zB (zC 4 rfl (xG fun b70 hg70=>?_))
     cases b70
     ·
      replace hg70:=zG hg70;refine zC 2 rfl (zN rfl rfl rfl (qT rfl rfl rfl (by omega) (by omega)) ?_);refine zC 3 rfl (xG fun b76 hg76=>?_)
      cases b76
      ·
       replace hg76:=zG hg76;refine zC 2 rfl (zN rfl rfl rfl (qT rfl rfl rfl (by omega) (by omega)) ?_);refine zC 3 rfl (zJ (qK (decide (((k:Int))=(((j:Int))+(1:Int)))) trivial (Sub.sel [0,1,4,5,6,7,8,9] rfl) (fun _ h=>h)))
      replace hg76:=zI hg76;refine zW rfl rfl rfl (zW rfl rfl rfl (zW rfl rfl rfl (zW rfl rfl rfl (zC 2 rfl (zJ (qK (true) trivial (Sub.sel [0,1,4,5,6,7,8,9] rfl) (fun _ h=>h)))))))
     replace hg70:=zI hg70;refine zW rfl rfl rfl (zW rfl rfl rfl (zW rfl rfl rfl (zW rfl rfl rfl ?_)));refine zC 2 rfl (zW rfl rfl rfl (zW rfl rfl rfl (zW rfl rfl rfl (zW rfl rfl rfl (zC 2 rfl (zJ (qK (true) trivial (Sub.sel [0,1,4,5,6,7,8,9] rfl) (fun _ h=>h))))))))
    replace h65:=zG h65;refine zE (zB (zC 2 rfl (zJ (zD [0,1,4,5,6,7,8,9,39,82] [_,_,_,_,_,_,_,_,_,_] rfl ?_))));refine qH (b:=decide (k13=(4:Int))) rfl (fun h82=>?_) (fun h82=>?_)
    ·
     replace h82:=zI h82;refine zB (zC 2 rfl (xG fun b85 hg85=>?_))
     cases b85
     ·
      replace hg85:=zG hg85;refine zW rfl rfl rfl (zW rfl rfl rfl (zW rfl rfl rfl (zC 2 rfl (zJ (qK (false) trivial (Sub.sel [0,1,4,5,6,7,8,9] rfl) (fun _ h=>h))))))
     replace hg85:=zI hg85;refine zC 5 rfl (zJ (qK (!(decide (((k:Int))=((j:Int))))) trivial (Sub.sel [0,1,4,5,6,7,8,9] rfl) (fun _ h=>h)))
    replace h82:=zG h82;refine zE (zB (zC 2 rfl (zJ (zD [0,1,4,5,6,7,8,9,90] [_,_,_,_,_,_,_,_,_] rfl ?_))));refine qH (b:=decide (k13=(5:Int))) rfl (fun h90=>?_) (fun h90=>?_)
    ·
     replace h90:=zI h90;refine zB (zC 1 rfl (zN rfl rfl rfl (qT rfl rfl rfl (by omega) (by omega)) ?_));refine zN (v:=i6_ ((((k:Int))+(1:Int)) / (2:Int))) rfl rfl rfl (OpQ.quo rfl rfl rfl (by omega) (by omega) (by decide)) ?_;refine zC 1 rfl (zN rfl rfl rfl (qT rfl rfl rfl (by omega) (by omega)) ?_);refine zN (v:=i6_ ((((j:Int))+(1:Int)) / (2:Int))) rfl rfl rfl (OpQ.quo rfl rfl rfl (by omega) (by omega) (by decide)) ?_;refine zC 2 rfl (xG fun b99 hg99=>?_)
     cases b99
     ·
      replace hg99:=zG hg99;refine zW rfl rfl rfl (zW rfl rfl rfl (zW rfl rfl rfl (zC 2 rfl (zJ (qK (false) trivial (Sub.sel [0,1,4,5,6,7,8,9] rfl) (fun _ h=>h))))))
     replace hg99:=zI hg99;refine zC 5 rfl (zJ (qK (!(decide (((k:Int))=((j:Int))))) trivial (Sub.sel [0,1,4,5,6,7,8,9] rfl) (fun _ h=>h)))
    replace h90:=zG h90;refine qO (qK (decide (k37=(0:Int))) trivial (Sub.sel [0,1,4,5,6,7,8,9] rfl) (fun _ h=>h))
   rintro b9 _;refine zD [0,1,4,5,6,7,8,9] [_,_,_,_,_,_,_,_] rfl ?_;refine jK (S:=Own B w0 [bk_ p4 #[i6_ 0,str ([]),str ([])] 24,bk_ rp #[bv,i6_ ((p_37:Int))] 130]) (.take 0 (.take 2 (.two 1 (.one 3 (.take 4 (.take 5 (.one 6 .done)))) 3 (.one 1 (.take 4 (.take 5 (.one 6 .done))))))) yG (fun _ h=>h.drawn) (by kernel_rfl) ?_;refine zV rfl rfl rfl rfl rfl (zH rfl qC rfl qZ rfl rfl) (pk [1,2] rfl rfl) ?_;refine vL 1 rfl (pk [1,2] rfl rfl) ?_;refine yW rfl rfl ?_ ?_
   ·
    refine zS rfl rfl rfl (zR 0 rfl yP rfl rfl rfl) ?_;refine zM (zL (pk [1,2] rfl rfl) ?_);refine zX rfl (zS (v:=str ((if b9 then [49] else [48]))) rfl rfl rfl (qS rfl vQ rfl qG (fun w1 hw1=>bitD_ok b9 w1 )) ?_);refine zM (zL (pk [1,2] rfl rfl) ?_);refine zV rfl rfl rfl rfl rfl (yK rfl rfl rfl (by first | (rw [bit_len];omega) | omega)) (pk [1,2] rfl rfl) ?_;refine zV rfl rfl rfl rfl rfl (zH rfl qC rfl qZ rfl rfl) (pk [1,2] rfl rfl) ?_;refine zX rfl (qN (v:=str (R1++((if b9 then [49] else [48])))) (hs':=(bk_ p5 #[i6_ n,str S2,str (R1++((if b9 then [49] else [48])))] 24::_::_::hs)) 0 rfl rfl rfl rfl rfl rfl qZ rfl (by simp) rfl ?_);refine zM (zL (pk [1,2] rfl rfl) ?_);refine yL (zD [0,1,4,5,6,7,8] [_,_,_,_,_,_,_] rfl ?_);refine zB (zC 1 rfl (zN rfl rfl rfl (qT rfl rfl rfl (by omega) (by omega)) ?_));refine zC 1 rfl (zJ (yY ((j+1,R1++((if b9 then [49] else [48])),p_37)) ⟨by omega,by (try dsimp only);rw [zQ,bit_len];omega,by (try dsimp only);omega⟩ (by omega) (Sub.sel [0,1,4,5,6,7,8] rfl) (fun _ h=>h)))
   refine zS (v:=str ((if b9 then [49] else [48]))) rfl rfl rfl (qS rfl vQ rfl qG (fun w1 hw1=>bitD_ok b9 w1 )) ?_;refine zM (zL (pk [1,2] rfl rfl) ?_);refine zX rfl (zS rfl rfl rfl (zR 0 rfl yP rfl rfl rfl) ?_);refine zM (zL (pk [1,2] rfl rfl) ?_);refine zV rfl rfl rfl rfl rfl (yK rfl rfl rfl (by first | (rw [bit_len];omega) | omega)) (pk [1,2] rfl rfl) ?_;refine zV rfl rfl rfl rfl rfl (zH rfl qC rfl qZ rfl rfl) (pk [1,2] rfl rfl) ?_;refine zX rfl (qN (v:=str (R1++((if b9 then [49] else [48])))) (hs':=(bk_ p5 #[i6_ n,str S2,str (R1++((if b9 then [49] else [48])))] 24::_::_::hs)) 0 rfl rfl rfl rfl rfl rfl qZ rfl (by simp) rfl ?_);refine zM (zL (pk [1,2] rfl rfl) ?_);refine yL (zD [0,1,4,5,6,7,8] [_,_,_,_,_,_,_] rfl ?_);refine zB (zC 1 rfl (zN rfl rfl rfl (qT rfl rfl rfl (by omega) (by omega)) ?_));refine zC 1 rfl (zJ (yY ((j+1,R1++((if b9 then [49] else [48])),p_37)) ⟨by omega,by (try dsimp only);rw [zQ,bit_len];omega,by (try dsimp only);omega⟩ (by omega) (Sub.sel [0,1,4,5,6,7,8] rfl) (fun _ h=>h)))
  replace h33:=zG h33;refine xA rfl ?_;refine zD [0,1,4,5,6,7] [_,_,_,_,_,_] rfl ?_;refine zB (zC 1 rfl (zN rfl rfl rfl (qT rfl rfl rfl (by omega) (by omega)) ?_));refine zC 1 rfl (zJ (yY ((k+1,S2,R1,p1)) ⟨by omega,by (try dsimp only);omega,by (try dsimp only);rw [Nat.add_mul,Nat.one_mul];omega,by (try dsimp only);omega⟩ (by omega) (Sub.sel [0,1,4,5,6,7] rfl) (fun _ h=>h)))
 replace h16:=zG h16;refine xA rfl ?_;refine zD [4,5] [_,_] rfl ?_;refine zE (qF (zS rfl rfl rfl (qX (cs:=#[i6_ n,str S,str R]) 0 rfl qW rfl rfl qU) ?_));refine jI (cs':=#[i6_ n,str S,str R]) (hs':=(_::bk_ p4 #[i6_ n,str S,str R] 24::_::hs)) 1 rfl rfl rfl rfl rfl (by kernel_rfl:_=some Tryd.t24) rfl rfl rfl rfl rfl ?_;refine zM (zD [4] [_] rfl ?_);refine qL (Kt.endBox (cs:=#[i6_ n,str S,str R]) 1 rfl rfl rfl qW qU fun w' hw=>?_)
 exact ⟨⟨n,S,R⟩,p0,rfl,⟨⟨rfl,by dsimp only;omega,by dsimp only;rw [hR,show k=n.toNat from by omega]⟩,by omega⟩,hw.sub (qM _ (qM _ (zA _ (zP _))))⟩
set_option maxHeartbeats 400000 in
theorem l1Some_ok (B:Nat) (w0:World) (hs:List (Nat×Obj)) (rp p:Nat) (bv:Value) (L:List Int) (w:World) (hb:∀ w,Own B w0 hs w→Row w bv (u8s L)) (hL8:Bytes8 L) (hL:L.length≤2000) (hp:p≤800000) (hw:Own B w0 ((rp,.cells #[bv,.int .i64 (p:Int)] 130 (0,0))::hs) w) :
    Calls Tryd.prog 107 [pt_ rp].toArray w fun en w'=>∃ a:St,∃ p':Nat,en=.returned (vS a)∧((a.Fine∧a.n≤5)∧p'≤p+200)∧Own B w0 (((rp,.cells #[bv,.int .i64 (p':Int)] 130 (0,0))::hs)) w':=by
 refine fnStartC (Own B w0 ((rp,.cells #[bv,.int .i64 (p:Int)] 130 (0,0))::hs)) (n:=8) (e:=[(0,pt_ rp)]) Tryd.func107 rfl rfl rfl rfl Ends.both hw ?_;refine zE (qF (vK rfl rfl rfl rfl jD fun p2 hp2=>?_))
 show Ll _ _ (Own _ _ (bk_ p2 #[i6_ 0,str ([]),str ([])] 24::_::hs)) _ _ ((2,pt_ p2)::_) _ _ _;refine zM (zD [0,2] [_,_] rfl ?_);refine zE (qF (qJ 2 rfl (yS (xs:=[.const (i6_ 3),.const (i6_ 4),.const (i6_ 2),.const (i6_ 1),.const (i6_ 5),.const (i6_ 3)]) (vs:=[i6_ 3,i6_ 4,i6_ 2,i6_ 1,i6_ 5,i6_ 3]) xK rfl rfl rfl rfl rfl rfl (by decide) rfl fun p5 hp5=>?_)));refine yH (rp:=rp) (RT:=130) (p:=p) (bv:=bv) (hs:=hs) (ok:=fun (v:Int) p'=>v∈([3,4,2,1,5,3])∧p'=p+1) (v:=fun (v:Int)=>i6_ v) (new:=fun (v:Int)=>[]) (xs:=[.tmp 4,.tmp 5]) (vs:=[pt_ rp,sl_ p5 6 6]) ([bk_ p5 #[i6_ 3,i6_ 4,i6_ 2,i6_ 1,i6_ 5,i6_ 3] 3,bk_ p2 #[i6_ 0,str ([]),str ([])] 24]:List (Nat×Obj)) rfl rfl rfl rfl Tryd.call126 rfl (fun w1 hw1=>(num_ok B w0 (([bk_ p5 #[i6_ 3,i6_ 4,i6_ 2,i6_ 1,i6_ 5,i6_ 3] 3,bk_ p2 #[i6_ 0,str ([]),str ([])] 24]:List (Nat×Obj))++hs) rp p bv L (sl_ p5 6 6) ([3,4,2,1,5,3]) w1 (fun w2 hw2=>hb w2 (qA (f:=([bk_ p5 #[i6_ 3,i6_ 4,i6_ 2,i6_ 1,i6_ 5,i6_ 3] 3,bk_ p2 #[i6_ 0,str ([]),str ([])] 24]:List (Nat×Obj))) hw2)) hL8 hL (fun w2 h2=>(xQ h2 (i:=0) rfl (n:=6) (cap:=6) (vs:=ints [3,4,2,1,5,3]) rfl rfl (by decide))) (by simp) (by omega) hw1).mono fun en w' ⟨v',p',h1,h2,h3⟩=>⟨v',p',h1,h2,h3⟩) fun v6 p_6 hKp_6=>?_
 show Ll _ _ (Own _ _ (_::_::_::hs)) _ _ ((6,i6_ v6)::_) _ _ _
 obtain ⟨hmv6,hep_6⟩:=hKp_6
 have hvv6:1≤v6∧v6≤5:=by simp at hmv6;omega
 have hv6:1≤v6∧v6≤5:=by simp at hmv6;omega
 refine yH (rp:=rp) (RT:=130) (p:=p_6) (bv:=bv) (hs:=hs) (ok:=fun (a:St) p'=>(a.n=v6∧(a.set.length:Int)=v6∧a.rel.length=v6.toNat*v6.toNat)∧p'≤p_6+100) (v:=fun (a:St)=>vS a) (new:=fun (a:St)=>[]) (xs:=[.tmp 3,.tmp 6]) (vs:=[pt_ rp,i6_ v6]) ([bk_ p5 #[i6_ 3,i6_ 4,i6_ 2,i6_ 1,i6_ 5,i6_ 3] 3,bk_ p2 #[i6_ 0,str ([]),str ([])] 24]:List (Nat×Obj)) rfl rfl rfl rfl Tryd.call147 rfl (fun w1 hw1=>(l1Draw_ok B w0 (([bk_ p5 #[i6_ 3,i6_ 4,i6_ 2,i6_ 1,i6_ 5,i6_ 3] 3,bk_ p2 #[i6_ 0,str ([]),str ([])] 24]:List (Nat×Obj))++hs) rp p_6 bv L v6 w1 (fun w2 hw2=>hb w2 (qA (f:=([bk_ p5 #[i6_ 3,i6_ 4,i6_ 2,i6_ 1,i6_ 5,i6_ 3] 3,bk_ p2 #[i6_ 0,str ([]),str ([])] 24]:List (Nat×Obj))) hw2)) hL8 hL (by omega) (by omega) (by omega) hw1).mono fun en w' ⟨a',p',h1,h2,h3⟩=>⟨a',p',h1,h2,h3⟩) fun a7 p_7 hKp_7=>?_
 show Ll _ _ (Own _ _ (_::_::_::hs)) _ _ ((7,vS a7)::_) _ _ _
 obtain ⟨⟨hna7,hsa7,hra7⟩,hep_7⟩:=hKp_7;refine jI (cs':=#[i6_ a7.n,str a7.set,str a7.rel]) (hs':=(_::bk_ p2 #[i6_ a7.n,str a7.set,str a7.rel] 24::_::hs)) 1 rfl rfl rfl rfl rfl (by kernel_rfl:_=some Tryd.t24) rfl rfl rfl rfl rfl ?_;refine zM (zD [2] [_] rfl ?_);refine qL (Kt.endBox (cs:=#[i6_ a7.n,str a7.set,str a7.rel]) 1 rfl rfl rfl qW qU fun w' hw=>?_)
 exact ⟨a7,p_7,rfl,⟨⟨⟨by omega,by omega,by omega,by rw [hra7,hna7];exact sq_cast (by omega)⟩,by omega⟩,by omega⟩,hw.sub (qM _ (qM _ (zA _ (zP _))))⟩
end Go.Proofs.YtefiibghfgfdnaaDoor
namespace Go.Proofs.YtefiibghfgfdnaaDoor
open Go.RowKit Go.Wk
set_option linter.unusedSimpArgs false
set_option maxHeartbeats 400000 in
theorem open_ok (B:Nat) (w0:World) (fr hs:List (Nat×Obj)) (bv:Value) (L:List Int) (w:World) (hb:∀ w,Own B w0 hs w→Row w bv (u8s L)) (hL8:Bytes8 L) (hLs:L.length≤1048576) (hw:Own B w0 (fr++hs) w) :
    Calls Tryd.prog 49 [bv].toArray w fun en w'=>∃ (rp:Nat) (v:Value) (M:List Int),en=.returned (.pointer (some ⟨rp,0,none⟩))∧(M.length≤2000∧Bytes8 M∧∀ w,Own B w0 hs w→Row w v (u8s M))∧Own B w0 ([(rp,.cells #[v,.int .i64 ((0:Nat):Int)] 130 (0,0))]++(fr++hs)) w':=by
 refine fnStartC (Own B w0 (fr++hs)) (n:=11) (e:=[(0,bv)]) Tryd.func49 rfl rfl rfl rfl Ends.both hw ?_
 obtain ⟨ad,cap,hbv,-⟩:=hb w (qA (f:=fr) hw);refine zE (zB (zC 1 rfl (zJ (zD [0] [_] rfl ?_))));refine zE (zE (zB (zC 1 rfl (zN (v:=i6_ ((L.length:Int))) rfl rfl rfl (xO rfl yM rfl (u8s_length _) (fun w1 hw1=>hb _ (qA (f:=fr) hw1))) ?_))));refine zC 1 rfl (zJ (zD [0,5] [_,_] rfl ?_));refine qH (b:=decide ((2000:Int)<((L.length:Int)))) rfl (fun h5=>?_) (fun h5=>?_)
 ·
  replace h5:=zI h5;refine zB (zC 1 rfl (zN (v:=sTake bv ((2000:Int).toNat)) rfl rfl rfl (OpQ.takeRow (i:=2000) rfl yM xH rfl rfl (by omega) (by rw [u8s_length];omega) (fun w1 hw1=>hb _ (qA (f:=fr) hw1))) ?_));refine zC 1 rfl (zJ (zD [0] [_] rfl ?_));refine zE (qF (qJ 1 rfl (zS (v:=.agg #[sTake bv ((2000:Int).toNat),i6_ (((0:Nat):Int))]) rfl rfl rfl (OpQ.build (xs:=[.tmp 8]) (vs:=[sTake bv ((2000:Int).toNat)]) rfl rfl (by rw [hbv];kernel_rfl)) ?_)));refine jC (v:=.agg #[sTake bv ((2000:Int).toNat),i6_ (((0:Nat):Int))]) rfl rfl rfl rfl rfl fun p10 hp10=>?_
  show Ll _ _ (Own _ _ (_::(fr++hs))) _ _ ((10,pt_ p10)::_) _ _ _;refine qJ 1 rfl (zM (zD [2] [_] rfl ?_));refine qL (qQ rfl rfl fun w' hw=>?_)
  exact ⟨p10,_,L.take 2000,rfl,⟨by rw [zT];omega,hL8.take _,fun w1 h1=>by rw [u8s_take];exact Row.take (hb _ h1) 2000 (by rw [u8s_length];omega)⟩,hw⟩
 replace h5:=zG h5;refine qO (zD [0] [_] rfl ?_);refine zE (qF (qJ 1 rfl (zS (v:=.agg #[bv,i6_ (((0:Nat):Int))]) rfl rfl rfl (OpQ.build (xs:=[.tmp 8]) (vs:=[bv]) rfl rfl (by rw [hbv];kernel_rfl)) ?_)));refine jC (v:=.agg #[bv,i6_ (((0:Nat):Int))]) rfl rfl rfl rfl rfl fun p10_1 hp10_1=>?_
 show Ll _ _ (Own _ _ (_::(fr++hs))) _ _ ((10,pt_ p10_1)::_) _ _ _;refine qJ 1 rfl (zM (zD [2] [_] rfl ?_));refine qL (qQ rfl rfl fun w' hw=>?_)
 exact ⟨p10_1,bv,L,rfl,⟨by omega,hL8,hb⟩,hw⟩
end Go.Proofs.YtefiibghfgfdnaaDoor
namespace Go.Proofs.YtefiibghfgfdnaaDoor
open Go.RowKit Go.Wk
set_option linter.unusedSimpArgs false
set_option maxHeartbeats 400000 in
theorem l1Bad_ok (B:Nat) (w0:World) (hs:List (Nat×Obj)) (rp p:Nat) (bv:Value) (L:List Int) (a:St) (w:World) (hb:∀ w,Own B w0 hs w→Row w bv (u8s L)) (hL8:Bytes8 L) (hL:L.length≤2000) (ha:a.Fine) (hp:p≤800000) (hw:Own B w0 ((rp,.cells #[bv,.int .i64 (p:Int)] 130 (0,0))::hs) w) :
    Calls Tryd.prog 97 [pt_ rp,vS a].toArray w fun en w'=>∃ b:St,∃ p':Nat,en=.returned (vS b)∧(((-9223372036854775808≤b.n∧b.n≤9223372036854775807)∧b.set.length≤50000∧b.rel.length≤50000)∧p'≤p+10)∧Own B w0 (((rp,.cells #[bv,.int .i64 (p':Int)] 130 (0,0))::hs)) w':=by
 refine fnStartC (Own B w0 ((rp,.cells #[bv,.int .i64 (p:Int)] 130 (0,0))::hs)) (n:=42) (e:=[(0,pt_ rp),(1,vS a)]) Tryd.func97 rfl rfl rfl rfl Ends.both hw ?_
 have hm8:=ha.hi
 have hm1:=ha.lo
 have hsl:=ha.set
 have hrl:=ha.rel
 have hq:=sq_le hm1 hm8
 have hq1:1≤a.n*a.n:=sq_one hm1;refine zE (qF (jC (v:=vS a) rfl rfl rfl rfl rfl fun p3 hp3=>?_))
 show Ll _ _ (Own _ _ (_::_::hs)) _ _ ((3,pt_ p3)::_) _ _ _;refine vK rfl rfl rfl rfl jD fun p4 hp4=>?_
 show Ll _ _ (Own _ _ (bk_ p4 #[i6_ 0,str ([]),str ([])] 24::_::_::hs)) _ _ ((4,pt_ p4)::_) _ _ _;refine zM (zD [0,3,4] [_,_,_] rfl ?_);refine zE (zE (qF (qJ 1 rfl (yH (rp:=rp) (RT:=130) (p:=p) (bv:=bv) (hs:=hs) (ok:=fun (k:Int) p'=>0≤k∧(1≤(40:Int)→k<40)∧p'=p+1) (v:=fun (k:Int)=>i6_ k) (new:=fun (k:Int)=>[]) (xs:=[.tmp 5,.const (i6_ 40)]) (vs:=[pt_ rp,i6_ 40]) ([bk_ p4 #[i6_ 0,str ([]),str ([])] 24,bk_ p3 #[i6_ a.n,str a.set,str a.rel] 24]:List (Nat×Obj)) rfl rfl rfl rfl xR rfl (fun w1 hw1=>(pick_ok B w0 (([bk_ p4 #[i6_ 0,str ([]),str ([])] 24,bk_ p3 #[i6_ a.n,str a.set,str a.rel] 24]:List (Nat×Obj))++hs) rp p bv L 40 w1 (fun w2 hw2=>hb w2 (qA (f:=([bk_ p4 #[i6_ 0,str ([]),str ([])] 24,bk_ p3 #[i6_ a.n,str a.set,str a.rel] 24]:List (Nat×Obj))) hw2)) hL8 hL (by omega) hw1).mono fun en w' ⟨k',p',h1,h2,h3⟩=>⟨k',p',h1,h2,h3⟩) fun k6 p_6 hKp_6=>?_))))
 show Ll _ _ (Own _ _ (_::_::_::hs)) _ _ ((6,i6_ k6)::_) _ _ _
 obtain ⟨h0k6,h1k6,hep_6⟩:=hKp_6
 try have hltk6:=h1k6 (by first | omega | (split <;> omega) | decide);refine zM (zD [0,3,4,6] [_,_,_,_] rfl ?_);refine xZ (σ:=Int×List UInt8×List UInt8×Nat) (fun ⟨N,S,R,p9⟩=>(-9223372036854775808≤N∧N≤9223372036854775807)∧S.length≤50000∧R.length≤50000∧p9≤p+10) (fun ⟨N,S,R,p9⟩=>[(3,pt_ p3),(4,pt_ p4)]) (fun ⟨N,S,R,p9⟩=>Own B w0 (bk_ p4 #[i6_ 0,str ([]),str ([])] 24::bk_ p3 #[i6_ N,str S,str R] 24::bk_ rp #[bv,i6_ ((p9:Int))] 130::hs)) ?_ ?_
 ·
  refine yA (zE (zB (zC 2 rfl (zJ (zD [0,3,4,6,7] [_,_,_,_,_] rfl ?_)))));refine qH (b:=decide (k6=(0:Int))) rfl (fun h7=>?_) (fun h7=>?_)
  ·
   replace h7:=zI h7;refine qF (qJ 1 rfl (zS rfl rfl rfl (zH rfl qC rfl zK rfl rfl) ?_));refine zS rfl rfl rfl (zR 1 rfl zU rfl rfl rfl) ?_;refine zS rfl rfl rfl (qT rfl rfl rfl (by omega) (by omega)) ?_;refine yS (xs:=[.const (i6_ 0),.const (i6_ (-1)),.tmp 12,.const (i6_ 9),.const (i6_ 9223372036854775807)]) (vs:=[i6_ 0,i6_ (-1),i6_ (a.n+(1:Int)),i6_ 9,i6_ 9223372036854775807]) xK rfl rfl rfl rfl rfl rfl (by decide) rfl fun p13 hp13=>?_;refine yH (rp:=rp) (RT:=130) (p:=p_6) (bv:=bv) (hs:=hs) (ok:=fun (v:Int) p'=>v∈([0,-1,a.n+(1:Int),9,9223372036854775807])∧p'=p_6+1) (v:=fun (v:Int)=>i6_ v) (new:=fun (v:Int)=>[]) (xs:=[.tmp 9,.tmp 13]) (vs:=[pt_ rp,sl_ p13 5 5]) ([bk_ p13 #[i6_ 0,i6_ (-1),i6_ (a.n+(1:Int)),i6_ 9,i6_ 9223372036854775807] 3,bk_ p4 #[i6_ 0,str ([]),str ([])] 24,bk_ p3 #[i6_ a.n,str a.set,str a.rel] 24]:List (Nat×Obj)) rfl rfl rfl rfl Tryd.call126 rfl (fun w1 hw1=>(num_ok B w0 (([bk_ p13 #[i6_ 0,i6_ (-1),i6_ (a.n+(1:Int)),i6_ 9,i6_ 9223372036854775807] 3,bk_ p4 #[i6_ 0,str ([]),str ([])] 24,bk_ p3 #[i6_ a.n,str a.set,str a.rel] 24]:List (Nat×Obj))++hs) rp p_6 bv L (sl_ p13 5 5) ([0,-1,a.n+(1:Int),9,9223372036854775807]) w1 (fun w2 hw2=>hb w2 (qA (f:=([bk_ p13 #[i6_ 0,i6_ (-1),i6_ (a.n+(1:Int)),i6_ 9,i6_ 9223372036854775807] 3,bk_ p4 #[i6_ 0,str ([]),str ([])] 24,bk_ p3 #[i6_ a.n,str a.set,str a.rel] 24]:List (Nat×Obj))) hw2)) hL8 hL (fun w2 h2=>(xQ h2 (i:=0) rfl (n:=5) (cap:=5) (vs:=ints [0,-1,a.n+(1:Int),9,9223372036854775807]) rfl rfl (by decide))) (by simp) (by omega) hw1).mono fun en w' ⟨v',p',h1,h2,h3⟩=>⟨v',p',h1,h2,h3⟩) fun v14 p_14 hKp_14=>?_
   show Ll _ _ (Own _ _ (_::_::_::_::hs)) _ _ ((14,i6_ v14)::_) _ _ _
   obtain ⟨hmv14,hep_14⟩:=hKp_14
   skip
   have hv14 : -9223372036854775808≤v14∧v14≤9223372036854775807:=by simp at hmv14;omega
   refine zS rfl rfl rfl (zH rfl qC rfl zK rfl rfl) ?_;refine qN (v:=i6_ v14) (hs':=(_::_::bk_ p3 #[i6_ v14,str a.set,str a.rel] 24::_::hs)) 2 rfl rfl rfl rfl rfl rfl zK rfl (by simp) rfl ?_;refine zM (qK ((v14,a.set,a.rel,p_14)) ⟨⟨by (try dsimp only);omega,by (try dsimp only);omega⟩,by (try dsimp only);omega,by (try dsimp only);omega,by (try dsimp only);omega⟩ (Sub.sel [3,4] rfl) (fun _ h=>h.sub (qM _ (zA _ (zA _ (zA _ (zP _)))))))
  replace h7:=zG h7;refine zE (zB (zC 2 rfl (zJ (zD [0,3,4,6,16] [_,_,_,_,_] rfl ?_))));refine qH (b:=decide (k6=(1:Int))) rfl (fun h16=>?_) (fun h16=>?_)
  ·
   replace h16:=zI h16;refine qF (zS rfl rfl rfl (zH rfl qC rfl qZ rfl rfl) ?_);refine zS rfl rfl rfl (zR 1 rfl yP rfl rfl rfl) ?_;refine zS rfl rfl rfl (yK rfl rfl rfl (by simp;omega)) ?_;refine zS rfl rfl rfl (zH rfl qC rfl qZ rfl rfl) ?_;refine qN (v:=str (a.set++([48]))) (hs':=(_::bk_ p3 #[i6_ a.n,str (a.set++([48])),str a.rel] 24::_::hs)) 1 rfl rfl rfl rfl rfl rfl qZ rfl (by simp) rfl ?_;refine zM (qK ((a.n,a.set++([48]),a.rel,p_6)) ⟨⟨by (try dsimp only);omega,by (try dsimp only);omega⟩,by (try dsimp only);simp only [zQ,zT,zY,zZ];omega,by (try dsimp only);omega,by (try dsimp only);omega⟩ (Sub.sel [3,4] rfl) (fun _ h=>h.sub (zA _ (zA _ (zA _ (zP _))))))
  replace h16:=zG h16;refine zE (zB (zC 2 rfl (zJ (zD [0,3,4,6,22] [_,_,_,_,_] rfl ?_))));refine qH (b:=decide (k6=(2:Int))) rfl (fun h22=>?_) (fun h22=>?_)
  ·
   replace h22:=zI h22;refine jK (S:=Own B w0 [bk_ p4 #[i6_ 0,str ([]),str ([])] 24]) (.take 0 (.take 2 (.take 7 (.three 1 (.two 3 (.take 4 (.take 5 (.take 6 (.one 8 (.one 9 (.take 10 (.take 11 (.one 12 .done)))))))) 8 (.two 3 (.take 4 (.take 5 (.take 6 (.one 9 (.take 10 (.take 11 (.one 12 .done))))))) 9 (.one 3 (.take 4 (.take 5 (.take 6 (.take 10 (.take 11 (.one 12 .done))))))))) 3 (.take 4 (.take 5 (.two 1 (.take 6 (.one 8 (.one 9 (.take 10 (.take 11 (.one 12 .done)))))) 8 (.two 1 (.take 6 (.one 9 (.take 10 (.take 11 (.one 12 .done))))) 9 (.one 1 (.take 6 (.take 10 (.take 11 (.one 12 .done))))))))) 8 (.three 1 (.two 3 (.take 4 (.take 5 (.take 6 (.one 9 (.take 10 (.take 11 (.one 12 .done))))))) 9 (.one 3 (.take 4 (.take 5 (.take 6 (.take 10 (.take 11 (.one 12 .done)))))))) 3 (.take 4 (.take 5 (.two 1 (.take 6 (.one 9 (.take 10 (.take 11 (.one 12 .done))))) 9 (.one 1 (.take 6 (.take 10 (.take 11 (.one 12 .done)))))))) 9 (.two 1 (.one 3 (.take 4 (.take 5 (.take 6 (.take 10 (.take 11 (.one 12 .done))))))) 3 (.take 4 (.take 5 (.one 1 (.take 6 (.take 10 (.take 11 (.one 12 .done))))))))))))) yG (fun _ h=>h.drawn) (by kernel_rfl) ?_;refine zV rfl rfl rfl rfl rfl (zH rfl qC rfl qZ rfl rfl) (pk [0] rfl rfl) ?_;refine zV rfl rfl rfl rfl rfl (zH rfl qC rfl qZ rfl rfl) (pk [0] rfl rfl) ?_;refine vL 1 rfl (pk [0] rfl rfl) ?_;refine Lu.three rfl rfl rfl ?_ ?_ ?_
   ·
    refine zS rfl rfl rfl (zR 1 rfl yP rfl rfl rfl) ?_;refine zM (zL (pk [0] rfl rfl) ?_);refine yW rfl rfl ?_ ?_
    ·
     refine zS rfl rfl rfl (zR 1 rfl yP rfl rfl rfl) ?_;refine zM (zL (pk [0] rfl rfl) ?_);refine zV (v:=i6_ ((a.rel.length:Int))) rfl rfl rfl rfl rfl (xM rfl qI rfl) (pk [0] rfl rfl) ?_;refine zV rfl rfl rfl rfl rfl (jM rfl rfl rfl (by omega) (by omega)) (pk [0] rfl rfl) ?_;refine zV (v:=str (a.rel.take ((((a.rel.length:Int)) - (1:Int)).toNat))) rfl rfl rfl rfl rfl (xE rfl qR rfl rfl (by omega) (by omega)) (pk [0] rfl rfl) ?_;refine zX rfl (yS (xs:=[.const (str ([])),.const (str ([50])),.const (str ([48,49]))]) (vs:=[str ([]),str ([50]),str ([48,49])]) jP rfl rfl rfl rfl rfl rfl (by decide) rfl fun p32 hp32=>?_);refine zM (zL (pk [1] rfl rfl) ?_);refine zX rfl (yH (rp:=rp) (RT:=130) (p:=p_6) (bv:=bv) (hs:=hs) (ok:=fun (v:List UInt8) p'=>v∈(([[],[50],[48,49]]:List (List UInt8)))∧p'=p_6+1) (v:=fun (v:List UInt8)=>str v) (new:=fun (v:List UInt8)=>[]) (xs:=[.tmp 31,.tmp 32]) (vs:=[pt_ rp,sl_ p32 3 3]) ([bk_ p32 #[str ([]),str ([50]),str ([48,49])] 9,bk_ p4 #[i6_ 0,str ([]),str ([])] 24,bk_ p3 #[i6_ a.n,str a.set,str a.rel] 24]:List (Nat×Obj)) rfl rfl rfl rfl xS rfl (fun w1 hw1=>(of_ok B w0 (([bk_ p32 #[str ([]),str ([50]),str ([48,49])] 9,bk_ p4 #[i6_ 0,str ([]),str ([])] 24,bk_ p3 #[i6_ a.n,str a.set,str a.rel] 24]:List (Nat×Obj))++hs) rp p_6 bv L (sl_ p32 3 3) (([[],[50],[48,49]]:List (List UInt8))) w1 (fun w2 hw2=>hb w2 (qA (f:=([bk_ p32 #[str ([]),str ([50]),str ([48,49])] 9,bk_ p4 #[i6_ 0,str ([]),str ([])] 24,bk_ p3 #[i6_ a.n,str a.set,str a.rel] 24]:List (Nat×Obj))) hw2)) hL8 hL (fun w2 h2=>(xQ h2 (i:=0) rfl (n:=3) (cap:=3) (vs:=strs ([[],[50],[48,49]]:List (List UInt8))) rfl rfl (by decide))) (by simp) (by omega) hw1).mono fun en w' ⟨v',p',h1,h2,h3⟩=>⟨v',p',h1,h2,h3⟩) fun v33 p_33 hKp_33=>?_)
     show Ll _ _ (Own _ _ (_::_::_::_::hs)) _ _ ((33,str v33)::_) _ _ _
     obtain ⟨hmv33,hep_33⟩:=hKp_33;refine zM (zL (pk [1] rfl rfl) ?_)
     have hv33:v33.length≤2:=by simp at hmv33;rcases hmv33 with h | h | h <;> subst h <;> decide
     refine zV rfl rfl rfl rfl rfl (yK rfl rfl rfl (by simp only [zT];omega)) (pk [1] rfl rfl) ?_;refine zV rfl rfl rfl rfl rfl (zH rfl qC rfl qZ rfl rfl) (pk [1] rfl rfl) ?_;refine zX rfl (qN (v:=str ((a.rel.take ((((a.rel.length:Int)) - (1:Int)).toNat))++v33)) (hs':=(_::_::bk_ p3 #[i6_ a.n,str a.set,str ((a.rel.take ((((a.rel.length:Int)) - (1:Int)).toNat))++v33)] 24::_::hs)) 2 rfl rfl rfl rfl rfl rfl qZ rfl (by simp) rfl ?_);refine zM (zL (pk [1] rfl rfl) ?_);refine yL (qK ((a.n,a.set,(a.rel.take ((((a.rel.length:Int)) - (1:Int)).toNat))++v33,p_33)) ⟨⟨by (try dsimp only);omega,by (try dsimp only);omega⟩,by (try dsimp only);omega,by (try dsimp only);simp only [zQ,zT,zY,zZ];omega,by (try dsimp only);omega⟩ (Sub.sel [3,4] rfl) (fun _ h=>h.sub (qM _ (zA _ (zA _ (zA _ (zP _)))))))
    refine yS (xs:=[.const (str ([])),.const (str ([50])),.const (str ([48,49]))]) (vs:=[str ([]),str ([50]),str ([48,49])]) jP rfl rfl rfl rfl rfl rfl (by decide) rfl fun p32_1 hp32_1=>?_;refine zM (zL (pk [1] rfl rfl) ?_);refine yW rfl rfl ?_ ?_
    ·
     refine zS rfl rfl rfl (zR 2 rfl yP rfl rfl rfl) ?_;refine zM (zL (pk [1] rfl rfl) ?_);refine zV (v:=i6_ ((a.rel.length:Int))) rfl rfl rfl rfl rfl (xM rfl qI rfl) (pk [1] rfl rfl) ?_;refine zV rfl rfl rfl rfl rfl (jM rfl rfl rfl (by omega) (by omega)) (pk [1] rfl rfl) ?_;refine zV (v:=str (a.rel.take ((((a.rel.length:Int)) - (1:Int)).toNat))) rfl rfl rfl rfl rfl (xE rfl qR rfl rfl (by omega) (by omega)) (pk [1] rfl rfl) ?_;refine zX rfl (yH (rp:=rp) (RT:=130) (p:=p_6) (bv:=bv) (hs:=hs) (ok:=fun (v:List UInt8) p'=>v∈(([[],[50],[48,49]]:List (List UInt8)))∧p'=p_6+1) (v:=fun (v:List UInt8)=>str v) (new:=fun (v:List UInt8)=>[]) (xs:=[.tmp 31,.tmp 32]) (vs:=[pt_ rp,sl_ p32_1 3 3]) ([bk_ p32_1 #[str ([]),str ([50]),str ([48,49])] 9,bk_ p4 #[i6_ 0,str ([]),str ([])] 24,bk_ p3 #[i6_ a.n,str a.set,str a.rel] 24]:List (Nat×Obj)) rfl rfl rfl rfl xS rfl (fun w1 hw1=>(of_ok B w0 (([bk_ p32_1 #[str ([]),str ([50]),str ([48,49])] 9,bk_ p4 #[i6_ 0,str ([]),str ([])] 24,bk_ p3 #[i6_ a.n,str a.set,str a.rel] 24]:List (Nat×Obj))++hs) rp p_6 bv L (sl_ p32_1 3 3) (([[],[50],[48,49]]:List (List UInt8))) w1 (fun w2 hw2=>hb w2 (qA (f:=([bk_ p32_1 #[str ([]),str ([50]),str ([48,49])] 9,bk_ p4 #[i6_ 0,str ([]),str ([])] 24,bk_ p3 #[i6_ a.n,str a.set,str a.rel] 24]:List (Nat×Obj))) hw2)) hL8 hL (fun w2 h2=>(xQ h2 (i:=0) rfl (n:=3) (cap:=3) (vs:=strs ([[],[50],[48,49]]:List (List UInt8))) rfl rfl (by decide))) (by simp) (by omega) hw1).mono fun en w' ⟨v',p',h1,h2,h3⟩=>⟨v',p',h1,h2,h3⟩) fun v33_1 p_33_1 hKp_33_1=>?_)
     show Ll _ _ (Own _ _ (_::_::_::_::hs)) _ _ ((33,str v33_1)::_) _ _ _
     obtain ⟨hmv33_1,hep_33_1⟩:=hKp_33_1;refine zM (zL (pk [1] rfl rfl) ?_)
     have hv33:v33_1.length≤2:=by simp at hmv33_1;rcases hmv33_1 with h | h | h <;> subst h <;> decide
     refine zV rfl rfl rfl rfl rfl (yK rfl rfl rfl (by simp only [zT];omega)) (pk [1] rfl rfl) ?_;refine zV rfl rfl rfl rfl rfl (zH rfl qC rfl qZ rfl rfl) (pk [1] rfl rfl) ?_;refine zX rfl (qN (v:=str ((a.rel.take ((((a.rel.length:Int)) - (1:Int)).toNat))++v33_1)) (hs':=(_::_::bk_ p3 #[i6_ a.n,str a.set,str ((a.rel.take ((((a.rel.length:Int)) - (1:Int)).toNat))++v33_1)] 24::_::hs)) 2 rfl rfl rfl rfl rfl rfl qZ rfl (by simp) rfl ?_);refine zM (zL (pk [1] rfl rfl) ?_);refine yL (qK ((a.n,a.set,(a.rel.take ((((a.rel.length:Int)) - (1:Int)).toNat))++v33_1,p_33_1)) ⟨⟨by (try dsimp only);omega,by (try dsimp only);omega⟩,by (try dsimp only);omega,by (try dsimp only);simp only [zQ,zT,zY,zZ];omega,by (try dsimp only);omega⟩ (Sub.sel [3,4] rfl) (fun _ h=>h.sub (qM _ (zA _ (zA _ (zA _ (zP _)))))))
    refine yH (rp:=rp) (RT:=130) (p:=p_6) (bv:=bv) (hs:=hs) (ok:=fun (v:List UInt8) p'=>v∈(([[],[50],[48,49]]:List (List UInt8)))∧p'=p_6+1) (v:=fun (v:List UInt8)=>str v) (new:=fun (v:List UInt8)=>[]) (xs:=[.tmp 31,.tmp 32]) (vs:=[pt_ rp,sl_ p32_1 3 3]) ([bk_ p32_1 #[str ([]),str ([50]),str ([48,49])] 9,bk_ p4 #[i6_ 0,str ([]),str ([])] 24,bk_ p3 #[i6_ a.n,str a.set,str a.rel] 24]:List (Nat×Obj)) rfl rfl rfl rfl xS rfl (fun w1 hw1=>(of_ok B w0 (([bk_ p32_1 #[str ([]),str ([50]),str ([48,49])] 9,bk_ p4 #[i6_ 0,str ([]),str ([])] 24,bk_ p3 #[i6_ a.n,str a.set,str a.rel] 24]:List (Nat×Obj))++hs) rp p_6 bv L (sl_ p32_1 3 3) (([[],[50],[48,49]]:List (List UInt8))) w1 (fun w2 hw2=>hb w2 (qA (f:=([bk_ p32_1 #[str ([]),str ([50]),str ([48,49])] 9,bk_ p4 #[i6_ 0,str ([]),str ([])] 24,bk_ p3 #[i6_ a.n,str a.set,str a.rel] 24]:List (Nat×Obj))) hw2)) hL8 hL (fun w2 h2=>(xQ h2 (i:=0) rfl (n:=3) (cap:=3) (vs:=strs ([[],[50],[48,49]]:List (List UInt8))) rfl rfl (by decide))) (by simp) (by omega) hw1).mono fun en w' ⟨v',p',h1,h2,h3⟩=>⟨v',p',h1,h2,h3⟩) fun v33_2 p_33_2 hKp_33_2=>?_
    show Ll _ _ (Own _ _ (_::_::_::_::hs)) _ _ ((33,str v33_2)::_) _ _ _
    obtain ⟨hmv33_2,hep_33_2⟩:=hKp_33_2;refine zM (zL (pk [1] rfl rfl) ?_);refine zX rfl (zS rfl rfl rfl (zR 2 rfl yP rfl rfl rfl) ?_);refine zM (zL (pk [1] rfl rfl) ?_);refine zV (v:=i6_ ((a.rel.length:Int))) rfl rfl rfl rfl rfl (xM rfl qI rfl) (pk [1] rfl rfl) ?_;refine zV rfl rfl rfl rfl rfl (jM rfl rfl rfl (by omega) (by omega)) (pk [1] rfl rfl) ?_;refine zV (v:=str (a.rel.take ((((a.rel.length:Int)) - (1:Int)).toNat))) rfl rfl rfl rfl rfl (xE rfl qR rfl rfl (by omega) (by omega)) (pk [1] rfl rfl) ?_
    have hv33:v33_2.length≤2:=by simp at hmv33_2;rcases hmv33_2 with h | h | h <;> subst h <;> decide
    refine zV rfl rfl rfl rfl rfl (yK rfl rfl rfl (by simp only [zT];omega)) (pk [1] rfl rfl) ?_;refine zV rfl rfl rfl rfl rfl (zH rfl qC rfl qZ rfl rfl) (pk [1] rfl rfl) ?_;refine zX rfl (qN (v:=str ((a.rel.take ((((a.rel.length:Int)) - (1:Int)).toNat))++v33_2)) (hs':=(_::_::bk_ p3 #[i6_ a.n,str a.set,str ((a.rel.take ((((a.rel.length:Int)) - (1:Int)).toNat))++v33_2)] 24::_::hs)) 2 rfl rfl rfl rfl rfl rfl qZ rfl (by simp) rfl ?_);refine zM (zL (pk [1] rfl rfl) ?_);refine yL (qK ((a.n,a.set,(a.rel.take ((((a.rel.length:Int)) - (1:Int)).toNat))++v33_2,p_33_2)) ⟨⟨by (try dsimp only);omega,by (try dsimp only);omega⟩,by (try dsimp only);omega,by (try dsimp only);simp only [zQ,zT,zY,zZ];omega,by (try dsimp only);omega⟩ (Sub.sel [3,4] rfl) (fun _ h=>h.sub (qM _ (zA _ (zA _ (zA _ (zP _)))))))
   ·
    refine zS rfl rfl rfl (zR 1 rfl yP rfl rfl rfl) ?_;refine zM (zL (pk [0] rfl rfl) ?_);refine zV (v:=i6_ ((a.rel.length:Int))) rfl rfl rfl rfl rfl (xM rfl qI rfl) (pk [0] rfl rfl) ?_;refine zV rfl rfl rfl rfl rfl (jM rfl rfl rfl (by omega) (by omega)) (pk [0] rfl rfl) ?_;refine yW rfl rfl ?_ ?_
    ·
     refine zS rfl rfl rfl (zR 1 rfl yP rfl rfl rfl) ?_;refine zM (zL (pk [0] rfl rfl) ?_);refine zV (v:=str (a.rel.take ((((a.rel.length:Int)) - (1:Int)).toNat))) rfl rfl rfl rfl rfl (xE rfl qR rfl rfl (by omega) (by omega)) (pk [0] rfl rfl) ?_;refine zX rfl (yS (xs:=[.const (str ([])),.const (str ([50])),.const (str ([48,49]))]) (vs:=[str ([]),str ([50]),str ([48,49])]) jP rfl rfl rfl rfl rfl rfl (by decide) rfl fun p32_2 hp32_2=>?_);refine zM (zL (pk [1] rfl rfl) ?_);refine zX rfl (yH (rp:=rp) (RT:=130) (p:=p_6) (bv:=bv) (hs:=hs) (ok:=fun (v:List UInt8) p'=>v∈(([[],[50],[48,49]]:List (List UInt8)))∧p'=p_6+1) (v:=fun (v:List UInt8)=>str v) (new:=fun (v:List UInt8)=>[]) (xs:=[.tmp 31,.tmp 32]) (vs:=[pt_ rp,sl_ p32_2 3 3]) ([bk_ p32_2 #[str ([]),str ([50]),str ([48,49])] 9,bk_ p4 #[i6_ 0,str ([]),str ([])] 24,bk_ p3 #[i6_ a.n,str a.set,str a.rel] 24]:List (Nat×Obj)) rfl rfl rfl rfl xS rfl (fun w1 hw1=>(of_ok B w0 (([bk_ p32_2 #[str ([]),str ([50]),str ([48,49])] 9,bk_ p4 #[i6_ 0,str ([]),str ([])] 24,bk_ p3 #[i6_ a.n,str a.set,str a.rel] 24]:List (Nat×Obj))++hs) rp p_6 bv L (sl_ p32_2 3 3) (([[],[50],[48,49]]:List (List UInt8))) w1 (fun w2 hw2=>hb w2 (qA (f:=([bk_ p32_2 #[str ([]),str ([50]),str ([48,49])] 9,bk_ p4 #[i6_ 0,str ([]),str ([])] 24,bk_ p3 #[i6_ a.n,str a.set,str a.rel] 24]:List (Nat×Obj))) hw2)) hL8 hL (fun w2 h2=>(xQ h2 (i:=0) rfl (n:=3) (cap:=3) (vs:=strs ([[],[50],[48,49]]:List (List UInt8))) rfl rfl (by decide))) (by simp) (by omega) hw1).mono fun en w' ⟨v',p',h1,h2,h3⟩=>⟨v',p',h1,h2,h3⟩) fun v33_3 p_33_3 hKp_33_3=>?_)
     show Ll _ _ (Own _ _ (_::_::_::_::hs)) _ _ ((33,str v33_3)::_) _ _ _
     obtain ⟨hmv33_3,hep_33_3⟩:=hKp_33_3;refine zM (zL (pk [1] rfl rfl) ?_)
     have hv33:v33_3.length≤2:=by simp at hmv33_3;rcases hmv33_3 with h | h | h <;> subst h <;> decide
     refine zV rfl rfl rfl rfl rfl (yK rfl rfl rfl (by simp only [zT];omega)) (pk [1] rfl rfl) ?_;refine zV rfl rfl rfl rfl rfl (zH rfl qC rfl qZ rfl rfl) (pk [1] rfl rfl) ?_;refine zX rfl (qN (v:=str ((a.rel.take ((((a.rel.length:Int)) - (1:Int)).toNat))++v33_3)) (hs':=(_::_::bk_ p3 #[i6_ a.n,str a.set,str ((a.rel.take ((((a.rel.length:Int)) - (1:Int)).toNat))++v33_3)] 24::_::hs)) 2 rfl rfl rfl rfl rfl rfl qZ rfl (by simp) rfl ?_);refine zM (zL (pk [1] rfl rfl) ?_);refine yL (qK ((a.n,a.set,(a.rel.take ((((a.rel.length:Int)) - (1:Int)).toNat))++v33_3,p_33_3)) ⟨⟨by (try dsimp only);omega,by (try dsimp only);omega⟩,by (try dsimp only);omega,by (try dsimp only);simp only [zQ,zT,zY,zZ];omega,by (try dsimp only);omega⟩ (Sub.sel [3,4] rfl) (fun _ h=>h.sub (qM _ (zA _ (zA _ (zA _ (zP _)))))))
    refine yS (xs:=[.const (str ([])),.const (str ([50])),.const (str ([48,49]))]) (vs:=[str ([]),str ([50]),str ([48,49])]) jP rfl rfl rfl rfl rfl rfl (by decide) rfl fun p32_3 hp32_3=>?_;refine zM (zL (pk [1] rfl rfl) ?_);refine yW rfl rfl ?_ ?_
    ·
     refine zS rfl rfl rfl (zR 2 rfl yP rfl rfl rfl) ?_;refine zM (zL (pk [1] rfl rfl) ?_);refine zV (v:=str (a.rel.take ((((a.rel.length:Int)) - (1:Int)).toNat))) rfl rfl rfl rfl rfl (xE rfl qR rfl rfl (by omega) (by omega)) (pk [1] rfl rfl) ?_;refine zX rfl (yH (rp:=rp) (RT:=130) (p:=p_6) (bv:=bv) (hs:=hs) (ok:=fun (v:List UInt8) p'=>v∈(([[],[50],[48,49]]:List (List UInt8)))∧p'=p_6+1) (v:=fun (v:List UInt8)=>str v) (new:=fun (v:List UInt8)=>[]) (xs:=[.tmp 31,.tmp 32]) (vs:=[pt_ rp,sl_ p32_3 3 3]) ([bk_ p32_3 #[str ([]),str ([50]),str ([48,49])] 9,bk_ p4 #[i6_ 0,str ([]),str ([])] 24,bk_ p3 #[i6_ a.n,str a.set,str a.rel] 24]:List (Nat×Obj)) rfl rfl rfl rfl xS rfl (fun w1 hw1=>(of_ok B w0 (([bk_ p32_3 #[str ([]),str ([50]),str ([48,49])] 9,bk_ p4 #[i6_ 0,str ([]),str ([])] 24,bk_ p3 #[i6_ a.n,str a.set,str a.rel] 24]:List (Nat×Obj))++hs) rp p_6 bv L (sl_ p32_3 3 3) (([[],[50],[48,49]]:List (List UInt8))) w1 (fun w2 hw2=>hb w2 (qA (f:=([bk_ p32_3 #[str ([]),str ([50]),str ([48,49])] 9,bk_ p4 #[i6_ 0,str ([]),str ([])] 24,bk_ p3 #[i6_ a.n,str a.set,str a.rel] 24]:List (Nat×Obj))) hw2)) hL8 hL (fun w2 h2=>(xQ h2 (i:=0) rfl (n:=3) (cap:=3) (vs:=strs ([[],[50],[48,49]]:List (List UInt8))) rfl rfl (by decide))) (by simp) (by omega) hw1).mono fun en w' ⟨v',p',h1,h2,h3⟩=>⟨v',p',h1,h2,h3⟩) fun v33_4 p_33_4 hKp_33_4=>?_)
     show Ll _ _ (Own _ _ (_::_::_::_::hs)) _ _ ((33,str v33_4)::_) _ _ _
     obtain ⟨hmv33_4,hep_33_4⟩:=hKp_33_4;refine zM (zL (pk [1] rfl rfl) ?_)
     have hv33:v33_4.length≤2:=by simp at hmv33_4;rcases hmv33_4 with h | h | h <;> subst h <;> decide
     refine zV rfl rfl rfl rfl rfl (yK rfl rfl rfl (by simp only [zT];omega)) (pk [1] rfl rfl) ?_;refine zV rfl rfl rfl rfl rfl (zH rfl qC rfl qZ rfl rfl) (pk [1] rfl rfl) ?_;refine zX rfl (qN (v:=str ((a.rel.take ((((a.rel.length:Int)) - (1:Int)).toNat))++v33_4)) (hs':=(_::_::bk_ p3 #[i6_ a.n,str a.set,str ((a.rel.take ((((a.rel.length:Int)) - (1:Int)).toNat))++v33_4)] 24::_::hs)) 2 rfl rfl rfl rfl rfl rfl qZ rfl (by simp) rfl ?_);refine zM (zL (pk [1] rfl rfl) ?_);refine yL (qK ((a.n,a.set,(a.rel.take ((((a.rel.length:Int)) - (1:Int)).toNat))++v33_4,p_33_4)) ⟨⟨by (try dsimp only);omega,by (try dsimp only);omega⟩,by (try dsimp only);omega,by (try dsimp only);simp only [zQ,zT,zY,zZ];omega,by (try dsimp only);omega⟩ (Sub.sel [3,4] rfl) (fun _ h=>h.sub (qM _ (zA _ (zA _ (zA _ (zP _)))))))
    refine yH (rp:=rp) (RT:=130) (p:=p_6) (bv:=bv) (hs:=hs) (ok:=fun (v:List UInt8) p'=>v∈(([[],[50],[48,49]]:List (List UInt8)))∧p'=p_6+1) (v:=fun (v:List UInt8)=>str v) (new:=fun (v:List UInt8)=>[]) (xs:=[.tmp 31,.tmp 32]) (vs:=[pt_ rp,sl_ p32_3 3 3]) ([bk_ p32_3 #[str ([]),str ([50]),str ([48,49])] 9,bk_ p4 #[i6_ 0,str ([]),str ([])] 24,bk_ p3 #[i6_ a.n,str a.set,str a.rel] 24]:List (Nat×Obj)) rfl rfl rfl rfl xS rfl (fun w1 hw1=>(of_ok B w0 (([bk_ p32_3 #[str ([]),str ([50]),str ([48,49])] 9,bk_ p4 #[i6_ 0,str ([]),str ([])] 24,bk_ p3 #[i6_ a.n,str a.set,str a.rel] 24]:List (Nat×Obj))++hs) rp p_6 bv L (sl_ p32_3 3 3) (([[],[50],[48,49]]:List (List UInt8))) w1 (fun w2 hw2=>hb w2 (qA (f:=([bk_ p32_3 #[str ([]),str ([50]),str ([48,49])] 9,bk_ p4 #[i6_ 0,str ([]),str ([])] 24,bk_ p3 #[i6_ a.n,str a.set,str a.rel] 24]:List (Nat×Obj))) hw2)) hL8 hL (fun w2 h2=>(xQ h2 (i:=0) rfl (n:=3) (cap:=3) (vs:=strs ([[],[50],[48,49]]:List (List UInt8))) rfl rfl (by decide))) (by simp) (by omega) hw1).mono fun en w' ⟨v',p',h1,h2,h3⟩=>⟨v',p',h1,h2,h3⟩) fun v33_5 p_33_5 hKp_33_5=>?_
    show Ll _ _ (Own _ _ (_::_::_::_::hs)) _ _ ((33,str v33_5)::_) _ _ _
    obtain ⟨hmv33_5,hep_33_5⟩:=hKp_33_5;refine zM (zL (pk [1] rfl rfl) ?_);refine zX rfl (zS rfl rfl rfl (zR 2 rfl yP rfl rfl rfl) ?_);refine zM (zL (pk [1] rfl rfl) ?_);refine zV (v:=str (a.rel.take ((((a.rel.length:Int)) - (1:Int)).toNat))) rfl rfl rfl rfl rfl (xE rfl qR rfl rfl (by omega) (by omega)) (pk [1] rfl rfl) ?_
    have hv33:v33_5.length≤2:=by simp at hmv33_5;rcases hmv33_5 with h | h | h <;> subst h <;> decide
    refine zV rfl rfl rfl rfl rfl (yK rfl rfl rfl (by simp only [zT];omega)) (pk [1] rfl rfl) ?_;refine zV rfl rfl rfl rfl rfl (zH rfl qC rfl qZ rfl rfl) (pk [1] rfl rfl) ?_;refine zX rfl (qN (v:=str ((a.rel.take ((((a.rel.length:Int)) - (1:Int)).toNat))++v33_5)) (hs':=(_::_::bk_ p3 #[i6_ a.n,str a.set,str ((a.rel.take ((((a.rel.length:Int)) - (1:Int)).toNat))++v33_5)] 24::_::hs)) 2 rfl rfl rfl rfl rfl rfl qZ rfl (by simp) rfl ?_);refine zM (zL (pk [1] rfl rfl) ?_);refine yL (qK ((a.n,a.set,(a.rel.take ((((a.rel.length:Int)) - (1:Int)).toNat))++v33_5,p_33_5)) ⟨⟨by (try dsimp only);omega,by (try dsimp only);omega⟩,by (try dsimp only);omega,by (try dsimp only);simp only [zQ,zT,zY,zZ];omega,by (try dsimp only);omega⟩ (Sub.sel [3,4] rfl) (fun _ h=>h.sub (qM _ (zA _ (zA _ (zA _ (zP _)))))))
   refine yS (xs:=[.const (str ([])),.const (str ([50])),.const (str ([48,49]))]) (vs:=[str ([]),str ([50]),str ([48,49])]) jP rfl rfl rfl rfl rfl rfl (by decide) rfl fun p32_4 hp32_4=>?_;refine zM (zL (pk [1] rfl rfl) ?_);refine Lu.three rfl rfl rfl ?_ ?_ ?_
   ·
    refine zS rfl rfl rfl (zR 2 rfl yP rfl rfl rfl) ?_;refine zM (zL (pk [1] rfl rfl) ?_);refine yW rfl rfl ?_ ?_
    ·
     refine zS rfl rfl rfl (zR 2 rfl yP rfl rfl rfl) ?_;refine zM (zL (pk [1] rfl rfl) ?_);refine zV (v:=i6_ ((a.rel.length:Int))) rfl rfl rfl rfl rfl (xM rfl qI rfl) (pk [1] rfl rfl) ?_;refine zV rfl rfl rfl rfl rfl (jM rfl rfl rfl (by omega) (by omega)) (pk [1] rfl rfl) ?_;refine zV (v:=str (a.rel.take ((((a.rel.length:Int)) - (1:Int)).toNat))) rfl rfl rfl rfl rfl (xE rfl qR rfl rfl (by omega) (by omega)) (pk [1] rfl rfl) ?_;refine zX rfl (yH (rp:=rp) (RT:=130) (p:=p_6) (bv:=bv) (hs:=hs) (ok:=fun (v:List UInt8) p'=>v∈(([[],[50],[48,49]]:List (List UInt8)))∧p'=p_6+1) (v:=fun (v:List UInt8)=>str v) (new:=fun (v:List UInt8)=>[]) (xs:=[.tmp 31,.tmp 32]) (vs:=[pt_ rp,sl_ p32_4 3 3]) ([bk_ p32_4 #[str ([]),str ([50]),str ([48,49])] 9,bk_ p4 #[i6_ 0,str ([]),str ([])] 24,bk_ p3 #[i6_ a.n,str a.set,str a.rel] 24]:List (Nat×Obj)) rfl rfl rfl rfl xS rfl (fun w1 hw1=>(of_ok B w0 (([bk_ p32_4 #[str ([]),str ([50]),str ([48,49])] 9,bk_ p4 #[i6_ 0,str ([]),str ([])] 24,bk_ p3 #[i6_ a.n,str a.set,str a.rel] 24]:List (Nat×Obj))++hs) rp p_6 bv L (sl_ p32_4 3 3) (([[],[50],[48,49]]:List (List UInt8))) w1 (fun w2 hw2=>hb w2 (qA (f:=([bk_ p32_4 #[str ([]),str ([50]),str ([48,49])] 9,bk_ p4 #[i6_ 0,str ([]),str ([])] 24,bk_ p3 #[i6_ a.n,str a.set,str a.rel] 24]:List (Nat×Obj))) hw2)) hL8 hL (fun w2 h2=>(xQ h2 (i:=0) rfl (n:=3) (cap:=3) (vs:=strs ([[],[50],[48,49]]:List (List UInt8))) rfl rfl (by decide))) (by simp) (by omega) hw1).mono fun en w' ⟨v',p',h1,h2,h3⟩=>⟨v',p',h1,h2,h3⟩) fun v33_6 p_33_6 hKp_33_6=>?_)
     show Ll _ _ (Own _ _ (_::_::_::_::hs)) _ _ ((33,str v33_6)::_) _ _ _
     obtain ⟨hmv33_6,hep_33_6⟩:=hKp_33_6;refine zM (zL (pk [1] rfl rfl) ?_)
     have hv33:v33_6.length≤2:=by simp at hmv33_6;rcases hmv33_6 with h | h | h <;> subst h <;> decide
     refine zV rfl rfl rfl rfl rfl (yK rfl rfl rfl (by simp only [zT];omega)) (pk [1] rfl rfl) ?_;refine zV rfl rfl rfl rfl rfl (zH rfl qC rfl qZ rfl rfl) (pk [1] rfl rfl) ?_;refine zX rfl (qN (v:=str ((a.rel.take ((((a.rel.length:Int)) - (1:Int)).toNat))++v33_6)) (hs':=(_::_::bk_ p3 #[i6_ a.n,str a.set,str ((a.rel.take ((((a.rel.length:Int)) - (1:Int)).toNat))++v33_6)] 24::_::hs)) 2 rfl rfl rfl rfl rfl rfl qZ rfl (by simp) rfl ?_);refine zM (zL (pk [1] rfl rfl) ?_);refine yL (qK ((a.n,a.set,(a.rel.take ((((a.rel.length:Int)) - (1:Int)).toNat))++v33_6,p_33_6)) ⟨⟨by (try dsimp only);omega,by (try dsimp only);omega⟩,by (try dsimp only);omega,by (try dsimp only);simp only [zQ,zT,zY,zZ];omega,by (try dsimp only);omega⟩ (Sub.sel [3,4] rfl) (fun _ h=>h.sub (qM _ (zA _ (zA _ (zA _ (zP _)))))))
    refine yH (rp:=rp) (RT:=130) (p:=p_6) (bv:=bv) (hs:=hs) (ok:=fun (v:List UInt8) p'=>v∈(([[],[50],[48,49]]:List (List UInt8)))∧p'=p_6+1) (v:=fun (v:List UInt8)=>str v) (new:=fun (v:List UInt8)=>[]) (xs:=[.tmp 31,.tmp 32]) (vs:=[pt_ rp,sl_ p32_4 3 3]) ([bk_ p32_4 #[str ([]),str ([50]),str ([48,49])] 9,bk_ p4 #[i6_ 0,str ([]),str ([])] 24,bk_ p3 #[i6_ a.n,str a.set,str a.rel] 24]:List (Nat×Obj)) rfl rfl rfl rfl xS rfl (fun w1 hw1=>(of_ok B w0 (([bk_ p32_4 #[str ([]),str ([50]),str ([48,49])] 9,bk_ p4 #[i6_ 0,str ([]),str ([])] 24,bk_ p3 #[i6_ a.n,str a.set,str a.rel] 24]:List (Nat×Obj))++hs) rp p_6 bv L (sl_ p32_4 3 3) (([[],[50],[48,49]]:List (List UInt8))) w1 (fun w2 hw2=>hb w2 (qA (f:=([bk_ p32_4 #[str ([]),str ([50]),str ([48,49])] 9,bk_ p4 #[i6_ 0,str ([]),str ([])] 24,bk_ p3 #[i6_ a.n,str a.set,str a.rel] 24]:List (Nat×Obj))) hw2)) hL8 hL (fun w2 h2=>(xQ h2 (i:=0) rfl (n:=3) (cap:=3) (vs:=strs ([[],[50],[48,49]]:List (List UInt8))) rfl rfl (by decide))) (by simp) (by omega) hw1).mono fun en w' ⟨v',p',h1,h2,h3⟩=>⟨v',p',h1,h2,h3⟩) fun v33_7 p_33_7 hKp_33_7=>?_
    show Ll _ _ (Own _ _ (_::_::_::_::hs)) _ _ ((33,str v33_7)::_) _ _ _
    obtain ⟨hmv33_7,hep_33_7⟩:=hKp_33_7;refine zM (zL (pk [1] rfl rfl) ?_);refine zX rfl (zS rfl rfl rfl (zR 2 rfl yP rfl rfl rfl) ?_);refine zM (zL (pk [1] rfl rfl) ?_);refine zV (v:=i6_ ((a.rel.length:Int))) rfl rfl rfl rfl rfl (xM rfl qI rfl) (pk [1] rfl rfl) ?_;refine zV rfl rfl rfl rfl rfl (jM rfl rfl rfl (by omega) (by omega)) (pk [1] rfl rfl) ?_;refine zV (v:=str (a.rel.take ((((a.rel.length:Int)) - (1:Int)).toNat))) rfl rfl rfl rfl rfl (xE rfl qR rfl rfl (by omega) (by omega)) (pk [1] rfl rfl) ?_
    have hv33:v33_7.length≤2:=by simp at hmv33_7;rcases hmv33_7 with h | h | h <;> subst h <;> decide
    refine zV rfl rfl rfl rfl rfl (yK rfl rfl rfl (by simp only [zT];omega)) (pk [1] rfl rfl) ?_;refine zV rfl rfl rfl rfl rfl (zH rfl qC rfl qZ rfl rfl) (pk [1] rfl rfl) ?_;refine zX rfl (qN (v:=str ((a.rel.take ((((a.rel.length:Int)) - (1:Int)).toNat))++v33_7)) (hs':=(_::_::bk_ p3 #[i6_ a.n,str a.set,str ((a.rel.take ((((a.rel.length:Int)) - (1:Int)).toNat))++v33_7)] 24::_::hs)) 2 rfl rfl rfl rfl rfl rfl qZ rfl (by simp) rfl ?_);refine zM (zL (pk [1] rfl rfl) ?_);refine yL (qK ((a.n,a.set,(a.rel.take ((((a.rel.length:Int)) - (1:Int)).toNat))++v33_7,p_33_7)) ⟨⟨by (try dsimp only);omega,by (try dsimp only);omega⟩,by (try dsimp only);omega,by (try dsimp only);simp only [zQ,zT,zY,zZ];omega,by (try dsimp only);omega⟩ (Sub.sel [3,4] rfl) (fun _ h=>h.sub (qM _ (zA _ (zA _ (zA _ (zP _)))))))
   ·
    refine zS rfl rfl rfl (zR 2 rfl yP rfl rfl rfl) ?_;refine zM (zL (pk [1] rfl rfl) ?_);refine zV (v:=i6_ ((a.rel.length:Int))) rfl rfl rfl rfl rfl (xM rfl qI rfl) (pk [1] rfl rfl) ?_;refine zV rfl rfl rfl rfl rfl (jM rfl rfl rfl (by omega) (by omega)) (pk [1] rfl rfl) ?_;refine yW rfl rfl ?_ ?_
    ·
     refine zS rfl rfl rfl (zR 2 rfl yP rfl rfl rfl) ?_;refine zM (zL (pk [1] rfl rfl) ?_);refine zV (v:=str (a.rel.take ((((a.rel.length:Int)) - (1:Int)).toNat))) rfl rfl rfl rfl rfl (xE rfl qR rfl rfl (by omega) (by omega)) (pk [1] rfl rfl) ?_;refine zX rfl (yH (rp:=rp) (RT:=130) (p:=p_6) (bv:=bv) (hs:=hs) (ok:=fun (v:List UInt8) p'=>v∈(([[],[50],[48,49]]:List (List UInt8)))∧p'=p_6+1) (v:=fun (v:List UInt8)=>str v) (new:=fun (v:List UInt8)=>[]) (xs:=[.tmp 31,.tmp 32]) (vs:=[pt_ rp,sl_ p32_4 3 3]) ([bk_ p32_4 #[str ([]),str ([50]),str ([48,49])] 9,bk_ p4 #[i6_ 0,str ([]),str ([])] 24,bk_ p3 #[i6_ a.n,str a.set,str a.rel] 24]:List (Nat×Obj)) rfl rfl rfl rfl xS rfl (fun w1 hw1=>(of_ok B w0 (([bk_ p32_4 #[str ([]),str ([50]),str ([48,49])] 9,bk_ p4 #[i6_ 0,str ([]),str ([])] 24,bk_ p3 #[i6_ a.n,str a.set,str a.rel] 24]:List (Nat×Obj))++hs) rp p_6 bv L (sl_ p32_4 3 3) (([[],[50],[48,49]]:List (List UInt8))) w1 (fun w2 hw2=>hb w2 (qA (f:=([bk_ p32_4 #[str ([]),str ([50]),str ([48,49])] 9,bk_ p4 #[i6_ 0,str ([]),str ([])] 24,bk_ p3 #[i6_ a.n,str a.set,str a.rel] 24]:List (Nat×Obj))) hw2)) hL8 hL (fun w2 h2=>(xQ h2 (i:=0) rfl (n:=3) (cap:=3) (vs:=strs ([[],[50],[48,49]]:List (List UInt8))) rfl rfl (by decide))) (by simp) (by omega) hw1).mono fun en w' ⟨v',p',h1,h2,h3⟩=>⟨v',p',h1,h2,h3⟩) fun v33_8 p_33_8 hKp_33_8=>?_)
     show Ll _ _ (Own _ _ (_::_::_::_::hs)) _ _ ((33,str v33_8)::_) _ _ _
     obtain ⟨hmv33_8,hep_33_8⟩:=hKp_33_8;refine zM (zL (pk [1] rfl rfl) ?_)
     have hv33:v33_8.length≤2:=by simp at hmv33_8;rcases hmv33_8 with h | h | h <;> subst h <;> decide
     refine zV rfl rfl rfl rfl rfl (yK rfl rfl rfl (by simp only [zT];omega)) (pk [1] rfl rfl) ?_;refine zV rfl rfl rfl rfl rfl (zH rfl qC rfl qZ rfl rfl) (pk [1] rfl rfl) ?_;refine zX rfl (qN (v:=str ((a.rel.take ((((a.rel.length:Int)) - (1:Int)).toNat))++v33_8)) (hs':=(_::_::bk_ p3 #[i6_ a.n,str a.set,str ((a.rel.take ((((a.rel.length:Int)) - (1:Int)).toNat))++v33_8)] 24::_::hs)) 2 rfl rfl rfl rfl rfl rfl qZ rfl (by simp) rfl ?_);refine zM (zL (pk [1] rfl rfl) ?_);refine yL (qK ((a.n,a.set,(a.rel.take ((((a.rel.length:Int)) - (1:Int)).toNat))++v33_8,p_33_8)) ⟨⟨by (try dsimp only);omega,by (try dsimp only);omega⟩,by (try dsimp only);omega,by (try dsimp only);simp only [zQ,zT,zY,zZ];omega,by (try dsimp only);omega⟩ (Sub.sel [3,4] rfl) (fun _ h=>h.sub (qM _ (zA _ (zA _ (zA _ (zP _)))))))
    refine yH (rp:=rp) (RT:=130) (p:=p_6) (bv:=bv) (hs:=hs) (ok:=fun (v:List UInt8) p'=>v∈(([[],[50],[48,49]]:List (List UInt8)))∧p'=p_6+1) (v:=fun (v:List UInt8)=>str v) (new:=fun (v:List UInt8)=>[]) (xs:=[.tmp 31,.tmp 32]) (vs:=[pt_ rp,sl_ p32_4 3 3]) ([bk_ p32_4 #[str ([]),str ([50]),str ([48,49])] 9,bk_ p4 #[i6_ 0,str ([]),str ([])] 24,bk_ p3 #[i6_ a.n,str a.set,str a.rel] 24]:List (Nat×Obj)) rfl rfl rfl rfl xS rfl (fun w1 hw1=>(of_ok B w0 (([bk_ p32_4 #[str ([]),str ([50]),str ([48,49])] 9,bk_ p4 #[i6_ 0,str ([]),str ([])] 24,bk_ p3 #[i6_ a.n,str a.set,str a.rel] 24]:List (Nat×Obj))++hs) rp p_6 bv L (sl_ p32_4 3 3) (([[],[50],[48,49]]:List (List UInt8))) w1 (fun w2 hw2=>hb w2 (qA (f:=([bk_ p32_4 #[str ([]),str ([50]),str ([48,49])] 9,bk_ p4 #[i6_ 0,str ([]),str ([])] 24,bk_ p3 #[i6_ a.n,str a.set,str a.rel] 24]:List (Nat×Obj))) hw2)) hL8 hL (fun w2 h2=>(xQ h2 (i:=0) rfl (n:=3) (cap:=3) (vs:=strs ([[],[50],[48,49]]:List (List UInt8))) rfl rfl (by decide))) (by simp) (by omega) hw1).mono fun en w' ⟨v',p',h1,h2,h3⟩=>⟨v',p',h1,h2,h3⟩) fun v33_9 p_33_9 hKp_33_9=>?_
    show Ll _ _ (Own _ _ (_::_::_::_::hs)) _ _ ((33,str v33_9)::_) _ _ _
    obtain ⟨hmv33_9,hep_33_9⟩:=hKp_33_9;refine zM (zL (pk [1] rfl rfl) ?_);refine zX rfl (zS rfl rfl rfl (zR 2 rfl yP rfl rfl rfl) ?_);refine zM (zL (pk [1] rfl rfl) ?_);refine zV (v:=str (a.rel.take ((((a.rel.length:Int)) - (1:Int)).toNat))) rfl rfl rfl rfl rfl (xE rfl qR rfl rfl (by omega) (by omega)) (pk [1] rfl rfl) ?_
    have hv33:v33_9.length≤2:=by simp at hmv33_9;rcases hmv33_9 with h | h | h <;> subst h <;> decide
    refine zV rfl rfl rfl rfl rfl (yK rfl rfl rfl (by simp only [zT];omega)) (pk [1] rfl rfl) ?_;refine zV rfl rfl rfl rfl rfl (zH rfl qC rfl qZ rfl rfl) (pk [1] rfl rfl) ?_;refine zX rfl (qN (v:=str ((a.rel.take ((((a.rel.length:Int)) - (1:Int)).toNat))++v33_9)) (hs':=(_::_::bk_ p3 #[i6_ a.n,str a.set,str ((a.rel.take ((((a.rel.length:Int)) - (1:Int)).toNat))++v33_9)] 24::_::hs)) 2 rfl rfl rfl rfl rfl rfl qZ rfl (by simp) rfl ?_);refine zM (zL (pk [1] rfl rfl) ?_);refine yL (qK ((a.n,a.set,(a.rel.take ((((a.rel.length:Int)) - (1:Int)).toNat))++v33_9,p_33_9)) ⟨⟨by (try dsimp only);omega,by (try dsimp only);omega⟩,by (try dsimp only);omega,by (try dsimp only);simp only [zQ,zT,zY,zZ];omega,by (try dsimp only);omega⟩ (Sub.sel [3,4] rfl) (fun _ h=>h.sub (qM _ (zA _ (zA _ (zA _ (zP _)))))))
   refine yH (rp:=rp) (RT:=130) (p:=p_6) (bv:=bv) (hs:=hs) (ok:=fun (v:List UInt8) p'=>v∈(([[],[50],[48,49]]:List (List UInt8)))∧p'=p_6+1) (v:=fun (v:List UInt8)=>str v) (new:=fun (v:List UInt8)=>[]) (xs:=[.tmp 31,.tmp 32]) (vs:=[pt_ rp,sl_ p32_4 3 3]) ([bk_ p32_4 #[str ([]),str ([50]),str ([48,49])] 9,bk_ p4 #[i6_ 0,str ([]),str ([])] 24,bk_ p3 #[i6_ a.n,str a.set,str a.rel] 24]:List (Nat×Obj)) rfl rfl rfl rfl xS rfl (fun w1 hw1=>(of_ok B w0 (([bk_ p32_4 #[str ([]),str ([50]),str ([48,49])] 9,bk_ p4 #[i6_ 0,str ([]),str ([])] 24,bk_ p3 #[i6_ a.n,str a.set,str a.rel] 24]:List (Nat×Obj))++hs) rp p_6 bv L (sl_ p32_4 3 3) (([[],[50],[48,49]]:List (List UInt8))) w1 (fun w2 hw2=>hb w2 (qA (f:=([bk_ p32_4 #[str ([]),str ([50]),str ([48,49])] 9,bk_ p4 #[i6_ 0,str ([]),str ([])] 24,bk_ p3 #[i6_ a.n,str a.set,str a.rel] 24]:List (Nat×Obj))) hw2)) hL8 hL (fun w2 h2=>(xQ h2 (i:=0) rfl (n:=3) (cap:=3) (vs:=strs ([[],[50],[48,49]]:List (List UInt8))) rfl rfl (by decide))) (by simp) (by omega) hw1).mono fun en w' ⟨v',p',h1,h2,h3⟩=>⟨v',p',h1,h2,h3⟩) fun v33_10 p_33_10 hKp_33_10=>?_
   show Ll _ _ (Own _ _ (_::_::_::_::hs)) _ _ ((33,str v33_10)::_) _ _ _
   obtain ⟨hmv33_10,hep_33_10⟩:=hKp_33_10;refine zM (zL (pk [1] rfl rfl) ?_);refine yW rfl rfl ?_ ?_
   ·
    refine zS rfl rfl rfl (zR 2 rfl yP rfl rfl rfl) ?_;refine zM (zL (pk [1] rfl rfl) ?_);refine zX rfl (zS rfl rfl rfl (zR 2 rfl yP rfl rfl rfl) ?_);refine zM (zL (pk [1] rfl rfl) ?_);refine zV (v:=i6_ ((a.rel.length:Int))) rfl rfl rfl rfl rfl (xM rfl qI rfl) (pk [1] rfl rfl) ?_;refine zV rfl rfl rfl rfl rfl (jM rfl rfl rfl (by omega) (by omega)) (pk [1] rfl rfl) ?_;refine zV (v:=str (a.rel.take ((((a.rel.length:Int)) - (1:Int)).toNat))) rfl rfl rfl rfl rfl (xE rfl qR rfl rfl (by omega) (by omega)) (pk [1] rfl rfl) ?_
    have hv33:v33_10.length≤2:=by simp at hmv33_10;rcases hmv33_10 with h | h | h <;> subst h <;> decide
    refine zV rfl rfl rfl rfl rfl (yK rfl rfl rfl (by simp only [zT];omega)) (pk [1] rfl rfl) ?_;refine zV rfl rfl rfl rfl rfl (zH rfl qC rfl qZ rfl rfl) (pk [1] rfl rfl) ?_;refine zX rfl (qN (v:=str ((a.rel.take ((((a.rel.length:Int)) - (1:Int)).toNat))++v33_10)) (hs':=(_::_::bk_ p3 #[i6_ a.n,str a.set,str ((a.rel.take ((((a.rel.length:Int)) - (1:Int)).toNat))++v33_10)] 24::_::hs)) 2 rfl rfl rfl rfl rfl rfl qZ rfl (by simp) rfl ?_);refine zM (zL (pk [1] rfl rfl) ?_);refine yL (qK ((a.n,a.set,(a.rel.take ((((a.rel.length:Int)) - (1:Int)).toNat))++v33_10,p_33_10)) ⟨⟨by (try dsimp only);omega,by (try dsimp only);omega⟩,by (try dsimp only);omega,by (try dsimp only);simp only [zQ,zT,zY,zZ];omega,by (try dsimp only);omega⟩ (Sub.sel [3,4] rfl) (fun _ h=>h.sub (qM _ (zA _ (zA _ (zA _ (zP _)))))))
   refine zS rfl rfl rfl (zR 2 rfl yP rfl rfl rfl) ?_;refine zM (zL (pk [1] rfl rfl) ?_);refine zV (v:=i6_ ((a.rel.length:Int))) rfl rfl rfl rfl rfl (xM rfl qI rfl) (pk [1] rfl rfl) ?_;refine zV rfl rfl rfl rfl rfl (jM rfl rfl rfl (by omega) (by omega)) (pk [1] rfl rfl) ?_;refine zX rfl (zS rfl rfl rfl (zR 2 rfl yP rfl rfl rfl) ?_);refine zM (zL (pk [1] rfl rfl) ?_);refine zV (v:=str (a.rel.take ((((a.rel.length:Int)) - (1:Int)).toNat))) rfl rfl rfl rfl rfl (xE rfl qR rfl rfl (by omega) (by omega)) (pk [1] rfl rfl) ?_
   have hv33:v33_10.length≤2:=by simp at hmv33_10;rcases hmv33_10 with h | h | h <;> subst h <;> decide
   refine zV rfl rfl rfl rfl rfl (yK rfl rfl rfl (by simp only [zT];omega)) (pk [1] rfl rfl) ?_;refine zV rfl rfl rfl rfl rfl (zH rfl qC rfl qZ rfl rfl) (pk [1] rfl rfl) ?_;refine zX rfl (qN (v:=str ((a.rel.take ((((a.rel.length:Int)) - (1:Int)).toNat))++v33_10)) (hs':=(_::_::bk_ p3 #[i6_ a.n,str a.set,str ((a.rel.take ((((a.rel.length:Int)) - (1:Int)).toNat))++v33_10)] 24::_::hs)) 2 rfl rfl rfl rfl rfl rfl qZ rfl (by simp) rfl ?_);refine zM (zL (pk [1] rfl rfl) ?_);refine yL (qK ((a.n,a.set,(a.rel.take ((((a.rel.length:Int)) - (1:Int)).toNat))++v33_10,p_33_10)) ⟨⟨by (try dsimp only);omega,by (try dsimp only);omega⟩,by (try dsimp only);omega,by (try dsimp only);simp only [zQ,zT,zY,zZ];omega,by (try dsimp only);omega⟩ (Sub.sel [3,4] rfl) (fun _ h=>h.sub (qM _ (zA _ (zA _ (zA _ (zP _)))))))
  replace h22:=zG h22;refine zE (zB (zC 2 rfl (zJ (zD [3,4,36] [_,_,_] rfl ?_))));refine qH (b:=decide (k6=(3:Int))) rfl (fun h36=>?_) (fun h36=>?_)
  ·
   replace h36:=zI h36;refine zE (qF (Ll.callSome (ok:=fun (t:List UInt8)=>t.length≤40000) (v:=fun (t:List UInt8)=>str t) (xs:=[.const (str ([48])),.const (i6_ 9)]) (vs:=[str ([48]),i6_ 9]) rfl rfl rfl rfl Tryd.call148 rfl (fun w1 hw1=>(many_ok ([48]) w1 9 (by decide) (by decide) rfl).mono fun en w' ⟨t,h1,h2,h3⟩=>⟨t,h1,h2,h3⟩) fun t38 hS38=>?_))
   show Ll _ _ (Own _ _ (_::_::_::hs)) _ _ ((38,str t38)::_) _ _ _
   have hlt38:=hS38;refine Ll.callSome (ok:=fun (t:List UInt8)=>t.length≤40000) (v:=fun (t:List UInt8)=>str t) (xs:=[.const (str ([49])),.const (i6_ 81)]) (vs:=[str ([49]),i6_ 81]) rfl rfl rfl rfl Tryd.call148 rfl (fun w1 hw1=>(many_ok ([49]) w1 81 (by decide) (by decide) rfl).mono fun en w' ⟨t,h1,h2,h3⟩=>⟨t,h1,h2,h3⟩) fun t39 hS39=>?_
   show Ll _ _ (Own _ _ (_::_::_::hs)) _ _ ((39,str t39)::_) _ _ _
   have hlt39:=hS39;refine zS (v:=.agg #[i6_ 9,str t38,str t39]) rfl rfl rfl (OpQ.build (xs:=[.const (i6_ 9),.tmp 38,.tmp 39]) (vs:=[i6_ 9,str t38,str t39]) rfl rfl (by kernel_rfl)) ?_;refine jI (cs':=#[i6_ 9,str t38,str t39]) (hs':=(bk_ p4 #[i6_ 9,str t38,str t39] 24::_::_::hs)) 0 rfl rfl rfl rfl rfl (by kernel_rfl:_=some Tryd.t24) rfl rfl rfl rfl rfl ?_;refine zM (zD [4] [_] rfl ?_);refine qL (Kt.endBox (cs:=#[i6_ 9,str t38,str t39]) 0 rfl rfl rfl qW qU fun w' hw=>?_)
   exact ⟨⟨9,t38,t39⟩,p_6,rfl,⟨⟨⟨by dsimp only;omega,by dsimp only;omega⟩,by dsimp only;omega,by dsimp only;omega⟩,by omega⟩,hw.sub (qM _ (qM _ (zA _ (zP _))))⟩
  replace h36:=zG h36;refine qO (qK ((a.n,a.set,a.rel,p_6)) ⟨⟨by (try dsimp only);omega,by (try dsimp only);omega⟩,by (try dsimp only);omega,by (try dsimp only);omega,by (try dsimp only);omega⟩ (Sub.sel [3,4] rfl) (fun _ h=>h.sub (zA _ (zA _ (zA _ (zP _))))))
 rintro ⟨N,S,R,p9⟩ ⟨⟨hN0,hN1⟩,hS,hR,hp9⟩
 dsimp only;refine zD [3,4] [_,_] rfl ?_;refine zE (qF (zS rfl rfl rfl (qX (cs:=#[i6_ N,str S,str R]) 1 rfl qW rfl rfl qU) ?_));refine jI (cs':=#[i6_ N,str S,str R]) (hs':=(bk_ p4 #[i6_ N,str S,str R] 24::_::_::hs)) 0 rfl rfl rfl rfl rfl (by kernel_rfl:_=some Tryd.t24) rfl rfl rfl rfl rfl ?_;refine zM (zD [4] [_] rfl ?_);refine qL (Kt.endBox (cs:=#[i6_ N,str S,str R]) 0 rfl rfl rfl qW qU fun w' hw=>?_)
 exact ⟨⟨N,S,R⟩,p9,rfl,⟨⟨⟨by dsimp only;omega,by dsimp only;omega⟩,by dsimp only;omega,by dsimp only;omega⟩,by omega⟩,hw.sub (qM _ (qM _ (zA _ (zP _))))⟩
end Go.Proofs.YtefiibghfgfdnaaDoor
namespace Go.Proofs.YtefiibghfgfdnaaDoor
open Go.RowKit Go.Wk
set_option linter.unusedSimpArgs false
set_option maxHeartbeats 400000 in
theorem l2Draw_step (B:Nat) (w0:World) (hs:List (Nat×Obj)) (rp p:Nat) (bv:Value) (L:List Int) (dep:Int) (vs:List UInt8) (cn:Bool) (w:World) (hb:∀ w,Own B w0 hs w→Row w bv (u8s L)) (hL8:Bytes8 L) (hL:L.length≤2000) (hd:dep≤4) (hv1:1≤vs.length) (hv4:vs.length≤4) (hp:p+10*drawN dep≤900000) (ih:∀ (B:Nat) (w0:World) (hs:List (Nat×Obj)) (rp p:Nat) (bv:Value) (L:List Int) (dep2:Int) (vs2:List UInt8) (cn2:Bool) (w:World),(∀ w,Own B w0 hs w→Row w bv (u8s L))→Bytes8 L→L.length≤2000→dep2.toNat<dep.toNat→dep2≤4→1≤vs2.length→vs2.length≤4→p+10*drawN dep2≤900000→Own B w0 ((rp,.cells #[bv,.int .i64 (p:Int)] 130 (0,0))::hs) w→Calls Tryd.prog 114 #[.pointer (some ⟨rp,0,none⟩),.int .i64 dep2,str vs2,.bool cn2] w fun en w'=>∃ f:List UInt8,∃ p':Nat,en=.returned (str f)∧((1≤f.length∧f.length+1≤4*drawN dep2)∧p'+5≤p+10*drawN dep2)∧Own B w0 ((rp,.cells #[bv,.int .i64 (p':Int)] 130 (0,0))::hs) w') (hw:Own B w0 ((rp,.cells #[bv,.int .i64 (p:Int)] 130 (0,0))::hs) w) :
    Calls Tryd.prog 114 [pt_ rp,i6_ dep,str vs,bo_ cn].toArray w fun en w'=>∃ f:List UInt8,∃ p':Nat,en=.returned (str f)∧((1≤f.length∧f.length+1≤4*drawN dep)∧p'+5≤p+10*drawN dep)∧Own B w0 (((rp,.cells #[bv,.int .i64 (p':Int)] 130 (0,0))::hs)) w':=by
 refine fnStartC (Own B w0 ((rp,.cells #[bv,.int .i64 (p:Int)] 130 (0,0))::hs)) (n:=132) (e:=[(0,pt_ rp),(1,i6_ dep),(2,str vs),(3,bo_ cn)]) Tryd.func114 rfl rfl rfl rfl Ends.both hw ?_
 have hN1:=drawN_pos dep
 have hN2:=drawN_pos (dep - 1)
 have hNs:=drawN_step dep
 have hNl:=drawN_le hd;refine zE (zB (zN (v:=str ([])) rfl rfl rfl (jQ rfl rfl) ?_));refine zJ (zD [0,1,2,3] [_,_,_,_] rfl ?_);refine zE (qF (qJ 1 rfl (yH (rp:=rp) (RT:=130) (p:=p) (bv:=bv) (hs:=hs) (ok:=fun (k:Int) p'=>0≤k∧(1≤(12:Int)→k<12)∧p'=p+1) (v:=fun (k:Int)=>i6_ k) (new:=fun (k:Int)=>[]) (xs:=[.tmp 15,.const (i6_ 12)]) (vs:=[pt_ rp,i6_ 12]) ([]:List (Nat×Obj)) rfl rfl rfl rfl xR rfl (fun w1 hw1=>(pick_ok B w0 (([]:List (Nat×Obj))++hs) rp p bv L 12 w1 (fun w2 hw2=>hb w2 (qA (f:=([]:List (Nat×Obj))) hw2)) hL8 hL (by omega) hw1).mono fun en w' ⟨k',p',h1,h2,h3⟩=>⟨k',p',h1,h2,h3⟩) fun k16 p_16 hKp_16=>?_)))
 show Ll _ _ (Own _ _ (_::hs)) _ _ ((16,i6_ k16)::_) _ _ _
 obtain ⟨h0k16,h1k16,hep_16⟩:=hKp_16
 try have hltk16:=h1k16 (by first | omega | (split <;> omega) | decide);refine qJ 1 rfl (zM (zD [0,1,2,3,9] [_,_,_,_,_] rfl ?_));refine zE (qF (qJ 2 rfl (zS (v:=i6_ ((vs.length:Int))) rfl rfl rfl (xM rfl qI rfl) ?_)));refine yH (rp:=rp) (RT:=130) (p:=p_16) (bv:=bv) (hs:=hs) (ok:=fun (k:Int) p'=>0≤k∧(1≤((vs.length:Int))→k<((vs.length:Int)))∧p'=p_16+1) (v:=fun (k:Int)=>i6_ k) (new:=fun (k:Int)=>[]) (xs:=[.tmp 17,.tmp 19]) (vs:=[pt_ rp,i6_ ((vs.length:Int))]) ([]:List (Nat×Obj)) rfl rfl rfl rfl xR rfl (fun w1 hw1=>(pick_ok B w0 (([]:List (Nat×Obj))++hs) rp p_16 bv L ((vs.length:Int)) w1 (fun w2 hw2=>hb w2 (qA (f:=([]:List (Nat×Obj))) hw2)) hL8 hL (by omega) hw1).mono fun en w' ⟨k',p',h1,h2,h3⟩=>⟨k',p',h1,h2,h3⟩) fun k20 p_20 hKp_20=>?_
 show Ll _ _ (Own _ _ (_::hs)) _ _ ((20,i6_ k20)::_) _ _ _
 obtain ⟨h0k20,h1k20,hep_20⟩:=hKp_20
 try have hltk20:=h1k20 (by first | omega | (split <;> omega) | decide);refine qJ 1 rfl (zM (zD [0,1,2,3,9,10] [_,_,_,_,_,_] rfl ?_));refine zE (qF (qJ 2 rfl (zS (v:=i6_ ((vs.length:Int))) rfl rfl rfl (xM rfl qI rfl) ?_)));refine yH (rp:=rp) (RT:=130) (p:=p_20) (bv:=bv) (hs:=hs) (ok:=fun (k:Int) p'=>0≤k∧(1≤((vs.length:Int))→k<((vs.length:Int)))∧p'=p_20+1) (v:=fun (k:Int)=>i6_ k) (new:=fun (k:Int)=>[]) (xs:=[.tmp 21,.tmp 23]) (vs:=[pt_ rp,i6_ ((vs.length:Int))]) ([]:List (Nat×Obj)) rfl rfl rfl rfl xR rfl (fun w1 hw1=>(pick_ok B w0 (([]:List (Nat×Obj))++hs) rp p_20 bv L ((vs.length:Int)) w1 (fun w2 hw2=>hb w2 (qA (f:=([]:List (Nat×Obj))) hw2)) hL8 hL (by omega) hw1).mono fun en w' ⟨k',p',h1,h2,h3⟩=>⟨k',p',h1,h2,h3⟩) fun k24 p_24 hKp_24=>?_
 show Ll _ _ (Own _ _ (_::hs)) _ _ ((24,i6_ k24)::_) _ _ _
 obtain ⟨h0k24,h1k24,hep_24⟩:=hKp_24
 try have hltk24:=h1k24 (by first | omega | (split <;> omega) | decide);refine qJ 1 rfl (zM (zD [0,1,2,3,9,10,11] [_,_,_,_,_,_,_] rfl ?_));refine zE (yA (zE (zB (zC 3 rfl (xG fun b28 hg28=>?_)))))
 cases b28
 ·
  replace hg28:=zG hg28;refine zC 4 rfl (zJ (zD [0,1,2,3,9,10,11,25] [_,_,_,_,_,_,_,_] rfl ?_));refine qH (b:=decide (k16<(2:Int))) rfl (fun h25=>?_) (fun h25=>?_)
  ·
   replace h25:=zI h25;refine zE (zE (qF (qJ 1 rfl (yH (rp:=rp) (RT:=130) (p:=p_24) (bv:=bv) (hs:=hs) (ok:=fun (k:Int) p'=>0≤k∧(1≤(8:Int)→k<8)∧p'=p_24+1) (v:=fun (k:Int)=>i6_ k) (new:=fun (k:Int)=>[]) (xs:=[.tmp 32,.const (i6_ 8)]) (vs:=[pt_ rp,i6_ 8]) ([]:List (Nat×Obj)) rfl rfl rfl rfl xR rfl (fun w1 hw1=>(pick_ok B w0 (([]:List (Nat×Obj))++hs) rp p_24 bv L 8 w1 (fun w2 hw2=>hb w2 (qA (f:=([]:List (Nat×Obj))) hw2)) hL8 hL (by omega) hw1).mono fun en w' ⟨k',p',h1,h2,h3⟩=>⟨k',p',h1,h2,h3⟩) fun k33 p_33 hKp_33=>?_))))
   show Ll _ _ (Own _ _ (_::hs)) _ _ ((33,i6_ k33)::_) _ _ _
   obtain ⟨h0k33,h1k33,hep_33⟩:=hKp_33
   try have hltk33:=h1k33 (by first | omega | (split <;> omega) | decide);refine zM (zD [0,2,10,11,33] [_,_,_,_,_] rfl ?_);refine yA (zE (zB (zC 2 rfl (zJ (zD [0,2,10,11,33,34] [_,_,_,_,_,_] rfl ?_)))));refine qH (b:=decide (k33=(0:Int))) rfl (fun h34=>?_) (fun h34=>?_)
   ·
    replace h34:=zI h34;refine zE (qF (qJ 1 rfl (yS (xs:=[.const (str ([116])),.const (str ([102]))]) (vs:=[str ([116]),str ([102])]) jP rfl rfl rfl rfl rfl rfl (by decide) rfl fun p37 hp37=>?_)));refine yH (rp:=rp) (RT:=130) (p:=p_33) (bv:=bv) (hs:=hs) (ok:=fun (v:List UInt8) p'=>v∈(([[116],[102]]:List (List UInt8)))∧p'=p_33+1) (v:=fun (v:List UInt8)=>str v) (new:=fun (v:List UInt8)=>[]) (xs:=[.tmp 36,.tmp 37]) (vs:=[pt_ rp,sl_ p37 2 2]) ([bk_ p37 #[str ([116]),str ([102])] 9]:List (Nat×Obj)) rfl rfl rfl rfl xS rfl (fun w1 hw1=>(of_ok B w0 (([bk_ p37 #[str ([116]),str ([102])] 9]:List (Nat×Obj))++hs) rp p_33 bv L (sl_ p37 2 2) (([[116],[102]]:List (List UInt8))) w1 (fun w2 hw2=>hb w2 (qA (f:=([bk_ p37 #[str ([116]),str ([102])] 9]:List (Nat×Obj))) hw2)) hL8 hL (fun w2 h2=>(xQ h2 (i:=0) rfl (n:=2) (cap:=2) (vs:=strs ([[116],[102]]:List (List UInt8))) rfl rfl (by decide))) (by simp) (by omega) hw1).mono fun en w' ⟨v',p',h1,h2,h3⟩=>⟨v',p',h1,h2,h3⟩) fun v38 p_38 hKp_38=>?_
    show Ll _ _ (Own _ _ (_::_::hs)) _ _ ((38,str v38)::_) _ _ _
    obtain ⟨hmv38,hep_38⟩:=hKp_38
    have hqv38:=len_of (a:=1) (b:=1) hmv38 (by decide);refine qJ 1 rfl (zM (zD [8] [_] rfl ?_));refine qL (qQ rfl rfl fun w' hw=>?_)
    exact ⟨v38,p_38,rfl,⟨⟨(by (try dsimp only);(try simp only [zQ,zY,zZ,zT,qB]);omega),(by (try dsimp only);(try simp only [zQ,zY,zZ,zT,qB]);omega)⟩,by omega⟩,hw.sub (qM _ (zA _ (zP _)))⟩
   replace h34:=zG h34;refine zE (zE (zB (zC 2 rfl (zJ (zD [2,10,11,33,39] [_,_,_,_,_] rfl ?_)))));refine qH (b:=decide (k33=(1:Int))) rfl (fun h39=>?_) (fun h39=>?_)
   ·
    replace h39:=zI h39;refine qO (zD [2,10,11,33,39] [_,_,_,_,_] rfl ?_);refine qH (b:=decide (k33=(1:Int))) rfl (fun h39_1=>?_) (fun h39_1=>?_)
    ·
     replace h39_1:=zI h39_1;refine zE (zB (zC 3 rfl (zN rfl rfl rfl (qT rfl rfl rfl (by omega) (by omega)) ?_)));refine zN (v:=str ((vs.drop ((k20).toNat)).take ((k20+(1:Int)).toNat - (k20).toNat))) rfl rfl rfl (yX rfl qR rfl rfl rfl (by omega) (by omega) (by first | omega | (simp;omega))) ?_;refine zN rfl rfl rfl (yK rfl rfl rfl (by first | omega | (simp only [zQ,zY,zZ,zT,qB];omega))) ?_;refine zC 1 rfl (zJ (zD [8] [_] rfl ?_));refine qL (qQ rfl rfl fun w' hw=>?_)
     exact ⟨([80])++((vs.drop ((k20).toNat)).take ((k20+(1:Int)).toNat - (k20).toNat)),p_33,rfl,⟨⟨(by (try dsimp only);(try simp only [zQ,zY,zZ,zT,qB]);omega),(by (try dsimp only);(try simp only [zQ,zY,zZ,zT,qB]);omega)⟩,by omega⟩,hw.sub (zA _ (zP _))⟩
    replace h39_1:=zG h39_1;refine zE (zB (zC 2 rfl (zJ (zD [2,10,11,48] [_,_,_,_] rfl ?_))));refine qH (b:=decide (k33=(3:Int))) rfl (fun h48=>?_) (fun h48=>?_)
    ·
     replace h48:=zI h48;refine zE (jF yG (fun _ h=>h.drawn) (by kernel_rfl) ?_);refine zC 3 rfl (zN rfl rfl rfl (qT rfl rfl rfl (by omega) (by omega)) ?_);refine zN (v:=str ((vs.drop ((k20).toNat)).take ((k20+(1:Int)).toNat - (k20).toNat))) rfl rfl rfl (yX rfl qR rfl rfl rfl (by omega) (by omega) (by first | omega | (simp;omega))) ?_;refine zN rfl rfl rfl (yK rfl rfl rfl (by first | omega | (simp only [zQ,zY,zZ,zT,qB];omega))) ?_;refine zC 3 rfl (zN rfl rfl rfl (qT rfl rfl rfl (by omega) (by omega)) ?_);refine zN (v:=str ((vs.drop ((k24).toNat)).take ((k24+(1:Int)).toNat - (k24).toNat))) rfl rfl rfl (yX rfl qR rfl rfl rfl (by omega) (by omega) (by first | omega | (simp;omega))) ?_;refine zN rfl rfl rfl (yK rfl rfl rfl (by first | omega | (simp only [zQ,zY,zZ,zT,qB];omega))) ?_;refine zC 1 rfl (zJ (zD [8] [_] rfl ?_));refine qL (qQ rfl rfl fun w' hw=>?_)
     exact ⟨(([61])++((vs.drop ((k20).toNat)).take ((k20+(1:Int)).toNat - (k20).toNat)))++((vs.drop ((k24).toNat)).take ((k24+(1:Int)).toNat - (k24).toNat)),p_33,rfl,⟨⟨(by (try dsimp only);(try simp only [zQ,zY,zZ,zT,qB]);omega),(by (try dsimp only);(try simp only [zQ,zY,zZ,zT,qB]);omega)⟩,by omega⟩,hw.sub (zA _ (zP _))⟩
    replace h48:=zG h48;refine qO (zD [2,10,11] [_,_,_] rfl ?_);refine zE (jF yG (fun _ h=>h.drawn) (by kernel_rfl) ?_);refine zC 3 rfl (zN rfl rfl rfl (qT rfl rfl rfl (by omega) (by omega)) ?_);refine zN (v:=str ((vs.drop ((k20).toNat)).take ((k20+(1:Int)).toNat - (k20).toNat))) rfl rfl rfl (yX rfl qR rfl rfl rfl (by omega) (by omega) (by first | omega | (simp;omega))) ?_;refine zN rfl rfl rfl (yK rfl rfl rfl (by first | omega | (simp only [zQ,zY,zZ,zT,qB];omega))) ?_;refine zC 3 rfl (zN rfl rfl rfl (qT rfl rfl rfl (by omega) (by omega)) ?_);refine zN (v:=str ((vs.drop ((k24).toNat)).take ((k24+(1:Int)).toNat - (k24).toNat))) rfl rfl rfl (yX rfl qR rfl rfl rfl (by omega) (by omega) (by first | omega | (simp;omega))) ?_;refine zN rfl rfl rfl (yK rfl rfl rfl (by first | omega | (simp only [zQ,zY,zZ,zT,qB];omega))) ?_;refine zC 1 rfl (zJ (zD [8] [_] rfl ?_));refine qL (qQ rfl rfl fun w' hw=>?_)
    exact ⟨(([69])++((vs.drop ((k20).toNat)).take ((k20+(1:Int)).toNat - (k20).toNat)))++((vs.drop ((k24).toNat)).take ((k24+(1:Int)).toNat - (k24).toNat)),p_33,rfl,⟨⟨(by (try dsimp only);(try simp only [zQ,zY,zZ,zT,qB]);omega),(by (try dsimp only);(try simp only [zQ,zY,zZ,zT,qB]);omega)⟩,by omega⟩,hw.sub (zA _ (zP _))⟩
   replace h39:=zG h39;refine zB (zC 2 rfl (zJ (zD [2,10,11,33,39] [_,_,_,_,_] rfl ?_)));refine qH (b:=decide (k33=(2:Int))) rfl (fun h39_2=>?_) (fun h39_2=>?_)
   ·
    replace h39_2:=zI h39_2;refine zE (zB (zC 3 rfl (zN rfl rfl rfl (qT rfl rfl rfl (by omega) (by omega)) ?_)));refine zN (v:=str ((vs.drop ((k20).toNat)).take ((k20+(1:Int)).toNat - (k20).toNat))) rfl rfl rfl (yX rfl qR rfl rfl rfl (by omega) (by omega) (by first | omega | (simp;omega))) ?_;refine zN rfl rfl rfl (yK rfl rfl rfl (by first | omega | (simp only [zQ,zY,zZ,zT,qB];omega))) ?_;refine zC 1 rfl (zJ (zD [8] [_] rfl ?_));refine qL (qQ rfl rfl fun w' hw=>?_)
    exact ⟨([80])++((vs.drop ((k20).toNat)).take ((k20+(1:Int)).toNat - (k20).toNat)),p_33,rfl,⟨⟨(by (try dsimp only);(try simp only [zQ,zY,zZ,zT,qB]);omega),(by (try dsimp only);(try simp only [zQ,zY,zZ,zT,qB]);omega)⟩,by omega⟩,hw.sub (zA _ (zP _))⟩
   replace h39_2:=zG h39_2;refine zE (zB (zC 2 rfl (zJ (zD [2,10,11,48] [_,_,_,_] rfl ?_))));refine qH (b:=decide (k33=(3:Int))) rfl (fun h48_1=>?_) (fun h48_1=>?_)
   ·
    replace h48_1:=zI h48_1;refine zE (jF yG (fun _ h=>h.drawn) (by kernel_rfl) ?_);refine zC 3 rfl (zN rfl rfl rfl (qT rfl rfl rfl (by omega) (by omega)) ?_);refine zN (v:=str ((vs.drop ((k20).toNat)).take ((k20+(1:Int)).toNat - (k20).toNat))) rfl rfl rfl (yX rfl qR rfl rfl rfl (by omega) (by omega) (by first | omega | (simp;omega))) ?_;refine zN rfl rfl rfl (yK rfl rfl rfl (by first | omega | (simp only [zQ,zY,zZ,zT,qB];omega))) ?_;refine zC 3 rfl (zN rfl rfl rfl (qT rfl rfl rfl (by omega) (by omega)) ?_);refine zN (v:=str ((vs.drop ((k24).toNat)).take ((k24+(1:Int)).toNat - (k24).toNat))) rfl rfl rfl (yX rfl qR rfl rfl rfl (by omega) (by omega) (by first | omega | (simp;omega))) ?_;refine zN rfl rfl rfl (yK rfl rfl rfl (by first | omega | (simp only [zQ,zY,zZ,zT,qB];omega))) ?_;refine zC 1 rfl (zJ (zD [8] [_] rfl ?_));refine qL (qQ rfl rfl fun w' hw=>?_)
    exact ⟨(([61])++((vs.drop ((k20).toNat)).take ((k20+(1:Int)).toNat - (k20).toNat)))++((vs.drop ((k24).toNat)).take ((k24+(1:Int)).toNat - (k24).toNat)),p_33,rfl,⟨⟨(by (try dsimp only);(try simp only [zQ,zY,zZ,zT,qB]);omega),(by (try dsimp only);(try simp only [zQ,zY,zZ,zT,qB]);omega)⟩,by omega⟩,hw.sub (zA _ (zP _))⟩
   replace h48_1:=zG h48_1;refine qO (zD [2,10,11] [_,_,_] rfl ?_);refine zE (jF yG (fun _ h=>h.drawn) (by kernel_rfl) ?_);refine zC 3 rfl (zN rfl rfl rfl (qT rfl rfl rfl (by omega) (by omega)) ?_);refine zN (v:=str ((vs.drop ((k20).toNat)).take ((k20+(1:Int)).toNat - (k20).toNat))) rfl rfl rfl (yX rfl qR rfl rfl rfl (by omega) (by omega) (by first | omega | (simp;omega))) ?_;refine zN rfl rfl rfl (yK rfl rfl rfl (by first | omega | (simp only [zQ,zY,zZ,zT,qB];omega))) ?_;refine zC 3 rfl (zN rfl rfl rfl (qT rfl rfl rfl (by omega) (by omega)) ?_);refine zN (v:=str ((vs.drop ((k24).toNat)).take ((k24+(1:Int)).toNat - (k24).toNat))) rfl rfl rfl (yX rfl qR rfl rfl rfl (by omega) (by omega) (by first | omega | (simp;omega))) ?_;refine zN rfl rfl rfl (yK rfl rfl rfl (by first | omega | (simp only [zQ,zY,zZ,zT,qB];omega))) ?_;refine zC 1 rfl (zJ (zD [8] [_] rfl ?_));refine qL (qQ rfl rfl fun w' hw=>?_)
   exact ⟨(([69])++((vs.drop ((k20).toNat)).take ((k20+(1:Int)).toNat - (k20).toNat)))++((vs.drop ((k24).toNat)).take ((k24+(1:Int)).toNat - (k24).toNat)),p_33,rfl,⟨⟨(by (try dsimp only);(try simp only [zQ,zY,zZ,zT,qB]);omega),(by (try dsimp only);(try simp only [zQ,zY,zZ,zT,qB]);omega)⟩,by omega⟩,hw.sub (zA _ (zP _))⟩
  replace h25:=zG h25;refine zE (zB (zC 3 rfl (zJ (zD [0,1,2,3,9,10,74] [_,_,_,_,_,_,_] rfl ?_))));refine qH (b:=decide (k16<(4:Int))) rfl (fun h74=>?_) (fun h74=>?_)
  ·
   replace h74:=zI h74;refine zE (qF (qJ 2 rfl (zS rfl rfl rfl (jM rfl rfl rfl (by omega) (by omega)) ?_)));refine qJ 2 rfl (yH (rp:=rp) (RT:=130) (p:=p_24) (bv:=bv) (hs:=hs) (ok:=fun (f:List UInt8) p'=>(1≤f.length∧f.length+1≤4*drawN (dep - (1:Int)))∧p'+5≤p_24+10*drawN (dep - (1:Int))) (v:=fun (f:List UInt8)=>str f) (new:=fun (f:List UInt8)=>[]) (xs:=[.tmp 77,.tmp 79,.tmp 80,.tmp 81]) (vs:=[pt_ rp,i6_ (dep - (1:Int)),str vs,bo_ cn]) ([]:List (Nat×Obj)) rfl rfl rfl rfl Tryd.call114 rfl (fun w1 hw1=>(ih B w0 (([]:List (Nat×Obj))++hs) rp p_24 bv L (dep - (1:Int)) vs cn w1 (fun w2 hw2=>hb w2 (qA (f:=([]:List (Nat×Obj))) hw2)) hL8 hL (by omega) (by omega) hv1 hv4 (by omega) hw1).mono fun en w' ⟨f',p',h1,h2,h3⟩=>⟨f',p',h1,h2,h3⟩) fun f82 p_82 hKp_82=>?_)
   show Ll _ _ (Own _ _ (_::hs)) _ _ ((82,str f82)::_) _ _ _
   obtain ⟨⟨hlof82,hlef82⟩,hep_82⟩:=hKp_82;refine zS rfl rfl rfl (yK rfl rfl rfl (by first | omega | (simp only [zQ,zY,zZ,zT,qB];omega))) ?_;refine qJ 1 rfl (zM (zD [8] [_] rfl ?_));refine qL (qQ rfl rfl fun w' hw=>?_)
   exact ⟨([33])++f82,p_82,rfl,⟨⟨(by (try dsimp only);(try simp only [zQ,zY,zZ,zT,qB]);omega),(by (try dsimp only);(try simp only [zQ,zY,zZ,zT,qB]);omega)⟩,by omega⟩,hw.sub (zA _ (zP _))⟩
  replace h74:=zG h74;refine zE (zB (zC 3 rfl (zJ (zD [0,1,2,3,10,84] [_,_,_,_,_,_] rfl ?_))));refine qH (b:=decide (k16<(7:Int))) rfl (fun h84=>?_) (fun h84=>?_)
  ·
   replace h84:=zI h84;refine zE (qF (qJ 1 rfl (yS (xs:=[.const (str ([38])),.const (str ([124]))]) (vs:=[str ([38]),str ([124])]) jP rfl rfl rfl rfl rfl rfl (by decide) rfl fun p88 hp88=>?_)));refine yH (rp:=rp) (RT:=130) (p:=p_24) (bv:=bv) (hs:=hs) (ok:=fun (v:List UInt8) p'=>v∈(([[38],[124]]:List (List UInt8)))∧p'=p_24+1) (v:=fun (v:List UInt8)=>str v) (new:=fun (v:List UInt8)=>[]) (xs:=[.tmp 87,.tmp 88]) (vs:=[pt_ rp,sl_ p88 2 2]) ([bk_ p88 #[str ([38]),str ([124])] 9]:List (Nat×Obj)) rfl rfl rfl rfl xS rfl (fun w1 hw1=>(of_ok B w0 (([bk_ p88 #[str ([38]),str ([124])] 9]:List (Nat×Obj))++hs) rp p_24 bv L (sl_ p88 2 2) (([[38],[124]]:List (List UInt8))) w1 (fun w2 hw2=>hb w2 (qA (f:=([bk_ p88 #[str ([38]),str ([124])] 9]:List (Nat×Obj))) hw2)) hL8 hL (fun w2 h2=>(xQ h2 (i:=0) rfl (n:=2) (cap:=2) (vs:=strs ([[38],[124]]:List (List UInt8))) rfl rfl (by decide))) (by simp) (by omega) hw1).mono fun en w' ⟨v',p',h1,h2,h3⟩=>⟨v',p',h1,h2,h3⟩) fun v89 p_89 hKp_89=>?_
   show Ll _ _ (Own _ _ (_::_::hs)) _ _ ((89,str v89)::_) _ _ _
   obtain ⟨hmv89,hep_89⟩:=hKp_89
   have hqv89:=len_of (a:=1) (b:=1) hmv89 (by decide);refine qJ 1 rfl (zM (zD [0,1,2,3,12] [_,_,_,_,_] rfl ?_));refine zE (qF (qJ 2 rfl (zS rfl rfl rfl (jM rfl rfl rfl (by omega) (by omega)) ?_)));refine qJ 2 rfl (yH (rp:=rp) (RT:=130) (p:=p_89) (bv:=bv) (hs:=hs) (ok:=fun (f:List UInt8) p'=>(1≤f.length∧f.length+1≤4*drawN (dep - (1:Int)))∧p'+5≤p_89+10*drawN (dep - (1:Int))) (v:=fun (f:List UInt8)=>str f) (new:=fun (f:List UInt8)=>[]) (xs:=[.tmp 90,.tmp 92,.tmp 93,.tmp 94]) (vs:=[pt_ rp,i6_ (dep - (1:Int)),str vs,bo_ cn]) ([bk_ p88 #[str ([38]),str ([124])] 9]:List (Nat×Obj)) rfl rfl rfl rfl Tryd.call114 rfl (fun w1 hw1=>(ih B w0 (([bk_ p88 #[str ([38]),str ([124])] 9]:List (Nat×Obj))++hs) rp p_89 bv L (dep - (1:Int)) vs cn w1 (fun w2 hw2=>hb w2 (qA (f:=([bk_ p88 #[str ([38]),str ([124])] 9]:List (Nat×Obj))) hw2)) hL8 hL (by omega) (by omega) hv1 hv4 (by omega) hw1).mono fun en w' ⟨f',p',h1,h2,h3⟩=>⟨f',p',h1,h2,h3⟩) fun f95 p_95 hKp_95=>?_)
   show Ll _ _ (Own _ _ (_::_::hs)) _ _ ((95,str f95)::_) _ _ _
   obtain ⟨⟨hlof95,hlef95⟩,hep_95⟩:=hKp_95;refine qJ 1 rfl (zM (zD [0,1,2,3,12,13] [_,_,_,_,_,_] rfl ?_));refine zE (qF (qJ 2 rfl (zS rfl rfl rfl (yK rfl rfl rfl (by first | omega | (simp only [zQ,zY,zZ,zT,qB];omega))) ?_)));refine qJ 2 rfl (zS rfl rfl rfl (jM rfl rfl rfl (by omega) (by omega)) ?_);refine qJ 2 rfl (yH (rp:=rp) (RT:=130) (p:=p_95) (bv:=bv) (hs:=hs) (ok:=fun (f:List UInt8) p'=>(1≤f.length∧f.length+1≤4*drawN (dep - (1:Int)))∧p'+5≤p_95+10*drawN (dep - (1:Int))) (v:=fun (f:List UInt8)=>str f) (new:=fun (f:List UInt8)=>[]) (xs:=[.tmp 99,.tmp 101,.tmp 102,.tmp 103]) (vs:=[pt_ rp,i6_ (dep - (1:Int)),str vs,bo_ cn]) ([bk_ p88 #[str ([38]),str ([124])] 9]:List (Nat×Obj)) rfl rfl rfl rfl Tryd.call114 rfl (fun w1 hw1=>(ih B w0 (([bk_ p88 #[str ([38]),str ([124])] 9]:List (Nat×Obj))++hs) rp p_95 bv L (dep - (1:Int)) vs cn w1 (fun w2 hw2=>hb w2 (qA (f:=([bk_ p88 #[str ([38]),str ([124])] 9]:List (Nat×Obj))) hw2)) hL8 hL (by omega) (by omega) hv1 hv4 (by omega) hw1).mono fun en w' ⟨f',p',h1,h2,h3⟩=>⟨f',p',h1,h2,h3⟩) fun f104 p_104 hKp_104=>?_)
   show Ll _ _ (Own _ _ (_::_::hs)) _ _ ((104,str f104)::_) _ _ _
   obtain ⟨⟨hlof104,hlef104⟩,hep_104⟩:=hKp_104;refine zS rfl rfl rfl (yK rfl rfl rfl (by first | omega | (simp only [zQ,zY,zZ,zT,qB];omega))) ?_;refine qJ 1 rfl (zM (zD [8] [_] rfl ?_));refine qL (qQ rfl rfl fun w' hw=>?_)
   exact ⟨(v89++f95)++f104,p_104,rfl,⟨⟨(by (try dsimp only);(try simp only [zQ,zY,zZ,zT,qB]);omega),(by (try dsimp only);(try simp only [zQ,zY,zZ,zT,qB]);omega)⟩,by omega⟩,hw.sub (qM _ (zA _ (zP _)))⟩
  replace h84:=zG h84;refine qO (zD [0,1,2,3,10] [_,_,_,_,_] rfl ?_);refine zE (qF (qJ 1 rfl (yS (xs:=[.const (str ([65])),.const (str ([83])),.const (str ([83]))]) (vs:=[str ([65]),str ([83]),str ([83])]) jP rfl rfl rfl rfl rfl rfl (by decide) rfl fun p107 hp107=>?_)));refine yH (rp:=rp) (RT:=130) (p:=p_24) (bv:=bv) (hs:=hs) (ok:=fun (v:List UInt8) p'=>v∈(([[65],[83],[83]]:List (List UInt8)))∧p'=p_24+1) (v:=fun (v:List UInt8)=>str v) (new:=fun (v:List UInt8)=>[]) (xs:=[.tmp 106,.tmp 107]) (vs:=[pt_ rp,sl_ p107 3 3]) ([bk_ p107 #[str ([65]),str ([83]),str ([83])] 9]:List (Nat×Obj)) rfl rfl rfl rfl xS rfl (fun w1 hw1=>(of_ok B w0 (([bk_ p107 #[str ([65]),str ([83]),str ([83])] 9]:List (Nat×Obj))++hs) rp p_24 bv L (sl_ p107 3 3) (([[65],[83],[83]]:List (List UInt8))) w1 (fun w2 hw2=>hb w2 (qA (f:=([bk_ p107 #[str ([65]),str ([83]),str ([83])] 9]:List (Nat×Obj))) hw2)) hL8 hL (fun w2 h2=>(xQ h2 (i:=0) rfl (n:=3) (cap:=3) (vs:=strs ([[65],[83],[83]]:List (List UInt8))) rfl rfl (by decide))) (by simp) (by omega) hw1).mono fun en w' ⟨v',p',h1,h2,h3⟩=>⟨v',p',h1,h2,h3⟩) fun v108 p_108 hKp_108=>?_
  show Ll _ _ (Own _ _ (_::_::hs)) _ _ ((108,str v108)::_) _ _ _
  obtain ⟨hmv108,hep_108⟩:=hKp_108
  have hqv108:=len_of (a:=1) (b:=1) hmv108 (by decide);refine qJ 1 rfl (zM (zD [0,1,2,3,10,14] [_,_,_,_,_,_] rfl ?_));refine zE (zE (qF (qJ 2 rfl (Ll.bool fun b110 hg110=>?_))))
  cases b110
  ·
   refine jU rfl rfl rfl ?_;refine jU rfl rfl rfl ?_;refine jU rfl rfl rfl ?_;refine qJ 1 rfl (zM (zD [0,1,2,3,10,14,114] [_,_,_,_,_,_,_] rfl ?_));refine xN rfl ?_;refine qO (zD [0,1,2,3,10,14] [_,_,_,_,_,_] rfl ?_);refine zE (jR (S:=Own B w0 [bk_ p107 #[str ([65]),str ([83]),str ([83])] 9]) [(0,true),(1,true),(2,true),(3,true),(4,true),(5,true),(6,true),(7,true),(8,true),(9,true),(10,true),(11,true),(12,false),(13,true),(14,true)] yG (fun _ h=>h.drawn) (by kernel_rfl) ?_);refine jE 4 rfl (pk [0] rfl rfl) ?_;refine yI rfl rfl rfl rfl rfl (qT rfl rfl rfl (by omega) (by omega)) (pk [0] rfl rfl) ?_;refine yI (v:=str ((vs.drop ((k20).toNat)).take ((k20+(1:Int)).toNat - (k20).toNat))) rfl rfl rfl rfl rfl (yX rfl qR rfl rfl rfl (by omega) (by omega) (by first | omega | (simp;omega))) (pk [0] rfl rfl) ?_;refine yI rfl rfl rfl rfl rfl (yK rfl rfl rfl (by first | omega | (simp only [zQ,zY,zZ,zT,qB];omega))) (pk [0] rfl rfl) ?_;refine jE 2 rfl (pk [0] rfl rfl) ?_;refine yI rfl rfl rfl rfl rfl (jM rfl rfl rfl (by omega) (by omega)) (pk [0] rfl rfl) ?_;refine jE 2 rfl (pk [0] rfl rfl) ?_;refine yV rfl ?_;refine yH (rp:=rp) (RT:=130) (p:=p_108) (bv:=bv) (hs:=hs) (ok:=fun (f:List UInt8) p'=>(1≤f.length∧f.length+1≤4*drawN (dep - (1:Int)))∧p'+5≤p_108+10*drawN (dep - (1:Int))) (v:=fun (f:List UInt8)=>str f) (new:=fun (f:List UInt8)=>[]) (xs:=[.tmp 125,.tmp 127,.tmp 128,.tmp 129]) (vs:=[pt_ rp,i6_ (dep - (1:Int)),str vs,bo_ cn]) ([bk_ p107 #[str ([65]),str ([83]),str ([83])] 9]:List (Nat×Obj)) rfl rfl rfl rfl Tryd.call114 rfl (fun w1 hw1=>(ih B w0 (([bk_ p107 #[str ([65]),str ([83]),str ([83])] 9]:List (Nat×Obj))++hs) rp p_108 bv L (dep - (1:Int)) vs cn w1 (fun w2 hw2=>hb w2 (qA (f:=([bk_ p107 #[str ([65]),str ([83]),str ([83])] 9]:List (Nat×Obj))) hw2)) hL8 hL (by omega) (by omega) hv1 hv4 (by omega) hw1).mono fun en w' ⟨f',p',h1,h2,h3⟩=>⟨f',p',h1,h2,h3⟩) fun f130 p_130 hKp_130=>?_
   show Ll _ _ (Own _ _ (_::_::hs)) _ _ ((130,str f130)::_) _ _ _
   obtain ⟨⟨hlof130,hlef130⟩,hep_130⟩:=hKp_130;refine zM (yO (pk [0] rfl rfl) ?_);refine yI rfl rfl rfl rfl rfl (yK rfl rfl rfl (by first | omega | (simp only [zQ,zY,zZ,zT,qB];omega))) (pk [0] rfl rfl) ?_;refine jE 1 rfl (pk [0] rfl rfl) ?_;refine Ld.nil ?_;refine zD [8] [_] rfl ?_;refine qL (qQ rfl rfl fun w' hw=>?_)
   exact ⟨(v108++((vs.drop ((k20).toNat)).take ((k20+(1:Int)).toNat - (k20).toNat)))++f130,p_130,rfl,⟨⟨(by (try dsimp only);(try simp only [zQ,zY,zZ,zT,qB]);omega),(by (try dsimp only);(try simp only [zQ,zY,zZ,zT,qB]);omega)⟩,by omega⟩,hw.sub (qM _ (zA _ (zP _)))⟩
  refine qJ 1 rfl (yH (rp:=rp) (RT:=130) (p:=p_108) (bv:=bv) (hs:=hs) (ok:=fun (k:Int) p'=>0≤k∧(1≤(3:Int)→k<3)∧p'=p_108+1) (v:=fun (k:Int)=>i6_ k) (new:=fun (k:Int)=>[]) (xs:=[.tmp 111,.const (i6_ 3)]) (vs:=[pt_ rp,i6_ 3]) ([bk_ p107 #[str ([65]),str ([83]),str ([83])] 9]:List (Nat×Obj)) rfl rfl rfl rfl xR rfl (fun w1 hw1=>(pick_ok B w0 (([bk_ p107 #[str ([65]),str ([83]),str ([83])] 9]:List (Nat×Obj))++hs) rp p_108 bv L 3 w1 (fun w2 hw2=>hb w2 (qA (f:=([bk_ p107 #[str ([65]),str ([83]),str ([83])] 9]:List (Nat×Obj))) hw2)) hL8 hL (by omega) hw1).mono fun en w' ⟨k',p',h1,h2,h3⟩=>⟨k',p',h1,h2,h3⟩) fun k112 p_112 hKp_112=>?_)
  show Ll _ _ (Own _ _ (_::_::hs)) _ _ ((112,i6_ k112)::_) _ _ _
  obtain ⟨h0k112,h1k112,hep_112⟩:=hKp_112
  try have hltk112:=h1k112 (by first | omega | (split <;> omega) | decide);refine qJ 2 rfl (zM (zD [0,1,2,3,10,14,114] [_,_,_,_,_,_,_] rfl ?_));refine qH (b:=decide (k112=(0:Int))) rfl (fun h114=>?_) (fun h114=>?_)
  ·
   replace h114:=zI h114;refine qF (qJ 1 rfl (yS (xs:=[.const (str ([50])),.const (str ([51])),.const (str ([50])),.const (str ([52]))]) (vs:=[str ([50]),str ([51]),str ([50]),str ([52])]) jP rfl rfl rfl rfl rfl rfl (by decide) rfl fun p116 hp116=>?_));refine yH (rp:=rp) (RT:=130) (p:=p_112) (bv:=bv) (hs:=hs) (ok:=fun (v:List UInt8) p'=>v∈(([[50],[51],[50],[52]]:List (List UInt8)))∧p'=p_112+1) (v:=fun (v:List UInt8)=>str v) (new:=fun (v:List UInt8)=>[]) (xs:=[.tmp 115,.tmp 116]) (vs:=[pt_ rp,sl_ p116 4 4]) ([bk_ p116 #[str ([50]),str ([51]),str ([50]),str ([52])] 9,bk_ p107 #[str ([65]),str ([83]),str ([83])] 9]:List (Nat×Obj)) rfl rfl rfl rfl xS rfl (fun w1 hw1=>(of_ok B w0 (([bk_ p116 #[str ([50]),str ([51]),str ([50]),str ([52])] 9,bk_ p107 #[str ([65]),str ([83]),str ([83])] 9]:List (Nat×Obj))++hs) rp p_112 bv L (sl_ p116 4 4) (([[50],[51],[50],[52]]:List (List UInt8))) w1 (fun w2 hw2=>hb w2 (qA (f:=([bk_ p116 #[str ([50]),str ([51]),str ([50]),str ([52])] 9,bk_ p107 #[str ([65]),str ([83]),str ([83])] 9]:List (Nat×Obj))) hw2)) hL8 hL (fun w2 h2=>(xQ h2 (i:=0) rfl (n:=4) (cap:=4) (vs:=strs ([[50],[51],[50],[52]]:List (List UInt8))) rfl rfl (by decide))) (by simp) (by omega) hw1).mono fun en w' ⟨v',p',h1,h2,h3⟩=>⟨v',p',h1,h2,h3⟩) fun v117 p_117 hKp_117=>?_
   show Ll _ _ (Own _ _ (_::_::_::hs)) _ _ ((117,str v117)::_) _ _ _
   obtain ⟨hmv117,hep_117⟩:=hKp_117
   have hqv117:=len_of (a:=1) (b:=1) hmv117 (by decide);refine qJ 1 rfl (zM (zD [0,1,2,3,10,14] [_,_,_,_,_,_] rfl ?_));refine zE (jR (S:=Own B w0 [bk_ p116 #[str ([50]),str ([51]),str ([50]),str ([52])] 9,bk_ p107 #[str ([65]),str ([83]),str ([83])] 9]) [(0,true),(1,true),(2,true),(3,true),(4,true),(5,true),(6,true),(7,true),(8,true),(9,true),(10,true),(11,true),(12,false),(13,true),(14,true)] yG (fun _ h=>h.drawn) (by kernel_rfl) ?_);refine jE 4 rfl (pk [0,1] rfl rfl) ?_;refine yI rfl rfl rfl rfl rfl (qT rfl rfl rfl (by omega) (by omega)) (pk [0,1] rfl rfl) ?_;refine yI (v:=str ((vs.drop ((k20).toNat)).take ((k20+(1:Int)).toNat - (k20).toNat))) rfl rfl rfl rfl rfl (yX rfl qR rfl rfl rfl (by omega) (by omega) (by first | omega | (simp;omega))) (pk [0,1] rfl rfl) ?_;refine yI rfl rfl rfl rfl rfl (yK rfl rfl rfl (by first | omega | (simp only [zQ,zY,zZ,zT,qB];omega))) (pk [0,1] rfl rfl) ?_;refine jE 2 rfl (pk [0,1] rfl rfl) ?_;refine yI rfl rfl rfl rfl rfl (jM rfl rfl rfl (by omega) (by omega)) (pk [0,1] rfl rfl) ?_;refine jE 2 rfl (pk [0,1] rfl rfl) ?_;refine yV rfl ?_;refine yH (rp:=rp) (RT:=130) (p:=p_117) (bv:=bv) (hs:=hs) (ok:=fun (f:List UInt8) p'=>(1≤f.length∧f.length+1≤4*drawN (dep - (1:Int)))∧p'+5≤p_117+10*drawN (dep - (1:Int))) (v:=fun (f:List UInt8)=>str f) (new:=fun (f:List UInt8)=>[]) (xs:=[.tmp 125,.tmp 127,.tmp 128,.tmp 129]) (vs:=[pt_ rp,i6_ (dep - (1:Int)),str vs,bo_ cn]) ([bk_ p116 #[str ([50]),str ([51]),str ([50]),str ([52])] 9,bk_ p107 #[str ([65]),str ([83]),str ([83])] 9]:List (Nat×Obj)) rfl rfl rfl rfl Tryd.call114 rfl (fun w1 hw1=>(ih B w0 (([bk_ p116 #[str ([50]),str ([51]),str ([50]),str ([52])] 9,bk_ p107 #[str ([65]),str ([83]),str ([83])] 9]:List (Nat×Obj))++hs) rp p_117 bv L (dep - (1:Int)) vs cn w1 (fun w2 hw2=>hb w2 (qA (f:=([bk_ p116 #[str ([50]),str ([51]),str ([50]),str ([52])] 9,bk_ p107 #[str ([65]),str ([83]),str ([83])] 9]:List (Nat×Obj))) hw2)) hL8 hL (by omega) (by omega) hv1 hv4 (by omega) hw1).mono fun en w' ⟨f',p',h1,h2,h3⟩=>⟨f',p',h1,h2,h3⟩) fun f130_1 p_130_1 hKp_130_1=>?_
   show Ll _ _ (Own _ _ (_::_::_::hs)) _ _ ((130,str f130_1)::_) _ _ _
   obtain ⟨⟨hlof130_1,hlef130_1⟩,hep_130_1⟩:=hKp_130_1;refine zM (yO (pk [0,1] rfl rfl) ?_);refine yI rfl rfl rfl rfl rfl (yK rfl rfl rfl (by first | omega | (simp only [zQ,zY,zZ,zT,qB];omega))) (pk [0,1] rfl rfl) ?_;refine jE 1 rfl (pk [0,1] rfl rfl) ?_;refine Ld.nil ?_;refine zD [8] [_] rfl ?_;refine qL (qQ rfl rfl fun w' hw=>?_)
   exact ⟨(v117++((vs.drop ((k20).toNat)).take ((k20+(1:Int)).toNat - (k20).toNat)))++f130_1,p_130_1,rfl,⟨⟨(by (try dsimp only);(try simp only [zQ,zY,zZ,zT,qB]);omega),(by (try dsimp only);(try simp only [zQ,zY,zZ,zT,qB]);omega)⟩,by omega⟩,hw.sub (qM _ (qM _ (zA _ (zP _))))⟩
  replace h114:=zG h114;refine qO (zD [0,1,2,3,10,14] [_,_,_,_,_,_] rfl ?_);refine zE (jR (S:=Own B w0 [bk_ p107 #[str ([65]),str ([83]),str ([83])] 9]) [(0,true),(1,true),(2,true),(3,true),(4,true),(5,true),(6,true),(7,true),(8,true),(9,true),(10,true),(11,true),(12,false),(13,true),(14,true)] yG (fun _ h=>h.drawn) (by kernel_rfl) ?_);refine jE 4 rfl (pk [0] rfl rfl) ?_;refine yI rfl rfl rfl rfl rfl (qT rfl rfl rfl (by omega) (by omega)) (pk [0] rfl rfl) ?_;refine yI (v:=str ((vs.drop ((k20).toNat)).take ((k20+(1:Int)).toNat - (k20).toNat))) rfl rfl rfl rfl rfl (yX rfl qR rfl rfl rfl (by omega) (by omega) (by first | omega | (simp;omega))) (pk [0] rfl rfl) ?_;refine yI rfl rfl rfl rfl rfl (yK rfl rfl rfl (by first | omega | (simp only [zQ,zY,zZ,zT,qB];omega))) (pk [0] rfl rfl) ?_;refine jE 2 rfl (pk [0] rfl rfl) ?_;refine yI rfl rfl rfl rfl rfl (jM rfl rfl rfl (by omega) (by omega)) (pk [0] rfl rfl) ?_;refine jE 2 rfl (pk [0] rfl rfl) ?_;refine yV rfl ?_;refine yH (rp:=rp) (RT:=130) (p:=p_112) (bv:=bv) (hs:=hs) (ok:=fun (f:List UInt8) p'=>(1≤f.length∧f.length+1≤4*drawN (dep - (1:Int)))∧p'+5≤p_112+10*drawN (dep - (1:Int))) (v:=fun (f:List UInt8)=>str f) (new:=fun (f:List UInt8)=>[]) (xs:=[.tmp 125,.tmp 127,.tmp 128,.tmp 129]) (vs:=[pt_ rp,i6_ (dep - (1:Int)),str vs,bo_ cn]) ([bk_ p107 #[str ([65]),str ([83]),str ([83])] 9]:List (Nat×Obj)) rfl rfl rfl rfl Tryd.call114 rfl (fun w1 hw1=>(ih B w0 (([bk_ p107 #[str ([65]),str ([83]),str ([83])] 9]:List (Nat×Obj))++hs) rp p_112 bv L (dep - (1:Int)) vs cn w1 (fun w2 hw2=>hb w2 (qA (f:=([bk_ p107 #[str ([65]),str ([83]),str ([83])] 9]:List (Nat×Obj))) hw2)) hL8 hL (by omega) (by omega) hv1 hv4 (by omega) hw1).mono fun en w' ⟨f',p',h1,h2,h3⟩=>⟨f',p',h1,h2,h3⟩) fun f130_2 p_130_2 hKp_130_2=>?_
  show Ll _ _ (Own _ _ (_::_::hs)) _ _ ((130,str f130_2)::_) _ _ _
  obtain ⟨⟨hlof130_2,hlef130_2⟩,hep_130_2⟩:=hKp_130_2;refine zM (yO (pk [0] rfl rfl) ?_);refine yI rfl rfl rfl rfl rfl (yK rfl rfl rfl (by first | omega | (simp only [zQ,zY,zZ,zT,qB];omega))) (pk [0] rfl rfl) ?_;refine jE 1 rfl (pk [0] rfl rfl) ?_;refine Ld.nil ?_;refine zD [8] [_] rfl ?_;refine qL (qQ rfl rfl fun w' hw=>?_)
  exact ⟨(v108++((vs.drop ((k20).toNat)).take ((k20+(1:Int)).toNat - (k20).toNat)))++f130_2,p_130_2,rfl,⟨⟨(by (try dsimp only);(try simp only [zQ,zY,zZ,zT,qB]);omega),(by (try dsimp only);(try simp only [zQ,zY,zZ,zT,qB]);omega)⟩,by omega⟩,hw.sub (qM _ (zA _ (zP _)))⟩
 replace hg28:=zI hg28;refine zW rfl rfl rfl (zW rfl rfl rfl (zC 2 rfl (zJ (zD [0,1,2,3,9,10,11,25] [_,_,_,_,_,_,_,_] rfl ?_))));refine yN rfl ?_;refine zE (zE (qF (qJ 1 rfl (yH (rp:=rp) (RT:=130) (p:=p_24) (bv:=bv) (hs:=hs) (ok:=fun (k:Int) p'=>0≤k∧(1≤(8:Int)→k<8)∧p'=p_24+1) (v:=fun (k:Int)=>i6_ k) (new:=fun (k:Int)=>[]) (xs:=[.tmp 32,.const (i6_ 8)]) (vs:=[pt_ rp,i6_ 8]) ([]:List (Nat×Obj)) rfl rfl rfl rfl xR rfl (fun w1 hw1=>(pick_ok B w0 (([]:List (Nat×Obj))++hs) rp p_24 bv L 8 w1 (fun w2 hw2=>hb w2 (qA (f:=([]:List (Nat×Obj))) hw2)) hL8 hL (by omega) hw1).mono fun en w' ⟨k',p',h1,h2,h3⟩=>⟨k',p',h1,h2,h3⟩) fun k33_1 p_33_1 hKp_33_1=>?_))))
 show Ll _ _ (Own _ _ (_::hs)) _ _ ((33,i6_ k33_1)::_) _ _ _
 obtain ⟨h0k33_1,h1k33_1,hep_33_1⟩:=hKp_33_1
 try have hltk33_1:=h1k33_1 (by first | omega | (split <;> omega) | decide);refine zM (zD [0,2,10,11,33] [_,_,_,_,_] rfl ?_);refine yA (zE (zB (zC 2 rfl (zJ (zD [0,2,10,11,33,34] [_,_,_,_,_,_] rfl ?_)))));refine qH (b:=decide (k33_1=(0:Int))) rfl (fun h34_1=>?_) (fun h34_1=>?_)
 ·
  replace h34_1:=zI h34_1;refine zE (qF (qJ 1 rfl (yS (xs:=[.const (str ([116])),.const (str ([102]))]) (vs:=[str ([116]),str ([102])]) jP rfl rfl rfl rfl rfl rfl (by decide) rfl fun p37_1 hp37_1=>?_)));refine yH (rp:=rp) (RT:=130) (p:=p_33_1) (bv:=bv) (hs:=hs) (ok:=fun (v:List UInt8) p'=>v∈(([[116],[102]]:List (List UInt8)))∧p'=p_33_1+1) (v:=fun (v:List UInt8)=>str v) (new:=fun (v:List UInt8)=>[]) (xs:=[.tmp 36,.tmp 37]) (vs:=[pt_ rp,sl_ p37_1 2 2]) ([bk_ p37_1 #[str ([116]),str ([102])] 9]:List (Nat×Obj)) rfl rfl rfl rfl xS rfl (fun w1 hw1=>(of_ok B w0 (([bk_ p37_1 #[str ([116]),str ([102])] 9]:List (Nat×Obj))++hs) rp p_33_1 bv L (sl_ p37_1 2 2) (([[116],[102]]:List (List UInt8))) w1 (fun w2 hw2=>hb w2 (qA (f:=([bk_ p37_1 #[str ([116]),str ([102])] 9]:List (Nat×Obj))) hw2)) hL8 hL (fun w2 h2=>(xQ h2 (i:=0) rfl (n:=2) (cap:=2) (vs:=strs ([[116],[102]]:List (List UInt8))) rfl rfl (by decide))) (by simp) (by omega) hw1).mono fun en w' ⟨v',p',h1,h2,h3⟩=>⟨v',p',h1,h2,h3⟩) fun v38_1 p_38_1 hKp_38_1=>?_
  show Ll _ _ (Own _ _ (_::_::hs)) _ _ ((38,str v38_1)::_) _ _ _
  obtain ⟨hmv38_1,hep_38_1⟩:=hKp_38_1
  have hqv38_1:=len_of (a:=1) (b:=1) hmv38_1 (by decide);refine qJ 1 rfl (zM (zD [8] [_] rfl ?_));refine qL (qQ rfl rfl fun w' hw=>?_)
  exact ⟨v38_1,p_38_1,rfl,⟨⟨(by (try dsimp only);(try simp only [zQ,zY,zZ,zT,qB]);omega),(by (try dsimp only);(try simp only [zQ,zY,zZ,zT,qB]);omega)⟩,by omega⟩,hw.sub (qM _ (zA _ (zP _)))⟩
 replace h34_1:=zG h34_1;refine zE (zE (zB (zC 2 rfl (zJ (zD [2,10,11,33,39] [_,_,_,_,_] rfl ?_)))));refine qH (b:=decide (k33_1=(1:Int))) rfl (fun h39_3=>?_) (fun h39_3=>?_)
 ·
  replace h39_3:=zI h39_3;refine qO (zD [2,10,11,33,39] [_,_,_,_,_] rfl ?_);refine qH (b:=decide (k33_1=(1:Int))) rfl (fun h39_4=>?_) (fun h39_4=>?_)
  ·
   replace h39_4:=zI h39_4;refine zE (zB (zC 3 rfl (zN rfl rfl rfl (qT rfl rfl rfl (by omega) (by omega)) ?_)));refine zN (v:=str ((vs.drop ((k20).toNat)).take ((k20+(1:Int)).toNat - (k20).toNat))) rfl rfl rfl (yX rfl qR rfl rfl rfl (by omega) (by omega) (by first | omega | (simp;omega))) ?_;refine zN rfl rfl rfl (yK rfl rfl rfl (by first | omega | (simp only [zQ,zY,zZ,zT,qB];omega))) ?_;refine zC 1 rfl (zJ (zD [8] [_] rfl ?_));refine qL (qQ rfl rfl fun w' hw=>?_)
   exact ⟨([80])++((vs.drop ((k20).toNat)).take ((k20+(1:Int)).toNat - (k20).toNat)),p_33_1,rfl,⟨⟨(by (try dsimp only);(try simp only [zQ,zY,zZ,zT,qB]);omega),(by (try dsimp only);(try simp only [zQ,zY,zZ,zT,qB]);omega)⟩,by omega⟩,hw.sub (zA _ (zP _))⟩
  replace h39_4:=zG h39_4;refine zE (zB (zC 2 rfl (zJ (zD [2,10,11,48] [_,_,_,_] rfl ?_))));refine qH (b:=decide (k33_1=(3:Int))) rfl (fun h48_2=>?_) (fun h48_2=>?_)
  ·
   replace h48_2:=zI h48_2;refine zE (jF yG (fun _ h=>h.drawn) (by kernel_rfl) ?_);refine zC 3 rfl (zN rfl rfl rfl (qT rfl rfl rfl (by omega) (by omega)) ?_);refine zN (v:=str ((vs.drop ((k20).toNat)).take ((k20+(1:Int)).toNat - (k20).toNat))) rfl rfl rfl (yX rfl qR rfl rfl rfl (by omega) (by omega) (by first | omega | (simp;omega))) ?_;refine zN rfl rfl rfl (yK rfl rfl rfl (by first | omega | (simp only [zQ,zY,zZ,zT,qB];omega))) ?_;refine zC 3 rfl (zN rfl rfl rfl (qT rfl rfl rfl (by omega) (by omega)) ?_);refine zN (v:=str ((vs.drop ((k24).toNat)).take ((k24+(1:Int)).toNat - (k24).toNat))) rfl rfl rfl (yX rfl qR rfl rfl rfl (by omega) (by omega) (by first | omega | (simp;omega))) ?_;refine zN rfl rfl rfl (yK rfl rfl rfl (by first | omega | (simp only [zQ,zY,zZ,zT,qB];omega))) ?_;refine zC 1 rfl (zJ (zD [8] [_] rfl ?_));refine qL (qQ rfl rfl fun w' hw=>?_)
   exact ⟨(([61])++((vs.drop ((k20).toNat)).take ((k20+(1:Int)).toNat - (k20).toNat)))++((vs.drop ((k24).toNat)).take ((k24+(1:Int)).toNat - (k24).toNat)),p_33_1,rfl,⟨⟨(by (try dsimp only);(try simp only [zQ,zY,zZ,zT,qB]);omega),(by (try dsimp only);(try simp only [zQ,zY,zZ,zT,qB]);omega)⟩,by omega⟩,hw.sub (zA _ (zP _))⟩
  replace h48_2:=zG h48_2;refine qO (zD [2,10,11] [_,_,_] rfl ?_);refine zE (jF yG (fun _ h=>h.drawn) (by kernel_rfl) ?_);refine zC 3 rfl (zN rfl rfl rfl (qT rfl rfl rfl (by omega) (by omega)) ?_);refine zN (v:=str ((vs.drop ((k20).toNat)).take ((k20+(1:Int)).toNat - (k20).toNat))) rfl rfl rfl (yX rfl qR rfl rfl rfl (by omega) (by omega) (by first | omega | (simp;omega))) ?_;refine zN rfl rfl rfl (yK rfl rfl rfl (by first | omega | (simp only [zQ,zY,zZ,zT,qB];omega))) ?_;refine zC 3 rfl (zN rfl rfl rfl (qT rfl rfl rfl (by omega) (by omega)) ?_);refine zN (v:=str ((vs.drop ((k24).toNat)).take ((k24+(1:Int)).toNat - (k24).toNat))) rfl rfl rfl (yX rfl qR rfl rfl rfl (by omega) (by omega) (by first | omega | (simp;omega))) ?_;refine zN rfl rfl rfl (yK rfl rfl rfl (by first | omega | (simp only [zQ,zY,zZ,zT,qB];omega))) ?_;refine zC 1 rfl (zJ (zD [8] [_] rfl ?_));refine qL (qQ rfl rfl fun w' hw=>?_)
  exact ⟨(([69])++((vs.drop ((k20).toNat)).take ((k20+(1:Int)).toNat - (k20).toNat)))++((vs.drop ((k24).toNat)).take ((k24+(1:Int)).toNat - (k24).toNat)),p_33_1,rfl,⟨⟨(by (try dsimp only);(try simp only [zQ,zY,zZ,zT,qB]);omega),(by (try dsimp only);(try simp only [zQ,zY,zZ,zT,qB]);omega)⟩,by omega⟩,hw.sub (zA _ (zP _))⟩
 replace h39_3:=zG h39_3;refine zB (zC 2 rfl (zJ (zD [2,10,11,33,39] [_,_,_,_,_] rfl ?_)));refine qH (b:=decide (k33_1=(2:Int))) rfl (fun h39_5=>?_) (fun h39_5=>?_)
 ·
  replace h39_5:=zI h39_5;refine zE (zB (zC 3 rfl (zN rfl rfl rfl (qT rfl rfl rfl (by omega) (by omega)) ?_)));refine zN (v:=str ((vs.drop ((k20).toNat)).take ((k20+(1:Int)).toNat - (k20).toNat))) rfl rfl rfl (yX rfl qR rfl rfl rfl (by omega) (by omega) (by first | omega | (simp;omega))) ?_;refine zN rfl rfl rfl (yK rfl rfl rfl (by first | omega | (simp only [zQ,zY,zZ,zT,qB];omega))) ?_;refine zC 1 rfl (zJ (zD [8] [_] rfl ?_));refine qL (qQ rfl rfl fun w' hw=>?_)
  exact ⟨([80])++((vs.drop ((k20).toNat)).take ((k20+(1:Int)).toNat - (k20).toNat)),p_33_1,rfl,⟨⟨(by (try dsimp only);(try simp only [zQ,zY,zZ,zT,qB]);omega),(by (try dsimp only);(try simp only [zQ,zY,zZ,zT,qB]);omega)⟩,by omega⟩,hw.sub (zA _ (zP _))⟩
 replace h39_5:=zG h39_5;refine zE (zB (zC 2 rfl (zJ (zD [2,10,11,48] [_,_,_,_] rfl ?_))));refine qH (b:=decide (k33_1=(3:Int))) rfl (fun h48_3=>?_) (fun h48_3=>?_)
 ·
  replace h48_3:=zI h48_3;refine zE (jF yG (fun _ h=>h.drawn) (by kernel_rfl) ?_);refine zC 3 rfl (zN rfl rfl rfl (qT rfl rfl rfl (by omega) (by omega)) ?_);refine zN (v:=str ((vs.drop ((k20).toNat)).take ((k20+(1:Int)).toNat - (k20).toNat))) rfl rfl rfl (yX rfl qR rfl rfl rfl (by omega) (by omega) (by first | omega | (simp;omega))) ?_;refine zN rfl rfl rfl (yK rfl rfl rfl (by first | omega | (simp only [zQ,zY,zZ,zT,qB];omega))) ?_;refine zC 3 rfl (zN rfl rfl rfl (qT rfl rfl rfl (by omega) (by omega)) ?_);refine zN (v:=str ((vs.drop ((k24).toNat)).take ((k24+(1:Int)).toNat - (k24).toNat))) rfl rfl rfl (yX rfl qR rfl rfl rfl (by omega) (by omega) (by first | omega | (simp;omega))) ?_;refine zN rfl rfl rfl (yK rfl rfl rfl (by first | omega | (simp only [zQ,zY,zZ,zT,qB];omega))) ?_;refine zC 1 rfl (zJ (zD [8] [_] rfl ?_));refine qL (qQ rfl rfl fun w' hw=>?_)
  exact ⟨(([61])++((vs.drop ((k20).toNat)).take ((k20+(1:Int)).toNat - (k20).toNat)))++((vs.drop ((k24).toNat)).take ((k24+(1:Int)).toNat - (k24).toNat)),p_33_1,rfl,⟨⟨(by (try dsimp only);(try simp only [zQ,zY,zZ,zT,qB]);omega),(by (try dsimp only);(try simp only [zQ,zY,zZ,zT,qB]);omega)⟩,by omega⟩,hw.sub (zA _ (zP _))⟩
 replace h48_3:=zG h48_3;refine qO (zD [2,10,11] [_,_,_] rfl ?_);refine zE (jF yG (fun _ h=>h.drawn) (by kernel_rfl) ?_);refine zC 3 rfl (zN rfl rfl rfl (qT rfl rfl rfl (by omega) (by omega)) ?_);refine zN (v:=str ((vs.drop ((k20).toNat)).take ((k20+(1:Int)).toNat - (k20).toNat))) rfl rfl rfl (yX rfl qR rfl rfl rfl (by omega) (by omega) (by first | omega | (simp;omega))) ?_;refine zN rfl rfl rfl (yK rfl rfl rfl (by first | omega | (simp only [zQ,zY,zZ,zT,qB];omega))) ?_;refine zC 3 rfl (zN rfl rfl rfl (qT rfl rfl rfl (by omega) (by omega)) ?_);refine zN (v:=str ((vs.drop ((k24).toNat)).take ((k24+(1:Int)).toNat - (k24).toNat))) rfl rfl rfl (yX rfl qR rfl rfl rfl (by omega) (by omega) (by first | omega | (simp;omega))) ?_;refine zN rfl rfl rfl (yK rfl rfl rfl (by first | omega | (simp only [zQ,zY,zZ,zT,qB];omega))) ?_;refine zC 1 rfl (zJ (zD [8] [_] rfl ?_));refine qL (qQ rfl rfl fun w' hw=>?_)
 exact ⟨(([69])++((vs.drop ((k20).toNat)).take ((k20+(1:Int)).toNat - (k20).toNat)))++((vs.drop ((k24).toNat)).take ((k24+(1:Int)).toNat - (k24).toNat)),p_33_1,rfl,⟨⟨(by (try dsimp only);(try simp only [zQ,zY,zZ,zT,qB]);omega),(by (try dsimp only);(try simp only [zQ,zY,zZ,zT,qB]);omega)⟩,by omega⟩,hw.sub (zA _ (zP _))⟩
theorem l2Draw_all:∀ (m:Nat) (dep:Int),dep.toNat≤m→∀ (B:Nat) (w0:World) (hs:List (Nat×Obj)) (rp p:Nat) (bv:Value) (L:List Int) (vs:List UInt8) (cn:Bool) (w:World),(∀ w,Own B w0 hs w→Row w bv (u8s L))→Bytes8 L→L.length≤2000→dep≤4→1≤vs.length→vs.length≤4→p+10*drawN dep≤900000→Own B w0 ((rp,.cells #[bv,.int .i64 (p:Int)] 130 (0,0))::hs) w→Calls Tryd.prog 114 #[.pointer (some ⟨rp,0,none⟩),.int .i64 dep,str vs,.bool cn] w fun en w'=>∃ f:List UInt8,∃ p':Nat,en=.returned (str f)∧((1≤f.length∧f.length+1≤4*drawN dep)∧p'+5≤p+10*drawN dep)∧Own B w0 ((rp,.cells #[bv,.int .i64 (p':Int)] 130 (0,0))::hs) w':=fun m=>by
  induction m with
  | zero=>exact fun dep h B w0 hs rp p bv L vs cn w hb h8 hL hd hv1 hv4 hp hw=>l2Draw_step B w0 hs rp p bv L dep vs cn w hb h8 hL hd hv1 hv4 hp (fun _ _ _ _ _ _ _ d2 _ _ _ _ _ _ hlt=>absurd hlt (by omega)) hw
  | succ m ih=>exact fun dep h B w0 hs rp p bv L vs cn w hb h8 hL hd hv1 hv4 hp hw=>l2Draw_step B w0 hs rp p bv L dep vs cn w hb h8 hL hd hv1 hv4 hp (fun B w0 hs rp p bv L d2 vs2 cn2 w hb h8 hL hlt k1 k2 k3 k4 hw=>ih d2 (by omega) B w0 hs rp p bv L vs2 cn2 w hb h8 hL k1 k2 k3 k4 hw) hw
theorem l2Draw_ok (B:Nat) (w0:World) (hs:List (Nat×Obj)) (rp p:Nat) (bv:Value) (L:List Int) (dep:Int) (vs:List UInt8) (cn:Bool) (w:World) (hb:∀ w,Own B w0 hs w→Row w bv (u8s L)) (hL8:Bytes8 L) (hL:L.length≤2000) (hd:dep≤4) (hv1:1≤vs.length) (hv4:vs.length≤4) (hp:p≤800000) (hw:Own B w0 ((rp,.cells #[bv,.int .i64 (p:Int)] 130 (0,0))::hs) w):Calls Tryd.prog 114 #[.pointer (some ⟨rp,0,none⟩),.int .i64 dep,str vs,.bool cn] w fun en w'=>∃ f:List UInt8,∃ p':Nat,en=.returned (str f)∧((1≤f.length∧f.length≤63)∧p'≤p+160)∧Own B w0 ((rp,.cells #[bv,.int .i64 (p':Int)] 130 (0,0))::hs) w':=by
  have hN:=drawN_le hd
  exact (l2Draw_all _ dep (Nat.le_refl _) B w0 hs rp p bv L vs cn w hb hL8 hL hd hv1 hv4 (by omega) hw).mono fun en w' ⟨f,p',h1,⟨⟨h2,h3⟩,h4⟩,h5⟩=>⟨f,p',h1,⟨⟨h2,by omega⟩,by omega⟩,h5⟩
set_option maxHeartbeats 400000 in
theorem sFree_ok (f:List UInt8) (w:World) (hf:f.length≤1048576) :
    Calls Tryd.prog 62 [str f].toArray w fun en w'=>en=.returned (str (freeT f))∧Below w.heap.size w w':=by
 refine fnStart (n:=32) (e:=[(0,str f)]) Tryd.func62 rfl rfl rfl rfl Ends.both ?_;refine zE (zB (zN (v:=str ([])) rfl rfl rfl (jQ rfl rfl) ?_));refine zJ (zD [0] [_] rfl ?_);refine zE (zB (zN (v:=str ([])) rfl rfl rfl (jQ rfl rfl) ?_));refine zJ (zD [0,3] [_,_] rfl ?_);refine zE (zE (zB (zC 1 rfl (zN (v:=bo_ ((formO f).isSome)) rfl rfl rfl (qS rfl Tryd.call116 rfl qG (fun w1 hw1=>sFValid_ok f w1 hf)) ?_))));refine zC 1 rfl (zJ (zD [0,3,9] [_,_,_] rfl ?_));refine qH (b:=!((formO f).isSome)) rfl (fun h9=>?_) (fun h9=>?_)
 ·
  replace h9:=not_true h9;refine zE (zB (zN (v:=str ([])) rfl rfl rfl (jQ rfl rfl) ?_));refine zJ (zD [2] [_] rfl ?_);refine qL (qQ rfl rfl fun w' hw=>?_)
  exact ⟨ret_s (by unfold freeT;rw [show formO f=none by simp_all]),hw.below⟩
 replace h9:=not_false h9
 obtain ⟨p,hp⟩:=Option.isSome_iff_exists.1 (show (formO f).isSome=true by simp_all)
 have hP:=formO_pa hp
 have hf16:=frB_lt (formO_wf hp);refine qO (zD [0,3] [_,_] rfl ?_);refine zE (zB (zC 1 rfl (zN (v:=.tuple #[i6_ ((frB p:Int)),i6_ ((f.length:Int))]) rfl rfl rfl (qS rfl Tryd.call117 rfl qG (fun w1 hw1=>l2Free_ok f 0 0 p f.length w1 hf (by omega) hP)) ?_)));refine zC 1 rfl (zN (v:=i6_ ((frB p:Int))) rfl rfl rfl (qY rfl rfl rfl) ?_);refine zN (v:=i6_ ((f.length:Int))) rfl rfl rfl (qY rfl rfl rfl) ?_;refine zC 2 rfl (zJ (zD [3,4] [_,_] rfl ?_));refine zE (zE (zB (zC 1 rfl (zJ (zD [3,4,6] [_,_,_] rfl ?_)))));refine yA (jG (σ:=Nat) (fun i=>i≤4) (fun i=>[(3,str (varsS (frB p) i)),(4,i6_ ((frB p:Int))),(6,i6_ ((i:Int)))]) (fun i=>Own w.heap.size w []) (fun i=>4 - i) (0) (by omega) (Sub.cons (by rfl) (Sub.sel [4,6] rfl)) (fun _ h=>h) ?_)
 rintro i hi
 have hmi:frB p / 2 ^ i≤frB p:=Nat.div_le_self _ _;refine zE (zE (zB (zC 2 rfl (zJ (zD [3,4,6,16] [_,_,_,_] rfl ?_)))));refine qH (b:=decide (((i:Int))<(4:Int))) rfl (fun h16=>?_) (fun h16=>?_)
 ·
  replace h16:=zI h16;refine qO (zD [3,4,6] [_,_,_] rfl ?_);refine zE (yA (zE (zB (zC 2 rfl (zN (v:=.int .u64 ((i:Int))) rfl rfl rfl (jH .u64 rfl yR jN rfl (IntWalk.u64_in _ (by omega))) ?_)))));refine zN (v:=i6_ ((((frB p) / 2 ^ i:Nat):Int))) rfl rfl rfl (OpQ.shr (a:=frB p) (b:=i) rfl rfl rfl (by omega)) ?_;refine zN (v:=i6_ (((((frB p) / 2 ^ i) &&& 1:Nat):Int))) rfl rfl rfl (OpQ.and (a:=(frB p) / 2 ^ i) (b:=1) rfl rfl rfl (by omega) (by omega)) ?_;refine zC 1 rfl (zJ (zD [3,4,6,24] [_,_,_,_] rfl ?_));refine qH (b:=decide ((((((frB p) / 2 ^ i) &&& 1:Nat):Int))=(1:Int))) rfl (fun h24=>?_) (fun h24=>?_)
  ·
   replace h24:=zI h24
   have hvl:=varsS_len (frB p) i;refine zB (zC 3 rfl (zN rfl rfl rfl (qT rfl rfl rfl (by omega) (by omega)) ?_));refine zN (v:=str ((([97,98,99,100]).drop (((i:Int)).toNat)).take ((((i:Int))+(1:Int)).toNat - ((i:Int)).toNat))) rfl rfl rfl (yX rfl qR rfl rfl rfl (by omega) (by omega) (by first | omega | (simp;omega))) ?_;refine zN rfl rfl rfl (yK rfl rfl rfl (by rw [name_cut (by omega)];simp only [zY,zZ];omega)) ?_;refine zC 1 rfl (zJ (zD [3,4,6] [_,_,_] rfl ?_));refine zB (zC 1 rfl (zN rfl rfl rfl (qT rfl rfl rfl (by omega) (by omega)) ?_));refine zC 1 rfl (zJ (yY (i+1) (by omega) (by omega) (Sub.cons (by first | (rw [varsS_yes (by assumption),← name_cut (by omega)];rfl) | (rw [varsS_no (by assumption)];rfl)) (Sub.sel [4,6] rfl)) (fun _ h=>h)))
  replace h24:=zG h24;refine qO (zD [3,4,6] [_,_,_] rfl ?_);refine zB (zC 1 rfl (zN rfl rfl rfl (qT rfl rfl rfl (by omega) (by omega)) ?_));refine zC 1 rfl (zJ (yY (i+1) (by omega) (by omega) (Sub.cons (by first | (rw [varsS_yes (by assumption),← name_cut (by omega)];rfl) | (rw [varsS_no (by assumption)];rfl)) (Sub.sel [4,6] rfl)) (fun _ h=>h)))
 replace h16:=zG h16;refine xA rfl ?_;refine zD [3] [_] rfl ?_;refine zE (zB (zC 2 rfl (zJ (zD [2] [_] rfl ?_))));refine qL (qQ rfl rfl fun w' hw=>?_)
 exact ⟨ret_s (by unfold freeT;rw [hp,show i=4 from by omega]),hw.below⟩
set_option maxHeartbeats 400000 in
theorem l2Bad_ok (B:Nat) (w0:World) (hs:List (Nat×Obj)) (rp p:Nat) (bv:Value) (L:List Int) (f:List UInt8) (w:World) (hb:∀ w,Own B w0 hs w→Row w bv (u8s L)) (hL8:Bytes8 L) (hL:L.length≤2000) (hf1:1≤f.length) (hf2:f.length≤190) (hp:p≤800000) (hw:Own B w0 ((rp,.cells #[bv,.int .i64 (p:Int)] 130 (0,0))::hs) w) :
    Calls Tryd.prog 108 [pt_ rp,str f].toArray w fun en w'=>∃ g:List UInt8,∃ p':Nat,en=.returned (str g)∧(g.length≤200∧p'≤p+5)∧Own B w0 (((rp,.cells #[bv,.int .i64 (p':Int)] 130 (0,0))::hs)) w':=by
 refine fnStartC (Own B w0 ((rp,.cells #[bv,.int .i64 (p:Int)] 130 (0,0))::hs)) (n:=41) (e:=[(0,pt_ rp),(1,str f)]) Tryd.func108 rfl rfl rfl rfl Ends.both hw ?_;refine zE (zB (zN (v:=str ([])) rfl rfl rfl (jQ rfl rfl) ?_));refine zJ (zD [0,1] [_,_] rfl ?_);refine zE (zE (qF (qJ 1 rfl (yH (rp:=rp) (RT:=130) (p:=p) (bv:=bv) (hs:=hs) (ok:=fun (k:Int) p'=>0≤k∧(1≤(30:Int)→k<30)∧p'=p+1) (v:=fun (k:Int)=>i6_ k) (new:=fun (k:Int)=>[]) (xs:=[.tmp 6,.const (i6_ 30)]) (vs:=[pt_ rp,i6_ 30]) ([]:List (Nat×Obj)) rfl rfl rfl rfl xR rfl (fun w1 hw1=>(pick_ok B w0 (([]:List (Nat×Obj))++hs) rp p bv L 30 w1 (fun w2 hw2=>hb w2 (qA (f:=([]:List (Nat×Obj))) hw2)) hL8 hL (by omega) hw1).mono fun en w' ⟨k',p',h1,h2,h3⟩=>⟨k',p',h1,h2,h3⟩) fun k7 p_7 hKp_7=>?_))))
 show Ll _ _ (Own _ _ (_::hs)) _ _ ((7,i6_ k7)::_) _ _ _
 obtain ⟨h0k7,h1k7,hep_7⟩:=hKp_7
 try have hltk7:=h1k7 (by first | omega | (split <;> omega) | decide);refine zM (zD [0,1,7] [_,_,_] rfl ?_);refine yA (zE (zB (zC 2 rfl (zJ (zD [0,1,7,8] [_,_,_,_] rfl ?_)))));refine qH (b:=decide (k7=(0:Int))) rfl (fun h8=>?_) (fun h8=>?_)
 ·
  replace h8:=zI h8;refine zE (qF (qJ 2 rfl (yS (xs:=[.const (str ([116])),.const (str ([97])),.const (str ([32]))]) (vs:=[str ([116]),str ([97]),str ([32])]) jP rfl rfl rfl rfl rfl rfl (by decide) rfl fun p12 hp12=>?_)));refine yH (rp:=rp) (RT:=130) (p:=p_7) (bv:=bv) (hs:=hs) (ok:=fun (v:List UInt8) p'=>v∈(([[116],[97],[32]]:List (List UInt8)))∧p'=p_7+1) (v:=fun (v:List UInt8)=>str v) (new:=fun (v:List UInt8)=>[]) (xs:=[.tmp 11,.tmp 12]) (vs:=[pt_ rp,sl_ p12 3 3]) ([bk_ p12 #[str ([116]),str ([97]),str ([32])] 9]:List (Nat×Obj)) rfl rfl rfl rfl xS rfl (fun w1 hw1=>(of_ok B w0 (([bk_ p12 #[str ([116]),str ([97]),str ([32])] 9]:List (Nat×Obj))++hs) rp p_7 bv L (sl_ p12 3 3) (([[116],[97],[32]]:List (List UInt8))) w1 (fun w2 hw2=>hb w2 (qA (f:=([bk_ p12 #[str ([116]),str ([97]),str ([32])] 9]:List (Nat×Obj))) hw2)) hL8 hL (fun w2 h2=>(xQ h2 (i:=0) rfl (n:=3) (cap:=3) (vs:=strs ([[116],[97],[32]]:List (List UInt8))) rfl rfl (by decide))) (by simp) (by omega) hw1).mono fun en w' ⟨v',p',h1,h2,h3⟩=>⟨v',p',h1,h2,h3⟩) fun v13 p_13 hKp_13=>?_
  show Ll _ _ (Own _ _ (_::_::hs)) _ _ ((13,str v13)::_) _ _ _
  obtain ⟨hmv13,hep_13⟩:=hKp_13
  have hqv13:=len_of (a:=1) (b:=1) hmv13 (by decide);refine zS rfl rfl rfl (yK rfl rfl rfl (by first | omega | (simp only [zQ,zY,zZ,zT,qB];omega))) ?_;refine qJ 1 rfl (zM (zD [4] [_] rfl ?_));refine qL (qQ rfl rfl fun w' hw=>?_)
  exact ⟨f++v13,p_13,rfl,⟨(by (try dsimp only);(try simp only [zQ,zY,zZ,zT,qB]);omega),by omega⟩,hw.sub (qM _ (zA _ (zP _)))⟩
 replace h8:=zG h8;refine zE (zB (zC 2 rfl (zJ (zD [0,1,7,15] [_,_,_,_] rfl ?_))));refine qH (b:=decide (k7=(1:Int))) rfl (fun h15=>?_) (fun h15=>?_)
 ·
  replace h15:=zI h15;refine zE (zB (zC 2 rfl (zN (v:=i6_ ((f.length:Int))) rfl rfl rfl (xM rfl qI rfl) ?_)));refine zN rfl rfl rfl (jM rfl rfl rfl (by omega) (by omega)) ?_;refine zN (v:=str (f.take ((((f.length:Int)) - (1:Int)).toNat))) rfl rfl rfl (xE rfl qR rfl rfl (by omega) (by omega)) ?_;refine zC 1 rfl (zJ (zD [4] [_] rfl ?_));refine qL (qQ rfl rfl fun w' hw=>?_)
  exact ⟨f.take ((((f.length:Int)) - (1:Int)).toNat),p_7,rfl,⟨(by (try dsimp only);(try simp only [zQ,zY,zZ,zT,qB]);omega),by omega⟩,hw.sub (zA _ (zP _))⟩
 replace h15:=zG h15;refine zE (zB (zC 2 rfl (zJ (zD [0,1,22] [_,_,_] rfl ?_))));refine qH (b:=decide (k7=(2:Int))) rfl (fun h22=>?_) (fun h22=>?_)
 ·
  replace h22:=zI h22;refine zE (qF (qJ 2 rfl (zS (v:=i6_ ((f.length:Int))) rfl rfl rfl (xM rfl qI rfl) ?_)));refine yH (rp:=rp) (RT:=130) (p:=p_7) (bv:=bv) (hs:=hs) (ok:=fun (k:Int) p'=>0≤k∧(1≤((f.length:Int))→k<((f.length:Int)))∧p'=p_7+1) (v:=fun (k:Int)=>i6_ k) (new:=fun (k:Int)=>[]) (xs:=[.tmp 24,.tmp 26]) (vs:=[pt_ rp,i6_ ((f.length:Int))]) ([]:List (Nat×Obj)) rfl rfl rfl rfl xR rfl (fun w1 hw1=>(pick_ok B w0 (([]:List (Nat×Obj))++hs) rp p_7 bv L ((f.length:Int)) w1 (fun w2 hw2=>hb w2 (qA (f:=([]:List (Nat×Obj))) hw2)) hL8 hL (by omega) hw1).mono fun en w' ⟨k',p',h1,h2,h3⟩=>⟨k',p',h1,h2,h3⟩) fun k27 p_27 hKp_27=>?_
  show Ll _ _ (Own _ _ (_::hs)) _ _ ((27,i6_ k27)::_) _ _ _
  obtain ⟨h0k27,h1k27,hep_27⟩:=hKp_27
  try have hltk27:=h1k27 (by first | omega | (split <;> omega) | decide);refine qJ 1 rfl (zM (zD [0,1,5] [_,_,_] rfl ?_));refine zE (jR (S:=Own B w0 []) [(0,true),(1,true),(2,true),(3,true),(7,true),(8,true),(9,true),(10,true),(4,false),(5,false),(6,true),(11,true),(12,true)] yG (fun _ h=>h.drawn) (by kernel_rfl) ?_);refine jE 2 rfl (pk [] rfl rfl) ?_;refine yI (v:=str (f.take ((k27).toNat))) rfl rfl rfl rfl rfl (xE rfl qR rfl rfl (by omega) (by omega)) (pk [] rfl rfl) ?_;refine jE 3 rfl (pk [] rfl rfl) ?_;refine yI rfl rfl rfl rfl rfl (qT rfl rfl rfl (by omega) (by omega)) (pk [] rfl rfl) ?_;refine yI (v:=str (f.drop ((k27+(1:Int)).toNat))) rfl rfl rfl rfl rfl (xX rfl qR rfl rfl (by omega) (by omega)) (pk [] rfl rfl) ?_;refine yV rfl ?_;refine yS (xs:=[.const (str ([101])),.const (str ([65])),.const (str ([80])),.const (str ([53]))]) (vs:=[str ([101]),str ([65]),str ([80]),str ([53])]) jP rfl rfl rfl rfl rfl rfl (by decide) rfl fun p32 hp32=>?_;refine zM (yO (pk [] rfl rfl) ?_);refine yV rfl ?_;refine yH (rp:=rp) (RT:=130) (p:=p_27) (bv:=bv) (hs:=hs) (ok:=fun (v:List UInt8) p'=>v∈(([[101],[65],[80],[53]]:List (List UInt8)))∧p'=p_27+1) (v:=fun (v:List UInt8)=>str v) (new:=fun (v:List UInt8)=>[]) (xs:=[.tmp 31,.tmp 32]) (vs:=[pt_ rp,sl_ p32 4 4]) ([bk_ p32 #[str ([101]),str ([65]),str ([80]),str ([53])] 9]:List (Nat×Obj)) rfl rfl rfl rfl xS rfl (fun w1 hw1=>(of_ok B w0 (([bk_ p32 #[str ([101]),str ([65]),str ([80]),str ([53])] 9]:List (Nat×Obj))++hs) rp p_27 bv L (sl_ p32 4 4) (([[101],[65],[80],[53]]:List (List UInt8))) w1 (fun w2 hw2=>hb w2 (qA (f:=([bk_ p32 #[str ([101]),str ([65]),str ([80]),str ([53])] 9]:List (Nat×Obj))) hw2)) hL8 hL (fun w2 h2=>(xQ h2 (i:=0) rfl (n:=4) (cap:=4) (vs:=strs ([[101],[65],[80],[53]]:List (List UInt8))) rfl rfl (by decide))) (by simp) (by omega) hw1).mono fun en w' ⟨v',p',h1,h2,h3⟩=>⟨v',p',h1,h2,h3⟩) fun v33 p_33 hKp_33=>?_
  show Ll _ _ (Own _ _ (_::_::hs)) _ _ ((33,str v33)::_) _ _ _
  obtain ⟨hmv33,hep_33⟩:=hKp_33
  have hqv33:=len_of (a:=1) (b:=1) hmv33 (by decide);refine zM (yO (pk [] rfl rfl) ?_);refine yI rfl rfl rfl rfl rfl (yK rfl rfl rfl (by first | omega | (simp only [zQ,zY,zZ,zT,qB];omega))) (pk [] rfl rfl) ?_;refine yI rfl rfl rfl rfl rfl (yK rfl rfl rfl (by first | omega | (simp only [zQ,zY,zZ,zT,qB];omega))) (pk [] rfl rfl) ?_;refine jE 1 rfl (pk [] rfl rfl) ?_;refine Ld.nil ?_;refine zD [4] [_] rfl ?_;refine qL (qQ rfl rfl fun w' hw=>?_)
  exact ⟨((f.take ((k27).toNat))++v33)++(f.drop ((k27+(1:Int)).toNat)),p_33,rfl,⟨(by (try dsimp only);(try simp only [zQ,zY,zZ,zT,qB]);omega),by omega⟩,hw.sub (qM _ (zA _ (zP _)))⟩
 replace h22:=zG h22;refine qO (zD [1] [_] rfl ?_);refine zE (zB (zC 2 rfl (zJ (zD [4] [_] rfl ?_))));refine qL (qQ rfl rfl fun w' hw=>?_)
 exact ⟨f,p_7,rfl,⟨(by (try dsimp only);(try simp only [zQ,zY,zZ,zT,qB]);omega),by omega⟩,hw.sub (zA _ (zP _))⟩
end Go.Proofs.YtefiibghfgfdnaaDoor
namespace Go.Proofs.YtefiibghfgfdnaaDoor
open Go.RowKit Go.Wk
set_option linter.unusedSimpArgs false
set_option maxHeartbeats 400000 in
theorem l1Open_ok (B:Nat) (w0:World) (hs:List (Nat×Obj)) (rp p:Nat) (bv:Value) (L:List Int) (w:World) (hb:∀ w,Own B w0 hs w→Row w bv (u8s L)) (hL8:Bytes8 L) (hL:L.length≤2000) (hp:p≤700000) (hw:Own B w0 ((rp,.cells #[bv,.int .i64 (p:Int)] 130 (0,0))::hs) w) :
    Calls Tryd.prog 50 [pt_ rp].toArray w fun en w'=>∃ a:St,∃ p':Nat,en=.returned (vS a)∧(a.Tame∧p'≤p+300)∧Own B w0 (((rp,.cells #[bv,.int .i64 (p':Int)] 130 (0,0))::hs)) w':=by
 refine fnStartC (Own B w0 ((rp,.cells #[bv,.int .i64 (p:Int)] 130 (0,0))::hs)) (n:=7) (e:=[(0,pt_ rp)]) Tryd.func50 rfl rfl rfl rfl Ends.both hw ?_;refine zE (qF (vK rfl rfl rfl rfl jD fun p2 hp2=>?_))
 show Ll _ _ (Own _ _ (bk_ p2 #[i6_ 0,str ([]),str ([])] 24::_::hs)) _ _ ((2,pt_ p2)::_) _ _ _;refine zM (zD [0,2] [_,_] rfl ?_);refine zE (qF (qJ 2 rfl (yH (rp:=rp) (RT:=130) (p:=p) (bv:=bv) (hs:=hs) (ok:=fun (a:St) p'=>(a.Fine∧a.n≤5)∧p'≤p+200) (v:=fun (a:St)=>vS a) (new:=fun (a:St)=>[]) (xs:=[.tmp 4]) (vs:=[pt_ rp]) ([bk_ p2 #[i6_ 0,str ([]),str ([])] 24]:List (Nat×Obj)) rfl rfl rfl rfl Tryd.call107 rfl (fun w1 hw1=>(l1Some_ok B w0 (([bk_ p2 #[i6_ 0,str ([]),str ([])] 24]:List (Nat×Obj))++hs) rp p bv L w1 (fun w2 hw2=>hb w2 (qA (f:=([bk_ p2 #[i6_ 0,str ([]),str ([])] 24]:List (Nat×Obj))) hw2)) hL8 hL (by omega) hw1).mono fun en w' ⟨a',p',h1,h2,h3⟩=>⟨a',p',h1,h2,h3⟩) fun a5 p_5 hKp_5=>?_)))
 show Ll _ _ (Own _ _ (_::_::hs)) _ _ ((5,vS a5)::_) _ _ _
 obtain ⟨⟨hfa5,h5a5⟩,hep_5⟩:=hKp_5
 have hloa5:=hfa5.lo;refine yH (rp:=rp) (RT:=130) (p:=p_5) (bv:=bv) (hs:=hs) (ok:=fun (b:St) p'=>((-9223372036854775808≤b.n∧b.n≤9223372036854775807)∧b.set.length≤50000∧b.rel.length≤50000)∧p'≤p_5+10) (v:=fun (b:St)=>vS b) (new:=fun (b:St)=>[]) (xs:=[.tmp 3,.tmp 5]) (vs:=[pt_ rp,vS a5]) ([bk_ p2 #[i6_ 0,str ([]),str ([])] 24]:List (Nat×Obj)) rfl rfl rfl rfl Tryd.call97 rfl (fun w1 hw1=>(l1Bad_ok B w0 (([bk_ p2 #[i6_ 0,str ([]),str ([])] 24]:List (Nat×Obj))++hs) rp p_5 bv L a5 w1 (fun w2 hw2=>hb w2 (qA (f:=([bk_ p2 #[i6_ 0,str ([]),str ([])] 24]:List (Nat×Obj))) hw2)) hL8 hL hfa5 (by omega) hw1).mono fun en w' ⟨b',p',h1,h2,h3⟩=>⟨b',p',h1,h2,h3⟩) fun b6 p_6 hKp_6=>?_
 show Ll _ _ (Own _ _ (_::_::hs)) _ _ ((6,vS b6)::_) _ _ _
 obtain ⟨⟨⟨hlob6,hhib6⟩,hssb6,hrrb6⟩,hep_6⟩:=hKp_6;refine jI (cs':=#[i6_ b6.n,str b6.set,str b6.rel]) (hs':=(bk_ p2 #[i6_ b6.n,str b6.set,str b6.rel] 24::_::hs)) 0 rfl rfl rfl rfl rfl (by kernel_rfl:_=some Tryd.t24) rfl rfl rfl rfl rfl ?_;refine zM (zD [2] [_] rfl ?_);refine qL (Kt.endBox (cs:=#[i6_ b6.n,str b6.set,str b6.rel]) 0 rfl rfl rfl qW qU fun w' hw=>?_)
 exact ⟨b6,p_6,rfl,⟨⟨hlob6,hhib6,hssb6,hrrb6⟩,by omega⟩,hw.sub (qM _ (zA _ (zP _)))⟩
set_option maxHeartbeats 400000 in
theorem l3Small_ok (B:Nat) (w0:World) (hs:List (Nat×Obj)) (rp p:Nat) (bv:Value) (L:List Int) (vs:List UInt8) (w:World) (hb:∀ w,Own B w0 hs w→Row w bv (u8s L)) (hL8:Bytes8 L) (hL:L.length≤2000) (hv1:1≤vs.length) (hv4:vs.length≤4) (hp:p≤600000) (hw:Own B w0 ((rp,.cells #[bv,.int .i64 (p:Int)] 130 (0,0))::hs) w) :
    Calls Tryd.prog 59 [pt_ rp,str vs].toArray w fun en w'=>∃ a:St,∃ f:List UInt8,∃ p':Nat,en=.returned (.tuple #[vS a,str f])∧((a.Tame∧f.length≤200)∧p'≤p+700)∧Own B w0 (((rp,.cells #[bv,.int .i64 (p':Int)] 130 (0,0))::hs)) w':=by
 refine fnStartC (Own B w0 ((rp,.cells #[bv,.int .i64 (p:Int)] 130 (0,0))::hs)) (n:=48) (e:=[(0,pt_ rp),(1,str vs)]) Tryd.func59 rfl rfl rfl rfl Ends.both hw ?_;refine zE (qF (vK rfl rfl rfl rfl jD fun p4 hp4=>?_))
 show Ll _ _ (Own _ _ (bk_ p4 #[i6_ 0,str ([]),str ([])] 24::_::hs)) _ _ ((4,pt_ p4)::_) _ _ _;refine zS (v:=str ([])) rfl rfl rfl (jQ rfl rfl) ?_;refine zM (zD [0,1,4] [_,_,_] rfl ?_);refine zE (qF (qJ 1 rfl (yH (rp:=rp) (RT:=130) (p:=p) (bv:=bv) (hs:=hs) (ok:=fun (a:St) p'=>a.Tame∧p'≤p+300) (v:=fun (a:St)=>vS a) (new:=fun (a:St)=>[]) (xs:=[.tmp 10]) (vs:=[pt_ rp]) ([bk_ p4 #[i6_ 0,str ([]),str ([])] 24]:List (Nat×Obj)) rfl rfl rfl rfl Tryd.call50 rfl (fun w1 hw1=>(l1Open_ok B w0 (([bk_ p4 #[i6_ 0,str ([]),str ([])] 24]:List (Nat×Obj))++hs) rp p bv L w1 (fun w2 hw2=>hb w2 (qA (f:=([bk_ p4 #[i6_ 0,str ([]),str ([])] 24]:List (Nat×Obj))) hw2)) hL8 hL (by omega) hw1).mono fun en w' ⟨a',p',h1,h2,h3⟩=>⟨a',p',h1,h2,h3⟩) fun a11 p_11 hKp_11=>?_)))
 show Ll _ _ (Own _ _ (_::_::hs)) _ _ ((11,vS a11)::_) _ _ _
 obtain ⟨hta11,hep_11⟩:=hKp_11;refine vK rfl rfl rfl rfl jD fun p6 hp6=>?_
 show Ll _ _ (Own _ _ (bk_ p6 #[i6_ 0,str ([]),str ([])] 24::_::_::hs)) _ _ ((6,pt_ p6)::_) _ _ _;refine jI (cs':=#[i6_ a11.n,str a11.set,str a11.rel]) (hs':=(bk_ p6 #[i6_ a11.n,str a11.set,str a11.rel] 24::_::_::hs)) 0 rfl rfl rfl rfl rfl (by kernel_rfl:_=some Tryd.t24) rfl rfl rfl rfl rfl ?_;refine zM (zD [0,1,4,6] [_,_,_,_] rfl ?_);refine zE (qF (qJ 2 rfl (yH (rp:=rp) (RT:=130) (p:=p_11) (bv:=bv) (hs:=hs) (ok:=fun (k:Int) p'=>0≤k∧(1≤(3:Int)→k<3)∧p'=p_11+1) (v:=fun (k:Int)=>i6_ k) (new:=fun (k:Int)=>[]) (xs:=[.tmp 13,.const (i6_ 3)]) (vs:=[pt_ rp,i6_ 3]) ([bk_ p6 #[i6_ a11.n,str a11.set,str a11.rel] 24,bk_ p4 #[i6_ 0,str ([]),str ([])] 24]:List (Nat×Obj)) rfl rfl rfl rfl xR rfl (fun w1 hw1=>(pick_ok B w0 (([bk_ p6 #[i6_ a11.n,str a11.set,str a11.rel] 24,bk_ p4 #[i6_ 0,str ([]),str ([])] 24]:List (Nat×Obj))++hs) rp p_11 bv L 3 w1 (fun w2 hw2=>hb w2 (qA (f:=([bk_ p6 #[i6_ a11.n,str a11.set,str a11.rel] 24,bk_ p4 #[i6_ 0,str ([]),str ([])] 24]:List (Nat×Obj))) hw2)) hL8 hL (by omega) hw1).mono fun en w' ⟨k',p',h1,h2,h3⟩=>⟨k',p',h1,h2,h3⟩) fun k14 p_14 hKp_14=>?_)))
 show Ll _ _ (Own _ _ (_::_::_::hs)) _ _ ((14,i6_ k14)::_) _ _ _
 obtain ⟨h0k14,h1k14,hep_14⟩:=hKp_14
 try have hltk14:=h1k14 (by first | omega | (split <;> omega) | decide);refine zS rfl rfl rfl (qT rfl rfl rfl (by omega) (by omega)) ?_;refine qJ 2 rfl (yH (rp:=rp) (RT:=130) (p:=p_14) (bv:=bv) (hs:=hs) (ok:=fun (k:Int) p'=>0≤k∧(1≤(2:Int)→k<2)∧p'=p_14+1) (v:=fun (k:Int)=>i6_ k) (new:=fun (k:Int)=>[]) (xs:=[.tmp 17,.const (i6_ 2)]) (vs:=[pt_ rp,i6_ 2]) ([bk_ p6 #[i6_ a11.n,str a11.set,str a11.rel] 24,bk_ p4 #[i6_ 0,str ([]),str ([])] 24]:List (Nat×Obj)) rfl rfl rfl rfl xR rfl (fun w1 hw1=>(pick_ok B w0 (([bk_ p6 #[i6_ a11.n,str a11.set,str a11.rel] 24,bk_ p4 #[i6_ 0,str ([]),str ([])] 24]:List (Nat×Obj))++hs) rp p_14 bv L 2 w1 (fun w2 hw2=>hb w2 (qA (f:=([bk_ p6 #[i6_ a11.n,str a11.set,str a11.rel] 24,bk_ p4 #[i6_ 0,str ([]),str ([])] 24]:List (Nat×Obj))) hw2)) hL8 hL (by omega) hw1).mono fun en w' ⟨k',p',h1,h2,h3⟩=>⟨k',p',h1,h2,h3⟩) fun k18 p_18 hKp_18=>?_)
 show Ll _ _ (Own _ _ (_::_::_::hs)) _ _ ((18,i6_ k18)::_) _ _ _
 obtain ⟨h0k18,h1k18,hep_18⟩:=hKp_18
 try have hltk18:=h1k18 (by first | omega | (split <;> omega) | decide);refine qJ 1 rfl (yH (rp:=rp) (RT:=130) (p:=p_18) (bv:=bv) (hs:=hs) (ok:=fun (f:List UInt8) p'=>(1≤f.length∧f.length≤63)∧p'≤p_18+160) (v:=fun (f:List UInt8)=>str f) (new:=fun (f:List UInt8)=>[]) (xs:=[.tmp 12,.tmp 15,.tmp 16,.tmp 19]) (vs:=[pt_ rp,i6_ ((1:Int)+k14),str vs,bo_ (decide (k18=(0:Int)))]) ([bk_ p6 #[i6_ a11.n,str a11.set,str a11.rel] 24,bk_ p4 #[i6_ 0,str ([]),str ([])] 24]:List (Nat×Obj)) rfl rfl rfl rfl Tryd.call114 rfl (fun w1 hw1=>(l2Draw_ok B w0 (([bk_ p6 #[i6_ a11.n,str a11.set,str a11.rel] 24,bk_ p4 #[i6_ 0,str ([]),str ([])] 24]:List (Nat×Obj))++hs) rp p_18 bv L ((1:Int)+k14) vs (decide (k18=(0:Int))) w1 (fun w2 hw2=>hb w2 (qA (f:=([bk_ p6 #[i6_ a11.n,str a11.set,str a11.rel] 24,bk_ p4 #[i6_ 0,str ([]),str ([])] 24]:List (Nat×Obj))) hw2)) hL8 hL (by omega) (by omega) (by omega) (by omega) hw1).mono fun en w' ⟨f',p',h1,h2,h3⟩=>⟨f',p',h1,h2,h3⟩) fun f20 p_20 hKp_20=>?_)
 show Ll _ _ (Own _ _ (_::_::_::hs)) _ _ ((20,str f20)::_) _ _ _
 obtain ⟨⟨hlof20,hlef20⟩,hep_20⟩:=hKp_20;refine qJ 1 rfl (zM (zD [0,1,4,6,7] [_,_,_,_,_] rfl ?_));refine zE (zB (zC 1 rfl (zN (v:=str (freeT f20)) rfl rfl rfl (qS rfl Tryd.call62 rfl qG (fun w1 hw1=>sFree_ok f20 w1 (by first | omega | (simp;omega)))) ?_)));refine zC 1 rfl (zJ (zD [0,1,4,6,7,8] [_,_,_,_,_,_] rfl ?_));refine zE (zE (qF (qJ 1 rfl (yH (rp:=rp) (RT:=130) (p:=p_20) (bv:=bv) (hs:=hs) (ok:=fun (k:Int) p'=>0≤k∧(1≤(12:Int)→k<12)∧p'=p_20+1) (v:=fun (k:Int)=>i6_ k) (new:=fun (k:Int)=>[]) (xs:=[.tmp 23,.const (i6_ 12)]) (vs:=[pt_ rp,i6_ 12]) ([bk_ p6 #[i6_ a11.n,str a11.set,str a11.rel] 24,bk_ p4 #[i6_ 0,str ([]),str ([])] 24]:List (Nat×Obj)) rfl rfl rfl rfl xR rfl (fun w1 hw1=>(pick_ok B w0 (([bk_ p6 #[i6_ a11.n,str a11.set,str a11.rel] 24,bk_ p4 #[i6_ 0,str ([]),str ([])] 24]:List (Nat×Obj))++hs) rp p_20 bv L 12 w1 (fun w2 hw2=>hb w2 (qA (f:=([bk_ p6 #[i6_ a11.n,str a11.set,str a11.rel] 24,bk_ p4 #[i6_ 0,str ([]),str ([])] 24]:List (Nat×Obj))) hw2)) hL8 hL (by omega) hw1).mono fun en w' ⟨k',p',h1,h2,h3⟩=>⟨k',p',h1,h2,h3⟩) fun k24 p_24 hKp_24=>?_))))
 show Ll _ _ (Own _ _ (_::_::_::hs)) _ _ ((24,i6_ k24)::_) _ _ _
 obtain ⟨h0k24,h1k24,hep_24⟩:=hKp_24
 try have hltk24:=h1k24 (by first | omega | (split <;> omega) | decide);refine qJ 1 rfl (zM (zD [0,1,4,6,7,8,25] [_,_,_,_,_,_,_] rfl ?_));refine xZ (σ:=List UInt8) (fun g9=>1≤g9.length∧g9.length≤71) (fun g9=>[(0,pt_ rp),(4,pt_ p4),(6,pt_ p6),(7,str g9)]) (fun g9=>Own B w0 (bk_ p6 #[i6_ a11.n,str a11.set,str a11.rel] 24::bk_ p4 #[i6_ 0,str ([]),str ([])] 24::bk_ rp #[bv,i6_ ((p_24:Int))] 130::hs)) ?_ ?_
 ·
  refine qH (b:=decide ((0:Int)<k24)) rfl (fun h25=>?_) (fun h25=>?_)
  ·
   replace h25:=zI h25;refine zE (zB (zC 1 rfl (zN (v:=i6_ ((vs.length:Int))) rfl rfl rfl (xM rfl qI rfl) ?_)));refine zC 1 rfl (zJ (zD [0,4,6,7,8,9] [_,_,_,_,_,_] rfl ?_));refine yA (jG (σ:=Nat×List UInt8) (fun ⟨i,g⟩=>i≤4∧1≤g.length∧g.length≤63+2*i) (fun ⟨i,g⟩=>[(0,pt_ rp),(4,pt_ p4),(6,pt_ p6),(7,str g),(8,str (freeT f20)),(9,i6_ ((i:Int)))]) (fun ⟨i,g⟩=>Own B w0 (bk_ p6 #[i6_ a11.n,str a11.set,str a11.rel] 24::bk_ p4 #[i6_ 0,str ([]),str ([])] 24::bk_ rp #[bv,i6_ ((p_24:Int))] 130::hs)) (fun ⟨i,g⟩=>4 - i) ((vs.length,f20)) ⟨by omega,by omega,by omega⟩ (Sub.sel [0,4,6,7,8,9] rfl) (fun _ h=>h) ?_)
   rintro ⟨i,g⟩ ⟨hi,hg1,hg2⟩
   dsimp only
   have hfl:=freeT_len f20;refine zE (zE (zB (zC 2 rfl (zJ (zD [0,4,6,7,8,9,29] [_,_,_,_,_,_,_] rfl ?_)))));refine qH (b:=decide (((i:Int))<(4:Int))) rfl (fun h29=>?_) (fun h29=>?_)
   ·
    replace h29:=zI h29;refine qO (zD [0,4,6,7,8,9] [_,_,_,_,_,_] rfl ?_);refine zE (yA (zE (zB (zC 2 rfl (zN (v:=.int .u8 (((([97,98,99,100]:List UInt8).getD i 0).toNat:Int))) rfl rfl rfl (yF (v':=.int .u8 ((([97,98,99,100]:List UInt8).getD i 0).toNat:Int)) rfl (yJ (i:=(i:Int)) rfl qI rfl rfl (by omega) (by simp only [zY,zZ];omega))) ?_)))));refine zN (v:=i6_ (findS (freeT f20) (((([97,98,99,100]:List UInt8).getD i 0).toNat:Int)))) rfl rfl rfl (qS rfl Tryd.call115 rfl qG (fun w1 hw1=>l15Find_ok (freeT f20) (((([97,98,99,100]:List UInt8).getD i 0).toNat:Int)) w1 (by first | decide | omega))) ?_;refine zC 1 rfl (zJ (zD [0,4,6,7,8,9,36] [_,_,_,_,_,_,_] rfl ?_));refine qH (b:=decide ((0:Int)≤(findS (freeT f20) (((([97,98,99,100]:List UInt8).getD i 0).toNat:Int))))) rfl (fun h36=>?_) (fun h36=>?_)
    ·
     replace h36:=zI h36;refine zB (zC 2 rfl (zN rfl rfl rfl (qT rfl rfl rfl (by omega) (by omega)) ?_));refine zN (v:=str ((([97,98,99,100]).drop (((i:Int)).toNat)).take ((((i:Int))+(1:Int)).toNat - ((i:Int)).toNat))) rfl rfl rfl (yX rfl qR rfl rfl rfl (by omega) (by omega) (by first | omega | (simp;omega))) ?_;refine zN rfl rfl rfl (yK rfl rfl rfl (by rw [name_cut (by omega)];simp only [zY,zZ];omega)) ?_;refine zC 1 rfl (zN rfl rfl rfl (yK rfl rfl rfl (by first | omega | (simp only [zQ,zY,zZ,zT,qB];omega))) ?_);refine zC 1 rfl (zJ (zD [0,4,6,7,8,9] [_,_,_,_,_,_] rfl ?_));refine zB (zC 1 rfl (zN rfl rfl rfl (qT rfl rfl rfl (by omega) (by omega)) ?_));refine zC 1 rfl (zJ (yY ((i+1,(([83])++((([97,98,99,100]).drop (((i:Int)).toNat)).take ((((i:Int))+(1:Int)).toNat - ((i:Int)).toNat)))++g)) ⟨by omega,(by (try dsimp only);(try simp only [zQ,zY,zZ,zT,qB]);omega),(by (try dsimp only);(try simp only [zQ,zY,zZ,zT,qB]);omega)⟩ (by omega) (Sub.sel [0,4,6,7,8,9] rfl) (fun _ h=>h)))
    replace h36:=zG h36;refine qO (zD [0,4,6,7,8,9] [_,_,_,_,_,_] rfl ?_);refine zB (zC 1 rfl (zN rfl rfl rfl (qT rfl rfl rfl (by omega) (by omega)) ?_));refine zC 1 rfl (zJ (yY ((i+1,g)) ⟨by omega,(by (try dsimp only);(try simp only [zQ,zY,zZ,zT,qB]);omega),(by (try dsimp only);(try simp only [zQ,zY,zZ,zT,qB]);omega)⟩ (by omega) (Sub.sel [0,4,6,7,8,9] rfl) (fun _ h=>h)))
   replace h29:=zG h29;refine xA rfl ?_;refine qK (g) ⟨by omega,by omega⟩ (Sub.sel [0,4,6,7] rfl) (fun _ h=>h)
  replace h25:=zG h25;refine qO (qK (f20) ⟨by omega,by omega⟩ (Sub.sel [0,4,6,7] rfl) (fun _ h=>h))
 rintro g9 ⟨hg91,hg92⟩;refine zD [0,4,6,7] [_,_,_,_] rfl ?_;refine zE (jR (S:=Own B w0 [bk_ p6 #[i6_ a11.n,str a11.set,str a11.rel] 24]) [(0,true),(1,true),(2,true),(3,false),(4,false),(5,true)] yG (fun _ h=>h.drawn) (by kernel_rfl) ?_);refine yI rfl rfl rfl rfl rfl (qX (cs:=#[i6_ a11.n,str a11.set,str a11.rel]) 0 rfl qW rfl rfl qU) (pk [0] rfl rfl) ?_;refine jE 2 rfl (pk [0] rfl rfl) ?_;refine yV rfl ?_;refine yH (rp:=rp) (RT:=130) (p:=p_24) (bv:=bv) (hs:=hs) (ok:=fun (g:List UInt8) p'=>g.length≤200∧p'≤p_24+5) (v:=fun (g:List UInt8)=>str g) (new:=fun (g:List UInt8)=>[]) (xs:=[.tmp 45,.tmp 46]) (vs:=[pt_ rp,str g9]) ([bk_ p6 #[i6_ a11.n,str a11.set,str a11.rel] 24,bk_ p4 #[i6_ 0,str ([]),str ([])] 24]:List (Nat×Obj)) rfl rfl rfl rfl Tryd.call108 rfl (fun w1 hw1=>(l2Bad_ok B w0 (([bk_ p6 #[i6_ a11.n,str a11.set,str a11.rel] 24,bk_ p4 #[i6_ 0,str ([]),str ([])] 24]:List (Nat×Obj))++hs) rp p_24 bv L g9 w1 (fun w2 hw2=>hb w2 (qA (f:=([bk_ p6 #[i6_ a11.n,str a11.set,str a11.rel] 24,bk_ p4 #[i6_ 0,str ([]),str ([])] 24]:List (Nat×Obj))) hw2)) hL8 hL (by omega) (by omega) (by omega) hw1).mono fun en w' ⟨g',p',h1,h2,h3⟩=>⟨g',p',h1,h2,h3⟩) fun g47 p_47 hKp_47=>?_
 show Ll _ _ (Own _ _ (_::_::_::hs)) _ _ ((47,str g47)::_) _ _ _
 obtain ⟨hleg47,hep_47⟩:=hKp_47;refine zM (yO (pk [0] rfl rfl) ?_);refine yV rfl ?_;refine jI (cs':=#[i6_ a11.n,str a11.set,str a11.rel]) (hs':=(_::bk_ p4 #[i6_ a11.n,str a11.set,str a11.rel] 24::_::hs)) 1 rfl rfl rfl rfl rfl (by kernel_rfl:_=some Tryd.t24) rfl rfl rfl rfl rfl ?_;refine zM (yO (pk [0] rfl rfl) ?_);refine jE 1 rfl (pk [0] rfl rfl) ?_;refine Ld.nil ?_;refine zD [4,5] [_,_] rfl ?_;refine qL (Kt.endMany rfl (.cell (cs:=#[i6_ a11.n,str a11.set,str a11.rel]) rfl (fun w1 hw1=>hw1.loadBox 1 rfl qW qU) (.tmp (v:=str g47) rfl ResAt.nil)) (by simp) fun w' hw=>?_)
 exact ⟨a11,g47,p_47,rfl,⟨⟨hta11,by omega⟩,by omega⟩,hw.sub (qM _ (qM _ (zA _ (zP _))))⟩
set_option maxHeartbeats 400000 in
theorem drawDef_ok (B:Nat) (w0:World) (hs:List (Nat×Obj)) (bv:Value) (L:List Int) (w:World) (hb:∀ w,Own B w0 hs w→Row w bv (u8s L)) (hL8:Bytes8 L) (hLs:L.length≤1048576) (hw:Own B w0 hs w) :
    Calls Tryd.prog 15 [bv].toArray w fun en w'=>∃ a:St,∃ f:List UInt8,en=.returned (.tuple #[vS a,str f])∧(a.Tame∧f.length≤300)∧Own B w0 hs w':=by
 refine fnStartC (Own B w0 hs) (n:=35) (e:=[(0,bv)]) Tryd.func15 rfl rfl rfl rfl Ends.both hw ?_;refine zE (qF (vK rfl rfl rfl rfl jD fun p2 hp2=>?_))
 show Ll _ _ (Own _ _ (bk_ p2 #[i6_ 0,str ([]),str ([])] 24::hs)) _ _ ((2,pt_ p2)::_) _ _ _;refine zS (v:=str ([])) rfl rfl rfl (jQ rfl rfl) ?_;refine zM (zD [0,2] [_,_] rfl ?_);refine zE (qF (qJ 1 rfl (jL (ok:=fun ((rp,v,M):Nat×Value×List Int)=>M.length≤2000∧Bytes8 M∧∀ w1,Own B w0 hs w1→Row w1 v (u8s M)) (v:=fun ((rp,v,M):Nat×Value×List Int)=>.pointer (some ⟨rp,0,none⟩)) (new:=fun ((rp,v,M):Nat×Value×List Int)=>[(rp,.cells #[v,.int .i64 ((0:Nat):Int)] 130 (0,0))]) (hs:=hs) (xs:=[.tmp 7]) (vs:=[bv]) ([bk_ p2 #[i6_ 0,str ([]),str ([])] 24]:List (Nat×Obj)) rfl rfl rfl rfl Tryd.call49 rfl (fun w1 hw1=>(open_ok B w0 ([bk_ p2 #[i6_ 0,str ([]),str ([])] 24]:List (Nat×Obj)) hs _ _ w1 hb hL8 hLs hw1).mono fun en w' ⟨rp,v,M,h1,h2,h3⟩=>⟨(rp,v,M),h1,h2,h3⟩) fun ⟨rp,dv,M⟩ hO=>?_)))
 dsimp only at hO
 obtain ⟨hM2,hM8,hMb⟩:=hO
 show Ll _ _ (Own _ _ (_::_::hs)) _ _ ((8,pt_ rp)::_) _ _ _;refine qJ 1 rfl (zM (zD [2,4] [_,_] rfl ?_));refine zE (qF (qJ 2 rfl (yS (xs:=[.const (str ([97])),.const (str ([97,98])),.const (str ([97,98]))]) (vs:=[str ([97]),str ([97,98]),str ([97,98])]) jP rfl rfl rfl rfl rfl rfl (by decide) rfl fun p12 hp12=>?_)));refine yH (rp:=rp) (RT:=130) (p:=0) (bv:=dv) (hs:=hs) (ok:=fun (v:List UInt8) p'=>v∈(([[97],[97,98],[97,98]]:List (List UInt8)))∧p'=0+1) (v:=fun (v:List UInt8)=>str v) (new:=fun (v:List UInt8)=>[]) (xs:=[.tmp 11,.tmp 12]) (vs:=[pt_ rp,sl_ p12 3 3]) ([bk_ p12 #[str ([97]),str ([97,98]),str ([97,98])] 9,bk_ p2 #[i6_ 0,str ([]),str ([])] 24]:List (Nat×Obj)) rfl rfl rfl rfl xS rfl (fun w1 hw1=>(of_ok B w0 (([bk_ p12 #[str ([97]),str ([97,98]),str ([97,98])] 9,bk_ p2 #[i6_ 0,str ([]),str ([])] 24]:List (Nat×Obj))++hs) rp 0 dv M (sl_ p12 3 3) (([[97],[97,98],[97,98]]:List (List UInt8))) w1 (fun w2 hw2=>hMb w2 (qA (f:=([bk_ p12 #[str ([97]),str ([97,98]),str ([97,98])] 9,bk_ p2 #[i6_ 0,str ([]),str ([])] 24]:List (Nat×Obj))) hw2)) hM8 hM2 (fun w2 h2=>(xQ h2 (i:=0) rfl (n:=3) (cap:=3) (vs:=strs ([[97],[97,98],[97,98]]:List (List UInt8))) rfl rfl (by decide))) (by simp) (by omega) hw1).mono fun en w' ⟨v',p',h1,h2,h3⟩=>⟨v',p',h1,h2,h3⟩) fun v13 p_13 hKp_13=>?_
 show Ll _ _ (Own _ _ (_::_::_::hs)) _ _ ((13,str v13)::_) _ _ _
 obtain ⟨hmv13,hep_13⟩:=hKp_13
 have hqv13:=len_of (a:=1) (b:=2) hmv13 (by decide);refine yH (rp:=rp) (RT:=130) (p:=p_13) (bv:=dv) (hs:=hs) (ok:=fun ((a,f):St×List UInt8) p'=>(a.Tame∧f.length≤200)∧p'≤p_13+700) (v:=fun ((a,f):St×List UInt8)=>.tuple #[vS a,str f]) (new:=fun ((a,f):St×List UInt8)=>[]) (xs:=[.tmp 10,.tmp 13]) (vs:=[pt_ rp,str v13]) ([bk_ p12 #[str ([97]),str ([97,98]),str ([97,98])] 9,bk_ p2 #[i6_ 0,str ([]),str ([])] 24]:List (Nat×Obj)) rfl rfl rfl rfl Tryd.call59 rfl (fun w1 hw1=>(l3Small_ok B w0 (([bk_ p12 #[str ([97]),str ([97,98]),str ([97,98])] 9,bk_ p2 #[i6_ 0,str ([]),str ([])] 24]:List (Nat×Obj))++hs) rp p_13 dv M v13 w1 (fun w2 hw2=>hMb w2 (qA (f:=([bk_ p12 #[str ([97]),str ([97,98]),str ([97,98])] 9,bk_ p2 #[i6_ 0,str ([]),str ([])] 24]:List (Nat×Obj))) hw2)) hM8 hM2 (by omega) (by omega) (by omega) hw1).mono fun en w' ⟨a',f',p',h1,h2,h3⟩=>⟨(a',f'),p',h1,h2,h3⟩) fun ⟨a14,f14⟩ p_14 hKp_14=>?_
 show Ll _ _ (Own _ _ (_::_::_::hs)) _ _ ((14,.tuple #[vS a14,str f14])::_) _ _ _
 obtain ⟨⟨hta14,hlef14⟩,hep_14⟩:=hKp_14;refine qJ 1 rfl (zS (v:=vS a14) rfl rfl rfl (qY rfl rfl rfl) ?_);refine zS (v:=str f14) rfl rfl rfl (qY rfl rfl rfl) ?_;refine vK rfl rfl rfl rfl jD fun p5 hp5=>?_
 show Ll _ _ (Own _ _ (bk_ p5 #[i6_ 0,str ([]),str ([])] 24::_::_::_::hs)) _ _ ((5,pt_ p5)::_) _ _ _;refine jI (cs':=#[i6_ a14.n,str a14.set,str a14.rel]) (hs':=(bk_ p5 #[i6_ a14.n,str a14.set,str a14.rel] 24::_::_::_::hs)) 0 rfl rfl rfl rfl rfl (by kernel_rfl:_=some Tryd.t24) rfl rfl rfl rfl rfl ?_;refine qJ 1 rfl (zM (zD [2,4,5,6] [_,_,_,_] rfl ?_));refine zE (zE (qF (qJ 1 rfl (yH (rp:=rp) (RT:=130) (p:=p_14) (bv:=dv) (hs:=hs) (ok:=fun (k:Int) p'=>0≤k∧(1≤(4:Int)→k<4)∧p'=p_14+1) (v:=fun (k:Int)=>i6_ k) (new:=fun (k:Int)=>[]) (xs:=[.tmp 17,.const (i6_ 4)]) (vs:=[pt_ rp,i6_ 4]) ([bk_ p5 #[i6_ a14.n,str a14.set,str a14.rel] 24,bk_ p12 #[str ([97]),str ([97,98]),str ([97,98])] 9,bk_ p2 #[i6_ 0,str ([]),str ([])] 24]:List (Nat×Obj)) rfl rfl rfl rfl xR rfl (fun w1 hw1=>(pick_ok B w0 (([bk_ p5 #[i6_ a14.n,str a14.set,str a14.rel] 24,bk_ p12 #[str ([97]),str ([97,98]),str ([97,98])] 9,bk_ p2 #[i6_ 0,str ([]),str ([])] 24]:List (Nat×Obj))++hs) rp p_14 dv M 4 w1 (fun w2 hw2=>hMb w2 (qA (f:=([bk_ p5 #[i6_ a14.n,str a14.set,str a14.rel] 24,bk_ p12 #[str ([97]),str ([97,98]),str ([97,98])] 9,bk_ p2 #[i6_ 0,str ([]),str ([])] 24]:List (Nat×Obj))) hw2)) hM8 hM2 (by omega) hw1).mono fun en w' ⟨k',p',h1,h2,h3⟩=>⟨k',p',h1,h2,h3⟩) fun k18 p_18 hKp_18=>?_))))
 show Ll _ _ (Own _ _ (_::_::_::_::hs)) _ _ ((18,i6_ k18)::_) _ _ _
 obtain ⟨h0k18,h1k18,hep_18⟩:=hKp_18
 try have hltk18:=h1k18 (by first | omega | (split <;> omega) | decide);refine qJ 2 rfl (Ll.bool fun b20 hg20=>?_)
 cases b20
 ·
  replace hg20:=zG hg20;refine jU rfl rfl rfl ?_;refine jU rfl rfl rfl ?_;refine jU rfl rfl rfl ?_;refine qJ 2 rfl (jU rfl rfl rfl ?_);refine jU rfl rfl rfl ?_;refine jU rfl rfl rfl ?_;refine qJ 1 rfl (zM (zD [2,5,6,29] [_,_,_,_] rfl ?_));refine xN rfl ?_;refine qO (zD [2,5,6] [_,_,_] rfl ?_);refine zE (qF (zS rfl rfl rfl (qX (cs:=#[i6_ a14.n,str a14.set,str a14.rel]) 0 rfl qW rfl rfl qU) ?_));refine qJ 1 rfl (jI (cs':=#[i6_ a14.n,str a14.set,str a14.rel]) (hs':=(_::_::bk_ p2 #[i6_ a14.n,str a14.set,str a14.rel] 24::_::hs)) 2 rfl rfl rfl rfl rfl (by kernel_rfl:_=some Tryd.t24) rfl rfl rfl rfl rfl ?_);refine qJ 1 rfl (zM (zD [2,3] [_,_] rfl ?_));refine qL (Kt.endMany rfl (.cell (cs:=#[i6_ a14.n,str a14.set,str a14.rel]) rfl (fun w1 hw1=>hw1.loadBox 2 rfl qW qU) (.tmp (v:=str f14) rfl ResAt.nil)) (by simp) fun w' hw=>?_)
  exact ⟨a14,f14,rfl,⟨hta14,(by (try dsimp only);(try simp only [zQ,zY,zZ,zT,qB]);omega)⟩,qA (f:=[_,_,_,_]) hw⟩
 replace hg20:=zI hg20;refine qJ 1 rfl (zS (v:=str (freeT f14)) rfl rfl rfl (qS rfl Tryd.call62 rfl qG (fun w1 hw1=>sFree_ok f14 w1 (by first | omega | (simp;omega)))) ?_);refine zS rfl rfl rfl (OpQ.sneq rfl rfl rfl) ?_;refine qJ 2 rfl (Ll.bool fun b25 hg25=>?_)
 cases b25
 ·
  replace hg25:=not_false hg25;refine jU rfl rfl rfl ?_;refine jU rfl rfl rfl ?_;refine jU rfl rfl rfl ?_;refine qJ 1 rfl (zM (zD [2,5,6,29] [_,_,_,_] rfl ?_));refine xN rfl ?_;refine qO (zD [2,5,6] [_,_,_] rfl ?_);refine zE (qF (zS rfl rfl rfl (qX (cs:=#[i6_ a14.n,str a14.set,str a14.rel]) 0 rfl qW rfl rfl qU) ?_));refine qJ 1 rfl (jI (cs':=#[i6_ a14.n,str a14.set,str a14.rel]) (hs':=(_::_::bk_ p2 #[i6_ a14.n,str a14.set,str a14.rel] 24::_::hs)) 2 rfl rfl rfl rfl rfl (by kernel_rfl:_=some Tryd.t24) rfl rfl rfl rfl rfl ?_);refine qJ 1 rfl (zM (zD [2,3] [_,_] rfl ?_));refine qL (Kt.endMany rfl (.cell (cs:=#[i6_ a14.n,str a14.set,str a14.rel]) rfl (fun w1 hw1=>hw1.loadBox 2 rfl qW qU) (.tmp (v:=str f14) rfl ResAt.nil)) (by simp) fun w' hw=>?_)
  exact ⟨a14,f14,rfl,⟨hta14,(by (try dsimp only);(try simp only [zQ,zY,zZ,zT,qB]);omega)⟩,qA (f:=[_,_,_,_]) hw⟩
 replace hg25:=not_true hg25;refine qJ 1 rfl (zS (v:=str (freeT f14)) rfl rfl rfl (qS rfl Tryd.call62 rfl qG (fun w1 hw1=>sFree_ok f14 w1 (by first | omega | (simp;omega)))) ?_);refine zS rfl rfl rfl (OpQ.sneq rfl rfl rfl) ?_;refine qJ 1 rfl (zM (zD [2,5,6,29] [_,_,_,_] rfl ?_));refine qH (b:=!((freeT f14)==([]))) rfl (fun h29=>?_) (fun h29=>?_)
 ·
  replace h29:=not_true h29;refine zE (qF (zS rfl rfl rfl (qX (cs:=#[i6_ a14.n,str a14.set,str a14.rel]) 0 rfl qW rfl rfl qU) ?_));refine qJ 1 rfl (zS rfl rfl rfl (yK rfl rfl rfl (by first | omega | (simp only [zQ,zY,zZ];omega))) ?_);refine jI (cs':=#[i6_ a14.n,str a14.set,str a14.rel]) (hs':=(_::_::bk_ p2 #[i6_ a14.n,str a14.set,str a14.rel] 24::_::hs)) 2 rfl rfl rfl rfl rfl (by kernel_rfl:_=some Tryd.t24) rfl rfl rfl rfl rfl ?_;refine qJ 1 rfl (zM (zD [2,3] [_,_] rfl ?_));refine qL (Kt.endMany rfl (.cell (cs:=#[i6_ a14.n,str a14.set,str a14.rel]) rfl (fun w1 hw1=>hw1.loadBox 2 rfl qW qU) (.tmp (v:=str (([83,98])++f14)) rfl ResAt.nil)) (by simp) fun w' hw=>?_)
  exact ⟨a14,([83,98])++f14,rfl,⟨hta14,(by (try dsimp only);(try simp only [zQ,zY,zZ,zT,qB]);omega)⟩,qA (f:=[_,_,_,_]) hw⟩
 replace h29:=not_false h29;refine qO (zD [2,5,6] [_,_,_] rfl ?_);refine zE (qF (zS rfl rfl rfl (qX (cs:=#[i6_ a14.n,str a14.set,str a14.rel]) 0 rfl qW rfl rfl qU) ?_));refine qJ 1 rfl (jI (cs':=#[i6_ a14.n,str a14.set,str a14.rel]) (hs':=(_::_::bk_ p2 #[i6_ a14.n,str a14.set,str a14.rel] 24::_::hs)) 2 rfl rfl rfl rfl rfl (by kernel_rfl:_=some Tryd.t24) rfl rfl rfl rfl rfl ?_);refine qJ 1 rfl (zM (zD [2,3] [_,_] rfl ?_));refine qL (Kt.endMany rfl (.cell (cs:=#[i6_ a14.n,str a14.set,str a14.rel]) rfl (fun w1 hw1=>hw1.loadBox 2 rfl qW qU) (.tmp (v:=str f14) rfl ResAt.nil)) (by simp) fun w' hw=>?_)
 exact ⟨a14,f14,rfl,⟨hta14,(by (try dsimp only);(try simp only [zQ,zY,zZ,zT,qB]);omega)⟩,qA (f:=[_,_,_,_]) hw⟩
end Go.Proofs.YtefiibghfgfdnaaDoor
namespace Go.Wk
open Go.RowKit
def atO (os:List Int) (ys:List Int):List Int:=ys.map fun y=>os.getD y.toNat 0
theorem atO_len (os ys:List Int):(atO os ys).length=ys.length:=by simp [atO]
theorem atO_at (os:List Int) {ys:List Int} {i:Nat} (h:i<ys.length):(atO os ys).getD i 0=os.getD (ys.getD i 0).toNat 0:=by
  unfold atO
  rw [getD_at (by simpa using h),getD_at h];simp
theorem shape_same {a b:St} {os:List Int} (hs:sameB a os b (upto os.length)=true) {ys:List Int} (hB:∀ y∈ys,0≤y∧y<(os.length:Int)):sameB a (atO os ys) b ys=true:=by
  have key:∀ i:Nat,i<ys.length→(ys.getD i 0).toNat<os.length∧(((ys.getD i 0).toNat:Nat):Int)=ys.getD i 0:=fun i hi=>by
    have:=hB (ys.getD i 0) (by rw [getD_at hi];exact List.getElem_mem _)
    omega
  unfold sameB
  rw [List.all_eq_true]
  intro i hi
  rw [List.mem_range,atO_len] at hi
  unfold stillAt
  have ki:=key i hi
  refine (stillB_true (by rw [List.length_take,List.length_take,atO_len])).2 ?_
  rw [atO_at os hi]
  have h1:=shaped_at hs ki.1 ki.1
  rw [ki.2] at h1
  refine ⟨h1.1,h1.2.2,fun k hk=>pairOk_true.2 ?_⟩
  rw [List.length_take,atO_len] at hk
  have kk:=key k (by omega)
  rw [take_getD (by omega),take_getD (by omega),atO_at os (by omega)]
  have h2:=shaped_at hs kk.1 ki.1
  have h3:=shaped_at hs ki.1 kk.1
  rw [kk.2,ki.2] at h2
  rw [kk.2,ki.2] at h3
  refine ⟨decide_eq_decide.2 ?_,h2.2.2,h3.2.2⟩
  rw [h2.2.1];omega
theorem shape_wins {a b:St} {os:List Int} (hn:a.n=b.n) (hl:(os.length:Int)=a.n) (hA:a.Els os) (hs:sameB a os b (upto os.length)=true):∀ (n:Nat) (ys:List Int),(∀ y∈ys,0≤y∧y<(os.length:Int))→winP n a (atO os ys) b ys
  | 0,ys,hB=>shape_same hs hB
  | n+1,ys,hB=>by
    have more:∀ y:Nat,y<os.length→winP n a (atO os ys++[os.getD y 0]) b (ys++[(y:Int)]):=fun y hy=>by
      have:=shape_wins hn hl hA hs n (ys++[(y:Int)]) fun z hz=>by
        rcases List.mem_append.1 hz with h | h
        · exact hB z h
        · rw [List.mem_singleton.1 h];omega
      rwa [show atO os (ys++[(y:Int)])=atO os ys++[os.getD y 0] from by simp [atO]] at this
    refine ⟨shape_same hs hB,fun x hx=>?_,fun y hy=>?_⟩
    · obtain ⟨y,hy,e⟩:=shaped_onto hl hA hs (x:=(x:Int)) ⟨by omega,by omega⟩
      exact ⟨y,by omega,by rw [← e];exact more y hy⟩
    · have hy':y<os.length:=by omega
      have hel:=hA (os.getD y 0) (by rw [getD_at hy'];exact List.getElem_mem _)
      refine ⟨(os.getD y 0).toNat,by have:=hel.1;have:=hel.2;omega,?_⟩
      rw [show (((os.getD y 0).toNat:Nat):Int)=os.getD y 0 from by have:=hel.1;omega]
      exact more y hy'
end Go.Wk
namespace Go.Wk
open Go.RowKit
theorem holdK_of {a:St} {f:List UInt8} {xs:List Int} {p:Fm} (e:formO f=some p) (c:validB a=true∧xs.length≤4∧(∀ x∈xs,a.El x)∧frB p / 2 ^ xs.length=0):holdK a f xs=true∧holdV a f xs=ev a p (envL xs):=⟨(hold_yes (holdO_some e c)).2,(hold_yes (holdO_some e c)).1⟩
theorem bit_under {x k i:Nat} (h:x / 2 ^ k=0) (hi:x.testBit i=true):i<k:=by
  have h1:x<2 ^ k:=(Nat.div_eq_zero_iff.1 h).resolve_left (Nat.ne_of_gt (Nat.two_pow_pos k))
  exact Classical.byContradiction fun hn=>by
    have h2:x<2 ^ i:=Nat.lt_of_lt_of_le h1 (Nat.pow_le_pow_right (by decide) (by omega))
    rw [Nat.testBit_lt_two_pow h2] at hi;cases hi
theorem envL_at {xs:List Int} {i:Nat} (h:i<xs.length):(envL xs).getD i 0=xs.getD i 0:=by
  unfold envL
  rw [getD_at (by rw [List.length_append];omega),getD_at h,List.getElem_append_left h]
theorem on_lists {xs ys:List Int} {fr:Nat} (h:fr / 2 ^ xs.length=0) (hl:xs.length=ys.length):OnVars xs ys fr (envL xs) (envL ys):=fun i _ ht=>by
  have hi:=bit_under h ht
  exact ⟨i,hi,envL_at hi,envL_at (by omega)⟩
end Go.Wk
namespace Go.Wk
open Go.RowKit
theorem Turns.swap {a b:St} {k:Nat} {n:Int} (h:Turns a b k n):Turns b a k n:=by
  rcases h with ⟨m,e,h5,h6⟩ | ⟨e,h5⟩
  · exact .inl ⟨m,e,fun h=>h5 (pW_comm _ _ _ _ _ rfl h),fun i hi=>pW_comm _ _ _ _ _ rfl (h6 i hi)⟩
  · exact .inr ⟨e,fun i=>pW_comm _ _ _ _ _ rfl (h5 i)⟩
def atQ (os ys:List Int):List Int:=ys.map fun y=>if y<0 then -1 else os.getD y.toNat 0
@[simp] theorem atQ_len (os ys:List Int):(atQ os ys).length=ys.length:=by simp [atQ]
end Go.Wk
namespace Go.Wk
open Go.RowKit
section
variable {a:St} {r:Int}
def Moved (a:St) (x z:Int):Prop:=∃ os:List Int,(os.length:Int)=a.n∧a.Els os∧sameB a os a (upto os.length)=true∧os.getD x.toNat 0=z
end
def orbStep (x:Int) (os:List Int) (t:List Bool):List Bool×Bool:=(t.set (os.getD x.toNat 0).toNat true,true)
section
variable {τ:Type}
theorem shS_inv {a b:St} {step:List Int→τ→τ×Bool} {I:τ→Prop} (hstep:∀ os t,(os.length:Int)=a.n→a.Els os→sameB a os b (upto os.length)=true→I t→I (step os t).1) (ha:a.Fine):∀ (m:Nat) (os:List Int) (t:τ),os.length+m=a.n.toNat→a.Els os→sameB a os b (upto os.length)=true→I t→I (shS a b step m os t).1
  | 0,os,t,h,hA,hs,hI=>hstep os t (by have:=ha.lo;omega) hA hs hI
  | m+1,os,t,h,hA,hs,hI=>by
    have key:∀ k:Nat,k≤a.n.toNat→I (shLoop (shF a b (shS a b step m) os) k t).1:=fun k=>by
      induction k with
      | zero=>exact fun _=>hI
      | succ k ih =>
        intro hk
        rw [shLoop]
        split
        · unfold shF
          split
          · rename_i hst
            exact shS_inv hstep ha m _ _ (by simp;omega) (els_more hA ⟨by omega,by omega⟩) (same_grown hs hst) (ih (by omega))
          · exact ih (by omega)
        · exact ih (by omega)
    exact key _ (Nat.le_refl _)
end
def OrbI (a:St) (x:Int) (t:List Bool):Prop:=t.length=a.n.toNat∧∀ z:Nat,z<a.n.toNat→t.getD z false=true→Moved a x z
theorem orb_inv {a:St} {x:Int} (ha:a.Fine) (hx:a.El x):OrbI a x (shS a a (orbStep x) a.n.toNat [] (List.replicate a.n.toNat false)).1:=by
  refine shS_inv (I:=OrbI a x) (fun os t hl hA hs hI=>?_) ha a.n.toNat [] _ (by simp) (fun x hx=>by cases hx) rfl ⟨by simp,fun z hz h=>?_⟩
  · unfold orbStep
    refine ⟨by rw [List.length_set];exact hI.1,fun z hz h=>?_⟩
    have hel:=hA (os.getD x.toNat 0) (by rw [getD_at (by have:=hx.2;have:=hx.1;omega)];exact List.getElem_mem _)
    by_cases e:(os.getD x.toNat 0).toNat=z
    · exact ⟨os,hl,hA,hs,by have:=hel.1;omega⟩
    · refine hI.2 z hz ?_
      rwa [List.getD_eq_getElem?_getD,List.getElem?_set_ne e,← List.getD_eq_getElem?_getD] at h
  · rw [List.getD_eq_getElem?_getD,List.getElem?_replicate,if_pos hz] at h;cases h
def trueTo (bs:List Bool):Nat→List Int
  | 0=>[]
  | k+1=>if bs.getD k false then trueTo bs k++[(k:Int)] else trueTo bs k
theorem true_yes {bs:List Bool} {k:Nat} (h:bs.getD k false=true):trueTo bs (k+1)=trueTo bs k++[(k:Int)]:=by rw [trueTo,if_pos h]
theorem true_no {bs:List Bool} {k:Nat} (h:bs.getD k false=false):trueTo bs (k+1)=trueTo bs k:=by rw [trueTo,if_neg (by rw [h];decide)]
theorem true_le (bs:List Bool):∀ k,(trueTo bs k).length≤k
  | 0=>Nat.le_refl _
  | k+1=>by
    have:=true_le bs k
    rw [trueTo]
    split
    · simp;omega
    · omega
theorem mem_true {bs:List Bool} {z:Int}:∀ {k:Nat},z∈trueTo bs k→∃ i:Nat,i<k∧z=i∧bs.getD i false=true
  | 0,h=>by cases h
  | k+1,h=>by
    rw [trueTo] at h
    split at h
    · rename_i hb
      rcases List.mem_append.1 h with h1 | h1
      · obtain ⟨i,h2,h3⟩:=mem_true h1;exact ⟨i,by omega,h3⟩
      · exact ⟨k,by omega,List.mem_singleton.1 h1,hb⟩
    · obtain ⟨i,h2,h3⟩:=mem_true h;exact ⟨i,by omega,h3⟩
theorem orb_all {a:St} {x:Int} {t:List Bool} (h:OrbI a x t):∀ z∈trueTo t t.length,a.El z∧Moved a x z:=fun z hz=>by
  obtain ⟨i,h1,rfl,h2⟩:=mem_true hz
  rw [h.1] at h1
  exact ⟨⟨by omega,by omega⟩,h.2 i h1 h2⟩
section
variable {τ:Type}
theorem shLoop_go {f:Nat→τ→τ×Bool} (hf:∀ k t,(f k t).2=true):∀ (k:Nat) (t:τ),(shLoop f k t).2=true
  | 0,_=>rfl
  | k+1,t=>by rw [shLoop,if_pos (shLoop_go hf k t)];exact hf _ _
theorem shS_go {a b:St} {step:List Int→τ→τ×Bool} (hs:∀ os t,(step os t).2=true):∀ (m:Nat) (os:List Int) (t:τ),(shS a b step m os t).2=true
  | 0,os,t=>hs os t
  | m+1,os,t=>shLoop_go (fun k t=>by unfold shF;split;exact shS_go hs m _ _;rfl) _ t
theorem shLoop_keep {f:Nat→τ→τ×Bool} {J:τ→Prop} (hf:∀ k t,J t→J (f k t).1):∀ (k:Nat) (t:τ),J t→J (shLoop f k t).1
  | 0,_,h=>h
  | k+1,t,h=>by
    rw [shLoop]
    split
    · exact hf _ _ (shLoop_keep hf k t h)
    · exact shLoop_keep hf k t h
theorem shS_keep {a b:St} {step:List Int→τ→τ×Bool} {J:τ→Prop} (hJ:∀ os t,J t→J (step os t).1):∀ (m:Nat) (os:List Int) (t:τ),J t→J (shS a b step m os t).1
  | 0,os,t,h=>hJ os t h
  | m+1,os,t,h=>shLoop_keep (fun k t h=>by unfold shF;split;exact shS_keep hJ m _ _ h;exact h) _ t h
theorem shS_id {a:St} {step:List Int→τ→τ×Bool} {J:τ→Prop} (hs:∀ os t,(step os t).2=true) (hJ:∀ os t,J t→J (step os t).1) (hid:∀ t,J (step (upto a.n.toNat) t).1):∀ (m i:Nat) (t:τ),i+m=a.n.toNat→J (shS a a step m (upto i) t).1
  | 0, i, t, h => by obtain rfl : i = a.n.toNat := by omega
                     exact hid t
  | m+1,i,t,h=>by
    have hgo:∀ k t,(shF a a (shS a a step m) (upto i) k t).2=true:=fun k t=>by unfold shF;split;exact shS_go hs m _ _;rfl
    have hkp:∀ k t,J t→J (shF a a (shS a a step m) (upto i) k t).1:=fun k t h=>by unfold shF;split;exact shS_keep hJ m _ _ h;exact h
    have key:∀ k:Nat,i<k→J (shLoop (shF a a (shS a a step m) (upto i)) k t).1:=fun k=>by
      induction k with
      | zero=>intro h;omega
      | succ k ih =>
        intro hk
        rw [shLoop,if_pos (shLoop_go hgo k t)]
        rcases Nat.lt_or_ge i k with h1 | h1
        · exact hkp _ _ (ih h1)
        · obtain rfl:i=k:=by omega
          unfold shF
          have hst:stillB a (upto i) a (upto (upto i).length) (i:Int) (upto i).length=true:=by
            have h2:=same_refl a (upto (i+1))
            rw [upto_succ,same_more rfl,Bool.and_eq_true] at h2
            have h3:=h2.2
            rwa [upto_length]
          rw [if_pos hst,show upto i++[(i:Int)]=upto (i+1) from (upto_succ i).symm]
          exact shS_id hs hJ hid m (i+1) _ (by omega)
    exact key a.n.toNat (by omega)
end
theorem orb_marks {a:St} {x:Int} (ha:a.Fine) (hx:a.El x):(shS a a (orbStep x) a.n.toNat [] (List.replicate a.n.toNat false)).1.getD x.toNat false=true:=by
  have hlo:=ha.lo
  have hx2:x.toNat<a.n.toNat:=by have:=hx.1;have:=hx.2;omega
  have:=shS_id (a:=a) (step:=orbStep x) (J:=fun t:List Bool=>t.length=a.n.toNat→t.getD x.toNat false=true) (fun _ _=>rfl) (fun os t h hl=>by
    unfold orbStep at hl ⊢
    rw [List.length_set] at hl
    have h1:=h hl
    by_cases e:(os.getD x.toNat 0).toNat=x.toNat
    · rw [e,List.getD_eq_getElem?_getD,List.getElem?_set_self (by omega)];rfl
    · rw [List.getD_eq_getElem?_getD,List.getElem?_set_ne e,← List.getD_eq_getElem?_getD];exact h1) (fun t hl=>by
    unfold orbStep at hl ⊢
    rw [List.length_set] at hl
    rw [upto_at hx2,Int.toNat_natCast,List.getD_eq_getElem?_getD,List.getElem?_set_self (by omega)];rfl) a.n.toNat 0 (List.replicate a.n.toNat false) (by omega)
  exact this (orb_inv ha hx).1
theorem true_first {bs:List Bool} {i:Nat} (hi:bs.getD i false=true):∀ {k:Nat},i<k→0<(trueTo bs k).length∧(trueTo bs k).getD 0 0≤(i:Int)
  | 0,h=>by omega
  | k+1,h=>by
    rcases Nat.lt_or_ge i k with h1 | h1
    · obtain ⟨h2,h3⟩:=true_first hi h1
      rw [trueTo]
      split
      · exact ⟨by rw [List.length_append];omega,by rw [getD_app1 h2];exact h3⟩
      · exact ⟨h2,h3⟩
    · obtain rfl:i=k:=by omega
      rw [true_yes hi]
      refine ⟨by rw [List.length_append];simp,?_⟩
      cases e:trueTo bs i with
      | nil=>exact Int.le_refl _
      | cons z l =>
        have hz:z∈trueTo bs i:=by rw [e];simp
        obtain ⟨j,hj,rfl,_⟩:=mem_true hz
        show (j:Int)≤(i:Int)
        omega
theorem orb_first {a:St} {x:Int} {t:List Bool} (hx:a.El x) (hl:t.length=a.n.toNat) (h:t.getD x.toNat false=true):0<(trueTo t t.length).length∧(trueTo t t.length).getD 0 0≤x:=by
  have hx1:=hx.1
  have hx2:=hx.2
  have:=true_first h (k:=t.length) (by omega)
  exact ⟨this.1,by have:=this.2;omega⟩
end Go.Wk
namespace Go.Wk
open Go.RowKit
def rotA (n m:Nat) (i:Nat):Nat:=(i+m) % n
def rotL (n m:Nat):Nat→List Int
  | 0=>[]
  | k+1=>rotL n m k++[((rotA n m k:Nat):Int)]
@[simp] theorem rotL_len (n m:Nat):∀ k,(rotL n m k).length=k
  | 0=>rfl
  | k+1=>by simp [rotL,rotL_len n m k]
end Go.Wk
namespace Go.Wk
open Go.RowKit
def bes1 (k x:Nat):List Int:=(bes k).set 0 (x:Int)
@[simp] theorem bes1_len (k x:Nat):(bes1 k x).length=k:=by unfold bes1;rw [List.length_set,bes_len]
structure CntE (q:Nat→Nat→Bool) (num:Nat→Int) (n:Nat) (S:List Int):Prop where
  srt:S.Pairwise (·<·)
  has:∀ y:Nat,y<n→num y∈S
  src:∀ m∈S,∃ y:Nat,y<n∧m=num y
  cls:(clsN q n).2=S.length
theorem CntE.zero {q:Nat→Nat→Bool} {num:Nat→Int}:CntE q num 0 []:=⟨List.Pairwise.nil,fun y hy=>absurd hy (by omega),fun m hm=>(by cases hm),rfl⟩
theorem CntE.len {q:Nat→Nat→Bool} {num:Nat→Int} {n:Nat} {S:List Int} (h:CntE q num n S):S.length≤n:=by rw [← h.cls];exact (cls_small _ n).1
end Go.Wk
namespace Go.Wk
open Go.RowKit
theorem point_one {size k:Nat} (h:k<size):pointL size 1 k=[(k:Int)]:=by
  unfold pointL pointL
  rw [Nat.mod_eq_of_lt h];rfl
end Go.Wk
namespace Go.Wk
open Go.RowKit
def rdyB (a:St) (f:List UInt8) (w:Nat):Bool:=validB a&&(match formO f with | some p=>decide (frB p / 2 ^ w=0) | none=>false)
theorem rdy_parts {a:St} {f:List UInt8} {w:Nat} (h:rdyB a f w=true):validB a=true∧∃ p,formO f=some p∧frB p / 2 ^ w=0:=by
  unfold rdyB at h
  rw [Bool.and_eq_true] at h
  refine ⟨h.1,?_⟩
  have h2:=h.2
  cases e:formO f with
  | none=>rw [e] at h2;cases h2
  | some p=>rw [e] at h2;exact ⟨p,rfl,of_decide_eq_true h2⟩
theorem rdy_of {a:St} {f:List UInt8} {w:Nat} {p:Fm} (hv:validB a=true) (e:formO f=some p) (h:frB p / 2 ^ w=0):rdyB a f w=true:=by
  unfold rdyB;rw [hv,e];exact decide_eq_true h
theorem rdy_no {a:St} {f:List UInt8} {w:Nat} (h:validB a=false∨formO f=none∨∃ p,formO f=some p∧¬ frB p / 2 ^ w=0):rdyB a f w=false:=by
  unfold rdyB
  rcases h with h | h | ⟨p,e,h⟩
  · rw [h];rfl
  · rw [h];exact Bool.and_false _
  · rw [e];dsimp only;rw [decide_eq_false h,Bool.and_false]
theorem rdy_hold {a:St} {f:List UInt8} {p:Fm} (hv:validB a=true) (e:formO f=some p) (h:frB p / 2 ^ 1=0) {x:Nat} (hx:(x:Int)<a.n):holdK a f [(x:Int)]=true∧holdV a f [(x:Int)]=ev a p (envL [(x:Int)]) :=
  holdK_of e ⟨hv,by simp,els_one ⟨by omega,hx⟩,h⟩
noncomputable def defL (a:St) (f:List UInt8):Nat→List Int
  | 0=>[]
  | k+1=>if holdV a f [(k:Int)] then defL a f k++[(k:Int)] else defL a f k
theorem defL_yes {a:St} {f:List UInt8} {k:Nat} (h:holdV a f [(k:Int)]=true):defL a f (k+1)=defL a f k++[(k:Int)]:=by rw [defL,if_pos h]
theorem defL_no {a:St} {f:List UInt8} {k:Nat} (h:holdV a f [(k:Int)]=false):defL a f (k+1)=defL a f k:=by rw [defL,h];rfl
theorem defL_len {a:St} {f:List UInt8}:∀ k:Nat,(defL a f k).length=cntT (fun x=>holdV a f [(x:Int)]) k
  | 0=>rfl
  | k+1=>by
    cases e:holdV a f [(k:Int)] with
    | true=>rw [defL_yes e,List.length_append,defL_len k,cntT,e];rfl
    | false=>rw [defL_no e,defL_len k,cntT,e];rfl
theorem defL_le {a:St} {f:List UInt8} (k:Nat):(defL a f k).length≤k:=by rw [defL_len];exact cntT_le _ k
theorem defL_mem {a:St} {f:List UInt8} {z:Int}:∀ {k:Nat},z∈defL a f k↔∃ x:Nat,x<k∧z=(x:Int)∧holdV a f [(x:Int)]=true
  | 0=>⟨(fun h=>nomatch h),fun ⟨x,h,_⟩=>absurd h (Nat.not_lt_zero x)⟩
  | k+1=>by
    cases e:holdV a f [(k:Int)] with
    | true =>
      rw [defL_yes e,List.mem_append,defL_mem (k:=k),List.mem_singleton]
      constructor
      · rintro (⟨x,h1,h2⟩ | h)
        · exact ⟨x,by omega,h2⟩
        · exact ⟨k,by omega,h,e⟩
      · rintro ⟨x,h1,h2,h3⟩
        rcases Nat.lt_or_ge x k with q | q
        · exact .inl ⟨x,q,h2,h3⟩
        · obtain rfl:x=k:=by omega
          exact .inr h2
    | false =>
      rw [defL_no e,defL_mem (k:=k)]
      constructor
      · rintro ⟨x,h1,h2⟩;exact ⟨x,by omega,h2⟩
      · rintro ⟨x,h1,h2,h3⟩
        rcases Nat.lt_or_ge x k with q | q
        · exact ⟨x,q,h2,h3⟩
        · obtain rfl:x=k:=by omega
          rw [e] at h3;cases h3
noncomputable def defO (a:St) (f:List UInt8):List Int×Bool:=if rdyB a f 1 then (defL a f a.n.toNat,true) else ([],false)
noncomputable def cntO (a:St) (f:List UInt8):Int:=if rdyB a f 1 then (cntT (fun x=>holdV a f [(x:Int)]) a.n.toNat:Int) else -1
theorem defO_at {a:St} {f:List UInt8} (h:(defO a f).2=true):rdyB a f 1=true∧(defO a f).1=defL a f a.n.toNat:=by
  unfold defO at h ⊢
  by_cases c:rdyB a f 1=true
  · rw [if_pos c];exact ⟨c,rfl⟩
  · rw [if_neg c] at h;cases h
theorem defO_yes {a:St} {f:List UInt8} (h:rdyB a f 1=true):defO a f=(defL a f a.n.toNat,true):=by unfold defO;rw [if_pos h]
theorem defO_no {a:St} {f:List UInt8} (h:rdyB a f 1=false):defO a f=([],false):=by unfold defO;rw [h];rfl
theorem cntO_yes {a:St} {f:List UInt8} (h:rdyB a f 1=true):cntO a f=(cntT (fun x=>holdV a f [(x:Int)]) a.n.toNat:Int):=by unfold cntO;rw [if_pos h]
theorem cntO_no {a:St} {f:List UInt8} (h:rdyB a f 1=false):cntO a f = -1:=by unfold cntO;rw [h];rfl
theorem def_cnt {a:St} {f:List UInt8} (h:(defO a f).2=true):cntO a f=((defO a f).1.length:Int):=by
  obtain ⟨c,e⟩:=defO_at h
  rw [cntO_yes c,e,defL_len]
theorem defO_le (a:St) (f:List UInt8):(defO a f).1.length≤a.n.toNat:=by
  unfold defO
  split
  · exact defL_le _
  · simp
theorem def_has {a:St} {f:List UInt8} (h:(defO a f).2=true) {x:Nat} (hx:(x:Int)<a.n):decide ((x:Int)∈(defO a f).1)=holdV a f [(x:Int)]:=by
  rw [(defO_at h).2]
  cases e:holdV a f [(x:Int)] with
  | true=>exact decide_eq_true (defL_mem.2 ⟨x,by omega,rfl,e⟩)
  | false =>
    refine decide_eq_false fun hm=>?_
    obtain ⟨y,_,h2,h3⟩:=defL_mem.1 hm
    rw [show y=x by omega,e] at h3;cases h3
theorem def_els {a:St} {f:List UInt8} (h:(defO a f).2=true):a.Els (defO a f).1:=fun z hz=>by
  have hn:=(validB_fine (rdy_parts (defO_at h).1).1).lo
  rw [(defO_at h).2] at hz
  obtain ⟨x,h1,rfl,_⟩:=defL_mem.1 hz
  exact ⟨by omega,by omega⟩
theorem def_nodup {a:St} {f:List UInt8}:∀ k:Nat,(defL a f k).Nodup
  | 0=>List.nodup_nil
  | k+1=>by
    cases e:holdV a f [(k:Int)] with
    | true =>
      rw [defL_yes e,List.nodup_append]
      refine ⟨def_nodup k,by simp,fun x hx y hy=>?_⟩
      obtain ⟨m,h1,rfl,_⟩:=defL_mem.1 hx
      rw [List.mem_singleton.1 hy];omega
    | false=>rw [defL_no e];exact def_nodup k
theorem moved_hold {a:St} {f:List UInt8} (h:rdyB a f 1=true) {x z:Int} (hx:a.El x) (hz:a.El z) (hm:Moved a x z):holdV a f [z]=holdV a f [x]:=by
  obtain ⟨hv,p,e,hf⟩:=rdy_parts h
  obtain ⟨os,h1,h2,h3,h4⟩:=hm
  have hw:=shape_wins rfl h1 h2 h3 (rankF p) [x] (fun y hy=>by rw [List.mem_singleton.1 hy];exact ⟨hx.1,by rw [h1];exact hx.2⟩)
  have e2:atO os [x]=[z]:=by show [os.getD x.toNat 0]=[z];rw [h4]
  rw [e2] at hw
  have k1:=holdK_of (a:=a) (xs:=[z]) e ⟨hv,by simp,(fun y hy=>by rw [List.mem_singleton.1 hy];exact hz),hf⟩
  have k2:=holdK_of (a:=a) (xs:=[x]) e ⟨hv,by simp,(fun y hy=>by rw [List.mem_singleton.1 hy];exact hx),hf⟩
  rw [k1.2,k2.2]
  exact game_ev (xs:=[z]) (ys:=[x]) (formO_wf e) (Nat.le_refl _) rfl hw (envL_len (by simp)) (envL_len (by simp)) (on_lists (xs:=[z]) (ys:=[x]) hf rfl)
theorem def_moved {a:St} {f:List UInt8} (h:(defO a f).2=true) {x z:Int} (hx:x∈(defO a f).1) (hz:a.El z) (hm:Moved a x z):z∈(defO a f).1:=by
  have hel:=def_els h x hx
  have hr:=(defO_at h).1
  have hn:=(validB_fine (rdy_parts hr).1).lo
  have e:=moved_hold hr hel hz hm
  rw [(defO_at h).2] at hx ⊢
  obtain ⟨y,h1,rfl,h3⟩:=defL_mem.1 hx
  obtain ⟨k,rfl⟩:∃ k:Nat,z=(k:Int):=⟨z.toNat,by have:=hz.1;omega⟩
  exact defL_mem.2 ⟨k,by have:=hz.2;omega,rfl,by rw [e];exact h3⟩
end Go.Wk
