/-
  FnSeparates: all that its proof names (part 7)
-/
import Derived.Test.YtefiibghfgfdnaaGreatDoorKFnSeparatesf
import Derived.Test.YtefiibghfgfdnaaGreatDoorKFnSeparatesc
import Derived.Test.YtefiibghfgfdnaaGreatDoorKFnSeparatesb
import Derived.Test.YtefiibghfgfdnaaGreatDoorKFnSeparatesd
import Derived.Test.YtefiibghfgfdnaaGreatDoorKFnSeparatesa
namespace Go.Proofs.YtefiibghfgfdnaaGreatDoor
open Go.RowKit Go.Wk
set_option linter.unusedSimpArgs false
set_option maxHeartbeats 400000 in
theorem rankP_step (fm:Fm) (p:Nat) (w:World) (hT:Tree 67 w fm p) (hwf:wfF fm) (hr:rankF fm≤2000000) (ih:∀ (fm2:Fm) (p2:Nat) (w2:World),szF fm2<szF fm→Tree 67 w2 fm2 p2→wfF fm2→rankF fm2≤2000000→Calls Tryz.prog 46 #[ptrV p2] w2 fun en w'=>en=.returned (.int .i64 (rankF fm2:Int))∧Below w2.heap.size w2 w') :
    Calls Tryz.prog 46 [ptrV p].toArray w fun en w'=>en=.returned (.int .i64 (rankF fm:Int))∧Below w.heap.size w w':=by
 refine fnStart (n:=37) (e:=[(0,ptrV p)]) Tryz.func46 rfl rfl rfl rfl Ends.both ?_;refine zE (zB (zC 1 rfl (zK (zD [0] [_] rfl ?_))));refine zE (zB (zC 1 rfl (zK (zD [0,3] [_,_] rfl ?_))));refine zE (zE ?_)
 rcases fm with ⟨c,vs⟩ | ⟨c,vs,q⟩ | ⟨c,q,r⟩
 ·
  obtain ⟨vv,pv,h1,h2,h3⟩:=hT
  have hlt:=leaf_letter hwf;refine zB (zC 1 rfl (zJ (v:=.pointer (some ⟨p,0,none⟩)) rfl rfl rfl (zU rfl rfl) ?_));refine zJ rfl rfl rfl (zH rfl zL rfl xX rfl rfl) ?_;refine zJ (v:=pv) rfl rfl rfl (qY rfl vF rfl (fun w1 hw1=>at_box h1 hw1 2 rfl)) ?_;refine zJ (v:=i6_ 0) rfl rfl rfl (yS (k:=0) rfl jD rfl rfl (fun w1 hw1=>h3.own hw1)) ?_;refine zC 1 rfl (zK (zD [0,3,9,10,11] [_,_,_,_,_] rfl ?_));refine yA (vQ 3 ?_);refine zE (zB (zC 1 rfl (zK (zD [0,3,9,10,11,12] [_,_,_,_,_,_] rfl ?_))));refine zE (jJ rfl ?_);refine xF rfl ?_;refine zD [0,3] [_,_] rfl ?_;refine zE (yA (zE (zB (zC 1 rfl (zJ (v:=bo_ (decide (((c).toNat:Int)=50∨((c).toNat:Int)=51∨((c).toNat:Int)=52))) rfl rfl rfl (qK rfl Tryz.call96 rfl qF (fun w1 hw1=>isCount_ok _ _ c _ _ _ _ w1 (heap_own h1 hw1))) ?_)))));refine zC 1 rfl (zK (zD [0,3,20] [_,_,_] rfl ?_));refine qL (b:=decide (((c).toNat:Int)=50∨((c).toNat:Int)=51∨((c).toNat:Int)=52)) rfl (fun h20=>?_) (fun h20=>?_)
  ·
   replace h20:=zG h20
   exact absurd h20 hlt.2
  replace h20:=zF h20;refine zE (zB (zC 1 rfl (zJ (v:=bo_ (decide (quI ((c).toNat:Int)))) rfl rfl rfl (qK rfl uM rfl qF (fun w1 hw1=>isQuant_ok _ _ c _ _ _ _ w1 (heap_own h1 hw1))) ?_)));refine zC 1 rfl (zK (zD [3,31] [_,_] rfl ?_));refine qL (b:=decide (quI ((c).toNat:Int))) rfl (fun h31=>?_) (fun h31=>?_)
  ·
   replace h31:=zG h31
   exact absurd h31 hlt.1
  replace h31:=zF h31;refine qW (zD [3] [_] rfl ?_);refine zE (zB (zC 2 rfl (zK (zD [2] [_] rfl ?_))));refine qM (qR rfl rfl fun w' hw=>?_)
  exact ⟨rfl,hw.below⟩
 ·
  obtain ⟨q1,⟨vv,pv,h1,h2,h3⟩,hT1⟩:=hT
  have hr1:=rank_sub1 (c:=c) (vs:=vs) (q:=q)
  have hc8:=c.toNat_lt;refine zB (zC 1 rfl (zJ (v:=.pointer (some ⟨p,0,none⟩)) rfl rfl rfl (zU rfl rfl) ?_));refine zJ rfl rfl rfl (zH rfl zL rfl xX rfl rfl) ?_;refine zJ (v:=pv) rfl rfl rfl (qY rfl vF rfl (fun w1 hw1=>at_box h1 hw1 2 rfl)) ?_;refine zJ (v:=i6_ 1) rfl rfl rfl (yS (k:=1) rfl jD rfl rfl (fun w1 hw1=>h3.own hw1)) ?_;refine zC 1 rfl (zK (zD [0,3,9,10,11] [_,_,_,_,_] rfl ?_));refine yA (vQ 3 ?_);refine zE (zB (zC 1 rfl (zK (zD [0,3,9,10,11,12] [_,_,_,_,_,_] rfl ?_))));refine zE (yW rfl ?_);refine qW (zD [0,3,9,10,11] [_,_,_,_,_] rfl ?_);refine zE (yA (zE (zB (zJ (v:=.pointer (some (sAt pv 0))) rfl rfl rfl (yQ rfl jD vV rfl rfl (by decide) (by simp) (fun w1 hw1=>h3.own hw1)) ?_))));refine zJ (v:=ptrV q1) rfl rfl rfl (qY rfl xT rfl (fun w1 hw1=>Row.cell (h3.own hw1) (by decide) (by simp))) ?_;refine zC 1 rfl (zK (zD [0,3,5,9,10,11] [_,_,_,_,_,_] rfl ?_));refine zB (zC 2 rfl (zJ (v:=i6_ ((rankF q:Int))) rfl rfl rfl (qK rfl Tryz.call46 rfl qF (fun w1 hw1=>ih q q1 w1 (by first | exact Nat.lt_succ_self _ | exact Nat.lt_succ_of_le (Nat.le_add_right _ _) | exact Nat.lt_succ_of_le (Nat.le_add_left _ _)) (Tree.own hw1 hT1) hwf.2.2.2.2 (by omega))) ?_));refine zJ (v:=i6_ ((rankF q:Int))) rfl rfl rfl (yJ (by first | (split <;> congr 1 <;> omega) | (split <;> omega)) (OpQ.max2 rfl rfl rfl)) ?_;refine zC 1 rfl (zK (zD [0,3,9,10,11] [_,_,_,_,_] rfl ?_));refine zB (zJ rfl rfl rfl (qZ rfl rfl rfl (by decide) (by decide)) ?_);refine zC 1 rfl (zK (Kt.round (e':=[(0,.pointer (some ⟨p,0,none⟩)),(3,i6_ ((rankF q:Int))),(9,pv),(10,i6_ 1),(11,i6_ 1)]) (Sub.sel [0,3,9,10,11] rfl) ?_));refine zE (zB (zC 1 rfl (zK (zD [0,3,9,10,11,12] [_,_,_,_,_,_] rfl ?_))));refine zE (jJ rfl ?_);refine xF rfl ?_;refine zD [0,3] [_,_] rfl ?_;refine zE (yA (zE (zB (zC 1 rfl (zJ (v:=bo_ (decide (((c).toNat:Int)=50∨((c).toNat:Int)=51∨((c).toNat:Int)=52))) rfl rfl rfl (qK rfl Tryz.call96 rfl qF (fun w1 hw1=>isCount_ok _ _ c _ _ _ _ w1 (heap_own h1 hw1))) ?_)))));refine zC 1 rfl (zK (zD [0,3,20] [_,_,_] rfl ?_));refine qL (b:=decide (((c).toNat:Int)=50∨((c).toNat:Int)=51∨((c).toNat:Int)=52)) rfl (fun h20_1=>?_) (fun h20_1=>?_)
  ·
   replace h20_1:=zG h20_1;refine zB (zC 2 rfl (zJ (v:=.pointer (some ⟨p,0,none⟩)) rfl rfl rfl (zU rfl rfl) ?_));refine zJ rfl rfl rfl (zH rfl zL rfl xR rfl rfl) ?_;refine zJ (v:=.int .u8 ((c.toNat:Int))) rfl rfl rfl (qY rfl xU rfl (fun w1 hw1=>at_box h1 hw1 0 rfl)) ?_;refine zJ (v:=.int .u8 ((c.toNat:Int) - 48)) rfl rfl rfl (yJ (by rw [IntWalk.u8_in _ (by omega)]) (vD rfl rfl rfl)) ?_;refine zJ (v:=i6_ ((c.toNat:Int) - 48)) rfl rfl rfl (jQ .i64 rfl jA xA rfl (IntWalk.i64_in _ (by omega))) ?_;refine zJ rfl rfl rfl (qZ rfl rfl rfl (by omega) (by omega)) ?_;refine zC 1 rfl (zK (zD [3] [_] rfl ?_));refine zE (zB (zC 2 rfl (zK (zD [2] [_] rfl ?_))));refine qM (qR rfl rfl fun w' hw=>?_)
   exact ⟨ret_i (rank_end1 (by unfold cntI;assumption)),hw.below⟩
  replace h20_1:=zF h20_1;refine zE (zB (zC 1 rfl (zJ (v:=bo_ (decide (quI ((c).toNat:Int)))) rfl rfl rfl (qK rfl uM rfl qF (fun w1 hw1=>isQuant_ok _ _ c _ _ _ _ w1 (heap_own h1 hw1))) ?_)));refine zC 1 rfl (zK (zD [3,31] [_,_] rfl ?_));refine qL (b:=decide (quI ((c).toNat:Int))) rfl (fun h31_1=>?_) (fun h31_1=>?_)
  ·
   replace h31_1:=zG h31_1;refine zB (zC 1 rfl (zJ rfl rfl rfl (qZ rfl rfl rfl (by omega) (by omega)) ?_));refine zC 1 rfl (zK (zD [3] [_] rfl ?_));refine zE (zB (zC 2 rfl (zK (zD [2] [_] rfl ?_))));refine qM (qR rfl rfl fun w' hw=>?_)
   exact ⟨ret_i (rank_end2 (by unfold cntI;assumption) (by assumption)),hw.below⟩
  replace h31_1:=zF h31_1;refine qW (zD [3] [_] rfl ?_);refine zE (zB (zC 2 rfl (zK (zD [2] [_] rfl ?_))));refine qM (qR rfl rfl fun w' hw=>?_)
  exact ⟨ret_i (rank_end3 hwf (by assumption)),hw.below⟩
 obtain ⟨q1,q2,⟨vv,pv,h1,h2,h3⟩,hT1,hT2⟩:=hT
 have hlt:=two_letter hwf
 have hr1:=rank_sub2 (c:=c) (q:=q) (r:=r);refine zB (zC 1 rfl (zJ (v:=.pointer (some ⟨p,0,none⟩)) rfl rfl rfl (zU rfl rfl) ?_));refine zJ rfl rfl rfl (zH rfl zL rfl xX rfl rfl) ?_;refine zJ (v:=pv) rfl rfl rfl (qY rfl vF rfl (fun w1 hw1=>at_box h1 hw1 2 rfl)) ?_;refine zJ (v:=i6_ 2) rfl rfl rfl (yS (k:=2) rfl jD rfl rfl (fun w1 hw1=>h3.own hw1)) ?_;refine zC 1 rfl (zK (zD [0,3,9,10,11] [_,_,_,_,_] rfl ?_));refine yA (vQ 3 ?_);refine zE (zB (zC 1 rfl (zK (zD [0,3,9,10,11,12] [_,_,_,_,_,_] rfl ?_))));refine zE (yW rfl ?_);refine qW (zD [0,3,9,10,11] [_,_,_,_,_] rfl ?_);refine zE (yA (zE (zB (zJ (v:=.pointer (some (sAt pv 0))) rfl rfl rfl (yQ rfl jD vV rfl rfl (by decide) (by simp) (fun w1 hw1=>h3.own hw1)) ?_))));refine zJ (v:=ptrV q1) rfl rfl rfl (qY rfl xT rfl (fun w1 hw1=>Row.cell (h3.own hw1) (by decide) (by simp))) ?_;refine zC 1 rfl (zK (zD [0,3,5,9,10,11] [_,_,_,_,_,_] rfl ?_));refine zB (zC 2 rfl (zJ (v:=i6_ ((rankF q:Int))) rfl rfl rfl (qK rfl Tryz.call46 rfl qF (fun w1 hw1=>ih q q1 w1 (by first | exact Nat.lt_succ_self _ | exact Nat.lt_succ_of_le (Nat.le_add_right _ _) | exact Nat.lt_succ_of_le (Nat.le_add_left _ _)) (Tree.own hw1 hT1) hwf.2.2.2.1 (by omega))) ?_));refine zJ (v:=i6_ ((rankF q:Int))) rfl rfl rfl (yJ (by first | (split <;> congr 1 <;> omega) | (split <;> omega)) (OpQ.max2 rfl rfl rfl)) ?_;refine zC 1 rfl (zK (zD [0,3,9,10,11] [_,_,_,_,_] rfl ?_));refine zB (zJ rfl rfl rfl (qZ rfl rfl rfl (by decide) (by decide)) ?_);refine zC 1 rfl (zK (Kt.round (e':=[(0,.pointer (some ⟨p,0,none⟩)),(3,i6_ ((rankF q:Int))),(9,pv),(10,i6_ 2),(11,i6_ 1)]) (Sub.sel [0,3,9,10,11] rfl) ?_));refine zE (zB (zC 1 rfl (zK (zD [0,3,9,10,11,12] [_,_,_,_,_,_] rfl ?_))));refine zE (yW rfl ?_);refine qW (zD [0,3,9,10,11] [_,_,_,_,_] rfl ?_);refine zE (yA (zE (zB (zJ (v:=.pointer (some (sAt pv 1))) rfl rfl rfl (yQ rfl jD vV rfl rfl (by decide) (by simp) (fun w1 hw1=>h3.own hw1)) ?_))));refine zJ (v:=ptrV q2) rfl rfl rfl (qY rfl xT rfl (fun w1 hw1=>Row.cell (h3.own hw1) (by decide) (by simp))) ?_;refine zC 1 rfl (zK (zD [0,3,5,9,10,11] [_,_,_,_,_,_] rfl ?_));refine zB (zC 2 rfl (zJ (v:=i6_ ((rankF r:Int))) rfl rfl rfl (qK rfl Tryz.call46 rfl qF (fun w1 hw1=>ih r q2 w1 (by first | exact Nat.lt_succ_self _ | exact Nat.lt_succ_of_le (Nat.le_add_right _ _) | exact Nat.lt_succ_of_le (Nat.le_add_left _ _)) (Tree.own hw1 hT2) hwf.2.2.2.2 (by omega))) ?_))
 refine zJ (v:=i6_ (((max (rankF q) (rankF r):Nat):Int))) rfl rfl rfl (yJ (by first | (split <;> congr 1 <;> omega) | (split <;> omega)) (OpQ.max2 rfl rfl rfl)) ?_;refine zC 1 rfl (zK (zD [0,3,9,10,11] [_,_,_,_,_] rfl ?_));refine zB (zJ rfl rfl rfl (qZ rfl rfl rfl (by decide) (by decide)) ?_);refine zC 1 rfl (zK (Kt.round (e':=[(0,.pointer (some ⟨p,0,none⟩)),(3,i6_ (((max (rankF q) (rankF r):Nat):Int))),(9,pv),(10,i6_ 2),(11,i6_ 2)]) (Sub.sel [0,3,9,10,11] rfl) ?_));refine zE (zB (zC 1 rfl (zK (zD [0,3,9,10,11,12] [_,_,_,_,_,_] rfl ?_))));refine zE (jJ rfl ?_);refine xF rfl ?_;refine zD [0,3] [_,_] rfl ?_;refine zE (yA (zE (zB (zC 1 rfl (zJ (v:=bo_ (decide (((c).toNat:Int)=50∨((c).toNat:Int)=51∨((c).toNat:Int)=52))) rfl rfl rfl (qK rfl Tryz.call96 rfl qF (fun w1 hw1=>isCount_ok _ _ c _ _ _ _ w1 (heap_own h1 hw1))) ?_)))));refine zC 1 rfl (zK (zD [0,3,20] [_,_,_] rfl ?_));refine qL (b:=decide (((c).toNat:Int)=50∨((c).toNat:Int)=51∨((c).toNat:Int)=52)) rfl (fun h20_2=>?_) (fun h20_2=>?_)
 ·
  replace h20_2:=zG h20_2
  exact absurd h20_2 hlt.2
 replace h20_2:=zF h20_2;refine zE (zB (zC 1 rfl (zJ (v:=bo_ (decide (quI ((c).toNat:Int)))) rfl rfl rfl (qK rfl uM rfl qF (fun w1 hw1=>isQuant_ok _ _ c _ _ _ _ w1 (heap_own h1 hw1))) ?_)));refine zC 1 rfl (zK (zD [3,31] [_,_] rfl ?_));refine qL (b:=decide (quI ((c).toNat:Int))) rfl (fun h31_2=>?_) (fun h31_2=>?_)
 ·
  replace h31_2:=zG h31_2
  exact absurd h31_2 hlt.1
 replace h31_2:=zF h31_2;refine qW (zD [3] [_] rfl ?_);refine zE (zB (zC 2 rfl (zK (zD [2] [_] rfl ?_))));refine qM (qR rfl rfl fun w' hw=>?_)
 exact ⟨rfl,hw.below⟩
theorem rankP_ok (fm:Fm) (p:Nat) (w:World) (hT:Tree 67 w fm p) (hwf:wfF fm) (hr:rankF fm≤2000000):Calls Tryz.prog 46 #[ptrV p] w fun en w'=>en=.returned (.int .i64 (rankF fm:Int))∧Below w.heap.size w w':=by
  have key:∀ (m:Nat) (fm:Fm) (p:Nat) (w:World),szF fm≤m→Tree 67 w fm p→wfF fm→rankF fm≤2000000→Calls Tryz.prog 46 #[ptrV p] w fun en w'=>en=.returned (.int .i64 (rankF fm:Int))∧Below w.heap.size w w':=fun m=>by
    induction m with
    | zero=>exact fun fm p w h1 h2 h3 h4=>rankP_step fm p w h2 h3 h4 fun fm2 p2 w2 h=>absurd h (by omega)
    | succ m ih=>exact fun fm p w h1 h2 h3 h4=>rankP_step fm p w h2 h3 h4 fun fm2 p2 w2 h k1 k2 k3=>ih fm2 p2 w2 (by omega) k1 k2 k3
  exact key _ fm p w (Nat.le_refl _) hT hwf hr
end Go.Proofs.YtefiibghfgfdnaaGreatDoor
namespace Go.Proofs.YtefiibghfgfdnaaGreatDoor
open Go.RowKit Go.Wk
set_option linter.unusedSimpArgs false
set_option maxHeartbeats 400000 in
theorem newHold_ok (a:St) (B:Nat) (w0:World) (hs:List (Nat×Obj)) (w:World) (hw:Own B w0 hs w) :
    Calls Tryz.prog 93 [vS a].toArray w fun en w'=>∃ (h M:Nat),en=.returned (.pointer (some ⟨h,0,none⟩))∧Own B w0 (memoF 147 h M a [] hs) w':=by
 refine fnStartC (Own B w0 hs) (n:=7) (e:=[(0,vS a)]) Tryz.func93 rfl rfl rfl rfl Ends.both hw ?_;refine zE (qJ (xG (v:=vS a) rfl rfl rfl rfl rfl fun p1 hp1=>?_))
 show Ll _ _ (Own _ _ (_::hs)) _ _ ((1,pt_ p1)::_) _ _ _;refine qO 1 rfl (zI (zD [1] [_] rfl ?_));refine zE (qJ (qA rfl rfl rfl (qE (cs:=#[i6_ a.n,str a.set,str a.rel]) 0 rfl zV rfl rfl zR) ?_));refine Ll.makeMapP rfl rfl rfl rfl fun m4 hm4=>?_
 show Ll _ _ (Own _ _ (_::_::hs)) _ _ ((4,.map (some m4))::_) _ _ _;refine qA (v:=.agg #[i6_ a.n,str a.set,str a.rel,.map (some m4)]) rfl rfl rfl (uL (xs:=[.tmp 3,.tmp 4]) (vs:=[vS a,.map (some m4)]) rfl rfl (by kernel_rfl)) ?_;refine xG (v:=.agg #[i6_ a.n,str a.set,str a.rel,.map (some m4)]) rfl rfl rfl rfl rfl fun p6 hp6=>?_
 show Ll _ _ (Own _ _ (_::_::_::hs)) _ _ ((6,pt_ p6)::_) _ _ _;refine qO 1 rfl (zI (zD [2] [_] rfl ?_));refine qM (qR rfl rfl fun w' hw=>?_)
 exact ⟨p6,m4,rfl,Own.pickT (hs:=[_,_,_]) (hs':=[_,_]) hw [0,1] rfl (by decide)⟩
set_option maxHeartbeats 400000 in
theorem holds_ok (a:St) (fm:Fm) (ha:a.Fine) (hwf:wfF fm) (xs:List Int) (va:Value) (hl:xs.length≤4) (B:Nat) (w0:World) (hs ts:List (Nat×Obj)) (h M:Nat) (K:Memo) (p:Nat) (w:World) (hts:∀ x∈ts,x∈hs) (hT:TreeB 67 ts fm p) (hva:∀ w1,Own B w0 hs w1→Ints w1 va xs) (hE:EnvA a (envL xs)) (hK:MemoOk 67 a ts K) (hw:Own B w0 (memoF 147 h M a K hs) w) :
    Calls Tryz.prog 94 [pt_ h,ptrV p,va].toArray w fun en w'=>∃ K',en=.returned (.bool (ev a fm (envL xs)))∧MemoOk 67 a ts K'∧Own B w0 (memoF 147 h M a K' hs) w':=by
 refine fnStartC (Own B w0 (bk_ h #[i6_ a.n,str a.set,str a.rel,.map (some M)] 147::((M,mapP (memoK K))::(memoB K++hs)))) (n:=16) (e:=[(0,pt_ h),(1,ptrV p),(2,va)]) Tryz.func94 rfl rfl rfl rfl Ends.both hw ?_;refine zE (zB (zC 1 rfl (zK (zD [0,1,2] [_,_,_] rfl ?_))));refine zE (qJ (qA (v:=.agg #[i6_ 0,i6_ 0,i6_ 0,i6_ 0]) rfl rfl rfl (uL (xs:=[]) (vs:=[]) rfl rfl (by kernel_rfl)) ?_));refine jL rfl rfl rfl rfl Tryz.zeroValue116 fun p7 hp7=>?_
 show Ll _ _ (Own _ _ (bk_ p7 #[i6_ 0,i6_ 0,i6_ 0,i6_ 0] 116::_::(((M,mapP (memoK K))::(memoB K++hs))))) _ _ ((7,pt_ p7)::_) _ _ _;refine yP (cs':=#[i6_ 0,i6_ 0,i6_ 0,i6_ 0]) (hs':=(bk_ p7 #[i6_ 0,i6_ 0,i6_ 0,i6_ 0] 116::_::(((M,mapP (memoK K))::(memoB K++hs))))) 0 rfl rfl rfl rfl rfl (by kernel_rfl:_=some Tryz.t116) rfl rfl rfl rfl rfl ?_;refine zI (zD [0,1,2,7] [_,_,_,_] rfl ?_);refine zE (qJ (qA (v:=sl_ p7 4 4) rfl rfl rfl (OpQ.sliceAll rfl Tryz.runUnderlying116 zM rfl) ?_));refine qO 1 rfl (Ll.copyEnv (xs:=xs) 0 rfl rfl rfl rfl Tryz.underlying25 (by kernel_rfl) rfl rfl rfl (fun w1 hw1=>hva w1 (qG (f:=[_,_]) (qV (f:=[_,_]) hw1))) hl ?_)
 show Ll _ _ (Own _ _ (_::_::(((M,mapP (memoK K))::(memoB K++hs))))) _ _ ((11,i6_ ((xs.length:Int)))::_) _ _ _;refine zI (zD [0,1,7] [_,_,_] rfl ?_);refine zE (qJ (qO 2 rfl (qA rfl rfl rfl (qE (cs:=(ints (envL xs)).toArray) 0 rfl vN rfl rfl (by intro w;rw [show (ints (envL xs)).toArray.size=4 from by simp [envL_len hl]];exact vG w)) ?_)));refine uE (ok:=fun K=>MemoOk 67 a ts K) (b:=ev a fm (envL xs)) (xs:=[.tmp 12,.tmp 13,.tmp 14]) (vs:=[pt_ h,ptrV p,.agg ((ints (envL xs)).toArray)]) ([bk_ p7 ((ints (envL xs)).toArray) 116]:List (Nat×Obj)) rfl rfl rfl rfl Tryz.call139 rfl (fun w1 hw1=>isTrue_ok a fm ha hwf B w0 _ ts h M K p (envL xs) w1 (fun x hx=>List.mem_append_right _ (hts x hx)) hT hE hK hw1) fun K1 hM1=>?_
 show Ll _ _ (Own _ _ (_::_::(((M,mapP (memoK K1))::(memoB K1++hs))))) _ _ ((15,bo_ (ev a fm (envL xs)))::_) _ _ _;refine qO 1 rfl (zI (zD [6] [_] rfl ?_));refine qM (qR rfl rfl fun w' hw=>?_)
 exact ⟨K1,rfl,hM1,qG (f:=[_]) hw⟩
set_option maxHeartbeats 800000 in
theorem iHolds_ok (a:St) (f:List UInt8) (va:Value) (xs:List Int) (w:World) (hsa:a.Small) (hva:Ints w va xs) (hxl:xs.length≤1048576) :
    Calls Tryz.prog 44 [vS a,str f,va].toArray w fun en w'=>en=.returned (.tuple #[.bool (holdV a f xs),.bool (holdK a f xs)])∧Below w.heap.size w w':=by
 refine fnStart (n:=44) (e:=[(0,vS a),(1,str f),(2,va)]) Tryz.func44 rfl rfl rfl rfl Ends.both ?_;refine zE (qJ (xG (v:=vS a) rfl rfl rfl rfl rfl fun p3 hp3=>?_))
 show Ll _ _ (Own _ _ [_]) _ _ ((3,pt_ p3)::_) _ _ _;refine qO 2 rfl (zI (zD [1,2,3] [_,_,_] rfl ?_));refine zE ?_
 rcases hff1:formO f with _ | fm1
 ·
  refine qJ (qO 1 rfl (uF (σ:=Unit) (ok:=fun _=>True) (v:=fun _=>.pointer none) (hs':=fun _=>[bk_ p3 #[i6_ a.n,str a.set,str a.rel] 24]) (xs:=[.tmp 9]) (vs:=[str f]) rfl rfl rfl rfl Tryz.call45 rfl (fun w1 hw1=>(pform_ok f _ _ (([bk_ p3 #[i6_ a.n,str a.set,str a.rel] 24]:List (Nat×Obj))++([])) w1 hw1).mono fun en w' hR=>by rw [hff1] at hR;exact ⟨(),hR.1,trivial,hR.2⟩) fun _ _=>?_))
  show Ll _ _ (Own _ _ [_]) _ _ ((10,.pointer none)::_) _ _ _;refine qO 1 rfl (zI (zD [2,3,8] [_,_,_] rfl ?_));refine zE (zE (zB (zC 1 rfl (zJ (v:=bo_ true) rfl rfl rfl (vW (p:=none) rfl yU rfl rfl) ?_))));refine zC 1 rfl ?_;refine zP rfl rfl rfl (zP rfl rfl rfl (zP rfl rfl rfl (zC 2 rfl (zP rfl rfl rfl (zP rfl rfl rfl (zP rfl rfl rfl (zC 2 rfl ?_)))))));refine zP rfl rfl rfl (zP rfl rfl rfl (zP rfl rfl rfl (zP rfl rfl rfl (zC 2 rfl (zP rfl rfl rfl (zP rfl rfl rfl (zP rfl rfl rfl ?_)))))));refine zP rfl rfl rfl (zP rfl rfl rfl (zP rfl rfl rfl (zP rfl rfl rfl (zP rfl rfl rfl (zC 1 rfl (zK (zD [2,3,8,38] [_,_,_,_] rfl ?_)))))));refine yW rfl ?_;refine zE (zB (zC 2 rfl (zK (zD [6,7] [_,_] rfl ?_))));refine qM (yY rfl rfl rfl fun w' hw=>?_)
  exact ⟨congrArg Ending.returned (hold_ret (hold_none hff1)),hw.below⟩
 refine qJ (qO 1 rfl (vP (ok:=fun ((q,new):Nat×List (Nat×Obj))=>TreeB 67 new fm1 q) (v:=fun ((q,new):Nat×List (Nat×Obj))=>ptrV q) (new:=fun ((q,new):Nat×List (Nat×Obj))=>new) (hs:=[]) (xs:=[.tmp 9]) (vs:=[str f]) ([bk_ p3 #[i6_ a.n,str a.set,str a.rel] 24]:List (Nat×Obj)) rfl rfl rfl rfl Tryz.call45 rfl (fun w1 hw1=>(pform_ok f _ _ (([bk_ p3 #[i6_ a.n,str a.set,str a.rel] 24]:List (Nat×Obj))++([])) w1 hw1).mono fun en w' hR=>by rw [hff1] at hR;obtain ⟨q,new,h1,h2,h3⟩:=hR;exact ⟨(q,new),h1,h2,h3⟩) fun ⟨q10,new10⟩ hTq10=>?_))
 dsimp only at hTq10
 show Ll _ _ (Own _ _ (_::(new10++([])))) _ _ ((10,ptrV q10)::_) _ _ _;refine qO 1 rfl (zI (zD [2,3,8] [_,_,_] rfl ?_));refine zE (zE (zB (zC 1 rfl (zJ (v:=bo_ false) rfl rfl rfl (vW (p:=some ⟨q10,0,none⟩) rfl yU rfl rfl) ?_))));refine zC 1 rfl (zJ rfl rfl rfl (qE (cs:=#[i6_ a.n,str a.set,str a.rel]) 0 rfl zV rfl rfl zR) ?_);refine zJ (v:=bo_ (validB a)) rfl rfl rfl (qK rfl Tryz.call50 rfl qF (fun w1 hw1=>isStructure_ok a w1 hsa)) ?_;refine zC 3 rfl (xC fun b18 hg18=>?_)
 cases b18
 ·
  replace hg18:=not_false hg18;refine zC 1 rfl (zJ (v:=i6_ ((xs.length:Int))) rfl rfl rfl (yS rfl zY rfl (ints_length _) (fun w1 hw1=>Row.own hva hw1)) ?_);refine zC 3 rfl (xC fun b23 hg23=>?_)
  cases b23
  ·
   replace hg23:=zF hg23;refine zJ rfl rfl rfl (qE (cs:=#[i6_ a.n,str a.set,str a.rel]) 0 rfl zV rfl rfl zR) ?_;refine zC 1 rfl (zJ (v:=bo_ (xs.all (elB a))) rfl rfl rfl (qK rfl Tryz.call92 rfl qF (fun w1 hw1=>areElements_ok a va xs w1 (Row.own hva hw1) (by first | (simp;done) | (simp;omega) | omega))) ?_);refine zC 3 rfl (xC fun b29 hg29=>?_)
   cases b29
   ·
    replace hg29:=not_false hg29;refine zC 1 rfl (zJ (v:=ptrV q10) rfl rfl rfl (zU rfl rfl) ?_);refine zJ rfl rfl rfl (zH rfl zL rfl zM rfl rfl) ?_;refine zJ (v:=i6_ ((frB fm1:Int))) rfl rfl rfl (qY rfl zZ rfl (fun w1 hw1=>tree_free (TreeB.tree (yK (qG (f:=[_]) hw1)) hTq10))) ?_;refine zC 1 rfl (zJ (v:=i6_ ((xs.length:Int))) rfl rfl rfl (yS rfl zY rfl (ints_length _) (fun w1 hw1=>Row.own hva hw1)) ?_);refine zJ (v:=i6_ ((((frB fm1) / 2 ^ xs.length:Nat):Int))) rfl rfl rfl (OpQ.shr (a:=frB fm1) (b:=xs.length) rfl rfl rfl (by omega)) ?_;refine zC 2 rfl (zK (zD [2,3,8,38] [_,_,_,_] rfl ?_));refine qL (b:=!(decide (((((frB fm1) / 2 ^ xs.length:Nat):Int))=(0:Int)))) rfl (fun h38=>?_) (fun h38=>?_)
    ·
     replace h38:=not_true h38
     replace h38:=zF h38;refine zE (zB (zC 2 rfl (zK (zD [6,7] [_,_] rfl ?_))));refine qM (yY rfl rfl rfl fun w' hw=>?_)
     exact ⟨congrArg Ending.returned (hold_ret (hold_bad hff1 (by first | exact .inl (by assumption) | exact .inr (.inl (by omega)) | exact .inr (.inr (.inl (by assumption))) | exact .inr (.inr (.inr (by assumption)))))),hw.below⟩
    replace h38:=not_false h38
    replace h38:=zG h38
    have hO:=hold_good (a:=a) (xs:=xs) hff1 (by assumption) (by omega) (by assumption) (by assumption)
    have ha:=validB_fine (show validB a=true by assumption)
    have hm1:=ha.lo;refine qW (zD [2,3,8] [_,_,_] rfl ?_);refine zE (qJ (qA rfl rfl rfl (qE (cs:=#[i6_ a.n,str a.set,str a.rel]) 0 rfl zV rfl rfl zR) ?_));refine vP (ok:=fun _=>True) (v:=fun ((h,M):Nat×Nat)=>.pointer (some ⟨h,0,none⟩)) (new:=fun ((h,M):Nat×Nat)=>[(h,Obj.cells #[.int .i64 a.n,str a.set,str a.rel,.map (some M)] 147 (0,0)),(M,mapP (memoK []))]) (hs:=new10++([])) (xs:=[.tmp 39]) (vs:=[vS a]) ([bk_ p3 #[i6_ a.n,str a.set,str a.rel] 24]:List (Nat×Obj)) rfl rfl rfl rfl Tryz.call93 rfl (fun w1 hw1=>(newHold_ok a w.heap.size w (([bk_ p3 #[i6_ a.n,str a.set,str a.rel] 24]:List (Nat×Obj))++(new10++([]))) w1 hw1).mono fun en w' ⟨h,M,h1,h2⟩=>⟨(h,M),h1,trivial,h2⟩) fun ⟨h40n,M40n⟩ _=>?_
    show Ll _ _ (Own _ _ (_::_::(((M40n,mapP (memoK []))::(memoB []++(new10++([]))))))) _ _ ((40,pt_ h40n)::_) _ _ _;refine qO 2 rfl (uE (ok:=fun K=>MemoOk 67 a new10 K) (b:=ev a fm1 (envL xs)) (xs:=[.tmp 40,.tmp 41,.tmp 42]) (vs:=[pt_ h40n,ptrV q10,va]) ([bk_ p3 #[i6_ a.n,str a.set,str a.rel] 24]:List (Nat×Obj)) rfl rfl rfl rfl Tryz.call94 rfl (fun w1 hw1=>holds_ok a fm1 ha (formO_wf hff1) xs va (by omega) _ _ _ new10 h40n M40n [] q10 w1 (fun x hx=>List.mem_append_right _ (List.mem_append_left _ hx)) hTq10 (fun w1 h1=>Row.own hva h1) (envL_ok hm1 (by omega) (fun x hx=>elB_true.1 (List.all_eq_true.1 (by assumption) x hx))) MemoOk.nil hw1) fun K1 hM1=>?_)
    show Ll _ _ (Own _ _ (_::_::(((M40n,mapP (memoK K1))::(memoB K1++(new10++([]))))))) _ _ ((43,bo_ (ev a fm1 (envL xs)))::_) _ _ _;refine qO 2 rfl (zI (zD [6,7] [_,_] rfl ?_));refine qM (yY rfl rfl rfl fun w' hw=>?_)
    exact ⟨congrArg Ending.returned (hold_ret hO),hw.below⟩
   replace hg29:=not_true hg29;refine zP rfl rfl rfl (zP rfl rfl rfl (zP rfl rfl rfl ?_));refine zP rfl rfl rfl (zP rfl rfl rfl (zP rfl rfl rfl (zP rfl rfl rfl (zP rfl rfl rfl (zC 1 rfl (zK (zD [2,3,8,38] [_,_,_,_] rfl ?_)))))));refine yW rfl ?_;refine zE (zB (zC 2 rfl (zK (zD [6,7] [_,_] rfl ?_))));refine qM (yY rfl rfl rfl fun w' hw=>?_)
   exact ⟨congrArg Ending.returned (hold_ret (hold_bad hff1 (by first | exact .inl (by assumption) | exact .inr (.inl (by omega)) | exact .inr (.inr (.inl (by assumption))) | exact .inr (.inr (.inr (by assumption)))))),hw.below⟩
  replace hg23:=zG hg23;refine zP rfl rfl rfl (zP rfl rfl rfl (zP rfl rfl rfl (zP rfl rfl rfl (zC 2 rfl (zP rfl rfl rfl (zP rfl rfl rfl (zP rfl rfl rfl ?_)))))));refine zP rfl rfl rfl (zP rfl rfl rfl (zP rfl rfl rfl (zP rfl rfl rfl (zP rfl rfl rfl (zC 1 rfl (zK (zD [2,3,8,38] [_,_,_,_] rfl ?_)))))));refine yW rfl ?_;refine zE (zB (zC 2 rfl (zK (zD [6,7] [_,_] rfl ?_))));refine qM (yY rfl rfl rfl fun w' hw=>?_)
  exact ⟨congrArg Ending.returned (hold_ret (hold_bad hff1 (by first | exact .inl (by assumption) | exact .inr (.inl (by omega)) | exact .inr (.inr (.inl (by assumption))) | exact .inr (.inr (.inr (by assumption)))))),hw.below⟩
 replace hg18:=not_true hg18;refine zP rfl rfl rfl (zP rfl rfl rfl (zP rfl rfl rfl (zC 2 rfl ?_)));refine zP rfl rfl rfl (zP rfl rfl rfl (zP rfl rfl rfl (zP rfl rfl rfl (zC 2 rfl (zP rfl rfl rfl (zP rfl rfl rfl (zP rfl rfl rfl ?_)))))));refine zP rfl rfl rfl (zP rfl rfl rfl (zP rfl rfl rfl (zP rfl rfl rfl (zP rfl rfl rfl (zC 1 rfl (zK (zD [2,3,8,38] [_,_,_,_] rfl ?_)))))));refine yW rfl ?_;refine zE (zB (zC 2 rfl (zK (zD [6,7] [_,_] rfl ?_))));refine qM (yY rfl rfl rfl fun w' hw=>?_)
 exact ⟨congrArg Ending.returned (hold_ret (hold_bad hff1 (by first | exact .inl (by assumption) | exact .inr (.inl (by omega)) | exact .inr (.inr (.inl (by assumption))) | exact .inr (.inr (.inr (by assumption)))))),hw.below⟩
set_option maxHeartbeats 400000 in
theorem iRank_ok (f:List UInt8) (w:World) :
    Calls Tryz.prog 14 [str f].toArray w fun en w'=>en=.returned (.int .i64 (rankI f))∧Below w.heap.size w w':=by
 refine fnStart (n:=10) (e:=[(0,str f)]) Tryz.func14 rfl rfl rfl rfl Ends.both ?_;refine zE (zB (zC 1 rfl (zK (zD [0] [_] rfl ?_))));refine zE ?_
 rcases hff1:formO f with _ | fm1
 ·
  refine qJ (qO 1 rfl (uF (σ:=Unit) (ok:=fun _=>True) (v:=fun _=>.pointer none) (hs':=fun _=>[]) (xs:=[.tmp 4]) (vs:=[str f]) rfl rfl rfl rfl Tryz.call45 rfl (fun w1 hw1=>(pform_ok f _ _ (([]:List (Nat×Obj))++([])) w1 hw1).mono fun en w' hR=>by rw [hff1] at hR;exact ⟨(),hR.1,trivial,hR.2⟩) fun _ _=>?_))
  show Ll _ _ (Own _ _ []) _ _ ((5,.pointer none)::_) _ _ _;refine qO 1 rfl (zI (zD [3] [_] rfl ?_));refine zE (zE (zB (zC 1 rfl (zJ (v:=bo_ true) rfl rfl rfl (vW (p:=none) rfl yU rfl rfl) ?_))));refine zK (zD [3,7] [_,_] rfl ?_);refine yW rfl ?_;refine zE (zB (zC 1 rfl (zK (zD [2] [_] rfl ?_))));refine qM (qR rfl rfl fun w' hw=>?_)
  exact ⟨ret_i (by unfold rankI;rw [hff1]),hw.below⟩
 have hP1:=formO_pa hff1
 have hwf_fm1:=formO_wf hff1
 have hl4:=(formO_parse hff1).1
 have hr_fm1:rankF fm1≤2000000:=by have:=rank_pa hP1;omega
 refine qJ (qO 1 rfl (vP (ok:=fun ((q,new):Nat×List (Nat×Obj))=>TreeB 67 new fm1 q) (v:=fun ((q,new):Nat×List (Nat×Obj))=>ptrV q) (new:=fun ((q,new):Nat×List (Nat×Obj))=>new) (hs:=[]) (xs:=[.tmp 4]) (vs:=[str f]) ([]:List (Nat×Obj)) rfl rfl rfl rfl Tryz.call45 rfl (fun w1 hw1=>(pform_ok f _ _ (([]:List (Nat×Obj))++([])) w1 hw1).mono fun en w' hR=>by rw [hff1] at hR;obtain ⟨q,new,h1,h2,h3⟩:=hR;exact ⟨(q,new),h1,h2,h3⟩) fun ⟨q5,new5⟩ hTq5=>?_))
 dsimp only at hTq5
 show Ll _ _ (Own _ _ ((new5++([])))) _ _ ((5,ptrV q5)::_) _ _ _;refine qO 1 rfl (zI (zD [3] [_] rfl ?_));refine zE (zE (zB (zC 1 rfl (zJ (v:=bo_ false) rfl rfl rfl (vW (p:=some ⟨q5,0,none⟩) rfl yU rfl rfl) ?_))));refine zK (zD [3,7] [_,_] rfl ?_);refine jJ rfl ?_;refine qW (zD [3] [_] rfl ?_);refine zE (zB (zC 1 rfl (zJ (v:=i6_ ((rankF fm1:Int))) rfl rfl rfl (qK rfl Tryz.call46 rfl qF (fun w1 hw1=>rankP_ok fm1 q5 w1 (TreeB.tree (yK (qG (f:=[]) hw1)) hTq5) hwf_fm1 hr_fm1)) ?_)));refine zC 1 rfl (zK (zD [2] [_] rfl ?_));refine qM (qR rfl rfl fun w' hw=>?_)
 exact ⟨ret_i (by unfold rankI;rw [hff1]),hw.below⟩
end Go.Proofs.YtefiibghfgfdnaaGreatDoor
namespace Go.Proofs.YtefiibghfgfdnaaGreatDoor
open Go.RowKit Go.Wk
set_option linter.unusedSimpArgs false
set_option maxHeartbeats 400000 in
theorem iSep_ok (f:List UInt8) (a b:St) (xs ys:List Int) (va vb:Value) (w:World) (hsa:a.Small) (hsb:b.Small) (hva:Ints w va xs) (hvb:Ints w vb ys) (_hf:f.length≤1048576) (hlx:xs.length≤1048576) (hly:ys.length≤1048576) :
    Calls Tryz.prog 13 [str f,vS a,va,vS b,vb].toArray w fun en w'=>en=.returned (.bool (sepB f a xs b ys))∧Below w.heap.size w w':=by
 refine fnStart (n:=47) (e:=[(0,str f),(1,vS a),(2,va),(3,vS b),(4,vb)]) Tryz.func13 rfl rfl rfl rfl Ends.both ?_;refine zE (qJ (xG (v:=vS a) rfl rfl rfl rfl rfl fun p6 hp6=>?_))
 show Ll _ _ (Own _ _ [_]) _ _ ((6,pt_ p6)::_) _ _ _;refine xG (v:=vS b) rfl rfl rfl rfl rfl fun p8 hp8=>?_
 show Ll _ _ (Own _ _ [_,_]) _ _ ((8,pt_ p8)::_) _ _ _;refine qO 1 rfl (zI (zD [0,2,4,6,8] [_,_,_,_,_] rfl ?_));refine zE (zB (zJ rfl rfl rfl (qE (cs:=#[i6_ a.n,str a.set,str a.rel]) 1 rfl zV rfl rfl zR) ?_));refine zC 2 rfl (zJ (v:=.tuple #[bo_ (holdV a f xs),bo_ (holdK a f xs)]) rfl rfl rfl (qK rfl Tryz.call44 rfl qF (fun w1 hw1=>iHolds_ok a f va xs w1 hsa (Row.own hva hw1) (by first | (simp;done) | omega))) ?_);refine zC 1 rfl (zJ (v:=bo_ (holdV a f xs)) rfl rfl rfl (yC rfl rfl rfl) ?_);refine zJ (v:=bo_ (holdK a f xs)) rfl rfl rfl (yC rfl rfl rfl) ?_;refine zC 2 rfl (zK (zD [0,2,4,8,11,12] [_,_,_,_,_,_] rfl ?_));refine zE (zB (zJ rfl rfl rfl (qE (cs:=#[i6_ b.n,str b.set,str b.rel]) 0 rfl zV rfl rfl zR) ?_));refine zC 2 rfl (zJ (v:=.tuple #[bo_ (holdV b f ys),bo_ (holdK b f ys)]) rfl rfl rfl (qK rfl Tryz.call44 rfl qF (fun w1 hw1=>iHolds_ok b f vb ys w1 hsb (Row.own hvb hw1) (by first | (simp;done) | omega))) ?_);refine zC 1 rfl (zJ (v:=bo_ (holdV b f ys)) rfl rfl rfl (yC rfl rfl rfl) ?_);refine zJ (v:=bo_ (holdK b f ys)) rfl rfl rfl (yC rfl rfl rfl) ?_;refine zC 2 rfl (zK (zD [2,4,11,12,13,14] [_,_,_,_,_,_] rfl ?_));refine zE (zB (zC 1 rfl (zJ (v:=i6_ ((xs.length:Int))) rfl rfl rfl (yS rfl zY rfl (ints_length _) (fun w1 hw1=>Row.own hva hw1)) ?_)));refine zC 1 rfl (zJ (v:=i6_ ((ys.length:Int))) rfl rfl rfl (yS rfl zY rfl (ints_length _) (fun w1 hw1=>Row.own hvb hw1)) ?_);refine zC 2 rfl (xC fun b34 hg34=>?_)
 cases b34
 ·
  replace hg34:=zF hg34;refine zP rfl rfl rfl (zC 2 rfl (zP rfl rfl rfl ?_));refine zC 2 rfl (zP rfl rfl rfl (zC 2 rfl (zP rfl rfl rfl (zP rfl rfl rfl (zC 2 rfl (zK (zD [10] [_] rfl ?_)))))));refine qM (qR rfl rfl fun w' hw=>?_)
  exact ⟨ret_b (by first | rfl | (simp_all [sepB];done) | (simp_all [sepB];omega)),hw.below⟩
 replace hg34:=zG hg34;refine zC 3 rfl (xC fun b37 hg37=>?_)
 cases b37
 ·
  refine zP rfl rfl rfl ?_;refine zC 2 rfl (zP rfl rfl rfl (zC 2 rfl (zP rfl rfl rfl (zP rfl rfl rfl (zC 2 rfl (zK (zD [10] [_] rfl ?_)))))));refine qM (qR rfl rfl fun w' hw=>?_)
  exact ⟨ret_b (by first | rfl | (simp_all [sepB];done) | (simp_all [sepB];omega)),hw.below⟩
 refine zC 3 rfl (xC fun b40 hg40=>?_)
 cases b40
 ·
  refine zP rfl rfl rfl (zC 2 rfl (zP rfl rfl rfl (zP rfl rfl rfl (zC 2 rfl (zK (zD [10] [_] rfl ?_))))));refine qM (qR rfl rfl fun w' hw=>?_)
  exact ⟨ret_b (by first | rfl | (simp_all [sepB];done) | (simp_all [sepB];omega)),hw.below⟩
 refine zC 3 rfl (xC fun b43 hg43=>?_)
 cases b43
 ·
  refine zP rfl rfl rfl (zP rfl rfl rfl (zC 2 rfl (zK (zD [10] [_] rfl ?_))));refine qM (qR rfl rfl fun w' hw=>?_)
  exact ⟨ret_b (by first | rfl | (simp_all [sepB];done) | (simp_all [sepB];omega)),hw.below⟩
 refine zC 4 rfl (zK (zD [10] [_] rfl ?_));refine qM (qR rfl rfl fun w' hw=>?_)
 exact ⟨ret_b (by first | rfl | (simp_all [sepB];done) | (simp_all [sepB];omega)),hw.below⟩
end Go.Proofs.YtefiibghfgfdnaaGreatDoor
namespace Go.Proofs.YtefiibghfgfdnaaGreatDoor
open Go.RowKit Go.Wk
set_option linter.unusedSimpArgs false
set_option maxHeartbeats 400000 in
theorem sSep_ok (f:List UInt8) (a b:St) (xs ys:List Int) (va vb:Value) (w:World) (hsa:a.Small) (hsb:b.Small) (hva:Ints w va xs) (hvb:Ints w vb ys) (hf:f.length≤1048576) (_hlx:xs.length≤1048576) (_hly:ys.length≤1048576) :
    Calls Tryz.prog 24 [str f,vS a,va,vS b,vb].toArray w fun en w'=>en=.returned (.bool (sepB f a xs b ys))∧Below w.heap.size w w':=by
 refine fnStart (n:=47) (e:=[(0,str f),(1,vS a),(2,va),(3,vS b),(4,vb)]) Tryz.func24 rfl rfl rfl rfl Ends.both ?_;refine zE (qJ (xG (v:=vS a) rfl rfl rfl rfl rfl fun p6 hp6=>?_))
 show Ll _ _ (Own _ _ [_]) _ _ ((6,pt_ p6)::_) _ _ _;refine xG (v:=vS b) rfl rfl rfl rfl rfl fun p8 hp8=>?_
 show Ll _ _ (Own _ _ [_,_]) _ _ ((8,pt_ p8)::_) _ _ _;refine qO 1 rfl (zI (zD [0,2,4,6,8] [_,_,_,_,_] rfl ?_));refine zE (zB (zJ rfl rfl rfl (qE (cs:=#[i6_ a.n,str a.set,str a.rel]) 1 rfl zV rfl rfl zR) ?_));refine zC 2 rfl (zJ (v:=.tuple #[bo_ (holdV a f xs),bo_ (holdK a f xs)]) rfl rfl rfl (qK rfl Tryz.call57 rfl qF (fun w1 hw1=>sHolds_ok a f va xs w1 hsa hf (Row.own hva hw1))) ?_);refine zC 1 rfl (zJ (v:=bo_ (holdV a f xs)) rfl rfl rfl (yC rfl rfl rfl) ?_);refine zJ (v:=bo_ (holdK a f xs)) rfl rfl rfl (yC rfl rfl rfl) ?_;refine zC 2 rfl (zK (zD [0,2,4,8,11,12] [_,_,_,_,_,_] rfl ?_));refine zE (zB (zJ rfl rfl rfl (qE (cs:=#[i6_ b.n,str b.set,str b.rel]) 0 rfl zV rfl rfl zR) ?_));refine zC 2 rfl (zJ (v:=.tuple #[bo_ (holdV b f ys),bo_ (holdK b f ys)]) rfl rfl rfl (qK rfl Tryz.call57 rfl qF (fun w1 hw1=>sHolds_ok b f vb ys w1 hsb hf (Row.own hvb hw1))) ?_);refine zC 1 rfl (zJ (v:=bo_ (holdV b f ys)) rfl rfl rfl (yC rfl rfl rfl) ?_);refine zJ (v:=bo_ (holdK b f ys)) rfl rfl rfl (yC rfl rfl rfl) ?_;refine zC 2 rfl (zK (zD [2,4,11,12,13,14] [_,_,_,_,_,_] rfl ?_));refine zE (zB (zC 2 rfl (xC fun b30 hg30=>?_)))
 cases b30
 ·
  refine zP rfl rfl rfl (zC 2 rfl (zP rfl rfl rfl (zP rfl rfl rfl (zP rfl rfl rfl (zP rfl rfl rfl (zP rfl rfl rfl ?_))))));refine zC 2 rfl (zP rfl rfl rfl (zC 2 rfl (zP rfl rfl rfl (zP rfl rfl rfl (zC 2 rfl (zK (zD [10] [_] rfl ?_)))))));refine qM (qR rfl rfl fun w' hw=>?_)
  exact ⟨ret_b (by first | rfl | (simp_all [sepB];done) | (simp_all [sepB];omega)),hw.below⟩
 refine zC 3 rfl (xC fun b33 hg33=>?_)
 cases b33
 ·
  refine zP rfl rfl rfl (zP rfl rfl rfl (zP rfl rfl rfl (zP rfl rfl rfl (zP rfl rfl rfl ?_))));refine zC 2 rfl (zP rfl rfl rfl (zC 2 rfl (zP rfl rfl rfl (zP rfl rfl rfl (zC 2 rfl (zK (zD [10] [_] rfl ?_)))))));refine qM (qR rfl rfl fun w' hw=>?_)
  exact ⟨ret_b (by first | rfl | (simp_all [sepB];done) | (simp_all [sepB];omega)),hw.below⟩
 refine zC 1 rfl (zJ (v:=i6_ ((xs.length:Int))) rfl rfl rfl (yS rfl zY rfl (ints_length _) (fun w1 hw1=>Row.own hva hw1)) ?_);refine zC 1 rfl (zJ (v:=i6_ ((ys.length:Int))) rfl rfl rfl (yS rfl zY rfl (ints_length _) (fun w1 hw1=>Row.own hvb hw1)) ?_);refine zC 3 rfl (xC fun b40 hg40=>?_)
 cases b40
 ·
  replace hg40:=zF hg40;refine zP rfl rfl rfl (zC 2 rfl (zP rfl rfl rfl (zP rfl rfl rfl (zC 2 rfl (zK (zD [10] [_] rfl ?_))))));refine qM (qR rfl rfl fun w' hw=>?_)
  exact ⟨ret_b (by first | rfl | (simp_all [sepB];done) | (simp_all [sepB];omega)),hw.below⟩
 replace hg40:=zG hg40;refine zC 3 rfl (xC fun b43 hg43=>?_)
 cases b43
 ·
  refine zP rfl rfl rfl (zP rfl rfl rfl (zC 2 rfl (zK (zD [10] [_] rfl ?_))));refine qM (qR rfl rfl fun w' hw=>?_)
  exact ⟨ret_b (by first | rfl | (simp_all [sepB];done) | (simp_all [sepB];omega)),hw.below⟩
 refine zC 4 rfl (zK (zD [10] [_] rfl ?_));refine qM (qR rfl rfl fun w' hw=>?_)
 exact ⟨ret_b (by first | rfl | (simp_all [sepB];done) | (simp_all [sepB];omega)),hw.below⟩
end Go.Proofs.YtefiibghfgfdnaaGreatDoor
namespace Go.Proofs.YtefiibghfgfdnaaGreatDoor
open Go.RowKit Go.Wk
set_option linter.unusedSimpArgs false
set_option maxHeartbeats 400000 in
theorem lawFnSep (bv:Value) (L:List Int) (w:World) (hbv:Row w bv (u8s L)) (hL8:Bytes8 L) (hLm:L.length≤9223372036854775807) :
    Calls Tryz.prog 5 [bv].toArray w fun en w'=>en=.returned (.bool true)∧Below w.heap.size w w':=by
 refine fnStart (n:=88) (e:=[(0,bv)]) Tryz.func5 rfl rfl rfl rfl Ends.both ?_;refine zE (zB (zC 1 rfl (zK (zD [0] [_] rfl ?_))));refine zE (zE (zB (zC 1 rfl (zJ (v:=i6_ ((L.length:Int))) rfl rfl rfl (yS rfl yV rfl (u8s_length _) (fun w1 hw1=>Row.own hbv hw1)) ?_))));refine zC 1 rfl (zK (zD [0,14] [_,_] rfl ?_));refine qL (b:=decide ((1048576:Int)<((L.length:Int)))) rfl (fun h14=>?_) (fun h14=>?_)
 ·
  replace h14:=zG h14;refine zE (zB (zC 1 rfl (zK (zD [2] [_] rfl ?_))));refine qM (qR rfl rfl fun w' hw=>?_)
  exact ⟨rfl,hw.below⟩
 replace h14:=zF h14;refine qW (zD [0] [_] rfl ?_);refine zE (qJ (qO 1 rfl (vP (ok:=fun ((f,a,b,v,xs,u,ys,new):List UInt8×St×St×Value×List Int×Value×List Int×List (Nat×Obj))=>(((a.Tame∧b.Tame)∧(xs.length≤40∧ys.length≤40)∧∀ w1,Own w.heap.size w new w1→Ints w1 v xs∧Ints w1 u ys)∧f.length≤4000)) (v:=fun ((f,a,b,v,xs,u,ys,new):List UInt8×St×St×Value×List Int×Value×List Int×List (Nat×Obj))=>.tuple #[str f,vS a,v,vS b,u]) (new:=fun ((f,a,b,v,xs,u,ys,new):List UInt8×St×St×Value×List Int×Value×List Int×List (Nat×Obj))=>new) (hs:=[]) (xs:=[.tmp 16]) (vs:=[bv]) ([]:List (Nat×Obj)) rfl rfl rfl rfl Tryz.call23 rfl (fun w1 hw1=>(drawSep_ok w.heap.size w (([]:List (Nat×Obj))++([])) bv L w1 (fun w2 hw2=>Row.own hbv hw2) hL8 (by omega) hw1).mono fun en w' ⟨f,a,b,v,xs,u,ys,new,h1,h2,h3⟩=>⟨(f,a,b,v,xs,u,ys,new),h1,h2,h3⟩) fun ⟨f17,a17,b17,v17,xs17,u17,ys17,new17⟩ hK=>?_)))
 dsimp only at hK
 obtain ⟨⟨⟨hta17,htb17⟩,⟨hlxs17,hlys17⟩,hrw⟩,hff17⟩:=hK
 have hIv17:∀ w1,Own w.heap.size w new17 w1→Ints w1 v17 xs17:=fun w1 h=>(hrw w1 h).1
 have hIu17:∀ w1,Own w.heap.size w new17 w1→Ints w1 u17 ys17:=fun w1 h=>(hrw w1 h).2
 have hsa17:=hta17.small
 have loa17:=hta17.lo
 have hia17:=hta17.hi
 have hsb17:=htb17.small
 have lob17:=htb17.lo
 have hib17:=htb17.hi
 show Ll _ _ (Own _ _ ((new17++([])))) _ _ ((17,.tuple #[str f17,vS a17,v17,vS b17,u17])::_) _ _ _;refine qO 1 rfl (qA (v:=str f17) rfl rfl rfl (yC rfl rfl rfl) ?_);refine qA (v:=vS a17) rfl rfl rfl (yC rfl rfl rfl) ?_;refine qA (v:=v17) rfl rfl rfl (yC rfl rfl rfl) ?_;refine qA (v:=vS b17) rfl rfl rfl (yC rfl rfl rfl) ?_;refine qA (v:=u17) rfl rfl rfl (yC rfl rfl rfl) ?_;refine jL rfl rfl rfl rfl xB fun p4 hp4=>?_
 show Ll _ _ (Own _ _ (bk_ p4 #[i6_ 0,str ([]),str ([])] 24::(new17++([])))) _ _ ((4,pt_ p4)::_) _ _ _;refine jL rfl rfl rfl rfl xB fun p6 hp6=>?_
 show Ll _ _ (Own _ _ (bk_ p6 #[i6_ 0,str ([]),str ([])] 24::_::(new17++([])))) _ _ ((6,pt_ p6)::_) _ _ _;refine qO 1 rfl (yP (cs':=#[i6_ a17.n,str a17.set,str a17.rel]) (hs':=(_::bk_ p4 #[i6_ a17.n,str a17.set,str a17.rel] 24::(new17++([])))) 1 rfl rfl rfl rfl rfl (by kernel_rfl:_=some Tryz.t24) rfl rfl rfl rfl rfl ?_);refine qO 1 rfl (yP (cs':=#[i6_ b17.n,str b17.set,str b17.rel]) (hs':=(bk_ p6 #[i6_ b17.n,str b17.set,str b17.rel] 24::_::(new17++([])))) 0 rfl rfl rfl rfl rfl (by kernel_rfl:_=some Tryz.t24) rfl rfl rfl rfl rfl ?_);refine qO 1 rfl (zI (zD [3,4,5,6,7] [_,_,_,_,_] rfl ?_));refine zE (zB (zC 1 rfl (zJ rfl rfl rfl (qE (cs:=#[i6_ a17.n,str a17.set,str a17.rel]) 1 rfl zV rfl rfl zR) ?_)));refine zC 1 rfl (zJ rfl rfl rfl (qE (cs:=#[i6_ b17.n,str b17.set,str b17.rel]) 0 rfl zV rfl rfl zR) ?_);refine zC 1 rfl (zJ (v:=bo_ (sepB f17 a17 xs17 b17 ys17)) rfl rfl rfl (qK rfl Tryz.call13 rfl qF (fun w1 hw1=>iSep_ok f17 a17 b17 xs17 ys17 v17 u17 w1 hsa17 hsb17 (hIv17 _ (yK (qG (f:=[_,_]) hw1))) (hIu17 _ (yK (qG (f:=[_,_]) hw1))) (by omega) (by omega) (by omega))) ?_);refine zC 1 rfl (zK (zD [3,4,5,6,7,8] [_,_,_,_,_,_] rfl ?_));refine zE (zE (zB (zC 2 rfl (zJ rfl rfl rfl (qE (cs:=#[i6_ a17.n,str a17.set,str a17.rel]) 1 rfl zV rfl rfl zR) ?_))));refine zC 1 rfl (zJ rfl rfl rfl (qE (cs:=#[i6_ b17.n,str b17.set,str b17.rel]) 0 rfl zV rfl rfl zR) ?_);refine zC 1 rfl (zJ (v:=bo_ (sepB f17 a17 xs17 b17 ys17)) rfl rfl rfl (qK rfl Tryz.call24 rfl qF (fun w1 hw1=>sSep_ok f17 a17 b17 xs17 ys17 v17 u17 w1 hsa17 hsb17 (hIv17 _ (yK (qG (f:=[_,_]) hw1))) (hIu17 _ (yK (qG (f:=[_,_]) hw1))) (by omega) (by omega) (by omega))) ?_);refine zJ rfl rfl rfl (OpQ.bne rfl jB rfl rfl) ?_;refine zC 1 rfl (xC fun b37 hg37=>?_)
 cases b37
 ·
  refine zC 3 rfl (zK (zD [3,4,5,6,7,8,40] [_,_,_,_,_,_,_] rfl ?_));refine qL (b:=!(sepB f17 a17 xs17 b17 ys17)) rfl (fun h40=>?_) (fun h40=>?_)
  ·
   replace h40:=not_true h40;refine zE (zB (zC 2 rfl (zJ rfl rfl rfl (qE (cs:=#[i6_ a17.n,str a17.set,str a17.rel]) 1 rfl zV rfl rfl zR) ?_)));refine zC 1 rfl (zJ rfl rfl rfl (qE (cs:=#[i6_ b17.n,str b17.set,str b17.rel]) 0 rfl zV rfl rfl zR) ?_);refine zC 1 rfl (zJ (v:=bo_ (sepB f17 a17 xs17 b17 ys17)) rfl rfl rfl (qK rfl Tryz.call24 rfl qF (fun w1 hw1=>sSep_ok f17 a17 b17 xs17 ys17 v17 u17 w1 hsa17 hsb17 (hIv17 _ (yK (qG (f:=[_,_]) hw1))) (hIu17 _ (yK (qG (f:=[_,_]) hw1))) (by omega) (by omega) (by omega))) ?_);refine zJ rfl rfl rfl (OpQ.beq rfl jB rfl rfl) ?_;refine zC 1 rfl (zK (zD [2] [_] rfl ?_));refine qM (qR rfl rfl fun w' hw=>?_)
   exact ⟨ret_b (by first | rfl | (simp_all;done)),hw.below⟩
  replace h40:=not_false h40
  have hS:sepB f17 a17 xs17 b17 ys17=true:=by simp_all
  refine qW (zD [3,4,5,6,7] [_,_,_,_,_] rfl ?_);refine zE (zB (zC 1 rfl (zJ (v:=i6_ (rankI f17)) rfl rfl rfl (qK rfl Tryz.call14 rfl qF (fun w1 hw1=>iRank_ok f17 w1)) ?_)));refine zC 1 rfl (zK (zD [3,4,5,6,7,9] [_,_,_,_,_,_] rfl ?_));refine zE (zB (zC 1 rfl (zJ (v:=.tuple #[str ((notO f17).1),bo_ ((notO f17).2)]) rfl rfl rfl (qK rfl Tryz.call25 rfl qF (fun w1 hw1=>iNot_ok f17 w1 (by omega))) ?_)));refine zC 1 rfl (zJ (v:=str ((notO f17).1)) rfl rfl rfl (yC rfl rfl rfl) ?_);refine zJ (v:=bo_ ((notO f17).2)) rfl rfl rfl (yC rfl rfl rfl) ?_;refine zC 2 rfl (zK (zD [4,5,6,7,9,10,11] [_,_,_,_,_,_,_] rfl ?_));refine zE (zB (zC 3 rfl (xC fun b58 hg58=>?_)))
  cases b58
  ·
   replace hg58:=zF hg58;refine zJ rfl rfl rfl (qE (cs:=#[i6_ a17.n,str a17.set,str a17.rel]) 1 rfl zV rfl rfl zR) ?_;refine zC 1 rfl (zJ rfl rfl rfl (qE (cs:=#[i6_ b17.n,str b17.set,str b17.rel]) 0 rfl zV rfl rfl zR) ?_);refine zC 2 rfl (zJ (v:=bo_ (secB a17 xs17 b17 ys17 (rankI f17))) rfl rfl rfl (qK rfl Tryz.call12 rfl qF (fun w1 hw1=>iWins_ok a17 b17 xs17 ys17 v17 u17 w1 hsa17 hsb17 (hIv17 _ (yK (qG (f:=[_,_]) hw1))) (hIu17 _ (yK (qG (f:=[_,_]) hw1))) (by first | (simp;done) | (simp;omega) | omega) (by first | (simp;done) | (simp;omega) | omega) (rankI f17))) ?_);refine zC 3 rfl (xC fun b67 hg67=>?_)
   cases b67
   ·
    replace hg67:=not_false hg67;refine zP rfl rfl rfl (zP rfl rfl rfl (zP rfl rfl rfl (zP rfl rfl rfl (zP rfl rfl rfl (zP rfl rfl rfl ?_)))));refine zP rfl rfl rfl (zP rfl rfl rfl (zP rfl rfl rfl (zP rfl rfl rfl (zP rfl rfl rfl (zP rfl rfl rfl (zP rfl rfl rfl (zP rfl rfl rfl ?_)))))));refine zP rfl rfl rfl (zP rfl rfl rfl (zP rfl rfl rfl (zP rfl rfl rfl (zP rfl rfl rfl (zC 2 rfl (zK (zD [2] [_] rfl ?_)))))));refine qM (qR rfl rfl fun w' hw=>?_)
    exact ⟨ret_b (by first | rfl | exact absurd (show secB a17 xs17 b17 ys17 (rankI f17)=true by assumption) (by rw [sep_sec hS];decide) | exact bool_no (sep_not hS (by assumption)).1 (by assumption) | (rw [(sep_not hS (by assumption)).2];rfl) | (simp_all;done)),hw.below⟩
   replace hg67:=not_true hg67;refine zC 3 rfl (xC fun b70 hg70=>?_)
   cases b70
   ·
    replace hg70:=not_false hg70;refine zC 1 rfl (zJ rfl rfl rfl (qE (cs:=#[i6_ b17.n,str b17.set,str b17.rel]) 0 rfl zV rfl rfl zR) ?_);refine zC 1 rfl (zJ rfl rfl rfl (qE (cs:=#[i6_ a17.n,str a17.set,str a17.rel]) 1 rfl zV rfl rfl zR) ?_);refine zC 1 rfl (zJ (v:=bo_ (sepB ((notO f17).1) b17 ys17 a17 xs17)) rfl rfl rfl (qK rfl Tryz.call13 rfl qF (fun w1 hw1=>iSep_ok ((notO f17).1) b17 a17 ys17 xs17 u17 v17 w1 hsb17 hsa17 (hIu17 _ (yK (qG (f:=[_,_]) hw1))) (hIv17 _ (yK (qG (f:=[_,_]) hw1))) (by have:=notO_len (f:=f17) (by assumption);omega) (by omega) (by omega))) ?_);refine zC 1 rfl (xC fun b77 hg77=>?_)
    cases b77
    ·
     refine zP rfl rfl rfl (zP rfl rfl rfl ?_);refine zP rfl rfl rfl (zP rfl rfl rfl (zP rfl rfl rfl (zP rfl rfl rfl (zP rfl rfl rfl (zC 4 rfl (zK (zD [2] [_] rfl ?_)))))));refine qM (qR rfl rfl fun w' hw=>?_)
     exact ⟨ret_b (by first | rfl | exact absurd (show secB a17 xs17 b17 ys17 (rankI f17)=true by assumption) (by rw [sep_sec hS];decide) | exact bool_no (sep_not hS (by assumption)).1 (by assumption) | (rw [(sep_not hS (by assumption)).2];rfl) | (simp_all;done)),hw.below⟩
    refine zC 1 rfl (zJ rfl rfl rfl (qE (cs:=#[i6_ a17.n,str a17.set,str a17.rel]) 1 rfl zV rfl rfl zR) ?_);refine zC 1 rfl (zJ rfl rfl rfl (qE (cs:=#[i6_ b17.n,str b17.set,str b17.rel]) 0 rfl zV rfl rfl zR) ?_);refine zC 1 rfl (zJ (v:=bo_ (sepB ((notO f17).1) a17 xs17 b17 ys17)) rfl rfl rfl (qK rfl Tryz.call13 rfl qF (fun w1 hw1=>iSep_ok ((notO f17).1) a17 b17 xs17 ys17 v17 u17 w1 hsa17 hsb17 (hIv17 _ (yK (qG (f:=[_,_]) hw1))) (hIu17 _ (yK (qG (f:=[_,_]) hw1))) (by have:=notO_len (f:=f17) (by assumption);omega) (by omega) (by omega))) ?_);refine zC 5 rfl (zK (zD [2] [_] rfl ?_));refine qM (qR rfl rfl fun w' hw=>?_)
    exact ⟨ret_b (by first | rfl | exact absurd (show secB a17 xs17 b17 ys17 (rankI f17)=true by assumption) (by rw [sep_sec hS];decide) | exact bool_no (sep_not hS (by assumption)).1 (by assumption) | (rw [(sep_not hS (by assumption)).2];rfl) | (simp_all;done)),hw.below⟩
   replace hg70:=not_true hg70;refine zP rfl rfl rfl (zP rfl rfl rfl ?_);refine zP rfl rfl rfl (zP rfl rfl rfl (zP rfl rfl rfl (zP rfl rfl rfl (zP rfl rfl rfl (zP rfl rfl rfl (zP rfl rfl rfl (zP rfl rfl rfl ?_)))))));refine zP rfl rfl rfl (zP rfl rfl rfl (zP rfl rfl rfl (zP rfl rfl rfl (zP rfl rfl rfl (zC 3 rfl (zK (zD [2] [_] rfl ?_)))))));refine qM (qR rfl rfl fun w' hw=>?_)
   exact ⟨rfl,hw.below⟩
  replace hg58:=zG hg58;refine zP rfl rfl rfl ?_;refine zP rfl rfl rfl (zP rfl rfl rfl (zP rfl rfl rfl (zP rfl rfl rfl (zP rfl rfl rfl (zP rfl rfl rfl (zC 5 rfl (xC fun b70 hg70_1=>?_)))))))
  cases b70
  ·
   replace hg70_1:=not_false hg70_1;refine zC 1 rfl (zJ rfl rfl rfl (qE (cs:=#[i6_ b17.n,str b17.set,str b17.rel]) 0 rfl zV rfl rfl zR) ?_);refine zC 1 rfl (zJ rfl rfl rfl (qE (cs:=#[i6_ a17.n,str a17.set,str a17.rel]) 1 rfl zV rfl rfl zR) ?_);refine zC 1 rfl (zJ (v:=bo_ (sepB ((notO f17).1) b17 ys17 a17 xs17)) rfl rfl rfl (qK rfl Tryz.call13 rfl qF (fun w1 hw1=>iSep_ok ((notO f17).1) b17 a17 ys17 xs17 u17 v17 w1 hsb17 hsa17 (hIu17 _ (yK (qG (f:=[_,_]) hw1))) (hIv17 _ (yK (qG (f:=[_,_]) hw1))) (by have:=notO_len (f:=f17) (by assumption);omega) (by omega) (by omega))) ?_);refine zC 1 rfl (xC fun b77 hg77_1=>?_)
   cases b77
   ·
    refine zP rfl rfl rfl (zP rfl rfl rfl ?_);refine zP rfl rfl rfl (zP rfl rfl rfl (zP rfl rfl rfl (zP rfl rfl rfl (zP rfl rfl rfl (zC 4 rfl (zK (zD [2] [_] rfl ?_)))))));refine qM (qR rfl rfl fun w' hw=>?_)
    exact ⟨ret_b (by first | rfl | exact absurd (show secB a17 xs17 b17 ys17 (rankI f17)=true by assumption) (by rw [sep_sec hS];decide) | exact bool_no (sep_not hS (by assumption)).1 (by assumption) | (rw [(sep_not hS (by assumption)).2];rfl) | (simp_all;done)),hw.below⟩
   refine zC 1 rfl (zJ rfl rfl rfl (qE (cs:=#[i6_ a17.n,str a17.set,str a17.rel]) 1 rfl zV rfl rfl zR) ?_);refine zC 1 rfl (zJ rfl rfl rfl (qE (cs:=#[i6_ b17.n,str b17.set,str b17.rel]) 0 rfl zV rfl rfl zR) ?_);refine zC 1 rfl (zJ (v:=bo_ (sepB ((notO f17).1) a17 xs17 b17 ys17)) rfl rfl rfl (qK rfl Tryz.call13 rfl qF (fun w1 hw1=>iSep_ok ((notO f17).1) a17 b17 xs17 ys17 v17 u17 w1 hsa17 hsb17 (hIv17 _ (yK (qG (f:=[_,_]) hw1))) (hIu17 _ (yK (qG (f:=[_,_]) hw1))) (by have:=notO_len (f:=f17) (by assumption);omega) (by omega) (by omega))) ?_);refine zC 5 rfl (zK (zD [2] [_] rfl ?_));refine qM (qR rfl rfl fun w' hw=>?_)
   exact ⟨ret_b (by first | rfl | exact absurd (show secB a17 xs17 b17 ys17 (rankI f17)=true by assumption) (by rw [sep_sec hS];decide) | exact bool_no (sep_not hS (by assumption)).1 (by assumption) | (rw [(sep_not hS (by assumption)).2];rfl) | (simp_all;done)),hw.below⟩
  replace hg70_1:=not_true hg70_1;refine zP rfl rfl rfl (zP rfl rfl rfl ?_);refine zP rfl rfl rfl (zP rfl rfl rfl (zP rfl rfl rfl (zP rfl rfl rfl (zP rfl rfl rfl (zP rfl rfl rfl (zP rfl rfl rfl (zP rfl rfl rfl ?_)))))));refine zP rfl rfl rfl (zP rfl rfl rfl (zP rfl rfl rfl (zP rfl rfl rfl (zP rfl rfl rfl (zC 3 rfl (zK (zD [2] [_] rfl ?_)))))));refine qM (qR rfl rfl fun w' hw=>?_)
  exact ⟨rfl,hw.below⟩
 exact absurd hg37 (by simp)
end Go.Proofs.YtefiibghfgfdnaaGreatDoor
namespace Go.Proofs.YtefiibghfgfdnaaGreatDoor
open Go.ChangeShapes Go.WideShapes Go.ChangeAt Go.RowKit Go.Wk
namespace FnSeparates
def W0:Array Value:=#[.slice none 0 0]
set_option maxRecDepth 100000 in
theorem contract (H:Type) (enc:TypeId×Value→H) (W:World) (base:Nat) (args:Array Value) (ds gs:List (DataW H)) (before:List MemPlace)
    (hval:∀ (j:Nat) t v,Tryz.f5.params[j]?=some t→args[j]?=some v→Value.okWide Tryz.prog W .any base t v)
    (hW:DataW.Whole enc Tryz.prog Tryz.f5.params.toList Rows.fnSeparatesSpec.vars false W args.toList ds gs before) :
    Calls Tryz.prog 5 args W fun e W'=>∃ v,e=.returned v∧Rows.fnSeparatesSpec.post enc Tryz.prog Tryz.f5 false true false false W args v W':=by
  have hW':=hW
  obtain ⟨p,q,hA0,hV,rfl,hfz,hnd⟩:=hW
  have hA:DataW.TrodAll enc Tryz.prog W 0 (fun _=>true) true Tryz.f5.params.toList args.toList ds p:=hA0
  rw [Tryz.params5] at hA hval
  obtain ⟨v0,vs0,d0,ds0,p0,q0,hargs0,rfl,rfl,h0,r0⟩:=trodAll_cons hA
  obtain ⟨rfl,rfl,rfl⟩:=trodAll_nil r0
  obtain rfl:args=#[v0]:=by cases args;simp_all
  obtain ⟨l0,row0,eight0,len0⟩:=open_B Tryz.underlying22 Tryz.underlying5 (by kernel_rfl) (hval 0 22 v0 rfl rfl) h0
  have walk:Calls Tryz.prog 5 #[v0] W fun e w'=>e=.returned (.bool true)∧Below W.heap.size W w':=by
    exact lawFnSep v0 l0 W row0 eight0 len0
  refine walk.mono fun e W' ⟨he,hb⟩=>⟨_,he,?_⟩
  exact post_true laidOut (by rw [Tryz.params5];intro t ht;simp only [List.mem_cons,List.not_mem_nil,or_false] at ht;rcases ht with rfl <;> exact ⟨by kernel_rfl,of_decide_eq_true (by kernel_rfl)⟩) rfl hW' rfl (by kernel_rfl) Tryz.underlying4 hb
theorem reads (os:Os) {H:Type} (enc:TypeId×Value→H):∃ places,DataW.whole enc Tryz.prog ((laidWorld os).forCall (fun _ _=>0) ⟨#[],W0,[]⟩).memory Tryz.f5.params.toList Rows.fnSeparatesSpec.vars false W0.toList 8=some ([.nil],[],places) :=
  ⟨[],by kernel_rfl⟩
set_option maxRecDepth 100000 in
theorem lifted (os:Os) (started:os.Started) (H:Type) (enc:TypeId×Value→H) (F:Stop.Interp) :
    ReturnsInHanded {} Tryz.checked os 5 .any ((OpenSpec.ofChange Rows.fnSeparatesSpec).preRow enc Tryz.prog Tryz.f5 Rows.fnSeparatesRow.domain false Rows.fnSeparatesRow.laid) (((OpenSpec.ofChange Rows.fnSeparatesSpec).at F).post enc Tryz.prog Tryz.f5 false true false false):=by
  obtain ⟨places,hx⟩:=reads os enc
  refine returnsInHanded_of_row (C:=Tryz.checked) (s:=OpenSpec.ofChange Rows.fnSeparatesSpec) own started (by kernel_rfl) Tryz.func5
    (witness_row_at (enc:=enc) (C:=Tryz.checked) false (laidWorld os) W0 rfl (by kernel_rfl) (by kernel_rfl) (by kernel_rfl)
      (OpenSpec.preRow_of_cond 8 hx (by kernel_rfl) (fun k hk=>by cases hk) (by kernel_rfl) (laid_met os W0))) ?_
  intro W base args ds gs before hval hW _ _ _ hL _ _
  exact contract H enc W base args ds gs before hval hW
theorem k0:(Rows.fnSeparatesRow.wf (OpenSpec.ofChange (OpenSpec.ofChange Rows.fnSeparatesSpec).bare))=true:=by kernel_rfl
theorem k3:(Tryz.f5.params.all (Tryz.pinned.checked.prog.readableRec ·))=true:=by kernel_rfl
theorem k4:(namedTie Tryz.pinned.checked.prog Rows.fnSeparatesRow.named (OpenSpec.ofChange Rows.fnSeparatesSpec).bare.vars)=true:=by kernel_rfl
theorem k9:((Rows.fnSeparatesRow.inPlace==Tryz.pinned.checked.prog.inPlace 5))=true:=by kernel_rfl
theorem k10:((Rows.fnSeparatesRow.unfollowed==Tryz.pinned.checked.prog.unfollowed 5))=true:=by kernel_rfl
theorem k11:((Rows.fnSeparatesRow.recurses==Tryz.pinned.checked.prog.recurses 5))=true:=by kernel_rfl
theorem k12:((Rows.fnSeparatesRow.named==Tryz.pinned.checked.prog.varsNamed 5))=true:=by kernel_rfl
theorem k13:((Rows.fnSeparatesRow.maps==(Tryz.f5.params.toList++(OpenSpec.ofChange Rows.fnSeparatesSpec).bare.plain.varTypes Tryz.pinned.checked.prog).any (Tryz.pinned.checked.prog.mapsRec ·)))=true:=by kernel_rfl
theorem k14:((Rows.fnSeparatesRow.ifaces==(Tryz.f5.params.toList++(OpenSpec.ofChange Rows.fnSeparatesSpec).bare.plain.varTypes Tryz.pinned.checked.prog).any (Tryz.pinned.checked.prog.ifacesRec ·)))=true:=by kernel_rfl
theorem k15:((Rows.fnSeparatesRow.mapsOut==Tryz.pinned.checked.prog.mapsAmong Tryz.f5.resultTypes.toList))=true:=by kernel_rfl
theorem k16:((Rows.fnSeparatesRow.loops==(Tryz.f5.params.toList++(OpenSpec.ofChange Rows.fnSeparatesSpec).bare.plain.varTypes Tryz.pinned.checked.prog).any (Tryz.pinned.checked.prog.loopsFrom ·)))=true:=by kernel_rfl
theorem k17:((Rows.fnSeparatesRow.wideKeys==(Tryz.f5.params.toList++(OpenSpec.ofChange Rows.fnSeparatesSpec).bare.plain.varTypes Tryz.pinned.checked.prog++Tryz.f5.resultTypes.toList).any (Tryz.pinned.checked.prog.wideKeysFrom ·)))=true:=by kernel_rfl
theorem k19:(Tryz.f5.resultTypes.all (fun t=>Tryz.pinned.checked.prog.readableRec t&&decide (t<Tryz.pinned.checked.prog.types.size)))=true:=by kernel_rfl
theorem k20:((Rows.fnSeparatesRow.ifacesOut==Tryz.f5.resultTypes.toList.any (Tryz.pinned.checked.prog.ifacesRec ·)))=true:=by kernel_rfl
theorem k21:((Rows.fnSeparatesRow.loopsOut==Tryz.f5.resultTypes.toList.any (Tryz.pinned.checked.prog.loopsFrom ·)))=true:=by kernel_rfl
theorem k30:((Rows.fnSeparatesRow.veiled==(Tryz.f5.params.toList++(OpenSpec.ofChange Rows.fnSeparatesSpec).bare.plain.varTypes Tryz.pinned.checked.prog++Tryz.f5.resultTypes.toList).any (Tryz.pinned.checked.prog.veiledRec ·)))=true:=by kernel_rfl
theorem k31:(Rows.fnSeparatesRow.veiledFits Tryz.pinned.checked.prog Tryz.f5.params.toList (Tryz.f5.params.toList++(OpenSpec.ofChange Rows.fnSeparatesSpec).bare.plain.varTypes Tryz.pinned.checked.prog++Tryz.f5.resultTypes.toList))=true:=by kernel_rfl
theorem closed:joinedFacts Tryz.pinned.checked.prog 5 Tryz.f5 (OpenSpec.ofChange Rows.fnSeparatesSpec).bare Rows.fnSeparatesRow=true :=
  facts_of k0 Laid1 Laid2 k3 k4 (by kernel_rfl) Laid6 (by kernel_rfl) Laid8 k9 k10 k11 k12 k13 k14 k15 k16 k17 (by kernel_rfl) k19 k20 k21 Laid22 (by kernel_rfl) Laid24 Laid25 Laid26 Laid27 (by kernel_rfl) (by kernel_rfl) k30 k31
theorem said:Rows.FnSeparatesSaid :=
  OpenClaim.holds_of_cond 5 Tryz.f5 rfl rfl rfl rfl rfl rfl rfl ⟨rfl,rfl,rfl,rfl,rfl⟩ rfl rfl rfl rfl rfl (by kernel_rfl) Tryz.func5 closed
    (of_decide_eq_true (by kernel_rfl)) (by unfold Func.isWrapper;first | (rw [if_pos (by decide +kernel)];kernel_rfl) | (rw [if_neg (by decide +kernel)];exact ⟨rfl,rfl⟩))
    (fun os started H enc _ F=>by rw [OpenClaim.pre_eq_preRow];exact lifted os started H enc F)
theorem plain (f:FuncId) (fn:Func) (hf:Tryz.pinned.checked.prog.funcNamed Rows.fnSeparatesRow.func=some f) (hfn:Tryz.pinned.checked.prog.funcs[f]?=some fn) :
    false=Tryz.pinned.checked.prog.looks []∧∀ (j:Nat) t,fn.params[j]?=some t→Tryz.pinned.checked.prog.wantsStandIn t=false:=by
  obtain rfl:f=5:=Option.some.inj ((show Tryz.pinned.checked.prog.funcNamed Rows.fnSeparatesRow.func=some 5 by kernel_rfl).symm.trans hf) |>.symm
  obtain rfl:fn=Tryz.f5:=(Option.some.inj (Tryz.func5.symm.trans hfn)).symm
  refine ⟨by kernel_rfl,fun j t ht=>?_⟩
  rw [Tryz.params5] at ht
  have hm:t∈[22]:=by simpa using Array.mem_of_getElem? ht
  simp only [List.mem_cons,List.not_mem_nil,or_false] at hm
  rcases hm with rfl <;> (show Tryz.prog.wantsStandIn _=false) <;> kernel_rfl
theorem hw:Rows.fnSeparatesRow.wfByText (OpenSpec.ofChange Rows.fnSeparatesSpec)=true:=by kernel_rfl
theorem hm:Tryz.pinned.checked.prog.mainIs=some (Rows.fnSeparatesCard.stood.harness.1,Rows.fnSeparatesCard.stood.harness.2.toList):=by kernel_rfl
theorem hg:false=Rows.fnSeparatesRow.goesBy Tryz.pinned.checked.prog:=by kernel_rfl
end FnSeparates
theorem cardFnSeparates:Rows.FnSeparatesCardSaid :=
  Claim7.holds_tied_plain_at .later [] _ _ _ _ FnSeparates.said (fun _ h=>by cases h) FnSeparates.hw (fun _ h=>by cases h) fnSeparates_row_tie rfl ⟨rfl,rfl⟩ FnSeparates.hm rfl FnSeparates.plain FnSeparates.hg
end Go.Proofs.YtefiibghfgfdnaaGreatDoor
