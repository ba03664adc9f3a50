/-
  FnAgree: all that its proof names (part 6)
-/
import Derived.Test.YtefiibghfgfdnaaGreatDoorKFnAgreee
import Derived.Test.YtefiibghfgfdnaaGreatDoorKFnAgreeb
import Derived.Test.YtefiibghfgfdnaaGreatDoorKFnAgreec
import Derived.Test.YtefiibghfgfdnaaGreatDoorKFnAgreea
import Derived.Test.YtefiibghfgfdnaaGreatDoorKFnAgreed
namespace Go.Proofs.YtefiibghfgfdnaaGreatDoor
open Go.RowKit Go.Wk
set_option linter.unusedSimpArgs false
set_option maxHeartbeats 400000 in
/-- (*impl.holder).decide$1 -/
theorem at_ok (en4:List Int) (vs:List UInt8) (p4 p5 p:Nat) (c:UInt8) (vv x2 x3 x4:Value) (k:Nat) (w:World) (h4:w.heap[p4]?=some (.cells #[ptrV p] 61 (0,0))) (h5:w.heap[p5]?=some (.cells (ints en4).toArray 116 (0,0))) (hN:w.heap[p]?=some (.cells #[u8V c,vv,x2,x3,x4] 67 (0,0))) (hv:Row w vv (vs.map u8V)) (hk:k<vs.length) (hV:isV (vs.getD k 0)=true) (hE:en4.length=4) :
    Calls Tryz.prog 175 [i6_ ((k:Int)),.pointer (some ⟨p5,0,none⟩),.pointer (some ⟨p4,0,none⟩)].toArray w fun en w'=>en=.returned (.int .i64 (en4.getD (vI (vs.getD k 0)) 0))∧Below w.heap.size w w':=by
 refine fnStart (n:=15) (e:=[(0,i6_ ((k:Int))),(1,.pointer (some ⟨p5,0,none⟩)),(2,.pointer (some ⟨p4,0,none⟩))]) Tryz.func175 rfl rfl rfl rfl Ends.both ?_
 have hv4:=(vI_lt hV).1;refine zE (zB (zC 1 rfl (zK (zD [0,1,2] [_,_,_] rfl ?_))));refine zE (zB (zM (v:=.pointer (some ⟨p,0,none⟩)) rfl rfl rfl (qZ rfl xF rfl (fun w1 hw1=>at_box h4 hw1 0 rfl)) ?_));refine zM (v:=.pointer (some ⟨p,0,none⟩)) rfl rfl rfl (zR rfl rfl) ?_;refine zM rfl rfl rfl (zF rfl zG rfl yF rfl rfl) ?_;refine zM (v:=vv) rfl rfl rfl (qZ rfl yZ rfl (fun w1 hw1=>at_box hN hw1 1 rfl)) ?_;refine zC 1 rfl (zM (v:=.pointer (some (sAt vv ((k:Int))))) rfl rfl rfl (xD rfl yN xB rfl rfl (by omega) (by rw [List.length_map];omega) (fun w1 hw1=>hv.own hw1)) ?_);refine zM (v:=.int .u8 (((vs.getD k 0).toNat:Int))) rfl rfl rfl (qZ rfl xH rfl (fun w1 hw1=>Row.u8 (hv.own hw1) (by omega) (by omega))) ?_;refine zM (v:=.int .u8 ((vI (vs.getD k 0):Int))) rfl rfl rfl (yO (by rw [vI_wrap hV]) (jU rfl rfl rfl)) ?_;refine zM (v:=.pointer (some (⟨p5,vI (vs.getD k 0),none⟩))) rfl rfl rfl (yO (v':=.pointer (some ⟨p5,vI (vs.getD k 0),none⟩)) (by rfl) (vN (i:=(vI (vs.getD k 0):Int)) rfl Tryz.runUnderlying116 zN rfl rfl (by omega) (by omega))) ?_;refine zM (v:=i6_ (en4.getD (vI (vs.getD k 0)) 0)) rfl rfl rfl (qZ rfl qA rfl (fun w1 hw1=>at_box h5 hw1 (vI (vs.getD k 0)) ((List.getElem?_toArray ..).trans (ints_at2 (c:=en4) (by omega))))) ?_;refine zC 1 rfl (zK (zD [4] [_] rfl ?_));refine qK (qT rfl rfl fun w' hw=>?_)
 exact ⟨rfl,hw.below⟩
def IsT (f:Nat) (a:St) (fm:Fm):Prop:=∀ (B:Nat) (w0:World) (hs ts:List (Nat×Obj)) (h M:Nat) (K:Memo) (p:Nat) (en4:List Int) (w:World),(∀ x∈ts,x∈hs)→TreeB 67 ts fm p→EnvA a en4→MemoOk 67 a ts K→Own B w0 (memoF 147 h M a K hs) w →
    Calls Tryz.prog f #[.pointer (some ⟨h,0,none⟩),ptrV p,.agg (ints en4).toArray] w fun en w'=>∃ K',en=.returned (.bool (ev a fm en4))∧MemoOk 67 a ts K'∧Own B w0 (memoF 147 h M a K' hs) w'
set_option maxHeartbeats 1600000 in
/-- (*impl.holder).decide -/
theorem decide_step (a:St) (fm:Fm) (ha:a.Fine) (hwf:wfF fm) (ih:∀ fm2:Fm,szF fm2<szF fm→wfF fm2→IsT 139 a fm2) (B:Nat) (w0:World) (hs ts:List (Nat×Obj)) (h M:Nat) (K:Memo) (p:Nat) (en4:List Int) (w:World) (hts:∀ x∈ts,x∈hs) (hT:TreeB 67 ts fm p) (hE:EnvA a en4) (hK:MemoOk 67 a ts K) (hw:Own B w0 (memoF 147 h M a K hs) w) :
    Calls Tryz.prog 161 [pt_ h,ptrV p,.agg ((ints en4).toArray)].toArray w fun en w'=>∃ K',en=.returned (.bool (ev a fm en4))∧MemoOk 67 a ts K'∧Own B w0 (memoF 147 h M a K' hs) w':=by
 refine fnStartC (Own B w0 (bk_ h #[i6_ a.n,str a.set,str a.rel,.map (some M)] 147::((M,mapP (memoK K))::(memoB K++hs)))) (n:=156) (e:=[(0,pt_ h),(1,ptrV p),(2,.agg ((ints en4).toArray))]) Tryz.func161 rfl rfl rfl rfl Ends.both hw ?_;refine zE (qU (xR (v:=ptrV p) rfl rfl rfl rfl rfl fun p4 hp4=>?_))
 show Ll _ _ (Own _ _ (_::_::(((M,mapP (memoK K))::(memoB K++hs))))) _ _ ((4,pt_ p4)::_) _ _ _;refine xR (v:=.agg ((ints en4).toArray)) rfl rfl rfl rfl rfl fun p5 hp5=>?_
 show Ll _ _ (Own _ _ (_::_::_::(((M,mapP (memoK K))::(memoB K++hs))))) _ _ ((5,pt_ p5)::_) _ _ _;refine qW 1 rfl (zL (zD [0,4,5] [_,_,_] rfl ?_));refine zE (zB (zM (v:=.func (.func 175) #[] #[pt_ p5,pt_ p4]) rfl rfl rfl (OpQ.func' (cap:=[.tmp 5,.tmp 4]) rfl rfl) ?_));refine zC 1 rfl (zK (zD [0,4,5,7] [_,_,_,_] rfl ?_));refine zE (zE ?_)
 have hE4:=hE.1
 have ha1:=ha.lo
 have ha8:=ha.hi
 rcases fm_by hwf with ⟨c,rfl,hc⟩ | ⟨c,v,rfl,hc,hv_v⟩ | ⟨c,v,u,rfl,hc,hv_v,hv_u⟩ | ⟨c,q,rfl,hc⟩ | ⟨c,v,q,rfl,hc,hv_v⟩ | ⟨c,q,r,rfl,hc⟩
 ·
  obtain ⟨vv,pv,hm0,hR10,hR20⟩:=hT
  have hm:=hts _ hm0
  have hR1:=hR10.more hts
  have hR2:=hR20.more hts;refine zB (zM rfl rfl rfl (zT 1 rfl xF rfl rfl rfl) ?_);refine zM (v:=ptrV p) rfl rfl rfl (zR rfl rfl) ?_;refine zM rfl rfl rfl (zF rfl zG rfl xB rfl rfl) ?_;refine zM (v:=.int .u8 ((c.toNat:Int))) rfl rfl rfl (qZ rfl xH rfl (fun w1 hw1=>cell_of ((vJ (qC (f:=[_,_,_]) (qO (f:=[_,_,_]) hw1)) hm).2) rfl)) ?_;refine zK (zD [0,4,5,7,14] [_,_,_,_,_] rfl ?_);refine yC (zE (zB (zC 2 rfl (zK (zD [0,4,5,7,14,15] [_,_,_,_,_,_] rfl ?_)))));refine qL (b:=decide (((c.toNat:Int))=(116:Int))) rfl (fun h15=>?_) (fun h15=>?_)
  ·
   replace h15:=zJ h15;refine zE (zB (zC 1 rfl (zK (zD [6] [_] rfl ?_))));refine qK (qT rfl rfl fun w' hw=>?_)
   exact ⟨K,ret_b (ev116 h15),hK,qC (f:=[_,_]) hw⟩
  replace h15:=zH h15;refine zE (zB (zC 2 rfl (zK (zD [0,4,5,7,14,17] [_,_,_,_,_,_] rfl ?_))));refine qL (b:=decide (((c.toNat:Int))=(102:Int))) rfl (fun h17=>?_) (fun h17=>?_)
  ·
   replace h17:=zJ h17;refine zE (zB (zC 1 rfl (zK (zD [6] [_] rfl ?_))));refine qK (qT rfl rfl fun w' hw=>?_)
   exact ⟨K,ret_b (ev102 h17),hK,qC (f:=[_,_]) hw⟩
  replace h17:=zH h17
  exfalso;omega
 ·
  obtain ⟨vv,pv,hm0,hR10,hR20⟩:=hT
  have hm:=hts _ hm0
  have hR1:=hR10.more hts
  have hR2:=hR20.more hts
  have hwv:=(vI_lt hv_v).1
  have hx1:=hE.at hwv;refine zB (zM rfl rfl rfl (zT 1 rfl xF rfl rfl rfl) ?_);refine zM (v:=ptrV p) rfl rfl rfl (zR rfl rfl) ?_;refine zM rfl rfl rfl (zF rfl zG rfl xB rfl rfl) ?_;refine zM (v:=.int .u8 ((c.toNat:Int))) rfl rfl rfl (qZ rfl xH rfl (fun w1 hw1=>cell_of ((vJ (qC (f:=[_,_,_]) (qO (f:=[_,_,_]) hw1)) hm).2) rfl)) ?_;refine zK (zD [0,4,5,7,14] [_,_,_,_,_] rfl ?_);refine yC (zE (zB (zC 2 rfl (zK (zD [0,4,5,7,14,15] [_,_,_,_,_,_] rfl ?_)))));refine qL (b:=decide (((c.toNat:Int))=(116:Int))) rfl (fun h15_1=>?_) (fun h15_1=>?_)
  ·
   replace h15_1:=zJ h15_1
   exfalso;omega
  replace h15_1:=zH h15_1;refine zE (zB (zC 2 rfl (zK (zD [0,4,5,7,14,17] [_,_,_,_,_,_] rfl ?_))));refine qL (b:=decide (((c.toNat:Int))=(102:Int))) rfl (fun h17_1=>?_) (fun h17_1=>?_)
  ·
   replace h17_1:=zJ h17_1
   exfalso;omega
  replace h17_1:=zH h17_1;refine zE (zB (zC 2 rfl (zK (zD [0,4,5,7,14,19] [_,_,_,_,_,_] rfl ?_))));refine qL (b:=decide (((c.toNat:Int))=(80:Int))) rfl (fun h19=>?_) (fun h19=>?_)
  ·
   replace h19:=zJ h19;refine zE (jG yE (fun _ h=>h.drawn) (by kernel_rfl) ?_);refine zC 1 rfl (zM (v:=pt_ h) rfl rfl rfl (zR rfl rfl) ?_);refine zM rfl rfl rfl (zF rfl yW rfl qD rfl rfl) ?_;refine zM (v:=vS a) rfl rfl rfl (OpQ.loadHold (a:=a) 2 rfl qG qD rfl rfl) ?_;refine zC 1 rfl (zM (v:=i6_ (en4.getD (vI v) 0)) rfl rfl rfl (OpQ.callFn rfl rfl Tryz.call175 rfl zZ (fun w1 hw1=>at_ok en4 [v] _ _ p c vv _ _ _ 0 w1 (hw1.has 1 _ _ rfl).2 (hw1.has 0 _ _ rfl).2 ((vJ (qC (f:=[_,_,_]) (qO (f:=[_,_,_]) hw1)) hm).2) (RowB.row hR1 (qC (f:=[_,_,_]) (qO (f:=[_,_,_]) hw1))) (by simp) (by simpa using hv_v) hE.1)) ?_);refine zM (v:=bo_ (a.inSet (en4.getD (vI v) 0))) rfl rfl rfl (qH rfl Tryz.call90 rfl zZ (fun w1 hw1=>inSet_ok a (en4.getD (vI v) 0) w1 ha (by first | assumption | exact St.Els.at (by assumption) (by omega) (by omega)))) ?_;refine zC 1 rfl (zK (zD [6] [_] rfl ?_));refine qK (qT rfl rfl fun w' hw=>?_)
   exact ⟨K,ret_b (ev80 hc),hK,qC (f:=[_,_]) hw⟩
  replace h19:=zH h19
  exfalso;omega
 ·
  obtain ⟨vv,pv,hm0,hR10,hR20⟩:=hT
  have hm:=hts _ hm0
  have hR1:=hR10.more hts
  have hR2:=hR20.more hts
  have hwv:=(vI_lt hv_v).1
  have hx1:=hE.at hwv
  have hwu:=(vI_lt hv_u).1
  have hx2:=hE.at hwu;refine zB (zM rfl rfl rfl (zT 1 rfl xF rfl rfl rfl) ?_);refine zM (v:=ptrV p) rfl rfl rfl (zR rfl rfl) ?_;refine zM rfl rfl rfl (zF rfl zG rfl xB rfl rfl) ?_;refine zM (v:=.int .u8 ((c.toNat:Int))) rfl rfl rfl (qZ rfl xH rfl (fun w1 hw1=>cell_of ((vJ (qC (f:=[_,_,_]) (qO (f:=[_,_,_]) hw1)) hm).2) rfl)) ?_;refine zK (zD [0,4,5,7,14] [_,_,_,_,_] rfl ?_);refine yC (zE (zB (zC 2 rfl (zK (zD [0,4,5,7,14,15] [_,_,_,_,_,_] rfl ?_)))));refine qL (b:=decide (((c.toNat:Int))=(116:Int))) rfl (fun h15_2=>?_) (fun h15_2=>?_)
  ·
   replace h15_2:=zJ h15_2
   exfalso;omega
  replace h15_2:=zH h15_2;refine zE (zB (zC 2 rfl (zK (zD [0,4,5,7,14,17] [_,_,_,_,_,_] rfl ?_))));refine qL (b:=decide (((c.toNat:Int))=(102:Int))) rfl (fun h17_2=>?_) (fun h17_2=>?_)
  ·
   replace h17_2:=zJ h17_2
   exfalso;omega
  replace h17_2:=zH h17_2;refine zE (zB (zC 2 rfl (zK (zD [0,4,5,7,14,19] [_,_,_,_,_,_] rfl ?_))));refine qL (b:=decide (((c.toNat:Int))=(80:Int))) rfl (fun h19_1=>?_) (fun h19_1=>?_)
  ·
   replace h19_1:=zJ h19_1
   exfalso;omega
  replace h19_1:=zH h19_1;refine zE (zB (zC 2 rfl (zK (zD [0,4,5,7,14,28] [_,_,_,_,_,_] rfl ?_))));refine qL (b:=decide (((c.toNat:Int))=(61:Int))) rfl (fun h28=>?_) (fun h28=>?_)
  ·
   replace h28:=zJ h28;refine zE (zB (zC 1 rfl (zM (v:=i6_ (en4.getD (vI v) 0)) rfl rfl rfl (OpQ.callFn rfl rfl Tryz.call175 rfl zZ (fun w1 hw1=>at_ok en4 [v,u] _ _ p c vv _ _ _ 0 w1 (hw1.has 1 _ _ rfl).2 (hw1.has 0 _ _ rfl).2 ((vJ (qC (f:=[_,_,_]) (qO (f:=[_,_,_]) hw1)) hm).2) (RowB.row hR1 (qC (f:=[_,_,_]) (qO (f:=[_,_,_]) hw1))) (by simp) (by simpa using hv_v) hE.1)) ?_)));refine zC 1 rfl (zM (v:=i6_ (en4.getD (vI u) 0)) rfl rfl rfl (OpQ.callFn rfl rfl Tryz.call175 rfl zZ (fun w1 hw1=>at_ok en4 [v,u] _ _ p c vv _ _ _ 1 w1 (hw1.has 1 _ _ rfl).2 (hw1.has 0 _ _ rfl).2 ((vJ (qC (f:=[_,_,_]) (qO (f:=[_,_,_]) hw1)) hm).2) (RowB.row hR1 (qC (f:=[_,_,_]) (qO (f:=[_,_,_]) hw1))) (by simp) (by simpa using hv_u) hE.1)) ?_);refine zC 2 rfl (zK (zD [6] [_] rfl ?_));refine qK (qT rfl rfl fun w' hw=>?_)
   exact ⟨K,ret_b (ev_eq h28),hK,qC (f:=[_,_]) hw⟩
  replace h28:=zH h28;refine zE (zB (zC 2 rfl (zK (zD [0,4,5,7,14,35] [_,_,_,_,_,_] rfl ?_))));refine qL (b:=decide (((c.toNat:Int))=(69:Int))) rfl (fun h35=>?_) (fun h35=>?_)
  ·
   replace h35:=zJ h35;refine zE (jG yE (fun _ h=>h.drawn) (by kernel_rfl) ?_);refine zC 1 rfl (zM (v:=pt_ h) rfl rfl rfl (zR rfl rfl) ?_);refine zM rfl rfl rfl (zF rfl yW rfl qD rfl rfl) ?_;refine zM (v:=vS a) rfl rfl rfl (OpQ.loadHold (a:=a) 2 rfl qG qD rfl rfl) ?_;refine zC 1 rfl (zM (v:=i6_ (en4.getD (vI v) 0)) rfl rfl rfl (OpQ.callFn rfl rfl Tryz.call175 rfl zZ (fun w1 hw1=>at_ok en4 [v,u] _ _ p c vv _ _ _ 0 w1 (hw1.has 1 _ _ rfl).2 (hw1.has 0 _ _ rfl).2 ((vJ (qC (f:=[_,_,_]) (qO (f:=[_,_,_]) hw1)) hm).2) (RowB.row hR1 (qC (f:=[_,_,_]) (qO (f:=[_,_,_]) hw1))) (by simp) (by simpa using hv_v) hE.1)) ?_);refine zC 1 rfl (zM (v:=i6_ (en4.getD (vI u) 0)) rfl rfl rfl (OpQ.callFn rfl rfl Tryz.call175 rfl zZ (fun w1 hw1=>at_ok en4 [v,u] _ _ p c vv _ _ _ 1 w1 (hw1.has 1 _ _ rfl).2 (hw1.has 0 _ _ rfl).2 ((vJ (qC (f:=[_,_,_]) (qO (f:=[_,_,_]) hw1)) hm).2) (RowB.row hR1 (qC (f:=[_,_,_]) (qO (f:=[_,_,_]) hw1))) (by simp) (by simpa using hv_u) hE.1)) ?_);refine zM (v:=bo_ (a.inRel (en4.getD (vI v) 0) (en4.getD (vI u) 0))) rfl rfl rfl (qH rfl Tryz.call91 rfl zZ (fun w1 hw1=>inRel_ok a (en4.getD (vI v) 0) (en4.getD (vI u) 0) w1 ha (by first | assumption | exact St.Els.at (by assumption) (by omega) (by omega)) (by first | assumption | exact St.Els.at (by assumption) (by omega) (by omega)))) ?_;refine zC 1 rfl (zK (zD [6] [_] rfl ?_));refine qK (qT rfl rfl fun w' hw=>?_)
   exact ⟨K,ret_b (ev_rel h35),hK,qC (f:=[_,_]) hw⟩
  replace h35:=zH h35
  exfalso;omega
 ·
  obtain ⟨q1,⟨vv,pv,hm0,hR10,hR20⟩,hT1⟩:=hT
  have hm:=hts _ hm0
  have hR1:=hR10.more hts
  have hR2:=hR20.more hts;refine zB (zM rfl rfl rfl (zT 1 rfl xF rfl rfl rfl) ?_);refine zM (v:=ptrV p) rfl rfl rfl (zR rfl rfl) ?_;refine zM rfl rfl rfl (zF rfl zG rfl xB rfl rfl) ?_;refine zM (v:=.int .u8 ((c.toNat:Int))) rfl rfl rfl (qZ rfl xH rfl (fun w1 hw1=>cell_of ((vJ (qC (f:=[_,_,_]) (qO (f:=[_,_,_]) hw1)) hm).2) rfl)) ?_;refine zK (zD [0,4,5,7,14] [_,_,_,_,_] rfl ?_);refine yC (zE (zB (zC 2 rfl (zK (zD [0,4,5,7,14,15] [_,_,_,_,_,_] rfl ?_)))));refine qL (b:=decide (((c.toNat:Int))=(116:Int))) rfl (fun h15_3=>?_) (fun h15_3=>?_)
  ·
   replace h15_3:=zJ h15_3
   exfalso;omega
  replace h15_3:=zH h15_3;refine zE (zB (zC 2 rfl (zK (zD [0,4,5,7,14,17] [_,_,_,_,_,_] rfl ?_))));refine qL (b:=decide (((c.toNat:Int))=(102:Int))) rfl (fun h17_3=>?_) (fun h17_3=>?_)
  ·
   replace h17_3:=zJ h17_3
   exfalso;omega
  replace h17_3:=zH h17_3;refine zE (zB (zC 2 rfl (zK (zD [0,4,5,7,14,19] [_,_,_,_,_,_] rfl ?_))));refine qL (b:=decide (((c.toNat:Int))=(80:Int))) rfl (fun h19_2=>?_) (fun h19_2=>?_)
  ·
   replace h19_2:=zJ h19_2
   exfalso;omega
  replace h19_2:=zH h19_2;refine zE (zB (zC 2 rfl (zK (zD [0,4,5,7,14,28] [_,_,_,_,_,_] rfl ?_))));refine qL (b:=decide (((c.toNat:Int))=(61:Int))) rfl (fun h28_1=>?_) (fun h28_1=>?_)
  ·
   replace h28_1:=zJ h28_1
   exfalso;omega
  replace h28_1:=zH h28_1;refine zE (zB (zC 2 rfl (zK (zD [0,4,5,7,14,35] [_,_,_,_,_,_] rfl ?_))));refine qL (b:=decide (((c.toNat:Int))=(69:Int))) rfl (fun h35_1=>?_) (fun h35_1=>?_)
  ·
   replace h35_1:=zJ h35_1
   exfalso;omega
  replace h35_1:=zH h35_1;refine zE (zB (zC 2 rfl (zK (zD [0,4,5,14,46] [_,_,_,_,_] rfl ?_))));refine qL (b:=decide (((c.toNat:Int))=(33:Int))) rfl (fun h46=>?_) (fun h46=>?_)
  ·
   replace h46:=zJ h46;refine zE (jP (S:=Own B w0 (bk_ p5 ((ints en4).toArray) 116::bk_ p4 #[ptrV p] 61::bk_ h #[i6_ a.n,str a.set,str a.rel,.map (some M)] 147::hs)) [(0,true),(1,true),(7,true),(2,false),(3,true),(4,false),(5,true),(6,false),(8,false),(9,true),(10,true)] yE (fun _ h=>h.drawn) (by kernel_rfl) ?_);refine xZ 1 rfl (fun _ h=>qO (f:=[_,_,_]) h) ?_;refine yI rfl rfl rfl rfl rfl (zT 1 rfl xF rfl rfl rfl) (fun _ h=>qO (f:=[_,_,_]) h) ?_;refine yI rfl rfl rfl rfl rfl (qM (cs:=(ints en4).toArray) 0 rfl vD rfl rfl (by intro w;rw [show (ints en4).toArray.size=4 from by simp [hE4]];exact vA w)) (fun _ h=>qO (f:=[_,_,_]) h) ?_;refine yP rfl ?_;refine zX (v:=ptrV p) rfl rfl rfl (zR rfl rfl) ?_;refine zL (yH (fun _ h=>qO (f:=[_,_,_]) h) ?_);refine yI rfl rfl rfl rfl rfl (zF rfl zG rfl xJ rfl rfl) (fun _ h=>qO (f:=[_,_,_]) h) ?_;refine yP rfl ?_;refine zX (v:=pv) rfl rfl rfl (qZ rfl jV rfl (fun w1 hw1=>cell_of ((vJ (qC (f:=[_,_,_]) (qO (f:=[_,_,_]) hw1)) hm).2) rfl)) ?_;refine zL (yH (fun _ h=>qO (f:=[_,_,_]) h) ?_);refine yI (v:=.pointer (some (sAt pv 0))) rfl rfl rfl rfl rfl (xD rfl xO vK rfl rfl (by decide) (by simp) (fun w1 hw1=>RowB.row hR2 (qC (f:=[_,_,_]) hw1))) (fun _ h=>qO (f:=[_,_,_]) h) ?_;refine yP rfl ?_;refine zX (v:=ptrV q1) rfl rfl rfl (qZ rfl xF rfl (fun w1 hw1=>Row.cell (RowB.row hR2 (qC (f:=[_,_,_]) (qO (f:=[_,_,_]) hw1))) (by decide) (by simp))) ?_;refine zL (yH (fun _ h=>qO (f:=[_,_,_]) h) ?_);refine yP rfl ?_;refine vQ (ok:=fun K=>MemoOk 67 a ts K) (b:=ev a q en4) (xs:=[.tmp 48,.tmp 54,.tmp 55]) (vs:=[pt_ h,ptrV q1,.agg ((ints en4).toArray)]) ([bk_ p5 ((ints en4).toArray) 116,bk_ p4 #[ptrV p] 61]:List (Nat×Obj)) rfl rfl rfl rfl Tryz.call139 rfl (fun w1 hw1=>ih q (by first | exact Nat.lt_succ_self _ | exact Nat.lt_succ_of_le (Nat.le_add_right _ _) | exact Nat.lt_succ_of_le (Nat.le_add_left _ _)) hwf.2.2.2.2 B w0 _ ts h M K q1 en4 w1 (fun x hx=>List.mem_append_right _ (hts x hx)) hT1 hE hK hw1) fun K1 hM1=>?_
   show Ll _ _ (Own _ _ (_::_::_::(((M,mapP (memoK K1))::(memoB K1++hs))))) _ _ ((56,bo_ (ev a q en4))::_) _ _ _;refine zL (yH (fun _ h=>qO (f:=[_,_,_]) h) ?_);refine xZ 2 rfl (fun _ h=>qO (f:=[_,_,_]) h) ?_;refine vV ?_;refine zD [6] [_] rfl ?_;refine qK (qT rfl rfl fun w' hw=>?_)
   exact ⟨K1,ret_b (ev33 hc),hM1,qC (f:=[_,_]) hw⟩
  replace h46:=zH h46
  exfalso;omega
 ·
  obtain ⟨q1,⟨vv,pv,hm0,hR10,hR20⟩,hT1⟩:=hT
  have hm:=hts _ hm0
  have hR1:=hR10.more hts
  have hR2:=hR20.more hts
  have hwv:=(vI_lt hv_v).1;refine zB (zM rfl rfl rfl (zT 1 rfl xF rfl rfl rfl) ?_);refine zM (v:=ptrV p) rfl rfl rfl (zR rfl rfl) ?_;refine zM rfl rfl rfl (zF rfl zG rfl xB rfl rfl) ?_;refine zM (v:=.int .u8 ((c.toNat:Int))) rfl rfl rfl (qZ rfl xH rfl (fun w1 hw1=>cell_of ((vJ (qC (f:=[_,_,_]) (qO (f:=[_,_,_]) hw1)) hm).2) rfl)) ?_;refine zK (zD [0,4,5,7,14] [_,_,_,_,_] rfl ?_);refine yC (zE (zB (zC 2 rfl (zK (zD [0,4,5,7,14,15] [_,_,_,_,_,_] rfl ?_)))));refine qL (b:=decide (((c.toNat:Int))=(116:Int))) rfl (fun h15_4=>?_) (fun h15_4=>?_)
  ·
   replace h15_4:=zJ h15_4
   exfalso;unfold quI at *;omega
  replace h15_4:=zH h15_4;refine zE (zB (zC 2 rfl (zK (zD [0,4,5,7,14,17] [_,_,_,_,_,_] rfl ?_))));refine qL (b:=decide (((c.toNat:Int))=(102:Int))) rfl (fun h17_4=>?_) (fun h17_4=>?_)
  ·
   replace h17_4:=zJ h17_4
   exfalso;unfold quI at *;omega
  replace h17_4:=zH h17_4;refine zE (zB (zC 2 rfl (zK (zD [0,4,5,7,14,19] [_,_,_,_,_,_] rfl ?_))));refine qL (b:=decide (((c.toNat:Int))=(80:Int))) rfl (fun h19_3=>?_) (fun h19_3=>?_)
  ·
   replace h19_3:=zJ h19_3
   exfalso;unfold quI at *;omega
  replace h19_3:=zH h19_3;refine zE (zB (zC 2 rfl (zK (zD [0,4,5,7,14,28] [_,_,_,_,_,_] rfl ?_))));refine qL (b:=decide (((c.toNat:Int))=(61:Int))) rfl (fun h28_2=>?_) (fun h28_2=>?_)
  ·
   replace h28_2:=zJ h28_2
   exfalso;unfold quI at *;omega
  replace h28_2:=zH h28_2;refine zE (zB (zC 2 rfl (zK (zD [0,4,5,7,14,35] [_,_,_,_,_,_] rfl ?_))));refine qL (b:=decide (((c.toNat:Int))=(69:Int))) rfl (fun h35_2=>?_) (fun h35_2=>?_)
  ·
   replace h35_2:=zJ h35_2
   exfalso;unfold quI at *;omega
  replace h35_2:=zH h35_2;refine zE (zB (zC 2 rfl (zK (zD [0,4,5,14,46] [_,_,_,_,_] rfl ?_))));refine qL (b:=decide (((c.toNat:Int))=(33:Int))) rfl (fun h46_1=>?_) (fun h46_1=>?_)
  ·
   replace h46_1:=zJ h46_1
   exfalso;unfold quI at *;omega
  replace h46_1:=zH h46_1;refine zE (zB (zC 2 rfl (zK (zD [0,4,5,14,58] [_,_,_,_,_] rfl ?_))));refine qL (b:=decide (((c.toNat:Int))=(38:Int))) rfl (fun h58=>?_) (fun h58=>?_)
  ·
   replace h58:=zJ h58
   exfalso;unfold quI at *;omega
  replace h58:=zH h58;refine zE (zB (zC 2 rfl (zK (zD [0,4,5,80] [_,_,_,_] rfl ?_))));refine qL (b:=decide (((c.toNat:Int))=(124:Int))) rfl (fun h80=>?_) (fun h80=>?_)
  ·
   replace h80:=zJ h80
   exfalso;unfold quI at *;omega
  replace h80:=zH h80;refine qY (zD [0,4,5] [_,_,_] rfl ?_);refine zE (zB (zC 1 rfl (zK (zD [0,4,5,8] [_,_,_,_] rfl ?_))));refine zE (zE (zB (zC 1 rfl (zM (v:=pt_ h) rfl rfl rfl (zR rfl rfl) ?_))));refine zM rfl rfl rfl (zF rfl yW rfl qD rfl rfl) ?_;refine zM rfl rfl rfl (zF rfl zY rfl zN rfl rfl) ?_;refine zM rfl rfl rfl (zT 2 rfl qA rfl rfl rfl) ?_;refine zC 1 rfl (zK (zD [0,4,5,8,106,107] [_,_,_,_,_,_] rfl ?_));refine yC (jS (σ:=Nat×List Int×Memo) (fun ⟨x,E,K⟩=>(x:Int)≤a.n∧E.length=4∧(∀ z:Int,E.set (vI v) z=en4.set (vI v) z)∧MemoOk 67 a ts K) (fun ⟨x,E,K⟩=>[(0,pt_ h),(4,pt_ p4),(5,pt_ p5),(8,i6_ ((cntT (evC a v q en4) x:Int))),(106,i6_ a.n),(107,i6_ ((x:Int)))]) (fun ⟨x,E,K⟩=>Own B w0 (bk_ p5 ((ints E).toArray) 116::bk_ p4 #[ptrV p] 61::bk_ h #[i6_ a.n,str a.set,str a.rel,.map (some M)] 147::(((M,mapP (memoK K))::(memoB K++hs))))) (fun ⟨x,E,K⟩=>(a.n - x).toNat) ((0,en4,K)) ⟨by omega,hE.1,fun _=>rfl,hK⟩ (Sub.cons rfl (Sub.cons rfl (Sub.cons rfl (Sub.cons (by rfl) (Sub.sel [106,107] rfl))))) (fun _ h=>h) ?_)
  rintro ⟨x,E,K⟩ ⟨hx,hEl,hEs,hK⟩
  dsimp only
  have hcx:=cntT_le (evC a v q en4) x;refine zE (zB (zC 1 rfl (zK (zD [0,4,5,8,106,107,108] [_,_,_,_,_,_,_] rfl ?_))));refine zE (qL (b:=decide (((x:Int))<a.n)) rfl (fun h108=>?_) (fun h108=>?_))
  ·
   replace h108:=zJ h108;refine qY (zD [0,4,5,8,106,107] [_,_,_,_,_,_] rfl ?_);refine zE (yC (zE (zB (zC 2 rfl (zK (zD [0,4,5,8,9,106,107] [_,_,_,_,_,_,_] rfl ?_))))));refine zE (qU (zX rfl rfl rfl (zT 1 rfl xF rfl rfl rfl) ?_));refine zX (v:=ptrV p) rfl rfl rfl (zR rfl rfl) ?_;refine zX rfl rfl rfl (zF rfl zG rfl yF rfl rfl) ?_;refine zX (v:=vv) rfl rfl rfl (qZ rfl yZ rfl (fun w1 hw1=>cell_of ((vJ (qC (f:=[_,_,_]) (qO (f:=[_,_,_]) hw1)) hm).2) rfl)) ?_;refine zX (v:=.pointer (some (sAt vv 0))) rfl rfl rfl (xD rfl yN xB rfl rfl (by decide) (by simp) (fun w1 hw1=>RowB.row hR1 (qC (f:=[_,_,_]) (qO (f:=[_,_,_]) hw1)))) ?_;refine zX (v:=.int .u8 ((v.toNat:Int))) rfl rfl rfl (qZ rfl xH rfl (fun w1 hw1=>Row.u8 (RowB.row hR1 (qC (f:=[_,_,_]) (qO (f:=[_,_,_]) hw1))) (by decide) (by simp))) ?_;refine zX (v:=.int .u8 ((vI v:Int))) rfl rfl rfl (yO (by rw [vI_wrap hv_v]) (jU rfl rfl rfl)) ?_;refine qW 1 rfl (zX (v:=pf_ p5 (vI v)) rfl rfl rfl (yO (v':=pf_ p5 (vI v)) (by rfl) (vN (i:=(vI v:Int)) rfl Tryz.runUnderlying116 zN rfl rfl (by omega) (by omega))) ?_);refine qS (v:=i6_ ((x:Int))) (hs':=(bk_ p5 ((ints (E.set (vI v) ((x:Int)))).toArray) 116::_::_::(((M,mapP (memoK K))::(memoB K++hs))))) 0 rfl rfl rfl rfl rfl rfl zN rfl (by rw [List.size_toArray,ints_length];omega) (by first | (rw [ints_set];rfl) | (simp only [Nat.zero_add];rw [ints_set];rfl)) ?_;refine zL (zD [0,4,5,8,106,107] [_,_,_,_,_,_] rfl ?_);refine zE (jP (S:=Own B w0 (bk_ p5 ((ints (E.set (vI v) ((x:Int)))).toArray) 116::bk_ p4 #[ptrV p] 61::bk_ h #[i6_ a.n,str a.set,str a.rel,.map (some M)] 147::hs)) [(0,true),(1,true),(7,true),(2,false),(3,true),(4,false),(5,true),(6,false),(8,false)] yE (fun _ h=>h.drawn) (by kernel_rfl) ?_);refine xZ 1 rfl (fun _ h=>qO (f:=[_,_,_]) h) ?_;refine yI rfl rfl rfl rfl rfl (zT 1 rfl xF rfl rfl rfl) (fun _ h=>qO (f:=[_,_,_]) h) ?_;refine yI rfl rfl rfl rfl rfl (qM (cs:=(ints (E.set (vI v) ((x:Int)))).toArray) 0 rfl vD rfl rfl (by intro w;rw [show (ints (E.set (vI v) ((x:Int)))).toArray.size=4 from by simp [hEl]];exact vA w)) (fun _ h=>qO (f:=[_,_,_]) h) ?_;refine yP rfl ?_;refine zX (v:=ptrV p) rfl rfl rfl (zR rfl rfl) ?_;refine zL (yH (fun _ h=>qO (f:=[_,_,_]) h) ?_);refine yI rfl rfl rfl rfl rfl (zF rfl zG rfl xJ rfl rfl) (fun _ h=>qO (f:=[_,_,_]) h) ?_
   refine yP rfl ?_;refine zX (v:=pv) rfl rfl rfl (qZ rfl jV rfl (fun w1 hw1=>cell_of ((vJ (qC (f:=[_,_,_]) (qO (f:=[_,_,_]) hw1)) hm).2) rfl)) ?_;refine zL (yH (fun _ h=>qO (f:=[_,_,_]) h) ?_);refine yI (v:=.pointer (some (sAt pv 0))) rfl rfl rfl rfl rfl (xD rfl xO vK rfl rfl (by decide) (by simp) (fun w1 hw1=>RowB.row hR2 (qC (f:=[_,_,_]) hw1))) (fun _ h=>qO (f:=[_,_,_]) h) ?_;refine yP rfl ?_;refine zX (v:=ptrV q1) rfl rfl rfl (qZ rfl xF rfl (fun w1 hw1=>Row.cell (RowB.row hR2 (qC (f:=[_,_,_]) (qO (f:=[_,_,_]) hw1))) (by decide) (by simp))) ?_;refine zL (yH (fun _ h=>qO (f:=[_,_,_]) h) ?_);refine yP rfl ?_;refine vQ (ok:=fun K=>MemoOk 67 a ts K) (b:=ev a q (E.set (vI v) ((x:Int)))) (xs:=[.tmp 119,.tmp 125,.tmp 126]) (vs:=[pt_ h,ptrV q1,.agg ((ints (E.set (vI v) ((x:Int)))).toArray)]) ([bk_ p5 ((ints (E.set (vI v) ((x:Int)))).toArray) 116,bk_ p4 #[ptrV p] 61]:List (Nat×Obj)) rfl rfl rfl rfl Tryz.call139 rfl (fun w1 hw1=>ih q (by first | exact Nat.lt_succ_self _ | exact Nat.lt_succ_of_le (Nat.le_add_right _ _) | exact Nat.lt_succ_of_le (Nat.le_add_left _ _)) hwf.2.2.2.2 B w0 _ ts h M K q1 (E.set (vI v) ((x:Int))) w1 (fun x hx=>List.mem_append_right _ (hts x hx)) hT1 (by rw [hEs];exact hE.set ⟨by omega,by omega⟩) hK hw1) fun K1_1 hM1_1=>?_
   show Ll _ _ (Own _ _ (_::_::_::(((M,mapP (memoK K1_1))::(memoB K1_1++hs))))) _ _ ((127,bo_ (ev a q (E.set (vI v) ((x:Int)))))::_) _ _ _;refine zL (yH (fun _ h=>qO (f:=[_,_,_]) h) ?_);refine vV ?_;refine zD [0,4,5,8,106,107,127] [_,_,_,_,_,_,_] rfl ?_;refine qL (b:=ev a q (E.set (vI v) ((x:Int)))) rfl (fun h127=>?_) (fun h127=>?_)
   ·
    have hF:evC a v q en4 x=true:=evC_of hEs h127
    have hcs:=cnt_yes hF;refine zB (zC 1 rfl (zM rfl rfl rfl (qV rfl rfl rfl (by omega) (by omega)) ?_));refine zC 1 rfl (zK (zD [0,4,5,8,106,107] [_,_,_,_,_,_] rfl ?_));refine zB (zM rfl rfl rfl (qV rfl rfl rfl (by omega) (by omega)) ?_);refine zC 1 rfl (zK (yX ((x+1,E.set (vI v) ((x:Int)),K1_1)) ⟨by omega,by simp [hEl],fun z=>by rw [List.set_set];exact hEs z,hM1_1⟩ (by omega) (Sub.cons rfl (Sub.cons rfl (Sub.cons rfl (Sub.cons (by rw [← hcs];rfl) (Sub.sel [106,107] rfl))))) (fun _ h=>h)))
   have hF:evC a v q en4 x=false:=evC_of hEs (by simpa using h127)
   have hcs:=cnt_no hF;refine qY (zD [0,4,5,8,106,107] [_,_,_,_,_,_] rfl ?_);refine zB (zM rfl rfl rfl (qV rfl rfl rfl (by omega) (by omega)) ?_);refine zC 1 rfl (zK (yX ((x+1,E.set (vI v) ((x:Int)),K1_1)) ⟨by omega,by simp [hEl],fun z=>by rw [List.set_set];exact hEs z,hM1_1⟩ (by omega) (Sub.cons rfl (Sub.cons rfl (Sub.cons rfl (Sub.cons (by rw [hcs];rfl) (Sub.sel [106,107] rfl))))) (fun _ h=>h)))
  replace h108:=zH h108;refine xK rfl ?_;refine zD [0,4,8] [_,_,_] rfl ?_;refine zE (zE (zB (zM rfl rfl rfl (zT 1 rfl xF rfl rfl rfl) ?_)));refine zM (v:=ptrV p) rfl rfl rfl (zR rfl rfl) ?_;refine zM rfl rfl rfl (zF rfl zG rfl xB rfl rfl) ?_;refine zM (v:=.int .u8 ((c.toNat:Int))) rfl rfl rfl (qZ rfl xH rfl (fun w1 hw1=>cell_of ((vJ (qC (f:=[_,_,_]) (qO (f:=[_,_,_]) hw1)) hm).2) rfl)) ?_;refine zK (zD [0,4,8,134] [_,_,_,_] rfl ?_);refine yC (zE (zB (zC 2 rfl (zK (zD [0,4,8,134,135] [_,_,_,_,_] rfl ?_)))));refine qL (b:=decide (((c.toNat:Int))=(65:Int))) rfl (fun h135=>?_) (fun h135=>?_)
  ·
   replace h135:=zJ h135;refine zE (zB (zC 2 rfl (zM (v:=pt_ h) rfl rfl rfl (zR rfl rfl) ?_)));refine zM rfl rfl rfl (zF rfl yW rfl qD rfl rfl) ?_;refine zM rfl rfl rfl (zF rfl zY rfl zN rfl rfl) ?_;refine zM rfl rfl rfl (zT 2 rfl qA rfl rfl rfl) ?_;refine zC 2 rfl (zK (zD [6] [_] rfl ?_));refine qK (qT rfl rfl fun w' hw=>?_)
   exact ⟨K,ret_b (ev65 h135 (by omega)),hK,qC (f:=[_,_]) hw⟩
  replace h135:=zH h135;refine zE (zB (zC 2 rfl (zK (zD [4,8,144] [_,_,_] rfl ?_))));refine qL (b:=decide (((c.toNat:Int))=(83:Int))) rfl (fun h144=>?_) (fun h144=>?_)
  ·
   replace h144:=zJ h144;refine zE (zB (zC 3 rfl (zK (zD [6] [_] rfl ?_))));refine qK (qT rfl rfl fun w' hw=>?_)
   exact ⟨K,ret_b (ev83 h144 (by omega)),hK,qC (f:=[_,_]) hw⟩
  replace h144:=zH h144;refine qY (zD [4,8] [_,_] rfl ?_);refine zE (zB (zC 1 rfl (zM rfl rfl rfl (zT 1 rfl xF rfl rfl rfl) ?_)));refine zM (v:=ptrV p) rfl rfl rfl (zR rfl rfl) ?_;refine zM rfl rfl rfl (zF rfl zG rfl xB rfl rfl) ?_;refine zM (v:=.int .u8 ((c.toNat:Int))) rfl rfl rfl (qZ rfl xH rfl (fun w1 hw1=>cell_of ((vJ (qC (f:=[_,_,_]) (qO (f:=[_,_,_]) hw1)) hm).2) rfl)) ?_;refine zM (v:=.int .u8 ((c.toNat:Int) - 48)) rfl rfl rfl (yO (by rw [IntWalk.u8_in _ (by unfold quI at *;omega)]) (jU rfl rfl rfl)) ?_;refine zM (v:=i6_ ((c.toNat:Int) - 48)) rfl rfl rfl (jK .i64 rfl jJ yS rfl (IntWalk.i64_in _ (by have:=c.toNat_lt;omega))) ?_;refine zC 2 rfl (zK (zD [6] [_] rfl ?_));refine qK (qT rfl rfl fun w' hw=>?_)
  exact ⟨K,ret_b (ev234 hc h135 h144 (by omega)),hK,qC (f:=[_,_]) hw⟩
 obtain ⟨q1,q2,⟨vv,pv,hm0,hR10,hR20⟩,hT1,hT2⟩:=hT
 have hm:=hts _ hm0
 have hR1:=hR10.more hts
 have hR2:=hR20.more hts;refine zB (zM rfl rfl rfl (zT 1 rfl xF rfl rfl rfl) ?_);refine zM (v:=ptrV p) rfl rfl rfl (zR rfl rfl) ?_;refine zM rfl rfl rfl (zF rfl zG rfl xB rfl rfl) ?_;refine zM (v:=.int .u8 ((c.toNat:Int))) rfl rfl rfl (qZ rfl xH rfl (fun w1 hw1=>cell_of ((vJ (qC (f:=[_,_,_]) (qO (f:=[_,_,_]) hw1)) hm).2) rfl)) ?_;refine zK (zD [0,4,5,7,14] [_,_,_,_,_] rfl ?_);refine yC (zE (zB (zC 2 rfl (zK (zD [0,4,5,7,14,15] [_,_,_,_,_,_] rfl ?_)))));refine qL (b:=decide (((c.toNat:Int))=(116:Int))) rfl (fun h15_5=>?_) (fun h15_5=>?_)
 ·
  replace h15_5:=zJ h15_5
  exfalso;omega
 replace h15_5:=zH h15_5;refine zE (zB (zC 2 rfl (zK (zD [0,4,5,7,14,17] [_,_,_,_,_,_] rfl ?_))));refine qL (b:=decide (((c.toNat:Int))=(102:Int))) rfl (fun h17_5=>?_) (fun h17_5=>?_)
 ·
  replace h17_5:=zJ h17_5
  exfalso;omega
 replace h17_5:=zH h17_5;refine zE (zB (zC 2 rfl (zK (zD [0,4,5,7,14,19] [_,_,_,_,_,_] rfl ?_))));refine qL (b:=decide (((c.toNat:Int))=(80:Int))) rfl (fun h19_4=>?_) (fun h19_4=>?_)
 ·
  replace h19_4:=zJ h19_4
  exfalso;omega
 replace h19_4:=zH h19_4;refine zE (zB (zC 2 rfl (zK (zD [0,4,5,7,14,28] [_,_,_,_,_,_] rfl ?_))));refine qL (b:=decide (((c.toNat:Int))=(61:Int))) rfl (fun h28_3=>?_) (fun h28_3=>?_)
 ·
  replace h28_3:=zJ h28_3
  exfalso;omega
 replace h28_3:=zH h28_3;refine zE (zB (zC 2 rfl (zK (zD [0,4,5,7,14,35] [_,_,_,_,_,_] rfl ?_))));refine qL (b:=decide (((c.toNat:Int))=(69:Int))) rfl (fun h35_3=>?_) (fun h35_3=>?_)
 ·
  replace h35_3:=zJ h35_3
  exfalso;omega
 replace h35_3:=zH h35_3;refine zE (zB (zC 2 rfl (zK (zD [0,4,5,14,46] [_,_,_,_,_] rfl ?_))));refine qL (b:=decide (((c.toNat:Int))=(33:Int))) rfl (fun h46_2=>?_) (fun h46_2=>?_)
 ·
  replace h46_2:=zJ h46_2
  exfalso;omega
 replace h46_2:=zH h46_2;refine zE (zB (zC 2 rfl (zK (zD [0,4,5,14,58] [_,_,_,_,_] rfl ?_))));refine qL (b:=decide (((c.toNat:Int))=(38:Int))) rfl (fun h58_1=>?_) (fun h58_1=>?_)
 ·
  replace h58_1:=zJ h58_1;refine zE (jP (S:=Own B w0 (bk_ p5 ((ints en4).toArray) 116::bk_ p4 #[ptrV p] 61::bk_ h #[i6_ a.n,str a.set,str a.rel,.map (some M)] 147::hs)) [(0,true),(1,true),(7,true),(2,false),(3,true),(4,false),(5,true),(6,false),(8,false),(9,true),(10,true),(11,true),(17,true),(12,false),(13,true),(14,false),(15,true),(16,false),(18,false),(19,true),(20,true)] yE (fun _ h=>h.drawn) (by kernel_rfl) ?_);refine xZ 1 rfl (fun _ h=>qO (f:=[_,_,_]) h) ?_;refine yI rfl rfl rfl rfl rfl (zT 1 rfl xF rfl rfl rfl) (fun _ h=>qO (f:=[_,_,_]) h) ?_;refine yI rfl rfl rfl rfl rfl (qM (cs:=(ints en4).toArray) 0 rfl vD rfl rfl (by intro w;rw [show (ints en4).toArray.size=4 from by simp [hE4]];exact vA w)) (fun _ h=>qO (f:=[_,_,_]) h) ?_;refine yP rfl ?_;refine zX (v:=ptrV p) rfl rfl rfl (zR rfl rfl) ?_;refine zL (yH (fun _ h=>qO (f:=[_,_,_]) h) ?_);refine yI rfl rfl rfl rfl rfl (zF rfl zG rfl xJ rfl rfl) (fun _ h=>qO (f:=[_,_,_]) h) ?_;refine yP rfl ?_;refine zX (v:=pv) rfl rfl rfl (qZ rfl jV rfl (fun w1 hw1=>cell_of ((vJ (qC (f:=[_,_,_]) (qO (f:=[_,_,_]) hw1)) hm).2) rfl)) ?_;refine zL (yH (fun _ h=>qO (f:=[_,_,_]) h) ?_);refine yI (v:=.pointer (some (sAt pv 0))) rfl rfl rfl rfl rfl (xD rfl xO vK rfl rfl (by decide) (by simp) (fun w1 hw1=>RowB.row hR2 (qC (f:=[_,_,_]) hw1))) (fun _ h=>qO (f:=[_,_,_]) h) ?_;refine yP rfl ?_;refine zX (v:=ptrV q1) rfl rfl rfl (qZ rfl xF rfl (fun w1 hw1=>Row.cell (RowB.row hR2 (qC (f:=[_,_,_]) (qO (f:=[_,_,_]) hw1))) (by decide) (by simp))) ?_;refine zL (yH (fun _ h=>qO (f:=[_,_,_]) h) ?_);refine yP rfl ?_;refine vQ (ok:=fun K=>MemoOk 67 a ts K) (b:=ev a q en4) (xs:=[.tmp 60,.tmp 66,.tmp 67]) (vs:=[pt_ h,ptrV q1,.agg ((ints en4).toArray)]) ([bk_ p5 ((ints en4).toArray) 116,bk_ p4 #[ptrV p] 61]:List (Nat×Obj)) rfl rfl rfl rfl Tryz.call139 rfl (fun w1 hw1=>ih q (by first | exact Nat.lt_succ_self _ | exact Nat.lt_succ_of_le (Nat.le_add_right _ _) | exact Nat.lt_succ_of_le (Nat.le_add_left _ _)) hwf.2.2.2.1 B w0 _ ts h M K q1 en4 w1 (fun x hx=>List.mem_append_right _ (hts x hx)) hT1 hE hK hw1) fun K1_2 hM1_2=>?_
  show Ll _ _ (Own _ _ (_::_::_::(((M,mapP (memoK K1_2))::(memoB K1_2++hs))))) _ _ ((68,bo_ (ev a q en4))::_) _ _ _;refine zL (yH (fun _ h=>qO (f:=[_,_,_]) h) ?_);refine xZ 1 rfl (fun _ h=>qO (f:=[_,_,_]) h) ?_;refine Ld.bool fun b69 hg69=>?_
  cases b69
  ·
   skip;refine vR rfl rfl rfl rfl (fun _ h=>qO (f:=[_,_,_]) h) ?_;refine vR rfl rfl rfl rfl (fun _ h=>qO (f:=[_,_,_]) h) ?_;refine vR rfl rfl rfl rfl (fun _ h=>qO (f:=[_,_,_]) h) ?_;refine yP rfl ?_;refine vX rfl rfl rfl ?_;refine zL (yH (fun _ h=>qO (f:=[_,_,_]) h) ?_);refine vR rfl rfl rfl rfl (fun _ h=>qO (f:=[_,_,_]) h) ?_;refine yP rfl ?_;refine vX rfl rfl rfl ?_;refine zL (yH (fun _ h=>qO (f:=[_,_,_]) h) ?_);refine vR rfl rfl rfl rfl (fun _ h=>qO (f:=[_,_,_]) h) ?_;refine yP rfl ?_;refine vX rfl rfl rfl ?_;refine zL (yH (fun _ h=>qO (f:=[_,_,_]) h) ?_);refine yP rfl ?_;refine vX rfl rfl rfl ?_;refine zL (yH (fun _ h=>qO (f:=[_,_,_]) h) ?_);refine xZ 2 rfl (fun _ h=>qO (f:=[_,_,_]) h) ?_;refine vV ?_;refine zD [6] [_] rfl ?_;refine qK (qT rfl rfl fun w' hw=>?_)
   exact ⟨K1_2,ret_b (and_f (ev38 h58_1) hg69),hM1_2,qC (f:=[_,_]) hw⟩
  skip;refine xZ 1 rfl (fun _ h=>qO (f:=[_,_,_]) h) ?_;refine yI rfl rfl rfl rfl rfl (zT 1 rfl xF rfl rfl rfl) (fun _ h=>qO (f:=[_,_,_]) h) ?_;refine yI rfl rfl rfl rfl rfl (qM (cs:=(ints en4).toArray) 0 rfl vD rfl rfl (by intro w;rw [show (ints en4).toArray.size=4 from by simp [hE4]];exact vA w)) (fun _ h=>qO (f:=[_,_,_]) h) ?_;refine yP rfl ?_;refine zX (v:=ptrV p) rfl rfl rfl (zR rfl rfl) ?_;refine zL (yH (fun _ h=>qO (f:=[_,_,_]) h) ?_);refine yI rfl rfl rfl rfl rfl (zF rfl zG rfl xJ rfl rfl) (fun _ h=>qO (f:=[_,_,_]) h) ?_;refine yP rfl ?_;refine zX (v:=pv) rfl rfl rfl (qZ rfl jV rfl (fun w1 hw1=>cell_of ((vJ (qC (f:=[_,_,_]) (qO (f:=[_,_,_]) hw1)) hm).2) rfl)) ?_;refine zL (yH (fun _ h=>qO (f:=[_,_,_]) h) ?_);refine yI (v:=.pointer (some (sAt pv 1))) rfl rfl rfl rfl rfl (xD rfl xO vK rfl rfl (by decide) (by simp) (fun w1 hw1=>RowB.row hR2 (qC (f:=[_,_,_]) hw1))) (fun _ h=>qO (f:=[_,_,_]) h) ?_;refine yP rfl ?_;refine zX (v:=ptrV q2) rfl rfl rfl (qZ rfl xF rfl (fun w1 hw1=>Row.cell (RowB.row hR2 (qC (f:=[_,_,_]) (qO (f:=[_,_,_]) hw1))) (by decide) (by simp))) ?_;refine zL (yH (fun _ h=>qO (f:=[_,_,_]) h) ?_);refine yP rfl ?_;refine vQ (ok:=fun K=>MemoOk 67 a ts K) (b:=ev a r en4) (xs:=[.tmp 70,.tmp 76,.tmp 77]) (vs:=[pt_ h,ptrV q2,.agg ((ints en4).toArray)]) ([bk_ p5 ((ints en4).toArray) 116,bk_ p4 #[ptrV p] 61]:List (Nat×Obj)) rfl rfl rfl rfl Tryz.call139 rfl (fun w1 hw1=>ih r (by first | exact Nat.lt_succ_self _ | exact Nat.lt_succ_of_le (Nat.le_add_right _ _) | exact Nat.lt_succ_of_le (Nat.le_add_left _ _)) hwf.2.2.2.2 B w0 _ ts h M K1_2 q2 en4 w1 (fun x hx=>List.mem_append_right _ (hts x hx)) hT2 hE hM1_2 hw1) fun K1_3 hM1_3=>?_
  show Ll _ _ (Own _ _ (_::_::_::(((M,mapP (memoK K1_3))::(memoB K1_3++hs))))) _ _ ((78,bo_ (ev a r en4))::_) _ _ _;refine zL (yH (fun _ h=>qO (f:=[_,_,_]) h) ?_);refine xZ 2 rfl (fun _ h=>qO (f:=[_,_,_]) h) ?_;refine vV ?_;refine zD [6] [_] rfl ?_;refine qK (qT rfl rfl fun w' hw=>?_)
  exact ⟨K1_3,ret_b (and_t (ev38 h58_1) hg69),hM1_3,qC (f:=[_,_]) hw⟩
 replace h58_1:=zH h58_1;refine zE (zB (zC 2 rfl (zK (zD [0,4,5,80] [_,_,_,_] rfl ?_))));refine qL (b:=decide (((c.toNat:Int))=(124:Int))) rfl (fun h80_1=>?_) (fun h80_1=>?_)
 ·
  replace h80_1:=zJ h80_1;refine zE (jP (S:=Own B w0 (bk_ p5 ((ints en4).toArray) 116::bk_ p4 #[ptrV p] 61::bk_ h #[i6_ a.n,str a.set,str a.rel,.map (some M)] 147::hs)) [(0,true),(1,true),(7,true),(2,false),(3,true),(4,false),(5,true),(6,false),(8,false),(9,true),(10,true),(11,true),(17,true),(12,false),(13,true),(14,false),(15,true),(16,false),(18,false),(19,true),(20,true)] yE (fun _ h=>h.drawn) (by kernel_rfl) ?_);refine xZ 1 rfl (fun _ h=>qO (f:=[_,_,_]) h) ?_;refine yI rfl rfl rfl rfl rfl (zT 1 rfl xF rfl rfl rfl) (fun _ h=>qO (f:=[_,_,_]) h) ?_;refine yI rfl rfl rfl rfl rfl (qM (cs:=(ints en4).toArray) 0 rfl vD rfl rfl (by intro w;rw [show (ints en4).toArray.size=4 from by simp [hE4]];exact vA w)) (fun _ h=>qO (f:=[_,_,_]) h) ?_;refine yP rfl ?_;refine zX (v:=ptrV p) rfl rfl rfl (zR rfl rfl) ?_;refine zL (yH (fun _ h=>qO (f:=[_,_,_]) h) ?_);refine yI rfl rfl rfl rfl rfl (zF rfl zG rfl xJ rfl rfl) (fun _ h=>qO (f:=[_,_,_]) h) ?_;refine yP rfl ?_;refine zX (v:=pv) rfl rfl rfl (qZ rfl jV rfl (fun w1 hw1=>cell_of ((vJ (qC (f:=[_,_,_]) (qO (f:=[_,_,_]) hw1)) hm).2) rfl)) ?_;refine zL (yH (fun _ h=>qO (f:=[_,_,_]) h) ?_);refine yI (v:=.pointer (some (sAt pv 0))) rfl rfl rfl rfl rfl (xD rfl xO vK rfl rfl (by decide) (by simp) (fun w1 hw1=>RowB.row hR2 (qC (f:=[_,_,_]) hw1))) (fun _ h=>qO (f:=[_,_,_]) h) ?_;refine yP rfl ?_;refine zX (v:=ptrV q1) rfl rfl rfl (qZ rfl xF rfl (fun w1 hw1=>Row.cell (RowB.row hR2 (qC (f:=[_,_,_]) (qO (f:=[_,_,_]) hw1))) (by decide) (by simp))) ?_;refine zL (yH (fun _ h=>qO (f:=[_,_,_]) h) ?_);refine yP rfl ?_;refine vQ (ok:=fun K=>MemoOk 67 a ts K) (b:=ev a q en4) (xs:=[.tmp 82,.tmp 88,.tmp 89]) (vs:=[pt_ h,ptrV q1,.agg ((ints en4).toArray)]) ([bk_ p5 ((ints en4).toArray) 116,bk_ p4 #[ptrV p] 61]:List (Nat×Obj)) rfl rfl rfl rfl Tryz.call139 rfl (fun w1 hw1=>ih q (by first | exact Nat.lt_succ_self _ | exact Nat.lt_succ_of_le (Nat.le_add_right _ _) | exact Nat.lt_succ_of_le (Nat.le_add_left _ _)) hwf.2.2.2.1 B w0 _ ts h M K q1 en4 w1 (fun x hx=>List.mem_append_right _ (hts x hx)) hT1 hE hK hw1) fun K1_4 hM1_4=>?_
  show Ll _ _ (Own _ _ (_::_::_::(((M,mapP (memoK K1_4))::(memoB K1_4++hs))))) _ _ ((90,bo_ (ev a q en4))::_) _ _ _;refine zL (yH (fun _ h=>qO (f:=[_,_,_]) h) ?_);refine xZ 1 rfl (fun _ h=>qO (f:=[_,_,_]) h) ?_;refine Ld.bool fun b91 hg91=>?_
  cases b91
  ·
   skip;refine xZ 1 rfl (fun _ h=>qO (f:=[_,_,_]) h) ?_;refine yI rfl rfl rfl rfl rfl (zT 1 rfl xF rfl rfl rfl) (fun _ h=>qO (f:=[_,_,_]) h) ?_;refine yI rfl rfl rfl rfl rfl (qM (cs:=(ints en4).toArray) 0 rfl vD rfl rfl (by intro w;rw [show (ints en4).toArray.size=4 from by simp [hE4]];exact vA w)) (fun _ h=>qO (f:=[_,_,_]) h) ?_;refine yP rfl ?_;refine zX (v:=ptrV p) rfl rfl rfl (zR rfl rfl) ?_;refine zL (yH (fun _ h=>qO (f:=[_,_,_]) h) ?_);refine yI rfl rfl rfl rfl rfl (zF rfl zG rfl xJ rfl rfl) (fun _ h=>qO (f:=[_,_,_]) h) ?_;refine yP rfl ?_;refine zX (v:=pv) rfl rfl rfl (qZ rfl jV rfl (fun w1 hw1=>cell_of ((vJ (qC (f:=[_,_,_]) (qO (f:=[_,_,_]) hw1)) hm).2) rfl)) ?_;refine zL (yH (fun _ h=>qO (f:=[_,_,_]) h) ?_);refine yI (v:=.pointer (some (sAt pv 1))) rfl rfl rfl rfl rfl (xD rfl xO vK rfl rfl (by decide) (by simp) (fun w1 hw1=>RowB.row hR2 (qC (f:=[_,_,_]) hw1))) (fun _ h=>qO (f:=[_,_,_]) h) ?_;refine yP rfl ?_;refine zX (v:=ptrV q2) rfl rfl rfl (qZ rfl xF rfl (fun w1 hw1=>Row.cell (RowB.row hR2 (qC (f:=[_,_,_]) (qO (f:=[_,_,_]) hw1))) (by decide) (by simp))) ?_;refine zL (yH (fun _ h=>qO (f:=[_,_,_]) h) ?_);refine yP rfl ?_;refine vQ (ok:=fun K=>MemoOk 67 a ts K) (b:=ev a r en4) (xs:=[.tmp 92,.tmp 98,.tmp 99]) (vs:=[pt_ h,ptrV q2,.agg ((ints en4).toArray)]) ([bk_ p5 ((ints en4).toArray) 116,bk_ p4 #[ptrV p] 61]:List (Nat×Obj)) rfl rfl rfl rfl Tryz.call139 rfl (fun w1 hw1=>ih r (by first | exact Nat.lt_succ_self _ | exact Nat.lt_succ_of_le (Nat.le_add_right _ _) | exact Nat.lt_succ_of_le (Nat.le_add_left _ _)) hwf.2.2.2.2 B w0 _ ts h M K1_4 q2 en4 w1 (fun x hx=>List.mem_append_right _ (hts x hx)) hT2 hE hM1_4 hw1) fun K1_5 hM1_5=>?_
   show Ll _ _ (Own _ _ (_::_::_::(((M,mapP (memoK K1_5))::(memoB K1_5++hs))))) _ _ ((100,bo_ (ev a r en4))::_) _ _ _;refine zL (yH (fun _ h=>qO (f:=[_,_,_]) h) ?_);refine xZ 2 rfl (fun _ h=>qO (f:=[_,_,_]) h) ?_;refine vV ?_;refine zD [6] [_] rfl ?_;refine qK (qT rfl rfl fun w' hw=>?_)
   exact ⟨K1_5,ret_b (or_f (ev124 h80_1) hg91),hM1_5,qC (f:=[_,_]) hw⟩
  skip;refine vR rfl rfl rfl rfl (fun _ h=>qO (f:=[_,_,_]) h) ?_;refine vR rfl rfl rfl rfl (fun _ h=>qO (f:=[_,_,_]) h) ?_;refine vR rfl rfl rfl rfl (fun _ h=>qO (f:=[_,_,_]) h) ?_;refine yP rfl ?_;refine vX rfl rfl rfl ?_;refine zL (yH (fun _ h=>qO (f:=[_,_,_]) h) ?_);refine vR rfl rfl rfl rfl (fun _ h=>qO (f:=[_,_,_]) h) ?_;refine yP rfl ?_;refine vX rfl rfl rfl ?_;refine zL (yH (fun _ h=>qO (f:=[_,_,_]) h) ?_);refine vR rfl rfl rfl rfl (fun _ h=>qO (f:=[_,_,_]) h) ?_;refine yP rfl ?_;refine vX rfl rfl rfl ?_;refine zL (yH (fun _ h=>qO (f:=[_,_,_]) h) ?_);refine yP rfl ?_;refine vX rfl rfl rfl ?_;refine zL (yH (fun _ h=>qO (f:=[_,_,_]) h) ?_);refine xZ 2 rfl (fun _ h=>qO (f:=[_,_,_]) h) ?_;refine vV ?_;refine zD [6] [_] rfl ?_;refine qK (qT rfl rfl fun w' hw=>?_)
  exact ⟨K1_4,ret_b (or_t (ev124 h80_1) hg91),hM1_4,qC (f:=[_,_]) hw⟩
 replace h80_1:=zH h80_1
 exfalso;omega
set_option maxHeartbeats 1600000 in
/-- (*impl.holder).isTrue -/
theorem isTrue_step (a:St) (fm:Fm) (ha:a.Fine) (hwf:wfF fm) (hd:IsT 161 a fm) (B:Nat) (w0:World) (hs ts:List (Nat×Obj)) (h M:Nat) (K:Memo) (p:Nat) (en4:List Int) (w:World) (hts:∀ x∈ts,x∈hs) (hT:TreeB 67 ts fm p) (hE:EnvA a en4) (hK:MemoOk 67 a ts K) (hw:Own B w0 (memoF 147 h M a K hs) w) :
    Calls Tryz.prog 139 [pt_ h,ptrV p,.agg ((ints en4).toArray)].toArray w fun en w'=>∃ K',en=.returned (.bool (ev a fm en4))∧MemoOk 67 a ts K'∧Own B w0 (memoF 147 h M a K' hs) w':=by
 refine fnStartC (Own B w0 (bk_ h #[i6_ a.n,str a.set,str a.rel,.map (some M)] 147::((M,mapP (memoK K))::(memoB K++hs)))) (n:=72) (e:=[(0,pt_ h),(1,ptrV p),(2,.agg ((ints en4).toArray))]) Tryz.func139 rfl rfl rfl rfl Ends.both hw ?_
 have hE4:=hE.1
 have hfl:=frB_lt hwf
 obtain ⟨c,vs,ps,vv,pv,hm0,-,-⟩:=hT.node
 have hm:=hts _ hm0
 have hwr:Own B w0 hs w:=qC (f:=[_]) (qO (f:=[_]) hw);refine zE (qU (xR (v:=.agg ((ints en4).toArray)) rfl rfl rfl rfl rfl fun p5 hp5=>?_))
 show Ll _ _ (Own _ _ (_::_::(((M,mapP (memoK K))::(memoB K++hs))))) _ _ ((5,pt_ p5)::_) _ _ _;refine qW 1 rfl (zL (zD [0,1,5] [_,_,_] rfl ?_));refine zE (zB (zC 1 rfl (zK (zD [0,1,5,7] [_,_,_,_] rfl ?_))));refine zE (zE (zB (zM rfl rfl rfl (qM (cs:=(ints en4).toArray) 0 rfl vD rfl rfl (by intro w;rw [show (ints en4).toArray.size=4 from by simp [hE4]];exact vA w)) ?_)));refine zC 1 rfl (zK (zD [0,1,5,7,13,14] [_,_,_,_,_,_] rfl ?_));refine yC (jS (σ:=Nat) (fun i=>i≤4) (fun i=>[(0,pt_ h),(1,ptrV p),(5,pt_ p5),(7,i6_ ((kSum (frB fm) en4 i:Int))),(13,.agg ((ints en4).toArray)),(14,i6_ ((i:Int)))]) (fun i=>Own B w0 (bk_ p5 ((ints en4).toArray) 116::bk_ h #[i6_ a.n,str a.set,str a.rel,.map (some M)] 147::(((M,mapP (memoK K))::(memoB K++hs))))) (fun i=>4 - i) (0) (by omega) (Sub.cons rfl (Sub.cons rfl (Sub.cons rfl (Sub.cons (by rfl) (Sub.sel [13,14] rfl))))) (fun _ h=>h) ?_)
 rintro i hi5;refine zE (zB (zC 1 rfl (zK (zD [0,1,5,7,13,14,15] [_,_,_,_,_,_,_] rfl ?_))));refine zE (qL (b:=decide (((i:Int))<(4:Int))) rfl (fun h15=>?_) (fun h15=>?_))
 ·
  replace h15:=zJ h15
  have hi4:i<4:=by omega
  refine qY (zD [0,1,5,7,13,14] [_,_,_,_,_,_] rfl ?_);refine zE (yC (zE (zB (zC 1 rfl (zM (v:=i6_ (((en4.getD i 0).toNat:Int))) rfl rfl rfl (yO (by rw [Int.toNat_natCast,← (key_val hE ha hi4).1]) (OpQ.indexAgg (i:=(i:Int)) rfl Tryz.runUnderlying116 qA zN rfl rfl (by omega) (by omega) hE4)) ?_)))));refine zC 2 rfl (zK (zD [0,1,5,7,8,9,13,14] [_,_,_,_,_,_,_,_] rfl ?_));refine zE (zB (zC 1 rfl (zM (v:=ptrV p) rfl rfl rfl (zR rfl rfl) ?_)));refine zM rfl rfl rfl (zF rfl zG rfl zN rfl rfl) ?_;refine zM (v:=i6_ ((frB fm:Int))) rfl rfl rfl (qZ rfl qA rfl (fun w1 hw1=>cell_of ((vJ (qC (f:=[_,_]) (qO (f:=[_,_]) hw1)) hm).2) rfl)) ?_;refine zC 1 rfl (zM (v:=i6_ ((((frB fm) / 2 ^ i:Nat):Int))) rfl rfl rfl (OpQ.shr (a:=frB fm) (b:=i) rfl rfl rfl (by omega)) ?_);refine zM (v:=i6_ (((((frB fm) / 2 ^ i) &&& 1:Nat):Int))) rfl rfl rfl (OpQ.and (a:=(frB fm) / 2 ^ i) (b:=1) rfl rfl rfl (Nat.lt_of_le_of_lt (Nat.div_le_self _ _) (by omega)) (by decide)) ?_;refine zM (v:=bo_ ((frB fm).testBit i)) rfl rfl rfl (yO (by rw [bit_and]) (OpQ.eql rfl rfl rfl)) ?_;refine zK (zD [0,1,5,7,8,9,13,14,25] [_,_,_,_,_,_,_,_,_] rfl ?_);refine qL (b:=(frB fm).testBit i) rfl (fun h25=>?_) (fun h25=>?_)
  ·
   refine zB (zC 3 rfl (zM (v:=i6_ (((3*i:Nat):Int))) rfl rfl rfl (yO (by congr 1) (OpQ.mul rfl rfl rfl (by omega) (by omega))) ?_));refine zM (v:=i6_ (((((en4.getD i 0).toNat)*2 ^ (3*i):Nat):Int))) rfl rfl rfl (vG (a:=(en4.getD i 0).toNat) (b:=3*i) rfl rfl rfl (by omega) (shl_bound (key_val hE ha hi4).2 hi4)) ?_;refine zM (v:=i6_ ((((kSum (frB fm) en4 i) ||| (((en4.getD i 0).toNat)*2 ^ (3*i)):Nat):Int))) rfl rfl rfl (xL (a:=kSum (frB fm) en4 i) (b:=((en4.getD i 0).toNat)*2 ^ (3*i)) rfl rfl rfl (by have:=key_bound hE ha (b:=frB fm) (i:=i) (by omega);omega) (shl_bound (key_val hE ha hi4).2 hi4)) ?_;refine zC 1 rfl (zK (zD [0,1,5,7,13,14] [_,_,_,_,_,_] rfl ?_));refine zB (zM rfl rfl rfl (qV rfl rfl rfl (by omega) (by omega)) ?_);refine zC 1 rfl (zK (yX (i+1) (by omega) (by omega) (Sub.cons rfl (Sub.cons rfl (Sub.cons rfl (Sub.cons (by rw [← key_yes hE ha hi4 h25];rfl) (Sub.sel [13,14] rfl))))) (fun _ h=>h)))
  refine qY (zD [0,1,5,7,13,14] [_,_,_,_,_,_] rfl ?_);refine zB (zM rfl rfl rfl (qV rfl rfl rfl (by omega) (by omega)) ?_);refine zC 1 rfl (zK (yX (i+1) (by omega) (by omega) (Sub.cons rfl (Sub.cons rfl (Sub.cons rfl (Sub.cons (by rw [← key_no h25];rfl) (Sub.sel [13,14] rfl))))) (fun _ h=>h)))
 replace h15:=zH h15
 obtain rfl:i=4:=by omega
 refine xK rfl ?_;refine zD [0,1,5,7] [_,_,_,_] rfl ?_;refine zE (zE ?_)
 rcases memo_case3 K p (keyF fm en4) with hno | ⟨j,m,L,hj,hf,hnk⟩ | ⟨j,m,L,hj,hf,hnk⟩
 ·
  refine zB (zC 1 rfl (zM (v:=pt_ h) rfl rfl rfl (zR rfl rfl) ?_));refine zM rfl rfl rfl (zF rfl yW rfl jH rfl rfl) ?_;refine zM rfl rfl rfl (zT 1 rfl jQ rfl rfl rfl) ?_;refine zC 1 rfl (zM (v:=.map none) rfl rfl rfl (OpQ.lookP_no (K:=memoK K) 2 rfl xP yK jR (by decide) Tryz.zeroValue168 rfl rfl rfl hno (MemoOk.keys hK (fun x hx=>qN _ (qN _ (qN _ (List.mem_append_right _ (hts x hx)))))) (TreeB.key hT (fun x hx=>qN _ (qN _ (qN _ (List.mem_append_right _ (hts x hx))))))) ?_);refine zC 1 rfl (zM (v:=.tuple #[bo_ false,bo_ false]) rfl rfl rfl (OpQ.lookI_nil (k:=keyF fm en4) rfl jD yS Tryz.zeroValue4 rfl rfl) ?_);refine zC 1 rfl (zM (v:=bo_ false) rfl rfl rfl (qX rfl rfl rfl) ?_);refine zM (v:=bo_ false) rfl rfl rfl (qX rfl rfl rfl) ?_;refine zC 2 rfl (zK (zD [0,1,5,7,10,11] [_,_,_,_,_,_] rfl ?_));refine zE (zB (zC 1 rfl (zK (zD [0,1,5,7,10,44] [_,_,_,_,_,_] rfl ?_))));refine xQ rfl ?_;refine qY (zD [0,1,5,7] [_,_,_,_] rfl ?_);refine zE (qU (qW 2 rfl (zX rfl rfl rfl (qM (cs:=(ints en4).toArray) 0 rfl vD rfl rfl (by intro w;rw [show (ints en4).toArray.size=4 from by simp [hE4]];exact vA w)) ?_)));refine vQ (ok:=fun K=>MemoOk 67 a ts K) (b:=ev a fm en4) (xs:=[.tmp 46,.tmp 47,.tmp 48]) (vs:=[pt_ h,ptrV p,.agg ((ints en4).toArray)]) ([bk_ p5 ((ints en4).toArray) 116]:List (Nat×Obj)) rfl rfl rfl rfl Tryz.call161 rfl (fun w1 hw1=>hd B w0 _ ts h M K p en4 w1 (fun x hx=>List.mem_append_right _ (hts x hx)) hT hE hK hw1) fun K1 hM1=>?_
  show Ll _ _ (Own _ _ (_::_::(((M,mapP (memoK K1))::(memoB K1++hs))))) _ _ ((49,bo_ (ev a fm en4))::_) _ _ _;refine qW 1 rfl (zL (zD [0,1,7,12] [_,_,_,_] rfl ?_));refine zE (zE ?_)
  rcases memo_case K1 p with hno1 | ⟨j1,m1,L1,hj1,hf1⟩
  ·
   refine zB (zC 1 rfl (zM (v:=pt_ h) rfl rfl rfl (zR rfl rfl) ?_));refine zM rfl rfl rfl (zF rfl yW rfl jH rfl rfl) ?_;refine zM rfl rfl rfl (zT 1 rfl jQ rfl rfl rfl) ?_;refine zC 1 rfl (zM (v:=.map none) rfl rfl rfl (OpQ.lookP_no (K:=memoK K1) 2 rfl xP yK jR (by decide) Tryz.zeroValue168 rfl rfl rfl hno1 (MemoOk.keys hM1 (fun x hx=>qN _ (qN _ (qN _ (List.mem_append_right _ (hts x hx)))))) (TreeB.key hT (fun x hx=>qN _ (qN _ (qN _ (List.mem_append_right _ (hts x hx))))))) ?_);refine zM (v:=bo_ true) rfl rfl rfl (OpQ.eqNilM (p:=none) rfl jD rfl rfl) ?_;refine zK (zD [0,1,7,12,56] [_,_,_,_,_] rfl ?_);refine jF (σ:=Memo×Nat×Nat×List (Int×Bool)) (fun ⟨K3,j3,m3,L3⟩=>MemoOk 67 a ts K3∧K3[j3]?=some (p,m3,L3)∧∀ (q:Nat) (x:Nat×Nat),q<j3→(memoK K3)[q]?=some x→x.1 ≠ p) (fun ⟨K3,j3,m3,L3⟩=>[(0,pt_ h),(1,ptrV p),(7,i6_ (keyF fm en4)),(12,bo_ (ev a fm en4))]) (fun ⟨K3,j3,m3,L3⟩=>Own B w0 (bk_ p5 ((ints en4).toArray) 116::bk_ h #[i6_ a.n,str a.set,str a.rel,.map (some M)] 147::(((M,mapP (memoK K3))::(memoB K3++hs))))) ?_ ?_
   ·
    refine yQ rfl ?_;refine qU (qW 1 rfl (zX (v:=pt_ h) rfl rfl rfl (zR rfl rfl) ?_));refine zX rfl rfl rfl (zF rfl yW rfl jH rfl rfl) ?_;refine zX rfl rfl rfl (zT 1 rfl jQ rfl rfl rfl) ?_;refine qW 1 rfl (Ll.makeMapI rfl rfl rfl rfl fun m62 hm62=>?_)
    show Ll _ _ (Own _ _ (_::_::_::(((M,mapP (memoK K1))::(memoB K1++hs))))) _ _ ((62,.map (some m62))::_) _ _ _;refine Ll.mapSetP (K:=memoK K1) (m:=m62) 3 rfl rfl rfl xP yK jR (by decide) rfl rfl rfl rfl hno1 (MemoOk.keys hM1 (fun x hx=>qN _ (qN _ (qN _ (qN _ (List.mem_append_right _ (hts x hx))))))) (TreeB.key hT (fun x hx=>qN _ (qN _ (qN _ (qN _ (List.mem_append_right _ (hts x hx))))))) ?_
    show Ll _ _ (Own _ _ (_::_::_::(((M,mapP (memoK K1++[(p,m62)]))::(memoB K1++hs))))) _ _ _ _ _ _;refine zL (qQ ((K1++[(p,m62,[])],K1.length,m62,[])) ⟨MemoOk.add hM1 hT hwf,(memo_last hno1).1,(memo_last hno1).2⟩ (Sub.sel [0,1,7,12] rfl) (fun _ h=>h.perm (memo_new [_,_] _)))
   rintro ⟨K3,j3,m3,L3⟩ ⟨hK3,hj3,hf3⟩
   dsimp only;refine zD [0,1,7,12] [_,_,_,_] rfl ?_;refine zE (qU (qW 1 rfl (zX (v:=pt_ h) rfl rfl rfl (zR rfl rfl) ?_)));refine zX rfl rfl rfl (zF rfl yW rfl jH rfl rfl) ?_;refine zX rfl rfl rfl (zT 1 rfl jQ rfl rfl rfl) ?_;refine qW 1 rfl (zX (v:=.map (some m3)) rfl rfl rfl (vY (K:=memoK K3) 2 rfl xP yK jR (by decide) rfl rfl rfl (memoK_get hj3) hf3 (MemoOk.keys hK3 (fun x hx=>qN _ (qN _ (qN _ (List.mem_append_right _ (hts x hx))))))) ?_);refine qW 2 rfl (Ll.mapSetI (L:=L3) (k:=keyF fm en4) (b:=ev a fm en4) (j3+3) rfl rfl rfl jD yS rfl rfl rfl (memoB_at hj3) fun L2 hL2=>?_)
   rw [memo_set2 hj3]
   show Ll _ _ (Own _ _ (_::_::(((M,mapP (memoK (K3.set j3 (p,m3,L2))))::(memoB (K3.set j3 (p,m3,L2))++hs))))) _ _ _ _ _ _;refine zL (zD [12] [_] rfl ?_);refine zE (zB (zC 2 rfl (zK (zD [6] [_] rfl ?_))));refine qK (qT rfl rfl fun w' hw=>?_)
   exact ⟨(K3.set j3 (p,m3,L2)),rfl,MemoOk.set hK3 hts hwr hT hwf hE hj3 hL2,qC (f:=[_]) hw⟩
  refine zB (zC 1 rfl (zM (v:=pt_ h) rfl rfl rfl (zR rfl rfl) ?_));refine zM rfl rfl rfl (zF rfl yW rfl jH rfl rfl) ?_;refine zM rfl rfl rfl (zT 1 rfl jQ rfl rfl rfl) ?_;refine zC 1 rfl (zM (v:=.map (some m1)) rfl rfl rfl (vY (K:=memoK K1) 2 rfl xP yK jR (by decide) rfl rfl rfl (memoK_get hj1) hf1 (MemoOk.keys hM1 (fun x hx=>qN _ (qN _ (qN _ (List.mem_append_right _ (hts x hx))))))) ?_);refine zM (v:=bo_ false) rfl rfl rfl (OpQ.eqNilM (p:=some m1) rfl jD rfl rfl) ?_;refine zK (zD [0,1,7,12,56] [_,_,_,_,_] rfl ?_);refine jF (σ:=Memo×Nat×Nat×List (Int×Bool)) (fun ⟨K3,j3,m3,L3⟩=>MemoOk 67 a ts K3∧K3[j3]?=some (p,m3,L3)∧∀ (q:Nat) (x:Nat×Nat),q<j3→(memoK K3)[q]?=some x→x.1 ≠ p) (fun ⟨K3,j3,m3,L3⟩=>[(0,pt_ h),(1,ptrV p),(7,i6_ (keyF fm en4)),(12,bo_ (ev a fm en4))]) (fun ⟨K3,j3,m3,L3⟩=>Own B w0 (bk_ p5 ((ints en4).toArray) 116::bk_ h #[i6_ a.n,str a.set,str a.rel,.map (some M)] 147::(((M,mapP (memoK K3))::(memoB K3++hs))))) ?_ ?_
  ·
   refine xQ rfl ?_;refine qY (qQ ((K1,j1,m1,L1)) ⟨hM1,hj1,hf1⟩ (Sub.sel [0,1,7,12] rfl) (fun _ h=>h))
  rintro ⟨K3,j3,m3,L3⟩ ⟨hK3,hj3,hf3⟩
  dsimp only;refine zD [0,1,7,12] [_,_,_,_] rfl ?_;refine zE (qU (qW 1 rfl (zX (v:=pt_ h) rfl rfl rfl (zR rfl rfl) ?_)));refine zX rfl rfl rfl (zF rfl yW rfl jH rfl rfl) ?_;refine zX rfl rfl rfl (zT 1 rfl jQ rfl rfl rfl) ?_;refine qW 1 rfl (zX (v:=.map (some m3)) rfl rfl rfl (vY (K:=memoK K3) 2 rfl xP yK jR (by decide) rfl rfl rfl (memoK_get hj3) hf3 (MemoOk.keys hK3 (fun x hx=>qN _ (qN _ (qN _ (List.mem_append_right _ (hts x hx))))))) ?_);refine qW 2 rfl (Ll.mapSetI (L:=L3) (k:=keyF fm en4) (b:=ev a fm en4) (j3+3) rfl rfl rfl jD yS rfl rfl rfl (memoB_at hj3) fun L2 hL2=>?_)
  rw [memo_set2 hj3]
  show Ll _ _ (Own _ _ (_::_::(((M,mapP (memoK (K3.set j3 (p,m3,L2))))::(memoB (K3.set j3 (p,m3,L2))++hs))))) _ _ _ _ _ _;refine zL (zD [12] [_] rfl ?_);refine zE (zB (zC 2 rfl (zK (zD [6] [_] rfl ?_))));refine qK (qT rfl rfl fun w' hw=>?_)
  exact ⟨(K3.set j3 (p,m3,L2)),rfl,MemoOk.set hK3 hts hwr hT hwf hE hj3 hL2,qC (f:=[_]) hw⟩
 ·
  refine zB (zC 1 rfl (zM (v:=pt_ h) rfl rfl rfl (zR rfl rfl) ?_));refine zM rfl rfl rfl (zF rfl yW rfl jH rfl rfl) ?_;refine zM rfl rfl rfl (zT 1 rfl jQ rfl rfl rfl) ?_;refine zC 1 rfl (zM (v:=.map (some m)) rfl rfl rfl (vY (K:=memoK K) 2 rfl xP yK jR (by decide) rfl rfl rfl (memoK_get hj) hf (MemoOk.keys hK (fun x hx=>qN _ (qN _ (qN _ (List.mem_append_right _ (hts x hx))))))) ?_);refine zC 1 rfl (zM (v:=.tuple #[bo_ false,bo_ false]) rfl rfl rfl (OpQ.lookI_no (L:=L) (k:=keyF fm en4) (j+3) rfl jD yS Tryz.zeroValue4 rfl rfl (memoB_at hj) hnk) ?_);refine zC 1 rfl (zM (v:=bo_ false) rfl rfl rfl (qX rfl rfl rfl) ?_);refine zM (v:=bo_ false) rfl rfl rfl (qX rfl rfl rfl) ?_;refine zC 2 rfl (zK (zD [0,1,5,7,10,11] [_,_,_,_,_,_] rfl ?_));refine zE (zB (zC 1 rfl (zK (zD [0,1,5,7,10,44] [_,_,_,_,_,_] rfl ?_))));refine xQ rfl ?_;refine qY (zD [0,1,5,7] [_,_,_,_] rfl ?_);refine zE (qU (qW 2 rfl (zX rfl rfl rfl (qM (cs:=(ints en4).toArray) 0 rfl vD rfl rfl (by intro w;rw [show (ints en4).toArray.size=4 from by simp [hE4]];exact vA w)) ?_)));refine vQ (ok:=fun K=>MemoOk 67 a ts K) (b:=ev a fm en4) (xs:=[.tmp 46,.tmp 47,.tmp 48]) (vs:=[pt_ h,ptrV p,.agg ((ints en4).toArray)]) ([bk_ p5 ((ints en4).toArray) 116]:List (Nat×Obj)) rfl rfl rfl rfl Tryz.call161 rfl (fun w1 hw1=>hd B w0 _ ts h M K p en4 w1 (fun x hx=>List.mem_append_right _ (hts x hx)) hT hE hK hw1) fun K1_1 hM1_1=>?_
  show Ll _ _ (Own _ _ (_::_::(((M,mapP (memoK K1_1))::(memoB K1_1++hs))))) _ _ ((49,bo_ (ev a fm en4))::_) _ _ _;refine qW 1 rfl (zL (zD [0,1,7,12] [_,_,_,_] rfl ?_));refine zE (zE ?_)
  rcases memo_case K1_1 p with hno1 | ⟨j1,m1,L1,hj1,hf1⟩
  ·
   refine zB (zC 1 rfl (zM (v:=pt_ h) rfl rfl rfl (zR rfl rfl) ?_));refine zM rfl rfl rfl (zF rfl yW rfl jH rfl rfl) ?_;refine zM rfl rfl rfl (zT 1 rfl jQ rfl rfl rfl) ?_;refine zC 1 rfl (zM (v:=.map none) rfl rfl rfl (OpQ.lookP_no (K:=memoK K1_1) 2 rfl xP yK jR (by decide) Tryz.zeroValue168 rfl rfl rfl hno1 (MemoOk.keys hM1_1 (fun x hx=>qN _ (qN _ (qN _ (List.mem_append_right _ (hts x hx)))))) (TreeB.key hT (fun x hx=>qN _ (qN _ (qN _ (List.mem_append_right _ (hts x hx))))))) ?_);refine zM (v:=bo_ true) rfl rfl rfl (OpQ.eqNilM (p:=none) rfl jD rfl rfl) ?_;refine zK (zD [0,1,7,12,56] [_,_,_,_,_] rfl ?_);refine jF (σ:=Memo×Nat×Nat×List (Int×Bool)) (fun ⟨K3,j3,m3,L3⟩=>MemoOk 67 a ts K3∧K3[j3]?=some (p,m3,L3)∧∀ (q:Nat) (x:Nat×Nat),q<j3→(memoK K3)[q]?=some x→x.1 ≠ p) (fun ⟨K3,j3,m3,L3⟩=>[(0,pt_ h),(1,ptrV p),(7,i6_ (keyF fm en4)),(12,bo_ (ev a fm en4))]) (fun ⟨K3,j3,m3,L3⟩=>Own B w0 (bk_ p5 ((ints en4).toArray) 116::bk_ h #[i6_ a.n,str a.set,str a.rel,.map (some M)] 147::(((M,mapP (memoK K3))::(memoB K3++hs))))) ?_ ?_
   ·
    refine yQ rfl ?_;refine qU (qW 1 rfl (zX (v:=pt_ h) rfl rfl rfl (zR rfl rfl) ?_));refine zX rfl rfl rfl (zF rfl yW rfl jH rfl rfl) ?_;refine zX rfl rfl rfl (zT 1 rfl jQ rfl rfl rfl) ?_;refine qW 1 rfl (Ll.makeMapI rfl rfl rfl rfl fun m62_1 hm62_1=>?_)
    show Ll _ _ (Own _ _ (_::_::_::(((M,mapP (memoK K1_1))::(memoB K1_1++hs))))) _ _ ((62,.map (some m62_1))::_) _ _ _;refine Ll.mapSetP (K:=memoK K1_1) (m:=m62_1) 3 rfl rfl rfl xP yK jR (by decide) rfl rfl rfl rfl hno1 (MemoOk.keys hM1_1 (fun x hx=>qN _ (qN _ (qN _ (qN _ (List.mem_append_right _ (hts x hx))))))) (TreeB.key hT (fun x hx=>qN _ (qN _ (qN _ (qN _ (List.mem_append_right _ (hts x hx))))))) ?_
    show Ll _ _ (Own _ _ (_::_::_::(((M,mapP (memoK K1_1++[(p,m62_1)]))::(memoB K1_1++hs))))) _ _ _ _ _ _;refine zL (qQ ((K1_1++[(p,m62_1,[])],K1_1.length,m62_1,[])) ⟨MemoOk.add hM1_1 hT hwf,(memo_last hno1).1,(memo_last hno1).2⟩ (Sub.sel [0,1,7,12] rfl) (fun _ h=>h.perm (memo_new [_,_] _)))
   rintro ⟨K3,j3,m3,L3⟩ ⟨hK3,hj3,hf3⟩
   dsimp only;refine zD [0,1,7,12] [_,_,_,_] rfl ?_;refine zE (qU (qW 1 rfl (zX (v:=pt_ h) rfl rfl rfl (zR rfl rfl) ?_)));refine zX rfl rfl rfl (zF rfl yW rfl jH rfl rfl) ?_;refine zX rfl rfl rfl (zT 1 rfl jQ rfl rfl rfl) ?_;refine qW 1 rfl (zX (v:=.map (some m3)) rfl rfl rfl (vY (K:=memoK K3) 2 rfl xP yK jR (by decide) rfl rfl rfl (memoK_get hj3) hf3 (MemoOk.keys hK3 (fun x hx=>qN _ (qN _ (qN _ (List.mem_append_right _ (hts x hx))))))) ?_);refine qW 2 rfl (Ll.mapSetI (L:=L3) (k:=keyF fm en4) (b:=ev a fm en4) (j3+3) rfl rfl rfl jD yS rfl rfl rfl (memoB_at hj3) fun L2 hL2=>?_)
   rw [memo_set2 hj3]
   show Ll _ _ (Own _ _ (_::_::(((M,mapP (memoK (K3.set j3 (p,m3,L2))))::(memoB (K3.set j3 (p,m3,L2))++hs))))) _ _ _ _ _ _;refine zL (zD [12] [_] rfl ?_);refine zE (zB (zC 2 rfl (zK (zD [6] [_] rfl ?_))));refine qK (qT rfl rfl fun w' hw=>?_)
   exact ⟨(K3.set j3 (p,m3,L2)),rfl,MemoOk.set hK3 hts hwr hT hwf hE hj3 hL2,qC (f:=[_]) hw⟩
  refine zB (zC 1 rfl (zM (v:=pt_ h) rfl rfl rfl (zR rfl rfl) ?_));refine zM rfl rfl rfl (zF rfl yW rfl jH rfl rfl) ?_;refine zM rfl rfl rfl (zT 1 rfl jQ rfl rfl rfl) ?_;refine zC 1 rfl (zM (v:=.map (some m1)) rfl rfl rfl (vY (K:=memoK K1_1) 2 rfl xP yK jR (by decide) rfl rfl rfl (memoK_get hj1) hf1 (MemoOk.keys hM1_1 (fun x hx=>qN _ (qN _ (qN _ (List.mem_append_right _ (hts x hx))))))) ?_);refine zM (v:=bo_ false) rfl rfl rfl (OpQ.eqNilM (p:=some m1) rfl jD rfl rfl) ?_;refine zK (zD [0,1,7,12,56] [_,_,_,_,_] rfl ?_);refine jF (σ:=Memo×Nat×Nat×List (Int×Bool)) (fun ⟨K3,j3,m3,L3⟩=>MemoOk 67 a ts K3∧K3[j3]?=some (p,m3,L3)∧∀ (q:Nat) (x:Nat×Nat),q<j3→(memoK K3)[q]?=some x→x.1 ≠ p) (fun ⟨K3,j3,m3,L3⟩=>[(0,pt_ h),(1,ptrV p),(7,i6_ (keyF fm en4)),(12,bo_ (ev a fm en4))]) (fun ⟨K3,j3,m3,L3⟩=>Own B w0 (bk_ p5 ((ints en4).toArray) 116::bk_ h #[i6_ a.n,str a.set,str a.rel,.map (some M)] 147::(((M,mapP (memoK K3))::(memoB K3++hs))))) ?_ ?_
  ·
   refine xQ rfl ?_;refine qY (qQ ((K1_1,j1,m1,L1)) ⟨hM1_1,hj1,hf1⟩ (Sub.sel [0,1,7,12] rfl) (fun _ h=>h))
  rintro ⟨K3,j3,m3,L3⟩ ⟨hK3,hj3,hf3⟩
  dsimp only;refine zD [0,1,7,12] [_,_,_,_] rfl ?_;refine zE (qU (qW 1 rfl (zX (v:=pt_ h) rfl rfl rfl (zR rfl rfl) ?_)));refine zX rfl rfl rfl (zF rfl yW rfl jH rfl rfl) ?_;refine zX rfl rfl rfl (zT 1 rfl jQ rfl rfl rfl) ?_;refine qW 1 rfl (zX (v:=.map (some m3)) rfl rfl rfl (vY (K:=memoK K3) 2 rfl xP yK jR (by decide) rfl rfl rfl (memoK_get hj3) hf3 (MemoOk.keys hK3 (fun x hx=>qN _ (qN _ (qN _ (List.mem_append_right _ (hts x hx))))))) ?_);refine qW 2 rfl (Ll.mapSetI (L:=L3) (k:=keyF fm en4) (b:=ev a fm en4) (j3+3) rfl rfl rfl jD yS rfl rfl rfl (memoB_at hj3) fun L2 hL2=>?_)
  rw [memo_set2 hj3]
  show Ll _ _ (Own _ _ (_::_::(((M,mapP (memoK (K3.set j3 (p,m3,L2))))::(memoB (K3.set j3 (p,m3,L2))++hs))))) _ _ _ _ _ _;refine zL (zD [12] [_] rfl ?_);refine zE (zB (zC 2 rfl (zK (zD [6] [_] rfl ?_))));refine qK (qT rfl rfl fun w' hw=>?_)
  exact ⟨(K3.set j3 (p,m3,L2)),rfl,MemoOk.set hK3 hts hwr hT hwf hE hj3 hL2,qC (f:=[_]) hw⟩
 refine zB (zC 1 rfl (zM (v:=pt_ h) rfl rfl rfl (zR rfl rfl) ?_));refine zM rfl rfl rfl (zF rfl yW rfl jH rfl rfl) ?_;refine zM rfl rfl rfl (zT 1 rfl jQ rfl rfl rfl) ?_;refine zC 1 rfl (zM (v:=.map (some m)) rfl rfl rfl (vY (K:=memoK K) 2 rfl xP yK jR (by decide) rfl rfl rfl (memoK_get hj) hf (MemoOk.keys hK (fun x hx=>qN _ (qN _ (qN _ (List.mem_append_right _ (hts x hx))))))) ?_);refine zC 1 rfl (zM (v:=.tuple #[bo_ (ev a fm en4),bo_ true]) rfl rfl rfl (OpQ.lookI_at (L:=L) (k:=keyF fm en4) (b:=ev a fm en4) (j+3) rfl jD yS rfl rfl (memoB_at hj) hnk (memo_ev ha hK hts hwr hT hwf hE hj)) ?_);refine zC 1 rfl (zM (v:=bo_ (ev a fm en4)) rfl rfl rfl (qX rfl rfl rfl) ?_);refine zM (v:=bo_ true) rfl rfl rfl (qX rfl rfl rfl) ?_;refine zC 2 rfl (zK (zD [0,1,5,7,10,11] [_,_,_,_,_,_] rfl ?_));refine zE (zB (zC 1 rfl (zK (zD [0,1,5,7,10,44] [_,_,_,_,_,_] rfl ?_))));refine yQ rfl ?_;refine zE (zB (zC 2 rfl (zK (zD [6] [_] rfl ?_))));refine qK (qT rfl rfl fun w' hw=>?_)
 exact ⟨K,rfl,hK,qC (f:=[_]) hw⟩
theorem isTrue_ok (a:St) (fm:Fm) (ha:a.Fine) (hwf:wfF fm):IsT 139 a fm:=by
  have key:∀ (m:Nat) (fm:Fm),szF fm≤m→wfF fm→IsT 139 a fm:=fun m=>by
    induction m with
    | zero=>exact fun fm h1 h2 B w0 hs ts h M K p en4 w=>isTrue_step a fm ha h2 (fun B w0 hs ts h M K p en4 w=>decide_step a fm ha h2 (fun fm2 h3=>absurd h3 (by omega)) B w0 hs ts h M K p en4 w) B w0 hs ts h M K p en4 w
    | succ m ih=>exact fun fm h1 h2 B w0 hs ts h M K p en4 w=>isTrue_step a fm ha h2 (fun B w0 hs ts h M K p en4 w=>decide_step a fm ha h2 (fun fm2 h3 h4=>ih fm2 (by omega) h4) B w0 hs ts h M K p en4 w) B w0 hs ts h M K p en4 w
  exact key _ fm (Nat.le_refl _) hwf
end Go.Proofs.YtefiibghfgfdnaaGreatDoor
namespace Go.Proofs.YtefiibghfgfdnaaGreatDoor
open Go.RowKit Go.Wk
set_option linter.unusedSimpArgs false
set_option maxHeartbeats 400000 in
/-- (*impl.formula).rank -/
theorem rankP_step (fm:Fm) (p:Nat) (w:World) (hT:Tree 67 w fm p) (hwf:wfF fm) (hr:rankF fm≤2000000) (ih:∀ (fm2:Fm) (p2:Nat) (w2:World),szF fm2<szF fm→Tree 67 w2 fm2 p2→wfF fm2→rankF fm2≤2000000→Calls Tryz.prog 46 #[ptrV p2] w2 fun en w'=>en=.returned (.int .i64 (rankF fm2:Int))∧Below w2.heap.size w2 w') :
    Calls Tryz.prog 46 [ptrV p].toArray w fun en w'=>en=.returned (.int .i64 (rankF fm:Int))∧Below w.heap.size w w':=by
 refine fnStart (n:=37) (e:=[(0,ptrV p)]) Tryz.func46 rfl rfl rfl rfl Ends.both ?_;refine zE (zB (zC 1 rfl (zK (zD [0] [_] rfl ?_))));refine zE (zB (zC 1 rfl (zK (zD [0,3] [_,_] rfl ?_))));refine zE (zE ?_)
 rcases fm with ⟨c,vs⟩ | ⟨c,vs,q⟩ | ⟨c,q,r⟩
 ·
  obtain ⟨vv,pv,h1,h2,h3⟩:=hT
  have hlt:=leaf_letter hwf;refine zB (zC 1 rfl (zM (v:=.pointer (some ⟨p,0,none⟩)) rfl rfl rfl (zR rfl rfl) ?_));refine zM rfl rfl rfl (zF rfl zG rfl xJ rfl rfl) ?_;refine zM (v:=pv) rfl rfl rfl (qZ rfl jV rfl (fun w1 hw1=>at_box h1 hw1 2 rfl)) ?_;refine zM (v:=i6_ 0) rfl rfl rfl (xG (k:=0) rfl xO rfl rfl (fun w1 hw1=>h3.own hw1)) ?_;refine zC 1 rfl (zK (zD [0,3,9,10,11] [_,_,_,_,_] rfl ?_));refine yC (vH 3 ?_);refine zE (zB (zC 1 rfl (zK (zD [0,3,9,10,11,12] [_,_,_,_,_,_] rfl ?_))));refine zE (xQ rfl ?_);refine xK rfl ?_;refine zD [0,3] [_,_] rfl ?_;refine zE (yC (zE (zB (zC 1 rfl (zM (v:=bo_ (decide (((c).toNat:Int)=50∨((c).toNat:Int)=51∨((c).toNat:Int)=52))) rfl rfl rfl (qH rfl Tryz.call96 rfl zZ (fun w1 hw1=>isCount_ok _ _ c _ _ _ _ w1 (heap_own h1 hw1))) ?_)))));refine zC 1 rfl (zK (zD [0,3,20] [_,_,_] rfl ?_));refine qL (b:=decide (((c).toNat:Int)=50∨((c).toNat:Int)=51∨((c).toNat:Int)=52)) rfl (fun h20=>?_) (fun h20=>?_)
  ·
   replace h20:=zJ h20
   exact absurd h20 hlt.2
  replace h20:=zH h20;refine zE (zB (zC 1 rfl (zM (v:=bo_ (decide (quI ((c).toNat:Int)))) rfl rfl rfl (qH rfl vW rfl zZ (fun w1 hw1=>isQuant_ok _ _ c _ _ _ _ w1 (heap_own h1 hw1))) ?_)));refine zC 1 rfl (zK (zD [3,31] [_,_] rfl ?_));refine qL (b:=decide (quI ((c).toNat:Int))) rfl (fun h31=>?_) (fun h31=>?_)
  ·
   replace h31:=zJ h31
   exact absurd h31 hlt.1
  replace h31:=zH h31;refine qY (zD [3] [_] rfl ?_);refine zE (zB (zC 2 rfl (zK (zD [2] [_] rfl ?_))));refine qK (qT rfl rfl fun w' hw=>?_)
  exact ⟨rfl,hw.below⟩
 ·
  obtain ⟨q1,⟨vv,pv,h1,h2,h3⟩,hT1⟩:=hT
  have hr1:=rank_sub1 (c:=c) (vs:=vs) (q:=q)
  have hc8:=c.toNat_lt;refine zB (zC 1 rfl (zM (v:=.pointer (some ⟨p,0,none⟩)) rfl rfl rfl (zR rfl rfl) ?_));refine zM rfl rfl rfl (zF rfl zG rfl xJ rfl rfl) ?_;refine zM (v:=pv) rfl rfl rfl (qZ rfl jV rfl (fun w1 hw1=>at_box h1 hw1 2 rfl)) ?_;refine zM (v:=i6_ 1) rfl rfl rfl (xG (k:=1) rfl xO rfl rfl (fun w1 hw1=>h3.own hw1)) ?_;refine zC 1 rfl (zK (zD [0,3,9,10,11] [_,_,_,_,_] rfl ?_));refine yC (vH 3 ?_);refine zE (zB (zC 1 rfl (zK (zD [0,3,9,10,11,12] [_,_,_,_,_,_] rfl ?_))));refine zE (yQ rfl ?_);refine qY (zD [0,3,9,10,11] [_,_,_,_,_] rfl ?_);refine zE (yC (zE (zB (zM (v:=.pointer (some (sAt pv 0))) rfl rfl rfl (xD rfl xO vK rfl rfl (by decide) (by simp) (fun w1 hw1=>h3.own hw1)) ?_))));refine zM (v:=ptrV q1) rfl rfl rfl (qZ rfl xF rfl (fun w1 hw1=>Row.cell (h3.own hw1) (by decide) (by simp))) ?_;refine zC 1 rfl (zK (zD [0,3,5,9,10,11] [_,_,_,_,_,_] rfl ?_));refine zB (zC 2 rfl (zM (v:=i6_ ((rankF q:Int))) rfl rfl rfl (qH rfl Tryz.call46 rfl zZ (fun w1 hw1=>ih q q1 w1 (by first | exact Nat.lt_succ_self _ | exact Nat.lt_succ_of_le (Nat.le_add_right _ _) | exact Nat.lt_succ_of_le (Nat.le_add_left _ _)) (Tree.own hw1 hT1) hwf.2.2.2.2 (by omega))) ?_));refine zM (v:=i6_ ((rankF q:Int))) rfl rfl rfl (yO (by first | (split <;> congr 1 <;> omega) | (split <;> omega)) (OpQ.max2 rfl rfl rfl)) ?_;refine zC 1 rfl (zK (zD [0,3,9,10,11] [_,_,_,_,_] rfl ?_));refine zB (zM rfl rfl rfl (qV rfl rfl rfl (by decide) (by decide)) ?_);refine zC 1 rfl (zK (Kt.round (e':=[(0,.pointer (some ⟨p,0,none⟩)),(3,i6_ ((rankF q:Int))),(9,pv),(10,i6_ 1),(11,i6_ 1)]) (Sub.sel [0,3,9,10,11] rfl) ?_));refine zE (zB (zC 1 rfl (zK (zD [0,3,9,10,11,12] [_,_,_,_,_,_] rfl ?_))));refine zE (xQ rfl ?_);refine xK rfl ?_;refine zD [0,3] [_,_] rfl ?_;refine zE (yC (zE (zB (zC 1 rfl (zM (v:=bo_ (decide (((c).toNat:Int)=50∨((c).toNat:Int)=51∨((c).toNat:Int)=52))) rfl rfl rfl (qH rfl Tryz.call96 rfl zZ (fun w1 hw1=>isCount_ok _ _ c _ _ _ _ w1 (heap_own h1 hw1))) ?_)))));refine zC 1 rfl (zK (zD [0,3,20] [_,_,_] rfl ?_));refine qL (b:=decide (((c).toNat:Int)=50∨((c).toNat:Int)=51∨((c).toNat:Int)=52)) rfl (fun h20_1=>?_) (fun h20_1=>?_)
  ·
   replace h20_1:=zJ h20_1;refine zB (zC 2 rfl (zM (v:=.pointer (some ⟨p,0,none⟩)) rfl rfl rfl (zR rfl rfl) ?_));refine zM rfl rfl rfl (zF rfl zG rfl xB rfl rfl) ?_;refine zM (v:=.int .u8 ((c.toNat:Int))) rfl rfl rfl (qZ rfl xH rfl (fun w1 hw1=>at_box h1 hw1 0 rfl)) ?_;refine zM (v:=.int .u8 ((c.toNat:Int) - 48)) rfl rfl rfl (yO (by rw [IntWalk.u8_in _ (by omega)]) (jU rfl rfl rfl)) ?_;refine zM (v:=i6_ ((c.toNat:Int) - 48)) rfl rfl rfl (jK .i64 rfl jJ yS rfl (IntWalk.i64_in _ (by omega))) ?_;refine zM rfl rfl rfl (qV rfl rfl rfl (by omega) (by omega)) ?_;refine zC 1 rfl (zK (zD [3] [_] rfl ?_));refine zE (zB (zC 2 rfl (zK (zD [2] [_] rfl ?_))));refine qK (qT rfl rfl fun w' hw=>?_)
   exact ⟨ret_i (rank_end1 (by unfold cntI;assumption)),hw.below⟩
  replace h20_1:=zH h20_1;refine zE (zB (zC 1 rfl (zM (v:=bo_ (decide (quI ((c).toNat:Int)))) rfl rfl rfl (qH rfl vW rfl zZ (fun w1 hw1=>isQuant_ok _ _ c _ _ _ _ w1 (heap_own h1 hw1))) ?_)));refine zC 1 rfl (zK (zD [3,31] [_,_] rfl ?_));refine qL (b:=decide (quI ((c).toNat:Int))) rfl (fun h31_1=>?_) (fun h31_1=>?_)
  ·
   replace h31_1:=zJ h31_1;refine zB (zC 1 rfl (zM rfl rfl rfl (qV rfl rfl rfl (by omega) (by omega)) ?_));refine zC 1 rfl (zK (zD [3] [_] rfl ?_));refine zE (zB (zC 2 rfl (zK (zD [2] [_] rfl ?_))));refine qK (qT rfl rfl fun w' hw=>?_)
   exact ⟨ret_i (rank_end2 (by unfold cntI;assumption) (by assumption)),hw.below⟩
  replace h31_1:=zH h31_1;refine qY (zD [3] [_] rfl ?_);refine zE (zB (zC 2 rfl (zK (zD [2] [_] rfl ?_))));refine qK (qT rfl rfl fun w' hw=>?_)
  exact ⟨ret_i (rank_end3 hwf (by assumption)),hw.below⟩
 obtain ⟨q1,q2,⟨vv,pv,h1,h2,h3⟩,hT1,hT2⟩:=hT
 have hlt:=two_letter hwf
 have hr1:=rank_sub2 (c:=c) (q:=q) (r:=r);refine zB (zC 1 rfl (zM (v:=.pointer (some ⟨p,0,none⟩)) rfl rfl rfl (zR rfl rfl) ?_));refine zM rfl rfl rfl (zF rfl zG rfl xJ rfl rfl) ?_;refine zM (v:=pv) rfl rfl rfl (qZ rfl jV rfl (fun w1 hw1=>at_box h1 hw1 2 rfl)) ?_;refine zM (v:=i6_ 2) rfl rfl rfl (xG (k:=2) rfl xO rfl rfl (fun w1 hw1=>h3.own hw1)) ?_;refine zC 1 rfl (zK (zD [0,3,9,10,11] [_,_,_,_,_] rfl ?_));refine yC (vH 3 ?_);refine zE (zB (zC 1 rfl (zK (zD [0,3,9,10,11,12] [_,_,_,_,_,_] rfl ?_))));refine zE (yQ rfl ?_);refine qY (zD [0,3,9,10,11] [_,_,_,_,_] rfl ?_);refine zE (yC (zE (zB (zM (v:=.pointer (some (sAt pv 0))) rfl rfl rfl (xD rfl xO vK rfl rfl (by decide) (by simp) (fun w1 hw1=>h3.own hw1)) ?_))));refine zM (v:=ptrV q1) rfl rfl rfl (qZ rfl xF rfl (fun w1 hw1=>Row.cell (h3.own hw1) (by decide) (by simp))) ?_;refine zC 1 rfl (zK (zD [0,3,5,9,10,11] [_,_,_,_,_,_] rfl ?_));refine zB (zC 2 rfl (zM (v:=i6_ ((rankF q:Int))) rfl rfl rfl (qH rfl Tryz.call46 rfl zZ (fun w1 hw1=>ih q q1 w1 (by first | exact Nat.lt_succ_self _ | exact Nat.lt_succ_of_le (Nat.le_add_right _ _) | exact Nat.lt_succ_of_le (Nat.le_add_left _ _)) (Tree.own hw1 hT1) hwf.2.2.2.1 (by omega))) ?_));refine zM (v:=i6_ ((rankF q:Int))) rfl rfl rfl (yO (by first | (split <;> congr 1 <;> omega) | (split <;> omega)) (OpQ.max2 rfl rfl rfl)) ?_;refine zC 1 rfl (zK (zD [0,3,9,10,11] [_,_,_,_,_] rfl ?_));refine zB (zM rfl rfl rfl (qV rfl rfl rfl (by decide) (by decide)) ?_);refine zC 1 rfl (zK (Kt.round (e':=[(0,.pointer (some ⟨p,0,none⟩)),(3,i6_ ((rankF q:Int))),(9,pv),(10,i6_ 2),(11,i6_ 1)]) (Sub.sel [0,3,9,10,11] rfl) ?_));refine zE (zB (zC 1 rfl (zK (zD [0,3,9,10,11,12] [_,_,_,_,_,_] rfl ?_))));refine zE (yQ rfl ?_);refine qY (zD [0,3,9,10,11] [_,_,_,_,_] rfl ?_);refine zE (yC (zE (zB (zM (v:=.pointer (some (sAt pv 1))) rfl rfl rfl (xD rfl xO vK rfl rfl (by decide) (by simp) (fun w1 hw1=>h3.own hw1)) ?_))));refine zM (v:=ptrV q2) rfl rfl rfl (qZ rfl xF rfl (fun w1 hw1=>Row.cell (h3.own hw1) (by decide) (by simp))) ?_;refine zC 1 rfl (zK (zD [0,3,5,9,10,11] [_,_,_,_,_,_] rfl ?_));refine zB (zC 2 rfl (zM (v:=i6_ ((rankF r:Int))) rfl rfl rfl (qH rfl Tryz.call46 rfl zZ (fun w1 hw1=>ih r q2 w1 (by first | exact Nat.lt_succ_self _ | exact Nat.lt_succ_of_le (Nat.le_add_right _ _) | exact Nat.lt_succ_of_le (Nat.le_add_left _ _)) (Tree.own hw1 hT2) hwf.2.2.2.2 (by omega))) ?_))
 refine zM (v:=i6_ (((max (rankF q) (rankF r):Nat):Int))) rfl rfl rfl (yO (by first | (split <;> congr 1 <;> omega) | (split <;> omega)) (OpQ.max2 rfl rfl rfl)) ?_;refine zC 1 rfl (zK (zD [0,3,9,10,11] [_,_,_,_,_] rfl ?_));refine zB (zM rfl rfl rfl (qV rfl rfl rfl (by decide) (by decide)) ?_);refine zC 1 rfl (zK (Kt.round (e':=[(0,.pointer (some ⟨p,0,none⟩)),(3,i6_ (((max (rankF q) (rankF r):Nat):Int))),(9,pv),(10,i6_ 2),(11,i6_ 2)]) (Sub.sel [0,3,9,10,11] rfl) ?_));refine zE (zB (zC 1 rfl (zK (zD [0,3,9,10,11,12] [_,_,_,_,_,_] rfl ?_))));refine zE (xQ rfl ?_);refine xK rfl ?_;refine zD [0,3] [_,_] rfl ?_;refine zE (yC (zE (zB (zC 1 rfl (zM (v:=bo_ (decide (((c).toNat:Int)=50∨((c).toNat:Int)=51∨((c).toNat:Int)=52))) rfl rfl rfl (qH rfl Tryz.call96 rfl zZ (fun w1 hw1=>isCount_ok _ _ c _ _ _ _ w1 (heap_own h1 hw1))) ?_)))));refine zC 1 rfl (zK (zD [0,3,20] [_,_,_] rfl ?_));refine qL (b:=decide (((c).toNat:Int)=50∨((c).toNat:Int)=51∨((c).toNat:Int)=52)) rfl (fun h20_2=>?_) (fun h20_2=>?_)
 ·
  replace h20_2:=zJ h20_2
  exact absurd h20_2 hlt.2
 replace h20_2:=zH h20_2;refine zE (zB (zC 1 rfl (zM (v:=bo_ (decide (quI ((c).toNat:Int)))) rfl rfl rfl (qH rfl vW rfl zZ (fun w1 hw1=>isQuant_ok _ _ c _ _ _ _ w1 (heap_own h1 hw1))) ?_)));refine zC 1 rfl (zK (zD [3,31] [_,_] rfl ?_));refine qL (b:=decide (quI ((c).toNat:Int))) rfl (fun h31_2=>?_) (fun h31_2=>?_)
 ·
  replace h31_2:=zJ h31_2
  exact absurd h31_2 hlt.1
 replace h31_2:=zH h31_2;refine qY (zD [3] [_] rfl ?_);refine zE (zB (zC 2 rfl (zK (zD [2] [_] rfl ?_))));refine qK (qT rfl rfl fun w' hw=>?_)
 exact ⟨rfl,hw.below⟩
theorem rankP_ok (fm:Fm) (p:Nat) (w:World) (hT:Tree 67 w fm p) (hwf:wfF fm) (hr:rankF fm≤2000000):Calls Tryz.prog 46 #[ptrV p] w fun en w'=>en=.returned (.int .i64 (rankF fm:Int))∧Below w.heap.size w w':=by
  have key:∀ (m:Nat) (fm:Fm) (p:Nat) (w:World),szF fm≤m→Tree 67 w fm p→wfF fm→rankF fm≤2000000→Calls Tryz.prog 46 #[ptrV p] w fun en w'=>en=.returned (.int .i64 (rankF fm:Int))∧Below w.heap.size w w':=fun m=>by
    induction m with
    | zero=>exact fun fm p w h1 h2 h3 h4=>rankP_step fm p w h2 h3 h4 fun fm2 p2 w2 h=>absurd h (by omega)
    | succ m ih=>exact fun fm p w h1 h2 h3 h4=>rankP_step fm p w h2 h3 h4 fun fm2 p2 w2 h k1 k2 k3=>ih fm2 p2 w2 (by omega) k1 k2 k3
  exact key _ fm p w (Nat.le_refl _) hT hwf hr
end Go.Proofs.YtefiibghfgfdnaaGreatDoor
namespace Go.Proofs.YtefiibghfgfdnaaGreatDoor
open Go.RowKit Go.Wk
set_option linter.unusedSimpArgs false
set_option maxHeartbeats 400000 in
/-- impl.newHolder -/
theorem newHold_ok (a:St) (B:Nat) (w0:World) (hs:List (Nat×Obj)) (w:World) (hw:Own B w0 hs w) :
    Calls Tryz.prog 93 [vS a].toArray w fun en w'=>∃ (h M:Nat),en=.returned (.pointer (some ⟨h,0,none⟩))∧Own B w0 (memoF 147 h M a [] hs) w':=by
 refine fnStartC (Own B w0 hs) (n:=7) (e:=[(0,vS a)]) Tryz.func93 rfl rfl rfl rfl Ends.both hw ?_;refine zE (qU (xR (v:=vS a) rfl rfl rfl rfl rfl fun p1 hp1=>?_))
 show Ll _ _ (Own _ _ (_::hs)) _ _ ((1,pt_ p1)::_) _ _ _;refine qW 1 rfl (zL (zD [1] [_] rfl ?_));refine zE (qU (zX rfl rfl rfl (qM (cs:=#[i6_ a.n,str a.set,str a.rel]) 0 rfl qG rfl rfl qD) ?_));refine Ll.makeMapP rfl rfl rfl rfl fun m4 hm4=>?_
 show Ll _ _ (Own _ _ (_::_::hs)) _ _ ((4,.map (some m4))::_) _ _ _;refine zX (v:=.agg #[i6_ a.n,str a.set,str a.rel,.map (some m4)]) rfl rfl rfl (OpQ.build (xs:=[.tmp 3,.tmp 4]) (vs:=[vS a,.map (some m4)]) rfl rfl (by kernel_rfl)) ?_;refine xR (v:=.agg #[i6_ a.n,str a.set,str a.rel,.map (some m4)]) rfl rfl rfl rfl rfl fun p6 hp6=>?_
 show Ll _ _ (Own _ _ (_::_::_::hs)) _ _ ((6,pt_ p6)::_) _ _ _;refine qW 1 rfl (zL (zD [2] [_] rfl ?_));refine qK (qT rfl rfl fun w' hw=>?_)
 exact ⟨p6,m4,rfl,Own.pickT (hs:=[_,_,_]) (hs':=[_,_]) hw [0,1] rfl (by decide)⟩
set_option maxHeartbeats 400000 in
/-- (*impl.holder).holds -/
theorem holds_ok (a:St) (fm:Fm) (ha:a.Fine) (hwf:wfF fm) (xs:List Int) (va:Value) (hl:xs.length≤4) (B:Nat) (w0:World) (hs ts:List (Nat×Obj)) (h M:Nat) (K:Memo) (p:Nat) (w:World) (hts:∀ x∈ts,x∈hs) (hT:TreeB 67 ts fm p) (hva:∀ w1,Own B w0 hs w1→Ints w1 va xs) (hE:EnvA a (envL xs)) (hK:MemoOk 67 a ts K) (hw:Own B w0 (memoF 147 h M a K hs) w) :
    Calls Tryz.prog 94 [pt_ h,ptrV p,va].toArray w fun en w'=>∃ K',en=.returned (.bool (ev a fm (envL xs)))∧MemoOk 67 a ts K'∧Own B w0 (memoF 147 h M a K' hs) w':=by
 refine fnStartC (Own B w0 (bk_ h #[i6_ a.n,str a.set,str a.rel,.map (some M)] 147::((M,mapP (memoK K))::(memoB K++hs)))) (n:=16) (e:=[(0,pt_ h),(1,ptrV p),(2,va)]) Tryz.func94 rfl rfl rfl rfl Ends.both hw ?_;refine zE (zB (zC 1 rfl (zK (zD [0,1,2] [_,_,_] rfl ?_))));refine zE (qU (zX (v:=.agg #[i6_ 0,i6_ 0,i6_ 0,i6_ 0]) rfl rfl rfl (OpQ.build (xs:=[]) (vs:=[]) rfl rfl (by kernel_rfl)) ?_));refine jZ rfl rfl rfl rfl Tryz.zeroValue116 fun p7 hp7=>?_
 show Ll _ _ (Own _ _ (bk_ p7 #[i6_ 0,i6_ 0,i6_ 0,i6_ 0] 116::_::(((M,mapP (memoK K))::(memoB K++hs))))) _ _ ((7,pt_ p7)::_) _ _ _;refine xI (cs':=#[i6_ 0,i6_ 0,i6_ 0,i6_ 0]) (hs':=(bk_ p7 #[i6_ 0,i6_ 0,i6_ 0,i6_ 0] 116::_::(((M,mapP (memoK K))::(memoB K++hs))))) 0 rfl rfl rfl rfl rfl (by kernel_rfl:_=some Tryz.t116) rfl rfl rfl rfl rfl ?_;refine zL (zD [0,1,2,7] [_,_,_,_] rfl ?_);refine zE (qU (zX (v:=sl_ p7 4 4) rfl rfl rfl (OpQ.sliceAll rfl Tryz.runUnderlying116 zN rfl) ?_));refine qW 1 rfl (Ll.copyEnv (xs:=xs) 0 rfl rfl rfl rfl Tryz.underlying25 (by kernel_rfl) rfl rfl rfl (fun w1 hw1=>hva w1 (qC (f:=[_,_]) (qO (f:=[_,_]) hw1))) hl ?_)
 show Ll _ _ (Own _ _ (_::_::(((M,mapP (memoK K))::(memoB K++hs))))) _ _ ((11,i6_ ((xs.length:Int)))::_) _ _ _;refine zL (zD [0,1,7] [_,_,_] rfl ?_);refine zE (qU (qW 2 rfl (zX rfl rfl rfl (qM (cs:=(ints (envL xs)).toArray) 0 rfl vD rfl rfl (by intro w;rw [show (ints (envL xs)).toArray.size=4 from by simp [envL_len hl]];exact vA w)) ?_)));refine vQ (ok:=fun K=>MemoOk 67 a ts K) (b:=ev a fm (envL xs)) (xs:=[.tmp 12,.tmp 13,.tmp 14]) (vs:=[pt_ h,ptrV p,.agg ((ints (envL xs)).toArray)]) ([bk_ p7 ((ints (envL xs)).toArray) 116]:List (Nat×Obj)) rfl rfl rfl rfl Tryz.call139 rfl (fun w1 hw1=>isTrue_ok a fm ha hwf B w0 _ ts h M K p (envL xs) w1 (fun x hx=>List.mem_append_right _ (hts x hx)) hT hE hK hw1) fun K1 hM1=>?_
 show Ll _ _ (Own _ _ (_::_::(((M,mapP (memoK K1))::(memoB K1++hs))))) _ _ ((15,bo_ (ev a fm (envL xs)))::_) _ _ _;refine qW 1 rfl (zL (zD [6] [_] rfl ?_));refine qK (qT rfl rfl fun w' hw=>?_)
 exact ⟨K1,rfl,hM1,qC (f:=[_]) hw⟩
set_option maxHeartbeats 800000 in
/-- impl.HoldsAt -/
theorem iHolds_ok (a:St) (f:List UInt8) (va:Value) (xs:List Int) (w:World) (hsa:a.Small) (hva:Ints w va xs) (hxl:xs.length≤1048576) :
    Calls Tryz.prog 44 [vS a,str f,va].toArray w fun en w'=>en=.returned (.tuple #[.bool (holdV a f xs),.bool (holdK a f xs)])∧Below w.heap.size w w':=by
 refine fnStart (n:=44) (e:=[(0,vS a),(1,str f),(2,va)]) Tryz.func44 rfl rfl rfl rfl Ends.both ?_;refine zE (qU (xR (v:=vS a) rfl rfl rfl rfl rfl fun p3 hp3=>?_))
 show Ll _ _ (Own _ _ [_]) _ _ ((3,pt_ p3)::_) _ _ _;refine qW 2 rfl (zL (zD [1,2,3] [_,_,_] rfl ?_));refine zE ?_
 rcases hff1:formO f with _ | fm1
 ·
  refine qU (qW 1 rfl (vZ (σ:=Unit) (ok:=fun _=>True) (v:=fun _=>.pointer none) (hs':=fun _=>[bk_ p3 #[i6_ a.n,str a.set,str a.rel] 24]) (xs:=[.tmp 9]) (vs:=[str f]) rfl rfl rfl rfl uB rfl (fun w1 hw1=>(pform_ok f _ _ (([bk_ p3 #[i6_ a.n,str a.set,str a.rel] 24]:List (Nat×Obj))++([])) w1 hw1).mono fun en w' hR=>by rw [hff1] at hR;exact ⟨(),hR.1,trivial,hR.2⟩) fun _ _=>?_))
  show Ll _ _ (Own _ _ [_]) _ _ ((10,.pointer none)::_) _ _ _;refine qW 1 rfl (zL (zD [2,3,8] [_,_,_] rfl ?_));refine zE (zE (zB (zC 1 rfl (zM (v:=bo_ true) rfl rfl rfl (vB (p:=none) rfl yK rfl rfl) ?_))));refine zC 1 rfl ?_;refine zQ rfl rfl rfl (zQ rfl rfl rfl (zQ rfl rfl rfl (zC 2 rfl (zQ rfl rfl rfl (zQ rfl rfl rfl (zQ rfl rfl rfl (zC 2 rfl ?_)))))));refine zQ rfl rfl rfl (zQ rfl rfl rfl (zQ rfl rfl rfl (zQ rfl rfl rfl (zC 2 rfl (zQ rfl rfl rfl (zQ rfl rfl rfl (zQ rfl rfl rfl ?_)))))));refine zQ rfl rfl rfl (zQ rfl rfl rfl (zQ rfl rfl rfl (zQ rfl rfl rfl (zQ rfl rfl rfl (zC 1 rfl (zK (zD [2,3,8,38] [_,_,_,_] rfl ?_)))))));refine yQ rfl ?_;refine zE (zB (zC 2 rfl (zK (zD [6,7] [_,_] rfl ?_))));refine qK (yU rfl rfl rfl fun w' hw=>?_)
  exact ⟨congrArg Ending.returned (hold_ret (hold_none hff1)),hw.below⟩
 refine qU (qW 1 rfl (vE (ok:=fun ((q,new):Nat×List (Nat×Obj))=>TreeB 67 new fm1 q) (v:=fun ((q,new):Nat×List (Nat×Obj))=>ptrV q) (new:=fun ((q,new):Nat×List (Nat×Obj))=>new) (hs:=[]) (xs:=[.tmp 9]) (vs:=[str f]) ([bk_ p3 #[i6_ a.n,str a.set,str a.rel] 24]:List (Nat×Obj)) rfl rfl rfl rfl uB rfl (fun w1 hw1=>(pform_ok f _ _ (([bk_ p3 #[i6_ a.n,str a.set,str a.rel] 24]:List (Nat×Obj))++([])) w1 hw1).mono fun en w' hR=>by rw [hff1] at hR;obtain ⟨q,new,h1,h2,h3⟩:=hR;exact ⟨(q,new),h1,h2,h3⟩) fun ⟨q10,new10⟩ hTq10=>?_))
 dsimp only at hTq10
 show Ll _ _ (Own _ _ (_::(new10++([])))) _ _ ((10,ptrV q10)::_) _ _ _;refine qW 1 rfl (zL (zD [2,3,8] [_,_,_] rfl ?_));refine zE (zE (zB (zC 1 rfl (zM (v:=bo_ false) rfl rfl rfl (vB (p:=some ⟨q10,0,none⟩) rfl yK rfl rfl) ?_))));refine zC 1 rfl (zM rfl rfl rfl (qM (cs:=#[i6_ a.n,str a.set,str a.rel]) 0 rfl qG rfl rfl qD) ?_);refine zM (v:=bo_ (validB a)) rfl rfl rfl (qH rfl Tryz.call50 rfl zZ (fun w1 hw1=>isStructure_ok a w1 hsa)) ?_;refine zC 3 rfl (yT fun b18 hg18=>?_)
 cases b18
 ·
  replace hg18:=not_false hg18;refine zC 1 rfl (zM (v:=i6_ ((xs.length:Int))) rfl rfl rfl (xG rfl yB rfl (ints_length _) (fun w1 hw1=>Row.own hva hw1)) ?_);refine zC 3 rfl (yT fun b23 hg23=>?_)
  cases b23
  ·
   replace hg23:=zH hg23;refine zM rfl rfl rfl (qM (cs:=#[i6_ a.n,str a.set,str a.rel]) 0 rfl qG rfl rfl qD) ?_;refine zC 1 rfl (zM (v:=bo_ (xs.all (elB a))) rfl rfl rfl (qH rfl Tryz.call92 rfl zZ (fun w1 hw1=>areElements_ok a va xs w1 (Row.own hva hw1) (by first | (simp;done) | (simp;omega) | omega))) ?_);refine zC 3 rfl (yT fun b29 hg29=>?_)
   cases b29
   ·
    replace hg29:=not_false hg29;refine zC 1 rfl (zM (v:=ptrV q10) rfl rfl rfl (zR rfl rfl) ?_);refine zM rfl rfl rfl (zF rfl zG rfl zN rfl rfl) ?_;refine zM (v:=i6_ ((frB fm1:Int))) rfl rfl rfl (qZ rfl qA rfl (fun w1 hw1=>tree_free (TreeB.tree (yJ (qC (f:=[_]) hw1)) hTq10))) ?_;refine zC 1 rfl (zM (v:=i6_ ((xs.length:Int))) rfl rfl rfl (xG rfl yB rfl (ints_length _) (fun w1 hw1=>Row.own hva hw1)) ?_);refine zM (v:=i6_ ((((frB fm1) / 2 ^ xs.length:Nat):Int))) rfl rfl rfl (OpQ.shr (a:=frB fm1) (b:=xs.length) rfl rfl rfl (by omega)) ?_;refine zC 2 rfl (zK (zD [2,3,8,38] [_,_,_,_] rfl ?_));refine qL (b:=!(decide (((((frB fm1) / 2 ^ xs.length:Nat):Int))=(0:Int)))) rfl (fun h38=>?_) (fun h38=>?_)
    ·
     replace h38:=not_true h38
     replace h38:=zH h38;refine zE (zB (zC 2 rfl (zK (zD [6,7] [_,_] rfl ?_))));refine qK (yU rfl rfl rfl fun w' hw=>?_)
     exact ⟨congrArg Ending.returned (hold_ret (hold_bad hff1 (by first | exact .inl (by assumption) | exact .inr (.inl (by omega)) | exact .inr (.inr (.inl (by assumption))) | exact .inr (.inr (.inr (by assumption)))))),hw.below⟩
    replace h38:=not_false h38
    replace h38:=zJ h38
    have hO:=hold_good (a:=a) (xs:=xs) hff1 (by assumption) (by omega) (by assumption) (by assumption)
    have ha:=validB_fine (show validB a=true by assumption)
    have hm1:=ha.lo;refine qY (zD [2,3,8] [_,_,_] rfl ?_);refine zE (qU (zX rfl rfl rfl (qM (cs:=#[i6_ a.n,str a.set,str a.rel]) 0 rfl qG rfl rfl qD) ?_));refine vE (ok:=fun _=>True) (v:=fun ((h,M):Nat×Nat)=>.pointer (some ⟨h,0,none⟩)) (new:=fun ((h,M):Nat×Nat)=>[(h,Obj.cells #[.int .i64 a.n,str a.set,str a.rel,.map (some M)] 147 (0,0)),(M,mapP (memoK []))]) (hs:=new10++([])) (xs:=[.tmp 39]) (vs:=[vS a]) ([bk_ p3 #[i6_ a.n,str a.set,str a.rel] 24]:List (Nat×Obj)) rfl rfl rfl rfl Tryz.call93 rfl (fun w1 hw1=>(newHold_ok a w.heap.size w (([bk_ p3 #[i6_ a.n,str a.set,str a.rel] 24]:List (Nat×Obj))++(new10++([]))) w1 hw1).mono fun en w' ⟨h,M,h1,h2⟩=>⟨(h,M),h1,trivial,h2⟩) fun ⟨h40n,M40n⟩ _=>?_
    show Ll _ _ (Own _ _ (_::_::(((M40n,mapP (memoK []))::(memoB []++(new10++([]))))))) _ _ ((40,pt_ h40n)::_) _ _ _;refine qW 2 rfl (vQ (ok:=fun K=>MemoOk 67 a new10 K) (b:=ev a fm1 (envL xs)) (xs:=[.tmp 40,.tmp 41,.tmp 42]) (vs:=[pt_ h40n,ptrV q10,va]) ([bk_ p3 #[i6_ a.n,str a.set,str a.rel] 24]:List (Nat×Obj)) rfl rfl rfl rfl Tryz.call94 rfl (fun w1 hw1=>holds_ok a fm1 ha (formO_wf hff1) xs va (by omega) _ _ _ new10 h40n M40n [] q10 w1 (fun x hx=>List.mem_append_right _ (List.mem_append_left _ hx)) hTq10 (fun w1 h1=>Row.own hva h1) (envL_ok hm1 (by omega) (fun x hx=>elB_true.1 (List.all_eq_true.1 (by assumption) x hx))) MemoOk.nil hw1) fun K1 hM1=>?_)
    show Ll _ _ (Own _ _ (_::_::(((M40n,mapP (memoK K1))::(memoB K1++(new10++([]))))))) _ _ ((43,bo_ (ev a fm1 (envL xs)))::_) _ _ _;refine qW 2 rfl (zL (zD [6,7] [_,_] rfl ?_));refine qK (yU rfl rfl rfl fun w' hw=>?_)
    exact ⟨congrArg Ending.returned (hold_ret hO),hw.below⟩
   replace hg29:=not_true hg29;refine zQ rfl rfl rfl (zQ rfl rfl rfl (zQ rfl rfl rfl ?_));refine zQ rfl rfl rfl (zQ rfl rfl rfl (zQ rfl rfl rfl (zQ rfl rfl rfl (zQ rfl rfl rfl (zC 1 rfl (zK (zD [2,3,8,38] [_,_,_,_] rfl ?_)))))));refine yQ rfl ?_;refine zE (zB (zC 2 rfl (zK (zD [6,7] [_,_] rfl ?_))));refine qK (yU rfl rfl rfl fun w' hw=>?_)
   exact ⟨congrArg Ending.returned (hold_ret (hold_bad hff1 (by first | exact .inl (by assumption) | exact .inr (.inl (by omega)) | exact .inr (.inr (.inl (by assumption))) | exact .inr (.inr (.inr (by assumption)))))),hw.below⟩
  replace hg23:=zJ hg23;refine zQ rfl rfl rfl (zQ rfl rfl rfl (zQ rfl rfl rfl (zQ rfl rfl rfl (zC 2 rfl (zQ rfl rfl rfl (zQ rfl rfl rfl (zQ rfl rfl rfl ?_)))))));refine zQ rfl rfl rfl (zQ rfl rfl rfl (zQ rfl rfl rfl (zQ rfl rfl rfl (zQ rfl rfl rfl (zC 1 rfl (zK (zD [2,3,8,38] [_,_,_,_] rfl ?_)))))));refine yQ rfl ?_;refine zE (zB (zC 2 rfl (zK (zD [6,7] [_,_] rfl ?_))));refine qK (yU rfl rfl rfl fun w' hw=>?_)
  exact ⟨congrArg Ending.returned (hold_ret (hold_bad hff1 (by first | exact .inl (by assumption) | exact .inr (.inl (by omega)) | exact .inr (.inr (.inl (by assumption))) | exact .inr (.inr (.inr (by assumption)))))),hw.below⟩
 replace hg18:=not_true hg18;refine zQ rfl rfl rfl (zQ rfl rfl rfl (zQ rfl rfl rfl (zC 2 rfl ?_)));refine zQ rfl rfl rfl (zQ rfl rfl rfl (zQ rfl rfl rfl (zQ rfl rfl rfl (zC 2 rfl (zQ rfl rfl rfl (zQ rfl rfl rfl (zQ rfl rfl rfl ?_)))))));refine zQ rfl rfl rfl (zQ rfl rfl rfl (zQ rfl rfl rfl (zQ rfl rfl rfl (zQ rfl rfl rfl (zC 1 rfl (zK (zD [2,3,8,38] [_,_,_,_] rfl ?_)))))));refine yQ rfl ?_;refine zE (zB (zC 2 rfl (zK (zD [6,7] [_,_] rfl ?_))));refine qK (yU rfl rfl rfl fun w' hw=>?_)
 exact ⟨congrArg Ending.returned (hold_ret (hold_bad hff1 (by first | exact .inl (by assumption) | exact .inr (.inl (by omega)) | exact .inr (.inr (.inl (by assumption))) | exact .inr (.inr (.inr (by assumption)))))),hw.below⟩
set_option maxHeartbeats 400000 in
/-- impl.HoldsIn -/
theorem iIn_ok (a:St) (f:List UInt8) (w:World) (hsa:a.Small) :
    Calls Tryz.prog 66 [vS a,str f].toArray w fun en w'=>en=.returned (.tuple #[.bool (holdV a f []),.bool (holdK a f [])])∧Below w.heap.size w w':=by
 refine fnStart (n:=11) (e:=[(0,vS a),(1,str f)]) Tryz.func66 rfl rfl rfl rfl Ends.both ?_;refine zE (qU (xR (v:=vS a) rfl rfl rfl rfl rfl fun p2 hp2=>?_))
 show Ll _ _ (Own _ _ [_]) _ _ ((2,pt_ p2)::_) _ _ _;refine qW 2 rfl (zL (zD [1,2] [_,_] rfl ?_));refine zE (zB (zM rfl rfl rfl (qM (cs:=#[i6_ a.n,str a.set,str a.rel]) 0 rfl qG rfl rfl qD) ?_));refine zC 1 rfl (zM (v:=.tuple #[bo_ (holdV a f ([])),bo_ (holdK a f ([]))]) rfl rfl rfl (qH rfl Tryz.call44 rfl zZ (fun w1 hw1=>iHolds_ok a f (.slice none 0 0) ([]) w1 hsa Ints.nil (by first | (simp;done) | omega))) ?_);refine zM (v:=bo_ (holdV a f ([]))) rfl rfl rfl (qX rfl rfl rfl) ?_;refine zM (v:=bo_ (holdK a f ([]))) rfl rfl rfl (qX rfl rfl rfl) ?_;refine zC 2 rfl (zK (zD [4,5] [_,_] rfl ?_));refine qK (yU rfl rfl rfl fun w' hw=>?_)
 exact ⟨rfl,hw.below⟩
set_option maxHeartbeats 400000 in
/-- impl.RankOf -/
theorem iRank_ok (f:List UInt8) (w:World) :
    Calls Tryz.prog 14 [str f].toArray w fun en w'=>en=.returned (.int .i64 (rankI f))∧Below w.heap.size w w':=by
 refine fnStart (n:=10) (e:=[(0,str f)]) Tryz.func14 rfl rfl rfl rfl Ends.both ?_;refine zE (zB (zC 1 rfl (zK (zD [0] [_] rfl ?_))));refine zE ?_
 rcases hff1:formO f with _ | fm1
 ·
  refine qU (qW 1 rfl (vZ (σ:=Unit) (ok:=fun _=>True) (v:=fun _=>.pointer none) (hs':=fun _=>[]) (xs:=[.tmp 4]) (vs:=[str f]) rfl rfl rfl rfl uB rfl (fun w1 hw1=>(pform_ok f _ _ (([]:List (Nat×Obj))++([])) w1 hw1).mono fun en w' hR=>by rw [hff1] at hR;exact ⟨(),hR.1,trivial,hR.2⟩) fun _ _=>?_))
  show Ll _ _ (Own _ _ []) _ _ ((5,.pointer none)::_) _ _ _;refine qW 1 rfl (zL (zD [3] [_] rfl ?_));refine zE (zE (zB (zC 1 rfl (zM (v:=bo_ true) rfl rfl rfl (vB (p:=none) rfl yK rfl rfl) ?_))));refine zK (zD [3,7] [_,_] rfl ?_);refine yQ rfl ?_;refine zE (zB (zC 1 rfl (zK (zD [2] [_] rfl ?_))));refine qK (qT rfl rfl fun w' hw=>?_)
  exact ⟨ret_i (by unfold rankI;rw [hff1]),hw.below⟩
 have hP1:=formO_pa hff1
 have hwf_fm1:=formO_wf hff1
 have hl4:=(formO_parse hff1).1
 have hr_fm1:rankF fm1≤2000000:=by have:=rank_pa hP1;omega
 refine qU (qW 1 rfl (vE (ok:=fun ((q,new):Nat×List (Nat×Obj))=>TreeB 67 new fm1 q) (v:=fun ((q,new):Nat×List (Nat×Obj))=>ptrV q) (new:=fun ((q,new):Nat×List (Nat×Obj))=>new) (hs:=[]) (xs:=[.tmp 4]) (vs:=[str f]) ([]:List (Nat×Obj)) rfl rfl rfl rfl uB rfl (fun w1 hw1=>(pform_ok f _ _ (([]:List (Nat×Obj))++([])) w1 hw1).mono fun en w' hR=>by rw [hff1] at hR;obtain ⟨q,new,h1,h2,h3⟩:=hR;exact ⟨(q,new),h1,h2,h3⟩) fun ⟨q5,new5⟩ hTq5=>?_))
 dsimp only at hTq5
 show Ll _ _ (Own _ _ ((new5++([])))) _ _ ((5,ptrV q5)::_) _ _ _;refine qW 1 rfl (zL (zD [3] [_] rfl ?_));refine zE (zE (zB (zC 1 rfl (zM (v:=bo_ false) rfl rfl rfl (vB (p:=some ⟨q5,0,none⟩) rfl yK rfl rfl) ?_))));refine zK (zD [3,7] [_,_] rfl ?_);refine xQ rfl ?_;refine qY (zD [3] [_] rfl ?_);refine zE (zB (zC 1 rfl (zM (v:=i6_ ((rankF fm1:Int))) rfl rfl rfl (qH rfl Tryz.call46 rfl zZ (fun w1 hw1=>rankP_ok fm1 q5 w1 (TreeB.tree (yJ (qC (f:=[]) hw1)) hTq5) hwf_fm1 hr_fm1)) ?_)));refine zC 1 rfl (zK (zD [2] [_] rfl ?_));refine qK (qT rfl rfl fun w' hw=>?_)
 exact ⟨ret_i (by unfold rankI;rw [hff1]),hw.below⟩
end Go.Proofs.YtefiibghfgfdnaaGreatDoor
namespace Go.Proofs.YtefiibghfgfdnaaGreatDoor
open Go.RowKit Go.Wk
set_option linter.unusedSimpArgs false
set_option maxHeartbeats 400000 in
/-- spec.AgreeUpTo -/
theorem sAgree_ok (a b:St) (vl:Value) (l:List (List UInt8)) (r:Int) (w:World) (hsa:a.Small) (hsb:b.Small) (hvl:Strs w vl l) (hl:l.length≤1048576) (hls:∀ s∈l,s.length≤1048576) :
    Calls Tryz.prog 30 [vS a,vS b,vl,i6_ r].toArray w fun en w'=>en=.returned (.bool (agreeB a b l r))∧Below w.heap.size w w':=by
 refine fnStart (n:=64) (e:=[(0,vS a),(1,vS b),(2,vl),(3,i6_ r)]) Tryz.func30 rfl rfl rfl rfl Ends.both ?_;refine zE (qU (xR (v:=vS a) rfl rfl rfl rfl rfl fun p4 hp4=>?_))
 show Ll _ _ (Own _ _ [_]) _ _ ((4,pt_ p4)::_) _ _ _;refine xR (v:=vS b) rfl rfl rfl rfl rfl fun p5 hp5=>?_
 show Ll _ _ (Own _ _ [_,_]) _ _ ((5,pt_ p5)::_) _ _ _;refine qW 1 rfl (zL (zD [2,3,4,5] [_,_,_,_] rfl ?_));refine zE (zE (zB (zC 1 rfl (zK (zD [2,3,4,5,9] [_,_,_,_,_] rfl ?_)))));refine yC (jS (σ:=Nat) (fun k=>k≤l.length∧∀ i:Nat,i<k→agreeAt a b r (l.getD i [])=true) (fun k=>[(2,vl),(3,i6_ r),(4,pt_ p4),(5,pt_ p5),(9,i6_ ((k:Int)))]) (fun k=>Own w.heap.size w [bk_ p5 #[i6_ b.n,str b.set,str b.rel] 24,bk_ p4 #[i6_ a.n,str a.set,str a.rel] 24]) (fun k=>l.length - k) (0) ⟨by omega,fun i hi=>absurd hi (by omega)⟩ (Sub.sel [2,3,4,5,9] rfl) (fun _ h=>h) ?_)
 rintro k ⟨hk,hall⟩;refine zE (zE (zB (zC 2 rfl (zM (v:=i6_ ((l.length:Int))) rfl rfl rfl (xG rfl xW rfl (strs_length _) (fun w1 hw1=>Row.own hvl hw1)) ?_))));refine zC 1 rfl (zK (zD [2,3,4,5,9,17] [_,_,_,_,_,_] rfl ?_));refine qL (b:=decide (((k:Int))<((l.length:Int)))) rfl (fun h17=>?_) (fun h17=>?_)
 ·
  replace h17:=zJ h17
  have hkl:k<l.length:=by omega
  have hfk:(l.getD ((k:Int)).toNat []).length≤1048576:=hls _ (mem_getD (l:=l) hkl);refine qY (zD [2,3,4,5,9] [_,_,_,_,_] rfl ?_);refine zE (yC (zE (jG yE (fun _ h=>h.drawn) (by kernel_rfl) ?_)));refine zM rfl rfl rfl (qM (cs:=#[i6_ a.n,str a.set,str a.rel]) 1 rfl qG rfl rfl qD) ?_;refine zC 2 rfl (zM (v:=.pointer (some (sAt vl ((k:Int))))) rfl rfl rfl (xD rfl xW qF rfl rfl (by omega) (by rw [strs_length];omega) (fun w1 hw1=>Row.own hvl hw1)) ?_);refine zM (v:=str (l.getD (((k:Int)).toNat) [])) rfl rfl rfl (qZ rfl yA rfl (fun w1 hw1=>Strs.cell (Row.own hvl hw1) (by omega) (by omega))) ?_;refine zM (v:=.tuple #[bo_ (holdV a (l.getD (((k:Int)).toNat) []) []),bo_ (holdK a (l.getD (((k:Int)).toNat) []) [])]) rfl rfl rfl (qH rfl Tryz.call67 rfl zZ (fun w1 hw1=>sIn_ok a (l.getD (((k:Int)).toNat) []) w1 hsa hfk)) ?_;refine zC 1 rfl (zM (v:=bo_ (holdV a (l.getD (((k:Int)).toNat) []) [])) rfl rfl rfl (qX rfl rfl rfl) ?_);refine zM (v:=bo_ (holdK a (l.getD (((k:Int)).toNat) []) [])) rfl rfl rfl (qX rfl rfl rfl) ?_;refine zC 2 rfl (zK (zD [2,3,4,5,9,10,11] [_,_,_,_,_,_,_] rfl ?_));refine zE (jG yE (fun _ h=>h.drawn) (by kernel_rfl) ?_);refine zM rfl rfl rfl (qM (cs:=#[i6_ b.n,str b.set,str b.rel]) 0 rfl qG rfl rfl qD) ?_;refine zC 2 rfl (zM (v:=.pointer (some (sAt vl ((k:Int))))) rfl rfl rfl (xD rfl xW qF rfl rfl (by omega) (by rw [strs_length];omega) (fun w1 hw1=>Row.own hvl hw1)) ?_);refine zM (v:=str (l.getD (((k:Int)).toNat) [])) rfl rfl rfl (qZ rfl yA rfl (fun w1 hw1=>Strs.cell (Row.own hvl hw1) (by omega) (by omega))) ?_;refine zM (v:=.tuple #[bo_ (holdV b (l.getD (((k:Int)).toNat) []) []),bo_ (holdK b (l.getD (((k:Int)).toNat) []) [])]) rfl rfl rfl (qH rfl Tryz.call67 rfl zZ (fun w1 hw1=>sIn_ok b (l.getD (((k:Int)).toNat) []) w1 hsb hfk)) ?_;refine zC 1 rfl (zM (v:=bo_ (holdV b (l.getD (((k:Int)).toNat) []) [])) rfl rfl rfl (qX rfl rfl rfl) ?_);refine zM (v:=bo_ (holdK b (l.getD (((k:Int)).toNat) []) [])) rfl rfl rfl (qX rfl rfl rfl) ?_;refine zC 2 rfl (zK (zD [2,3,4,5,9,10,11,12,13] [_,_,_,_,_,_,_,_,_] rfl ?_));refine zE (zB (zC 3 rfl (yT fun b40 hg40=>?_)))
  cases b40
  ·
   replace hg40:=not_false hg40;refine zC 4 rfl (yT fun b44 hg44=>?_)
   cases b44
   ·
    replace hg44:=not_false hg44;refine zC 2 rfl (zM (v:=.pointer (some (sAt vl ((k:Int))))) rfl rfl rfl (xD rfl xW qF rfl rfl (by omega) (by rw [strs_length];omega) (fun w1 hw1=>Row.own hvl hw1)) ?_);refine zM (v:=str (l.getD (((k:Int)).toNat) [])) rfl rfl rfl (qZ rfl yA rfl (fun w1 hw1=>Strs.cell (Row.own hvl hw1) (by omega) (by omega))) ?_;refine zM (v:=i6_ (rankI (l.getD (((k:Int)).toNat) []))) rfl rfl rfl (qH rfl Tryz.call68 rfl zZ (fun w1 hw1=>sRank_ok (l.getD (((k:Int)).toNat) []) w1 hfk)) ?_;refine zC 3 rfl (yT fun b52 hg52=>?_)
    cases b52
    ·
     replace hg52:=zH hg52;refine zQ rfl rfl rfl (zQ rfl rfl rfl (zQ rfl rfl rfl (zC 2 rfl (zK (zD [2,3,4,5,9,57] [_,_,_,_,_,_] rfl ?_)))));refine xQ rfl ?_;refine qY (zD [2,3,4,5,9] [_,_,_,_,_] rfl ?_);refine zB (zC 1 rfl (zM rfl rfl rfl (qV rfl rfl rfl (by omega) (by omega)) ?_));refine zC 1 rfl (zK (yX (k+1) ⟨by omega,fun i hi=>(Nat.lt_succ_iff_lt_or_eq.1 hi).elim (hall i) (fun e=>by subst e;exact agreeAt_yes (by assumption) (by assumption) (by first | exact .inl (by assumption) | exact .inr (bne_false (by assumption))))⟩ (by omega) (Sub.sel [2,3,4,5,9] rfl) (fun _ h=>h)))
    replace hg52:=zJ hg52;refine zC 2 rfl (zM rfl rfl rfl (OpQ.bne rfl xS rfl rfl) ?_);refine zC 2 rfl (zK (zD [2,3,4,5,9,57] [_,_,_,_,_,_] rfl ?_));refine qL (b:=(holdV a (l.getD (((k:Int)).toNat) []) []) != (holdV b (l.getD (((k:Int)).toNat) []) [])) rfl (fun h57=>?_) (fun h57=>?_)
    ·
     refine zE (zB (zC 1 rfl (zK (zD [8] [_] rfl ?_))));refine qK (qT rfl rfl fun w' hw=>?_)
     exact ⟨ret_b (agree_no hkl (agreeAt_no (by first | exact .inl (by assumption) | exact .inr (.inl (by assumption)) | exact .inr (.inr ⟨by assumption,bne_true (by assumption)⟩)))).symm,hw.below⟩
    refine qY (zD [2,3,4,5,9] [_,_,_,_,_] rfl ?_);refine zB (zC 1 rfl (zM rfl rfl rfl (qV rfl rfl rfl (by omega) (by omega)) ?_));refine zC 1 rfl (zK (yX (k+1) ⟨by omega,fun i hi=>(Nat.lt_succ_iff_lt_or_eq.1 hi).elim (hall i) (fun e=>by subst e;exact agreeAt_yes (by assumption) (by assumption) (by first | exact .inl (by assumption) | exact .inr (bne_false (by assumption))))⟩ (by omega) (Sub.sel [2,3,4,5,9] rfl) (fun _ h=>h)))
   replace hg44:=not_true hg44;refine zQ rfl rfl rfl (zQ rfl rfl rfl (zQ rfl rfl rfl (zQ rfl rfl rfl (zQ rfl rfl rfl (zQ rfl rfl rfl (zQ rfl rfl rfl ?_))))));refine zQ rfl rfl rfl (zQ rfl rfl rfl (zQ rfl rfl rfl (zQ rfl rfl rfl (zQ rfl rfl rfl (zC 1 rfl (zK (zD [2,3,4,5,9,57] [_,_,_,_,_,_] rfl ?_)))))));refine yQ rfl ?_;refine zE (zB (zC 1 rfl (zK (zD [8] [_] rfl ?_))));refine qK (qT rfl rfl fun w' hw=>?_)
   exact ⟨ret_b (agree_no hkl (agreeAt_no (by first | exact .inl (by assumption) | exact .inr (.inl (by assumption)) | exact .inr (.inr ⟨by assumption,bne_true (by assumption)⟩)))).symm,hw.below⟩
  replace hg40:=not_true hg40;refine zQ rfl rfl rfl (zQ rfl rfl rfl ?_);refine zC 2 rfl (zQ rfl rfl rfl (zQ rfl rfl rfl (zQ rfl rfl rfl (zQ rfl rfl rfl (zQ rfl rfl rfl (zQ rfl rfl rfl (zQ rfl rfl rfl ?_)))))));refine zQ rfl rfl rfl (zQ rfl rfl rfl (zQ rfl rfl rfl (zQ rfl rfl rfl (zQ rfl rfl rfl (zC 1 rfl (zK (zD [2,3,4,5,9,57] [_,_,_,_,_,_] rfl ?_)))))));refine yQ rfl ?_;refine zE (zB (zC 1 rfl (zK (zD [8] [_] rfl ?_))));refine qK (qT rfl rfl fun w' hw=>?_)
  exact ⟨ret_b (agree_no hkl (agreeAt_no (by first | exact .inl (by assumption) | exact .inr (.inl (by assumption)) | exact .inr (.inr ⟨by assumption,bne_true (by assumption)⟩)))).symm,hw.below⟩
 replace h17:=zH h17;refine xK rfl ?_;refine zD [4,5] [_,_] rfl ?_;refine zE (zB (zM rfl rfl rfl (qM (cs:=#[i6_ a.n,str a.set,str a.rel]) 1 rfl qG rfl rfl qD) ?_));refine zM (v:=bo_ (validB a)) rfl rfl rfl (qH rfl Tryz.call51 rfl zZ (fun w1 hw1=>sValid_ok a w1 hsa)) ?_;refine zC 1 rfl (yT fun b60 hg60=>?_)
 cases b60
 ·
  refine zQ rfl rfl rfl (zQ rfl rfl rfl (zC 2 rfl (zK (zD [8] [_] rfl ?_))));refine qK (qT rfl rfl fun w' hw=>?_)
  exact ⟨ret_b (by rw [agree_all fun i hi=>hall i (by omega)];first | (rw [show validB a=false by assumption];rfl) | (rw [show validB a=true by assumption,Bool.true_and];done)),hw.below⟩
 refine zM rfl rfl rfl (qM (cs:=#[i6_ b.n,str b.set,str b.rel]) 0 rfl qG rfl rfl qD) ?_;refine zM (v:=bo_ (validB b)) rfl rfl rfl (qH rfl Tryz.call51 rfl zZ (fun w1 hw1=>sValid_ok b w1 hsb)) ?_;refine zC 2 rfl (zK (zD [8] [_] rfl ?_));refine qK (qT rfl rfl fun w' hw=>?_)
 exact ⟨ret_b (by rw [agree_all fun i hi=>hall i (by omega)];first | (rw [show validB a=false by assumption];rfl) | (rw [show validB a=true by assumption,Bool.true_and];done)),hw.below⟩
set_option maxHeartbeats 400000 in
/-- impl.AgreeUpTo -/
theorem iAgree_ok (a b:St) (vl:Value) (l:List (List UInt8)) (r:Int) (w:World) (hsa:a.Small) (hsb:b.Small) (hvl:Strs w vl l) (_hl:l.length≤1048576) (_hls:∀ s∈l,s.length≤1048576) :
    Calls Tryz.prog 29 [vS a,vS b,vl,i6_ r].toArray w fun en w'=>en=.returned (.bool (agreeB a b l r))∧Below w.heap.size w w':=by
 refine fnStart (n:=59) (e:=[(0,vS a),(1,vS b),(2,vl),(3,i6_ r)]) Tryz.func29 rfl rfl rfl rfl Ends.both ?_;refine zE (qU (xR (v:=vS a) rfl rfl rfl rfl rfl fun p4 hp4=>?_))
 show Ll _ _ (Own _ _ [_]) _ _ ((4,pt_ p4)::_) _ _ _;refine xR (v:=vS b) rfl rfl rfl rfl rfl fun p5 hp5=>?_
 show Ll _ _ (Own _ _ [_,_]) _ _ ((5,pt_ p5)::_) _ _ _;refine qW 1 rfl (zL (zD [2,3,4,5] [_,_,_,_] rfl ?_));refine zE (zE (zB (zM rfl rfl rfl (qM (cs:=#[i6_ a.n,str a.set,str a.rel]) 1 rfl qG rfl rfl qD) ?_)));refine zM (v:=bo_ (validB a)) rfl rfl rfl (qH rfl Tryz.call50 rfl zZ (fun w1 hw1=>isStructure_ok a w1 hsa)) ?_;refine zC 2 rfl (yT fun b19 hg19=>?_)
 cases b19
 ·
  replace hg19:=not_false hg19;refine zM rfl rfl rfl (qM (cs:=#[i6_ b.n,str b.set,str b.rel]) 0 rfl qG rfl rfl qD) ?_;refine zM (v:=bo_ (validB b)) rfl rfl rfl (qH rfl Tryz.call50 rfl zZ (fun w1 hw1=>isStructure_ok b w1 hsb)) ?_;refine zC 2 rfl (zK (zD [2,3,4,5,23] [_,_,_,_,_] rfl ?_));refine qL (b:=!(validB b)) rfl (fun h23=>?_) (fun h23=>?_)
  ·
   replace h23:=not_true h23;refine zE (zB (zC 1 rfl (zK (zD [8] [_] rfl ?_))));refine qK (qT rfl rfl fun w' hw=>?_)
   exact ⟨ret_b (by unfold agreeB;first | (rw [show validB a=false by assumption];rfl) | (rw [show validB b=false by assumption,Bool.and_false];rfl)),hw.below⟩
  replace h23:=not_false h23;refine qY (zD [2,3,4,5] [_,_,_,_] rfl ?_);refine zE (zB (zC 1 rfl (zK (zD [2,3,4,5,9] [_,_,_,_,_] rfl ?_))));refine zE (zE (zB (zC 1 rfl (zM (v:=i6_ ((l.length:Int))) rfl rfl rfl (xG rfl xW rfl (strs_length _) (fun w1 hw1=>Row.own hvl hw1)) ?_))));refine zC 1 rfl (zK (zD [3,4,5,9,24,25,26] [_,_,_,_,_,_,_] rfl ?_));refine yC (jS (σ:=Nat×Bool) (fun ⟨k,g⟩=>k≤l.length∧g=(l.take k).all (agreeAt a b r)) (fun ⟨k,g⟩=>[(3,i6_ r),(4,pt_ p4),(5,pt_ p5),(9,bo_ g),(24,vl),(25,i6_ ((l.length:Int))),(26,i6_ ((k:Int)))]) (fun ⟨k,g⟩=>Own w.heap.size w [bk_ p5 #[i6_ b.n,str b.set,str b.rel] 24,bk_ p4 #[i6_ a.n,str a.set,str a.rel] 24]) (fun ⟨k,g⟩=>l.length - k) ((0,true)) ⟨by omega,rfl⟩ (Sub.sel [3,4,5,9,24,25,26] rfl) (fun _ h=>h) ?_)
  rintro ⟨k,g⟩ ⟨hk,hg⟩
  dsimp only;refine zE (zB (zC 1 rfl (zK (zD [3,4,5,9,24,25,26,27] [_,_,_,_,_,_,_,_] rfl ?_))));refine zE (qL (b:=decide (((k:Int))<((l.length:Int)))) rfl (fun h27=>?_) (fun h27=>?_))
  ·
   replace h27:=zJ h27
   have hkl:k<l.length:=by omega
   refine qY (zD [3,4,5,9,24,25,26] [_,_,_,_,_,_,_] rfl ?_);refine zE (yC (zE (zB (zM (v:=.pointer (some (sAt vl ((k:Int))))) rfl rfl rfl (xD rfl xW qF rfl rfl (by omega) (by rw [strs_length];omega) (fun w1 hw1=>Row.own hvl hw1)) ?_))));refine zM (v:=str (l.getD (((k:Int)).toNat) [])) rfl rfl rfl (qZ rfl yA rfl (fun w1 hw1=>Strs.cell (Row.own hvl hw1) (by omega) (by omega))) ?_;refine zC 1 rfl (zK (zD [3,4,5,9,11,24,25,26] [_,_,_,_,_,_,_,_] rfl ?_));refine zE (zB (zM rfl rfl rfl (qM (cs:=#[i6_ a.n,str a.set,str a.rel]) 1 rfl qG rfl rfl qD) ?_));refine zC 1 rfl (zM (v:=.tuple #[bo_ (holdV a (l.getD (((k:Int)).toNat) []) []),bo_ (holdK a (l.getD (((k:Int)).toNat) []) [])]) rfl rfl rfl (qH rfl Tryz.call66 rfl zZ (fun w1 hw1=>iIn_ok a (l.getD (((k:Int)).toNat) []) w1 hsa)) ?_);refine zC 1 rfl (zM (v:=bo_ (holdV a (l.getD (((k:Int)).toNat) []) [])) rfl rfl rfl (qX rfl rfl rfl) ?_);refine zM (v:=bo_ (holdK a (l.getD (((k:Int)).toNat) []) [])) rfl rfl rfl (qX rfl rfl rfl) ?_;refine zC 2 rfl (zK (zD [3,4,5,9,11,12,13,24,25,26] [_,_,_,_,_,_,_,_,_,_] rfl ?_));refine zE (zB (zM rfl rfl rfl (qM (cs:=#[i6_ b.n,str b.set,str b.rel]) 0 rfl qG rfl rfl qD) ?_));refine zC 1 rfl (zM (v:=.tuple #[bo_ (holdV b (l.getD (((k:Int)).toNat) []) []),bo_ (holdK b (l.getD (((k:Int)).toNat) []) [])]) rfl rfl rfl (qH rfl Tryz.call66 rfl zZ (fun w1 hw1=>iIn_ok b (l.getD (((k:Int)).toNat) []) w1 hsb)) ?_);refine zC 1 rfl (zM (v:=bo_ (holdV b (l.getD (((k:Int)).toNat) []) [])) rfl rfl rfl (qX rfl rfl rfl) ?_);refine zM (v:=bo_ (holdK b (l.getD (((k:Int)).toNat) []) [])) rfl rfl rfl (qX rfl rfl rfl) ?_;refine zC 2 rfl (zK (zD [3,4,5,9,11,12,13,14,15,24,25,26] [_,_,_,_,_,_,_,_,_,_,_,_] rfl ?_));refine zE (zE (zB (zC 3 rfl (yT fun b44 hg44=>?_))))
   cases b44
   ·
    replace hg44:=not_false hg44;refine zC 3 rfl (zK (zD [3,4,5,9,11,12,14,24,25,26,47] [_,_,_,_,_,_,_,_,_,_,_] rfl ?_));refine qL (b:=!(holdK b (l.getD (((k:Int)).toNat) []) [])) rfl (fun h47=>?_) (fun h47=>?_)
    ·
     replace h47:=not_true h47;refine zE (zB (zC 1 rfl (zK (zD [8] [_] rfl ?_))));refine qK (qT rfl rfl fun w' hw=>?_)
     exact ⟨ret_b (agree_no hkl (agreeAt_no (by first | exact .inl (by assumption) | exact .inr (.inl (by assumption)) | exact .inr (.inr ⟨by assumption,bne_true (by assumption)⟩)))).symm,hw.below⟩
    replace h47:=not_false h47;refine qY (zD [3,4,5,9,11,12,14,24,25,26] [_,_,_,_,_,_,_,_,_,_] rfl ?_);refine zE (zB (zC 1 rfl (zM (v:=i6_ (rankI (l.getD (((k:Int)).toNat) []))) rfl rfl rfl (qH rfl Tryz.call14 rfl zZ (fun w1 hw1=>iRank_ok (l.getD (((k:Int)).toNat) []) w1)) ?_)));refine zC 3 rfl (yT fun b52 hg52=>?_)
    cases b52
    ·
     replace hg52:=zH hg52;refine zQ rfl rfl rfl (zQ rfl rfl rfl (zQ rfl rfl rfl (zC 1 rfl (zK (zD [3,4,5,9,24,25,26,56] [_,_,_,_,_,_,_,_] rfl ?_)))));refine xQ rfl ?_;refine qY (zD [3,4,5,9,24,25,26] [_,_,_,_,_,_,_] rfl ?_);refine zB (zM rfl rfl rfl (qV rfl rfl rfl (by omega) (by omega)) ?_);refine zC 1 rfl (zK (yX ((k+1,g)) ⟨by omega,by rw [all_step hkl,agreeAt_yes (by assumption) (by assumption) (by first | exact .inl (by assumption) | exact .inr (bne_false (by assumption))),Bool.and_true];exact hg⟩ (by omega) (Sub.sel [3,4,5,9,24,25,26] rfl) (fun _ h=>h)))
    replace hg52:=zJ hg52;refine zC 2 rfl (zM rfl rfl rfl (OpQ.bne rfl xS rfl rfl) ?_);refine zC 1 rfl (zK (zD [3,4,5,9,24,25,26,56] [_,_,_,_,_,_,_,_] rfl ?_));refine qL (b:=(holdV a (l.getD (((k:Int)).toNat) []) []) != (holdV b (l.getD (((k:Int)).toNat) []) [])) rfl (fun h56=>?_) (fun h56=>?_)
    ·
     refine zB (zC 1 rfl (zK (zD [3,4,5,9,24,25,26] [_,_,_,_,_,_,_] rfl ?_)));refine zB (zM rfl rfl rfl (qV rfl rfl rfl (by omega) (by omega)) ?_);refine zC 1 rfl (zK (yX ((k+1,false)) ⟨by omega,by rw [all_step hkl,agreeAt_no (.inr (.inr ⟨by assumption,bne_true (by assumption)⟩)),Bool.and_false]⟩ (by omega) (Sub.sel [3,4,5,9,24,25,26] rfl) (fun _ h=>h)))
    refine qY (zD [3,4,5,9,24,25,26] [_,_,_,_,_,_,_] rfl ?_);refine zB (zM rfl rfl rfl (qV rfl rfl rfl (by omega) (by omega)) ?_);refine zC 1 rfl (zK (yX ((k+1,g)) ⟨by omega,by rw [all_step hkl,agreeAt_yes (by assumption) (by assumption) (by first | exact .inl (by assumption) | exact .inr (bne_false (by assumption))),Bool.and_true];exact hg⟩ (by omega) (Sub.sel [3,4,5,9,24,25,26] rfl) (fun _ h=>h)))
   replace hg44:=not_true hg44;refine zQ rfl rfl rfl (zQ rfl rfl rfl (zC 1 rfl (zK (zD [3,4,5,9,11,12,14,24,25,26,47] [_,_,_,_,_,_,_,_,_,_,_] rfl ?_))));refine yQ rfl ?_;refine zE (zB (zC 1 rfl (zK (zD [8] [_] rfl ?_))));refine qK (qT rfl rfl fun w' hw=>?_)
   exact ⟨ret_b (agree_no hkl (agreeAt_no (by first | exact .inl (by assumption) | exact .inr (.inl (by assumption)) | exact .inr (.inr ⟨by assumption,bne_true (by assumption)⟩)))).symm,hw.below⟩
  replace h27:=zH h27;refine xK rfl ?_;refine zD [9] [_] rfl ?_;refine zE (zB (zC 2 rfl (zK (zD [8] [_] rfl ?_))));refine qK (qT rfl rfl fun w' hw=>?_)
  exact ⟨ret_b (agree_end (k:=k) (by omega) (by assumption) (by assumption) hg),hw.below⟩
 replace hg19:=not_true hg19;refine zQ rfl rfl rfl (zQ rfl rfl rfl (zQ rfl rfl rfl (zC 1 rfl (zK (zD [2,3,4,5,23] [_,_,_,_,_] rfl ?_)))));refine yQ rfl ?_;refine zE (zB (zC 1 rfl (zK (zD [8] [_] rfl ?_))));refine qK (qT rfl rfl fun w' hw=>?_)
 exact ⟨ret_b (by unfold agreeB;first | (rw [show validB a=false by assumption];rfl) | (rw [show validB b=false by assumption,Bool.and_false];rfl)),hw.below⟩
end Go.Proofs.YtefiibghfgfdnaaGreatDoor
namespace Go.Proofs.YtefiibghfgfdnaaGreatDoor
open Go.RowKit Go.Wk
set_option linter.unusedSimpArgs false
set_option maxHeartbeats 400000 in
/-- impl.varsText -/
theorem varsT_ok (m:Nat) (w:World) (hm:m<16) :
    Calls Tryz.prog 47 [i6_ ((m:Int))].toArray w fun en w'=>en=.returned (str (varsS m 4))∧Below w.heap.size w w':=by
 refine fnStart (n:=21) (e:=[(0,i6_ ((m:Int)))]) Tryz.func47 rfl rfl rfl rfl Ends.both ?_;refine zE (zB (zM (v:=str ([])) rfl rfl rfl (jO rfl rfl) ?_));refine zK (zD [0] [_] rfl ?_);refine zE (zB (zM (v:=str ([])) rfl rfl rfl (jO rfl rfl) ?_));refine zK (zD [0,3] [_,_] rfl ?_);refine zE (zE (zB (zC 1 rfl (zK (zD [0,3,5] [_,_,_] rfl ?_)))));refine yC (jS (σ:=Nat) (fun i=>i≤4) (fun i=>[(0,i6_ ((m:Int))),(3,str (varsS m i)),(5,i6_ ((i:Int)))]) (fun i=>Own w.heap.size w []) (fun i=>4 - i) (0) (by omega) (Sub.cons rfl (Sub.cons (by rfl) (Sub.sel [5] rfl))) (fun _ h=>h) ?_)
 rintro i hi;refine zE (zB (zC 1 rfl (zK (zD [0,3,5,6] [_,_,_,_] rfl ?_))));refine zE (qL (b:=decide (((i:Int))<(4:Int))) rfl (fun h6=>?_) (fun h6=>?_))
 ·
  replace h6:=zJ h6
  have hmi:m / 2 ^ i≤m:=Nat.div_le_self _ _
  have hvl:=varsS_len m i;refine qY (zD [0,3,5] [_,_,_] rfl ?_);refine zE (yC (zE (zB (zC 2 rfl (zK (zD [0,3,4,5] [_,_,_,_] rfl ?_))))));refine zE (zB (zC 2 rfl (zM (v:=i6_ (((m / 2 ^ i:Nat):Int))) rfl rfl rfl (OpQ.shr (a:=m) (b:=i) rfl rfl rfl (by omega)) ?_)));refine zM (v:=i6_ ((((m / 2 ^ i) &&& 1:Nat):Int))) rfl rfl rfl (OpQ.and (a:=m / 2 ^ i) (b:=1) rfl rfl rfl (by omega) (by omega)) ?_;refine zC 1 rfl (zK (zD [0,3,4,5,12] [_,_,_,_,_] rfl ?_));refine qL (b:=decide (((((m / 2 ^ i) &&& 1:Nat):Int))=(1:Int))) rfl (fun h12=>?_) (fun h12=>?_)
  ·
   replace h12:=zJ h12;refine zB (zC 3 rfl (zM rfl rfl rfl (qV rfl rfl rfl (by omega) (by omega)) ?_));refine zM (v:=str ((([97,98,99,100]).drop (((i:Int)).toNat)).take ((((i:Int))+(1:Int)).toNat - ((i:Int)).toNat))) rfl rfl rfl (yY rfl qJ rfl rfl rfl (by omega) (by omega) (by first | omega | (simp;omega))) ?_;refine zM rfl rfl rfl (yD rfl rfl rfl (by rw [name_cut (by omega)];simp only [qB,qE];omega)) ?_;refine zC 1 rfl (zK (zD [0,3,5] [_,_,_] rfl ?_));refine zB (zM rfl rfl rfl (qV rfl rfl rfl (by omega) (by omega)) ?_);refine zC 1 rfl (zK (yX (i+1) (by omega) (by omega) (Sub.cons rfl (Sub.cons (by first | (rw [varsS_yes (by assumption),← name_cut (by omega)];rfl) | (rw [varsS_no (by assumption)];rfl)) (Sub.sel [5] rfl))) (fun _ h=>h)))
  replace h12:=zH h12;refine qY (zD [0,3,5] [_,_,_] rfl ?_);refine zB (zM rfl rfl rfl (qV rfl rfl rfl (by omega) (by omega)) ?_);refine zC 1 rfl (zK (yX (i+1) (by omega) (by omega) (Sub.cons rfl (Sub.cons (by first | (rw [varsS_yes (by assumption),← name_cut (by omega)];rfl) | (rw [varsS_no (by assumption)];rfl)) (Sub.sel [5] rfl))) (fun _ h=>h)))
 replace h6:=zH h6;refine xK rfl ?_;refine zD [3] [_] rfl ?_;refine zE (zB (zC 2 rfl (zK (zD [2] [_] rfl ?_))));refine qK (qT rfl rfl fun w' hw=>?_)
 exact ⟨ret_s (by rw [show i=4 from by omega]),hw.below⟩
set_option maxHeartbeats 400000 in
/-- impl.FreeVars -/
theorem iFree_ok (f:List UInt8) (w:World) :
    Calls Tryz.prog 32 [str f].toArray w fun en w'=>en=.returned (str (freeT f))∧Below w.heap.size w w':=by
 refine fnStart (n:=13) (e:=[(0,str f)]) Tryz.func32 rfl rfl rfl rfl Ends.both ?_;refine zE (zB (zM (v:=str ([])) rfl rfl rfl (jO rfl rfl) ?_));refine zK (zD [0] [_] rfl ?_);refine zE ?_
 rcases hff1:formO f with _ | fm1
 ·
  refine qU (qW 1 rfl (vZ (σ:=Unit) (ok:=fun _=>True) (v:=fun _=>.pointer none) (hs':=fun _=>[]) (xs:=[.tmp 4]) (vs:=[str f]) rfl rfl rfl rfl uB rfl (fun w1 hw1=>(pform_ok f _ _ (([]:List (Nat×Obj))++([])) w1 hw1).mono fun en w' hR=>by rw [hff1] at hR;exact ⟨(),hR.1,trivial,hR.2⟩) fun _ _=>?_))
  show Ll _ _ (Own _ _ []) _ _ ((5,.pointer none)::_) _ _ _;refine qW 1 rfl (zL (zD [3] [_] rfl ?_));refine zE (zE (zB (zC 1 rfl (zM (v:=bo_ true) rfl rfl rfl (vB (p:=none) rfl yK rfl rfl) ?_))));refine zK (zD [3,7] [_,_] rfl ?_);refine yQ rfl ?_;refine zE (zB (zM (v:=str ([])) rfl rfl rfl (jO rfl rfl) ?_));refine zK (zD [2] [_] rfl ?_);refine qK (qT rfl rfl fun w' hw=>?_)
  exact ⟨ret_s (by unfold freeT;rw [hff1]),hw.below⟩
 have hwf_fm1:=formO_wf hff1
 have hfr_fm1:=frB_lt hwf_fm1
 have hal_fm1:=allB_lt hwf_fm1;refine qU (qW 1 rfl (vE (ok:=fun ((q,new):Nat×List (Nat×Obj))=>TreeB 67 new fm1 q) (v:=fun ((q,new):Nat×List (Nat×Obj))=>ptrV q) (new:=fun ((q,new):Nat×List (Nat×Obj))=>new) (hs:=[]) (xs:=[.tmp 4]) (vs:=[str f]) ([]:List (Nat×Obj)) rfl rfl rfl rfl uB rfl (fun w1 hw1=>(pform_ok f _ _ (([]:List (Nat×Obj))++([])) w1 hw1).mono fun en w' hR=>by rw [hff1] at hR;obtain ⟨q,new,h1,h2,h3⟩:=hR;exact ⟨(q,new),h1,h2,h3⟩) fun ⟨q5,new5⟩ hTq5=>?_))
 dsimp only at hTq5
 show Ll _ _ (Own _ _ ((new5++([])))) _ _ ((5,ptrV q5)::_) _ _ _;refine qW 1 rfl (zL (zD [3] [_] rfl ?_));refine zE (zE (zB (zC 1 rfl (zM (v:=bo_ false) rfl rfl rfl (vB (p:=some ⟨q5,0,none⟩) rfl yK rfl rfl) ?_))));refine zK (zD [3,7] [_,_] rfl ?_);refine xQ rfl ?_;refine qY (zD [3] [_] rfl ?_);refine zE (zB (zC 1 rfl (zM (v:=ptrV q5) rfl rfl rfl (zR rfl rfl) ?_)));refine zM rfl rfl rfl (zF rfl zG rfl zN rfl rfl) ?_;refine zM (v:=i6_ ((frB fm1:Int))) rfl rfl rfl (qZ rfl qA rfl (fun w1 hw1=>tree_free (TreeB.tree (yJ (qC (f:=[]) hw1)) hTq5))) ?_;refine zM (v:=str (varsS (frB fm1) 4)) rfl rfl rfl (qH rfl Tryz.call47 rfl zZ (fun w1 hw1=>varsT_ok (frB fm1) w1 (by omega))) ?_;refine zC 1 rfl (zK (zD [2] [_] rfl ?_));refine qK (qT rfl rfl fun w' hw=>?_)
 exact ⟨ret_s (by unfold freeT;rw [hff1]),hw.below⟩
set_option maxHeartbeats 400000 in
/-- impl.FormulaValid -/
theorem iFValid_ok (f:List UInt8) (w:World) :
    Calls Tryz.prog 31 [str f].toArray w fun en w'=>en=.returned (.bool (formO f).isSome)∧Below w.heap.size w w':=by
 refine fnStart (n:=6) (e:=[(0,str f)]) Tryz.func31 rfl rfl rfl rfl Ends.both ?_;refine zE (zB (zC 1 rfl (zK (zD [0] [_] rfl ?_))));refine zE ?_
 rcases hff1:formO f with _ | fm1
 ·
  refine qU (qW 1 rfl (vZ (σ:=Unit) (ok:=fun _=>True) (v:=fun _=>.pointer none) (hs':=fun _=>[]) (xs:=[.tmp 3]) (vs:=[str f]) rfl rfl rfl rfl uB rfl (fun w1 hw1=>(pform_ok f _ _ (([]:List (Nat×Obj))++([])) w1 hw1).mono fun en w' hR=>by rw [hff1] at hR;exact ⟨(),hR.1,trivial,hR.2⟩) fun _ _=>?_))
  show Ll _ _ (Own _ _ []) _ _ ((4,.pointer none)::_) _ _ _;refine zX (v:=bo_ false) rfl rfl rfl (OpQ.neNilP (p:=none) rfl yK rfl rfl) ?_;refine qW 1 rfl (zL (zD [2] [_] rfl ?_));refine qK (qT rfl rfl fun w' hw=>?_)
  exact ⟨rfl,hw.below⟩
 have hwf_fm1:=formO_wf hff1
 have hfr_fm1:=frB_lt hwf_fm1
 have hal_fm1:=allB_lt hwf_fm1;refine qU (qW 1 rfl (vE (ok:=fun ((q,new):Nat×List (Nat×Obj))=>TreeB 67 new fm1 q) (v:=fun ((q,new):Nat×List (Nat×Obj))=>ptrV q) (new:=fun ((q,new):Nat×List (Nat×Obj))=>new) (hs:=[]) (xs:=[.tmp 3]) (vs:=[str f]) ([]:List (Nat×Obj)) rfl rfl rfl rfl uB rfl (fun w1 hw1=>(pform_ok f _ _ (([]:List (Nat×Obj))++([])) w1 hw1).mono fun en w' hR=>by rw [hff1] at hR;obtain ⟨q,new,h1,h2,h3⟩:=hR;exact ⟨(q,new),h1,h2,h3⟩) fun ⟨q4,new4⟩ hTq4=>?_))
 dsimp only at hTq4
 show Ll _ _ (Own _ _ ((new4++([])))) _ _ ((4,ptrV q4)::_) _ _ _;refine zX (v:=bo_ true) rfl rfl rfl (OpQ.neNilP (p:=some ⟨q4,0,none⟩) rfl yK rfl rfl) ?_;refine qW 1 rfl (zL (zD [2] [_] rfl ?_));refine qK (qT rfl rfl fun w' hw=>?_)
 exact ⟨rfl,hw.below⟩
end Go.Proofs.YtefiibghfgfdnaaGreatDoor
namespace Go.Proofs.YtefiibghfgfdnaaGreatDoor
open Go.RowKit Go.Wk
set_option linter.unusedSimpArgs false
set_option maxHeartbeats 400000 in
/-- impl.with -/
theorem with_ok (va:Value) (xs:List Int) (x:Int) (w:World) (hva:Ints w va xs) (hs:xs.length≤1048576) :
    Calls Tryz.prog 75 [va,i6_ x].toArray w fun en w'=>∃ v,en=.returned v∧Below w.heap.size w w'∧NewRow w.heap.size 3 1 w' v (xs++[x]).length (ints (xs++[x])):=by
 refine fnStart (n:=11) (e:=[(0,va),(1,i6_ x)]) Tryz.func75 rfl rfl rfl rfl Ends.both ?_;refine zE (zB (zC 1 rfl (zK (zD [0,1] [_,_] rfl ?_))));refine zE (qU (xC (xs:=[]) (vs:=[]) xX rfl rfl rfl rfl rfl rfl (by decide) rfl fun p5 hp5=>?_));refine qW 1 rfl (jY (xs:=[]) (ys:=xs) xX 0 rfl rfl rfl rfl rfl rfl rfl rfl (by decide) rfl (fun w1 hw1=>(Row.own hva hw1)) ((xs).length) (by first | (simp;done) | (simp;omega)) (by first | (simp;done) | (simp;omega) | omega) fun p7 cap7 cur7 hp7 hcp7 hlp7 htp7=>?_)
 show Ll _ _ (Own _ _ [_]) _ _ ((7,sl_ p7 (((xs).length)) cap7)::_) _ _ _;refine qW 1 rfl (xC (xs:=[.tmp 8]) (vs:=[i6_ x]) xX rfl rfl rfl rfl rfl rfl (by decide) rfl fun p9 hp9=>?_);refine jY (xs:=xs) (ys:=[x]) xX 1 rfl rfl rfl rfl rfl rfl rfl hcp7 hlp7 (by simpa using htp7) (fun w1 hw1=>(jE hw1 (i:=0) rfl (n:=1) (cap:=1) (vs:=ints [x]) rfl rfl (by decide))) ((xs++([x])).length) (by first | (simp;done) | (simp;omega)) (by first | (simp;done) | (simp;omega) | omega) fun p10 cap10 cur10 hp10 hcp10 hlp10 htp10=>?_
 show Ll _ _ (Own _ _ [_,_]) _ _ ((10,sl_ p10 (((xs++([x])).length)) cap10)::_) _ _ _;refine qW 1 rfl (zL (zD [4] [_] rfl ?_));refine qK (qT rfl rfl fun w' hw=>?_)
 exact ⟨_,rfl,hw.below,hw.newRow (i:=1) (n:=_) rfl (by assumption) (by assumption) (by assumption)⟩
set_option maxHeartbeats 400000 in
/-- impl.replyTo -/
theorem reply_of (n:Nat) (ih:∀ (a b:St) (xs ys:List Int) (va vb:Value) (w:World),a.Fine→b.Fine→Ints w va xs→Ints w vb ys→a.Els xs→b.Els ys→xs.length=ys.length→xs.length+n≤7→Calls Tryz.prog 72 #[vS a,va,vS b,vb,.int .i64 (n:Int)] w fun en w'=>en=.returned (.bool (goB n a xs b ys))∧Below w.heap.size w w') (a b:St) (xs ys:List Int) (va vb:Value) (w:World) (ha:a.Fine) (hb:b.Fine) (hva:Ints w va xs) (hvb:Ints w vb ys) (hA:a.Els xs) (hB:b.Els ys) (hlen:xs.length=ys.length) (h7:xs.length+(n+1)≤7) (x:Int) (hx:a.El x) :
    Calls Tryz.prog 123 [vS a,va,vS b,vb,i6_ ((n:Int)+1),i6_ x].toArray w fun en w'=>en=.returned (.tuple #[.int .i64 (((rep (goB n) a xs b ys x).getD 0:Nat):Int),.bool (rep (goB n) a xs b ys x).isSome])∧Below w.heap.size w w':=by
 refine fnStart (n:=48) (e:=[(0,vS a),(1,va),(2,vS b),(3,vb),(4,i6_ ((n:Int)+1)),(5,i6_ x)]) Tryz.func123 rfl rfl rfl rfl Ends.both ?_
 have hn8:=hb.hi
 have hn1:=hb.lo
 have hL:=rep_law (g:=goB n) (a:=a) (xs:=xs) (b:=b) (ys:=ys) (x:=x);refine zE (qU (xR (v:=vS a) rfl rfl rfl rfl rfl fun p6 hp6=>?_))
 show Ll _ _ (Own _ _ [_]) _ _ ((6,pt_ p6)::_) _ _ _;refine xR (v:=vS b) rfl rfl rfl rfl rfl fun p8 hp8=>?_
 show Ll _ _ (Own _ _ [_,_]) _ _ ((8,pt_ p8)::_) _ _ _;refine qW 2 rfl (zL (zD [1,3,4,5,6,8] [_,_,_,_,_,_] rfl ?_));refine zE (zE (zB (zM rfl rfl rfl (qM (cs:=#[i6_ a.n,str a.set,str a.rel]) 1 rfl qG rfl rfl qD) ?_)));refine zC 1 rfl (zM rfl rfl rfl (qM (cs:=#[i6_ b.n,str b.set,str b.rel]) 0 rfl qG rfl rfl qD) ?_);refine zC 1 rfl (zM (v:=bo_ (sameB a xs b ys)) rfl rfl rfl (qH rfl Tryz.call71 rfl zZ (fun w1 hw1=>sameWay_ok a b xs ys va vb w1 ha hb (Row.own hva hw1) (Row.own hvb hw1) hA hB (by omega) (by omega))) ?_);refine zC 1 rfl (zK (zD [1,3,4,5,6,8,20] [_,_,_,_,_,_,_] rfl ?_));refine qL (b:=!(sameB a xs b ys)) rfl (fun h20=>?_) (fun h20=>?_)
 ·
  replace h20:=not_true h20;refine zE (zB (zC 2 rfl (zK (zD [12,13] [_,_] rfl ?_))));refine qK (yU rfl rfl rfl fun w' hw=>?_)
  exact ⟨by rw [hL.1 (by simpa using h20)];rfl,hw.below⟩
 replace h20:=not_false h20;refine qY (zD [1,3,4,5,6,8] [_,_,_,_,_,_] rfl ?_);refine zE (zE (zB (zM rfl rfl rfl (zF rfl zY rfl zN rfl rfl) ?_)));refine zM rfl rfl rfl (zT 0 rfl qA rfl rfl rfl) ?_;refine zC 1 rfl (zK (zD [1,3,4,5,6,8,22,23] [_,_,_,_,_,_,_,_] rfl ?_));refine yC (jS (σ:=Nat) (fun k=>(k:Int)≤b.n∧∀ i:Nat,i<k→(stillB a xs b ys x i&&goB n a (xs++[x]) b (ys++[(i:Int)]))=false) (fun k=>[(1,va),(3,vb),(4,i6_ ((n:Int)+1)),(5,i6_ x),(6,pt_ p6),(8,pt_ p8),(22,i6_ b.n),(23,i6_ ((k:Int)))]) (fun k=>Own w.heap.size w [bk_ p8 #[i6_ b.n,str b.set,str b.rel] 24,bk_ p6 #[i6_ a.n,str a.set,str a.rel] 24]) (fun k=>(b.n - k).toNat) (0) ⟨by omega,fun i hi=>absurd hi (by omega)⟩ (Sub.sel [1,3,4,5,6,8,22,23] rfl) (fun _ h=>h) ?_)
 rintro k ⟨hk,hall⟩;refine zE (zB (zC 1 rfl (zK (zD [1,3,4,5,6,8,22,23,24] [_,_,_,_,_,_,_,_,_] rfl ?_))));refine zE (qL (b:=decide (((k:Int))<b.n)) rfl (fun h24=>?_) (fun h24=>?_))
 ·
  replace h24:=zJ h24
  have hy:b.El k:=⟨by omega,by omega⟩;refine qY (zD [1,3,4,5,6,8,22,23] [_,_,_,_,_,_,_,_] rfl ?_);refine zE (yC (zE (zB (zC 2 rfl (zK (zD [1,3,4,5,6,8,14,22,23] [_,_,_,_,_,_,_,_,_] rfl ?_))))));refine zE (Wk.regionO [(0,true),(1,true),(2,true),(3,true),(4,true),(5,true),(6,false),(7,true),(8,true),(9,true),(10,true),(12,true),(13,true),(14,true),(16,true),(17,true),(11,false),(15,false),(18,false),(19,true)] yE (fun _ h=>h.drawn) (by kernel_rfl) ?_);refine yI rfl rfl rfl rfl rfl (qM (cs:=#[i6_ a.n,str a.set,str a.rel]) 1 rfl qG rfl rfl qD) (fun _ h=>h) ?_;refine xZ 1 rfl (fun _ h=>h) ?_;refine yI rfl rfl rfl rfl rfl (qM (cs:=#[i6_ b.n,str b.set,str b.rel]) 0 rfl qG rfl rfl qD) (fun _ h=>h) ?_;refine xZ 3 rfl (fun _ h=>h) ?_;refine yP rfl ?_;refine zX (v:=bo_ (stillB a xs b ys x ((k:Int)))) rfl rfl rfl (qH rfl Tryz.call43 rfl zZ (fun w1 hw1=>stillSame_ok a b xs ys va vb x ((k:Int)) w1 (ha) (hb) ((Row.own hva hw1)) ((Row.own hvb hw1)) (hA) (hB) ((by first | (simp;done) | (simp;omega) | omega)) ((by first | (simp;done) | (simp;omega) | omega)) ((by first | assumption | exact St.Els.at (by assumption) (by omega) (by omega))) ((by first | assumption | exact St.Els.at (by assumption) (by omega) (by omega))))) ?_;refine zL (yH (fun _ h=>h) ?_);refine xZ 1 rfl (fun _ h=>h) ?_;refine Ld.bool fun b33 hg33=>?_
  cases b33
  ·
   refine vR rfl rfl rfl rfl (fun _ h=>h) ?_;refine vR rfl rfl rfl rfl (fun _ h=>h) ?_;refine vR rfl rfl rfl rfl (fun _ h=>h) ?_;refine vR rfl rfl rfl rfl (fun _ h=>h) ?_;refine vR rfl rfl rfl rfl (fun _ h=>h) ?_;refine vR rfl rfl rfl rfl (fun _ h=>h) ?_;refine vR rfl rfl rfl rfl (fun _ h=>h) ?_;refine vR rfl rfl rfl rfl (fun _ h=>h) ?_;refine yP rfl ?_;refine vX rfl rfl rfl ?_;refine zL (yH (fun _ h=>h) ?_);refine yP rfl ?_;refine vX rfl rfl rfl ?_;refine zL (yH (fun _ h=>h) ?_);refine yP rfl ?_;refine vX rfl rfl rfl ?_;refine zL (yH (fun _ h=>h) ?_);refine xZ 1 rfl (fun _ h=>h) ?_;refine vV ?_;refine zD [1,3,4,5,6,8,14,22,23,45] [_,_,_,_,_,_,_,_,_,_] rfl ?_;refine xQ rfl ?_;refine qY (zD [1,3,4,5,6,8,22,23] [_,_,_,_,_,_,_,_] rfl ?_);refine zB (zM rfl rfl rfl (qV rfl rfl rfl (by omega) (by omega)) ?_);refine zC 1 rfl (zK (yX (k+1) ⟨by omega,fun i hi=>(Nat.lt_succ_iff_lt_or_eq.1 hi).elim (hall i) (fun e=>by subst e;simp_all)⟩ (by omega) (Sub.sel [1,3,4,5,6,8,22,23] rfl) (fun _ h=>h)))
  refine yI rfl rfl rfl rfl rfl (qM (cs:=#[i6_ a.n,str a.set,str a.rel]) 1 rfl qG rfl rfl qD) (fun _ h=>h) ?_;refine xZ 2 rfl (fun _ h=>h) ?_;refine yI rfl rfl rfl rfl rfl (qM (cs:=#[i6_ b.n,str b.set,str b.rel]) 0 rfl qG rfl rfl qD) (fun _ h=>h) ?_;refine xZ 3 rfl (fun _ h=>h) ?_;refine yI (v:=i6_ ((n:Int))) rfl rfl rfl rfl rfl (yO (by congr 1;omega) (jI rfl rfl rfl (by omega) (by omega))) (fun _ h=>h) ?_;refine yP rfl ?_;refine Ll.callRow (xs:=[.tmp 35,.tmp 36]) (m:=(xs++[x]).length) (vs:=ints (xs++[x])) (el:=3) (size:=1) rfl rfl rfl rfl Tryz.call75 rfl (fun w1 hw1=>with_ok va xs x w1 (Row.own hva hw1) (by omega)) fun p37 cap37 cur37 hp37 hcp37 hlp37 htp37=>?_;refine zL (yH (fun _ h=>h.tail) ?_);refine yP rfl ?_;refine Ll.callRow (xs:=[.tmp 39,.tmp 40]) (m:=(ys++[(k:Int)]).length) (vs:=ints (ys++[(k:Int)])) (el:=3) (size:=1) rfl rfl rfl rfl Tryz.call75 rfl (fun w1 hw1=>with_ok vb ys ((k:Int)) w1 (Row.own hvb hw1) (by omega)) fun p41 cap41 cur41 hp41 hcp41 hlp41 htp41=>?_;refine zL (yH (fun _ h=>h.tail.tail) ?_);refine yP rfl ?_;refine zX (v:=bo_ (goB n a (xs++[x]) b (ys++[(k:Int)]))) rfl rfl rfl (qH rfl Tryz.call72 rfl zZ (fun w1 hw1=>ih a b (xs++[x]) (ys++[(k:Int)]) (sl_ p37 ((xs++[x]).length) cap37) (sl_ p41 ((ys++[(k:Int)]).length) cap41) w1 ha hb (jE hw1 (i:=1) rfl (by simpa using htp37) (by simp) hlp37) (jE hw1 (i:=0) rfl (by simpa using htp41) (by simp) hlp41) (els_more hA hx) (els_more hB hy) (by first | (simp;done) | (simp;omega) | omega) (by first | (simp;done) | (simp;omega) | omega))) ?_;refine zL (yH (fun _ h=>h.tail.tail) ?_);refine xZ 1 rfl (fun _ h=>h.tail.tail) ?_;refine vV ?_;refine zD [1,3,4,5,6,8,14,22,23,45] [_,_,_,_,_,_,_,_,_,_] rfl ?_;refine qL (b:=goB n a (xs++[x]) b (ys++[(k:Int)])) rfl (fun h45=>?_) (fun h45=>?_)
  ·
   refine zE (zB (zC 3 rfl (zK (zD [12,13] [_,_] rfl ?_))));refine qK (yU rfl rfl rfl fun w' hw=>?_)
   exact ⟨by rw [hL.2.1 (by simpa using h20) k (by omega) hall (by simp [*])];rfl,hw.below⟩
  refine qY (zD [1,3,4,5,6,8,22,23] [_,_,_,_,_,_,_,_] rfl ?_);refine zB (zM rfl rfl rfl (qV rfl rfl rfl (by omega) (by omega)) ?_);refine zC 1 rfl (zK (yX (k+1) ⟨by omega,fun i hi=>(Nat.lt_succ_iff_lt_or_eq.1 hi).elim (hall i) (fun e=>by subst e;simp_all)⟩ (by omega) (Sub.sel [1,3,4,5,6,8,22,23] rfl) (fun _ h=>h.tail.tail)))
 replace h24:=zH h24;refine xK rfl ?_;refine zD [] [] rfl ?_;refine zE (zB (zC 2 rfl (zK (zD [12,13] [_,_] rfl ?_))));refine qK (yU rfl rfl rfl fun w' hw=>?_)
 exact ⟨by rw [hL.2.2 (fun i hi=>hall i (by omega))];rfl,hw.below⟩
set_option maxHeartbeats 400000 in
/-- impl.goesOn|zero -/
theorem goes_zero (a b:St) (xs ys:List Int) (va vb:Value) (w:World) :
    Calls Tryz.prog 72 [vS a,va,vS b,vb,i6_ 0].toArray w fun en w'=>en=.returned (.bool (goB 0 a xs b ys))∧Below w.heap.size w w':=by
 refine fnStart (n:=55) (e:=[(0,vS a),(1,va),(2,vS b),(3,vb),(4,i6_ 0)]) Tryz.func72 rfl rfl rfl rfl Ends.both ?_;refine zE (qU (xR (v:=vS a) rfl rfl rfl rfl rfl fun p5 hp5=>?_))
 show Ll _ _ (Own _ _ [_]) _ _ ((5,pt_ p5)::_) _ _ _;refine xR (v:=vS b) rfl rfl rfl rfl rfl fun p7 hp7=>?_
 show Ll _ _ (Own _ _ [_,_]) _ _ ((7,pt_ p7)::_) _ _ _;refine qW 1 rfl (zL (zD [1,3,4,5,7] [_,_,_,_,_] rfl ?_));refine zE (zE (zB (zC 2 rfl (zK (zD [1,3,4,5,7,18] [_,_,_,_,_,_] rfl ?_)))));refine qL (b:=decide ((0:Int)=(0:Int))) rfl (fun h18=>?_) (fun h18=>?_)
 ·
  replace h18:=zJ h18;refine zE (zB (zC 1 rfl (zK (zD [10] [_] rfl ?_))));refine qK (qT rfl rfl fun w' hw=>?_)
  exact ⟨rfl,hw.below⟩
 replace h18:=zH h18
 exact absurd rfl h18
set_option maxHeartbeats 400000 in
/-- impl.goesOn -/
theorem goes_of (n:Nat) (ih:∀ (a b:St) (xs ys:List Int) (va vb:Value) (w:World),a.Fine→b.Fine→Ints w va xs→Ints w vb ys→a.Els xs→b.Els ys→xs.length=ys.length→xs.length+(n+1)≤7→∀ x:Int,a.El x→Calls Tryz.prog 123 #[vS a,va,vS b,vb,.int .i64 ((n:Int)+1),.int .i64 x] w fun en w'=>en=.returned (.tuple #[.int .i64 (((rep (goB n) a xs b ys x).getD 0:Nat):Int),.bool (rep (goB n) a xs b ys x).isSome])∧Below w.heap.size w w') (a b:St) (xs ys:List Int) (va vb:Value) (w:World) (ha:a.Fine) (hb:b.Fine) (hva:Ints w va xs) (hvb:Ints w vb ys) (hA:a.Els xs) (hB:b.Els ys) (hlen:xs.length=ys.length) (h7:xs.length+(n+1)≤7) :
    Calls Tryz.prog 72 [vS a,va,vS b,vb,i6_ ((n:Int)+1)].toArray w fun en w'=>en=.returned (.bool (goB (n+1) a xs b ys))∧Below w.heap.size w w':=by
 refine fnStart (n:=55) (e:=[(0,vS a),(1,va),(2,vS b),(3,vb),(4,i6_ ((n:Int)+1))]) Tryz.func72 rfl rfl rfl rfl Ends.both ?_
 have hn8:=hb.hi
 have hn1:=hb.lo
 have hm8:=ha.hi
 have hm1:=ha.lo;refine zE (qU (xR (v:=vS a) rfl rfl rfl rfl rfl fun p5 hp5=>?_))
 show Ll _ _ (Own _ _ [_]) _ _ ((5,pt_ p5)::_) _ _ _;refine xR (v:=vS b) rfl rfl rfl rfl rfl fun p7 hp7=>?_
 show Ll _ _ (Own _ _ [_,_]) _ _ ((7,pt_ p7)::_) _ _ _;refine qW 1 rfl (zL (zD [1,3,4,5,7] [_,_,_,_,_] rfl ?_));refine zE (zE (zB (zC 2 rfl (zK (zD [1,3,4,5,7,18] [_,_,_,_,_,_] rfl ?_)))));refine qL (b:=decide (((n:Int)+1)=(0:Int))) rfl (fun h18=>?_) (fun h18=>?_)
 ·
  replace h18:=zJ h18
  omega
 replace h18:=zH h18;refine qY (zD [1,3,4,5,7] [_,_,_,_,_] rfl ?_);refine zE (zE (zB (zM rfl rfl rfl (zF rfl zY rfl zN rfl rfl) ?_)));refine zM rfl rfl rfl (zT 1 rfl qA rfl rfl rfl) ?_;refine zC 1 rfl (zK (zD [1,3,4,5,7,20,21] [_,_,_,_,_,_,_] rfl ?_));refine yC (jS (σ:=Nat) (fun k=>(k:Int)≤a.n∧∀ i:Nat,i<k→(rep (goB n) a xs b ys i).isSome=true) (fun k=>[(1,va),(3,vb),(4,i6_ ((n:Int)+1)),(5,pt_ p5),(7,pt_ p7),(20,i6_ a.n),(21,i6_ ((k:Int)))]) (fun k=>Own w.heap.size w [bk_ p7 #[i6_ b.n,str b.set,str b.rel] 24,bk_ p5 #[i6_ a.n,str a.set,str a.rel] 24]) (fun k=>(a.n - k).toNat) (0) ⟨by omega,fun i hi=>absurd hi (by omega)⟩ (Sub.sel [1,3,4,5,7,20,21] rfl) (fun _ h=>h) ?_)
 rintro k ⟨hk1,hall1⟩;refine zE (zB (zC 1 rfl (zK (zD [1,3,4,5,7,20,21,22] [_,_,_,_,_,_,_,_] rfl ?_))));refine zE (qL (b:=decide (((k:Int))<a.n)) rfl (fun h22=>?_) (fun h22=>?_))
 ·
  replace h22:=zJ h22
  have hx:a.El k:=⟨by omega,by omega⟩;refine qY (zD [1,3,4,5,7,20,21] [_,_,_,_,_,_,_] rfl ?_);refine zE (yC (zE (zB (zC 2 rfl (zK (zD [1,3,4,5,7,11,20,21] [_,_,_,_,_,_,_,_] rfl ?_))))));refine zE (zB (zM rfl rfl rfl (qM (cs:=#[i6_ a.n,str a.set,str a.rel]) 1 rfl qG rfl rfl qD) ?_));refine zC 1 rfl (zM rfl rfl rfl (qM (cs:=#[i6_ b.n,str b.set,str b.rel]) 0 rfl qG rfl rfl qD) ?_);refine zC 3 rfl (zM (v:=.tuple #[i6_ ((((rep (goB n) a xs b ys ((k:Int))).getD 0:Nat):Int)),bo_ ((rep (goB n) a xs b ys ((k:Int))).isSome)]) rfl rfl rfl (qH rfl Tryz.call123 rfl zZ (fun w1 hw1=>ih a b xs ys va vb w1 ha hb (Row.own hva hw1) (Row.own hvb hw1) hA hB (by first | (simp;done) | (simp;omega) | omega) (by first | (simp;done) | (simp;omega) | omega) ((k:Int)) hx)) ?_);refine zC 1 rfl (zM (v:=i6_ ((((rep (goB n) a xs b ys ((k:Int))).getD 0:Nat):Int))) rfl rfl rfl (qX rfl rfl rfl) ?_);refine zM (v:=bo_ ((rep (goB n) a xs b ys ((k:Int))).isSome)) rfl rfl rfl (qX rfl rfl rfl) ?_;refine zC 2 rfl (zK (zD [1,3,4,5,7,13,20,21] [_,_,_,_,_,_,_,_] rfl ?_));refine zE (zB (zC 2 rfl (zK (zD [1,3,4,5,7,20,21,35] [_,_,_,_,_,_,_,_] rfl ?_))));refine qL (b:=!((rep (goB n) a xs b ys ((k:Int))).isSome)) rfl (fun h35=>?_) (fun h35=>?_)
  ·
   replace h35:=not_true h35;refine zE (zB (zC 1 rfl (zK (zD [10] [_] rfl ?_))));refine qK (qT rfl rfl fun w' hw=>?_)
   exact ⟨ret_b (go_no1 (x:=k) (by omega) (by simpa using h35)).symm,hw.below⟩
  replace h35:=not_false h35;refine qY (zD [1,3,4,5,7,20,21] [_,_,_,_,_,_,_] rfl ?_);refine zB (zM rfl rfl rfl (qV rfl rfl rfl (by omega) (by omega)) ?_);refine zC 1 rfl (zK (yX (k+1) ⟨by omega,fun i hi=>(Nat.lt_succ_iff_lt_or_eq.1 hi).elim (hall1 i) (fun e=>by subst e;assumption)⟩ (by omega) (Sub.sel [1,3,4,5,7,20,21] rfl) (fun _ h=>h)))
 replace h22:=zH h22;refine xK rfl ?_;refine zD [1,3,4,5,7] [_,_,_,_,_] rfl ?_;refine zE (zE (zB (zM rfl rfl rfl (zF rfl zY rfl zN rfl rfl) ?_)));refine zM rfl rfl rfl (zT 0 rfl qA rfl rfl rfl) ?_;refine zC 1 rfl (zK (zD [1,3,4,5,7,38,39] [_,_,_,_,_,_,_] rfl ?_));refine yC (jS (σ:=Nat) (fun m=>(m:Int)≤b.n∧∀ i:Nat,i<m→(rep (goB n) b ys a xs i).isSome=true) (fun m=>[(1,va),(3,vb),(4,i6_ ((n:Int)+1)),(5,pt_ p5),(7,pt_ p7),(38,i6_ b.n),(39,i6_ ((m:Int)))]) (fun m=>Own w.heap.size w [bk_ p7 #[i6_ b.n,str b.set,str b.rel] 24,bk_ p5 #[i6_ a.n,str a.set,str a.rel] 24]) (fun m=>(b.n - m).toNat) (0) ⟨by omega,fun i hi=>absurd hi (by omega)⟩ (Sub.sel [1,3,4,5,7,38,39] rfl) (fun _ h=>h) ?_)
 rintro m ⟨hk2,hall2⟩;refine zE (zB (zC 1 rfl (zK (zD [1,3,4,5,7,38,39,40] [_,_,_,_,_,_,_,_] rfl ?_))));refine zE (qL (b:=decide (((m:Int))<b.n)) rfl (fun h40=>?_) (fun h40=>?_))
 ·
  replace h40:=zJ h40
  have hy:b.El m:=⟨by omega,by omega⟩;refine qY (zD [1,3,4,5,7,38,39] [_,_,_,_,_,_,_] rfl ?_);refine zE (yC (zE (zB (zC 2 rfl (zK (zD [1,3,4,5,7,14,38,39] [_,_,_,_,_,_,_,_] rfl ?_))))));refine zE (zB (zM rfl rfl rfl (qM (cs:=#[i6_ b.n,str b.set,str b.rel]) 0 rfl qG rfl rfl qD) ?_));refine zC 1 rfl (zM rfl rfl rfl (qM (cs:=#[i6_ a.n,str a.set,str a.rel]) 1 rfl qG rfl rfl qD) ?_);refine zC 3 rfl (zM (v:=.tuple #[i6_ ((((rep (goB n) b ys a xs ((m:Int))).getD 0:Nat):Int)),bo_ ((rep (goB n) b ys a xs ((m:Int))).isSome)]) rfl rfl rfl (qH rfl Tryz.call123 rfl zZ (fun w1 hw1=>ih b a ys xs vb va w1 hb ha (Row.own hvb hw1) (Row.own hva hw1) hB hA (by first | (simp;done) | (simp;omega) | omega) (by first | (simp;done) | (simp;omega) | omega) ((m:Int)) hy)) ?_);refine zC 1 rfl (zM (v:=i6_ ((((rep (goB n) b ys a xs ((m:Int))).getD 0:Nat):Int))) rfl rfl rfl (qX rfl rfl rfl) ?_);refine zM (v:=bo_ ((rep (goB n) b ys a xs ((m:Int))).isSome)) rfl rfl rfl (qX rfl rfl rfl) ?_;refine zC 2 rfl (zK (zD [1,3,4,5,7,16,38,39] [_,_,_,_,_,_,_,_] rfl ?_));refine zE (zB (zC 2 rfl (zK (zD [1,3,4,5,7,38,39,53] [_,_,_,_,_,_,_,_] rfl ?_))));refine qL (b:=!((rep (goB n) b ys a xs ((m:Int))).isSome)) rfl (fun h53=>?_) (fun h53=>?_)
  ·
   replace h53:=not_true h53;refine zE (zB (zC 1 rfl (zK (zD [10] [_] rfl ?_))));refine qK (qT rfl rfl fun w' hw=>?_)
   exact ⟨ret_b (go_no2 (y:=m) (by omega) (by simpa using h53)).symm,hw.below⟩
  replace h53:=not_false h53;refine qY (zD [1,3,4,5,7,38,39] [_,_,_,_,_,_,_] rfl ?_);refine zB (zM rfl rfl rfl (qV rfl rfl rfl (by omega) (by omega)) ?_);refine zC 1 rfl (zK (yX (m+1) ⟨by omega,fun i hi=>(Nat.lt_succ_iff_lt_or_eq.1 hi).elim (hall2 i) (fun e=>by subst e;assumption)⟩ (by omega) (Sub.sel [1,3,4,5,7,38,39] rfl) (fun _ h=>h)))
 replace h40:=zH h40;refine xK rfl ?_;refine zD [] [] rfl ?_;refine zE (zB (zC 1 rfl (zK (zD [10] [_] rfl ?_))));refine qK (qT rfl rfl fun w' hw=>?_)
 exact ⟨ret_b (go_yes (fun i hi=>hall1 i (by omega)) (fun i hi=>hall2 i (by omega))).symm,hw.below⟩
theorem goes_ok:∀ n:Nat,∀ (a b:St) (xs ys:List Int) (va vb:Value) (w:World),a.Fine→b.Fine→Ints w va xs→Ints w vb ys→a.Els xs→b.Els ys→xs.length=ys.length→xs.length+n≤7→Calls Tryz.prog 72 #[vS a,va,vS b,vb,.int .i64 (n:Int)] w fun en w'=>en=.returned (.bool (goB n a xs b ys))∧Below w.heap.size w w'
  | 0=>fun a b xs ys va vb w _ _ _ _ _ _ _ _=>goes_zero a b xs ys va vb w
  | n+1=>fun a b xs ys va vb w ha hb hva hvb hA hB hl h7 =>
    goes_of n (fun a b xs ys va vb w ha hb hva hvb hA hB hl h7 x hx=>reply_of n (goes_ok n) a b xs ys va vb w ha hb hva hvb hA hB hl h7 x hx) a b xs ys va vb w ha hb hva hvb hA hB hl h7
theorem goes_at (r:Int) (h0:0≤r):∀ (a b:St) (xs ys:List Int) (va vb:Value) (w:World),a.Fine→b.Fine→Ints w va xs→Ints w vb ys→a.Els xs→b.Els ys→xs.length=ys.length→xs.length+r.toNat≤7→Calls Tryz.prog 72 #[vS a,va,vS b,vb,.int .i64 r] w fun en w'=>en=.returned (.bool (goB r.toNat a xs b ys))∧Below w.heap.size w w':=by
  have h:=goes_ok r.toNat
  rw [Int.toNat_of_nonneg h0] at h
  exact h
set_option maxHeartbeats 400000 in
/-- impl.isGame -/
theorem isGame_ok (a b:St) (xs ys:List Int) (va vb:Value) (w:World) (hsa:a.Small) (hsb:b.Small) (hva:Ints w va xs) (hvb:Ints w vb ys) (hs1:xs.length≤140737488355328) (hs2:ys.length≤140737488355328) (r:Int) :
    Calls Tryz.prog 36 [vS a,va,vS b,vb,i6_ r].toArray w fun en w'=>en=.returned (.bool (gameB a xs b ys r))∧Below w.heap.size w w':=by
 refine fnStart (n:=24) (e:=[(0,vS a),(1,va),(2,vS b),(3,vb),(4,i6_ r)]) Tryz.func36 rfl rfl rfl rfl Ends.both ?_;refine zE (qU (xR (v:=vS a) rfl rfl rfl rfl rfl fun p5 hp5=>?_))
 show Ll _ _ (Own _ _ [_]) _ _ ((5,pt_ p5)::_) _ _ _;refine xR (v:=vS b) rfl rfl rfl rfl rfl fun p7 hp7=>?_
 show Ll _ _ (Own _ _ [_,_]) _ _ ((7,pt_ p7)::_) _ _ _;refine qW 1 rfl (zL (zD [1,3,4,5,7] [_,_,_,_,_] rfl ?_));refine zE (zB (zM rfl rfl rfl (qM (cs:=#[i6_ a.n,str a.set,str a.rel]) 1 rfl qG rfl rfl qD) ?_));refine zC 1 rfl (zM rfl rfl rfl (qM (cs:=#[i6_ b.n,str b.set,str b.rel]) 0 rfl qG rfl rfl qD) ?_);refine zC 1 rfl (zM (v:=bo_ (listsB a xs b ys)) rfl rfl rfl (qH rfl Tryz.call42 rfl zZ (fun w1 hw1=>areLists_ok a b xs ys va vb w1 hsa hsb (Row.own hva hw1) (Row.own hvb hw1) (by first | (simp;done) | (simp;omega) | omega) (by first | (simp;done) | (simp;omega) | omega))) ?_);refine zC 1 rfl (yT fun b16 hg16=>?_)
 cases b16
 ·
  refine zQ rfl rfl rfl (zQ rfl rfl rfl (zC 2 rfl (zQ rfl rfl rfl (zQ rfl rfl rfl (zC 2 rfl (zK (zD [10] [_] rfl ?_)))))));refine qK (qT rfl rfl fun w' hw=>?_)
  exact ⟨ret_b (by unfold gameB inB;first | (simp_all;done) | (simp_all;omega)),hw.below⟩
 refine zC 4 rfl (yT fun b20 hg20=>?_)
 cases b20
 ·
  replace hg20:=zH hg20;refine zQ rfl rfl rfl (zQ rfl rfl rfl (zC 2 rfl (zK (zD [10] [_] rfl ?_))));refine qK (qT rfl rfl fun w' hw=>?_)
  exact ⟨ret_b (by unfold gameB inB;first | (simp_all;done) | (simp_all;omega)),hw.below⟩
 replace hg20:=zJ hg20;refine zC 4 rfl (zK (zD [10] [_] rfl ?_));refine qK (qT rfl rfl fun w' hw=>?_)
 exact ⟨ret_b (by unfold gameB inB;first | (simp_all;done) | (simp_all;omega)),hw.below⟩
set_option maxHeartbeats 400000 in
/-- impl.secondWins -/
theorem wins_ok (a b:St) (xs ys:List Int) (va vb:Value) (w:World) (ha:a.Fine) (hb:b.Fine) (hva:Ints w va xs) (hvb:Ints w vb ys) (hA:a.Els xs) (hB:b.Els ys) (hlen:xs.length=ys.length) (h4:xs.length≤4) (r:Int) (h0:0≤r) (h3:r≤3) :
    Calls Tryz.prog 37 [vS a,va,vS b,vb,i6_ r].toArray w fun en w'=>en=.returned (.bool (winB r.toNat a xs b ys))∧Below w.heap.size w w':=by
 refine fnStart (n:=24) (e:=[(0,vS a),(1,va),(2,vS b),(3,vb),(4,i6_ r)]) Tryz.func37 rfl rfl rfl rfl Ends.both ?_;refine zE (qU (xR (v:=vS a) rfl rfl rfl rfl rfl fun p5 hp5=>?_))
 show Ll _ _ (Own _ _ [_]) _ _ ((5,pt_ p5)::_) _ _ _;refine xR (v:=vS b) rfl rfl rfl rfl rfl fun p7 hp7=>?_
 show Ll _ _ (Own _ _ [_,_]) _ _ ((7,pt_ p7)::_) _ _ _;refine qW 1 rfl (zL (zD [1,3,4,5,7] [_,_,_,_,_] rfl ?_));refine zE (zB (zM rfl rfl rfl (qM (cs:=#[i6_ a.n,str a.set,str a.rel]) 1 rfl qG rfl rfl qD) ?_));refine zC 1 rfl (zM rfl rfl rfl (qM (cs:=#[i6_ b.n,str b.set,str b.rel]) 0 rfl qG rfl rfl qD) ?_);refine zC 1 rfl (zM (v:=bo_ (sameB a xs b ys)) rfl rfl rfl (qH rfl Tryz.call71 rfl zZ (fun w1 hw1=>sameWay_ok a b xs ys va vb w1 ha hb (Row.own hva hw1) (Row.own hvb hw1) hA hB (by omega) (by omega))) ?_);refine zC 1 rfl (yT fun b16 hg16=>?_)
 cases b16
 ·
  refine zQ rfl rfl rfl ?_;refine zQ rfl rfl rfl (zQ rfl rfl rfl (zQ rfl rfl rfl (zQ rfl rfl rfl (zQ rfl rfl rfl (zC 2 rfl (zK (zD [10] [_] rfl ?_)))))));refine qK (qT rfl rfl fun w' hw=>?_)
  exact ⟨ret_b (by unfold winB;simp [*]),hw.below⟩
 refine zM rfl rfl rfl (qM (cs:=#[i6_ a.n,str a.set,str a.rel]) 1 rfl qG rfl rfl qD) ?_;refine zC 1 rfl (zM rfl rfl rfl (qM (cs:=#[i6_ b.n,str b.set,str b.rel]) 0 rfl qG rfl rfl qD) ?_);refine zC 2 rfl (zM (v:=bo_ (goB r.toNat a xs b ys)) rfl rfl rfl (qH rfl Tryz.call72 rfl zZ (fun w1 hw1=>goes_at r h0 a b xs ys va vb w1 ha hb (Row.own hva hw1) (Row.own hvb hw1) hA hB (by first | (simp;done) | (simp;omega) | omega) (by first | (simp;done) | (simp;omega) | omega))) ?_);refine zC 2 rfl (zK (zD [10] [_] rfl ?_));refine qK (qT rfl rfl fun w' hw=>?_)
 exact ⟨ret_b (by unfold winB;simp [*]),hw.below⟩
set_option maxHeartbeats 400000 in
/-- impl.SecondWins -/
theorem iWins_ok (a b:St) (xs ys:List Int) (va vb:Value) (w:World) (hsa:a.Small) (hsb:b.Small) (hva:Ints w va xs) (hvb:Ints w vb ys) (hs1:xs.length≤140737488355328) (hs2:ys.length≤140737488355328) (r:Int) :
    Calls Tryz.prog 12 [vS a,va,vS b,vb,i6_ r].toArray w fun en w'=>en=.returned (.bool (secB a xs b ys r))∧Below w.heap.size w w':=by
 refine fnStart (n:=25) (e:=[(0,vS a),(1,va),(2,vS b),(3,vb),(4,i6_ r)]) Tryz.func12 rfl rfl rfl rfl Ends.both ?_;refine zE (qU (xR (v:=vS a) rfl rfl rfl rfl rfl fun p5 hp5=>?_))
 show Ll _ _ (Own _ _ [_]) _ _ ((5,pt_ p5)::_) _ _ _;refine xR (v:=vS b) rfl rfl rfl rfl rfl fun p7 hp7=>?_
 show Ll _ _ (Own _ _ [_,_]) _ _ ((7,pt_ p7)::_) _ _ _;refine qW 1 rfl (zL (zD [1,3,4,5,7] [_,_,_,_,_] rfl ?_));refine zE (zB (zM rfl rfl rfl (qM (cs:=#[i6_ a.n,str a.set,str a.rel]) 1 rfl qG rfl rfl qD) ?_));refine zC 1 rfl (zM rfl rfl rfl (qM (cs:=#[i6_ b.n,str b.set,str b.rel]) 0 rfl qG rfl rfl qD) ?_);refine zC 2 rfl (zM (v:=bo_ (gameB a xs b ys r)) rfl rfl rfl (qH rfl Tryz.call36 rfl zZ (fun w1 hw1=>isGame_ok a b xs ys va vb w1 hsa hsb (Row.own hva hw1) (Row.own hvb hw1) (by first | (simp;done) | (simp;omega) | omega) (by first | (simp;done) | (simp;omega) | omega) r)) ?_);refine zC 1 rfl (yT fun b17 hg17=>?_)
 cases b17
 ·
  refine zQ rfl rfl rfl ?_;refine zQ rfl rfl rfl (zQ rfl rfl rfl (zQ rfl rfl rfl (zQ rfl rfl rfl (zQ rfl rfl rfl (zC 2 rfl (zK (zD [10] [_] rfl ?_)))))));refine qK (qT rfl rfl fun w' hw=>?_)
  exact ⟨ret_b (by unfold secB;simp [*]),hw.below⟩
 replace hg17:gameB a xs b ys r=true:=by simpa using hg17
 obtain ⟨hLL,hr0,hr3⟩:=gameB_true hg17
 obtain ⟨LA,LB,hlen⟩:=listsB_true hLL
 have ha:=LA.fine
 have hb:=LB.fine
 have hA:=LA.els
 have hB:=LB.els
 have hl4:=LA.len;refine zM rfl rfl rfl (qM (cs:=#[i6_ a.n,str a.set,str a.rel]) 1 rfl qG rfl rfl qD) ?_;refine zC 1 rfl (zM rfl rfl rfl (qM (cs:=#[i6_ b.n,str b.set,str b.rel]) 0 rfl qG rfl rfl qD) ?_);refine zC 2 rfl (zM (v:=bo_ (winB r.toNat a xs b ys)) rfl rfl rfl (qH rfl Tryz.call37 rfl zZ (fun w1 hw1=>wins_ok a b xs ys va vb w1 ha hb (Row.own hva hw1) (Row.own hvb hw1) hA hB (by first | (simp;done) | (simp;omega) | omega) (by first | (simp;done) | (simp;omega) | omega) r (by omega) (by omega))) ?_);refine zC 2 rfl (zK (zD [10] [_] rfl ?_));refine qK (qT rfl rfl fun w' hw=>?_)
 exact ⟨ret_b (by unfold secB;simp [*]),hw.below⟩
end Go.Proofs.YtefiibghfgfdnaaGreatDoor
namespace Go.Proofs.YtefiibghfgfdnaaGreatDoor
open Go.RowKit Go.Wk
set_option linter.unusedSimpArgs false
set_option maxHeartbeats 400000 in
/-- impl.StructureValid -/
theorem iValid_ok (a:St) (w:World) (ha:a.Small) :
    Calls Tryz.prog 20 [vS a].toArray w fun en w'=>en=.returned (.bool (validB a))∧Below w.heap.size w w':=by
 refine fnStart (n:=5) (e:=[(0,vS a)]) Tryz.func20 rfl rfl rfl rfl Ends.both ?_
 have hsa:=ha;refine zE (qU (xR (v:=vS a) rfl rfl rfl rfl rfl fun p1 hp1=>?_))
 show Ll _ _ (Own _ _ [_]) _ _ ((1,pt_ p1)::_) _ _ _;refine qW 1 rfl (zL (zD [1] [_] rfl ?_));refine zE (zB (zM rfl rfl rfl (qM (cs:=#[i6_ a.n,str a.set,str a.rel]) 0 rfl qG rfl rfl qD) ?_));refine zM (v:=bo_ (validB a)) rfl rfl rfl (qH rfl Tryz.call50 rfl zZ (fun w1 hw1=>isStructure_ok a w1 hsa)) ?_;refine zC 1 rfl (zK (zD [2] [_] rfl ?_));refine qK (qT rfl rfl fun w' hw=>?_)
 exact ⟨rfl,hw.below⟩
set_option maxHeartbeats 400000 in
/-- impl.SameRank -/
theorem iSame_ok (a b:St) (w:World) (hsa:a.Small) (hsb:b.Small) (r:Int) :
    Calls Tryz.prog 21 [vS a,vS b,i6_ r].toArray w fun en w'=>en=.returned (.bool (secB a [] b [] r))∧Below w.heap.size w w':=by
 refine fnStart (n:=11) (e:=[(0,vS a),(1,vS b),(2,i6_ r)]) Tryz.func21 rfl rfl rfl rfl Ends.both ?_;refine zE (qU (xR (v:=vS a) rfl rfl rfl rfl rfl fun p3 hp3=>?_))
 show Ll _ _ (Own _ _ [_]) _ _ ((3,pt_ p3)::_) _ _ _;refine xR (v:=vS b) rfl rfl rfl rfl rfl fun p4 hp4=>?_
 show Ll _ _ (Own _ _ [_,_]) _ _ ((4,pt_ p4)::_) _ _ _;refine qW 1 rfl (zL (zD [2,3,4] [_,_,_] rfl ?_));refine zE (zB (zM rfl rfl rfl (qM (cs:=#[i6_ a.n,str a.set,str a.rel]) 1 rfl qG rfl rfl qD) ?_));refine zM rfl rfl rfl (qM (cs:=#[i6_ b.n,str b.set,str b.rel]) 0 rfl qG rfl rfl qD) ?_;refine zC 1 rfl (zM (v:=bo_ (secB a ([]) b ([]) r)) rfl rfl rfl (qH rfl Tryz.call12 rfl zZ (fun w1 hw1=>iWins_ok a b ([]) ([]) (.slice none 0 0) (.slice none 0 0) w1 hsa hsb Ints.nil Ints.nil (by first | (simp;done) | (simp;omega) | omega) (by first | (simp;done) | (simp;omega) | omega) r)) ?_);refine zC 1 rfl (zK (zD [6] [_] rfl ?_));refine qK (qT rfl rfl fun w' hw=>?_)
 exact ⟨rfl,hw.below⟩
end Go.Proofs.YtefiibghfgfdnaaGreatDoor
namespace Go.Proofs.YtefiibghfgfdnaaGreatDoor
open Go.RowKit Go.Wk
set_option linter.unusedSimpArgs false
set_option maxHeartbeats 400000 in
/-- laws.FnAgree -/
theorem lawFnAgree (bv:Value) (L:List Int) (w:World) (hbv:Row w bv (u8s L)) (hL8:Bytes8 L) (hLm:L.length≤9223372036854775807) :
    Calls Tryz.prog 7 [bv].toArray w fun en w'=>en=.returned (.bool true)∧Below w.heap.size w w':=by
 refine fnStart (n:=110) (e:=[(0,bv)]) Tryz.func7 rfl rfl rfl rfl Ends.both ?_;refine zE (zB (zC 1 rfl (zK (zD [0] [_] rfl ?_))));refine zE (zE (zB (zC 1 rfl (zM (v:=i6_ ((L.length:Int))) rfl rfl rfl (xG rfl yN rfl (u8s_length _) (fun w1 hw1=>Row.own hbv hw1)) ?_))));refine zC 1 rfl (zK (zD [0,13] [_,_] rfl ?_));refine qL (b:=decide ((1048576:Int)<((L.length:Int)))) rfl (fun h13=>?_) (fun h13=>?_)
 ·
  replace h13:=zJ h13;refine zE (zB (zC 1 rfl (zK (zD [2] [_] rfl ?_))));refine qK (qT rfl rfl fun w' hw=>?_)
  exact ⟨rfl,hw.below⟩
 replace h13:=zH h13;refine qY (zD [0] [_] rfl ?_);refine zE (qU (qW 1 rfl (vE (ok:=fun ((a,b,v,l,new,r):St×St×Value×List (List UInt8)×List (Nat×Obj)×Int)=>((a.Tame∧b.Tame) ∧ -1≤r∧r≤3)∧(l.length≤4∧(∀ s∈l,s.length≤200)∧∀ w1,Own w.heap.size w new w1→Strs w1 v l)) (v:=fun ((a,b,v,l,new,r):St×St×Value×List (List UInt8)×List (Nat×Obj)×Int)=>.tuple #[vS a,vS b,v,.int .i64 r]) (new:=fun ((a,b,v,l,new,r):St×St×Value×List (List UInt8)×List (Nat×Obj)×Int)=>new) (hs:=[]) (xs:=[.tmp 15]) (vs:=[bv]) ([]:List (Nat×Obj)) rfl rfl rfl rfl Tryz.call28 rfl (fun w1 hw1=>(drawAgree_ok w.heap.size w (([]:List (Nat×Obj))++([])) bv L w1 (fun w2 hw2=>Row.own hbv hw2) hL8 (by omega) hw1).mono fun en w' ⟨a,b,v,l,new,r,h1,h2,h3⟩=>⟨(a,b,v,l,new,r),h1,h2,h3⟩) fun ⟨a16,b16,v16,l16,new16,r16⟩ hK=>?_)))
 dsimp only at hK
 obtain ⟨⟨⟨hta16,htb16⟩,⟨hlor16,hhir16⟩⟩,hll16,hzl16,hIv16⟩:=hK
 have hsa16:=hta16.small
 have loa16:=hta16.lo
 have hia16:=hta16.hi
 have hsb16:=htb16.small
 have lob16:=htb16.lo
 have hib16:=htb16.hi
 show Ll _ _ (Own _ _ ((new16++([])))) _ _ ((16,.tuple #[vS a16,vS b16,v16,i6_ r16])::_) _ _ _;refine qW 1 rfl (zX (v:=vS a16) rfl rfl rfl (qX rfl rfl rfl) ?_);refine zX (v:=vS b16) rfl rfl rfl (qX rfl rfl rfl) ?_;refine zX (v:=v16) rfl rfl rfl (qX rfl rfl rfl) ?_;refine zX (v:=i6_ r16) rfl rfl rfl (qX rfl rfl rfl) ?_;refine jZ rfl rfl rfl rfl xE fun p3 hp3=>?_
 show Ll _ _ (Own _ _ (bk_ p3 #[i6_ 0,str ([]),str ([])] 24::(new16++([])))) _ _ ((3,pt_ p3)::_) _ _ _;refine jZ rfl rfl rfl rfl xE fun p4 hp4=>?_
 show Ll _ _ (Own _ _ (bk_ p4 #[i6_ 0,str ([]),str ([])] 24::_::(new16++([])))) _ _ ((4,pt_ p4)::_) _ _ _;refine xI (cs':=#[i6_ a16.n,str a16.set,str a16.rel]) (hs':=(_::bk_ p3 #[i6_ a16.n,str a16.set,str a16.rel] 24::(new16++([])))) 1 rfl rfl rfl rfl rfl (by kernel_rfl:_=some Tryz.t24) rfl rfl rfl rfl rfl ?_;refine xI (cs':=#[i6_ b16.n,str b16.set,str b16.rel]) (hs':=(bk_ p4 #[i6_ b16.n,str b16.set,str b16.rel] 24::_::(new16++([])))) 0 rfl rfl rfl rfl rfl (by kernel_rfl:_=some Tryz.t24) rfl rfl rfl rfl rfl ?_;refine qW 2 rfl (zL (zD [3,4,5,6] [_,_,_,_] rfl ?_));refine zE (zB (zM rfl rfl rfl (qM (cs:=#[i6_ a16.n,str a16.set,str a16.rel]) 1 rfl qG rfl rfl qD) ?_));refine zM rfl rfl rfl (qM (cs:=#[i6_ b16.n,str b16.set,str b16.rel]) 0 rfl qG rfl rfl qD) ?_;refine zC 2 rfl (zM (v:=bo_ (agreeB a16 b16 l16 r16)) rfl rfl rfl (qH rfl Tryz.call29 rfl zZ (fun w1 hw1=>iAgree_ok a16 b16 v16 l16 r16 w1 hsa16 hsb16 (hIv16 _ (yJ (qC (f:=[_,_]) hw1))) (by omega) (fun s hs=>Nat.le_trans (hzl16 s hs) (by decide)))) ?_);refine zC 1 rfl (zK (zD [3,4,5,6,7] [_,_,_,_,_] rfl ?_));refine zE (zE (zB (zC 1 rfl (zM rfl rfl rfl (qM (cs:=#[i6_ a16.n,str a16.set,str a16.rel]) 1 rfl qG rfl rfl qD) ?_))));refine zM rfl rfl rfl (qM (cs:=#[i6_ b16.n,str b16.set,str b16.rel]) 0 rfl qG rfl rfl qD) ?_;refine zC 2 rfl (zM (v:=bo_ (agreeB a16 b16 l16 r16)) rfl rfl rfl (qH rfl Tryz.call30 rfl zZ (fun w1 hw1=>sAgree_ok a16 b16 v16 l16 r16 w1 hsa16 hsb16 (hIv16 _ (yJ (qC (f:=[_,_]) hw1))) (by omega) (fun s hs=>Nat.le_trans (hzl16 s hs) (by decide)))) ?_);refine zM rfl rfl rfl (OpQ.bne rfl xS rfl rfl) ?_;refine zK (zD [3,4,5,6,7,32] [_,_,_,_,_,_] rfl ?_);refine qL (b:=(agreeB a16 b16 l16 r16) != (agreeB a16 b16 l16 r16)) rfl (fun h32=>?_) (fun h32=>?_)
 ·
  exact absurd h32 (by simp)
 refine qY (zD [3,4,5,6,7] [_,_,_,_,_] rfl ?_);refine zE (jF (σ:=Bool) (fun c0=>c0=(validB a16&&validB b16)) (fun c0=>[(3,pt_ p3),(4,pt_ p4),(5,v16),(6,i6_ r16),(7,bo_ (agreeB a16 b16 l16 r16)),(8,bo_ c0)]) (fun c0=>Own w.heap.size w (bk_ p4 #[i6_ b16.n,str b16.set,str b16.rel] 24::bk_ p3 #[i6_ a16.n,str a16.set,str a16.rel] 24::(new16++([])))) ?_ ?_)
 ·
  refine zB (zM rfl rfl rfl (qM (cs:=#[i6_ a16.n,str a16.set,str a16.rel]) 1 rfl qG rfl rfl qD) ?_);refine zM (v:=bo_ (validB a16)) rfl rfl rfl (qH rfl Tryz.call20 rfl zZ (fun w1 hw1=>iValid_ok a16 w1 hsa16)) ?_;refine zC 1 rfl (yT fun b35 hg35=>?_)
  cases b35
  ·
   refine zQ rfl rfl rfl (zQ rfl rfl rfl (zC 2 rfl (zK (qQ (false) (by simp_all) (Sub.sel [3,4,5,6,7,8] rfl) (fun _ h=>h)))))
  refine zM rfl rfl rfl (qM (cs:=#[i6_ b16.n,str b16.set,str b16.rel]) 0 rfl qG rfl rfl qD) ?_;refine zM (v:=bo_ (validB b16)) rfl rfl rfl (qH rfl Tryz.call20 rfl zZ (fun w1 hw1=>iValid_ok b16 w1 hsb16)) ?_;refine zC 2 rfl (zK (qQ (validB b16) (by simp_all) (Sub.sel [3,4,5,6,7,8] rfl) (fun _ h=>h)))
 rintro c0 hc0;refine zD [3,4,5,6,7,8] [_,_,_,_,_,_] rfl ?_;refine zE (zE (zB (zC 1 rfl (zK (zD [3,4,5,6,7,8,9] [_,_,_,_,_,_,_] rfl ?_)))));refine yC (jS (σ:=Nat×Bool) (fun ⟨k,c⟩=>k≤l16.length∧c=((validB a16&&validB b16)&&(l16.take k).all closedB)) (fun ⟨k,c⟩=>[(3,pt_ p3),(4,pt_ p4),(5,v16),(6,i6_ r16),(7,bo_ (agreeB a16 b16 l16 r16)),(8,bo_ c),(9,i6_ ((k:Int)))]) (fun ⟨k,c⟩=>Own w.heap.size w (bk_ p4 #[i6_ b16.n,str b16.set,str b16.rel] 24::bk_ p3 #[i6_ a16.n,str a16.set,str a16.rel] 24::(new16++([])))) (fun ⟨k,c⟩=>l16.length - k) ((0,c0)) ⟨by omega,by rw [hc0];simp⟩ (Sub.sel [3,4,5,6,7,8,9] rfl) (fun _ h=>h) ?_)
 rintro ⟨k,c⟩ ⟨hk,hc⟩
 dsimp only;refine zE (zE (zB (zC 2 rfl (zM (v:=i6_ ((l16.length:Int))) rfl rfl rfl (xG rfl xW rfl (strs_length _) (fun w1 hw1=>hIv16 _ (yJ (qC (f:=[_,_]) hw1)))) ?_))));refine zC 1 rfl (zK (zD [3,4,5,6,7,8,9,42] [_,_,_,_,_,_,_,_] rfl ?_));refine qL (b:=decide (((k:Int))<((l16.length:Int)))) rfl (fun h42=>?_) (fun h42=>?_)
 ·
  replace h42:=zJ h42
  have hkl:k<l16.length:=by omega
  refine qY (zD [3,4,5,6,7,8,9] [_,_,_,_,_,_,_] rfl ?_);refine zE (yC (zB (zC 2 rfl (yT fun b46 hg46=>?_))))
  cases b46
  ·
   refine zQ rfl rfl rfl (zQ rfl rfl rfl (zQ rfl rfl rfl (zQ rfl rfl rfl (zQ rfl rfl rfl (zC 2 rfl (zQ rfl rfl rfl ?_))))));refine zQ rfl rfl rfl (zQ rfl rfl rfl (zQ rfl rfl rfl (zQ rfl rfl rfl (zQ rfl rfl rfl (zC 2 rfl (zK (zD [3,4,5,6,7,8,9] [_,_,_,_,_,_,_] rfl ?_)))))));refine zB (zC 1 rfl (zM rfl rfl rfl (qV rfl rfl rfl (by omega) (by omega)) ?_));refine zC 1 rfl (zK (yX ((k+1,false)) ⟨by omega,by rw [closed_next hkl hc,dec_nil];simp_all⟩ (by omega) (Sub.sel [3,4,5,6,7,8,9] rfl) (fun _ h=>h)))
  refine zC 2 rfl (zM (v:=.pointer (some (sAt v16 ((k:Int))))) rfl rfl rfl (xD rfl xW qF rfl rfl (by omega) (by rw [strs_length];omega) (fun w1 hw1=>hIv16 _ (yJ (qC (f:=[_,_]) hw1)))) ?_);refine zM (v:=str (l16.getD (((k:Int)).toNat) [])) rfl rfl rfl (qZ rfl yA rfl (fun w1 hw1=>Strs.cell (hIv16 _ (yJ (qC (f:=[_,_]) hw1))) (by omega) (by omega))) ?_;refine zM (v:=bo_ ((formO (l16.getD (((k:Int)).toNat) [])).isSome)) rfl rfl rfl (qH rfl Tryz.call31 rfl zZ (fun w1 hw1=>iFValid_ok (l16.getD (((k:Int)).toNat) []) w1)) ?_;refine zC 2 rfl (yT fun b53 hg53=>?_)
  cases b53
  ·
   refine zQ rfl rfl rfl ?_;refine zQ rfl rfl rfl (zQ rfl rfl rfl (zQ rfl rfl rfl (zQ rfl rfl rfl (zQ rfl rfl rfl (zC 2 rfl (zK (zD [3,4,5,6,7,8,9] [_,_,_,_,_,_,_] rfl ?_)))))));refine zB (zC 1 rfl (zM rfl rfl rfl (qV rfl rfl rfl (by omega) (by omega)) ?_));refine zC 1 rfl (zK (yX ((k+1,false)) ⟨by omega,by rw [closed_next hkl hc,dec_nil];simp_all⟩ (by omega) (Sub.sel [3,4,5,6,7,8,9] rfl) (fun _ h=>h)))
  refine zC 2 rfl (zM (v:=.pointer (some (sAt v16 ((k:Int))))) rfl rfl rfl (xD rfl xW qF rfl rfl (by omega) (by rw [strs_length];omega) (fun w1 hw1=>hIv16 _ (yJ (qC (f:=[_,_]) hw1)))) ?_);refine zM (v:=str (l16.getD (((k:Int)).toNat) [])) rfl rfl rfl (qZ rfl yA rfl (fun w1 hw1=>Strs.cell (hIv16 _ (yJ (qC (f:=[_,_]) hw1))) (by omega) (by omega))) ?_;refine zM (v:=str (freeT (l16.getD (((k:Int)).toNat) []))) rfl rfl rfl (qH rfl Tryz.call32 rfl zZ (fun w1 hw1=>iFree_ok (l16.getD (((k:Int)).toNat) []) w1)) ?_;refine zM rfl rfl rfl (OpQ.seql rfl rfl rfl) ?_;refine zC 2 rfl (zK (zD [3,4,5,6,7,8,9] [_,_,_,_,_,_,_] rfl ?_));refine zB (zC 1 rfl (zM rfl rfl rfl (qV rfl rfl rfl (by omega) (by omega)) ?_));refine zC 1 rfl (zK (yX ((k+1,(freeT (l16.getD (((k:Int)).toNat) []))==([]))) ⟨by omega,by rw [closed_next hkl hc,dec_nil];simp_all⟩ (by omega) (Sub.sel [3,4,5,6,7,8,9] rfl) (fun _ h=>h)))
 replace h42:=zH h42;refine xK rfl ?_;refine zD [3,4,5,6,7,8] [_,_,_,_,_,_] rfl ?_;refine zE (zE (zB (zC 2 rfl (zK (zD [3,4,5,6,7,62] [_,_,_,_,_,_] rfl ?_)))));refine qL (b:=!c) rfl (fun h62=>?_) (fun h62=>?_)
 ·
  replace h62:=not_true h62
  have hcl:=closed_end (by omega) hc
  have hcf:c=false:=by simpa using h62
  have hno:agreeB a16 b16 l16 r16=false:=by
   cases e:agreeB a16 b16 l16 r16 with
   | false=>rfl
   | true=>have q:=agree_closed e;rw [← hcl,hcf] at q;cases q
  refine zE (zB (zC 3 rfl (zK (zD [2] [_] rfl ?_))));refine qK (qT rfl rfl fun w' hw=>?_)
  exact ⟨ret_b (by rw [hno];rfl),hw.below⟩
 replace h62:=not_false h62
 have hcl:=closed_end (by omega) hc
 have hq:((validB a16&&validB b16)&&l16.all closedB)=true:=by rw [← hcl];simpa using h62
 simp only [Bool.and_eq_true] at hq
 obtain ⟨⟨hva,hvb⟩,hcA⟩:=hq;refine qY (zD [3,4,5,6,7] [_,_,_,_,_] rfl ?_);refine zE (jF (σ:=Bool) (fun al=>al=true→r16<0∨(0≤r16∧secB a16 [] b16 [] r16=true)) (fun al=>[(3,pt_ p3),(4,pt_ p4),(5,v16),(6,i6_ r16),(7,bo_ (agreeB a16 b16 l16 r16)),(10,bo_ al)]) (fun al=>Own w.heap.size w (bk_ p4 #[i6_ b16.n,str b16.set,str b16.rel] 24::bk_ p3 #[i6_ a16.n,str a16.set,str a16.rel] 24::(new16++([])))) ?_ ?_)
 ·
  refine zB (zC 3 rfl (yT fun b67 hg67=>?_))
  cases b67
  ·
   replace hg67:=zH hg67;refine zC 3 rfl (yT fun b70 hg70=>?_)
   cases b70
   ·
    replace hg70:=zH hg70;refine zQ rfl rfl rfl (zQ rfl rfl rfl (zQ rfl rfl rfl (zQ rfl rfl rfl (zC 3 rfl (zK (qQ (false) (by intro h;first | exact .inl (by assumption) | (cases h;done) | exact .inr ⟨by omega,h⟩) (Sub.sel [3,4,5,6,7,10] rfl) (fun _ h=>h)))))))
   replace hg70:=zJ hg70;refine zM rfl rfl rfl (qM (cs:=#[i6_ a16.n,str a16.set,str a16.rel]) 1 rfl qG rfl rfl qD) ?_;refine zM rfl rfl rfl (qM (cs:=#[i6_ b16.n,str b16.set,str b16.rel]) 0 rfl qG rfl rfl qD) ?_;refine zC 1 rfl (zM (v:=bo_ (secB a16 [] b16 [] r16)) rfl rfl rfl (qH rfl Tryz.call21 rfl zZ (fun w1 hw1=>iSame_ok a16 b16 w1 hsa16 hsb16 r16)) ?_);refine zC 3 rfl (zK (qQ (secB a16 [] b16 [] r16) (by intro h;first | exact .inl (by assumption) | (cases h;done) | exact .inr ⟨by omega,h⟩) (Sub.sel [3,4,5,6,7,10] rfl) (fun _ h=>h)))
  replace hg67:=zJ hg67;refine zQ rfl rfl rfl (zQ rfl rfl rfl (zQ rfl rfl rfl ?_));refine zQ rfl rfl rfl (zQ rfl rfl rfl (zQ rfl rfl rfl (zQ rfl rfl rfl (zQ rfl rfl rfl (zC 2 rfl (zK (qQ (true) (by intro h;first | exact .inl (by assumption) | (cases h;done) | exact .inr ⟨by omega,h⟩) (Sub.sel [3,4,5,6,7,10] rfl) (fun _ h=>h))))))))
 rintro al hal;refine zD [3,4,5,6,7,10] [_,_,_,_,_,_] rfl ?_;refine zE (zB (zC 3 rfl (yT fun b79 hg79=>?_)))
 cases b79
 ·
  replace hg79:=not_false hg79;refine zC 3 rfl (yT fun b82 hg82=>?_)
  cases b82
  ·
   refine zQ rfl rfl rfl (zQ rfl rfl rfl (zQ rfl rfl rfl ?_));refine zQ rfl rfl rfl (zQ rfl rfl rfl (zC 2 rfl (zQ rfl rfl rfl (zQ rfl rfl rfl (zQ rfl rfl rfl (zQ rfl rfl rfl (zQ rfl rfl rfl ?_)))))));refine zQ rfl rfl rfl (zQ rfl rfl rfl (zC 2 rfl (zQ rfl rfl rfl (zQ rfl rfl rfl (zQ rfl rfl rfl (zQ rfl rfl rfl (zQ rfl rfl rfl ?_)))))));refine zQ rfl rfl rfl (zQ rfl rfl rfl (zQ rfl rfl rfl (zQ rfl rfl rfl (zQ rfl rfl rfl (zC 2 rfl (zK (zD [2] [_] rfl ?_)))))));refine qK (qT rfl rfl fun w' hw=>?_)
   exact ⟨ret_b (by first | rfl | exact absurd (agree_alike hva hvb hcA (hal (by assumption))) (by rw [show agreeB a16 b16 l16 r16=false by assumption];decide) | exact bool_no (agree_refl hva hcA) (by assumption) | exact bool_no (beq_iff_eq.2 agree_swap) (by assumption) | exact agree_less (show agreeB a16 b16 l16 r16=true by assumption)),hw.below⟩
  refine zM rfl rfl rfl (qM (cs:=#[i6_ a16.n,str a16.set,str a16.rel]) 1 rfl qG rfl rfl qD) ?_;refine zM rfl rfl rfl (qM (cs:=#[i6_ a16.n,str a16.set,str a16.rel]) 1 rfl qG rfl rfl qD) ?_;refine zC 2 rfl (zM (v:=bo_ (agreeB a16 a16 l16 r16)) rfl rfl rfl (qH rfl Tryz.call29 rfl zZ (fun w1 hw1=>iAgree_ok a16 a16 v16 l16 r16 w1 hsa16 hsa16 (hIv16 _ (yJ (qC (f:=[_,_]) hw1))) (by omega) (fun s hs=>Nat.le_trans (hzl16 s hs) (by decide)))) ?_);refine zC 2 rfl (yT fun b89 hg89=>?_)
  cases b89
  ·
   refine zQ rfl rfl rfl (zQ rfl rfl rfl (zQ rfl rfl rfl (zQ rfl rfl rfl (zQ rfl rfl rfl ?_))));refine zQ rfl rfl rfl (zQ rfl rfl rfl (zC 2 rfl (zQ rfl rfl rfl (zQ rfl rfl rfl (zQ rfl rfl rfl (zQ rfl rfl rfl (zQ rfl rfl rfl ?_)))))));refine zQ rfl rfl rfl (zQ rfl rfl rfl (zQ rfl rfl rfl (zQ rfl rfl rfl (zQ rfl rfl rfl (zC 2 rfl (zK (zD [2] [_] rfl ?_)))))));refine qK (qT rfl rfl fun w' hw=>?_)
   exact ⟨ret_b (by first | rfl | exact absurd (agree_alike hva hvb hcA (hal (by assumption))) (by rw [show agreeB a16 b16 l16 r16=false by assumption];decide) | exact bool_no (agree_refl hva hcA) (by assumption) | exact bool_no (beq_iff_eq.2 agree_swap) (by assumption) | exact agree_less (show agreeB a16 b16 l16 r16=true by assumption)),hw.below⟩
  refine zM rfl rfl rfl (qM (cs:=#[i6_ b16.n,str b16.set,str b16.rel]) 0 rfl qG rfl rfl qD) ?_;refine zM rfl rfl rfl (qM (cs:=#[i6_ a16.n,str a16.set,str a16.rel]) 1 rfl qG rfl rfl qD) ?_;refine zC 2 rfl (zM (v:=bo_ (agreeB b16 a16 l16 r16)) rfl rfl rfl (qH rfl Tryz.call29 rfl zZ (fun w1 hw1=>iAgree_ok b16 a16 v16 l16 r16 w1 hsb16 hsa16 (hIv16 _ (yJ (qC (f:=[_,_]) hw1))) (by omega) (fun s hs=>Nat.le_trans (hzl16 s hs) (by decide)))) ?_);refine zC 1 rfl (zM rfl rfl rfl (OpQ.beq rfl xS rfl rfl) ?_);refine zC 2 rfl (yT fun b98 hg98=>?_)
  cases b98
  ·
   refine zQ rfl rfl rfl (zQ rfl rfl rfl (zQ rfl rfl rfl (zQ rfl rfl rfl (zQ rfl rfl rfl ?_))));refine zQ rfl rfl rfl (zQ rfl rfl rfl (zQ rfl rfl rfl (zQ rfl rfl rfl (zQ rfl rfl rfl (zC 2 rfl (zK (zD [2] [_] rfl ?_)))))));refine qK (qT rfl rfl fun w' hw=>?_)
   exact ⟨ret_b (by first | rfl | exact absurd (agree_alike hva hvb hcA (hal (by assumption))) (by rw [show agreeB a16 b16 l16 r16=false by assumption];decide) | exact bool_no (agree_refl hva hcA) (by assumption) | exact bool_no (beq_iff_eq.2 agree_swap) (by assumption) | exact agree_less (show agreeB a16 b16 l16 r16=true by assumption)),hw.below⟩
  refine zC 3 rfl (yT fun b101 hg101=>?_)
  cases b101
  ·
   replace hg101:=not_false hg101;refine zM rfl rfl rfl (qM (cs:=#[i6_ a16.n,str a16.set,str a16.rel]) 1 rfl qG rfl rfl qD) ?_;refine zM rfl rfl rfl (qM (cs:=#[i6_ b16.n,str b16.set,str b16.rel]) 0 rfl qG rfl rfl qD) ?_;refine zC 2 rfl (zM rfl rfl rfl (jI rfl rfl rfl (by omega) (by omega)) ?_);refine zM (v:=bo_ (agreeB a16 b16 l16 (r16 - (1:Int)))) rfl rfl rfl (qH rfl Tryz.call29 rfl zZ (fun w1 hw1=>iAgree_ok a16 b16 v16 l16 (r16 - (1:Int)) w1 hsa16 hsb16 (hIv16 _ (yJ (qC (f:=[_,_]) hw1))) (by omega) (fun s hs=>Nat.le_trans (hzl16 s hs) (by decide)))) ?_;refine zC 3 rfl (zK (zD [2] [_] rfl ?_));refine qK (qT rfl rfl fun w' hw=>?_)
   exact ⟨ret_b (by first | rfl | exact absurd (agree_alike hva hvb hcA (hal (by assumption))) (by rw [show agreeB a16 b16 l16 r16=false by assumption];decide) | exact bool_no (agree_refl hva hcA) (by assumption) | exact bool_no (beq_iff_eq.2 agree_swap) (by assumption) | exact agree_less (show agreeB a16 b16 l16 r16=true by assumption)),hw.below⟩
  replace hg101:=not_true hg101;refine zQ rfl rfl rfl ?_;refine zQ rfl rfl rfl (zQ rfl rfl rfl (zQ rfl rfl rfl (zQ rfl rfl rfl (zQ rfl rfl rfl (zC 3 rfl (zK (zD [2] [_] rfl ?_)))))));refine qK (qT rfl rfl fun w' hw=>?_)
  exact ⟨rfl,hw.below⟩
 replace hg79:=not_true hg79;refine zQ rfl rfl rfl (zC 2 rfl (zM rfl rfl rfl (qM (cs:=#[i6_ a16.n,str a16.set,str a16.rel]) 1 rfl qG rfl rfl qD) ?_));refine zM rfl rfl rfl (qM (cs:=#[i6_ a16.n,str a16.set,str a16.rel]) 1 rfl qG rfl rfl qD) ?_;refine zC 2 rfl (zM (v:=bo_ (agreeB a16 a16 l16 r16)) rfl rfl rfl (qH rfl Tryz.call29 rfl zZ (fun w1 hw1=>iAgree_ok a16 a16 v16 l16 r16 w1 hsa16 hsa16 (hIv16 _ (yJ (qC (f:=[_,_]) hw1))) (by omega) (fun s hs=>Nat.le_trans (hzl16 s hs) (by decide)))) ?_);refine zC 2 rfl (yT fun b89 hg89_1=>?_)
 cases b89
 ·
  refine zQ rfl rfl rfl (zQ rfl rfl rfl (zQ rfl rfl rfl (zQ rfl rfl rfl (zQ rfl rfl rfl ?_))));refine zQ rfl rfl rfl (zQ rfl rfl rfl (zC 2 rfl (zQ rfl rfl rfl (zQ rfl rfl rfl (zQ rfl rfl rfl (zQ rfl rfl rfl (zQ rfl rfl rfl ?_)))))));refine zQ rfl rfl rfl (zQ rfl rfl rfl (zQ rfl rfl rfl (zQ rfl rfl rfl (zQ rfl rfl rfl (zC 2 rfl (zK (zD [2] [_] rfl ?_)))))));refine qK (qT rfl rfl fun w' hw=>?_)
  exact ⟨ret_b (by first | rfl | exact absurd (agree_alike hva hvb hcA (hal (by assumption))) (by rw [show agreeB a16 b16 l16 r16=false by assumption];decide) | exact bool_no (agree_refl hva hcA) (by assumption) | exact bool_no (beq_iff_eq.2 agree_swap) (by assumption) | exact agree_less (show agreeB a16 b16 l16 r16=true by assumption)),hw.below⟩
 refine zM rfl rfl rfl (qM (cs:=#[i6_ b16.n,str b16.set,str b16.rel]) 0 rfl qG rfl rfl qD) ?_;refine zM rfl rfl rfl (qM (cs:=#[i6_ a16.n,str a16.set,str a16.rel]) 1 rfl qG rfl rfl qD) ?_;refine zC 2 rfl (zM (v:=bo_ (agreeB b16 a16 l16 r16)) rfl rfl rfl (qH rfl Tryz.call29 rfl zZ (fun w1 hw1=>iAgree_ok b16 a16 v16 l16 r16 w1 hsb16 hsa16 (hIv16 _ (yJ (qC (f:=[_,_]) hw1))) (by omega) (fun s hs=>Nat.le_trans (hzl16 s hs) (by decide)))) ?_);refine zC 1 rfl (zM rfl rfl rfl (OpQ.beq rfl xS rfl rfl) ?_);refine zC 2 rfl (yT fun b98 hg98_1=>?_)
 cases b98
 ·
  refine zQ rfl rfl rfl (zQ rfl rfl rfl (zQ rfl rfl rfl (zQ rfl rfl rfl (zQ rfl rfl rfl ?_))));refine zQ rfl rfl rfl (zQ rfl rfl rfl (zQ rfl rfl rfl (zQ rfl rfl rfl (zQ rfl rfl rfl (zC 2 rfl (zK (zD [2] [_] rfl ?_)))))));refine qK (qT rfl rfl fun w' hw=>?_)
  exact ⟨ret_b (by first | rfl | exact absurd (agree_alike hva hvb hcA (hal (by assumption))) (by rw [show agreeB a16 b16 l16 r16=false by assumption];decide) | exact bool_no (agree_refl hva hcA) (by assumption) | exact bool_no (beq_iff_eq.2 agree_swap) (by assumption) | exact agree_less (show agreeB a16 b16 l16 r16=true by assumption)),hw.below⟩
 refine zC 3 rfl (yT fun b101 hg101_1=>?_)
 cases b101
 ·
  replace hg101_1:=not_false hg101_1;refine zM rfl rfl rfl (qM (cs:=#[i6_ a16.n,str a16.set,str a16.rel]) 1 rfl qG rfl rfl qD) ?_;refine zM rfl rfl rfl (qM (cs:=#[i6_ b16.n,str b16.set,str b16.rel]) 0 rfl qG rfl rfl qD) ?_;refine zC 2 rfl (zM rfl rfl rfl (jI rfl rfl rfl (by omega) (by omega)) ?_);refine zM (v:=bo_ (agreeB a16 b16 l16 (r16 - (1:Int)))) rfl rfl rfl (qH rfl Tryz.call29 rfl zZ (fun w1 hw1=>iAgree_ok a16 b16 v16 l16 (r16 - (1:Int)) w1 hsa16 hsb16 (hIv16 _ (yJ (qC (f:=[_,_]) hw1))) (by omega) (fun s hs=>Nat.le_trans (hzl16 s hs) (by decide)))) ?_;refine zC 3 rfl (zK (zD [2] [_] rfl ?_));refine qK (qT rfl rfl fun w' hw=>?_)
  exact ⟨ret_b (by first | rfl | exact absurd (agree_alike hva hvb hcA (hal (by assumption))) (by rw [show agreeB a16 b16 l16 r16=false by assumption];decide) | exact bool_no (agree_refl hva hcA) (by assumption) | exact bool_no (beq_iff_eq.2 agree_swap) (by assumption) | exact agree_less (show agreeB a16 b16 l16 r16=true by assumption)),hw.below⟩
 replace hg101_1:=not_true hg101_1;refine zQ rfl rfl rfl ?_;refine zQ rfl rfl rfl (zQ rfl rfl rfl (zQ rfl rfl rfl (zQ rfl rfl rfl (zQ rfl rfl rfl (zC 3 rfl (zK (zD [2] [_] rfl ?_)))))));refine qK (qT rfl rfl fun w' hw=>?_)
 exact ⟨rfl,hw.below⟩
end Go.Proofs.YtefiibghfgfdnaaGreatDoor
namespace Go.Proofs.YtefiibghfgfdnaaGreatDoor
open Go.ChangeShapes Go.WideShapes Go.ChangeAt Go.RowKit Go.Wk
namespace FnAgree
def W0 : Array Value := #[.slice none 0 0]
set_option maxRecDepth 100000 in
/-- The contract of the row, at every world and every argument. -/
theorem contract (H : Type) (enc : TypeId × Value → H) (W : World) (base : Nat) (args : Array Value) (ds gs : List (DataW H)) (before : List MemPlace)
    (hval : ∀ (j : Nat) t v, Tryz.f7.params[j]? = some t → args[j]? = some v → Value.okWide Tryz.prog W .any base t v)
    (hW : DataW.Whole enc Tryz.prog Tryz.f7.params.toList Rows.fnAgreeSpec.vars false W args.toList ds gs before) :
    Calls Tryz.prog 7 args W fun e W' => ∃ v, e = .returned v ∧ Rows.fnAgreeSpec.post enc Tryz.prog Tryz.f7 false true false false W args v W' := by
  have hW' := hW
  obtain ⟨p, q, hA0, hV, rfl, hfz, hnd⟩ := hW
  have hA : DataW.TrodAll enc Tryz.prog W 0 (fun _ => true) true Tryz.f7.params.toList args.toList ds p := hA0
  rw [Tryz.params7] at hA hval
  obtain ⟨v0, vs0, d0, ds0, p0, q0, hargs0, rfl, rfl, h0, r0⟩ := trodAll_cons hA
  obtain ⟨rfl, rfl, rfl⟩ := trodAll_nil r0
  obtain rfl : args = #[v0] := by cases args; simp_all
  obtain ⟨l0, row0, eight0, len0⟩ := open_B Tryz.underlying22 Tryz.underlying5 (by kernel_rfl) (hval 0 22 v0 rfl rfl) h0
  have walk : Calls Tryz.prog 7 #[v0] W fun e w' => e = .returned (.bool true) ∧ Below W.heap.size W w' := by
    exact lawFnAgree v0 l0 W row0 eight0 len0
  refine walk.mono fun e W' ⟨he, hb⟩ => ⟨_, he, ?_⟩
  exact post_true laidOut (by rw [Tryz.params7]; intro t ht; simp only [List.mem_cons, List.not_mem_nil, or_false] at ht; rcases ht with rfl <;> exact ⟨by kernel_rfl, of_decide_eq_true (by kernel_rfl)⟩) rfl hW' rfl (by kernel_rfl) Tryz.underlying4 hb
theorem reads (os : Os) {H : Type} (enc : TypeId × Value → H) : ∃ places, DataW.whole enc Tryz.prog ((laidWorld os).forCall (fun _ _ => 0) ⟨#[], W0, []⟩).memory Tryz.f7.params.toList Rows.fnAgreeSpec.vars false W0.toList 8 = some ([.nil], [], places) :=
  ⟨[], by kernel_rfl⟩
set_option maxRecDepth 100000 in
theorem lifted (os : Os) (started : os.Started) (H : Type) (enc : TypeId × Value → H) (F : Stop.Interp) :
    ReturnsInHanded {} Tryz.checked os 7 .any ((OpenSpec.ofChange Rows.fnAgreeSpec).preRow enc Tryz.prog Tryz.f7 Rows.fnAgreeRow.domain false Rows.fnAgreeRow.laid) (((OpenSpec.ofChange Rows.fnAgreeSpec).at F).post enc Tryz.prog Tryz.f7 false true false false) := by
  obtain ⟨places, hx⟩ := reads os enc
  refine returnsInHanded_of_row (C := Tryz.checked) (s := OpenSpec.ofChange Rows.fnAgreeSpec) own started (by kernel_rfl) Tryz.func7
    (witness_row_at (enc := enc) (C := Tryz.checked) false (laidWorld os) W0 rfl (by kernel_rfl) (by kernel_rfl) (by kernel_rfl)
      (OpenSpec.preRow_of_cond 8 hx (by kernel_rfl) (fun k hk => by cases hk) (by kernel_rfl) (laid_met os W0))) ?_
  intro W base args ds gs before hval hW _ _ _ hL _ _
  exact contract H enc W base args ds gs before hval hW
theorem k0 : (Rows.fnAgreeRow.wf (OpenSpec.ofChange (OpenSpec.ofChange Rows.fnAgreeSpec).bare)) = true := by kernel_rfl
theorem k3 : (Tryz.f7.params.all (Tryz.pinned.checked.prog.readableRec ·)) = true := by kernel_rfl
theorem k4 : (namedTie Tryz.pinned.checked.prog Rows.fnAgreeRow.named (OpenSpec.ofChange Rows.fnAgreeSpec).bare.vars) = true := by kernel_rfl
theorem k9 : ((Rows.fnAgreeRow.inPlace == Tryz.pinned.checked.prog.inPlace 7)) = true := by kernel_rfl
theorem k10 : ((Rows.fnAgreeRow.unfollowed == Tryz.pinned.checked.prog.unfollowed 7)) = true := by kernel_rfl
theorem k11 : ((Rows.fnAgreeRow.recurses == Tryz.pinned.checked.prog.recurses 7)) = true := by kernel_rfl
theorem k12 : ((Rows.fnAgreeRow.named == Tryz.pinned.checked.prog.varsNamed 7)) = true := by kernel_rfl
theorem k13 : ((Rows.fnAgreeRow.maps == (Tryz.f7.params.toList ++ (OpenSpec.ofChange Rows.fnAgreeSpec).bare.plain.varTypes Tryz.pinned.checked.prog).any (Tryz.pinned.checked.prog.mapsRec ·))) = true := by kernel_rfl
theorem k14 : ((Rows.fnAgreeRow.ifaces == (Tryz.f7.params.toList ++ (OpenSpec.ofChange Rows.fnAgreeSpec).bare.plain.varTypes Tryz.pinned.checked.prog).any (Tryz.pinned.checked.prog.ifacesRec ·))) = true := by kernel_rfl
theorem k15 : ((Rows.fnAgreeRow.mapsOut == Tryz.pinned.checked.prog.mapsAmong Tryz.f7.resultTypes.toList)) = true := by kernel_rfl
theorem k16 : ((Rows.fnAgreeRow.loops == (Tryz.f7.params.toList ++ (OpenSpec.ofChange Rows.fnAgreeSpec).bare.plain.varTypes Tryz.pinned.checked.prog).any (Tryz.pinned.checked.prog.loopsFrom ·))) = true := by kernel_rfl
theorem k17 : ((Rows.fnAgreeRow.wideKeys == (Tryz.f7.params.toList ++ (OpenSpec.ofChange Rows.fnAgreeSpec).bare.plain.varTypes Tryz.pinned.checked.prog ++ Tryz.f7.resultTypes.toList).any (Tryz.pinned.checked.prog.wideKeysFrom ·))) = true := by kernel_rfl
theorem k19 : (Tryz.f7.resultTypes.all (fun t => Tryz.pinned.checked.prog.readableRec t && decide (t < Tryz.pinned.checked.prog.types.size))) = true := by kernel_rfl
theorem k20 : ((Rows.fnAgreeRow.ifacesOut == Tryz.f7.resultTypes.toList.any (Tryz.pinned.checked.prog.ifacesRec ·))) = true := by kernel_rfl
theorem k21 : ((Rows.fnAgreeRow.loopsOut == Tryz.f7.resultTypes.toList.any (Tryz.pinned.checked.prog.loopsFrom ·))) = true := by kernel_rfl
theorem k30 : ((Rows.fnAgreeRow.veiled == (Tryz.f7.params.toList ++ (OpenSpec.ofChange Rows.fnAgreeSpec).bare.plain.varTypes Tryz.pinned.checked.prog ++ Tryz.f7.resultTypes.toList).any (Tryz.pinned.checked.prog.veiledRec ·))) = true := by kernel_rfl
theorem k31 : (Rows.fnAgreeRow.veiledFits Tryz.pinned.checked.prog Tryz.f7.params.toList (Tryz.f7.params.toList ++ (OpenSpec.ofChange Rows.fnAgreeSpec).bare.plain.varTypes Tryz.pinned.checked.prog ++ Tryz.f7.resultTypes.toList)) = true := by kernel_rfl
theorem closed : joinedFacts Tryz.pinned.checked.prog 7 Tryz.f7 (OpenSpec.ofChange Rows.fnAgreeSpec).bare Rows.fnAgreeRow = true :=
  facts_of k0 Laid1 Laid2 k3 k4 (by kernel_rfl) Laid6 (by kernel_rfl) Laid8 k9 k10 k11 k12 k13 k14 k15 k16 k17 (by kernel_rfl) k19 k20 k21 Laid22 (by kernel_rfl) Laid24 Laid25 Laid26 Laid27 (by kernel_rfl) (by kernel_rfl) k30 k31
theorem said : Rows.FnAgreeSaid :=
  OpenClaim.holds_of_cond 7 Tryz.f7 rfl rfl rfl rfl rfl rfl rfl ⟨rfl, rfl, rfl, rfl, rfl⟩ rfl rfl rfl rfl rfl (by kernel_rfl) Tryz.func7 closed
    (of_decide_eq_true (by kernel_rfl)) (by unfold Func.isWrapper; first | (rw [if_pos (by decide +kernel)]; kernel_rfl) | (rw [if_neg (by decide +kernel)]; exact ⟨rfl, rfl⟩))
    (fun os started H enc _ F => by rw [OpenClaim.pre_eq_preRow]; exact lifted os started H enc F)
theorem plain (f : FuncId) (fn : Func) (hf : Tryz.pinned.checked.prog.funcNamed Rows.fnAgreeRow.func = some f) (hfn : Tryz.pinned.checked.prog.funcs[f]? = some fn) :
    false = Tryz.pinned.checked.prog.looks [] ∧ ∀ (j : Nat) t, fn.params[j]? = some t → Tryz.pinned.checked.prog.wantsStandIn t = false := by
  obtain rfl : f = 7 := Option.some.inj ((show Tryz.pinned.checked.prog.funcNamed Rows.fnAgreeRow.func = some 7 by kernel_rfl).symm.trans hf) |>.symm
  obtain rfl : fn = Tryz.f7 := (Option.some.inj (Tryz.func7.symm.trans hfn)).symm
  refine ⟨by kernel_rfl, fun j t ht => ?_⟩
  rw [Tryz.params7] at ht
  have hm : t ∈ [22] := by simpa using Array.mem_of_getElem? ht
  simp only [List.mem_cons, List.not_mem_nil, or_false] at hm
  rcases hm with rfl <;> (show Tryz.prog.wantsStandIn _ = false) <;> kernel_rfl
theorem hw : Rows.fnAgreeRow.wfByText (OpenSpec.ofChange Rows.fnAgreeSpec) = true := by kernel_rfl
theorem hm : Tryz.pinned.checked.prog.mainIs = some (Rows.fnAgreeCard.stood.harness.1, Rows.fnAgreeCard.stood.harness.2.toList) := by kernel_rfl
theorem hg : false = Rows.fnAgreeRow.goesBy Tryz.pinned.checked.prog := by kernel_rfl
end FnAgree
/-- The tied card. -/
theorem cardFnAgree : Rows.FnAgreeCardSaid :=
  Claim7.holds_tied_plain_at .later [] _ _ _ _ FnAgree.said (fun _ h => by cases h) FnAgree.hw (fun _ h => by cases h) fnAgree_row_tie rfl ⟨rfl, rfl⟩ FnAgree.hm rfl FnAgree.plain FnAgree.hg
end Go.Proofs.YtefiibghfgfdnaaGreatDoor
