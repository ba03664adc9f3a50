/-
  FnDefinedSet: all that its proof names (part 5)
-/
import Derived.Test.YtefiibghfgfdnaaDoorKFnDefinedSetd
import Derived.Test.YtefiibghfgfdnaaDoorKFnDefinedSetb
import Derived.Test.YtefiibghfgfdnaaDoorKFnDefinedSetc
import Derived.Test.YtefiibghfgfdnaaDoorKFnDefinedSeta
namespace Go.Proofs.YtefiibghfgfdnaaDoor
open Go.RowKit Go.Wk
set_option linter.unusedSimpArgs false
set_option maxHeartbeats 400000 in
theorem at_ok (en4:List Int) (vs:List UInt8) (p4 p5 p:Nat) (c:UInt8) (vv x2 x3 x4:Value) (k:Nat) (w:World) (h4:w.heap[p4]?=some (.cells #[ptrV p] 80 (0,0))) (h5:w.heap[p5]?=some (.cells (ints en4).toArray 91 (0,0))) (hN:w.heap[p]?=some (.cells #[u8V c,vv,x2,x3,x4] 84 (0,0))) (hv:Row w vv (vs.map u8V)) (hk:k<vs.length) (hV:isV (vs.getD k 0)=true) (hE:en4.length=4) :
    Calls Tryd.prog 198 [i6_ ((k:Int)),.pointer (some ⟨p5,0,none⟩),.pointer (some ⟨p4,0,none⟩)].toArray w fun en w'=>en=.returned (.int .i64 (en4.getD (vI (vs.getD k 0)) 0))∧Below w.heap.size w w':=by
 refine fnStart (n:=15) (e:=[(0,i6_ ((k:Int))),(1,.pointer (some ⟨p5,0,none⟩)),(2,.pointer (some ⟨p4,0,none⟩))]) Tryd.func198 rfl rfl rfl rfl Ends.both ?_
 have hv4:=(vI_lt hV).1;refine zE (zB (zC 1 rfl (zJ (zD [0,1,2] [_,_,_] rfl ?_))));refine zE (zB (zN (v:=.pointer (some ⟨p,0,none⟩)) rfl rfl rfl (qV rfl xC rfl (fun w1 hw1=>at_box h4 hw1 0 rfl)) ?_));refine zN (v:=.pointer (some ⟨p,0,none⟩)) rfl rfl rfl (zO rfl rfl) ?_;refine zN rfl rfl rfl (zH rfl zF rfl yC rfl rfl) ?_;refine zN (v:=vv) rfl rfl rfl (qV rfl yU rfl (fun w1 hw1=>at_box hN hw1 1 rfl)) ?_;refine zC 1 rfl (zN (v:=.pointer (some (sAt vv ((k:Int))))) rfl rfl rfl (xW rfl yM xH rfl rfl (by omega) (by rw [List.length_map];omega) (fun w1 hw1=>hv.own hw1)) ?_);refine zN (v:=.int .u8 (((vs.getD k 0).toNat:Int))) rfl rfl rfl (qV rfl xD rfl (fun w1 hw1=>Row.u8 (hv.own hw1) (by omega) (by omega))) ?_;refine zN (v:=.int .u8 ((vI (vs.getD k 0):Int))) rfl rfl rfl (yF (by rw [vI_wrap hV]) (jO rfl rfl rfl)) ?_;refine zN (v:=.pointer (some (⟨p5,vI (vs.getD k 0),none⟩))) rfl rfl rfl (yF (v':=.pointer (some ⟨p5,vI (vs.getD k 0),none⟩)) (by rfl) (vN (i:=(vI (vs.getD k 0):Int)) rfl Tryd.runUnderlying91 zK rfl rfl (by omega) (by omega))) ?_;refine zN (v:=i6_ (en4.getD (vI (vs.getD k 0)) 0)) rfl rfl rfl (qV rfl zU rfl (fun w1 hw1=>at_box h5 hw1 (vI (vs.getD k 0)) ((List.getElem?_toArray ..).trans (ints_at2 (c:=en4) (by omega))))) ?_;refine zC 1 rfl (zJ (zD [4] [_] rfl ?_));refine qL (qQ rfl rfl fun w' hw=>?_)
 exact ⟨rfl,hw.below⟩
def IsT (f:Nat) (a:St) (fm:Fm):Prop:=∀ (B:Nat) (w0:World) (hs ts:List (Nat×Obj)) (h M:Nat) (K:Memo) (p:Nat) (en4:List Int) (w:World),(∀ x∈ts,x∈hs)→TreeB 84 ts fm p→EnvA a en4→MemoOk 84 a ts K→Own B w0 (memoF 143 h M a K hs) w →
    Calls Tryd.prog f #[.pointer (some ⟨h,0,none⟩),ptrV p,.agg (ints en4).toArray] w fun en w'=>∃ K',en=.returned (.bool (ev a fm en4))∧MemoOk 84 a ts K'∧Own B w0 (memoF 143 h M a K' hs) w'
set_option maxHeartbeats 1600000 in
theorem decide_step (a:St) (fm:Fm) (ha:a.Fine) (hwf:wfF fm) (ih:∀ fm2:Fm,szF fm2<szF fm→wfF fm2→IsT 119 a fm2) (B:Nat) (w0:World) (hs ts:List (Nat×Obj)) (h M:Nat) (K:Memo) (p:Nat) (en4:List Int) (w:World) (hts:∀ x∈ts,x∈hs) (hT:TreeB 84 ts fm p) (hE:EnvA a en4) (hK:MemoOk 84 a ts K) (hw:Own B w0 (memoF 143 h M a K hs) w) :
    Calls Tryd.prog 168 [pt_ h,ptrV p,.agg ((ints en4).toArray)].toArray w fun en w'=>∃ K',en=.returned (.bool (ev a fm en4))∧MemoOk 84 a ts K'∧Own B w0 (memoF 143 h M a K' hs) w':=by
 refine fnStartC (Own B w0 (bk_ h #[i6_ a.n,str a.set,str a.rel,.map (some M)] 143::((M,mapP (memoK K))::(memoB K++hs)))) (n:=156) (e:=[(0,pt_ h),(1,ptrV p),(2,.agg ((ints en4).toArray))]) Tryd.func168 rfl rfl rfl rfl Ends.both hw ?_;refine zE (qF (jC (v:=ptrV p) rfl rfl rfl rfl rfl fun p4 hp4=>?_))
 show Ll _ _ (Own _ _ (_::_::(((M,mapP (memoK K))::(memoB K++hs))))) _ _ ((4,pt_ p4)::_) _ _ _;refine jC (v:=.agg ((ints en4).toArray)) rfl rfl rfl rfl rfl fun p5 hp5=>?_
 show Ll _ _ (Own _ _ (_::_::_::(((M,mapP (memoK K))::(memoB K++hs))))) _ _ ((5,pt_ p5)::_) _ _ _;refine qJ 1 rfl (zM (zD [0,4,5] [_,_,_] rfl ?_));refine zE (zB (zN (v:=.func (.func 198) #[] #[pt_ p5,pt_ p4]) rfl rfl rfl (OpQ.func' (cap:=[.tmp 5,.tmp 4]) rfl rfl) ?_));refine zC 1 rfl (zJ (zD [0,4,5,7] [_,_,_,_] rfl ?_));refine zE (zE ?_)
 have hE4:=hE.1
 have ha1:=ha.lo
 have ha8:=ha.hi
 rcases fm_by hwf with ⟨c,rfl,hc⟩ | ⟨c,v,rfl,hc,hv_v⟩ | ⟨c,v,u,rfl,hc,hv_v,hv_u⟩ | ⟨c,q,rfl,hc⟩ | ⟨c,v,q,rfl,hc,hv_v⟩ | ⟨c,q,r,rfl,hc⟩
 ·
  obtain ⟨vv,pv,hm0,hR10,hR20⟩:=hT
  have hm:=hts _ hm0
  have hR1:=hR10.more hts
  have hR2:=hR20.more hts;refine zB (zN rfl rfl rfl (zR 1 rfl xC rfl rfl rfl) ?_);refine zN (v:=ptrV p) rfl rfl rfl (zO rfl rfl) ?_;refine zN rfl rfl rfl (zH rfl zF rfl xH rfl rfl) ?_;refine zN (v:=.int .u8 ((c.toNat:Int))) rfl rfl rfl (qV rfl xD rfl (fun w1 hw1=>cell_of ((vB (qA (f:=[_,_,_]) (qD (f:=[_,_,_]) hw1)) hm).2) rfl)) ?_;refine zJ (zD [0,4,5,7,14] [_,_,_,_,_] rfl ?_);refine yA (zE (zB (zC 2 rfl (zJ (zD [0,4,5,7,14,15] [_,_,_,_,_,_] rfl ?_)))));refine qH (b:=decide (((c.toNat:Int))=(116:Int))) rfl (fun h15=>?_) (fun h15=>?_)
  ·
   replace h15:=zI h15;refine zE (zB (zC 1 rfl (zJ (zD [6] [_] rfl ?_))));refine qL (qQ rfl rfl fun w' hw=>?_)
   exact ⟨K,ret_b (ev116 h15),hK,qA (f:=[_,_]) hw⟩
  replace h15:=zG h15;refine zE (zB (zC 2 rfl (zJ (zD [0,4,5,7,14,17] [_,_,_,_,_,_] rfl ?_))));refine qH (b:=decide (((c.toNat:Int))=(102:Int))) rfl (fun h17=>?_) (fun h17=>?_)
  ·
   replace h17:=zI h17;refine zE (zB (zC 1 rfl (zJ (zD [6] [_] rfl ?_))));refine qL (qQ rfl rfl fun w' hw=>?_)
   exact ⟨K,ret_b (ev102 h17),hK,qA (f:=[_,_]) hw⟩
  replace h17:=zG h17
  exfalso;omega
 ·
  obtain ⟨vv,pv,hm0,hR10,hR20⟩:=hT
  have hm:=hts _ hm0
  have hR1:=hR10.more hts
  have hR2:=hR20.more hts
  have hwv:=(vI_lt hv_v).1
  have hx1:=hE.at hwv;refine zB (zN rfl rfl rfl (zR 1 rfl xC rfl rfl rfl) ?_);refine zN (v:=ptrV p) rfl rfl rfl (zO rfl rfl) ?_;refine zN rfl rfl rfl (zH rfl zF rfl xH rfl rfl) ?_;refine zN (v:=.int .u8 ((c.toNat:Int))) rfl rfl rfl (qV rfl xD rfl (fun w1 hw1=>cell_of ((vB (qA (f:=[_,_,_]) (qD (f:=[_,_,_]) hw1)) hm).2) rfl)) ?_;refine zJ (zD [0,4,5,7,14] [_,_,_,_,_] rfl ?_);refine yA (zE (zB (zC 2 rfl (zJ (zD [0,4,5,7,14,15] [_,_,_,_,_,_] rfl ?_)))));refine qH (b:=decide (((c.toNat:Int))=(116:Int))) rfl (fun h15_1=>?_) (fun h15_1=>?_)
  ·
   replace h15_1:=zI h15_1
   exfalso;omega
  replace h15_1:=zG h15_1;refine zE (zB (zC 2 rfl (zJ (zD [0,4,5,7,14,17] [_,_,_,_,_,_] rfl ?_))));refine qH (b:=decide (((c.toNat:Int))=(102:Int))) rfl (fun h17_1=>?_) (fun h17_1=>?_)
  ·
   replace h17_1:=zI h17_1
   exfalso;omega
  replace h17_1:=zG h17_1;refine zE (zB (zC 2 rfl (zJ (zD [0,4,5,7,14,19] [_,_,_,_,_,_] rfl ?_))));refine qH (b:=decide (((c.toNat:Int))=(80:Int))) rfl (fun h19=>?_) (fun h19=>?_)
  ·
   replace h19:=zI h19;refine zE (jF yG (fun _ h=>h.drawn) (by kernel_rfl) ?_);refine zC 1 rfl (zN (v:=pt_ h) rfl rfl rfl (zO rfl rfl) ?_);refine zN rfl rfl rfl (zH rfl yQ rfl qU rfl rfl) ?_;refine zN (v:=vS a) rfl rfl rfl (OpQ.loadHold (a:=a) 2 rfl qW qU rfl rfl) ?_;refine zC 1 rfl (zN (v:=i6_ (en4.getD (vI v) 0)) rfl rfl rfl (OpQ.callFn rfl rfl Tryd.call198 rfl qG (fun w1 hw1=>at_ok en4 [v] _ _ p c vv _ _ _ 0 w1 (hw1.has 1 _ _ rfl).2 (hw1.has 0 _ _ rfl).2 ((vB (qA (f:=[_,_,_]) (qD (f:=[_,_,_]) hw1)) hm).2) (RowB.row hR1 (qA (f:=[_,_,_]) (qD (f:=[_,_,_]) hw1))) (by simp) (by simpa using hv_v) hE.1)) ?_);refine zN (v:=bo_ (a.inSet (en4.getD (vI v) 0))) rfl rfl rfl (qS rfl Tryd.call82 rfl qG (fun w1 hw1=>inSet_ok a (en4.getD (vI v) 0) w1 ha (by first | assumption | exact St.Els.at (by assumption) (by omega) (by omega)))) ?_;refine zC 1 rfl (zJ (zD [6] [_] rfl ?_));refine qL (qQ rfl rfl fun w' hw=>?_)
   exact ⟨K,ret_b (ev80 hc),hK,qA (f:=[_,_]) hw⟩
  replace h19:=zG h19
  exfalso;omega
 ·
  obtain ⟨vv,pv,hm0,hR10,hR20⟩:=hT
  have hm:=hts _ hm0
  have hR1:=hR10.more hts
  have hR2:=hR20.more hts
  have hwv:=(vI_lt hv_v).1
  have hx1:=hE.at hwv
  have hwu:=(vI_lt hv_u).1
  have hx2:=hE.at hwu;refine zB (zN rfl rfl rfl (zR 1 rfl xC rfl rfl rfl) ?_);refine zN (v:=ptrV p) rfl rfl rfl (zO rfl rfl) ?_;refine zN rfl rfl rfl (zH rfl zF rfl xH rfl rfl) ?_;refine zN (v:=.int .u8 ((c.toNat:Int))) rfl rfl rfl (qV rfl xD rfl (fun w1 hw1=>cell_of ((vB (qA (f:=[_,_,_]) (qD (f:=[_,_,_]) hw1)) hm).2) rfl)) ?_;refine zJ (zD [0,4,5,7,14] [_,_,_,_,_] rfl ?_);refine yA (zE (zB (zC 2 rfl (zJ (zD [0,4,5,7,14,15] [_,_,_,_,_,_] rfl ?_)))));refine qH (b:=decide (((c.toNat:Int))=(116:Int))) rfl (fun h15_2=>?_) (fun h15_2=>?_)
  ·
   replace h15_2:=zI h15_2
   exfalso;omega
  replace h15_2:=zG h15_2;refine zE (zB (zC 2 rfl (zJ (zD [0,4,5,7,14,17] [_,_,_,_,_,_] rfl ?_))));refine qH (b:=decide (((c.toNat:Int))=(102:Int))) rfl (fun h17_2=>?_) (fun h17_2=>?_)
  ·
   replace h17_2:=zI h17_2
   exfalso;omega
  replace h17_2:=zG h17_2;refine zE (zB (zC 2 rfl (zJ (zD [0,4,5,7,14,19] [_,_,_,_,_,_] rfl ?_))));refine qH (b:=decide (((c.toNat:Int))=(80:Int))) rfl (fun h19_1=>?_) (fun h19_1=>?_)
  ·
   replace h19_1:=zI h19_1
   exfalso;omega
  replace h19_1:=zG h19_1;refine zE (zB (zC 2 rfl (zJ (zD [0,4,5,7,14,28] [_,_,_,_,_,_] rfl ?_))));refine qH (b:=decide (((c.toNat:Int))=(61:Int))) rfl (fun h28=>?_) (fun h28=>?_)
  ·
   replace h28:=zI h28;refine zE (zB (zC 1 rfl (zN (v:=i6_ (en4.getD (vI v) 0)) rfl rfl rfl (OpQ.callFn rfl rfl Tryd.call198 rfl qG (fun w1 hw1=>at_ok en4 [v,u] _ _ p c vv _ _ _ 0 w1 (hw1.has 1 _ _ rfl).2 (hw1.has 0 _ _ rfl).2 ((vB (qA (f:=[_,_,_]) (qD (f:=[_,_,_]) hw1)) hm).2) (RowB.row hR1 (qA (f:=[_,_,_]) (qD (f:=[_,_,_]) hw1))) (by simp) (by simpa using hv_v) hE.1)) ?_)));refine zC 1 rfl (zN (v:=i6_ (en4.getD (vI u) 0)) rfl rfl rfl (OpQ.callFn rfl rfl Tryd.call198 rfl qG (fun w1 hw1=>at_ok en4 [v,u] _ _ p c vv _ _ _ 1 w1 (hw1.has 1 _ _ rfl).2 (hw1.has 0 _ _ rfl).2 ((vB (qA (f:=[_,_,_]) (qD (f:=[_,_,_]) hw1)) hm).2) (RowB.row hR1 (qA (f:=[_,_,_]) (qD (f:=[_,_,_]) hw1))) (by simp) (by simpa using hv_u) hE.1)) ?_);refine zC 2 rfl (zJ (zD [6] [_] rfl ?_));refine qL (qQ rfl rfl fun w' hw=>?_)
   exact ⟨K,ret_b (ev_eq h28),hK,qA (f:=[_,_]) hw⟩
  replace h28:=zG h28;refine zE (zB (zC 2 rfl (zJ (zD [0,4,5,7,14,35] [_,_,_,_,_,_] rfl ?_))));refine qH (b:=decide (((c.toNat:Int))=(69:Int))) rfl (fun h35=>?_) (fun h35=>?_)
  ·
   replace h35:=zI h35;refine zE (jF yG (fun _ h=>h.drawn) (by kernel_rfl) ?_);refine zC 1 rfl (zN (v:=pt_ h) rfl rfl rfl (zO rfl rfl) ?_);refine zN rfl rfl rfl (zH rfl yQ rfl qU rfl rfl) ?_;refine zN (v:=vS a) rfl rfl rfl (OpQ.loadHold (a:=a) 2 rfl qW qU rfl rfl) ?_;refine zC 1 rfl (zN (v:=i6_ (en4.getD (vI v) 0)) rfl rfl rfl (OpQ.callFn rfl rfl Tryd.call198 rfl qG (fun w1 hw1=>at_ok en4 [v,u] _ _ p c vv _ _ _ 0 w1 (hw1.has 1 _ _ rfl).2 (hw1.has 0 _ _ rfl).2 ((vB (qA (f:=[_,_,_]) (qD (f:=[_,_,_]) hw1)) hm).2) (RowB.row hR1 (qA (f:=[_,_,_]) (qD (f:=[_,_,_]) hw1))) (by simp) (by simpa using hv_v) hE.1)) ?_);refine zC 1 rfl (zN (v:=i6_ (en4.getD (vI u) 0)) rfl rfl rfl (OpQ.callFn rfl rfl Tryd.call198 rfl qG (fun w1 hw1=>at_ok en4 [v,u] _ _ p c vv _ _ _ 1 w1 (hw1.has 1 _ _ rfl).2 (hw1.has 0 _ _ rfl).2 ((vB (qA (f:=[_,_,_]) (qD (f:=[_,_,_]) hw1)) hm).2) (RowB.row hR1 (qA (f:=[_,_,_]) (qD (f:=[_,_,_]) hw1))) (by simp) (by simpa using hv_u) hE.1)) ?_);refine zN (v:=bo_ (a.inRel (en4.getD (vI v) 0) (en4.getD (vI u) 0))) rfl rfl rfl (qS rfl Tryd.call83 rfl qG (fun w1 hw1=>inRel_ok a (en4.getD (vI v) 0) (en4.getD (vI u) 0) w1 ha (by first | assumption | exact St.Els.at (by assumption) (by omega) (by omega)) (by first | assumption | exact St.Els.at (by assumption) (by omega) (by omega)))) ?_;refine zC 1 rfl (zJ (zD [6] [_] rfl ?_));refine qL (qQ rfl rfl fun w' hw=>?_)
   exact ⟨K,ret_b (ev_rel h35),hK,qA (f:=[_,_]) hw⟩
  replace h35:=zG h35
  exfalso;omega
 ·
  obtain ⟨q1,⟨vv,pv,hm0,hR10,hR20⟩,hT1⟩:=hT
  have hm:=hts _ hm0
  have hR1:=hR10.more hts
  have hR2:=hR20.more hts;refine zB (zN rfl rfl rfl (zR 1 rfl xC rfl rfl rfl) ?_);refine zN (v:=ptrV p) rfl rfl rfl (zO rfl rfl) ?_;refine zN rfl rfl rfl (zH rfl zF rfl xH rfl rfl) ?_;refine zN (v:=.int .u8 ((c.toNat:Int))) rfl rfl rfl (qV rfl xD rfl (fun w1 hw1=>cell_of ((vB (qA (f:=[_,_,_]) (qD (f:=[_,_,_]) hw1)) hm).2) rfl)) ?_;refine zJ (zD [0,4,5,7,14] [_,_,_,_,_] rfl ?_);refine yA (zE (zB (zC 2 rfl (zJ (zD [0,4,5,7,14,15] [_,_,_,_,_,_] rfl ?_)))));refine qH (b:=decide (((c.toNat:Int))=(116:Int))) rfl (fun h15_3=>?_) (fun h15_3=>?_)
  ·
   replace h15_3:=zI h15_3
   exfalso;omega
  replace h15_3:=zG h15_3;refine zE (zB (zC 2 rfl (zJ (zD [0,4,5,7,14,17] [_,_,_,_,_,_] rfl ?_))));refine qH (b:=decide (((c.toNat:Int))=(102:Int))) rfl (fun h17_3=>?_) (fun h17_3=>?_)
  ·
   replace h17_3:=zI h17_3
   exfalso;omega
  replace h17_3:=zG h17_3;refine zE (zB (zC 2 rfl (zJ (zD [0,4,5,7,14,19] [_,_,_,_,_,_] rfl ?_))));refine qH (b:=decide (((c.toNat:Int))=(80:Int))) rfl (fun h19_2=>?_) (fun h19_2=>?_)
  ·
   replace h19_2:=zI h19_2
   exfalso;omega
  replace h19_2:=zG h19_2;refine zE (zB (zC 2 rfl (zJ (zD [0,4,5,7,14,28] [_,_,_,_,_,_] rfl ?_))));refine qH (b:=decide (((c.toNat:Int))=(61:Int))) rfl (fun h28_1=>?_) (fun h28_1=>?_)
  ·
   replace h28_1:=zI h28_1
   exfalso;omega
  replace h28_1:=zG h28_1;refine zE (zB (zC 2 rfl (zJ (zD [0,4,5,7,14,35] [_,_,_,_,_,_] rfl ?_))));refine qH (b:=decide (((c.toNat:Int))=(69:Int))) rfl (fun h35_1=>?_) (fun h35_1=>?_)
  ·
   replace h35_1:=zI h35_1
   exfalso;omega
  replace h35_1:=zG h35_1;refine zE (zB (zC 2 rfl (zJ (zD [0,4,5,14,46] [_,_,_,_,_] rfl ?_))));refine qH (b:=decide (((c.toNat:Int))=(33:Int))) rfl (fun h46=>?_) (fun h46=>?_)
  ·
   replace h46:=zI h46;refine zE (jR (S:=Own B w0 (bk_ p5 ((ints en4).toArray) 91::bk_ p4 #[ptrV p] 80::bk_ h #[i6_ a.n,str a.set,str a.rel,.map (some M)] 143::hs)) [(0,true),(1,true),(7,true),(2,false),(3,true),(4,false),(5,true),(6,false),(8,false),(9,true),(10,true)] yG (fun _ h=>h.drawn) (by kernel_rfl) ?_);refine jE 1 rfl (fun _ h=>qD (f:=[_,_,_]) h) ?_;refine yI rfl rfl rfl rfl rfl (zR 1 rfl xC rfl rfl rfl) (fun _ h=>qD (f:=[_,_,_]) h) ?_;refine yI rfl rfl rfl rfl rfl (qX (cs:=(ints en4).toArray) 0 rfl vE rfl rfl (by intro w;rw [show (ints en4).toArray.size=4 from by simp [hE4]];exact jV w)) (fun _ h=>qD (f:=[_,_,_]) h) ?_;refine yV rfl ?_;refine zS (v:=ptrV p) rfl rfl rfl (zO rfl rfl) ?_;refine zM (yO (fun _ h=>qD (f:=[_,_,_]) h) ?_);refine yI rfl rfl rfl rfl rfl (zH rfl zF rfl xL rfl rfl) (fun _ h=>qD (f:=[_,_,_]) h) ?_;refine yV rfl ?_;refine zS (v:=pv) rfl rfl rfl (qV rfl vD rfl (fun w1 hw1=>cell_of ((vB (qA (f:=[_,_,_]) (qD (f:=[_,_,_]) hw1)) hm).2) rfl)) ?_;refine zM (yO (fun _ h=>qD (f:=[_,_,_]) h) ?_);refine yI (v:=.pointer (some (sAt pv 0))) rfl rfl rfl rfl rfl (xW rfl jY Tryd.sizeOf80 rfl rfl (by decide) (by simp) (fun w1 hw1=>RowB.row hR2 (qA (f:=[_,_,_]) hw1))) (fun _ h=>qD (f:=[_,_,_]) h) ?_;refine yV rfl ?_;refine zS (v:=ptrV q1) rfl rfl rfl (qV rfl xC rfl (fun w1 hw1=>Row.cell (RowB.row hR2 (qA (f:=[_,_,_]) (qD (f:=[_,_,_]) hw1))) (by decide) (by simp))) ?_;refine zM (yO (fun _ h=>qD (f:=[_,_,_]) h) ?_);refine yV rfl ?_;refine jZ (ok:=fun K=>MemoOk 84 a ts K) (b:=ev a q en4) (xs:=[.tmp 48,.tmp 54,.tmp 55]) (vs:=[pt_ h,ptrV q1,.agg ((ints en4).toArray)]) ([bk_ p5 ((ints en4).toArray) 91,bk_ p4 #[ptrV p] 80]:List (Nat×Obj)) rfl rfl rfl rfl Tryd.call119 rfl (fun w1 hw1=>ih q (by first | exact Nat.lt_succ_self _ | exact Nat.lt_succ_of_le (Nat.le_add_right _ _) | exact Nat.lt_succ_of_le (Nat.le_add_left _ _)) hwf.2.2.2.2 B w0 _ ts h M K q1 en4 w1 (fun x hx=>List.mem_append_right _ (hts x hx)) hT1 hE hK hw1) fun K1 hM1=>?_
   show Ll _ _ (Own _ _ (_::_::_::(((M,mapP (memoK K1))::(memoB K1++hs))))) _ _ ((56,bo_ (ev a q en4))::_) _ _ _;refine zM (yO (fun _ h=>qD (f:=[_,_,_]) h) ?_);refine jE 2 rfl (fun _ h=>qD (f:=[_,_,_]) h) ?_;refine Ld.nil ?_;refine zD [6] [_] rfl ?_;refine qL (qQ rfl rfl fun w' hw=>?_)
   exact ⟨K1,ret_b (ev33 hc),hM1,qA (f:=[_,_]) hw⟩
  replace h46:=zG h46
  exfalso;omega
 ·
  obtain ⟨q1,⟨vv,pv,hm0,hR10,hR20⟩,hT1⟩:=hT
  have hm:=hts _ hm0
  have hR1:=hR10.more hts
  have hR2:=hR20.more hts
  have hwv:=(vI_lt hv_v).1;refine zB (zN rfl rfl rfl (zR 1 rfl xC rfl rfl rfl) ?_);refine zN (v:=ptrV p) rfl rfl rfl (zO rfl rfl) ?_;refine zN rfl rfl rfl (zH rfl zF rfl xH rfl rfl) ?_;refine zN (v:=.int .u8 ((c.toNat:Int))) rfl rfl rfl (qV rfl xD rfl (fun w1 hw1=>cell_of ((vB (qA (f:=[_,_,_]) (qD (f:=[_,_,_]) hw1)) hm).2) rfl)) ?_;refine zJ (zD [0,4,5,7,14] [_,_,_,_,_] rfl ?_);refine yA (zE (zB (zC 2 rfl (zJ (zD [0,4,5,7,14,15] [_,_,_,_,_,_] rfl ?_)))));refine qH (b:=decide (((c.toNat:Int))=(116:Int))) rfl (fun h15_4=>?_) (fun h15_4=>?_)
  ·
   replace h15_4:=zI h15_4
   exfalso;unfold quI at *;omega
  replace h15_4:=zG h15_4;refine zE (zB (zC 2 rfl (zJ (zD [0,4,5,7,14,17] [_,_,_,_,_,_] rfl ?_))));refine qH (b:=decide (((c.toNat:Int))=(102:Int))) rfl (fun h17_4=>?_) (fun h17_4=>?_)
  ·
   replace h17_4:=zI h17_4
   exfalso;unfold quI at *;omega
  replace h17_4:=zG h17_4;refine zE (zB (zC 2 rfl (zJ (zD [0,4,5,7,14,19] [_,_,_,_,_,_] rfl ?_))));refine qH (b:=decide (((c.toNat:Int))=(80:Int))) rfl (fun h19_3=>?_) (fun h19_3=>?_)
  ·
   replace h19_3:=zI h19_3
   exfalso;unfold quI at *;omega
  replace h19_3:=zG h19_3;refine zE (zB (zC 2 rfl (zJ (zD [0,4,5,7,14,28] [_,_,_,_,_,_] rfl ?_))));refine qH (b:=decide (((c.toNat:Int))=(61:Int))) rfl (fun h28_2=>?_) (fun h28_2=>?_)
  ·
   replace h28_2:=zI h28_2
   exfalso;unfold quI at *;omega
  replace h28_2:=zG h28_2;refine zE (zB (zC 2 rfl (zJ (zD [0,4,5,7,14,35] [_,_,_,_,_,_] rfl ?_))));refine qH (b:=decide (((c.toNat:Int))=(69:Int))) rfl (fun h35_2=>?_) (fun h35_2=>?_)
  ·
   replace h35_2:=zI h35_2
   exfalso;unfold quI at *;omega
  replace h35_2:=zG h35_2;refine zE (zB (zC 2 rfl (zJ (zD [0,4,5,14,46] [_,_,_,_,_] rfl ?_))));refine qH (b:=decide (((c.toNat:Int))=(33:Int))) rfl (fun h46_1=>?_) (fun h46_1=>?_)
  ·
   replace h46_1:=zI h46_1
   exfalso;unfold quI at *;omega
  replace h46_1:=zG h46_1;refine zE (zB (zC 2 rfl (zJ (zD [0,4,5,14,58] [_,_,_,_,_] rfl ?_))));refine qH (b:=decide (((c.toNat:Int))=(38:Int))) rfl (fun h58=>?_) (fun h58=>?_)
  ·
   replace h58:=zI h58
   exfalso;unfold quI at *;omega
  replace h58:=zG h58;refine zE (zB (zC 2 rfl (zJ (zD [0,4,5,80] [_,_,_,_] rfl ?_))));refine qH (b:=decide (((c.toNat:Int))=(124:Int))) rfl (fun h80=>?_) (fun h80=>?_)
  ·
   replace h80:=zI h80
   exfalso;unfold quI at *;omega
  replace h80:=zG h80;refine qO (zD [0,4,5] [_,_,_] rfl ?_);refine zE (zB (zC 1 rfl (zJ (zD [0,4,5,8] [_,_,_,_] rfl ?_))));refine zE (zE (zB (zC 1 rfl (zN (v:=pt_ h) rfl rfl rfl (zO rfl rfl) ?_))));refine zN rfl rfl rfl (zH rfl yQ rfl qU rfl rfl) ?_;refine zN rfl rfl rfl (zH rfl qC rfl zK rfl rfl) ?_;refine zN rfl rfl rfl (zR 2 rfl zU rfl rfl rfl) ?_;refine zC 1 rfl (zJ (zD [0,4,5,8,106,107] [_,_,_,_,_,_] rfl ?_));refine yA (jG (σ:=Nat×List Int×Memo) (fun ⟨x,E,K⟩=>(x:Int)≤a.n∧E.length=4∧(∀ z:Int,E.set (vI v) z=en4.set (vI v) z)∧MemoOk 84 a ts K) (fun ⟨x,E,K⟩=>[(0,pt_ h),(4,pt_ p4),(5,pt_ p5),(8,i6_ ((cntT (evC a v q en4) x:Int))),(106,i6_ a.n),(107,i6_ ((x:Int)))]) (fun ⟨x,E,K⟩=>Own B w0 (bk_ p5 ((ints E).toArray) 91::bk_ p4 #[ptrV p] 80::bk_ h #[i6_ a.n,str a.set,str a.rel,.map (some M)] 143::(((M,mapP (memoK K))::(memoB K++hs))))) (fun ⟨x,E,K⟩=>(a.n - x).toNat) ((0,en4,K)) ⟨by omega,hE.1,fun _=>rfl,hK⟩ (Sub.cons rfl (Sub.cons rfl (Sub.cons rfl (Sub.cons (by rfl) (Sub.sel [106,107] rfl))))) (fun _ h=>h) ?_)
  rintro ⟨x,E,K⟩ ⟨hx,hEl,hEs,hK⟩
  dsimp only
  have hcx:=cntT_le (evC a v q en4) x;refine zE (zB (zC 1 rfl (zJ (zD [0,4,5,8,106,107,108] [_,_,_,_,_,_,_] rfl ?_))));refine zE (qH (b:=decide (((x:Int))<a.n)) rfl (fun h108=>?_) (fun h108=>?_))
  ·
   replace h108:=zI h108;refine qO (zD [0,4,5,8,106,107] [_,_,_,_,_,_] rfl ?_);refine zE (yA (zE (zB (zC 2 rfl (zJ (zD [0,4,5,8,9,106,107] [_,_,_,_,_,_,_] rfl ?_))))));refine zE (qF (zS rfl rfl rfl (zR 1 rfl xC rfl rfl rfl) ?_));refine zS (v:=ptrV p) rfl rfl rfl (zO rfl rfl) ?_;refine zS rfl rfl rfl (zH rfl zF rfl yC rfl rfl) ?_;refine zS (v:=vv) rfl rfl rfl (qV rfl yU rfl (fun w1 hw1=>cell_of ((vB (qA (f:=[_,_,_]) (qD (f:=[_,_,_]) hw1)) hm).2) rfl)) ?_;refine zS (v:=.pointer (some (sAt vv 0))) rfl rfl rfl (xW rfl yM xH rfl rfl (by decide) (by simp) (fun w1 hw1=>RowB.row hR1 (qA (f:=[_,_,_]) (qD (f:=[_,_,_]) hw1)))) ?_;refine zS (v:=.int .u8 ((v.toNat:Int))) rfl rfl rfl (qV rfl xD rfl (fun w1 hw1=>Row.u8 (RowB.row hR1 (qA (f:=[_,_,_]) (qD (f:=[_,_,_]) hw1))) (by decide) (by simp))) ?_;refine zS (v:=.int .u8 ((vI v:Int))) rfl rfl rfl (yF (by rw [vI_wrap hv_v]) (jO rfl rfl rfl)) ?_;refine qJ 1 rfl (zS (v:=pf_ p5 (vI v)) rfl rfl rfl (yF (v':=pf_ p5 (vI v)) (by rfl) (vN (i:=(vI v:Int)) rfl Tryd.runUnderlying91 zK rfl rfl (by omega) (by omega))) ?_);refine qN (v:=i6_ ((x:Int))) (hs':=(bk_ p5 ((ints (E.set (vI v) ((x:Int)))).toArray) 91::_::_::(((M,mapP (memoK K))::(memoB K++hs))))) 0 rfl rfl rfl rfl rfl rfl zK rfl (by rw [List.size_toArray,ints_length];omega) (by first | (rw [ints_set];rfl) | (simp only [Nat.zero_add];rw [ints_set];rfl)) ?_;refine zM (zD [0,4,5,8,106,107] [_,_,_,_,_,_] rfl ?_);refine zE (jR (S:=Own B w0 (bk_ p5 ((ints (E.set (vI v) ((x:Int)))).toArray) 91::bk_ p4 #[ptrV p] 80::bk_ h #[i6_ a.n,str a.set,str a.rel,.map (some M)] 143::hs)) [(0,true),(1,true),(7,true),(2,false),(3,true),(4,false),(5,true),(6,false),(8,false)] yG (fun _ h=>h.drawn) (by kernel_rfl) ?_);refine jE 1 rfl (fun _ h=>qD (f:=[_,_,_]) h) ?_;refine yI rfl rfl rfl rfl rfl (zR 1 rfl xC rfl rfl rfl) (fun _ h=>qD (f:=[_,_,_]) h) ?_;refine yI rfl rfl rfl rfl rfl (qX (cs:=(ints (E.set (vI v) ((x:Int)))).toArray) 0 rfl vE rfl rfl (by intro w;rw [show (ints (E.set (vI v) ((x:Int)))).toArray.size=4 from by simp [hEl]];exact jV w)) (fun _ h=>qD (f:=[_,_,_]) h) ?_;refine yV rfl ?_;refine zS (v:=ptrV p) rfl rfl rfl (zO rfl rfl) ?_;refine zM (yO (fun _ h=>qD (f:=[_,_,_]) h) ?_);refine yI rfl rfl rfl rfl rfl (zH rfl zF rfl xL rfl rfl) (fun _ h=>qD (f:=[_,_,_]) h) ?_
   refine yV rfl ?_;refine zS (v:=pv) rfl rfl rfl (qV rfl vD rfl (fun w1 hw1=>cell_of ((vB (qA (f:=[_,_,_]) (qD (f:=[_,_,_]) hw1)) hm).2) rfl)) ?_;refine zM (yO (fun _ h=>qD (f:=[_,_,_]) h) ?_);refine yI (v:=.pointer (some (sAt pv 0))) rfl rfl rfl rfl rfl (xW rfl jY Tryd.sizeOf80 rfl rfl (by decide) (by simp) (fun w1 hw1=>RowB.row hR2 (qA (f:=[_,_,_]) hw1))) (fun _ h=>qD (f:=[_,_,_]) h) ?_;refine yV rfl ?_;refine zS (v:=ptrV q1) rfl rfl rfl (qV rfl xC rfl (fun w1 hw1=>Row.cell (RowB.row hR2 (qA (f:=[_,_,_]) (qD (f:=[_,_,_]) hw1))) (by decide) (by simp))) ?_;refine zM (yO (fun _ h=>qD (f:=[_,_,_]) h) ?_);refine yV rfl ?_;refine jZ (ok:=fun K=>MemoOk 84 a ts K) (b:=ev a q (E.set (vI v) ((x:Int)))) (xs:=[.tmp 119,.tmp 125,.tmp 126]) (vs:=[pt_ h,ptrV q1,.agg ((ints (E.set (vI v) ((x:Int)))).toArray)]) ([bk_ p5 ((ints (E.set (vI v) ((x:Int)))).toArray) 91,bk_ p4 #[ptrV p] 80]:List (Nat×Obj)) rfl rfl rfl rfl Tryd.call119 rfl (fun w1 hw1=>ih q (by first | exact Nat.lt_succ_self _ | exact Nat.lt_succ_of_le (Nat.le_add_right _ _) | exact Nat.lt_succ_of_le (Nat.le_add_left _ _)) hwf.2.2.2.2 B w0 _ ts h M K q1 (E.set (vI v) ((x:Int))) w1 (fun x hx=>List.mem_append_right _ (hts x hx)) hT1 (by rw [hEs];exact hE.set ⟨by omega,by omega⟩) hK hw1) fun K1_1 hM1_1=>?_
   show Ll _ _ (Own _ _ (_::_::_::(((M,mapP (memoK K1_1))::(memoB K1_1++hs))))) _ _ ((127,bo_ (ev a q (E.set (vI v) ((x:Int)))))::_) _ _ _;refine zM (yO (fun _ h=>qD (f:=[_,_,_]) h) ?_);refine Ld.nil ?_;refine zD [0,4,5,8,106,107,127] [_,_,_,_,_,_,_] rfl ?_;refine qH (b:=ev a q (E.set (vI v) ((x:Int)))) rfl (fun h127=>?_) (fun h127=>?_)
   ·
    have hF:evC a v q en4 x=true:=evC_of hEs h127
    have hcs:=cnt_yes hF;refine zB (zC 1 rfl (zN rfl rfl rfl (qT rfl rfl rfl (by omega) (by omega)) ?_));refine zC 1 rfl (zJ (zD [0,4,5,8,106,107] [_,_,_,_,_,_] rfl ?_));refine zB (zN rfl rfl rfl (qT rfl rfl rfl (by omega) (by omega)) ?_);refine zC 1 rfl (zJ (yY ((x+1,E.set (vI v) ((x:Int)),K1_1)) ⟨by omega,by simp [hEl],fun z=>by rw [List.set_set];exact hEs z,hM1_1⟩ (by omega) (Sub.cons rfl (Sub.cons rfl (Sub.cons rfl (Sub.cons (by rw [← hcs];rfl) (Sub.sel [106,107] rfl))))) (fun _ h=>h)))
   have hF:evC a v q en4 x=false:=evC_of hEs (by simpa using h127)
   have hcs:=cnt_no hF;refine qO (zD [0,4,5,8,106,107] [_,_,_,_,_,_] rfl ?_);refine zB (zN rfl rfl rfl (qT rfl rfl rfl (by omega) (by omega)) ?_);refine zC 1 rfl (zJ (yY ((x+1,E.set (vI v) ((x:Int)),K1_1)) ⟨by omega,by simp [hEl],fun z=>by rw [List.set_set];exact hEs z,hM1_1⟩ (by omega) (Sub.cons rfl (Sub.cons rfl (Sub.cons rfl (Sub.cons (by rw [hcs];rfl) (Sub.sel [106,107] rfl))))) (fun _ h=>h)))
  replace h108:=zG h108;refine xA rfl ?_;refine zD [0,4,8] [_,_,_] rfl ?_;refine zE (zE (zB (zN rfl rfl rfl (zR 1 rfl xC rfl rfl rfl) ?_)));refine zN (v:=ptrV p) rfl rfl rfl (zO rfl rfl) ?_;refine zN rfl rfl rfl (zH rfl zF rfl xH rfl rfl) ?_;refine zN (v:=.int .u8 ((c.toNat:Int))) rfl rfl rfl (qV rfl xD rfl (fun w1 hw1=>cell_of ((vB (qA (f:=[_,_,_]) (qD (f:=[_,_,_]) hw1)) hm).2) rfl)) ?_;refine zJ (zD [0,4,8,134] [_,_,_,_] rfl ?_);refine yA (zE (zB (zC 2 rfl (zJ (zD [0,4,8,134,135] [_,_,_,_,_] rfl ?_)))));refine qH (b:=decide (((c.toNat:Int))=(65:Int))) rfl (fun h135=>?_) (fun h135=>?_)
  ·
   replace h135:=zI h135;refine zE (zB (zC 2 rfl (zN (v:=pt_ h) rfl rfl rfl (zO rfl rfl) ?_)));refine zN rfl rfl rfl (zH rfl yQ rfl qU rfl rfl) ?_;refine zN rfl rfl rfl (zH rfl qC rfl zK rfl rfl) ?_;refine zN rfl rfl rfl (zR 2 rfl zU rfl rfl rfl) ?_;refine zC 2 rfl (zJ (zD [6] [_] rfl ?_));refine qL (qQ rfl rfl fun w' hw=>?_)
   exact ⟨K,ret_b (ev65 h135 (by omega)),hK,qA (f:=[_,_]) hw⟩
  replace h135:=zG h135;refine zE (zB (zC 2 rfl (zJ (zD [4,8,144] [_,_,_] rfl ?_))));refine qH (b:=decide (((c.toNat:Int))=(83:Int))) rfl (fun h144=>?_) (fun h144=>?_)
  ·
   replace h144:=zI h144;refine zE (zB (zC 3 rfl (zJ (zD [6] [_] rfl ?_))));refine qL (qQ rfl rfl fun w' hw=>?_)
   exact ⟨K,ret_b (ev83 h144 (by omega)),hK,qA (f:=[_,_]) hw⟩
  replace h144:=zG h144;refine qO (zD [4,8] [_,_] rfl ?_);refine zE (zB (zC 1 rfl (zN rfl rfl rfl (zR 1 rfl xC rfl rfl rfl) ?_)));refine zN (v:=ptrV p) rfl rfl rfl (zO rfl rfl) ?_;refine zN rfl rfl rfl (zH rfl zF rfl xH rfl rfl) ?_;refine zN (v:=.int .u8 ((c.toNat:Int))) rfl rfl rfl (qV rfl xD rfl (fun w1 hw1=>cell_of ((vB (qA (f:=[_,_,_]) (qD (f:=[_,_,_]) hw1)) hm).2) rfl)) ?_;refine zN (v:=.int .u8 ((c.toNat:Int) - 48)) rfl rfl rfl (yF (by rw [IntWalk.u8_in _ (by unfold quI at *;omega)]) (jO rfl rfl rfl)) ?_;refine zN (v:=i6_ ((c.toNat:Int) - 48)) rfl rfl rfl (jH .i64 rfl vF yR rfl (IntWalk.i64_in _ (by have:=c.toNat_lt;omega))) ?_;refine zC 2 rfl (zJ (zD [6] [_] rfl ?_));refine qL (qQ rfl rfl fun w' hw=>?_)
  exact ⟨K,ret_b (ev234 hc h135 h144 (by omega)),hK,qA (f:=[_,_]) hw⟩
 obtain ⟨q1,q2,⟨vv,pv,hm0,hR10,hR20⟩,hT1,hT2⟩:=hT
 have hm:=hts _ hm0
 have hR1:=hR10.more hts
 have hR2:=hR20.more hts;refine zB (zN rfl rfl rfl (zR 1 rfl xC rfl rfl rfl) ?_);refine zN (v:=ptrV p) rfl rfl rfl (zO rfl rfl) ?_;refine zN rfl rfl rfl (zH rfl zF rfl xH rfl rfl) ?_;refine zN (v:=.int .u8 ((c.toNat:Int))) rfl rfl rfl (qV rfl xD rfl (fun w1 hw1=>cell_of ((vB (qA (f:=[_,_,_]) (qD (f:=[_,_,_]) hw1)) hm).2) rfl)) ?_;refine zJ (zD [0,4,5,7,14] [_,_,_,_,_] rfl ?_);refine yA (zE (zB (zC 2 rfl (zJ (zD [0,4,5,7,14,15] [_,_,_,_,_,_] rfl ?_)))));refine qH (b:=decide (((c.toNat:Int))=(116:Int))) rfl (fun h15_5=>?_) (fun h15_5=>?_)
 ·
  replace h15_5:=zI h15_5
  exfalso;omega
 replace h15_5:=zG h15_5;refine zE (zB (zC 2 rfl (zJ (zD [0,4,5,7,14,17] [_,_,_,_,_,_] rfl ?_))));refine qH (b:=decide (((c.toNat:Int))=(102:Int))) rfl (fun h17_5=>?_) (fun h17_5=>?_)
 ·
  replace h17_5:=zI h17_5
  exfalso;omega
 replace h17_5:=zG h17_5;refine zE (zB (zC 2 rfl (zJ (zD [0,4,5,7,14,19] [_,_,_,_,_,_] rfl ?_))));refine qH (b:=decide (((c.toNat:Int))=(80:Int))) rfl (fun h19_4=>?_) (fun h19_4=>?_)
 ·
  replace h19_4:=zI h19_4
  exfalso;omega
 replace h19_4:=zG h19_4;refine zE (zB (zC 2 rfl (zJ (zD [0,4,5,7,14,28] [_,_,_,_,_,_] rfl ?_))));refine qH (b:=decide (((c.toNat:Int))=(61:Int))) rfl (fun h28_3=>?_) (fun h28_3=>?_)
 ·
  replace h28_3:=zI h28_3
  exfalso;omega
 replace h28_3:=zG h28_3;refine zE (zB (zC 2 rfl (zJ (zD [0,4,5,7,14,35] [_,_,_,_,_,_] rfl ?_))));refine qH (b:=decide (((c.toNat:Int))=(69:Int))) rfl (fun h35_3=>?_) (fun h35_3=>?_)
 ·
  replace h35_3:=zI h35_3
  exfalso;omega
 replace h35_3:=zG h35_3;refine zE (zB (zC 2 rfl (zJ (zD [0,4,5,14,46] [_,_,_,_,_] rfl ?_))));refine qH (b:=decide (((c.toNat:Int))=(33:Int))) rfl (fun h46_2=>?_) (fun h46_2=>?_)
 ·
  replace h46_2:=zI h46_2
  exfalso;omega
 replace h46_2:=zG h46_2;refine zE (zB (zC 2 rfl (zJ (zD [0,4,5,14,58] [_,_,_,_,_] rfl ?_))));refine qH (b:=decide (((c.toNat:Int))=(38:Int))) rfl (fun h58_1=>?_) (fun h58_1=>?_)
 ·
  replace h58_1:=zI h58_1;refine zE (jR (S:=Own B w0 (bk_ p5 ((ints en4).toArray) 91::bk_ p4 #[ptrV p] 80::bk_ h #[i6_ a.n,str a.set,str a.rel,.map (some M)] 143::hs)) [(0,true),(1,true),(7,true),(2,false),(3,true),(4,false),(5,true),(6,false),(8,false),(9,true),(10,true),(11,true),(17,true),(12,false),(13,true),(14,false),(15,true),(16,false),(18,false),(19,true),(20,true)] yG (fun _ h=>h.drawn) (by kernel_rfl) ?_);refine jE 1 rfl (fun _ h=>qD (f:=[_,_,_]) h) ?_;refine yI rfl rfl rfl rfl rfl (zR 1 rfl xC rfl rfl rfl) (fun _ h=>qD (f:=[_,_,_]) h) ?_;refine yI rfl rfl rfl rfl rfl (qX (cs:=(ints en4).toArray) 0 rfl vE rfl rfl (by intro w;rw [show (ints en4).toArray.size=4 from by simp [hE4]];exact jV w)) (fun _ h=>qD (f:=[_,_,_]) h) ?_;refine yV rfl ?_;refine zS (v:=ptrV p) rfl rfl rfl (zO rfl rfl) ?_;refine zM (yO (fun _ h=>qD (f:=[_,_,_]) h) ?_);refine yI rfl rfl rfl rfl rfl (zH rfl zF rfl xL rfl rfl) (fun _ h=>qD (f:=[_,_,_]) h) ?_;refine yV rfl ?_;refine zS (v:=pv) rfl rfl rfl (qV rfl vD rfl (fun w1 hw1=>cell_of ((vB (qA (f:=[_,_,_]) (qD (f:=[_,_,_]) hw1)) hm).2) rfl)) ?_;refine zM (yO (fun _ h=>qD (f:=[_,_,_]) h) ?_);refine yI (v:=.pointer (some (sAt pv 0))) rfl rfl rfl rfl rfl (xW rfl jY Tryd.sizeOf80 rfl rfl (by decide) (by simp) (fun w1 hw1=>RowB.row hR2 (qA (f:=[_,_,_]) hw1))) (fun _ h=>qD (f:=[_,_,_]) h) ?_;refine yV rfl ?_;refine zS (v:=ptrV q1) rfl rfl rfl (qV rfl xC rfl (fun w1 hw1=>Row.cell (RowB.row hR2 (qA (f:=[_,_,_]) (qD (f:=[_,_,_]) hw1))) (by decide) (by simp))) ?_;refine zM (yO (fun _ h=>qD (f:=[_,_,_]) h) ?_);refine yV rfl ?_;refine jZ (ok:=fun K=>MemoOk 84 a ts K) (b:=ev a q en4) (xs:=[.tmp 60,.tmp 66,.tmp 67]) (vs:=[pt_ h,ptrV q1,.agg ((ints en4).toArray)]) ([bk_ p5 ((ints en4).toArray) 91,bk_ p4 #[ptrV p] 80]:List (Nat×Obj)) rfl rfl rfl rfl Tryd.call119 rfl (fun w1 hw1=>ih q (by first | exact Nat.lt_succ_self _ | exact Nat.lt_succ_of_le (Nat.le_add_right _ _) | exact Nat.lt_succ_of_le (Nat.le_add_left _ _)) hwf.2.2.2.1 B w0 _ ts h M K q1 en4 w1 (fun x hx=>List.mem_append_right _ (hts x hx)) hT1 hE hK hw1) fun K1_2 hM1_2=>?_
  show Ll _ _ (Own _ _ (_::_::_::(((M,mapP (memoK K1_2))::(memoB K1_2++hs))))) _ _ ((68,bo_ (ev a q en4))::_) _ _ _;refine zM (yO (fun _ h=>qD (f:=[_,_,_]) h) ?_);refine jE 1 rfl (fun _ h=>qD (f:=[_,_,_]) h) ?_;refine Ld.bool fun b69 hg69=>?_
  cases b69
  ·
   skip;refine Ld.pass rfl rfl rfl rfl (fun _ h=>qD (f:=[_,_,_]) h) ?_;refine Ld.pass rfl rfl rfl rfl (fun _ h=>qD (f:=[_,_,_]) h) ?_;refine Ld.pass rfl rfl rfl rfl (fun _ h=>qD (f:=[_,_,_]) h) ?_;refine yV rfl ?_;refine jU rfl rfl rfl ?_;refine zM (yO (fun _ h=>qD (f:=[_,_,_]) h) ?_);refine Ld.pass rfl rfl rfl rfl (fun _ h=>qD (f:=[_,_,_]) h) ?_;refine yV rfl ?_;refine jU rfl rfl rfl ?_;refine zM (yO (fun _ h=>qD (f:=[_,_,_]) h) ?_);refine Ld.pass rfl rfl rfl rfl (fun _ h=>qD (f:=[_,_,_]) h) ?_;refine yV rfl ?_;refine jU rfl rfl rfl ?_;refine zM (yO (fun _ h=>qD (f:=[_,_,_]) h) ?_);refine yV rfl ?_;refine jU rfl rfl rfl ?_;refine zM (yO (fun _ h=>qD (f:=[_,_,_]) h) ?_);refine jE 2 rfl (fun _ h=>qD (f:=[_,_,_]) h) ?_;refine Ld.nil ?_;refine zD [6] [_] rfl ?_;refine qL (qQ rfl rfl fun w' hw=>?_)
   exact ⟨K1_2,ret_b (and_f (ev38 h58_1) hg69),hM1_2,qA (f:=[_,_]) hw⟩
  skip;refine jE 1 rfl (fun _ h=>qD (f:=[_,_,_]) h) ?_;refine yI rfl rfl rfl rfl rfl (zR 1 rfl xC rfl rfl rfl) (fun _ h=>qD (f:=[_,_,_]) h) ?_;refine yI rfl rfl rfl rfl rfl (qX (cs:=(ints en4).toArray) 0 rfl vE rfl rfl (by intro w;rw [show (ints en4).toArray.size=4 from by simp [hE4]];exact jV w)) (fun _ h=>qD (f:=[_,_,_]) h) ?_;refine yV rfl ?_;refine zS (v:=ptrV p) rfl rfl rfl (zO rfl rfl) ?_;refine zM (yO (fun _ h=>qD (f:=[_,_,_]) h) ?_);refine yI rfl rfl rfl rfl rfl (zH rfl zF rfl xL rfl rfl) (fun _ h=>qD (f:=[_,_,_]) h) ?_;refine yV rfl ?_;refine zS (v:=pv) rfl rfl rfl (qV rfl vD rfl (fun w1 hw1=>cell_of ((vB (qA (f:=[_,_,_]) (qD (f:=[_,_,_]) hw1)) hm).2) rfl)) ?_;refine zM (yO (fun _ h=>qD (f:=[_,_,_]) h) ?_);refine yI (v:=.pointer (some (sAt pv 1))) rfl rfl rfl rfl rfl (xW rfl jY Tryd.sizeOf80 rfl rfl (by decide) (by simp) (fun w1 hw1=>RowB.row hR2 (qA (f:=[_,_,_]) hw1))) (fun _ h=>qD (f:=[_,_,_]) h) ?_;refine yV rfl ?_;refine zS (v:=ptrV q2) rfl rfl rfl (qV rfl xC rfl (fun w1 hw1=>Row.cell (RowB.row hR2 (qA (f:=[_,_,_]) (qD (f:=[_,_,_]) hw1))) (by decide) (by simp))) ?_;refine zM (yO (fun _ h=>qD (f:=[_,_,_]) h) ?_);refine yV rfl ?_;refine jZ (ok:=fun K=>MemoOk 84 a ts K) (b:=ev a r en4) (xs:=[.tmp 70,.tmp 76,.tmp 77]) (vs:=[pt_ h,ptrV q2,.agg ((ints en4).toArray)]) ([bk_ p5 ((ints en4).toArray) 91,bk_ p4 #[ptrV p] 80]:List (Nat×Obj)) rfl rfl rfl rfl Tryd.call119 rfl (fun w1 hw1=>ih r (by first | exact Nat.lt_succ_self _ | exact Nat.lt_succ_of_le (Nat.le_add_right _ _) | exact Nat.lt_succ_of_le (Nat.le_add_left _ _)) hwf.2.2.2.2 B w0 _ ts h M K1_2 q2 en4 w1 (fun x hx=>List.mem_append_right _ (hts x hx)) hT2 hE hM1_2 hw1) fun K1_3 hM1_3=>?_
  show Ll _ _ (Own _ _ (_::_::_::(((M,mapP (memoK K1_3))::(memoB K1_3++hs))))) _ _ ((78,bo_ (ev a r en4))::_) _ _ _;refine zM (yO (fun _ h=>qD (f:=[_,_,_]) h) ?_);refine jE 2 rfl (fun _ h=>qD (f:=[_,_,_]) h) ?_;refine Ld.nil ?_;refine zD [6] [_] rfl ?_;refine qL (qQ rfl rfl fun w' hw=>?_)
  exact ⟨K1_3,ret_b (and_t (ev38 h58_1) hg69),hM1_3,qA (f:=[_,_]) hw⟩
 replace h58_1:=zG h58_1;refine zE (zB (zC 2 rfl (zJ (zD [0,4,5,80] [_,_,_,_] rfl ?_))));refine qH (b:=decide (((c.toNat:Int))=(124:Int))) rfl (fun h80_1=>?_) (fun h80_1=>?_)
 ·
  replace h80_1:=zI h80_1;refine zE (jR (S:=Own B w0 (bk_ p5 ((ints en4).toArray) 91::bk_ p4 #[ptrV p] 80::bk_ h #[i6_ a.n,str a.set,str a.rel,.map (some M)] 143::hs)) [(0,true),(1,true),(7,true),(2,false),(3,true),(4,false),(5,true),(6,false),(8,false),(9,true),(10,true),(11,true),(17,true),(12,false),(13,true),(14,false),(15,true),(16,false),(18,false),(19,true),(20,true)] yG (fun _ h=>h.drawn) (by kernel_rfl) ?_);refine jE 1 rfl (fun _ h=>qD (f:=[_,_,_]) h) ?_;refine yI rfl rfl rfl rfl rfl (zR 1 rfl xC rfl rfl rfl) (fun _ h=>qD (f:=[_,_,_]) h) ?_;refine yI rfl rfl rfl rfl rfl (qX (cs:=(ints en4).toArray) 0 rfl vE rfl rfl (by intro w;rw [show (ints en4).toArray.size=4 from by simp [hE4]];exact jV w)) (fun _ h=>qD (f:=[_,_,_]) h) ?_;refine yV rfl ?_;refine zS (v:=ptrV p) rfl rfl rfl (zO rfl rfl) ?_;refine zM (yO (fun _ h=>qD (f:=[_,_,_]) h) ?_);refine yI rfl rfl rfl rfl rfl (zH rfl zF rfl xL rfl rfl) (fun _ h=>qD (f:=[_,_,_]) h) ?_;refine yV rfl ?_;refine zS (v:=pv) rfl rfl rfl (qV rfl vD rfl (fun w1 hw1=>cell_of ((vB (qA (f:=[_,_,_]) (qD (f:=[_,_,_]) hw1)) hm).2) rfl)) ?_;refine zM (yO (fun _ h=>qD (f:=[_,_,_]) h) ?_);refine yI (v:=.pointer (some (sAt pv 0))) rfl rfl rfl rfl rfl (xW rfl jY Tryd.sizeOf80 rfl rfl (by decide) (by simp) (fun w1 hw1=>RowB.row hR2 (qA (f:=[_,_,_]) hw1))) (fun _ h=>qD (f:=[_,_,_]) h) ?_;refine yV rfl ?_;refine zS (v:=ptrV q1) rfl rfl rfl (qV rfl xC rfl (fun w1 hw1=>Row.cell (RowB.row hR2 (qA (f:=[_,_,_]) (qD (f:=[_,_,_]) hw1))) (by decide) (by simp))) ?_;refine zM (yO (fun _ h=>qD (f:=[_,_,_]) h) ?_);refine yV rfl ?_;refine jZ (ok:=fun K=>MemoOk 84 a ts K) (b:=ev a q en4) (xs:=[.tmp 82,.tmp 88,.tmp 89]) (vs:=[pt_ h,ptrV q1,.agg ((ints en4).toArray)]) ([bk_ p5 ((ints en4).toArray) 91,bk_ p4 #[ptrV p] 80]:List (Nat×Obj)) rfl rfl rfl rfl Tryd.call119 rfl (fun w1 hw1=>ih q (by first | exact Nat.lt_succ_self _ | exact Nat.lt_succ_of_le (Nat.le_add_right _ _) | exact Nat.lt_succ_of_le (Nat.le_add_left _ _)) hwf.2.2.2.1 B w0 _ ts h M K q1 en4 w1 (fun x hx=>List.mem_append_right _ (hts x hx)) hT1 hE hK hw1) fun K1_4 hM1_4=>?_
  show Ll _ _ (Own _ _ (_::_::_::(((M,mapP (memoK K1_4))::(memoB K1_4++hs))))) _ _ ((90,bo_ (ev a q en4))::_) _ _ _;refine zM (yO (fun _ h=>qD (f:=[_,_,_]) h) ?_);refine jE 1 rfl (fun _ h=>qD (f:=[_,_,_]) h) ?_;refine Ld.bool fun b91 hg91=>?_
  cases b91
  ·
   skip;refine jE 1 rfl (fun _ h=>qD (f:=[_,_,_]) h) ?_;refine yI rfl rfl rfl rfl rfl (zR 1 rfl xC rfl rfl rfl) (fun _ h=>qD (f:=[_,_,_]) h) ?_;refine yI rfl rfl rfl rfl rfl (qX (cs:=(ints en4).toArray) 0 rfl vE rfl rfl (by intro w;rw [show (ints en4).toArray.size=4 from by simp [hE4]];exact jV w)) (fun _ h=>qD (f:=[_,_,_]) h) ?_;refine yV rfl ?_;refine zS (v:=ptrV p) rfl rfl rfl (zO rfl rfl) ?_;refine zM (yO (fun _ h=>qD (f:=[_,_,_]) h) ?_);refine yI rfl rfl rfl rfl rfl (zH rfl zF rfl xL rfl rfl) (fun _ h=>qD (f:=[_,_,_]) h) ?_;refine yV rfl ?_;refine zS (v:=pv) rfl rfl rfl (qV rfl vD rfl (fun w1 hw1=>cell_of ((vB (qA (f:=[_,_,_]) (qD (f:=[_,_,_]) hw1)) hm).2) rfl)) ?_;refine zM (yO (fun _ h=>qD (f:=[_,_,_]) h) ?_);refine yI (v:=.pointer (some (sAt pv 1))) rfl rfl rfl rfl rfl (xW rfl jY Tryd.sizeOf80 rfl rfl (by decide) (by simp) (fun w1 hw1=>RowB.row hR2 (qA (f:=[_,_,_]) hw1))) (fun _ h=>qD (f:=[_,_,_]) h) ?_;refine yV rfl ?_;refine zS (v:=ptrV q2) rfl rfl rfl (qV rfl xC rfl (fun w1 hw1=>Row.cell (RowB.row hR2 (qA (f:=[_,_,_]) (qD (f:=[_,_,_]) hw1))) (by decide) (by simp))) ?_;refine zM (yO (fun _ h=>qD (f:=[_,_,_]) h) ?_);refine yV rfl ?_;refine jZ (ok:=fun K=>MemoOk 84 a ts K) (b:=ev a r en4) (xs:=[.tmp 92,.tmp 98,.tmp 99]) (vs:=[pt_ h,ptrV q2,.agg ((ints en4).toArray)]) ([bk_ p5 ((ints en4).toArray) 91,bk_ p4 #[ptrV p] 80]:List (Nat×Obj)) rfl rfl rfl rfl Tryd.call119 rfl (fun w1 hw1=>ih r (by first | exact Nat.lt_succ_self _ | exact Nat.lt_succ_of_le (Nat.le_add_right _ _) | exact Nat.lt_succ_of_le (Nat.le_add_left _ _)) hwf.2.2.2.2 B w0 _ ts h M K1_4 q2 en4 w1 (fun x hx=>List.mem_append_right _ (hts x hx)) hT2 hE hM1_4 hw1) fun K1_5 hM1_5=>?_
   show Ll _ _ (Own _ _ (_::_::_::(((M,mapP (memoK K1_5))::(memoB K1_5++hs))))) _ _ ((100,bo_ (ev a r en4))::_) _ _ _;refine zM (yO (fun _ h=>qD (f:=[_,_,_]) h) ?_);refine jE 2 rfl (fun _ h=>qD (f:=[_,_,_]) h) ?_;refine Ld.nil ?_;refine zD [6] [_] rfl ?_;refine qL (qQ rfl rfl fun w' hw=>?_)
   exact ⟨K1_5,ret_b (or_f (ev124 h80_1) hg91),hM1_5,qA (f:=[_,_]) hw⟩
  skip;refine Ld.pass rfl rfl rfl rfl (fun _ h=>qD (f:=[_,_,_]) h) ?_;refine Ld.pass rfl rfl rfl rfl (fun _ h=>qD (f:=[_,_,_]) h) ?_;refine Ld.pass rfl rfl rfl rfl (fun _ h=>qD (f:=[_,_,_]) h) ?_;refine yV rfl ?_;refine jU rfl rfl rfl ?_;refine zM (yO (fun _ h=>qD (f:=[_,_,_]) h) ?_);refine Ld.pass rfl rfl rfl rfl (fun _ h=>qD (f:=[_,_,_]) h) ?_;refine yV rfl ?_;refine jU rfl rfl rfl ?_;refine zM (yO (fun _ h=>qD (f:=[_,_,_]) h) ?_);refine Ld.pass rfl rfl rfl rfl (fun _ h=>qD (f:=[_,_,_]) h) ?_;refine yV rfl ?_;refine jU rfl rfl rfl ?_;refine zM (yO (fun _ h=>qD (f:=[_,_,_]) h) ?_);refine yV rfl ?_;refine jU rfl rfl rfl ?_;refine zM (yO (fun _ h=>qD (f:=[_,_,_]) h) ?_);refine jE 2 rfl (fun _ h=>qD (f:=[_,_,_]) h) ?_;refine Ld.nil ?_;refine zD [6] [_] rfl ?_;refine qL (qQ rfl rfl fun w' hw=>?_)
  exact ⟨K1_4,ret_b (or_t (ev124 h80_1) hg91),hM1_4,qA (f:=[_,_]) hw⟩
 replace h80_1:=zG h80_1
 exfalso;omega
set_option maxHeartbeats 1600000 in
theorem isTrue_step (a:St) (fm:Fm) (ha:a.Fine) (hwf:wfF fm) (hd:IsT 168 a fm) (B:Nat) (w0:World) (hs ts:List (Nat×Obj)) (h M:Nat) (K:Memo) (p:Nat) (en4:List Int) (w:World) (hts:∀ x∈ts,x∈hs) (hT:TreeB 84 ts fm p) (hE:EnvA a en4) (hK:MemoOk 84 a ts K) (hw:Own B w0 (memoF 143 h M a K hs) w) :
    Calls Tryd.prog 119 [pt_ h,ptrV p,.agg ((ints en4).toArray)].toArray w fun en w'=>∃ K',en=.returned (.bool (ev a fm en4))∧MemoOk 84 a ts K'∧Own B w0 (memoF 143 h M a K' hs) w':=by
 refine fnStartC (Own B w0 (bk_ h #[i6_ a.n,str a.set,str a.rel,.map (some M)] 143::((M,mapP (memoK K))::(memoB K++hs)))) (n:=72) (e:=[(0,pt_ h),(1,ptrV p),(2,.agg ((ints en4).toArray))]) Tryd.func119 rfl rfl rfl rfl Ends.both hw ?_
 have hE4:=hE.1
 have hfl:=frB_lt hwf
 obtain ⟨c,vs,ps,vv,pv,hm0,-,-⟩:=hT.node
 have hm:=hts _ hm0
 have hwr:Own B w0 hs w:=qA (f:=[_]) (qD (f:=[_]) hw);refine zE (qF (jC (v:=.agg ((ints en4).toArray)) rfl rfl rfl rfl rfl fun p5 hp5=>?_))
 show Ll _ _ (Own _ _ (_::_::(((M,mapP (memoK K))::(memoB K++hs))))) _ _ ((5,pt_ p5)::_) _ _ _;refine qJ 1 rfl (zM (zD [0,1,5] [_,_,_] rfl ?_));refine zE (zB (zC 1 rfl (zJ (zD [0,1,5,7] [_,_,_,_] rfl ?_))));refine zE (zE (zB (zN rfl rfl rfl (qX (cs:=(ints en4).toArray) 0 rfl vE rfl rfl (by intro w;rw [show (ints en4).toArray.size=4 from by simp [hE4]];exact jV w)) ?_)));refine zC 1 rfl (zJ (zD [0,1,5,7,13,14] [_,_,_,_,_,_] rfl ?_));refine yA (jG (σ:=Nat) (fun i=>i≤4) (fun i=>[(0,pt_ h),(1,ptrV p),(5,pt_ p5),(7,i6_ ((kSum (frB fm) en4 i:Int))),(13,.agg ((ints en4).toArray)),(14,i6_ ((i:Int)))]) (fun i=>Own B w0 (bk_ p5 ((ints en4).toArray) 91::bk_ h #[i6_ a.n,str a.set,str a.rel,.map (some M)] 143::(((M,mapP (memoK K))::(memoB K++hs))))) (fun i=>4 - i) (0) (by omega) (Sub.cons rfl (Sub.cons rfl (Sub.cons rfl (Sub.cons (by rfl) (Sub.sel [13,14] rfl))))) (fun _ h=>h) ?_)
 rintro i hi5;refine zE (zB (zC 1 rfl (zJ (zD [0,1,5,7,13,14,15] [_,_,_,_,_,_,_] rfl ?_))));refine zE (qH (b:=decide (((i:Int))<(4:Int))) rfl (fun h15=>?_) (fun h15=>?_))
 ·
  replace h15:=zI h15
  have hi4:i<4:=by omega
  refine qO (zD [0,1,5,7,13,14] [_,_,_,_,_,_] rfl ?_);refine zE (yA (zE (zB (zC 1 rfl (zN (v:=i6_ (((en4.getD i 0).toNat:Int))) rfl rfl rfl (yF (by rw [Int.toNat_natCast,← (key_val hE ha hi4).1]) (OpQ.indexAgg (i:=(i:Int)) rfl Tryd.runUnderlying91 zU zK rfl rfl (by omega) (by omega) hE4)) ?_)))));refine zC 2 rfl (zJ (zD [0,1,5,7,8,9,13,14] [_,_,_,_,_,_,_,_] rfl ?_));refine zE (zB (zC 1 rfl (zN (v:=ptrV p) rfl rfl rfl (zO rfl rfl) ?_)));refine zN rfl rfl rfl (zH rfl zF rfl zK rfl rfl) ?_;refine zN (v:=i6_ ((frB fm:Int))) rfl rfl rfl (qV rfl zU rfl (fun w1 hw1=>cell_of ((vB (qA (f:=[_,_]) (qD (f:=[_,_]) hw1)) hm).2) rfl)) ?_;refine zC 1 rfl (zN (v:=i6_ ((((frB fm) / 2 ^ i:Nat):Int))) rfl rfl rfl (OpQ.shr (a:=frB fm) (b:=i) rfl rfl rfl (by omega)) ?_);refine zN (v:=i6_ (((((frB fm) / 2 ^ i) &&& 1:Nat):Int))) rfl rfl rfl (OpQ.and (a:=(frB fm) / 2 ^ i) (b:=1) rfl rfl rfl (Nat.lt_of_le_of_lt (Nat.div_le_self _ _) (by omega)) (by decide)) ?_;refine zN (v:=bo_ ((frB fm).testBit i)) rfl rfl rfl (yF (by rw [bit_and]) (OpQ.eql rfl rfl rfl)) ?_;refine zJ (zD [0,1,5,7,8,9,13,14,25] [_,_,_,_,_,_,_,_,_] rfl ?_);refine qH (b:=(frB fm).testBit i) rfl (fun h25=>?_) (fun h25=>?_)
  ·
   refine zB (zC 3 rfl (zN (v:=i6_ (((3*i:Nat):Int))) rfl rfl rfl (yF (by congr 1) (OpQ.mul rfl rfl rfl (by omega) (by omega))) ?_));refine zN (v:=i6_ (((((en4.getD i 0).toNat)*2 ^ (3*i):Nat):Int))) rfl rfl rfl (vA (a:=(en4.getD i 0).toNat) (b:=3*i) rfl rfl rfl (by omega) (shl_bound (key_val hE ha hi4).2 hi4)) ?_;refine zN (v:=i6_ ((((kSum (frB fm) en4 i) ||| (((en4.getD i 0).toNat)*2 ^ (3*i)):Nat):Int))) rfl rfl rfl (yZ (a:=kSum (frB fm) en4 i) (b:=((en4.getD i 0).toNat)*2 ^ (3*i)) rfl rfl rfl (by have:=key_bound hE ha (b:=frB fm) (i:=i) (by omega);omega) (shl_bound (key_val hE ha hi4).2 hi4)) ?_;refine zC 1 rfl (zJ (zD [0,1,5,7,13,14] [_,_,_,_,_,_] rfl ?_));refine zB (zN rfl rfl rfl (qT rfl rfl rfl (by omega) (by omega)) ?_);refine zC 1 rfl (zJ (yY (i+1) (by omega) (by omega) (Sub.cons rfl (Sub.cons rfl (Sub.cons rfl (Sub.cons (by rw [← key_yes hE ha hi4 h25];rfl) (Sub.sel [13,14] rfl))))) (fun _ h=>h)))
  refine qO (zD [0,1,5,7,13,14] [_,_,_,_,_,_] rfl ?_);refine zB (zN rfl rfl rfl (qT rfl rfl rfl (by omega) (by omega)) ?_);refine zC 1 rfl (zJ (yY (i+1) (by omega) (by omega) (Sub.cons rfl (Sub.cons rfl (Sub.cons rfl (Sub.cons (by rw [← key_no h25];rfl) (Sub.sel [13,14] rfl))))) (fun _ h=>h)))
 replace h15:=zG h15
 obtain rfl:i=4:=by omega
 refine xA rfl ?_;refine zD [0,1,5,7] [_,_,_,_] rfl ?_;refine zE (zE ?_)
 rcases memo_case3 K p (keyF fm en4) with hno | ⟨j,m,L,hj,hf,hnk⟩ | ⟨j,m,L,hj,hf,hnk⟩
 ·
  refine zB (zC 1 rfl (zN (v:=pt_ h) rfl rfl rfl (zO rfl rfl) ?_));refine zN rfl rfl rfl (zH rfl yQ rfl xV rfl rfl) ?_;refine zN rfl rfl rfl (zR 1 rfl jA rfl rfl rfl) ?_;refine zC 1 rfl (zN (v:=.map none) rfl rfl rfl (OpQ.lookP_no (K:=memoK K) 2 rfl xJ yE jB (by decide) Tryd.zeroValue181 rfl rfl rfl hno (MemoOk.keys hK (fun x hx=>qE _ (qE _ (qE _ (List.mem_append_right _ (hts x hx)))))) (TreeB.key hT (fun x hx=>qE _ (qE _ (qE _ (List.mem_append_right _ (hts x hx))))))) ?_);refine zC 1 rfl (zN (v:=.tuple #[bo_ false,bo_ false]) rfl rfl rfl (OpQ.lookI_nil (k:=keyF fm en4) rfl xP yR Tryd.zeroValue4 rfl rfl) ?_);refine zC 1 rfl (zN (v:=bo_ false) rfl rfl rfl (qY rfl rfl rfl) ?_);refine zN (v:=bo_ false) rfl rfl rfl (qY rfl rfl rfl) ?_;refine zC 2 rfl (zJ (zD [0,1,5,7,10,11] [_,_,_,_,_,_] rfl ?_));refine zE (zB (zC 1 rfl (zJ (zD [0,1,5,7,10,44] [_,_,_,_,_,_] rfl ?_))));refine xN rfl ?_;refine qO (zD [0,1,5,7] [_,_,_,_] rfl ?_);refine zE (qF (qJ 2 rfl (zS rfl rfl rfl (qX (cs:=(ints en4).toArray) 0 rfl vE rfl rfl (by intro w;rw [show (ints en4).toArray.size=4 from by simp [hE4]];exact jV w)) ?_)));refine jZ (ok:=fun K=>MemoOk 84 a ts K) (b:=ev a fm en4) (xs:=[.tmp 46,.tmp 47,.tmp 48]) (vs:=[pt_ h,ptrV p,.agg ((ints en4).toArray)]) ([bk_ p5 ((ints en4).toArray) 91]:List (Nat×Obj)) rfl rfl rfl rfl Tryd.call168 rfl (fun w1 hw1=>hd B w0 _ ts h M K p en4 w1 (fun x hx=>List.mem_append_right _ (hts x hx)) hT hE hK hw1) fun K1 hM1=>?_
  show Ll _ _ (Own _ _ (_::_::(((M,mapP (memoK K1))::(memoB K1++hs))))) _ _ ((49,bo_ (ev a fm en4))::_) _ _ _;refine qJ 1 rfl (zM (zD [0,1,7,12] [_,_,_,_] rfl ?_));refine zE (zE ?_)
  rcases memo_case K1 p with hno1 | ⟨j1,m1,L1,hj1,hf1⟩
  ·
   refine zB (zC 1 rfl (zN (v:=pt_ h) rfl rfl rfl (zO rfl rfl) ?_));refine zN rfl rfl rfl (zH rfl yQ rfl xV rfl rfl) ?_;refine zN rfl rfl rfl (zR 1 rfl jA rfl rfl rfl) ?_;refine zC 1 rfl (zN (v:=.map none) rfl rfl rfl (OpQ.lookP_no (K:=memoK K1) 2 rfl xJ yE jB (by decide) Tryd.zeroValue181 rfl rfl rfl hno1 (MemoOk.keys hM1 (fun x hx=>qE _ (qE _ (qE _ (List.mem_append_right _ (hts x hx)))))) (TreeB.key hT (fun x hx=>qE _ (qE _ (qE _ (List.mem_append_right _ (hts x hx))))))) ?_);refine zN (v:=bo_ true) rfl rfl rfl (OpQ.eqNilM (p:=none) rfl xP rfl rfl) ?_;refine zJ (zD [0,1,7,12,56] [_,_,_,_,_] rfl ?_);refine xZ (σ:=Memo×Nat×Nat×List (Int×Bool)) (fun ⟨K3,j3,m3,L3⟩=>MemoOk 84 a ts K3∧K3[j3]?=some (p,m3,L3)∧∀ (q:Nat) (x:Nat×Nat),q<j3→(memoK K3)[q]?=some x→x.1 ≠ p) (fun ⟨K3,j3,m3,L3⟩=>[(0,pt_ h),(1,ptrV p),(7,i6_ (keyF fm en4)),(12,bo_ (ev a fm en4))]) (fun ⟨K3,j3,m3,L3⟩=>Own B w0 (bk_ p5 ((ints en4).toArray) 91::bk_ h #[i6_ a.n,str a.set,str a.rel,.map (some M)] 143::(((M,mapP (memoK K3))::(memoB K3++hs))))) ?_ ?_
   ·
    refine yN rfl ?_;refine qF (qJ 1 rfl (zS (v:=pt_ h) rfl rfl rfl (zO rfl rfl) ?_));refine zS rfl rfl rfl (zH rfl yQ rfl xV rfl rfl) ?_;refine zS rfl rfl rfl (zR 1 rfl jA rfl rfl rfl) ?_;refine qJ 1 rfl (Ll.makeMapI rfl rfl rfl rfl fun m62 hm62=>?_)
    show Ll _ _ (Own _ _ (_::_::_::(((M,mapP (memoK K1))::(memoB K1++hs))))) _ _ ((62,.map (some m62))::_) _ _ _;refine Ll.mapSetP (K:=memoK K1) (m:=m62) 3 rfl rfl rfl xJ yE jB (by decide) rfl rfl rfl rfl hno1 (MemoOk.keys hM1 (fun x hx=>qE _ (qE _ (qE _ (qE _ (List.mem_append_right _ (hts x hx))))))) (TreeB.key hT (fun x hx=>qE _ (qE _ (qE _ (qE _ (List.mem_append_right _ (hts x hx))))))) ?_
    show Ll _ _ (Own _ _ (_::_::_::(((M,mapP (memoK K1++[(p,m62)]))::(memoB K1++hs))))) _ _ _ _ _ _;refine zM (qK ((K1++[(p,m62,[])],K1.length,m62,[])) ⟨MemoOk.add hM1 hT hwf,(memo_last hno1).1,(memo_last hno1).2⟩ (Sub.sel [0,1,7,12] rfl) (fun _ h=>h.perm (memo_new [_,_] _)))
   rintro ⟨K3,j3,m3,L3⟩ ⟨hK3,hj3,hf3⟩
   dsimp only;refine zD [0,1,7,12] [_,_,_,_] rfl ?_;refine zE (qF (qJ 1 rfl (zS (v:=pt_ h) rfl rfl rfl (zO rfl rfl) ?_)));refine zS rfl rfl rfl (zH rfl yQ rfl xV rfl rfl) ?_;refine zS rfl rfl rfl (zR 1 rfl jA rfl rfl rfl) ?_;refine qJ 1 rfl (zS (v:=.map (some m3)) rfl rfl rfl (vO (K:=memoK K3) 2 rfl xJ yE jB (by decide) rfl rfl rfl (memoK_get hj3) hf3 (MemoOk.keys hK3 (fun x hx=>qE _ (qE _ (qE _ (List.mem_append_right _ (hts x hx))))))) ?_);refine qJ 2 rfl (Ll.mapSetI (L:=L3) (k:=keyF fm en4) (b:=ev a fm en4) (j3+3) rfl rfl rfl xP yR rfl rfl rfl (memoB_at hj3) fun L2 hL2=>?_)
   rw [memo_set2 hj3]
   show Ll _ _ (Own _ _ (_::_::(((M,mapP (memoK (K3.set j3 (p,m3,L2))))::(memoB (K3.set j3 (p,m3,L2))++hs))))) _ _ _ _ _ _;refine zM (zD [12] [_] rfl ?_);refine zE (zB (zC 2 rfl (zJ (zD [6] [_] rfl ?_))));refine qL (qQ rfl rfl fun w' hw=>?_)
   exact ⟨(K3.set j3 (p,m3,L2)),rfl,MemoOk.set hK3 hts hwr hT hwf hE hj3 hL2,qA (f:=[_]) hw⟩
  refine zB (zC 1 rfl (zN (v:=pt_ h) rfl rfl rfl (zO rfl rfl) ?_));refine zN rfl rfl rfl (zH rfl yQ rfl xV rfl rfl) ?_;refine zN rfl rfl rfl (zR 1 rfl jA rfl rfl rfl) ?_;refine zC 1 rfl (zN (v:=.map (some m1)) rfl rfl rfl (vO (K:=memoK K1) 2 rfl xJ yE jB (by decide) rfl rfl rfl (memoK_get hj1) hf1 (MemoOk.keys hM1 (fun x hx=>qE _ (qE _ (qE _ (List.mem_append_right _ (hts x hx))))))) ?_);refine zN (v:=bo_ false) rfl rfl rfl (OpQ.eqNilM (p:=some m1) rfl xP rfl rfl) ?_;refine zJ (zD [0,1,7,12,56] [_,_,_,_,_] rfl ?_);refine xZ (σ:=Memo×Nat×Nat×List (Int×Bool)) (fun ⟨K3,j3,m3,L3⟩=>MemoOk 84 a ts K3∧K3[j3]?=some (p,m3,L3)∧∀ (q:Nat) (x:Nat×Nat),q<j3→(memoK K3)[q]?=some x→x.1 ≠ p) (fun ⟨K3,j3,m3,L3⟩=>[(0,pt_ h),(1,ptrV p),(7,i6_ (keyF fm en4)),(12,bo_ (ev a fm en4))]) (fun ⟨K3,j3,m3,L3⟩=>Own B w0 (bk_ p5 ((ints en4).toArray) 91::bk_ h #[i6_ a.n,str a.set,str a.rel,.map (some M)] 143::(((M,mapP (memoK K3))::(memoB K3++hs))))) ?_ ?_
  ·
   refine xN rfl ?_;refine qO (qK ((K1,j1,m1,L1)) ⟨hM1,hj1,hf1⟩ (Sub.sel [0,1,7,12] rfl) (fun _ h=>h))
  rintro ⟨K3,j3,m3,L3⟩ ⟨hK3,hj3,hf3⟩
  dsimp only;refine zD [0,1,7,12] [_,_,_,_] rfl ?_;refine zE (qF (qJ 1 rfl (zS (v:=pt_ h) rfl rfl rfl (zO rfl rfl) ?_)));refine zS rfl rfl rfl (zH rfl yQ rfl xV rfl rfl) ?_;refine zS rfl rfl rfl (zR 1 rfl jA rfl rfl rfl) ?_;refine qJ 1 rfl (zS (v:=.map (some m3)) rfl rfl rfl (vO (K:=memoK K3) 2 rfl xJ yE jB (by decide) rfl rfl rfl (memoK_get hj3) hf3 (MemoOk.keys hK3 (fun x hx=>qE _ (qE _ (qE _ (List.mem_append_right _ (hts x hx))))))) ?_);refine qJ 2 rfl (Ll.mapSetI (L:=L3) (k:=keyF fm en4) (b:=ev a fm en4) (j3+3) rfl rfl rfl xP yR rfl rfl rfl (memoB_at hj3) fun L2 hL2=>?_)
  rw [memo_set2 hj3]
  show Ll _ _ (Own _ _ (_::_::(((M,mapP (memoK (K3.set j3 (p,m3,L2))))::(memoB (K3.set j3 (p,m3,L2))++hs))))) _ _ _ _ _ _;refine zM (zD [12] [_] rfl ?_);refine zE (zB (zC 2 rfl (zJ (zD [6] [_] rfl ?_))));refine qL (qQ rfl rfl fun w' hw=>?_)
  exact ⟨(K3.set j3 (p,m3,L2)),rfl,MemoOk.set hK3 hts hwr hT hwf hE hj3 hL2,qA (f:=[_]) hw⟩
 ·
  refine zB (zC 1 rfl (zN (v:=pt_ h) rfl rfl rfl (zO rfl rfl) ?_));refine zN rfl rfl rfl (zH rfl yQ rfl xV rfl rfl) ?_;refine zN rfl rfl rfl (zR 1 rfl jA rfl rfl rfl) ?_;refine zC 1 rfl (zN (v:=.map (some m)) rfl rfl rfl (vO (K:=memoK K) 2 rfl xJ yE jB (by decide) rfl rfl rfl (memoK_get hj) hf (MemoOk.keys hK (fun x hx=>qE _ (qE _ (qE _ (List.mem_append_right _ (hts x hx))))))) ?_);refine zC 1 rfl (zN (v:=.tuple #[bo_ false,bo_ false]) rfl rfl rfl (OpQ.lookI_no (L:=L) (k:=keyF fm en4) (j+3) rfl xP yR Tryd.zeroValue4 rfl rfl (memoB_at hj) hnk) ?_);refine zC 1 rfl (zN (v:=bo_ false) rfl rfl rfl (qY rfl rfl rfl) ?_);refine zN (v:=bo_ false) rfl rfl rfl (qY rfl rfl rfl) ?_;refine zC 2 rfl (zJ (zD [0,1,5,7,10,11] [_,_,_,_,_,_] rfl ?_));refine zE (zB (zC 1 rfl (zJ (zD [0,1,5,7,10,44] [_,_,_,_,_,_] rfl ?_))));refine xN rfl ?_;refine qO (zD [0,1,5,7] [_,_,_,_] rfl ?_);refine zE (qF (qJ 2 rfl (zS rfl rfl rfl (qX (cs:=(ints en4).toArray) 0 rfl vE rfl rfl (by intro w;rw [show (ints en4).toArray.size=4 from by simp [hE4]];exact jV w)) ?_)));refine jZ (ok:=fun K=>MemoOk 84 a ts K) (b:=ev a fm en4) (xs:=[.tmp 46,.tmp 47,.tmp 48]) (vs:=[pt_ h,ptrV p,.agg ((ints en4).toArray)]) ([bk_ p5 ((ints en4).toArray) 91]:List (Nat×Obj)) rfl rfl rfl rfl Tryd.call168 rfl (fun w1 hw1=>hd B w0 _ ts h M K p en4 w1 (fun x hx=>List.mem_append_right _ (hts x hx)) hT hE hK hw1) fun K1_1 hM1_1=>?_
  show Ll _ _ (Own _ _ (_::_::(((M,mapP (memoK K1_1))::(memoB K1_1++hs))))) _ _ ((49,bo_ (ev a fm en4))::_) _ _ _;refine qJ 1 rfl (zM (zD [0,1,7,12] [_,_,_,_] rfl ?_));refine zE (zE ?_)
  rcases memo_case K1_1 p with hno1 | ⟨j1,m1,L1,hj1,hf1⟩
  ·
   refine zB (zC 1 rfl (zN (v:=pt_ h) rfl rfl rfl (zO rfl rfl) ?_));refine zN rfl rfl rfl (zH rfl yQ rfl xV rfl rfl) ?_;refine zN rfl rfl rfl (zR 1 rfl jA rfl rfl rfl) ?_;refine zC 1 rfl (zN (v:=.map none) rfl rfl rfl (OpQ.lookP_no (K:=memoK K1_1) 2 rfl xJ yE jB (by decide) Tryd.zeroValue181 rfl rfl rfl hno1 (MemoOk.keys hM1_1 (fun x hx=>qE _ (qE _ (qE _ (List.mem_append_right _ (hts x hx)))))) (TreeB.key hT (fun x hx=>qE _ (qE _ (qE _ (List.mem_append_right _ (hts x hx))))))) ?_);refine zN (v:=bo_ true) rfl rfl rfl (OpQ.eqNilM (p:=none) rfl xP rfl rfl) ?_;refine zJ (zD [0,1,7,12,56] [_,_,_,_,_] rfl ?_);refine xZ (σ:=Memo×Nat×Nat×List (Int×Bool)) (fun ⟨K3,j3,m3,L3⟩=>MemoOk 84 a ts K3∧K3[j3]?=some (p,m3,L3)∧∀ (q:Nat) (x:Nat×Nat),q<j3→(memoK K3)[q]?=some x→x.1 ≠ p) (fun ⟨K3,j3,m3,L3⟩=>[(0,pt_ h),(1,ptrV p),(7,i6_ (keyF fm en4)),(12,bo_ (ev a fm en4))]) (fun ⟨K3,j3,m3,L3⟩=>Own B w0 (bk_ p5 ((ints en4).toArray) 91::bk_ h #[i6_ a.n,str a.set,str a.rel,.map (some M)] 143::(((M,mapP (memoK K3))::(memoB K3++hs))))) ?_ ?_
   ·
    refine yN rfl ?_;refine qF (qJ 1 rfl (zS (v:=pt_ h) rfl rfl rfl (zO rfl rfl) ?_));refine zS rfl rfl rfl (zH rfl yQ rfl xV rfl rfl) ?_;refine zS rfl rfl rfl (zR 1 rfl jA rfl rfl rfl) ?_;refine qJ 1 rfl (Ll.makeMapI rfl rfl rfl rfl fun m62_1 hm62_1=>?_)
    show Ll _ _ (Own _ _ (_::_::_::(((M,mapP (memoK K1_1))::(memoB K1_1++hs))))) _ _ ((62,.map (some m62_1))::_) _ _ _;refine Ll.mapSetP (K:=memoK K1_1) (m:=m62_1) 3 rfl rfl rfl xJ yE jB (by decide) rfl rfl rfl rfl hno1 (MemoOk.keys hM1_1 (fun x hx=>qE _ (qE _ (qE _ (qE _ (List.mem_append_right _ (hts x hx))))))) (TreeB.key hT (fun x hx=>qE _ (qE _ (qE _ (qE _ (List.mem_append_right _ (hts x hx))))))) ?_
    show Ll _ _ (Own _ _ (_::_::_::(((M,mapP (memoK K1_1++[(p,m62_1)]))::(memoB K1_1++hs))))) _ _ _ _ _ _;refine zM (qK ((K1_1++[(p,m62_1,[])],K1_1.length,m62_1,[])) ⟨MemoOk.add hM1_1 hT hwf,(memo_last hno1).1,(memo_last hno1).2⟩ (Sub.sel [0,1,7,12] rfl) (fun _ h=>h.perm (memo_new [_,_] _)))
   rintro ⟨K3,j3,m3,L3⟩ ⟨hK3,hj3,hf3⟩
   dsimp only;refine zD [0,1,7,12] [_,_,_,_] rfl ?_;refine zE (qF (qJ 1 rfl (zS (v:=pt_ h) rfl rfl rfl (zO rfl rfl) ?_)));refine zS rfl rfl rfl (zH rfl yQ rfl xV rfl rfl) ?_;refine zS rfl rfl rfl (zR 1 rfl jA rfl rfl rfl) ?_;refine qJ 1 rfl (zS (v:=.map (some m3)) rfl rfl rfl (vO (K:=memoK K3) 2 rfl xJ yE jB (by decide) rfl rfl rfl (memoK_get hj3) hf3 (MemoOk.keys hK3 (fun x hx=>qE _ (qE _ (qE _ (List.mem_append_right _ (hts x hx))))))) ?_);refine qJ 2 rfl (Ll.mapSetI (L:=L3) (k:=keyF fm en4) (b:=ev a fm en4) (j3+3) rfl rfl rfl xP yR rfl rfl rfl (memoB_at hj3) fun L2 hL2=>?_)
   rw [memo_set2 hj3]
   show Ll _ _ (Own _ _ (_::_::(((M,mapP (memoK (K3.set j3 (p,m3,L2))))::(memoB (K3.set j3 (p,m3,L2))++hs))))) _ _ _ _ _ _;refine zM (zD [12] [_] rfl ?_);refine zE (zB (zC 2 rfl (zJ (zD [6] [_] rfl ?_))));refine qL (qQ rfl rfl fun w' hw=>?_)
   exact ⟨(K3.set j3 (p,m3,L2)),rfl,MemoOk.set hK3 hts hwr hT hwf hE hj3 hL2,qA (f:=[_]) hw⟩
  refine zB (zC 1 rfl (zN (v:=pt_ h) rfl rfl rfl (zO rfl rfl) ?_));refine zN rfl rfl rfl (zH rfl yQ rfl xV rfl rfl) ?_;refine zN rfl rfl rfl (zR 1 rfl jA rfl rfl rfl) ?_;refine zC 1 rfl (zN (v:=.map (some m1)) rfl rfl rfl (vO (K:=memoK K1_1) 2 rfl xJ yE jB (by decide) rfl rfl rfl (memoK_get hj1) hf1 (MemoOk.keys hM1_1 (fun x hx=>qE _ (qE _ (qE _ (List.mem_append_right _ (hts x hx))))))) ?_);refine zN (v:=bo_ false) rfl rfl rfl (OpQ.eqNilM (p:=some m1) rfl xP rfl rfl) ?_;refine zJ (zD [0,1,7,12,56] [_,_,_,_,_] rfl ?_);refine xZ (σ:=Memo×Nat×Nat×List (Int×Bool)) (fun ⟨K3,j3,m3,L3⟩=>MemoOk 84 a ts K3∧K3[j3]?=some (p,m3,L3)∧∀ (q:Nat) (x:Nat×Nat),q<j3→(memoK K3)[q]?=some x→x.1 ≠ p) (fun ⟨K3,j3,m3,L3⟩=>[(0,pt_ h),(1,ptrV p),(7,i6_ (keyF fm en4)),(12,bo_ (ev a fm en4))]) (fun ⟨K3,j3,m3,L3⟩=>Own B w0 (bk_ p5 ((ints en4).toArray) 91::bk_ h #[i6_ a.n,str a.set,str a.rel,.map (some M)] 143::(((M,mapP (memoK K3))::(memoB K3++hs))))) ?_ ?_
  ·
   refine xN rfl ?_;refine qO (qK ((K1_1,j1,m1,L1)) ⟨hM1_1,hj1,hf1⟩ (Sub.sel [0,1,7,12] rfl) (fun _ h=>h))
  rintro ⟨K3,j3,m3,L3⟩ ⟨hK3,hj3,hf3⟩
  dsimp only;refine zD [0,1,7,12] [_,_,_,_] rfl ?_;refine zE (qF (qJ 1 rfl (zS (v:=pt_ h) rfl rfl rfl (zO rfl rfl) ?_)));refine zS rfl rfl rfl (zH rfl yQ rfl xV rfl rfl) ?_;refine zS rfl rfl rfl (zR 1 rfl jA rfl rfl rfl) ?_;refine qJ 1 rfl (zS (v:=.map (some m3)) rfl rfl rfl (vO (K:=memoK K3) 2 rfl xJ yE jB (by decide) rfl rfl rfl (memoK_get hj3) hf3 (MemoOk.keys hK3 (fun x hx=>qE _ (qE _ (qE _ (List.mem_append_right _ (hts x hx))))))) ?_);refine qJ 2 rfl (Ll.mapSetI (L:=L3) (k:=keyF fm en4) (b:=ev a fm en4) (j3+3) rfl rfl rfl xP yR rfl rfl rfl (memoB_at hj3) fun L2 hL2=>?_)
  rw [memo_set2 hj3]
  show Ll _ _ (Own _ _ (_::_::(((M,mapP (memoK (K3.set j3 (p,m3,L2))))::(memoB (K3.set j3 (p,m3,L2))++hs))))) _ _ _ _ _ _;refine zM (zD [12] [_] rfl ?_);refine zE (zB (zC 2 rfl (zJ (zD [6] [_] rfl ?_))));refine qL (qQ rfl rfl fun w' hw=>?_)
  exact ⟨(K3.set j3 (p,m3,L2)),rfl,MemoOk.set hK3 hts hwr hT hwf hE hj3 hL2,qA (f:=[_]) hw⟩
 refine zB (zC 1 rfl (zN (v:=pt_ h) rfl rfl rfl (zO rfl rfl) ?_));refine zN rfl rfl rfl (zH rfl yQ rfl xV rfl rfl) ?_;refine zN rfl rfl rfl (zR 1 rfl jA rfl rfl rfl) ?_;refine zC 1 rfl (zN (v:=.map (some m)) rfl rfl rfl (vO (K:=memoK K) 2 rfl xJ yE jB (by decide) rfl rfl rfl (memoK_get hj) hf (MemoOk.keys hK (fun x hx=>qE _ (qE _ (qE _ (List.mem_append_right _ (hts x hx))))))) ?_);refine zC 1 rfl (zN (v:=.tuple #[bo_ (ev a fm en4),bo_ true]) rfl rfl rfl (OpQ.lookI_at (L:=L) (k:=keyF fm en4) (b:=ev a fm en4) (j+3) rfl xP yR rfl rfl (memoB_at hj) hnk (memo_ev ha hK hts hwr hT hwf hE hj)) ?_);refine zC 1 rfl (zN (v:=bo_ (ev a fm en4)) rfl rfl rfl (qY rfl rfl rfl) ?_);refine zN (v:=bo_ true) rfl rfl rfl (qY rfl rfl rfl) ?_;refine zC 2 rfl (zJ (zD [0,1,5,7,10,11] [_,_,_,_,_,_] rfl ?_));refine zE (zB (zC 1 rfl (zJ (zD [0,1,5,7,10,44] [_,_,_,_,_,_] rfl ?_))));refine yN rfl ?_;refine zE (zB (zC 2 rfl (zJ (zD [6] [_] rfl ?_))));refine qL (qQ rfl rfl fun w' hw=>?_)
 exact ⟨K,rfl,hK,qA (f:=[_]) hw⟩
theorem isTrue_ok (a:St) (fm:Fm) (ha:a.Fine) (hwf:wfF fm):IsT 119 a fm:=by
  have key:∀ (m:Nat) (fm:Fm),szF fm≤m→wfF fm→IsT 119 a fm:=fun m=>by
    induction m with
    | zero=>exact fun fm h1 h2 B w0 hs ts h M K p en4 w=>isTrue_step a fm ha h2 (fun B w0 hs ts h M K p en4 w=>decide_step a fm ha h2 (fun fm2 h3=>absurd h3 (by omega)) B w0 hs ts h M K p en4 w) B w0 hs ts h M K p en4 w
    | succ m ih=>exact fun fm h1 h2 B w0 hs ts h M K p en4 w=>isTrue_step a fm ha h2 (fun B w0 hs ts h M K p en4 w=>decide_step a fm ha h2 (fun fm2 h3 h4=>ih fm2 (by omega) h4) B w0 hs ts h M K p en4 w) B w0 hs ts h M K p en4 w
  exact key _ fm (Nat.le_refl _) hwf
end Go.Proofs.YtefiibghfgfdnaaDoor
namespace Go.Proofs.YtefiibghfgfdnaaDoor
open Go.RowKit Go.Wk
set_option linter.unusedSimpArgs false
set_option maxHeartbeats 400000 in
theorem newHold_ok (a:St) (B:Nat) (w0:World) (hs:List (Nat×Obj)) (w:World) (hw:Own B w0 hs w) :
    Calls Tryd.prog 64 [vS a].toArray w fun en w'=>∃ (h M:Nat),en=.returned (.pointer (some ⟨h,0,none⟩))∧Own B w0 (memoF 143 h M a [] hs) w':=by
 refine fnStartC (Own B w0 hs) (n:=7) (e:=[(0,vS a)]) Tryd.func64 rfl rfl rfl rfl Ends.both hw ?_;refine zE (qF (jC (v:=vS a) rfl rfl rfl rfl rfl fun p1 hp1=>?_))
 show Ll _ _ (Own _ _ (_::hs)) _ _ ((1,pt_ p1)::_) _ _ _;refine qJ 1 rfl (zM (zD [1] [_] rfl ?_));refine zE (qF (zS rfl rfl rfl (qX (cs:=#[i6_ a.n,str a.set,str a.rel]) 0 rfl qW rfl rfl qU) ?_));refine Ll.makeMapP rfl rfl rfl rfl fun m4 hm4=>?_
 show Ll _ _ (Own _ _ (_::_::hs)) _ _ ((4,.map (some m4))::_) _ _ _;refine zS (v:=.agg #[i6_ a.n,str a.set,str a.rel,.map (some m4)]) rfl rfl rfl (OpQ.build (xs:=[.tmp 3,.tmp 4]) (vs:=[vS a,.map (some m4)]) rfl rfl (by kernel_rfl)) ?_;refine jC (v:=.agg #[i6_ a.n,str a.set,str a.rel,.map (some m4)]) rfl rfl rfl rfl rfl fun p6 hp6=>?_
 show Ll _ _ (Own _ _ (_::_::_::hs)) _ _ ((6,pt_ p6)::_) _ _ _;refine qJ 1 rfl (zM (zD [2] [_] rfl ?_));refine qL (qQ rfl rfl fun w' hw=>?_)
 exact ⟨p6,m4,rfl,Own.pickT (hs:=[_,_,_]) (hs':=[_,_]) hw [0,1] rfl (by decide)⟩
set_option maxHeartbeats 400000 in
theorem holds_ok (a:St) (fm:Fm) (ha:a.Fine) (hwf:wfF fm) (xs:List Int) (va:Value) (hl:xs.length≤4) (B:Nat) (w0:World) (hs ts:List (Nat×Obj)) (h M:Nat) (K:Memo) (p:Nat) (w:World) (hts:∀ x∈ts,x∈hs) (hT:TreeB 84 ts fm p) (hva:∀ w1,Own B w0 hs w1→Ints w1 va xs) (hE:EnvA a (envL xs)) (hK:MemoOk 84 a ts K) (hw:Own B w0 (memoF 143 h M a K hs) w) :
    Calls Tryd.prog 65 [pt_ h,ptrV p,va].toArray w fun en w'=>∃ K',en=.returned (.bool (ev a fm (envL xs)))∧MemoOk 84 a ts K'∧Own B w0 (memoF 143 h M a K' hs) w':=by
 refine fnStartC (Own B w0 (bk_ h #[i6_ a.n,str a.set,str a.rel,.map (some M)] 143::((M,mapP (memoK K))::(memoB K++hs)))) (n:=16) (e:=[(0,pt_ h),(1,ptrV p),(2,va)]) Tryd.func65 rfl rfl rfl rfl Ends.both hw ?_;refine zE (zB (zC 1 rfl (zJ (zD [0,1,2] [_,_,_] rfl ?_))));refine zE (qF (zS (v:=.agg #[i6_ 0,i6_ 0,i6_ 0,i6_ 0]) rfl rfl rfl (OpQ.build (xs:=[]) (vs:=[]) rfl rfl (by kernel_rfl)) ?_));refine vK rfl rfl rfl rfl Tryd.zeroValue91 fun p7 hp7=>?_
 show Ll _ _ (Own _ _ (bk_ p7 #[i6_ 0,i6_ 0,i6_ 0,i6_ 0] 91::_::(((M,mapP (memoK K))::(memoB K++hs))))) _ _ ((7,pt_ p7)::_) _ _ _;refine jI (cs':=#[i6_ 0,i6_ 0,i6_ 0,i6_ 0]) (hs':=(bk_ p7 #[i6_ 0,i6_ 0,i6_ 0,i6_ 0] 91::_::(((M,mapP (memoK K))::(memoB K++hs))))) 0 rfl rfl rfl rfl rfl (by kernel_rfl:_=some Tryd.t91) rfl rfl rfl rfl rfl ?_;refine zM (zD [0,1,2,7] [_,_,_,_] rfl ?_);refine zE (qF (zS (v:=sl_ p7 4 4) rfl rfl rfl (OpQ.sliceAll rfl Tryd.runUnderlying91 zK rfl) ?_));refine qJ 1 rfl (Ll.copyEnv (xs:=xs) 0 rfl rfl rfl rfl Tryd.underlying30 (by kernel_rfl) rfl rfl rfl (fun w1 hw1=>hva w1 (qA (f:=[_,_]) (qD (f:=[_,_]) hw1))) hl ?_)
 show Ll _ _ (Own _ _ (_::_::(((M,mapP (memoK K))::(memoB K++hs))))) _ _ ((11,i6_ ((xs.length:Int)))::_) _ _ _;refine zM (zD [0,1,7] [_,_,_] rfl ?_);refine zE (qF (qJ 2 rfl (zS rfl rfl rfl (qX (cs:=(ints (envL xs)).toArray) 0 rfl vE rfl rfl (by intro w;rw [show (ints (envL xs)).toArray.size=4 from by simp [envL_len hl]];exact jV w)) ?_)));refine jZ (ok:=fun K=>MemoOk 84 a ts K) (b:=ev a fm (envL xs)) (xs:=[.tmp 12,.tmp 13,.tmp 14]) (vs:=[pt_ h,ptrV p,.agg ((ints (envL xs)).toArray)]) ([bk_ p7 ((ints (envL xs)).toArray) 91]:List (Nat×Obj)) rfl rfl rfl rfl Tryd.call119 rfl (fun w1 hw1=>isTrue_ok a fm ha hwf B w0 _ ts h M K p (envL xs) w1 (fun x hx=>List.mem_append_right _ (hts x hx)) hT hE hK hw1) fun K1 hM1=>?_
 show Ll _ _ (Own _ _ (_::_::(((M,mapP (memoK K1))::(memoB K1++hs))))) _ _ ((15,bo_ (ev a fm (envL xs)))::_) _ _ _;refine qJ 1 rfl (zM (zD [6] [_] rfl ?_));refine qL (qQ rfl rfl fun w' hw=>?_)
 exact ⟨K1,rfl,hM1,qA (f:=[_]) hw⟩
set_option maxHeartbeats 800000 in
theorem iHolds_ok (a:St) (f:List UInt8) (va:Value) (xs:List Int) (w:World) (hsa:a.Small) (hva:Ints w va xs) (hxl:xs.length≤1048576) :
    Calls Tryd.prog 58 [vS a,str f,va].toArray w fun en w'=>en=.returned (.tuple #[.bool (holdV a f xs),.bool (holdK a f xs)])∧Below w.heap.size w w':=by
 refine fnStart (n:=44) (e:=[(0,vS a),(1,str f),(2,va)]) Tryd.func58 rfl rfl rfl rfl Ends.both ?_;refine zE (qF (jC (v:=vS a) rfl rfl rfl rfl rfl fun p3 hp3=>?_))
 show Ll _ _ (Own _ _ [_]) _ _ ((3,pt_ p3)::_) _ _ _;refine qJ 2 rfl (zM (zD [1,2,3] [_,_,_] rfl ?_));refine zE ?_
 rcases hff1:formO f with _ | fm1
 ·
  refine qF (qJ 1 rfl (jS (σ:=Unit) (ok:=fun _=>True) (v:=fun _=>.pointer none) (hs':=fun _=>[bk_ p3 #[i6_ a.n,str a.set,str a.rel] 24]) (xs:=[.tmp 9]) (vs:=[str f]) rfl rfl rfl rfl Tryd.call63 rfl (fun w1 hw1=>(pform_ok f _ _ (([bk_ p3 #[i6_ a.n,str a.set,str a.rel] 24]:List (Nat×Obj))++([])) w1 hw1).mono fun en w' hR=>by rw [hff1] at hR;exact ⟨(),hR.1,trivial,hR.2⟩) fun _ _=>?_))
  show Ll _ _ (Own _ _ [_]) _ _ ((10,.pointer none)::_) _ _ _;refine qJ 1 rfl (zM (zD [2,3,8] [_,_,_] rfl ?_));refine zE (zE (zB (zC 1 rfl (zN (v:=bo_ true) rfl rfl rfl (jT (p:=none) rfl yE rfl rfl) ?_))));refine zC 1 rfl ?_;refine zW rfl rfl rfl (zW rfl rfl rfl (zW rfl rfl rfl (zC 2 rfl (zW rfl rfl rfl (zW rfl rfl rfl (zW rfl rfl rfl (zC 2 rfl ?_)))))));refine zW rfl rfl rfl (zW rfl rfl rfl (zW rfl rfl rfl (zW rfl rfl rfl (zC 2 rfl (zW rfl rfl rfl (zW rfl rfl rfl (zW rfl rfl rfl ?_)))))));refine zW rfl rfl rfl (zW rfl rfl rfl (zW rfl rfl rfl (zW rfl rfl rfl (zW rfl rfl rfl (zC 1 rfl (zJ (zD [2,3,8,38] [_,_,_,_] rfl ?_)))))));refine yN rfl ?_;refine zE (zB (zC 2 rfl (zJ (zD [6,7] [_,_] rfl ?_))));refine qL (yT rfl rfl rfl fun w' hw=>?_)
  exact ⟨congrArg Ending.returned (hold_ret (hold_none hff1)),hw.below⟩
 refine qF (qJ 1 rfl (jL (ok:=fun ((q,new):Nat×List (Nat×Obj))=>TreeB 84 new fm1 q) (v:=fun ((q,new):Nat×List (Nat×Obj))=>ptrV q) (new:=fun ((q,new):Nat×List (Nat×Obj))=>new) (hs:=[]) (xs:=[.tmp 9]) (vs:=[str f]) ([bk_ p3 #[i6_ a.n,str a.set,str a.rel] 24]:List (Nat×Obj)) rfl rfl rfl rfl Tryd.call63 rfl (fun w1 hw1=>(pform_ok f _ _ (([bk_ p3 #[i6_ a.n,str a.set,str a.rel] 24]:List (Nat×Obj))++([])) w1 hw1).mono fun en w' hR=>by rw [hff1] at hR;obtain ⟨q,new,h1,h2,h3⟩:=hR;exact ⟨(q,new),h1,h2,h3⟩) fun ⟨q10,new10⟩ hTq10=>?_))
 dsimp only at hTq10
 show Ll _ _ (Own _ _ (_::(new10++([])))) _ _ ((10,ptrV q10)::_) _ _ _;refine qJ 1 rfl (zM (zD [2,3,8] [_,_,_] rfl ?_));refine zE (zE (zB (zC 1 rfl (zN (v:=bo_ false) rfl rfl rfl (jT (p:=some ⟨q10,0,none⟩) rfl yE rfl rfl) ?_))));refine zC 1 rfl (zN rfl rfl rfl (qX (cs:=#[i6_ a.n,str a.set,str a.rel]) 0 rfl qW rfl rfl qU) ?_);refine zN (v:=bo_ (validB a)) rfl rfl rfl (qS rfl Tryd.call52 rfl qG (fun w1 hw1=>isStructure_ok a w1 hsa)) ?_;refine zC 3 rfl (xG fun b18 hg18=>?_)
 cases b18
 ·
  replace hg18:=not_false hg18;refine zC 1 rfl (zN (v:=i6_ ((xs.length:Int))) rfl rfl rfl (xO rfl yB rfl (ints_length _) (fun w1 hw1=>Row.own hva hw1)) ?_);refine zC 3 rfl (xG fun b23 hg23=>?_)
  cases b23
  ·
   replace hg23:=zG hg23;refine zN rfl rfl rfl (qX (cs:=#[i6_ a.n,str a.set,str a.rel]) 0 rfl qW rfl rfl qU) ?_;refine zC 1 rfl (zN (v:=bo_ (xs.all (elB a))) rfl rfl rfl (qS rfl Tryd.call68 rfl qG (fun w1 hw1=>areElements_ok a va xs w1 (Row.own hva hw1) (by first | (simp;done) | (simp;omega) | omega))) ?_);refine zC 3 rfl (xG fun b29 hg29=>?_)
   cases b29
   ·
    replace hg29:=not_false hg29;refine zC 1 rfl (zN (v:=ptrV q10) rfl rfl rfl (zO rfl rfl) ?_);refine zN rfl rfl rfl (zH rfl zF rfl zK rfl rfl) ?_;refine zN (v:=i6_ ((frB fm1:Int))) rfl rfl rfl (qV rfl zU rfl (fun w1 hw1=>tree_free (TreeB.tree (yD (qA (f:=[_]) hw1)) hTq10))) ?_;refine zC 1 rfl (zN (v:=i6_ ((xs.length:Int))) rfl rfl rfl (xO rfl yB rfl (ints_length _) (fun w1 hw1=>Row.own hva hw1)) ?_);refine zN (v:=i6_ ((((frB fm1) / 2 ^ xs.length:Nat):Int))) rfl rfl rfl (OpQ.shr (a:=frB fm1) (b:=xs.length) rfl rfl rfl (by omega)) ?_;refine zC 2 rfl (zJ (zD [2,3,8,38] [_,_,_,_] rfl ?_));refine qH (b:=!(decide (((((frB fm1) / 2 ^ xs.length:Nat):Int))=(0:Int)))) rfl (fun h38=>?_) (fun h38=>?_)
    ·
     replace h38:=not_true h38
     replace h38:=zG h38;refine zE (zB (zC 2 rfl (zJ (zD [6,7] [_,_] rfl ?_))));refine qL (yT rfl rfl rfl fun w' hw=>?_)
     exact ⟨congrArg Ending.returned (hold_ret (hold_bad hff1 (by first | exact .inl (by assumption) | exact .inr (.inl (by omega)) | exact .inr (.inr (.inl (by assumption))) | exact .inr (.inr (.inr (by assumption)))))),hw.below⟩
    replace h38:=not_false h38
    replace h38:=zI h38
    have hO:=hold_good (a:=a) (xs:=xs) hff1 (by assumption) (by omega) (by assumption) (by assumption)
    have ha:=validB_fine (show validB a=true by assumption)
    have hm1:=ha.lo;refine qO (zD [2,3,8] [_,_,_] rfl ?_);refine zE (qF (zS rfl rfl rfl (qX (cs:=#[i6_ a.n,str a.set,str a.rel]) 0 rfl qW rfl rfl qU) ?_));refine jL (ok:=fun _=>True) (v:=fun ((h,M):Nat×Nat)=>.pointer (some ⟨h,0,none⟩)) (new:=fun ((h,M):Nat×Nat)=>[(h,Obj.cells #[.int .i64 a.n,str a.set,str a.rel,.map (some M)] 143 (0,0)),(M,mapP (memoK []))]) (hs:=new10++([])) (xs:=[.tmp 39]) (vs:=[vS a]) ([bk_ p3 #[i6_ a.n,str a.set,str a.rel] 24]:List (Nat×Obj)) rfl rfl rfl rfl Tryd.call64 rfl (fun w1 hw1=>(newHold_ok a w.heap.size w (([bk_ p3 #[i6_ a.n,str a.set,str a.rel] 24]:List (Nat×Obj))++(new10++([]))) w1 hw1).mono fun en w' ⟨h,M,h1,h2⟩=>⟨(h,M),h1,trivial,h2⟩) fun ⟨h40n,M40n⟩ _=>?_
    show Ll _ _ (Own _ _ (_::_::(((M40n,mapP (memoK []))::(memoB []++(new10++([]))))))) _ _ ((40,pt_ h40n)::_) _ _ _;refine qJ 2 rfl (jZ (ok:=fun K=>MemoOk 84 a new10 K) (b:=ev a fm1 (envL xs)) (xs:=[.tmp 40,.tmp 41,.tmp 42]) (vs:=[pt_ h40n,ptrV q10,va]) ([bk_ p3 #[i6_ a.n,str a.set,str a.rel] 24]:List (Nat×Obj)) rfl rfl rfl rfl Tryd.call65 rfl (fun w1 hw1=>holds_ok a fm1 ha (formO_wf hff1) xs va (by omega) _ _ _ new10 h40n M40n [] q10 w1 (fun x hx=>List.mem_append_right _ (List.mem_append_left _ hx)) hTq10 (fun w1 h1=>Row.own hva h1) (envL_ok hm1 (by omega) (fun x hx=>elB_true.1 (List.all_eq_true.1 (by assumption) x hx))) MemoOk.nil hw1) fun K1 hM1=>?_)
    show Ll _ _ (Own _ _ (_::_::(((M40n,mapP (memoK K1))::(memoB K1++(new10++([]))))))) _ _ ((43,bo_ (ev a fm1 (envL xs)))::_) _ _ _;refine qJ 2 rfl (zM (zD [6,7] [_,_] rfl ?_));refine qL (yT rfl rfl rfl fun w' hw=>?_)
    exact ⟨congrArg Ending.returned (hold_ret hO),hw.below⟩
   replace hg29:=not_true hg29;refine zW rfl rfl rfl (zW rfl rfl rfl (zW rfl rfl rfl ?_));refine zW rfl rfl rfl (zW rfl rfl rfl (zW rfl rfl rfl (zW rfl rfl rfl (zW rfl rfl rfl (zC 1 rfl (zJ (zD [2,3,8,38] [_,_,_,_] rfl ?_)))))));refine yN rfl ?_;refine zE (zB (zC 2 rfl (zJ (zD [6,7] [_,_] rfl ?_))));refine qL (yT rfl rfl rfl fun w' hw=>?_)
   exact ⟨congrArg Ending.returned (hold_ret (hold_bad hff1 (by first | exact .inl (by assumption) | exact .inr (.inl (by omega)) | exact .inr (.inr (.inl (by assumption))) | exact .inr (.inr (.inr (by assumption)))))),hw.below⟩
  replace hg23:=zI hg23;refine zW rfl rfl rfl (zW rfl rfl rfl (zW rfl rfl rfl (zW rfl rfl rfl (zC 2 rfl (zW rfl rfl rfl (zW rfl rfl rfl (zW rfl rfl rfl ?_)))))));refine zW rfl rfl rfl (zW rfl rfl rfl (zW rfl rfl rfl (zW rfl rfl rfl (zW rfl rfl rfl (zC 1 rfl (zJ (zD [2,3,8,38] [_,_,_,_] rfl ?_)))))));refine yN rfl ?_;refine zE (zB (zC 2 rfl (zJ (zD [6,7] [_,_] rfl ?_))));refine qL (yT rfl rfl rfl fun w' hw=>?_)
  exact ⟨congrArg Ending.returned (hold_ret (hold_bad hff1 (by first | exact .inl (by assumption) | exact .inr (.inl (by omega)) | exact .inr (.inr (.inl (by assumption))) | exact .inr (.inr (.inr (by assumption)))))),hw.below⟩
 replace hg18:=not_true hg18;refine zW rfl rfl rfl (zW rfl rfl rfl (zW rfl rfl rfl (zC 2 rfl ?_)));refine zW rfl rfl rfl (zW rfl rfl rfl (zW rfl rfl rfl (zW rfl rfl rfl (zC 2 rfl (zW rfl rfl rfl (zW rfl rfl rfl (zW rfl rfl rfl ?_)))))));refine zW rfl rfl rfl (zW rfl rfl rfl (zW rfl rfl rfl (zW rfl rfl rfl (zW rfl rfl rfl (zC 1 rfl (zJ (zD [2,3,8,38] [_,_,_,_] rfl ?_)))))));refine yN rfl ?_;refine zE (zB (zC 2 rfl (zJ (zD [6,7] [_,_] rfl ?_))));refine qL (yT rfl rfl rfl fun w' hw=>?_)
 exact ⟨congrArg Ending.returned (hold_ret (hold_bad hff1 (by first | exact .inl (by assumption) | exact .inr (.inl (by omega)) | exact .inr (.inr (.inl (by assumption))) | exact .inr (.inr (.inr (by assumption)))))),hw.below⟩
end Go.Proofs.YtefiibghfgfdnaaDoor
namespace Go.Proofs.YtefiibghfgfdnaaDoor
open Go.RowKit Go.Wk
set_option linter.unusedSimpArgs false
set_option maxHeartbeats 400000 in
theorem index_ok (va:Value) (xs:List Int) (y:Int) (w:World) (hva:Ints w va xs) (hs1:xs.length≤1000000) :
    Calls Tryd.prog 125 [va,i6_ y].toArray w fun en w'=>en=.returned (.int .i64 (idxI xs fun z=>decide (y=z)))∧Below w.heap.size w w':=by
 refine fnStart (n:=19) (e:=[(0,va),(1,i6_ y)]) Tryd.func125 rfl rfl rfl rfl Ends.both ?_;refine zE (zB (zC 1 rfl (zJ (zD [0,1] [_,_] rfl ?_))));refine zE (zE (zB (zC 1 rfl (zN (v:=i6_ ((xs.length:Int))) rfl rfl rfl (xO rfl yB rfl (ints_length _) (fun w1 hw1=>Row.own hva hw1)) ?_))));refine zC 1 rfl (zJ (zD [0,1,7,8] [_,_,_,_] rfl ?_));refine yA (jG (σ:=Nat) (fun k=>k≤xs.length∧∀ i:Nat,i<k→(fun z=>decide (y=z)) (xs.getD i 0)=false) (fun k=>[(0,va),(1,i6_ y),(7,i6_ ((xs.length:Int))),(8,i6_ ((k:Int)))]) (fun k=>Own w.heap.size w []) (fun k=>xs.length - k) (0) ⟨by omega,fun i hi=>absurd hi (by omega)⟩ (Sub.sel [0,1,7,8] rfl) (fun _ h=>h) ?_)
 rintro k ⟨hk,hall⟩;refine zE (zB (zC 1 rfl (zJ (zD [0,1,7,8,9] [_,_,_,_,_] rfl ?_))));refine zE (qH (b:=decide (((k:Int))<((xs.length:Int)))) rfl (fun h9=>?_) (fun h9=>?_))
 ·
  replace h9:=zI h9;refine qO (zD [0,1,7,8] [_,_,_,_] rfl ?_);refine zE (yA (zE (zB (zC 2 rfl (zJ (zD [0,1,5,7,8] [_,_,_,_,_] rfl ?_))))));refine zE (zB (zC 3 rfl (zN (v:=.pointer (some (sAt va ((k:Int))))) rfl rfl rfl (xW rfl yB zK rfl rfl (by omega) (by rw [ints_length];omega) (fun w1 hw1=>Row.own hva hw1)) ?_)));refine zN (v:=i6_ (xs.getD (((k:Int)).toNat) 0)) rfl rfl rfl (qV rfl zU rfl (fun w1 hw1=>Ints.cell (Row.own hva hw1) (by omega) (by omega))) ?_;refine zC 1 rfl (zJ (zD [0,1,5,7,8,16] [_,_,_,_,_,_] rfl ?_));refine qH (b:=decide (y=(xs.getD (((k:Int)).toNat) 0))) rfl (fun h16=>?_) (fun h16=>?_)
  ·
   replace h16:=zI h16;refine zE (zB (zC 2 rfl (zJ (zD [4] [_] rfl ?_))));refine qL (qQ rfl rfl fun w' hw=>?_)
   exact ⟨ret_i (idxI_at (by omega) hall (by simpa using h16)).symm,hw.below⟩
  replace h16:=zG h16;refine qO (zD [0,1,7,8] [_,_,_,_] rfl ?_);refine zB (zN rfl rfl rfl (qT rfl rfl rfl (by omega) (by omega)) ?_);refine zC 1 rfl (zJ (yY (k+1) ⟨by omega,fun i hi=>(Nat.lt_succ_iff_lt_or_eq.1 hi).elim (hall i) (fun e=>by subst e;simpa using h16)⟩ (by omega) (Sub.sel [0,1,7,8] rfl) (fun _ h=>h)))
 replace h9:=zG h9;refine xA rfl ?_;refine zD [] [] rfl ?_;refine zE (zB (zC 1 rfl (zJ (zD [4] [_] rfl ?_))));refine qL (qQ rfl rfl fun w' hw=>?_)
 exact ⟨ret_i (idxI_none (fun i hi=>hall i (by omega))).symm,hw.below⟩
set_option maxHeartbeats 400000 in
theorem contains_ok (va:Value) (xs:List Int) (y:Int) (w:World) (hva:Ints w va xs) (hs1:xs.length≤1000000) :
    Calls Tryd.prog 71 [va,i6_ y].toArray w fun en w'=>en=.returned (.bool (decide (y∈xs)))∧Below w.heap.size w w':=by
 refine fnStart (n:=9) (e:=[(0,va),(1,i6_ y)]) Tryd.func71 rfl rfl rfl rfl Ends.both ?_;refine zE (zB (zC 1 rfl (zJ (zD [0,1] [_,_] rfl ?_))));refine zE (zB (zC 2 rfl (zN (v:=i6_ (idxI xs fun z=>decide (y=z))) rfl rfl rfl (qS rfl Tryd.call125 rfl qG (fun w1 hw1=>index_ok va xs y w1 (Row.own hva hw1) (by omega))) ?_)));refine zC 2 rfl (zJ (zD [4] [_] rfl ?_));refine qL (qQ rfl rfl fun w' hw=>?_)
 exact ⟨ret_b (has_idx xs y),hw.below⟩
set_option maxHeartbeats 400000 in
theorem placed_ok (a b:St) (va:Value) (os:List Int) (x:Int) (w:World) (ha:a.Fine) (hb:b.Fine) (hva:Ints w va os) (hs:os.length≤8) (hA:a.Els os) (hx:a.El x) (hbi:b.El os.length) :
    Calls Tryd.prog 171 [vS a,vS b,va,i6_ x].toArray w fun en w'=>en=.returned (.bool (placedB a b os x))∧Below w.heap.size w w':=by
 refine fnStart (n:=60) (e:=[(0,vS a),(1,vS b),(2,va),(3,i6_ x)]) Tryd.func171 rfl rfl rfl rfl Ends.both ?_;refine zE (qF (jC (v:=vS a) rfl rfl rfl rfl rfl fun p4 hp4=>?_))
 show Ll _ _ (Own _ _ [_]) _ _ ((4,pt_ p4)::_) _ _ _;refine jC (v:=vS b) rfl rfl rfl rfl rfl fun p5 hp5=>?_
 show Ll _ _ (Own _ _ [_,_]) _ _ ((5,pt_ p5)::_) _ _ _;refine qJ 1 rfl (zM (zD [2,3,4,5] [_,_,_,_] rfl ?_));refine zE (zB (zC 1 rfl (zN (v:=i6_ ((os.length:Int))) rfl rfl rfl (xO rfl yB rfl (ints_length _) (fun w1 hw1=>Row.own hva hw1)) ?_)));refine zC 1 rfl (zJ (zD [2,3,4,5,9] [_,_,_,_,_] rfl ?_));refine zE (zE (jF yG (fun _ h=>h.drawn) (by kernel_rfl) ?_));refine zN rfl rfl rfl (qX (cs:=#[i6_ a.n,str a.set,str a.rel]) 1 rfl qW rfl rfl qU) ?_;refine zC 1 rfl (zN (v:=bo_ (a.inSet x)) rfl rfl rfl (qS rfl Tryd.call82 rfl qG (fun w1 hw1=>inSet_ok a x w1 ha (by first | assumption | exact St.Els.at (by assumption) (by omega) (by omega)))) ?_);refine zN rfl rfl rfl (qX (cs:=#[i6_ b.n,str b.set,str b.rel]) 0 rfl qW rfl rfl qU) ?_;refine zC 1 rfl (zN (v:=bo_ (b.inSet ((os.length:Int)))) rfl rfl rfl (qS rfl Tryd.call82 rfl qG (fun w1 hw1=>inSet_ok b ((os.length:Int)) w1 hb (by first | assumption | exact St.Els.at (by assumption) (by omega) (by omega)))) ?_);refine zN rfl rfl rfl (OpQ.bne rfl xU rfl rfl) ?_;refine zC 1 rfl (xG fun b21 hg21=>?_)
 cases b21
 ·
  refine zN rfl rfl rfl (qX (cs:=#[i6_ a.n,str a.set,str a.rel]) 1 rfl qW rfl rfl qU) ?_;refine zC 2 rfl (zN (v:=bo_ (a.inRel x x)) rfl rfl rfl (qS rfl Tryd.call83 rfl qG (fun w1 hw1=>inRel_ok a x x w1 ha (by first | assumption | exact St.Els.at (by assumption) (by omega) (by omega)) (by first | assumption | exact St.Els.at (by assumption) (by omega) (by omega)))) ?_);refine zN rfl rfl rfl (qX (cs:=#[i6_ b.n,str b.set,str b.rel]) 0 rfl qW rfl rfl qU) ?_;refine zC 2 rfl (zN (v:=bo_ (b.inRel ((os.length:Int)) ((os.length:Int)))) rfl rfl rfl (qS rfl Tryd.call83 rfl qG (fun w1 hw1=>inRel_ok b ((os.length:Int)) ((os.length:Int)) w1 hb (by first | assumption | exact St.Els.at (by assumption) (by omega) (by omega)) (by first | assumption | exact St.Els.at (by assumption) (by omega) (by omega)))) ?_);refine zN rfl rfl rfl (OpQ.bne rfl xU rfl rfl) ?_;refine zC 1 rfl (zJ (zD [2,3,4,5,9,31] [_,_,_,_,_,_] rfl ?_));refine qH (b:=(a.inRel x x) != (b.inRel ((os.length:Int)) ((os.length:Int)))) rfl (fun h31=>?_) (fun h31=>?_)
  ·
   refine zE (zB (zC 1 rfl (zJ (zD [8] [_] rfl ?_))));refine qL (qQ rfl rfl fun w' hw=>?_)
   first | exact ⟨ret_b (placed_head (.inl (by assumption))).symm,hw.below⟩ | exact ⟨ret_b (placed_head (.inr (by assumption))).symm,hw.below⟩ | exact ⟨ret_b (placed_no (k:=k) (by omega) (.inl (by simpa using hg48))).symm,hw.below⟩ | exact ⟨ret_b (placed_no (k:=k) (by omega) (.inr (by simpa using h58))).symm,hw.below⟩ | exact ⟨ret_b (placed_yes (by assumption) (by assumption) (fun i hi=>hall i (by omega))).symm,hw.below⟩
  refine qO (zD [2,3,4,5,9] [_,_,_,_,_] rfl ?_);refine zE (zE (zB (zC 1 rfl (zN (v:=i6_ ((os.length:Int))) rfl rfl rfl (xO rfl yB rfl (ints_length _) (fun w1 hw1=>Row.own hva hw1)) ?_))));refine zC 1 rfl (zJ (zD [3,4,5,9,32,33,34] [_,_,_,_,_,_,_] rfl ?_));refine yA (jG (σ:=Nat) (fun k=>k≤os.length∧∀ i:Nat,i<k→(a.inRel x (os.getD i 0) != b.inRel os.length i)=false∧(a.inRel (os.getD i 0) x != b.inRel i os.length)=false) (fun k=>[(3,i6_ x),(4,pt_ p4),(5,pt_ p5),(9,i6_ ((os.length:Int))),(32,va),(33,i6_ ((os.length:Int))),(34,i6_ ((k:Int)))]) (fun k=>Own w.heap.size w [bk_ p5 #[i6_ b.n,str b.set,str b.rel] 24,bk_ p4 #[i6_ a.n,str a.set,str a.rel] 24]) (fun k=>os.length - k) (0) ⟨by omega,fun i hi=>absurd hi (by omega)⟩ (Sub.sel [3,4,5,9,32,33,34] rfl) (fun _ h=>h) ?_)
  rintro k ⟨hk,hall⟩;refine zE (zB (zC 1 rfl (zJ (zD [3,4,5,9,32,33,34,35] [_,_,_,_,_,_,_,_] rfl ?_))));refine zE (qH (b:=decide (((k:Int))<((os.length:Int)))) rfl (fun h35=>?_) (fun h35=>?_))
  ·
   replace h35:=zI h35
   have hbk:b.El (k:Int):=⟨by omega,by have:=hbi.2;omega⟩;refine qO (zD [3,4,5,9,32,33,34] [_,_,_,_,_,_,_] rfl ?_);refine zE (yA (zE (zB (zC 1 rfl (zN (v:=.pointer (some (sAt va ((k:Int))))) rfl rfl rfl (xW rfl yB zK rfl rfl (by omega) (by rw [ints_length];omega) (fun w1 hw1=>Row.own hva hw1)) ?_)))));refine zN (v:=i6_ (os.getD (((k:Int)).toNat) 0)) rfl rfl rfl (qV rfl zU rfl (fun w1 hw1=>Ints.cell (Row.own hva hw1) (by omega) (by omega))) ?_;refine zC 2 rfl (zJ (zD [3,4,5,9,10,11,32,33,34] [_,_,_,_,_,_,_,_,_] rfl ?_));refine zE (jF yG (fun _ h=>h.drawn) (by kernel_rfl) ?_);refine zN rfl rfl rfl (qX (cs:=#[i6_ a.n,str a.set,str a.rel]) 1 rfl qW rfl rfl qU) ?_;refine zC 2 rfl (zN (v:=bo_ (a.inRel x (os.getD (((k:Int)).toNat) 0))) rfl rfl rfl (qS rfl Tryd.call83 rfl qG (fun w1 hw1=>inRel_ok a x (os.getD (((k:Int)).toNat) 0) w1 ha (by first | assumption | exact St.Els.at (by assumption) (by omega) (by omega)) (by first | assumption | exact St.Els.at (by assumption) (by omega) (by omega)))) ?_);refine zN rfl rfl rfl (qX (cs:=#[i6_ b.n,str b.set,str b.rel]) 0 rfl qW rfl rfl qU) ?_;refine zC 2 rfl (zN (v:=bo_ (b.inRel ((os.length:Int)) ((k:Int)))) rfl rfl rfl (qS rfl Tryd.call83 rfl qG (fun w1 hw1=>inRel_ok b ((os.length:Int)) ((k:Int)) w1 hb (by first | assumption | exact St.Els.at (by assumption) (by omega) (by omega)) (by first | assumption | exact St.Els.at (by assumption) (by omega) (by omega)))) ?_);refine zN rfl rfl rfl (OpQ.bne rfl xU rfl rfl) ?_;refine zC 1 rfl (xG fun b48 hg48=>?_)
   cases b48
   ·
    refine zN rfl rfl rfl (qX (cs:=#[i6_ a.n,str a.set,str a.rel]) 1 rfl qW rfl rfl qU) ?_;refine zC 2 rfl (zN (v:=bo_ (a.inRel (os.getD (((k:Int)).toNat) 0) x)) rfl rfl rfl (qS rfl Tryd.call83 rfl qG (fun w1 hw1=>inRel_ok a (os.getD (((k:Int)).toNat) 0) x w1 ha (by first | assumption | exact St.Els.at (by assumption) (by omega) (by omega)) (by first | assumption | exact St.Els.at (by assumption) (by omega) (by omega)))) ?_);refine zN rfl rfl rfl (qX (cs:=#[i6_ b.n,str b.set,str b.rel]) 0 rfl qW rfl rfl qU) ?_;refine zC 2 rfl (zN (v:=bo_ (b.inRel ((k:Int)) ((os.length:Int)))) rfl rfl rfl (qS rfl Tryd.call83 rfl qG (fun w1 hw1=>inRel_ok b ((k:Int)) ((os.length:Int)) w1 hb (by first | assumption | exact St.Els.at (by assumption) (by omega) (by omega)) (by first | assumption | exact St.Els.at (by assumption) (by omega) (by omega)))) ?_);refine zN rfl rfl rfl (OpQ.bne rfl xU rfl rfl) ?_;refine zC 1 rfl (zJ (zD [3,4,5,9,32,33,34,58] [_,_,_,_,_,_,_,_] rfl ?_));refine qH (b:=(a.inRel (os.getD (((k:Int)).toNat) 0) x) != (b.inRel ((k:Int)) ((os.length:Int)))) rfl (fun h58=>?_) (fun h58=>?_)
    ·
     refine zE (zB (zC 1 rfl (zJ (zD [8] [_] rfl ?_))));refine qL (qQ rfl rfl fun w' hw=>?_)
     first | exact ⟨ret_b (placed_head (.inl (by assumption))).symm,hw.below⟩ | exact ⟨ret_b (placed_head (.inr (by assumption))).symm,hw.below⟩ | exact ⟨ret_b (placed_no (k:=k) (by omega) (.inl (by simpa using hg48))).symm,hw.below⟩ | exact ⟨ret_b (placed_no (k:=k) (by omega) (.inr (by simpa using h58))).symm,hw.below⟩ | exact ⟨ret_b (placed_yes (by assumption) (by assumption) (fun i hi=>hall i (by omega))).symm,hw.below⟩
    refine qO (zD [3,4,5,9,32,33,34] [_,_,_,_,_,_,_] rfl ?_);refine zB (zN rfl rfl rfl (qT rfl rfl rfl (by omega) (by omega)) ?_);refine zC 1 rfl (zJ (yY (k+1) ⟨by omega,fun i hi=>(Nat.lt_succ_iff_lt_or_eq.1 hi).elim (hall i) (fun e=>by subst e;exact ⟨by simpa using hg48,by simpa using h58⟩)⟩ (by omega) (Sub.sel [3,4,5,9,32,33,34] rfl) (fun _ h=>h)))
   refine zW rfl rfl rfl (zW rfl rfl rfl (zW rfl rfl rfl (zW rfl rfl rfl ?_)));refine zW rfl rfl rfl (zW rfl rfl rfl (zW rfl rfl rfl (zW rfl rfl rfl (zW rfl rfl rfl (zC 1 rfl (zJ (zD [3,4,5,9,32,33,34,58] [_,_,_,_,_,_,_,_] rfl ?_)))))));refine yN rfl ?_;refine zE (zB (zC 1 rfl (zJ (zD [8] [_] rfl ?_))));refine qL (qQ rfl rfl fun w' hw=>?_)
   first | exact ⟨ret_b (placed_head (.inl (by assumption))).symm,hw.below⟩ | exact ⟨ret_b (placed_head (.inr (by assumption))).symm,hw.below⟩ | exact ⟨ret_b (placed_no (k:=k) (by omega) (.inl (by simpa using hg48))).symm,hw.below⟩ | exact ⟨ret_b (placed_no (k:=k) (by omega) (.inr (by simpa using h58))).symm,hw.below⟩ | exact ⟨ret_b (placed_yes (by assumption) (by assumption) (fun i hi=>hall i (by omega))).symm,hw.below⟩
  replace h35:=zG h35;refine xA rfl ?_;refine zD [] [] rfl ?_;refine zE (zB (zC 1 rfl (zJ (zD [8] [_] rfl ?_))));refine qL (qQ rfl rfl fun w' hw=>?_)
  first | exact ⟨ret_b (placed_head (.inl (by assumption))).symm,hw.below⟩ | exact ⟨ret_b (placed_head (.inr (by assumption))).symm,hw.below⟩ | exact ⟨ret_b (placed_no (k:=k) (by omega) (.inl (by simpa using hg48))).symm,hw.below⟩ | exact ⟨ret_b (placed_no (k:=k) (by omega) (.inr (by simpa using h58))).symm,hw.below⟩ | exact ⟨ret_b (placed_yes (by assumption) (by assumption) (fun i hi=>hall i (by omega))).symm,hw.below⟩
 refine zW rfl rfl rfl (zW rfl rfl rfl (zW rfl rfl rfl (zW rfl rfl rfl ?_)));refine zW rfl rfl rfl (zW rfl rfl rfl (zW rfl rfl rfl (zW rfl rfl rfl (zW rfl rfl rfl (zC 1 rfl (zJ (zD [2,3,4,5,9,31] [_,_,_,_,_,_] rfl ?_)))))));refine yN rfl ?_;refine zE (zB (zC 1 rfl (zJ (zD [8] [_] rfl ?_))));refine qL (qQ rfl rfl fun w' hw=>?_)
 first | exact ⟨ret_b (placed_head (.inl (by assumption))).symm,hw.below⟩ | exact ⟨ret_b (placed_head (.inr (by assumption))).symm,hw.below⟩ | exact ⟨ret_b (placed_no (k:=k) (by omega) (.inl (by simpa using hg48))).symm,hw.below⟩ | exact ⟨ret_b (placed_no (k:=k) (by omega) (.inr (by simpa using h58))).symm,hw.below⟩ | exact ⟨ret_b (placed_yes (by assumption) (by assumption) (fun i hi=>hall i (by omega))).symm,hw.below⟩
set_option maxHeartbeats 400000 in
theorem place_zero (a b:St) {τ α:Type} (D:τ→α→List (Nat×Obj)) (okD:τ→α→Prop) (step:List Int→τ→τ×Bool) (tf:FuncId) (tcap:Array Value) (B:Nat) (w0:World) (hcf:∀ args w,(callFunc tf args).run Tryd.prog w=.ok (.enter tf args) w) (hT:Tells Tryd.prog tf tcap a b B w0 D okD step) (ha:a.Fine) (_hb:b.Fine) (hn:a.n=b.n) (pp po pt pb pa:Nat) (os:List Int) (t:τ) (al:α) (g cap:Nat) (cur:Array Value) (w:World) (hm:os.length+0=a.n.toNat) (hA:a.Els os) (hsm:sameB a os b (upto os.length)=true) (hok:okD t al) (hcg:cur.size=cap*1) (hlg:os.length≤cap) (htg:cur.toList.take os.length=ints os) (hw:Own B w0 (bk_ pp #[.func (.func 170) #[] #[pt_ po,pt_ pa,pt_ pt,pt_ pb,pt_ pp]] 157::bk_ po #[sl_ g os.length cap] 30::bk_ g cur 3::bk_ pt #[.func (.func tf) #[] tcap] 93::bk_ pb #[i6_ b.n,str b.set,str b.rel] 24::bk_ pa #[i6_ a.n,str a.set,str a.rel] 24::(D t al)) w) :
    Calls Tryd.prog 170 [pt_ po,pt_ pa,pt_ pt,pt_ pb,pt_ pp].toArray w fun en w'=>∃ (os':List Int) (g' cap':Nat) (cur':Array Value) (al':α),en=.returned (.bool (shS a b step 0 os t).2)∧okD (shS a b step 0 os t).1 al'∧((shS a b step 0 os t).2=true→os'=os)∧(cur'.size=cap'*1∧os'.length≤cap'∧cur'.toList.take os'.length=ints os')∧Own B w0 (bk_ pp #[.func (.func 170) #[] #[pt_ po,pt_ pa,pt_ pt,pt_ pb,pt_ pp]] 157::bk_ po #[sl_ g' os'.length cap'] 30::bk_ g' cur' 3::bk_ pt #[.func (.func tf) #[] tcap] 93::bk_ pb #[i6_ b.n,str b.set,str b.rel] 24::bk_ pa #[i6_ a.n,str a.set,str a.rel] 24::(D (shS a b step 0 os t).1 al')) w':=by
 refine fnStartC (Own B w0 (bk_ pp #[.func (.func 170) #[] #[pt_ po,pt_ pa,pt_ pt,pt_ pb,pt_ pp]] 157::bk_ po #[sl_ g os.length cap] 30::bk_ g cur 3::bk_ pt #[.func (.func tf) #[] tcap] 93::bk_ pb #[i6_ b.n,str b.set,str b.rel] 24::bk_ pa #[i6_ a.n,str a.set,str a.rel] 24::(D t al))) (n:=44) (e:=[(0,pt_ po),(1,pt_ pa),(2,pt_ pt),(3,pt_ pb),(4,pt_ pp)]) Tryd.func170 rfl rfl rfl rfl Ends.both hw ?_
 have hm8:=ha.hi
 have hm1:=ha.lo;refine zE (zB (zC 1 rfl (zJ (zD [0,1,2,3,4] [_,_,_,_,_] rfl ?_))));refine zE (zB (zN rfl rfl rfl (zR 1 rfl vH rfl rfl rfl) ?_));refine zN rfl rfl rfl (OpQ.lenS rfl yB rfl) ?_;refine zC 1 rfl (zJ (zD [0,1,2,3,4,6] [_,_,_,_,_,_] rfl ?_));refine zE (zE (zB (zC 1 rfl (zN rfl rfl rfl (zH rfl qC rfl zK rfl rfl) ?_))));refine zN rfl rfl rfl (zR 5 rfl zU rfl rfl rfl) ?_;refine zC 1 rfl (zJ (zD [0,1,2,3,4,6,13] [_,_,_,_,_,_,_] rfl ?_));refine qH (b:=decide (((os.length:Int))=a.n)) rfl (fun h13=>?_) (fun h13=>?_)
 ·
  replace h13:=zI h13;refine zE (qF (zS rfl rfl rfl (zR 3 rfl Tryd.isAgg93 rfl rfl rfl) ?_));refine zS rfl rfl rfl (zR 1 rfl vH rfl rfl rfl) ?_;refine Ll.callFnGet (ok:=fun al'=>okD (step os t).1 al') (v:=fun _=>.bool (step os t).2) (hs':=fun al'=>([bk_ pp #[.func (.func 170) #[] #[pt_ po,pt_ pa,pt_ pt,pt_ pb,pt_ pp]] 157,bk_ po #[sl_ g os.length cap] 30,bk_ g cur 3,bk_ pt #[.func (.func tf) #[] tcap] 93,bk_ pb #[i6_ b.n,str b.set,str b.rel] 24,bk_ pa #[i6_ a.n,str a.set,str a.rel] 24]:List (Nat×Obj))++D (step os t).1 al') (xs:=[.tmp 15]) (vs:=[sl_ g os.length cap]) rfl rfl rfl rfl rfl hcf rfl (fun w1 hw1=>hT ([bk_ pp #[.func (.func 170) #[] #[pt_ po,pt_ pa,pt_ pt,pt_ pb,pt_ pp]] 157,bk_ po #[sl_ g os.length cap] 30,bk_ g cur 3,bk_ pt #[.func (.func tf) #[] tcap] 93,bk_ pb #[i6_ b.n,str b.set,str b.rel] 24,bk_ pa #[i6_ a.n,str a.set,str a.rel] 24]:List (Nat×Obj)) (sl_ g os.length cap) os t al w1 hok (fun w2 hw2=>(xQ hw2 (i:=2) rfl htg (by simp) hlg)) (by omega) hsm hA hw1) fun al16 hok2=>?_
  show Ll _ _ (Own _ _ (_::_::_::_::_::_::((D (step os t).1 al16)))) _ _ ((16,bo_ ((step os t).2))::_) _ _ _;refine qJ 1 rfl (zM (zD [5] [_] rfl ?_));refine qL (qQ rfl rfl fun w' hw=>?_)
  exact ⟨os,g,cap,cur,al16,rfl,hok2,fun _=>rfl,⟨hcg,hlg,htg⟩,hw⟩
 replace h13:=zG h13
 exact absurd (by omega) h13
set_option maxHeartbeats 1000000 in
theorem place_of (a b:St) {τ α:Type} (D:τ→α→List (Nat×Obj)) (okD:τ→α→Prop) (step:List Int→τ→τ×Bool) (tf:FuncId) (tcap:Array Value) (B:Nat) (w0:World) (_hcf:∀ args w,(callFunc tf args).run Tryd.prog w=.ok (.enter tf args) w) (_hT:Tells Tryd.prog tf tcap a b B w0 D okD step) (ha:a.Fine) (hb:b.Fine) (hn:a.n=b.n) (pp po pt pb pa:Nat) (m:Nat) (ih:∀ (os:List Int) (t:τ) (al:α) (g cap:Nat) (cur:Array Value) (w:World) (_:os.length+m=a.n.toNat) (_:a.Els os) (_:sameB a os b (upto os.length)=true) (_:okD t al) (_:cur.size=cap*1) (_:os.length≤cap) (_:cur.toList.take os.length=ints os),Own B w0 (bk_ pp #[.func (.func 170) #[] #[pt_ po,pt_ pa,pt_ pt,pt_ pb,pt_ pp]] 157::bk_ po #[sl_ g os.length cap] 30::bk_ g cur 3::bk_ pt #[.func (.func tf) #[] tcap] 93::bk_ pb #[i6_ b.n,str b.set,str b.rel] 24::bk_ pa #[i6_ a.n,str a.set,str a.rel] 24::(D t al)) w→Calls Tryd.prog 170 #[pt_ po,pt_ pa,pt_ pt,pt_ pb,pt_ pp] w fun en w'=>∃ (os':List Int) (g' cap':Nat) (cur':Array Value) (al':α),en=.returned (.bool (shS a b step m os t).2)∧okD (shS a b step m os t).1 al'∧((shS a b step m os t).2=true→os'=os)∧(cur'.size=cap'*1∧os'.length≤cap'∧cur'.toList.take os'.length=ints os')∧Own B w0 (bk_ pp #[.func (.func 170) #[] #[pt_ po,pt_ pa,pt_ pt,pt_ pb,pt_ pp]] 157::bk_ po #[sl_ g' os'.length cap'] 30::bk_ g' cur' 3::bk_ pt #[.func (.func tf) #[] tcap] 93::bk_ pb #[i6_ b.n,str b.set,str b.rel] 24::bk_ pa #[i6_ a.n,str a.set,str a.rel] 24::(D (shS a b step m os t).1 al')) w') (os:List Int) (t:τ) (al:α) (g cap:Nat) (cur:Array Value) (w:World) (hm:os.length+(m+1)=a.n.toNat) (hA:a.Els os) (hsm:sameB a os b (upto os.length)=true) (hok:okD t al) (hcg:cur.size=cap*1) (hlg:os.length≤cap) (htg:cur.toList.take os.length=ints os) (hw:Own B w0 (bk_ pp #[.func (.func 170) #[] #[pt_ po,pt_ pa,pt_ pt,pt_ pb,pt_ pp]] 157::bk_ po #[sl_ g os.length cap] 30::bk_ g cur 3::bk_ pt #[.func (.func tf) #[] tcap] 93::bk_ pb #[i6_ b.n,str b.set,str b.rel] 24::bk_ pa #[i6_ a.n,str a.set,str a.rel] 24::(D t al)) w) :
    Calls Tryd.prog 170 [pt_ po,pt_ pa,pt_ pt,pt_ pb,pt_ pp].toArray w fun en w'=>∃ (os':List Int) (g' cap':Nat) (cur':Array Value) (al':α),en=.returned (.bool (shS a b step (m+1) os t).2)∧okD (shS a b step (m+1) os t).1 al'∧((shS a b step (m+1) os t).2=true→os'=os)∧(cur'.size=cap'*1∧os'.length≤cap'∧cur'.toList.take os'.length=ints os')∧Own B w0 (bk_ pp #[.func (.func 170) #[] #[pt_ po,pt_ pa,pt_ pt,pt_ pb,pt_ pp]] 157::bk_ po #[sl_ g' os'.length cap'] 30::bk_ g' cur' 3::bk_ pt #[.func (.func tf) #[] tcap] 93::bk_ pb #[i6_ b.n,str b.set,str b.rel] 24::bk_ pa #[i6_ a.n,str a.set,str a.rel] 24::(D (shS a b step (m+1) os t).1 al')) w':=by
 refine fnStartC (Own B w0 (bk_ pp #[.func (.func 170) #[] #[pt_ po,pt_ pa,pt_ pt,pt_ pb,pt_ pp]] 157::bk_ po #[sl_ g os.length cap] 30::bk_ g cur 3::bk_ pt #[.func (.func tf) #[] tcap] 93::bk_ pb #[i6_ b.n,str b.set,str b.rel] 24::bk_ pa #[i6_ a.n,str a.set,str a.rel] 24::(D t al))) (n:=44) (e:=[(0,pt_ po),(1,pt_ pa),(2,pt_ pt),(3,pt_ pb),(4,pt_ pp)]) Tryd.func170 rfl rfl rfl rfl Ends.both hw ?_
 have hm8:=ha.hi
 have hm1:=ha.lo;refine zE (zB (zC 1 rfl (zJ (zD [0,1,2,3,4] [_,_,_,_,_] rfl ?_))));refine zE (zB (zN rfl rfl rfl (zR 1 rfl vH rfl rfl rfl) ?_));refine zN rfl rfl rfl (OpQ.lenS rfl yB rfl) ?_;refine zC 1 rfl (zJ (zD [0,1,2,3,4,6] [_,_,_,_,_,_] rfl ?_));refine zE (zE (zB (zC 1 rfl (zN rfl rfl rfl (zH rfl qC rfl zK rfl rfl) ?_))));refine zN rfl rfl rfl (zR 5 rfl zU rfl rfl rfl) ?_;refine zC 1 rfl (zJ (zD [0,1,2,3,4,6,13] [_,_,_,_,_,_,_] rfl ?_));refine qH (b:=decide (((os.length:Int))=a.n)) rfl (fun h13=>?_) (fun h13=>?_)
 ·
  replace h13:=zI h13
  exact absurd h13 (by omega)
 replace h13:=zG h13;refine qO (zD [0,1,3,4,6] [_,_,_,_,_] rfl ?_);refine zE (zE (zB (zN rfl rfl rfl (zH rfl qC rfl zK rfl rfl) ?_)));refine zN rfl rfl rfl (zR 5 rfl zU rfl rfl rfl) ?_;refine zC 1 rfl (zJ (zD [0,1,3,4,6,18,19] [_,_,_,_,_,_,_] rfl ?_));refine yA (jG (σ:=Nat×Nat×Nat×Array Value×τ×α) (fun ⟨k,g1,cap1,cur1,t1,al1⟩=>(k:Int)≤a.n∧shLoop (shF a b (shS a b step m) os) k t=(t1,true)∧okD t1 al1∧(cur1.size=cap1*1∧os.length≤cap1∧cur1.toList.take os.length=ints os)) (fun ⟨k,g1,cap1,cur1,t1,al1⟩=>[(0,pt_ po),(1,pt_ pa),(3,pt_ pb),(4,pt_ pp),(6,i6_ ((os.length:Int))),(18,i6_ a.n),(19,i6_ ((k:Int)))]) (fun ⟨k,g1,cap1,cur1,t1,al1⟩=>Own B w0 (bk_ pp #[.func (.func 170) #[] #[pt_ po,pt_ pa,pt_ pt,pt_ pb,pt_ pp]] 157::bk_ po #[sl_ g1 os.length cap1] 30::bk_ g1 cur1 3::bk_ pt #[.func (.func tf) #[] tcap] 93::bk_ pb #[i6_ b.n,str b.set,str b.rel] 24::bk_ pa #[i6_ a.n,str a.set,str a.rel] 24::((D t1 al1)))) (fun ⟨k,g1,cap1,cur1,t1,al1⟩=>(a.n - k).toNat) ((0,g,cap,cur,t,al)) ⟨by omega,rfl,hok,⟨hcg,hlg,htg⟩⟩ (Sub.sel [0,1,3,4,6,18,19] rfl) (fun _ h=>h) ?_)
 rintro ⟨k,g1,cap1,cur1,t1,al1⟩ ⟨hk,hlp,hok1,⟨hcg1,hlg1,htg1⟩⟩
 dsimp only;refine zE (zB (zC 1 rfl (zJ (zD [0,1,3,4,6,18,19,20] [_,_,_,_,_,_,_,_] rfl ?_))));refine zE (qH (b:=decide (((k:Int))<a.n)) rfl (fun h20=>?_) (fun h20=>?_))
 ·
  replace h20:=zI h20
  have hx:a.El (k:Int):=⟨by omega,by omega⟩
  have hbi:b.El (os.length:Int):=⟨by omega,by omega⟩;refine qO (zD [0,1,3,4,6,18,19] [_,_,_,_,_,_,_] rfl ?_);refine zE (yA (zE (zB (zC 2 rfl (zJ (zD [0,1,3,4,6,7,18,19] [_,_,_,_,_,_,_,_] rfl ?_))))));refine zE (zE (zB (zN rfl rfl rfl (zR 1 rfl vH rfl rfl rfl) ?_)));refine zC 1 rfl (zN (v:=bo_ (decide (((k:Int))∈os))) rfl rfl rfl (qS rfl Tryd.call71 rfl qG (fun w1 hw1=>contains_ok (sl_ g1 os.length cap1) os ((k:Int)) w1 (xQ hw1 (i:=2) rfl htg1 (by simp) hlg1) (by omega))) ?_);refine zC 1 rfl (xG fun b25 hg25=>?_)
  cases b25
  ·
   replace hg25:=zG hg25;refine zN rfl rfl rfl (qX (cs:=#[i6_ a.n,str a.set,str a.rel]) 5 rfl qW rfl rfl qU) ?_;refine zN rfl rfl rfl (qX (cs:=#[i6_ b.n,str b.set,str b.rel]) 4 rfl qW rfl rfl qU) ?_;refine zN rfl rfl rfl (zR 1 rfl vH rfl rfl rfl) ?_;refine zC 1 rfl (zN (v:=bo_ (placedB a b os ((k:Int)))) rfl rfl rfl (qS rfl Tryd.call171 rfl qG (fun w1 hw1=>placed_ok a b (sl_ g1 os.length cap1) os ((k:Int)) w1 ha hb (xQ hw1 (i:=2) rfl htg1 (by simp) hlg1) (by omega) hA hx hbi)) ?_);refine zC 2 rfl (zJ (zD [0,1,3,4,6,7,18,19,32] [_,_,_,_,_,_,_,_,_] rfl ?_));refine qH (b:=!(placedB a b os ((k:Int)))) rfl (fun h32=>?_) (fun h32=>?_)
   ·
    replace h32:=not_true h32
    have hno:¬ stillB a os b (upto os.length) (k:Int) os.length=true:=by
     rw [still_placed];simp_all
    refine xA rfl ?_;refine zD [0,1,3,4,6,18,19] [_,_,_,_,_,_,_] rfl ?_;refine zB (zN rfl rfl rfl (qT rfl rfl rfl (by omega) (by omega)) ?_);refine zC 1 rfl (zJ (yY ((k+1,g1,cap1,cur1,t1,al1)) ⟨by omega,by rw [shLoop_step hlp,shF,if_neg hno],hok1,⟨hcg1,hlg1,htg1⟩⟩ (by omega) (Sub.sel [0,1,3,4,6,18,19] rfl) (fun _ h=>h)))
   replace h32:=not_false h32
   have hst:stillB a os b (upto os.length) (k:Int) os.length=true:=by
    rw [still_placed];simp_all
   refine qO (zD [0,1,3,4,6,7,18,19] [_,_,_,_,_,_,_,_] rfl ?_);refine zE (qF (zS rfl rfl rfl (zR 1 rfl vH rfl rfl rfl) ?_));refine qJ 1 rfl (yS (xs:=[.tmp 34]) (vs:=[i6_ ((k:Int))]) xK rfl rfl rfl rfl rfl rfl (by decide) rfl fun p35 hp35=>?_);refine Ll.appendInts (xs:=os) (ys:=[(k:Int)]) xK 3 rfl rfl rfl rfl rfl rfl rfl hcg1 hlg1 htg1 (fun w1 hw1=>(xQ hw1 (i:=0) rfl (n:=1) (cap:=1) (vs:=ints [(k:Int)]) rfl rfl (by decide))) ((os++([(k:Int)])).length) (by first | (simp;done) | (simp;omega)) (by first | (simp;done) | (simp;omega) | omega) fun p36 cap36 cur36 hp36 hcp36 hlp36 htp36=>?_
   show Ll _ _ (Own _ _ (_::_::_::_::_::_::_::((D t1 al1)))) _ _ ((36,sl_ p36 (((os++([(k:Int)])).length)) cap36)::_) _ _ _;refine qN (v:=sl_ p36 (((os++([(k:Int)])).length)) cap36) (hs':=(_::_::bk_ po #[sl_ p36 (((os++([(k:Int)])).length)) cap36] 30::_::_::_::_::((D t1 al1)))) 2 rfl rfl rfl rfl rfl rfl Tryd.sizeOf30 rfl (by simp) rfl ?_;refine zM (zD [0,1,3,4,6,18,19] [_,_,_,_,_,_,_] rfl ?_);refine zE (zE (qF (zS rfl rfl rfl (zR 1 rfl Tryd.isAgg157 rfl rfl rfl) ?_)));refine Ll.callFnGet (σ:=List Int×Nat×Nat×Array Value×α) (ok:=fun (os',_,cap',cur',al')=>okD (shS a b step m (os++[(k:Int)]) t1).1 al'∧((shS a b step m (os++[(k:Int)]) t1).2=true→os'=os++[(k:Int)])∧(cur'.size=cap'*1∧os'.length≤cap'∧cur'.toList.take os'.length=ints os')) (v:=fun _=>.bool (shS a b step m (os++[(k:Int)]) t1).2) (hs':=fun (os',g',cap',cur',al')=>(bk_ pp #[.func (.func 170) #[] #[pt_ po,pt_ pa,pt_ pt,pt_ pb,pt_ pp]] 157::bk_ po #[sl_ g' os'.length cap'] 30::bk_ g' cur' 3::bk_ pt #[.func (.func tf) #[] tcap] 93::bk_ pb #[i6_ b.n,str b.set,str b.rel] 24::bk_ pa #[i6_ a.n,str a.set,str a.rel] 24::(D (shS a b step m (os++[(k:Int)]) t1).1 al'))) (xs:=[]) (vs:=[]) rfl rfl rfl rfl rfl Tryd.call170 rfl (fun w1 hw1=>(ih (os++[(k:Int)]) t1 al1 p36 cap36 cur36 w1 (by simp;omega) (els_more hA hx) (same_grown hsm hst) hok1 hcp36 hlp36 (by simpa using (by simpa using htp36)) (hw1.sub (qM _ (zA _ (zA _ (zA _ (zA _ (zA _ (zA _ (zP _)))))))))).mono fun en w' ⟨os',g',cap',cur',al',h1,h2,h3,h4,h5⟩=>⟨(os',g',cap',cur',al'),h1,⟨h2,h3,h4⟩,h5⟩) fun ⟨os38,g38,cap38,cur38,al38⟩ ⟨hok2,hos2,hcg2,hlg2,htg2⟩=>?_
   show Ll _ _ (Own _ _ (_::_::_::_::_::_::((D (shS a b step m (os++[(k:Int)]) t1).1 al38)))) _ _ ((38,bo_ ((shS a b step m (os++[(k:Int)]) t1).2))::_) _ _ _;refine qJ 1 rfl (zM (zD [0,1,3,4,6,18,19,39] [_,_,_,_,_,_,_,_] rfl ?_));refine qH (b:=!((shS a b step m (os++[(k:Int)]) t1).2)) rfl (fun h39=>?_) (fun h39=>?_)
   ·
    replace h39:=not_true h39;refine zE (zB (zC 1 rfl (zJ (zD [5] [_] rfl ?_))));refine qL (qQ rfl rfl fun w' hw=>?_)
    have hfin:shS a b step (m+1) os t=shS a b step m (os++[(k:Int)]) t1:=by
     show shLoop _ a.n.toNat t=_
     have h8:shLoop (shF a b (shS a b step m) os) (k+1) t=shS a b step m (os++[(k:Int)]) t1:=by rw [shLoop_step hlp,shF,if_pos hst]
     rw [shLoop_stop (k:=k+1) (by rw [h8];assumption) _ (by omega),h8]
    refine ⟨os38,g38,cap38,cur38,al38,?_,?_,?_,⟨hcg2,hlg2,htg2⟩,?_⟩
    · rw [hfin];congr 2;exact (by assumption:_=false).symm
    · rw [hfin];exact hok2
    · rw [hfin];intro h;simp_all
    · rw [hfin];exact hw
   replace h39:=not_false h39
   have hose:=hos2 (by first | assumption | (simp_all;done))
   have hosl:os38.length=os.length+1:=by rw [hose];simp
   refine qO (zD [0,1,3,4,6,18,19] [_,_,_,_,_,_,_] rfl ?_);refine qF (zS rfl rfl rfl (zR 1 rfl vH rfl rfl rfl) ?_);refine qJ 1 rfl (zS (v:=sl_ g38 (((os.length:Int)).toNat) cap38) rfl rfl rfl (OpQ.takeS (i:=(os.length:Int)) rfl yB zK rfl rfl (by omega) (by omega)) ?_);refine qN (v:=sl_ g38 (((os.length:Int)).toNat) cap38) (hs':=(_::bk_ po #[sl_ g38 (((os.length:Int)).toNat) cap38] 30::_::_::_::_::((D (shS a b step m (os++[(k:Int)]) t1).1 al38)))) 1 rfl rfl rfl rfl rfl rfl Tryd.sizeOf30 rfl (by simp) rfl ?_;refine zM (zD [0,1,3,4,6,18,19] [_,_,_,_,_,_,_] rfl ?_);refine zB (zN rfl rfl rfl (qT rfl rfl rfl (by omega) (by omega)) ?_);refine zC 1 rfl (zJ (yY ((k+1,g38,cap38,cur38,(shS a b step m (os++[(k:Int)]) t1).1,al38)) ⟨by omega,by rw [shLoop_step hlp,shF,if_pos hst];exact Prod.ext rfl (by assumption),hok2,⟨by simpa using hcg2,by have:=hlg2;rw [hose] at this;simp at this;dsimp only;omega,by dsimp only;have h9:=congrArg (List.take os.length) htg2;rw [hose,List.take_take,zQ,Nat.min_eq_left (by omega)] at h9;rw [h9];simp [ints]⟩⟩ (by omega) (Sub.sel [0,1,3,4,6,18,19] rfl) (fun _ h=>by simpa using h)))
  replace hg25:=zI hg25
  have hno:¬ stillB a os b (upto os.length) (k:Int) os.length=true:=by
   rw [still_placed];simp_all
  refine zW rfl rfl rfl ?_;refine zW rfl rfl rfl (zW rfl rfl rfl (zW rfl rfl rfl (zW rfl rfl rfl (zW rfl rfl rfl (zC 1 rfl (zJ (zD [0,1,3,4,6,7,18,19,32] [_,_,_,_,_,_,_,_,_] rfl ?_)))))));refine yN rfl ?_;refine xA rfl ?_;refine zD [0,1,3,4,6,18,19] [_,_,_,_,_,_,_] rfl ?_;refine zB (zN rfl rfl rfl (qT rfl rfl rfl (by omega) (by omega)) ?_);refine zC 1 rfl (zJ (yY ((k+1,g1,cap1,cur1,t1,al1)) ⟨by omega,by rw [shLoop_step hlp,shF,if_neg hno],hok1,⟨hcg1,hlg1,htg1⟩⟩ (by omega) (Sub.sel [0,1,3,4,6,18,19] rfl) (fun _ h=>h)))
 replace h20:=zG h20;refine xA rfl ?_;refine zD [] [] rfl ?_;refine zE (zB (zC 1 rfl (zJ (zD [5] [_] rfl ?_))));refine qL (qQ rfl rfl fun w' hw=>?_)
 have hfin:shS a b step (m+1) os t=(t1,true):=by
  show shLoop _ a.n.toNat t=_
  rw [show a.n.toNat=k from by omega];exact hlp
 exact ⟨os,g1,cap1,cur1,al1,by rw [hfin],by rw [hfin];exact hok1,fun _=>rfl,⟨hcg1,hlg1,htg1⟩,by rw [hfin];exact hw⟩
theorem place_ok (a b:St) {τ α:Type} (D:τ→α→List (Nat×Obj)) (okD:τ→α→Prop) (step:List Int→τ→τ×Bool) (tf:FuncId) (tcap:Array Value) (B:Nat) (w0:World) (hcf:∀ args w,(callFunc tf args).run Tryd.prog w=.ok (.enter tf args) w) (hT:Tells Tryd.prog tf tcap a b B w0 D okD step) (ha:a.Fine) (hb:b.Fine) (hn:a.n=b.n) (pp po pt pb pa:Nat):∀ m:Nat,∀ (os:List Int) (t:τ) (al:α) (g cap:Nat) (cur:Array Value) (w:World) (_:os.length+m=a.n.toNat) (_:a.Els os) (_:sameB a os b (upto os.length)=true) (_:okD t al) (_:cur.size=cap*1) (_:os.length≤cap) (_:cur.toList.take os.length=ints os),Own B w0 (bk_ pp #[.func (.func 170) #[] #[pt_ po,pt_ pa,pt_ pt,pt_ pb,pt_ pp]] 157::bk_ po #[sl_ g os.length cap] 30::bk_ g cur 3::bk_ pt #[.func (.func tf) #[] tcap] 93::bk_ pb #[i6_ b.n,str b.set,str b.rel] 24::bk_ pa #[i6_ a.n,str a.set,str a.rel] 24::(D t al)) w→Calls Tryd.prog 170 #[pt_ po,pt_ pa,pt_ pt,pt_ pb,pt_ pp] w fun en w'=>∃ (os':List Int) (g' cap':Nat) (cur':Array Value) (al':α),en=.returned (.bool (shS a b step m os t).2)∧okD (shS a b step m os t).1 al'∧((shS a b step m os t).2=true→os'=os)∧(cur'.size=cap'*1∧os'.length≤cap'∧cur'.toList.take os'.length=ints os')∧Own B w0 (bk_ pp #[.func (.func 170) #[] #[pt_ po,pt_ pa,pt_ pt,pt_ pb,pt_ pp]] 157::bk_ po #[sl_ g' os'.length cap'] 30::bk_ g' cur' 3::bk_ pt #[.func (.func tf) #[] tcap] 93::bk_ pb #[i6_ b.n,str b.set,str b.rel] 24::bk_ pa #[i6_ a.n,str a.set,str a.rel] 24::(D (shS a b step m os t).1 al')) w'
  | 0,os,t,al,g,cap,cur,w,h1,h2,h3,h4,h5,h6,h7,hw=>place_zero a b D okD step tf tcap B w0 hcf hT ha hb hn pp po pt pb pa os t al g cap cur w h1 h2 h3 h4 h5 h6 h7 hw
  | m+1,os,t,al,g,cap,cur,w,h1,h2,h3,h4,h5,h6,h7,hw=>place_of a b D okD step tf tcap B w0 hcf hT ha hb hn pp po pt pb pa m (place_ok a b D okD step tf tcap B w0 hcf hT ha hb hn pp po pt pb pa m) os t al g cap cur w h1 h2 h3 h4 h5 h6 h7 hw
set_option maxHeartbeats 400000 in
theorem eachShape_ok (a b:St) {τ α:Type} (D:τ→α→List (Nat×Obj)) (okD:τ→α→Prop) (step:List Int→τ→τ×Bool) (tf:FuncId) (tcap:Array Value) (B:Nat) (w0:World) (hcf:∀ args w,(callFunc tf args).run Tryd.prog w=.ok (.enter tf args) w) (hT:Tells Tryd.prog tf tcap a b B w0 D okD step) (ha:a.Fine) (hb:b.Fine) (hn:a.n=b.n) (t:τ) (al:α) (w:World) (hok:okD t al) (hw:Own B w0 (D t al) w) :
    Calls Tryd.prog 123 [vS a,vS b,.func (.func tf) #[] tcap].toArray w fun en w'=>∃ al':α,en=.returned (.tuple #[])∧okD (shS a b step a.n.toNat [] t).1 al'∧Own B w0 (D (shS a b step a.n.toNat [] t).1 al') w':=by
 refine fnStartC (Own B w0 (D t al)) (n:=12) (e:=[(0,vS a),(1,vS b),(2,.func (.func tf) #[] tcap)]) Tryd.func123 rfl rfl rfl rfl Ends.both hw ?_;refine zE (qF (jC (v:=vS a) rfl rfl rfl rfl rfl fun p3 hp3=>?_))
 show Ll _ _ (Own _ _ (_::((D t al)))) _ _ ((3,pt_ p3)::_) _ _ _;refine jC (v:=vS b) rfl rfl rfl rfl rfl fun p4 hp4=>?_
 show Ll _ _ (Own _ _ (_::_::((D t al)))) _ _ ((4,pt_ p4)::_) _ _ _;refine jC (v:=.func (.func tf) #[] tcap) rfl rfl rfl rfl rfl fun p5 hp5=>?_
 show Ll _ _ (Own _ _ (_::_::_::((D t al)))) _ _ ((5,pt_ p5)::_) _ _ _;refine zM (zD [3,4,5] [_,_,_] rfl ?_);refine zE (qF (yS (xs:=[]) (vs:=[]) xK rfl rfl rfl rfl rfl rfl (by decide) rfl fun p8 hp8=>?_));refine vK rfl rfl rfl rfl Tryd.zeroValue30 fun p6 hp6=>?_
 show Ll _ _ (Own _ _ (bk_ p6 #[.slice none 0 0] 30::_::_::_::_::((D t al)))) _ _ ((6,pt_ p6)::_) _ _ _;refine qN (v:=sl_ p8 0 0) (hs':=(bk_ p6 #[sl_ p8 0 0] 30::_::_::_::_::((D t al)))) 0 rfl rfl rfl rfl rfl rfl Tryd.sizeOf30 rfl (by simp) rfl ?_;refine zM (zD [3,4,5,6] [_,_,_,_] rfl ?_);refine zE (qF (vK rfl rfl rfl rfl Tryd.zeroValue157 fun p7 hp7=>?_))
 show Ll _ _ (Own _ _ (bk_ p7 #[.nilFunc] 157::_::_::_::_::_::((D t al)))) _ _ ((7,pt_ p7)::_) _ _ _;refine zM (zD [3,4,5,6,7] [_,_,_,_,_] rfl ?_);refine zE (qF (zS (v:=.func (.func 170) #[] #[pt_ p6,pt_ p3,pt_ p5,pt_ p4,pt_ p7]) rfl rfl rfl (OpQ.func' (cap:=[.tmp 6,.tmp 3,.tmp 5,.tmp 4,.tmp 7]) rfl rfl) ?_));refine qN (v:=.func (.func 170) #[] #[pt_ p6,pt_ p3,pt_ p5,pt_ p4,pt_ p7]) (hs':=(bk_ p7 #[.func (.func 170) #[] #[pt_ p6,pt_ p3,pt_ p5,pt_ p4,pt_ p7]] 157::_::_::_::_::_::((D t al)))) 0 rfl rfl rfl rfl rfl rfl Tryd.sizeOf157 rfl (by simp) rfl ?_;refine zM (zD [7] [_] rfl ?_);refine qF (zS rfl rfl rfl (zR 0 rfl Tryd.isAgg157 rfl rfl rfl) ?_);refine Ll.callFnGet (σ:=List Int×Nat×Nat×Array Value×α) (ok:=fun (os',_,cap',cur',al')=>okD (shS a b step a.n.toNat [] t).1 al') (v:=fun _=>.bool (shS a b step a.n.toNat [] t).2) (hs':=fun (os',g',cap',cur',al')=>(bk_ p7 #[.func (.func 170) #[] #[pt_ p6,pt_ p3,pt_ p5,pt_ p4,pt_ p7]] 157::bk_ p6 #[sl_ g' os'.length cap'] 30::bk_ g' cur' 3::bk_ p5 #[.func (.func tf) #[] tcap] 93::bk_ p4 #[i6_ b.n,str b.set,str b.rel] 24::bk_ p3 #[i6_ a.n,str a.set,str a.rel] 24::(D (shS a b step a.n.toNat [] t).1 al'))) (xs:=[]) (vs:=[]) rfl rfl rfl rfl rfl Tryd.call170 rfl (fun w1 hw1=>(place_ok a b D okD step tf tcap B w0 hcf hT ha hb hn p7 p6 p5 p4 p3 a.n.toNat [] t al p8 0 #[] w1 (by simp) (fun x hx=>by cases hx) rfl hok rfl (Nat.le_refl 0) rfl hw1).mono fun en w' ⟨os',g',cap',cur',al',h1,h2,h3,h4,h5⟩=>⟨(os',g',cap',cur',al'),h1,h2,h5⟩) fun ⟨os9,g9,cap9,cur9,al11⟩ hok9=>?_
 show Ll _ _ (Own _ _ (_::_::_::_::_::_::((D (shS a b step a.n.toNat [] t).1 al11)))) _ _ ((11,bo_ ((shS a b step a.n.toNat [] t).2))::_) _ _ _;refine zM ((Kt.end0 rfl fun w' hw=>?_))
 exact ⟨al11,rfl,hok9,qA (f:=[_,_,_,_,_,_]) hw⟩
end Go.Proofs.YtefiibghfgfdnaaDoor
namespace Go.Proofs.YtefiibghfgfdnaaDoor
open Go.RowKit Go.Wk
set_option linter.unusedSimpArgs false
set_option maxHeartbeats 400000 in
theorem allDiff_ok (va:Value) (xs:List Int) (w:World) (hva:Ints w va xs) (hs1:xs.length≤1000000) (hd:xs.Nodup) :
    Calls Tryd.prog 69 [va].toArray w fun en w'=>en=.returned (.bool true)∧Below w.heap.size w w':=by
 refine fnStart (n:=18) (e:=[(0,va)]) Tryd.func69 rfl rfl rfl rfl Ends.both ?_;refine zE (zB (zC 1 rfl (zJ (zD [0] [_] rfl ?_))));refine zE (zE (zB (zC 1 rfl (zN (v:=i6_ ((xs.length:Int))) rfl rfl rfl (xO rfl yB rfl (ints_length _) (fun w1 hw1=>Row.own hva hw1)) ?_))));refine zC 1 rfl (zJ (zD [0,5,6,7] [_,_,_,_] rfl ?_));refine yA (jG (σ:=Nat) (fun k=>k≤xs.length) (fun k=>[(0,va),(5,va),(6,i6_ ((xs.length:Int))),(7,i6_ ((k:Int)))]) (fun k=>Own w.heap.size w []) (fun k=>xs.length - k) (0) (by omega) (Sub.sel [0,5,6,7] rfl) (fun _ h=>h) ?_)
 rintro k hk;refine zE (zB (zC 1 rfl (zJ (zD [0,5,6,7,8] [_,_,_,_,_] rfl ?_))));refine zE (qH (b:=decide (((k:Int))<((xs.length:Int)))) rfl (fun h8=>?_) (fun h8=>?_))
 ·
  replace h8:=zI h8;refine qO (zD [0,5,6,7] [_,_,_,_] rfl ?_);refine zE (yA (zE (zB (zC 1 rfl (zN (v:=.pointer (some (sAt va ((k:Int))))) rfl rfl rfl (xW rfl yB zK rfl rfl (by omega) (by rw [ints_length];omega) (fun w1 hw1=>Row.own hva hw1)) ?_)))));refine zN (v:=i6_ (xs.getD (((k:Int)).toNat) 0)) rfl rfl rfl (qV rfl zU rfl (fun w1 hw1=>Ints.cell (Row.own hva hw1) (by omega) (by omega))) ?_;refine zC 2 rfl (zJ (zD [0,3,4,5,6,7] [_,_,_,_,_,_] rfl ?_));refine zE (zB (zC 2 rfl (zN (v:=sTake va k) rfl rfl rfl (OpQ.takeRow (i:=(k:Int)) rfl yB zK rfl rfl (by omega) (by rw [ints_length];omega) (fun w1 hw1=>Row.own hva hw1)) ?_)));refine zC 1 rfl (zN (v:=bo_ (decide ((xs.getD (((k:Int)).toNat) 0)∈xs.take k))) rfl rfl rfl (qS rfl Tryd.call71 rfl qG (fun w1 hw1=>contains_ok (sTake va k) (xs.take k) (xs.getD (((k:Int)).toNat) 0) w1 (Ints.take (Row.own hva hw1) k (by omega)) (by rw [zT];omega))) ?_);refine zJ (zD [0,5,6,7,16] [_,_,_,_,_] rfl ?_);refine qH (b:=decide ((xs.getD (((k:Int)).toNat) 0)∈xs.take k)) rfl (fun h16=>?_) (fun h16=>?_)
  ·
   replace h16:=zI h16
   exact absurd h16 (nodup_take hd (by omega))
  replace h16:=zG h16;refine qO (zD [0,5,6,7] [_,_,_,_] rfl ?_);refine zB (zN rfl rfl rfl (qT rfl rfl rfl (by omega) (by omega)) ?_);refine zC 1 rfl (zJ (yY (k+1) (by omega) (by omega) (Sub.sel [0,5,6,7] rfl) (fun _ h=>h)))
 replace h8:=zG h8;refine xA rfl ?_;refine zD [] [] rfl ?_;refine zE (zB (zC 1 rfl (zJ (zD [2] [_] rfl ?_))));refine qL (qQ rfl rfl fun w' hw=>?_)
 exact ⟨ret_b (by first | rfl | (simp_all;done) | (simp_all;omega)),hw.below⟩
set_option maxHeartbeats 800000 in
theorem iDef_ok (a:St) (f:List UInt8) (B:Nat) (w0:World) (hs:List (Nat×Obj)) (w:World) (hsa:a.Small) (hw:Own B w0 hs w) :
    Calls Tryd.prog 16 [vS a,str f].toArray w fun en w'=>∃ (v:Value) (new:List (Nat×Obj)),en=.returned (.tuple #[v,.bool (defO a f).2])∧(∀ w1,Own B w0 new w1→Ints w1 v (defO a f).1)∧Own B w0 (new++hs) w':=by
 refine fnStartC (Own B w0 hs) (n:=46) (e:=[(0,vS a),(1,str f)]) Tryd.func16 rfl rfl rfl rfl Ends.both hw ?_;refine zE (qF (jC (v:=vS a) rfl rfl rfl rfl rfl fun p2 hp2=>?_))
 show Ll _ _ (Own _ _ (_::hs)) _ _ ((2,pt_ p2)::_) _ _ _;refine qJ 2 rfl (zM (zD [1,2] [_,_] rfl ?_));refine zE ?_
 rcases hff1:formO f with _ | fm1
 ·
  refine qF (qJ 1 rfl (jS (σ:=Unit) (ok:=fun _=>True) (v:=fun _=>.pointer none) (hs':=fun _=>(bk_ p2 #[i6_ a.n,str a.set,str a.rel] 24::hs)) (xs:=[.tmp 10]) (vs:=[str f]) rfl rfl rfl rfl Tryd.call63 rfl (fun w1 hw1=>(pform_ok f _ _ (([bk_ p2 #[i6_ a.n,str a.set,str a.rel] 24]:List (Nat×Obj))++hs) w1 hw1).mono fun en w' hR=>by rw [hff1] at hR;exact ⟨(),hR.1,trivial,hR.2⟩) fun _ _=>?_))
  show Ll _ _ (Own _ _ (_::hs)) _ _ ((11,.pointer none)::_) _ _ _;refine qJ 1 rfl (zM (zD [2,6] [_,_] rfl ?_));refine zE (zE (zB (zC 1 rfl (zN (v:=bo_ true) rfl rfl rfl (jT (p:=none) rfl yE rfl rfl) ?_))));refine zC 1 rfl (zW rfl rfl rfl (zW rfl rfl rfl (zW rfl rfl rfl (zC 2 rfl (zW rfl rfl rfl ?_)))));refine zW rfl rfl rfl (zW rfl rfl rfl (zW rfl rfl rfl (zW rfl rfl rfl (zW rfl rfl rfl (zC 1 rfl (zJ (zD [2,6,26] [_,_,_] rfl ?_)))))));refine yN rfl ?_;refine zE (zB (zC 2 rfl (zJ (zD [4,5] [_,_] rfl ?_))));refine qL (yT rfl rfl rfl fun w' hw=>?_)
  rw [defO_no (rdy_no (.inr (.inl hff1)))]
  exact ⟨_,([bk_ p2 #[i6_ a.n,str a.set,str a.rel] 24]:List (Nat×Obj)),rfl,fun w1 h1=>Ints.nil,hw⟩
 have hwf_fm1:=formO_wf hff1
 have hfr_fm1:=frB_lt hwf_fm1;refine qF (qJ 1 rfl (jL (ok:=fun ((q,new):Nat×List (Nat×Obj))=>TreeB 84 new fm1 q) (v:=fun ((q,new):Nat×List (Nat×Obj))=>ptrV q) (new:=fun ((q,new):Nat×List (Nat×Obj))=>new) (hs:=hs) (xs:=[.tmp 10]) (vs:=[str f]) ([bk_ p2 #[i6_ a.n,str a.set,str a.rel] 24]:List (Nat×Obj)) rfl rfl rfl rfl Tryd.call63 rfl (fun w1 hw1=>(pform_ok f _ _ (([bk_ p2 #[i6_ a.n,str a.set,str a.rel] 24]:List (Nat×Obj))++hs) w1 hw1).mono fun en w' hR=>by rw [hff1] at hR;obtain ⟨q,new,h1,h2,h3⟩:=hR;exact ⟨(q,new),h1,h2,h3⟩) fun ⟨q11,new11⟩ hTq11=>?_))
 dsimp only at hTq11
 show Ll _ _ (Own _ _ (_::(new11++hs))) _ _ ((11,ptrV q11)::_) _ _ _;refine qJ 1 rfl (zM (zD [2,6] [_,_] rfl ?_));refine zE (zE (zB (zC 1 rfl (zN (v:=bo_ false) rfl rfl rfl (jT (p:=some ⟨q11,0,none⟩) rfl yE rfl rfl) ?_))));refine zC 1 rfl (zN rfl rfl rfl (qX (cs:=#[i6_ a.n,str a.set,str a.rel]) 0 rfl qW rfl rfl qU) ?_);refine zN (v:=bo_ (validB a)) rfl rfl rfl (qS rfl Tryd.call52 rfl qG (fun w1 hw1=>isStructure_ok a w1 hsa)) ?_;refine zC 3 rfl (xG fun b19 hg19=>?_)
 cases b19
 ·
  replace hg19:=not_false hg19;refine zC 1 rfl (zN (v:=ptrV q11) rfl rfl rfl (zO rfl rfl) ?_);refine zN rfl rfl rfl (zH rfl zF rfl zK rfl rfl) ?_;refine zN (v:=i6_ ((frB fm1:Int))) rfl rfl rfl (qV rfl zU rfl (fun w1 hw1=>tree_free (TreeB.tree (yD (qA (f:=[_]) hw1)) hTq11))) ?_;refine zN (v:=i6_ ((((frB fm1) / 2 ^ 1:Nat):Int))) rfl rfl rfl (OpQ.shr (a:=frB fm1) (b:=1) rfl rfl rfl (by omega)) ?_;refine zC 2 rfl (zJ (zD [2,6,26] [_,_,_] rfl ?_));refine qH (b:=!(decide (((((frB fm1) / 2 ^ 1:Nat):Int))=(0:Int)))) rfl (fun h26=>?_) (fun h26=>?_)
  ·
   replace h26:=not_true h26
   replace h26:=zG h26;refine zE (zB (zC 2 rfl (zJ (zD [4,5] [_,_] rfl ?_))));refine qL (yT rfl rfl rfl fun w' hw=>?_)
   rw [defO_no (rdy_no (by first | exact .inl (by assumption) | exact .inr (.inr ⟨_,hff1,by first | assumption | omega⟩)))]
   exact ⟨_,([bk_ p2 #[i6_ a.n,str a.set,str a.rel] 24]:List (Nat×Obj))++new11,rfl,fun w1 h1=>Ints.nil,by rw [List.append_assoc];exact hw⟩
  replace h26:=not_false h26
  replace h26:=zI h26
  have hV:validB a=true:=by assumption
  have ha:=validB_fine hV
  have hm1:=ha.lo
  have hm8:=ha.hi
  have hz0:frB fm1 / 2 ^ 1=0:=by first | assumption | omega
  have hR:=rdy_of hV hff1 hz0;refine qO (zD [2,6] [_,_] rfl ?_);refine zE (qF (zS rfl rfl rfl (qX (cs:=#[i6_ a.n,str a.set,str a.rel]) 0 rfl qW rfl rfl qU) ?_));refine jL (ok:=fun _=>True) (v:=fun ((h,M):Nat×Nat)=>.pointer (some ⟨h,0,none⟩)) (new:=fun ((h,M):Nat×Nat)=>[(h,Obj.cells #[.int .i64 a.n,str a.set,str a.rel,.map (some M)] 143 (0,0)),(M,mapP (memoK []))]) (hs:=new11++hs) (xs:=[.tmp 27]) (vs:=[vS a]) ([bk_ p2 #[i6_ a.n,str a.set,str a.rel] 24]:List (Nat×Obj)) rfl rfl rfl rfl Tryd.call64 rfl (fun w1 hw1=>(newHold_ok a B w0 (([bk_ p2 #[i6_ a.n,str a.set,str a.rel] 24]:List (Nat×Obj))++(new11++hs)) w1 hw1).mono fun en w' ⟨h,M,h1,h2⟩=>⟨(h,M),h1,trivial,h2⟩) fun ⟨h28n,M28n⟩ _=>?_
  show Ll _ _ (Own _ _ (_::_::(((M28n,mapP (memoK []))::(memoB []++(new11++hs)))))) _ _ ((28,pt_ h28n)::_) _ _ _;refine qJ 1 rfl (zM (zD [2,6,7] [_,_,_] rfl ?_));refine zE (qF (yS (xs:=[]) (vs:=[]) xK rfl rfl rfl rfl rfl rfl (by decide) rfl fun p29 hp29=>?_));refine qJ 1 rfl (zM (zD [2,6,7,8] [_,_,_,_] rfl ?_));refine zE (zE (zB (zN rfl rfl rfl (zH rfl qC rfl zK rfl rfl) ?_)));refine zN rfl rfl rfl (zR 1 rfl zU rfl rfl rfl) ?_;refine zC 1 rfl (zJ (zD [6,7,8,31,32] [_,_,_,_,_] rfl ?_));refine yA (jG (σ:=Nat×Nat×Nat×Array Value×Memo) (fun ⟨x,g,c,u,K⟩=>(x:Int)≤a.n∧(u.size=c*1∧(defL a f x).length≤c∧u.toList.take (defL a f x).length=ints (defL a f x))∧MemoOk 84 a new11 K) (fun ⟨x,g,c,u,K⟩=>[(6,ptrV q11),(7,pt_ h28n),(8,sl_ g ((defL a f x).length) c),(31,i6_ a.n),(32,i6_ ((x:Int)))]) (fun ⟨x,g,c,u,K⟩=>Own B w0 (bk_ g u 3::bk_ p2 #[i6_ a.n,str a.set,str a.rel] 24::bk_ h28n #[i6_ a.n,str a.set,str a.rel,.map (some M28n)] 143::(((M28n,mapP (memoK K))::(memoB K++(new11++hs)))))) (fun ⟨x,g,c,u,K⟩=>(a.n - x).toNat) ((0,p29,0,#[],[])) ⟨by omega,⟨rfl,Nat.le_refl 0,rfl⟩,MemoOk.nil⟩ (Sub.cons rfl (Sub.cons rfl (Sub.cons (by rfl) (Sub.sel [31,32] rfl)))) (fun _ h=>h) ?_)
  rintro ⟨x,g,c,u,K⟩ ⟨hx,⟨hc,hl,ht⟩,hK⟩
  dsimp only
  have hdl:=defL_le (a:=a) (f:=f) x;refine zE (zB (zC 1 rfl (zJ (zD [6,7,8,31,32,33] [_,_,_,_,_,_] rfl ?_))));refine zE (qH (b:=decide (((x:Int))<a.n)) rfl (fun h33=>?_) (fun h33=>?_))
  ·
   replace h33:=zI h33
   have hxv:=(rdy_hold hV hff1 hz0 (x:=x) (by omega)).2;refine qO (zD [6,7,8,31,32] [_,_,_,_,_] rfl ?_);refine zE (yA (zE (zB (zC 2 rfl (zJ (zD [6,7,8,9,31,32] [_,_,_,_,_,_] rfl ?_))))));refine zE (qF (qJ 3 rfl (yS (xs:=[.tmp 37]) (vs:=[i6_ ((x:Int))]) xK rfl rfl rfl rfl rfl rfl (by decide) rfl fun p38 hp38=>?_)));refine jZ (ok:=fun K=>MemoOk 84 a new11 K) (b:=ev a fm1 (envL ([(x:Int)]))) (xs:=[.tmp 35,.tmp 36,.tmp 38]) (vs:=[pt_ h28n,ptrV q11,sl_ p38 1 1]) ([bk_ p38 #[i6_ ((x:Int))] 3,bk_ g u 3,bk_ p2 #[i6_ a.n,str a.set,str a.rel] 24]:List (Nat×Obj)) rfl rfl rfl rfl Tryd.call65 rfl (fun w1 hw1=>holds_ok a fm1 ha (formO_wf hff1) ([(x:Int)]) (sl_ p38 1 1) (by simp) _ _ _ new11 h28n M28n K q11 w1 (fun x hx=>List.mem_append_right _ (List.mem_append_left _ hx)) hTq11 (fun w1 h1=>(xQ h1 (i:=0) rfl (n:=1) (cap:=1) (vs:=ints [(x:Int)]) rfl rfl (by decide))) (envL_ok hm1 (by simp) (els_one ⟨by omega,by omega⟩)) hK hw1) fun K1 hM1=>?_
   show Ll _ _ (Own _ _ (_::_::_::_::(((M28n,mapP (memoK K1))::(memoB K1++(new11++hs)))))) _ _ ((39,bo_ (ev a fm1 (envL ([(x:Int)]))))::_) _ _ _;refine zM (zD [6,7,8,9,31,32,39] [_,_,_,_,_,_,_] rfl ?_);refine qH (b:=ev a fm1 (envL ([(x:Int)]))) rfl (fun h39=>?_) (fun h39=>?_)
   ·
    have hD:=defL_yes (hxv.trans h39);refine qF (qJ 2 rfl (yS (xs:=[.tmp 41]) (vs:=[i6_ ((x:Int))]) xK rfl rfl rfl rfl rfl rfl (by decide) rfl fun p42 hp42=>?_));refine Ll.appendInts (xs:=(defL a f x)) (ys:=[(x:Int)]) xK 2 rfl rfl rfl rfl rfl rfl rfl hc hl ht (fun w1 hw1=>(xQ hw1 (i:=0) rfl (n:=1) (cap:=1) (vs:=ints [(x:Int)]) rfl rfl (by decide))) ((((defL a f x))++([(x:Int)])).length) (by first | (simp;done) | (simp;omega)) (by first | (simp;done) | (simp;omega) | omega) fun p43 cap43 cur43 hp43 hcp43 hlp43 htp43=>?_
    show Ll _ _ (Own _ _ (_::_::_::_::_::(((M28n,mapP (memoK K1))::(memoB K1++(new11++hs)))))) _ _ ((43,sl_ p43 (((((defL a f x))++([(x:Int)])).length)) cap43)::_) _ _ _;refine qJ 1 rfl (zM (zD [6,7,8,31,32] [_,_,_,_,_] rfl ?_));refine zB (zN rfl rfl rfl (qT rfl rfl rfl (by omega) (by omega)) ?_);refine zC 1 rfl (zJ (yY ((x+1,p43,cap43,cur43,K1)) ⟨by omega,⟨hcp43,by rw [hD];exact hlp43,by rw [hD];simpa using htp43⟩,hM1⟩ (by omega) (Sub.cons rfl (Sub.cons rfl (Sub.cons (by rw [hD];rfl) (Sub.sel [31,32] rfl)))) (fun _ h=>h.sub (qM _ (qM _ (zA _ (zA _ (zA _ (zP _)))))))))
   have hD:=defL_no (hxv.trans (by simpa using h39));refine qO (zD [6,7,8,31,32] [_,_,_,_,_] rfl ?_);refine zB (zN rfl rfl rfl (qT rfl rfl rfl (by omega) (by omega)) ?_);refine zC 1 rfl (zJ (yY ((x+1,g,c,u,K1)) ⟨by omega,⟨hc,by rw [hD];exact hl,by rw [hD];simpa using ht⟩,hM1⟩ (by omega) (Sub.cons rfl (Sub.cons rfl (Sub.cons (by rw [hD];rfl) (Sub.sel [31,32] rfl)))) (fun _ h=>h.sub (qM _ (zA _ (zA _ (zA _ (zP _))))))))
  replace h33:=zG h33;refine xA rfl ?_;refine zD [8] [_] rfl ?_;refine zE (zB (zC 3 rfl (zJ (zD [4,5] [_,_] rfl ?_))));refine qL (yT rfl rfl rfl fun w' hw=>?_)
  obtain rfl:x=a.n.toNat:=by omega
  rw [defO_yes hR]
  exact ⟨_,([bk_ g u 3,bk_ p2 #[i6_ a.n,str a.set,str a.rel] 24,bk_ h28n #[i6_ a.n,str a.set,str a.rel,.map (some M28n)] 143]:List (Nat×Obj))++new11,rfl,fun w1 h1=>xQ h1 (i:=0) rfl ht (by simp) hl,by rw [List.append_assoc];exact qD (f:=[_,_,_]) hw⟩
 replace hg19:=not_true hg19;refine zW rfl rfl rfl ?_;refine zW rfl rfl rfl (zW rfl rfl rfl (zW rfl rfl rfl (zW rfl rfl rfl (zW rfl rfl rfl (zC 1 rfl (zJ (zD [2,6,26] [_,_,_] rfl ?_)))))));refine yN rfl ?_;refine zE (zB (zC 2 rfl (zJ (zD [4,5] [_,_] rfl ?_))));refine qL (yT rfl rfl rfl fun w' hw=>?_)
 rw [defO_no (rdy_no (by first | exact .inl (by assumption) | exact .inr (.inr ⟨_,hff1,by first | assumption | omega⟩)))]
 exact ⟨_,([bk_ p2 #[i6_ a.n,str a.set,str a.rel] 24]:List (Nat×Obj))++new11,rfl,fun w1 h1=>Ints.nil,by rw [List.append_assoc];exact hw⟩
set_option maxHeartbeats 400000 in
theorem rdy_ok (a:St) (f:List UInt8) (W:Nat) (w:World) (hsa:a.Small) (hf:f.length≤1048576) (hW:W≤4) :
    Calls Tryd.prog 66 [vS a,str f,i6_ ((W:Int))].toArray w fun en w'=>en=.returned (.bool (rdyB a f W))∧Below w.heap.size w w':=by
 refine fnStart (n:=27) (e:=[(0,vS a),(1,str f),(2,i6_ ((W:Int)))]) Tryd.func66 rfl rfl rfl rfl Ends.both ?_;refine zE (qF (jC (v:=vS a) rfl rfl rfl rfl rfl fun p3 hp3=>?_))
 show Ll _ _ (Own _ _ [_]) _ _ ((3,pt_ p3)::_) _ _ _;refine qJ 1 rfl (zM (zD [1,2,3] [_,_,_] rfl ?_));refine zE (zE (zB (zN rfl rfl rfl (qX (cs:=#[i6_ a.n,str a.set,str a.rel]) 0 rfl qW rfl rfl qU) ?_)));refine zN (v:=bo_ (validB a)) rfl rfl rfl (qS rfl Tryd.call56 rfl qG (fun w1 hw1=>sValid_ok a w1 hsa)) ?_;refine zC 2 rfl (xG fun b12 hg12=>?_)
 cases b12
 ·
  replace hg12:=not_false hg12;refine zC 1 rfl (zN (v:=bo_ ((formO f).isSome)) rfl rfl rfl (qS rfl Tryd.call116 rfl qG (fun w1 hw1=>sFValid_ok f w1 hf)) ?_);refine zC 2 rfl (zJ (zD [1,2,16] [_,_,_] rfl ?_));refine qH (b:=!((formO f).isSome)) rfl (fun h16=>?_) (fun h16=>?_)
  ·
   replace h16:=not_true h16;refine zE (zB (zC 1 rfl (zJ (zD [6] [_] rfl ?_))));refine qL (qQ rfl rfl fun w' hw=>?_)
   exact ⟨ret_b (rdy_no (by first | exact .inl (by assumption) | exact .inr (.inl (by simpa using (show (formO f).isSome=false by assumption))))).symm,hw.below⟩
  replace h16:=not_false h16
  obtain ⟨p,hp⟩:=Option.isSome_iff_exists.1 (show (formO f).isSome=true by simp_all)
  have hP:=formO_pa hp
  have hfr:=frB_lt (formO_wf hp)
  have hdv:frB p / 2 ^ W≤frB p:=Nat.div_le_self _ _;refine qO (zD [1,2] [_,_] rfl ?_);refine zE (zB (zC 1 rfl (zN (v:=.tuple #[i6_ ((frB p:Int)),i6_ ((f.length:Int))]) rfl rfl rfl (qS rfl Tryd.call117 rfl qG (fun w1 hw1=>l2Free_ok f 0 0 p f.length w1 hf (by omega) hP)) ?_)));refine zC 1 rfl (zN (v:=i6_ ((frB p:Int))) rfl rfl rfl (qY rfl rfl rfl) ?_);refine zN (v:=i6_ ((f.length:Int))) rfl rfl rfl (qY rfl rfl rfl) ?_;refine zC 2 rfl (zJ (zD [2,7] [_,_] rfl ?_));refine zE (zB (zC 2 rfl (zN (v:=.int .u64 ((W:Int))) rfl rfl rfl (jH .u64 rfl yR jN rfl (IntWalk.u64_in _ (by omega))) ?_)));refine zN (v:=i6_ ((((frB p) / 2 ^ W:Nat):Int))) rfl rfl rfl (OpQ.shr (a:=frB p) (b:=W) rfl rfl rfl (by omega)) ?_;refine zC 2 rfl (zJ (zD [6] [_] rfl ?_));refine qL (qQ rfl rfl fun w' hw=>?_)
  exact ⟨ret_b (rdy_at (by simp_all) hp).symm,hw.below⟩
 replace hg12:=not_true hg12;refine zW rfl rfl rfl (zW rfl rfl rfl (zW rfl rfl rfl (zC 1 rfl (zJ (zD [1,2,16] [_,_,_] rfl ?_)))));refine yN rfl ?_;refine zE (zB (zC 1 rfl (zJ (zD [6] [_] rfl ?_))));refine qL (qQ rfl rfl fun w' hw=>?_)
 exact ⟨ret_b (rdy_no (by first | exact .inl (by assumption) | exact .inr (.inl (by simpa using (show (formO f).isSome=false by assumption))))).symm,hw.below⟩
set_option maxHeartbeats 800000 in
theorem sDef_ok (a:St) (f:List UInt8) (B:Nat) (w0:World) (hs:List (Nat×Obj)) (w:World) (hsa:a.Small) (hf:f.length≤1048576) (hw:Own B w0 hs w) :
    Calls Tryd.prog 17 [vS a,str f].toArray w fun en w'=>∃ (v:Value) (new:List (Nat×Obj)),en=.returned (.tuple #[v,.bool (defO a f).2])∧(∀ w1,Own B w0 new w1→Ints w1 v (defO a f).1)∧Own B w0 (new++hs) w':=by
 refine fnStartC (Own B w0 hs) (n:=30) (e:=[(0,vS a),(1,str f)]) Tryd.func17 rfl rfl rfl rfl Ends.both hw ?_;refine zE (qF (jC (v:=vS a) rfl rfl rfl rfl rfl fun p2 hp2=>?_))
 show Ll _ _ (Own _ _ (_::hs)) _ _ ((2,pt_ p2)::_) _ _ _;refine qJ 2 rfl (zM (zD [1,2] [_,_] rfl ?_));refine zE (qF (yS (xs:=[]) (vs:=[]) xK rfl rfl rfl rfl rfl rfl (by decide) rfl fun p8 hp8=>?_));refine qJ 1 rfl (zM (zD [1,2,6] [_,_,_] rfl ?_));refine zE (zE (zB (zN rfl rfl rfl (qX (cs:=#[i6_ a.n,str a.set,str a.rel]) 1 rfl qW rfl rfl qU) ?_)));refine zC 1 rfl (zN (v:=bo_ (rdyB a f 1)) rfl rfl rfl (qS rfl Tryd.call66 rfl qG (fun w1 hw1=>rdy_ok a f 1 w1 hsa hf (by decide))) ?_);refine zC 1 rfl (zJ (zD [1,2,6,12] [_,_,_,_] rfl ?_));refine qH (b:=!(rdyB a f 1)) rfl (fun h12=>?_) (fun h12=>?_)
 ·
  replace h12:=not_true h12;refine zE (zB (zC 3 rfl (zJ (zD [4,5] [_,_] rfl ?_))));refine qL (yT rfl rfl rfl fun w' hw=>?_)
  rw [defO_no (by simp_all)]
  exact ⟨_,([bk_ p8 #[] 3,bk_ p2 #[i6_ a.n,str a.set,str a.rel] 24]:List (Nat×Obj)),rfl,fun w1 h1=>(xQ h1 (i:=0) rfl (n:=0) (cap:=0) (vs:=ints []) rfl rfl (by decide)),hw⟩
 replace h12:=not_false h12
 have hR:rdyB a f 1=true:=by simpa using h12
 obtain ⟨hV,p,hp,hz0⟩:=rdy_parts hR
 have hP:=formO_pa hp
 have ha:=validB_fine hV
 have hm1:=ha.lo
 have hm8:=ha.hi;refine qO (zD [1,2,6] [_,_,_] rfl ?_);refine zE (zE (zB (zC 1 rfl (zJ (zD [1,2,6,7] [_,_,_,_] rfl ?_)))));refine yA (jG (σ:=Nat×Nat×Nat×Array Value) (fun ⟨x,g,c,u⟩=>(x:Int)≤a.n∧(u.size=c*1∧(defL a f x).length≤c∧u.toList.take (defL a f x).length=ints (defL a f x))) (fun ⟨x,g,c,u⟩=>[(1,str f),(2,pt_ p2),(6,sl_ g ((defL a f x).length) c),(7,i6_ ((x:Int)))]) (fun ⟨x,g,c,u⟩=>Own B w0 (bk_ g u 3::bk_ p2 #[i6_ a.n,str a.set,str a.rel] 24::hs)) (fun ⟨x,g,c,u⟩=>(a.n - x).toNat) ((0,p8,0,#[])) ⟨by omega,⟨rfl,Nat.le_refl 0,rfl⟩⟩ (Sub.cons rfl (Sub.cons rfl (Sub.cons (by rfl) (Sub.sel [7] rfl)))) (fun _ h=>h) ?_)
 rintro ⟨x,g,c,u⟩ ⟨hx,⟨hc,hl,ht⟩⟩
 dsimp only
 have hdl:=defL_le (a:=a) (f:=f) x;refine zE (zE (zB (zC 1 rfl (zN rfl rfl rfl (zH rfl qC rfl zK rfl rfl) ?_))));refine zN rfl rfl rfl (zR 1 rfl zU rfl rfl rfl) ?_;refine zC 1 rfl (zJ (zD [1,2,6,7,17] [_,_,_,_,_] rfl ?_));refine qH (b:=decide (((x:Int))<a.n)) rfl (fun h17=>?_) (fun h17=>?_)
 ·
  replace h17:=zI h17
  have hxv:=(rdy_hold hV hp hz0 (x:=x) (by omega)).2;refine qO (zD [1,2,6,7] [_,_,_,_] rfl ?_);refine zE (yA (zE (zB (zN rfl rfl rfl (qX (cs:=#[i6_ a.n,str a.set,str a.rel]) 1 rfl qW rfl rfl qU) ?_))));refine zC 2 rfl (zN (v:=.agg ((ints (envL [(x:Int)])).toArray)) rfl rfl rfl (OpQ.build (xs:=[.tmp 22]) (vs:=[i6_ ((x:Int))]) rfl rfl (by kernel_rfl)) ?_);refine zN (v:=bo_ (ev a p ((envL [(x:Int)])))) rfl rfl rfl (qS rfl Tryd.call67 rfl qG (fun w1 hw1=>l2True_ok a f p ((envL [(x:Int)])) w1 hf ha hsa hP (envL_ok hm1 (by simp) (els_one ⟨by omega,by omega⟩)))) ?_;refine zJ (zD [1,2,6,7,24] [_,_,_,_,_] rfl ?_);refine qH (b:=ev a p ((envL [(x:Int)]))) rfl (fun h24=>?_) (fun h24=>?_)
  ·
   have hD:=defL_yes (hxv.trans h24);refine qF (qJ 2 rfl (yS (xs:=[.tmp 26]) (vs:=[i6_ ((x:Int))]) xK rfl rfl rfl rfl rfl rfl (by decide) rfl fun p27 hp27=>?_));refine Ll.appendInts (xs:=(defL a f x)) (ys:=[(x:Int)]) xK 1 rfl rfl rfl rfl rfl rfl rfl hc hl ht (fun w1 hw1=>(xQ hw1 (i:=0) rfl (n:=1) (cap:=1) (vs:=ints [(x:Int)]) rfl rfl (by decide))) ((((defL a f x))++([(x:Int)])).length) (by first | (simp;done) | (simp;omega)) (by first | (simp;done) | (simp;omega) | omega) fun p28 cap28 cur28 hp28 hcp28 hlp28 htp28=>?_
   show Ll _ _ (Own _ _ (_::_::_::hs)) _ _ ((28,sl_ p28 (((((defL a f x))++([(x:Int)])).length)) cap28)::_) _ _ _;refine qJ 1 rfl (zM (zD [1,2,6,7] [_,_,_,_] rfl ?_));refine zB (zC 1 rfl (zN rfl rfl rfl (qT rfl rfl rfl (by omega) (by omega)) ?_));refine zC 1 rfl (zJ (yY ((x+1,p28,cap28,cur28)) ⟨by omega,⟨hcp28,by rw [hD];exact hlp28,by rw [hD];simpa using htp28⟩⟩ (by omega) (Sub.cons rfl (Sub.cons rfl (Sub.cons (by rw [hD];rfl) (Sub.sel [7] rfl)))) (fun _ h=>h.sub (qM _ (zA _ (zA _ (zP _)))))))
  have hD:=defL_no (hxv.trans (by simpa using h24));refine qO (zD [1,2,6,7] [_,_,_,_] rfl ?_);refine zB (zC 1 rfl (zN rfl rfl rfl (qT rfl rfl rfl (by omega) (by omega)) ?_));refine zC 1 rfl (zJ (yY ((x+1,g,c,u)) ⟨by omega,⟨hc,by rw [hD];exact hl,by rw [hD];simpa using ht⟩⟩ (by omega) (Sub.cons rfl (Sub.cons rfl (Sub.cons (by rw [hD];rfl) (Sub.sel [7] rfl)))) (fun _ h=>h.sub (zA _ (zA _ (zP _))))))
 replace h17:=zG h17;refine xA rfl ?_;refine zD [6] [_] rfl ?_;refine zE (zB (zC 3 rfl (zJ (zD [4,5] [_,_] rfl ?_))));refine qL (yT rfl rfl rfl fun w' hw=>?_)
 obtain rfl:x=a.n.toNat:=by omega
 rw [defO_yes hR]
 exact ⟨_,([bk_ g u 3,bk_ p2 #[i6_ a.n,str a.set,str a.rel] 24]:List (Nat×Obj)),rfl,fun w1 h1=>xQ h1 (i:=0) rfl ht (by simp) hl,hw⟩
end Go.Proofs.YtefiibghfgfdnaaDoor
namespace Go.Proofs.YtefiibghfgfdnaaDoor
open Go.RowKit Go.Wk
set_option linter.unusedSimpArgs false
set_option maxHeartbeats 800000 in
theorem points_ok (a:St) (f:List UInt8) (w:World) (hsa:a.Small) :
    Calls Tryd.prog 72 [vS a,str f,i6_ 1].toArray w fun en w'=>match rdyB a f 1 with | true=>∃ (_v:Value) (m cap:Nat),en=.returned (.tuple #[.slice (some ⟨m,0,none⟩) (cntT (fun x=>holdV a f [(x:Int)]) a.n.toNat) cap,.bool true])∧Below w.heap.size w w' | false=>en=.returned (.tuple #[.slice none 0 0,.bool false])∧Below w.heap.size w w':=by
 refine fnStart (n:=61) (e:=[(0,vS a),(1,str f),(2,i6_ 1)]) Tryd.func72 rfl rfl rfl rfl Ends.both ?_;refine zE (qF (jC (v:=vS a) rfl rfl rfl rfl rfl fun p3 hp3=>?_))
 show Ll _ _ (Own _ _ [_]) _ _ ((3,pt_ p3)::_) _ _ _;refine qJ 2 rfl (zM (zD [1,2,3] [_,_,_] rfl ?_));refine zE ?_
 rcases hff1:formO f with _ | fm1
 ·
  refine qF (qJ 1 rfl (jS (σ:=Unit) (ok:=fun _=>True) (v:=fun _=>.pointer none) (hs':=fun _=>[bk_ p3 #[i6_ a.n,str a.set,str a.rel] 24]) (xs:=[.tmp 13]) (vs:=[str f]) rfl rfl rfl rfl Tryd.call63 rfl (fun w1 hw1=>(pform_ok f _ _ (([bk_ p3 #[i6_ a.n,str a.set,str a.rel] 24]:List (Nat×Obj))++([])) w1 hw1).mono fun en w' hR=>by rw [hff1] at hR;exact ⟨(),hR.1,trivial,hR.2⟩) fun _ _=>?_))
  show Ll _ _ (Own _ _ [_]) _ _ ((14,.pointer none)::_) _ _ _;refine qJ 1 rfl (zM (zD [2,3,8] [_,_,_] rfl ?_));refine zE (zE (zB (zC 1 rfl (zN (v:=bo_ true) rfl rfl rfl (jT (p:=none) rfl yE rfl rfl) ?_))));refine zC 1 rfl (zW rfl rfl rfl (zW rfl rfl rfl (zW rfl rfl rfl (zC 2 rfl ?_))));refine zW rfl rfl rfl (zW rfl rfl rfl (zC 2 rfl (zW rfl rfl rfl (zW rfl rfl rfl (zC 2 rfl (zW rfl rfl rfl (zW rfl rfl rfl ?_)))))));refine zW rfl rfl rfl (zW rfl rfl rfl (zW rfl rfl rfl (zW rfl rfl rfl (zW rfl rfl rfl (zC 1 rfl (zJ (zD [2,3,8,38] [_,_,_,_] rfl ?_)))))));refine yN rfl ?_;refine zE (zB (zC 2 rfl (zJ (zD [6,7] [_,_] rfl ?_))));refine qL (yT rfl rfl rfl fun w' hw=>?_)
  rw [rdy_no (w:=1) (.inr (.inl hff1))]
  exact ⟨rfl,hw.below⟩
 have hwf_fm1:=formO_wf hff1
 have hfr_fm1:=frB_lt hwf_fm1;refine qF (qJ 1 rfl (jL (ok:=fun ((q,new):Nat×List (Nat×Obj))=>TreeB 84 new fm1 q) (v:=fun ((q,new):Nat×List (Nat×Obj))=>ptrV q) (new:=fun ((q,new):Nat×List (Nat×Obj))=>new) (hs:=[]) (xs:=[.tmp 13]) (vs:=[str f]) ([bk_ p3 #[i6_ a.n,str a.set,str a.rel] 24]:List (Nat×Obj)) rfl rfl rfl rfl Tryd.call63 rfl (fun w1 hw1=>(pform_ok f _ _ (([bk_ p3 #[i6_ a.n,str a.set,str a.rel] 24]:List (Nat×Obj))++([])) w1 hw1).mono fun en w' hR=>by rw [hff1] at hR;obtain ⟨q,new,h1,h2,h3⟩:=hR;exact ⟨(q,new),h1,h2,h3⟩) fun ⟨q14,new14⟩ hTq14=>?_))
 dsimp only at hTq14
 show Ll _ _ (Own _ _ (_::(new14++([])))) _ _ ((14,ptrV q14)::_) _ _ _;refine qJ 1 rfl (zM (zD [2,3,8] [_,_,_] rfl ?_));refine zE (zE (zB (zC 1 rfl (zN (v:=bo_ false) rfl rfl rfl (jT (p:=some ⟨q14,0,none⟩) rfl yE rfl rfl) ?_))));refine zC 1 rfl (zN rfl rfl rfl (qX (cs:=#[i6_ a.n,str a.set,str a.rel]) 0 rfl qW rfl rfl qU) ?_);refine zN (v:=bo_ (validB a)) rfl rfl rfl (qS rfl Tryd.call52 rfl qG (fun w1 hw1=>isStructure_ok a w1 hsa)) ?_;refine zC 3 rfl (xG fun b22 hg22=>?_)
 cases b22
 ·
  replace hg22:=not_false hg22;refine zC 4 rfl (xG fun b26 hg26=>?_)
  cases b26
  ·
   replace hg26:=zG hg26;refine zC 4 rfl (xG fun b30 hg30=>?_)
   cases b30
   ·
    replace hg30:=zG hg30;refine zC 1 rfl (zN (v:=ptrV q14) rfl rfl rfl (zO rfl rfl) ?_);refine zN rfl rfl rfl (zH rfl zF rfl zK rfl rfl) ?_;refine zN (v:=i6_ ((frB fm1:Int))) rfl rfl rfl (qV rfl zU rfl (fun w1 hw1=>tree_free (TreeB.tree (yD (qA (f:=[_]) hw1)) hTq14))) ?_;refine zC 1 rfl (zN (v:=i6_ ((((frB fm1) / 2 ^ 1:Nat):Int))) rfl rfl rfl (OpQ.shr (a:=frB fm1) (b:=1) rfl rfl rfl (by omega)) ?_);refine zC 2 rfl (zJ (zD [2,3,8,38] [_,_,_,_] rfl ?_));refine qH (b:=!(decide (((((frB fm1) / 2 ^ 1:Nat):Int))=(0:Int)))) rfl (fun h38=>?_) (fun h38=>?_)
    ·
     replace h38:=not_true h38
     replace h38:=zG h38;refine zE (zB (zC 2 rfl (zJ (zD [6,7] [_,_] rfl ?_))));refine qL (yT rfl rfl rfl fun w' hw=>?_)
     rw [rdy_no (w:=1) (by first | exact .inl (by assumption) | exact .inr (.inr ⟨_,hff1,by first | assumption | omega⟩))]
     exact ⟨rfl,hw.below⟩
    replace h38:=not_false h38
    replace h38:=zI h38
    have hV:validB a=true:=by assumption
    have ha:=validB_fine hV
    have hm1:=ha.lo
    have hm8:=ha.hi
    have hz0:frB fm1 / 2 ^ 1=0:=by first | assumption | omega
    have hR:=rdy_of hV hff1 hz0;refine qO (zD [2,3,8] [_,_,_] rfl ?_);refine zE (qF (zS rfl rfl rfl (qX (cs:=#[i6_ a.n,str a.set,str a.rel]) 0 rfl qW rfl rfl qU) ?_));refine jL (ok:=fun _=>True) (v:=fun ((h,M):Nat×Nat)=>.pointer (some ⟨h,0,none⟩)) (new:=fun ((h,M):Nat×Nat)=>[(h,Obj.cells #[.int .i64 a.n,str a.set,str a.rel,.map (some M)] 143 (0,0)),(M,mapP (memoK []))]) (hs:=new14++([])) (xs:=[.tmp 39]) (vs:=[vS a]) ([bk_ p3 #[i6_ a.n,str a.set,str a.rel] 24]:List (Nat×Obj)) rfl rfl rfl rfl Tryd.call64 rfl (fun w1 hw1=>(newHold_ok a w.heap.size w (([bk_ p3 #[i6_ a.n,str a.set,str a.rel] 24]:List (Nat×Obj))++(new14++([]))) w1 hw1).mono fun en w' ⟨h,M,h1,h2⟩=>⟨(h,M),h1,trivial,h2⟩) fun ⟨h40n,M40n⟩ _=>?_
    show Ll _ _ (Own _ _ (_::_::(((M40n,mapP (memoK []))::(memoB []++(new14++([]))))))) _ _ ((40,pt_ h40n)::_) _ _ _;refine qJ 1 rfl (zM (zD [2,3,8,9] [_,_,_,_] rfl ?_));refine zE (qF (yS (xs:=[]) (vs:=[]) Base.elem95 rfl rfl rfl rfl rfl rfl (by decide) rfl fun p41 hp41=>?_));refine qJ 1 rfl (zM (zD [2,3,8,9,10] [_,_,_,_,_] rfl ?_));refine zE (zE (qF (zS rfl rfl rfl (zH rfl qC rfl zK rfl rfl) ?_)));refine zS rfl rfl rfl (zR 1 rfl zU rfl rfl rfl) ?_;refine qJ 1 rfl (jS (σ:=Nat×Nat×Array Value×List RR) (ok:=fun (g,c',u,rr)=>RowsOk rr u c'∧rr.map RR.xs=listsL a.n.toNat 1) (v:=fun (g,c',u,rr)=>.slice (some ⟨g,0,none⟩) rr.length c') (xs:=[.tmp 43,.tmp 44]) (vs:=[i6_ a.n,i6_ 1]) (hs':=fun (g,c',u,rr)=>(g,.cells u 30 (0,0))::([bk_ p41 #[] 30,bk_ p3 #[i6_ a.n,str a.set,str a.rel] 24,bk_ h40n #[i6_ a.n,str a.set,str a.rel,.map (some M40n)] 143]++((M40n,mapP (memoK []))::(memoB []++(rowsB 3 rr++(new14++([]))))))) rfl rfl rfl rfl Tryd.call88 rfl (fun w1 hw1=>(listsOf_ok _ _ _ a.n 1 w1 (by omega) (by omega) (by decide) (by decide) hw1).mono fun en w' ⟨g,c',u,rr,h1,h2,h3⟩=>⟨(g,c',u,rr),h1,h2,h3.perm (rows_memo _ (rowsB 3 rr) [bk_ p41 #[] 30,bk_ p3 #[i6_ a.n,str a.set,str a.rel] 24,bk_ h40n #[i6_ a.n,str a.set,str a.rel,.map (some M40n)] 143] (memoB []) (new14++([])) _)⟩) fun ⟨gL,cL,uL,rrL⟩ ⟨hL,hLX⟩=>?_)
    show Ll _ _ (Own _ _ (_::_::_::_::(((M40n,mapP (memoK []))::(memoB []++(rowsB 3 rrL++(new14++([])))))))) _ _ ((45,sl_ gL rrL.length cL)::_) _ _ _
    have hrl:rrL.length=a.n.toNat:=by rw [← Nat.pow_one a.n.toNat,← listsL_length a.n.toNat 1,← hLX,List.length_map]
    refine zS rfl rfl rfl (OpQ.lenS rfl vG rfl) ?_;refine qJ 1 rfl (zM (zD [8,9,10,45,46,47] [_,_,_,_,_,_] rfl ?_));refine yA (jG (σ:=Nat×Nat×Nat×Array Value×List Value×Memo) (fun ⟨i,g,c,u,V,K⟩=>i≤rrL.length∧(u.size=c*1∧V.length≤c∧u.toList.take V.length=V)∧V.length=cntT (fun x=>holdV a f [(x:Int)]) i∧MemoOk 84 a new14 K) (fun ⟨i,g,c,u,V,K⟩=>[(8,ptrV q14),(9,pt_ h40n),(10,sl_ g V.length c),(45,sl_ gL rrL.length cL),(46,i6_ ((rrL.length:Int))),(47,i6_ ((i:Int)))]) (fun ⟨i,g,c,u,V,K⟩=>Own w.heap.size w (bk_ gL uL 30::bk_ g u 30::bk_ p3 #[i6_ a.n,str a.set,str a.rel] 24::bk_ h40n #[i6_ a.n,str a.set,str a.rel,.map (some M40n)] 143::(((M40n,mapP (memoK K))::(memoB K++((rowsB 3 rrL++(new14++([]))))))))) (fun ⟨i,g,c,u,V,K⟩=>rrL.length - i) ((0,p41,0,#[],[],[])) ⟨by omega,⟨rfl,Nat.le_refl 0,rfl⟩,rfl,MemoOk.nil⟩ (Sub.cons rfl (Sub.cons rfl (Sub.cons (by rfl) (Sub.sel [45,46,47] rfl)))) (fun _ h=>h) ?_)
    rintro ⟨i,g,c,u,V,K⟩ ⟨hi,⟨hc,hl,ht⟩,hVl,hK⟩
    dsimp only
    have hcl:=cntT_le (fun x=>holdV a f [(x:Int)]) i;refine zE (zB (zC 1 rfl (zJ (zD [8,9,10,45,46,47,48] [_,_,_,_,_,_,_] rfl ?_))));refine zE (qH (b:=decide (((i:Int))<((rrL.length:Int)))) rfl (fun h48=>?_) (fun h48=>?_))
    ·
     replace h48:=zI h48
     have hxi:=rows_one hLX hrl (i:=i) (by omega)
     have hxv:=(rdy_hold hV hff1 hz0 (x:=i) (by omega)).2;refine qO (zD [8,9,10,45,46,47] [_,_,_,_,_,_] rfl ?_);refine zE (yA (zE (zB (zN (v:=pf_ gL i) rfl rfl rfl (yF (v':=pf_ gL i) (by simp) (jJ (i:=(i:Int)) rfl vG Tryd.sizeOf30 rfl rfl (by omega) (by omega))) ?_))));refine zN (v:=rv (rrL.getD i rd)) rfl rfl rfl (xY (v:=rv (rrL.getD i rd)) 0 rfl vH rfl rfl (by have:=rvs_at (rr:=rrL) (i:=i) (by omega);rw [← hL.vals,List.getElem?_take,if_pos (by omega)] at this;simpa using this)) ?_;refine zC 1 rfl (zJ (zD [8,9,10,12,45,46,47] [_,_,_,_,_,_,_] rfl ?_));refine zE (qF (qJ 3 rfl (jZ (ok:=fun K=>MemoOk 84 a new14 K) (b:=ev a fm1 (envL ([(i:Int)]))) (xs:=[.tmp 51,.tmp 52,.tmp 53]) (vs:=[pt_ h40n,ptrV q14,rv (rrL.getD i rd)]) ([bk_ gL uL 30,bk_ g u 30,bk_ p3 #[i6_ a.n,str a.set,str a.rel] 24]:List (Nat×Obj)) rfl rfl rfl rfl Tryd.call65 rfl (fun w1 hw1=>holds_ok a fm1 ha (formO_wf hff1) ([(i:Int)]) (rv (rrL.getD i rd)) (by simp) _ _ _ new14 h40n M40n K q14 w1 (fun x hx=>List.mem_append_right _ (List.mem_append_right _ (List.mem_append_left _ hx))) hTq14 (fun w1 h1=>by rw [← hxi];exact Own.ofRows (qA (f:=[_,_,_]) h1) hL.ok (i:=i) (by omega)) (envL_ok hm1 (by simp) (els_one ⟨by omega,by omega⟩)) hK hw1) fun K1 hM1=>?_)))
     show Ll _ _ (Own _ _ (_::_::_::_::(((M40n,mapP (memoK K1))::(memoB K1++((rowsB 3 rrL++(new14++([]))))))))) _ _ ((54,bo_ (ev a fm1 (envL ([(i:Int)]))))::_) _ _ _;refine zM (zD [8,9,10,12,45,46,47,54] [_,_,_,_,_,_,_,_] rfl ?_);refine qH (b:=ev a fm1 (envL ([(i:Int)]))) rfl (fun h54=>?_) (fun h54=>?_)
     ·
      have hD:=cntT_yes (F:=fun x:Nat=>holdV a f [(x:Int)]) (x:=i) (hxv.trans h54);refine qF (qJ 2 rfl (yS (xs:=[.tmp 56]) (vs:=[rv (rrL.getD i rd)]) Base.elem95 rfl rfl rfl rfl rfl rfl (by decide) rfl fun p57 hp57=>?_));refine Ll.append1 (V:=rv (rrL.getD i rd)) (vs:=V) Base.elem95 2 0 rfl rfl rfl rfl rfl rfl rfl hc hl ht rfl (by rfl) (by omega) fun g2 c2 u2 hg2 hc2 hl2 ht2=>?_
      show Ll _ _ (Own _ _ (_::_::_::_::_::(((M40n,mapP (memoK K1))::(memoB K1++((rowsB 3 rrL++(new14++([]))))))))) _ _ ((58,sl_ g2 ((V.length+1)) c2)::_) _ _ _;refine qJ 1 rfl (zM (zD [8,9,10,45,46,47] [_,_,_,_,_,_] rfl ?_));refine zB (zN rfl rfl rfl (qT rfl rfl rfl (by omega) (by omega)) ?_);refine zC 1 rfl (zJ (yY ((i+1,g2,c2,u2,V++[rv (rrL.getD i rd)],K1)) ⟨by omega,⟨hc2,by simpa using hl2,by simpa using ht2⟩,by rw [hD];simp [hVl],hM1⟩ (by omega) (Sub.cons rfl (Sub.cons rfl (Sub.cons (by rw [zQ];rfl) (Sub.sel [45,46,47] rfl)))) (fun _ h=>h.sub (qM _ (zA _ (zA _ (zA _ (zA _ (zP _)))))))))
     have hD:=cntT_no (F:=fun x:Nat=>holdV a f [(x:Int)]) (x:=i) (hxv.trans (by simpa using h54));refine qO (zD [8,9,10,45,46,47] [_,_,_,_,_,_] rfl ?_);refine zB (zN rfl rfl rfl (qT rfl rfl rfl (by omega) (by omega)) ?_);refine zC 1 rfl (zJ (yY ((i+1,g,c,u,V,K1)) ⟨by omega,⟨hc,hl,ht⟩,by rw [hD];simp [hVl],hM1⟩ (by omega) (Sub.cons rfl (Sub.cons rfl (Sub.cons (by rfl) (Sub.sel [45,46,47] rfl)))) (fun _ h=>h.sub (zA _ (zA _ (zA _ (zA _ (zP _))))))))
    replace h48:=zG h48;refine xA rfl ?_;refine zD [10] [_] rfl ?_;refine zE (zB (zC 3 rfl (zJ (zD [6,7] [_,_] rfl ?_))));refine qL (yT rfl rfl rfl fun w' hw=>?_)
    rw [hR]
    exact ⟨.int .i64 0,g,c,by rw [show a.n.toNat=i by omega,← hVl],hw.below⟩
   replace hg30:=zI hg30;refine zW rfl rfl rfl (zW rfl rfl rfl ?_);refine zW rfl rfl rfl (zW rfl rfl rfl (zW rfl rfl rfl (zW rfl rfl rfl (zW rfl rfl rfl (zC 1 rfl (zJ (zD [2,3,8,38] [_,_,_,_] rfl ?_)))))));refine yN rfl ?_;refine zE (zB (zC 2 rfl (zJ (zD [6,7] [_,_] rfl ?_))));refine qL (yT rfl rfl rfl fun w' hw=>?_)
   rw [rdy_no (w:=1) (by first | exact .inl (by assumption) | exact .inr (.inr ⟨_,hff1,by first | assumption | omega⟩))]
   exact ⟨rfl,hw.below⟩
  replace hg26:=zI hg26;refine zW rfl rfl rfl (zW rfl rfl rfl (zC 2 rfl (zW rfl rfl rfl (zW rfl rfl rfl ?_))));refine zW rfl rfl rfl (zW rfl rfl rfl (zW rfl rfl rfl (zW rfl rfl rfl (zW rfl rfl rfl (zC 1 rfl (zJ (zD [2,3,8,38] [_,_,_,_] rfl ?_)))))));refine yN rfl ?_;refine zE (zB (zC 2 rfl (zJ (zD [6,7] [_,_] rfl ?_))));refine qL (yT rfl rfl rfl fun w' hw=>?_)
  rw [rdy_no (w:=1) (by first | exact .inl (by assumption) | exact .inr (.inr ⟨_,hff1,by first | assumption | omega⟩))]
  exact ⟨rfl,hw.below⟩
 replace hg22:=not_true hg22;refine zW rfl rfl rfl (zW rfl rfl rfl (zC 2 rfl (zW rfl rfl rfl (zW rfl rfl rfl (zC 2 rfl (zW rfl rfl rfl (zW rfl rfl rfl ?_)))))));refine zW rfl rfl rfl (zW rfl rfl rfl (zW rfl rfl rfl (zW rfl rfl rfl (zW rfl rfl rfl (zC 1 rfl (zJ (zD [2,3,8,38] [_,_,_,_] rfl ?_)))))));refine yN rfl ?_;refine zE (zB (zC 2 rfl (zJ (zD [6,7] [_,_] rfl ?_))));refine qL (yT rfl rfl rfl fun w' hw=>?_)
 rw [rdy_no (w:=1) (by first | exact .inl (by assumption) | exact .inr (.inr ⟨_,hff1,by first | assumption | omega⟩))]
 exact ⟨rfl,hw.below⟩
set_option maxHeartbeats 400000 in
theorem iCount_ok (a:St) (f:List UInt8) (w:World) (hsa:a.Small) :
    Calls Tryd.prog 22 [vS a,str f,i6_ 1].toArray w fun en w'=>en=.returned (.int .i64 (cntO a f))∧Below w.heap.size w w':=by
 refine fnStart (n:=20) (e:=[(0,vS a),(1,str f),(2,i6_ 1)]) Tryd.func22 rfl rfl rfl rfl Ends.both ?_;refine zE (qF (jC (v:=vS a) rfl rfl rfl rfl rfl fun p3 hp3=>?_))
 show Ll _ _ (Own _ _ [_]) _ _ ((3,pt_ p3)::_) _ _ _;refine qJ 1 rfl (zM (zD [1,2,3] [_,_,_] rfl ?_));refine zE ?_
 cases hrd:rdyB a f 1
 ·
  refine qF (zS rfl rfl rfl (qX (cs:=#[i6_ a.n,str a.set,str a.rel]) 0 rfl qW rfl rfl qU) ?_);refine qJ 2 rfl (jS (σ:=Unit) (ok:=fun _=>True) (v:=fun _=>.tuple #[.slice none 0 0,.bool false]) (hs':=fun _=>[bk_ p3 #[i6_ a.n,str a.set,str a.rel] 24]) (xs:=[.tmp 10,.tmp 11,.tmp 12]) (vs:=[vS a,str f,i6_ 1]) rfl rfl rfl rfl Tryd.call72 rfl (fun w1 hw1=>(points_ok a f w1 hsa).mono fun en w' hR=>by rw [hrd] at hR;exact ⟨(),hR.1,trivial,hw1.calls hR.2⟩) fun _ _=>?_)
  show Ll _ _ (Own _ _ [_]) _ _ ((13,.tuple #[.slice none 0 0,bo_ false])::_) _ _ _;refine qJ 1 rfl (zS (v:=.slice none 0 0) rfl rfl rfl (qY rfl rfl rfl) ?_);refine zS (v:=bo_ false) rfl rfl rfl (qY rfl rfl rfl) ?_;refine qJ 2 rfl (zM (zD [7,8] [_,_] rfl ?_));refine zE (zE (zB (zC 2 rfl (zJ (zD [7,17] [_,_] rfl ?_)))));refine yN rfl ?_;refine zE (zB (zC 1 rfl (zJ (zD [6] [_] rfl ?_))));refine qL (qQ rfl rfl fun w' hw=>?_)
  exact ⟨ret_i (by rw [cntO_no hrd]),hw.below⟩
 refine qF (zS rfl rfl rfl (qX (cs:=#[i6_ a.n,str a.set,str a.rel]) 0 rfl qW rfl rfl qU) ?_);refine qJ 2 rfl (jS (σ:=Nat×Nat) (ok:=fun _=>True) (v:=fun (m,c)=>.tuple #[.slice (some ⟨m,0,none⟩) (cntT (fun x=>holdV a f [(x:Int)]) a.n.toNat) c,.bool true]) (hs':=fun _=>[bk_ p3 #[i6_ a.n,str a.set,str a.rel] 24]) (xs:=[.tmp 10,.tmp 11,.tmp 12]) (vs:=[vS a,str f,i6_ 1]) rfl rfl rfl rfl Tryd.call72 rfl (fun w1 hw1=>(points_ok a f w1 hsa).mono fun en w' hR=>by rw [hrd] at hR;obtain ⟨_,m,c,h1,h2⟩:=hR;exact ⟨(m,c),h1,trivial,hw1.calls h2⟩) fun ⟨m9,c9⟩ _=>?_)
 show Ll _ _ (Own _ _ [_]) _ _ ((13,.tuple #[sl_ m9 ((cntT (fun x=>holdV a f [(x:Int)]) a.n.toNat)) c9,bo_ true])::_) _ _ _;refine qJ 1 rfl (zS (v:=sl_ m9 ((cntT (fun x=>holdV a f [(x:Int)]) a.n.toNat)) c9) rfl rfl rfl (qY rfl rfl rfl) ?_);refine zS (v:=bo_ true) rfl rfl rfl (qY rfl rfl rfl) ?_;refine qJ 2 rfl (zM (zD [7,8] [_,_] rfl ?_));refine zE (zE (zB (zC 2 rfl (zJ (zD [7,17] [_,_] rfl ?_)))));refine xN rfl ?_;refine qO (zD [7] [_] rfl ?_);refine zE (zB (zC 1 rfl (zN rfl rfl rfl (OpQ.lenS rfl vG rfl) ?_)));refine zC 1 rfl (zJ (zD [6] [_] rfl ?_));refine qL (qQ rfl rfl fun w' hw=>?_)
 exact ⟨ret_i (by rw [cntO_yes hrd]),hw.below⟩
end Go.Proofs.YtefiibghfgfdnaaDoor
namespace Go.Proofs.YtefiibghfgfdnaaDoor
open Go.RowKit Go.Wk
set_option linter.unusedSimpArgs false
set_option maxHeartbeats 400000 in
theorem mark_ok (B:Nat) (w0:World) (p5 p11 p3 n:Nat) (x:Int) (bs:List Bool) (fr:List (Nat×Obj)) (v:Value) (os:List Int) (w:World) (hva:∀ w,Own B w0 (bk_ p5 #[sl_ p11 n n] 124::bk_ p3 #[i6_ x] 3::fr) w→Ints w v os) (hx0:0≤x) (hx1:x<os.length) (hs:os.length≤8) (hn:bs.length=n) (hel:∀ o∈os,0≤o∧o<(n:Int)) (hw:Own B w0 (bk_ p5 #[sl_ p11 n n] 124::bk_ p11 ((bs.map Value.bool).toArray) 4::bk_ p3 #[i6_ x] 3::fr) w) :
    Calls Tryd.prog 124 [v,pt_ p5,pt_ p3].toArray w fun en w'=>en=.returned (.bool true)∧Own B w0 (bk_ p5 #[sl_ p11 n n] 124::bk_ p11 (((bs.set (os.getD x.toNat 0).toNat true).map Value.bool).toArray) 4::bk_ p3 #[i6_ x] 3::fr) w':=by
 refine fnStartC (Own B w0 (bk_ p5 #[sl_ p11 n n] 124::bk_ p11 ((bs.map Value.bool).toArray) 4::bk_ p3 #[i6_ x] 3::fr)) (n:=11) (e:=[(0,v),(1,pt_ p5),(2,pt_ p3)]) Tryd.func124 rfl rfl rfl rfl Ends.both hw ?_
 have hm:0≤os.getD x.toNat 0∧os.getD x.toNat 0<(n:Int):=by rw [getD_at (by omega)];exact hel _ (List.getElem_mem _)
 refine zE (zB (zC 1 rfl (zJ (zD [0,1,2] [_,_,_] rfl ?_))));refine zE (jR (S:=Own B w0 (bk_ p5 #[sl_ p11 n n] 124::bk_ p3 #[i6_ x] 3::fr)) [(0,true),(1,true),(2,true),(3,true),(4,true),(5,true),(6,false)] yG (fun _ h=>h.drawn) (by kernel_rfl) ?_);refine yI rfl rfl rfl rfl rfl (zR 0 rfl Tryd.isAgg124 rfl rfl rfl) (pT 3 [0,2] rfl rfl) ?_;refine jE 1 rfl (pT 3 [0,2] rfl rfl) ?_;refine yI rfl rfl rfl rfl rfl (zR 1 rfl zU rfl rfl rfl) (pT 3 [0,2] rfl rfl) ?_;refine yI (v:=.pointer (some (sAt v x))) rfl rfl rfl rfl rfl (xW rfl yB zK rfl rfl (by omega) (by rw [ints_length];omega) (fun w1 hw1=>hva _ hw1)) (pT 3 [0,2] rfl rfl) ?_;refine yI (v:=i6_ (os.getD ((x).toNat) 0)) rfl rfl rfl rfl rfl (qV rfl zU rfl (fun w1 hw1=>Ints.cell (hva _ hw1) (by omega) (by omega))) (pT 3 [0,2] rfl rfl) ?_;refine yI (v:=pf_ p11 ((os.getD ((x).toNat) 0).toNat)) rfl rfl rfl rfl rfl (yF (by rw [Nat.zero_add]) (jJ (i:=os.getD ((x).toNat) 0) rfl Tryd.runUnderlying124 Tryd.sizeOf4 rfl rfl (by omega) (by omega))) (pT 3 [0,2] rfl rfl) ?_;refine yV rfl ?_;refine qN (v:=bo_ true) (hs':=(_::bk_ p11 (((bs.map Value.bool).set ((os.getD ((x).toNat) 0).toNat) (bo_ true)).toArray) 4::_::fr)) 1 rfl rfl rfl rfl rfl rfl Tryd.sizeOf4 rfl (by rw [List.size_toArray,List.length_map];omega) (by first | (rw [list_set];rfl) | (simp only [Nat.zero_add];rw [list_set];rfl)) ?_;refine zM (yO (pT 3 [0,2] rfl rfl) ?_);refine Ld.nil ?_;refine zD [] [] rfl ?_;refine zE (zB (zC 1 rfl (zJ (zD [4] [_] rfl ?_))));refine qL (qQ rfl rfl fun w' hw=>?_)
 exact ⟨rfl,by rw [List.map_set];exact hw⟩
theorem orbTells (a:St) (ha:a.Fine) (x:Int) (hx:a.El x) (B:Nat) (w0:World) (p5 p11 p3:Nat) (rest:List (Nat×Obj)):Tells Tryd.prog 124 #[.pointer (some ⟨p5,0,none⟩),.pointer (some ⟨p3,0,none⟩)] a a B w0 (fun (bs:List Bool) (_:Unit)=>(bk_ p5 #[sl_ p11 a.n.toNat a.n.toNat] 124::bk_ p11 ((bs.map Value.bool).toArray) 4::bk_ p3 #[i6_ x] 3::rest)) (fun bs _=>bs.length=a.n.toNat) (orbStep x):=by
  intro fr v os t al w hok hv hl _ hA hw
  have h8:=ha.hi
  have pm:∀ t:List Bool,(fr++(bk_ p5 #[sl_ p11 a.n.toNat a.n.toNat] 124::bk_ p11 ((t.map Value.bool).toArray) 4::bk_ p3 #[i6_ x] 3::rest)).Perm (bk_ p5 #[sl_ p11 a.n.toNat a.n.toNat] 124::bk_ p11 ((t.map Value.bool).toArray) 4::bk_ p3 #[i6_ x] 3::(fr++rest)):=fun t=>List.perm_append_comm_assoc fr [_,_,_] rest;refine (mark_ok B w0 p5 p11 p3 a.n.toNat x t (fr++rest) v os w (fun w h=>hv w (yD (qA (f:=[_,_]) h))) hx.1 (by have:=hx.2;omega) (by omega) hok (fun o ho=>by have:=hA o ho;exact ⟨this.1,by have:=this.2;omega⟩) (hw.perm (pm t))).mono fun en w' ⟨h1,h2⟩=>?_
  exact ⟨(),h1,by show (t.set _ _).length=_;rw [List.length_set];exact hok,h2.perm (pm _).symm⟩
set_option maxHeartbeats 400000 in
theorem orbit_ok (a:St) (x:Int) (B:Nat) (w0:World) (hs:List (Nat×Obj)) (w:World) (ha:a.Fine) (hx:a.El x) (hw:Own B w0 hs w) :
    Calls Tryd.prog 70 [vS a,i6_ x].toArray w fun en w'=>∃ (zs:List Int) (g c:Nat) (u:Array Value),en=.returned (.slice (some ⟨g,0,none⟩) zs.length c)∧((u.size=c*1∧zs.length≤c∧u.toList.take zs.length=ints zs)∧zs.length≤8∧(0<zs.length∧zs.getD 0 0≤x)∧∀ z∈zs,a.El z∧Moved a x z)∧Own B w0 ((g,.cells u 3 (0,0))::hs) w':=by
 refine fnStartC (Own B w0 hs) (n:=31) (e:=[(0,vS a),(1,i6_ x)]) Tryd.func70 rfl rfl rfl rfl Ends.both hw ?_
 have hm8:=ha.hi
 have hm1:=ha.lo;refine zE (qF (jC (v:=vS a) rfl rfl rfl rfl rfl fun p2 hp2=>?_))
 show Ll _ _ (Own _ _ (_::hs)) _ _ ((2,pt_ p2)::_) _ _ _;refine jC (v:=i6_ x) rfl rfl rfl rfl rfl fun p3 hp3=>?_
 show Ll _ _ (Own _ _ (_::_::hs)) _ _ ((3,pt_ p3)::_) _ _ _;refine qJ 1 rfl (zM (zD [2,3] [_,_] rfl ?_));refine zE (qF (zS rfl rfl rfl (zH rfl qC rfl zK rfl rfl) ?_));refine zS rfl rfl rfl (zR 1 rfl zU rfl rfl rfl) ?_;refine Ll.make (k:=a.n.toNat) Base.elem124 Tryd.zeroValue4 rfl rfl rfl rfl (by rw [Int.toNat_of_nonneg (by omega)];rfl) (by omega) fun p11 hp11=>?_
 rw [show madeCells (Value.cells (bo_ false)) (a.n.toNat*1)=(List.replicate a.n.toNat (bo_ false)).toArray from made_list _ _ rfl];refine vK rfl rfl rfl rfl Tryd.zeroValue124 fun p5 hp5=>?_
 show Ll _ _ (Own _ _ (bk_ p5 #[.slice none 0 0] 124::_::_::_::hs)) _ _ ((5,pt_ p5)::_) _ _ _;refine qN (v:=sl_ p11 a.n.toNat a.n.toNat) (hs':=(bk_ p5 #[sl_ p11 a.n.toNat a.n.toNat] 124::_::_::_::hs)) 0 rfl rfl rfl rfl rfl rfl Tryd.sizeOf124 rfl (by simp) rfl ?_;refine zM (zD [2,3,5] [_,_,_] rfl ?_);refine zE (qF (zS rfl rfl rfl (qX (cs:=#[i6_ a.n,str a.set,str a.rel]) 3 rfl qW rfl rfl qU) ?_));refine zS rfl rfl rfl (qX (cs:=#[i6_ a.n,str a.set,str a.rel]) 3 rfl qW rfl rfl qU) ?_;refine zS (v:=.func (.func 124) #[] #[pt_ p5,pt_ p3]) rfl rfl rfl (OpQ.func' (cap:=[.tmp 5,.tmp 3]) rfl rfl) ?_;refine jS (σ:=Unit) (ok:=fun _=>True) (v:=fun _=>.tuple #[]) (hs':=fun _=>(bk_ p5 #[sl_ p11 a.n.toNat a.n.toNat] 124::bk_ p11 ((((shS a a (orbStep x) a.n.toNat [] (List.replicate a.n.toNat false)).1).map Value.bool).toArray) 4::bk_ p3 #[i6_ x] 3::(bk_ p2 #[i6_ a.n,str a.set,str a.rel] 24::hs))) (xs:=[.tmp 12,.tmp 13,.tmp 14]) (vs:=[vS a,vS a,.func (.func 124) #[] #[pt_ p5,pt_ p3]]) rfl rfl rfl rfl Tryd.call123 rfl (fun w1 hw1=>(eachShape_ok a a (fun (bs:List Bool) (_:Unit)=>(bk_ p5 #[sl_ p11 a.n.toNat a.n.toNat] 124::bk_ p11 ((bs.map Value.bool).toArray) 4::bk_ p3 #[i6_ x] 3::(bk_ p2 #[i6_ a.n,str a.set,str a.rel] 24::hs))) (fun bs _=>bs.length=a.n.toNat) (orbStep x) 124 #[.pointer (some ⟨p5,0,none⟩),.pointer (some ⟨p3,0,none⟩)] B w0 Tryd.call124 (orbTells a ha x hx B w0 p5 p11 p3 (bk_ p2 #[i6_ a.n,str a.set,str a.rel] 24::hs)) ha ha rfl (List.replicate a.n.toNat false) () w1 (by simp) (by rw [List.map_replicate];exact hw1)).mono fun en w' ⟨al,h1,_,h2⟩=>⟨al,h1,trivial,h2⟩) fun _ _=>?_
 obtain ⟨bs,hbs⟩:∃ bs,bs=(shS a a (orbStep x) a.n.toNat [] (List.replicate a.n.toNat false)).1:=⟨_,rfl⟩
 rw [← hbs]
 have hI:OrbI a x bs:=hbs ▸ orb_inv ha hx
 have hbl:=hI.1
 have hJ:bs.getD x.toNat false=true:=hbs ▸ orb_marks ha hx
 show Ll _ _ (Own _ _ (_::_::_::_::hs)) _ _ _ _ _ _;refine zM (zD [5] [_] rfl ?_);refine zE (qF (yS (xs:=[]) (vs:=[]) xK rfl rfl rfl rfl rfl rfl (by decide) rfl fun p16 hp16=>?_));refine qJ 1 rfl (zM (zD [5,6] [_,_] rfl ?_));refine zE (zE (zB (zN rfl rfl rfl (zR 1 rfl Tryd.isAgg124 rfl rfl rfl) ?_)));refine zN rfl rfl rfl (OpQ.lenS rfl Tryd.runUnderlying124 rfl) ?_;refine zC 1 rfl (zJ (zD [6,17,18,19] [_,_,_,_] rfl ?_));refine yA (jG (σ:=Nat×Nat×Nat×Array Value) (fun ⟨k,g,c,u⟩=>k≤a.n.toNat∧(u.size=c*1∧(trueTo bs k).length≤c∧u.toList.take (trueTo bs k).length=ints (trueTo bs k))) (fun ⟨k,g,c,u⟩=>[(6,sl_ g ((trueTo bs k).length) c),(17,sl_ p11 a.n.toNat a.n.toNat),(18,i6_ ((a.n.toNat:Int))),(19,i6_ ((k:Int)))]) (fun ⟨k,g,c,u⟩=>Own B w0 (bk_ g u 3::bk_ p5 #[sl_ p11 a.n.toNat a.n.toNat] 124::bk_ p11 ((bs.map Value.bool).toArray) 4::bk_ p3 #[i6_ x] 3::bk_ p2 #[i6_ a.n,str a.set,str a.rel] 24::hs)) (fun ⟨k,g,c,u⟩=>a.n.toNat - k) ((0,p16,0,#[])) ⟨by omega,⟨rfl,Nat.le_refl 0,rfl⟩⟩ (Sub.cons (by rfl) (Sub.sel [17,18,19] rfl)) (fun _ h=>h) ?_)
 rintro ⟨k,g,c,u⟩ ⟨hk,⟨hcg,hlg,htg⟩⟩
 dsimp only
 have htl:=true_le bs k;refine zE (zB (zC 1 rfl (zJ (zD [6,17,18,19,20] [_,_,_,_,_] rfl ?_))));refine zE (qH (b:=decide (((k:Int))<((a.n.toNat:Int)))) rfl (fun h20=>?_) (fun h20=>?_))
 ·
  replace h20:=zI h20;refine qO (zD [6,17,18,19] [_,_,_,_] rfl ?_);refine zE (yA (zE (zB (zC 1 rfl (zN (v:=pf_ p11 (((k:Int)).toNat)) rfl rfl rfl (yF (by rw [Nat.zero_add]) (jJ (i:=(k:Int)) rfl Tryd.runUnderlying124 Tryd.sizeOf4 rfl rfl (by omega) (by omega))) ?_)))));refine zN (v:=bo_ (bs.getD (((k:Int)).toNat) false)) rfl rfl rfl (xY 2 rfl Tryd.isAgg4 rfl rfl (cur_at (bools_all bs) (bools_at (c:=bs) (off:=((k:Int)).toNat) (by first | (simp;done) | (simp;omega) | omega)))) ?_;refine zC 2 rfl (zJ (zD [6,7,8,17,18,19] [_,_,_,_,_,_] rfl ?_));refine zE (zB (zC 1 rfl (zJ (zD [6,7,17,18,19,24] [_,_,_,_,_,_] rfl ?_))));refine qH (b:=bs.getD (((k:Int)).toNat) false) rfl (fun h24=>?_) (fun h24=>?_)
  ·
   refine qF (qJ 2 rfl (yS (xs:=[.tmp 26]) (vs:=[i6_ ((k:Int))]) xK rfl rfl rfl rfl rfl rfl (by decide) rfl fun p27 hp27=>?_));refine Ll.appendInts (xs:=(trueTo bs k)) (ys:=[(k:Int)]) xK 1 rfl rfl rfl rfl rfl rfl rfl hcg hlg htg (fun w1 hw1=>(xQ hw1 (i:=0) rfl (n:=1) (cap:=1) (vs:=ints [(k:Int)]) rfl rfl (by decide))) ((((trueTo bs k))++([(k:Int)])).length) (by first | (simp;done) | (simp;omega)) (by first | (simp;done) | (simp;omega) | omega) fun p28 cap28 cur28 hp28 hcp28 hlp28 htp28=>?_
   show Ll _ _ (Own _ _ (_::_::_::_::_::_::hs)) _ _ ((28,sl_ p28 (((((trueTo bs k))++([(k:Int)])).length)) cap28)::_) _ _ _;refine qJ 1 rfl (zM (zD [6,17,18,19] [_,_,_,_] rfl ?_));refine zB (zN rfl rfl rfl (qT rfl rfl rfl (by omega) (by omega)) ?_);refine zC 1 rfl (zJ (yY ((k+1,p28,cap28,cur28)) ⟨by omega,⟨by simpa using hcp28,by dsimp only;rw [true_yes (k:=k) (by simpa using h24)];simpa using hlp28,by dsimp only;rw [true_yes (k:=k) (by simpa using h24)];simpa using htp28⟩⟩ (by omega) (Sub.cons (by dsimp only;rw [true_yes (k:=k) (by simpa using h24)];rfl) (Sub.sel [17,18,19] rfl)) (fun _ h=>h.sub (qM _ (zA _ (zA _ (zA _ (zA _ (zA _ (zP _))))))))))
  refine qO (zD [6,17,18,19] [_,_,_,_] rfl ?_);refine zB (zN rfl rfl rfl (qT rfl rfl rfl (by omega) (by omega)) ?_);refine zC 1 rfl (zJ (yY ((k+1,g,c,u)) ⟨by omega,⟨hcg,by dsimp only;rw [true_no (k:=k) (by simpa using h24)];exact hlg,by dsimp only;rw [true_no (k:=k) (by simpa using h24)];exact htg⟩⟩ (by omega) (Sub.cons (by dsimp only;rw [true_no (k:=k) (by simpa using h24)];rfl) (Sub.sel [17,18,19] rfl)) (fun _ h=>h.sub (zA _ (zA _ (zA _ (zA _ (zA _ (zP _)))))))))
 replace h20:=zG h20;refine xA rfl ?_;refine zD [6] [_] rfl ?_;refine zE (zB (zC 2 rfl (zJ (zD [4] [_] rfl ?_))));refine qL (qQ rfl rfl fun w' hw=>?_)
 obtain rfl:k=bs.length:=by omega
 exact ⟨trueTo bs bs.length,g,c,u,rfl,⟨⟨hcg,hlg,htg⟩,by have:=ha.hi;omega,orb_first hx hbl hJ,orb_all hI⟩,hw.sub (zA _ (qM _ (qM _ (qM _ (qM _ (zP _))))))⟩
end Go.Proofs.YtefiibghfgfdnaaDoor
namespace Go.Proofs.YtefiibghfgfdnaaDoor
open Go.RowKit Go.Wk
set_option linter.unusedSimpArgs false
set_option maxHeartbeats 400000 in
theorem gsHolds_ok (a:St) (f:List UInt8) (va:Value) (xs:List Int) (w:World) (hsa:a.Small) (hva:Ints w va xs) (hxl:xs.length≤1048576) :
    Calls Tryd.prog 20 [vS a,str f,va].toArray w fun en w'=>en=.returned (.bool (holdV a f xs))∧Below w.heap.size w w':=by
 refine fnStart (n:=17) (e:=[(0,vS a),(1,str f),(2,va)]) Tryd.func20 rfl rfl rfl rfl Ends.both ?_;refine zE (qF (jC (v:=vS a) rfl rfl rfl rfl rfl fun p3 hp3=>?_))
 show Ll _ _ (Own _ _ [_]) _ _ ((3,pt_ p3)::_) _ _ _;refine qJ 1 rfl (zM (zD [1,2,3] [_,_,_] rfl ?_));refine zE (zB (zN rfl rfl rfl (qX (cs:=#[i6_ a.n,str a.set,str a.rel]) 0 rfl qW rfl rfl qU) ?_));refine zC 2 rfl (zN (v:=.tuple #[bo_ (holdV a f xs),bo_ (holdK a f xs)]) rfl rfl rfl (qS rfl Tryd.call58 rfl qG (fun w1 hw1=>iHolds_ok a f va xs w1 hsa (Row.own hva hw1) (by first | (simp;done) | omega))) ?_);refine zC 1 rfl (zN (v:=bo_ (holdV a f xs)) rfl rfl rfl (qY rfl rfl rfl) ?_);refine zN (v:=bo_ (holdK a f xs)) rfl rfl rfl (qY rfl rfl rfl) ?_;refine zC 2 rfl (zJ (zD [7] [_] rfl ?_));refine zE (zB (zC 2 rfl (zJ (zD [6] [_] rfl ?_))));refine qL (qQ rfl rfl fun w' hw=>?_)
 exact ⟨ret_b (by first | rfl | (simp_all;done) | (simp_all;omega)),hw.below⟩
end Go.Proofs.YtefiibghfgfdnaaDoor
namespace Go.Proofs.YtefiibghfgfdnaaDoor
open Go.RowKit Go.Wk
set_option linter.unusedSimpArgs false
set_option maxHeartbeats 400000 in
theorem isDef_ok (a:St) (va:Value) (xs:List Int) (w:World) (hva:Ints w va xs) (hs1:xs.length≤1000000) (hv:validB a=true) (hA:a.Els xs) (hd:xs.Nodup) (hcl:∀ x∈xs,∀ z:Int,a.El z→Moved a x z→z∈xs) :
    Calls Tryd.prog 21 [vS a,va].toArray w fun en w'=>en=.returned (.bool true)∧Below w.heap.size w w':=by
 refine fnStart (n:=43) (e:=[(0,vS a),(1,va)]) Tryd.func21 rfl rfl rfl rfl Ends.both ?_
 have ha:=validB_fine hv
 have hsa:=ha.small;refine zE (qF (jC (v:=vS a) rfl rfl rfl rfl rfl fun p2 hp2=>?_))
 show Ll _ _ (Own _ _ [_]) _ _ ((2,pt_ p2)::_) _ _ _;refine qJ 1 rfl (zM (zD [1,2] [_,_] rfl ?_));refine zE (zE (zB (zN rfl rfl rfl (qX (cs:=#[i6_ a.n,str a.set,str a.rel]) 0 rfl qW rfl rfl qU) ?_)));refine zN (v:=bo_ true) rfl rfl rfl (qS rfl Tryd.call52 rfl qG (fun w1 hw1=>known_b hv (isStructure_ok a w1 hsa))) ?_;refine zC 2 rfl (zN rfl rfl rfl (qX (cs:=#[i6_ a.n,str a.set,str a.rel]) 0 rfl qW rfl rfl qU) ?_);refine zC 1 rfl (zN (v:=bo_ (xs.all (elB a))) rfl rfl rfl (qS rfl Tryd.call68 rfl qG (fun w1 hw1=>areElements_ok a va xs w1 (Row.own hva hw1) (by first | (simp;done) | (simp;omega) | omega))) ?_);refine zC 3 rfl (xG fun b18 hg18=>?_)
 cases b18
 ·
  replace hg18:=not_false hg18;refine zC 1 rfl (zN (v:=bo_ true) rfl rfl rfl (qS rfl Tryd.call69 rfl qG (fun w1 hw1=>allDiff_ok va xs w1 (Row.own hva hw1) (by omega) hd)) ?_);refine zC 2 rfl (zJ (zD [1,2,22] [_,_,_] rfl ?_));refine xN rfl ?_;refine qO (zD [1,2] [_,_] rfl ?_);refine zE (zE (zB (zC 1 rfl (zN (v:=i6_ ((xs.length:Int))) rfl rfl rfl (xO rfl yB rfl (ints_length _) (fun w1 hw1=>Row.own hva hw1)) ?_))));refine zC 1 rfl (zJ (zD [1,2,23,24,25] [_,_,_,_,_] rfl ?_));refine yA (jG (σ:=Nat) (fun k=>k≤xs.length) (fun k=>[(1,va),(2,pt_ p2),(23,va),(24,i6_ ((xs.length:Int))),(25,i6_ ((k:Int)))]) (fun k=>Own w.heap.size w [bk_ p2 #[i6_ a.n,str a.set,str a.rel] 24]) (fun k=>xs.length - k) (0) (by omega) (Sub.sel [1,2,23,24,25] rfl) (fun _ h=>h) ?_)
  rintro k hk;refine zE (zB (zC 1 rfl (zJ (zD [1,2,23,24,25,26] [_,_,_,_,_,_] rfl ?_))));refine zE (qH (b:=decide (((k:Int))<((xs.length:Int)))) rfl (fun h26=>?_) (fun h26=>?_))
  ·
   replace h26:=zI h26
   have hxk:=mem_at0 (xs:=xs) (k:=k) (by omega);refine qO (zD [1,2,23,24,25] [_,_,_,_,_] rfl ?_);refine zE (yA (zE (zB (zN (v:=.pointer (some (sAt va ((k:Int))))) rfl rfl rfl (xW rfl yB zK rfl rfl (by omega) (by rw [ints_length];omega) (fun w1 hw1=>Row.own hva hw1)) ?_))));refine zN (v:=i6_ (xs.getD (((k:Int)).toNat) 0)) rfl rfl rfl (qV rfl zU rfl (fun w1 hw1=>Ints.cell (Row.own hva hw1) (by omega) (by omega))) ?_;refine zC 1 rfl (zJ (zD [1,2,6,23,24,25] [_,_,_,_,_,_] rfl ?_));refine zE (qF (zS rfl rfl rfl (qX (cs:=#[i6_ a.n,str a.set,str a.rel]) 0 rfl qW rfl rfl qU) ?_));refine qJ 1 rfl (jS (σ:=List Int×Nat×Nat×Array Value) (ok:=fun (zs,g,c,u)=>(u.size=c*1∧zs.length≤c∧u.toList.take zs.length=ints zs)∧zs.length≤8∧(0<zs.length∧zs.getD 0 0≤(xs.getD (((k:Int)).toNat) 0))∧∀ z∈zs,a.El z∧Moved a (xs.getD (((k:Int)).toNat) 0) z) (v:=fun (zs,g,c,u)=>.slice (some ⟨g,0,none⟩) zs.length c) (hs':=fun (zs,g,c,u)=>(g,.cells u 3 (0,0))::[bk_ p2 #[i6_ a.n,str a.set,str a.rel] 24]) (xs:=[.tmp 29,.tmp 30]) (vs:=[vS a,i6_ (xs.getD (((k:Int)).toNat) 0)]) rfl rfl rfl rfl Tryd.call70 rfl (fun w1 hw1=>(orbit_ok a (xs.getD (((k:Int)).toNat) 0) w.heap.size w [bk_ p2 #[i6_ a.n,str a.set,str a.rel] 24] w1 ha (hA _ hxk) hw1).mono fun en w' ⟨zs,g,c,u,h1,h2,h3⟩=>⟨(zs,g,c,u),h1,h2,h3⟩) fun ⟨zs31,g31,c31,u31⟩ ⟨⟨hcg31,hlg31,htg31⟩,hz8,hzf,hzm⟩=>?_)
   show Ll _ _ (Own _ _ [_,_]) _ _ ((31,sl_ g31 zs31.length c31)::_) _ _ _;refine zS rfl rfl rfl (OpQ.lenS rfl yB rfl) ?_;refine qJ 1 rfl (zM (zD [1,2,23,24,25,31,32,33] [_,_,_,_,_,_,_,_] rfl ?_));refine yA (jG (σ:=Nat) (fun j=>j≤zs31.length) (fun j=>[(1,va),(2,pt_ p2),(23,va),(24,i6_ ((xs.length:Int))),(25,i6_ ((k:Int))),(31,sl_ g31 zs31.length c31),(32,i6_ ((zs31.length:Int))),(33,i6_ ((j:Int)))]) (fun j=>Own w.heap.size w [bk_ g31 u31 3,bk_ p2 #[i6_ a.n,str a.set,str a.rel] 24]) (fun j=>zs31.length - j) (0) (by omega) (Sub.sel [1,2,23,24,25,31,32,33] rfl) (fun _ h=>h) ?_)
   rintro j hj;refine zE (zB (zC 1 rfl (zJ (zD [1,2,23,24,25,31,32,33,34] [_,_,_,_,_,_,_,_,_] rfl ?_))));refine zE (qH (b:=decide (((j:Int))<((zs31.length:Int)))) rfl (fun h34=>?_) (fun h34=>?_))
   ·
    replace h34:=zI h34
    have hzk:=mem_at0 (xs:=zs31) (k:=j) (by omega);refine qO (zD [1,2,23,24,25,31,32,33] [_,_,_,_,_,_,_,_] rfl ?_);refine zE (yA (zE (zB (zN (v:=pf_ g31 (0+((j:Int)).toNat)) rfl rfl rfl (jJ rfl yB zK rfl rfl (by omega) (by omega)) ?_))));refine zN (v:=i6_ (zs31.getD (0+((j:Int)).toNat) 0)) rfl rfl rfl (xY 0 rfl zU rfl rfl (cur_at htg31 (by exact ints_at2 (by omega)))) ?_;refine zC 1 rfl (zJ (zD [1,2,8,23,24,25,31,32,33] [_,_,_,_,_,_,_,_,_] rfl ?_));refine zE (zB (zC 2 rfl (zN (v:=bo_ (decide ((zs31.getD (0+((j:Int)).toNat) 0)∈xs))) rfl rfl rfl (qS rfl Tryd.call71 rfl qG (fun w1 hw1=>contains_ok va xs (zs31.getD (0+((j:Int)).toNat) 0) w1 (Row.own hva hw1) (by omega))) ?_)));refine zC 1 rfl (zJ (zD [1,2,23,24,25,31,32,33,40] [_,_,_,_,_,_,_,_,_] rfl ?_));refine qH (b:=!(decide ((zs31.getD (0+((j:Int)).toNat) 0)∈xs))) rfl (fun h40=>?_) (fun h40=>?_)
    ·
     replace h40:=not_true h40
     replace h40:=zG h40
     exact absurd (hcl _ hxk _ (hzm _ hzk).1 (hzm _ hzk).2) (by simpa using h40)
    replace h40:=not_false h40
    replace h40:=zI h40;refine qO (zD [1,2,23,24,25,31,32,33] [_,_,_,_,_,_,_,_] rfl ?_);refine zB (zN rfl rfl rfl (qT rfl rfl rfl (by omega) (by omega)) ?_);refine zC 1 rfl (zJ (yY (j+1) (by omega) (by omega) (Sub.sel [1,2,23,24,25,31,32,33] rfl) (fun _ h=>h)))
   replace h34:=zG h34;refine xA rfl ?_;refine zD [1,2,23,24,25] [_,_,_,_,_] rfl ?_;refine zB (zN rfl rfl rfl (qT rfl rfl rfl (by omega) (by omega)) ?_);refine zC 1 rfl (zJ (yY (k+1) (by omega) (by omega) (Sub.sel [1,2,23,24,25] rfl) (fun _ h=>h.sub (qM _ (zA _ (zP _))))))
  replace h26:=zG h26;refine xA rfl ?_;refine zD [] [] rfl ?_;refine zE (zB (zC 1 rfl (zJ (zD [4] [_] rfl ?_))));refine qL (qQ rfl rfl fun w' hw=>?_)
  exact ⟨rfl,hw.below⟩
 replace hg18:=not_true hg18;refine zW rfl rfl rfl (zW rfl rfl rfl (zW rfl rfl rfl (zC 1 rfl (zJ (zD [1,2,22] [_,_,_] rfl ?_)))));refine yN rfl ?_;refine zE (zB (zC 1 rfl (zJ (zD [4] [_] rfl ?_))));refine qL (qQ rfl rfl fun w' hw=>?_)
 exact ⟨ret_b (bool_no (List.all_eq_true.2 fun x hx=>elB_true.2 (hA x hx)) (by assumption)),hw.below⟩
set_option maxHeartbeats 400000 in
theorem gsSame_ok (va vb:Value) (xs ys:List Int) (w:World) (hva:Ints w va xs) (hvb:Ints w vb ys) (hs1:xs.length≤1000000) (_hs2:ys.length≤1000000) :
    Calls Tryd.prog 18 [va,vb].toArray w fun en w'=>en=.returned (.bool (xs==ys))∧Below w.heap.size w w':=by
 refine fnStart (n:=26) (e:=[(0,va),(1,vb)]) Tryd.func18 rfl rfl rfl rfl Ends.both ?_;refine zE (zB (zC 1 rfl (zJ (zD [0,1] [_,_] rfl ?_))));refine zE (zE (zB (zC 1 rfl (zN (v:=i6_ ((xs.length:Int))) rfl rfl rfl (xO rfl yB rfl (ints_length _) (fun w1 hw1=>Row.own hva hw1)) ?_))));refine zC 1 rfl (zN (v:=i6_ ((ys.length:Int))) rfl rfl rfl (xO rfl yB rfl (ints_length _) (fun w1 hw1=>Row.own hvb hw1)) ?_);refine zC 1 rfl (zJ (zD [0,1,10] [_,_,_] rfl ?_));refine qH (b:=!(decide (((xs.length:Int))=((ys.length:Int))))) rfl (fun h10=>?_) (fun h10=>?_)
 ·
  replace h10:=not_true h10
  replace h10:=zG h10;refine zE (zB (zC 1 rfl (zJ (zD [4] [_] rfl ?_))));refine qL (qQ rfl rfl fun w' hw=>?_)
  exact ⟨ret_b (Eq.symm (beq_eq_false_iff_ne.2 fun e=>by rw [e] at h10;exact h10 rfl)),hw.below⟩
 replace h10:=not_false h10
 replace h10:=zI h10;refine qO (zD [0,1] [_,_] rfl ?_);refine zE (zE (zB (zC 1 rfl (zJ (zD [0,1,5] [_,_,_] rfl ?_)))));refine yA (jG (σ:=Nat) (fun k=>k≤xs.length∧∀ i:Nat,i<k→xs.getD i 0=ys.getD i 0) (fun k=>[(0,va),(1,vb),(5,i6_ ((k:Int)))]) (fun k=>Own w.heap.size w []) (fun k=>xs.length - k) (0) ⟨by omega,fun i hi=>absurd hi (by omega)⟩ (Sub.sel [0,1,5] rfl) (fun _ h=>h) ?_)
 rintro k ⟨hk,hall⟩;refine zE (zE (zB (zC 2 rfl (zN (v:=i6_ ((xs.length:Int))) rfl rfl rfl (xO rfl yB rfl (ints_length _) (fun w1 hw1=>Row.own hva hw1)) ?_))));refine zC 1 rfl (zJ (zD [0,1,5,14] [_,_,_,_] rfl ?_));refine qH (b:=decide (((k:Int))<((xs.length:Int)))) rfl (fun h14=>?_) (fun h14=>?_)
 ·
  replace h14:=zI h14;refine qO (zD [0,1,5] [_,_,_] rfl ?_);refine zE (yA (zE (jF yG (fun _ h=>h.drawn) (by kernel_rfl) ?_)));refine zC 2 rfl (zN (v:=.pointer (some (sAt va ((k:Int))))) rfl rfl rfl (xW rfl yB zK rfl rfl (by omega) (by rw [ints_length];omega) (fun w1 hw1=>Row.own hva hw1)) ?_);refine zN (v:=i6_ (xs.getD (((k:Int)).toNat) 0)) rfl rfl rfl (qV rfl zU rfl (fun w1 hw1=>Ints.cell (Row.own hva hw1) (by omega) (by omega))) ?_;refine zC 2 rfl (zN (v:=.pointer (some (sAt vb ((k:Int))))) rfl rfl rfl (xW rfl yB zK rfl rfl (by omega) (by rw [ints_length];omega) (fun w1 hw1=>Row.own hvb hw1)) ?_);refine zN (v:=i6_ (ys.getD (((k:Int)).toNat) 0)) rfl rfl rfl (qV rfl zU rfl (fun w1 hw1=>Ints.cell (Row.own hvb hw1) (by omega) (by omega))) ?_;refine zC 1 rfl (zJ (zD [0,1,5,25] [_,_,_,_] rfl ?_));refine qH (b:=!(decide ((xs.getD (((k:Int)).toNat) 0)=(ys.getD (((k:Int)).toNat) 0)))) rfl (fun h25=>?_) (fun h25=>?_)
  ·
   replace h25:=not_true h25
   replace h25:=zG h25;refine zE (zB (zC 1 rfl (zJ (zD [4] [_] rfl ?_))));refine qL (qQ rfl rfl fun w' hw=>?_)
   exact ⟨ret_b (other_list (i:=k) (by simpa using h25)).symm,hw.below⟩
  replace h25:=not_false h25
  replace h25:=zI h25;refine qO (zD [0,1,5] [_,_,_] rfl ?_);refine zB (zC 1 rfl (zN rfl rfl rfl (qT rfl rfl rfl (by omega) (by omega)) ?_));refine zC 1 rfl (zJ (yY (k+1) ⟨by omega,fun i hi=>(Nat.lt_succ_iff_lt_or_eq.1 hi).elim (hall i) (fun e=>by subst e;simpa using h25)⟩ (by omega) (Sub.sel [0,1,5] rfl) (fun _ h=>h)))
 replace h14:=zG h14;refine xA rfl ?_;refine zD [] [] rfl ?_;refine zE (zB (zC 1 rfl (zJ (zD [4] [_] rfl ?_))));refine qL (qQ rfl rfl fun w' hw=>?_)
 exact ⟨ret_b (same_list (by omega) (fun i hi=>hall i (by omega))).symm,hw.below⟩
set_option maxHeartbeats 400000 in
theorem gsHas_ok (va:Value) (xs:List Int) (y:Int) (w:World) (hva:Ints w va xs) (hs1:xs.length≤1000000) :
    Calls Tryd.prog 19 [va,i6_ y].toArray w fun en w'=>en=.returned (.bool (decide (y∈xs)))∧Below w.heap.size w w':=by
 refine fnStart (n:=18) (e:=[(0,va),(1,i6_ y)]) Tryd.func19 rfl rfl rfl rfl Ends.both ?_;refine zE (zB (zC 1 rfl (zJ (zD [0,1] [_,_] rfl ?_))));refine zE (zE (zB (zC 1 rfl (zJ (zD [0,1,5] [_,_,_] rfl ?_)))));refine yA (jG (σ:=Nat) (fun k=>k≤xs.length∧∀ i:Nat,i<k→¬ xs.getD i 0=y) (fun k=>[(0,va),(1,i6_ y),(5,i6_ ((k:Int)))]) (fun k=>Own w.heap.size w []) (fun k=>xs.length - k) (0) ⟨by omega,fun i hi=>absurd hi (by omega)⟩ (Sub.sel [0,1,5] rfl) (fun _ h=>h) ?_)
 rintro k ⟨hk,hall⟩;refine zE (zE (zB (zC 2 rfl (zN (v:=i6_ ((xs.length:Int))) rfl rfl rfl (xO rfl yB rfl (ints_length _) (fun w1 hw1=>Row.own hva hw1)) ?_))));refine zC 1 rfl (zJ (zD [0,1,5,9] [_,_,_,_] rfl ?_));refine qH (b:=decide (((k:Int))<((xs.length:Int)))) rfl (fun h9=>?_) (fun h9=>?_)
 ·
  replace h9:=zI h9;refine qO (zD [0,1,5] [_,_,_] rfl ?_);refine zE (yA (zE (zB (zC 2 rfl (zN (v:=.pointer (some (sAt va ((k:Int))))) rfl rfl rfl (xW rfl yB zK rfl rfl (by omega) (by rw [ints_length];omega) (fun w1 hw1=>Row.own hva hw1)) ?_)))));refine zN (v:=i6_ (xs.getD (((k:Int)).toNat) 0)) rfl rfl rfl (qV rfl zU rfl (fun w1 hw1=>Ints.cell (Row.own hva hw1) (by omega) (by omega))) ?_;refine zC 2 rfl (zJ (zD [0,1,5,17] [_,_,_,_] rfl ?_));refine qH (b:=decide ((xs.getD (((k:Int)).toNat) 0)=y)) rfl (fun h17=>?_) (fun h17=>?_)
  ·
   replace h17:=zI h17;refine zE (zB (zC 1 rfl (zJ (zD [4] [_] rfl ?_))));refine qL (qQ rfl rfl fun w' hw=>?_)
   exact ⟨ret_b (mem_of_at (i:=k) (by omega) (by simpa using h17)).symm,hw.below⟩
  replace h17:=zG h17;refine qO (zD [0,1,5] [_,_,_] rfl ?_);refine zB (zC 1 rfl (zN rfl rfl rfl (qT rfl rfl rfl (by omega) (by omega)) ?_));refine zC 1 rfl (zJ (yY (k+1) ⟨by omega,fun i hi=>(Nat.lt_succ_iff_lt_or_eq.1 hi).elim (hall i) (fun e=>by subst e;simpa using h17)⟩ (by omega) (Sub.sel [0,1,5] rfl) (fun _ h=>h)))
 replace h9:=zG h9;refine xA rfl ?_;refine zD [] [] rfl ?_;refine zE (zB (zC 1 rfl (zJ (zD [4] [_] rfl ?_))));refine qL (qQ rfl rfl fun w' hw=>?_)
 exact ⟨ret_b (not_mem_of (fun i hi=>hall i (by omega))).symm,hw.below⟩
def lawFnDef_o11x:OV:=(.one 2 (.one 7 (.take 8 .done)))
theorem lawFnDef_o11x_c:ovB (opsOf 11 Tryd.f4.body) lawFnDef_o11x 3 true #[true,true,false,true,true,true,true,false,false]=true:=(ovB_one (by kernel_rfl) (ovB_one (by kernel_rfl) (ovB_take (by kernel_rfl) (ovB_done (by kernel_rfl)))))
def lawFnDef_o11_1x:OV:=(.one 6 (.one 7 (.take 8 .done)))
theorem lawFnDef_o11_1x_c:ovB (opsOf 11 Tryd.f4.body) lawFnDef_o11_1x 3 true #[true,true,true,true,true,true,false,false,false]=true:=(ovB_one (by kernel_rfl) (ovB_one (by kernel_rfl) (ovB_take (by kernel_rfl) (ovB_done (by kernel_rfl)))))
def lawFnDef_o11_2x:OV:=(.take 0 (.take 1 (.take 3 (.take 4 (.take 5 (.alt 2 lawFnDef_o11_1x (.one 6 lawFnDef_o11x)))))))
theorem lawFnDef_o11_2x_c:ovB (opsOf 11 Tryd.f4.body) lawFnDef_o11_2x 9 true #[false,false,false,false,false,false,false,false,false]=true:=(ovB_take (by kernel_rfl) (ovB_take (by kernel_rfl) (ovB_take (by kernel_rfl) (ovB_take (by kernel_rfl) (ovB_take (by kernel_rfl) (ovB_alt (by kernel_rfl) (ovB_at (by kernel_rfl) lawFnDef_o11_1x_c) (ovB_last (ovB_at (by kernel_rfl) lawFnDef_o11x_c))))))))
def lawFnDef_o11_3x:OV:=.done
set_option maxHeartbeats 400000 in
theorem lawFnDef (bv:Value) (L:List Int) (w:World) (hbv:Row w bv (u8s L)) (hL8:Bytes8 L) (hLm:L.length≤9223372036854775807) :
    Calls Tryd.prog 4 [bv].toArray w fun en w'=>en=.returned (.bool true)∧Below w.heap.size w w':=by
 refine fnStart (n:=77) (e:=[(0,bv)]) Tryd.func4 rfl rfl rfl rfl Ends.both ?_;refine zE (zB (zC 1 rfl (zJ (zD [0] [_] rfl ?_))));refine zE (zE (zB (zC 1 rfl (zN (v:=i6_ ((L.length:Int))) rfl rfl rfl (xO rfl yM rfl (u8s_length _) (fun w1 hw1=>Row.own hbv hw1)) ?_))));refine zC 1 rfl (zJ (zD [0,12] [_,_] rfl ?_));refine qH (b:=decide ((1048576:Int)<((L.length:Int)))) rfl (fun h12=>?_) (fun h12=>?_)
 ·
  replace h12:=zI h12;refine zE (zB (zC 1 rfl (zJ (zD [2] [_] rfl ?_))));refine qL (qQ rfl rfl fun w' hw=>?_)
  exact ⟨ret_b (by first | rfl | (simp_all;done)),hw.below⟩
 replace h12:=zG h12;refine qO (zD [0] [_] rfl ?_);refine zE (qF (qJ 1 rfl (jS (σ:=St×List UInt8) (ok:=fun (a,f)=>a.Tame∧f.length≤300) (v:=fun (a,f)=>.tuple #[vS a,str f]) (hs':=fun _=>[]) (xs:=[.tmp 14]) (vs:=[bv]) rfl rfl rfl rfl Tryd.call15 rfl (fun w1 hw1=>(drawDef_ok w.heap.size w [] bv L w1 (fun w2 hw2=>Row.own hbv hw2) hL8 (by omega) hw1).mono fun en w' ⟨a,f,h1,h2,h3⟩=>⟨(a,f),h1,h2,h3⟩) fun ⟨a15,f15⟩ hK=>?_)))
 dsimp only at hK
 obtain ⟨hta15,hlf15⟩:=hK
 have hsa15:=hta15.small
 have loa15:=hta15.lo
 have hia15:=hta15.hi
 show Ll _ _ (Own _ _ []) _ _ ((15,.tuple #[vS a15,str f15])::_) _ _ _;refine qJ 1 rfl (zS (v:=vS a15) rfl rfl rfl (qY rfl rfl rfl) ?_);refine zS (v:=str f15) rfl rfl rfl (qY rfl rfl rfl) ?_;refine vK rfl rfl rfl rfl jD fun p3 hp3=>?_
 show Ll _ _ (Own _ _ [bk_ p3 #[i6_ 0,str ([]),str ([])] 24]) _ _ ((3,pt_ p3)::_) _ _ _;refine jI (cs':=#[i6_ a15.n,str a15.set,str a15.rel]) (hs':=[bk_ p3 #[i6_ a15.n,str a15.set,str a15.rel] 24]) 0 rfl rfl rfl rfl rfl (by kernel_rfl:_=some Tryd.t24) rfl rfl rfl rfl rfl ?_;refine qJ 1 rfl (zM (zD [3,4] [_,_] rfl ?_));refine zE (qF (zS rfl rfl rfl (qX (cs:=#[i6_ a15.n,str a15.set,str a15.rel]) 0 rfl qW rfl rfl qU) ?_));refine qJ 1 rfl (jL (ok:=fun ((v,new):Value×List (Nat×Obj))=>∀ w1,Own w.heap.size w new w1→Ints w1 v ((defO a15 f15).1)) (v:=fun ((v,new):Value×List (Nat×Obj))=>.tuple #[v,.bool (defO a15 f15).2]) (new:=fun ((v,new):Value×List (Nat×Obj))=>new) (hs:=[]) (xs:=[.tmp 19,.tmp 20]) (vs:=[vS a15,str f15]) ([bk_ p3 #[i6_ a15.n,str a15.set,str a15.rel] 24]:List (Nat×Obj)) rfl rfl rfl rfl Tryd.call16 rfl (fun w1 hw1=>(iDef_ok a15 f15 w.heap.size w (([bk_ p3 #[i6_ a15.n,str a15.set,str a15.rel] 24]:List (Nat×Obj))++([])) w1 hsa15 hw1).mono fun en w' ⟨v,new,h1,h2,h3⟩=>⟨(v,new),h1,h2,h3⟩) fun ⟨v21,new21⟩ hIv21=>?_)
 dsimp only at hIv21
 have hlev21:=defO_8 a15 f15
 show Ll _ _ (Own _ _ (_::(new21++([])))) _ _ ((21,.tuple #[v21,bo_ ((defO a15 f15).2)])::_) _ _ _;refine qJ 1 rfl (zS (v:=v21) rfl rfl rfl (qY rfl rfl rfl) ?_);refine zS (v:=bo_ ((defO a15 f15).2)) rfl rfl rfl (qY rfl rfl rfl) ?_;refine qJ 2 rfl (zM (zD [3,4,5,6] [_,_,_,_] rfl ?_));refine zE (qF (zS rfl rfl rfl (qX (cs:=#[i6_ a15.n,str a15.set,str a15.rel]) 0 rfl qW rfl rfl qU) ?_));refine qJ 1 rfl (jL (ok:=fun ((v,new):Value×List (Nat×Obj))=>∀ w1,Own w.heap.size w new w1→Ints w1 v ((defO a15 f15).1)) (v:=fun ((v,new):Value×List (Nat×Obj))=>.tuple #[v,.bool (defO a15 f15).2]) (new:=fun ((v,new):Value×List (Nat×Obj))=>new) (hs:=new21++([])) (xs:=[.tmp 25,.tmp 26]) (vs:=[vS a15,str f15]) ([bk_ p3 #[i6_ a15.n,str a15.set,str a15.rel] 24]:List (Nat×Obj)) rfl rfl rfl rfl Tryd.call17 rfl (fun w1 hw1=>(sDef_ok a15 f15 w.heap.size w (([bk_ p3 #[i6_ a15.n,str a15.set,str a15.rel] 24]:List (Nat×Obj))++(new21++([]))) w1 hsa15 (by omega) hw1).mono fun en w' ⟨v,new,h1,h2,h3⟩=>⟨(v,new),h1,h2,h3⟩) fun ⟨v27,new27⟩ hIv27=>?_)
 dsimp only at hIv27
 have hlev27:=defO_8 a15 f15
 show Ll _ _ (Own _ _ (_::(new27++(new21++([]))))) _ _ ((27,.tuple #[v27,bo_ ((defO a15 f15).2)])::_) _ _ _;refine qJ 1 rfl (zS (v:=v27) rfl rfl rfl (qY rfl rfl rfl) ?_);refine zS (v:=bo_ ((defO a15 f15).2)) rfl rfl rfl (qY rfl rfl rfl) ?_;refine qJ 2 rfl (zM (zD [3,4,5,6,7,8] [_,_,_,_,_,_] rfl ?_));refine zE (zE (zB (zC 2 rfl (zN (v:=bo_ (((defO a15 f15).1)==((defO a15 f15).1))) rfl rfl rfl (qS rfl Tryd.call18 rfl qG (fun w1 hw1=>gsSame_ok v21 v27 ((defO a15 f15).1) ((defO a15 f15).1) w1 (hIv21 _ (yD (qA (f:=new27) (qA (f:=[_]) hw1)))) (hIv27 _ (yD (qA (f:=[_]) hw1))) (by omega) (by omega))) ?_))));refine zC 2 rfl (xG fun b34 hg34=>?_)
 cases b34
 ·
  replace hg34:=not_false hg34;refine zC 2 rfl (zN rfl rfl rfl (OpQ.bne rfl xU rfl rfl) ?_);refine zC 2 rfl (xG fun b39 hg39=>?_)
  cases b39
  ·
   refine zC 3 rfl (zJ (zD [3,4,5,6,7,8,42] [_,_,_,_,_,_,_] rfl ?_));refine qH (b:=!((defO a15 f15).2)) rfl (fun h42=>?_) (fun h42=>?_)
   ·
    replace h42:=not_true h42;refine zE (zB (zC 2 rfl (zN (v:=bo_ (((defO a15 f15).1)==((defO a15 f15).1))) rfl rfl rfl (qS rfl Tryd.call18 rfl qG (fun w1 hw1=>gsSame_ok v21 v27 ((defO a15 f15).1) ((defO a15 f15).1) w1 (hIv21 _ (yD (qA (f:=new27) (qA (f:=[_]) hw1)))) (hIv27 _ (yD (qA (f:=[_]) hw1))) (by omega) (by omega))) ?_)));refine zC 1 rfl (xG fun b46 hg46=>?_)
    cases b46
    ·
     exact absurd hg46 (by simp)
    refine zC 2 rfl (zN rfl rfl rfl (OpQ.beq rfl xU rfl rfl) ?_);refine zC 2 rfl (zJ (zD [2] [_] rfl ?_));refine qL (qQ rfl rfl fun w' hw=>?_)
    exact ⟨ret_b (by first | rfl | (simp_all;done)),hw.below⟩
   replace h42:=not_false h42
   have hD:(defO a15 f15).2=true:=by simp_all
   obtain ⟨hq1,hq2,hq3,hq4⟩:=def_closed hD
   have hqn:=validB_fine hq1
   have hqn1:=hqn.lo
   have hqn8:=hqn.hi;refine qO (zD [3,4,5] [_,_,_] rfl ?_);refine zE (zE (zB (zC 1 rfl (zJ (zD [3,4,5,9] [_,_,_,_] rfl ?_)))));refine yA (jG (σ:=Nat) (fun x=>(x:Int)≤a15.n) (fun x=>[(3,pt_ p3),(4,str f15),(5,v21),(9,i6_ ((x:Int)))]) (fun x=>Own w.heap.size w (bk_ p3 #[i6_ a15.n,str a15.set,str a15.rel] 24::(new27++(new21++([]))))) (fun x=>(a15.n - x).toNat) (0) (by omega) (Sub.sel [3,4,5,9] rfl) (fun _ h=>h) ?_)
   rintro x hx9;refine zE (zE (zB (zC 1 rfl (zN rfl rfl rfl (zH rfl qC rfl zK rfl rfl) ?_))));refine zN rfl rfl rfl (zR 0 rfl zU rfl rfl rfl) ?_;refine zC 1 rfl (zJ (zD [3,4,5,9,54] [_,_,_,_,_] rfl ?_));refine qH (b:=decide (((x:Int))<a15.n)) rfl (fun h54=>?_) (fun h54=>?_)
   ·
    replace h54:=zI h54;refine qO (zD [3,4,5,9] [_,_,_,_] rfl ?_);refine zE (yA (zE (Wk.regionV (S:=Own w.heap.size w (bk_ p3 #[i6_ a15.n,str a15.set,str a15.rel] 24::(new27++(new21++([]))))) lawFnDef_o11_2x yG (fun _ h=>h.drawn) (ovOk_at (by kernel_rfl) (by kernel_rfl) (by kernel_rfl) (by kernel_rfl) lawFnDef_o11_2x_c) ?_)));refine Lv.share (σ:=Nat) lawFnDef_o11_3x (fun p63=>True) (fun p63=>[(3,pt_ p3),(4,str f15),(5,v21),(9,i6_ ((x:Int))),(65,bo_ ((decide (((x:Int))∈(defO a15 f15).1)) != (holdV a15 f15 ([(x:Int)]))))]) (fun p63=>Own w.heap.size w (bk_ p63 #[i6_ ((x:Int))] 3::bk_ p3 #[i6_ a15.n,str a15.set,str a15.rel] 24::(new27++(new21++([]))))) ?_ fun H11_=>?_
    ·
     rintro p63 -;refine Lv.nil ?_;refine zD [3,4,5,9,65] [_,_,_,_,_] rfl ?_;refine qH (b:=(decide (((x:Int))∈(defO a15 f15).1)) != (holdV a15 f15 ([(x:Int)]))) rfl (fun h65=>?_) (fun h65=>?_)
     ·
      exact absurd h65 (by rw [def_has hD (x:=x) (by omega)];simp)
     refine qO (zD [3,4,5,9] [_,_,_,_] rfl ?_);refine zB (zC 1 rfl (zN rfl rfl rfl (qT rfl rfl rfl (by omega) (by omega)) ?_));refine zC 1 rfl (zJ (yY (x+1) (by omega) (by omega) (Sub.sel [3,4,5,9] rfl) (fun _ h=>h.tail)))
    refine Lv.run 2 rfl (fun _ h=>h) ?_;refine Lv.take rfl rfl rfl rfl rfl (qX (cs:=#[i6_ a15.n,str a15.set,str a15.rel]) 0 rfl qW rfl rfl qU) (fun _ h=>h) ?_;refine Lv.run 2 rfl (fun _ h=>h) ?_;refine Lv.alt rfl ?_ (Lv.loud rfl ?_)
    ·
     refine zS (v:=bo_ (decide (((x:Int))∈(defO a15 f15).1))) rfl rfl rfl (qS rfl Tryd.call19 rfl qG (fun w1 hw1=>gsHas_ok v21 ((defO a15 f15).1) ((x:Int)) w1 (hIv21 _ (yD (qA (f:=new27) (qA (f:=[_]) hw1)))) (by omega))) ?_;refine zM (Lv.joint (fun _ h=>h) ?_);refine Lv.loud rfl ?_;refine yS (xs:=[.tmp 62]) (vs:=[i6_ ((x:Int))]) xK rfl rfl rfl rfl rfl rfl (by decide) rfl fun p63 hp63=>?_;refine zM (Lv.joint (fun _ h=>h.tail) ?_);refine Lv.loud rfl ?_;refine zS (v:=bo_ (holdV a15 f15 ([(x:Int)]))) rfl rfl rfl (qS rfl Tryd.call20 rfl qG (fun w1 hw1=>gsHolds_ok a15 f15 (sl_ p63 1 1) ([(x:Int)]) w1 hsa15 (xQ hw1 (i:=0) rfl (n:=1) (cap:=1) (vs:=ints [(x:Int)]) rfl rfl (by decide)) (by first | (simp;done) | omega))) ?_;refine zM (Lv.joint (fun _ h=>h.tail) ?_);refine Lv.take rfl rfl rfl rfl rfl (OpQ.bne rfl xU rfl rfl) (fun _ h=>h.tail) ?_
     exact Lv.to (H11_ p63 trivial) (Sub.sel [3,4,5,9,65] rfl) (fun _ h=>h)
    refine yS (xs:=[.tmp 62]) (vs:=[i6_ ((x:Int))]) xK rfl rfl rfl rfl rfl rfl (by decide) rfl fun p63_1 hp63_1=>?_;refine zM (Lv.joint (fun _ h=>h.tail) ?_);refine Lv.loud rfl ?_;refine zS (v:=bo_ (decide (((x:Int))∈(defO a15 f15).1))) rfl rfl rfl (qS rfl Tryd.call19 rfl qG (fun w1 hw1=>gsHas_ok v21 ((defO a15 f15).1) ((x:Int)) w1 (hIv21 _ (yD (qA (f:=new27) (qA (f:=[_,_]) hw1)))) (by omega))) ?_;refine zM (Lv.joint (fun _ h=>h.tail) ?_);refine Lv.loud rfl ?_;refine zS (v:=bo_ (holdV a15 f15 ([(x:Int)]))) rfl rfl rfl (qS rfl Tryd.call20 rfl qG (fun w1 hw1=>gsHolds_ok a15 f15 (sl_ p63_1 1 1) ([(x:Int)]) w1 hsa15 (xQ hw1 (i:=0) rfl (n:=1) (cap:=1) (vs:=ints [(x:Int)]) rfl rfl (by decide)) (by first | (simp;done) | omega))) ?_;refine zM (Lv.joint (fun _ h=>h.tail) ?_);refine Lv.take rfl rfl rfl rfl rfl (OpQ.bne rfl xU rfl rfl) (fun _ h=>h.tail) ?_
    exact Lv.to (H11_ p63_1 trivial) (Sub.sel [3,4,5,9,65] rfl) (fun _ h=>h)
   replace h54:=zG h54;refine xA rfl ?_;refine zD [3,4,5] [_,_,_] rfl ?_;refine zE (zB (zN rfl rfl rfl (qX (cs:=#[i6_ a15.n,str a15.set,str a15.rel]) 0 rfl qW rfl rfl qU) ?_));refine zC 1 rfl (zN (v:=bo_ true) rfl rfl rfl (qS rfl Tryd.call21 rfl qG (fun w1 hw1=>isDef_ok a15 v21 ((defO a15 f15).1) w1 (hIv21 _ (yD (qA (f:=new27) (qA (f:=[_]) hw1)))) (by omega) hq1 hq2 hq3 hq4)) ?_);refine zC 1 rfl (zN rfl rfl rfl (qX (cs:=#[i6_ a15.n,str a15.set,str a15.rel]) 0 rfl qW rfl rfl qU) ?_);refine zC 1 rfl (zN (v:=i6_ (cntO a15 f15)) rfl rfl rfl (qS rfl Tryd.call22 rfl qG (fun w1 hw1=>iCount_ok a15 f15 w1 hsa15)) ?_);refine zC 1 rfl (zN (v:=i6_ (((defO a15 f15).1.length:Int))) rfl rfl rfl (xO rfl yB rfl (ints_length _) (fun w1 hw1=>hIv21 _ (yD (qA (f:=new27) (qA (f:=[_]) hw1))))) ?_);refine zC 3 rfl (zJ (zD [2] [_] rfl ?_));refine qL (qQ rfl rfl fun w' hw=>?_)
   exact ⟨ret_b (by first | rfl | exact decide_eq_true (def_cnt hD) | (rw [def_cnt hD];simp) | (simp_all;done)),hw.below⟩
  exact absurd hg39 (by simp)
 replace hg34:=not_true hg34
 exact absurd hg34 (by simp)
end Go.Proofs.YtefiibghfgfdnaaDoor
namespace Go.Proofs.YtefiibghfgfdnaaDoor
open Go.ChangeShapes Go.WideShapes Go.ChangeAt Go.RowKit Go.Wk
namespace FnDefinedSet
def W0:Array Value:=#[.slice none 0 0]
set_option maxRecDepth 100000 in
theorem contract (H:Type) (enc:TypeId×Value→H) (W:World) (base:Nat) (args:Array Value) (ds gs:List (DataW H)) (before:List MemPlace)
    (hval:∀ (j:Nat) t v,Tryd.f4.params[j]?=some t→args[j]?=some v→Value.okWide Tryd.prog W .any base t v)
    (hW:DataW.Whole enc Tryd.prog Tryd.f4.params.toList Rows.fnDefinedSetSpec.vars false W args.toList ds gs before) :
    Calls Tryd.prog 4 args W fun e W'=>∃ v,e=.returned v∧Rows.fnDefinedSetSpec.post enc Tryd.prog Tryd.f4 false true false false W args v W':=by
  have hW':=hW
  obtain ⟨p,q,hA0,hV,rfl,hfz,hnd⟩:=hW
  have hA:DataW.TrodAll enc Tryd.prog W 0 (fun _=>true) true Tryd.f4.params.toList args.toList ds p:=hA0
  rw [Tryd.params4] at hA hval
  obtain ⟨v0,vs0,d0,ds0,p0,q0,hargs0,rfl,rfl,h0,r0⟩:=trodAll_cons hA
  obtain ⟨rfl,rfl,rfl⟩:=trodAll_nil r0
  obtain rfl:args=#[v0]:=by cases args;simp_all
  obtain ⟨l0,row0,eight0,len0⟩:=open_B Tryd.underlying22 Tryd.underlying5 (by kernel_rfl) (hval 0 22 v0 rfl rfl) h0
  have walk:Calls Tryd.prog 4 #[v0] W fun e w'=>e=.returned (.bool true)∧Below W.heap.size W w':=by
    exact lawFnDef v0 l0 W row0 eight0 len0
  refine walk.mono fun e W' ⟨he,hb⟩=>⟨_,he,?_⟩
  exact post_true laidOut (by rw [Tryd.params4];intro t ht;simp only [List.mem_cons,List.not_mem_nil,or_false] at ht;rcases ht with rfl <;> exact ⟨by kernel_rfl,of_decide_eq_true (by kernel_rfl)⟩) rfl hW' rfl (by kernel_rfl) Tryd.underlying4 hb
theorem reads (os:Os) {H:Type} (enc:TypeId×Value→H):∃ places,DataW.whole enc Tryd.prog ((laidWorld os).forCall (fun _ _=>0) ⟨#[],W0,[]⟩).memory Tryd.f4.params.toList Rows.fnDefinedSetSpec.vars false W0.toList 8=some ([.nil],[],places) :=
  ⟨[],by kernel_rfl⟩
set_option maxRecDepth 100000 in
theorem lifted (os:Os) (started:os.Started) (H:Type) (enc:TypeId×Value→H) (F:Stop.Interp) :
    ReturnsInHanded {} Tryd.checked os 4 .any ((OpenSpec.ofChange Rows.fnDefinedSetSpec).preRow enc Tryd.prog Tryd.f4 Rows.fnDefinedSetRow.domain false Rows.fnDefinedSetRow.laid) (((OpenSpec.ofChange Rows.fnDefinedSetSpec).at F).post enc Tryd.prog Tryd.f4 false true false false):=by
  obtain ⟨places,hx⟩:=reads os enc
  refine returnsInHanded_of_row (C:=Tryd.checked) (s:=OpenSpec.ofChange Rows.fnDefinedSetSpec) own started (by kernel_rfl) Tryd.func4
    (witness_row_at (enc:=enc) (C:=Tryd.checked) false (laidWorld os) W0 rfl (by kernel_rfl) (by kernel_rfl) (by kernel_rfl)
      (OpenSpec.preRow_of_cond 8 hx (by kernel_rfl) (fun k hk=>by cases hk) (by kernel_rfl) (laid_met os W0))) ?_
  intro W base args ds gs before hval hW _ _ _ hL _ _
  exact contract H enc W base args ds gs before hval hW
theorem k0:(Rows.fnDefinedSetRow.wf (OpenSpec.ofChange (OpenSpec.ofChange Rows.fnDefinedSetSpec).bare))=true:=by kernel_rfl
theorem k3:(Tryd.f4.params.all (Tryd.pinned.checked.prog.readableRec ·))=true:=by kernel_rfl
theorem k4:(namedTie Tryd.pinned.checked.prog Rows.fnDefinedSetRow.named (OpenSpec.ofChange Rows.fnDefinedSetSpec).bare.vars)=true:=by kernel_rfl
theorem k9:((Rows.fnDefinedSetRow.inPlace==Tryd.pinned.checked.prog.inPlace 4))=true:=by kernel_rfl
theorem k10:((Rows.fnDefinedSetRow.unfollowed==Tryd.pinned.checked.prog.unfollowed 4))=true:=by kernel_rfl
theorem k11:((Rows.fnDefinedSetRow.recurses==Tryd.pinned.checked.prog.recurses 4))=true:=by kernel_rfl
theorem k12:((Rows.fnDefinedSetRow.named==Tryd.pinned.checked.prog.varsNamed 4))=true:=by kernel_rfl
theorem k13:((Rows.fnDefinedSetRow.maps==(Tryd.f4.params.toList++(OpenSpec.ofChange Rows.fnDefinedSetSpec).bare.plain.varTypes Tryd.pinned.checked.prog).any (Tryd.pinned.checked.prog.mapsRec ·)))=true:=by kernel_rfl
theorem k14:((Rows.fnDefinedSetRow.ifaces==(Tryd.f4.params.toList++(OpenSpec.ofChange Rows.fnDefinedSetSpec).bare.plain.varTypes Tryd.pinned.checked.prog).any (Tryd.pinned.checked.prog.ifacesRec ·)))=true:=by kernel_rfl
theorem k15:((Rows.fnDefinedSetRow.mapsOut==Tryd.pinned.checked.prog.mapsAmong Tryd.f4.resultTypes.toList))=true:=by kernel_rfl
theorem k16:((Rows.fnDefinedSetRow.loops==(Tryd.f4.params.toList++(OpenSpec.ofChange Rows.fnDefinedSetSpec).bare.plain.varTypes Tryd.pinned.checked.prog).any (Tryd.pinned.checked.prog.loopsFrom ·)))=true:=by kernel_rfl
theorem k17:((Rows.fnDefinedSetRow.wideKeys==(Tryd.f4.params.toList++(OpenSpec.ofChange Rows.fnDefinedSetSpec).bare.plain.varTypes Tryd.pinned.checked.prog++Tryd.f4.resultTypes.toList).any (Tryd.pinned.checked.prog.wideKeysFrom ·)))=true:=by kernel_rfl
theorem k19:(Tryd.f4.resultTypes.all (fun t=>Tryd.pinned.checked.prog.readableRec t&&decide (t<Tryd.pinned.checked.prog.types.size)))=true:=by kernel_rfl
theorem k20:((Rows.fnDefinedSetRow.ifacesOut==Tryd.f4.resultTypes.toList.any (Tryd.pinned.checked.prog.ifacesRec ·)))=true:=by kernel_rfl
theorem k21:((Rows.fnDefinedSetRow.loopsOut==Tryd.f4.resultTypes.toList.any (Tryd.pinned.checked.prog.loopsFrom ·)))=true:=by kernel_rfl
theorem k30:((Rows.fnDefinedSetRow.veiled==(Tryd.f4.params.toList++(OpenSpec.ofChange Rows.fnDefinedSetSpec).bare.plain.varTypes Tryd.pinned.checked.prog++Tryd.f4.resultTypes.toList).any (Tryd.pinned.checked.prog.veiledRec ·)))=true:=by kernel_rfl
theorem k31:(Rows.fnDefinedSetRow.veiledFits Tryd.pinned.checked.prog Tryd.f4.params.toList (Tryd.f4.params.toList++(OpenSpec.ofChange Rows.fnDefinedSetSpec).bare.plain.varTypes Tryd.pinned.checked.prog++Tryd.f4.resultTypes.toList))=true:=by kernel_rfl
theorem closed:joinedFacts Tryd.pinned.checked.prog 4 Tryd.f4 (OpenSpec.ofChange Rows.fnDefinedSetSpec).bare Rows.fnDefinedSetRow=true :=
  facts_of k0 Laid1 Laid2 k3 k4 (by kernel_rfl) Laid6 (by kernel_rfl) Laid8 k9 k10 k11 k12 k13 k14 k15 k16 k17 (by kernel_rfl) k19 k20 k21 Laid22 (by kernel_rfl) Laid24 Laid25 Laid26 Laid27 (by kernel_rfl) (by kernel_rfl) k30 k31
theorem said:Rows.FnDefinedSetSaid :=
  OpenClaim.holds_of_cond 4 Tryd.f4 rfl rfl rfl rfl rfl rfl rfl ⟨rfl,rfl,rfl,rfl,rfl⟩ rfl rfl rfl rfl rfl (by kernel_rfl) Tryd.func4 closed
    (of_decide_eq_true (by kernel_rfl)) (by unfold Func.isWrapper;first | (rw [if_pos (by decide +kernel)];kernel_rfl) | (rw [if_neg (by decide +kernel)];exact ⟨rfl,rfl⟩))
    (fun os started H enc _ F=>by rw [OpenClaim.pre_eq_preRow];exact lifted os started H enc F)
theorem plain (f:FuncId) (fn:Func) (hf:Tryd.pinned.checked.prog.funcNamed Rows.fnDefinedSetRow.func=some f) (hfn:Tryd.pinned.checked.prog.funcs[f]?=some fn) :
    false=Tryd.pinned.checked.prog.looks []∧∀ (j:Nat) t,fn.params[j]?=some t→Tryd.pinned.checked.prog.wantsStandIn t=false:=by
  obtain rfl:f=4:=Option.some.inj ((show Tryd.pinned.checked.prog.funcNamed Rows.fnDefinedSetRow.func=some 4 by kernel_rfl).symm.trans hf) |>.symm
  obtain rfl:fn=Tryd.f4:=(Option.some.inj (Tryd.func4.symm.trans hfn)).symm
  refine ⟨by kernel_rfl,fun j t ht=>?_⟩
  rw [Tryd.params4] at ht
  have hm:t∈[22]:=by simpa using Array.mem_of_getElem? ht
  simp only [List.mem_cons,List.not_mem_nil,or_false] at hm
  rcases hm with rfl <;> (show Tryd.prog.wantsStandIn _=false) <;> kernel_rfl
theorem hw:Rows.fnDefinedSetRow.wfByText (OpenSpec.ofChange Rows.fnDefinedSetSpec)=true:=by kernel_rfl
theorem hm:Tryd.pinned.checked.prog.mainIs=some (Rows.fnDefinedSetCard.stood.harness.1,Rows.fnDefinedSetCard.stood.harness.2.toList):=by kernel_rfl
theorem hg:false=Rows.fnDefinedSetRow.goesBy Tryd.pinned.checked.prog:=by kernel_rfl
end FnDefinedSet
theorem cardFnDefinedSet:Rows.FnDefinedSetCardSaid :=
  Claim7.holds_tied_plain_at .later [] _ _ _ _ FnDefinedSet.said (fun _ h=>by cases h) FnDefinedSet.hw (fun _ h=>by cases h) fnDefinedSet_row_tie rfl ⟨rfl,rfl⟩ FnDefinedSet.hm rfl FnDefinedSet.plain FnDefinedSet.hg
end Go.Proofs.YtefiibghfgfdnaaDoor
