/-
  FnSpread: all that its proof names (part 4)
-/
import Derived.Test.YtefiibghfgfdnaaDoorKFnSpreadc
import Derived.Test.YtefiibghfgfdnaaDoorKFnSpreadb
import Derived.Test.YtefiibghfgfdnaaDoorKFnSpreada
namespace Go.Proofs.YtefiibghfgfdnaaDoor
open Go.RowKit Go.Wk
set_option linter.unusedSimpArgs false
set_option maxHeartbeats 400000 in
theorem at_ok (en4:List Int) (vs:List UInt8) (p4 p5 p:Nat) (c:UInt8) (vv x2 x3 x4:Value) (k:Nat) (w:World) (h4:w.heap[p4]?=some (.cells #[ptrV p] 80 (0,0))) (h5:w.heap[p5]?=some (.cells (ints en4).toArray 91 (0,0))) (hN:w.heap[p]?=some (.cells #[u8V c,vv,x2,x3,x4] 84 (0,0))) (hv:Row w vv (vs.map u8V)) (hk:k<vs.length) (hV:isV (vs.getD k 0)=true) (hE:en4.length=4) :
    Calls Tryd.prog 198 [i6_ (k:Int),.pointer (some ⟨p5,0,none⟩),.pointer (some ⟨p4,0,none⟩)].toArray w fun en w'=>en=.returned (.int .i64 (en4.getD (vI (vs.getD k 0)) 0))∧Below w.heap.size w w':=by
 refine fnStart (n:=15) (e:=[(0,i6_ (k:Int)),(1,.pointer (some ⟨p5,0,none⟩)),(2,.pointer (some ⟨p4,0,none⟩))]) Tryd.func198 Z Z Z Z Ends.both ?_
 have hv4:=(vI_lt hV).1;refine zH (zC (zK 1 Z (zN (zI [0,1,2] [_,_,_] Z (zH (zC (zM (v:=.pointer (some ⟨p,0,none⟩)) Z (qG Z yU Z (fun w1 hw1=>at_box h4 hw1 0 Z)) (zM (v:=.pointer (some ⟨p,0,none⟩)) Z (zL Z Z) (zM Z (zD Z zB Z qL Z Z) (zM (v:=vv) Z (qG Z yN Z (fun w1 hw1=>at_box hN hw1 1 Z)) (zK 1 Z (zM (v:=.pointer (some (sAt vv (k:Int)))) Z (xX Z yD yY Z Z (by omega) (by rw [List.length_map];omega) (fun w1 hw1=>hv.own hw1)) (zM (v:=.int .u8 ((vs.getD k 0).toNat:Int)) Z (qG Z yV Z (fun w1 hw1=>Row.u8 (hv.own hw1) (by omega) (by omega))) (zM (v:=.int .u8 (vI (vs.getD k 0):Int)) Z (yH (by rw [vI_wrap hV]) (xY Z Z Z)) (zM (v:=.pointer (some (⟨p5,vI (vs.getD k 0),none⟩))) Z (yH (v':=.pointer (some ⟨p5,vI (vs.getD k 0),none⟩)) (by rfl) (OpQ.indexArr (i:=(vI (vs.getD k 0):Int)) Z Tryd.runUnderlying91 zE Z Z (by omega) (by omega))) (zM (v:=i6_ (en4.getD (vI (vs.getD k 0)) 0)) Z (qG Z zT Z (fun w1 hw1=>at_box h5 hw1 (vI (vs.getD k 0)) ((List.getElem?_toArray ..).trans (ints_at2 (c:=en4) (by omega))))) ?_))))))))))))))));refine zK 1 Z (zN (zI [4] [_] Z (qN (qS Z Z fun w' hw=>?_))))
 exact ⟨rfl,hw.below⟩
def IsT (f:Nat) (a:St) (fm:Fm):Prop:=∀ (B:Nat) (w0:World) (hs ts:List (Nat×Obj)) (h M:Nat) (K:Memo) (p:Nat) (en4:List Int) (w:World),(∀ x∈ts,x∈hs)→TreeB 84 ts fm p→EnvA a en4→MemoOk 84 a ts K→Own B w0 (memoF 143 h M a K hs) w →
    Calls Tryd.prog f #[.pointer (some ⟨h,0,none⟩),ptrV p,.agg (ints en4).toArray] w fun en w'=>∃ K',en=.returned (.bool (ev a fm en4))∧MemoOk 84 a ts K'∧Own B w0 (memoF 143 h M a K' hs) w'
set_option maxHeartbeats 1600000 in
theorem decide_step (a:St) (fm:Fm) (ha:a.Fine) (hwf:wfF fm) (ih:∀ fm2:Fm,szF fm2<szF fm→wfF fm2→IsT 119 a fm2) (B:Nat) (w0:World) (hs ts:List (Nat×Obj)) (h M:Nat) (K:Memo) (p:Nat) (en4:List Int) (w:World) (hts:∀ x∈ts,x∈hs) (hT:TreeB 84 ts fm p) (hE:EnvA a en4) (hK:MemoOk 84 a ts K) (hw:Own B w0 (memoF 143 h M a K hs) w) :
    Calls Tryd.prog 168 [pt_ h,ptrV p,.agg ((ints en4).toArray)].toArray w fun en w'=>∃ K',en=.returned (.bool (ev a fm en4))∧MemoOk 84 a ts K'∧Own B w0 (memoF 143 h M a K' hs) w':=by
 refine fnStartC (Own B w0 (bk_ h #[i6_ a.n,str a.set,str a.rel,.map (some M)] 143::((M,mapP (memoK K))::(memoB K++hs)))) (n:=156) (e:=[(0,pt_ h),(1,ptrV p),(2,.agg ((ints en4).toArray))]) Tryd.func168 Z Z Z Z Ends.both hw (zH (qC (jH (v:=ptrV p) Z Z Z Z Z fun p4 hp4=>?_)))
 show Ll _ _ (Own _ _ (_::_::(((M,mapP (memoK K))::(memoB K++hs))))) _ _ ((4,pt_ p4)::_) _ _ _;refine jH (v:=.agg ((ints en4).toArray)) Z Z Z Z Z fun p5 hp5=>?_
 show Ll _ _ (Own _ _ (_::_::_::(((M,mapP (memoK K))::(memoB K++hs))))) _ _ ((5,pt_ p5)::_) _ _ _;refine qD 1 Z (zG (zI [0,4,5] [_,_,_] Z (zH (zC (zM (v:=.func (.func 198) #[] #[pt_ p5,pt_ p4]) Z (OpQ.func' (cap:=[.tmp 5,.tmp 4]) Z Z) (zK 1 Z (zN (zI [0,4,5,7] [_,_,_,_] Z (zH (zH ?_))))))))))
 have hE4:=hE.1
 have ha1:=ha.lo
 have ha8:=ha.hi
 rcases fm_by hwf with ⟨c,rfl,hc⟩ | ⟨c,v,rfl,hc,hv_v⟩ | ⟨c,v,u,rfl,hc,hv_v,hv_u⟩ | ⟨c,q,rfl,hc⟩ | ⟨c,v,q,rfl,hc,hv_v⟩ | ⟨c,q,r,rfl,hc⟩
 ·
  obtain ⟨vv,pv,hm0,hR10,hR20⟩:=hT
  have hm:=hts _ hm0
  have hR1:=hR10.more hts
  have hR2:=hR20.more hts;refine zC (zM Z (zO 1 Z yU Z Z Z) (zM (v:=ptrV p) Z (zL Z Z) (zM Z (zD Z zB Z yY Z Z) (zM (v:=.int .u8 (c.toNat:Int)) Z (qG Z yV Z (fun w1 hw1=>cell_of ((jF (zW (f:=[_,_,_]) (zY (f:=[_,_,_]) hw1)) hm).2) Z)) (zN (zI [0,4,5,7,14] [_,_,_,_,_] Z (qU (zH (zC (zK 2 Z (zN (zI [0,4,5,7,14,15] [_,_,_,_,_,_] Z (xN Z (fun h15=>?_) (fun h15=>?_))))))))))))))
  ·
   refine zH (zC (zK 1 Z (zN (zI [6] [_] Z (qN (qS Z Z fun w' hw=>?_))))))
   exact ⟨K,ret_b (ev116 h15),hK,zW (f:=[_,_]) hw⟩
  refine zH (zC (zK 2 Z (zN (zI [0,4,5,7,14,17] [_,_,_,_,_,_] Z (qW (b:=decide ((c.toNat:Int)=(102:Int))) Z (fun h17=>?_) (fun h17=>?_))))))
  ·
   replace h17:=zV h17;refine zH (zC (zK 1 Z (zN (zI [6] [_] Z (qN (qS Z Z fun w' hw=>?_))))))
   exact ⟨K,ret_b (ev102 h17),hK,zW (f:=[_,_]) hw⟩
  replace h17:=zU h17
  exfalso;omega
 ·
  obtain ⟨vv,pv,hm0,hR10,hR20⟩:=hT
  have hm:=hts _ hm0
  have hR1:=hR10.more hts
  have hR2:=hR20.more hts
  have hwv:=(vI_lt hv_v).1
  have hx1:=hE.at hwv;refine zC (zM Z (zO 1 Z yU Z Z Z) (zM (v:=ptrV p) Z (zL Z Z) (zM Z (zD Z zB Z yY Z Z) (zM (v:=.int .u8 (c.toNat:Int)) Z (qG Z yV Z (fun w1 hw1=>cell_of ((jF (zW (f:=[_,_,_]) (zY (f:=[_,_,_]) hw1)) hm).2) Z)) (zN (zI [0,4,5,7,14] [_,_,_,_,_] Z (qU (zH (zC (zK 2 Z (zN (zI [0,4,5,7,14,15] [_,_,_,_,_,_] Z (qW (b:=decide ((c.toNat:Int)=(116:Int))) Z (fun h15_1=>?_) (fun h15_1=>?_))))))))))))))
  ·
   replace h15_1:=zV h15_1
   exfalso;omega
  replace h15_1:=zU h15_1;refine zH (zC (zK 2 Z (zN (zI [0,4,5,7,14,17] [_,_,_,_,_,_] Z (qW (b:=decide ((c.toNat:Int)=(102:Int))) Z (fun h17_1=>?_) (fun h17_1=>?_))))))
  ·
   replace h17_1:=zV h17_1
   exfalso;omega
  replace h17_1:=zU h17_1;refine zH (zC (zK 2 Z (zN (zI [0,4,5,7,14,19] [_,_,_,_,_,_] Z (qW (b:=decide ((c.toNat:Int)=(80:Int))) Z (fun h19=>?_) (fun h19=>?_))))))
  ·
   replace h19:=zV h19;refine zH (Wk.regionD yP (fun _ h=>h.drawn) (by kernel_rfl) (zK 1 Z (zM (v:=pt_ h) Z (zL Z Z) (zM Z (zD Z yI Z qJ Z Z) (zM (v:=vS a) Z (OpQ.loadHold (a:=a) 2 Z qO qJ Z Z) (zK 1 Z (zM (v:=i6_ (en4.getD (vI v) 0)) Z (OpQ.callFn Z Z Tryd.call198 Z qK (fun w1 hw1=>at_ok en4 [v] _ _ p c vv _ _ _ 0 w1 (hw1.has 1 _ _ Z).2 (hw1.has 0 _ _ Z).2 ((jF (zW (f:=[_,_,_]) (zY (f:=[_,_,_]) hw1)) hm).2) (RowB.row hR1 (zW (f:=[_,_,_]) (zY (f:=[_,_,_]) hw1))) (by simp) (by simpa using hv_v) hE.1)) (zM (v:=bo_ (a.inSet (en4.getD (vI v) 0))) Z (qX Z Tryd.call82 Z qK (fun w1 hw1=>inSet_ok a (en4.getD (vI v) 0) w1 ha (by first | assumption | exact St.Els.at (by assumption) (by omega) (by omega)))) (zK 1 Z (zN (zI [6] [_] Z (qN (qS Z Z fun w' hw=>?_)))))))))))))
   exact ⟨K,ret_b (ev80 hc),hK,zW (f:=[_,_]) hw⟩
  replace h19:=zU h19
  exfalso;omega
 ·
  obtain ⟨vv,pv,hm0,hR10,hR20⟩:=hT
  have hm:=hts _ hm0
  have hR1:=hR10.more hts
  have hR2:=hR20.more hts
  have hwv:=(vI_lt hv_v).1
  have hx1:=hE.at hwv
  have hwu:=(vI_lt hv_u).1
  have hx2:=hE.at hwu;refine zC (zM Z (zO 1 Z yU Z Z Z) (zM (v:=ptrV p) Z (zL Z Z) (zM Z (zD Z zB Z yY Z Z) (zM (v:=.int .u8 (c.toNat:Int)) Z (qG Z yV Z (fun w1 hw1=>cell_of ((jF (zW (f:=[_,_,_]) (zY (f:=[_,_,_]) hw1)) hm).2) Z)) (zN (zI [0,4,5,7,14] [_,_,_,_,_] Z (qU (zH (zC (zK 2 Z (zN (zI [0,4,5,7,14,15] [_,_,_,_,_,_] Z (qW (b:=decide ((c.toNat:Int)=(116:Int))) Z (fun h15_2=>?_) (fun h15_2=>?_))))))))))))))
  ·
   replace h15_2:=zV h15_2
   exfalso;omega
  replace h15_2:=zU h15_2;refine zH (zC (zK 2 Z (zN (zI [0,4,5,7,14,17] [_,_,_,_,_,_] Z (qW (b:=decide ((c.toNat:Int)=(102:Int))) Z (fun h17_2=>?_) (fun h17_2=>?_))))))
  ·
   replace h17_2:=zV h17_2
   exfalso;omega
  replace h17_2:=zU h17_2;refine zH (zC (zK 2 Z (zN (zI [0,4,5,7,14,19] [_,_,_,_,_,_] Z (qW (b:=decide ((c.toNat:Int)=(80:Int))) Z (fun h19_1=>?_) (fun h19_1=>?_))))))
  ·
   replace h19_1:=zV h19_1
   exfalso;omega
  replace h19_1:=zU h19_1;refine zH (zC (zK 2 Z (zN (zI [0,4,5,7,14,28] [_,_,_,_,_,_] Z (xN Z (fun h28=>?_) (fun h28=>?_))))))
  ·
   refine zH (zC (zK 1 Z (zM (v:=i6_ (en4.getD (vI v) 0)) Z (OpQ.callFn Z Z Tryd.call198 Z qK (fun w1 hw1=>at_ok en4 [v,u] _ _ p c vv _ _ _ 0 w1 (hw1.has 1 _ _ Z).2 (hw1.has 0 _ _ Z).2 ((jF (zW (f:=[_,_,_]) (zY (f:=[_,_,_]) hw1)) hm).2) (RowB.row hR1 (zW (f:=[_,_,_]) (zY (f:=[_,_,_]) hw1))) (by simp) (by simpa using hv_v) hE.1)) (zK 1 Z (zM (v:=i6_ (en4.getD (vI u) 0)) Z (OpQ.callFn Z Z Tryd.call198 Z qK (fun w1 hw1=>at_ok en4 [v,u] _ _ p c vv _ _ _ 1 w1 (hw1.has 1 _ _ Z).2 (hw1.has 0 _ _ Z).2 ((jF (zW (f:=[_,_,_]) (zY (f:=[_,_,_]) hw1)) hm).2) (RowB.row hR1 (zW (f:=[_,_,_]) (zY (f:=[_,_,_]) hw1))) (by simp) (by simpa using hv_u) hE.1)) (zK 2 Z (zN (zI [6] [_] Z (qN (qS Z Z fun w' hw=>?_))))))))))
   exact ⟨K,ret_b (ev_eq h28),hK,zW (f:=[_,_]) hw⟩
  refine zH (zC (zK 2 Z (zN (zI [0,4,5,7,14,35] [_,_,_,_,_,_] Z (qW (b:=decide ((c.toNat:Int)=(69:Int))) Z (fun h35=>?_) (fun h35=>?_))))))
  ·
   replace h35:=zV h35;refine zH (Wk.regionD yP (fun _ h=>h.drawn) (by kernel_rfl) (zK 1 Z (zM (v:=pt_ h) Z (zL Z Z) (zM Z (zD Z yI Z qJ Z Z) (zM (v:=vS a) Z (OpQ.loadHold (a:=a) 2 Z qO qJ Z Z) (zK 1 Z (zM (v:=i6_ (en4.getD (vI v) 0)) Z (OpQ.callFn Z Z Tryd.call198 Z qK (fun w1 hw1=>at_ok en4 [v,u] _ _ p c vv _ _ _ 0 w1 (hw1.has 1 _ _ Z).2 (hw1.has 0 _ _ Z).2 ((jF (zW (f:=[_,_,_]) (zY (f:=[_,_,_]) hw1)) hm).2) (RowB.row hR1 (zW (f:=[_,_,_]) (zY (f:=[_,_,_]) hw1))) (by simp) (by simpa using hv_v) hE.1)) (zK 1 Z (zM (v:=i6_ (en4.getD (vI u) 0)) Z (OpQ.callFn Z Z Tryd.call198 Z qK (fun w1 hw1=>at_ok en4 [v,u] _ _ p c vv _ _ _ 1 w1 (hw1.has 1 _ _ Z).2 (hw1.has 0 _ _ Z).2 ((jF (zW (f:=[_,_,_]) (zY (f:=[_,_,_]) hw1)) hm).2) (RowB.row hR1 (zW (f:=[_,_,_]) (zY (f:=[_,_,_]) hw1))) (by simp) (by simpa using hv_u) hE.1)) (zM (v:=bo_ (a.inRel (en4.getD (vI v) 0) (en4.getD (vI u) 0))) Z (qX Z Tryd.call83 Z qK (fun w1 hw1=>inRel_ok a (en4.getD (vI v) 0) (en4.getD (vI u) 0) w1 ha (by first | assumption | exact St.Els.at (by assumption) (by omega) (by omega)) (by first | assumption | exact St.Els.at (by assumption) (by omega) (by omega)))) (zK 1 Z (zN (zI [6] [_] Z (qN (qS Z Z fun w' hw=>?_)))))))))))))))
   exact ⟨K,ret_b (ev_rel h35),hK,zW (f:=[_,_]) hw⟩
  replace h35:=zU h35
  exfalso;omega
 ·
  obtain ⟨q1,⟨vv,pv,hm0,hR10,hR20⟩,hT1⟩:=hT
  have hm:=hts _ hm0
  have hR1:=hR10.more hts
  have hR2:=hR20.more hts;refine zC (zM Z (zO 1 Z yU Z Z Z) (zM (v:=ptrV p) Z (zL Z Z) (zM Z (zD Z zB Z yY Z Z) (zM (v:=.int .u8 (c.toNat:Int)) Z (qG Z yV Z (fun w1 hw1=>cell_of ((jF (zW (f:=[_,_,_]) (zY (f:=[_,_,_]) hw1)) hm).2) Z)) (zN (zI [0,4,5,7,14] [_,_,_,_,_] Z (qU (zH (zC (zK 2 Z (zN (zI [0,4,5,7,14,15] [_,_,_,_,_,_] Z (qW (b:=decide ((c.toNat:Int)=(116:Int))) Z (fun h15_3=>?_) (fun h15_3=>?_))))))))))))))
  ·
   replace h15_3:=zV h15_3
   exfalso;omega
  replace h15_3:=zU h15_3;refine zH (zC (zK 2 Z (zN (zI [0,4,5,7,14,17] [_,_,_,_,_,_] Z (qW (b:=decide ((c.toNat:Int)=(102:Int))) Z (fun h17_3=>?_) (fun h17_3=>?_))))))
  ·
   replace h17_3:=zV h17_3
   exfalso;omega
  replace h17_3:=zU h17_3;refine zH (zC (zK 2 Z (zN (zI [0,4,5,7,14,19] [_,_,_,_,_,_] Z (qW (b:=decide ((c.toNat:Int)=(80:Int))) Z (fun h19_2=>?_) (fun h19_2=>?_))))))
  ·
   replace h19_2:=zV h19_2
   exfalso;omega
  replace h19_2:=zU h19_2;refine zH (zC (zK 2 Z (zN (zI [0,4,5,7,14,28] [_,_,_,_,_,_] Z (qW (b:=decide ((c.toNat:Int)=(61:Int))) Z (fun h28_1=>?_) (fun h28_1=>?_))))))
  ·
   replace h28_1:=zV h28_1
   exfalso;omega
  replace h28_1:=zU h28_1;refine zH (zC (zK 2 Z (zN (zI [0,4,5,7,14,35] [_,_,_,_,_,_] Z (qW (b:=decide ((c.toNat:Int)=(69:Int))) Z (fun h35_1=>?_) (fun h35_1=>?_))))))
  ·
   replace h35_1:=zV h35_1
   exfalso;omega
  replace h35_1:=zU h35_1;refine zH (zC (zK 2 Z (zN (zI [0,4,5,14,46] [_,_,_,_,_] Z (qW (b:=decide ((c.toNat:Int)=(33:Int))) Z (fun h46=>?_) (fun h46=>?_))))))
  ·
   replace h46:=zV h46;refine zH (Wk.regionS (S:=Own B w0 (bk_ p5 ((ints en4).toArray) 91::bk_ p4 #[ptrV p] 80::bk_ h #[i6_ a.n,str a.set,str a.rel,.map (some M)] 143::hs)) [(0,true),(1,true),(7,true),(2,false),(3,true),(4,false),(5,true),(6,false),(8,false),(9,true),(10,true)] yP (fun _ h=>h.drawn) (by kernel_rfl) (vD 1 Z (fun _ h=>zY (f:=[_,_,_]) h) (yQ Z Z Z Z Z (zO 1 Z yU Z Z Z) (fun _ h=>zY (f:=[_,_,_]) h) (yQ Z Z Z Z Z (qR (cs:=(ints en4).toArray) 0 Z jK Z Z (by intro w;rw [show (ints en4).toArray.size=4 from by simp [hE4]];exact jC w)) (fun _ h=>zY (f:=[_,_,_]) h) (yR Z (zJ (v:=ptrV p) Z (zL Z Z) (zG (yL (fun _ h=>zY (f:=[_,_,_]) h) ?_))))))));refine yQ Z Z Z Z Z (zD Z zB Z xD Z Z) (fun _ h=>zY (f:=[_,_,_]) h) (yR Z (zJ (v:=pv) Z (qG Z jJ Z (fun w1 hw1=>cell_of ((jF (zW (f:=[_,_,_]) (zY (f:=[_,_,_]) hw1)) hm).2) Z)) (zG (yL (fun _ h=>zY (f:=[_,_,_]) h) ?_))));refine yQ (v:=.pointer (some (sAt pv 0))) Z Z Z Z Z (xX Z jE Tryd.sizeOf80 Z Z (by decide) (by simp) (fun w1 hw1=>RowB.row hR2 (zW (f:=[_,_,_]) hw1))) (fun _ h=>zY (f:=[_,_,_]) h) (yR Z (zJ (v:=ptrV q1) Z (qG Z yU Z (fun w1 hw1=>Row.cell (RowB.row hR2 (zW (f:=[_,_,_]) (zY (f:=[_,_,_]) hw1))) (by decide) (by simp))) (zG (yL (fun _ h=>zY (f:=[_,_,_]) h) ?_))));refine yR Z (jQ (ok:=fun K=>MemoOk 84 a ts K) (b:=ev a q en4) (xs:=[.tmp 48,.tmp 54,.tmp 55]) (vs:=[pt_ h,ptrV q1,.agg ((ints en4).toArray)]) ([bk_ p5 ((ints en4).toArray) 91,bk_ p4 #[ptrV p] 80]:List (Nat×Obj)) Z Z Z Z Tryd.call119 Z (fun w1 hw1=>ih q (by first | exact Nat.lt_succ_self _ | exact Nat.lt_succ_of_le (Nat.le_add_right _ _) | exact Nat.lt_succ_of_le (Nat.le_add_left _ _)) hwf.2.2.2.2 B w0 _ ts h M K q1 en4 w1 (fun x hx=>List.mem_append_right _ (hts x hx)) hT1 hE hK hw1) fun K1 hM1=>?_)
   show Ll _ _ (Own _ _ (_::_::_::(((M,mapP (memoK K1))::(memoB K1++hs))))) _ _ ((56,bo_ (ev a q en4))::_) _ _ _;refine zG (yL (fun _ h=>zY (f:=[_,_,_]) h) ?_);refine vD 2 Z (fun _ h=>zY (f:=[_,_,_]) h) (Ld.nil (zI [6] [_] Z (qN (qS Z Z fun w' hw=>?_))))
   exact ⟨K1,ret_b (ev33 hc),hM1,zW (f:=[_,_]) hw⟩
  replace h46:=zU h46
  exfalso;omega
 ·
  obtain ⟨q1,⟨vv,pv,hm0,hR10,hR20⟩,hT1⟩:=hT
  have hm:=hts _ hm0
  have hR1:=hR10.more hts
  have hR2:=hR20.more hts
  have hwv:=(vI_lt hv_v).1;refine zC (zM Z (zO 1 Z yU Z Z Z) (zM (v:=ptrV p) Z (zL Z Z) (zM Z (zD Z zB Z yY Z Z) (zM (v:=.int .u8 (c.toNat:Int)) Z (qG Z yV Z (fun w1 hw1=>cell_of ((jF (zW (f:=[_,_,_]) (zY (f:=[_,_,_]) hw1)) hm).2) Z)) (zN (zI [0,4,5,7,14] [_,_,_,_,_] Z (qU (zH (zC (zK 2 Z (zN (zI [0,4,5,7,14,15] [_,_,_,_,_,_] Z (qW (b:=decide ((c.toNat:Int)=(116:Int))) Z (fun h15_4=>?_) (fun h15_4=>?_))))))))))))))
  ·
   replace h15_4:=zV h15_4
   exfalso;unfold quI at *;omega
  replace h15_4:=zU h15_4;refine zH (zC (zK 2 Z (zN (zI [0,4,5,7,14,17] [_,_,_,_,_,_] Z (qW (b:=decide ((c.toNat:Int)=(102:Int))) Z (fun h17_4=>?_) (fun h17_4=>?_))))))
  ·
   replace h17_4:=zV h17_4
   exfalso;unfold quI at *;omega
  replace h17_4:=zU h17_4;refine zH (zC (zK 2 Z (zN (zI [0,4,5,7,14,19] [_,_,_,_,_,_] Z (qW (b:=decide ((c.toNat:Int)=(80:Int))) Z (fun h19_3=>?_) (fun h19_3=>?_))))))
  ·
   replace h19_3:=zV h19_3
   exfalso;unfold quI at *;omega
  replace h19_3:=zU h19_3;refine zH (zC (zK 2 Z (zN (zI [0,4,5,7,14,28] [_,_,_,_,_,_] Z (qW (b:=decide ((c.toNat:Int)=(61:Int))) Z (fun h28_2=>?_) (fun h28_2=>?_))))))
  ·
   replace h28_2:=zV h28_2
   exfalso;unfold quI at *;omega
  replace h28_2:=zU h28_2;refine zH (zC (zK 2 Z (zN (zI [0,4,5,7,14,35] [_,_,_,_,_,_] Z (qW (b:=decide ((c.toNat:Int)=(69:Int))) Z (fun h35_2=>?_) (fun h35_2=>?_))))))
  ·
   replace h35_2:=zV h35_2
   exfalso;unfold quI at *;omega
  replace h35_2:=zU h35_2;refine zH (zC (zK 2 Z (zN (zI [0,4,5,14,46] [_,_,_,_,_] Z (qW (b:=decide ((c.toNat:Int)=(33:Int))) Z (fun h46_1=>?_) (fun h46_1=>?_))))))
  ·
   replace h46_1:=zV h46_1
   exfalso;unfold quI at *;omega
  replace h46_1:=zU h46_1;refine zH (zC (zK 2 Z (zN (zI [0,4,5,14,58] [_,_,_,_,_] Z (qW (b:=decide ((c.toNat:Int)=(38:Int))) Z (fun h58=>?_) (fun h58=>?_))))))
  ·
   replace h58:=zV h58
   exfalso;unfold quI at *;omega
  replace h58:=zU h58;refine zH (zC (zK 2 Z (zN (zI [0,4,5,80] [_,_,_,_] Z (qW (b:=decide ((c.toNat:Int)=(124:Int))) Z (fun h80=>?_) (fun h80=>?_))))))
  ·
   replace h80:=zV h80
   exfalso;unfold quI at *;omega
  replace h80:=zU h80;refine qQ (zI [0,4,5] [_,_,_] Z (zH (zC (zK 1 Z (zN (zI [0,4,5,8] [_,_,_,_] Z (zH (zH (zC (zK 1 Z (zM (v:=pt_ h) Z (zL Z Z) (zM Z (zD Z yI Z qJ Z Z) (zM Z (zD Z zZ Z zE Z Z) (zM Z (zO 2 Z zT Z Z Z) (zK 1 Z (zN (zI [0,4,5,8,106,107] [_,_,_,_,_,_] Z (qU (jP (σ:=Nat×List Int×Memo) (fun ⟨x,E,K⟩=>(x:Int)≤a.n∧E.length=4∧(∀ z:Int,E.set (vI v) z=en4.set (vI v) z)∧MemoOk 84 a ts K) (fun ⟨x,E,K⟩=>[(0,pt_ h),(4,pt_ p4),(5,pt_ p5),(8,i6_ (cntT (evC a v q en4) x:Int)),(106,i6_ a.n),(107,i6_ (x:Int))]) (fun ⟨x,E,K⟩=>Own B w0 (bk_ p5 ((ints E).toArray) 91::bk_ p4 #[ptrV p] 80::bk_ h #[i6_ a.n,str a.set,str a.rel,.map (some M)] 143::(((M,mapP (memoK K))::(memoB K++hs))))) (fun ⟨x,E,K⟩=>(a.n - x).toNat) (0,en4,K) ⟨by omega,hE.1,fun _=>rfl,hK⟩ (Sub.cons Z (Sub.cons Z (Sub.cons Z (Sub.cons (by rfl) (Sub.sel [106,107] Z))))) (fun _ h=>h) ?_)))))))))))))))))))
  rintro ⟨x,E,K⟩ ⟨hx,hEl,hEs,hK⟩
  dsimp only
  have hcx:=cntT_le (evC a v q en4) x;refine zH (zC (zK 1 Z (zN (zI [0,4,5,8,106,107,108] [_,_,_,_,_,_,_] Z (zH (xN Z (fun h108=>?_) (fun h108=>?_)))))))
  ·
   refine qQ (zI [0,4,5,8,106,107] [_,_,_,_,_,_] Z (zH (qU (zH (zC (zK 2 Z (zN (zI [0,4,5,8,9,106,107] [_,_,_,_,_,_,_] Z (zH (qC (zJ Z (zO 1 Z yU Z Z Z) (zJ (v:=ptrV p) Z (zL Z Z) (zJ Z (zD Z zB Z qL Z Z) (zJ (v:=vv) Z (qG Z yN Z (fun w1 hw1=>cell_of ((jF (zW (f:=[_,_,_]) (zY (f:=[_,_,_]) hw1)) hm).2) Z)) (zJ (v:=.pointer (some (sAt vv 0))) Z (xX Z yD yY Z Z (by decide) (by simp) (fun w1 hw1=>RowB.row hR1 (zW (f:=[_,_,_]) (zY (f:=[_,_,_]) hw1)))) (zJ (v:=.int .u8 (v.toNat:Int)) Z (qG Z yV Z (fun w1 hw1=>Row.u8 (RowB.row hR1 (zW (f:=[_,_,_]) (zY (f:=[_,_,_]) hw1))) (by decide) (by simp))) (zJ (v:=.int .u8 (vI v:Int)) Z (yH (by rw [vI_wrap hv_v]) (xY Z Z Z)) (qD 1 Z (zJ (v:=pf_ p5 (vI v)) Z (yH (v':=pf_ p5 (vI v)) (by rfl) (OpQ.indexArr (i:=(vI v:Int)) Z Tryd.runUnderlying91 zE Z Z (by omega) (by omega))) (qB (v:=i6_ (x:Int)) (hs':=(bk_ p5 ((ints (E.set (vI v) (x:Int))).toArray) 91::_::_::(((M,mapP (memoK K))::(memoB K++hs))))) 0 Z Z Z Z Z Z zE Z (by rw [List.size_toArray,ints_length];omega) (by first | (rw [ints_set];rfl) | (simp only [Nat.zero_add];rw [ints_set];rfl)) (zG (zI [0,4,5,8,106,107] [_,_,_,_,_,_] Z (zH (Wk.regionS (S:=Own B w0 (bk_ p5 ((ints (E.set (vI v) (x:Int))).toArray) 91::bk_ p4 #[ptrV p] 80::bk_ h #[i6_ a.n,str a.set,str a.rel,.map (some M)] 143::hs)) [(0,true),(1,true),(7,true),(2,false),(3,true),(4,false),(5,true),(6,false),(8,false)] yP (fun _ h=>h.drawn) (by kernel_rfl) (vD 1 Z (fun _ h=>zY (f:=[_,_,_]) h) (yQ Z Z Z Z Z (zO 1 Z yU Z Z Z) (fun _ h=>zY (f:=[_,_,_]) h) (yQ Z Z Z Z Z (qR (cs:=(ints (E.set (vI v) (x:Int))).toArray) 0 Z jK Z Z (by intro w;rw [show (ints (E.set (vI v) (x:Int))).toArray.size=4 from by simp [hEl]];exact jC w)) (fun _ h=>zY (f:=[_,_,_]) h) (yR Z (zJ (v:=ptrV p) Z (zL Z Z) (zG (yL (fun _ h=>zY (f:=[_,_,_]) h) ?_)))))))))))))))))))))))))))))));refine yQ Z Z Z Z Z (zD Z zB Z xD Z Z) (fun _ h=>zY (f:=[_,_,_]) h) (yR Z (zJ (v:=pv) Z (qG Z jJ Z (fun w1 hw1=>cell_of ((jF (zW (f:=[_,_,_]) (zY (f:=[_,_,_]) hw1)) hm).2) Z)) (zG (yL (fun _ h=>zY (f:=[_,_,_]) h) ?_))))
   refine yQ (v:=.pointer (some (sAt pv 0))) Z Z Z Z Z (xX Z jE Tryd.sizeOf80 Z Z (by decide) (by simp) (fun w1 hw1=>RowB.row hR2 (zW (f:=[_,_,_]) hw1))) (fun _ h=>zY (f:=[_,_,_]) h) (yR Z (zJ (v:=ptrV q1) Z (qG Z yU Z (fun w1 hw1=>Row.cell (RowB.row hR2 (zW (f:=[_,_,_]) (zY (f:=[_,_,_]) hw1))) (by decide) (by simp))) (zG (yL (fun _ h=>zY (f:=[_,_,_]) h) ?_))));refine yR Z (jQ (ok:=fun K=>MemoOk 84 a ts K) (b:=ev a q (E.set (vI v) (x:Int))) (xs:=[.tmp 119,.tmp 125,.tmp 126]) (vs:=[pt_ h,ptrV q1,.agg ((ints (E.set (vI v) (x:Int))).toArray)]) ([bk_ p5 ((ints (E.set (vI v) (x:Int))).toArray) 91,bk_ p4 #[ptrV p] 80]:List (Nat×Obj)) Z Z Z Z Tryd.call119 Z (fun w1 hw1=>ih q (by first | exact Nat.lt_succ_self _ | exact Nat.lt_succ_of_le (Nat.le_add_right _ _) | exact Nat.lt_succ_of_le (Nat.le_add_left _ _)) hwf.2.2.2.2 B w0 _ ts h M K q1 (E.set (vI v) (x:Int)) w1 (fun x hx=>List.mem_append_right _ (hts x hx)) hT1 (by rw [hEs];exact hE.set ⟨by omega,by omega⟩) hK hw1) fun K1_1 hM1_1=>?_)
   show Ll _ _ (Own _ _ (_::_::_::(((M,mapP (memoK K1_1))::(memoB K1_1++hs))))) _ _ ((127,bo_ (ev a q (E.set (vI v) (x:Int))))::_) _ _ _;refine zG (yL (fun _ h=>zY (f:=[_,_,_]) h) ?_);refine Ld.nil (zI [0,4,5,8,106,107,127] [_,_,_,_,_,_,_] Z (qW (b:=ev a q (E.set (vI v) (x:Int))) Z (fun h127=>?_) (fun h127=>?_)))
   ·
    have hF:evC a v q en4 x=true:=evC_of hEs h127
    have hcs:=cnt_yes hF;refine zC (zK 1 Z (zM Z (yE Z Z Z (by omega) (by omega)) (zK 1 Z (zN (zI [0,4,5,8,106,107] [_,_,_,_,_,_] Z (zC (zM Z (yE Z Z Z (by omega) (by omega)) (zK 1 Z (zN (xH (x+1,E.set (vI v) (x:Int),K1_1) ⟨by omega,by simp [hEl],fun z=>by rw [List.set_set];exact hEs z,hM1_1⟩ (by omega) (Sub.cons Z (Sub.cons Z (Sub.cons Z (Sub.cons (by rw [← hcs];rfl) (Sub.sel [106,107] Z))))) (fun _ h=>h)))))))))))
   have hF:evC a v q en4 x=false:=evC_of hEs (by simpa using h127)
   have hcs:=cnt_no hF;refine qQ (zI [0,4,5,8,106,107] [_,_,_,_,_,_] Z (zC (zM Z (yE Z Z Z (by omega) (by omega)) (zK 1 Z (zN (xH (x+1,E.set (vI v) (x:Int),K1_1) ⟨by omega,by simp [hEl],fun z=>by rw [List.set_set];exact hEs z,hM1_1⟩ (by omega) (Sub.cons Z (Sub.cons Z (Sub.cons Z (Sub.cons (by rw [hcs];rfl) (Sub.sel [106,107] Z))))) (fun _ h=>h)))))))
  refine xO Z (zI [0,4,8] [_,_,_] Z (zH (zH (zC (zM Z (zO 1 Z yU Z Z Z) (zM (v:=ptrV p) Z (zL Z Z) (zM Z (zD Z zB Z yY Z Z) (zM (v:=.int .u8 (c.toNat:Int)) Z (qG Z yV Z (fun w1 hw1=>cell_of ((jF (zW (f:=[_,_,_]) (zY (f:=[_,_,_]) hw1)) hm).2) Z)) (zN (zI [0,4,8,134] [_,_,_,_] Z (qU (zH (zC (zK 2 Z (zN (zI [0,4,8,134,135] [_,_,_,_,_] Z (xN Z (fun h135=>?_) (fun h135=>?_))))))))))))))))))
  ·
   refine zH (zC (zK 2 Z (zM (v:=pt_ h) Z (zL Z Z) (zM Z (zD Z yI Z qJ Z Z) (zM Z (zD Z zZ Z zE Z Z) (zM Z (zO 2 Z zT Z Z Z) (zK 2 Z (zN (zI [6] [_] Z (qN (qS Z Z fun w' hw=>?_)))))))))))
   exact ⟨K,ret_b (ev65 h135 (by omega)),hK,zW (f:=[_,_]) hw⟩
  refine zH (zC (zK 2 Z (zN (zI [4,8,144] [_,_,_] Z (xN Z (fun h144=>?_) (fun h144=>?_))))))
  ·
   refine zH (zC (zK 3 Z (zN (zI [6] [_] Z (qN (qS Z Z fun w' hw=>?_))))))
   exact ⟨K,ret_b (ev83 h144 (by omega)),hK,zW (f:=[_,_]) hw⟩
  refine qQ (zI [4,8] [_,_] Z (zH (zC (zK 1 Z (zM Z (zO 1 Z yU Z Z Z) (zM (v:=ptrV p) Z (zL Z Z) (zM Z (zD Z zB Z yY Z Z) (zM (v:=.int .u8 (c.toNat:Int)) Z (qG Z yV Z (fun w1 hw1=>cell_of ((jF (zW (f:=[_,_,_]) (zY (f:=[_,_,_]) hw1)) hm).2) Z)) (zM (v:=.int .u8 ((c.toNat:Int) - 48)) Z (yH (by rw [IntWalk.u8_in _ (by unfold quI at *;omega)]) (xY Z Z Z)) (zM (v:=i6_ ((c.toNat:Int) - 48)) Z (OpQ.convInt .i64 Z Tryd.underlying5 xM Z (IntWalk.i64_in _ (by have:=c.toNat_lt;omega))) (zK 2 Z (zN (zI [6] [_] Z (qN (qS Z Z fun w' hw=>?_)))))))))))))))
  exact ⟨K,ret_b (ev234 hc h135 h144 (by omega)),hK,zW (f:=[_,_]) hw⟩
 obtain ⟨q1,q2,⟨vv,pv,hm0,hR10,hR20⟩,hT1,hT2⟩:=hT
 have hm:=hts _ hm0
 have hR1:=hR10.more hts
 have hR2:=hR20.more hts;refine zC (zM Z (zO 1 Z yU Z Z Z) (zM (v:=ptrV p) Z (zL Z Z) (zM Z (zD Z zB Z yY Z Z) (zM (v:=.int .u8 (c.toNat:Int)) Z (qG Z yV Z (fun w1 hw1=>cell_of ((jF (zW (f:=[_,_,_]) (zY (f:=[_,_,_]) hw1)) hm).2) Z)) (zN (zI [0,4,5,7,14] [_,_,_,_,_] Z (qU (zH (zC (zK 2 Z (zN (zI [0,4,5,7,14,15] [_,_,_,_,_,_] Z (qW (b:=decide ((c.toNat:Int)=(116:Int))) Z (fun h15_5=>?_) (fun h15_5=>?_))))))))))))))
 ·
  replace h15_5:=zV h15_5
  exfalso;omega
 replace h15_5:=zU h15_5;refine zH (zC (zK 2 Z (zN (zI [0,4,5,7,14,17] [_,_,_,_,_,_] Z (qW (b:=decide ((c.toNat:Int)=(102:Int))) Z (fun h17_5=>?_) (fun h17_5=>?_))))))
 ·
  replace h17_5:=zV h17_5
  exfalso;omega
 replace h17_5:=zU h17_5;refine zH (zC (zK 2 Z (zN (zI [0,4,5,7,14,19] [_,_,_,_,_,_] Z (qW (b:=decide ((c.toNat:Int)=(80:Int))) Z (fun h19_4=>?_) (fun h19_4=>?_))))))
 ·
  replace h19_4:=zV h19_4
  exfalso;omega
 replace h19_4:=zU h19_4;refine zH (zC (zK 2 Z (zN (zI [0,4,5,7,14,28] [_,_,_,_,_,_] Z (qW (b:=decide ((c.toNat:Int)=(61:Int))) Z (fun h28_3=>?_) (fun h28_3=>?_))))))
 ·
  replace h28_3:=zV h28_3
  exfalso;omega
 replace h28_3:=zU h28_3;refine zH (zC (zK 2 Z (zN (zI [0,4,5,7,14,35] [_,_,_,_,_,_] Z (qW (b:=decide ((c.toNat:Int)=(69:Int))) Z (fun h35_3=>?_) (fun h35_3=>?_))))))
 ·
  replace h35_3:=zV h35_3
  exfalso;omega
 replace h35_3:=zU h35_3;refine zH (zC (zK 2 Z (zN (zI [0,4,5,14,46] [_,_,_,_,_] Z (qW (b:=decide ((c.toNat:Int)=(33:Int))) Z (fun h46_2=>?_) (fun h46_2=>?_))))))
 ·
  replace h46_2:=zV h46_2
  exfalso;omega
 replace h46_2:=zU h46_2;refine zH (zC (zK 2 Z (zN (zI [0,4,5,14,58] [_,_,_,_,_] Z (xN Z (fun h58_1=>?_) (fun h58_1=>?_))))))
 ·
  refine zH (Wk.regionS (S:=Own B w0 (bk_ p5 ((ints en4).toArray) 91::bk_ p4 #[ptrV p] 80::bk_ h #[i6_ a.n,str a.set,str a.rel,.map (some M)] 143::hs)) [(0,true),(1,true),(7,true),(2,false),(3,true),(4,false),(5,true),(6,false),(8,false),(9,true),(10,true),(11,true),(17,true),(12,false),(13,true),(14,false),(15,true),(16,false),(18,false),(19,true),(20,true)] yP (fun _ h=>h.drawn) (by kernel_rfl) (vD 1 Z (fun _ h=>zY (f:=[_,_,_]) h) (yQ Z Z Z Z Z (zO 1 Z yU Z Z Z) (fun _ h=>zY (f:=[_,_,_]) h) (yQ Z Z Z Z Z (qR (cs:=(ints en4).toArray) 0 Z jK Z Z (by intro w;rw [show (ints en4).toArray.size=4 from by simp [hE4]];exact jC w)) (fun _ h=>zY (f:=[_,_,_]) h) (yR Z (zJ (v:=ptrV p) Z (zL Z Z) (zG (yL (fun _ h=>zY (f:=[_,_,_]) h) ?_))))))));refine yQ Z Z Z Z Z (zD Z zB Z xD Z Z) (fun _ h=>zY (f:=[_,_,_]) h) (yR Z (zJ (v:=pv) Z (qG Z jJ Z (fun w1 hw1=>cell_of ((jF (zW (f:=[_,_,_]) (zY (f:=[_,_,_]) hw1)) hm).2) Z)) (zG (yL (fun _ h=>zY (f:=[_,_,_]) h) ?_))));refine yQ (v:=.pointer (some (sAt pv 0))) Z Z Z Z Z (xX Z jE Tryd.sizeOf80 Z Z (by decide) (by simp) (fun w1 hw1=>RowB.row hR2 (zW (f:=[_,_,_]) hw1))) (fun _ h=>zY (f:=[_,_,_]) h) (yR Z (zJ (v:=ptrV q1) Z (qG Z yU Z (fun w1 hw1=>Row.cell (RowB.row hR2 (zW (f:=[_,_,_]) (zY (f:=[_,_,_]) hw1))) (by decide) (by simp))) (zG (yL (fun _ h=>zY (f:=[_,_,_]) h) ?_))));refine yR Z (jQ (ok:=fun K=>MemoOk 84 a ts K) (b:=ev a q en4) (xs:=[.tmp 60,.tmp 66,.tmp 67]) (vs:=[pt_ h,ptrV q1,.agg ((ints en4).toArray)]) ([bk_ p5 ((ints en4).toArray) 91,bk_ p4 #[ptrV p] 80]:List (Nat×Obj)) Z Z Z Z Tryd.call119 Z (fun w1 hw1=>ih q (by first | exact Nat.lt_succ_self _ | exact Nat.lt_succ_of_le (Nat.le_add_right _ _) | exact Nat.lt_succ_of_le (Nat.le_add_left _ _)) hwf.2.2.2.1 B w0 _ ts h M K q1 en4 w1 (fun x hx=>List.mem_append_right _ (hts x hx)) hT1 hE hK hw1) fun K1_2 hM1_2=>?_)
  show Ll _ _ (Own _ _ (_::_::_::(((M,mapP (memoK K1_2))::(memoB K1_2++hs))))) _ _ ((68,bo_ (ev a q en4))::_) _ _ _;refine zG (yL (fun _ h=>zY (f:=[_,_,_]) h) ?_);refine vD 1 Z (fun _ h=>zY (f:=[_,_,_]) h) (Ld.bool fun b69 hg69=>?_)
  cases b69
  ·
   skip;refine Ld.pass Z Z Z Z (fun _ h=>zY (f:=[_,_,_]) h) (Ld.pass Z Z Z Z (fun _ h=>zY (f:=[_,_,_]) h) (Ld.pass Z Z Z Z (fun _ h=>zY (f:=[_,_,_]) h) (yR Z (jO Z (zG (yL (fun _ h=>zY (f:=[_,_,_]) h) ?_))))));refine Ld.pass Z Z Z Z (fun _ h=>zY (f:=[_,_,_]) h) (yR Z (jO Z (zG (yL (fun _ h=>zY (f:=[_,_,_]) h) ?_))));refine Ld.pass Z Z Z Z (fun _ h=>zY (f:=[_,_,_]) h) (yR Z (jO Z (zG (yL (fun _ h=>zY (f:=[_,_,_]) h) ?_))));refine yR Z (jO Z (zG (yL (fun _ h=>zY (f:=[_,_,_]) h) ?_)));refine vD 2 Z (fun _ h=>zY (f:=[_,_,_]) h) (Ld.nil (zI [6] [_] Z (qN (qS Z Z fun w' hw=>?_))))
   exact ⟨K1_2,ret_b (and_f (ev38 h58_1) hg69),hM1_2,zW (f:=[_,_]) hw⟩
  skip;refine vD 1 Z (fun _ h=>zY (f:=[_,_,_]) h) (yQ Z Z Z Z Z (zO 1 Z yU Z Z Z) (fun _ h=>zY (f:=[_,_,_]) h) (yQ Z Z Z Z Z (qR (cs:=(ints en4).toArray) 0 Z jK Z Z (by intro w;rw [show (ints en4).toArray.size=4 from by simp [hE4]];exact jC w)) (fun _ h=>zY (f:=[_,_,_]) h) (yR Z (zJ (v:=ptrV p) Z (zL Z Z) (zG (yL (fun _ h=>zY (f:=[_,_,_]) h) ?_))))));refine yQ Z Z Z Z Z (zD Z zB Z xD Z Z) (fun _ h=>zY (f:=[_,_,_]) h) (yR Z (zJ (v:=pv) Z (qG Z jJ Z (fun w1 hw1=>cell_of ((jF (zW (f:=[_,_,_]) (zY (f:=[_,_,_]) hw1)) hm).2) Z)) (zG (yL (fun _ h=>zY (f:=[_,_,_]) h) ?_))));refine yQ (v:=.pointer (some (sAt pv 1))) Z Z Z Z Z (xX Z jE Tryd.sizeOf80 Z Z (by decide) (by simp) (fun w1 hw1=>RowB.row hR2 (zW (f:=[_,_,_]) hw1))) (fun _ h=>zY (f:=[_,_,_]) h) (yR Z (zJ (v:=ptrV q2) Z (qG Z yU Z (fun w1 hw1=>Row.cell (RowB.row hR2 (zW (f:=[_,_,_]) (zY (f:=[_,_,_]) hw1))) (by decide) (by simp))) (zG (yL (fun _ h=>zY (f:=[_,_,_]) h) ?_))));refine yR Z (jQ (ok:=fun K=>MemoOk 84 a ts K) (b:=ev a r en4) (xs:=[.tmp 70,.tmp 76,.tmp 77]) (vs:=[pt_ h,ptrV q2,.agg ((ints en4).toArray)]) ([bk_ p5 ((ints en4).toArray) 91,bk_ p4 #[ptrV p] 80]:List (Nat×Obj)) Z Z Z Z Tryd.call119 Z (fun w1 hw1=>ih r (by first | exact Nat.lt_succ_self _ | exact Nat.lt_succ_of_le (Nat.le_add_right _ _) | exact Nat.lt_succ_of_le (Nat.le_add_left _ _)) hwf.2.2.2.2 B w0 _ ts h M K1_2 q2 en4 w1 (fun x hx=>List.mem_append_right _ (hts x hx)) hT2 hE hM1_2 hw1) fun K1_3 hM1_3=>?_)
  show Ll _ _ (Own _ _ (_::_::_::(((M,mapP (memoK K1_3))::(memoB K1_3++hs))))) _ _ ((78,bo_ (ev a r en4))::_) _ _ _;refine zG (yL (fun _ h=>zY (f:=[_,_,_]) h) ?_);refine vD 2 Z (fun _ h=>zY (f:=[_,_,_]) h) (Ld.nil (zI [6] [_] Z (qN (qS Z Z fun w' hw=>?_))))
  exact ⟨K1_3,ret_b (and_t (ev38 h58_1) hg69),hM1_3,zW (f:=[_,_]) hw⟩
 refine zH (zC (zK 2 Z (zN (zI [0,4,5,80] [_,_,_,_] Z (qW (b:=decide ((c.toNat:Int)=(124:Int))) Z (fun h80_1=>?_) (fun h80_1=>?_))))))
 ·
  replace h80_1:=zV h80_1;refine zH (Wk.regionS (S:=Own B w0 (bk_ p5 ((ints en4).toArray) 91::bk_ p4 #[ptrV p] 80::bk_ h #[i6_ a.n,str a.set,str a.rel,.map (some M)] 143::hs)) [(0,true),(1,true),(7,true),(2,false),(3,true),(4,false),(5,true),(6,false),(8,false),(9,true),(10,true),(11,true),(17,true),(12,false),(13,true),(14,false),(15,true),(16,false),(18,false),(19,true),(20,true)] yP (fun _ h=>h.drawn) (by kernel_rfl) (vD 1 Z (fun _ h=>zY (f:=[_,_,_]) h) (yQ Z Z Z Z Z (zO 1 Z yU Z Z Z) (fun _ h=>zY (f:=[_,_,_]) h) (yQ Z Z Z Z Z (qR (cs:=(ints en4).toArray) 0 Z jK Z Z (by intro w;rw [show (ints en4).toArray.size=4 from by simp [hE4]];exact jC w)) (fun _ h=>zY (f:=[_,_,_]) h) (yR Z (zJ (v:=ptrV p) Z (zL Z Z) (zG (yL (fun _ h=>zY (f:=[_,_,_]) h) ?_))))))));refine yQ Z Z Z Z Z (zD Z zB Z xD Z Z) (fun _ h=>zY (f:=[_,_,_]) h) (yR Z (zJ (v:=pv) Z (qG Z jJ Z (fun w1 hw1=>cell_of ((jF (zW (f:=[_,_,_]) (zY (f:=[_,_,_]) hw1)) hm).2) Z)) (zG (yL (fun _ h=>zY (f:=[_,_,_]) h) ?_))));refine yQ (v:=.pointer (some (sAt pv 0))) Z Z Z Z Z (xX Z jE Tryd.sizeOf80 Z Z (by decide) (by simp) (fun w1 hw1=>RowB.row hR2 (zW (f:=[_,_,_]) hw1))) (fun _ h=>zY (f:=[_,_,_]) h) (yR Z (zJ (v:=ptrV q1) Z (qG Z yU Z (fun w1 hw1=>Row.cell (RowB.row hR2 (zW (f:=[_,_,_]) (zY (f:=[_,_,_]) hw1))) (by decide) (by simp))) (zG (yL (fun _ h=>zY (f:=[_,_,_]) h) ?_))));refine yR Z (jQ (ok:=fun K=>MemoOk 84 a ts K) (b:=ev a q en4) (xs:=[.tmp 82,.tmp 88,.tmp 89]) (vs:=[pt_ h,ptrV q1,.agg ((ints en4).toArray)]) ([bk_ p5 ((ints en4).toArray) 91,bk_ p4 #[ptrV p] 80]:List (Nat×Obj)) Z Z Z Z Tryd.call119 Z (fun w1 hw1=>ih q (by first | exact Nat.lt_succ_self _ | exact Nat.lt_succ_of_le (Nat.le_add_right _ _) | exact Nat.lt_succ_of_le (Nat.le_add_left _ _)) hwf.2.2.2.1 B w0 _ ts h M K q1 en4 w1 (fun x hx=>List.mem_append_right _ (hts x hx)) hT1 hE hK hw1) fun K1_4 hM1_4=>?_)
  show Ll _ _ (Own _ _ (_::_::_::(((M,mapP (memoK K1_4))::(memoB K1_4++hs))))) _ _ ((90,bo_ (ev a q en4))::_) _ _ _;refine zG (yL (fun _ h=>zY (f:=[_,_,_]) h) ?_);refine vD 1 Z (fun _ h=>zY (f:=[_,_,_]) h) (Ld.bool fun b91 hg91=>?_)
  cases b91
  ·
   skip;refine vD 1 Z (fun _ h=>zY (f:=[_,_,_]) h) (yQ Z Z Z Z Z (zO 1 Z yU Z Z Z) (fun _ h=>zY (f:=[_,_,_]) h) (yQ Z Z Z Z Z (qR (cs:=(ints en4).toArray) 0 Z jK Z Z (by intro w;rw [show (ints en4).toArray.size=4 from by simp [hE4]];exact jC w)) (fun _ h=>zY (f:=[_,_,_]) h) (yR Z (zJ (v:=ptrV p) Z (zL Z Z) (zG (yL (fun _ h=>zY (f:=[_,_,_]) h) ?_))))));refine yQ Z Z Z Z Z (zD Z zB Z xD Z Z) (fun _ h=>zY (f:=[_,_,_]) h) (yR Z (zJ (v:=pv) Z (qG Z jJ Z (fun w1 hw1=>cell_of ((jF (zW (f:=[_,_,_]) (zY (f:=[_,_,_]) hw1)) hm).2) Z)) (zG (yL (fun _ h=>zY (f:=[_,_,_]) h) ?_))));refine yQ (v:=.pointer (some (sAt pv 1))) Z Z Z Z Z (xX Z jE Tryd.sizeOf80 Z Z (by decide) (by simp) (fun w1 hw1=>RowB.row hR2 (zW (f:=[_,_,_]) hw1))) (fun _ h=>zY (f:=[_,_,_]) h) (yR Z (zJ (v:=ptrV q2) Z (qG Z yU Z (fun w1 hw1=>Row.cell (RowB.row hR2 (zW (f:=[_,_,_]) (zY (f:=[_,_,_]) hw1))) (by decide) (by simp))) (zG (yL (fun _ h=>zY (f:=[_,_,_]) h) ?_))));refine yR Z (jQ (ok:=fun K=>MemoOk 84 a ts K) (b:=ev a r en4) (xs:=[.tmp 92,.tmp 98,.tmp 99]) (vs:=[pt_ h,ptrV q2,.agg ((ints en4).toArray)]) ([bk_ p5 ((ints en4).toArray) 91,bk_ p4 #[ptrV p] 80]:List (Nat×Obj)) Z Z Z Z Tryd.call119 Z (fun w1 hw1=>ih r (by first | exact Nat.lt_succ_self _ | exact Nat.lt_succ_of_le (Nat.le_add_right _ _) | exact Nat.lt_succ_of_le (Nat.le_add_left _ _)) hwf.2.2.2.2 B w0 _ ts h M K1_4 q2 en4 w1 (fun x hx=>List.mem_append_right _ (hts x hx)) hT2 hE hM1_4 hw1) fun K1_5 hM1_5=>?_)
   show Ll _ _ (Own _ _ (_::_::_::(((M,mapP (memoK K1_5))::(memoB K1_5++hs))))) _ _ ((100,bo_ (ev a r en4))::_) _ _ _;refine zG (yL (fun _ h=>zY (f:=[_,_,_]) h) ?_);refine vD 2 Z (fun _ h=>zY (f:=[_,_,_]) h) (Ld.nil (zI [6] [_] Z (qN (qS Z Z fun w' hw=>?_))))
   exact ⟨K1_5,ret_b (or_f (ev124 h80_1) hg91),hM1_5,zW (f:=[_,_]) hw⟩
  skip;refine Ld.pass Z Z Z Z (fun _ h=>zY (f:=[_,_,_]) h) (Ld.pass Z Z Z Z (fun _ h=>zY (f:=[_,_,_]) h) (Ld.pass Z Z Z Z (fun _ h=>zY (f:=[_,_,_]) h) (yR Z (jO Z (zG (yL (fun _ h=>zY (f:=[_,_,_]) h) ?_))))));refine Ld.pass Z Z Z Z (fun _ h=>zY (f:=[_,_,_]) h) (yR Z (jO Z (zG (yL (fun _ h=>zY (f:=[_,_,_]) h) ?_))));refine Ld.pass Z Z Z Z (fun _ h=>zY (f:=[_,_,_]) h) (yR Z (jO Z (zG (yL (fun _ h=>zY (f:=[_,_,_]) h) ?_))));refine yR Z (jO Z (zG (yL (fun _ h=>zY (f:=[_,_,_]) h) ?_)));refine vD 2 Z (fun _ h=>zY (f:=[_,_,_]) h) (Ld.nil (zI [6] [_] Z (qN (qS Z Z fun w' hw=>?_))))
  exact ⟨K1_4,ret_b (or_t (ev124 h80_1) hg91),hM1_4,zW (f:=[_,_]) hw⟩
 replace h80_1:=zU h80_1
 exfalso;omega
set_option maxHeartbeats 1600000 in
theorem isTrue_step (a:St) (fm:Fm) (ha:a.Fine) (hwf:wfF fm) (hd:IsT 168 a fm) (B:Nat) (w0:World) (hs ts:List (Nat×Obj)) (h M:Nat) (K:Memo) (p:Nat) (en4:List Int) (w:World) (hts:∀ x∈ts,x∈hs) (hT:TreeB 84 ts fm p) (hE:EnvA a en4) (hK:MemoOk 84 a ts K) (hw:Own B w0 (memoF 143 h M a K hs) w) :
    Calls Tryd.prog 119 [pt_ h,ptrV p,.agg ((ints en4).toArray)].toArray w fun en w'=>∃ K',en=.returned (.bool (ev a fm en4))∧MemoOk 84 a ts K'∧Own B w0 (memoF 143 h M a K' hs) w':=by
 refine fnStartC (Own B w0 (bk_ h #[i6_ a.n,str a.set,str a.rel,.map (some M)] 143::((M,mapP (memoK K))::(memoB K++hs)))) (n:=72) (e:=[(0,pt_ h),(1,ptrV p),(2,.agg ((ints en4).toArray))]) Tryd.func119 Z Z Z Z Ends.both hw ?_
 have hE4:=hE.1
 have hfl:=frB_lt hwf
 obtain ⟨c,vs,ps,vv,pv,hm0,-,-⟩:=hT.node
 have hm:=hts _ hm0
 have hwr:Own B w0 hs w:=zW (f:=[_]) (zY (f:=[_]) hw);refine zH (qC (jH (v:=.agg ((ints en4).toArray)) Z Z Z Z Z fun p5 hp5=>?_))
 show Ll _ _ (Own _ _ (_::_::(((M,mapP (memoK K))::(memoB K++hs))))) _ _ ((5,pt_ p5)::_) _ _ _;refine qD 1 Z (zG (zI [0,1,5] [_,_,_] Z (zH (zC (zK 1 Z (zN (zI [0,1,5,7] [_,_,_,_] Z (zH (zH (zC (zM Z (qR (cs:=(ints en4).toArray) 0 Z jK Z Z (by intro w;rw [show (ints en4).toArray.size=4 from by simp [hE4]];exact jC w)) (zK 1 Z (zN (zI [0,1,5,7,13,14] [_,_,_,_,_,_] Z (qU (jP (σ:=Nat) (fun i=>i≤4) (fun i=>[(0,pt_ h),(1,ptrV p),(5,pt_ p5),(7,i6_ (kSum (frB fm) en4 i:Int)),(13,.agg ((ints en4).toArray)),(14,i6_ (i:Int))]) (fun i=>Own B w0 (bk_ p5 ((ints en4).toArray) 91::bk_ h #[i6_ a.n,str a.set,str a.rel,.map (some M)] 143::(((M,mapP (memoK K))::(memoB K++hs))))) (fun i=>4 - i) (0) (by omega) (Sub.cons Z (Sub.cons Z (Sub.cons Z (Sub.cons (by rfl) (Sub.sel [13,14] Z))))) (fun _ h=>h) ?_))))))))))))))))
 rintro i hi5;refine zH (zC (zK 1 Z (zN (zI [0,1,5,7,13,14,15] [_,_,_,_,_,_,_] Z (zH (qW (b:=decide ((i:Int)<(4:Int))) Z (fun h15=>?_) (fun h15=>?_)))))))
 ·
  replace h15:=zV h15
  have hi4:i<4:=by omega
  refine qQ (zI [0,1,5,7,13,14] [_,_,_,_,_,_] Z (zH (qU (zH (zC (zK 1 Z (zM (v:=i6_ ((en4.getD i 0).toNat:Int)) Z (yH (by rw [Int.toNat_natCast,← (key_val hE ha hi4).1]) (OpQ.indexAgg (i:=(i:Int)) Z Tryd.runUnderlying91 zT zE Z Z (by omega) (by omega) hE4)) (zK 2 Z (zN (zI [0,1,5,7,8,9,13,14] [_,_,_,_,_,_,_,_] Z (zH (zC (zK 1 Z (zM (v:=ptrV p) Z (zL Z Z) (zM Z (zD Z zB Z zE Z Z) (zM (v:=i6_ (frB fm:Int)) Z (qG Z zT Z (fun w1 hw1=>cell_of ((jF (zW (f:=[_,_]) (zY (f:=[_,_]) hw1)) hm).2) Z)) (zK 1 Z (zM (v:=i6_ ((((frB fm) / 2 ^ i:Nat):Int))) Z (OpQ.shr (a:=frB fm) (b:=i) Z Z Z (by omega)) (zM (v:=i6_ (((((frB fm) / 2 ^ i) &&& 1:Nat):Int))) Z (OpQ.and (a:=(frB fm) / 2 ^ i) (b:=1) Z Z Z (Nat.lt_of_le_of_lt (Nat.div_le_self _ _) (by omega)) (by decide)) (zM (v:=bo_ ((frB fm).testBit i)) Z (yH (by rw [bit_and]) (OpQ.eql Z Z Z)) (zN (zI [0,1,5,7,8,9,13,14,25] [_,_,_,_,_,_,_,_,_] Z (qW (b:=(frB fm).testBit i) Z (fun h25=>?_) (fun h25=>?_))))))))))))))))))))))))
  ·
   refine zC (zK 3 Z (zM (v:=i6_ ((3*i:Nat):Int)) Z (yH (by congr 1) (OpQ.mul Z Z Z (by omega) (by omega))) (zM (v:=i6_ (((((en4.getD i 0).toNat)*2 ^ (3*i):Nat):Int))) Z (jY (a:=(en4.getD i 0).toNat) (b:=3*i) Z Z Z (by omega) (shl_bound (key_val hE ha hi4).2 hi4)) (zM (v:=i6_ ((((kSum (frB fm) en4 i) ||| (((en4.getD i 0).toNat)*2 ^ (3*i)):Nat):Int))) Z (yX (a:=kSum (frB fm) en4 i) (b:=((en4.getD i 0).toNat)*2 ^ (3*i)) Z Z Z (by have:=key_bound hE ha (b:=frB fm) (i:=i) (by omega);omega) (shl_bound (key_val hE ha hi4).2 hi4)) (zK 1 Z (zN (zI [0,1,5,7,13,14] [_,_,_,_,_,_] Z (zC (zM Z (yE Z Z Z (by omega) (by omega)) (zK 1 Z (zN (xH (i+1) (by omega) (by omega) (Sub.cons Z (Sub.cons Z (Sub.cons Z (Sub.cons (by rw [← key_yes hE ha hi4 h25];rfl) (Sub.sel [13,14] Z))))) (fun _ h=>h)))))))))))))
  refine qQ (zI [0,1,5,7,13,14] [_,_,_,_,_,_] Z (zC (zM Z (yE Z Z Z (by omega) (by omega)) (zK 1 Z (zN (xH (i+1) (by omega) (by omega) (Sub.cons Z (Sub.cons Z (Sub.cons Z (Sub.cons (by rw [← key_no h25];rfl) (Sub.sel [13,14] Z))))) (fun _ h=>h)))))))
 replace h15:=zU h15
 obtain rfl:i=4:=by omega
 refine xO Z (zI [0,1,5,7] [_,_,_,_] Z (zH (zH ?_)))
 rcases memo_case3 K p (keyF fm en4) with hno | ⟨j,m,L,hj,hf,hnk⟩ | ⟨j,m,L,hj,hf,hnk⟩
 ·
  refine zC (zK 1 Z (zM (v:=pt_ h) Z (zL Z Z) (zM Z (zD Z yI Z xL Z Z) (zM Z (zO 1 Z xP Z Z Z) (zK 1 Z (zM (v:=.map none) Z (OpQ.lookP_no (K:=memoK K) 2 Z xA yB xQ (by decide) Tryd.zeroValue181 Z Z Z hno (MemoOk.keys hK (fun x hx=>zX _ (zX _ (zX _ (List.mem_append_right _ (hts x hx)))))) (TreeB.key hT (fun x hx=>zX _ (zX _ (zX _ (List.mem_append_right _ (hts x hx))))))) (zK 1 Z (zM (v:=.tuple #[bo_ false,bo_ false]) Z (OpQ.lookI_nil (k:=keyF fm en4) Z xG xM Tryd.zeroValue4 Z Z) (zK 1 Z (zM (v:=bo_ false) Z (yK Z Z Z) (zM (v:=bo_ false) Z (yK Z Z Z) (zK 2 Z (zN (zI [0,1,5,7,10,11] [_,_,_,_,_,_] Z (zH (zC (zK 1 Z (zN (zI [0,1,5,7,10,44] [_,_,_,_,_,_] Z (xJ Z (qQ (zI [0,1,5,7] [_,_,_,_] Z (zH (qC (qD 2 Z (zJ Z (qR (cs:=(ints en4).toArray) 0 Z jK Z Z (by intro w;rw [show (ints en4).toArray.size=4 from by simp [hE4]];exact jC w)) (jQ (ok:=fun K=>MemoOk 84 a ts K) (b:=ev a fm en4) (xs:=[.tmp 46,.tmp 47,.tmp 48]) (vs:=[pt_ h,ptrV p,.agg ((ints en4).toArray)]) ([bk_ p5 ((ints en4).toArray) 91]:List (Nat×Obj)) Z Z Z Z Tryd.call168 Z (fun w1 hw1=>hd B w0 _ ts h M K p en4 w1 (fun x hx=>List.mem_append_right _ (hts x hx)) hT hE hK hw1) fun K1 hM1=>?_)))))))))))))))))))))))))))
  show Ll _ _ (Own _ _ (_::_::(((M,mapP (memoK K1))::(memoB K1++hs))))) _ _ ((49,bo_ (ev a fm en4))::_) _ _ _;refine qD 1 Z (zG (zI [0,1,7,12] [_,_,_,_] Z (zH (zH ?_))))
  rcases memo_case K1 p with hno1 | ⟨j1,m1,L1,hj1,hf1⟩
  ·
   refine zC (zK 1 Z (zM (v:=pt_ h) Z (zL Z Z) (zM Z (zD Z yI Z xL Z Z) (zM Z (zO 1 Z xP Z Z Z) (zK 1 Z (zM (v:=.map none) Z (OpQ.lookP_no (K:=memoK K1) 2 Z xA yB xQ (by decide) Tryd.zeroValue181 Z Z Z hno1 (MemoOk.keys hM1 (fun x hx=>zX _ (zX _ (zX _ (List.mem_append_right _ (hts x hx)))))) (TreeB.key hT (fun x hx=>zX _ (zX _ (zX _ (List.mem_append_right _ (hts x hx))))))) (zM (v:=bo_ true) Z (OpQ.eqNilM (p:=none) Z xG Z Z) (zN (zI [0,1,7,12,56] [_,_,_,_,_] Z (xR (σ:=Memo×Nat×Nat×List (Int×Bool)) (fun ⟨K3,j3,m3,L3⟩=>MemoOk 84 a ts K3∧K3[j3]?=some (p,m3,L3)∧∀ (q:Nat) (x:Nat×Nat),q<j3→(memoK K3)[q]?=some x→x.1 ≠ p) (fun ⟨K3,j3,m3,L3⟩=>[(0,pt_ h),(1,ptrV p),(7,i6_ (keyF fm en4)),(12,bo_ (ev a fm en4))]) (fun ⟨K3,j3,m3,L3⟩=>Own B w0 (bk_ p5 ((ints en4).toArray) 91::bk_ h #[i6_ a.n,str a.set,str a.rel,.map (some M)] 143::(((M,mapP (memoK K3))::(memoB K3++hs))))) ?_ ?_))))))))))
   ·
    refine xE Z (qC (qD 1 Z (zJ (v:=pt_ h) Z (zL Z Z) (zJ Z (zD Z yI Z xL Z Z) (zJ Z (zO 1 Z xP Z Z Z) (qD 1 Z (Ll.makeMapI Z Z Z Z fun m62 hm62=>?_)))))))
    show Ll _ _ (Own _ _ (_::_::_::(((M,mapP (memoK K1))::(memoB K1++hs))))) _ _ ((62,.map (some m62))::_) _ _ _;refine Ll.mapSetP (K:=memoK K1) (m:=m62) 3 Z Z Z xA yB xQ (by decide) Z Z Z Z hno1 (MemoOk.keys hM1 (fun x hx=>zX _ (zX _ (zX _ (zX _ (List.mem_append_right _ (hts x hx))))))) (TreeB.key hT (fun x hx=>zX _ (zX _ (zX _ (zX _ (List.mem_append_right _ (hts x hx))))))) ?_
    show Ll _ _ (Own _ _ (_::_::_::(((M,mapP (memoK K1++[(p,m62)]))::(memoB K1++hs))))) _ _ _ _ _ _;refine zG (qA (K1++[(p,m62,[])],K1.length,m62,[]) ⟨MemoOk.add hM1 hT hwf,(memo_last hno1).1,(memo_last hno1).2⟩ (Sub.sel [0,1,7,12] Z) (fun _ h=>h.perm (memo_new [_,_] _)))
   rintro ⟨K3,j3,m3,L3⟩ ⟨hK3,hj3,hf3⟩
   dsimp only;refine zI [0,1,7,12] [_,_,_,_] Z (zH (qC (qD 1 Z (zJ (v:=pt_ h) Z (zL Z Z) (zJ Z (zD Z yI Z xL Z Z) (zJ Z (zO 1 Z xP Z Z Z) (qD 1 Z (zJ (v:=.map (some m3)) Z (jX (K:=memoK K3) 2 Z xA yB xQ (by decide) Z Z Z (memoK_get hj3) hf3 (MemoOk.keys hK3 (fun x hx=>zX _ (zX _ (zX _ (List.mem_append_right _ (hts x hx))))))) (qD 2 Z (Ll.mapSetI (L:=L3) (k:=keyF fm en4) (b:=ev a fm en4) (j3+3) Z Z Z xG xM Z Z Z (memoB_at hj3) fun L2 hL2=>?_))))))))))
   rw [memo_set2 hj3]
   show Ll _ _ (Own _ _ (_::_::(((M,mapP (memoK (K3.set j3 (p,m3,L2))))::(memoB (K3.set j3 (p,m3,L2))++hs))))) _ _ _ _ _ _;refine zG (zI [12] [_] Z (zH (zC (zK 2 Z (zN (zI [6] [_] Z (qN (qS Z Z fun w' hw=>?_))))))))
   exact ⟨(K3.set j3 (p,m3,L2)),rfl,MemoOk.set hK3 hts hwr hT hwf hE hj3 hL2,zW (f:=[_]) hw⟩
  refine zC (zK 1 Z (zM (v:=pt_ h) Z (zL Z Z) (zM Z (zD Z yI Z xL Z Z) (zM Z (zO 1 Z xP Z Z Z) (zK 1 Z (zM (v:=.map (some m1)) Z (jX (K:=memoK K1) 2 Z xA yB xQ (by decide) Z Z Z (memoK_get hj1) hf1 (MemoOk.keys hM1 (fun x hx=>zX _ (zX _ (zX _ (List.mem_append_right _ (hts x hx))))))) (zM (v:=bo_ false) Z (OpQ.eqNilM (p:=some m1) Z xG Z Z) (zN (zI [0,1,7,12,56] [_,_,_,_,_] Z (xR (σ:=Memo×Nat×Nat×List (Int×Bool)) (fun ⟨K3,j3,m3,L3⟩=>MemoOk 84 a ts K3∧K3[j3]?=some (p,m3,L3)∧∀ (q:Nat) (x:Nat×Nat),q<j3→(memoK K3)[q]?=some x→x.1 ≠ p) (fun ⟨K3,j3,m3,L3⟩=>[(0,pt_ h),(1,ptrV p),(7,i6_ (keyF fm en4)),(12,bo_ (ev a fm en4))]) (fun ⟨K3,j3,m3,L3⟩=>Own B w0 (bk_ p5 ((ints en4).toArray) 91::bk_ h #[i6_ a.n,str a.set,str a.rel,.map (some M)] 143::(((M,mapP (memoK K3))::(memoB K3++hs))))) ?_ ?_))))))))))
  ·
   refine xJ Z (qQ (qA (K1,j1,m1,L1) ⟨hM1,hj1,hf1⟩ (Sub.sel [0,1,7,12] Z) (fun _ h=>h)))
  rintro ⟨K3,j3,m3,L3⟩ ⟨hK3,hj3,hf3⟩
  dsimp only;refine zI [0,1,7,12] [_,_,_,_] Z (zH (qC (qD 1 Z (zJ (v:=pt_ h) Z (zL Z Z) (zJ Z (zD Z yI Z xL Z Z) (zJ Z (zO 1 Z xP Z Z Z) (qD 1 Z (zJ (v:=.map (some m3)) Z (jX (K:=memoK K3) 2 Z xA yB xQ (by decide) Z Z Z (memoK_get hj3) hf3 (MemoOk.keys hK3 (fun x hx=>zX _ (zX _ (zX _ (List.mem_append_right _ (hts x hx))))))) (qD 2 Z (Ll.mapSetI (L:=L3) (k:=keyF fm en4) (b:=ev a fm en4) (j3+3) Z Z Z xG xM Z Z Z (memoB_at hj3) fun L2 hL2=>?_))))))))))
  rw [memo_set2 hj3]
  show Ll _ _ (Own _ _ (_::_::(((M,mapP (memoK (K3.set j3 (p,m3,L2))))::(memoB (K3.set j3 (p,m3,L2))++hs))))) _ _ _ _ _ _;refine zG (zI [12] [_] Z (zH (zC (zK 2 Z (zN (zI [6] [_] Z (qN (qS Z Z fun w' hw=>?_))))))))
  exact ⟨(K3.set j3 (p,m3,L2)),rfl,MemoOk.set hK3 hts hwr hT hwf hE hj3 hL2,zW (f:=[_]) hw⟩
 ·
  refine zC (zK 1 Z (zM (v:=pt_ h) Z (zL Z Z) (zM Z (zD Z yI Z xL Z Z) (zM Z (zO 1 Z xP Z Z Z) (zK 1 Z (zM (v:=.map (some m)) Z (jX (K:=memoK K) 2 Z xA yB xQ (by decide) Z Z Z (memoK_get hj) hf (MemoOk.keys hK (fun x hx=>zX _ (zX _ (zX _ (List.mem_append_right _ (hts x hx))))))) (zK 1 Z (zM (v:=.tuple #[bo_ false,bo_ false]) Z (OpQ.lookI_no (L:=L) (k:=keyF fm en4) (j+3) Z xG xM Tryd.zeroValue4 Z Z (memoB_at hj) hnk) (zK 1 Z (zM (v:=bo_ false) Z (yK Z Z Z) (zM (v:=bo_ false) Z (yK Z Z Z) (zK 2 Z (zN (zI [0,1,5,7,10,11] [_,_,_,_,_,_] Z (zH (zC (zK 1 Z (zN (zI [0,1,5,7,10,44] [_,_,_,_,_,_] Z (xJ Z (qQ (zI [0,1,5,7] [_,_,_,_] Z (zH (qC (qD 2 Z (zJ Z (qR (cs:=(ints en4).toArray) 0 Z jK Z Z (by intro w;rw [show (ints en4).toArray.size=4 from by simp [hE4]];exact jC w)) (jQ (ok:=fun K=>MemoOk 84 a ts K) (b:=ev a fm en4) (xs:=[.tmp 46,.tmp 47,.tmp 48]) (vs:=[pt_ h,ptrV p,.agg ((ints en4).toArray)]) ([bk_ p5 ((ints en4).toArray) 91]:List (Nat×Obj)) Z Z Z Z Tryd.call168 Z (fun w1 hw1=>hd B w0 _ ts h M K p en4 w1 (fun x hx=>List.mem_append_right _ (hts x hx)) hT hE hK hw1) fun K1_1 hM1_1=>?_)))))))))))))))))))))))))))
  show Ll _ _ (Own _ _ (_::_::(((M,mapP (memoK K1_1))::(memoB K1_1++hs))))) _ _ ((49,bo_ (ev a fm en4))::_) _ _ _;refine qD 1 Z (zG (zI [0,1,7,12] [_,_,_,_] Z (zH (zH ?_))))
  rcases memo_case K1_1 p with hno1 | ⟨j1,m1,L1,hj1,hf1⟩
  ·
   refine zC (zK 1 Z (zM (v:=pt_ h) Z (zL Z Z) (zM Z (zD Z yI Z xL Z Z) (zM Z (zO 1 Z xP Z Z Z) (zK 1 Z (zM (v:=.map none) Z (OpQ.lookP_no (K:=memoK K1_1) 2 Z xA yB xQ (by decide) Tryd.zeroValue181 Z Z Z hno1 (MemoOk.keys hM1_1 (fun x hx=>zX _ (zX _ (zX _ (List.mem_append_right _ (hts x hx)))))) (TreeB.key hT (fun x hx=>zX _ (zX _ (zX _ (List.mem_append_right _ (hts x hx))))))) (zM (v:=bo_ true) Z (OpQ.eqNilM (p:=none) Z xG Z Z) (zN (zI [0,1,7,12,56] [_,_,_,_,_] Z (xR (σ:=Memo×Nat×Nat×List (Int×Bool)) (fun ⟨K3,j3,m3,L3⟩=>MemoOk 84 a ts K3∧K3[j3]?=some (p,m3,L3)∧∀ (q:Nat) (x:Nat×Nat),q<j3→(memoK K3)[q]?=some x→x.1 ≠ p) (fun ⟨K3,j3,m3,L3⟩=>[(0,pt_ h),(1,ptrV p),(7,i6_ (keyF fm en4)),(12,bo_ (ev a fm en4))]) (fun ⟨K3,j3,m3,L3⟩=>Own B w0 (bk_ p5 ((ints en4).toArray) 91::bk_ h #[i6_ a.n,str a.set,str a.rel,.map (some M)] 143::(((M,mapP (memoK K3))::(memoB K3++hs))))) ?_ ?_))))))))))
   ·
    refine xE Z (qC (qD 1 Z (zJ (v:=pt_ h) Z (zL Z Z) (zJ Z (zD Z yI Z xL Z Z) (zJ Z (zO 1 Z xP Z Z Z) (qD 1 Z (Ll.makeMapI Z Z Z Z fun m62_1 hm62_1=>?_)))))))
    show Ll _ _ (Own _ _ (_::_::_::(((M,mapP (memoK K1_1))::(memoB K1_1++hs))))) _ _ ((62,.map (some m62_1))::_) _ _ _;refine Ll.mapSetP (K:=memoK K1_1) (m:=m62_1) 3 Z Z Z xA yB xQ (by decide) Z Z Z Z hno1 (MemoOk.keys hM1_1 (fun x hx=>zX _ (zX _ (zX _ (zX _ (List.mem_append_right _ (hts x hx))))))) (TreeB.key hT (fun x hx=>zX _ (zX _ (zX _ (zX _ (List.mem_append_right _ (hts x hx))))))) ?_
    show Ll _ _ (Own _ _ (_::_::_::(((M,mapP (memoK K1_1++[(p,m62_1)]))::(memoB K1_1++hs))))) _ _ _ _ _ _;refine zG (qA (K1_1++[(p,m62_1,[])],K1_1.length,m62_1,[]) ⟨MemoOk.add hM1_1 hT hwf,(memo_last hno1).1,(memo_last hno1).2⟩ (Sub.sel [0,1,7,12] Z) (fun _ h=>h.perm (memo_new [_,_] _)))
   rintro ⟨K3,j3,m3,L3⟩ ⟨hK3,hj3,hf3⟩
   dsimp only;refine zI [0,1,7,12] [_,_,_,_] Z (zH (qC (qD 1 Z (zJ (v:=pt_ h) Z (zL Z Z) (zJ Z (zD Z yI Z xL Z Z) (zJ Z (zO 1 Z xP Z Z Z) (qD 1 Z (zJ (v:=.map (some m3)) Z (jX (K:=memoK K3) 2 Z xA yB xQ (by decide) Z Z Z (memoK_get hj3) hf3 (MemoOk.keys hK3 (fun x hx=>zX _ (zX _ (zX _ (List.mem_append_right _ (hts x hx))))))) (qD 2 Z (Ll.mapSetI (L:=L3) (k:=keyF fm en4) (b:=ev a fm en4) (j3+3) Z Z Z xG xM Z Z Z (memoB_at hj3) fun L2 hL2=>?_))))))))))
   rw [memo_set2 hj3]
   show Ll _ _ (Own _ _ (_::_::(((M,mapP (memoK (K3.set j3 (p,m3,L2))))::(memoB (K3.set j3 (p,m3,L2))++hs))))) _ _ _ _ _ _;refine zG (zI [12] [_] Z (zH (zC (zK 2 Z (zN (zI [6] [_] Z (qN (qS Z Z fun w' hw=>?_))))))))
   exact ⟨(K3.set j3 (p,m3,L2)),rfl,MemoOk.set hK3 hts hwr hT hwf hE hj3 hL2,zW (f:=[_]) hw⟩
  refine zC (zK 1 Z (zM (v:=pt_ h) Z (zL Z Z) (zM Z (zD Z yI Z xL Z Z) (zM Z (zO 1 Z xP Z Z Z) (zK 1 Z (zM (v:=.map (some m1)) Z (jX (K:=memoK K1_1) 2 Z xA yB xQ (by decide) Z Z Z (memoK_get hj1) hf1 (MemoOk.keys hM1_1 (fun x hx=>zX _ (zX _ (zX _ (List.mem_append_right _ (hts x hx))))))) (zM (v:=bo_ false) Z (OpQ.eqNilM (p:=some m1) Z xG Z Z) (zN (zI [0,1,7,12,56] [_,_,_,_,_] Z (xR (σ:=Memo×Nat×Nat×List (Int×Bool)) (fun ⟨K3,j3,m3,L3⟩=>MemoOk 84 a ts K3∧K3[j3]?=some (p,m3,L3)∧∀ (q:Nat) (x:Nat×Nat),q<j3→(memoK K3)[q]?=some x→x.1 ≠ p) (fun ⟨K3,j3,m3,L3⟩=>[(0,pt_ h),(1,ptrV p),(7,i6_ (keyF fm en4)),(12,bo_ (ev a fm en4))]) (fun ⟨K3,j3,m3,L3⟩=>Own B w0 (bk_ p5 ((ints en4).toArray) 91::bk_ h #[i6_ a.n,str a.set,str a.rel,.map (some M)] 143::(((M,mapP (memoK K3))::(memoB K3++hs))))) ?_ ?_))))))))))
  ·
   refine xJ Z (qQ (qA (K1_1,j1,m1,L1) ⟨hM1_1,hj1,hf1⟩ (Sub.sel [0,1,7,12] Z) (fun _ h=>h)))
  rintro ⟨K3,j3,m3,L3⟩ ⟨hK3,hj3,hf3⟩
  dsimp only;refine zI [0,1,7,12] [_,_,_,_] Z (zH (qC (qD 1 Z (zJ (v:=pt_ h) Z (zL Z Z) (zJ Z (zD Z yI Z xL Z Z) (zJ Z (zO 1 Z xP Z Z Z) (qD 1 Z (zJ (v:=.map (some m3)) Z (jX (K:=memoK K3) 2 Z xA yB xQ (by decide) Z Z Z (memoK_get hj3) hf3 (MemoOk.keys hK3 (fun x hx=>zX _ (zX _ (zX _ (List.mem_append_right _ (hts x hx))))))) (qD 2 Z (Ll.mapSetI (L:=L3) (k:=keyF fm en4) (b:=ev a fm en4) (j3+3) Z Z Z xG xM Z Z Z (memoB_at hj3) fun L2 hL2=>?_))))))))))
  rw [memo_set2 hj3]
  show Ll _ _ (Own _ _ (_::_::(((M,mapP (memoK (K3.set j3 (p,m3,L2))))::(memoB (K3.set j3 (p,m3,L2))++hs))))) _ _ _ _ _ _;refine zG (zI [12] [_] Z (zH (zC (zK 2 Z (zN (zI [6] [_] Z (qN (qS Z Z fun w' hw=>?_))))))))
  exact ⟨(K3.set j3 (p,m3,L2)),rfl,MemoOk.set hK3 hts hwr hT hwf hE hj3 hL2,zW (f:=[_]) hw⟩
 refine zC (zK 1 Z (zM (v:=pt_ h) Z (zL Z Z) (zM Z (zD Z yI Z xL Z Z) (zM Z (zO 1 Z xP Z Z Z) (zK 1 Z (zM (v:=.map (some m)) Z (jX (K:=memoK K) 2 Z xA yB xQ (by decide) Z Z Z (memoK_get hj) hf (MemoOk.keys hK (fun x hx=>zX _ (zX _ (zX _ (List.mem_append_right _ (hts x hx))))))) (zK 1 Z (zM (v:=.tuple #[bo_ (ev a fm en4),bo_ true]) Z (OpQ.lookI_at (L:=L) (k:=keyF fm en4) (b:=ev a fm en4) (j+3) Z xG xM Z Z (memoB_at hj) hnk (memo_ev ha hK hts hwr hT hwf hE hj)) (zK 1 Z (zM (v:=bo_ (ev a fm en4)) Z (yK Z Z Z) (zM (v:=bo_ true) Z (yK Z Z Z) (zK 2 Z (zN (zI [0,1,5,7,10,11] [_,_,_,_,_,_] Z (zH (zC (zK 1 Z (zN (zI [0,1,5,7,10,44] [_,_,_,_,_,_] Z (xE Z (zH (zC (zK 2 Z (zN (zI [6] [_] Z (qN (qS Z Z fun w' hw=>?_)))))))))))))))))))))))))))
 exact ⟨K,rfl,hK,zW (f:=[_]) hw⟩
theorem isTrue_ok (a:St) (fm:Fm) (ha:a.Fine) (hwf:wfF fm):IsT 119 a fm:=by
  have key:∀ (m:Nat) (fm:Fm),szF fm≤m→wfF fm→IsT 119 a fm:=fun m=>by
    induction m with
    | zero=>exact fun fm h1 h2 B w0 hs ts h M K p en4 w=>isTrue_step a fm ha h2 (fun B w0 hs ts h M K p en4 w=>decide_step a fm ha h2 (fun fm2 h3=>absurd h3 (by omega)) B w0 hs ts h M K p en4 w) B w0 hs ts h M K p en4 w
    | succ m ih=>exact fun fm h1 h2 B w0 hs ts h M K p en4 w=>isTrue_step a fm ha h2 (fun B w0 hs ts h M K p en4 w=>decide_step a fm ha h2 (fun fm2 h3 h4=>ih fm2 (by omega) h4) B w0 hs ts h M K p en4 w) B w0 hs ts h M K p en4 w
  exact key _ fm (Nat.le_refl _) hwf
end Go.Proofs.YtefiibghfgfdnaaDoor
namespace Go.Proofs.YtefiibghfgfdnaaDoor
open Go.RowKit Go.Wk
set_option linter.unusedSimpArgs false
set_option maxHeartbeats 400000 in
theorem newHold_ok (a:St) (B:Nat) (w0:World) (hs:List (Nat×Obj)) (w:World) (hw:Own B w0 hs w) :
    Calls Tryd.prog 64 [vS a].toArray w fun en w'=>∃ (h M:Nat),en=.returned (.pointer (some ⟨h,0,none⟩))∧Own B w0 (memoF 143 h M a [] hs) w':=by
 refine fnStartC (Own B w0 hs) (n:=7) (e:=[(0,vS a)]) Tryd.func64 Z Z Z Z Ends.both hw (zH (qC (jH (v:=vS a) Z Z Z Z Z fun p1 hp1=>?_)))
 show Ll _ _ (Own _ _ (_::hs)) _ _ ((1,pt_ p1)::_) _ _ _;refine qD 1 Z (zG (zI [1] [_] Z (zH (qC (zJ Z (qR (cs:=#[i6_ a.n,str a.set,str a.rel]) 0 Z qO Z Z qJ) (Ll.makeMapP Z Z Z Z fun m4 hm4=>?_))))))
 show Ll _ _ (Own _ _ (_::_::hs)) _ _ ((4,.map (some m4))::_) _ _ _;refine zJ (v:=.agg #[i6_ a.n,str a.set,str a.rel,.map (some m4)]) Z (OpQ.build (xs:=[.tmp 3,.tmp 4]) (vs:=[vS a,.map (some m4)]) Z Z (by kernel_rfl)) (jH (v:=.agg #[i6_ a.n,str a.set,str a.rel,.map (some m4)]) Z Z Z Z Z fun p6 hp6=>?_)
 show Ll _ _ (Own _ _ (_::_::_::hs)) _ _ ((6,pt_ p6)::_) _ _ _;refine qD 1 Z (zG (zI [2] [_] Z (qN (qS Z Z fun w' hw=>?_))))
 exact ⟨p6,m4,rfl,Own.pickT (hs:=[_,_,_]) (hs':=[_,_]) hw [0,1] rfl (by decide)⟩
set_option maxHeartbeats 400000 in
theorem holds_ok (a:St) (fm:Fm) (ha:a.Fine) (hwf:wfF fm) (xs:List Int) (va:Value) (hl:xs.length≤4) (B:Nat) (w0:World) (hs ts:List (Nat×Obj)) (h M:Nat) (K:Memo) (p:Nat) (w:World) (hts:∀ x∈ts,x∈hs) (hT:TreeB 84 ts fm p) (hva:∀ w1,Own B w0 hs w1→Ints w1 va xs) (hE:EnvA a (envL xs)) (hK:MemoOk 84 a ts K) (hw:Own B w0 (memoF 143 h M a K hs) w) :
    Calls Tryd.prog 65 [pt_ h,ptrV p,va].toArray w fun en w'=>∃ K',en=.returned (.bool (ev a fm (envL xs)))∧MemoOk 84 a ts K'∧Own B w0 (memoF 143 h M a K' hs) w':=by
 refine fnStartC (Own B w0 (bk_ h #[i6_ a.n,str a.set,str a.rel,.map (some M)] 143::((M,mapP (memoK K))::(memoB K++hs)))) (n:=16) (e:=[(0,pt_ h),(1,ptrV p),(2,va)]) Tryd.func65 Z Z Z Z Ends.both hw (zH (zC (zK 1 Z (zN (zI [0,1,2] [_,_,_] Z (zH (qC (zJ (v:=.agg #[i6_ 0,i6_ 0,i6_ 0,i6_ 0]) Z (OpQ.build (xs:=[]) (vs:=[]) Z Z (by kernel_rfl)) (Ll.alloc Z Z Z Z Tryd.zeroValue91 fun p7 hp7=>?_)))))))))
 show Ll _ _ (Own _ _ (bk_ p7 #[i6_ 0,i6_ 0,i6_ 0,i6_ 0] 91::_::(((M,mapP (memoK K))::(memoB K++hs))))) _ _ ((7,pt_ p7)::_) _ _ _;refine jU (cs':=#[i6_ 0,i6_ 0,i6_ 0,i6_ 0]) (hs':=(bk_ p7 #[i6_ 0,i6_ 0,i6_ 0,i6_ 0] 91::_::(((M,mapP (memoK K))::(memoB K++hs))))) 0 Z Z Z Z Z (by kernel_rfl:_=some Tryd.t91) Z Z Z Z Z (zG (zI [0,1,2,7] [_,_,_,_] Z (zH (qC (zJ (v:=sl_ p7 4 4) Z (OpQ.sliceAll Z Tryd.runUnderlying91 zE Z) (qD 1 Z (Ll.copyEnv (xs:=xs) 0 Z Z Z Z Tryd.underlying30 (by kernel_rfl) Z Z Z (fun w1 hw1=>hva w1 (zW (f:=[_,_]) (zY (f:=[_,_]) hw1))) hl ?_)))))))
 show Ll _ _ (Own _ _ (_::_::(((M,mapP (memoK K))::(memoB K++hs))))) _ _ ((11,i6_ (xs.length:Int))::_) _ _ _;refine zG (zI [0,1,7] [_,_,_] Z (zH (qC (qD 2 Z (zJ Z (qR (cs:=(ints (envL xs)).toArray) 0 Z jK Z Z (by intro w;rw [show (ints (envL xs)).toArray.size=4 from by simp [envL_len hl]];exact jC w)) (jQ (ok:=fun K=>MemoOk 84 a ts K) (b:=ev a fm (envL xs)) (xs:=[.tmp 12,.tmp 13,.tmp 14]) (vs:=[pt_ h,ptrV p,.agg ((ints (envL xs)).toArray)]) ([bk_ p7 ((ints (envL xs)).toArray) 91]:List (Nat×Obj)) Z Z Z Z Tryd.call119 Z (fun w1 hw1=>isTrue_ok a fm ha hwf B w0 _ ts h M K p (envL xs) w1 (fun x hx=>List.mem_append_right _ (hts x hx)) hT hE hK hw1) fun K1 hM1=>?_))))))
 show Ll _ _ (Own _ _ (_::_::(((M,mapP (memoK K1))::(memoB K1++hs))))) _ _ ((15,bo_ (ev a fm (envL xs)))::_) _ _ _;refine qD 1 Z (zG (zI [6] [_] Z (qN (qS Z Z fun w' hw=>?_))))
 exact ⟨K1,rfl,hM1,zW (f:=[_]) hw⟩
end Go.Proofs.YtefiibghfgfdnaaDoor
namespace Go.Proofs.YtefiibghfgfdnaaDoor
open Go.RowKit Go.Wk
set_option linter.unusedSimpArgs false
set_option maxHeartbeats 800000 in
theorem points_ok (a:St) (f:List UInt8) (w:World) (hsa:a.Small) :
    Calls Tryd.prog 72 [vS a,str f,i6_ 1].toArray w fun en w'=>match rdyB a f 1 with | true=>∃ (_v:Value) (m cap:Nat),en=.returned (.tuple #[.slice (some ⟨m,0,none⟩) (cntT (fun x=>holdV a f [(x:Int)]) a.n.toNat) cap,.bool true])∧Below w.heap.size w w' | false=>en=.returned (.tuple #[.slice none 0 0,.bool false])∧Below w.heap.size w w':=by
 refine fnStart (n:=61) (e:=[(0,vS a),(1,str f),(2,i6_ 1)]) Tryd.func72 Z Z Z Z Ends.both (zH (qC (jH (v:=vS a) Z Z Z Z Z fun p3 hp3=>?_)))
 show Ll _ _ (Own _ _ [_]) _ _ ((3,pt_ p3)::_) _ _ _;refine qD 2 Z (zG (zI [1,2,3] [_,_,_] Z (zH ?_)))
 rcases hff1:formO f with _ | fm1
 ·
  refine qC (qD 1 Z (jR (σ:=Unit) (ok:=fun _=>True) (v:=fun _=>.pointer none) (hs':=fun _=>[bk_ p3 #[i6_ a.n,str a.set,str a.rel] 24]) (xs:=[.tmp 13]) (vs:=[str f]) Z Z Z Z Tryd.call63 Z (fun w1 hw1=>(pform_ok f _ _ (([bk_ p3 #[i6_ a.n,str a.set,str a.rel] 24]:List (Nat×Obj))++([])) w1 hw1).mono fun en w' hR=>by rw [hff1] at hR;exact ⟨(),hR.1,trivial,hR.2⟩) fun _ _=>?_))
  show Ll _ _ (Own _ _ [_]) _ _ ((14,.pointer none)::_) _ _ _;refine qD 1 Z (zG (zI [2,3,8] [_,_,_] Z (zH (zH (zC (zK 1 Z (zM (v:=bo_ true) Z (jV (p:=none) Z yB Z Z) (zK 1 Z (zQ Z (zQ Z (zQ Z (zK 2 Z (zQ Z (zQ Z (zK 2 Z (zQ Z (zQ Z (zK 2 Z (zQ Z (zQ Z (zQ Z (zQ Z (zQ Z (zQ Z (zQ Z (zK 1 Z (zN (zI [2,3,8,38] [_,_,_,_] Z (xE Z (zH (zC (zK 2 Z (zN (zI [6,7] [_,_] Z (qN (xU Z Z Z fun w' hw=>?_))))))))))))))))))))))))))))))))))))
  rw [rdy_no (w:=1) (.inr (.inl hff1))]
  exact ⟨rfl,hw.below⟩
 have hwf_fm1:=formO_wf hff1
 have hfr_fm1:=frB_lt hwf_fm1;refine qC (qD 1 Z (vB (ok:=fun ((q,new):Nat×List (Nat×Obj))=>TreeB 84 new fm1 q) (v:=fun ((q,new):Nat×List (Nat×Obj))=>ptrV q) (new:=fun ((q,new):Nat×List (Nat×Obj))=>new) (hs:=[]) (xs:=[.tmp 13]) (vs:=[str f]) ([bk_ p3 #[i6_ a.n,str a.set,str a.rel] 24]:List (Nat×Obj)) Z Z Z Z Tryd.call63 Z (fun w1 hw1=>(pform_ok f _ _ (([bk_ p3 #[i6_ a.n,str a.set,str a.rel] 24]:List (Nat×Obj))++([])) w1 hw1).mono fun en w' hR=>by rw [hff1] at hR;obtain ⟨q,new,h1,h2,h3⟩:=hR;exact ⟨(q,new),h1,h2,h3⟩) fun ⟨q14,new14⟩ hTq14=>?_))
 dsimp only at hTq14
 show Ll _ _ (Own _ _ (_::(new14++([])))) _ _ ((14,ptrV q14)::_) _ _ _;refine qD 1 Z (zG (zI [2,3,8] [_,_,_] Z (zH (zH (zC (zK 1 Z (zM (v:=bo_ false) Z (jV (p:=some ⟨q14,0,none⟩) Z yB Z Z) (zK 1 Z (zM Z (qR (cs:=#[i6_ a.n,str a.set,str a.rel]) 0 Z qO Z Z qJ) (zM (v:=bo_ (validB a)) Z (qX Z Tryd.call52 Z qK (fun w1 hw1=>isStructure_ok a w1 hsa)) (zK 3 Z (xT fun b22 hg22=>?_))))))))))))
 cases b22
 ·
  replace hg22:=not_false hg22;refine zK 4 Z (xT fun b26 hg26=>?_)
  cases b26
  ·
   replace hg26:=zU hg26;refine zK 4 Z (xT fun b30 hg30=>?_)
   cases b30
   ·
    replace hg30:=zU hg30;refine zK 1 Z (zM (v:=ptrV q14) Z (zL Z Z) (zM Z (zD Z zB Z zE Z Z) (zM (v:=i6_ (frB fm1:Int)) Z (qG Z zT Z (fun w1 hw1=>tree_free (TreeB.tree (yC (zW (f:=[_]) hw1)) hTq14))) (zK 1 Z (zM (v:=i6_ ((((frB fm1) / 2 ^ 1:Nat):Int))) Z (OpQ.shr (a:=frB fm1) (b:=1) Z Z Z (by omega)) (zK 2 Z (zN (zI [2,3,8,38] [_,_,_,_] Z (qW (b:=!(decide (((((frB fm1) / 2 ^ 1:Nat):Int))=(0:Int)))) Z (fun h38=>?_) (fun h38=>?_))))))))))
    ·
     replace h38:=not_true h38
     replace h38:=zU h38;refine zH (zC (zK 2 Z (zN (zI [6,7] [_,_] Z (qN (xU Z Z Z fun w' hw=>?_))))))
     rw [rdy_no (w:=1) (by first | exact .inl (by assumption) | exact .inr (.inr ⟨_,hff1,by first | assumption | omega⟩))]
     exact ⟨rfl,hw.below⟩
    replace h38:=not_false h38
    replace h38:=zV h38
    have hV:validB a=true:=by assumption
    have ha:=validB_fine hV
    have hm1:=ha.lo
    have hm8:=ha.hi
    have hz0:frB fm1 / 2 ^ 1=0:=by first | assumption | omega
    have hR:=rdy_of hV hff1 hz0;refine qQ (zI [2,3,8] [_,_,_] Z (zH (qC (zJ Z (qR (cs:=#[i6_ a.n,str a.set,str a.rel]) 0 Z qO Z Z qJ) (vB (ok:=fun _=>True) (v:=fun ((h,M):Nat×Nat)=>.pointer (some ⟨h,0,none⟩)) (new:=fun ((h,M):Nat×Nat)=>[(h,Obj.cells #[.int .i64 a.n,str a.set,str a.rel,.map (some M)] 143 (0,0)),(M,mapP (memoK []))]) (hs:=new14++([])) (xs:=[.tmp 39]) (vs:=[vS a]) ([bk_ p3 #[i6_ a.n,str a.set,str a.rel] 24]:List (Nat×Obj)) Z Z Z Z Tryd.call64 Z (fun w1 hw1=>(newHold_ok a w.heap.size w (([bk_ p3 #[i6_ a.n,str a.set,str a.rel] 24]:List (Nat×Obj))++(new14++([]))) w1 hw1).mono fun en w' ⟨h,M,h1,h2⟩=>⟨(h,M),h1,trivial,h2⟩) fun ⟨h40n,M40n⟩ _=>?_)))))
    show Ll _ _ (Own _ _ (_::_::(((M40n,mapP (memoK []))::(memoB []++(new14++([]))))))) _ _ ((40,pt_ h40n)::_) _ _ _;refine qD 1 Z (zG (zI [2,3,8,9] [_,_,_,_] Z (zH (qC (yT (xs:=[]) (vs:=[]) Base.elem95 Z Z Z Z Z Z (by decide) Z fun p41 hp41=>(qD 1 Z (zG (zI [2,3,8,9,10] [_,_,_,_,_] Z (zH (zH (qC (zJ Z (zD Z zZ Z zE Z Z) (zJ Z (zO 1 Z zT Z Z Z) (qD 1 Z (jR (σ:=Nat×Nat×Array Value×List RR) (ok:=fun (g,c',u,rr)=>RowsOk rr u c'∧rr.map RR.xs=listsL a.n.toNat 1) (v:=fun (g,c',u,rr)=>.slice (some ⟨g,0,none⟩) rr.length c') (xs:=[.tmp 43,.tmp 44]) (vs:=[i6_ a.n,i6_ 1]) (hs':=fun (g,c',u,rr)=>(g,.cells u 30 (0,0))::([bk_ p41 #[] 30,bk_ p3 #[i6_ a.n,str a.set,str a.rel] 24,bk_ h40n #[i6_ a.n,str a.set,str a.rel,.map (some M40n)] 143]++((M40n,mapP (memoK []))::(memoB []++(rowsB 3 rr++(new14++([]))))))) Z Z Z Z Tryd.call88 Z (fun w1 hw1=>(listsOf_ok _ _ _ a.n 1 w1 (by omega) (by omega) (by decide) (by decide) hw1).mono fun en w' ⟨g,c',u,rr,h1,h2,h3⟩=>⟨(g,c',u,rr),h1,h2,h3.perm (rows_memo _ (rowsB 3 rr) [bk_ p41 #[] 30,bk_ p3 #[i6_ a.n,str a.set,str a.rel] 24,bk_ h40n #[i6_ a.n,str a.set,str a.rel,.map (some M40n)] 143] (memoB []) (new14++([])) _)⟩) fun ⟨gL,cL,uL,rrL⟩ ⟨hL,hLX⟩=>?_)))))))))))))))
    show Ll _ _ (Own _ _ (_::_::_::_::(((M40n,mapP (memoK []))::(memoB []++(rowsB 3 rrL++(new14++([])))))))) _ _ ((45,sl_ gL rrL.length cL)::_) _ _ _
    have hrl:rrL.length=a.n.toNat:=by rw [← Nat.pow_one a.n.toNat,← listsL_length a.n.toNat 1,← hLX,List.length_map]
    refine zJ Z (OpQ.lenS Z xW Z) (qD 1 Z (zG (zI [8,9,10,45,46,47] [_,_,_,_,_,_] Z (qU (jP (σ:=Nat×Nat×Nat×Array Value×List Value×Memo) (fun ⟨i,g,c,u,V,K⟩=>i≤rrL.length∧(u.size=c*1∧V.length≤c∧u.toList.take V.length=V)∧V.length=cntT (fun x=>holdV a f [(x:Int)]) i∧MemoOk 84 a new14 K) (fun ⟨i,g,c,u,V,K⟩=>[(8,ptrV q14),(9,pt_ h40n),(10,sl_ g V.length c),(45,sl_ gL rrL.length cL),(46,i6_ (rrL.length:Int)),(47,i6_ (i:Int))]) (fun ⟨i,g,c,u,V,K⟩=>Own w.heap.size w (bk_ gL uL 30::bk_ g u 30::bk_ p3 #[i6_ a.n,str a.set,str a.rel] 24::bk_ h40n #[i6_ a.n,str a.set,str a.rel,.map (some M40n)] 143::(((M40n,mapP (memoK K))::(memoB K++((rowsB 3 rrL++(new14++([]))))))))) (fun ⟨i,g,c,u,V,K⟩=>rrL.length - i) (0,p41,0,#[],[],[]) ⟨by omega,⟨rfl,Nat.le_refl 0,rfl⟩,rfl,MemoOk.nil⟩ (Sub.cons Z (Sub.cons Z (Sub.cons (by rfl) (Sub.sel [45,46,47] Z)))) (fun _ h=>h) ?_)))))
    rintro ⟨i,g,c,u,V,K⟩ ⟨hi,⟨hc,hl,ht⟩,hVl,hK⟩
    dsimp only
    have hcl:=cntT_le (fun x=>holdV a f [(x:Int)]) i;refine zH (zC (zK 1 Z (zN (zI [8,9,10,45,46,47,48] [_,_,_,_,_,_,_] Z (zH (qW (b:=decide ((i:Int)<(rrL.length:Int))) Z (fun h48=>?_) (fun h48=>?_)))))))
    ·
     replace h48:=zV h48
     have hxi:=rows_one hLX hrl (i:=i) (by omega)
     have hxv:=(rdy_hold hV hff1 hz0 (x:=i) (by omega)).2;refine qQ (zI [8,9,10,45,46,47] [_,_,_,_,_,_] Z (zH (qU (zH (zC (zM (v:=pf_ gL i) Z (yH (v':=pf_ gL i) (by simp) (qY (i:=(i:Int)) Z xW Tryd.sizeOf30 Z Z (by omega) (by omega))) (zM (v:=rv (rrL.getD i rd)) Z (yS (v:=rv (rrL.getD i rd)) 0 Z Tryd.isAgg30 Z Z (by have:=rvs_at (rr:=rrL) (i:=i) (by omega);rw [← hL.vals,List.getElem?_take,if_pos (by omega)] at this;simpa using this)) ?_)))))));refine zK 1 Z (zN (zI [8,9,10,12,45,46,47] [_,_,_,_,_,_,_] Z (zH (qC (qD 3 Z (jQ (ok:=fun K=>MemoOk 84 a new14 K) (b:=ev a fm1 (envL ([(i:Int)]))) (xs:=[.tmp 51,.tmp 52,.tmp 53]) (vs:=[pt_ h40n,ptrV q14,rv (rrL.getD i rd)]) ([bk_ gL uL 30,bk_ g u 30,bk_ p3 #[i6_ a.n,str a.set,str a.rel] 24]:List (Nat×Obj)) Z Z Z Z Tryd.call65 Z (fun w1 hw1=>holds_ok a fm1 ha (formO_wf hff1) ([(i:Int)]) (rv (rrL.getD i rd)) (by simp) _ _ _ new14 h40n M40n K q14 w1 (fun x hx=>List.mem_append_right _ (List.mem_append_right _ (List.mem_append_left _ hx))) hTq14 (fun w1 h1=>by rw [← hxi];exact Own.ofRows (zW (f:=[_,_,_]) h1) hL.ok (i:=i) (by omega)) (envL_ok hm1 (by simp) (els_one ⟨by omega,by omega⟩)) hK hw1) fun K1 hM1=>?_))))))
     show Ll _ _ (Own _ _ (_::_::_::_::(((M40n,mapP (memoK K1))::(memoB K1++((rowsB 3 rrL++(new14++([]))))))))) _ _ ((54,bo_ (ev a fm1 (envL ([(i:Int)]))))::_) _ _ _;refine zG (zI [8,9,10,12,45,46,47,54] [_,_,_,_,_,_,_,_] Z (qW (b:=ev a fm1 (envL ([(i:Int)]))) Z (fun h54=>?_) (fun h54=>?_)))
     ·
      have hD:=cntT_yes (F:=fun x:Nat=>holdV a f [(x:Int)]) (x:=i) (hxv.trans h54);refine qC (qD 2 Z (yT (xs:=[.tmp 56]) (vs:=[rv (rrL.getD i rd)]) Base.elem95 Z Z Z Z Z Z (by decide) Z fun p57 hp57=>(Ll.append1 (V:=rv (rrL.getD i rd)) (vs:=V) Base.elem95 2 0 Z Z Z Z Z Z Z hc hl ht Z (by rfl) (by omega) fun g2 c2 u2 hg2 hc2 hl2 ht2=>?_)))
      show Ll _ _ (Own _ _ (_::_::_::_::_::(((M40n,mapP (memoK K1))::(memoB K1++((rowsB 3 rrL++(new14++([]))))))))) _ _ ((58,sl_ g2 (V.length+1) c2)::_) _ _ _;refine qD 1 Z (zG (zI [8,9,10,45,46,47] [_,_,_,_,_,_] Z (zC (zM Z (yE Z Z Z (by omega) (by omega)) (zK 1 Z (zN (xH (i+1,g2,c2,u2,V++[rv (rrL.getD i rd)],K1) ⟨by omega,⟨hc2,by simpa using hl2,by simpa using ht2⟩,by rw [hD];simp [hVl],hM1⟩ (by omega) (Sub.cons Z (Sub.cons Z (Sub.cons (by rw [qE];rfl) (Sub.sel [45,46,47] Z)))) (fun _ h=>h.sub (qI _ (zA _ (zA _ (zA _ (zA _ (zR _))))))))))))))
     have hD:=cntT_no (F:=fun x:Nat=>holdV a f [(x:Int)]) (x:=i) (hxv.trans (by simpa using h54));refine qQ (zI [8,9,10,45,46,47] [_,_,_,_,_,_] Z (zC (zM Z (yE Z Z Z (by omega) (by omega)) (zK 1 Z (zN (xH (i+1,g,c,u,V,K1) ⟨by omega,⟨hc,hl,ht⟩,by rw [hD];simp [hVl],hM1⟩ (by omega) (Sub.cons Z (Sub.cons Z (Sub.cons (by rfl) (Sub.sel [45,46,47] Z)))) (fun _ h=>h.sub (zA _ (zA _ (zA _ (zA _ (zR _))))))))))))
    replace h48:=zU h48;refine xO Z (zI [10] [_] Z (zH (zC (zK 3 Z (zN (zI [6,7] [_,_] Z (qN (xU Z Z Z fun w' hw=>?_))))))))
    rw [hR]
    exact ⟨.int .i64 0,g,c,by rw [show a.n.toNat=i by omega,← hVl],hw.below⟩
   replace hg30:=zV hg30;refine zQ Z (zQ Z (zQ Z (zQ Z (zQ Z (zQ Z (zQ Z (zK 1 Z (zN (zI [2,3,8,38] [_,_,_,_] Z (xE Z (zH (zC (zK 2 Z (zN (zI [6,7] [_,_] Z (qN (xU Z Z Z fun w' hw=>?_)))))))))))))))))
   rw [rdy_no (w:=1) (by first | exact .inl (by assumption) | exact .inr (.inr ⟨_,hff1,by first | assumption | omega⟩))]
   exact ⟨rfl,hw.below⟩
  replace hg26:=zV hg26;refine zQ Z (zQ Z (zK 2 Z (zQ Z (zQ Z (zQ Z (zQ Z (zQ Z (zQ Z (zQ Z (zK 1 Z (zN (zI [2,3,8,38] [_,_,_,_] Z (xE Z (zH (zC (zK 2 Z (zN (zI [6,7] [_,_] Z (qN (xU Z Z Z fun w' hw=>?_))))))))))))))))))))
  rw [rdy_no (w:=1) (by first | exact .inl (by assumption) | exact .inr (.inr ⟨_,hff1,by first | assumption | omega⟩))]
  exact ⟨rfl,hw.below⟩
 replace hg22:=not_true hg22;refine zQ Z (zQ Z (zK 2 Z (zQ Z (zQ Z (zK 2 Z (zQ Z (zQ Z (zQ Z (zQ Z (zQ Z (zQ Z (zQ Z (zK 1 Z (zN (zI [2,3,8,38] [_,_,_,_] Z (xE Z (zH (zC (zK 2 Z (zN (zI [6,7] [_,_] Z (qN (xU Z Z Z fun w' hw=>?_)))))))))))))))))))))))
 rw [rdy_no (w:=1) (by first | exact .inl (by assumption) | exact .inr (.inr ⟨_,hff1,by first | assumption | omega⟩))]
 exact ⟨rfl,hw.below⟩
set_option maxHeartbeats 400000 in
theorem iCount_ok (a:St) (f:List UInt8) (w:World) (hsa:a.Small) :
    Calls Tryd.prog 22 [vS a,str f,i6_ 1].toArray w fun en w'=>en=.returned (.int .i64 (cntO a f))∧Below w.heap.size w w':=by
 refine fnStart (n:=20) (e:=[(0,vS a),(1,str f),(2,i6_ 1)]) Tryd.func22 Z Z Z Z Ends.both (zH (qC (jH (v:=vS a) Z Z Z Z Z fun p3 hp3=>?_)))
 show Ll _ _ (Own _ _ [_]) _ _ ((3,pt_ p3)::_) _ _ _;refine qD 1 Z (zG (zI [1,2,3] [_,_,_] Z (zH ?_)))
 cases hrd:rdyB a f 1
 ·
  refine qC (zJ Z (qR (cs:=#[i6_ a.n,str a.set,str a.rel]) 0 Z qO Z Z qJ) (qD 2 Z (jR (σ:=Unit) (ok:=fun _=>True) (v:=fun _=>.tuple #[.slice none 0 0,.bool false]) (hs':=fun _=>[bk_ p3 #[i6_ a.n,str a.set,str a.rel] 24]) (xs:=[.tmp 10,.tmp 11,.tmp 12]) (vs:=[vS a,str f,i6_ 1]) Z Z Z Z Tryd.call72 Z (fun w1 hw1=>(points_ok a f w1 hsa).mono fun en w' hR=>by rw [hrd] at hR;exact ⟨(),hR.1,trivial,hw1.calls hR.2⟩) fun _ _=>?_)))
  show Ll _ _ (Own _ _ [_]) _ _ ((13,.tuple #[.slice none 0 0,bo_ false])::_) _ _ _;refine qD 1 Z (zJ (v:=.slice none 0 0) Z (yK Z Z Z) (zJ (v:=bo_ false) Z (yK Z Z Z) (qD 2 Z (zG (zI [7,8] [_,_] Z (zH (zH (zC (zK 2 Z (zN (zI [7,17] [_,_] Z (xE Z (zH (zC (zK 1 Z (zN (zI [6] [_] Z (qN (qS Z Z fun w' hw=>?_)))))))))))))))))))
  exact ⟨ret_i (by rw [cntO_no hrd]),hw.below⟩
 refine qC (zJ Z (qR (cs:=#[i6_ a.n,str a.set,str a.rel]) 0 Z qO Z Z qJ) (qD 2 Z (jR (σ:=Nat×Nat) (ok:=fun _=>True) (v:=fun (m,c)=>.tuple #[.slice (some ⟨m,0,none⟩) (cntT (fun x=>holdV a f [(x:Int)]) a.n.toNat) c,.bool true]) (hs':=fun _=>[bk_ p3 #[i6_ a.n,str a.set,str a.rel] 24]) (xs:=[.tmp 10,.tmp 11,.tmp 12]) (vs:=[vS a,str f,i6_ 1]) Z Z Z Z Tryd.call72 Z (fun w1 hw1=>(points_ok a f w1 hsa).mono fun en w' hR=>by rw [hrd] at hR;obtain ⟨_,m,c,h1,h2⟩:=hR;exact ⟨(m,c),h1,trivial,hw1.calls h2⟩) fun ⟨m9,c9⟩ _=>?_)))
 show Ll _ _ (Own _ _ [_]) _ _ ((13,.tuple #[sl_ m9 ((cntT (fun x=>holdV a f [(x:Int)]) a.n.toNat)) c9,bo_ true])::_) _ _ _;refine qD 1 Z (zJ (v:=sl_ m9 ((cntT (fun x=>holdV a f [(x:Int)]) a.n.toNat)) c9) Z (yK Z Z Z) (zJ (v:=bo_ true) Z (yK Z Z Z) (qD 2 Z (zG (zI [7,8] [_,_] Z (zH (zH (zC (zK 2 Z (zN (zI [7,17] [_,_] Z (xJ Z (qQ (zI [7] [_] Z (zH (zC (zK 1 Z (zM Z (OpQ.lenS Z xW Z) (zK 1 Z (zN (zI [6] [_] Z (qN (qS Z Z fun w' hw=>?_)))))))))))))))))))))))
 exact ⟨ret_i (by rw [cntO_yes hrd]),hw.below⟩
end Go.Proofs.YtefiibghfgfdnaaDoor
namespace Go.Proofs.YtefiibghfgfdnaaDoor
open Go.RowKit Go.Wk
set_option linter.unusedSimpArgs false
set_option maxHeartbeats 400000 in
theorem l2Int_ok (b:Bool) (w:World) :
    Calls Tryd.prog 85 [.bool b].toArray w fun en w'=>en=.returned (.int .i64 (if b then 1 else 0))∧Below w.heap.size w w':=by
 refine fnStart (n:=4) (e:=[(0,.bool b)]) Tryd.func85 Z Z Z Z Ends.both (zH (zC (zM Z (yJ Z Z) (zN (yM (e':=[(0,.bool b)]) (Sub.cons Z Sub.nil) (zH (zH (zC (zM (v:=.bool b) Z (xC Z Z) (zN (yM (e':=[(3,.bool b)]) (Sub.cons Z Sub.nil) (qW (b:=b) Z (fun h3=>?_) (fun h3=>?_)))))))))))))
 ·
  refine zH (zC (zM Z (yJ Z Z) (zN (yM (e':=[(2,.int .i64 1)]) (Sub.cons Z Sub.nil) (qN (qS Z Z fun w' hw=>?_))))))
  exact ⟨by rw [‹b=_›];rfl,hw.below⟩
 refine qQ (yM (e':=[]) Sub.nil (zH (zC (zM Z (yJ Z Z) (zN (yM (e':=[(2,.int .i64 0)]) (Sub.cons Z Sub.nil) (qN (qS Z Z fun w' hw=>?_))))))))
 exact ⟨by rw [‹b=_›];rfl,hw.below⟩
set_option maxHeartbeats 400000 in
theorem iSpread_yes (a:St) (w:World) (hv:validB a=true) :
    Calls Tryd.prog 32 [vS a].toArray w fun en w'=>∃ v,en=.returned v∧Below w.heap.size w w'∧NewRow w.heap.size 3 1 w' v 4 (ints (spreadTo a a.n.toNat)):=by
 refine fnStart (n:=34) (e:=[(0,vS a)]) Tryd.func32 Z Z Z Z Ends.both ?_
 have ha:=validB_fine hv
 have hsa:=ha.small
 have hn:=ha.lo
 have hn8:=ha.hi;refine zH (qC (jH (v:=vS a) Z Z Z Z Z fun p1 hp1=>?_))
 show Ll _ _ (Own _ _ [(p1,.cells #[.int .i64 a.n,str a.set,str a.rel] 24 (0,0))]) _ _ ((1,.pointer (some ⟨p1,0,none⟩))::_) _ _ _;refine zJ Z (yJ Z Z) (zG (yM (e':=[(1,.pointer (some ⟨p1,0,none⟩))]) (Sub.cons Z Sub.nil) (zH (zH (zC (zM (v:=vS a) Z (qR (cs:=#[.int .i64 a.n,str a.set,str a.rel]) 0 Z qO Z Z qJ) (zM (v:=.bool true) Z (qX Z Tryd.call52 Z qK (fun w1 hw1=>known_b hv (isStructure_ok a w1 hsa))) (zM (v:=.bool false) Z (OpQ.notT Z Z) (zN (yM (e':=[(1,.pointer (some ⟨p1,0,none⟩)),(8,.bool false)]) (Sub.cons Z (Sub.cons Z Sub.nil)) (xJ Z (qQ (yM (e':=[(1,.pointer (some ⟨p1,0,none⟩))]) (Sub.cons Z Sub.nil) (zH (qC (Ll.make (k:=4) jL Tryd.zeroValue3 Z Z Z Z Z (by omega) fun p9 hp9=>?_))))))))))))))))
 rw [show madeCells (Value.cells (.int .i64 0)) (4*1)=(ints (List.replicate 4 0)).toArray from made_ints _];refine zJ Z (yJ Z Z) (zG (yM (e':=[(1,.pointer (some ⟨p1,0,none⟩)),(3,.slice (some ⟨p9,0,none⟩) 4 4)]) (Sub.cons Z (Sub.cons Z Sub.nil)) (zH (zH (zC (zM (v:=.pointer (some ⟨p1,0,none⟩)) Z (zD Z zZ Z zE Z Z) (zM (v:=.int .i64 a.n) Z (zO 1 Z zT Z Z Z) (zM Z (xC Z Z) (zN (yM (e':=[(1,.pointer (some ⟨p1,0,none⟩)),(3,.slice (some ⟨p9,0,none⟩) 4 4),(11,.int .i64 a.n),(12,.int .i64 0)]) (Sub.cons Z (Sub.cons Z (Sub.cons Z (Sub.cons Z Sub.nil)))) (qU (jP (σ:=Nat) (fun k=>(k:Int)≤a.n) (fun k=>[(1,.pointer (some ⟨p1,0,none⟩)),(3,.slice (some ⟨p9,0,none⟩) 4 4),(11,.int .i64 a.n),(12,.int .i64 (k:Int))]) (fun k=>Own w.heap.size w [(p9,.cells ((ints (spreadTo a k)).toArray) 3 (0,0)),(p1,.cells #[.int .i64 a.n,str a.set,str a.rel] 24 (0,0))]) (fun k=>(a.n - k).toNat) (0) (by omega) (Sub.cons Z (Sub.cons Z (Sub.cons Z (Sub.cons Z Sub.nil)))) (fun _ h=>h) ?_))))))))))))
 rintro k hk;refine zH (zC (zM (v:=.bool (decide ((k:Int)<a.n))) Z (OpQ.lss Z Z Z) (zN (yM (e':=[(1,.pointer (some ⟨p1,0,none⟩)),(3,.slice (some ⟨p9,0,none⟩) 4 4),(11,.int .i64 a.n),(12,.int .i64 (k:Int)),(13,.bool (decide ((k:Int)<a.n)))]) (Sub.cons Z (Sub.cons Z (Sub.cons Z (Sub.cons Z (Sub.cons Z Sub.nil))))) (zH (qW (b:=decide ((k:Int)<a.n)) Z (fun h13=>?_) (fun h13=>?_)))))))
 ·
  replace h13:=zV h13
  have hel:a.El k:=⟨by omega,by omega⟩;refine qQ (yM (e':=[(1,.pointer (some ⟨p1,0,none⟩)),(3,.slice (some ⟨p9,0,none⟩) 4 4),(11,.int .i64 a.n),(12,.int .i64 (k:Int))]) (Sub.cons Z (Sub.cons Z (Sub.cons Z (Sub.cons Z Sub.nil)))) (zH (qU (zH (zC (zM Z (xC Z Z) (zM Z (yJ Z Z) (zN (yM (e':=[(1,.pointer (some ⟨p1,0,none⟩)),(3,.slice (some ⟨p9,0,none⟩) 4 4),(4,.int .i64 (k:Int)),(11,.int .i64 a.n),(12,.int .i64 (k:Int))]) (Sub.cons Z (Sub.cons Z (Sub.cons Z (Sub.cons Z (Sub.cons Z Sub.nil))))) (zH (zC (zM Z (yJ Z Z) (zN (yM (e':=[(1,.pointer (some ⟨p1,0,none⟩)),(3,.slice (some ⟨p9,0,none⟩) 4 4),(4,.int .i64 (k:Int)),(5,.int .i64 0),(11,.int .i64 a.n),(12,.int .i64 (k:Int))]) (Sub.cons Z (Sub.cons Z (Sub.cons Z (Sub.cons Z (Sub.cons Z (Sub.cons Z Sub.nil)))))) (zH (zH (zC (zM (v:=vS a) Z (qR (cs:=#[.int .i64 a.n,str a.set,str a.rel]) 1 Z qO Z Z qJ) (zM Z (xC Z Z) (zM (v:=.bool (a.inSet (k:Int))) Z (qX Z Tryd.call82 Z qK (fun w1 hw1=>inSet_ok a (k:Int) w1 ha (by first | assumption | exact St.Els.at (by assumption) (by omega) (by omega)))) (zN (yM (e':=[(1,.pointer (some ⟨p1,0,none⟩)),(3,.slice (some ⟨p9,0,none⟩) 4 4),(4,.int .i64 (k:Int)),(5,.int .i64 0),(11,.int .i64 a.n),(12,.int .i64 (k:Int)),(17,.bool (a.inSet (k:Int)))]) (Sub.cons Z (Sub.cons Z (Sub.cons Z (Sub.cons Z (Sub.cons Z (Sub.cons Z (Sub.cons Z Sub.nil))))))) (qW (b:=a.inSet (k:Int)) Z (fun h17=>?_) (fun h17=>?_))))))))))))))))))))))))
  ·
   refine zC (zM Z (xC Z Z) (zM (v:=.int .i64 ((0:Int)+(1:Int))) Z (yE Z Z Z (by omega) (by omega)) (zM Z (yJ Z Z) (zN (yM (e':=[(1,.pointer (some ⟨p1,0,none⟩)),(3,.slice (some ⟨p9,0,none⟩) 4 4),(4,.int .i64 (k:Int)),(5,.int .i64 ((0:Int)+(1:Int))),(11,.int .i64 a.n),(12,.int .i64 (k:Int))]) (Sub.cons Z (Sub.cons Z (Sub.cons Z (Sub.cons Z (Sub.cons Z (Sub.cons Z Sub.nil)))))) (zH (zH (zC (zM (v:=vS a) Z (qR (cs:=#[.int .i64 a.n,str a.set,str a.rel]) 1 Z qO Z Z qJ) (zM Z (xC Z Z) (zM Z (xC Z Z) (zM (v:=.bool (a.inRel (k:Int) (k:Int))) Z (qX Z Tryd.call83 Z qK (fun w1 hw1=>inRel_ok a (k:Int) (k:Int) w1 ha (by first | assumption | exact St.Els.at (by assumption) (by omega) (by omega)) (by first | assumption | exact St.Els.at (by assumption) (by omega) (by omega)))) (zN (yM (e':=[(1,.pointer (some ⟨p1,0,none⟩)),(3,.slice (some ⟨p9,0,none⟩) 4 4),(5,.int .i64 ((0:Int)+(1:Int))),(11,.int .i64 a.n),(12,.int .i64 (k:Int)),(23,.bool (a.inRel (k:Int) (k:Int)))]) (Sub.cons Z (Sub.cons Z (Sub.cons Z (Sub.cons Z (Sub.cons Z (Sub.cons Z Sub.nil)))))) (qW (b:=a.inRel (k:Int) (k:Int)) Z (fun h23=>?_) (fun h23=>?_))))))))))))))))
   ·
    refine zC (zM Z (xC Z Z) (zM (v:=.int .i64 (((0:Int)+(1:Int))+(2:Int))) Z (yE Z Z Z (by omega) (by omega)) (zM Z (yJ Z Z) (zN (yM (e':=[(1,.pointer (some ⟨p1,0,none⟩)),(3,.slice (some ⟨p9,0,none⟩) 4 4),(5,.int .i64 (((0:Int)+(1:Int))+(2:Int))),(11,.int .i64 a.n),(12,.int .i64 (k:Int))]) (Sub.cons Z (Sub.cons Z (Sub.cons Z (Sub.cons Z (Sub.cons Z Sub.nil))))) (qC (zJ Z (xC Z Z) (zJ Z (xC Z Z) (zJ (v:=.pointer (some ⟨p9,0+(((0:Int)+(1:Int))+(2:Int)).toNat,none⟩)) Z (qY Z qF zE Z Z (by omega) (by omega)) (zJ (v:=.int .i64 ((spreadTo a k).getD (0+(((0:Int)+(1:Int))+(2:Int)).toNat) 0)) Z (yS 0 Z zT Z Z (Go.Wk.ints_at (by first | (simp;done) | (simp;omega) | omega))) (zJ (v:=.int .i64 (((spreadTo a k).getD (0+(((0:Int)+(1:Int))+(2:Int)).toNat) 0)+(1:Int))) Z (yE Z Z Z (bd_lo (spread_bd a k _)) (bd_hi (spread_bd a k _) (by omega))) (zJ (v:=.pointer (some ⟨p9,0+(((0:Int)+(1:Int))+(2:Int)).toNat,none⟩)) Z (qY Z qF zE Z Z (by omega) (by omega)) (qB (v:=.int .i64 (((spreadTo a k).getD (0+(((0:Int)+(1:Int))+(2:Int)).toNat) 0)+(1:Int))) (hs':=[(p9,.cells ((ints ((spreadTo a k).set ((((0:Int)+(1:Int))+(2:Int)).toNat) (((spreadTo a k).getD (0+(((0:Int)+(1:Int))+(2:Int)).toNat) 0)+(1:Int)))).toArray) 3 (0,0)),(p1,.cells #[.int .i64 a.n,str a.set,str a.rel] 24 (0,0))]) 0 Z Z Z Z Z Z zE Z (by first | (simp;done) | (simp;omega) | omega) (by first | (rw [ints_set];rfl) | (simp only [Nat.zero_add];rw [ints_set];rfl)) (zG (yM (e':=[(1,.pointer (some ⟨p1,0,none⟩)),(3,.slice (some ⟨p9,0,none⟩) 4 4),(11,.int .i64 a.n),(12,.int .i64 (k:Int))]) (Sub.cons Z (Sub.cons Z (Sub.cons Z (Sub.cons Z Sub.nil)))) (zC (zM (v:=.int .i64 ((k:Int)+(1:Int))) Z (yE Z Z Z (by omega) (by omega)) (zM Z (xC Z Z) (zN (xH (k+1) (by omega) (by omega) (Sub.cons Z (Sub.cons Z (Sub.cons Z (Sub.cons Z Sub.nil)))) (fun _ h=>by rw [show spreadTo a (k+1)=(spreadTo a k).set ((((0:Int)+(1:Int))+(2:Int)).toNat) (((spreadTo a k).getD (0+(((0:Int)+(1:Int))+(2:Int)).toNat) 0)+(1:Int)) from (by simp [spreadTo,kindN, *])];exact h)))))))))))))))))))))
   refine qQ (yM (e':=[(1,.pointer (some ⟨p1,0,none⟩)),(3,.slice (some ⟨p9,0,none⟩) 4 4),(5,.int .i64 ((0:Int)+(1:Int))),(11,.int .i64 a.n),(12,.int .i64 (k:Int))]) (Sub.cons Z (Sub.cons Z (Sub.cons Z (Sub.cons Z (Sub.cons Z Sub.nil))))) (qC (zJ Z (xC Z Z) (zJ Z (xC Z Z) (zJ (v:=.pointer (some ⟨p9,0+((0:Int)+(1:Int)).toNat,none⟩)) Z (qY Z qF zE Z Z (by omega) (by omega)) (zJ (v:=.int .i64 ((spreadTo a k).getD (0+((0:Int)+(1:Int)).toNat) 0)) Z (yS 0 Z zT Z Z (Go.Wk.ints_at (by first | (simp;done) | (simp;omega) | omega))) (zJ (v:=.int .i64 (((spreadTo a k).getD (0+((0:Int)+(1:Int)).toNat) 0)+(1:Int))) Z (yE Z Z Z (bd_lo (spread_bd a k _)) (bd_hi (spread_bd a k _) (by omega))) (zJ (v:=.pointer (some ⟨p9,0+((0:Int)+(1:Int)).toNat,none⟩)) Z (qY Z qF zE Z Z (by omega) (by omega)) (qB (v:=.int .i64 (((spreadTo a k).getD (0+((0:Int)+(1:Int)).toNat) 0)+(1:Int))) (hs':=[(p9,.cells ((ints ((spreadTo a k).set (((0:Int)+(1:Int)).toNat) (((spreadTo a k).getD (0+((0:Int)+(1:Int)).toNat) 0)+(1:Int)))).toArray) 3 (0,0)),(p1,.cells #[.int .i64 a.n,str a.set,str a.rel] 24 (0,0))]) 0 Z Z Z Z Z Z zE Z (by first | (simp;done) | (simp;omega) | omega) (by first | (rw [ints_set];rfl) | (simp only [Nat.zero_add];rw [ints_set];rfl)) (zG (yM (e':=[(1,.pointer (some ⟨p1,0,none⟩)),(3,.slice (some ⟨p9,0,none⟩) 4 4),(11,.int .i64 a.n),(12,.int .i64 (k:Int))]) (Sub.cons Z (Sub.cons Z (Sub.cons Z (Sub.cons Z Sub.nil)))) (zC (zM (v:=.int .i64 ((k:Int)+(1:Int))) Z (yE Z Z Z (by omega) (by omega)) (zM Z (xC Z Z) (zN (xH (k+1) (by omega) (by omega) (Sub.cons Z (Sub.cons Z (Sub.cons Z (Sub.cons Z Sub.nil)))) (fun _ h=>by rw [show spreadTo a (k+1)=(spreadTo a k).set (((0:Int)+(1:Int)).toNat) (((spreadTo a k).getD (0+((0:Int)+(1:Int)).toNat) 0)+(1:Int)) from (by simp [spreadTo,kindN, *])];exact h)))))))))))))))))
  refine qQ (yM (e':=[(1,.pointer (some ⟨p1,0,none⟩)),(3,.slice (some ⟨p9,0,none⟩) 4 4),(4,.int .i64 (k:Int)),(5,.int .i64 0),(11,.int .i64 a.n),(12,.int .i64 (k:Int))]) (Sub.cons Z (Sub.cons Z (Sub.cons Z (Sub.cons Z (Sub.cons Z (Sub.cons Z Sub.nil)))))) (zH (zH (zC (zM (v:=vS a) Z (qR (cs:=#[.int .i64 a.n,str a.set,str a.rel]) 1 Z qO Z Z qJ) (zM Z (xC Z Z) (zM Z (xC Z Z) (zM (v:=.bool (a.inRel (k:Int) (k:Int))) Z (qX Z Tryd.call83 Z qK (fun w1 hw1=>inRel_ok a (k:Int) (k:Int) w1 ha (by first | assumption | exact St.Els.at (by assumption) (by omega) (by omega)) (by first | assumption | exact St.Els.at (by assumption) (by omega) (by omega)))) (zN (yM (e':=[(1,.pointer (some ⟨p1,0,none⟩)),(3,.slice (some ⟨p9,0,none⟩) 4 4),(5,.int .i64 0),(11,.int .i64 a.n),(12,.int .i64 (k:Int)),(23,.bool (a.inRel (k:Int) (k:Int)))]) (Sub.cons Z (Sub.cons Z (Sub.cons Z (Sub.cons Z (Sub.cons Z (Sub.cons Z Sub.nil)))))) (qW (b:=a.inRel (k:Int) (k:Int)) Z (fun h23_1=>?_) (fun h23_1=>?_))))))))))))
  ·
   refine zC (zM Z (xC Z Z) (zM (v:=.int .i64 ((0:Int)+(2:Int))) Z (yE Z Z Z (by omega) (by omega)) (zM Z (yJ Z Z) (zN (yM (e':=[(1,.pointer (some ⟨p1,0,none⟩)),(3,.slice (some ⟨p9,0,none⟩) 4 4),(5,.int .i64 ((0:Int)+(2:Int))),(11,.int .i64 a.n),(12,.int .i64 (k:Int))]) (Sub.cons Z (Sub.cons Z (Sub.cons Z (Sub.cons Z (Sub.cons Z Sub.nil))))) (qC (zJ Z (xC Z Z) (zJ Z (xC Z Z) (zJ (v:=.pointer (some ⟨p9,0+((0:Int)+(2:Int)).toNat,none⟩)) Z (qY Z qF zE Z Z (by omega) (by omega)) (zJ (v:=.int .i64 ((spreadTo a k).getD (0+((0:Int)+(2:Int)).toNat) 0)) Z (yS 0 Z zT Z Z (Go.Wk.ints_at (by first | (simp;done) | (simp;omega) | omega))) (zJ (v:=.int .i64 (((spreadTo a k).getD (0+((0:Int)+(2:Int)).toNat) 0)+(1:Int))) Z (yE Z Z Z (bd_lo (spread_bd a k _)) (bd_hi (spread_bd a k _) (by omega))) (zJ (v:=.pointer (some ⟨p9,0+((0:Int)+(2:Int)).toNat,none⟩)) Z (qY Z qF zE Z Z (by omega) (by omega)) (qB (v:=.int .i64 (((spreadTo a k).getD (0+((0:Int)+(2:Int)).toNat) 0)+(1:Int))) (hs':=[(p9,.cells ((ints ((spreadTo a k).set (((0:Int)+(2:Int)).toNat) (((spreadTo a k).getD (0+((0:Int)+(2:Int)).toNat) 0)+(1:Int)))).toArray) 3 (0,0)),(p1,.cells #[.int .i64 a.n,str a.set,str a.rel] 24 (0,0))]) 0 Z Z Z Z Z Z zE Z (by first | (simp;done) | (simp;omega) | omega) (by first | (rw [ints_set];rfl) | (simp only [Nat.zero_add];rw [ints_set];rfl)) (zG (yM (e':=[(1,.pointer (some ⟨p1,0,none⟩)),(3,.slice (some ⟨p9,0,none⟩) 4 4),(11,.int .i64 a.n),(12,.int .i64 (k:Int))]) (Sub.cons Z (Sub.cons Z (Sub.cons Z (Sub.cons Z Sub.nil)))) (zC (zM (v:=.int .i64 ((k:Int)+(1:Int))) Z (yE Z Z Z (by omega) (by omega)) (zM Z (xC Z Z) (zN (xH (k+1) (by omega) (by omega) (Sub.cons Z (Sub.cons Z (Sub.cons Z (Sub.cons Z Sub.nil)))) (fun _ h=>by rw [show spreadTo a (k+1)=(spreadTo a k).set (((0:Int)+(2:Int)).toNat) (((spreadTo a k).getD (0+((0:Int)+(2:Int)).toNat) 0)+(1:Int)) from (by simp [spreadTo,kindN, *])];exact h)))))))))))))))))))))
  refine qQ (yM (e':=[(1,.pointer (some ⟨p1,0,none⟩)),(3,.slice (some ⟨p9,0,none⟩) 4 4),(5,.int .i64 0),(11,.int .i64 a.n),(12,.int .i64 (k:Int))]) (Sub.cons Z (Sub.cons Z (Sub.cons Z (Sub.cons Z (Sub.cons Z Sub.nil))))) (qC (zJ Z (xC Z Z) (zJ Z (xC Z Z) (zJ (v:=.pointer (some ⟨p9,0+(0:Int).toNat,none⟩)) Z (qY Z qF zE Z Z (by omega) (by omega)) (zJ (v:=.int .i64 ((spreadTo a k).getD (0+(0:Int).toNat) 0)) Z (yS 0 Z zT Z Z (Go.Wk.ints_at (by first | (simp;done) | (simp;omega) | omega))) (zJ (v:=.int .i64 (((spreadTo a k).getD (0+(0:Int).toNat) 0)+(1:Int))) Z (yE Z Z Z (bd_lo (spread_bd a k _)) (bd_hi (spread_bd a k _) (by omega))) (zJ (v:=.pointer (some ⟨p9,0+(0:Int).toNat,none⟩)) Z (qY Z qF zE Z Z (by omega) (by omega)) (qB (v:=.int .i64 (((spreadTo a k).getD (0+(0:Int).toNat) 0)+(1:Int))) (hs':=[(p9,.cells ((ints ((spreadTo a k).set ((0:Int).toNat) (((spreadTo a k).getD (0+(0:Int).toNat) 0)+(1:Int)))).toArray) 3 (0,0)),(p1,.cells #[.int .i64 a.n,str a.set,str a.rel] 24 (0,0))]) 0 Z Z Z Z Z Z zE Z (by first | (simp;done) | (simp;omega) | omega) (by first | (rw [ints_set];rfl) | (simp only [Nat.zero_add];rw [ints_set];rfl)) (zG (yM (e':=[(1,.pointer (some ⟨p1,0,none⟩)),(3,.slice (some ⟨p9,0,none⟩) 4 4),(11,.int .i64 a.n),(12,.int .i64 (k:Int))]) (Sub.cons Z (Sub.cons Z (Sub.cons Z (Sub.cons Z Sub.nil)))) (zC (zM (v:=.int .i64 ((k:Int)+(1:Int))) Z (yE Z Z Z (by omega) (by omega)) (zM Z (xC Z Z) (zN (xH (k+1) (by omega) (by omega) (Sub.cons Z (Sub.cons Z (Sub.cons Z (Sub.cons Z Sub.nil)))) (fun _ h=>by rw [show spreadTo a (k+1)=(spreadTo a k).set ((0:Int).toNat) (((spreadTo a k).getD (0+(0:Int).toNat) 0)+(1:Int)) from (by simp [spreadTo,kindN, *])];exact h)))))))))))))))))
 replace h13:=zU h13;refine xO Z (yM (e':=[(3,.slice (some ⟨p9,0,none⟩) 4 4)]) (Sub.cons Z Sub.nil) (zH (zC (zM Z (xC Z Z) (zM Z (yJ Z Z) (zN (yM (e':=[(2,.slice (some ⟨p9,0,none⟩) 4 4)]) (Sub.cons Z Sub.nil) (qN (qS Z Z fun w' hw=>?_)))))))))
 obtain rfl:k=a.n.toNat:=by omega
 exact ⟨_,rfl,hw.below,hw.newRow (i:=0) (n:=4) rfl (by simp) (by omega) (by simp [List.take_of_length_le])⟩
set_option maxHeartbeats 400000 in
theorem iSpread_no (a:St) (w:World) (hsa:a.Small) (hv:validB a=false) :
    Calls Tryd.prog 32 [vS a].toArray w fun en w'=>en=.returned (.slice none 0 0)∧Below w.heap.size w w':=by
 refine fnStart (n:=34) (e:=[(0,vS a)]) Tryd.func32 Z Z Z Z Ends.both (zH (qC (jH (v:=vS a) Z Z Z Z Z fun p1 hp1=>?_)))
 show Ll _ _ (Own _ _ [(p1,.cells #[.int .i64 a.n,str a.set,str a.rel] 24 (0,0))]) _ _ ((1,.pointer (some ⟨p1,0,none⟩))::_) _ _ _;refine zJ Z (yJ Z Z) (zG (yM (e':=[(1,.pointer (some ⟨p1,0,none⟩))]) (Sub.cons Z Sub.nil) (zH (zH (zC (zM (v:=vS a) Z (qR (cs:=#[.int .i64 a.n,str a.set,str a.rel]) 0 Z qO Z Z qJ) (zM (v:=.bool false) Z (qX Z Tryd.call52 Z qK (fun w1 hw1=>known_b hv (isStructure_ok a w1 hsa))) (zM (v:=.bool true) Z (OpQ.notF Z Z) (zN (yM (e':=[(1,.pointer (some ⟨p1,0,none⟩)),(8,.bool true)]) (Sub.cons Z (Sub.cons Z Sub.nil)) (xE Z (zH (zC (zM Z (yJ Z Z) (zN (yM (e':=[(2,.slice none 0 0)]) (Sub.cons Z Sub.nil) (qN (qS Z Z fun w' hw=>?_))))))))))))))))))
 exact ⟨rfl,hw.below⟩
set_option maxHeartbeats 400000 in
theorem sSpread_yes (a:St) (w:World) (hv:validB a=true) :
    Calls Tryd.prog 33 [vS a].toArray w fun en w'=>∃ v,en=.returned v∧Below w.heap.size w w'∧NewRow w.heap.size 3 1 w' v 4 (ints (spreadTo a a.n.toNat)):=by
 refine fnStart (n:=37) (e:=[(0,vS a)]) Tryd.func33 Z Z Z Z Ends.both ?_
 have ha:=validB_fine hv
 have hsa:=ha.small
 have hn:=ha.lo
 have hn8:=ha.hi;refine zH (qC (jH (v:=vS a) Z Z Z Z Z fun p1 hp1=>?_))
 show Ll _ _ (Own _ _ [(p1,.cells #[.int .i64 a.n,str a.set,str a.rel] 24 (0,0))]) _ _ ((1,.pointer (some ⟨p1,0,none⟩))::_) _ _ _;refine zJ Z (yJ Z Z) (zG (yM (e':=[(1,.pointer (some ⟨p1,0,none⟩))]) (Sub.cons Z Sub.nil) (zH (qC (yT (xs:=[.const (.int .i64 0),.const (.int .i64 0),.const (.int .i64 0),.const (.int .i64 0)]) (vs:=[.int .i64 0,.int .i64 0,.int .i64 0,.int .i64 0]) jL Z Z Z Z Z Z (by decide) Z fun p6 hp6=>(zJ Z (yJ Z Z) (zG (yM (e':=[(1,.pointer (some ⟨p1,0,none⟩)),(3,.slice (some ⟨p6,0,none⟩) 4 4)]) (Sub.cons Z (Sub.cons Z Sub.nil)) (zH (zH (zC (zM (v:=vS a) Z (qR (cs:=#[.int .i64 a.n,str a.set,str a.rel]) 1 Z qO Z Z qJ) (zM (v:=.bool true) Z (qX Z Tryd.call56 Z qK (fun w1 hw1=>known_b hv (sValid_ok a w1 hsa))) (zM (v:=.bool false) Z (OpQ.notT Z Z) (zN (yM (e':=[(1,.pointer (some ⟨p1,0,none⟩)),(3,.slice (some ⟨p6,0,none⟩) 4 4),(9,.bool false)]) (Sub.cons Z (Sub.cons Z (Sub.cons Z Sub.nil))) (xJ Z (qQ (yM (e':=[(1,.pointer (some ⟨p1,0,none⟩)),(3,.slice (some ⟨p6,0,none⟩) 4 4)]) (Sub.cons Z (Sub.cons Z Sub.nil)) (zH (zH (zC (zM Z (yJ Z Z) (zN (yM (e':=[(1,.pointer (some ⟨p1,0,none⟩)),(3,.slice (some ⟨p6,0,none⟩) 4 4),(4,.int .i64 0)]) (Sub.cons Z (Sub.cons Z (Sub.cons Z Sub.nil))) (qU (jP (σ:=Nat) (fun k=>(k:Int)≤a.n) (fun k=>[(1,.pointer (some ⟨p1,0,none⟩)),(3,.slice (some ⟨p6,0,none⟩) 4 4),(4,.int .i64 (k:Int))]) (fun k=>Own w.heap.size w [(p6,.cells ((ints (spreadTo a k)).toArray) 3 (0,0)),(p1,.cells #[.int .i64 a.n,str a.set,str a.rel] 24 (0,0))]) (fun k=>(a.n - k).toNat) (0) (by omega) (Sub.cons Z (Sub.cons Z (Sub.cons Z Sub.nil))) (fun _ h=>h) ?_)))))))))))))))))))))))))))
 rintro k hk;refine zH (zH (zC (zM Z (xC Z Z) (zM (v:=.pointer (some ⟨p1,0,none⟩)) Z (zD Z zZ Z zE Z Z) (zM (v:=.int .i64 a.n) Z (zO 1 Z zT Z Z Z) (zM (v:=.bool (decide ((k:Int)<a.n))) Z (OpQ.lss Z Z Z) (zN (yM (e':=[(1,.pointer (some ⟨p1,0,none⟩)),(3,.slice (some ⟨p6,0,none⟩) 4 4),(4,.int .i64 (k:Int)),(14,.bool (decide ((k:Int)<a.n)))]) (Sub.cons Z (Sub.cons Z (Sub.cons Z (Sub.cons Z Sub.nil)))) (qW (b:=decide ((k:Int)<a.n)) Z (fun h14=>?_) (fun h14=>?_))))))))))
 ·
  replace h14:=zV h14
  have hel:a.El k:=⟨by omega,by omega⟩;refine qQ (yM (e':=[(1,.pointer (some ⟨p1,0,none⟩)),(3,.slice (some ⟨p6,0,none⟩) 4 4),(4,.int .i64 (k:Int))]) (Sub.cons Z (Sub.cons Z (Sub.cons Z Sub.nil))) (zH (qU (zH (Wk.regionD yP (fun _ h=>h.drawn) (by kernel_rfl) (zM (v:=vS a) Z (qR (cs:=#[.int .i64 a.n,str a.set,str a.rel]) 1 Z qO Z Z qJ) (zM Z (xC Z Z) (zM (v:=.bool (a.inSet (k:Int))) Z (qX Z Tryd.call86 Z qK (fun w1 hw1=>l1Set_ok a (k:Int) w1 ha (by first | assumption | exact St.Els.at (by assumption) (by omega) (by omega)))) (zM (v:=.int .i64 (if a.inSet (k:Int) then 1 else 0)) Z (qX Z Tryd.call85 Z qK (fun w1 hw1=>l2Int_ok (a.inSet (k:Int)) w1 )) (zM (v:=vS a) Z (qR (cs:=#[.int .i64 a.n,str a.set,str a.rel]) 1 Z qO Z Z qJ) (zM Z (xC Z Z) (zM Z (xC Z Z) (zM (v:=.bool (a.inRel (k:Int) (k:Int))) Z (qX Z Tryd.call87 Z qK (fun w1 hw1=>l1Rel_ok a (k:Int) (k:Int) w1 ha (by first | assumption | exact St.Els.at (by assumption) (by omega) (by omega)) (by first | assumption | exact St.Els.at (by assumption) (by omega) (by omega)))) (zM (v:=.int .i64 (if a.inRel (k:Int) (k:Int) then 1 else 0)) Z (qX Z Tryd.call85 Z qK (fun w1 hw1=>l2Int_ok (a.inRel (k:Int) (k:Int)) w1 )) (zM (v:=.int .i64 ((2:Int)*(if a.inRel (k:Int) (k:Int) then 1 else 0))) Z (OpQ.mul Z Z Z (by (repeat split) <;> omega) (by (repeat split) <;> omega)) (zM (v:=.int .i64 ((if a.inSet (k:Int) then 1 else 0)+((2:Int)*(if a.inRel (k:Int) (k:Int) then 1 else 0)))) Z (yE Z Z Z (by (repeat split) <;> omega) (by (repeat split) <;> omega)) (zM Z (yJ Z Z) (zN (yM (e':=[(1,.pointer (some ⟨p1,0,none⟩)),(3,.slice (some ⟨p6,0,none⟩) 4 4),(4,.int .i64 (k:Int)),(5,.int .i64 ((if a.inSet (k:Int) then 1 else 0)+((2:Int)*(if a.inRel (k:Int) (k:Int) then 1 else 0))))]) (Sub.cons Z (Sub.cons Z (Sub.cons Z (Sub.cons Z Sub.nil)))) (qC (zJ Z (xC Z Z) (zJ Z (xC Z Z) (zJ Z (xC Z Z) (zJ Z (xC Z Z) (zJ (v:=.pointer (some ⟨p6,0+((if a.inSet (k:Int) then 1 else 0)+((2:Int)*(if a.inRel (k:Int) (k:Int) then 1 else 0))).toNat,none⟩)) Z (qY Z qF zE Z Z (by (repeat split) <;> omega) (by (repeat split) <;> omega)) (zJ (v:=.int .i64 ((spreadTo a k).getD (0+((if a.inSet (k:Int) then 1 else 0)+((2:Int)*(if a.inRel (k:Int) (k:Int) then 1 else 0))).toNat) 0)) Z (yS 0 Z zT Z Z (Go.Wk.ints_at (by first | (simp;done) | (simp;omega) | omega))) (zJ (v:=.int .i64 (((spreadTo a k).getD (0+((if a.inSet (k:Int) then 1 else 0)+((2:Int)*(if a.inRel (k:Int) (k:Int) then 1 else 0))).toNat) 0)+(1:Int))) Z (yE Z Z Z (bd_lo (spread_bd a k _)) (bd_hi (spread_bd a k _) (by omega))) (zJ (v:=.pointer (some ⟨p6,0+((if a.inSet (k:Int) then 1 else 0)+((2:Int)*(if a.inRel (k:Int) (k:Int) then 1 else 0))).toNat,none⟩)) Z (qY Z qF zE Z Z (by (repeat split) <;> omega) (by (repeat split) <;> omega)) (qB (v:=.int .i64 (((spreadTo a k).getD (0+((if a.inSet (k:Int) then 1 else 0)+((2:Int)*(if a.inRel (k:Int) (k:Int) then 1 else 0))).toNat) 0)+(1:Int))) (hs':=[(p6,.cells ((ints ((spreadTo a k).set (((if a.inSet (k:Int) then 1 else 0)+((2:Int)*(if a.inRel (k:Int) (k:Int) then 1 else 0))).toNat) (((spreadTo a k).getD (0+((if a.inSet (k:Int) then 1 else 0)+((2:Int)*(if a.inRel (k:Int) (k:Int) then 1 else 0))).toNat) 0)+(1:Int)))).toArray) 3 (0,0)),(p1,.cells #[.int .i64 a.n,str a.set,str a.rel] 24 (0,0))]) 0 Z Z Z Z Z Z zE Z (by first | (simp;done) | (simp;omega) | omega) (by first | (rw [ints_set];rfl) | (simp only [Nat.zero_add];rw [ints_set];rfl)) (zG (yM (e':=[(1,.pointer (some ⟨p1,0,none⟩)),(3,.slice (some ⟨p6,0,none⟩) 4 4),(4,.int .i64 (k:Int))]) (Sub.cons Z (Sub.cons Z (Sub.cons Z Sub.nil))) (zC (zM Z (xC Z Z) (zM (v:=.int .i64 ((k:Int)+(1:Int))) Z (yE Z Z Z (by omega) (by omega)) (zM Z (yJ Z Z) (zN (xH (k+1) (by omega) (by omega) (Sub.cons Z (Sub.cons Z (Sub.cons Z Sub.nil))) (fun _ h=>by rw [show spreadTo a (k+1)=(spreadTo a k).set (((if a.inSet (k:Int) then 1 else 0)+((2:Int)*(if a.inRel (k:Int) (k:Int) then 1 else 0))).toNat) (((spreadTo a k).getD (0+((if a.inSet (k:Int) then 1 else 0)+((2:Int)*(if a.inRel (k:Int) (k:Int) then 1 else 0))).toNat) 0)+(1:Int)) from (by simp only [spreadTo,Nat.zero_add,kind_toNat])];exact h))))))))))))))))))))))))))))))))))))))
 replace h14:=zU h14;refine xO Z (yM (e':=[(3,.slice (some ⟨p6,0,none⟩) 4 4)]) (Sub.cons Z Sub.nil) (zH (zC (zM Z (xC Z Z) (zM Z (yJ Z Z) (zN (yM (e':=[(2,.slice (some ⟨p6,0,none⟩) 4 4)]) (Sub.cons Z Sub.nil) (qN (qS Z Z fun w' hw=>?_)))))))))
 obtain rfl:k=a.n.toNat:=by omega
 exact ⟨_,rfl,hw.below,hw.newRow (i:=0) (n:=4) rfl (by simp) (by omega) (by simp [List.take_of_length_le])⟩
set_option maxHeartbeats 400000 in
theorem sSpread_no (a:St) (w:World) (hsa:a.Small) (hv:validB a=false) :
    Calls Tryd.prog 33 [vS a].toArray w fun en w'=>∃ v,en=.returned v∧Below w.heap.size w w'∧NewRow w.heap.size 3 1 w' v 0 (ints []):=by
 refine fnStart (n:=37) (e:=[(0,vS a)]) Tryd.func33 Z Z Z Z Ends.both (zH (qC (jH (v:=vS a) Z Z Z Z Z fun p1 hp1=>?_)))
 show Ll _ _ (Own _ _ [(p1,.cells #[.int .i64 a.n,str a.set,str a.rel] 24 (0,0))]) _ _ ((1,.pointer (some ⟨p1,0,none⟩))::_) _ _ _;refine zJ Z (yJ Z Z) (zG (yM (e':=[(1,.pointer (some ⟨p1,0,none⟩))]) (Sub.cons Z Sub.nil) (zH (qC (yT (xs:=[.const (.int .i64 0),.const (.int .i64 0),.const (.int .i64 0),.const (.int .i64 0)]) (vs:=[.int .i64 0,.int .i64 0,.int .i64 0,.int .i64 0]) jL Z Z Z Z Z Z (by decide) Z fun p6 hp6=>(zJ Z (yJ Z Z) (zG (yM (e':=[(1,.pointer (some ⟨p1,0,none⟩)),(3,.slice (some ⟨p6,0,none⟩) 4 4)]) (Sub.cons Z (Sub.cons Z Sub.nil)) (zH (zH (zC (zM (v:=vS a) Z (qR (cs:=#[.int .i64 a.n,str a.set,str a.rel]) 1 Z qO Z Z qJ) (zM (v:=.bool false) Z (qX Z Tryd.call56 Z qK (fun w1 hw1=>known_b hv (sValid_ok a w1 hsa))) (zM (v:=.bool true) Z (OpQ.notF Z Z) (zN (yM (e':=[(1,.pointer (some ⟨p1,0,none⟩)),(3,.slice (some ⟨p6,0,none⟩) 4 4),(9,.bool true)]) (Sub.cons Z (Sub.cons Z (Sub.cons Z Sub.nil))) (xE Z (zH (qC (yT (xs:=[]) (vs:=[]) jL Z Z Z Z Z Z (by decide) Z fun p10 hp10=>(zJ Z (yJ Z Z) (zG (yM (e':=[(2,.slice (some ⟨p10,0,none⟩) 0 0)]) (Sub.cons Z Sub.nil) (qN (qS Z Z fun w' hw=>?_)))))))))))))))))))))))))
 exact ⟨_,rfl,hw.below,hw.newRow (i:=0) (n:=0) rfl (by simp) (by omega) (by simp [ints])⟩
end Go.Proofs.YtefiibghfgfdnaaDoor
namespace Go.Proofs.YtefiibghfgfdnaaDoor
open Go.RowKit Go.Wk
set_option linter.unusedSimpArgs false
set_option maxHeartbeats 400000 in
theorem iValid_ok (a:St) (w:World) (ha:a.Small) :
    Calls Tryd.prog 34 [vS a].toArray w fun en w'=>en=.returned (.bool (validB a))∧Below w.heap.size w w':=by
 refine fnStart (n:=5) (e:=[(0,vS a)]) Tryd.func34 Z Z Z Z Ends.both ?_
 have hsa:=ha;refine zH (qC (jH (v:=vS a) Z Z Z Z Z fun p1 hp1=>?_))
 show Ll _ _ (Own _ _ [_]) _ _ ((1,pt_ p1)::_) _ _ _;refine qD 1 Z (zG (zI [1] [_] Z (zH (zC (zM Z (qR (cs:=#[i6_ a.n,str a.set,str a.rel]) 0 Z qO Z Z qJ) (zM (v:=bo_ (validB a)) Z (qX Z Tryd.call52 Z qK (fun w1 hw1=>isStructure_ok a w1 hsa)) (zK 1 Z (zN (zI [2] [_] Z (qN (qS Z Z fun w' hw=>?_)))))))))))
 exact ⟨rfl,hw.below⟩
set_option maxHeartbeats 400000 in
theorem gsSame_ok (va vb:Value) (xs ys:List Int) (w:World) (hva:Ints w va xs) (hvb:Ints w vb ys) (hs1:xs.length≤1000000) (_hs2:ys.length≤1000000) :
    Calls Tryd.prog 18 [va,vb].toArray w fun en w'=>en=.returned (.bool (xs==ys))∧Below w.heap.size w w':=by
 refine fnStart (n:=26) (e:=[(0,va),(1,vb)]) Tryd.func18 Z Z Z Z Ends.both (zH (zC (zK 1 Z (zN (zI [0,1] [_,_] Z (zH (zH (zC (zK 1 Z (zM (v:=i6_ (xs.length:Int)) Z (xZ Z qF Z (ints_length _) (fun w1 hw1=>Row.own hva hw1)) (zK 1 Z (zM (v:=i6_ (ys.length:Int)) Z (xZ Z qF Z (ints_length _) (fun w1 hw1=>Row.own hvb hw1)) (zK 1 Z (zN (zI [0,1,10] [_,_,_] Z (qW (b:=!(decide ((xs.length:Int)=(ys.length:Int)))) Z (fun h10=>?_) (fun h10=>?_)))))))))))))))))
 ·
  replace h10:=not_true h10
  replace h10:=zU h10;refine zH (zC (zK 1 Z (zN (zI [4] [_] Z (qN (qS Z Z fun w' hw=>?_))))))
  exact ⟨ret_b (Eq.symm (beq_eq_false_iff_ne.2 fun e=>by rw [e] at h10;exact h10 rfl)),hw.below⟩
 replace h10:=not_false h10
 replace h10:=zV h10;refine qQ (zI [0,1] [_,_] Z (zH (zH (zC (zK 1 Z (zN (zI [0,1,5] [_,_,_] Z (qU (jP (σ:=Nat) (fun k=>k≤xs.length∧∀ i:Nat,i<k→xs.getD i 0=ys.getD i 0) (fun k=>[(0,va),(1,vb),(5,i6_ (k:Int))]) (fun k=>Own w.heap.size w []) (fun k=>xs.length - k) (0) ⟨by omega,fun i hi=>absurd hi (by omega)⟩ (Sub.sel [0,1,5] Z) (fun _ h=>h) ?_)))))))))
 rintro k ⟨hk,hall⟩;refine zH (zH (zC (zK 2 Z (zM (v:=i6_ (xs.length:Int)) Z (xZ Z qF Z (ints_length _) (fun w1 hw1=>Row.own hva hw1)) (zK 1 Z (zN (zI [0,1,5,14] [_,_,_,_] Z (xN Z (fun h14=>?_) (fun h14=>?_)))))))))
 ·
  refine qQ (zI [0,1,5] [_,_,_] Z (zH (qU (zH (Wk.regionD yP (fun _ h=>h.drawn) (by kernel_rfl) (zK 2 Z (zM (v:=.pointer (some (sAt va (k:Int)))) Z (xX Z qF zE Z Z (by omega) (by rw [ints_length];omega) (fun w1 hw1=>Row.own hva hw1)) (zM (v:=i6_ (xs.getD ((k:Int).toNat) 0)) Z (qG Z zT Z (fun w1 hw1=>Ints.cell (Row.own hva hw1) (by omega) (by omega))) (zK 2 Z (zM (v:=.pointer (some (sAt vb (k:Int)))) Z (xX Z qF zE Z Z (by omega) (by rw [ints_length];omega) (fun w1 hw1=>Row.own hvb hw1)) (zM (v:=i6_ (ys.getD ((k:Int).toNat) 0)) Z (qG Z zT Z (fun w1 hw1=>Ints.cell (Row.own hvb hw1) (by omega) (by omega))) (zK 1 Z (zN (zI [0,1,5,25] [_,_,_,_] Z (qW (b:=!(decide ((xs.getD ((k:Int).toNat) 0)=(ys.getD ((k:Int).toNat) 0)))) Z (fun h25=>?_) (fun h25=>?_))))))))))))))))
  ·
   replace h25:=not_true h25
   replace h25:=zU h25;refine zH (zC (zK 1 Z (zN (zI [4] [_] Z (qN (qS Z Z fun w' hw=>?_))))))
   exact ⟨ret_b (other_list (i:=k) (by simpa using h25)).symm,hw.below⟩
  replace h25:=not_false h25
  replace h25:=zV h25;refine qQ (zI [0,1,5] [_,_,_] Z (zC (zK 1 Z (zM Z (yE Z Z Z (by omega) (by omega)) (zK 1 Z (zN (xH (k+1) ⟨by omega,fun i hi=>(Nat.lt_succ_iff_lt_or_eq.1 hi).elim (hall i) (fun e=>by subst e;simpa using h25)⟩ (by omega) (Sub.sel [0,1,5] Z) (fun _ h=>h))))))))
 refine xO Z (zI [] [] Z (zH (zC (zK 1 Z (zN (zI [4] [_] Z (qN (qS Z Z fun w' hw=>?_))))))))
 exact ⟨ret_b (same_list (by omega) (fun i hi=>hall i (by omega))).symm,hw.below⟩
set_option maxHeartbeats 400000 in
theorem lawFnSpread (bv:Value) (L:List Int) (w:World) (hbv:Row w bv (u8s L)) (hL8:Bytes8 L) (hLm:L.length≤9223372036854775807) :
    Calls Tryd.prog 6 [bv].toArray w fun en w'=>en=.returned (.bool true)∧Below w.heap.size w w':=by
 refine fnStart (n:=106) (e:=[(0,bv)]) Tryd.func6 Z Z Z Z Ends.both (zH (zC (zK 1 Z (zN (zI [0] [_] Z (zH (zH (zC (zK 1 Z (zM (v:=i6_ (L.length:Int)) Z (xZ Z yD Z (u8s_length _) (fun w1 hw1=>Row.own hbv hw1)) (zK 1 Z (zN (zI [0,10] [_,_] Z (xN Z (fun h10=>?_) (fun h10=>?_)))))))))))))))
 ·
  refine zH (zC (zK 1 Z (zN (zI [2] [_] Z (qN (qS Z Z fun w' hw=>?_))))))
  exact ⟨rfl,hw.below⟩
 refine qQ (zI [0] [_] Z (zH (qC (qD 1 Z (jR (σ:=St) (ok:=fun (a)=>a.Tame) (v:=fun (a)=>vS a) (hs':=fun _=>[]) (xs:=[.tmp 11]) (vs:=[bv]) Z Z Z Z Tryd.call31 Z (fun w1 hw1=>(drawSpr_ok w.heap.size w [] bv L w1 (fun w2 hw2=>Row.own hbv hw2) hL8 (by omega) hw1).mono fun en w' ⟨a,h1,h2,h3⟩=>⟨(a),h1,h2,h3⟩) fun a12 hK=>?_)))))
 have hta12:a12.Tame:=hK
 have hsa12:=hta12.small
 have loa12:=hta12.lo
 have hia12:=hta12.hi
 show Ll _ _ (Own _ _ []) _ _ ((12,vS a12)::_) _ _ _;refine Ll.alloc Z Z Z Z jN fun p3 hp3=>?_
 show Ll _ _ (Own _ _ [bk_ p3 #[i6_ 0,str ([]),str ([])] 24]) _ _ ((3,pt_ p3)::_) _ _ _;refine jU (cs':=#[i6_ a12.n,str a12.set,str a12.rel]) (hs':=[bk_ p3 #[i6_ a12.n,str a12.set,str a12.rel] 24]) 0 Z Z Z Z Z (by kernel_rfl:_=some Tryd.t24) Z Z Z Z Z (zG (zI [3] [_] Z (zH ?_)))
 cases hv:validB a12
 ·
  refine qC (zJ Z (qR (cs:=#[i6_ a12.n,str a12.set,str a12.rel]) 0 Z qO Z Z qJ) (zJ (v:=.slice none 0 0) Z (qX Z Tryd.call32 Z qK (fun w1 _=>iSpread_no a12 w1 hsa12 hv)) (qD 1 Z (zG (zI [3,4] [_,_] Z (zH (zH (qC (qD 1 Z (zJ Z (qR (cs:=#[i6_ a12.n,str a12.set,str a12.rel]) 0 Z qO Z Z qJ) (Ll.callRow (xs:=[.tmp 16]) (m:=0) (vs:=ints ([])) (el:=3) (size:=1) Z Z Z Z Tryd.call33 Z (fun w1 hw1=>sSpread_no a12 w1 hsa12 hv) fun p17 cap17 cur17 hp17 hcp17 hlp17 htp17=>(zJ (v:=bo_ (([])==([]))) Z (qX Z Tryd.call18 Z qK (fun w1 hw1=>gsSame_ok (.slice none 0 0) (sl_ p17 0 cap17) ([]) ([]) w1 Ints.nil (jB hw1 (i:=0) Z (by simpa using htp17) (by simp) hlp17) (by first | (simp;done) | omega) (by first | (simp;done) | omega))) (qD 2 Z (Ll.bool fun b20 hg20=>?_))))))))))))))
  cases b20
  ·
   replace hg20:=not_false hg20;refine zJ Z (qR (cs:=#[i6_ a12.n,str a12.set,str a12.rel]) 1 Z qO Z Z qJ) (zJ (v:=bo_ (validB a12)) Z (qX Z Tryd.call34 Z qK (fun w1 hw1=>iValid_ok a12 w1 hsa12)) (qD 2 Z (zG (zI [3,4,24] [_,_,_] Z (qW (b:=!(validB a12)) Z (fun h24=>?_) (fun h24=>?_))))))
   ·
    replace h24:=not_true h24;refine zH (qC (qD 1 Z (zJ Z (qR (cs:=#[i6_ a12.n,str a12.set,str a12.rel]) 1 Z qO Z Z qJ) (Ll.callRow (xs:=[.tmp 26]) (m:=0) (vs:=ints ([])) (el:=3) (size:=1) Z Z Z Z Tryd.call33 Z (fun w1 hw1=>sSpread_no a12 w1 hsa12 hv) fun p27 cap27 cur27 hp27 hcp27 hlp27 htp27=>(zJ (v:=bo_ (([])==([]))) Z (qX Z Tryd.call18 Z qK (fun w1 hw1=>gsSame_ok (.slice none 0 0) (sl_ p27 0 cap27) ([]) ([]) w1 Ints.nil (jB hw1 (i:=0) Z (by simpa using htp27) (by simp) hlp27) (by first | (simp;done) | omega) (by first | (simp;done) | omega))) (qD 1 Z (Ll.bool fun b29 hg29=>?_)))))))
    cases b29
    ·
     exact absurd hg29 (by simp)
    refine zJ Z (qR (cs:=#[i6_ a12.n,str a12.set,str a12.rel]) 2 Z qO Z Z qJ) (zJ (v:=bo_ (validB a12)) Z (qX Z Tryd.call34 Z qK (fun w1 hw1=>iValid_ok a12 w1 hsa12)) (qD 1 Z (Ll.bool fun b32 hg32=>?_)))
    cases b32
    ·
     refine qD 1 Z (zJ Z (OpQ.lenS Z qF Z) (qD 4 Z (zG (zI [2] [_] Z (qN (qS Z Z fun w' hw=>?_))))))
     exact ⟨ret_b (by first | rfl | exact absurd (spread_sum hz1) (by assumption) | exact absurd (spread_kinds hv) (by assumption) | exact absurd (spread_both hv) (by assumption) | exact absurd (spread_set hv) (by assumption) | exact decide_eq_true (spread_rel hv) | (simp_all;done)),hw.below⟩
    refine jO Z (jO Z (jO Z (qD 3 Z (zG (zI [2] [_] Z (qN (qS Z Z fun w' hw=>?_)))))))
    exact ⟨rfl,hw.below⟩
   replace h24:=not_false h24
   exfalso;simp_all
  replace hg20:=not_true hg20
  exact absurd hg20 (by simp)
 have ha:=validB_fine hv
 have hz1:=ha.lo
 have hz8:=ha.hi
 have hb0:=spread_bd a12 a12.n.toNat ((0:Int).toNat)
 have hb1:=spread_bd a12 a12.n.toNat ((1:Int).toNat)
 have hb2:=spread_bd a12 a12.n.toNat ((2:Int).toNat)
 have hb3:=spread_bd a12 a12.n.toNat ((3:Int).toNat);refine qC (zJ Z (qR (cs:=#[i6_ a12.n,str a12.set,str a12.rel]) 0 Z qO Z Z qJ) (Ll.callRow (xs:=[.tmp 13]) (m:=4) (vs:=ints (spreadTo a12 a12.n.toNat)) (el:=3) (size:=1) Z Z Z Z Tryd.call32 Z (fun w1 hw1=>iSpread_yes a12 w1 hv) fun p14 cap14 cur14 hp14 hcp14 hlp14 htp14=>(qD 1 Z (zG (zI [3,4] [_,_] Z (zH (zH (qC (qD 1 Z (zJ Z (qR (cs:=#[i6_ a12.n,str a12.set,str a12.rel]) 1 Z qO Z Z qJ) (Ll.callRow (xs:=[.tmp 16]) (m:=4) (vs:=ints (spreadTo a12 a12.n.toNat)) (el:=3) (size:=1) Z Z Z Z Tryd.call33 Z (fun w1 hw1=>sSpread_yes a12 w1 hv) fun p17_1 cap17_1 cur17_1 hp17_1 hcp17_1 hlp17_1 htp17_1=>(zJ (v:=bo_ ((spreadTo a12 a12.n.toNat)==(spreadTo a12 a12.n.toNat))) Z (qX Z Tryd.call18 Z qK (fun w1 hw1=>gsSame_ok (sl_ p14 4 cap14) (sl_ p17_1 4 cap17_1) (spreadTo a12 a12.n.toNat) (spreadTo a12 a12.n.toNat) w1 (jB hw1 (i:=1) Z (by simpa using htp14) (by simp) hlp14) (jB hw1 (i:=0) Z (by simpa using htp17_1) (by simp) hlp17_1) (by first | (simp;done) | omega) (by first | (simp;done) | omega))) (qD 2 Z (Ll.bool fun b20 hg20_1=>?_))))))))))))))
 cases b20
 ·
  replace hg20_1:=not_false hg20_1;refine zJ Z (qR (cs:=#[i6_ a12.n,str a12.set,str a12.rel]) 2 Z qO Z Z qJ) (zJ (v:=bo_ (validB a12)) Z (qX Z Tryd.call34 Z qK (fun w1 hw1=>iValid_ok a12 w1 hsa12)) (qD 2 Z (zG (zI [3,4,24] [_,_,_] Z (qW (b:=!(validB a12)) Z (fun h24_1=>?_) (fun h24_1=>?_))))))
  ·
   replace h24_1:=not_true h24_1;refine zH (qC (qD 1 Z (zJ Z (qR (cs:=#[i6_ a12.n,str a12.set,str a12.rel]) 2 Z qO Z Z qJ) (Ll.callRow (xs:=[.tmp 26]) (m:=4) (vs:=ints (spreadTo a12 a12.n.toNat)) (el:=3) (size:=1) Z Z Z Z Tryd.call33 Z (fun w1 hw1=>sSpread_yes a12 w1 hv) fun p27_1 cap27_1 cur27_1 hp27_1 hcp27_1 hlp27_1 htp27_1=>(zJ (v:=bo_ ((spreadTo a12 a12.n.toNat)==(spreadTo a12 a12.n.toNat))) Z (qX Z Tryd.call18 Z qK (fun w1 hw1=>gsSame_ok (sl_ p14 4 cap14) (sl_ p27_1 4 cap27_1) (spreadTo a12 a12.n.toNat) (spreadTo a12 a12.n.toNat) w1 (jB hw1 (i:=2) Z (by simpa using htp14) (by simp) hlp14) (jB hw1 (i:=0) Z (by simpa using htp27_1) (by simp) hlp27_1) (by first | (simp;done) | omega) (by first | (simp;done) | omega))) (qD 1 Z (Ll.bool fun b29 hg29_1=>?_)))))))
   cases b29
   ·
    exact absurd hg29_1 (by simp)
   refine zJ Z (qR (cs:=#[i6_ a12.n,str a12.set,str a12.rel]) 3 Z qO Z Z qJ) (zJ (v:=bo_ (validB a12)) Z (qX Z Tryd.call34 Z qK (fun w1 hw1=>iValid_ok a12 w1 hsa12)) (qD 1 Z (Ll.bool fun b32 hg32_1=>?_)))
   cases b32
   ·
    refine qD 1 Z (zJ Z (OpQ.lenS Z qF Z) (qD 4 Z (zG (zI [2] [_] Z (qN (qS Z Z fun w' hw=>?_))))))
    exact ⟨ret_b (by first | rfl | exact absurd (spread_sum hz1) (by assumption) | exact absurd (spread_kinds hv) (by assumption) | exact absurd (spread_both hv) (by assumption) | exact absurd (spread_set hv) (by assumption) | exact decide_eq_true (spread_rel hv) | (simp_all;done)),hw.below⟩
   refine jO Z (jO Z (jO Z (qD 3 Z (zG (zI [2] [_] Z (qN (qS Z Z fun w' hw=>?_)))))))
   exact ⟨rfl,hw.below⟩
  replace h24_1:=not_false h24_1;refine qQ (zI [3,4] [_,_] Z (zH (zC (zK 1 Z (zN (zI [3,4,5] [_,_,_] Z (zH (zH (zC (zK 1 Z (zN (zI [3,4,5,6] [_,_,_,_] Z (qU (jP (σ:=Nat) (fun i=>i≤4) (fun i=>[(3,pt_ p3),(4,sl_ p14 4 cap14),(5,i6_ (posN (spreadTo a12 a12.n.toNat) i)),(6,i6_ (i:Int))]) (fun i=>Own w.heap.size w [bk_ p17_1 cur17_1 3,bk_ p14 cur14 3,bk_ p3 #[i6_ a12.n,str a12.set,str a12.rel] 24]) (fun i=>4 - i) (0) (by omega) (Sub.cons Z (Sub.cons Z (Sub.cons (by rfl) (Sub.sel [6] Z)))) (fun _ h=>h) ?_))))))))))))))
  rintro i hi
  have hpn:=posN_le (spreadTo a12 a12.n.toNat) i
  have hbi:=spread_bd a12 a12.n.toNat i;refine zH (zH (zC (zK 2 Z (zN (zI [3,4,5,6,39] [_,_,_,_,_] Z (qW (b:=decide ((i:Int)<(4:Int))) Z (fun h39=>?_) (fun h39=>?_)))))))
  ·
   replace h39:=zV h39;refine qQ (zI [3,4,5,6] [_,_,_,_] Z (zH (qU (zH (zC (zK 2 Z (zM (v:=pf_ p14 (0+(i:Int).toNat)) Z (qY Z qF zE Z Z (by omega) (by omega)) (zM (v:=i6_ ((spreadTo a12 a12.n.toNat).getD ((i:Int).toNat) 0)) Z (yS 1 Z zT Z Z (cur_at (by simpa using htp14) (by rw [Nat.zero_add];exact ints_at2 (by rw [spreadTo_length];omega)))) (zK 1 Z (zN (zI [3,4,5,6,46] [_,_,_,_,_] Z (xN Z (fun h46=>?_) (fun h46=>?_)))))))))))))
   ·
    refine zC (zK 1 Z (zM Z (yE Z Z Z (by omega) (by omega)) (zK 1 Z (zN (zI [3,4,5,6] [_,_,_,_] Z (zC (zK 1 Z (zM Z (yE Z Z Z (by omega) (by omega)) (zK 1 Z (zN (xH (i+1) (by omega) (by omega) (Sub.cons Z (Sub.cons Z (Sub.cons (by rw [posN_yes (by assumption)];rfl) (Sub.sel [6] Z)))) (fun _ h=>h))))))))))))
   refine qQ (zI [3,4,5,6] [_,_,_,_] Z (zC (zK 1 Z (zM Z (yE Z Z Z (by omega) (by omega)) (zK 1 Z (zN (xH (i+1) (by omega) (by omega) (Sub.cons Z (Sub.cons Z (Sub.cons (by rw [posN_no (by assumption)];rfl) (Sub.sel [6] Z)))) (fun _ h=>h))))))))
  replace h39:=zU h39
  obtain rfl:i=4:=by omega
  refine xO Z (zI [3,4,5] [_,_,_] Z (zH (zC (zM Z (qR (cs:=#[i6_ a12.n,str a12.set,str a12.rel]) 2 Z qO Z Z qJ) (zM (v:=i6_ (cntO a12 ([38,80,97,69,97,97]))) Z (qX Z Tryd.call22 Z qK (fun w1 hw1=>iCount_ok a12 ([38,80,97,69,97,97]) w1 hsa12)) (zK 1 Z (zN (zI [3,4,5,7] [_,_,_,_] Z (zH (Wk.regionD yP (fun _ h=>h.drawn) (by kernel_rfl) (zK 1 Z (zM (v:=pf_ p14 (0+(0:Int).toNat)) Z (qY Z qF zE Z Z (by omega) (by omega)) (zM (v:=i6_ ((spreadTo a12 a12.n.toNat).getD ((0:Int).toNat) 0)) Z (yS 1 Z zT Z Z (cur_at (by simpa using htp14) (by exact ints_at2 (by rw [spreadTo_length];omega)))) (zK 1 Z (zM (v:=pf_ p14 (0+(1:Int).toNat)) Z (qY Z qF zE Z Z (by omega) (by omega)) (zM (v:=i6_ ((spreadTo a12 a12.n.toNat).getD ((1:Int).toNat) 0)) Z (yS 1 Z zT Z Z (cur_at (by simpa using htp14) (by exact ints_at2 (by rw [spreadTo_length];omega)))) (zM Z (yE Z Z Z (by omega) (by omega)) (zK 1 Z (zM (v:=pf_ p14 (0+(2:Int).toNat)) Z (qY Z qF zE Z Z (by omega) (by omega)) (zM (v:=i6_ ((spreadTo a12 a12.n.toNat).getD ((2:Int).toNat) 0)) Z (yS 1 Z zT Z Z (cur_at (by simpa using htp14) (by exact ints_at2 (by rw [spreadTo_length];omega)))) (zM Z (yE Z Z Z (by omega) (by omega)) (zK 1 Z (zM (v:=pf_ p14 (0+(3:Int).toNat)) Z (qY Z qF zE Z Z (by omega) (by omega)) (zM (v:=i6_ ((spreadTo a12 a12.n.toNat).getD ((3:Int).toNat) 0)) Z (yS 1 Z zT Z Z (cur_at (by simpa using htp14) (by exact ints_at2 (by rw [spreadTo_length];omega)))) (zM Z (yE Z Z Z (by omega) (by omega)) (zM Z (zD Z zZ Z zE Z Z) (zM Z (zO 2 Z zT Z Z Z) (zK 2 Z (xT fun b69 hg69=>?_)))))))))))))))))))))))))))))
  cases b69
  ·
   replace hg69:=zU hg69;refine zQ Z (zQ Z (zQ Z (zQ Z (zK 2 Z (zQ Z (zQ Z (zQ Z (zQ Z (zQ Z (zK 2 Z (zQ Z (zQ Z (zQ Z (zQ Z (zQ Z (zQ Z (zQ Z (zQ Z (zQ Z (zQ Z (zK 2 Z (zQ Z (zQ Z (zQ Z (zQ Z (zQ Z (zQ Z (zQ Z (zQ Z (zQ Z (zQ Z (zK 2 Z (zN (zI [2] [_] Z (qN (qS Z Z fun w' hw=>?_))))))))))))))))))))))))))))))))))))
   exact ⟨ret_b (by first | rfl | exact absurd (spread_sum hz1) (by assumption) | exact absurd (spread_kinds hv) (by assumption) | exact absurd (spread_both hv) (by assumption) | exact absurd (spread_set hv) (by assumption) | exact decide_eq_true (spread_rel hv) | (simp_all;done)),hw.below⟩
  replace hg69:=zV hg69;refine zK 1 Z (zM Z (qR (cs:=#[i6_ a12.n,str a12.set,str a12.rel]) 2 Z qO Z Z qJ) (zM (v:=i6_ (kindsI a12 1)) Z (qX Z Tryd.call35 Z qK (fun w1 hw1=>iKinds_ok a12 1 w1 hsa12)) (zK 3 Z (xT fun b75 hg75=>?_))))
  cases b75
  ·
   replace hg75:=zU hg75;refine zQ Z (zQ Z (zQ Z (zQ Z (zQ Z (zK 2 Z (zQ Z (zQ Z (zQ Z (zQ Z (zQ Z (zQ Z (zQ Z (zQ Z (zQ Z (zQ Z (zK 2 Z (zQ Z (zQ Z (zQ Z (zQ Z (zQ Z (zQ Z (zQ Z (zQ Z (zQ Z (zQ Z (zK 2 Z (zN (zI [2] [_] Z (qN (qS Z Z fun w' hw=>?_)))))))))))))))))))))))))))))))
   exact ⟨ret_b (by first | rfl | exact absurd (spread_sum hz1) (by assumption) | exact absurd (spread_kinds hv) (by assumption) | exact absurd (spread_both hv) (by assumption) | exact absurd (spread_set hv) (by assumption) | exact decide_eq_true (spread_rel hv) | (simp_all;done)),hw.below⟩
  replace hg75:=zV hg75;refine zK 1 Z (zM (v:=pf_ p14 (0+(3:Int).toNat)) Z (qY Z qF zE Z Z (by omega) (by omega)) (zM (v:=i6_ ((spreadTo a12 a12.n.toNat).getD ((3:Int).toNat) 0)) Z (yS 1 Z zT Z Z (cur_at (by simpa using htp14) (by exact ints_at2 (by rw [spreadTo_length];omega)))) (zK 4 Z (xT fun b82 hg82=>?_))))
  cases b82
  ·
   replace hg82:=zU hg82;refine zQ Z (zQ Z (zQ Z (zQ Z (zQ Z (zQ Z (zQ Z (zQ Z (zQ Z (zQ Z (zK 2 Z (zQ Z (zQ Z (zQ Z (zQ Z (zQ Z (zQ Z (zQ Z (zQ Z (zQ Z (zQ Z (zK 2 Z (zN (zI [2] [_] Z (qN (qS Z Z fun w' hw=>?_)))))))))))))))))))))))))
   exact ⟨ret_b (by first | rfl | exact absurd (spread_sum hz1) (by assumption) | exact absurd (spread_kinds hv) (by assumption) | exact absurd (spread_both hv) (by assumption) | exact absurd (spread_set hv) (by assumption) | exact decide_eq_true (spread_rel hv) | (simp_all;done)),hw.below⟩
  replace hg82:=zV hg82;refine zK 1 Z (zM (v:=pf_ p14 (0+(1:Int).toNat)) Z (qY Z qF zE Z Z (by omega) (by omega)) (zM (v:=i6_ ((spreadTo a12 a12.n.toNat).getD ((1:Int).toNat) 0)) Z (yS 1 Z zT Z Z (cur_at (by simpa using htp14) (by exact ints_at2 (by rw [spreadTo_length];omega)))) (zK 1 Z (zM (v:=pf_ p14 (0+(3:Int).toNat)) Z (qY Z qF zE Z Z (by omega) (by omega)) (zM (v:=i6_ ((spreadTo a12 a12.n.toNat).getD ((3:Int).toNat) 0)) Z (yS 1 Z zT Z Z (cur_at (by simpa using htp14) (by exact ints_at2 (by rw [spreadTo_length];omega)))) (zM Z (yE Z Z Z (by omega) (by omega)) (zM Z (qR (cs:=#[i6_ a12.n,str a12.set,str a12.rel]) 2 Z qO Z Z qJ) (zM (v:=i6_ (cntO a12 ([80,97]))) Z (qX Z Tryd.call22 Z qK (fun w1 hw1=>iCount_ok a12 ([80,97]) w1 hsa12)) (zK 3 Z (xT fun b94 hg94=>?_))))))))))
  cases b94
  ·
   replace hg94:=zU hg94;refine zQ Z (zQ Z (zQ Z (zQ Z (zQ Z (zQ Z (zQ Z (zQ Z (zQ Z (zQ Z (zK 2 Z (zN (zI [2] [_] Z (qN (qS Z Z fun w' hw=>?_))))))))))))))
   exact ⟨ret_b (by first | rfl | exact absurd (spread_sum hz1) (by assumption) | exact absurd (spread_kinds hv) (by assumption) | exact absurd (spread_both hv) (by assumption) | exact absurd (spread_set hv) (by assumption) | exact decide_eq_true (spread_rel hv) | (simp_all;done)),hw.below⟩
  replace hg94:=zV hg94;refine zK 1 Z (zM (v:=pf_ p14 (0+(2:Int).toNat)) Z (qY Z qF zE Z Z (by omega) (by omega)) (zM (v:=i6_ ((spreadTo a12 a12.n.toNat).getD ((2:Int).toNat) 0)) Z (yS 1 Z zT Z Z (cur_at (by simpa using htp14) (by exact ints_at2 (by rw [spreadTo_length];omega)))) (zK 1 Z (zM (v:=pf_ p14 (0+(3:Int).toNat)) Z (qY Z qF zE Z Z (by omega) (by omega)) (zM (v:=i6_ ((spreadTo a12 a12.n.toNat).getD ((3:Int).toNat) 0)) Z (yS 1 Z zT Z Z (cur_at (by simpa using htp14) (by exact ints_at2 (by rw [spreadTo_length];omega)))) (zM Z (yE Z Z Z (by omega) (by omega)) (zM Z (qR (cs:=#[i6_ a12.n,str a12.set,str a12.rel]) 2 Z qO Z Z qJ) (zM (v:=i6_ (cntO a12 ([69,97,97]))) Z (qX Z Tryd.call22 Z qK (fun w1 hw1=>iCount_ok a12 ([69,97,97]) w1 hsa12)) (zK 3 Z (zN (zI [2] [_] Z (qN (qS Z Z fun w' hw=>?_)))))))))))))
  exact ⟨ret_b (by first | rfl | exact absurd (spread_sum hz1) (by assumption) | exact absurd (spread_kinds hv) (by assumption) | exact absurd (spread_both hv) (by assumption) | exact absurd (spread_set hv) (by assumption) | exact decide_eq_true (spread_rel hv) | (simp_all;done)),hw.below⟩
 replace hg20_1:=not_true hg20_1
 exact absurd hg20_1 (by simp)
end Go.Proofs.YtefiibghfgfdnaaDoor
namespace Go.Proofs.YtefiibghfgfdnaaDoor
open Go.ChangeShapes Go.WideShapes Go.ChangeAt Go.RowKit Go.Wk
namespace FnSpread
def W0:Array Value:=#[.slice none 0 0]
set_option maxRecDepth 100000 in
theorem contract (H:Type) (enc:TypeId×Value→H) (W:World) (base:Nat) (args:Array Value) (ds gs:List (DataW H)) (before:List MemPlace)
  (hval:∀ (j:Nat) t v,Tryd.f6.params[j]?=some t→args[j]?=some v→Value.okWide Tryd.prog W .any base t v)
  (hW:DataW.Whole enc Tryd.prog Tryd.f6.params.toList Rows.fnSpreadSpec.vars false W args.toList ds gs before) :
  Calls Tryd.prog 6 args W fun e W'=>∃ v,e=.returned v∧Rows.fnSpreadSpec.post enc Tryd.prog Tryd.f6 false true false false W args v W':=by
 have hW':=hW
 obtain ⟨p,q,hA0,hV,rfl,hfz,hnd⟩:=hW
 have hA:DataW.TrodAll enc Tryd.prog W 0 (fun _=>true) true Tryd.f6.params.toList args.toList ds p:=hA0
 rw [Tryd.params6] at hA hval
 obtain ⟨v0,vs0,d0,ds0,p0,q0,hargs0,rfl,rfl,h0,r0⟩:=trodAll_cons hA
 obtain ⟨rfl,rfl,rfl⟩:=trodAll_nil r0
 obtain rfl:args=#[v0]:=by cases args;simp_all
 obtain ⟨l0,row0,eight0,len0⟩:=open_B Tryd.underlying22 Tryd.underlying5 (by kernel_rfl) (hval 0 22 v0 rfl rfl) h0
 have walk:Calls Tryd.prog 6 #[v0] W fun e w'=>e=.returned (.bool true)∧Below W.heap.size W w':=by
  exact lawFnSpread v0 l0 W row0 eight0 len0
 refine walk.mono fun e W' ⟨he,hb⟩=>⟨_,he,?_⟩
 exact post_true laidOut (by rw [Tryd.params6];intro t ht;simp only [List.mem_cons,List.not_mem_nil,or_false] at ht;rcases ht with rfl <;> exact ⟨by kernel_rfl,of_decide_eq_true (by kernel_rfl)⟩) rfl hW' rfl (by kernel_rfl) Tryd.underlying4 hb
theorem reads (os:Os) {H:Type} (enc:TypeId×Value→H):∃ places,DataW.whole enc Tryd.prog ((laidWorld os).forCall (fun _ _=>0) ⟨#[],W0,[]⟩).memory Tryd.f6.params.toList Rows.fnSpreadSpec.vars false W0.toList 8=some ([.nil],[],places) :=
 ⟨[],by kernel_rfl⟩
set_option maxRecDepth 100000 in
theorem lifted (os:Os) (started:os.Started) (H:Type) (enc:TypeId×Value→H) (F:Stop.Interp) :
    ReturnsInHanded {} Tryd.checked os 6 .any ((OpenSpec.ofChange Rows.fnSpreadSpec).preRow enc Tryd.prog Tryd.f6 Rows.fnSpreadRow.domain false Rows.fnSpreadRow.laid) (((OpenSpec.ofChange Rows.fnSpreadSpec).at F).post enc Tryd.prog Tryd.f6 false true false false):=by
  obtain ⟨places,hx⟩:=reads os enc
  refine returnsInHanded_of_row (C:=Tryd.checked) (s:=OpenSpec.ofChange Rows.fnSpreadSpec) own started (by kernel_rfl) Tryd.func6
    (witness_row_at (enc:=enc) (C:=Tryd.checked) false (laidWorld os) W0 rfl (by kernel_rfl) (by kernel_rfl) (by kernel_rfl)
      (OpenSpec.preRow_of_cond 8 hx (by kernel_rfl) (fun k hk=>by cases hk) (by kernel_rfl) (laid_met os W0))) ?_
  intro W base args ds gs before hval hW _ _ _ hL _ _
  exact contract H enc W base args ds gs before hval hW
theorem k0:(Rows.fnSpreadRow.wf (OpenSpec.ofChange (OpenSpec.ofChange Rows.fnSpreadSpec).bare))=true:=by kernel_rfl
theorem k3:(Tryd.f6.params.all (Tryd.pinned.checked.prog.readableRec ·))=true:=by kernel_rfl
theorem k4:(namedTie Tryd.pinned.checked.prog Rows.fnSpreadRow.named (OpenSpec.ofChange Rows.fnSpreadSpec).bare.vars)=true:=by kernel_rfl
theorem k9:((Rows.fnSpreadRow.inPlace==Tryd.pinned.checked.prog.inPlace 6))=true:=by kernel_rfl
theorem k10:((Rows.fnSpreadRow.unfollowed==Tryd.pinned.checked.prog.unfollowed 6))=true:=by kernel_rfl
theorem k11:((Rows.fnSpreadRow.recurses==Tryd.pinned.checked.prog.recurses 6))=true:=by kernel_rfl
theorem k12:((Rows.fnSpreadRow.named==Tryd.pinned.checked.prog.varsNamed 6))=true:=by kernel_rfl
theorem k13:((Rows.fnSpreadRow.maps==(Tryd.f6.params.toList++(OpenSpec.ofChange Rows.fnSpreadSpec).bare.plain.varTypes Tryd.pinned.checked.prog).any (Tryd.pinned.checked.prog.mapsRec ·)))=true:=by kernel_rfl
theorem k14:((Rows.fnSpreadRow.ifaces==(Tryd.f6.params.toList++(OpenSpec.ofChange Rows.fnSpreadSpec).bare.plain.varTypes Tryd.pinned.checked.prog).any (Tryd.pinned.checked.prog.ifacesRec ·)))=true:=by kernel_rfl
theorem k15:((Rows.fnSpreadRow.mapsOut==Tryd.pinned.checked.prog.mapsAmong Tryd.f6.resultTypes.toList))=true:=by kernel_rfl
theorem k16:((Rows.fnSpreadRow.loops==(Tryd.f6.params.toList++(OpenSpec.ofChange Rows.fnSpreadSpec).bare.plain.varTypes Tryd.pinned.checked.prog).any (Tryd.pinned.checked.prog.loopsFrom ·)))=true:=by kernel_rfl
theorem k17:((Rows.fnSpreadRow.wideKeys==(Tryd.f6.params.toList++(OpenSpec.ofChange Rows.fnSpreadSpec).bare.plain.varTypes Tryd.pinned.checked.prog++Tryd.f6.resultTypes.toList).any (Tryd.pinned.checked.prog.wideKeysFrom ·)))=true:=by kernel_rfl
theorem k19:(Tryd.f6.resultTypes.all (fun t=>Tryd.pinned.checked.prog.readableRec t&&decide (t<Tryd.pinned.checked.prog.types.size)))=true:=by kernel_rfl
theorem k20:((Rows.fnSpreadRow.ifacesOut==Tryd.f6.resultTypes.toList.any (Tryd.pinned.checked.prog.ifacesRec ·)))=true:=by kernel_rfl
theorem k21:((Rows.fnSpreadRow.loopsOut==Tryd.f6.resultTypes.toList.any (Tryd.pinned.checked.prog.loopsFrom ·)))=true:=by kernel_rfl
theorem k30:((Rows.fnSpreadRow.veiled==(Tryd.f6.params.toList++(OpenSpec.ofChange Rows.fnSpreadSpec).bare.plain.varTypes Tryd.pinned.checked.prog++Tryd.f6.resultTypes.toList).any (Tryd.pinned.checked.prog.veiledRec ·)))=true:=by kernel_rfl
theorem k31:(Rows.fnSpreadRow.veiledFits Tryd.pinned.checked.prog Tryd.f6.params.toList (Tryd.f6.params.toList++(OpenSpec.ofChange Rows.fnSpreadSpec).bare.plain.varTypes Tryd.pinned.checked.prog++Tryd.f6.resultTypes.toList))=true:=by kernel_rfl
theorem closed:joinedFacts Tryd.pinned.checked.prog 6 Tryd.f6 (OpenSpec.ofChange Rows.fnSpreadSpec).bare Rows.fnSpreadRow=true :=
 facts_of k0 Laid1 Laid2 k3 k4 (by kernel_rfl) Laid6 (by kernel_rfl) Laid8 k9 k10 k11 k12 k13 k14 k15 k16 k17 (by kernel_rfl) k19 k20 k21 Laid22 (by kernel_rfl) Laid24 Laid25 Laid26 Laid27 (by kernel_rfl) (by kernel_rfl) k30 k31
theorem said:Rows.FnSpreadSaid :=
  OpenClaim.holds_of_cond 6 Tryd.f6 rfl rfl rfl rfl rfl rfl rfl ⟨rfl,rfl,rfl,rfl,rfl⟩ rfl rfl rfl rfl rfl (by kernel_rfl) Tryd.func6 closed
    (of_decide_eq_true (by kernel_rfl)) (by unfold Func.isWrapper;first | (rw [if_pos (by decide +kernel)];kernel_rfl) | (rw [if_neg (by decide +kernel)];exact ⟨rfl,rfl⟩))
    (fun os started H enc _ F=>by rw [OpenClaim.pre_eq_preRow];exact lifted os started H enc F)
theorem plain (f:FuncId) (fn:Func) (hf:Tryd.pinned.checked.prog.funcNamed Rows.fnSpreadRow.func=some f) (hfn:Tryd.pinned.checked.prog.funcs[f]?=some fn) :
  false=Tryd.pinned.checked.prog.looks []∧∀ (j:Nat) t,fn.params[j]?=some t→Tryd.pinned.checked.prog.wantsStandIn t=false:=by
 obtain rfl:f=6:=Option.some.inj ((show Tryd.pinned.checked.prog.funcNamed Rows.fnSpreadRow.func=some 6 by kernel_rfl).symm.trans hf) |>.symm
 obtain rfl:fn=Tryd.f6:=(Option.some.inj (Tryd.func6.symm.trans hfn)).symm
 refine ⟨by kernel_rfl,fun j t ht=>?_⟩
 rw [Tryd.params6] at ht
 have hm:t∈[22]:=by simpa using Array.mem_of_getElem? ht
 simp only [List.mem_cons,List.not_mem_nil,or_false] at hm
 rcases hm with rfl <;> (show Tryd.prog.wantsStandIn _=false) <;> kernel_rfl
theorem hw:Rows.fnSpreadRow.wfByText (OpenSpec.ofChange Rows.fnSpreadSpec)=true:=by kernel_rfl
theorem hm:Tryd.pinned.checked.prog.mainIs=some (Rows.fnSpreadCard.stood.harness.1,Rows.fnSpreadCard.stood.harness.2.toList):=by kernel_rfl
theorem hg:false=Rows.fnSpreadRow.goesBy Tryd.pinned.checked.prog:=by kernel_rfl
end FnSpread
theorem cardFnSpread:Rows.FnSpreadCardSaid :=
 Claim7.holds_tied_plain_at .later [] _ _ _ _ FnSpread.said (fun _ h=>by cases h) FnSpread.hw (fun _ h=>by cases h) fnSpread_row_tie rfl ⟨rfl,rfl⟩ FnSpread.hm rfl FnSpread.plain FnSpread.hg
end Go.Proofs.YtefiibghfgfdnaaDoor
