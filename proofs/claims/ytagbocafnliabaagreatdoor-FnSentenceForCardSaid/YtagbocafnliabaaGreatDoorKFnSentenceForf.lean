/-
  FnSentenceFor: all that its proof names (part 6)
-/
import Derived.Test.YtagbocafnliabaaGreatDoorKFnSentenceFore
import Derived.Test.YtagbocafnliabaaGreatDoorKFnSentenceForb
import Derived.Test.YtagbocafnliabaaGreatDoorKFnSentenceForc
import Derived.Test.YtagbocafnliabaaGreatDoorKFnSentenceFord
import Derived.Test.YtagbocafnliabaaGreatDoorKFnSentenceFora
namespace Go.Proofs.YtagbocafnliabaaGreatDoor
open Go.RowKit Go.Wk
set_option linter.unusedSimpArgs false
set_option maxHeartbeats 400000 in
theorem at_ok (en4:List Int) (vs:List UInt8) (p4 p5 p:Nat) (c:UInt8) (vv x2 x3 x4:Value) (k:Nat) (w:World) (h4:w.heap[p4]?=some (.cells #[ptrV p] 46 (0,0))) (h5:w.heap[p5]?=some (.cells (ints en4).toArray 109 (0,0))) (hN:w.heap[p]?=some (.cells #[u8V c,vv,x2,x3,x4] 73 (0,0))) (hv:Row w vv (vs.map u8V)) (hk:k<vs.length) (hV:isV (vs.getD k 0)=true) (hE:en4.length=4) :
    Calls Tryz.prog 119 [i6_ (k:Int),.pointer (some ⟨p5,0,none⟩),.pointer (some ⟨p4,0,none⟩)].toArray w fun en w'=>en=.returned (.int .i64 (en4.getD (vI (vs.getD k 0)) 0))∧Below w.heap.size w w':=by
 refine fnStart (n:=15) (e:=[(0,i6_ (k:Int)),(1,.pointer (some ⟨p5,0,none⟩)),(2,.pointer (some ⟨p4,0,none⟩))]) Tryz.func119 Z Z Z Z Ends.both ?_
 have hv4:=(vI_lt hV).1;refine zE (zB (zC 1 Z (zK (zD [0,1,2] [_,_,_] Z (zE (zB (zF (v:=.pointer (some ⟨p,0,none⟩)) Z (qO Z xR Z (fun w1 hw1=>at_box h4 hw1 0 Z)) (zF (v:=.pointer (some ⟨p,0,none⟩)) Z (zR Z Z) (zF Z (zG Z zI Z yN Z Z) (zF (v:=vv) Z (qO Z xK Z (fun w1 hw1=>at_box hN hw1 1 Z)) (zC 1 Z (zF (v:=.pointer (some (sAt vv (k:Int)))) Z (yM Z yT xO Z Z (by omega) (by rw [List.length_map];omega) (fun w1 hw1=>hv.own hw1)) (zF (v:=.int .u8 ((vs.getD k 0).toNat:Int)) Z (qO Z xT Z (fun w1 hw1=>Row.u8 (hv.own hw1) (by omega) (by omega))) (zF (v:=.int .u8 (vI (vs.getD k 0):Int)) Z (yF (by rw [vI_wrap hV]) (jZ Z Z Z)) (zF (v:=.pointer (some (⟨p5,vI (vs.getD k 0),none⟩))) Z (yF (v':=.pointer (some ⟨p5,vI (vs.getD k 0),none⟩)) (by rfl) (OpQ.indexArr (i:=(vI (vs.getD k 0):Int)) Z Tryz.runUnderlying109 zL Z Z (by omega) (by omega))) (zF (v:=i6_ (en4.getD (vI (vs.getD k 0)) 0)) Z (qO Z zV Z (fun w1 hw1=>at_box h5 hw1 (vI (vs.getD k 0)) ((List.getElem?_toArray ..).trans (ints_at2 (c:=en4) (by omega))))) ?_))))))))))))))));refine zC 1 Z (zK (zD [4] [_] Z (qK (qR Z Z fun w' hw=>?_))))
 exact ⟨rfl,hw.below⟩
def IsT (f:Nat) (a:St) (fm:Fm):Prop:=∀ (B:Nat) (w0:World) (hs ts:List (Nat×Obj)) (h M:Nat) (K:Memo) (p:Nat) (en4:List Int) (w:World),(∀ x∈ts,x∈hs)→TreeB 73 ts fm p→EnvA a en4→MemoOk 73 a ts K→Own B w0 (memoF 108 h M a K hs) w →
    Calls Tryz.prog f #[.pointer (some ⟨h,0,none⟩),ptrV p,.agg (ints en4).toArray] w fun en w'=>∃ K',en=.returned (.bool (ev a fm en4))∧MemoOk 73 a ts K'∧Own B w0 (memoF 108 h M a K' hs) w'
set_option maxHeartbeats 1600000 in
theorem decide_step (a:St) (fm:Fm) (ha:a.Fine) (hwf:wfF fm) (ih:∀ fm2:Fm,szF fm2<szF fm→wfF fm2→IsT 84 a fm2) (B:Nat) (w0:World) (hs ts:List (Nat×Obj)) (h M:Nat) (K:Memo) (p:Nat) (en4:List Int) (w:World) (hts:∀ x∈ts,x∈hs) (hT:TreeB 73 ts fm p) (hE:EnvA a en4) (hK:MemoOk 73 a ts K) (hw:Own B w0 (memoF 108 h M a K hs) w) :
    Calls Tryz.prog 111 [pt_ h,ptrV p,.agg ((ints en4).toArray)].toArray w fun en w'=>∃ K',en=.returned (.bool (ev a fm en4))∧MemoOk 73 a ts K'∧Own B w0 (memoF 108 h M a K' hs) w':=by
 refine fnStartC (Own B w0 (bk_ h #[i6_ a.n,str a.set,str a.rel,.map (some M)] 108::((M,mapP (memoK K))::(memoB K++hs)))) (n:=156) (e:=[(0,pt_ h),(1,ptrV p),(2,.agg ((ints en4).toArray))]) Tryz.func111 Z Z Z Z Ends.both hw (zE (qF (yU (v:=ptrV p) Z Z Z Z Z fun p4 hp4=>?_)))
 show Ll _ _ (Own _ _ (_::_::(((M,mapP (memoK K))::(memoB K++hs))))) _ _ ((4,pt_ p4)::_) _ _ _;refine yU (v:=.agg ((ints en4).toArray)) Z Z Z Z Z fun p5 hp5=>?_
 show Ll _ _ (Own _ _ (_::_::_::(((M,mapP (memoK K))::(memoB K++hs))))) _ _ ((5,pt_ p5)::_) _ _ _;refine qJ 1 Z (zH (zD [0,4,5] [_,_,_] Z (zE (zB (zF (v:=.func (.func 119) #[] #[pt_ p5,pt_ p4]) Z (OpQ.func' (cap:=[.tmp 5,.tmp 4]) Z Z) (zC 1 Z (zK (zD [0,4,5,7] [_,_,_,_] Z (zE (zE ?_))))))))))
 have hE4:=hE.1
 have ha1:=ha.lo
 have ha8:=ha.hi
 rcases fm_by hwf with ⟨c,rfl,hc⟩ | ⟨c,v,rfl,hc,hv_v⟩ | ⟨c,v,u,rfl,hc,hv_v,hv_u⟩ | ⟨c,q,rfl,hc⟩ | ⟨c,v,q,rfl,hc,hv_v⟩ | ⟨c,q,r,rfl,hc⟩
 ·
  obtain ⟨vv,pv,hm0,hR10,hR20⟩:=hT
  have hm:=hts _ hm0
  have hR1:=hR10.more hts
  have hR2:=hR20.more hts;refine zB (zF Z (zP 1 Z xR Z Z Z) (zF (v:=ptrV p) Z (zR Z Z) (zF Z (zG Z zI Z xO Z Z) (zF (v:=.int .u8 (c.toNat:Int)) Z (qO Z xT Z (fun w1 hw1=>cell_of ((vK (qI (f:=[_,_,_]) (qN (f:=[_,_,_]) hw1)) hm).2) Z)) (zK (zD [0,4,5,7,14] [_,_,_,_,_] Z (qS (zE (zB (zC 2 Z (zK (zD [0,4,5,7,14,15] [_,_,_,_,_,_] Z (xN Z (fun h15=>?_) (fun h15=>?_))))))))))))))
  ·
   refine zE (zB (zC 1 Z (zK (zD [6] [_] Z (qK (qR Z Z fun w' hw=>?_))))))
   exact ⟨K,ret_b (ev116 h15),hK,qI (f:=[_,_]) hw⟩
  refine zE (zB (zC 2 Z (zK (zD [0,4,5,7,14,17] [_,_,_,_,_,_] Z (yA (b:=decide ((c.toNat:Int)=(102:Int))) Z (fun h17=>?_) (fun h17=>?_))))))
  ·
   replace h17:=qA h17;refine zE (zB (zC 1 Z (zK (zD [6] [_] Z (qK (qR Z Z fun w' hw=>?_))))))
   exact ⟨K,ret_b (ev102 h17),hK,qI (f:=[_,_]) hw⟩
  replace h17:=zU h17
  exfalso;omega
 ·
  obtain ⟨vv,pv,hm0,hR10,hR20⟩:=hT
  have hm:=hts _ hm0
  have hR1:=hR10.more hts
  have hR2:=hR20.more hts
  have hwv:=(vI_lt hv_v).1
  have hx1:=hE.at hwv;refine zB (zF Z (zP 1 Z xR Z Z Z) (zF (v:=ptrV p) Z (zR Z Z) (zF Z (zG Z zI Z xO Z Z) (zF (v:=.int .u8 (c.toNat:Int)) Z (qO Z xT Z (fun w1 hw1=>cell_of ((vK (qI (f:=[_,_,_]) (qN (f:=[_,_,_]) hw1)) hm).2) Z)) (zK (zD [0,4,5,7,14] [_,_,_,_,_] Z (qS (zE (zB (zC 2 Z (zK (zD [0,4,5,7,14,15] [_,_,_,_,_,_] Z (yA (b:=decide ((c.toNat:Int)=(116:Int))) Z (fun h15_1=>?_) (fun h15_1=>?_))))))))))))))
  ·
   replace h15_1:=qA h15_1
   exfalso;omega
  replace h15_1:=zU h15_1;refine zE (zB (zC 2 Z (zK (zD [0,4,5,7,14,17] [_,_,_,_,_,_] Z (yA (b:=decide ((c.toNat:Int)=(102:Int))) Z (fun h17_1=>?_) (fun h17_1=>?_))))))
  ·
   replace h17_1:=qA h17_1
   exfalso;omega
  replace h17_1:=zU h17_1;refine zE (zB (zC 2 Z (zK (zD [0,4,5,7,14,19] [_,_,_,_,_,_] Z (yA (b:=decide ((c.toNat:Int)=(80:Int))) Z (fun h19=>?_) (fun h19=>?_))))))
  ·
   replace h19:=qA h19;refine zE (jU yH (fun _ h=>h.drawn) (by kernel_rfl) (zC 1 Z (zF (v:=pt_ h) Z (zR Z Z) (zF Z (zG Z xE Z zO Z Z) (zF (v:=vS a) Z (OpQ.loadHold (a:=a) 2 Z zQ zO Z Z) (zC 1 Z (zF (v:=i6_ (en4.getD (vI v) 0)) Z (OpQ.callFn Z Z Tryz.call119 Z qC (fun w1 hw1=>at_ok en4 [v] _ _ p c vv _ _ _ 0 w1 (hw1.has 1 _ _ Z).2 (hw1.has 0 _ _ Z).2 ((vK (qI (f:=[_,_,_]) (qN (f:=[_,_,_]) hw1)) hm).2) (RowB.row hR1 (qI (f:=[_,_,_]) (qN (f:=[_,_,_]) hw1))) (by simp) (by simpa using hv_v) hE.1)) (zF (v:=bo_ (a.inSet (en4.getD (vI v) 0))) Z (qH Z Tryz.call80 Z qC (fun w1 hw1=>inSet_ok a (en4.getD (vI v) 0) w1 ha (by first | assumption | exact St.Els.at (by assumption) (by omega) (by omega)))) (zC 1 Z (zK (zD [6] [_] Z (qK (qR Z Z fun w' hw=>?_)))))))))))))
   exact ⟨K,ret_b (ev80 hc),hK,qI (f:=[_,_]) hw⟩
  replace h19:=zU h19
  exfalso;omega
 ·
  obtain ⟨vv,pv,hm0,hR10,hR20⟩:=hT
  have hm:=hts _ hm0
  have hR1:=hR10.more hts
  have hR2:=hR20.more hts
  have hwv:=(vI_lt hv_v).1
  have hx1:=hE.at hwv
  have hwu:=(vI_lt hv_u).1
  have hx2:=hE.at hwu;refine zB (zF Z (zP 1 Z xR Z Z Z) (zF (v:=ptrV p) Z (zR Z Z) (zF Z (zG Z zI Z xO Z Z) (zF (v:=.int .u8 (c.toNat:Int)) Z (qO Z xT Z (fun w1 hw1=>cell_of ((vK (qI (f:=[_,_,_]) (qN (f:=[_,_,_]) hw1)) hm).2) Z)) (zK (zD [0,4,5,7,14] [_,_,_,_,_] Z (qS (zE (zB (zC 2 Z (zK (zD [0,4,5,7,14,15] [_,_,_,_,_,_] Z (yA (b:=decide ((c.toNat:Int)=(116:Int))) Z (fun h15_2=>?_) (fun h15_2=>?_))))))))))))))
  ·
   replace h15_2:=qA h15_2
   exfalso;omega
  replace h15_2:=zU h15_2;refine zE (zB (zC 2 Z (zK (zD [0,4,5,7,14,17] [_,_,_,_,_,_] Z (yA (b:=decide ((c.toNat:Int)=(102:Int))) Z (fun h17_2=>?_) (fun h17_2=>?_))))))
  ·
   replace h17_2:=qA h17_2
   exfalso;omega
  replace h17_2:=zU h17_2;refine zE (zB (zC 2 Z (zK (zD [0,4,5,7,14,19] [_,_,_,_,_,_] Z (yA (b:=decide ((c.toNat:Int)=(80:Int))) Z (fun h19_1=>?_) (fun h19_1=>?_))))))
  ·
   replace h19_1:=qA h19_1
   exfalso;omega
  replace h19_1:=zU h19_1;refine zE (zB (zC 2 Z (zK (zD [0,4,5,7,14,28] [_,_,_,_,_,_] Z (xN Z (fun h28=>?_) (fun h28=>?_))))))
  ·
   refine zE (zB (zC 1 Z (zF (v:=i6_ (en4.getD (vI v) 0)) Z (OpQ.callFn Z Z Tryz.call119 Z qC (fun w1 hw1=>at_ok en4 [v,u] _ _ p c vv _ _ _ 0 w1 (hw1.has 1 _ _ Z).2 (hw1.has 0 _ _ Z).2 ((vK (qI (f:=[_,_,_]) (qN (f:=[_,_,_]) hw1)) hm).2) (RowB.row hR1 (qI (f:=[_,_,_]) (qN (f:=[_,_,_]) hw1))) (by simp) (by simpa using hv_v) hE.1)) (zC 1 Z (zF (v:=i6_ (en4.getD (vI u) 0)) Z (OpQ.callFn Z Z Tryz.call119 Z qC (fun w1 hw1=>at_ok en4 [v,u] _ _ p c vv _ _ _ 1 w1 (hw1.has 1 _ _ Z).2 (hw1.has 0 _ _ Z).2 ((vK (qI (f:=[_,_,_]) (qN (f:=[_,_,_]) hw1)) hm).2) (RowB.row hR1 (qI (f:=[_,_,_]) (qN (f:=[_,_,_]) hw1))) (by simp) (by simpa using hv_u) hE.1)) (zC 2 Z (zK (zD [6] [_] Z (qK (qR Z Z fun w' hw=>?_))))))))))
   exact ⟨K,ret_b (ev_eq h28),hK,qI (f:=[_,_]) hw⟩
  refine zE (zB (zC 2 Z (zK (zD [0,4,5,7,14,35] [_,_,_,_,_,_] Z (yA (b:=decide ((c.toNat:Int)=(69:Int))) Z (fun h35=>?_) (fun h35=>?_))))))
  ·
   replace h35:=qA h35;refine zE (jU yH (fun _ h=>h.drawn) (by kernel_rfl) (zC 1 Z (zF (v:=pt_ h) Z (zR Z Z) (zF Z (zG Z xE Z zO Z Z) (zF (v:=vS a) Z (OpQ.loadHold (a:=a) 2 Z zQ zO Z Z) (zC 1 Z (zF (v:=i6_ (en4.getD (vI v) 0)) Z (OpQ.callFn Z Z Tryz.call119 Z qC (fun w1 hw1=>at_ok en4 [v,u] _ _ p c vv _ _ _ 0 w1 (hw1.has 1 _ _ Z).2 (hw1.has 0 _ _ Z).2 ((vK (qI (f:=[_,_,_]) (qN (f:=[_,_,_]) hw1)) hm).2) (RowB.row hR1 (qI (f:=[_,_,_]) (qN (f:=[_,_,_]) hw1))) (by simp) (by simpa using hv_v) hE.1)) (zC 1 Z (zF (v:=i6_ (en4.getD (vI u) 0)) Z (OpQ.callFn Z Z Tryz.call119 Z qC (fun w1 hw1=>at_ok en4 [v,u] _ _ p c vv _ _ _ 1 w1 (hw1.has 1 _ _ Z).2 (hw1.has 0 _ _ Z).2 ((vK (qI (f:=[_,_,_]) (qN (f:=[_,_,_]) hw1)) hm).2) (RowB.row hR1 (qI (f:=[_,_,_]) (qN (f:=[_,_,_]) hw1))) (by simp) (by simpa using hv_u) hE.1)) (zF (v:=bo_ (a.inRel (en4.getD (vI v) 0) (en4.getD (vI u) 0))) Z (qH Z jV Z qC (fun w1 hw1=>inRel_ok a (en4.getD (vI v) 0) (en4.getD (vI u) 0) w1 ha (by first | assumption | exact St.Els.at (by assumption) (by omega) (by omega)) (by first | assumption | exact St.Els.at (by assumption) (by omega) (by omega)))) (zC 1 Z (zK (zD [6] [_] Z (qK (qR Z Z fun w' hw=>?_)))))))))))))))
   exact ⟨K,ret_b (ev_rel h35),hK,qI (f:=[_,_]) hw⟩
  replace h35:=zU h35
  exfalso;omega
 ·
  obtain ⟨q1,⟨vv,pv,hm0,hR10,hR20⟩,hT1⟩:=hT
  have hm:=hts _ hm0
  have hR1:=hR10.more hts
  have hR2:=hR20.more hts;refine zB (zF Z (zP 1 Z xR Z Z Z) (zF (v:=ptrV p) Z (zR Z Z) (zF Z (zG Z zI Z xO Z Z) (zF (v:=.int .u8 (c.toNat:Int)) Z (qO Z xT Z (fun w1 hw1=>cell_of ((vK (qI (f:=[_,_,_]) (qN (f:=[_,_,_]) hw1)) hm).2) Z)) (zK (zD [0,4,5,7,14] [_,_,_,_,_] Z (qS (zE (zB (zC 2 Z (zK (zD [0,4,5,7,14,15] [_,_,_,_,_,_] Z (yA (b:=decide ((c.toNat:Int)=(116:Int))) Z (fun h15_3=>?_) (fun h15_3=>?_))))))))))))))
  ·
   replace h15_3:=qA h15_3
   exfalso;omega
  replace h15_3:=zU h15_3;refine zE (zB (zC 2 Z (zK (zD [0,4,5,7,14,17] [_,_,_,_,_,_] Z (yA (b:=decide ((c.toNat:Int)=(102:Int))) Z (fun h17_3=>?_) (fun h17_3=>?_))))))
  ·
   replace h17_3:=qA h17_3
   exfalso;omega
  replace h17_3:=zU h17_3;refine zE (zB (zC 2 Z (zK (zD [0,4,5,7,14,19] [_,_,_,_,_,_] Z (yA (b:=decide ((c.toNat:Int)=(80:Int))) Z (fun h19_2=>?_) (fun h19_2=>?_))))))
  ·
   replace h19_2:=qA h19_2
   exfalso;omega
  replace h19_2:=zU h19_2;refine zE (zB (zC 2 Z (zK (zD [0,4,5,7,14,28] [_,_,_,_,_,_] Z (yA (b:=decide ((c.toNat:Int)=(61:Int))) Z (fun h28_1=>?_) (fun h28_1=>?_))))))
  ·
   replace h28_1:=qA h28_1
   exfalso;omega
  replace h28_1:=zU h28_1;refine zE (zB (zC 2 Z (zK (zD [0,4,5,7,14,35] [_,_,_,_,_,_] Z (yA (b:=decide ((c.toNat:Int)=(69:Int))) Z (fun h35_1=>?_) (fun h35_1=>?_))))))
  ·
   replace h35_1:=qA h35_1
   exfalso;omega
  replace h35_1:=zU h35_1;refine zE (zB (zC 2 Z (zK (zD [0,4,5,14,46] [_,_,_,_,_] Z (yA (b:=decide ((c.toNat:Int)=(33:Int))) Z (fun h46=>?_) (fun h46=>?_))))))
  ·
   replace h46:=qA h46;refine zE (jH (S:=Own B w0 (bk_ p5 ((ints en4).toArray) 109::bk_ p4 #[ptrV p] 46::bk_ h #[i6_ a.n,str a.set,str a.rel,.map (some M)] 108::hs)) [(0,true),(1,true),(7,true),(2,false),(3,true),(4,false),(5,true),(6,false),(8,false),(9,true),(10,true)] yH (fun _ h=>h.drawn) (by kernel_rfl) (xC 1 Z (fun _ h=>qN (f:=[_,_,_]) h) (yD Z Z Z Z Z (zP 1 Z xR Z Z Z) (fun _ h=>qN (f:=[_,_,_]) h) (yD Z Z Z Z Z (zT (cs:=(ints en4).toArray) 0 Z vG Z Z (by intro w;rw [show (ints en4).toArray.size=4 from by simp [hE4]];exact vD w)) (fun _ h=>qN (f:=[_,_,_]) h) (yJ Z (zM (v:=ptrV p) Z (zR Z Z) (zH (yC (fun _ h=>qN (f:=[_,_,_]) h) ?_))))))));refine yD Z Z Z Z Z (zG Z zI Z xV Z Z) (fun _ h=>qN (f:=[_,_,_]) h) (yJ Z (zM (v:=pv) Z (qO Z vB Z (fun w1 hw1=>cell_of ((vK (qI (f:=[_,_,_]) (qN (f:=[_,_,_]) hw1)) hm).2) Z)) (zH (yC (fun _ h=>qN (f:=[_,_,_]) h) ?_))));refine yD (v:=.pointer (some (sAt pv 0))) Z Z Z Z Z (yM Z jA vP Z Z (by decide) (by simp) (fun w1 hw1=>RowB.row hR2 (qI (f:=[_,_,_]) hw1))) (fun _ h=>qN (f:=[_,_,_]) h) (yJ Z (zM (v:=ptrV q1) Z (qO Z xR Z (fun w1 hw1=>Row.cell (RowB.row hR2 (qI (f:=[_,_,_]) (qN (f:=[_,_,_]) hw1))) (by decide) (by simp))) (zH (yC (fun _ h=>qN (f:=[_,_,_]) h) ?_))));refine yJ Z (vX (ok:=fun K=>MemoOk 73 a ts K) (b:=ev a q en4) (xs:=[.tmp 48,.tmp 54,.tmp 55]) (vs:=[pt_ h,ptrV q1,.agg ((ints en4).toArray)]) ([bk_ p5 ((ints en4).toArray) 109,bk_ p4 #[ptrV p] 46]:List (Nat×Obj)) Z Z Z Z Tryz.call84 Z (fun w1 hw1=>ih q (by first | exact Nat.lt_succ_self _ | exact Nat.lt_succ_of_le (Nat.le_add_right _ _) | exact Nat.lt_succ_of_le (Nat.le_add_left _ _)) hwf.2.2.2.2 B w0 _ ts h M K q1 en4 w1 (fun x hx=>List.mem_append_right _ (hts x hx)) hT1 hE hK hw1) fun K1 hM1=>?_)
   show Ll _ _ (Own _ _ (_::_::_::(((M,mapP (memoK K1))::(memoB K1++hs))))) _ _ ((56,bo_ (ev a q en4))::_) _ _ _;refine zH (yC (fun _ h=>qN (f:=[_,_,_]) h) ?_);refine xC 2 Z (fun _ h=>qN (f:=[_,_,_]) h) (vC (zD [6] [_] Z (qK (qR Z Z fun w' hw=>?_))))
   exact ⟨K1,ret_b (ev33 hc),hM1,qI (f:=[_,_]) hw⟩
  replace h46:=zU h46
  exfalso;omega
 ·
  obtain ⟨q1,⟨vv,pv,hm0,hR10,hR20⟩,hT1⟩:=hT
  have hm:=hts _ hm0
  have hR1:=hR10.more hts
  have hR2:=hR20.more hts
  have hwv:=(vI_lt hv_v).1;refine zB (zF Z (zP 1 Z xR Z Z Z) (zF (v:=ptrV p) Z (zR Z Z) (zF Z (zG Z zI Z xO Z Z) (zF (v:=.int .u8 (c.toNat:Int)) Z (qO Z xT Z (fun w1 hw1=>cell_of ((vK (qI (f:=[_,_,_]) (qN (f:=[_,_,_]) hw1)) hm).2) Z)) (zK (zD [0,4,5,7,14] [_,_,_,_,_] Z (qS (zE (zB (zC 2 Z (zK (zD [0,4,5,7,14,15] [_,_,_,_,_,_] Z (yA (b:=decide ((c.toNat:Int)=(116:Int))) Z (fun h15_4=>?_) (fun h15_4=>?_))))))))))))))
  ·
   replace h15_4:=qA h15_4
   exfalso;unfold quI at *;omega
  replace h15_4:=zU h15_4;refine zE (zB (zC 2 Z (zK (zD [0,4,5,7,14,17] [_,_,_,_,_,_] Z (yA (b:=decide ((c.toNat:Int)=(102:Int))) Z (fun h17_4=>?_) (fun h17_4=>?_))))))
  ·
   replace h17_4:=qA h17_4
   exfalso;unfold quI at *;omega
  replace h17_4:=zU h17_4;refine zE (zB (zC 2 Z (zK (zD [0,4,5,7,14,19] [_,_,_,_,_,_] Z (yA (b:=decide ((c.toNat:Int)=(80:Int))) Z (fun h19_3=>?_) (fun h19_3=>?_))))))
  ·
   replace h19_3:=qA h19_3
   exfalso;unfold quI at *;omega
  replace h19_3:=zU h19_3;refine zE (zB (zC 2 Z (zK (zD [0,4,5,7,14,28] [_,_,_,_,_,_] Z (yA (b:=decide ((c.toNat:Int)=(61:Int))) Z (fun h28_2=>?_) (fun h28_2=>?_))))))
  ·
   replace h28_2:=qA h28_2
   exfalso;unfold quI at *;omega
  replace h28_2:=zU h28_2;refine zE (zB (zC 2 Z (zK (zD [0,4,5,7,14,35] [_,_,_,_,_,_] Z (yA (b:=decide ((c.toNat:Int)=(69:Int))) Z (fun h35_2=>?_) (fun h35_2=>?_))))))
  ·
   replace h35_2:=qA h35_2
   exfalso;unfold quI at *;omega
  replace h35_2:=zU h35_2;refine zE (zB (zC 2 Z (zK (zD [0,4,5,14,46] [_,_,_,_,_] Z (yA (b:=decide ((c.toNat:Int)=(33:Int))) Z (fun h46_1=>?_) (fun h46_1=>?_))))))
  ·
   replace h46_1:=qA h46_1
   exfalso;unfold quI at *;omega
  replace h46_1:=zU h46_1;refine zE (zB (zC 2 Z (zK (zD [0,4,5,14,58] [_,_,_,_,_] Z (yA (b:=decide ((c.toNat:Int)=(38:Int))) Z (fun h58=>?_) (fun h58=>?_))))))
  ·
   replace h58:=qA h58
   exfalso;unfold quI at *;omega
  replace h58:=zU h58;refine zE (zB (zC 2 Z (zK (zD [0,4,5,80] [_,_,_,_] Z (yA (b:=decide ((c.toNat:Int)=(124:Int))) Z (fun h80=>?_) (fun h80=>?_))))))
  ·
   replace h80:=qA h80
   exfalso;unfold quI at *;omega
  replace h80:=zU h80;refine qT (zD [0,4,5] [_,_,_] Z (zE (zB (zC 1 Z (zK (zD [0,4,5,8] [_,_,_,_] Z (zE (zE (zB (zC 1 Z (zF (v:=pt_ h) Z (zR Z Z) (zF Z (zG Z xE Z zO Z Z) (zF Z (zG Z zX Z zL Z Z) (zF Z (zP 2 Z zV Z Z Z) (zC 1 Z (zK (zD [0,4,5,8,106,107] [_,_,_,_,_,_] Z (qS (xJ (σ:=Nat×List Int×Memo) (fun ⟨x,E,K⟩=>(x:Int)≤a.n∧E.length=4∧(∀ z:Int,E.set (vI v) z=en4.set (vI v) z)∧MemoOk 73 a ts K) (fun ⟨x,E,K⟩=>[(0,pt_ h),(4,pt_ p4),(5,pt_ p5),(8,i6_ (cntT (evC a v q en4) x:Int)),(106,i6_ a.n),(107,i6_ (x:Int))]) (fun ⟨x,E,K⟩=>Own B w0 (bk_ p5 ((ints E).toArray) 109::bk_ p4 #[ptrV p] 46::bk_ h #[i6_ a.n,str a.set,str a.rel,.map (some M)] 108::(((M,mapP (memoK K))::(memoB K++hs))))) (fun ⟨x,E,K⟩=>(a.n - x).toNat) (0,en4,K) ⟨by omega,hE.1,fun _=>rfl,hK⟩ (Sub.cons Z (Sub.cons Z (Sub.cons Z (Sub.cons (by rfl) (Sub.sel [106,107] Z))))) (fun _ h=>h) ?_)))))))))))))))))))
  rintro ⟨x,E,K⟩ ⟨hx,hEl,hEs,hK⟩
  dsimp only
  have hcx:=cntT_le (evC a v q en4) x;refine zE (zB (zC 1 Z (zK (zD [0,4,5,8,106,107,108] [_,_,_,_,_,_,_] Z (zE (xN Z (fun h108=>?_) (fun h108=>?_)))))))
  ·
   refine qT (zD [0,4,5,8,106,107] [_,_,_,_,_,_] Z (zE (qS (zE (zB (zC 2 Z (zK (zD [0,4,5,8,9,106,107] [_,_,_,_,_,_,_] Z (zE (qF (zM Z (zP 1 Z xR Z Z Z) (zM (v:=ptrV p) Z (zR Z Z) (zM Z (zG Z zI Z yN Z Z) (zM (v:=vv) Z (qO Z xK Z (fun w1 hw1=>cell_of ((vK (qI (f:=[_,_,_]) (qN (f:=[_,_,_]) hw1)) hm).2) Z)) (zM (v:=.pointer (some (sAt vv 0))) Z (yM Z yT xO Z Z (by decide) (by simp) (fun w1 hw1=>RowB.row hR1 (qI (f:=[_,_,_]) (qN (f:=[_,_,_]) hw1)))) (zM (v:=.int .u8 (v.toNat:Int)) Z (qO Z xT Z (fun w1 hw1=>Row.u8 (RowB.row hR1 (qI (f:=[_,_,_]) (qN (f:=[_,_,_]) hw1))) (by decide) (by simp))) (zM (v:=.int .u8 (vI v:Int)) Z (yF (by rw [vI_wrap hv_v]) (jZ Z Z Z)) (qJ 1 Z (zM (v:=pf_ p5 (vI v)) Z (yF (v':=pf_ p5 (vI v)) (by rfl) (OpQ.indexArr (i:=(vI v:Int)) Z Tryz.runUnderlying109 zL Z Z (by omega) (by omega))) (qL (v:=i6_ (x:Int)) (hs':=(bk_ p5 ((ints (E.set (vI v) (x:Int))).toArray) 109::_::_::(((M,mapP (memoK K))::(memoB K++hs))))) 0 Z Z Z Z Z Z zL Z (by rw [List.size_toArray,ints_length];omega) (by first | (rw [ints_set];rfl) | (simp only [Nat.zero_add];rw [ints_set];rfl)) (zH (zD [0,4,5,8,106,107] [_,_,_,_,_,_] Z (zE (jH (S:=Own B w0 (bk_ p5 ((ints (E.set (vI v) (x:Int))).toArray) 109::bk_ p4 #[ptrV p] 46::bk_ h #[i6_ a.n,str a.set,str a.rel,.map (some M)] 108::hs)) [(0,true),(1,true),(7,true),(2,false),(3,true),(4,false),(5,true),(6,false),(8,false)] yH (fun _ h=>h.drawn) (by kernel_rfl) (xC 1 Z (fun _ h=>qN (f:=[_,_,_]) h) (yD Z Z Z Z Z (zP 1 Z xR Z Z Z) (fun _ h=>qN (f:=[_,_,_]) h) (yD Z Z Z Z Z (zT (cs:=(ints (E.set (vI v) (x:Int))).toArray) 0 Z vG Z Z (by intro w;rw [show (ints (E.set (vI v) (x:Int))).toArray.size=4 from by simp [hEl]];exact vD w)) (fun _ h=>qN (f:=[_,_,_]) h) (yJ Z (zM (v:=ptrV p) Z (zR Z Z) (zH (yC (fun _ h=>qN (f:=[_,_,_]) h) ?_)))))))))))))))))))))))))))))));refine yD Z Z Z Z Z (zG Z zI Z xV Z Z) (fun _ h=>qN (f:=[_,_,_]) h) (yJ Z (zM (v:=pv) Z (qO Z vB Z (fun w1 hw1=>cell_of ((vK (qI (f:=[_,_,_]) (qN (f:=[_,_,_]) hw1)) hm).2) Z)) (zH (yC (fun _ h=>qN (f:=[_,_,_]) h) ?_))))
   refine yD (v:=.pointer (some (sAt pv 0))) Z Z Z Z Z (yM Z jA vP Z Z (by decide) (by simp) (fun w1 hw1=>RowB.row hR2 (qI (f:=[_,_,_]) hw1))) (fun _ h=>qN (f:=[_,_,_]) h) (yJ Z (zM (v:=ptrV q1) Z (qO Z xR Z (fun w1 hw1=>Row.cell (RowB.row hR2 (qI (f:=[_,_,_]) (qN (f:=[_,_,_]) hw1))) (by decide) (by simp))) (zH (yC (fun _ h=>qN (f:=[_,_,_]) h) ?_))));refine yJ Z (vX (ok:=fun K=>MemoOk 73 a ts K) (b:=ev a q (E.set (vI v) (x:Int))) (xs:=[.tmp 119,.tmp 125,.tmp 126]) (vs:=[pt_ h,ptrV q1,.agg ((ints (E.set (vI v) (x:Int))).toArray)]) ([bk_ p5 ((ints (E.set (vI v) (x:Int))).toArray) 109,bk_ p4 #[ptrV p] 46]:List (Nat×Obj)) Z Z Z Z Tryz.call84 Z (fun w1 hw1=>ih q (by first | exact Nat.lt_succ_self _ | exact Nat.lt_succ_of_le (Nat.le_add_right _ _) | exact Nat.lt_succ_of_le (Nat.le_add_left _ _)) hwf.2.2.2.2 B w0 _ ts h M K q1 (E.set (vI v) (x:Int)) w1 (fun x hx=>List.mem_append_right _ (hts x hx)) hT1 (by rw [hEs];exact hE.set ⟨by omega,by omega⟩) hK hw1) fun K1_1 hM1_1=>?_)
   show Ll _ _ (Own _ _ (_::_::_::(((M,mapP (memoK K1_1))::(memoB K1_1++hs))))) _ _ ((127,bo_ (ev a q (E.set (vI v) (x:Int))))::_) _ _ _;refine zH (yC (fun _ h=>qN (f:=[_,_,_]) h) ?_);refine vC (zD [0,4,5,8,106,107,127] [_,_,_,_,_,_,_] Z (yA (b:=ev a q (E.set (vI v) (x:Int))) Z (fun h127=>?_) (fun h127=>?_)))
   ·
    have hF:evC a v q en4 x=true:=evC_of hEs h127
    have hcs:=cnt_yes hF;refine zB (zC 1 Z (zF Z (yI Z Z Z (by omega) (by omega)) (zC 1 Z (zK (zD [0,4,5,8,106,107] [_,_,_,_,_,_] Z (zB (zF Z (yI Z Z Z (by omega) (by omega)) (zC 1 Z (zK (yQ (x+1,E.set (vI v) (x:Int),K1_1) ⟨by omega,by simp [hEl],fun z=>by rw [List.set_set];exact hEs z,hM1_1⟩ (by omega) (Sub.cons Z (Sub.cons Z (Sub.cons Z (Sub.cons (by rw [← hcs];rfl) (Sub.sel [106,107] Z))))) (fun _ h=>h)))))))))))
   have hF:evC a v q en4 x=false:=evC_of hEs (by simpa using h127)
   have hcs:=cnt_no hF;refine qT (zD [0,4,5,8,106,107] [_,_,_,_,_,_] Z (zB (zF Z (yI Z Z Z (by omega) (by omega)) (zC 1 Z (zK (yQ (x+1,E.set (vI v) (x:Int),K1_1) ⟨by omega,by simp [hEl],fun z=>by rw [List.set_set];exact hEs z,hM1_1⟩ (by omega) (Sub.cons Z (Sub.cons Z (Sub.cons Z (Sub.cons (by rw [hcs];rfl) (Sub.sel [106,107] Z))))) (fun _ h=>h)))))))
  refine yW Z (zD [0,4,8] [_,_,_] Z (zE (zE (zB (zF Z (zP 1 Z xR Z Z Z) (zF (v:=ptrV p) Z (zR Z Z) (zF Z (zG Z zI Z xO Z Z) (zF (v:=.int .u8 (c.toNat:Int)) Z (qO Z xT Z (fun w1 hw1=>cell_of ((vK (qI (f:=[_,_,_]) (qN (f:=[_,_,_]) hw1)) hm).2) Z)) (zK (zD [0,4,8,134] [_,_,_,_] Z (qS (zE (zB (zC 2 Z (zK (zD [0,4,8,134,135] [_,_,_,_,_] Z (xN Z (fun h135=>?_) (fun h135=>?_))))))))))))))))))
  ·
   refine zE (zB (zC 2 Z (zF (v:=pt_ h) Z (zR Z Z) (zF Z (zG Z xE Z zO Z Z) (zF Z (zG Z zX Z zL Z Z) (zF Z (zP 2 Z zV Z Z Z) (zC 2 Z (zK (zD [6] [_] Z (qK (qR Z Z fun w' hw=>?_)))))))))))
   exact ⟨K,ret_b (ev65 h135 (by omega)),hK,qI (f:=[_,_]) hw⟩
  refine zE (zB (zC 2 Z (zK (zD [4,8,144] [_,_,_] Z (xN Z (fun h144=>?_) (fun h144=>?_))))))
  ·
   refine zE (zB (zC 3 Z (zK (zD [6] [_] Z (qK (qR Z Z fun w' hw=>?_))))))
   exact ⟨K,ret_b (ev83 h144 (by omega)),hK,qI (f:=[_,_]) hw⟩
  refine qT (zD [4,8] [_,_] Z (zE (zB (zC 1 Z (zF Z (zP 1 Z xR Z Z Z) (zF (v:=ptrV p) Z (zR Z Z) (zF Z (zG Z zI Z xO Z Z) (zF (v:=.int .u8 (c.toNat:Int)) Z (qO Z xT Z (fun w1 hw1=>cell_of ((vK (qI (f:=[_,_,_]) (qN (f:=[_,_,_]) hw1)) hm).2) Z)) (zF (v:=.int .u8 ((c.toNat:Int) - 48)) Z (yF (by rw [IntWalk.u8_in _ (by unfold quI at *;omega)]) (jZ Z Z Z)) (zF (v:=i6_ ((c.toNat:Int) - 48)) Z (uE .i64 Z jI xW Z (IntWalk.i64_in _ (by have:=c.toNat_lt;omega))) (zC 2 Z (zK (zD [6] [_] Z (qK (qR Z Z fun w' hw=>?_)))))))))))))))
  exact ⟨K,ret_b (ev234 hc h135 h144 (by omega)),hK,qI (f:=[_,_]) hw⟩
 obtain ⟨q1,q2,⟨vv,pv,hm0,hR10,hR20⟩,hT1,hT2⟩:=hT
 have hm:=hts _ hm0
 have hR1:=hR10.more hts
 have hR2:=hR20.more hts;refine zB (zF Z (zP 1 Z xR Z Z Z) (zF (v:=ptrV p) Z (zR Z Z) (zF Z (zG Z zI Z xO Z Z) (zF (v:=.int .u8 (c.toNat:Int)) Z (qO Z xT Z (fun w1 hw1=>cell_of ((vK (qI (f:=[_,_,_]) (qN (f:=[_,_,_]) hw1)) hm).2) Z)) (zK (zD [0,4,5,7,14] [_,_,_,_,_] Z (qS (zE (zB (zC 2 Z (zK (zD [0,4,5,7,14,15] [_,_,_,_,_,_] Z (yA (b:=decide ((c.toNat:Int)=(116:Int))) Z (fun h15_5=>?_) (fun h15_5=>?_))))))))))))))
 ·
  replace h15_5:=qA h15_5
  exfalso;omega
 replace h15_5:=zU h15_5;refine zE (zB (zC 2 Z (zK (zD [0,4,5,7,14,17] [_,_,_,_,_,_] Z (yA (b:=decide ((c.toNat:Int)=(102:Int))) Z (fun h17_5=>?_) (fun h17_5=>?_))))))
 ·
  replace h17_5:=qA h17_5
  exfalso;omega
 replace h17_5:=zU h17_5;refine zE (zB (zC 2 Z (zK (zD [0,4,5,7,14,19] [_,_,_,_,_,_] Z (yA (b:=decide ((c.toNat:Int)=(80:Int))) Z (fun h19_4=>?_) (fun h19_4=>?_))))))
 ·
  replace h19_4:=qA h19_4
  exfalso;omega
 replace h19_4:=zU h19_4;refine zE (zB (zC 2 Z (zK (zD [0,4,5,7,14,28] [_,_,_,_,_,_] Z (yA (b:=decide ((c.toNat:Int)=(61:Int))) Z (fun h28_3=>?_) (fun h28_3=>?_))))))
 ·
  replace h28_3:=qA h28_3
  exfalso;omega
 replace h28_3:=zU h28_3;refine zE (zB (zC 2 Z (zK (zD [0,4,5,7,14,35] [_,_,_,_,_,_] Z (yA (b:=decide ((c.toNat:Int)=(69:Int))) Z (fun h35_3=>?_) (fun h35_3=>?_))))))
 ·
  replace h35_3:=qA h35_3
  exfalso;omega
 replace h35_3:=zU h35_3;refine zE (zB (zC 2 Z (zK (zD [0,4,5,14,46] [_,_,_,_,_] Z (yA (b:=decide ((c.toNat:Int)=(33:Int))) Z (fun h46_2=>?_) (fun h46_2=>?_))))))
 ·
  replace h46_2:=qA h46_2
  exfalso;omega
 replace h46_2:=zU h46_2;refine zE (zB (zC 2 Z (zK (zD [0,4,5,14,58] [_,_,_,_,_] Z (xN Z (fun h58_1=>?_) (fun h58_1=>?_))))))
 ·
  refine zE (jH (S:=Own B w0 (bk_ p5 ((ints en4).toArray) 109::bk_ p4 #[ptrV p] 46::bk_ h #[i6_ a.n,str a.set,str a.rel,.map (some M)] 108::hs)) [(0,true),(1,true),(7,true),(2,false),(3,true),(4,false),(5,true),(6,false),(8,false),(9,true),(10,true),(11,true),(17,true),(12,false),(13,true),(14,false),(15,true),(16,false),(18,false),(19,true),(20,true)] yH (fun _ h=>h.drawn) (by kernel_rfl) (xC 1 Z (fun _ h=>qN (f:=[_,_,_]) h) (yD Z Z Z Z Z (zP 1 Z xR Z Z Z) (fun _ h=>qN (f:=[_,_,_]) h) (yD Z Z Z Z Z (zT (cs:=(ints en4).toArray) 0 Z vG Z Z (by intro w;rw [show (ints en4).toArray.size=4 from by simp [hE4]];exact vD w)) (fun _ h=>qN (f:=[_,_,_]) h) (yJ Z (zM (v:=ptrV p) Z (zR Z Z) (zH (yC (fun _ h=>qN (f:=[_,_,_]) h) ?_))))))));refine yD Z Z Z Z Z (zG Z zI Z xV Z Z) (fun _ h=>qN (f:=[_,_,_]) h) (yJ Z (zM (v:=pv) Z (qO Z vB Z (fun w1 hw1=>cell_of ((vK (qI (f:=[_,_,_]) (qN (f:=[_,_,_]) hw1)) hm).2) Z)) (zH (yC (fun _ h=>qN (f:=[_,_,_]) h) ?_))));refine yD (v:=.pointer (some (sAt pv 0))) Z Z Z Z Z (yM Z jA vP Z Z (by decide) (by simp) (fun w1 hw1=>RowB.row hR2 (qI (f:=[_,_,_]) hw1))) (fun _ h=>qN (f:=[_,_,_]) h) (yJ Z (zM (v:=ptrV q1) Z (qO Z xR Z (fun w1 hw1=>Row.cell (RowB.row hR2 (qI (f:=[_,_,_]) (qN (f:=[_,_,_]) hw1))) (by decide) (by simp))) (zH (yC (fun _ h=>qN (f:=[_,_,_]) h) ?_))));refine yJ Z (vX (ok:=fun K=>MemoOk 73 a ts K) (b:=ev a q en4) (xs:=[.tmp 60,.tmp 66,.tmp 67]) (vs:=[pt_ h,ptrV q1,.agg ((ints en4).toArray)]) ([bk_ p5 ((ints en4).toArray) 109,bk_ p4 #[ptrV p] 46]:List (Nat×Obj)) Z Z Z Z Tryz.call84 Z (fun w1 hw1=>ih q (by first | exact Nat.lt_succ_self _ | exact Nat.lt_succ_of_le (Nat.le_add_right _ _) | exact Nat.lt_succ_of_le (Nat.le_add_left _ _)) hwf.2.2.2.1 B w0 _ ts h M K q1 en4 w1 (fun x hx=>List.mem_append_right _ (hts x hx)) hT1 hE hK hw1) fun K1_2 hM1_2=>?_)
  show Ll _ _ (Own _ _ (_::_::_::(((M,mapP (memoK K1_2))::(memoB K1_2++hs))))) _ _ ((68,bo_ (ev a q en4))::_) _ _ _;refine zH (yC (fun _ h=>qN (f:=[_,_,_]) h) ?_);refine xC 1 Z (fun _ h=>qN (f:=[_,_,_]) h) (Ld.bool fun b69 hg69=>?_)
  cases b69
  ·
   skip;refine vV Z Z Z Z (fun _ h=>qN (f:=[_,_,_]) h) (vV Z Z Z Z (fun _ h=>qN (f:=[_,_,_]) h) (vV Z Z Z Z (fun _ h=>qN (f:=[_,_,_]) h) (yJ Z (qU Z (zH (yC (fun _ h=>qN (f:=[_,_,_]) h) ?_))))));refine vV Z Z Z Z (fun _ h=>qN (f:=[_,_,_]) h) (yJ Z (qU Z (zH (yC (fun _ h=>qN (f:=[_,_,_]) h) ?_))));refine vV Z Z Z Z (fun _ h=>qN (f:=[_,_,_]) h) (yJ Z (qU Z (zH (yC (fun _ h=>qN (f:=[_,_,_]) h) ?_))));refine yJ Z (qU Z (zH (yC (fun _ h=>qN (f:=[_,_,_]) h) ?_)));refine xC 2 Z (fun _ h=>qN (f:=[_,_,_]) h) (vC (zD [6] [_] Z (qK (qR Z Z fun w' hw=>?_))))
   exact ⟨K1_2,ret_b (and_f (ev38 h58_1) hg69),hM1_2,qI (f:=[_,_]) hw⟩
  skip;refine xC 1 Z (fun _ h=>qN (f:=[_,_,_]) h) (yD Z Z Z Z Z (zP 1 Z xR Z Z Z) (fun _ h=>qN (f:=[_,_,_]) h) (yD Z Z Z Z Z (zT (cs:=(ints en4).toArray) 0 Z vG Z Z (by intro w;rw [show (ints en4).toArray.size=4 from by simp [hE4]];exact vD w)) (fun _ h=>qN (f:=[_,_,_]) h) (yJ Z (zM (v:=ptrV p) Z (zR Z Z) (zH (yC (fun _ h=>qN (f:=[_,_,_]) h) ?_))))));refine yD Z Z Z Z Z (zG Z zI Z xV Z Z) (fun _ h=>qN (f:=[_,_,_]) h) (yJ Z (zM (v:=pv) Z (qO Z vB Z (fun w1 hw1=>cell_of ((vK (qI (f:=[_,_,_]) (qN (f:=[_,_,_]) hw1)) hm).2) Z)) (zH (yC (fun _ h=>qN (f:=[_,_,_]) h) ?_))));refine yD (v:=.pointer (some (sAt pv 1))) Z Z Z Z Z (yM Z jA vP Z Z (by decide) (by simp) (fun w1 hw1=>RowB.row hR2 (qI (f:=[_,_,_]) hw1))) (fun _ h=>qN (f:=[_,_,_]) h) (yJ Z (zM (v:=ptrV q2) Z (qO Z xR Z (fun w1 hw1=>Row.cell (RowB.row hR2 (qI (f:=[_,_,_]) (qN (f:=[_,_,_]) hw1))) (by decide) (by simp))) (zH (yC (fun _ h=>qN (f:=[_,_,_]) h) ?_))));refine yJ Z (vX (ok:=fun K=>MemoOk 73 a ts K) (b:=ev a r en4) (xs:=[.tmp 70,.tmp 76,.tmp 77]) (vs:=[pt_ h,ptrV q2,.agg ((ints en4).toArray)]) ([bk_ p5 ((ints en4).toArray) 109,bk_ p4 #[ptrV p] 46]:List (Nat×Obj)) Z Z Z Z Tryz.call84 Z (fun w1 hw1=>ih r (by first | exact Nat.lt_succ_self _ | exact Nat.lt_succ_of_le (Nat.le_add_right _ _) | exact Nat.lt_succ_of_le (Nat.le_add_left _ _)) hwf.2.2.2.2 B w0 _ ts h M K1_2 q2 en4 w1 (fun x hx=>List.mem_append_right _ (hts x hx)) hT2 hE hM1_2 hw1) fun K1_3 hM1_3=>?_)
  show Ll _ _ (Own _ _ (_::_::_::(((M,mapP (memoK K1_3))::(memoB K1_3++hs))))) _ _ ((78,bo_ (ev a r en4))::_) _ _ _;refine zH (yC (fun _ h=>qN (f:=[_,_,_]) h) ?_);refine xC 2 Z (fun _ h=>qN (f:=[_,_,_]) h) (vC (zD [6] [_] Z (qK (qR Z Z fun w' hw=>?_))))
  exact ⟨K1_3,ret_b (and_t (ev38 h58_1) hg69),hM1_3,qI (f:=[_,_]) hw⟩
 refine zE (zB (zC 2 Z (zK (zD [0,4,5,80] [_,_,_,_] Z (yA (b:=decide ((c.toNat:Int)=(124:Int))) Z (fun h80_1=>?_) (fun h80_1=>?_))))))
 ·
  replace h80_1:=qA h80_1;refine zE (jH (S:=Own B w0 (bk_ p5 ((ints en4).toArray) 109::bk_ p4 #[ptrV p] 46::bk_ h #[i6_ a.n,str a.set,str a.rel,.map (some M)] 108::hs)) [(0,true),(1,true),(7,true),(2,false),(3,true),(4,false),(5,true),(6,false),(8,false),(9,true),(10,true),(11,true),(17,true),(12,false),(13,true),(14,false),(15,true),(16,false),(18,false),(19,true),(20,true)] yH (fun _ h=>h.drawn) (by kernel_rfl) (xC 1 Z (fun _ h=>qN (f:=[_,_,_]) h) (yD Z Z Z Z Z (zP 1 Z xR Z Z Z) (fun _ h=>qN (f:=[_,_,_]) h) (yD Z Z Z Z Z (zT (cs:=(ints en4).toArray) 0 Z vG Z Z (by intro w;rw [show (ints en4).toArray.size=4 from by simp [hE4]];exact vD w)) (fun _ h=>qN (f:=[_,_,_]) h) (yJ Z (zM (v:=ptrV p) Z (zR Z Z) (zH (yC (fun _ h=>qN (f:=[_,_,_]) h) ?_))))))));refine yD Z Z Z Z Z (zG Z zI Z xV Z Z) (fun _ h=>qN (f:=[_,_,_]) h) (yJ Z (zM (v:=pv) Z (qO Z vB Z (fun w1 hw1=>cell_of ((vK (qI (f:=[_,_,_]) (qN (f:=[_,_,_]) hw1)) hm).2) Z)) (zH (yC (fun _ h=>qN (f:=[_,_,_]) h) ?_))));refine yD (v:=.pointer (some (sAt pv 0))) Z Z Z Z Z (yM Z jA vP Z Z (by decide) (by simp) (fun w1 hw1=>RowB.row hR2 (qI (f:=[_,_,_]) hw1))) (fun _ h=>qN (f:=[_,_,_]) h) (yJ Z (zM (v:=ptrV q1) Z (qO Z xR Z (fun w1 hw1=>Row.cell (RowB.row hR2 (qI (f:=[_,_,_]) (qN (f:=[_,_,_]) hw1))) (by decide) (by simp))) (zH (yC (fun _ h=>qN (f:=[_,_,_]) h) ?_))));refine yJ Z (vX (ok:=fun K=>MemoOk 73 a ts K) (b:=ev a q en4) (xs:=[.tmp 82,.tmp 88,.tmp 89]) (vs:=[pt_ h,ptrV q1,.agg ((ints en4).toArray)]) ([bk_ p5 ((ints en4).toArray) 109,bk_ p4 #[ptrV p] 46]:List (Nat×Obj)) Z Z Z Z Tryz.call84 Z (fun w1 hw1=>ih q (by first | exact Nat.lt_succ_self _ | exact Nat.lt_succ_of_le (Nat.le_add_right _ _) | exact Nat.lt_succ_of_le (Nat.le_add_left _ _)) hwf.2.2.2.1 B w0 _ ts h M K q1 en4 w1 (fun x hx=>List.mem_append_right _ (hts x hx)) hT1 hE hK hw1) fun K1_4 hM1_4=>?_)
  show Ll _ _ (Own _ _ (_::_::_::(((M,mapP (memoK K1_4))::(memoB K1_4++hs))))) _ _ ((90,bo_ (ev a q en4))::_) _ _ _;refine zH (yC (fun _ h=>qN (f:=[_,_,_]) h) ?_);refine xC 1 Z (fun _ h=>qN (f:=[_,_,_]) h) (Ld.bool fun b91 hg91=>?_)
  cases b91
  ·
   skip;refine xC 1 Z (fun _ h=>qN (f:=[_,_,_]) h) (yD Z Z Z Z Z (zP 1 Z xR Z Z Z) (fun _ h=>qN (f:=[_,_,_]) h) (yD Z Z Z Z Z (zT (cs:=(ints en4).toArray) 0 Z vG Z Z (by intro w;rw [show (ints en4).toArray.size=4 from by simp [hE4]];exact vD w)) (fun _ h=>qN (f:=[_,_,_]) h) (yJ Z (zM (v:=ptrV p) Z (zR Z Z) (zH (yC (fun _ h=>qN (f:=[_,_,_]) h) ?_))))));refine yD Z Z Z Z Z (zG Z zI Z xV Z Z) (fun _ h=>qN (f:=[_,_,_]) h) (yJ Z (zM (v:=pv) Z (qO Z vB Z (fun w1 hw1=>cell_of ((vK (qI (f:=[_,_,_]) (qN (f:=[_,_,_]) hw1)) hm).2) Z)) (zH (yC (fun _ h=>qN (f:=[_,_,_]) h) ?_))));refine yD (v:=.pointer (some (sAt pv 1))) Z Z Z Z Z (yM Z jA vP Z Z (by decide) (by simp) (fun w1 hw1=>RowB.row hR2 (qI (f:=[_,_,_]) hw1))) (fun _ h=>qN (f:=[_,_,_]) h) (yJ Z (zM (v:=ptrV q2) Z (qO Z xR Z (fun w1 hw1=>Row.cell (RowB.row hR2 (qI (f:=[_,_,_]) (qN (f:=[_,_,_]) hw1))) (by decide) (by simp))) (zH (yC (fun _ h=>qN (f:=[_,_,_]) h) ?_))));refine yJ Z (vX (ok:=fun K=>MemoOk 73 a ts K) (b:=ev a r en4) (xs:=[.tmp 92,.tmp 98,.tmp 99]) (vs:=[pt_ h,ptrV q2,.agg ((ints en4).toArray)]) ([bk_ p5 ((ints en4).toArray) 109,bk_ p4 #[ptrV p] 46]:List (Nat×Obj)) Z Z Z Z Tryz.call84 Z (fun w1 hw1=>ih r (by first | exact Nat.lt_succ_self _ | exact Nat.lt_succ_of_le (Nat.le_add_right _ _) | exact Nat.lt_succ_of_le (Nat.le_add_left _ _)) hwf.2.2.2.2 B w0 _ ts h M K1_4 q2 en4 w1 (fun x hx=>List.mem_append_right _ (hts x hx)) hT2 hE hM1_4 hw1) fun K1_5 hM1_5=>?_)
   show Ll _ _ (Own _ _ (_::_::_::(((M,mapP (memoK K1_5))::(memoB K1_5++hs))))) _ _ ((100,bo_ (ev a r en4))::_) _ _ _;refine zH (yC (fun _ h=>qN (f:=[_,_,_]) h) ?_);refine xC 2 Z (fun _ h=>qN (f:=[_,_,_]) h) (vC (zD [6] [_] Z (qK (qR Z Z fun w' hw=>?_))))
   exact ⟨K1_5,ret_b (or_f (ev124 h80_1) hg91),hM1_5,qI (f:=[_,_]) hw⟩
  skip;refine vV Z Z Z Z (fun _ h=>qN (f:=[_,_,_]) h) (vV Z Z Z Z (fun _ h=>qN (f:=[_,_,_]) h) (vV Z Z Z Z (fun _ h=>qN (f:=[_,_,_]) h) (yJ Z (qU Z (zH (yC (fun _ h=>qN (f:=[_,_,_]) h) ?_))))));refine vV Z Z Z Z (fun _ h=>qN (f:=[_,_,_]) h) (yJ Z (qU Z (zH (yC (fun _ h=>qN (f:=[_,_,_]) h) ?_))));refine vV Z Z Z Z (fun _ h=>qN (f:=[_,_,_]) h) (yJ Z (qU Z (zH (yC (fun _ h=>qN (f:=[_,_,_]) h) ?_))));refine yJ Z (qU Z (zH (yC (fun _ h=>qN (f:=[_,_,_]) h) ?_)));refine xC 2 Z (fun _ h=>qN (f:=[_,_,_]) h) (vC (zD [6] [_] Z (qK (qR Z Z fun w' hw=>?_))))
  exact ⟨K1_4,ret_b (or_t (ev124 h80_1) hg91),hM1_4,qI (f:=[_,_]) hw⟩
 replace h80_1:=zU h80_1
 exfalso;omega
set_option maxHeartbeats 1600000 in
theorem isTrue_step (a:St) (fm:Fm) (ha:a.Fine) (hwf:wfF fm) (hd:IsT 111 a fm) (B:Nat) (w0:World) (hs ts:List (Nat×Obj)) (h M:Nat) (K:Memo) (p:Nat) (en4:List Int) (w:World) (hts:∀ x∈ts,x∈hs) (hT:TreeB 73 ts fm p) (hE:EnvA a en4) (hK:MemoOk 73 a ts K) (hw:Own B w0 (memoF 108 h M a K hs) w) :
    Calls Tryz.prog 84 [pt_ h,ptrV p,.agg ((ints en4).toArray)].toArray w fun en w'=>∃ K',en=.returned (.bool (ev a fm en4))∧MemoOk 73 a ts K'∧Own B w0 (memoF 108 h M a K' hs) w':=by
 refine fnStartC (Own B w0 (bk_ h #[i6_ a.n,str a.set,str a.rel,.map (some M)] 108::((M,mapP (memoK K))::(memoB K++hs)))) (n:=72) (e:=[(0,pt_ h),(1,ptrV p),(2,.agg ((ints en4).toArray))]) Tryz.func84 Z Z Z Z Ends.both hw ?_
 have hE4:=hE.1
 have hfl:=frB_lt hwf
 obtain ⟨c,vs,ps,vv,pv,hm0,-,-⟩:=hT.node
 have hm:=hts _ hm0
 have hwr:Own B w0 hs w:=qI (f:=[_]) (qN (f:=[_]) hw);refine zE (qF (yU (v:=.agg ((ints en4).toArray)) Z Z Z Z Z fun p5 hp5=>?_))
 show Ll _ _ (Own _ _ (_::_::(((M,mapP (memoK K))::(memoB K++hs))))) _ _ ((5,pt_ p5)::_) _ _ _;refine qJ 1 Z (zH (zD [0,1,5] [_,_,_] Z (zE (zB (zC 1 Z (zK (zD [0,1,5,7] [_,_,_,_] Z (zE (zE (zB (zF Z (zT (cs:=(ints en4).toArray) 0 Z vG Z Z (by intro w;rw [show (ints en4).toArray.size=4 from by simp [hE4]];exact vD w)) (zC 1 Z (zK (zD [0,1,5,7,13,14] [_,_,_,_,_,_] Z (qS (xJ (σ:=Nat) (fun i=>i≤4) (fun i=>[(0,pt_ h),(1,ptrV p),(5,pt_ p5),(7,i6_ (kSum (frB fm) en4 i:Int)),(13,.agg ((ints en4).toArray)),(14,i6_ (i:Int))]) (fun i=>Own B w0 (bk_ p5 ((ints en4).toArray) 109::bk_ h #[i6_ a.n,str a.set,str a.rel,.map (some M)] 108::(((M,mapP (memoK K))::(memoB K++hs))))) (fun i=>4 - i) (0) (by omega) (Sub.cons Z (Sub.cons Z (Sub.cons Z (Sub.cons (by rfl) (Sub.sel [13,14] Z))))) (fun _ h=>h) ?_))))))))))))))))
 rintro i hi5;refine zE (zB (zC 1 Z (zK (zD [0,1,5,7,13,14,15] [_,_,_,_,_,_,_] Z (zE (yA (b:=decide ((i:Int)<(4:Int))) Z (fun h15=>?_) (fun h15=>?_)))))))
 ·
  replace h15:=qA h15
  have hi4:i<4:=by omega
  refine qT (zD [0,1,5,7,13,14] [_,_,_,_,_,_] Z (zE (qS (zE (zB (zC 1 Z (zF (v:=i6_ ((en4.getD i 0).toNat:Int)) Z (yF (by rw [Int.toNat_natCast,← (key_val hE ha hi4).1]) (OpQ.indexAgg (i:=(i:Int)) Z Tryz.runUnderlying109 zV zL Z Z (by omega) (by omega) hE4)) (zC 2 Z (zK (zD [0,1,5,7,8,9,13,14] [_,_,_,_,_,_,_,_] Z (zE (zB (zC 1 Z (zF (v:=ptrV p) Z (zR Z Z) (zF Z (zG Z zI Z zL Z Z) (zF (v:=i6_ (frB fm:Int)) Z (qO Z zV Z (fun w1 hw1=>cell_of ((vK (qI (f:=[_,_]) (qN (f:=[_,_]) hw1)) hm).2) Z)) (zC 1 Z (zF (v:=i6_ ((((frB fm) / 2 ^ i:Nat):Int))) Z (OpQ.shr (a:=frB fm) (b:=i) Z Z Z (by omega)) (zF (v:=i6_ (((((frB fm) / 2 ^ i) &&& 1:Nat):Int))) Z (OpQ.and (a:=(frB fm) / 2 ^ i) (b:=1) Z Z Z (Nat.lt_of_le_of_lt (Nat.div_le_self _ _) (by omega)) (by decide)) (zF (v:=bo_ ((frB fm).testBit i)) Z (yF (by rw [bit_and]) (OpQ.eql Z Z Z)) (zK (zD [0,1,5,7,8,9,13,14,25] [_,_,_,_,_,_,_,_,_] Z (yA (b:=(frB fm).testBit i) Z (fun h25=>?_) (fun h25=>?_))))))))))))))))))))))))
  ·
   refine zB (zC 3 Z (zF (v:=i6_ ((3*i:Nat):Int)) Z (yF (by congr 1) (OpQ.mul Z Z Z (by omega) (by omega))) (zF (v:=i6_ (((((en4.getD i 0).toNat)*2 ^ (3*i):Nat):Int))) Z (uP (a:=(en4.getD i 0).toNat) (b:=3*i) Z Z Z (by omega) (shl_bound (key_val hE ha hi4).2 hi4)) (zF (v:=i6_ ((((kSum (frB fm) en4 i) ||| (((en4.getD i 0).toNat)*2 ^ (3*i)):Nat):Int))) Z (jB (a:=kSum (frB fm) en4 i) (b:=((en4.getD i 0).toNat)*2 ^ (3*i)) Z Z Z (by have:=key_bound hE ha (b:=frB fm) (i:=i) (by omega);omega) (shl_bound (key_val hE ha hi4).2 hi4)) (zC 1 Z (zK (zD [0,1,5,7,13,14] [_,_,_,_,_,_] Z (zB (zF Z (yI Z Z Z (by omega) (by omega)) (zC 1 Z (zK (yQ (i+1) (by omega) (by omega) (Sub.cons Z (Sub.cons Z (Sub.cons Z (Sub.cons (by rw [← key_yes hE ha hi4 h25];rfl) (Sub.sel [13,14] Z))))) (fun _ h=>h)))))))))))))
  refine qT (zD [0,1,5,7,13,14] [_,_,_,_,_,_] Z (zB (zF Z (yI Z Z Z (by omega) (by omega)) (zC 1 Z (zK (yQ (i+1) (by omega) (by omega) (Sub.cons Z (Sub.cons Z (Sub.cons Z (Sub.cons (by rw [← key_no h25];rfl) (Sub.sel [13,14] Z))))) (fun _ h=>h)))))))
 replace h15:=zU h15
 obtain rfl:i=4:=by omega
 refine yW Z (zD [0,1,5,7] [_,_,_,_] Z (zE (zE ?_)))
 rcases memo_case3 K p (keyF fm en4) with hno | ⟨j,m,L,hj,hf,hnk⟩ | ⟨j,m,L,hj,hf,hnk⟩
 ·
  refine zB (zC 1 Z (zF (v:=pt_ h) Z (zR Z Z) (zF Z (zG Z xE Z jQ Z Z) (zF Z (zP 1 Z jW Z Z Z) (zC 1 Z (zF (v:=.map none) Z (OpQ.lookP_no (K:=memoK K) 2 Z jC yX jX (by decide) Tryz.zeroValue130 Z Z Z hno (MemoOk.keys hK (fun x hx=>qM _ (qM _ (qM _ (List.mem_append_right _ (hts x hx)))))) (TreeB.key hT (fun x hx=>qM _ (qM _ (qM _ (List.mem_append_right _ (hts x hx))))))) (zC 1 Z (zF (v:=.tuple #[bo_ false,bo_ false]) Z (OpQ.lookI_nil (k:=keyF fm en4) Z jM xW Tryz.zeroValue4 Z Z) (zC 1 Z (zF (v:=bo_ false) Z (yB Z Z Z) (zF (v:=bo_ false) Z (yB Z Z Z) (zC 2 Z (zK (zD [0,1,5,7,10,11] [_,_,_,_,_,_] Z (zE (zB (zC 1 Z (zK (zD [0,1,5,7,10,44] [_,_,_,_,_,_] Z (jE Z (qT (zD [0,1,5,7] [_,_,_,_] Z (zE (qF (qJ 2 Z (zM Z (zT (cs:=(ints en4).toArray) 0 Z vG Z Z (by intro w;rw [show (ints en4).toArray.size=4 from by simp [hE4]];exact vD w)) (vX (ok:=fun K=>MemoOk 73 a ts K) (b:=ev a fm en4) (xs:=[.tmp 46,.tmp 47,.tmp 48]) (vs:=[pt_ h,ptrV p,.agg ((ints en4).toArray)]) ([bk_ p5 ((ints en4).toArray) 109]:List (Nat×Obj)) Z Z Z Z Tryz.call111 Z (fun w1 hw1=>hd B w0 _ ts h M K p en4 w1 (fun x hx=>List.mem_append_right _ (hts x hx)) hT hE hK hw1) fun K1 hM1=>?_)))))))))))))))))))))))))))
  show Ll _ _ (Own _ _ (_::_::(((M,mapP (memoK K1))::(memoB K1++hs))))) _ _ ((49,bo_ (ev a fm en4))::_) _ _ _;refine qJ 1 Z (zH (zD [0,1,7,12] [_,_,_,_] Z (zE (zE ?_))))
  rcases memo_case K1 p with hno1 | ⟨j1,m1,L1,hj1,hf1⟩
  ·
   refine zB (zC 1 Z (zF (v:=pt_ h) Z (zR Z Z) (zF Z (zG Z xE Z jQ Z Z) (zF Z (zP 1 Z jW Z Z Z) (zC 1 Z (zF (v:=.map none) Z (OpQ.lookP_no (K:=memoK K1) 2 Z jC yX jX (by decide) Tryz.zeroValue130 Z Z Z hno1 (MemoOk.keys hM1 (fun x hx=>qM _ (qM _ (qM _ (List.mem_append_right _ (hts x hx)))))) (TreeB.key hT (fun x hx=>qM _ (qM _ (qM _ (List.mem_append_right _ (hts x hx))))))) (zF (v:=bo_ true) Z (OpQ.eqNilM (p:=none) Z jM Z Z) (zK (zD [0,1,7,12,56] [_,_,_,_,_] Z (jS (σ:=Memo×Nat×Nat×List (Int×Bool)) (fun ⟨K3,j3,m3,L3⟩=>MemoOk 73 a ts K3∧K3[j3]?=some (p,m3,L3)∧∀ (q:Nat) (x:Nat×Nat),q<j3→(memoK K3)[q]?=some x→x.1 ≠ p) (fun ⟨K3,j3,m3,L3⟩=>[(0,pt_ h),(1,ptrV p),(7,i6_ (keyF fm en4)),(12,bo_ (ev a fm en4))]) (fun ⟨K3,j3,m3,L3⟩=>Own B w0 (bk_ p5 ((ints en4).toArray) 109::bk_ h #[i6_ a.n,str a.set,str a.rel,.map (some M)] 108::(((M,mapP (memoK K3))::(memoB K3++hs))))) ?_ ?_))))))))))
   ·
    refine xH Z (qF (qJ 1 Z (zM (v:=pt_ h) Z (zR Z Z) (zM Z (zG Z xE Z jQ Z Z) (zM Z (zP 1 Z jW Z Z Z) (qJ 1 Z (Ll.makeMapI Z Z Z Z fun m62 hm62=>?_)))))))
    show Ll _ _ (Own _ _ (_::_::_::(((M,mapP (memoK K1))::(memoB K1++hs))))) _ _ ((62,.map (some m62))::_) _ _ _;refine Ll.mapSetP (K:=memoK K1) (m:=m62) 3 Z Z Z jC yX jX (by decide) Z Z Z Z hno1 (MemoOk.keys hM1 (fun x hx=>qM _ (qM _ (qM _ (qM _ (List.mem_append_right _ (hts x hx))))))) (TreeB.key hT (fun x hx=>qM _ (qM _ (qM _ (qM _ (List.mem_append_right _ (hts x hx))))))) ?_
    show Ll _ _ (Own _ _ (_::_::_::(((M,mapP (memoK K1++[(p,m62)]))::(memoB K1++hs))))) _ _ _ _ _ _;refine zH (qQ (K1++[(p,m62,[])],K1.length,m62,[]) ⟨MemoOk.add hM1 hT hwf,(memo_last hno1).1,(memo_last hno1).2⟩ (Sub.sel [0,1,7,12] Z) (fun _ h=>h.perm (memo_new [_,_] _)))
   rintro ⟨K3,j3,m3,L3⟩ ⟨hK3,hj3,hf3⟩
   dsimp only;refine zD [0,1,7,12] [_,_,_,_] Z (zE (qF (qJ 1 Z (zM (v:=pt_ h) Z (zR Z Z) (zM Z (zG Z xE Z jQ Z Z) (zM Z (zP 1 Z jW Z Z Z) (qJ 1 Z (zM (v:=.map (some m3)) Z (uL (K:=memoK K3) 2 Z jC yX jX (by decide) Z Z Z (memoK_get hj3) hf3 (MemoOk.keys hK3 (fun x hx=>qM _ (qM _ (qM _ (List.mem_append_right _ (hts x hx))))))) (qJ 2 Z (Ll.mapSetI (L:=L3) (k:=keyF fm en4) (b:=ev a fm en4) (j3+3) Z Z Z jM xW Z Z Z (memoB_at hj3) fun L2 hL2=>?_))))))))))
   rw [memo_set2 hj3]
   show Ll _ _ (Own _ _ (_::_::(((M,mapP (memoK (K3.set j3 (p,m3,L2))))::(memoB (K3.set j3 (p,m3,L2))++hs))))) _ _ _ _ _ _;refine zH (zD [12] [_] Z (zE (zB (zC 2 Z (zK (zD [6] [_] Z (qK (qR Z Z fun w' hw=>?_))))))))
   exact ⟨(K3.set j3 (p,m3,L2)),rfl,MemoOk.set hK3 hts hwr hT hwf hE hj3 hL2,qI (f:=[_]) hw⟩
  refine zB (zC 1 Z (zF (v:=pt_ h) Z (zR Z Z) (zF Z (zG Z xE Z jQ Z Z) (zF Z (zP 1 Z jW Z Z Z) (zC 1 Z (zF (v:=.map (some m1)) Z (uL (K:=memoK K1) 2 Z jC yX jX (by decide) Z Z Z (memoK_get hj1) hf1 (MemoOk.keys hM1 (fun x hx=>qM _ (qM _ (qM _ (List.mem_append_right _ (hts x hx))))))) (zF (v:=bo_ false) Z (OpQ.eqNilM (p:=some m1) Z jM Z Z) (zK (zD [0,1,7,12,56] [_,_,_,_,_] Z (jS (σ:=Memo×Nat×Nat×List (Int×Bool)) (fun ⟨K3,j3,m3,L3⟩=>MemoOk 73 a ts K3∧K3[j3]?=some (p,m3,L3)∧∀ (q:Nat) (x:Nat×Nat),q<j3→(memoK K3)[q]?=some x→x.1 ≠ p) (fun ⟨K3,j3,m3,L3⟩=>[(0,pt_ h),(1,ptrV p),(7,i6_ (keyF fm en4)),(12,bo_ (ev a fm en4))]) (fun ⟨K3,j3,m3,L3⟩=>Own B w0 (bk_ p5 ((ints en4).toArray) 109::bk_ h #[i6_ a.n,str a.set,str a.rel,.map (some M)] 108::(((M,mapP (memoK K3))::(memoB K3++hs))))) ?_ ?_))))))))))
  ·
   refine jE Z (qT (qQ (K1,j1,m1,L1) ⟨hM1,hj1,hf1⟩ (Sub.sel [0,1,7,12] Z) (fun _ h=>h)))
  rintro ⟨K3,j3,m3,L3⟩ ⟨hK3,hj3,hf3⟩
  dsimp only;refine zD [0,1,7,12] [_,_,_,_] Z (zE (qF (qJ 1 Z (zM (v:=pt_ h) Z (zR Z Z) (zM Z (zG Z xE Z jQ Z Z) (zM Z (zP 1 Z jW Z Z Z) (qJ 1 Z (zM (v:=.map (some m3)) Z (uL (K:=memoK K3) 2 Z jC yX jX (by decide) Z Z Z (memoK_get hj3) hf3 (MemoOk.keys hK3 (fun x hx=>qM _ (qM _ (qM _ (List.mem_append_right _ (hts x hx))))))) (qJ 2 Z (Ll.mapSetI (L:=L3) (k:=keyF fm en4) (b:=ev a fm en4) (j3+3) Z Z Z jM xW Z Z Z (memoB_at hj3) fun L2 hL2=>?_))))))))))
  rw [memo_set2 hj3]
  show Ll _ _ (Own _ _ (_::_::(((M,mapP (memoK (K3.set j3 (p,m3,L2))))::(memoB (K3.set j3 (p,m3,L2))++hs))))) _ _ _ _ _ _;refine zH (zD [12] [_] Z (zE (zB (zC 2 Z (zK (zD [6] [_] Z (qK (qR Z Z fun w' hw=>?_))))))))
  exact ⟨(K3.set j3 (p,m3,L2)),rfl,MemoOk.set hK3 hts hwr hT hwf hE hj3 hL2,qI (f:=[_]) hw⟩
 ·
  refine zB (zC 1 Z (zF (v:=pt_ h) Z (zR Z Z) (zF Z (zG Z xE Z jQ Z Z) (zF Z (zP 1 Z jW Z Z Z) (zC 1 Z (zF (v:=.map (some m)) Z (uL (K:=memoK K) 2 Z jC yX jX (by decide) Z Z Z (memoK_get hj) hf (MemoOk.keys hK (fun x hx=>qM _ (qM _ (qM _ (List.mem_append_right _ (hts x hx))))))) (zC 1 Z (zF (v:=.tuple #[bo_ false,bo_ false]) Z (OpQ.lookI_no (L:=L) (k:=keyF fm en4) (j+3) Z jM xW Tryz.zeroValue4 Z Z (memoB_at hj) hnk) (zC 1 Z (zF (v:=bo_ false) Z (yB Z Z Z) (zF (v:=bo_ false) Z (yB Z Z Z) (zC 2 Z (zK (zD [0,1,5,7,10,11] [_,_,_,_,_,_] Z (zE (zB (zC 1 Z (zK (zD [0,1,5,7,10,44] [_,_,_,_,_,_] Z (jE Z (qT (zD [0,1,5,7] [_,_,_,_] Z (zE (qF (qJ 2 Z (zM Z (zT (cs:=(ints en4).toArray) 0 Z vG Z Z (by intro w;rw [show (ints en4).toArray.size=4 from by simp [hE4]];exact vD w)) (vX (ok:=fun K=>MemoOk 73 a ts K) (b:=ev a fm en4) (xs:=[.tmp 46,.tmp 47,.tmp 48]) (vs:=[pt_ h,ptrV p,.agg ((ints en4).toArray)]) ([bk_ p5 ((ints en4).toArray) 109]:List (Nat×Obj)) Z Z Z Z Tryz.call111 Z (fun w1 hw1=>hd B w0 _ ts h M K p en4 w1 (fun x hx=>List.mem_append_right _ (hts x hx)) hT hE hK hw1) fun K1_1 hM1_1=>?_)))))))))))))))))))))))))))
  show Ll _ _ (Own _ _ (_::_::(((M,mapP (memoK K1_1))::(memoB K1_1++hs))))) _ _ ((49,bo_ (ev a fm en4))::_) _ _ _;refine qJ 1 Z (zH (zD [0,1,7,12] [_,_,_,_] Z (zE (zE ?_))))
  rcases memo_case K1_1 p with hno1 | ⟨j1,m1,L1,hj1,hf1⟩
  ·
   refine zB (zC 1 Z (zF (v:=pt_ h) Z (zR Z Z) (zF Z (zG Z xE Z jQ Z Z) (zF Z (zP 1 Z jW Z Z Z) (zC 1 Z (zF (v:=.map none) Z (OpQ.lookP_no (K:=memoK K1_1) 2 Z jC yX jX (by decide) Tryz.zeroValue130 Z Z Z hno1 (MemoOk.keys hM1_1 (fun x hx=>qM _ (qM _ (qM _ (List.mem_append_right _ (hts x hx)))))) (TreeB.key hT (fun x hx=>qM _ (qM _ (qM _ (List.mem_append_right _ (hts x hx))))))) (zF (v:=bo_ true) Z (OpQ.eqNilM (p:=none) Z jM Z Z) (zK (zD [0,1,7,12,56] [_,_,_,_,_] Z (jS (σ:=Memo×Nat×Nat×List (Int×Bool)) (fun ⟨K3,j3,m3,L3⟩=>MemoOk 73 a ts K3∧K3[j3]?=some (p,m3,L3)∧∀ (q:Nat) (x:Nat×Nat),q<j3→(memoK K3)[q]?=some x→x.1 ≠ p) (fun ⟨K3,j3,m3,L3⟩=>[(0,pt_ h),(1,ptrV p),(7,i6_ (keyF fm en4)),(12,bo_ (ev a fm en4))]) (fun ⟨K3,j3,m3,L3⟩=>Own B w0 (bk_ p5 ((ints en4).toArray) 109::bk_ h #[i6_ a.n,str a.set,str a.rel,.map (some M)] 108::(((M,mapP (memoK K3))::(memoB K3++hs))))) ?_ ?_))))))))))
   ·
    refine xH Z (qF (qJ 1 Z (zM (v:=pt_ h) Z (zR Z Z) (zM Z (zG Z xE Z jQ Z Z) (zM Z (zP 1 Z jW Z Z Z) (qJ 1 Z (Ll.makeMapI Z Z Z Z fun m62_1 hm62_1=>?_)))))))
    show Ll _ _ (Own _ _ (_::_::_::(((M,mapP (memoK K1_1))::(memoB K1_1++hs))))) _ _ ((62,.map (some m62_1))::_) _ _ _;refine Ll.mapSetP (K:=memoK K1_1) (m:=m62_1) 3 Z Z Z jC yX jX (by decide) Z Z Z Z hno1 (MemoOk.keys hM1_1 (fun x hx=>qM _ (qM _ (qM _ (qM _ (List.mem_append_right _ (hts x hx))))))) (TreeB.key hT (fun x hx=>qM _ (qM _ (qM _ (qM _ (List.mem_append_right _ (hts x hx))))))) ?_
    show Ll _ _ (Own _ _ (_::_::_::(((M,mapP (memoK K1_1++[(p,m62_1)]))::(memoB K1_1++hs))))) _ _ _ _ _ _;refine zH (qQ (K1_1++[(p,m62_1,[])],K1_1.length,m62_1,[]) ⟨MemoOk.add hM1_1 hT hwf,(memo_last hno1).1,(memo_last hno1).2⟩ (Sub.sel [0,1,7,12] Z) (fun _ h=>h.perm (memo_new [_,_] _)))
   rintro ⟨K3,j3,m3,L3⟩ ⟨hK3,hj3,hf3⟩
   dsimp only;refine zD [0,1,7,12] [_,_,_,_] Z (zE (qF (qJ 1 Z (zM (v:=pt_ h) Z (zR Z Z) (zM Z (zG Z xE Z jQ Z Z) (zM Z (zP 1 Z jW Z Z Z) (qJ 1 Z (zM (v:=.map (some m3)) Z (uL (K:=memoK K3) 2 Z jC yX jX (by decide) Z Z Z (memoK_get hj3) hf3 (MemoOk.keys hK3 (fun x hx=>qM _ (qM _ (qM _ (List.mem_append_right _ (hts x hx))))))) (qJ 2 Z (Ll.mapSetI (L:=L3) (k:=keyF fm en4) (b:=ev a fm en4) (j3+3) Z Z Z jM xW Z Z Z (memoB_at hj3) fun L2 hL2=>?_))))))))))
   rw [memo_set2 hj3]
   show Ll _ _ (Own _ _ (_::_::(((M,mapP (memoK (K3.set j3 (p,m3,L2))))::(memoB (K3.set j3 (p,m3,L2))++hs))))) _ _ _ _ _ _;refine zH (zD [12] [_] Z (zE (zB (zC 2 Z (zK (zD [6] [_] Z (qK (qR Z Z fun w' hw=>?_))))))))
   exact ⟨(K3.set j3 (p,m3,L2)),rfl,MemoOk.set hK3 hts hwr hT hwf hE hj3 hL2,qI (f:=[_]) hw⟩
  refine zB (zC 1 Z (zF (v:=pt_ h) Z (zR Z Z) (zF Z (zG Z xE Z jQ Z Z) (zF Z (zP 1 Z jW Z Z Z) (zC 1 Z (zF (v:=.map (some m1)) Z (uL (K:=memoK K1_1) 2 Z jC yX jX (by decide) Z Z Z (memoK_get hj1) hf1 (MemoOk.keys hM1_1 (fun x hx=>qM _ (qM _ (qM _ (List.mem_append_right _ (hts x hx))))))) (zF (v:=bo_ false) Z (OpQ.eqNilM (p:=some m1) Z jM Z Z) (zK (zD [0,1,7,12,56] [_,_,_,_,_] Z (jS (σ:=Memo×Nat×Nat×List (Int×Bool)) (fun ⟨K3,j3,m3,L3⟩=>MemoOk 73 a ts K3∧K3[j3]?=some (p,m3,L3)∧∀ (q:Nat) (x:Nat×Nat),q<j3→(memoK K3)[q]?=some x→x.1 ≠ p) (fun ⟨K3,j3,m3,L3⟩=>[(0,pt_ h),(1,ptrV p),(7,i6_ (keyF fm en4)),(12,bo_ (ev a fm en4))]) (fun ⟨K3,j3,m3,L3⟩=>Own B w0 (bk_ p5 ((ints en4).toArray) 109::bk_ h #[i6_ a.n,str a.set,str a.rel,.map (some M)] 108::(((M,mapP (memoK K3))::(memoB K3++hs))))) ?_ ?_))))))))))
  ·
   refine jE Z (qT (qQ (K1_1,j1,m1,L1) ⟨hM1_1,hj1,hf1⟩ (Sub.sel [0,1,7,12] Z) (fun _ h=>h)))
  rintro ⟨K3,j3,m3,L3⟩ ⟨hK3,hj3,hf3⟩
  dsimp only;refine zD [0,1,7,12] [_,_,_,_] Z (zE (qF (qJ 1 Z (zM (v:=pt_ h) Z (zR Z Z) (zM Z (zG Z xE Z jQ Z Z) (zM Z (zP 1 Z jW Z Z Z) (qJ 1 Z (zM (v:=.map (some m3)) Z (uL (K:=memoK K3) 2 Z jC yX jX (by decide) Z Z Z (memoK_get hj3) hf3 (MemoOk.keys hK3 (fun x hx=>qM _ (qM _ (qM _ (List.mem_append_right _ (hts x hx))))))) (qJ 2 Z (Ll.mapSetI (L:=L3) (k:=keyF fm en4) (b:=ev a fm en4) (j3+3) Z Z Z jM xW Z Z Z (memoB_at hj3) fun L2 hL2=>?_))))))))))
  rw [memo_set2 hj3]
  show Ll _ _ (Own _ _ (_::_::(((M,mapP (memoK (K3.set j3 (p,m3,L2))))::(memoB (K3.set j3 (p,m3,L2))++hs))))) _ _ _ _ _ _;refine zH (zD [12] [_] Z (zE (zB (zC 2 Z (zK (zD [6] [_] Z (qK (qR Z Z fun w' hw=>?_))))))))
  exact ⟨(K3.set j3 (p,m3,L2)),rfl,MemoOk.set hK3 hts hwr hT hwf hE hj3 hL2,qI (f:=[_]) hw⟩
 refine zB (zC 1 Z (zF (v:=pt_ h) Z (zR Z Z) (zF Z (zG Z xE Z jQ Z Z) (zF Z (zP 1 Z jW Z Z Z) (zC 1 Z (zF (v:=.map (some m)) Z (uL (K:=memoK K) 2 Z jC yX jX (by decide) Z Z Z (memoK_get hj) hf (MemoOk.keys hK (fun x hx=>qM _ (qM _ (qM _ (List.mem_append_right _ (hts x hx))))))) (zC 1 Z (zF (v:=.tuple #[bo_ (ev a fm en4),bo_ true]) Z (OpQ.lookI_at (L:=L) (k:=keyF fm en4) (b:=ev a fm en4) (j+3) Z jM xW Z Z (memoB_at hj) hnk (memo_ev ha hK hts hwr hT hwf hE hj)) (zC 1 Z (zF (v:=bo_ (ev a fm en4)) Z (yB Z Z Z) (zF (v:=bo_ true) Z (yB Z Z Z) (zC 2 Z (zK (zD [0,1,5,7,10,11] [_,_,_,_,_,_] Z (zE (zB (zC 1 Z (zK (zD [0,1,5,7,10,44] [_,_,_,_,_,_] Z (xH Z (zE (zB (zC 2 Z (zK (zD [6] [_] Z (qK (qR Z Z fun w' hw=>?_)))))))))))))))))))))))))))
 exact ⟨K,rfl,hK,qI (f:=[_]) hw⟩
theorem isTrue_ok (a:St) (fm:Fm) (ha:a.Fine) (hwf:wfF fm):IsT 84 a fm:=by
  have key:∀ (m:Nat) (fm:Fm),szF fm≤m→wfF fm→IsT 84 a fm:=fun m=>by
    induction m with
    | zero=>exact fun fm h1 h2 B w0 hs ts h M K p en4 w=>isTrue_step a fm ha h2 (fun B w0 hs ts h M K p en4 w=>decide_step a fm ha h2 (fun fm2 h3=>absurd h3 (by omega)) B w0 hs ts h M K p en4 w) B w0 hs ts h M K p en4 w
    | succ m ih=>exact fun fm h1 h2 B w0 hs ts h M K p en4 w=>isTrue_step a fm ha h2 (fun B w0 hs ts h M K p en4 w=>decide_step a fm ha h2 (fun fm2 h3 h4=>ih fm2 (by omega) h4) B w0 hs ts h M K p en4 w) B w0 hs ts h M K p en4 w
  exact key _ fm (Nat.le_refl _) hwf
end Go.Proofs.YtagbocafnliabaaGreatDoor
namespace Go.Proofs.YtagbocafnliabaaGreatDoor
open Go.RowKit Go.Wk
set_option linter.unusedSimpArgs false
set_option maxHeartbeats 400000 in
theorem rankP_step (fm:Fm) (p:Nat) (w:World) (hT:Tree 73 w fm p) (hwf:wfF fm) (hr:rankF fm≤2000000) (ih:∀ (fm2:Fm) (p2:Nat) (w2:World),szF fm2<szF fm→Tree 73 w2 fm2 p2→wfF fm2→rankF fm2≤2000000→Calls Tryz.prog 24 #[ptrV p2] w2 fun en w'=>en=.returned (.int .i64 (rankF fm2:Int))∧Below w2.heap.size w2 w') :
    Calls Tryz.prog 24 [ptrV p].toArray w fun en w'=>en=.returned (.int .i64 (rankF fm:Int))∧Below w.heap.size w w':=by
 refine fnStart (n:=37) (e:=[(0,ptrV p)]) Tryz.func24 Z Z Z Z Ends.both (zE (zB (zC 1 Z (zK (zD [0] [_] Z (zE (zB (zC 1 Z (zK (zD [0,3] [_,_] Z (zE (zE ?_))))))))))))
 rcases fm with ⟨c,vs⟩ | ⟨c,vs,q⟩ | ⟨c,q,r⟩
 ·
  obtain ⟨vv,pv,h1,h2,h3⟩:=hT
  have hlt:=leaf_letter hwf;refine zB (zC 1 Z (zF (v:=.pointer (some ⟨p,0,none⟩)) Z (zR Z Z) (zF Z (zG Z zI Z xV Z Z) (zF (v:=pv) Z (qO Z vB Z (fun w1 hw1=>at_box h1 hw1 2 Z)) (zF (v:=i6_ 0) Z (yR (k:=0) Z jA Z Z (fun w1 hw1=>h3.own hw1)) (zC 1 Z (zK (zD [0,3,9,10,11] [_,_,_,_,_] Z (qS (vJ 3 (zE (zB (zC 1 Z (zK (zD [0,3,9,10,11,12] [_,_,_,_,_,_] Z (zE (jE Z (yW Z (zD [0,3] [_,_] Z (zE (qS (zE (zB (zC 1 Z (zF (v:=bo_ (decide (((c).toNat:Int)=50∨((c).toNat:Int)=51∨((c).toNat:Int)=52))) Z (qH Z Tryz.call54 Z qC (fun w1 hw1=>isCount_ok _ _ c _ _ _ _ w1 (heap_own h1 hw1))) (zC 1 Z (zK (zD [0,3,20] [_,_,_] Z (yA (b:=decide (((c).toNat:Int)=50∨((c).toNat:Int)=51∨((c).toNat:Int)=52)) Z (fun h20=>?_) (fun h20=>?_))))))))))))))))))))))))))))))
  ·
   replace h20:=qA h20
   exact absurd h20 hlt.2
  replace h20:=zU h20;refine zE (zB (zC 1 Z (zF (v:=bo_ (decide (quI ((c).toNat:Int)))) Z (qH Z uG Z qC (fun w1 hw1=>isQuant_ok _ _ c _ _ _ _ w1 (heap_own h1 hw1))) (zC 1 Z (zK (zD [3,31] [_,_] Z (yA (b:=decide (quI ((c).toNat:Int))) Z (fun h31=>?_) (fun h31=>?_))))))))
  ·
   replace h31:=qA h31
   exact absurd h31 hlt.1
  replace h31:=zU h31;refine qT (zD [3] [_] Z (zE (zB (zC 2 Z (zK (zD [2] [_] Z (qK (qR Z Z fun w' hw=>?_))))))))
  exact ⟨rfl,hw.below⟩
 ·
  obtain ⟨q1,⟨vv,pv,h1,h2,h3⟩,hT1⟩:=hT
  have hr1:=rank_sub1 (c:=c) (vs:=vs) (q:=q)
  have hc8:=c.toNat_lt;refine zB (zC 1 Z (zF (v:=.pointer (some ⟨p,0,none⟩)) Z (zR Z Z) (zF Z (zG Z zI Z xV Z Z) (zF (v:=pv) Z (qO Z vB Z (fun w1 hw1=>at_box h1 hw1 2 Z)) (zF (v:=i6_ 1) Z (yR (k:=1) Z jA Z Z (fun w1 hw1=>h3.own hw1)) (zC 1 Z (zK (zD [0,3,9,10,11] [_,_,_,_,_] Z (qS (vJ 3 (zE (zB (zC 1 Z (zK (zD [0,3,9,10,11,12] [_,_,_,_,_,_] Z (zE (xH Z (qT ?_))))))))))))))))));refine zD [0,3,9,10,11] [_,_,_,_,_] Z (zE (qS (zE (zB (zF (v:=.pointer (some (sAt pv 0))) Z (yM Z jA vP Z Z (by decide) (by simp) (fun w1 hw1=>h3.own hw1)) (zF (v:=ptrV q1) Z (qO Z xR Z (fun w1 hw1=>Row.cell (h3.own hw1) (by decide) (by simp))) (zC 1 Z (zK (zD [0,3,5,9,10,11] [_,_,_,_,_,_] Z (zB (zC 2 Z (zF (v:=i6_ (rankF q:Int)) Z (qH Z Tryz.call24 Z qC (fun w1 hw1=>ih q q1 w1 (by first | exact Nat.lt_succ_self _ | exact Nat.lt_succ_of_le (Nat.le_add_right _ _) | exact Nat.lt_succ_of_le (Nat.le_add_left _ _)) (Tree.own hw1 hT1) hwf.2.2.2.2 (by omega))) (zF (v:=i6_ (rankF q:Int)) Z (yF (by first | (split <;> congr 1 <;> omega) | (split <;> omega)) (OpQ.max2 Z Z Z)) (zC 1 Z (zK (zD [0,3,9,10,11] [_,_,_,_,_] Z (zB (zF Z (yI Z Z Z (by decide) (by decide)) (zC 1 Z (zK (Kt.round (e':=[(0,.pointer (some ⟨p,0,none⟩)),(3,i6_ (rankF q:Int)),(9,pv),(10,i6_ 1),(11,i6_ 1)]) (Sub.sel [0,3,9,10,11] Z) (zE (zB (zC 1 Z (zK (zD [0,3,9,10,11,12] [_,_,_,_,_,_] Z (zE (jE Z (yW Z (zD [0,3] [_,_] Z (zE (qS (zE (zB (zC 1 Z (zF (v:=bo_ (decide (((c).toNat:Int)=50∨((c).toNat:Int)=51∨((c).toNat:Int)=52))) Z (qH Z Tryz.call54 Z qC (fun w1 hw1=>isCount_ok _ _ c _ _ _ _ w1 (heap_own h1 hw1))) (zC 1 Z (zK (zD [0,3,20] [_,_,_] Z (xN Z (fun h20_1=>?_) (fun h20_1=>?_)))))))))))))))))))))))))))))))))))))))))
  ·
   refine zB (zC 2 Z (zF (v:=.pointer (some ⟨p,0,none⟩)) Z (zR Z Z) (zF Z (zG Z zI Z xO Z Z) (zF (v:=.int .u8 (c.toNat:Int)) Z (qO Z xT Z (fun w1 hw1=>at_box h1 hw1 0 Z)) (zF (v:=.int .u8 ((c.toNat:Int) - 48)) Z (yF (by rw [IntWalk.u8_in _ (by omega)]) (jZ Z Z Z)) (zF (v:=i6_ ((c.toNat:Int) - 48)) Z (uE .i64 Z jI xW Z (IntWalk.i64_in _ (by omega))) (zF Z (yI Z Z Z (by omega) (by omega)) (zC 1 Z (zK (zD [3] [_] Z (zE (zB (zC 2 Z (zK (zD [2] [_] Z (qK (qR Z Z fun w' hw=>?_)))))))))))))))))
   exact ⟨ret_i (rank_end1 (by unfold cntI;assumption)),hw.below⟩
  refine zE (zB (zC 1 Z (zF (v:=bo_ (decide (quI ((c).toNat:Int)))) Z (qH Z uG Z qC (fun w1 hw1=>isQuant_ok _ _ c _ _ _ _ w1 (heap_own h1 hw1))) (zC 1 Z (zK (zD [3,31] [_,_] Z (xN Z (fun h31_1=>?_) (fun h31_1=>?_))))))))
  ·
   refine zB (zC 1 Z (zF Z (yI Z Z Z (by omega) (by omega)) (zC 1 Z (zK (zD [3] [_] Z (zE (zB (zC 2 Z (zK (zD [2] [_] Z (qK (qR Z Z fun w' hw=>?_))))))))))))
   exact ⟨ret_i (rank_end2 (by unfold cntI;assumption) (by assumption)),hw.below⟩
  refine qT (zD [3] [_] Z (zE (zB (zC 2 Z (zK (zD [2] [_] Z (qK (qR Z Z fun w' hw=>?_))))))))
  exact ⟨ret_i (rank_end3 hwf (by assumption)),hw.below⟩
 obtain ⟨q1,q2,⟨vv,pv,h1,h2,h3⟩,hT1,hT2⟩:=hT
 have hlt:=two_letter hwf
 have hr1:=rank_sub2 (c:=c) (q:=q) (r:=r);refine zB (zC 1 Z (zF (v:=.pointer (some ⟨p,0,none⟩)) Z (zR Z Z) (zF Z (zG Z zI Z xV Z Z) (zF (v:=pv) Z (qO Z vB Z (fun w1 hw1=>at_box h1 hw1 2 Z)) (zF (v:=i6_ 2) Z (yR (k:=2) Z jA Z Z (fun w1 hw1=>h3.own hw1)) (zC 1 Z (zK ?_)))))));refine zD [0,3,9,10,11] [_,_,_,_,_] Z (qS (vJ 3 (zE (zB (zC 1 Z (zK (zD [0,3,9,10,11,12] [_,_,_,_,_,_] Z (zE (xH Z (qT (zD [0,3,9,10,11] [_,_,_,_,_] Z (zE (qS (zE (zB (zF (v:=.pointer (some (sAt pv 0))) Z (yM Z jA vP Z Z (by decide) (by simp) (fun w1 hw1=>h3.own hw1)) (zF (v:=ptrV q1) Z (qO Z xR Z (fun w1 hw1=>Row.cell (h3.own hw1) (by decide) (by simp))) (zC 1 Z (zK (zD [0,3,5,9,10,11] [_,_,_,_,_,_] Z (zB (zC 2 Z (zF (v:=i6_ (rankF q:Int)) Z (qH Z Tryz.call24 Z qC (fun w1 hw1=>ih q q1 w1 (by first | exact Nat.lt_succ_self _ | exact Nat.lt_succ_of_le (Nat.le_add_right _ _) | exact Nat.lt_succ_of_le (Nat.le_add_left _ _)) (Tree.own hw1 hT1) hwf.2.2.2.1 (by omega))) (zF (v:=i6_ (rankF q:Int)) Z (yF (by first | (split <;> congr 1 <;> omega) | (split <;> omega)) (OpQ.max2 Z Z Z)) (zC 1 Z (zK (zD [0,3,9,10,11] [_,_,_,_,_] Z (zB (zF Z (yI Z Z Z (by decide) (by decide)) (zC 1 Z (zK (Kt.round (e':=[(0,.pointer (some ⟨p,0,none⟩)),(3,i6_ (rankF q:Int)),(9,pv),(10,i6_ 2),(11,i6_ 1)]) (Sub.sel [0,3,9,10,11] Z) (zE (zB (zC 1 Z (zK (zD [0,3,9,10,11,12] [_,_,_,_,_,_] Z (zE (xH Z (qT ?_))))))))))))))))))))))))))))))))))))))));refine zD [0,3,9,10,11] [_,_,_,_,_] Z (zE (qS (zE (zB (zF (v:=.pointer (some (sAt pv 1))) Z (yM Z jA vP Z Z (by decide) (by simp) (fun w1 hw1=>h3.own hw1)) (zF (v:=ptrV q2) Z (qO Z xR Z (fun w1 hw1=>Row.cell (h3.own hw1) (by decide) (by simp))) (zC 1 Z (zK (zD [0,3,5,9,10,11] [_,_,_,_,_,_] Z (zB (zC 2 Z (zF (v:=i6_ (rankF r:Int)) Z (qH Z Tryz.call24 Z qC (fun w1 hw1=>ih r q2 w1 (by first | exact Nat.lt_succ_self _ | exact Nat.lt_succ_of_le (Nat.le_add_right _ _) | exact Nat.lt_succ_of_le (Nat.le_add_left _ _)) (Tree.own hw1 hT2) hwf.2.2.2.2 (by omega))) (zF (v:=i6_ (((max (rankF q) (rankF r):Nat):Int))) Z (yF (by first | (split <;> congr 1 <;> omega) | (split <;> omega)) (OpQ.max2 Z Z Z)) (zC 1 Z (zK (zD [0,3,9,10,11] [_,_,_,_,_] Z (zB (zF Z (yI Z Z Z (by decide) (by decide)) (zC 1 Z (zK (Kt.round (e':=[(0,.pointer (some ⟨p,0,none⟩)),(3,i6_ (((max (rankF q) (rankF r):Nat):Int))),(9,pv),(10,i6_ 2),(11,i6_ 2)]) (Sub.sel [0,3,9,10,11] Z) (zE (zB (zC 1 Z (zK (zD [0,3,9,10,11,12] [_,_,_,_,_,_] Z (zE (jE Z (yW Z (zD [0,3] [_,_] Z (zE (qS (zE (zB (zC 1 Z (zF (v:=bo_ (decide (((c).toNat:Int)=50∨((c).toNat:Int)=51∨((c).toNat:Int)=52))) Z (qH Z Tryz.call54 Z qC (fun w1 hw1=>isCount_ok _ _ c _ _ _ _ w1 (heap_own h1 hw1))) (zC 1 Z (zK (zD [0,3,20] [_,_,_] Z (yA (b:=decide (((c).toNat:Int)=50∨((c).toNat:Int)=51∨((c).toNat:Int)=52)) Z (fun h20_2=>?_) (fun h20_2=>?_)))))))))))))))))))))))))))))))))))))))))
 ·
  replace h20_2:=qA h20_2
  exact absurd h20_2 hlt.2
 replace h20_2:=zU h20_2;refine zE (zB (zC 1 Z (zF (v:=bo_ (decide (quI ((c).toNat:Int)))) Z (qH Z uG Z qC (fun w1 hw1=>isQuant_ok _ _ c _ _ _ _ w1 (heap_own h1 hw1))) (zC 1 Z (zK (zD [3,31] [_,_] Z (yA (b:=decide (quI ((c).toNat:Int))) Z (fun h31_2=>?_) (fun h31_2=>?_))))))))
 ·
  replace h31_2:=qA h31_2
  exact absurd h31_2 hlt.1
 replace h31_2:=zU h31_2;refine qT (zD [3] [_] Z (zE (zB (zC 2 Z (zK (zD [2] [_] Z (qK (qR Z Z fun w' hw=>?_))))))))
 exact ⟨rfl,hw.below⟩
theorem rankP_ok (fm:Fm) (p:Nat) (w:World) (hT:Tree 73 w fm p) (hwf:wfF fm) (hr:rankF fm≤2000000):Calls Tryz.prog 24 #[ptrV p] w fun en w'=>en=.returned (.int .i64 (rankF fm:Int))∧Below w.heap.size w w':=by
  have key:∀ (m:Nat) (fm:Fm) (p:Nat) (w:World),szF fm≤m→Tree 73 w fm p→wfF fm→rankF fm≤2000000→Calls Tryz.prog 24 #[ptrV p] w fun en w'=>en=.returned (.int .i64 (rankF fm:Int))∧Below w.heap.size w w':=fun m=>by
    induction m with
    | zero=>exact fun fm p w h1 h2 h3 h4=>rankP_step fm p w h2 h3 h4 fun fm2 p2 w2 h=>absurd h (by omega)
    | succ m ih=>exact fun fm p w h1 h2 h3 h4=>rankP_step fm p w h2 h3 h4 fun fm2 p2 w2 h k1 k2 k3=>ih fm2 p2 w2 (by omega) k1 k2 k3
  exact key _ fm p w (Nat.le_refl _) hT hwf hr
end Go.Proofs.YtagbocafnliabaaGreatDoor
namespace Go.Proofs.YtagbocafnliabaaGreatDoor
open Go.RowKit Go.Wk
set_option linter.unusedSimpArgs false
set_option maxHeartbeats 400000 in
theorem newHold_ok (a:St) (B:Nat) (w0:World) (hs:List (Nat×Obj)) (w:World) (hw:Own B w0 hs w) :
    Calls Tryz.prog 51 [vS a].toArray w fun en w'=>∃ (h M:Nat),en=.returned (.pointer (some ⟨h,0,none⟩))∧Own B w0 (memoF 108 h M a [] hs) w':=by
 refine fnStartC (Own B w0 hs) (n:=7) (e:=[(0,vS a)]) Tryz.func51 Z Z Z Z Ends.both hw (zE (qF (yU (v:=vS a) Z Z Z Z Z fun p1 hp1=>?_)))
 show Ll _ _ (Own _ _ (_::hs)) _ _ ((1,pt_ p1)::_) _ _ _;refine qJ 1 Z (zH (zD [1] [_] Z (zE (qF (zM Z (zT (cs:=#[i6_ a.n,str a.set,str a.rel]) 0 Z zQ Z Z zO) (Ll.makeMapP Z Z Z Z fun m4 hm4=>?_))))))
 show Ll _ _ (Own _ _ (_::_::hs)) _ _ ((4,.map (some m4))::_) _ _ _;refine zM (v:=.agg #[i6_ a.n,str a.set,str a.rel,.map (some m4)]) Z (uN (xs:=[.tmp 3,.tmp 4]) (vs:=[vS a,.map (some m4)]) Z Z (by kernel_rfl)) (yU (v:=.agg #[i6_ a.n,str a.set,str a.rel,.map (some m4)]) Z Z Z Z Z fun p6 hp6=>?_)
 show Ll _ _ (Own _ _ (_::_::_::hs)) _ _ ((6,pt_ p6)::_) _ _ _;refine qJ 1 Z (zH (zD [2] [_] Z (qK (qR Z Z fun w' hw=>?_))))
 exact ⟨p6,m4,rfl,Own.pickT (hs:=[_,_,_]) (hs':=[_,_]) hw [0,1] rfl (by decide)⟩
set_option maxHeartbeats 400000 in
theorem holds_ok (a:St) (fm:Fm) (ha:a.Fine) (hwf:wfF fm) (xs:List Int) (va:Value) (hl:xs.length≤4) (B:Nat) (w0:World) (hs ts:List (Nat×Obj)) (h M:Nat) (K:Memo) (p:Nat) (w:World) (hts:∀ x∈ts,x∈hs) (hT:TreeB 73 ts fm p) (hva:∀ w1,Own B w0 hs w1→Ints w1 va xs) (hE:EnvA a (envL xs)) (hK:MemoOk 73 a ts K) (hw:Own B w0 (memoF 108 h M a K hs) w) :
    Calls Tryz.prog 52 [pt_ h,ptrV p,va].toArray w fun en w'=>∃ K',en=.returned (.bool (ev a fm (envL xs)))∧MemoOk 73 a ts K'∧Own B w0 (memoF 108 h M a K' hs) w':=by
 refine fnStartC (Own B w0 (bk_ h #[i6_ a.n,str a.set,str a.rel,.map (some M)] 108::((M,mapP (memoK K))::(memoB K++hs)))) (n:=16) (e:=[(0,pt_ h),(1,ptrV p),(2,va)]) Tryz.func52 Z Z Z Z Ends.both hw (zE (zB (zC 1 Z (zK (zD [0,1,2] [_,_,_] Z (zE (qF (zM (v:=.agg #[i6_ 0,i6_ 0,i6_ 0,i6_ 0]) Z (uN (xs:=[]) (vs:=[]) Z Z (by kernel_rfl)) (jG Z Z Z Z Tryz.zeroValue109 fun p7 hp7=>?_)))))))))
 show Ll _ _ (Own _ _ (bk_ p7 #[i6_ 0,i6_ 0,i6_ 0,i6_ 0] 109::_::(((M,mapP (memoK K))::(memoB K++hs))))) _ _ ((7,pt_ p7)::_) _ _ _;refine xB (cs':=#[i6_ 0,i6_ 0,i6_ 0,i6_ 0]) (hs':=(bk_ p7 #[i6_ 0,i6_ 0,i6_ 0,i6_ 0] 109::_::(((M,mapP (memoK K))::(memoB K++hs))))) 0 Z Z Z Z Z (by kernel_rfl:_=some Tryz.t109) Z Z Z Z Z (zH (zD [0,1,2,7] [_,_,_,_] Z (zE (qF (zM (v:=sl_ p7 4 4) Z (OpQ.sliceAll Z Tryz.runUnderlying109 zL Z) (qJ 1 Z (Ll.copyEnv (xs:=xs) 0 Z Z Z Z Tryz.underlying31 (by kernel_rfl) Z Z Z (fun w1 hw1=>hva w1 (qI (f:=[_,_]) (qN (f:=[_,_]) hw1))) hl ?_)))))))
 show Ll _ _ (Own _ _ (_::_::(((M,mapP (memoK K))::(memoB K++hs))))) _ _ ((11,i6_ (xs.length:Int))::_) _ _ _;refine zH (zD [0,1,7] [_,_,_] Z (zE (qF (qJ 2 Z (zM Z (zT (cs:=(ints (envL xs)).toArray) 0 Z vG Z Z (by intro w;rw [show (ints (envL xs)).toArray.size=4 from by simp [envL_len hl]];exact vD w)) (vX (ok:=fun K=>MemoOk 73 a ts K) (b:=ev a fm (envL xs)) (xs:=[.tmp 12,.tmp 13,.tmp 14]) (vs:=[pt_ h,ptrV p,.agg ((ints (envL xs)).toArray)]) ([bk_ p7 ((ints (envL xs)).toArray) 109]:List (Nat×Obj)) Z Z Z Z Tryz.call84 Z (fun w1 hw1=>isTrue_ok a fm ha hwf B w0 _ ts h M K p (envL xs) w1 (fun x hx=>List.mem_append_right _ (hts x hx)) hT hE hK hw1) fun K1 hM1=>?_))))))
 show Ll _ _ (Own _ _ (_::_::(((M,mapP (memoK K1))::(memoB K1++hs))))) _ _ ((15,bo_ (ev a fm (envL xs)))::_) _ _ _;refine qJ 1 Z (zH (zD [6] [_] Z (qK (qR Z Z fun w' hw=>?_))))
 exact ⟨K1,rfl,hM1,qI (f:=[_]) hw⟩
set_option maxHeartbeats 800000 in
theorem iHolds_ok (a:St) (f:List UInt8) (va:Value) (xs:List Int) (w:World) (hsa:a.Small) (hva:Ints w va xs) (hxl:xs.length≤1048576) :
    Calls Tryz.prog 22 [vS a,str f,va].toArray w fun en w'=>en=.returned (.tuple #[.bool (holdV a f xs),.bool (holdK a f xs)])∧Below w.heap.size w w':=by
 refine fnStart (n:=44) (e:=[(0,vS a),(1,str f),(2,va)]) Tryz.func22 Z Z Z Z Ends.both (zE (qF (yU (v:=vS a) Z Z Z Z Z fun p3 hp3=>?_)))
 show Ll _ _ (Own _ _ [_]) _ _ ((3,pt_ p3)::_) _ _ _;refine qJ 2 Z (zH (zD [1,2,3] [_,_,_] Z (zE ?_)))
 rcases hff1:formO f with _ | fm1
 ·
  refine qF (qJ 1 Z (vL (σ:=Unit) (ok:=fun _=>True) (v:=fun _=>.pointer none) (hs':=fun _=>[bk_ p3 #[i6_ a.n,str a.set,str a.rel] 24]) (xs:=[.tmp 9]) (vs:=[str f]) Z Z Z Z Tryz.call23 Z (fun w1 hw1=>(pform_ok f _ _ (([bk_ p3 #[i6_ a.n,str a.set,str a.rel] 24]:List (Nat×Obj))++([])) w1 hw1).mono fun en w' hR=>by rw [hff1] at hR;exact ⟨(),hR.1,trivial,hR.2⟩) fun _ _=>?_))
  show Ll _ _ (Own _ _ [_]) _ _ ((10,.pointer none)::_) _ _ _;refine qJ 1 Z (zH (zD [2,3,8] [_,_,_] Z (zE (zE (zB (zC 1 Z (zF (v:=bo_ true) Z (vQ (p:=none) Z yX Z Z) (zC 1 Z (zN Z (zN Z (zN Z (zC 2 Z (zN Z (zN Z (zN Z (zC 2 Z (zN Z (zN Z (zN Z (zN Z (zC 2 Z (zN Z (zN Z (zN Z (zN Z (zN Z (zN Z (zN Z (zN Z (zC 1 Z (zK (zD [2,3,8,38] [_,_,_,_] Z (xH Z (zE (zB (zC 2 Z (zK (zD [6,7] [_,_] Z (qK (xX Z Z Z fun w' hw=>?_))))))))))))))))))))))))))))))))))))))))
  exact ⟨congrArg Ending.returned (hold_ret (hold_none hff1)),hw.below⟩
 refine qF (qJ 1 Z (uF (ok:=fun ((q,new):Nat×List (Nat×Obj))=>TreeB 73 new fm1 q) (v:=fun ((q,new):Nat×List (Nat×Obj))=>ptrV q) (new:=fun ((q,new):Nat×List (Nat×Obj))=>new) (hs:=[]) (xs:=[.tmp 9]) (vs:=[str f]) ([bk_ p3 #[i6_ a.n,str a.set,str a.rel] 24]:List (Nat×Obj)) Z Z Z Z Tryz.call23 Z (fun w1 hw1=>(pform_ok f _ _ (([bk_ p3 #[i6_ a.n,str a.set,str a.rel] 24]:List (Nat×Obj))++([])) w1 hw1).mono fun en w' hR=>by rw [hff1] at hR;obtain ⟨q,new,h1,h2,h3⟩:=hR;exact ⟨(q,new),h1,h2,h3⟩) fun ⟨q10,new10⟩ hTq10=>?_))
 dsimp only at hTq10
 show Ll _ _ (Own _ _ (_::(new10++([])))) _ _ ((10,ptrV q10)::_) _ _ _;refine qJ 1 Z (zH (zD [2,3,8] [_,_,_] Z (zE (zE (zB (zC 1 Z (zF (v:=bo_ false) Z (vQ (p:=some ⟨q10,0,none⟩) Z yX Z Z) (zC 1 Z (zF Z (zT (cs:=#[i6_ a.n,str a.set,str a.rel]) 0 Z zQ Z Z zO) (zF (v:=bo_ (validB a)) Z (qH Z Tryz.call13 Z qC (fun w1 hw1=>isStructure_ok a w1 hsa)) (zC 3 Z (xD fun b18 hg18=>?_))))))))))))
 cases b18
 ·
  replace hg18:=not_false hg18;refine zC 1 Z (zF (v:=i6_ (xs.length:Int)) Z (yR Z zW Z (ints_length _) (fun w1 hw1=>Row.own hva hw1)) (zC 3 Z (xD fun b23 hg23=>?_)))
  cases b23
  ·
   replace hg23:=zU hg23;refine zF Z (zT (cs:=#[i6_ a.n,str a.set,str a.rel]) 0 Z zQ Z Z zO) (zC 1 Z (zF (v:=bo_ (xs.all (elB a))) Z (qH Z Tryz.call50 Z qC (fun w1 hw1=>areElements_ok a va xs w1 (Row.own hva hw1) (by first | (simp;done) | (simp;omega) | omega))) (zC 3 Z (xD fun b29 hg29=>?_))))
   cases b29
   ·
    replace hg29:=not_false hg29;refine zC 1 Z (zF (v:=ptrV q10) Z (zR Z Z) (zF Z (zG Z zI Z zL Z Z) (zF (v:=i6_ (frB fm1:Int)) Z (qO Z zV Z (fun w1 hw1=>tree_free (TreeB.tree (yZ (qI (f:=[_]) hw1)) hTq10))) (zC 1 Z (zF (v:=i6_ (xs.length:Int)) Z (yR Z zW Z (ints_length _) (fun w1 hw1=>Row.own hva hw1)) (zF (v:=i6_ ((((frB fm1) / 2 ^ xs.length:Nat):Int))) Z (OpQ.shr (a:=frB fm1) (b:=xs.length) Z Z Z (by omega)) (zC 2 Z (zK (zD [2,3,8,38] [_,_,_,_] Z (yA (b:=!(decide (((((frB fm1) / 2 ^ xs.length:Nat):Int))=(0:Int)))) Z (fun h38=>?_) (fun h38=>?_)))))))))))
    ·
     replace h38:=not_true h38
     replace h38:=zU h38;refine zE (zB (zC 2 Z (zK (zD [6,7] [_,_] Z (qK (xX Z Z Z fun w' hw=>?_))))))
     exact ⟨congrArg Ending.returned (hold_ret (hold_bad hff1 (by first | exact .inl (by assumption) | exact .inr (.inl (by omega)) | exact .inr (.inr (.inl (by assumption))) | exact .inr (.inr (.inr (by assumption)))))),hw.below⟩
    replace h38:=not_false h38
    replace h38:=qA h38
    have hO:=hold_good (a:=a) (xs:=xs) hff1 (by assumption) (by omega) (by assumption) (by assumption)
    have ha:=validB_fine (show validB a=true by assumption)
    have hm1:=ha.lo;refine qT (zD [2,3,8] [_,_,_] Z (zE (qF (zM Z (zT (cs:=#[i6_ a.n,str a.set,str a.rel]) 0 Z zQ Z Z zO) (uF (ok:=fun _=>True) (v:=fun ((h,M):Nat×Nat)=>.pointer (some ⟨h,0,none⟩)) (new:=fun ((h,M):Nat×Nat)=>[(h,Obj.cells #[.int .i64 a.n,str a.set,str a.rel,.map (some M)] 108 (0,0)),(M,mapP (memoK []))]) (hs:=new10++([])) (xs:=[.tmp 39]) (vs:=[vS a]) ([bk_ p3 #[i6_ a.n,str a.set,str a.rel] 24]:List (Nat×Obj)) Z Z Z Z Tryz.call51 Z (fun w1 hw1=>(newHold_ok a w.heap.size w (([bk_ p3 #[i6_ a.n,str a.set,str a.rel] 24]:List (Nat×Obj))++(new10++([]))) w1 hw1).mono fun en w' ⟨h,M,h1,h2⟩=>⟨(h,M),h1,trivial,h2⟩) fun ⟨h40n,M40n⟩ _=>?_)))))
    show Ll _ _ (Own _ _ (_::_::(((M40n,mapP (memoK []))::(memoB []++(new10++([]))))))) _ _ ((40,pt_ h40n)::_) _ _ _;refine qJ 2 Z (vX (ok:=fun K=>MemoOk 73 a new10 K) (b:=ev a fm1 (envL xs)) (xs:=[.tmp 40,.tmp 41,.tmp 42]) (vs:=[pt_ h40n,ptrV q10,va]) ([bk_ p3 #[i6_ a.n,str a.set,str a.rel] 24]:List (Nat×Obj)) Z Z Z Z Tryz.call52 Z (fun w1 hw1=>holds_ok a fm1 ha (formO_wf hff1) xs va (by omega) _ _ _ new10 h40n M40n [] q10 w1 (fun x hx=>List.mem_append_right _ (List.mem_append_left _ hx)) hTq10 (fun w1 h1=>Row.own hva h1) (envL_ok hm1 (by omega) (fun x hx=>elB_true.1 (List.all_eq_true.1 (by assumption) x hx))) MemoOk.nil hw1) fun K1 hM1=>?_)
    show Ll _ _ (Own _ _ (_::_::(((M40n,mapP (memoK K1))::(memoB K1++(new10++([]))))))) _ _ ((43,bo_ (ev a fm1 (envL xs)))::_) _ _ _;refine qJ 2 Z (zH (zD [6,7] [_,_] Z (qK (xX Z Z Z fun w' hw=>?_))))
    exact ⟨congrArg Ending.returned (hold_ret hO),hw.below⟩
   replace hg29:=not_true hg29;refine zN Z (zN Z (zN Z (zN Z (zN Z (zN Z (zN Z (zN Z (zC 1 Z (zK (zD [2,3,8,38] [_,_,_,_] Z (xH Z (zE (zB (zC 2 Z (zK (zD [6,7] [_,_] Z (qK (xX Z Z Z fun w' hw=>?_))))))))))))))))))
   exact ⟨congrArg Ending.returned (hold_ret (hold_bad hff1 (by first | exact .inl (by assumption) | exact .inr (.inl (by omega)) | exact .inr (.inr (.inl (by assumption))) | exact .inr (.inr (.inr (by assumption)))))),hw.below⟩
  replace hg23:=qA hg23;refine zN Z (zN Z (zN Z (zN Z (zC 2 Z (zN Z (zN Z (zN Z (zN Z (zN Z (zN Z (zN Z (zN Z (zC 1 Z (zK (zD [2,3,8,38] [_,_,_,_] Z (xH Z (zE (zB (zC 2 Z (zK (zD [6,7] [_,_] Z (qK (xX Z Z Z fun w' hw=>?_)))))))))))))))))))))))
  exact ⟨congrArg Ending.returned (hold_ret (hold_bad hff1 (by first | exact .inl (by assumption) | exact .inr (.inl (by omega)) | exact .inr (.inr (.inl (by assumption))) | exact .inr (.inr (.inr (by assumption)))))),hw.below⟩
 replace hg18:=not_true hg18;refine zN Z (zN Z (zN Z (zC 2 Z (zN Z (zN Z (zN Z (zN Z (zC 2 Z (zN Z (zN Z (zN Z (zN Z (zN Z (zN Z (zN Z (zN Z (zC 1 Z (zK (zD [2,3,8,38] [_,_,_,_] Z (xH Z (zE (zB (zC 2 Z (zK (zD [6,7] [_,_] Z (qK (xX Z Z Z fun w' hw=>?_)))))))))))))))))))))))))))
 exact ⟨congrArg Ending.returned (hold_ret (hold_bad hff1 (by first | exact .inl (by assumption) | exact .inr (.inl (by omega)) | exact .inr (.inr (.inl (by assumption))) | exact .inr (.inr (.inr (by assumption)))))),hw.below⟩
set_option maxHeartbeats 400000 in
theorem iRank_ok (f:List UInt8) (w:World) :
    Calls Tryz.prog 11 [str f].toArray w fun en w'=>en=.returned (.int .i64 (rankI f))∧Below w.heap.size w w':=by
 refine fnStart (n:=10) (e:=[(0,str f)]) Tryz.func11 Z Z Z Z Ends.both (zE (zB (zC 1 Z (zK (zD [0] [_] Z (zE ?_))))))
 rcases hff1:formO f with _ | fm1
 ·
  refine qF (qJ 1 Z (vL (σ:=Unit) (ok:=fun _=>True) (v:=fun _=>.pointer none) (hs':=fun _=>[]) (xs:=[.tmp 4]) (vs:=[str f]) Z Z Z Z Tryz.call23 Z (fun w1 hw1=>(pform_ok f _ _ (([]:List (Nat×Obj))++([])) w1 hw1).mono fun en w' hR=>by rw [hff1] at hR;exact ⟨(),hR.1,trivial,hR.2⟩) fun _ _=>?_))
  show Ll _ _ (Own _ _ []) _ _ ((5,.pointer none)::_) _ _ _;refine qJ 1 Z (zH (zD [3] [_] Z (zE (zE (zB (zC 1 Z (zF (v:=bo_ true) Z (vQ (p:=none) Z yX Z Z) (zK (zD [3,7] [_,_] Z (xH Z (zE (zB (zC 1 Z (zK (zD [2] [_] Z (qK (qR Z Z fun w' hw=>?_)))))))))))))))))
  exact ⟨ret_i (by unfold rankI;rw [hff1]),hw.below⟩
 have hP1:=formO_pa hff1
 have hwf_fm1:=formO_wf hff1
 have hl4:=(formO_parse hff1).1
 have hr_fm1:rankF fm1≤2000000:=by have:=rank_pa hP1;omega
 refine qF (qJ 1 Z (uF (ok:=fun ((q,new):Nat×List (Nat×Obj))=>TreeB 73 new fm1 q) (v:=fun ((q,new):Nat×List (Nat×Obj))=>ptrV q) (new:=fun ((q,new):Nat×List (Nat×Obj))=>new) (hs:=[]) (xs:=[.tmp 4]) (vs:=[str f]) ([]:List (Nat×Obj)) Z Z Z Z Tryz.call23 Z (fun w1 hw1=>(pform_ok f _ _ (([]:List (Nat×Obj))++([])) w1 hw1).mono fun en w' hR=>by rw [hff1] at hR;obtain ⟨q,new,h1,h2,h3⟩:=hR;exact ⟨(q,new),h1,h2,h3⟩) fun ⟨q5,new5⟩ hTq5=>?_))
 dsimp only at hTq5
 show Ll _ _ (Own _ _ (new5++([]))) _ _ ((5,ptrV q5)::_) _ _ _;refine qJ 1 Z (zH (zD [3] [_] Z (zE (zE (zB (zC 1 Z (zF (v:=bo_ false) Z (vQ (p:=some ⟨q5,0,none⟩) Z yX Z Z) (zK (zD [3,7] [_,_] Z (jE Z (qT (zD [3] [_] Z (zE (zB (zC 1 Z (zF (v:=i6_ (rankF fm1:Int)) Z (qH Z Tryz.call24 Z qC (fun w1 hw1=>rankP_ok fm1 q5 w1 (TreeB.tree (yZ (qI (f:=[]) hw1)) hTq5) hwf_fm1 hr_fm1)) (zC 1 Z (zK (zD [2] [_] Z (qK (qR Z Z fun w' hw=>?_)))))))))))))))))))))
 exact ⟨ret_i (by unfold rankI;rw [hff1]),hw.below⟩
end Go.Proofs.YtagbocafnliabaaGreatDoor
namespace Go.Proofs.YtagbocafnliabaaGreatDoor
open Go.RowKit Go.Wk
set_option linter.unusedSimpArgs false
set_option maxHeartbeats 400000 in
theorem iSep_ok (f:List UInt8) (a b:St) (xs ys:List Int) (va vb:Value) (w:World) (hsa:a.Small) (hsb:b.Small) (hva:Ints w va xs) (hvb:Ints w vb ys) (_hf:f.length≤1048576) (hlx:xs.length≤1048576) (hly:ys.length≤1048576) :
    Calls Tryz.prog 10 [str f,vS a,va,vS b,vb].toArray w fun en w'=>en=.returned (.bool (sepB f a xs b ys))∧Below w.heap.size w w':=by
 refine fnStart (n:=47) (e:=[(0,str f),(1,vS a),(2,va),(3,vS b),(4,vb)]) Tryz.func10 Z Z Z Z Ends.both (zE (qF (yU (v:=vS a) Z Z Z Z Z fun p6 hp6=>?_)))
 show Ll _ _ (Own _ _ [_]) _ _ ((6,pt_ p6)::_) _ _ _;refine yU (v:=vS b) Z Z Z Z Z fun p8 hp8=>?_
 show Ll _ _ (Own _ _ [_,_]) _ _ ((8,pt_ p8)::_) _ _ _;refine qJ 1 Z (zH (zD [0,2,4,6,8] [_,_,_,_,_] Z (zE (zB (zF Z (zT (cs:=#[i6_ a.n,str a.set,str a.rel]) 1 Z zQ Z Z zO) (zC 2 Z (zF (v:=.tuple #[bo_ (holdV a f xs),bo_ (holdK a f xs)]) Z (qH Z Tryz.call22 Z qC (fun w1 hw1=>iHolds_ok a f va xs w1 hsa (Row.own hva hw1) (by first | (simp;done) | omega))) (zC 1 Z (zF (v:=bo_ (holdV a f xs)) Z (yB Z Z Z) (zF (v:=bo_ (holdK a f xs)) Z (yB Z Z Z) (zC 2 Z (zK (zD [0,2,4,8,11,12] [_,_,_,_,_,_] Z (zE (zB (zF Z (zT (cs:=#[i6_ b.n,str b.set,str b.rel]) 0 Z zQ Z Z zO) (zC 2 Z (zF (v:=.tuple #[bo_ (holdV b f ys),bo_ (holdK b f ys)]) Z (qH Z Tryz.call22 Z qC (fun w1 hw1=>iHolds_ok b f vb ys w1 hsb (Row.own hvb hw1) (by first | (simp;done) | omega))) (zC 1 Z (zF (v:=bo_ (holdV b f ys)) Z (yB Z Z Z) (zF (v:=bo_ (holdK b f ys)) Z (yB Z Z Z) (zC 2 Z (zK (zD [2,4,11,12,13,14] [_,_,_,_,_,_] Z (zE (zB (zC 1 Z (zF (v:=i6_ (xs.length:Int)) Z (yR Z zW Z (ints_length _) (fun w1 hw1=>Row.own hva hw1)) (zC 1 Z (zF (v:=i6_ (ys.length:Int)) Z (yR Z zW Z (ints_length _) (fun w1 hw1=>Row.own hvb hw1)) (zC 2 Z (xD fun b34 hg34=>?_))))))))))))))))))))))))))))))))
 cases b34
 ·
  replace hg34:=zU hg34;refine zN Z (zC 2 Z (zN Z (zC 2 Z (zN Z (zC 2 Z (zN Z (zN Z (zC 2 Z (zK (zD [10] [_] Z (qK (qR Z Z fun w' hw=>?_))))))))))))
  exact ⟨ret_b (by first | rfl | (simp_all [sepB];done) | (simp_all [sepB];omega)),hw.below⟩
 replace hg34:=qA hg34;refine zC 3 Z (xD fun b37 hg37=>?_)
 cases b37
 ·
  refine zN Z (zC 2 Z (zN Z (zC 2 Z (zN Z (zN Z (zC 2 Z (zK (zD [10] [_] Z (qK (qR Z Z fun w' hw=>?_))))))))))
  exact ⟨ret_b (by first | rfl | (simp_all [sepB];done) | (simp_all [sepB];omega)),hw.below⟩
 refine zC 3 Z (xD fun b40 hg40=>?_)
 cases b40
 ·
  refine zN Z (zC 2 Z (zN Z (zN Z (zC 2 Z (zK (zD [10] [_] Z (qK (qR Z Z fun w' hw=>?_))))))))
  exact ⟨ret_b (by first | rfl | (simp_all [sepB];done) | (simp_all [sepB];omega)),hw.below⟩
 refine zC 3 Z (xD fun b43 hg43=>?_)
 cases b43
 ·
  refine zN Z (zN Z (zC 2 Z (zK (zD [10] [_] Z (qK (qR Z Z fun w' hw=>?_))))))
  exact ⟨ret_b (by first | rfl | (simp_all [sepB];done) | (simp_all [sepB];omega)),hw.below⟩
 refine zC 4 Z (zK (zD [10] [_] Z (qK (qR Z Z fun w' hw=>?_))))
 exact ⟨ret_b (by first | rfl | (simp_all [sepB];done) | (simp_all [sepB];omega)),hw.below⟩
end Go.Proofs.YtagbocafnliabaaGreatDoor
namespace Go.Proofs.YtagbocafnliabaaGreatDoor
open Go.RowKit Go.Wk
set_option linter.unusedSimpArgs false
set_option maxHeartbeats 400000 in
theorem lawFnSent (bv:Value) (L:List Int) (w:World) (hbv:Row w bv (u8s L)) (hL8:Bytes8 L) (hLm:L.length≤9223372036854775807) :
    Calls Tryz.prog 3 [bv].toArray w fun en w'=>en=.returned (.bool true)∧Below w.heap.size w w':=by
 refine fnStart (n:=147) (e:=[(0,bv)]) Tryz.func3 Z Z Z Z Ends.both (zE (zB (zC 1 Z (zK (zD [0] [_] Z (zE (zE (zB (zC 1 Z (zF (v:=i6_ (L.length:Int)) Z (yR Z yT Z (u8s_length _) (fun w1 hw1=>Row.own hbv hw1)) (zC 1 Z (zK (zD [0,18] [_,_] Z (xN Z (fun h18=>?_) (fun h18=>?_)))))))))))))))
 ·
  refine zE (zB (zC 1 Z (zK (zD [2] [_] Z (qK (qR Z Z fun w' hw=>?_))))))
  exact ⟨rfl,hw.below⟩
 refine qT (zD [0] [_] Z (zE (qF (qJ 1 Z (vL (σ:=St×St) (ok:=fun (a,b)=>a.Tame∧b.Tame) (v:=fun (a,b)=>.tuple #[vS a,vS b]) (hs':=fun _=>[]) (xs:=[.tmp 20]) (vs:=[bv]) Z Z Z Z Tryz.call4 Z (fun w1 hw1=>(drawSent_ok w.heap.size w [] bv L w1 (fun w2 hw2=>Row.own hbv hw2) hL8 (by omega) hw1).mono fun en w' ⟨a,b,h1,h2,h3⟩=>⟨(a,b),h1,h2,h3⟩) fun ⟨a21,b21⟩ hK=>?_)))))
 dsimp only at hK
 obtain ⟨hta21,htb21⟩:=hK
 have hsa21:=hta21.small
 have loa21:=hta21.lo
 have hia21:=hta21.hi
 have hsb21:=htb21.small
 have lob21:=htb21.lo
 have hib21:=htb21.hi
 show Ll _ _ (Own _ _ []) _ _ ((21,.tuple #[vS a21,vS b21])::_) _ _ _;refine qJ 1 Z (zM (v:=vS a21) Z (yB Z Z Z) (zM (v:=vS b21) Z (yB Z Z Z) (jG Z Z Z Z xF fun p3 hp3=>?_)))
 show Ll _ _ (Own _ _ [bk_ p3 #[i6_ 0,str ([]),str ([])] 24]) _ _ ((3,pt_ p3)::_) _ _ _;refine jG Z Z Z Z xF fun p4 hp4=>?_
 show Ll _ _ (Own _ _ [bk_ p4 #[i6_ 0,str ([]),str ([])] 24,_]) _ _ ((4,pt_ p4)::_) _ _ _;refine xB (cs':=#[i6_ a21.n,str a21.set,str a21.rel]) (hs':=[_,bk_ p3 #[i6_ a21.n,str a21.set,str a21.rel] 24]) 1 Z Z Z Z Z (by kernel_rfl:_=some Tryz.t24) Z Z Z Z Z (xB (cs':=#[i6_ b21.n,str b21.set,str b21.rel]) (hs':=[bk_ p4 #[i6_ b21.n,str b21.set,str b21.rel] 24,_]) 0 Z Z Z Z Z (by kernel_rfl:_=some Tryz.t24) Z Z Z Z Z (zH (zD [3,4] [_,_] Z (zE (zB (zF Z (zT (cs:=#[i6_ a21.n,str a21.set,str a21.rel]) 1 Z zQ Z Z zO) (zF Z (zT (cs:=#[i6_ b21.n,str b21.set,str b21.rel]) 0 Z zQ Z Z zO) (zF (v:=.tuple #[str ((sentO a21 b21).1),i6_ ((sentO a21 b21).2.1),bo_ ((sentO a21 b21).2.2)]) Z (qH Z Tryz.call5 Z qC (fun w1 hw1=>iSent_ok a21 b21 w1 hsa21 hsb21)) (zC 1 Z (zF (v:=str ((sentO a21 b21).1)) Z (yB Z Z Z) (zF (v:=i6_ ((sentO a21 b21).2.1)) Z (yB Z Z Z) (zF (v:=bo_ ((sentO a21 b21).2.2)) Z (yB Z Z Z) (zC 3 Z (zK (zD [3,4,5,6,7] [_,_,_,_,_] Z (zE (zB (zF Z (zT (cs:=#[i6_ a21.n,str a21.set,str a21.rel]) 1 Z zQ Z Z zO) (zF Z (zT (cs:=#[i6_ b21.n,str b21.set,str b21.rel]) 0 Z zQ Z Z zO) (zF (v:=.tuple #[str ((sentO a21 b21).1),i6_ ((sentO a21 b21).2.1),bo_ ((sentO a21 b21).2.2)]) Z (qH Z Tryz.call6 Z qC (fun w1 hw1=>sSent_ok a21 b21 w1 hsa21 hsb21 loa21 hia21 lob21 hib21)) (zC 1 Z (zF (v:=str ((sentO a21 b21).1)) Z (yB Z Z Z) (zF (v:=i6_ ((sentO a21 b21).2.1)) Z (yB Z Z Z) (zF (v:=bo_ ((sentO a21 b21).2.2)) Z (yB Z Z Z) (zC 3 Z (zK (zD [3,4,5,6,7,8,9,10] [_,_,_,_,_,_,_,_] Z (zE (zE (zB (zC 2 Z (zF Z (OpQ.sneq Z Z Z) (zC 1 Z (xD fun b41 hg41=>?_))))))))))))))))))))))))))))))))))
 cases b41
 ·
  replace hg41:=not_false hg41;refine zC 5 Z (xD fun b46 hg46=>?_)
  cases b46
  ·
   replace hg46:=not_false hg46
   replace hg46:=qA hg46;refine zC 2 Z (zF Z (uO Z xI Z Z) (zC 2 Z (xD fun b51 hg51=>?_)))
   cases b51
   ·
    refine zF Z (zT (cs:=#[i6_ a21.n,str a21.set,str a21.rel]) 1 Z zQ Z Z zO) (zF (v:=bo_ (validB a21)) Z (qH Z Tryz.call7 Z qC (fun w1 hw1=>iValid_ok a21 w1 hsa21)) (zC 3 Z (xD fun b56 hg56=>?_)))
    cases b56
    ·
     replace hg56:=not_false hg56;refine zF Z (zT (cs:=#[i6_ b21.n,str b21.set,str b21.rel]) 0 Z zQ Z Z zO) (zF (v:=bo_ (validB b21)) Z (qH Z Tryz.call7 Z qC (fun w1 hw1=>iValid_ok b21 w1 hsb21)) (zC 2 Z (zK (zD [3,4,5,6,7,8,9,10,60] [_,_,_,_,_,_,_,_,_] Z (yA (b:=!(validB b21)) Z (fun h60=>?_) (fun h60=>?_))))))
     ·
      replace h60:=not_true h60;refine zE (zB (zC 2 Z (zF Z (uM Z Z Z) (zC 1 Z (xD fun b64 hg64=>?_)))))
      cases b64
      ·
       exact absurd hg64 (by simp)
      refine zC 5 Z (xD fun b69 hg69=>?_)
      cases b69
      ·
       replace hg69:=zU hg69
       exact absurd rfl hg69
      replace hg69:=qA hg69;refine zC 2 Z (zF Z (OpQ.beq Z xI Z Z) (zC 2 Z (zK (zD [2] [_] Z (qK (qR Z Z fun w' hw=>?_))))))
      exact ⟨ret_b (by first | rfl | (simp_all;done)),hw.below⟩
     replace h60:=not_false h60;refine qT (zD [3,4,5,6,7] [_,_,_,_,_] Z (zE (zE (zB (zC 2 Z (zK (zD [3,4,5,6,75] [_,_,_,_,_] Z (yA (b:=!((sentO a21 b21).2.2)) Z (fun h75=>?_) (fun h75=>?_)))))))))
     ·
      replace h75:=not_true h75
      have hva:validB a21=true:=by simp_all
      have hvb:validB b21=true:=by simp_all
      have hN:(sentO a21 b21).2.2=false:=by simpa using h75
      have hq:=sent_less hN hva hvb
      have hz1:=validB_fine hva
      have hz2:=validB_fine hvb
      have hz3:=hz1.hi
      have hz4:=hz2.hi
      have hz5:=hz1.lo
      have hz6:=hz2.lo;refine zE (zB (zF Z (zT (cs:=#[i6_ a21.n,str a21.set,str a21.rel]) 1 Z zQ Z Z zO) (zF Z (zT (cs:=#[i6_ b21.n,str b21.set,str b21.rel]) 0 Z zQ Z Z zO) (zF (v:=bo_ (secB a21 [] b21 [] 2)) Z (qH Z Tryz.call8 Z qC (fun w1 hw1=>iSame_ok a21 b21 w1 hsa21 hsb21 2)) (zC 1 Z (xD fun b79 hg79=>?_))))))
      cases b79
      ·
       refine zF Z (zG Z zX Z zL Z Z) (zF Z (zP 1 Z zV Z Z Z) (zF Z (zG Z zX Z zL Z Z) (zF Z (zP 0 Z zV Z Z Z) (zF Z (yI Z Z Z (by omega) (by omega)) (zC 3 Z (zK (zD [2] [_] Z (qK (qR Z Z fun w' hw=>?_)))))))))
       exact ⟨ret_b (absurd hq (by rw [show secB a21 [] b21 [] 2=false by assumption];decide)),hw.below⟩
      refine zN Z (zN Z (zN Z (zN Z (zN Z (zN Z (zC 2 Z (zK (zD [2] [_] Z (qK (qR Z Z fun w' hw=>?_))))))))))
      exact ⟨rfl,hw.below⟩
     replace h75:=not_false h75
     have hN:(sentO a21 b21).2.2=true:=by simpa using h75
     obtain ⟨q1,q2,q3,q4,q5,q6,q7,q8⟩:=sent_all hN;refine qT (zD [3,4,5,6] [_,_,_,_] Z (zE (qF (zM Z (zT (cs:=#[i6_ a21.n,str a21.set,str a21.rel]) 1 Z zQ Z Z zO) (zM Z (zT (cs:=#[i6_ b21.n,str b21.set,str b21.rel]) 0 Z zQ Z Z zO) (jP (ok:=fun ((v,y):Value×Bool)=>y=true→Shaped a21 b21) (v:=fun ((v,y):Value×Bool)=>.tuple #[v,bo_ y]) (xs:=[.tmp 88,.tmp 89]) (vs:=[vS a21,vS b21]) Z Z Z Z Tryz.call9 Z (fun w1 hw1=>(iShape_ok a21 b21 w1 hsa21 hsb21).mono fun en w' ⟨v,y,h1,h2,h3⟩=>⟨(v,y),h1,h2,h3⟩) fun ⟨v90,y90⟩ hS90=>?_))))))
     show Ll _ _ (Own _ _ [_,_]) _ _ ((90,.tuple #[v90,bo_ y90])::_) _ _ _
     have hshy90:=hS90;refine qJ 1 Z (zM (v:=v90) Z (yB Z Z Z) (zM (v:=bo_ y90) Z (yB Z Z Z) (qJ 2 Z (zH (zD [3,4,5,6,12] [_,_,_,_,_] Z (zE (zB (zF Z (zT (cs:=#[i6_ b21.n,str b21.set,str b21.rel]) 0 Z zQ Z Z zO) (zF Z (zT (cs:=#[i6_ a21.n,str a21.set,str a21.rel]) 1 Z zQ Z Z zO) (zF (v:=.tuple #[str ((sentO b21 a21).1),i6_ ((sentO b21 a21).2.1),bo_ ((sentO b21 a21).2.2)]) Z (qH Z Tryz.call5 Z qC (fun w1 hw1=>iSent_ok b21 a21 w1 hsb21 hsa21)) (zC 1 Z (zF (v:=str ((sentO b21 a21).1)) Z (yB Z Z Z) (zF (v:=i6_ ((sentO b21 a21).2.1)) Z (yB Z Z Z) (zF (v:=bo_ ((sentO b21 a21).2.2)) Z (yB Z Z Z) (zC 3 Z (zK (zD [3,4,5,6,12,13,14,15] [_,_,_,_,_,_,_,_] Z (zE (qF (qJ 1 Z (zM Z (zT (cs:=#[i6_ a21.n,str a21.set,str a21.rel]) 1 Z zQ Z Z zO) (yS (xs:=[]) (vs:=[]) yK Z Z Z Z Z Z (by decide) Z fun p102 hp102=>(zM Z (zT (cs:=#[i6_ b21.n,str b21.set,str b21.rel]) 1 Z zQ Z Z zO) (yS (xs:=[]) (vs:=[]) yK Z Z Z Z Z Z (by decide) Z fun p104 hp104=>(zM (v:=bo_ (sepB ((sentO a21 b21).1) a21 ([]) b21 ([]))) Z (qH Z Tryz.call10 Z qC (fun w1 hw1=>iSep_ok ((sentO a21 b21).1) a21 b21 ([]) ([]) (sl_ p102 0 0) (sl_ p104 0 0) w1 hsa21 hsb21 (yY hw1 (i:=1) Z (n:=0) (cap:=0) (vs:=ints []) Z Z (by decide)) (yY hw1 (i:=0) Z (n:=0) (cap:=0) (vs:=ints []) Z Z (by decide)) (by omega) (by simp) (by simp))) (qJ 1 Z (Ll.bool fun b106 hg106=>?_)))))))))))))))))))))))))))
     cases b106
     ·
      refine qU Z (qU Z (qU Z (qU Z (qJ 2 Z (qU Z (qU Z (qU Z (qU Z (qU Z (qJ 2 Z (qU Z (qU Z (qU Z (qU Z (qU Z (qJ 2 Z (qU Z (qU Z (qJ 2 Z (qU Z (qU Z (qU Z (qU Z (qU Z (qU Z (qU Z (qU Z (qU Z (qU Z (qU Z (qU Z (qU Z (qU Z (qU Z (qJ 2 Z (zH (zD [2] [_] Z (qK (qR Z Z fun w' hw=>?_)))))))))))))))))))))))))))))))))))))))
      exact ⟨ret_b (by first | rfl | exact bool_no q4 (by assumption) | exact absurd q6 (by assumption) | exact bool_no q7 (by assumption) | exact (sent_all (by assumption)).2.2.2.1 | exact absurd (hshy90 (by assumption)) (sent_shape hN) | exact absurd (sent_turn hN (by assumption)) (by assumption) | exact absurd (show secB a21 [] b21 [] (sentO a21 b21).2.1=true by assumption) (by rw [q8];decide)),hw.below⟩
     refine qJ 1 Z (zM (v:=i6_ (rankI ((sentO a21 b21).1))) Z (qH Z Tryz.call11 Z qC (fun w1 hw1=>iRank_ok ((sentO a21 b21).1) w1)) (qJ 4 Z (Ll.bool fun b112 hg112=>?_)))
     cases b112
     ·
      replace hg112:=zU hg112;refine qU Z (qU Z (qU Z (qU Z (qU Z (qJ 2 Z (qU Z (qU Z (qU Z (qU Z (qU Z (qJ 2 Z (qU Z (qU Z (qJ 2 Z (qU Z (qU Z (qU Z (qU Z (qU Z (qU Z (qU Z (qU Z (qU Z (qU Z (qU Z (qU Z (qU Z (qU Z (qU Z (qJ 2 Z (zH (zD [2] [_] Z (qK (qR Z Z fun w' hw=>?_))))))))))))))))))))))))))))))))))
      exact ⟨ret_b (by first | rfl | exact bool_no q4 (by assumption) | exact absurd q6 (by assumption) | exact bool_no q7 (by assumption) | exact (sent_all (by assumption)).2.2.2.1 | exact absurd (hshy90 (by assumption)) (sent_shape hN) | exact absurd (sent_turn hN (by assumption)) (by assumption) | exact absurd (show secB a21 [] b21 [] (sentO a21 b21).2.1=true by assumption) (by rw [q8];decide)),hw.below⟩
     replace hg112:=qA hg112;refine zM Z (zT (cs:=#[i6_ a21.n,str a21.set,str a21.rel]) 3 Z zQ Z Z zO) (zM Z (zT (cs:=#[i6_ b21.n,str b21.set,str b21.rel]) 2 Z zQ Z Z zO) (qJ 1 Z (zM Z (vE Z Z Z (by omega) (by omega)) (zM (v:=bo_ (secB a21 [] b21 [] (((sentO a21 b21).2.1) - (1:Int)))) Z (qH Z Tryz.call8 Z qC (fun w1 hw1=>iSame_ok a21 b21 w1 hsa21 hsb21 (((sentO a21 b21).2.1) - (1:Int)))) (qJ 2 Z (Ll.bool fun b119 hg119=>?_))))))
     cases b119
     ·
      refine qU Z (qU Z (qU Z (qU Z (qU Z (qJ 2 Z (qU Z (qU Z (qJ 2 Z (qU Z (qU Z (qU Z (qU Z (qU Z (qU Z (qU Z (qU Z (qU Z (qU Z (qU Z (qU Z (qU Z (qU Z (qU Z (qJ 2 Z (zH (zD [2] [_] Z (qK (qR Z Z fun w' hw=>?_))))))))))))))))))))))))))))
      exact ⟨ret_b (by first | rfl | exact bool_no q4 (by assumption) | exact absurd q6 (by assumption) | exact bool_no q7 (by assumption) | exact (sent_all (by assumption)).2.2.2.1 | exact absurd (hshy90 (by assumption)) (sent_shape hN) | exact absurd (sent_turn hN (by assumption)) (by assumption) | exact absurd (show secB a21 [] b21 [] (sentO a21 b21).2.1=true by assumption) (by rw [q8];decide)),hw.below⟩
     refine zM Z (zT (cs:=#[i6_ a21.n,str a21.set,str a21.rel]) 3 Z zQ Z Z zO) (zM Z (zT (cs:=#[i6_ b21.n,str b21.set,str b21.rel]) 2 Z zQ Z Z zO) (qJ 1 Z (zM (v:=bo_ (secB a21 [] b21 [] ((sentO a21 b21).2.1))) Z (qH Z Tryz.call8 Z qC (fun w1 hw1=>iSame_ok a21 b21 w1 hsa21 hsb21 ((sentO a21 b21).2.1))) (qJ 3 Z (Ll.bool fun b126 hg126=>?_)))))
     cases b126
     ·
      replace hg126:=not_false hg126;refine qU Z (qU Z (qJ 2 Z (qU Z (qU Z (qU Z (qU Z (qU Z (qU Z (qU Z (qU Z (qU Z (qU Z (qU Z (qU Z (qU Z (qU Z (qU Z (qJ 2 Z (zH (zD [2] [_] Z (qK (qR Z Z fun w' hw=>?_))))))))))))))))))))))
      exact ⟨ret_b (by first | rfl | exact bool_no q4 (by assumption) | exact absurd q6 (by assumption) | exact bool_no q7 (by assumption) | exact (sent_all (by assumption)).2.2.2.1 | exact absurd (hshy90 (by assumption)) (sent_shape hN) | exact absurd (sent_turn hN (by assumption)) (by assumption) | exact absurd (show secB a21 [] b21 [] (sentO a21 b21).2.1=true by assumption) (by rw [q8];decide)),hw.below⟩
     replace hg126:=not_true hg126;refine qJ 4 Z (Ll.bool fun b130 hg130=>?_)
     cases b130
     ·
      replace hg130:=not_false hg130;refine qU Z (qU Z (qU Z (qU Z (qU Z (qU Z (qU Z (qU Z (qU Z (qU Z (qU Z (qU Z (qU Z (qU Z (qU Z (qJ 2 Z (zH (zD [2] [_] Z (qK (qR Z Z fun w' hw=>?_)))))))))))))))))))
      exact ⟨ret_b (by first | rfl | exact bool_no q4 (by assumption) | exact absurd q6 (by assumption) | exact bool_no q7 (by assumption) | exact (sent_all (by assumption)).2.2.2.1 | exact absurd (hshy90 (by assumption)) (sent_shape hN) | exact absurd (sent_turn hN (by assumption)) (by assumption) | exact absurd (show secB a21 [] b21 [] (sentO a21 b21).2.1=true by assumption) (by rw [q8];decide)),hw.below⟩
     replace hg130:=not_true hg130;refine qJ 3 Z (Ll.bool fun b133 hg133=>?_)
     cases b133
     ·
      replace hg133:=not_false hg133;refine qJ 4 Z (Ll.bool fun b137 hg137=>?_)
      cases b137
      ·
       replace hg137:=zU hg137;refine qU Z (qU Z (qU Z (qU Z (qU Z (qU Z (qJ 4 Z (zH (zD [2] [_] Z (qK (qR Z Z fun w' hw=>?_))))))))))
       exact ⟨ret_b (by first | rfl | exact bool_no q4 (by assumption) | exact absurd q6 (by assumption) | exact bool_no q7 (by assumption) | exact (sent_all (by assumption)).2.2.2.1 | exact absurd (hshy90 (by assumption)) (sent_shape hN) | exact absurd (sent_turn hN (by assumption)) (by assumption) | exact absurd (show secB a21 [] b21 [] (sentO a21 b21).2.1=true by assumption) (by rw [q8];decide)),hw.below⟩
      replace hg137:=qA hg137;refine qJ 1 Z (zM Z (zT (cs:=#[i6_ b21.n,str b21.set,str b21.rel]) 2 Z zQ Z Z zO) (yS (xs:=[]) (vs:=[]) yK Z Z Z Z Z Z (by decide) Z fun p140 hp140=>(zM Z (zT (cs:=#[i6_ a21.n,str a21.set,str a21.rel]) 4 Z zQ Z Z zO) (yS (xs:=[]) (vs:=[]) yK Z Z Z Z Z Z (by decide) Z fun p142 hp142=>(zM (v:=bo_ (sepB ((sentO b21 a21).1) b21 ([]) a21 ([]))) Z (qH Z Tryz.call10 Z qC (fun w1 hw1=>iSep_ok ((sentO b21 a21).1) b21 a21 ([]) ([]) (sl_ p140 0 0) (sl_ p142 0 0) w1 hsb21 hsa21 (yY hw1 (i:=1) Z (n:=0) (cap:=0) (vs:=ints []) Z Z (by decide)) (yY hw1 (i:=0) Z (n:=0) (cap:=0) (vs:=ints []) Z Z (by decide)) (by have:=(sent_all (show (sentO b21 a21).2.2=true by assumption)).2.2.2.2.1;omega) (by simp) (by simp))) (qJ 4 Z (zH (zD [2] [_] Z (qK (qR Z Z fun w' hw=>?_))))))))))
      exact ⟨ret_b (by first | rfl | exact bool_no q4 (by assumption) | exact absurd q6 (by assumption) | exact bool_no q7 (by assumption) | exact (sent_all (by assumption)).2.2.2.1 | exact absurd (hshy90 (by assumption)) (sent_shape hN) | exact absurd (sent_turn hN (by assumption)) (by assumption) | exact absurd (show secB a21 [] b21 [] (sentO a21 b21).2.1=true by assumption) (by rw [q8];decide)),hw.below⟩
     replace hg133:=not_true hg133;refine qU Z (qU Z (qU Z (qU Z (qU Z (qU Z (qU Z (qU Z (qU Z (qU Z (qU Z (qJ 3 Z (zH (zD [2] [_] Z (qK (qR Z Z fun w' hw=>?_)))))))))))))))
     exact ⟨rfl,hw.below⟩
    replace hg56:=not_true hg56;refine zN Z (zN Z (zN Z (zC 1 Z (zK (zD [3,4,5,6,7,8,9,10,60] [_,_,_,_,_,_,_,_,_] Z (xH Z (zE (zB (zC 2 Z (zF Z (uM Z Z Z) (zC 1 Z (xD fun b64 hg64_1=>?_))))))))))))
    cases b64
    ·
     exact absurd hg64_1 (by simp)
    refine zC 5 Z (xD fun b69 hg69_1=>?_)
    cases b69
    ·
     replace hg69_1:=zU hg69_1
     exact absurd rfl hg69_1
    replace hg69_1:=qA hg69_1;refine zC 2 Z (zF Z (OpQ.beq Z xI Z Z) (zC 2 Z (zK (zD [2] [_] Z (qK (qR Z Z fun w' hw=>?_))))))
    exact ⟨ret_b (by first | rfl | (simp_all;done)),hw.below⟩
   exact absurd hg51 (by simp)
  replace hg46:=not_true hg46
  replace hg46:=zU hg46
  exact absurd rfl hg46
 replace hg41:=not_true hg41
 exact absurd hg41 (by simp)
end Go.Proofs.YtagbocafnliabaaGreatDoor
namespace Go.Proofs.YtagbocafnliabaaGreatDoor
open Go.ChangeShapes Go.WideShapes Go.ChangeAt Go.RowKit Go.Wk
namespace FnSentenceFor
def W0:Array Value:=#[.slice none 0 0]
set_option maxRecDepth 100000 in
theorem contract (H:Type) (enc:TypeId×Value→H) (W:World) (base:Nat) (args:Array Value) (ds gs:List (DataW H)) (before:List MemPlace)
  (hval:∀ (j:Nat) t v,Tryz.f3.params[j]?=some t→args[j]?=some v→Value.okWide Tryz.prog W .any base t v)
  (hW:DataW.Whole enc Tryz.prog Tryz.f3.params.toList Rows.fnSentenceForSpec.vars false W args.toList ds gs before) :
  Calls Tryz.prog 3 args W fun e W'=>∃ v,e=.returned v∧Rows.fnSentenceForSpec.post enc Tryz.prog Tryz.f3 false true false false W args v W':=by
 have hW':=hW
 obtain ⟨p,q,hA0,hV,rfl,hfz,hnd⟩:=hW
 have hA:DataW.TrodAll enc Tryz.prog W 0 (fun _=>true) true Tryz.f3.params.toList args.toList ds p:=hA0
 rw [Tryz.params3] at hA hval
 obtain ⟨v0,vs0,d0,ds0,p0,q0,hargs0,rfl,rfl,h0,r0⟩:=trodAll_cons hA
 obtain ⟨rfl,rfl,rfl⟩:=trodAll_nil r0
 obtain rfl:args=#[v0]:=by cases args;simp_all
 obtain ⟨l0,row0,eight0,len0⟩:=open_B Tryz.underlying22 Tryz.underlying5 (by kernel_rfl) (hval 0 22 v0 rfl rfl) h0
 have walk:Calls Tryz.prog 3 #[v0] W fun e w'=>e=.returned (.bool true)∧Below W.heap.size W w':=by
  exact lawFnSent v0 l0 W row0 eight0 len0
 refine walk.mono fun e W' ⟨he,hb⟩=>⟨_,he,?_⟩
 exact post_true laidOut (by rw [Tryz.params3];intro t ht;simp only [List.mem_cons,List.not_mem_nil,or_false] at ht;rcases ht with rfl <;> exact ⟨by kernel_rfl,of_decide_eq_true (by kernel_rfl)⟩) rfl hW' rfl (by kernel_rfl) Tryz.underlying4 hb
theorem reads (os:Os) {H:Type} (enc:TypeId×Value→H):∃ places,DataW.whole enc Tryz.prog ((laidWorld os).forCall (fun _ _=>0) ⟨#[],W0,[]⟩).memory Tryz.f3.params.toList Rows.fnSentenceForSpec.vars false W0.toList 8=some ([.nil],[],places) :=
 ⟨[],by kernel_rfl⟩
set_option maxRecDepth 100000 in
theorem lifted (os:Os) (started:os.Started) (H:Type) (enc:TypeId×Value→H) (F:Stop.Interp) :
    ReturnsInHanded {} Tryz.checked os 3 .any ((OpenSpec.ofChange Rows.fnSentenceForSpec).preRow enc Tryz.prog Tryz.f3 Rows.fnSentenceForRow.domain false Rows.fnSentenceForRow.laid) (((OpenSpec.ofChange Rows.fnSentenceForSpec).at F).post enc Tryz.prog Tryz.f3 false true false false):=by
  obtain ⟨places,hx⟩:=reads os enc
  refine returnsInHanded_of_row (C:=Tryz.checked) (s:=OpenSpec.ofChange Rows.fnSentenceForSpec) own started (by kernel_rfl) Tryz.func3
    (witness_row_at (enc:=enc) (C:=Tryz.checked) false (laidWorld os) W0 rfl (by kernel_rfl) (by kernel_rfl) (by kernel_rfl)
      (OpenSpec.preRow_of_cond 8 hx (by kernel_rfl) (fun k hk=>by cases hk) (by kernel_rfl) (laid_met os W0))) ?_
  intro W base args ds gs before hval hW _ _ _ hL _ _
  exact contract H enc W base args ds gs before hval hW
theorem k0:(Rows.fnSentenceForRow.wf (OpenSpec.ofChange (OpenSpec.ofChange Rows.fnSentenceForSpec).bare))=true:=by kernel_rfl
theorem k3:(Tryz.f3.params.all (Tryz.pinned.checked.prog.readableRec ·))=true:=by kernel_rfl
theorem k4:(namedTie Tryz.pinned.checked.prog Rows.fnSentenceForRow.named (OpenSpec.ofChange Rows.fnSentenceForSpec).bare.vars)=true:=by kernel_rfl
theorem k9:((Rows.fnSentenceForRow.inPlace==Tryz.pinned.checked.prog.inPlace 3))=true:=by kernel_rfl
theorem k10:((Rows.fnSentenceForRow.unfollowed==Tryz.pinned.checked.prog.unfollowed 3))=true:=by kernel_rfl
theorem k11:((Rows.fnSentenceForRow.recurses==Tryz.pinned.checked.prog.recurses 3))=true:=by kernel_rfl
theorem k12:((Rows.fnSentenceForRow.named==Tryz.pinned.checked.prog.varsNamed 3))=true:=by kernel_rfl
theorem k13:((Rows.fnSentenceForRow.maps==(Tryz.f3.params.toList++(OpenSpec.ofChange Rows.fnSentenceForSpec).bare.plain.varTypes Tryz.pinned.checked.prog).any (Tryz.pinned.checked.prog.mapsRec ·)))=true:=by kernel_rfl
theorem k14:((Rows.fnSentenceForRow.ifaces==(Tryz.f3.params.toList++(OpenSpec.ofChange Rows.fnSentenceForSpec).bare.plain.varTypes Tryz.pinned.checked.prog).any (Tryz.pinned.checked.prog.ifacesRec ·)))=true:=by kernel_rfl
theorem k15:((Rows.fnSentenceForRow.mapsOut==Tryz.pinned.checked.prog.mapsAmong Tryz.f3.resultTypes.toList))=true:=by kernel_rfl
theorem k16:((Rows.fnSentenceForRow.loops==(Tryz.f3.params.toList++(OpenSpec.ofChange Rows.fnSentenceForSpec).bare.plain.varTypes Tryz.pinned.checked.prog).any (Tryz.pinned.checked.prog.loopsFrom ·)))=true:=by kernel_rfl
theorem k17:((Rows.fnSentenceForRow.wideKeys==(Tryz.f3.params.toList++(OpenSpec.ofChange Rows.fnSentenceForSpec).bare.plain.varTypes Tryz.pinned.checked.prog++Tryz.f3.resultTypes.toList).any (Tryz.pinned.checked.prog.wideKeysFrom ·)))=true:=by kernel_rfl
theorem k19:(Tryz.f3.resultTypes.all (fun t=>Tryz.pinned.checked.prog.readableRec t&&decide (t<Tryz.pinned.checked.prog.types.size)))=true:=by kernel_rfl
theorem k20:((Rows.fnSentenceForRow.ifacesOut==Tryz.f3.resultTypes.toList.any (Tryz.pinned.checked.prog.ifacesRec ·)))=true:=by kernel_rfl
theorem k21:((Rows.fnSentenceForRow.loopsOut==Tryz.f3.resultTypes.toList.any (Tryz.pinned.checked.prog.loopsFrom ·)))=true:=by kernel_rfl
theorem k30:((Rows.fnSentenceForRow.veiled==(Tryz.f3.params.toList++(OpenSpec.ofChange Rows.fnSentenceForSpec).bare.plain.varTypes Tryz.pinned.checked.prog++Tryz.f3.resultTypes.toList).any (Tryz.pinned.checked.prog.veiledRec ·)))=true:=by kernel_rfl
theorem k31:(Rows.fnSentenceForRow.veiledFits Tryz.pinned.checked.prog Tryz.f3.params.toList (Tryz.f3.params.toList++(OpenSpec.ofChange Rows.fnSentenceForSpec).bare.plain.varTypes Tryz.pinned.checked.prog++Tryz.f3.resultTypes.toList))=true:=by kernel_rfl
theorem closed:joinedFacts Tryz.pinned.checked.prog 3 Tryz.f3 (OpenSpec.ofChange Rows.fnSentenceForSpec).bare Rows.fnSentenceForRow=true :=
 facts_of k0 Laid1 Laid2 k3 k4 (by kernel_rfl) Laid6 (by kernel_rfl) Laid8 k9 k10 k11 k12 k13 k14 k15 k16 k17 (by kernel_rfl) k19 k20 k21 Laid22 (by kernel_rfl) Laid24 Laid25 Laid26 Laid27 (by kernel_rfl) (by kernel_rfl) k30 k31
theorem said:Rows.FnSentenceForSaid :=
  OpenClaim.holds_of_cond 3 Tryz.f3 rfl rfl rfl rfl rfl rfl rfl ⟨rfl,rfl,rfl,rfl,rfl⟩ rfl rfl rfl rfl rfl (by kernel_rfl) Tryz.func3 closed
    (of_decide_eq_true (by kernel_rfl)) (by unfold Func.isWrapper;first | (rw [if_pos (by decide +kernel)];kernel_rfl) | (rw [if_neg (by decide +kernel)];exact ⟨rfl,rfl⟩))
    (fun os started H enc _ F=>by rw [OpenClaim.pre_eq_preRow];exact lifted os started H enc F)
theorem plain (f:FuncId) (fn:Func) (hf:Tryz.pinned.checked.prog.funcNamed Rows.fnSentenceForRow.func=some f) (hfn:Tryz.pinned.checked.prog.funcs[f]?=some fn) :
  false=Tryz.pinned.checked.prog.looks []∧∀ (j:Nat) t,fn.params[j]?=some t→Tryz.pinned.checked.prog.wantsStandIn t=false:=by
 obtain rfl:f=3:=Option.some.inj ((show Tryz.pinned.checked.prog.funcNamed Rows.fnSentenceForRow.func=some 3 by kernel_rfl).symm.trans hf) |>.symm
 obtain rfl:fn=Tryz.f3:=(Option.some.inj (Tryz.func3.symm.trans hfn)).symm
 refine ⟨by kernel_rfl,fun j t ht=>?_⟩
 rw [Tryz.params3] at ht
 have hm:t∈[22]:=by simpa using Array.mem_of_getElem? ht
 simp only [List.mem_cons,List.not_mem_nil,or_false] at hm
 rcases hm with rfl <;> (show Tryz.prog.wantsStandIn _=false) <;> kernel_rfl
theorem hw:Rows.fnSentenceForRow.wfByText (OpenSpec.ofChange Rows.fnSentenceForSpec)=true:=by kernel_rfl
theorem hm:Tryz.pinned.checked.prog.mainIs=some (Rows.fnSentenceForCard.stood.harness.1,Rows.fnSentenceForCard.stood.harness.2.toList):=by kernel_rfl
theorem hg:false=Rows.fnSentenceForRow.goesBy Tryz.pinned.checked.prog:=by kernel_rfl
end FnSentenceFor
theorem cardFnSentenceFor:Rows.FnSentenceForCardSaid :=
 Claim7.holds_tied_plain_at .later [] _ _ _ _ FnSentenceFor.said (fun _ h=>by cases h) FnSentenceFor.hw (fun _ h=>by cases h) fnSentenceFor_row_tie rfl ⟨rfl,rfl⟩ FnSentenceFor.hm rfl FnSentenceFor.plain FnSentenceFor.hg
end Go.Proofs.YtagbocafnliabaaGreatDoor
