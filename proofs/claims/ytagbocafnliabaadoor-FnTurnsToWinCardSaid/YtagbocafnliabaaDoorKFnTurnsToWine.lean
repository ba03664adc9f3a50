/-
  FnTurnsToWin: all that its proof names (part 5)
-/
import Derived.Test.YtagbocafnliabaaDoorKFnTurnsToWind
import Derived.Test.YtagbocafnliabaaDoorKFnTurnsToWinb
import Derived.Test.YtagbocafnliabaaDoorKFnTurnsToWinc
import Derived.Test.YtagbocafnliabaaDoorKFnTurnsToWina
namespace Go.Proofs.YtagbocafnliabaaDoor
open Go.RowKit Go.Wk
set_option linter.unusedSimpArgs false
set_option maxHeartbeats 400000 in
theorem drawTurns_ok (B:Nat) (w0:World) (hs:List (Nat×Obj)) (bv:Value) (L:List Int) (w:World) (hb:∀ w,Own B w0 hs w→Row w bv (u8s L)) (hL8:Bytes8 L) (hLs:L.length≤1048576) (hw:Own B w0 hs w) :
    Calls Tryd.prog 19 [bv].toArray w fun en w'=>∃ a:St,∃ b:St,∃ x:Int,en=.returned (.tuple #[vS a,vS b,.int .i64 x])∧((a.Tame∧b.Tame)∧0≤x∧x≤4)∧Own B w0 hs w':=by
 refine fnStartC (Own B w0 hs) (n:=24) (e:=[(0,bv)]) Tryd.func19 Z Z Z Z Ends.both hw (zE (zZ (xO Z Z Z Z yL fun p2 hp2=>?_)))
 show Ll _ _ (Own _ _ (bk_ p2 #[i6_ 0,str ([]),str ([])] 24::hs)) _ _ ((2,pt_ p2)::_) _ _ _;refine xO Z Z Z Z yL fun p3 hp3=>?_
 show Ll _ _ (Own _ _ (bk_ p3 #[i6_ 0,str ([]),str ([])] 24::_::hs)) _ _ ((3,pt_ p3)::_) _ _ _;refine qI 1 Z (zI (zD [0,2,3] [_,_,_] Z (zE (zZ (qI 1 Z (Ll.callBack (ok:=fun ((rp,v,M):Nat×Value×List Int)=>M.length≤2000∧Bytes8 M∧∀ w1,Own B w0 hs w1→Row w1 v (u8s M)) (v:=fun ((rp,v,M):Nat×Value×List Int)=>.pointer (some ⟨rp,0,none⟩)) (new:=fun ((rp,v,M):Nat×Value×List Int)=>[(rp,.cells #[v,.int .i64 ((0:Nat):Int)] 104 (0,0))]) (hs:=hs) (xs:=[.tmp 10]) (vs:=[bv]) ([bk_ p3 #[i6_ 0,str ([]),str ([])] 24,bk_ p2 #[i6_ 0,str ([]),str ([])] 24]:List (Nat×Obj)) Z Z Z Z Tryd.call31 Z (fun w1 hw1=>(open_ok B w0 ([bk_ p3 #[i6_ 0,str ([]),str ([])] 24,bk_ p2 #[i6_ 0,str ([]),str ([])] 24]:List (Nat×Obj)) hs _ _ w1 hb hL8 hLs hw1).mono fun en w' ⟨rp,v,M,h1,h2,h3⟩=>⟨(rp,v,M),h1,h2,h3⟩) fun ⟨rp,dv,M⟩ hO=>?_))))))
 dsimp only at hO
 obtain ⟨hM2,hM8,hMb⟩:=hO
 show Ll _ _ (Own _ _ (_::_::_::hs)) _ _ ((11,pt_ rp)::_) _ _ _;refine qI 1 Z (zI (zD [2,3,5] [_,_,_] Z (zE (zZ (qI 1 Z (Ll.callRdL (rp:=rp) (RT:=104) (p:=0) (bv:=dv) (hs:=hs) (ok:=fun ((a,b,v,xs,u,ys,new):St×St×Value×List Int×Value×List Int×List (Nat×Obj)) p'=>((a.Tame∧b.Tame)∧(xs.length≤40∧ys.length≤40)∧∀ w1,Own B w0 new w1→Ints w1 v xs∧Ints w1 u ys)∧p'≤0+2000) (v:=fun ((a,b,v,xs,u,ys,new):St×St×Value×List Int×Value×List Int×List (Nat×Obj))=>.tuple #[vS a,v,vS b,u]) (new:=fun ((a,b,v,xs,u,ys,new):St×St×Value×List Int×Value×List Int×List (Nat×Obj))=>new) (xs:=[.tmp 13]) (vs:=[pt_ rp]) ([bk_ p3 #[i6_ 0,str ([]),str ([])] 24,bk_ p2 #[i6_ 0,str ([]),str ([])] 24]:List (Nat×Obj)) Z Z Z Z Tryd.call55 Z (fun w1 hw1=>(l7Some_ok B w0 (([bk_ p3 #[i6_ 0,str ([]),str ([])] 24,bk_ p2 #[i6_ 0,str ([]),str ([])] 24]:List (Nat×Obj))++hs) rp 0 dv M w1 (fun w2 hw2=>hMb w2 (qW (f:=([bk_ p3 #[i6_ 0,str ([]),str ([])] 24,bk_ p2 #[i6_ 0,str ([]),str ([])] 24]:List (Nat×Obj))) hw2)) hM8 hM2 (by omega) hw1).mono fun en w' ⟨a,b,v,xs,u,ys,new,p',h1,h2,h3⟩=>⟨(a,b,v,xs,u,ys,new),p',h1,h2,h3⟩) fun ⟨a14,b14,v14,xs14,u14,ys14,new14⟩ p_14 hK=>?_))))))
 dsimp only at hK
 obtain ⟨⟨⟨hta14,htb14⟩,⟨hlxs14,hlys14⟩,hrw⟩,hep_14⟩:=hK
 have hIv14:∀ w1,Own B w0 new14 w1→Ints w1 v14 xs14:=fun w1 h=>(hrw w1 h).1
 have hIu14:∀ w1,Own B w0 new14 w1→Ints w1 u14 ys14:=fun w1 h=>(hrw w1 h).2
 show Ll _ _ (Own _ _ (_::_::_::(new14++hs))) _ _ ((14,.tuple #[vS a14,v14,vS b14,u14])::_) _ _ _;refine qI 1 Z (zT (v:=vS a14) Z (jB Z Z Z) (zT (v:=v14) Z (jB Z Z Z) (zT (v:=vS b14) Z (jB Z Z Z) (zT (v:=u14) Z (jB Z Z Z) (xO Z Z Z Z yL fun p6 hp6=>?_)))))
 show Ll _ _ (Own _ _ (bk_ p6 #[i6_ 0,str ([]),str ([])] 24::_::_::_::(new14++hs))) _ _ ((6,pt_ p6)::_) _ _ _;refine xO Z Z Z Z yL fun p8 hp8=>?_
 show Ll _ _ (Own _ _ (bk_ p8 #[i6_ 0,str ([]),str ([])] 24::_::_::_::_::(new14++hs))) _ _ ((8,pt_ p8)::_) _ _ _;refine qZ (cs':=#[i6_ a14.n,str a14.set,str a14.rel]) (hs':=(_::bk_ p6 #[i6_ a14.n,str a14.set,str a14.rel] 24::_::_::_::(new14++hs))) 1 Z Z Z Z Z (by kernel_rfl:_=some Tryd.t24) Z Z Z Z Z (qI 1 Z (qZ (cs':=#[i6_ b14.n,str b14.set,str b14.rel]) (hs':=(bk_ p8 #[i6_ b14.n,str b14.set,str b14.rel] 24::_::_::_::_::(new14++hs))) 0 Z Z Z Z Z (by kernel_rfl:_=some Tryd.t24) Z Z Z Z Z (qI 1 Z (zI (zD [2,3,5,6,8] [_,_,_,_,_] Z (zE (jN (S:=Own B w0 [bk_ p8 #[i6_ b14.n,str b14.set,str b14.rel] 24,bk_ p6 #[i6_ a14.n,str a14.set,str a14.rel] 24]) [(0,true),(1,true),(2,true),(3,false),(4,false),(5,false),(6,false),(7,true)] yH (fun _ h=>h.drawn) (by kernel_rfl) (xR Z Z Z Z Z (zY (cs:=#[i6_ a14.n,str a14.set,str a14.rel]) 1 Z zP Z Z zM) (pk [0,1] Z Z) (xR Z Z Z Z Z (zY (cs:=#[i6_ b14.n,str b14.set,str b14.rel]) 0 Z zP Z Z zM) (pk [0,1] Z Z) (xZ 1 Z (pk [0,1] Z Z) (xJ Z (yD (xs:=[.const (i6_ 2),.const (i6_ 1),.const (i6_ 2),.const (i6_ 3),.const (i6_ 0),.const (i6_ 4)]) (vs:=[i6_ 2,i6_ 1,i6_ 2,i6_ 3,i6_ 0,i6_ 4]) qD Z Z Z Z Z Z (by decide) Z fun p22 hp22=>(zI (xA (pk [1,2] Z Z) ?_))))))))))))));refine xJ Z (yS (rp:=rp) (RT:=104) (p:=p_14) (bv:=dv) (hs:=(new14++hs)) (ok:=fun (v:Int) p'=>v∈([2,1,2,3,0,4])∧p'=p_14+1) (v:=fun (v:Int)=>i6_ v) (new:=fun (v:Int)=>[]) (xs:=[.tmp 21,.tmp 22]) (vs:=[pt_ rp,sl_ p22 6 6]) ([bk_ p22 #[i6_ 2,i6_ 1,i6_ 2,i6_ 3,i6_ 0,i6_ 4] 3,bk_ p8 #[i6_ b14.n,str b14.set,str b14.rel] 24,bk_ p6 #[i6_ a14.n,str a14.set,str a14.rel] 24,bk_ p3 #[i6_ 0,str ([]),str ([])] 24,bk_ p2 #[i6_ 0,str ([]),str ([])] 24]:List (Nat×Obj)) Z Z Z Z Tryd.call33 Z (fun w1 hw1=>(num_ok B w0 (([bk_ p22 #[i6_ 2,i6_ 1,i6_ 2,i6_ 3,i6_ 0,i6_ 4] 3,bk_ p8 #[i6_ b14.n,str b14.set,str b14.rel] 24,bk_ p6 #[i6_ a14.n,str a14.set,str a14.rel] 24,bk_ p3 #[i6_ 0,str ([]),str ([])] 24,bk_ p2 #[i6_ 0,str ([]),str ([])] 24]:List (Nat×Obj))++(new14++hs)) rp p_14 dv M (sl_ p22 6 6) ([2,1,2,3,0,4]) w1 (fun w2 hw2=>(fun w h=>hMb w (qW (f:=new14) h)) w2 (qW (f:=([bk_ p22 #[i6_ 2,i6_ 1,i6_ 2,i6_ 3,i6_ 0,i6_ 4] 3,bk_ p8 #[i6_ b14.n,str b14.set,str b14.rel] 24,bk_ p6 #[i6_ a14.n,str a14.set,str a14.rel] 24,bk_ p3 #[i6_ 0,str ([]),str ([])] 24,bk_ p2 #[i6_ 0,str ([]),str ([])] 24]:List (Nat×Obj))) hw2)) hM8 hM2 (fun w2 h2=>(yC h2 (i:=0) Z (n:=6) (cap:=6) (vs:=ints [2,1,2,3,0,4]) Z Z (by decide))) (by simp) (by omega) hw1).mono fun en w' ⟨v',p',h1,h2,h3⟩=>⟨v',p',h1,h2,h3⟩) fun v23 p_23 hKp_23=>?_)
 show Ll _ _ (Own _ _ (_::_::_::_::_::_::(new14++hs))) _ _ ((23,i6_ v23)::_) _ _ _
 obtain ⟨hmv23,hep_23⟩:=hKp_23
 have hvv23:0≤v23∧v23≤4:=by simp at hmv23;omega
 refine zI (xA (pk [1,2] Z Z) ?_);refine xJ Z (qZ (cs':=#[i6_ a14.n,str a14.set,str a14.rel]) (hs':=(_::_::_::_::bk_ p2 #[i6_ a14.n,str a14.set,str a14.rel] 24::_::(new14++hs))) 4 Z Z Z Z Z (by kernel_rfl:_=some Tryd.t24) Z Z Z Z Z (zI (xA (pk [1,2] Z Z) ?_)));refine xJ Z (qZ (cs':=#[i6_ b14.n,str b14.set,str b14.rel]) (hs':=(_::_::_::bk_ p3 #[i6_ b14.n,str b14.set,str b14.rel] 24::_::_::(new14++hs))) 3 Z Z Z Z Z (by kernel_rfl:_=some Tryd.t24) Z Z Z Z Z (zI (xA (pk [1,2] Z Z) ?_)));refine xZ 1 Z (pk [1,2] Z Z) (Ld.nil (zD [2,3,4] [_,_,_] Z (qQ (jA Z (.cell (cs:=#[i6_ a14.n,str a14.set,str a14.rel]) Z (fun w1 hw1=>hw1.loadBox 4 Z zP zM) (.cell (cs:=#[i6_ b14.n,str b14.set,str b14.rel]) Z (fun w1 hw1=>hw1.loadBox 3 Z zP zM) (.tmp (v:=i6_ v23) Z ResAt.nil))) (by simp) fun w' hw=>?_))))
 exact ⟨a14,b14,v23,rfl,⟨⟨hta14,htb14⟩,⟨by omega,by omega⟩⟩,qW (f:=new14) (qW (f:=[_,_,_,_,_,_]) hw)⟩
set_option maxHeartbeats 400000 in
theorem lawFnTurns (bv:Value) (L:List Int) (w:World) (hbv:Row w bv (u8s L)) (hL8:Bytes8 L) (hLm:L.length≤9223372036854775807) :
    Calls Tryd.prog 5 [bv].toArray w fun en w'=>en=.returned (.bool true)∧Below w.heap.size w w':=by
 refine fnStart (n:=117) (e:=[(0,bv)]) Tryd.func5 Z Z Z Z Ends.both (zE (zB (zC 1 Z (zG (zD [0] [_] Z (zE (zE (zB (zC 1 Z (zF (v:=i6_ (L.length:Int)) Z (yP Z yV Z (u8s_length _) (fun w1 hw1=>Row.own hbv hw1)) (zC 1 Z (zG (zD [0,15] [_,_] Z (xI Z (fun h15=>?_) (fun h15=>?_)))))))))))))))
 ·
  refine zE (zB (zC 1 Z (zG (zD [2] [_] Z (qQ (qO Z Z fun w' hw=>?_))))))
  exact ⟨ret_b (by first | rfl | (simp_all;done)),hw.below⟩
 refine qT (zD [0] [_] Z (zE (zZ (qI 1 Z (jI (σ:=St×St×Int) (ok:=fun (a,b,x)=>(a.Tame∧b.Tame)∧0≤x∧x≤4) (v:=fun (a,b,x)=>.tuple #[vS a,vS b,.int .i64 x]) (hs':=fun _=>[]) (xs:=[.tmp 17]) (vs:=[bv]) Z Z Z Z Tryd.call19 Z (fun w1 hw1=>(drawTurns_ok w.heap.size w [] bv L w1 (fun w2 hw2=>Row.own hbv hw2) hL8 (by omega) hw1).mono fun en w' ⟨a,b,x,h1,h2,h3⟩=>⟨(a,b,x),h1,h2,h3⟩) fun ⟨a18,b18,x18⟩ hK=>?_)))))
 dsimp only at hK
 obtain ⟨⟨hta18,htb18⟩,hbx18⟩:=hK
 have hsa18:=hta18.small
 have loa18:=hta18.lo
 have hia18:=hta18.hi
 have hsb18:=htb18.small
 have lob18:=htb18.lo
 have hib18:=htb18.hi
 show Ll _ _ (Own _ _ []) _ _ ((18,.tuple #[vS a18,vS b18,i6_ x18])::_) _ _ _;refine qI 1 Z (zT (v:=vS a18) Z (jB Z Z Z) (zT (v:=vS b18) Z (jB Z Z Z) (zT (v:=i6_ x18) Z (jB Z Z Z) (xO Z Z Z Z yL fun p3 hp3=>?_))))
 show Ll _ _ (Own _ _ [bk_ p3 #[i6_ 0,str ([]),str ([])] 24]) _ _ ((3,pt_ p3)::_) _ _ _;refine xO Z Z Z Z yL fun p4 hp4=>?_
 show Ll _ _ (Own _ _ [bk_ p4 #[i6_ 0,str ([]),str ([])] 24,_]) _ _ ((4,pt_ p4)::_) _ _ _;refine qZ (cs':=#[i6_ a18.n,str a18.set,str a18.rel]) (hs':=[_,bk_ p3 #[i6_ a18.n,str a18.set,str a18.rel] 24]) 1 Z Z Z Z Z (by kernel_rfl:_=some Tryd.t24) Z Z Z Z Z (qZ (cs':=#[i6_ b18.n,str b18.set,str b18.rel]) (hs':=[bk_ p4 #[i6_ b18.n,str b18.set,str b18.rel] 24,_]) 0 Z Z Z Z Z (by kernel_rfl:_=some Tryd.t24) Z Z Z Z Z (qI 1 Z (zI (zD [3,4,5] [_,_,_] Z (zE (zB (zF Z (zY (cs:=#[i6_ a18.n,str a18.set,str a18.rel]) 1 Z zP Z Z zM) (zF Z (zY (cs:=#[i6_ b18.n,str b18.set,str b18.rel]) 0 Z zP Z Z zM) (zC 1 Z (zF (v:=i6_ (turnsB a18 b18 x18)) Z (qN Z Tryd.call20 Z qC (fun w1 hw1=>iTurns_ok a18 b18 x18 w1 hsa18 hsb18)) (zC 1 Z (zG (zD [3,4,5,6] [_,_,_,_] Z (zE (zE (zB (zC 1 Z (zF Z (zY (cs:=#[i6_ a18.n,str a18.set,str a18.rel]) 1 Z zP Z Z zM) (zF Z (zY (cs:=#[i6_ b18.n,str b18.set,str b18.rel]) 0 Z zP Z Z zM) (zC 1 Z (zF (v:=i6_ (turnsB a18 b18 x18)) Z (qN Z Tryd.call21 Z qC (fun w1 hw1=>sTurns_ok a18 b18 x18 w1 hsa18 hsb18 loa18 hia18 lob18 hib18)) (zC 2 Z (yX fun b32 hg32=>?_)))))))))))))))))))))))
 cases b32
 ·
  replace hg32:=not_false hg32
  replace hg32:=zW hg32;refine zC 3 Z (zG (zD [3,4,5,6,35] [_,_,_,_,_] Z (yK (b:=decide ((turnsB a18 b18 x18)=(-2:Int))) Z (fun h35=>?_) (fun h35=>?_))))
  ·
   replace h35:=zW h35;refine zE (zB (zC 1 Z (zF Z (zY (cs:=#[i6_ a18.n,str a18.set,str a18.rel]) 1 Z zP Z Z zM) (zF Z (zY (cs:=#[i6_ b18.n,str b18.set,str b18.rel]) 0 Z zP Z Z zM) (zC 1 Z (zF (v:=i6_ (turnsB a18 b18 x18)) Z (qN Z Tryd.call21 Z qC (fun w1 hw1=>sTurns_ok a18 b18 x18 w1 hsa18 hsb18 loa18 hia18 lob18 hib18)) (zC 2 Z (zG (zD [2] [_] Z (qQ (qO Z Z fun w' hw=>?_)))))))))))
   exact ⟨ret_b (by first | rfl | (simp_all;done)),hw.below⟩
  replace h35:=zU h35
  obtain ⟨hVa,hVb,hq1,hq3⟩:=turnsB_ok (a:=a18) (b:=b18) (q:=x18) (by first | assumption | (simp_all;done))
  obtain ⟨k,rfl⟩:∃ k:Nat,x18=(k:Int):=⟨x18.toNat,by omega⟩
  have h1:1≤k:=by omega
  have h3:k≤3:=by omega
  have hT:=turnsB_has hVa hVb h1 h3;refine qT (zD [3,4,5,6] [_,_,_,_] Z (zE (zZ (yD (xs:=[]) (vs:=[]) qD Z Z Z Z Z Z (by decide) Z fun p42 hp42=>(qI 1 Z (zI (zD [3,4,5,6,7] [_,_,_,_,_] Z (zE (zE (zB (zC 1 Z (zG (zD [3,4,5,6,7,8] [_,_,_,_,_,_] Z (qJ (yR (σ:=Nat×Nat×Nat×Array Value) (fun ⟨j,g,c,cur⟩=>(j≤k)∧w.heap.size≤g∧cur.size=c*1∧(bes j).length≤c∧cur.toList.take ((bes j).length*1)=ints (bes j)) (fun ⟨j,g,c,cur⟩=>[(3,pt_ p3),(4,pt_ p4),(5,i6_ (k:Int)),(6,i6_ (turnsB a18 b18 (k:Int))),(7,sl_ g ((bes j).length) c),(8,i6_ (j:Int))]) (fun ⟨j,g,c,cur⟩=>Own w.heap.size w [bk_ g cur 3,bk_ p4 #[i6_ b18.n,str b18.set,str b18.rel] 24,bk_ p3 #[i6_ a18.n,str a18.set,str a18.rel] 24]) (fun ⟨j,g,c,cur⟩=>k - j) (0,p42,0,#[]) ⟨by omega,by omega,rfl,Nat.le_refl _,rfl⟩ (Sub.sel [3,4,5,6,7,8] Z) (fun _ h=>h) ?_)))))))))))))))
  rintro ⟨j,g,c,cur⟩ ⟨hk,hg,hc,hl,ht⟩
  dsimp only;refine zE (zE (zB (zC 3 Z (zG (zD [3,4,5,6,7,8,45] [_,_,_,_,_,_,_] Z (yK (b:=decide ((j:Int)<(k:Int))) Z (fun h45=>?_) (fun h45=>?_)))))))
  ·
   replace h45:=zW h45;refine qT (zD [3,4,5,6,7,8] [_,_,_,_,_,_] Z (zE (qJ (zZ (qI 1 Z (yD (xs:=[.const (i6_ (-1))]) (vs:=[i6_ (-1)]) qD Z Z Z Z Z Z (by decide) Z fun p49 hp49=>(yI (xs:=bes j) (ys:=[-1]) qD 1 Z Z Z Z Z Z Z hc hl (by simpa using ht) (fun w1 hw1=>(yC hw1 (i:=0) Z (n:=1) (cap:=1) (vs:=ints [-1]) Z Z (by decide))) (((bes j)++([-1])).length) (by first | (simp;done) | (simp;omega)) (by first | (simp;done) | (simp;omega) | omega) fun p50 cap50 cur50 hp50 hcp50 hlp50 htp50=>?_)))))))
   show Ll _ _ (Own _ _ [_,_,_,_]) _ _ ((50,sl_ p50 ((((bes j)++([-1])).length)) cap50)::_) _ _ _;refine qI 1 Z (zI (zD [3,4,5,6,7,8] [_,_,_,_,_,_] Z (zB (zC 1 Z (zF Z (qR Z Z Z (by omega) (by omega)) (zC 1 Z (zG (qX (j+1,p50,cap50,cur50) ⟨(by omega),(by omega),hcp50,(by rw [bes_snoc];exact hlp50),(by rw [bes_snoc];exact htp50)⟩ (by omega) (Sub.cons Z (Sub.cons Z (Sub.cons Z (Sub.cons Z (Sub.cons (by rw [bes_snoc];rfl) (Sub.sel [8] Z)))))) (fun _ h=>h.tail)))))))))
  replace h45:=zU h45
  obtain rfl:j=k:=by omega
  refine yN Z (zD [3,4,5,6,7] [_,_,_,_,_] Z (zE (zE (zB (zC 1 Z (zG (zD [3,4,5,6,7,9] [_,_,_,_,_,_] Z (qJ (yR (σ:=Nat) (fun m=>m≤5) (fun m=>[(3,pt_ p3),(4,pt_ p4),(5,i6_ (j:Int)),(6,i6_ (turnsB a18 b18 (j:Int))),(7,sl_ g ((bes j).length) c),(9,i6_ (m:Int))]) (fun m=>Own w.heap.size w [bk_ g cur 3,bk_ p4 #[i6_ b18.n,str b18.set,str b18.rel] 24,bk_ p3 #[i6_ a18.n,str a18.set,str a18.rel] 24]) (fun m=>5 - m) (0) (by omega) (Sub.sel [3,4,5,6,7,9] Z) (fun _ h=>h) ?_)))))))))
  rintro m hm5;refine zE (zE (zB (zC 2 Z (zG (zD [3,4,5,6,7,9,52] [_,_,_,_,_,_,_] Z (xI Z (fun h52=>?_) (fun h52=>?_)))))))
  ·
   refine qT (zD [3,4,5,6,7,9] [_,_,_,_,_,_] Z (zE (qJ (zE (zB (zF Z (zY (cs:=#[i6_ a18.n,str a18.set,str a18.rel]) 2 Z zP Z Z zM) (zC 1 Z (zF Z (zY (cs:=#[i6_ b18.n,str b18.set,str b18.rel]) 1 Z zP Z Z zM) (zC 2 Z (zF (v:=bo_ (pebWinB a18 (bes j) b18 (bes j) (m:Int))) Z (qN Z Tryd.call22 Z qC (fun w1 hw1=>iPWin_ok a18 b18 (bes j) (bes j) (sl_ g ((bes j).length) c) (sl_ g ((bes j).length) c) w1 hsa18 hsb18 (yC hw1 (i:=0) Z (by simpa using ht) (by simp) hl) (yC hw1 (i:=0) Z (by simpa using ht) (by simp) hl) (by first | (simp;done) | (simp;omega) | omega) (by first | (simp;done) | (simp;omega) | omega) (m:Int))) (zC 3 Z (yX fun b63 hg63=>?_))))))))))))
   cases b63
   ·
    replace hg63:=zU hg63;refine zC 4 Z (zF Z (OpQ.bne Z yU Z Z) (zG (zD [3,4,5,6,7,9,68] [_,_,_,_,_,_,_] Z (yK (b:=(pebWinB a18 (bes j) b18 (bes j) (m:Int)) != (decide ((m:Int)<(turnsB a18 b18 (j:Int))))) Z (fun h68=>?_) (fun h68=>?_)))))
    ·
     first | exact absurd h68 (by rw [turns_never_win hVa hVb h1 h3 hT (by assumption) (by omega) (by omega)];decide) | exact absurd h68 (by rw [turns_some_win hVa hVb h1 h3 hT (by assumption) (by omega) (by omega)];simp)
    refine qT (zD [3,4,5,6,7,9] [_,_,_,_,_,_] Z (zB (zC 1 Z (zF Z (qR Z Z Z (by omega) (by omega)) (zC 1 Z (zG (qX (m+1) (by omega) (by omega) (Sub.sel [3,4,5,6,7,9] Z) (fun _ h=>h))))))))
   replace hg63:=zW hg63;refine zK Z (zK Z (zK Z (zC 1 Z (zF Z (OpQ.bne Z yU Z Z) (zG (zD [3,4,5,6,7,9,68] [_,_,_,_,_,_,_] Z (yK (b:=(pebWinB a18 (bes j) b18 (bes j) (m:Int)) != true) Z (fun h68_1=>?_) (fun h68_1=>?_))))))))
   ·
    first | exact absurd h68_1 (by rw [turns_never_win hVa hVb h1 h3 hT (by assumption) (by omega) (by omega)];decide) | exact absurd h68_1 (by rw [turns_some_win hVa hVb h1 h3 hT (by assumption) (by omega) (by omega)];simp)
   refine qT (zD [3,4,5,6,7,9] [_,_,_,_,_,_] Z (zB (zC 1 Z (zF Z (qR Z Z Z (by omega) (by omega)) (zC 1 Z (zG (qX (m+1) (by omega) (by omega) (Sub.sel [3,4,5,6,7,9] Z) (fun _ h=>h))))))))
  refine yN Z (zD [3,4,5,6,7] [_,_,_,_,_] Z (zE (zZ (zT Z (zY (cs:=#[i6_ a18.n,str a18.set,str a18.rel]) 2 Z zP Z Z zM) (zT Z (zY (cs:=#[i6_ b18.n,str b18.set,str b18.rel]) 1 Z zP Z Z zM) (xM (ok:=fun ((v,y):Value×Bool)=>y=true→Shaped a18 b18) (v:=fun ((v,y):Value×Bool)=>.tuple #[v,bo_ y]) (xs:=[.tmp 70,.tmp 71]) (vs:=[vS a18,vS b18]) Z Z Z Z Tryd.call18 Z (fun w1 hw1=>(iShape_ok a18 b18 w1 hsa18 hsb18).mono fun en w' ⟨v,y,h1,h2,h3⟩=>⟨(v,y),h1,h2,h3⟩) fun ⟨v72,y72⟩ hS72=>?_))))))
  show Ll _ _ (Own _ _ [_,_,_]) _ _ ((72,.tuple #[v72,bo_ y72])::_) _ _ _
  have hshy72:=hS72;refine qI 1 Z (zT (v:=v72) Z (jB Z Z Z) (zT (v:=bo_ y72) Z (jB Z Z Z) (qI 2 Z (zI (zD [3,4,5,6,7,11] [_,_,_,_,_,_] Z (zE (zB (zF Z (zY (cs:=#[i6_ a18.n,str a18.set,str a18.rel]) 2 Z zP Z Z zM) (zF Z (zY (cs:=#[i6_ b18.n,str b18.set,str b18.rel]) 1 Z zP Z Z zM) (zC 1 Z (zF Z (jJ Z Z Z (by omega) (by omega)) (zF (v:=i6_ (turnsB a18 b18 ((j:Int) - (1:Int)))) Z (qN Z Tryd.call20 Z qC (fun w1 hw1=>iTurns_ok a18 b18 ((j:Int) - (1:Int)) w1 hsa18 hsb18)) (zC 1 Z (zG (zD [3,4,5,6,7,11,12] [_,_,_,_,_,_,_] Z (zE (zB (zF Z (zY (cs:=#[i6_ a18.n,str a18.set,str a18.rel]) 2 Z zP Z Z zM) (zC 1 Z (zF Z (zY (cs:=#[i6_ b18.n,str b18.set,str b18.rel]) 1 Z zP Z Z zM) (zC 1 Z (zF (v:=bo_ (pebEverB a18 (bes j) b18 (bes j))) Z (qN Z Tryd.call23 Z qC (fun w1 hw1=>iEver_ok a18 b18 (bes j) (bes j) (sl_ g ((bes j).length) c) (sl_ g ((bes j).length) c) w1 hsa18 hsb18 (yC hw1 (i:=0) Z (by simpa using ht) (by simp) hl) (yC hw1 (i:=0) Z (by simpa using ht) (by simp) hl) (by first | (simp;done) | (simp;omega) | omega) (by first | (simp;done) | (simp;omega) | omega))) (zC 2 Z (zF Z (OpQ.beq Z yU Z Z) (zC 1 Z (yX fun b88 hg88=>?_))))))))))))))))))))))))))
  cases b88
  ·
   exact absurd hg88 (by rw [turns_ever hVa hVb h1 h3 hT,beq_self_eq_true];decide)
  refine zC 3 Z (yX fun b91 hg91=>?_)
  cases b91
  ·
   replace hg91:=not_false hg91;refine zC 5 Z (yX fun b96 hg96=>?_)
   cases b96
   ·
    replace hg96:=zU hg96
    exact absurd (shaped_turns (hshy72 (by simp_all)) hT) hg96
   replace hg96:=zW hg96;refine zF Z (zY (cs:=#[i6_ b18.n,str b18.set,str b18.rel]) 1 Z zP Z Z zM) (zF Z (zY (cs:=#[i6_ a18.n,str a18.set,str a18.rel]) 2 Z zP Z Z zM) (zC 1 Z (zF (v:=i6_ (turnsB b18 a18 (j:Int))) Z (qN Z Tryd.call20 Z qC (fun w1 hw1=>iTurns_ok b18 a18 (j:Int) w1 hsb18 hsa18)) (zC 4 Z (yX fun b104 hg104=>?_)))))
   cases b104
   ·
    replace hg104:=zU hg104
    exact absurd (turnsB_swap hVa hVb h1 h3) hg104
   replace hg104:=zW hg104;refine zC 3 Z (yX fun b107 hg107=>?_)
   cases b107
   ·
    replace hg107:=zU hg107;refine zC 3 Z (yX fun b110 hg110=>?_)
    cases b110
    ·
     replace hg110:=zU hg110
     exact absurd (turnsB_fewer hVa hVb h1 h3 (by assumption)).1 hg110
    replace hg110:=zW hg110;refine zC 7 Z (zG (zD [2] [_] Z (qQ (qO Z Z fun w' hw=>?_))))
    exact ⟨ret_b (decide_eq_true (turnsB_fewer hVa hVb h1 h3 (by assumption)).2),hw.below⟩
   replace hg107:=zW hg107;refine zK Z (zK Z (zK Z (zK Z (zK Z (zK Z (zK Z (zC 3 Z (zG (zD [2] [_] Z (qQ (qO Z Z fun w' hw=>?_)))))))))))
   exact ⟨ret_b (by first | rfl | (simp_all;done)),hw.below⟩
  replace hg91:=not_true hg91;refine zK Z (zK Z (zC 3 Z (zF Z (zY (cs:=#[i6_ b18.n,str b18.set,str b18.rel]) 1 Z zP Z Z zM) (zF Z (zY (cs:=#[i6_ a18.n,str a18.set,str a18.rel]) 2 Z zP Z Z zM) (zC 1 Z (zF (v:=i6_ (turnsB b18 a18 (j:Int))) Z (qN Z Tryd.call20 Z qC (fun w1 hw1=>iTurns_ok b18 a18 (j:Int) w1 hsb18 hsa18)) (zC 4 Z (yX fun b104 hg104_1=>?_))))))))
  cases b104
  ·
   replace hg104_1:=zU hg104_1
   exact absurd (turnsB_swap hVa hVb h1 h3) hg104_1
  replace hg104_1:=zW hg104_1;refine zC 3 Z (yX fun b107 hg107_1=>?_)
  cases b107
  ·
   replace hg107_1:=zU hg107_1;refine zC 3 Z (yX fun b110 hg110_1=>?_)
   cases b110
   ·
    replace hg110_1:=zU hg110_1
    exact absurd (turnsB_fewer hVa hVb h1 h3 (by assumption)).1 hg110_1
   replace hg110_1:=zW hg110_1;refine zC 7 Z (zG (zD [2] [_] Z (qQ (qO Z Z fun w' hw=>?_))))
   exact ⟨ret_b (decide_eq_true (turnsB_fewer hVa hVb h1 h3 (by assumption)).2),hw.below⟩
  replace hg107_1:=zW hg107_1;refine zK Z (zK Z (zK Z (zK Z (zK Z (zK Z (zK Z (zC 3 Z (zG (zD [2] [_] Z (qQ (qO Z Z fun w' hw=>?_)))))))))))
  exact ⟨ret_b (by first | rfl | (simp_all;done)),hw.below⟩
 replace hg32:=not_true hg32
 replace hg32:=zU hg32
 exact absurd rfl hg32
end Go.Proofs.YtagbocafnliabaaDoor
namespace Go.Proofs.YtagbocafnliabaaDoor
open Go.ChangeShapes Go.WideShapes Go.ChangeAt Go.RowKit Go.Wk
namespace FnTurnsToWin
def W0:Array Value:=#[.slice none 0 0]
set_option maxRecDepth 100000 in
theorem contract (H:Type) (enc:TypeId×Value→H) (W:World) (base:Nat) (args:Array Value) (ds gs:List (DataW H)) (before:List MemPlace)
  (hval:∀ (j:Nat) t v,Tryd.f5.params[j]?=some t→args[j]?=some v→Value.okWide Tryd.prog W .any base t v)
  (hW:DataW.Whole enc Tryd.prog Tryd.f5.params.toList Rows.fnTurnsToWinSpec.vars false W args.toList ds gs before) :
  Calls Tryd.prog 5 args W fun e W'=>∃ v,e=.returned v∧Rows.fnTurnsToWinSpec.post enc Tryd.prog Tryd.f5 false true false false W args v W':=by
 have hW':=hW
 obtain ⟨p,q,hA0,hV,rfl,hfz,hnd⟩:=hW
 have hA:DataW.TrodAll enc Tryd.prog W 0 (fun _=>true) true Tryd.f5.params.toList args.toList ds p:=hA0
 rw [Tryd.params5] at hA hval
 obtain ⟨v0,vs0,d0,ds0,p0,q0,hargs0,rfl,rfl,h0,r0⟩:=trodAll_cons hA
 obtain ⟨rfl,rfl,rfl⟩:=trodAll_nil r0
 obtain rfl:args=#[v0]:=by cases args;simp_all
 obtain ⟨l0,row0,eight0,len0⟩:=open_B Tryd.underlying22 Tryd.underlying5 (by kernel_rfl) (hval 0 22 v0 rfl rfl) h0
 have walk:Calls Tryd.prog 5 #[v0] W fun e w'=>e=.returned (.bool true)∧Below W.heap.size W w':=by
  exact lawFnTurns v0 l0 W row0 eight0 len0
 refine walk.mono fun e W' ⟨he,hb⟩=>⟨_,he,?_⟩
 exact post_true laidOut (by rw [Tryd.params5];intro t ht;simp only [List.mem_cons,List.not_mem_nil,or_false] at ht;rcases ht with rfl <;> exact ⟨by kernel_rfl,of_decide_eq_true (by kernel_rfl)⟩) rfl hW' rfl (by kernel_rfl) Tryd.underlying4 hb
theorem reads (os:Os) {H:Type} (enc:TypeId×Value→H):∃ places,DataW.whole enc Tryd.prog ((laidWorld os).forCall (fun _ _=>0) ⟨#[],W0,[]⟩).memory Tryd.f5.params.toList Rows.fnTurnsToWinSpec.vars false W0.toList 8=some ([.nil],[],places) :=
 ⟨[],by kernel_rfl⟩
set_option maxRecDepth 100000 in
theorem lifted (os:Os) (started:os.Started) (H:Type) (enc:TypeId×Value→H) (F:Stop.Interp) :
    ReturnsInHanded {} Tryd.checked os 5 .any ((OpenSpec.ofChange Rows.fnTurnsToWinSpec).preRow enc Tryd.prog Tryd.f5 Rows.fnTurnsToWinRow.domain false Rows.fnTurnsToWinRow.laid) (((OpenSpec.ofChange Rows.fnTurnsToWinSpec).at F).post enc Tryd.prog Tryd.f5 false true false false):=by
  obtain ⟨places,hx⟩:=reads os enc
  refine returnsInHanded_of_row (C:=Tryd.checked) (s:=OpenSpec.ofChange Rows.fnTurnsToWinSpec) own started (by kernel_rfl) Tryd.func5
    (witness_row_at (enc:=enc) (C:=Tryd.checked) false (laidWorld os) W0 rfl (by kernel_rfl) (by kernel_rfl) (by kernel_rfl)
      (OpenSpec.preRow_of_cond 8 hx (by kernel_rfl) (fun k hk=>by cases hk) (by kernel_rfl) (laid_met os W0))) ?_
  intro W base args ds gs before hval hW _ _ _ hL _ _
  exact contract H enc W base args ds gs before hval hW
theorem k0:(Rows.fnTurnsToWinRow.wf (OpenSpec.ofChange (OpenSpec.ofChange Rows.fnTurnsToWinSpec).bare))=true:=by kernel_rfl
theorem k3:(Tryd.f5.params.all (Tryd.pinned.checked.prog.readableRec ·))=true:=by kernel_rfl
theorem k4:(namedTie Tryd.pinned.checked.prog Rows.fnTurnsToWinRow.named (OpenSpec.ofChange Rows.fnTurnsToWinSpec).bare.vars)=true:=by kernel_rfl
theorem k9:((Rows.fnTurnsToWinRow.inPlace==Tryd.pinned.checked.prog.inPlace 5))=true:=by kernel_rfl
theorem k10:((Rows.fnTurnsToWinRow.unfollowed==Tryd.pinned.checked.prog.unfollowed 5))=true:=by kernel_rfl
theorem k11:((Rows.fnTurnsToWinRow.recurses==Tryd.pinned.checked.prog.recurses 5))=true:=by kernel_rfl
theorem k12:((Rows.fnTurnsToWinRow.named==Tryd.pinned.checked.prog.varsNamed 5))=true:=by kernel_rfl
theorem k13:((Rows.fnTurnsToWinRow.maps==(Tryd.f5.params.toList++(OpenSpec.ofChange Rows.fnTurnsToWinSpec).bare.plain.varTypes Tryd.pinned.checked.prog).any (Tryd.pinned.checked.prog.mapsRec ·)))=true:=by kernel_rfl
theorem k14:((Rows.fnTurnsToWinRow.ifaces==(Tryd.f5.params.toList++(OpenSpec.ofChange Rows.fnTurnsToWinSpec).bare.plain.varTypes Tryd.pinned.checked.prog).any (Tryd.pinned.checked.prog.ifacesRec ·)))=true:=by kernel_rfl
theorem k15:((Rows.fnTurnsToWinRow.mapsOut==Tryd.pinned.checked.prog.mapsAmong Tryd.f5.resultTypes.toList))=true:=by kernel_rfl
theorem k16:((Rows.fnTurnsToWinRow.loops==(Tryd.f5.params.toList++(OpenSpec.ofChange Rows.fnTurnsToWinSpec).bare.plain.varTypes Tryd.pinned.checked.prog).any (Tryd.pinned.checked.prog.loopsFrom ·)))=true:=by kernel_rfl
theorem k17:((Rows.fnTurnsToWinRow.wideKeys==(Tryd.f5.params.toList++(OpenSpec.ofChange Rows.fnTurnsToWinSpec).bare.plain.varTypes Tryd.pinned.checked.prog++Tryd.f5.resultTypes.toList).any (Tryd.pinned.checked.prog.wideKeysFrom ·)))=true:=by kernel_rfl
theorem k19:(Tryd.f5.resultTypes.all (fun t=>Tryd.pinned.checked.prog.readableRec t&&decide (t<Tryd.pinned.checked.prog.types.size)))=true:=by kernel_rfl
theorem k20:((Rows.fnTurnsToWinRow.ifacesOut==Tryd.f5.resultTypes.toList.any (Tryd.pinned.checked.prog.ifacesRec ·)))=true:=by kernel_rfl
theorem k21:((Rows.fnTurnsToWinRow.loopsOut==Tryd.f5.resultTypes.toList.any (Tryd.pinned.checked.prog.loopsFrom ·)))=true:=by kernel_rfl
theorem k30:((Rows.fnTurnsToWinRow.veiled==(Tryd.f5.params.toList++(OpenSpec.ofChange Rows.fnTurnsToWinSpec).bare.plain.varTypes Tryd.pinned.checked.prog++Tryd.f5.resultTypes.toList).any (Tryd.pinned.checked.prog.veiledRec ·)))=true:=by kernel_rfl
theorem k31:(Rows.fnTurnsToWinRow.veiledFits Tryd.pinned.checked.prog Tryd.f5.params.toList (Tryd.f5.params.toList++(OpenSpec.ofChange Rows.fnTurnsToWinSpec).bare.plain.varTypes Tryd.pinned.checked.prog++Tryd.f5.resultTypes.toList))=true:=by kernel_rfl
theorem closed:joinedFacts Tryd.pinned.checked.prog 5 Tryd.f5 (OpenSpec.ofChange Rows.fnTurnsToWinSpec).bare Rows.fnTurnsToWinRow=true :=
 facts_of k0 Laid1 Laid2 k3 k4 (by kernel_rfl) Laid6 (by kernel_rfl) Laid8 k9 k10 k11 k12 k13 k14 k15 k16 k17 (by kernel_rfl) k19 k20 k21 Laid22 (by kernel_rfl) Laid24 Laid25 Laid26 Laid27 (by kernel_rfl) (by kernel_rfl) k30 k31
theorem said:Rows.FnTurnsToWinSaid :=
  OpenClaim.holds_of_cond 5 Tryd.f5 rfl rfl rfl rfl rfl rfl rfl ⟨rfl,rfl,rfl,rfl,rfl⟩ rfl rfl rfl rfl rfl (by kernel_rfl) Tryd.func5 closed
    (of_decide_eq_true (by kernel_rfl)) (by unfold Func.isWrapper;first | (rw [if_pos (by decide +kernel)];kernel_rfl) | (rw [if_neg (by decide +kernel)];exact ⟨rfl,rfl⟩))
    (fun os started H enc _ F=>by rw [OpenClaim.pre_eq_preRow];exact lifted os started H enc F)
theorem plain (f:FuncId) (fn:Func) (hf:Tryd.pinned.checked.prog.funcNamed Rows.fnTurnsToWinRow.func=some f) (hfn:Tryd.pinned.checked.prog.funcs[f]?=some fn) :
  false=Tryd.pinned.checked.prog.looks []∧∀ (j:Nat) t,fn.params[j]?=some t→Tryd.pinned.checked.prog.wantsStandIn t=false:=by
 obtain rfl:f=5:=Option.some.inj ((show Tryd.pinned.checked.prog.funcNamed Rows.fnTurnsToWinRow.func=some 5 by kernel_rfl).symm.trans hf) |>.symm
 obtain rfl:fn=Tryd.f5:=(Option.some.inj (Tryd.func5.symm.trans hfn)).symm
 refine ⟨by kernel_rfl,fun j t ht=>?_⟩
 rw [Tryd.params5] at ht
 have hm:t∈[22]:=by simpa using Array.mem_of_getElem? ht
 simp only [List.mem_cons,List.not_mem_nil,or_false] at hm
 rcases hm with rfl <;> (show Tryd.prog.wantsStandIn _=false) <;> kernel_rfl
theorem hw:Rows.fnTurnsToWinRow.wfByText (OpenSpec.ofChange Rows.fnTurnsToWinSpec)=true:=by kernel_rfl
theorem hm:Tryd.pinned.checked.prog.mainIs=some (Rows.fnTurnsToWinCard.stood.harness.1,Rows.fnTurnsToWinCard.stood.harness.2.toList):=by kernel_rfl
theorem hg:false=Rows.fnTurnsToWinRow.goesBy Tryd.pinned.checked.prog:=by kernel_rfl
end FnTurnsToWin
theorem cardFnTurnsToWin:Rows.FnTurnsToWinCardSaid :=
 Claim7.holds_tied_plain_at .later [] _ _ _ _ FnTurnsToWin.said (fun _ h=>by cases h) FnTurnsToWin.hw (fun _ h=>by cases h) fnTurnsToWin_row_tie rfl ⟨rfl,rfl⟩ FnTurnsToWin.hm rfl FnTurnsToWin.plain FnTurnsToWin.hg
end Go.Proofs.YtagbocafnliabaaDoor
