/-
  FnDefinedSet: all that its proof names (part 3)
-/
import Derived.Test.YtagbocafnliabaaDoorKFnDefinedSetb
import Derived.Test.YtagbocafnliabaaDoorKFnDefinedSeta
import Derived.Shelf.Small.Strs
import Derived.Shelf.Strings.Search3
import Derived.Test.YtagbocafnliabaaDoorProg
namespace Go.Proofs.YtagbocafnliabaaDoor
open Go.RowKit Go.Wk
set_option linter.unusedSimpArgs false
set_option maxHeartbeats 400000 in
theorem l1Draw_ok (B:Nat) (w0:World) (hs:List (Nat×Obj)) (rp p:Nat) (bv:Value) (L:List Int) (n:Int) (w:World) (hb:∀ w,Own B w0 hs w→Row w bv (u8s L)) (hL8:Bytes8 L) (hL:L.length≤2000) (hn0:0≤n) (hn8:n≤8) (hp:p≤900000) (hw:Own B w0 ((rp,.cells #[bv,.int .i64 (p:Int)] 104 (0,0))::hs) w) :
    Calls Tryd.prog 114 [pt_ rp,i6_ n].toArray w fun en w'=>∃ a:St,∃ p':Nat,en=.returned (vS a)∧((a.n=n∧(a.set.length:Int)=n∧a.rel.length=n.toNat*n.toNat)∧p'≤p+100)∧Own B w0 (((rp,.cells #[bv,.int .i64 (p':Int)] 104 (0,0))::hs)) w':=by
 refine fnStartC (Own B w0 ((rp,.cells #[bv,.int .i64 (p:Int)] 104 (0,0))::hs)) (n:=111) (e:=[(0,pt_ rp),(1,i6_ n)]) Tryd.func114 Z Z Z Z Ends.both hw (zE (qF (vL Z Z Z Z jE fun p4 hp4=>?_)))
 show Ll _ _ (Own _ _ (bk_ p4 #[i6_ 0,str ([]),str ([])] 24::_::hs)) _ _ ((4,pt_ p4)::_) _ _ _;refine zL (zD [0,1,4] [_,_,_] Z (zE (qF (qI 1 Z (zM (v:=.agg #[i6_ n,str ([]),str ([])]) Z (OpQ.build (xs:=[.tmp 10]) (vs:=[i6_ n]) Z Z (by kernel_rfl)) (vL Z Z Z Z jE fun p5 hp5=>?_))))))
 show Ll _ _ (Own _ _ (bk_ p5 #[i6_ 0,str ([]),str ([])] 24::_::_::hs)) _ _ ((5,pt_ p5)::_) _ _ _;refine jJ (cs':=#[i6_ n,str ([]),str ([])]) (hs':=(bk_ p5 #[i6_ n,str ([]),str ([])] 24::_::_::hs)) 0 Z Z Z Z Z (by kernel_rfl:_=some Tryd.t24) Z Z Z Z Z (zL (zD [0,1,4,5] [_,_,_,_] Z (zE (qF (qI 1 Z (yI (rp:=rp) (RT:=104) (p:=p) (bv:=bv) (hs:=hs) (ok:=fun (k:Int) p'=>0≤k∧(1≤(8:Int)→k<8)∧p'=p+1) (v:=fun (k:Int)=>i6_ k) (new:=fun (k:Int)=>[]) (xs:=[.tmp 12,.const (i6_ 8)]) (vs:=[pt_ rp,i6_ 8]) ([bk_ p5 #[i6_ n,str ([]),str ([])] 24,bk_ p4 #[i6_ 0,str ([]),str ([])] 24]:List (Nat×Obj)) Z Z Z Z xS Z (fun w1 hw1=>(pick_ok B w0 (([bk_ p5 #[i6_ n,str ([]),str ([])] 24,bk_ p4 #[i6_ 0,str ([]),str ([])] 24]:List (Nat×Obj))++hs) rp p bv L 8 w1 (fun w2 hw2=>hb w2 (qA (f:=([bk_ p5 #[i6_ n,str ([]),str ([])] 24,bk_ p4 #[i6_ 0,str ([]),str ([])] 24]:List (Nat×Obj))) hw2)) hL8 hL (by omega) hw1).mono fun en w' ⟨k',p',h1,h2,h3⟩=>⟨k',p',h1,h2,h3⟩) fun k13 p_13 hKp_13=>?_))))))
 show Ll _ _ (Own _ _ (_::_::_::hs)) _ _ ((13,i6_ k13)::_) _ _ _
 obtain ⟨h0k13,h1k13,hep_13⟩:=hKp_13
 try have hltk13:=h1k13 (by first | omega | (split <;> omega) | decide);refine qI 1 Z (zL (zD [0,1,4,5,6] [_,_,_,_,_] Z (zE (zE (zB (zC 1 Z (zI (zD [0,1,4,5,6,7] [_,_,_,_,_,_] Z (qZ (jH (σ:=Nat×List UInt8×List UInt8×Nat) (fun ⟨k,S,R,p0⟩=>(k:Int)≤n∧S.length=k∧R.length=k*n.toNat∧p0≤p+2+k*9) (fun ⟨k,S,R,p0⟩=>[(0,pt_ rp),(1,i6_ n),(4,pt_ p4),(5,pt_ p5),(6,i6_ k13),(7,i6_ (k:Int))]) (fun ⟨k,S,R,p0⟩=>Own B w0 (bk_ p5 #[i6_ n,str S,str R] 24::bk_ p4 #[i6_ 0,str ([]),str ([])] 24::bk_ rp #[bv,i6_ (p0:Int)] 104::hs)) (fun ⟨k,S,R,p0⟩=>(n - k).toNat) (0,[],[],p_13) ⟨by omega,rfl,by simp,by omega⟩ (Sub.sel [0,1,4,5,6,7] Z) (fun _ h=>h) ?_))))))))))
 rintro ⟨k,S,R,p0⟩ ⟨hk,hS,hR,hp0⟩
 dsimp only
 have hkn:k*n.toNat≤8*8:=Nat.mul_le_mul (by omega) (by omega);refine zE (zE (zB (zC 3 Z (zI (zD [0,1,4,5,6,7,16] [_,_,_,_,_,_,_] Z (yE Z (fun h16=>?_) (fun h16=>?_)))))))
 ·
  refine qN (zD [0,1,4,5,6,7] [_,_,_,_,_,_] Z (zE (qZ (zE (jA (σ:=List UInt8×Nat) (fun ⟨S2,p2⟩=>S2.length=k+1∧p2≤p0+1) (fun ⟨S2,p2⟩=>[(0,pt_ rp),(1,i6_ n),(4,pt_ p4),(5,pt_ p5),(6,i6_ k13),(7,i6_ (k:Int))]) (fun ⟨S2,p2⟩=>Own B w0 (bk_ p5 #[i6_ n,str S2,str R] 24::bk_ p4 #[i6_ 0,str ([]),str ([])] 24::bk_ rp #[bv,i6_ (p2:Int)] 104::hs)) ?_ ?_)))))
  ·
   refine jM (S:=Own B w0 [bk_ p4 #[i6_ 0,str ([]),str ([])] 24]) (.take 0 (.take 2 (.take 3 (.take 4 (.take 5 (.two 1 (.one 6 (.take 7 (.take 8 (.one 9 (.take 10 (.take 11 (.one 12 .done))))))) 6 (.take 7 (.take 8 (.two 1 (.one 9 (.take 10 (.take 11 (.one 12 .done)))) 9 (.one 1 (.take 10 (.take 11 (.one 12 .done))))))))))))) yH (fun _ h=>h.drawn) (by kernel_rfl) (zV Z Z Z Z Z (zH Z qC Z qY Z Z) (pk [1] Z Z) (vM 3 Z (pk [1] Z Z) (Lu.bool fun b23 hg23=>?_)))
   cases b23
   ·
    replace hg23:=zS hg23;refine Lu.pass Z Z Z Z (pk [1] Z Z) (yX Z Z ?_ ?_)
    ·
     refine zM Z (zQ 0 Z yQ Z Z Z) (zL (zK (pk [1] Z Z) ?_));refine zX Z (jL Z (zL (zK (pk [1] Z Z) ?_)));refine Lu.pass Z Z Z Z (pk [1] Z Z) (vM 1 Z (pk [1] Z Z) (zX Z (zM (v:=str (if false then [49] else [48])) Z (qR Z vP Z qG (fun w1 hw1=>bitD_ok false w1 )) (zL (zK (pk [1] Z Z) ?_)))));refine zV Z Z Z Z Z (yL Z Z Z (by first | (rw [bit_len];omega) | omega)) (pk [1] Z Z) (zV Z Z Z Z Z (zH Z qC Z qY Z Z) (pk [1] Z Z) (zX Z (qM (v:=str (S++(if false then [49] else [48]))) (hs':=(bk_ p5 #[i6_ n,str (S++(if false then [49] else [48])),str R] 24::_::_::hs)) 0 Z Z Z Z Z Z qY Z (by simp) Z (zL (zK (pk [1] Z Z) ?_)))));refine yM (qJ (S++(if false then [49] else [48]),p0) ⟨by (try dsimp only);rw [zP];first | (rw [bit_len];omega) | (simp;omega),by (try dsimp only);omega⟩ (Sub.sel [0,1,4,5,6,7] Z) (fun _ h=>h))
    refine jL Z (zL (zK (pk [1] Z Z) ?_));refine Lu.pass Z Z Z Z (pk [1] Z Z) (vM 1 Z (pk [1] Z Z) (yX Z Z ?_ ?_))
    ·
     refine zM Z (zQ 0 Z yQ Z Z Z) (zL (zK (pk [1] Z Z) ?_));refine zX Z (zM (v:=str (if false then [49] else [48])) Z (qR Z vP Z qG (fun w1 hw1=>bitD_ok false w1 )) (zL (zK (pk [1] Z Z) ?_)));refine zV Z Z Z Z Z (yL Z Z Z (by first | (rw [bit_len];omega) | omega)) (pk [1] Z Z) (zV Z Z Z Z Z (zH Z qC Z qY Z Z) (pk [1] Z Z) (zX Z (qM (v:=str (S++(if false then [49] else [48]))) (hs':=(bk_ p5 #[i6_ n,str (S++(if false then [49] else [48])),str R] 24::_::_::hs)) 0 Z Z Z Z Z Z qY Z (by simp) Z (zL (zK (pk [1] Z Z) ?_)))));refine yM (qJ (S++(if false then [49] else [48]),p0) ⟨by (try dsimp only);rw [zP];first | (rw [bit_len];omega) | (simp;omega),by (try dsimp only);omega⟩ (Sub.sel [0,1,4,5,6,7] Z) (fun _ h=>h))
    refine zM (v:=str (if false then [49] else [48])) Z (qR Z vP Z qG (fun w1 hw1=>bitD_ok false w1 )) (zL (zK (pk [1] Z Z) ?_));refine zX Z (zM Z (zQ 0 Z yQ Z Z Z) (zL (zK (pk [1] Z Z) ?_)));refine zV Z Z Z Z Z (yL Z Z Z (by first | (rw [bit_len];omega) | omega)) (pk [1] Z Z) (zV Z Z Z Z Z (zH Z qC Z qY Z Z) (pk [1] Z Z) (zX Z (qM (v:=str (S++(if false then [49] else [48]))) (hs':=(bk_ p5 #[i6_ n,str (S++(if false then [49] else [48])),str R] 24::_::_::hs)) 0 Z Z Z Z Z Z qY Z (by simp) Z (zL (zK (pk [1] Z Z) ?_)))));refine yM (qJ (S++(if false then [49] else [48]),p0) ⟨by (try dsimp only);rw [zP];first | (rw [bit_len];omega) | (simp;omega),by (try dsimp only);omega⟩ (Sub.sel [0,1,4,5,6,7] Z) (fun _ h=>h))
   replace hg23:=zW hg23;refine vM 1 Z (pk [1] Z Z) (yX Z Z ?_ ?_)
   ·
    refine zM Z (zQ 0 Z yQ Z Z Z) (zL (zK (pk [1] Z Z) ?_));refine zX Z (yI (rp:=rp) (RT:=104) (p:=p0) (bv:=bv) (hs:=hs) (ok:=fun (k:Int) p'=>0≤k∧(1≤(3:Int)→k<3)∧p'=p0+1) (v:=fun (k:Int)=>i6_ k) (new:=fun (k:Int)=>[]) (xs:=[.tmp 24,.const (i6_ 3)]) (vs:=[pt_ rp,i6_ 3]) ([bk_ p5 #[i6_ n,str S,str R] 24,bk_ p4 #[i6_ 0,str ([]),str ([])] 24]:List (Nat×Obj)) Z Z Z Z xS Z (fun w1 hw1=>(pick_ok B w0 (([bk_ p5 #[i6_ n,str S,str R] 24,bk_ p4 #[i6_ 0,str ([]),str ([])] 24]:List (Nat×Obj))++hs) rp p0 bv L 3 w1 (fun w2 hw2=>hb w2 (qA (f:=([bk_ p5 #[i6_ n,str S,str R] 24,bk_ p4 #[i6_ 0,str ([]),str ([])] 24]:List (Nat×Obj))) hw2)) hL8 hL (by omega) hw1).mono fun en w' ⟨k',p',h1,h2,h3⟩=>⟨k',p',h1,h2,h3⟩) fun k25 p_25 hKp_25=>?_)
    show Ll _ _ (Own _ _ (_::_::_::hs)) _ _ ((25,i6_ k25)::_) _ _ _
    obtain ⟨h0k25,h1k25,hep_25⟩:=hKp_25
    try have hltk25:=h1k25 (by first | omega | (split <;> omega) | decide);refine zL (zK (pk [1] Z Z) ?_);refine vM 2 Z (pk [1] Z Z) (zX Z (zM (v:=str ((if decide (k25=(0:Int)) then [49] else [48]))) Z (qR Z vP Z qG (fun w1 hw1=>bitD_ok (decide (k25=(0:Int))) w1 )) (zL (zK (pk [1] Z Z) ?_))));refine zV Z Z Z Z Z (yL Z Z Z (by first | (rw [bit_len];omega) | omega)) (pk [1] Z Z) (zV Z Z Z Z Z (zH Z qC Z qY Z Z) (pk [1] Z Z) (zX Z (qM (v:=str (S++((if decide (k25=(0:Int)) then [49] else [48])))) (hs':=(bk_ p5 #[i6_ n,str (S++((if decide (k25=(0:Int)) then [49] else [48]))),str R] 24::_::_::hs)) 0 Z Z Z Z Z Z qY Z (by simp) Z (zL (zK (pk [1] Z Z) ?_)))));refine yM (qJ ((S++((if decide (k25=(0:Int)) then [49] else [48])),p_25)) ⟨by (try dsimp only);rw [zP];first | (rw [bit_len];omega) | (simp;omega),by (try dsimp only);omega⟩ (Sub.sel [0,1,4,5,6,7] Z) (fun _ h=>h))
   refine yI (rp:=rp) (RT:=104) (p:=p0) (bv:=bv) (hs:=hs) (ok:=fun (k:Int) p'=>0≤k∧(1≤(3:Int)→k<3)∧p'=p0+1) (v:=fun (k:Int)=>i6_ k) (new:=fun (k:Int)=>[]) (xs:=[.tmp 24,.const (i6_ 3)]) (vs:=[pt_ rp,i6_ 3]) ([bk_ p5 #[i6_ n,str S,str R] 24,bk_ p4 #[i6_ 0,str ([]),str ([])] 24]:List (Nat×Obj)) Z Z Z Z xS Z (fun w1 hw1=>(pick_ok B w0 (([bk_ p5 #[i6_ n,str S,str R] 24,bk_ p4 #[i6_ 0,str ([]),str ([])] 24]:List (Nat×Obj))++hs) rp p0 bv L 3 w1 (fun w2 hw2=>hb w2 (qA (f:=([bk_ p5 #[i6_ n,str S,str R] 24,bk_ p4 #[i6_ 0,str ([]),str ([])] 24]:List (Nat×Obj))) hw2)) hL8 hL (by omega) hw1).mono fun en w' ⟨k',p',h1,h2,h3⟩=>⟨k',p',h1,h2,h3⟩) fun k25_1 p_25_1 hKp_25_1=>?_
   show Ll _ _ (Own _ _ (_::_::_::hs)) _ _ ((25,i6_ k25_1)::_) _ _ _
   obtain ⟨h0k25_1,h1k25_1,hep_25_1⟩:=hKp_25_1
   try have hltk25_1:=h1k25_1 (by first | omega | (split <;> omega) | decide);refine zL (zK (pk [1] Z Z) ?_);refine vM 2 Z (pk [1] Z Z) (yX Z Z ?_ ?_)
   ·
    refine zM Z (zQ 0 Z yQ Z Z Z) (zL (zK (pk [1] Z Z) ?_));refine zX Z (zM (v:=str ((if decide (k25_1=(0:Int)) then [49] else [48]))) Z (qR Z vP Z qG (fun w1 hw1=>bitD_ok (decide (k25_1=(0:Int))) w1 )) (zL (zK (pk [1] Z Z) ?_)));refine zV Z Z Z Z Z (yL Z Z Z (by first | (rw [bit_len];omega) | omega)) (pk [1] Z Z) (zV Z Z Z Z Z (zH Z qC Z qY Z Z) (pk [1] Z Z) (zX Z (qM (v:=str (S++((if decide (k25_1=(0:Int)) then [49] else [48])))) (hs':=(bk_ p5 #[i6_ n,str (S++((if decide (k25_1=(0:Int)) then [49] else [48]))),str R] 24::_::_::hs)) 0 Z Z Z Z Z Z qY Z (by simp) Z (zL (zK (pk [1] Z Z) ?_)))));refine yM (qJ ((S++((if decide (k25_1=(0:Int)) then [49] else [48])),p_25_1)) ⟨by (try dsimp only);rw [zP];first | (rw [bit_len];omega) | (simp;omega),by (try dsimp only);omega⟩ (Sub.sel [0,1,4,5,6,7] Z) (fun _ h=>h))
   refine zM (v:=str ((if decide (k25_1=(0:Int)) then [49] else [48]))) Z (qR Z vP Z qG (fun w1 hw1=>bitD_ok (decide (k25_1=(0:Int))) w1 )) (zL (zK (pk [1] Z Z) ?_));refine zX Z (zM Z (zQ 0 Z yQ Z Z Z) (zL (zK (pk [1] Z Z) ?_)));refine zV Z Z Z Z Z (yL Z Z Z (by first | (rw [bit_len];omega) | omega)) (pk [1] Z Z) (zV Z Z Z Z Z (zH Z qC Z qY Z Z) (pk [1] Z Z) (zX Z (qM (v:=str (S++((if decide (k25_1=(0:Int)) then [49] else [48])))) (hs':=(bk_ p5 #[i6_ n,str (S++((if decide (k25_1=(0:Int)) then [49] else [48]))),str R] 24::_::_::hs)) 0 Z Z Z Z Z Z qY Z (by simp) Z (zL (zK (pk [1] Z Z) ?_)))));refine yM (qJ ((S++((if decide (k25_1=(0:Int)) then [49] else [48])),p_25_1)) ⟨by (try dsimp only);rw [zP];first | (rw [bit_len];omega) | (simp;omega),by (try dsimp only);omega⟩ (Sub.sel [0,1,4,5,6,7] Z) (fun _ h=>h))
  rintro ⟨S2,p2⟩ ⟨hS2,hp2⟩
  dsimp only;refine zD [0,1,4,5,6,7] [_,_,_,_,_,_] Z (zE (zB (zC 1 Z (zI (zD [0,1,4,5,6,7,8] [_,_,_,_,_,_,_] Z (qZ (jH (σ:=Nat×List UInt8×Nat) (fun ⟨j,R1,p1⟩=>(j:Int)≤n∧R1.length=k*n.toNat+j∧p1≤p+3+k*9+j) (fun ⟨j,R1,p1⟩=>[(0,pt_ rp),(1,i6_ n),(4,pt_ p4),(5,pt_ p5),(6,i6_ k13),(7,i6_ (k:Int)),(8,i6_ (j:Int))]) (fun ⟨j,R1,p1⟩=>Own B w0 (bk_ p5 #[i6_ n,str S2,str R1] 24::bk_ p4 #[i6_ 0,str ([]),str ([])] 24::bk_ rp #[bv,i6_ (p1:Int)] 104::hs)) (fun ⟨j,R1,p1⟩=>(n - j).toNat) (0,R,p2) ⟨by omega,by omega,by omega⟩ (Sub.sel [0,1,4,5,6,7,8] Z) (fun _ h=>h) ?_)))))))
  rintro ⟨j,R1,p1⟩ ⟨hj,hR1,hp1⟩
  dsimp only
  have hj8:j≤8:=by omega
  refine zE (zE (zB (zC 3 Z (zI (zD [0,1,4,5,6,7,8,33] [_,_,_,_,_,_,_,_] Z (yE Z (fun h33=>?_) (fun h33=>?_)))))))
  ·
   refine qN (zD [0,1,4,5,6,7,8] [_,_,_,_,_,_,_] Z (zE (qZ (zE (qF (qI 1 Z (yI (rp:=rp) (RT:=104) (p:=p1) (bv:=bv) (hs:=hs) (ok:=fun (k:Int) p'=>0≤k∧(1≤(3:Int)→k<3)∧p'=p1+1) (v:=fun (k:Int)=>i6_ k) (new:=fun (k:Int)=>[]) (xs:=[.tmp 36,.const (i6_ 3)]) (vs:=[pt_ rp,i6_ 3]) ([bk_ p5 #[i6_ n,str S2,str R1] 24,bk_ p4 #[i6_ 0,str ([]),str ([])] 24]:List (Nat×Obj)) Z Z Z Z xS Z (fun w1 hw1=>(pick_ok B w0 (([bk_ p5 #[i6_ n,str S2,str R1] 24,bk_ p4 #[i6_ 0,str ([]),str ([])] 24]:List (Nat×Obj))++hs) rp p1 bv L 3 w1 (fun w2 hw2=>hb w2 (qA (f:=([bk_ p5 #[i6_ n,str S2,str R1] 24,bk_ p4 #[i6_ 0,str ([]),str ([])] 24]:List (Nat×Obj))) hw2)) hL8 hL (by omega) hw1).mono fun en w' ⟨k',p',h1,h2,h3⟩=>⟨k',p',h1,h2,h3⟩) fun k37 p_37 hKp_37=>?_)))))))
   show Ll _ _ (Own _ _ (_::_::_::hs)) _ _ ((37,i6_ k37)::_) _ _ _
   obtain ⟨h0k37,h1k37,hep_37⟩:=hKp_37
   try have hltk37:=h1k37 (by first | omega | (split <;> omega) | decide);refine qI 2 Z (zL (zD [0,1,4,5,6,7,8,9] [_,_,_,_,_,_,_,_] Z (zE (zE (zB (zC 1 Z (zI (zD [0,1,4,5,6,7,8,9,39] [_,_,_,_,_,_,_,_,_] Z (jA (σ:=Bool) (fun b9=>True) (fun b9=>[(0,pt_ rp),(1,i6_ n),(4,pt_ p4),(5,pt_ p5),(6,i6_ k13),(7,i6_ (k:Int)),(8,i6_ (j:Int)),(9,bo_ b9)]) (fun b9=>Own B w0 (bk_ p5 #[i6_ n,str S2,str R1] 24::bk_ p4 #[i6_ 0,str ([]),str ([])] 24::bk_ rp #[bv,i6_ (p_37:Int)] 104::hs)) ?_ ?_)))))))))
   ·
    refine qZ (zE (zB (zC 2 Z (zI (zD [0,1,4,5,6,7,8,9,39,40] [_,_,_,_,_,_,_,_,_,_] Z (yE Z (fun h40=>?_) (fun h40=>?_)))))))
    ·
     refine zB (zC 2 Z (zG Z (qS Z Z Z (by omega) (by omega)) (zC 1 Z (zG (v:=i6_ (((k:Int)+(1:Int)) % n)) Z (OpQ.rem Z Z Z (by omega) (by omega)) (zC 2 Z (zI (qJ (decide ((j:Int)=(((k:Int)+(1:Int)) % n))) trivial (Sub.sel [0,1,4,5,6,7,8,9] Z) (fun _ h=>h))))))))
    refine zE (zB (zC 2 Z (zI (zD [0,1,4,5,6,7,8,9,39,48] [_,_,_,_,_,_,_,_,_,_] Z (yE Z (fun h48=>?_) (fun h48=>?_))))))
    ·
     refine zB (zC 4 Z (zI (qJ (decide ((k:Int)<(j:Int))) trivial (Sub.sel [0,1,4,5,6,7,8,9] Z) (fun _ h=>h))))
    refine zE (zB (zC 2 Z (zI (zD [0,1,4,5,6,7,8,9,39,53] [_,_,_,_,_,_,_,_,_,_] Z (yE Z (fun h53=>?_) (fun h53=>?_))))))
    ·
     refine zB (zC 4 Z (xH fun b58 hg58=>?_))
     cases b58
     ·
      replace hg58:=not_false hg58
      replace hg58:=zW hg58;refine zR Z (zR Z (zR Z (zR Z (zR Z (zC 2 Z (zI (qJ (false) trivial (Sub.sel [0,1,4,5,6,7,8,9] Z) (fun _ h=>h))))))))
     replace hg58:=not_true hg58
     replace hg58:=zS hg58;refine zC 2 Z (zG Z (qS Z Z Z (by omega) (by omega)) (zG (v:=i6_ (((k:Int)+(j:Int)) % (2:Int))) Z (OpQ.rem Z Z Z (by omega) (by decide)) (zC 3 Z (zI (qJ (decide ((((k:Int)+(j:Int)) % (2:Int))=(1:Int))) trivial (Sub.sel [0,1,4,5,6,7,8,9] Z) (fun _ h=>h))))))
    refine zE (zB (zC 2 Z (zI (zD [0,1,4,5,6,7,8,9,39,65] [_,_,_,_,_,_,_,_,_,_] Z (yE Z (fun h65=>?_) (fun h65=>?_))))))
    ·
     refine zB (zC 4 Z (xH fun b70 hg70=>?_))
     cases b70
     ·
      replace hg70:=zS hg70;refine zC 2 Z (zG Z (qS Z Z Z (by omega) (by omega)) (zC 3 Z (xH fun b76 hg76=>?_)))
      cases b76
      ·
       replace hg76:=zS hg76;refine zC 2 Z (zG Z (qS Z Z Z (by omega) (by omega)) (zC 3 Z (zI (qJ (decide ((k:Int)=((j:Int)+(1:Int)))) trivial (Sub.sel [0,1,4,5,6,7,8,9] Z) (fun _ h=>h)))))
      replace hg76:=zW hg76;refine zR Z (zR Z (zR Z (zR Z (zC 2 Z (zI (qJ (true) trivial (Sub.sel [0,1,4,5,6,7,8,9] Z) (fun _ h=>h)))))))
     replace hg70:=zW hg70;refine zR Z (zR Z (zR Z (zR Z (zC 2 Z (zR Z (zR Z (zR Z (zR Z (zC 2 Z (zI (qJ (true) trivial (Sub.sel [0,1,4,5,6,7,8,9] Z) (fun _ h=>h))))))))))))
    refine zE (zB (zC 2 Z (zI (zD [0,1,4,5,6,7,8,9,39,82] [_,_,_,_,_,_,_,_,_,_] Z (yE Z (fun h82=>?_) (fun h82=>?_))))))
    ·
     refine zB (zC 2 Z (xH fun b85 hg85=>?_))
     cases b85
     ·
      replace hg85:=zS hg85;refine zR Z (zR Z (zR Z (zC 2 Z (zI (qJ (false) trivial (Sub.sel [0,1,4,5,6,7,8,9] Z) (fun _ h=>h))))))
     replace hg85:=zW hg85;refine zC 5 Z (zI (qJ (!(decide ((k:Int)=(j:Int)))) trivial (Sub.sel [0,1,4,5,6,7,8,9] Z) (fun _ h=>h)))
    refine zE (zB (zC 2 Z (zI (zD [0,1,4,5,6,7,8,9,90] [_,_,_,_,_,_,_,_,_] Z (yE Z (fun h90=>?_) (fun h90=>?_))))))
    ·
     refine zB (zC 1 Z (zG Z (qS Z Z Z (by omega) (by omega)) (zG (v:=i6_ (((k:Int)+(1:Int)) / (2:Int))) Z (OpQ.quo Z Z Z (by omega) (by omega) (by decide)) (zC 1 Z (zG Z (qS Z Z Z (by omega) (by omega)) (zG (v:=i6_ (((j:Int)+(1:Int)) / (2:Int))) Z (OpQ.quo Z Z Z (by omega) (by omega) (by decide)) (zC 2 Z (xH fun b99 hg99=>?_))))))))
     cases b99
     ·
      replace hg99:=zS hg99;refine zR Z (zR Z (zR Z (zC 2 Z (zI (qJ (false) trivial (Sub.sel [0,1,4,5,6,7,8,9] Z) (fun _ h=>h))))))
     replace hg99:=zW hg99;refine zC 5 Z (zI (qJ (!(decide ((k:Int)=(j:Int)))) trivial (Sub.sel [0,1,4,5,6,7,8,9] Z) (fun _ h=>h)))
    refine qN (qJ (decide (k37=(0:Int))) trivial (Sub.sel [0,1,4,5,6,7,8,9] Z) (fun _ h=>h))
   rintro b9 _;refine zD [0,1,4,5,6,7,8,9] [_,_,_,_,_,_,_,_] Z (jM (S:=Own B w0 [bk_ p4 #[i6_ 0,str ([]),str ([])] 24,bk_ rp #[bv,i6_ (p_37:Int)] 104]) (.take 0 (.take 2 (.two 1 (.one 3 (.take 4 (.take 5 (.one 6 .done)))) 3 (.one 1 (.take 4 (.take 5 (.one 6 .done))))))) yH (fun _ h=>h.drawn) (by kernel_rfl) (zV Z Z Z Z Z (zH Z qC Z qY Z Z) (pk [1,2] Z Z) (vM 1 Z (pk [1,2] Z Z) (yX Z Z ?_ ?_))))
   ·
    refine zM Z (zQ 0 Z yQ Z Z Z) (zL (zK (pk [1,2] Z Z) ?_));refine zX Z (zM (v:=str (if b9 then [49] else [48])) Z (qR Z vP Z qG (fun w1 hw1=>bitD_ok b9 w1 )) (zL (zK (pk [1,2] Z Z) ?_)));refine zV Z Z Z Z Z (yL Z Z Z (by first | (rw [bit_len];omega) | omega)) (pk [1,2] Z Z) (zV Z Z Z Z Z (zH Z qC Z qY Z Z) (pk [1,2] Z Z) (zX Z (qM (v:=str (R1++(if b9 then [49] else [48]))) (hs':=(bk_ p5 #[i6_ n,str S2,str (R1++(if b9 then [49] else [48]))] 24::_::_::hs)) 0 Z Z Z Z Z Z qY Z (by simp) Z (zL (zK (pk [1,2] Z Z) ?_)))));refine yM (zD [0,1,4,5,6,7,8] [_,_,_,_,_,_,_] Z (zB (zC 1 Z (zG Z (qS Z Z Z (by omega) (by omega)) (zC 1 Z (zI (yZ (j+1,R1++(if b9 then [49] else [48]),p_37) ⟨by omega,by (try dsimp only);rw [zP,bit_len];omega,by (try dsimp only);omega⟩ (by omega) (Sub.sel [0,1,4,5,6,7,8] Z) (fun _ h=>h))))))))
   refine zM (v:=str (if b9 then [49] else [48])) Z (qR Z vP Z qG (fun w1 hw1=>bitD_ok b9 w1 )) (zL (zK (pk [1,2] Z Z) ?_));refine zX Z (zM Z (zQ 0 Z yQ Z Z Z) (zL (zK (pk [1,2] Z Z) ?_)));refine zV Z Z Z Z Z (yL Z Z Z (by first | (rw [bit_len];omega) | omega)) (pk [1,2] Z Z) (zV Z Z Z Z Z (zH Z qC Z qY Z Z) (pk [1,2] Z Z) (zX Z (qM (v:=str (R1++(if b9 then [49] else [48]))) (hs':=(bk_ p5 #[i6_ n,str S2,str (R1++(if b9 then [49] else [48]))] 24::_::_::hs)) 0 Z Z Z Z Z Z qY Z (by simp) Z (zL (zK (pk [1,2] Z Z) ?_)))));refine yM (zD [0,1,4,5,6,7,8] [_,_,_,_,_,_,_] Z (zB (zC 1 Z (zG Z (qS Z Z Z (by omega) (by omega)) (zC 1 Z (zI (yZ (j+1,R1++(if b9 then [49] else [48]),p_37) ⟨by omega,by (try dsimp only);rw [zP,bit_len];omega,by (try dsimp only);omega⟩ (by omega) (Sub.sel [0,1,4,5,6,7,8] Z) (fun _ h=>h))))))))
  refine xB Z (zD [0,1,4,5,6,7] [_,_,_,_,_,_] Z (zB (zC 1 Z (zG Z (qS Z Z Z (by omega) (by omega)) (zC 1 Z (zI (yZ (k+1,S2,R1,p1) ⟨by omega,by (try dsimp only);omega,by (try dsimp only);rw [Nat.add_mul,Nat.one_mul];omega,by (try dsimp only);omega⟩ (by omega) (Sub.sel [0,1,4,5,6,7] Z) (fun _ h=>h))))))))
 refine xB Z (zD [4,5] [_,_] Z (zE (qF (zM Z (qW (cs:=#[i6_ n,str S,str R]) 0 Z qV Z Z qT) (jJ (cs':=#[i6_ n,str S,str R]) (hs':=(_::bk_ p4 #[i6_ n,str S,str R] 24::_::hs)) 1 Z Z Z Z Z (by kernel_rfl:_=some Tryd.t24) Z Z Z Z Z (zL (zD [4] [_] Z (qK (Kt.endBox (cs:=#[i6_ n,str S,str R]) 1 Z Z Z qV qT fun w' hw=>?_)))))))))
 exact ⟨⟨n,S,R⟩,p0,rfl,⟨⟨rfl,by dsimp only;omega,by dsimp only;rw [hR,show k=n.toNat from by omega]⟩,by omega⟩,hw.sub (qL _ (qL _ (zA _ (zO _))))⟩
set_option maxHeartbeats 400000 in
theorem l1Some_ok (B:Nat) (w0:World) (hs:List (Nat×Obj)) (rp p:Nat) (bv:Value) (L:List Int) (w:World) (hb:∀ w,Own B w0 hs w→Row w bv (u8s L)) (hL8:Bytes8 L) (hL:L.length≤2000) (hp:p≤800000) (hw:Own B w0 ((rp,.cells #[bv,.int .i64 (p:Int)] 104 (0,0))::hs) w) :
    Calls Tryd.prog 77 [pt_ rp].toArray w fun en w'=>∃ a:St,∃ p':Nat,en=.returned (vS a)∧((a.Fine∧a.n≤5)∧p'≤p+200)∧Own B w0 (((rp,.cells #[bv,.int .i64 (p':Int)] 104 (0,0))::hs)) w':=by
 refine fnStartC (Own B w0 ((rp,.cells #[bv,.int .i64 (p:Int)] 104 (0,0))::hs)) (n:=8) (e:=[(0,pt_ rp)]) Tryd.func77 Z Z Z Z Ends.both hw (zE (qF (vL Z Z Z Z jE fun p2 hp2=>?_)))
 show Ll _ _ (Own _ _ (bk_ p2 #[i6_ 0,str ([]),str ([])] 24::_::hs)) _ _ ((2,pt_ p2)::_) _ _ _;refine zL (zD [0,2] [_,_] Z (zE (qF (qI 2 Z (yT (xs:=[.const (i6_ 3),.const (i6_ 4),.const (i6_ 2),.const (i6_ 1),.const (i6_ 5),.const (i6_ 3)]) (vs:=[i6_ 3,i6_ 4,i6_ 2,i6_ 1,i6_ 5,i6_ 3]) xL Z Z Z Z Z Z (by decide) Z fun p5 hp5=>(yI (rp:=rp) (RT:=104) (p:=p) (bv:=bv) (hs:=hs) (ok:=fun (v:Int) p'=>v∈([3,4,2,1,5,3])∧p'=p+1) (v:=fun (v:Int)=>i6_ v) (new:=fun (v:Int)=>[]) (xs:=[.tmp 4,.tmp 5]) (vs:=[pt_ rp,sl_ p5 6 6]) ([bk_ p5 #[i6_ 3,i6_ 4,i6_ 2,i6_ 1,i6_ 5,i6_ 3] 3,bk_ p2 #[i6_ 0,str ([]),str ([])] 24]:List (Nat×Obj)) Z Z Z Z Tryd.call33 Z (fun w1 hw1=>(num_ok B w0 (([bk_ p5 #[i6_ 3,i6_ 4,i6_ 2,i6_ 1,i6_ 5,i6_ 3] 3,bk_ p2 #[i6_ 0,str ([]),str ([])] 24]:List (Nat×Obj))++hs) rp p bv L (sl_ p5 6 6) ([3,4,2,1,5,3]) w1 (fun w2 hw2=>hb w2 (qA (f:=([bk_ p5 #[i6_ 3,i6_ 4,i6_ 2,i6_ 1,i6_ 5,i6_ 3] 3,bk_ p2 #[i6_ 0,str ([]),str ([])] 24]:List (Nat×Obj))) hw2)) hL8 hL (fun w2 h2=>(xR h2 (i:=0) Z (n:=6) (cap:=6) (vs:=ints [3,4,2,1,5,3]) Z Z (by decide))) (by simp) (by omega) hw1).mono fun en w' ⟨v',p',h1,h2,h3⟩=>⟨v',p',h1,h2,h3⟩) fun v6 p_6 hKp_6=>?_))))))
 show Ll _ _ (Own _ _ (_::_::_::hs)) _ _ ((6,i6_ v6)::_) _ _ _
 obtain ⟨hmv6,hep_6⟩:=hKp_6
 have hvv6:1≤v6∧v6≤5:=by simp at hmv6;omega
 have hv6:1≤v6∧v6≤5:=by simp at hmv6;omega
 refine yI (rp:=rp) (RT:=104) (p:=p_6) (bv:=bv) (hs:=hs) (ok:=fun (a:St) p'=>(a.n=v6∧(a.set.length:Int)=v6∧a.rel.length=v6.toNat*v6.toNat)∧p'≤p_6+100) (v:=fun (a:St)=>vS a) (new:=fun (a:St)=>[]) (xs:=[.tmp 3,.tmp 6]) (vs:=[pt_ rp,i6_ v6]) ([bk_ p5 #[i6_ 3,i6_ 4,i6_ 2,i6_ 1,i6_ 5,i6_ 3] 3,bk_ p2 #[i6_ 0,str ([]),str ([])] 24]:List (Nat×Obj)) Z Z Z Z Tryd.call114 Z (fun w1 hw1=>(l1Draw_ok B w0 (([bk_ p5 #[i6_ 3,i6_ 4,i6_ 2,i6_ 1,i6_ 5,i6_ 3] 3,bk_ p2 #[i6_ 0,str ([]),str ([])] 24]:List (Nat×Obj))++hs) rp p_6 bv L v6 w1 (fun w2 hw2=>hb w2 (qA (f:=([bk_ p5 #[i6_ 3,i6_ 4,i6_ 2,i6_ 1,i6_ 5,i6_ 3] 3,bk_ p2 #[i6_ 0,str ([]),str ([])] 24]:List (Nat×Obj))) hw2)) hL8 hL (by omega) (by omega) (by omega) hw1).mono fun en w' ⟨a',p',h1,h2,h3⟩=>⟨a',p',h1,h2,h3⟩) fun a7 p_7 hKp_7=>?_
 show Ll _ _ (Own _ _ (_::_::_::hs)) _ _ ((7,vS a7)::_) _ _ _
 obtain ⟨⟨hna7,hsa7,hra7⟩,hep_7⟩:=hKp_7;refine jJ (cs':=#[i6_ a7.n,str a7.set,str a7.rel]) (hs':=(_::bk_ p2 #[i6_ a7.n,str a7.set,str a7.rel] 24::_::hs)) 1 Z Z Z Z Z (by kernel_rfl:_=some Tryd.t24) Z Z Z Z Z (zL (zD [2] [_] Z (qK (Kt.endBox (cs:=#[i6_ a7.n,str a7.set,str a7.rel]) 1 Z Z Z qV qT fun w' hw=>?_))))
 exact ⟨a7,p_7,rfl,⟨⟨⟨by omega,by omega,by omega,by rw [hra7,hna7];exact sq_cast (by omega)⟩,by omega⟩,by omega⟩,hw.sub (qL _ (qL _ (zA _ (zO _))))⟩
end Go.Proofs.YtagbocafnliabaaDoor
namespace Go.Proofs.YtagbocafnliabaaDoor
open Go.RowKit Go.Wk
set_option linter.unusedSimpArgs false
set_option maxHeartbeats 400000 in
theorem open_ok (B:Nat) (w0:World) (fr hs:List (Nat×Obj)) (bv:Value) (L:List Int) (w:World) (hb:∀ w,Own B w0 hs w→Row w bv (u8s L)) (hL8:Bytes8 L) (hLs:L.length≤1048576) (hw:Own B w0 (fr++hs) w) :
    Calls Tryd.prog 31 [bv].toArray w fun en w'=>∃ (rp:Nat) (v:Value) (M:List Int),en=.returned (.pointer (some ⟨rp,0,none⟩))∧(M.length≤2000∧Bytes8 M∧∀ w,Own B w0 hs w→Row w v (u8s M))∧Own B w0 ([(rp,.cells #[v,.int .i64 ((0:Nat):Int)] 104 (0,0))]++(fr++hs)) w':=by
 refine fnStartC (Own B w0 (fr++hs)) (n:=11) (e:=[(0,bv)]) Tryd.func31 Z Z Z Z Ends.both hw ?_
 obtain ⟨ad,cap,hbv,-⟩:=hb w (qA (f:=fr) hw);refine zE (zB (zC 1 Z (zI (zD [0] [_] Z (zE (zE (zB (zC 1 Z (zG (v:=i6_ (L.length:Int)) Z (xP Z yN Z (u8s_length _) (fun w1 hw1=>hb _ (qA (f:=fr) hw1))) (zC 1 Z (zI (zD [0,5] [_,_] Z (yE Z (fun h5=>?_) (fun h5=>?_))))))))))))))
 ·
  refine zB (zC 1 Z (zG (v:=sTake bv ((2000:Int).toNat)) Z (OpQ.takeRow (i:=2000) Z yN xI Z Z (by omega) (by rw [u8s_length];omega) (fun w1 hw1=>hb _ (qA (f:=fr) hw1))) (zC 1 Z (zI (zD [0] [_] Z (zE (qF (qI 1 Z (zM (v:=.agg #[sTake bv ((2000:Int).toNat),i6_ ((0:Nat):Int)]) Z (OpQ.build (xs:=[.tmp 8]) (vs:=[sTake bv ((2000:Int).toNat)]) Z Z (by rw [hbv];kernel_rfl)) (jD (v:=.agg #[sTake bv ((2000:Int).toNat),i6_ ((0:Nat):Int)]) Z Z Z Z Z fun p10 hp10=>?_))))))))))
  show Ll _ _ (Own _ _ (_::(fr++hs))) _ _ ((10,pt_ p10)::_) _ _ _;refine qI 1 Z (zL (zD [2] [_] Z (qK (qO Z Z fun w' hw=>?_))))
  exact ⟨p10,_,L.take 2000,rfl,⟨by rw [zT];omega,hL8.take _,fun w1 h1=>by rw [u8s_take];exact Row.take (hb _ h1) 2000 (by rw [u8s_length];omega)⟩,hw⟩
 refine qN (zD [0] [_] Z (zE (qF (qI 1 Z (zM (v:=.agg #[bv,i6_ ((0:Nat):Int)]) Z (OpQ.build (xs:=[.tmp 8]) (vs:=[bv]) Z Z (by rw [hbv];kernel_rfl)) (jD (v:=.agg #[bv,i6_ ((0:Nat):Int)]) Z Z Z Z Z fun p10_1 hp10_1=>?_))))))
 show Ll _ _ (Own _ _ (_::(fr++hs))) _ _ ((10,pt_ p10_1)::_) _ _ _;refine qI 1 Z (zL (zD [2] [_] Z (qK (qO Z Z fun w' hw=>?_))))
 exact ⟨p10_1,bv,L,rfl,⟨by omega,hL8,hb⟩,hw⟩
end Go.Proofs.YtagbocafnliabaaDoor
namespace Go.Proofs.YtagbocafnliabaaDoor
open Go.RowKit Go.Wk
set_option linter.unusedSimpArgs false
set_option maxHeartbeats 400000 in
theorem l1Bad_ok (B:Nat) (w0:World) (hs:List (Nat×Obj)) (rp p:Nat) (bv:Value) (L:List Int) (a:St) (w:World) (hb:∀ w,Own B w0 hs w→Row w bv (u8s L)) (hL8:Bytes8 L) (hL:L.length≤2000) (ha:a.Fine) (hp:p≤800000) (hw:Own B w0 ((rp,.cells #[bv,.int .i64 (p:Int)] 104 (0,0))::hs) w) :
    Calls Tryd.prog 76 [pt_ rp,vS a].toArray w fun en w'=>∃ b:St,∃ p':Nat,en=.returned (vS b)∧(((-9223372036854775808≤b.n∧b.n≤9223372036854775807)∧b.set.length≤50000∧b.rel.length≤50000)∧p'≤p+10)∧Own B w0 (((rp,.cells #[bv,.int .i64 (p':Int)] 104 (0,0))::hs)) w':=by
 refine fnStartC (Own B w0 ((rp,.cells #[bv,.int .i64 (p:Int)] 104 (0,0))::hs)) (n:=42) (e:=[(0,pt_ rp),(1,vS a)]) Tryd.func76 Z Z Z Z Ends.both hw ?_
 have hm8:=ha.hi
 have hm1:=ha.lo
 have hsl:=ha.set
 have hrl:=ha.rel
 have hq:=sq_le hm1 hm8
 have hq1:1≤a.n*a.n:=sq_one hm1;refine zE (qF (jD (v:=vS a) Z Z Z Z Z fun p3 hp3=>?_))
 show Ll _ _ (Own _ _ (_::_::hs)) _ _ ((3,pt_ p3)::_) _ _ _;refine vL Z Z Z Z jE fun p4 hp4=>?_
 show Ll _ _ (Own _ _ (bk_ p4 #[i6_ 0,str ([]),str ([])] 24::_::_::hs)) _ _ ((4,pt_ p4)::_) _ _ _;refine zL (zD [0,3,4] [_,_,_] Z (zE (zE (qF (qI 1 Z (yI (rp:=rp) (RT:=104) (p:=p) (bv:=bv) (hs:=hs) (ok:=fun (k:Int) p'=>0≤k∧(1≤(40:Int)→k<40)∧p'=p+1) (v:=fun (k:Int)=>i6_ k) (new:=fun (k:Int)=>[]) (xs:=[.tmp 5,.const (i6_ 40)]) (vs:=[pt_ rp,i6_ 40]) ([bk_ p4 #[i6_ 0,str ([]),str ([])] 24,bk_ p3 #[i6_ a.n,str a.set,str a.rel] 24]:List (Nat×Obj)) Z Z Z Z xS Z (fun w1 hw1=>(pick_ok B w0 (([bk_ p4 #[i6_ 0,str ([]),str ([])] 24,bk_ p3 #[i6_ a.n,str a.set,str a.rel] 24]:List (Nat×Obj))++hs) rp p bv L 40 w1 (fun w2 hw2=>hb w2 (qA (f:=([bk_ p4 #[i6_ 0,str ([]),str ([])] 24,bk_ p3 #[i6_ a.n,str a.set,str a.rel] 24]:List (Nat×Obj))) hw2)) hL8 hL (by omega) hw1).mono fun en w' ⟨k',p',h1,h2,h3⟩=>⟨k',p',h1,h2,h3⟩) fun k6 p_6 hKp_6=>?_))))))
 show Ll _ _ (Own _ _ (_::_::_::hs)) _ _ ((6,i6_ k6)::_) _ _ _
 obtain ⟨h0k6,h1k6,hep_6⟩:=hKp_6
 try have hltk6:=h1k6 (by first | omega | (split <;> omega) | decide);refine zL (zD [0,3,4,6] [_,_,_,_] Z (jA (σ:=Int×List UInt8×List UInt8×Nat) (fun ⟨N,S,R,p9⟩=>(-9223372036854775808≤N∧N≤9223372036854775807)∧S.length≤50000∧R.length≤50000∧p9≤p+10) (fun ⟨N,S,R,p9⟩=>[(3,pt_ p3),(4,pt_ p4)]) (fun ⟨N,S,R,p9⟩=>Own B w0 (bk_ p4 #[i6_ 0,str ([]),str ([])] 24::bk_ p3 #[i6_ N,str S,str R] 24::bk_ rp #[bv,i6_ (p9:Int)] 104::hs)) ?_ ?_))
 ·
  refine qZ (zE (zB (zC 2 Z (zI (zD [0,3,4,6,7] [_,_,_,_,_] Z (yE Z (fun h7=>?_) (fun h7=>?_)))))))
  ·
   refine qF (qI 1 Z (zM Z (zH Z qC Z zJ Z Z) (zM Z (zQ 1 Z zU Z Z Z) (zM Z (qS Z Z Z (by omega) (by omega)) (yT (xs:=[.const (i6_ 0),.const (i6_ (-1)),.tmp 12,.const (i6_ 9),.const (i6_ 9223372036854775807)]) (vs:=[i6_ 0,i6_ (-1),i6_ (a.n+(1:Int)),i6_ 9,i6_ 9223372036854775807]) xL Z Z Z Z Z Z (by decide) Z fun p13 hp13=>(yI (rp:=rp) (RT:=104) (p:=p_6) (bv:=bv) (hs:=hs) (ok:=fun (v:Int) p'=>v∈([0,-1,a.n+(1:Int),9,9223372036854775807])∧p'=p_6+1) (v:=fun (v:Int)=>i6_ v) (new:=fun (v:Int)=>[]) (xs:=[.tmp 9,.tmp 13]) (vs:=[pt_ rp,sl_ p13 5 5]) ([bk_ p13 #[i6_ 0,i6_ (-1),i6_ (a.n+(1:Int)),i6_ 9,i6_ 9223372036854775807] 3,bk_ p4 #[i6_ 0,str ([]),str ([])] 24,bk_ p3 #[i6_ a.n,str a.set,str a.rel] 24]:List (Nat×Obj)) Z Z Z Z Tryd.call33 Z (fun w1 hw1=>(num_ok B w0 (([bk_ p13 #[i6_ 0,i6_ (-1),i6_ (a.n+(1:Int)),i6_ 9,i6_ 9223372036854775807] 3,bk_ p4 #[i6_ 0,str ([]),str ([])] 24,bk_ p3 #[i6_ a.n,str a.set,str a.rel] 24]:List (Nat×Obj))++hs) rp p_6 bv L (sl_ p13 5 5) ([0,-1,a.n+(1:Int),9,9223372036854775807]) w1 (fun w2 hw2=>hb w2 (qA (f:=([bk_ p13 #[i6_ 0,i6_ (-1),i6_ (a.n+(1:Int)),i6_ 9,i6_ 9223372036854775807] 3,bk_ p4 #[i6_ 0,str ([]),str ([])] 24,bk_ p3 #[i6_ a.n,str a.set,str a.rel] 24]:List (Nat×Obj))) hw2)) hL8 hL (fun w2 h2=>(xR h2 (i:=0) Z (n:=5) (cap:=5) (vs:=ints [0,-1,a.n+(1:Int),9,9223372036854775807]) Z Z (by decide))) (by simp) (by omega) hw1).mono fun en w' ⟨v',p',h1,h2,h3⟩=>⟨v',p',h1,h2,h3⟩) fun v14 p_14 hKp_14=>?_))))))
   show Ll _ _ (Own _ _ (_::_::_::_::hs)) _ _ ((14,i6_ v14)::_) _ _ _
   obtain ⟨hmv14,hep_14⟩:=hKp_14
   skip
   have hv14 : -9223372036854775808≤v14∧v14≤9223372036854775807:=by simp at hmv14;omega
   refine zM Z (zH Z qC Z zJ Z Z) (qM (v:=i6_ v14) (hs':=(_::_::bk_ p3 #[i6_ v14,str a.set,str a.rel] 24::_::hs)) 2 Z Z Z Z Z Z zJ Z (by simp) Z (zL (qJ (v14,a.set,a.rel,p_14) ⟨⟨by (try dsimp only);omega,by (try dsimp only);omega⟩,by (try dsimp only);omega,by (try dsimp only);omega,by (try dsimp only);omega⟩ (Sub.sel [3,4] Z) (fun _ h=>h.sub (qL _ (zA _ (zA _ (zA _ (zO _)))))))))
  refine zE (zB (zC 2 Z (zI (zD [0,3,4,6,16] [_,_,_,_,_] Z (yE Z (fun h16=>?_) (fun h16=>?_))))))
  ·
   refine qF (zM Z (zH Z qC Z qY Z Z) (zM Z (zQ 1 Z yQ Z Z Z) (zM Z (yL Z Z Z (by simp;omega)) (zM Z (zH Z qC Z qY Z Z) (qM (v:=str (a.set++([48]))) (hs':=(_::bk_ p3 #[i6_ a.n,str (a.set++([48])),str a.rel] 24::_::hs)) 1 Z Z Z Z Z Z qY Z (by simp) Z (zL (qJ (a.n,a.set++([48]),a.rel,p_6) ⟨⟨by (try dsimp only);omega,by (try dsimp only);omega⟩,by (try dsimp only);simp only [zP,zT,zY,zZ];omega,by (try dsimp only);omega,by (try dsimp only);omega⟩ (Sub.sel [3,4] Z) (fun _ h=>h.sub (zA _ (zA _ (zA _ (zO _))))))))))))
  refine zE (zB (zC 2 Z (zI (zD [0,3,4,6,22] [_,_,_,_,_] Z (yE Z (fun h22=>?_) (fun h22=>?_))))))
  ·
   refine jM (S:=Own B w0 [bk_ p4 #[i6_ 0,str ([]),str ([])] 24]) (.take 0 (.take 2 (.take 7 (.three 1 (.two 3 (.take 4 (.take 5 (.take 6 (.one 8 (.one 9 (.take 10 (.take 11 (.one 12 .done)))))))) 8 (.two 3 (.take 4 (.take 5 (.take 6 (.one 9 (.take 10 (.take 11 (.one 12 .done))))))) 9 (.one 3 (.take 4 (.take 5 (.take 6 (.take 10 (.take 11 (.one 12 .done))))))))) 3 (.take 4 (.take 5 (.two 1 (.take 6 (.one 8 (.one 9 (.take 10 (.take 11 (.one 12 .done)))))) 8 (.two 1 (.take 6 (.one 9 (.take 10 (.take 11 (.one 12 .done))))) 9 (.one 1 (.take 6 (.take 10 (.take 11 (.one 12 .done))))))))) 8 (.three 1 (.two 3 (.take 4 (.take 5 (.take 6 (.one 9 (.take 10 (.take 11 (.one 12 .done))))))) 9 (.one 3 (.take 4 (.take 5 (.take 6 (.take 10 (.take 11 (.one 12 .done)))))))) 3 (.take 4 (.take 5 (.two 1 (.take 6 (.one 9 (.take 10 (.take 11 (.one 12 .done))))) 9 (.one 1 (.take 6 (.take 10 (.take 11 (.one 12 .done)))))))) 9 (.two 1 (.one 3 (.take 4 (.take 5 (.take 6 (.take 10 (.take 11 (.one 12 .done))))))) 3 (.take 4 (.take 5 (.one 1 (.take 6 (.take 10 (.take 11 (.one 12 .done))))))))))))) yH (fun _ h=>h.drawn) (by kernel_rfl) (zV Z Z Z Z Z (zH Z qC Z qY Z Z) (pk [0] Z Z) (zV Z Z Z Z Z (zH Z qC Z qY Z Z) (pk [0] Z Z) (vM 1 Z (pk [0] Z Z) (Lu.three Z Z Z ?_ ?_ ?_))))
   ·
    refine zM Z (zQ 1 Z yQ Z Z Z) (zL (zK (pk [0] Z Z) ?_));refine yX Z Z ?_ ?_
    ·
     refine zM Z (zQ 1 Z yQ Z Z Z) (zL (zK (pk [0] Z Z) ?_));refine zV (v:=i6_ (a.rel.length:Int)) Z Z Z Z Z (xN Z qH Z) (pk [0] Z Z) (zV Z Z Z Z Z (jO Z Z Z (by omega) (by omega)) (pk [0] Z Z) (zV (v:=str (a.rel.take (((a.rel.length:Int) - (1:Int)).toNat))) Z Z Z Z Z (xF Z qQ Z Z (by omega) (by omega)) (pk [0] Z Z) (zX Z (yT (xs:=[.const (str ([])),.const (str ([50])),.const (str ([48,49]))]) (vs:=[str ([]),str ([50]),str ([48,49])]) jR Z Z Z Z Z Z (by decide) Z fun p32 hp32=>(zL (zK (pk [1] Z Z) ?_))))));refine zX Z (yI (rp:=rp) (RT:=104) (p:=p_6) (bv:=bv) (hs:=hs) (ok:=fun (v:List UInt8) p'=>v∈([[],[50],[48,49]]:List (List UInt8))∧p'=p_6+1) (v:=fun (v:List UInt8)=>str v) (new:=fun (v:List UInt8)=>[]) (xs:=[.tmp 31,.tmp 32]) (vs:=[pt_ rp,sl_ p32 3 3]) ([bk_ p32 #[str ([]),str ([50]),str ([48,49])] 9,bk_ p4 #[i6_ 0,str ([]),str ([])] 24,bk_ p3 #[i6_ a.n,str a.set,str a.rel] 24]:List (Nat×Obj)) Z Z Z Z xT Z (fun w1 hw1=>(of_ok B w0 (([bk_ p32 #[str ([]),str ([50]),str ([48,49])] 9,bk_ p4 #[i6_ 0,str ([]),str ([])] 24,bk_ p3 #[i6_ a.n,str a.set,str a.rel] 24]:List (Nat×Obj))++hs) rp p_6 bv L (sl_ p32 3 3) ([[],[50],[48,49]]:List (List UInt8)) w1 (fun w2 hw2=>hb w2 (qA (f:=([bk_ p32 #[str ([]),str ([50]),str ([48,49])] 9,bk_ p4 #[i6_ 0,str ([]),str ([])] 24,bk_ p3 #[i6_ a.n,str a.set,str a.rel] 24]:List (Nat×Obj))) hw2)) hL8 hL (fun w2 h2=>(xR h2 (i:=0) Z (n:=3) (cap:=3) (vs:=strs ([[],[50],[48,49]]:List (List UInt8))) Z Z (by decide))) (by simp) (by omega) hw1).mono fun en w' ⟨v',p',h1,h2,h3⟩=>⟨v',p',h1,h2,h3⟩) fun v33 p_33 hKp_33=>?_)
     show Ll _ _ (Own _ _ (_::_::_::_::hs)) _ _ ((33,str v33)::_) _ _ _
     obtain ⟨hmv33,hep_33⟩:=hKp_33;refine zL (zK (pk [1] Z Z) ?_)
     have hv33:v33.length≤2:=by simp at hmv33;rcases hmv33 with h | h | h <;> subst h <;> decide
     refine zV Z Z Z Z Z (yL Z Z Z (by simp only [zT];omega)) (pk [1] Z Z) (zV Z Z Z Z Z (zH Z qC Z qY Z Z) (pk [1] Z Z) (zX Z (qM (v:=str ((a.rel.take (((a.rel.length:Int) - (1:Int)).toNat))++v33)) (hs':=(_::_::bk_ p3 #[i6_ a.n,str a.set,str ((a.rel.take (((a.rel.length:Int) - (1:Int)).toNat))++v33)] 24::_::hs)) 2 Z Z Z Z Z Z qY Z (by simp) Z (zL (zK (pk [1] Z Z) ?_)))));refine yM (qJ ((a.n,a.set,(a.rel.take (((a.rel.length:Int) - (1:Int)).toNat))++v33,p_33)) ⟨⟨by (try dsimp only);omega,by (try dsimp only);omega⟩,by (try dsimp only);omega,by (try dsimp only);simp only [zP,zT,zY,zZ];omega,by (try dsimp only);omega⟩ (Sub.sel [3,4] Z) (fun _ h=>h.sub (qL _ (zA _ (zA _ (zA _ (zO _)))))))
    refine yT (xs:=[.const (str ([])),.const (str ([50])),.const (str ([48,49]))]) (vs:=[str ([]),str ([50]),str ([48,49])]) jR Z Z Z Z Z Z (by decide) Z fun p32_1 hp32_1=>(zL (zK (pk [1] Z Z) ?_));refine yX Z Z ?_ ?_
    ·
     refine zM Z (zQ 2 Z yQ Z Z Z) (zL (zK (pk [1] Z Z) ?_));refine zV (v:=i6_ (a.rel.length:Int)) Z Z Z Z Z (xN Z qH Z) (pk [1] Z Z) (zV Z Z Z Z Z (jO Z Z Z (by omega) (by omega)) (pk [1] Z Z) (zV (v:=str (a.rel.take (((a.rel.length:Int) - (1:Int)).toNat))) Z Z Z Z Z (xF Z qQ Z Z (by omega) (by omega)) (pk [1] Z Z) (zX Z (yI (rp:=rp) (RT:=104) (p:=p_6) (bv:=bv) (hs:=hs) (ok:=fun (v:List UInt8) p'=>v∈([[],[50],[48,49]]:List (List UInt8))∧p'=p_6+1) (v:=fun (v:List UInt8)=>str v) (new:=fun (v:List UInt8)=>[]) (xs:=[.tmp 31,.tmp 32]) (vs:=[pt_ rp,sl_ p32_1 3 3]) ([bk_ p32_1 #[str ([]),str ([50]),str ([48,49])] 9,bk_ p4 #[i6_ 0,str ([]),str ([])] 24,bk_ p3 #[i6_ a.n,str a.set,str a.rel] 24]:List (Nat×Obj)) Z Z Z Z xT Z (fun w1 hw1=>(of_ok B w0 (([bk_ p32_1 #[str ([]),str ([50]),str ([48,49])] 9,bk_ p4 #[i6_ 0,str ([]),str ([])] 24,bk_ p3 #[i6_ a.n,str a.set,str a.rel] 24]:List (Nat×Obj))++hs) rp p_6 bv L (sl_ p32_1 3 3) ([[],[50],[48,49]]:List (List UInt8)) w1 (fun w2 hw2=>hb w2 (qA (f:=([bk_ p32_1 #[str ([]),str ([50]),str ([48,49])] 9,bk_ p4 #[i6_ 0,str ([]),str ([])] 24,bk_ p3 #[i6_ a.n,str a.set,str a.rel] 24]:List (Nat×Obj))) hw2)) hL8 hL (fun w2 h2=>(xR h2 (i:=0) Z (n:=3) (cap:=3) (vs:=strs ([[],[50],[48,49]]:List (List UInt8))) Z Z (by decide))) (by simp) (by omega) hw1).mono fun en w' ⟨v',p',h1,h2,h3⟩=>⟨v',p',h1,h2,h3⟩) fun v33_1 p_33_1 hKp_33_1=>?_))))
     show Ll _ _ (Own _ _ (_::_::_::_::hs)) _ _ ((33,str v33_1)::_) _ _ _
     obtain ⟨hmv33_1,hep_33_1⟩:=hKp_33_1;refine zL (zK (pk [1] Z Z) ?_)
     have hv33:v33_1.length≤2:=by simp at hmv33_1;rcases hmv33_1 with h | h | h <;> subst h <;> decide
     refine zV Z Z Z Z Z (yL Z Z Z (by simp only [zT];omega)) (pk [1] Z Z) (zV Z Z Z Z Z (zH Z qC Z qY Z Z) (pk [1] Z Z) (zX Z (qM (v:=str ((a.rel.take (((a.rel.length:Int) - (1:Int)).toNat))++v33_1)) (hs':=(_::_::bk_ p3 #[i6_ a.n,str a.set,str ((a.rel.take (((a.rel.length:Int) - (1:Int)).toNat))++v33_1)] 24::_::hs)) 2 Z Z Z Z Z Z qY Z (by simp) Z (zL (zK (pk [1] Z Z) ?_)))));refine yM (qJ ((a.n,a.set,(a.rel.take (((a.rel.length:Int) - (1:Int)).toNat))++v33_1,p_33_1)) ⟨⟨by (try dsimp only);omega,by (try dsimp only);omega⟩,by (try dsimp only);omega,by (try dsimp only);simp only [zP,zT,zY,zZ];omega,by (try dsimp only);omega⟩ (Sub.sel [3,4] Z) (fun _ h=>h.sub (qL _ (zA _ (zA _ (zA _ (zO _)))))))
    refine yI (rp:=rp) (RT:=104) (p:=p_6) (bv:=bv) (hs:=hs) (ok:=fun (v:List UInt8) p'=>v∈([[],[50],[48,49]]:List (List UInt8))∧p'=p_6+1) (v:=fun (v:List UInt8)=>str v) (new:=fun (v:List UInt8)=>[]) (xs:=[.tmp 31,.tmp 32]) (vs:=[pt_ rp,sl_ p32_1 3 3]) ([bk_ p32_1 #[str ([]),str ([50]),str ([48,49])] 9,bk_ p4 #[i6_ 0,str ([]),str ([])] 24,bk_ p3 #[i6_ a.n,str a.set,str a.rel] 24]:List (Nat×Obj)) Z Z Z Z xT Z (fun w1 hw1=>(of_ok B w0 (([bk_ p32_1 #[str ([]),str ([50]),str ([48,49])] 9,bk_ p4 #[i6_ 0,str ([]),str ([])] 24,bk_ p3 #[i6_ a.n,str a.set,str a.rel] 24]:List (Nat×Obj))++hs) rp p_6 bv L (sl_ p32_1 3 3) ([[],[50],[48,49]]:List (List UInt8)) w1 (fun w2 hw2=>hb w2 (qA (f:=([bk_ p32_1 #[str ([]),str ([50]),str ([48,49])] 9,bk_ p4 #[i6_ 0,str ([]),str ([])] 24,bk_ p3 #[i6_ a.n,str a.set,str a.rel] 24]:List (Nat×Obj))) hw2)) hL8 hL (fun w2 h2=>(xR h2 (i:=0) Z (n:=3) (cap:=3) (vs:=strs ([[],[50],[48,49]]:List (List UInt8))) Z Z (by decide))) (by simp) (by omega) hw1).mono fun en w' ⟨v',p',h1,h2,h3⟩=>⟨v',p',h1,h2,h3⟩) fun v33_2 p_33_2 hKp_33_2=>?_
    show Ll _ _ (Own _ _ (_::_::_::_::hs)) _ _ ((33,str v33_2)::_) _ _ _
    obtain ⟨hmv33_2,hep_33_2⟩:=hKp_33_2;refine zL (zK (pk [1] Z Z) ?_);refine zX Z (zM Z (zQ 2 Z yQ Z Z Z) (zL (zK (pk [1] Z Z) ?_)));refine zV (v:=i6_ (a.rel.length:Int)) Z Z Z Z Z (xN Z qH Z) (pk [1] Z Z) (zV Z Z Z Z Z (jO Z Z Z (by omega) (by omega)) (pk [1] Z Z) (zV (v:=str (a.rel.take (((a.rel.length:Int) - (1:Int)).toNat))) Z Z Z Z Z (xF Z qQ Z Z (by omega) (by omega)) (pk [1] Z Z) ?_))
    have hv33:v33_2.length≤2:=by simp at hmv33_2;rcases hmv33_2 with h | h | h <;> subst h <;> decide
    refine zV Z Z Z Z Z (yL Z Z Z (by simp only [zT];omega)) (pk [1] Z Z) (zV Z Z Z Z Z (zH Z qC Z qY Z Z) (pk [1] Z Z) (zX Z (qM (v:=str ((a.rel.take (((a.rel.length:Int) - (1:Int)).toNat))++v33_2)) (hs':=(_::_::bk_ p3 #[i6_ a.n,str a.set,str ((a.rel.take (((a.rel.length:Int) - (1:Int)).toNat))++v33_2)] 24::_::hs)) 2 Z Z Z Z Z Z qY Z (by simp) Z (zL (zK (pk [1] Z Z) ?_)))));refine yM (qJ ((a.n,a.set,(a.rel.take (((a.rel.length:Int) - (1:Int)).toNat))++v33_2,p_33_2)) ⟨⟨by (try dsimp only);omega,by (try dsimp only);omega⟩,by (try dsimp only);omega,by (try dsimp only);simp only [zP,zT,zY,zZ];omega,by (try dsimp only);omega⟩ (Sub.sel [3,4] Z) (fun _ h=>h.sub (qL _ (zA _ (zA _ (zA _ (zO _)))))))
   ·
    refine zM Z (zQ 1 Z yQ Z Z Z) (zL (zK (pk [0] Z Z) ?_));refine zV (v:=i6_ (a.rel.length:Int)) Z Z Z Z Z (xN Z qH Z) (pk [0] Z Z) (zV Z Z Z Z Z (jO Z Z Z (by omega) (by omega)) (pk [0] Z Z) (yX Z Z ?_ ?_))
    ·
     refine zM Z (zQ 1 Z yQ Z Z Z) (zL (zK (pk [0] Z Z) ?_));refine zV (v:=str (a.rel.take (((a.rel.length:Int) - (1:Int)).toNat))) Z Z Z Z Z (xF Z qQ Z Z (by omega) (by omega)) (pk [0] Z Z) (zX Z (yT (xs:=[.const (str ([])),.const (str ([50])),.const (str ([48,49]))]) (vs:=[str ([]),str ([50]),str ([48,49])]) jR Z Z Z Z Z Z (by decide) Z fun p32_2 hp32_2=>(zL (zK (pk [1] Z Z) ?_))));refine zX Z (yI (rp:=rp) (RT:=104) (p:=p_6) (bv:=bv) (hs:=hs) (ok:=fun (v:List UInt8) p'=>v∈([[],[50],[48,49]]:List (List UInt8))∧p'=p_6+1) (v:=fun (v:List UInt8)=>str v) (new:=fun (v:List UInt8)=>[]) (xs:=[.tmp 31,.tmp 32]) (vs:=[pt_ rp,sl_ p32_2 3 3]) ([bk_ p32_2 #[str ([]),str ([50]),str ([48,49])] 9,bk_ p4 #[i6_ 0,str ([]),str ([])] 24,bk_ p3 #[i6_ a.n,str a.set,str a.rel] 24]:List (Nat×Obj)) Z Z Z Z xT Z (fun w1 hw1=>(of_ok B w0 (([bk_ p32_2 #[str ([]),str ([50]),str ([48,49])] 9,bk_ p4 #[i6_ 0,str ([]),str ([])] 24,bk_ p3 #[i6_ a.n,str a.set,str a.rel] 24]:List (Nat×Obj))++hs) rp p_6 bv L (sl_ p32_2 3 3) ([[],[50],[48,49]]:List (List UInt8)) w1 (fun w2 hw2=>hb w2 (qA (f:=([bk_ p32_2 #[str ([]),str ([50]),str ([48,49])] 9,bk_ p4 #[i6_ 0,str ([]),str ([])] 24,bk_ p3 #[i6_ a.n,str a.set,str a.rel] 24]:List (Nat×Obj))) hw2)) hL8 hL (fun w2 h2=>(xR h2 (i:=0) Z (n:=3) (cap:=3) (vs:=strs ([[],[50],[48,49]]:List (List UInt8))) Z Z (by decide))) (by simp) (by omega) hw1).mono fun en w' ⟨v',p',h1,h2,h3⟩=>⟨v',p',h1,h2,h3⟩) fun v33_3 p_33_3 hKp_33_3=>?_)
     show Ll _ _ (Own _ _ (_::_::_::_::hs)) _ _ ((33,str v33_3)::_) _ _ _
     obtain ⟨hmv33_3,hep_33_3⟩:=hKp_33_3;refine zL (zK (pk [1] Z Z) ?_)
     have hv33:v33_3.length≤2:=by simp at hmv33_3;rcases hmv33_3 with h | h | h <;> subst h <;> decide
     refine zV Z Z Z Z Z (yL Z Z Z (by simp only [zT];omega)) (pk [1] Z Z) (zV Z Z Z Z Z (zH Z qC Z qY Z Z) (pk [1] Z Z) (zX Z (qM (v:=str ((a.rel.take (((a.rel.length:Int) - (1:Int)).toNat))++v33_3)) (hs':=(_::_::bk_ p3 #[i6_ a.n,str a.set,str ((a.rel.take (((a.rel.length:Int) - (1:Int)).toNat))++v33_3)] 24::_::hs)) 2 Z Z Z Z Z Z qY Z (by simp) Z (zL (zK (pk [1] Z Z) ?_)))));refine yM (qJ ((a.n,a.set,(a.rel.take (((a.rel.length:Int) - (1:Int)).toNat))++v33_3,p_33_3)) ⟨⟨by (try dsimp only);omega,by (try dsimp only);omega⟩,by (try dsimp only);omega,by (try dsimp only);simp only [zP,zT,zY,zZ];omega,by (try dsimp only);omega⟩ (Sub.sel [3,4] Z) (fun _ h=>h.sub (qL _ (zA _ (zA _ (zA _ (zO _)))))))
    refine yT (xs:=[.const (str ([])),.const (str ([50])),.const (str ([48,49]))]) (vs:=[str ([]),str ([50]),str ([48,49])]) jR Z Z Z Z Z Z (by decide) Z fun p32_3 hp32_3=>(zL (zK (pk [1] Z Z) ?_));refine yX Z Z ?_ ?_
    ·
     refine zM Z (zQ 2 Z yQ Z Z Z) (zL (zK (pk [1] Z Z) ?_));refine zV (v:=str (a.rel.take (((a.rel.length:Int) - (1:Int)).toNat))) Z Z Z Z Z (xF Z qQ Z Z (by omega) (by omega)) (pk [1] Z Z) (zX Z (yI (rp:=rp) (RT:=104) (p:=p_6) (bv:=bv) (hs:=hs) (ok:=fun (v:List UInt8) p'=>v∈([[],[50],[48,49]]:List (List UInt8))∧p'=p_6+1) (v:=fun (v:List UInt8)=>str v) (new:=fun (v:List UInt8)=>[]) (xs:=[.tmp 31,.tmp 32]) (vs:=[pt_ rp,sl_ p32_3 3 3]) ([bk_ p32_3 #[str ([]),str ([50]),str ([48,49])] 9,bk_ p4 #[i6_ 0,str ([]),str ([])] 24,bk_ p3 #[i6_ a.n,str a.set,str a.rel] 24]:List (Nat×Obj)) Z Z Z Z xT Z (fun w1 hw1=>(of_ok B w0 (([bk_ p32_3 #[str ([]),str ([50]),str ([48,49])] 9,bk_ p4 #[i6_ 0,str ([]),str ([])] 24,bk_ p3 #[i6_ a.n,str a.set,str a.rel] 24]:List (Nat×Obj))++hs) rp p_6 bv L (sl_ p32_3 3 3) ([[],[50],[48,49]]:List (List UInt8)) w1 (fun w2 hw2=>hb w2 (qA (f:=([bk_ p32_3 #[str ([]),str ([50]),str ([48,49])] 9,bk_ p4 #[i6_ 0,str ([]),str ([])] 24,bk_ p3 #[i6_ a.n,str a.set,str a.rel] 24]:List (Nat×Obj))) hw2)) hL8 hL (fun w2 h2=>(xR h2 (i:=0) Z (n:=3) (cap:=3) (vs:=strs ([[],[50],[48,49]]:List (List UInt8))) Z Z (by decide))) (by simp) (by omega) hw1).mono fun en w' ⟨v',p',h1,h2,h3⟩=>⟨v',p',h1,h2,h3⟩) fun v33_4 p_33_4 hKp_33_4=>?_))
     show Ll _ _ (Own _ _ (_::_::_::_::hs)) _ _ ((33,str v33_4)::_) _ _ _
     obtain ⟨hmv33_4,hep_33_4⟩:=hKp_33_4;refine zL (zK (pk [1] Z Z) ?_)
     have hv33:v33_4.length≤2:=by simp at hmv33_4;rcases hmv33_4 with h | h | h <;> subst h <;> decide
     refine zV Z Z Z Z Z (yL Z Z Z (by simp only [zT];omega)) (pk [1] Z Z) (zV Z Z Z Z Z (zH Z qC Z qY Z Z) (pk [1] Z Z) (zX Z (qM (v:=str ((a.rel.take (((a.rel.length:Int) - (1:Int)).toNat))++v33_4)) (hs':=(_::_::bk_ p3 #[i6_ a.n,str a.set,str ((a.rel.take (((a.rel.length:Int) - (1:Int)).toNat))++v33_4)] 24::_::hs)) 2 Z Z Z Z Z Z qY Z (by simp) Z (zL (zK (pk [1] Z Z) ?_)))));refine yM (qJ ((a.n,a.set,(a.rel.take (((a.rel.length:Int) - (1:Int)).toNat))++v33_4,p_33_4)) ⟨⟨by (try dsimp only);omega,by (try dsimp only);omega⟩,by (try dsimp only);omega,by (try dsimp only);simp only [zP,zT,zY,zZ];omega,by (try dsimp only);omega⟩ (Sub.sel [3,4] Z) (fun _ h=>h.sub (qL _ (zA _ (zA _ (zA _ (zO _)))))))
    refine yI (rp:=rp) (RT:=104) (p:=p_6) (bv:=bv) (hs:=hs) (ok:=fun (v:List UInt8) p'=>v∈([[],[50],[48,49]]:List (List UInt8))∧p'=p_6+1) (v:=fun (v:List UInt8)=>str v) (new:=fun (v:List UInt8)=>[]) (xs:=[.tmp 31,.tmp 32]) (vs:=[pt_ rp,sl_ p32_3 3 3]) ([bk_ p32_3 #[str ([]),str ([50]),str ([48,49])] 9,bk_ p4 #[i6_ 0,str ([]),str ([])] 24,bk_ p3 #[i6_ a.n,str a.set,str a.rel] 24]:List (Nat×Obj)) Z Z Z Z xT Z (fun w1 hw1=>(of_ok B w0 (([bk_ p32_3 #[str ([]),str ([50]),str ([48,49])] 9,bk_ p4 #[i6_ 0,str ([]),str ([])] 24,bk_ p3 #[i6_ a.n,str a.set,str a.rel] 24]:List (Nat×Obj))++hs) rp p_6 bv L (sl_ p32_3 3 3) ([[],[50],[48,49]]:List (List UInt8)) w1 (fun w2 hw2=>hb w2 (qA (f:=([bk_ p32_3 #[str ([]),str ([50]),str ([48,49])] 9,bk_ p4 #[i6_ 0,str ([]),str ([])] 24,bk_ p3 #[i6_ a.n,str a.set,str a.rel] 24]:List (Nat×Obj))) hw2)) hL8 hL (fun w2 h2=>(xR h2 (i:=0) Z (n:=3) (cap:=3) (vs:=strs ([[],[50],[48,49]]:List (List UInt8))) Z Z (by decide))) (by simp) (by omega) hw1).mono fun en w' ⟨v',p',h1,h2,h3⟩=>⟨v',p',h1,h2,h3⟩) fun v33_5 p_33_5 hKp_33_5=>?_
    show Ll _ _ (Own _ _ (_::_::_::_::hs)) _ _ ((33,str v33_5)::_) _ _ _
    obtain ⟨hmv33_5,hep_33_5⟩:=hKp_33_5;refine zL (zK (pk [1] Z Z) ?_);refine zX Z (zM Z (zQ 2 Z yQ Z Z Z) (zL (zK (pk [1] Z Z) ?_)));refine zV (v:=str (a.rel.take (((a.rel.length:Int) - (1:Int)).toNat))) Z Z Z Z Z (xF Z qQ Z Z (by omega) (by omega)) (pk [1] Z Z) ?_
    have hv33:v33_5.length≤2:=by simp at hmv33_5;rcases hmv33_5 with h | h | h <;> subst h <;> decide
    refine zV Z Z Z Z Z (yL Z Z Z (by simp only [zT];omega)) (pk [1] Z Z) (zV Z Z Z Z Z (zH Z qC Z qY Z Z) (pk [1] Z Z) (zX Z (qM (v:=str ((a.rel.take (((a.rel.length:Int) - (1:Int)).toNat))++v33_5)) (hs':=(_::_::bk_ p3 #[i6_ a.n,str a.set,str ((a.rel.take (((a.rel.length:Int) - (1:Int)).toNat))++v33_5)] 24::_::hs)) 2 Z Z Z Z Z Z qY Z (by simp) Z (zL (zK (pk [1] Z Z) ?_)))));refine yM (qJ ((a.n,a.set,(a.rel.take (((a.rel.length:Int) - (1:Int)).toNat))++v33_5,p_33_5)) ⟨⟨by (try dsimp only);omega,by (try dsimp only);omega⟩,by (try dsimp only);omega,by (try dsimp only);simp only [zP,zT,zY,zZ];omega,by (try dsimp only);omega⟩ (Sub.sel [3,4] Z) (fun _ h=>h.sub (qL _ (zA _ (zA _ (zA _ (zO _)))))))
   refine yT (xs:=[.const (str ([])),.const (str ([50])),.const (str ([48,49]))]) (vs:=[str ([]),str ([50]),str ([48,49])]) jR Z Z Z Z Z Z (by decide) Z fun p32_4 hp32_4=>(zL (zK (pk [1] Z Z) ?_));refine Lu.three Z Z Z ?_ ?_ ?_
   ·
    refine zM Z (zQ 2 Z yQ Z Z Z) (zL (zK (pk [1] Z Z) ?_));refine yX Z Z ?_ ?_
    ·
     refine zM Z (zQ 2 Z yQ Z Z Z) (zL (zK (pk [1] Z Z) ?_));refine zV (v:=i6_ (a.rel.length:Int)) Z Z Z Z Z (xN Z qH Z) (pk [1] Z Z) (zV Z Z Z Z Z (jO Z Z Z (by omega) (by omega)) (pk [1] Z Z) (zV (v:=str (a.rel.take (((a.rel.length:Int) - (1:Int)).toNat))) Z Z Z Z Z (xF Z qQ Z Z (by omega) (by omega)) (pk [1] Z Z) (zX Z (yI (rp:=rp) (RT:=104) (p:=p_6) (bv:=bv) (hs:=hs) (ok:=fun (v:List UInt8) p'=>v∈([[],[50],[48,49]]:List (List UInt8))∧p'=p_6+1) (v:=fun (v:List UInt8)=>str v) (new:=fun (v:List UInt8)=>[]) (xs:=[.tmp 31,.tmp 32]) (vs:=[pt_ rp,sl_ p32_4 3 3]) ([bk_ p32_4 #[str ([]),str ([50]),str ([48,49])] 9,bk_ p4 #[i6_ 0,str ([]),str ([])] 24,bk_ p3 #[i6_ a.n,str a.set,str a.rel] 24]:List (Nat×Obj)) Z Z Z Z xT Z (fun w1 hw1=>(of_ok B w0 (([bk_ p32_4 #[str ([]),str ([50]),str ([48,49])] 9,bk_ p4 #[i6_ 0,str ([]),str ([])] 24,bk_ p3 #[i6_ a.n,str a.set,str a.rel] 24]:List (Nat×Obj))++hs) rp p_6 bv L (sl_ p32_4 3 3) ([[],[50],[48,49]]:List (List UInt8)) w1 (fun w2 hw2=>hb w2 (qA (f:=([bk_ p32_4 #[str ([]),str ([50]),str ([48,49])] 9,bk_ p4 #[i6_ 0,str ([]),str ([])] 24,bk_ p3 #[i6_ a.n,str a.set,str a.rel] 24]:List (Nat×Obj))) hw2)) hL8 hL (fun w2 h2=>(xR h2 (i:=0) Z (n:=3) (cap:=3) (vs:=strs ([[],[50],[48,49]]:List (List UInt8))) Z Z (by decide))) (by simp) (by omega) hw1).mono fun en w' ⟨v',p',h1,h2,h3⟩=>⟨v',p',h1,h2,h3⟩) fun v33_6 p_33_6 hKp_33_6=>?_))))
     show Ll _ _ (Own _ _ (_::_::_::_::hs)) _ _ ((33,str v33_6)::_) _ _ _
     obtain ⟨hmv33_6,hep_33_6⟩:=hKp_33_6;refine zL (zK (pk [1] Z Z) ?_)
     have hv33:v33_6.length≤2:=by simp at hmv33_6;rcases hmv33_6 with h | h | h <;> subst h <;> decide
     refine zV Z Z Z Z Z (yL Z Z Z (by simp only [zT];omega)) (pk [1] Z Z) (zV Z Z Z Z Z (zH Z qC Z qY Z Z) (pk [1] Z Z) (zX Z (qM (v:=str ((a.rel.take (((a.rel.length:Int) - (1:Int)).toNat))++v33_6)) (hs':=(_::_::bk_ p3 #[i6_ a.n,str a.set,str ((a.rel.take (((a.rel.length:Int) - (1:Int)).toNat))++v33_6)] 24::_::hs)) 2 Z Z Z Z Z Z qY Z (by simp) Z (zL (zK (pk [1] Z Z) ?_)))));refine yM (qJ ((a.n,a.set,(a.rel.take (((a.rel.length:Int) - (1:Int)).toNat))++v33_6,p_33_6)) ⟨⟨by (try dsimp only);omega,by (try dsimp only);omega⟩,by (try dsimp only);omega,by (try dsimp only);simp only [zP,zT,zY,zZ];omega,by (try dsimp only);omega⟩ (Sub.sel [3,4] Z) (fun _ h=>h.sub (qL _ (zA _ (zA _ (zA _ (zO _)))))))
    refine yI (rp:=rp) (RT:=104) (p:=p_6) (bv:=bv) (hs:=hs) (ok:=fun (v:List UInt8) p'=>v∈([[],[50],[48,49]]:List (List UInt8))∧p'=p_6+1) (v:=fun (v:List UInt8)=>str v) (new:=fun (v:List UInt8)=>[]) (xs:=[.tmp 31,.tmp 32]) (vs:=[pt_ rp,sl_ p32_4 3 3]) ([bk_ p32_4 #[str ([]),str ([50]),str ([48,49])] 9,bk_ p4 #[i6_ 0,str ([]),str ([])] 24,bk_ p3 #[i6_ a.n,str a.set,str a.rel] 24]:List (Nat×Obj)) Z Z Z Z xT Z (fun w1 hw1=>(of_ok B w0 (([bk_ p32_4 #[str ([]),str ([50]),str ([48,49])] 9,bk_ p4 #[i6_ 0,str ([]),str ([])] 24,bk_ p3 #[i6_ a.n,str a.set,str a.rel] 24]:List (Nat×Obj))++hs) rp p_6 bv L (sl_ p32_4 3 3) ([[],[50],[48,49]]:List (List UInt8)) w1 (fun w2 hw2=>hb w2 (qA (f:=([bk_ p32_4 #[str ([]),str ([50]),str ([48,49])] 9,bk_ p4 #[i6_ 0,str ([]),str ([])] 24,bk_ p3 #[i6_ a.n,str a.set,str a.rel] 24]:List (Nat×Obj))) hw2)) hL8 hL (fun w2 h2=>(xR h2 (i:=0) Z (n:=3) (cap:=3) (vs:=strs ([[],[50],[48,49]]:List (List UInt8))) Z Z (by decide))) (by simp) (by omega) hw1).mono fun en w' ⟨v',p',h1,h2,h3⟩=>⟨v',p',h1,h2,h3⟩) fun v33_7 p_33_7 hKp_33_7=>?_
    show Ll _ _ (Own _ _ (_::_::_::_::hs)) _ _ ((33,str v33_7)::_) _ _ _
    obtain ⟨hmv33_7,hep_33_7⟩:=hKp_33_7;refine zL (zK (pk [1] Z Z) ?_);refine zX Z (zM Z (zQ 2 Z yQ Z Z Z) (zL (zK (pk [1] Z Z) ?_)));refine zV (v:=i6_ (a.rel.length:Int)) Z Z Z Z Z (xN Z qH Z) (pk [1] Z Z) (zV Z Z Z Z Z (jO Z Z Z (by omega) (by omega)) (pk [1] Z Z) (zV (v:=str (a.rel.take (((a.rel.length:Int) - (1:Int)).toNat))) Z Z Z Z Z (xF Z qQ Z Z (by omega) (by omega)) (pk [1] Z Z) ?_))
    have hv33:v33_7.length≤2:=by simp at hmv33_7;rcases hmv33_7 with h | h | h <;> subst h <;> decide
    refine zV Z Z Z Z Z (yL Z Z Z (by simp only [zT];omega)) (pk [1] Z Z) (zV Z Z Z Z Z (zH Z qC Z qY Z Z) (pk [1] Z Z) (zX Z (qM (v:=str ((a.rel.take (((a.rel.length:Int) - (1:Int)).toNat))++v33_7)) (hs':=(_::_::bk_ p3 #[i6_ a.n,str a.set,str ((a.rel.take (((a.rel.length:Int) - (1:Int)).toNat))++v33_7)] 24::_::hs)) 2 Z Z Z Z Z Z qY Z (by simp) Z (zL (zK (pk [1] Z Z) ?_)))));refine yM (qJ ((a.n,a.set,(a.rel.take (((a.rel.length:Int) - (1:Int)).toNat))++v33_7,p_33_7)) ⟨⟨by (try dsimp only);omega,by (try dsimp only);omega⟩,by (try dsimp only);omega,by (try dsimp only);simp only [zP,zT,zY,zZ];omega,by (try dsimp only);omega⟩ (Sub.sel [3,4] Z) (fun _ h=>h.sub (qL _ (zA _ (zA _ (zA _ (zO _)))))))
   ·
    refine zM Z (zQ 2 Z yQ Z Z Z) (zL (zK (pk [1] Z Z) ?_));refine zV (v:=i6_ (a.rel.length:Int)) Z Z Z Z Z (xN Z qH Z) (pk [1] Z Z) (zV Z Z Z Z Z (jO Z Z Z (by omega) (by omega)) (pk [1] Z Z) (yX Z Z ?_ ?_))
    ·
     refine zM Z (zQ 2 Z yQ Z Z Z) (zL (zK (pk [1] Z Z) ?_));refine zV (v:=str (a.rel.take (((a.rel.length:Int) - (1:Int)).toNat))) Z Z Z Z Z (xF Z qQ Z Z (by omega) (by omega)) (pk [1] Z Z) (zX Z (yI (rp:=rp) (RT:=104) (p:=p_6) (bv:=bv) (hs:=hs) (ok:=fun (v:List UInt8) p'=>v∈([[],[50],[48,49]]:List (List UInt8))∧p'=p_6+1) (v:=fun (v:List UInt8)=>str v) (new:=fun (v:List UInt8)=>[]) (xs:=[.tmp 31,.tmp 32]) (vs:=[pt_ rp,sl_ p32_4 3 3]) ([bk_ p32_4 #[str ([]),str ([50]),str ([48,49])] 9,bk_ p4 #[i6_ 0,str ([]),str ([])] 24,bk_ p3 #[i6_ a.n,str a.set,str a.rel] 24]:List (Nat×Obj)) Z Z Z Z xT Z (fun w1 hw1=>(of_ok B w0 (([bk_ p32_4 #[str ([]),str ([50]),str ([48,49])] 9,bk_ p4 #[i6_ 0,str ([]),str ([])] 24,bk_ p3 #[i6_ a.n,str a.set,str a.rel] 24]:List (Nat×Obj))++hs) rp p_6 bv L (sl_ p32_4 3 3) ([[],[50],[48,49]]:List (List UInt8)) w1 (fun w2 hw2=>hb w2 (qA (f:=([bk_ p32_4 #[str ([]),str ([50]),str ([48,49])] 9,bk_ p4 #[i6_ 0,str ([]),str ([])] 24,bk_ p3 #[i6_ a.n,str a.set,str a.rel] 24]:List (Nat×Obj))) hw2)) hL8 hL (fun w2 h2=>(xR h2 (i:=0) Z (n:=3) (cap:=3) (vs:=strs ([[],[50],[48,49]]:List (List UInt8))) Z Z (by decide))) (by simp) (by omega) hw1).mono fun en w' ⟨v',p',h1,h2,h3⟩=>⟨v',p',h1,h2,h3⟩) fun v33_8 p_33_8 hKp_33_8=>?_))
     show Ll _ _ (Own _ _ (_::_::_::_::hs)) _ _ ((33,str v33_8)::_) _ _ _
     obtain ⟨hmv33_8,hep_33_8⟩:=hKp_33_8;refine zL (zK (pk [1] Z Z) ?_)
     have hv33:v33_8.length≤2:=by simp at hmv33_8;rcases hmv33_8 with h | h | h <;> subst h <;> decide
     refine zV Z Z Z Z Z (yL Z Z Z (by simp only [zT];omega)) (pk [1] Z Z) (zV Z Z Z Z Z (zH Z qC Z qY Z Z) (pk [1] Z Z) (zX Z (qM (v:=str ((a.rel.take (((a.rel.length:Int) - (1:Int)).toNat))++v33_8)) (hs':=(_::_::bk_ p3 #[i6_ a.n,str a.set,str ((a.rel.take (((a.rel.length:Int) - (1:Int)).toNat))++v33_8)] 24::_::hs)) 2 Z Z Z Z Z Z qY Z (by simp) Z (zL (zK (pk [1] Z Z) ?_)))));refine yM (qJ ((a.n,a.set,(a.rel.take (((a.rel.length:Int) - (1:Int)).toNat))++v33_8,p_33_8)) ⟨⟨by (try dsimp only);omega,by (try dsimp only);omega⟩,by (try dsimp only);omega,by (try dsimp only);simp only [zP,zT,zY,zZ];omega,by (try dsimp only);omega⟩ (Sub.sel [3,4] Z) (fun _ h=>h.sub (qL _ (zA _ (zA _ (zA _ (zO _)))))))
    refine yI (rp:=rp) (RT:=104) (p:=p_6) (bv:=bv) (hs:=hs) (ok:=fun (v:List UInt8) p'=>v∈([[],[50],[48,49]]:List (List UInt8))∧p'=p_6+1) (v:=fun (v:List UInt8)=>str v) (new:=fun (v:List UInt8)=>[]) (xs:=[.tmp 31,.tmp 32]) (vs:=[pt_ rp,sl_ p32_4 3 3]) ([bk_ p32_4 #[str ([]),str ([50]),str ([48,49])] 9,bk_ p4 #[i6_ 0,str ([]),str ([])] 24,bk_ p3 #[i6_ a.n,str a.set,str a.rel] 24]:List (Nat×Obj)) Z Z Z Z xT Z (fun w1 hw1=>(of_ok B w0 (([bk_ p32_4 #[str ([]),str ([50]),str ([48,49])] 9,bk_ p4 #[i6_ 0,str ([]),str ([])] 24,bk_ p3 #[i6_ a.n,str a.set,str a.rel] 24]:List (Nat×Obj))++hs) rp p_6 bv L (sl_ p32_4 3 3) ([[],[50],[48,49]]:List (List UInt8)) w1 (fun w2 hw2=>hb w2 (qA (f:=([bk_ p32_4 #[str ([]),str ([50]),str ([48,49])] 9,bk_ p4 #[i6_ 0,str ([]),str ([])] 24,bk_ p3 #[i6_ a.n,str a.set,str a.rel] 24]:List (Nat×Obj))) hw2)) hL8 hL (fun w2 h2=>(xR h2 (i:=0) Z (n:=3) (cap:=3) (vs:=strs ([[],[50],[48,49]]:List (List UInt8))) Z Z (by decide))) (by simp) (by omega) hw1).mono fun en w' ⟨v',p',h1,h2,h3⟩=>⟨v',p',h1,h2,h3⟩) fun v33_9 p_33_9 hKp_33_9=>?_
    show Ll _ _ (Own _ _ (_::_::_::_::hs)) _ _ ((33,str v33_9)::_) _ _ _
    obtain ⟨hmv33_9,hep_33_9⟩:=hKp_33_9;refine zL (zK (pk [1] Z Z) ?_);refine zX Z (zM Z (zQ 2 Z yQ Z Z Z) (zL (zK (pk [1] Z Z) ?_)));refine zV (v:=str (a.rel.take (((a.rel.length:Int) - (1:Int)).toNat))) Z Z Z Z Z (xF Z qQ Z Z (by omega) (by omega)) (pk [1] Z Z) ?_
    have hv33:v33_9.length≤2:=by simp at hmv33_9;rcases hmv33_9 with h | h | h <;> subst h <;> decide
    refine zV Z Z Z Z Z (yL Z Z Z (by simp only [zT];omega)) (pk [1] Z Z) (zV Z Z Z Z Z (zH Z qC Z qY Z Z) (pk [1] Z Z) (zX Z (qM (v:=str ((a.rel.take (((a.rel.length:Int) - (1:Int)).toNat))++v33_9)) (hs':=(_::_::bk_ p3 #[i6_ a.n,str a.set,str ((a.rel.take (((a.rel.length:Int) - (1:Int)).toNat))++v33_9)] 24::_::hs)) 2 Z Z Z Z Z Z qY Z (by simp) Z (zL (zK (pk [1] Z Z) ?_)))));refine yM (qJ ((a.n,a.set,(a.rel.take (((a.rel.length:Int) - (1:Int)).toNat))++v33_9,p_33_9)) ⟨⟨by (try dsimp only);omega,by (try dsimp only);omega⟩,by (try dsimp only);omega,by (try dsimp only);simp only [zP,zT,zY,zZ];omega,by (try dsimp only);omega⟩ (Sub.sel [3,4] Z) (fun _ h=>h.sub (qL _ (zA _ (zA _ (zA _ (zO _)))))))
   refine yI (rp:=rp) (RT:=104) (p:=p_6) (bv:=bv) (hs:=hs) (ok:=fun (v:List UInt8) p'=>v∈([[],[50],[48,49]]:List (List UInt8))∧p'=p_6+1) (v:=fun (v:List UInt8)=>str v) (new:=fun (v:List UInt8)=>[]) (xs:=[.tmp 31,.tmp 32]) (vs:=[pt_ rp,sl_ p32_4 3 3]) ([bk_ p32_4 #[str ([]),str ([50]),str ([48,49])] 9,bk_ p4 #[i6_ 0,str ([]),str ([])] 24,bk_ p3 #[i6_ a.n,str a.set,str a.rel] 24]:List (Nat×Obj)) Z Z Z Z xT Z (fun w1 hw1=>(of_ok B w0 (([bk_ p32_4 #[str ([]),str ([50]),str ([48,49])] 9,bk_ p4 #[i6_ 0,str ([]),str ([])] 24,bk_ p3 #[i6_ a.n,str a.set,str a.rel] 24]:List (Nat×Obj))++hs) rp p_6 bv L (sl_ p32_4 3 3) ([[],[50],[48,49]]:List (List UInt8)) w1 (fun w2 hw2=>hb w2 (qA (f:=([bk_ p32_4 #[str ([]),str ([50]),str ([48,49])] 9,bk_ p4 #[i6_ 0,str ([]),str ([])] 24,bk_ p3 #[i6_ a.n,str a.set,str a.rel] 24]:List (Nat×Obj))) hw2)) hL8 hL (fun w2 h2=>(xR h2 (i:=0) Z (n:=3) (cap:=3) (vs:=strs ([[],[50],[48,49]]:List (List UInt8))) Z Z (by decide))) (by simp) (by omega) hw1).mono fun en w' ⟨v',p',h1,h2,h3⟩=>⟨v',p',h1,h2,h3⟩) fun v33_10 p_33_10 hKp_33_10=>?_
   show Ll _ _ (Own _ _ (_::_::_::_::hs)) _ _ ((33,str v33_10)::_) _ _ _
   obtain ⟨hmv33_10,hep_33_10⟩:=hKp_33_10;refine zL (zK (pk [1] Z Z) ?_);refine yX Z Z ?_ ?_
   ·
    refine zM Z (zQ 2 Z yQ Z Z Z) (zL (zK (pk [1] Z Z) ?_));refine zX Z (zM Z (zQ 2 Z yQ Z Z Z) (zL (zK (pk [1] Z Z) ?_)));refine zV (v:=i6_ (a.rel.length:Int)) Z Z Z Z Z (xN Z qH Z) (pk [1] Z Z) (zV Z Z Z Z Z (jO Z Z Z (by omega) (by omega)) (pk [1] Z Z) (zV (v:=str (a.rel.take (((a.rel.length:Int) - (1:Int)).toNat))) Z Z Z Z Z (xF Z qQ Z Z (by omega) (by omega)) (pk [1] Z Z) ?_))
    have hv33:v33_10.length≤2:=by simp at hmv33_10;rcases hmv33_10 with h | h | h <;> subst h <;> decide
    refine zV Z Z Z Z Z (yL Z Z Z (by simp only [zT];omega)) (pk [1] Z Z) (zV Z Z Z Z Z (zH Z qC Z qY Z Z) (pk [1] Z Z) (zX Z (qM (v:=str ((a.rel.take (((a.rel.length:Int) - (1:Int)).toNat))++v33_10)) (hs':=(_::_::bk_ p3 #[i6_ a.n,str a.set,str ((a.rel.take (((a.rel.length:Int) - (1:Int)).toNat))++v33_10)] 24::_::hs)) 2 Z Z Z Z Z Z qY Z (by simp) Z (zL (zK (pk [1] Z Z) ?_)))));refine yM (qJ ((a.n,a.set,(a.rel.take (((a.rel.length:Int) - (1:Int)).toNat))++v33_10,p_33_10)) ⟨⟨by (try dsimp only);omega,by (try dsimp only);omega⟩,by (try dsimp only);omega,by (try dsimp only);simp only [zP,zT,zY,zZ];omega,by (try dsimp only);omega⟩ (Sub.sel [3,4] Z) (fun _ h=>h.sub (qL _ (zA _ (zA _ (zA _ (zO _)))))))
   refine zM Z (zQ 2 Z yQ Z Z Z) (zL (zK (pk [1] Z Z) ?_));refine zV (v:=i6_ (a.rel.length:Int)) Z Z Z Z Z (xN Z qH Z) (pk [1] Z Z) (zV Z Z Z Z Z (jO Z Z Z (by omega) (by omega)) (pk [1] Z Z) (zX Z (zM Z (zQ 2 Z yQ Z Z Z) (zL (zK (pk [1] Z Z) ?_)))));refine zV (v:=str (a.rel.take (((a.rel.length:Int) - (1:Int)).toNat))) Z Z Z Z Z (xF Z qQ Z Z (by omega) (by omega)) (pk [1] Z Z) ?_
   have hv33:v33_10.length≤2:=by simp at hmv33_10;rcases hmv33_10 with h | h | h <;> subst h <;> decide
   refine zV Z Z Z Z Z (yL Z Z Z (by simp only [zT];omega)) (pk [1] Z Z) (zV Z Z Z Z Z (zH Z qC Z qY Z Z) (pk [1] Z Z) (zX Z (qM (v:=str ((a.rel.take (((a.rel.length:Int) - (1:Int)).toNat))++v33_10)) (hs':=(_::_::bk_ p3 #[i6_ a.n,str a.set,str ((a.rel.take (((a.rel.length:Int) - (1:Int)).toNat))++v33_10)] 24::_::hs)) 2 Z Z Z Z Z Z qY Z (by simp) Z (zL (zK (pk [1] Z Z) ?_)))));refine yM (qJ ((a.n,a.set,(a.rel.take (((a.rel.length:Int) - (1:Int)).toNat))++v33_10,p_33_10)) ⟨⟨by (try dsimp only);omega,by (try dsimp only);omega⟩,by (try dsimp only);omega,by (try dsimp only);simp only [zP,zT,zY,zZ];omega,by (try dsimp only);omega⟩ (Sub.sel [3,4] Z) (fun _ h=>h.sub (qL _ (zA _ (zA _ (zA _ (zO _)))))))
  refine zE (zB (zC 2 Z (zI (zD [3,4,36] [_,_,_] Z (yE Z (fun h36=>?_) (fun h36=>?_))))))
  ·
   refine zE (qF (Ll.callSome (ok:=fun (t:List UInt8)=>t.length≤40000) (v:=fun (t:List UInt8)=>str t) (xs:=[.const (str ([48])),.const (i6_ 9)]) (vs:=[str ([48]),i6_ 9]) Z Z Z Z Tryd.call113 Z (fun w1 hw1=>(many_ok ([48]) w1 9 (by decide) (by decide) Z).mono fun en w' ⟨t,h1,h2,h3⟩=>⟨t,h1,h2,h3⟩) fun t38 hS38=>?_))
   show Ll _ _ (Own _ _ (_::_::_::hs)) _ _ ((38,str t38)::_) _ _ _
   have hlt38:=hS38;refine Ll.callSome (ok:=fun (t:List UInt8)=>t.length≤40000) (v:=fun (t:List UInt8)=>str t) (xs:=[.const (str ([49])),.const (i6_ 81)]) (vs:=[str ([49]),i6_ 81]) Z Z Z Z Tryd.call113 Z (fun w1 hw1=>(many_ok ([49]) w1 81 (by decide) (by decide) Z).mono fun en w' ⟨t,h1,h2,h3⟩=>⟨t,h1,h2,h3⟩) fun t39 hS39=>?_
   show Ll _ _ (Own _ _ (_::_::_::hs)) _ _ ((39,str t39)::_) _ _ _
   have hlt39:=hS39;refine zM (v:=.agg #[i6_ 9,str t38,str t39]) Z (OpQ.build (xs:=[.const (i6_ 9),.tmp 38,.tmp 39]) (vs:=[i6_ 9,str t38,str t39]) Z Z (by kernel_rfl)) (jJ (cs':=#[i6_ 9,str t38,str t39]) (hs':=(bk_ p4 #[i6_ 9,str t38,str t39] 24::_::_::hs)) 0 Z Z Z Z Z (by kernel_rfl:_=some Tryd.t24) Z Z Z Z Z (zL (zD [4] [_] Z (qK (Kt.endBox (cs:=#[i6_ 9,str t38,str t39]) 0 Z Z Z qV qT fun w' hw=>?_)))))
   exact ⟨⟨9,t38,t39⟩,p_6,rfl,⟨⟨⟨by dsimp only;omega,by dsimp only;omega⟩,by dsimp only;omega,by dsimp only;omega⟩,by omega⟩,hw.sub (qL _ (qL _ (zA _ (zO _))))⟩
  refine qN (qJ (a.n,a.set,a.rel,p_6) ⟨⟨by (try dsimp only);omega,by (try dsimp only);omega⟩,by (try dsimp only);omega,by (try dsimp only);omega,by (try dsimp only);omega⟩ (Sub.sel [3,4] Z) (fun _ h=>h.sub (zA _ (zA _ (zA _ (zO _))))))
 rintro ⟨N,S,R,p9⟩ ⟨⟨hN0,hN1⟩,hS,hR,hp9⟩
 dsimp only;refine zD [3,4] [_,_] Z (zE (qF (zM Z (qW (cs:=#[i6_ N,str S,str R]) 1 Z qV Z Z qT) (jJ (cs':=#[i6_ N,str S,str R]) (hs':=(bk_ p4 #[i6_ N,str S,str R] 24::_::_::hs)) 0 Z Z Z Z Z (by kernel_rfl:_=some Tryd.t24) Z Z Z Z Z (zL (zD [4] [_] Z (qK (Kt.endBox (cs:=#[i6_ N,str S,str R]) 0 Z Z Z qV qT fun w' hw=>?_))))))))
 exact ⟨⟨N,S,R⟩,p9,rfl,⟨⟨⟨by dsimp only;omega,by dsimp only;omega⟩,by dsimp only;omega,by dsimp only;omega⟩,by omega⟩,hw.sub (qL _ (qL _ (zA _ (zO _))))⟩
end Go.Proofs.YtagbocafnliabaaDoor
namespace Go.Proofs.YtagbocafnliabaaDoor
open Go.RowKit Go.Wk
set_option linter.unusedSimpArgs false
set_option maxHeartbeats 400000 in
theorem l2Draw_step (B:Nat) (w0:World) (hs:List (Nat×Obj)) (rp p:Nat) (bv:Value) (L:List Int) (dep:Int) (vs:List UInt8) (cn:Bool) (w:World) (hb:∀ w,Own B w0 hs w→Row w bv (u8s L)) (hL8:Bytes8 L) (hL:L.length≤2000) (hd:dep≤4) (hv1:1≤vs.length) (hv4:vs.length≤4) (hp:p+10*drawN dep≤900000) (ih:∀ (B:Nat) (w0:World) (hs:List (Nat×Obj)) (rp p:Nat) (bv:Value) (L:List Int) (dep2:Int) (vs2:List UInt8) (cn2:Bool) (w:World),(∀ w,Own B w0 hs w→Row w bv (u8s L))→Bytes8 L→L.length≤2000→dep2.toNat<dep.toNat→dep2≤4→1≤vs2.length→vs2.length≤4→p+10*drawN dep2≤900000→Own B w0 ((rp,.cells #[bv,.int .i64 (p:Int)] 104 (0,0))::hs) w→Calls Tryd.prog 102 #[.pointer (some ⟨rp,0,none⟩),.int .i64 dep2,str vs2,.bool cn2] w fun en w'=>∃ f:List UInt8,∃ p':Nat,en=.returned (str f)∧((1≤f.length∧f.length+1≤4*drawN dep2)∧p'+5≤p+10*drawN dep2)∧Own B w0 ((rp,.cells #[bv,.int .i64 (p':Int)] 104 (0,0))::hs) w') (hw:Own B w0 ((rp,.cells #[bv,.int .i64 (p:Int)] 104 (0,0))::hs) w) :
    Calls Tryd.prog 102 [pt_ rp,i6_ dep,str vs,bo_ cn].toArray w fun en w'=>∃ f:List UInt8,∃ p':Nat,en=.returned (str f)∧((1≤f.length∧f.length+1≤4*drawN dep)∧p'+5≤p+10*drawN dep)∧Own B w0 (((rp,.cells #[bv,.int .i64 (p':Int)] 104 (0,0))::hs)) w':=by
 refine fnStartC (Own B w0 ((rp,.cells #[bv,.int .i64 (p:Int)] 104 (0,0))::hs)) (n:=132) (e:=[(0,pt_ rp),(1,i6_ dep),(2,str vs),(3,bo_ cn)]) Tryd.func102 Z Z Z Z Ends.both hw ?_
 have hN1:=drawN_pos dep
 have hN2:=drawN_pos (dep - 1)
 have hNs:=drawN_step dep
 have hNl:=drawN_le hd;refine zE (zB (zG (v:=str ([])) Z (jS Z Z) (zI (zD [0,1,2,3] [_,_,_,_] Z (zE (qF (qI 1 Z (yI (rp:=rp) (RT:=104) (p:=p) (bv:=bv) (hs:=hs) (ok:=fun (k:Int) p'=>0≤k∧(1≤(12:Int)→k<12)∧p'=p+1) (v:=fun (k:Int)=>i6_ k) (new:=fun (k:Int)=>[]) (xs:=[.tmp 15,.const (i6_ 12)]) (vs:=[pt_ rp,i6_ 12]) ([]:List (Nat×Obj)) Z Z Z Z xS Z (fun w1 hw1=>(pick_ok B w0 (([]:List (Nat×Obj))++hs) rp p bv L 12 w1 (fun w2 hw2=>hb w2 (qA (f:=([]:List (Nat×Obj))) hw2)) hL8 hL (by omega) hw1).mono fun en w' ⟨k',p',h1,h2,h3⟩=>⟨k',p',h1,h2,h3⟩) fun k16 p_16 hKp_16=>?_))))))))
 show Ll _ _ (Own _ _ (_::hs)) _ _ ((16,i6_ k16)::_) _ _ _
 obtain ⟨h0k16,h1k16,hep_16⟩:=hKp_16
 try have hltk16:=h1k16 (by first | omega | (split <;> omega) | decide);refine qI 1 Z (zL (zD [0,1,2,3,9] [_,_,_,_,_] Z (zE (qF (qI 2 Z (zM (v:=i6_ (vs.length:Int)) Z (xN Z qH Z) (yI (rp:=rp) (RT:=104) (p:=p_16) (bv:=bv) (hs:=hs) (ok:=fun (k:Int) p'=>0≤k∧(1≤(vs.length:Int)→k<(vs.length:Int))∧p'=p_16+1) (v:=fun (k:Int)=>i6_ k) (new:=fun (k:Int)=>[]) (xs:=[.tmp 17,.tmp 19]) (vs:=[pt_ rp,i6_ (vs.length:Int)]) ([]:List (Nat×Obj)) Z Z Z Z xS Z (fun w1 hw1=>(pick_ok B w0 (([]:List (Nat×Obj))++hs) rp p_16 bv L (vs.length:Int) w1 (fun w2 hw2=>hb w2 (qA (f:=([]:List (Nat×Obj))) hw2)) hL8 hL (by omega) hw1).mono fun en w' ⟨k',p',h1,h2,h3⟩=>⟨k',p',h1,h2,h3⟩) fun k20 p_20 hKp_20=>?_)))))))
 show Ll _ _ (Own _ _ (_::hs)) _ _ ((20,i6_ k20)::_) _ _ _
 obtain ⟨h0k20,h1k20,hep_20⟩:=hKp_20
 try have hltk20:=h1k20 (by first | omega | (split <;> omega) | decide);refine qI 1 Z (zL (zD [0,1,2,3,9,10] [_,_,_,_,_,_] Z (zE (qF (qI 2 Z (zM (v:=i6_ (vs.length:Int)) Z (xN Z qH Z) (yI (rp:=rp) (RT:=104) (p:=p_20) (bv:=bv) (hs:=hs) (ok:=fun (k:Int) p'=>0≤k∧(1≤(vs.length:Int)→k<(vs.length:Int))∧p'=p_20+1) (v:=fun (k:Int)=>i6_ k) (new:=fun (k:Int)=>[]) (xs:=[.tmp 21,.tmp 23]) (vs:=[pt_ rp,i6_ (vs.length:Int)]) ([]:List (Nat×Obj)) Z Z Z Z xS Z (fun w1 hw1=>(pick_ok B w0 (([]:List (Nat×Obj))++hs) rp p_20 bv L (vs.length:Int) w1 (fun w2 hw2=>hb w2 (qA (f:=([]:List (Nat×Obj))) hw2)) hL8 hL (by omega) hw1).mono fun en w' ⟨k',p',h1,h2,h3⟩=>⟨k',p',h1,h2,h3⟩) fun k24 p_24 hKp_24=>?_)))))))
 show Ll _ _ (Own _ _ (_::hs)) _ _ ((24,i6_ k24)::_) _ _ _
 obtain ⟨h0k24,h1k24,hep_24⟩:=hKp_24
 try have hltk24:=h1k24 (by first | omega | (split <;> omega) | decide);refine qI 1 Z (zL (zD [0,1,2,3,9,10,11] [_,_,_,_,_,_,_] Z (zE (qZ (zE (zB (zC 3 Z (xH fun b28 hg28=>?_))))))))
 cases b28
 ·
  replace hg28:=zS hg28;refine zC 4 Z (zI (zD [0,1,2,3,9,10,11,25] [_,_,_,_,_,_,_,_] Z (yE Z (fun h25=>?_) (fun h25=>?_))))
  ·
   refine zE (zE (qF (qI 1 Z (yI (rp:=rp) (RT:=104) (p:=p_24) (bv:=bv) (hs:=hs) (ok:=fun (k:Int) p'=>0≤k∧(1≤(8:Int)→k<8)∧p'=p_24+1) (v:=fun (k:Int)=>i6_ k) (new:=fun (k:Int)=>[]) (xs:=[.tmp 32,.const (i6_ 8)]) (vs:=[pt_ rp,i6_ 8]) ([]:List (Nat×Obj)) Z Z Z Z xS Z (fun w1 hw1=>(pick_ok B w0 (([]:List (Nat×Obj))++hs) rp p_24 bv L 8 w1 (fun w2 hw2=>hb w2 (qA (f:=([]:List (Nat×Obj))) hw2)) hL8 hL (by omega) hw1).mono fun en w' ⟨k',p',h1,h2,h3⟩=>⟨k',p',h1,h2,h3⟩) fun k33 p_33 hKp_33=>?_))))
   show Ll _ _ (Own _ _ (_::hs)) _ _ ((33,i6_ k33)::_) _ _ _
   obtain ⟨h0k33,h1k33,hep_33⟩:=hKp_33
   try have hltk33:=h1k33 (by first | omega | (split <;> omega) | decide);refine zL (zD [0,2,10,11,33] [_,_,_,_,_] Z (qZ (zE (zB (zC 2 Z (zI (zD [0,2,10,11,33,34] [_,_,_,_,_,_] Z (yE Z (fun h34=>?_) (fun h34=>?_)))))))))
   ·
    refine zE (qF (qI 1 Z (yT (xs:=[.const (str ([116])),.const (str ([102]))]) (vs:=[str ([116]),str ([102])]) jR Z Z Z Z Z Z (by decide) Z fun p37 hp37=>(yI (rp:=rp) (RT:=104) (p:=p_33) (bv:=bv) (hs:=hs) (ok:=fun (v:List UInt8) p'=>v∈([[116],[102]]:List (List UInt8))∧p'=p_33+1) (v:=fun (v:List UInt8)=>str v) (new:=fun (v:List UInt8)=>[]) (xs:=[.tmp 36,.tmp 37]) (vs:=[pt_ rp,sl_ p37 2 2]) ([bk_ p37 #[str ([116]),str ([102])] 9]:List (Nat×Obj)) Z Z Z Z xT Z (fun w1 hw1=>(of_ok B w0 (([bk_ p37 #[str ([116]),str ([102])] 9]:List (Nat×Obj))++hs) rp p_33 bv L (sl_ p37 2 2) ([[116],[102]]:List (List UInt8)) w1 (fun w2 hw2=>hb w2 (qA (f:=([bk_ p37 #[str ([116]),str ([102])] 9]:List (Nat×Obj))) hw2)) hL8 hL (fun w2 h2=>(xR h2 (i:=0) Z (n:=2) (cap:=2) (vs:=strs ([[116],[102]]:List (List UInt8))) Z Z (by decide))) (by simp) (by omega) hw1).mono fun en w' ⟨v',p',h1,h2,h3⟩=>⟨v',p',h1,h2,h3⟩) fun v38 p_38 hKp_38=>?_))))
    show Ll _ _ (Own _ _ (_::_::hs)) _ _ ((38,str v38)::_) _ _ _
    obtain ⟨hmv38,hep_38⟩:=hKp_38
    have hqv38:=len_of (a:=1) (b:=1) hmv38 (by decide);refine qI 1 Z (zL (zD [8] [_] Z (qK (qO Z Z fun w' hw=>?_))))
    exact ⟨v38,p_38,rfl,⟨⟨(by (try dsimp only);(try simp only [zP,zY,zZ,zT,qB]);omega),(by (try dsimp only);(try simp only [zP,zY,zZ,zT,qB]);omega)⟩,by omega⟩,hw.sub (qL _ (zA _ (zO _)))⟩
   refine zE (zE (zB (zC 2 Z (zI (zD [2,10,11,33,39] [_,_,_,_,_] Z (yE Z (fun h39=>?_) (fun h39=>?_)))))))
   ·
    refine qN (zD [2,10,11,33,39] [_,_,_,_,_] Z (yE Z (fun h39_1=>?_) (fun h39_1=>?_)))
    ·
     refine zE (zB (zC 3 Z (zG Z (qS Z Z Z (by omega) (by omega)) (zG (v:=str ((vs.drop ((k20).toNat)).take ((k20+(1:Int)).toNat - (k20).toNat))) Z (yY Z qQ Z Z Z (by omega) (by omega) (by first | omega | (simp;omega))) (zG Z (yL Z Z Z (by first | omega | (simp only [zP,zY,zZ,zT,qB];omega))) (zC 1 Z (zI (zD [8] [_] Z (qK (qO Z Z fun w' hw=>?_))))))))))
     exact ⟨([80])++((vs.drop ((k20).toNat)).take ((k20+(1:Int)).toNat - (k20).toNat)),p_33,rfl,⟨⟨(by (try dsimp only);(try simp only [zP,zY,zZ,zT,qB]);omega),(by (try dsimp only);(try simp only [zP,zY,zZ,zT,qB]);omega)⟩,by omega⟩,hw.sub (zA _ (zO _))⟩
    refine zE (zB (zC 2 Z (zI (zD [2,10,11,48] [_,_,_,_] Z (yE Z (fun h48=>?_) (fun h48=>?_))))))
    ·
     refine zE (jG yH (fun _ h=>h.drawn) (by kernel_rfl) (zC 3 Z (zG Z (qS Z Z Z (by omega) (by omega)) (zG (v:=str ((vs.drop ((k20).toNat)).take ((k20+(1:Int)).toNat - (k20).toNat))) Z (yY Z qQ Z Z Z (by omega) (by omega) (by first | omega | (simp;omega))) (zG Z (yL Z Z Z (by first | omega | (simp only [zP,zY,zZ,zT,qB];omega))) (zC 3 Z (zG Z (qS Z Z Z (by omega) (by omega)) (zG (v:=str ((vs.drop ((k24).toNat)).take ((k24+(1:Int)).toNat - (k24).toNat))) Z (yY Z qQ Z Z Z (by omega) (by omega) (by first | omega | (simp;omega))) (zG Z (yL Z Z Z (by first | omega | (simp only [zP,zY,zZ,zT,qB];omega))) (zC 1 Z (zI (zD [8] [_] Z (qK (qO Z Z fun w' hw=>?_))))))))))))))
     exact ⟨(([61])++((vs.drop ((k20).toNat)).take ((k20+(1:Int)).toNat - (k20).toNat)))++((vs.drop ((k24).toNat)).take ((k24+(1:Int)).toNat - (k24).toNat)),p_33,rfl,⟨⟨(by (try dsimp only);(try simp only [zP,zY,zZ,zT,qB]);omega),(by (try dsimp only);(try simp only [zP,zY,zZ,zT,qB]);omega)⟩,by omega⟩,hw.sub (zA _ (zO _))⟩
    refine qN (zD [2,10,11] [_,_,_] Z (zE (jG yH (fun _ h=>h.drawn) (by kernel_rfl) (zC 3 Z (zG Z (qS Z Z Z (by omega) (by omega)) (zG (v:=str ((vs.drop ((k20).toNat)).take ((k20+(1:Int)).toNat - (k20).toNat))) Z (yY Z qQ Z Z Z (by omega) (by omega) (by first | omega | (simp;omega))) (zG Z (yL Z Z Z (by first | omega | (simp only [zP,zY,zZ,zT,qB];omega))) (zC 3 Z (zG Z (qS Z Z Z (by omega) (by omega)) (zG (v:=str ((vs.drop ((k24).toNat)).take ((k24+(1:Int)).toNat - (k24).toNat))) Z (yY Z qQ Z Z Z (by omega) (by omega) (by first | omega | (simp;omega))) (zG Z (yL Z Z Z (by first | omega | (simp only [zP,zY,zZ,zT,qB];omega))) (zC 1 Z (zI (zD [8] [_] Z (qK (qO Z Z fun w' hw=>?_))))))))))))))))
    exact ⟨(([69])++((vs.drop ((k20).toNat)).take ((k20+(1:Int)).toNat - (k20).toNat)))++((vs.drop ((k24).toNat)).take ((k24+(1:Int)).toNat - (k24).toNat)),p_33,rfl,⟨⟨(by (try dsimp only);(try simp only [zP,zY,zZ,zT,qB]);omega),(by (try dsimp only);(try simp only [zP,zY,zZ,zT,qB]);omega)⟩,by omega⟩,hw.sub (zA _ (zO _))⟩
   refine zB (zC 2 Z (zI (zD [2,10,11,33,39] [_,_,_,_,_] Z (yE Z (fun h39_2=>?_) (fun h39_2=>?_)))))
   ·
    refine zE (zB (zC 3 Z (zG Z (qS Z Z Z (by omega) (by omega)) (zG (v:=str ((vs.drop ((k20).toNat)).take ((k20+(1:Int)).toNat - (k20).toNat))) Z (yY Z qQ Z Z Z (by omega) (by omega) (by first | omega | (simp;omega))) (zG Z (yL Z Z Z (by first | omega | (simp only [zP,zY,zZ,zT,qB];omega))) (zC 1 Z (zI (zD [8] [_] Z (qK (qO Z Z fun w' hw=>?_))))))))))
    exact ⟨([80])++((vs.drop ((k20).toNat)).take ((k20+(1:Int)).toNat - (k20).toNat)),p_33,rfl,⟨⟨(by (try dsimp only);(try simp only [zP,zY,zZ,zT,qB]);omega),(by (try dsimp only);(try simp only [zP,zY,zZ,zT,qB]);omega)⟩,by omega⟩,hw.sub (zA _ (zO _))⟩
   refine zE (zB (zC 2 Z (zI (zD [2,10,11,48] [_,_,_,_] Z (yE Z (fun h48_1=>?_) (fun h48_1=>?_))))))
   ·
    refine zE (jG yH (fun _ h=>h.drawn) (by kernel_rfl) (zC 3 Z (zG Z (qS Z Z Z (by omega) (by omega)) (zG (v:=str ((vs.drop ((k20).toNat)).take ((k20+(1:Int)).toNat - (k20).toNat))) Z (yY Z qQ Z Z Z (by omega) (by omega) (by first | omega | (simp;omega))) (zG Z (yL Z Z Z (by first | omega | (simp only [zP,zY,zZ,zT,qB];omega))) (zC 3 Z (zG Z (qS Z Z Z (by omega) (by omega)) (zG (v:=str ((vs.drop ((k24).toNat)).take ((k24+(1:Int)).toNat - (k24).toNat))) Z (yY Z qQ Z Z Z (by omega) (by omega) (by first | omega | (simp;omega))) (zG Z (yL Z Z Z (by first | omega | (simp only [zP,zY,zZ,zT,qB];omega))) (zC 1 Z (zI (zD [8] [_] Z (qK (qO Z Z fun w' hw=>?_))))))))))))))
    exact ⟨(([61])++((vs.drop ((k20).toNat)).take ((k20+(1:Int)).toNat - (k20).toNat)))++((vs.drop ((k24).toNat)).take ((k24+(1:Int)).toNat - (k24).toNat)),p_33,rfl,⟨⟨(by (try dsimp only);(try simp only [zP,zY,zZ,zT,qB]);omega),(by (try dsimp only);(try simp only [zP,zY,zZ,zT,qB]);omega)⟩,by omega⟩,hw.sub (zA _ (zO _))⟩
   refine qN (zD [2,10,11] [_,_,_] Z (zE (jG yH (fun _ h=>h.drawn) (by kernel_rfl) (zC 3 Z (zG Z (qS Z Z Z (by omega) (by omega)) (zG (v:=str ((vs.drop ((k20).toNat)).take ((k20+(1:Int)).toNat - (k20).toNat))) Z (yY Z qQ Z Z Z (by omega) (by omega) (by first | omega | (simp;omega))) (zG Z (yL Z Z Z (by first | omega | (simp only [zP,zY,zZ,zT,qB];omega))) (zC 3 Z (zG Z (qS Z Z Z (by omega) (by omega)) (zG (v:=str ((vs.drop ((k24).toNat)).take ((k24+(1:Int)).toNat - (k24).toNat))) Z (yY Z qQ Z Z Z (by omega) (by omega) (by first | omega | (simp;omega))) (zG Z (yL Z Z Z (by first | omega | (simp only [zP,zY,zZ,zT,qB];omega))) (zC 1 Z (zI (zD [8] [_] Z (qK (qO Z Z fun w' hw=>?_))))))))))))))))
   exact ⟨(([69])++((vs.drop ((k20).toNat)).take ((k20+(1:Int)).toNat - (k20).toNat)))++((vs.drop ((k24).toNat)).take ((k24+(1:Int)).toNat - (k24).toNat)),p_33,rfl,⟨⟨(by (try dsimp only);(try simp only [zP,zY,zZ,zT,qB]);omega),(by (try dsimp only);(try simp only [zP,zY,zZ,zT,qB]);omega)⟩,by omega⟩,hw.sub (zA _ (zO _))⟩
  refine zE (zB (zC 3 Z (zI (zD [0,1,2,3,9,10,74] [_,_,_,_,_,_,_] Z (yE Z (fun h74=>?_) (fun h74=>?_))))))
  ·
   refine zE (qF (qI 2 Z (zM Z (jO Z Z Z (by omega) (by omega)) (qI 2 Z (yI (rp:=rp) (RT:=104) (p:=p_24) (bv:=bv) (hs:=hs) (ok:=fun (f:List UInt8) p'=>(1≤f.length∧f.length+1≤4*drawN (dep - (1:Int)))∧p'+5≤p_24+10*drawN (dep - (1:Int))) (v:=fun (f:List UInt8)=>str f) (new:=fun (f:List UInt8)=>[]) (xs:=[.tmp 77,.tmp 79,.tmp 80,.tmp 81]) (vs:=[pt_ rp,i6_ (dep - (1:Int)),str vs,bo_ cn]) ([]:List (Nat×Obj)) Z Z Z Z Tryd.call102 Z (fun w1 hw1=>(ih B w0 (([]:List (Nat×Obj))++hs) rp p_24 bv L (dep - (1:Int)) vs cn w1 (fun w2 hw2=>hb w2 (qA (f:=([]:List (Nat×Obj))) hw2)) hL8 hL (by omega) (by omega) hv1 hv4 (by omega) hw1).mono fun en w' ⟨f',p',h1,h2,h3⟩=>⟨f',p',h1,h2,h3⟩) fun f82 p_82 hKp_82=>?_)))))
   show Ll _ _ (Own _ _ (_::hs)) _ _ ((82,str f82)::_) _ _ _
   obtain ⟨⟨hlof82,hlef82⟩,hep_82⟩:=hKp_82;refine zM Z (yL Z Z Z (by first | omega | (simp only [zP,zY,zZ,zT,qB];omega))) (qI 1 Z (zL (zD [8] [_] Z (qK (qO Z Z fun w' hw=>?_)))))
   exact ⟨([33])++f82,p_82,rfl,⟨⟨(by (try dsimp only);(try simp only [zP,zY,zZ,zT,qB]);omega),(by (try dsimp only);(try simp only [zP,zY,zZ,zT,qB]);omega)⟩,by omega⟩,hw.sub (zA _ (zO _))⟩
  refine zE (zB (zC 3 Z (zI (zD [0,1,2,3,10,84] [_,_,_,_,_,_] Z (yE Z (fun h84=>?_) (fun h84=>?_))))))
  ·
   refine zE (qF (qI 1 Z (yT (xs:=[.const (str ([38])),.const (str ([124]))]) (vs:=[str ([38]),str ([124])]) jR Z Z Z Z Z Z (by decide) Z fun p88 hp88=>(yI (rp:=rp) (RT:=104) (p:=p_24) (bv:=bv) (hs:=hs) (ok:=fun (v:List UInt8) p'=>v∈([[38],[124]]:List (List UInt8))∧p'=p_24+1) (v:=fun (v:List UInt8)=>str v) (new:=fun (v:List UInt8)=>[]) (xs:=[.tmp 87,.tmp 88]) (vs:=[pt_ rp,sl_ p88 2 2]) ([bk_ p88 #[str ([38]),str ([124])] 9]:List (Nat×Obj)) Z Z Z Z xT Z (fun w1 hw1=>(of_ok B w0 (([bk_ p88 #[str ([38]),str ([124])] 9]:List (Nat×Obj))++hs) rp p_24 bv L (sl_ p88 2 2) ([[38],[124]]:List (List UInt8)) w1 (fun w2 hw2=>hb w2 (qA (f:=([bk_ p88 #[str ([38]),str ([124])] 9]:List (Nat×Obj))) hw2)) hL8 hL (fun w2 h2=>(xR h2 (i:=0) Z (n:=2) (cap:=2) (vs:=strs ([[38],[124]]:List (List UInt8))) Z Z (by decide))) (by simp) (by omega) hw1).mono fun en w' ⟨v',p',h1,h2,h3⟩=>⟨v',p',h1,h2,h3⟩) fun v89 p_89 hKp_89=>?_))))
   show Ll _ _ (Own _ _ (_::_::hs)) _ _ ((89,str v89)::_) _ _ _
   obtain ⟨hmv89,hep_89⟩:=hKp_89
   have hqv89:=len_of (a:=1) (b:=1) hmv89 (by decide);refine qI 1 Z (zL (zD [0,1,2,3,12] [_,_,_,_,_] Z (zE (qF (qI 2 Z (zM Z (jO Z Z Z (by omega) (by omega)) (qI 2 Z (yI (rp:=rp) (RT:=104) (p:=p_89) (bv:=bv) (hs:=hs) (ok:=fun (f:List UInt8) p'=>(1≤f.length∧f.length+1≤4*drawN (dep - (1:Int)))∧p'+5≤p_89+10*drawN (dep - (1:Int))) (v:=fun (f:List UInt8)=>str f) (new:=fun (f:List UInt8)=>[]) (xs:=[.tmp 90,.tmp 92,.tmp 93,.tmp 94]) (vs:=[pt_ rp,i6_ (dep - (1:Int)),str vs,bo_ cn]) ([bk_ p88 #[str ([38]),str ([124])] 9]:List (Nat×Obj)) Z Z Z Z Tryd.call102 Z (fun w1 hw1=>(ih B w0 (([bk_ p88 #[str ([38]),str ([124])] 9]:List (Nat×Obj))++hs) rp p_89 bv L (dep - (1:Int)) vs cn w1 (fun w2 hw2=>hb w2 (qA (f:=([bk_ p88 #[str ([38]),str ([124])] 9]:List (Nat×Obj))) hw2)) hL8 hL (by omega) (by omega) hv1 hv4 (by omega) hw1).mono fun en w' ⟨f',p',h1,h2,h3⟩=>⟨f',p',h1,h2,h3⟩) fun f95 p_95 hKp_95=>?_))))))))
   show Ll _ _ (Own _ _ (_::_::hs)) _ _ ((95,str f95)::_) _ _ _
   obtain ⟨⟨hlof95,hlef95⟩,hep_95⟩:=hKp_95;refine qI 1 Z (zL (zD [0,1,2,3,12,13] [_,_,_,_,_,_] Z (zE (qF (qI 2 Z (zM Z (yL Z Z Z (by first | omega | (simp only [zP,zY,zZ,zT,qB];omega))) (qI 2 Z (zM Z (jO Z Z Z (by omega) (by omega)) (qI 2 Z (yI (rp:=rp) (RT:=104) (p:=p_95) (bv:=bv) (hs:=hs) (ok:=fun (f:List UInt8) p'=>(1≤f.length∧f.length+1≤4*drawN (dep - (1:Int)))∧p'+5≤p_95+10*drawN (dep - (1:Int))) (v:=fun (f:List UInt8)=>str f) (new:=fun (f:List UInt8)=>[]) (xs:=[.tmp 99,.tmp 101,.tmp 102,.tmp 103]) (vs:=[pt_ rp,i6_ (dep - (1:Int)),str vs,bo_ cn]) ([bk_ p88 #[str ([38]),str ([124])] 9]:List (Nat×Obj)) Z Z Z Z Tryd.call102 Z (fun w1 hw1=>(ih B w0 (([bk_ p88 #[str ([38]),str ([124])] 9]:List (Nat×Obj))++hs) rp p_95 bv L (dep - (1:Int)) vs cn w1 (fun w2 hw2=>hb w2 (qA (f:=([bk_ p88 #[str ([38]),str ([124])] 9]:List (Nat×Obj))) hw2)) hL8 hL (by omega) (by omega) hv1 hv4 (by omega) hw1).mono fun en w' ⟨f',p',h1,h2,h3⟩=>⟨f',p',h1,h2,h3⟩) fun f104 p_104 hKp_104=>?_))))))))))
   show Ll _ _ (Own _ _ (_::_::hs)) _ _ ((104,str f104)::_) _ _ _
   obtain ⟨⟨hlof104,hlef104⟩,hep_104⟩:=hKp_104;refine zM Z (yL Z Z Z (by first | omega | (simp only [zP,zY,zZ,zT,qB];omega))) (qI 1 Z (zL (zD [8] [_] Z (qK (qO Z Z fun w' hw=>?_)))))
   exact ⟨(v89++f95)++f104,p_104,rfl,⟨⟨(by (try dsimp only);(try simp only [zP,zY,zZ,zT,qB]);omega),(by (try dsimp only);(try simp only [zP,zY,zZ,zT,qB]);omega)⟩,by omega⟩,hw.sub (qL _ (zA _ (zO _)))⟩
  refine qN (zD [0,1,2,3,10] [_,_,_,_,_] Z (zE (qF (qI 1 Z (yT (xs:=[.const (str ([65])),.const (str ([83])),.const (str ([83]))]) (vs:=[str ([65]),str ([83]),str ([83])]) jR Z Z Z Z Z Z (by decide) Z fun p107 hp107=>(yI (rp:=rp) (RT:=104) (p:=p_24) (bv:=bv) (hs:=hs) (ok:=fun (v:List UInt8) p'=>v∈([[65],[83],[83]]:List (List UInt8))∧p'=p_24+1) (v:=fun (v:List UInt8)=>str v) (new:=fun (v:List UInt8)=>[]) (xs:=[.tmp 106,.tmp 107]) (vs:=[pt_ rp,sl_ p107 3 3]) ([bk_ p107 #[str ([65]),str ([83]),str ([83])] 9]:List (Nat×Obj)) Z Z Z Z xT Z (fun w1 hw1=>(of_ok B w0 (([bk_ p107 #[str ([65]),str ([83]),str ([83])] 9]:List (Nat×Obj))++hs) rp p_24 bv L (sl_ p107 3 3) ([[65],[83],[83]]:List (List UInt8)) w1 (fun w2 hw2=>hb w2 (qA (f:=([bk_ p107 #[str ([65]),str ([83]),str ([83])] 9]:List (Nat×Obj))) hw2)) hL8 hL (fun w2 h2=>(xR h2 (i:=0) Z (n:=3) (cap:=3) (vs:=strs ([[65],[83],[83]]:List (List UInt8))) Z Z (by decide))) (by simp) (by omega) hw1).mono fun en w' ⟨v',p',h1,h2,h3⟩=>⟨v',p',h1,h2,h3⟩) fun v108 p_108 hKp_108=>?_))))))
  show Ll _ _ (Own _ _ (_::_::hs)) _ _ ((108,str v108)::_) _ _ _
  obtain ⟨hmv108,hep_108⟩:=hKp_108
  have hqv108:=len_of (a:=1) (b:=1) hmv108 (by decide);refine qI 1 Z (zL (zD [0,1,2,3,10,14] [_,_,_,_,_,_] Z (zE (zE (qF (qI 2 Z (Ll.bool fun b110 hg110=>?_)))))))
  cases b110
  ·
   refine jL Z (jL Z (jL Z (qI 1 Z (zL (zD [0,1,2,3,10,14,114] [_,_,_,_,_,_,_] Z (xO Z (qN (zD [0,1,2,3,10,14] [_,_,_,_,_,_] Z (zE (jT (S:=Own B w0 [bk_ p107 #[str ([65]),str ([83]),str ([83])] 9]) [(0,true),(1,true),(2,true),(3,true),(4,true),(5,true),(6,true),(7,true),(8,true),(9,true),(10,true),(11,true),(12,false),(13,true),(14,true)] yH (fun _ h=>h.drawn) (by kernel_rfl) (jF 4 Z (pk [0] Z Z) (yJ Z Z Z Z Z (qS Z Z Z (by omega) (by omega)) (pk [0] Z Z) (yJ (v:=str ((vs.drop ((k20).toNat)).take ((k20+(1:Int)).toNat - (k20).toNat))) Z Z Z Z Z (yY Z qQ Z Z Z (by omega) (by omega) (by first | omega | (simp;omega))) (pk [0] Z Z) (yJ Z Z Z Z Z (yL Z Z Z (by first | omega | (simp only [zP,zY,zZ,zT,qB];omega))) (pk [0] Z Z) (jF 2 Z (pk [0] Z Z) (yJ Z Z Z Z Z (jO Z Z Z (by omega) (by omega)) (pk [0] Z Z) (jF 2 Z (pk [0] Z Z) (yW Z (yI (rp:=rp) (RT:=104) (p:=p_108) (bv:=bv) (hs:=hs) (ok:=fun (f:List UInt8) p'=>(1≤f.length∧f.length+1≤4*drawN (dep - (1:Int)))∧p'+5≤p_108+10*drawN (dep - (1:Int))) (v:=fun (f:List UInt8)=>str f) (new:=fun (f:List UInt8)=>[]) (xs:=[.tmp 125,.tmp 127,.tmp 128,.tmp 129]) (vs:=[pt_ rp,i6_ (dep - (1:Int)),str vs,bo_ cn]) ([bk_ p107 #[str ([65]),str ([83]),str ([83])] 9]:List (Nat×Obj)) Z Z Z Z Tryd.call102 Z (fun w1 hw1=>(ih B w0 (([bk_ p107 #[str ([65]),str ([83]),str ([83])] 9]:List (Nat×Obj))++hs) rp p_108 bv L (dep - (1:Int)) vs cn w1 (fun w2 hw2=>hb w2 (qA (f:=([bk_ p107 #[str ([65]),str ([83]),str ([83])] 9]:List (Nat×Obj))) hw2)) hL8 hL (by omega) (by omega) hv1 hv4 (by omega) hw1).mono fun en w' ⟨f',p',h1,h2,h3⟩=>⟨f',p',h1,h2,h3⟩) fun f130 p_130 hKp_130=>?_)))))))))))))))))))
   show Ll _ _ (Own _ _ (_::_::hs)) _ _ ((130,str f130)::_) _ _ _
   obtain ⟨⟨hlof130,hlef130⟩,hep_130⟩:=hKp_130;refine zL (yP (pk [0] Z Z) ?_);refine yJ Z Z Z Z Z (yL Z Z Z (by first | omega | (simp only [zP,zY,zZ,zT,qB];omega))) (pk [0] Z Z) (jF 1 Z (pk [0] Z Z) (Ld.nil (zD [8] [_] Z (qK (qO Z Z fun w' hw=>?_)))))
   exact ⟨(v108++((vs.drop ((k20).toNat)).take ((k20+(1:Int)).toNat - (k20).toNat)))++f130,p_130,rfl,⟨⟨(by (try dsimp only);(try simp only [zP,zY,zZ,zT,qB]);omega),(by (try dsimp only);(try simp only [zP,zY,zZ,zT,qB]);omega)⟩,by omega⟩,hw.sub (qL _ (zA _ (zO _)))⟩
  refine qI 1 Z (yI (rp:=rp) (RT:=104) (p:=p_108) (bv:=bv) (hs:=hs) (ok:=fun (k:Int) p'=>0≤k∧(1≤(3:Int)→k<3)∧p'=p_108+1) (v:=fun (k:Int)=>i6_ k) (new:=fun (k:Int)=>[]) (xs:=[.tmp 111,.const (i6_ 3)]) (vs:=[pt_ rp,i6_ 3]) ([bk_ p107 #[str ([65]),str ([83]),str ([83])] 9]:List (Nat×Obj)) Z Z Z Z xS Z (fun w1 hw1=>(pick_ok B w0 (([bk_ p107 #[str ([65]),str ([83]),str ([83])] 9]:List (Nat×Obj))++hs) rp p_108 bv L 3 w1 (fun w2 hw2=>hb w2 (qA (f:=([bk_ p107 #[str ([65]),str ([83]),str ([83])] 9]:List (Nat×Obj))) hw2)) hL8 hL (by omega) hw1).mono fun en w' ⟨k',p',h1,h2,h3⟩=>⟨k',p',h1,h2,h3⟩) fun k112 p_112 hKp_112=>?_)
  show Ll _ _ (Own _ _ (_::_::hs)) _ _ ((112,i6_ k112)::_) _ _ _
  obtain ⟨h0k112,h1k112,hep_112⟩:=hKp_112
  try have hltk112:=h1k112 (by first | omega | (split <;> omega) | decide);refine qI 2 Z (zL (zD [0,1,2,3,10,14,114] [_,_,_,_,_,_,_] Z (yE Z (fun h114=>?_) (fun h114=>?_))))
  ·
   refine qF (qI 1 Z (yT (xs:=[.const (str ([50])),.const (str ([51])),.const (str ([50])),.const (str ([52]))]) (vs:=[str ([50]),str ([51]),str ([50]),str ([52])]) jR Z Z Z Z Z Z (by decide) Z fun p116 hp116=>(yI (rp:=rp) (RT:=104) (p:=p_112) (bv:=bv) (hs:=hs) (ok:=fun (v:List UInt8) p'=>v∈([[50],[51],[50],[52]]:List (List UInt8))∧p'=p_112+1) (v:=fun (v:List UInt8)=>str v) (new:=fun (v:List UInt8)=>[]) (xs:=[.tmp 115,.tmp 116]) (vs:=[pt_ rp,sl_ p116 4 4]) ([bk_ p116 #[str ([50]),str ([51]),str ([50]),str ([52])] 9,bk_ p107 #[str ([65]),str ([83]),str ([83])] 9]:List (Nat×Obj)) Z Z Z Z xT Z (fun w1 hw1=>(of_ok B w0 (([bk_ p116 #[str ([50]),str ([51]),str ([50]),str ([52])] 9,bk_ p107 #[str ([65]),str ([83]),str ([83])] 9]:List (Nat×Obj))++hs) rp p_112 bv L (sl_ p116 4 4) ([[50],[51],[50],[52]]:List (List UInt8)) w1 (fun w2 hw2=>hb w2 (qA (f:=([bk_ p116 #[str ([50]),str ([51]),str ([50]),str ([52])] 9,bk_ p107 #[str ([65]),str ([83]),str ([83])] 9]:List (Nat×Obj))) hw2)) hL8 hL (fun w2 h2=>(xR h2 (i:=0) Z (n:=4) (cap:=4) (vs:=strs ([[50],[51],[50],[52]]:List (List UInt8))) Z Z (by decide))) (by simp) (by omega) hw1).mono fun en w' ⟨v',p',h1,h2,h3⟩=>⟨v',p',h1,h2,h3⟩) fun v117 p_117 hKp_117=>?_)))
   show Ll _ _ (Own _ _ (_::_::_::hs)) _ _ ((117,str v117)::_) _ _ _
   obtain ⟨hmv117,hep_117⟩:=hKp_117
   have hqv117:=len_of (a:=1) (b:=1) hmv117 (by decide);refine qI 1 Z (zL (zD [0,1,2,3,10,14] [_,_,_,_,_,_] Z (zE (jT (S:=Own B w0 [bk_ p116 #[str ([50]),str ([51]),str ([50]),str ([52])] 9,bk_ p107 #[str ([65]),str ([83]),str ([83])] 9]) [(0,true),(1,true),(2,true),(3,true),(4,true),(5,true),(6,true),(7,true),(8,true),(9,true),(10,true),(11,true),(12,false),(13,true),(14,true)] yH (fun _ h=>h.drawn) (by kernel_rfl) (jF 4 Z (pk [0,1] Z Z) (yJ Z Z Z Z Z (qS Z Z Z (by omega) (by omega)) (pk [0,1] Z Z) (yJ (v:=str ((vs.drop ((k20).toNat)).take ((k20+(1:Int)).toNat - (k20).toNat))) Z Z Z Z Z (yY Z qQ Z Z Z (by omega) (by omega) (by first | omega | (simp;omega))) (pk [0,1] Z Z) (yJ Z Z Z Z Z (yL Z Z Z (by first | omega | (simp only [zP,zY,zZ,zT,qB];omega))) (pk [0,1] Z Z) (jF 2 Z (pk [0,1] Z Z) (yJ Z Z Z Z Z (jO Z Z Z (by omega) (by omega)) (pk [0,1] Z Z) (jF 2 Z (pk [0,1] Z Z) (yW Z (yI (rp:=rp) (RT:=104) (p:=p_117) (bv:=bv) (hs:=hs) (ok:=fun (f:List UInt8) p'=>(1≤f.length∧f.length+1≤4*drawN (dep - (1:Int)))∧p'+5≤p_117+10*drawN (dep - (1:Int))) (v:=fun (f:List UInt8)=>str f) (new:=fun (f:List UInt8)=>[]) (xs:=[.tmp 125,.tmp 127,.tmp 128,.tmp 129]) (vs:=[pt_ rp,i6_ (dep - (1:Int)),str vs,bo_ cn]) ([bk_ p116 #[str ([50]),str ([51]),str ([50]),str ([52])] 9,bk_ p107 #[str ([65]),str ([83]),str ([83])] 9]:List (Nat×Obj)) Z Z Z Z Tryd.call102 Z (fun w1 hw1=>(ih B w0 (([bk_ p116 #[str ([50]),str ([51]),str ([50]),str ([52])] 9,bk_ p107 #[str ([65]),str ([83]),str ([83])] 9]:List (Nat×Obj))++hs) rp p_117 bv L (dep - (1:Int)) vs cn w1 (fun w2 hw2=>hb w2 (qA (f:=([bk_ p116 #[str ([50]),str ([51]),str ([50]),str ([52])] 9,bk_ p107 #[str ([65]),str ([83]),str ([83])] 9]:List (Nat×Obj))) hw2)) hL8 hL (by omega) (by omega) hv1 hv4 (by omega) hw1).mono fun en w' ⟨f',p',h1,h2,h3⟩=>⟨f',p',h1,h2,h3⟩) fun f130_1 p_130_1 hKp_130_1=>?_)))))))))))))
   show Ll _ _ (Own _ _ (_::_::_::hs)) _ _ ((130,str f130_1)::_) _ _ _
   obtain ⟨⟨hlof130_1,hlef130_1⟩,hep_130_1⟩:=hKp_130_1;refine zL (yP (pk [0,1] Z Z) ?_);refine yJ Z Z Z Z Z (yL Z Z Z (by first | omega | (simp only [zP,zY,zZ,zT,qB];omega))) (pk [0,1] Z Z) (jF 1 Z (pk [0,1] Z Z) (Ld.nil (zD [8] [_] Z (qK (qO Z Z fun w' hw=>?_)))))
   exact ⟨(v117++((vs.drop ((k20).toNat)).take ((k20+(1:Int)).toNat - (k20).toNat)))++f130_1,p_130_1,rfl,⟨⟨(by (try dsimp only);(try simp only [zP,zY,zZ,zT,qB]);omega),(by (try dsimp only);(try simp only [zP,zY,zZ,zT,qB]);omega)⟩,by omega⟩,hw.sub (qL _ (qL _ (zA _ (zO _))))⟩
  refine qN (zD [0,1,2,3,10,14] [_,_,_,_,_,_] Z (zE (jT (S:=Own B w0 [bk_ p107 #[str ([65]),str ([83]),str ([83])] 9]) [(0,true),(1,true),(2,true),(3,true),(4,true),(5,true),(6,true),(7,true),(8,true),(9,true),(10,true),(11,true),(12,false),(13,true),(14,true)] yH (fun _ h=>h.drawn) (by kernel_rfl) (jF 4 Z (pk [0] Z Z) (yJ Z Z Z Z Z (qS Z Z Z (by omega) (by omega)) (pk [0] Z Z) (yJ (v:=str ((vs.drop ((k20).toNat)).take ((k20+(1:Int)).toNat - (k20).toNat))) Z Z Z Z Z (yY Z qQ Z Z Z (by omega) (by omega) (by first | omega | (simp;omega))) (pk [0] Z Z) (yJ Z Z Z Z Z (yL Z Z Z (by first | omega | (simp only [zP,zY,zZ,zT,qB];omega))) (pk [0] Z Z) (jF 2 Z (pk [0] Z Z) (yJ Z Z Z Z Z (jO Z Z Z (by omega) (by omega)) (pk [0] Z Z) (jF 2 Z (pk [0] Z Z) (yW Z (yI (rp:=rp) (RT:=104) (p:=p_112) (bv:=bv) (hs:=hs) (ok:=fun (f:List UInt8) p'=>(1≤f.length∧f.length+1≤4*drawN (dep - (1:Int)))∧p'+5≤p_112+10*drawN (dep - (1:Int))) (v:=fun (f:List UInt8)=>str f) (new:=fun (f:List UInt8)=>[]) (xs:=[.tmp 125,.tmp 127,.tmp 128,.tmp 129]) (vs:=[pt_ rp,i6_ (dep - (1:Int)),str vs,bo_ cn]) ([bk_ p107 #[str ([65]),str ([83]),str ([83])] 9]:List (Nat×Obj)) Z Z Z Z Tryd.call102 Z (fun w1 hw1=>(ih B w0 (([bk_ p107 #[str ([65]),str ([83]),str ([83])] 9]:List (Nat×Obj))++hs) rp p_112 bv L (dep - (1:Int)) vs cn w1 (fun w2 hw2=>hb w2 (qA (f:=([bk_ p107 #[str ([65]),str ([83]),str ([83])] 9]:List (Nat×Obj))) hw2)) hL8 hL (by omega) (by omega) hv1 hv4 (by omega) hw1).mono fun en w' ⟨f',p',h1,h2,h3⟩=>⟨f',p',h1,h2,h3⟩) fun f130_2 p_130_2 hKp_130_2=>?_))))))))))))
  show Ll _ _ (Own _ _ (_::_::hs)) _ _ ((130,str f130_2)::_) _ _ _
  obtain ⟨⟨hlof130_2,hlef130_2⟩,hep_130_2⟩:=hKp_130_2;refine zL (yP (pk [0] Z Z) ?_);refine yJ Z Z Z Z Z (yL Z Z Z (by first | omega | (simp only [zP,zY,zZ,zT,qB];omega))) (pk [0] Z Z) (jF 1 Z (pk [0] Z Z) (Ld.nil (zD [8] [_] Z (qK (qO Z Z fun w' hw=>?_)))))
  exact ⟨(v108++((vs.drop ((k20).toNat)).take ((k20+(1:Int)).toNat - (k20).toNat)))++f130_2,p_130_2,rfl,⟨⟨(by (try dsimp only);(try simp only [zP,zY,zZ,zT,qB]);omega),(by (try dsimp only);(try simp only [zP,zY,zZ,zT,qB]);omega)⟩,by omega⟩,hw.sub (qL _ (zA _ (zO _)))⟩
 replace hg28:=zW hg28;refine zR Z (zR Z (zC 2 Z (zI (zD [0,1,2,3,9,10,11,25] [_,_,_,_,_,_,_,_] Z (yO Z (zE (zE (qF (qI 1 Z (yI (rp:=rp) (RT:=104) (p:=p_24) (bv:=bv) (hs:=hs) (ok:=fun (k:Int) p'=>0≤k∧(1≤(8:Int)→k<8)∧p'=p_24+1) (v:=fun (k:Int)=>i6_ k) (new:=fun (k:Int)=>[]) (xs:=[.tmp 32,.const (i6_ 8)]) (vs:=[pt_ rp,i6_ 8]) ([]:List (Nat×Obj)) Z Z Z Z xS Z (fun w1 hw1=>(pick_ok B w0 (([]:List (Nat×Obj))++hs) rp p_24 bv L 8 w1 (fun w2 hw2=>hb w2 (qA (f:=([]:List (Nat×Obj))) hw2)) hL8 hL (by omega) hw1).mono fun en w' ⟨k',p',h1,h2,h3⟩=>⟨k',p',h1,h2,h3⟩) fun k33_1 p_33_1 hKp_33_1=>?_))))))))))
 show Ll _ _ (Own _ _ (_::hs)) _ _ ((33,i6_ k33_1)::_) _ _ _
 obtain ⟨h0k33_1,h1k33_1,hep_33_1⟩:=hKp_33_1
 try have hltk33_1:=h1k33_1 (by first | omega | (split <;> omega) | decide);refine zL (zD [0,2,10,11,33] [_,_,_,_,_] Z (qZ (zE (zB (zC 2 Z (zI (zD [0,2,10,11,33,34] [_,_,_,_,_,_] Z (yE Z (fun h34_1=>?_) (fun h34_1=>?_)))))))))
 ·
  refine zE (qF (qI 1 Z (yT (xs:=[.const (str ([116])),.const (str ([102]))]) (vs:=[str ([116]),str ([102])]) jR Z Z Z Z Z Z (by decide) Z fun p37_1 hp37_1=>(yI (rp:=rp) (RT:=104) (p:=p_33_1) (bv:=bv) (hs:=hs) (ok:=fun (v:List UInt8) p'=>v∈([[116],[102]]:List (List UInt8))∧p'=p_33_1+1) (v:=fun (v:List UInt8)=>str v) (new:=fun (v:List UInt8)=>[]) (xs:=[.tmp 36,.tmp 37]) (vs:=[pt_ rp,sl_ p37_1 2 2]) ([bk_ p37_1 #[str ([116]),str ([102])] 9]:List (Nat×Obj)) Z Z Z Z xT Z (fun w1 hw1=>(of_ok B w0 (([bk_ p37_1 #[str ([116]),str ([102])] 9]:List (Nat×Obj))++hs) rp p_33_1 bv L (sl_ p37_1 2 2) ([[116],[102]]:List (List UInt8)) w1 (fun w2 hw2=>hb w2 (qA (f:=([bk_ p37_1 #[str ([116]),str ([102])] 9]:List (Nat×Obj))) hw2)) hL8 hL (fun w2 h2=>(xR h2 (i:=0) Z (n:=2) (cap:=2) (vs:=strs ([[116],[102]]:List (List UInt8))) Z Z (by decide))) (by simp) (by omega) hw1).mono fun en w' ⟨v',p',h1,h2,h3⟩=>⟨v',p',h1,h2,h3⟩) fun v38_1 p_38_1 hKp_38_1=>?_))))
  show Ll _ _ (Own _ _ (_::_::hs)) _ _ ((38,str v38_1)::_) _ _ _
  obtain ⟨hmv38_1,hep_38_1⟩:=hKp_38_1
  have hqv38_1:=len_of (a:=1) (b:=1) hmv38_1 (by decide);refine qI 1 Z (zL (zD [8] [_] Z (qK (qO Z Z fun w' hw=>?_))))
  exact ⟨v38_1,p_38_1,rfl,⟨⟨(by (try dsimp only);(try simp only [zP,zY,zZ,zT,qB]);omega),(by (try dsimp only);(try simp only [zP,zY,zZ,zT,qB]);omega)⟩,by omega⟩,hw.sub (qL _ (zA _ (zO _)))⟩
 refine zE (zE (zB (zC 2 Z (zI (zD [2,10,11,33,39] [_,_,_,_,_] Z (yE Z (fun h39_3=>?_) (fun h39_3=>?_)))))))
 ·
  refine qN (zD [2,10,11,33,39] [_,_,_,_,_] Z (yE Z (fun h39_4=>?_) (fun h39_4=>?_)))
  ·
   refine zE (zB (zC 3 Z (zG Z (qS Z Z Z (by omega) (by omega)) (zG (v:=str ((vs.drop ((k20).toNat)).take ((k20+(1:Int)).toNat - (k20).toNat))) Z (yY Z qQ Z Z Z (by omega) (by omega) (by first | omega | (simp;omega))) (zG Z (yL Z Z Z (by first | omega | (simp only [zP,zY,zZ,zT,qB];omega))) (zC 1 Z (zI (zD [8] [_] Z (qK (qO Z Z fun w' hw=>?_))))))))))
   exact ⟨([80])++((vs.drop ((k20).toNat)).take ((k20+(1:Int)).toNat - (k20).toNat)),p_33_1,rfl,⟨⟨(by (try dsimp only);(try simp only [zP,zY,zZ,zT,qB]);omega),(by (try dsimp only);(try simp only [zP,zY,zZ,zT,qB]);omega)⟩,by omega⟩,hw.sub (zA _ (zO _))⟩
  refine zE (zB (zC 2 Z (zI (zD [2,10,11,48] [_,_,_,_] Z (yE Z (fun h48_2=>?_) (fun h48_2=>?_))))))
  ·
   refine zE (jG yH (fun _ h=>h.drawn) (by kernel_rfl) (zC 3 Z (zG Z (qS Z Z Z (by omega) (by omega)) (zG (v:=str ((vs.drop ((k20).toNat)).take ((k20+(1:Int)).toNat - (k20).toNat))) Z (yY Z qQ Z Z Z (by omega) (by omega) (by first | omega | (simp;omega))) (zG Z (yL Z Z Z (by first | omega | (simp only [zP,zY,zZ,zT,qB];omega))) (zC 3 Z (zG Z (qS Z Z Z (by omega) (by omega)) (zG (v:=str ((vs.drop ((k24).toNat)).take ((k24+(1:Int)).toNat - (k24).toNat))) Z (yY Z qQ Z Z Z (by omega) (by omega) (by first | omega | (simp;omega))) (zG Z (yL Z Z Z (by first | omega | (simp only [zP,zY,zZ,zT,qB];omega))) (zC 1 Z (zI (zD [8] [_] Z (qK (qO Z Z fun w' hw=>?_))))))))))))))
   exact ⟨(([61])++((vs.drop ((k20).toNat)).take ((k20+(1:Int)).toNat - (k20).toNat)))++((vs.drop ((k24).toNat)).take ((k24+(1:Int)).toNat - (k24).toNat)),p_33_1,rfl,⟨⟨(by (try dsimp only);(try simp only [zP,zY,zZ,zT,qB]);omega),(by (try dsimp only);(try simp only [zP,zY,zZ,zT,qB]);omega)⟩,by omega⟩,hw.sub (zA _ (zO _))⟩
  refine qN (zD [2,10,11] [_,_,_] Z (zE (jG yH (fun _ h=>h.drawn) (by kernel_rfl) (zC 3 Z (zG Z (qS Z Z Z (by omega) (by omega)) (zG (v:=str ((vs.drop ((k20).toNat)).take ((k20+(1:Int)).toNat - (k20).toNat))) Z (yY Z qQ Z Z Z (by omega) (by omega) (by first | omega | (simp;omega))) (zG Z (yL Z Z Z (by first | omega | (simp only [zP,zY,zZ,zT,qB];omega))) (zC 3 Z (zG Z (qS Z Z Z (by omega) (by omega)) (zG (v:=str ((vs.drop ((k24).toNat)).take ((k24+(1:Int)).toNat - (k24).toNat))) Z (yY Z qQ Z Z Z (by omega) (by omega) (by first | omega | (simp;omega))) (zG Z (yL Z Z Z (by first | omega | (simp only [zP,zY,zZ,zT,qB];omega))) (zC 1 Z (zI (zD [8] [_] Z (qK (qO Z Z fun w' hw=>?_))))))))))))))))
  exact ⟨(([69])++((vs.drop ((k20).toNat)).take ((k20+(1:Int)).toNat - (k20).toNat)))++((vs.drop ((k24).toNat)).take ((k24+(1:Int)).toNat - (k24).toNat)),p_33_1,rfl,⟨⟨(by (try dsimp only);(try simp only [zP,zY,zZ,zT,qB]);omega),(by (try dsimp only);(try simp only [zP,zY,zZ,zT,qB]);omega)⟩,by omega⟩,hw.sub (zA _ (zO _))⟩
 refine zB (zC 2 Z (zI (zD [2,10,11,33,39] [_,_,_,_,_] Z (yE Z (fun h39_5=>?_) (fun h39_5=>?_)))))
 ·
  refine zE (zB (zC 3 Z (zG Z (qS Z Z Z (by omega) (by omega)) (zG (v:=str ((vs.drop ((k20).toNat)).take ((k20+(1:Int)).toNat - (k20).toNat))) Z (yY Z qQ Z Z Z (by omega) (by omega) (by first | omega | (simp;omega))) (zG Z (yL Z Z Z (by first | omega | (simp only [zP,zY,zZ,zT,qB];omega))) (zC 1 Z (zI (zD [8] [_] Z (qK (qO Z Z fun w' hw=>?_))))))))))
  exact ⟨([80])++((vs.drop ((k20).toNat)).take ((k20+(1:Int)).toNat - (k20).toNat)),p_33_1,rfl,⟨⟨(by (try dsimp only);(try simp only [zP,zY,zZ,zT,qB]);omega),(by (try dsimp only);(try simp only [zP,zY,zZ,zT,qB]);omega)⟩,by omega⟩,hw.sub (zA _ (zO _))⟩
 refine zE (zB (zC 2 Z (zI (zD [2,10,11,48] [_,_,_,_] Z (yE Z (fun h48_3=>?_) (fun h48_3=>?_))))))
 ·
  refine zE (jG yH (fun _ h=>h.drawn) (by kernel_rfl) (zC 3 Z (zG Z (qS Z Z Z (by omega) (by omega)) (zG (v:=str ((vs.drop ((k20).toNat)).take ((k20+(1:Int)).toNat - (k20).toNat))) Z (yY Z qQ Z Z Z (by omega) (by omega) (by first | omega | (simp;omega))) (zG Z (yL Z Z Z (by first | omega | (simp only [zP,zY,zZ,zT,qB];omega))) (zC 3 Z (zG Z (qS Z Z Z (by omega) (by omega)) (zG (v:=str ((vs.drop ((k24).toNat)).take ((k24+(1:Int)).toNat - (k24).toNat))) Z (yY Z qQ Z Z Z (by omega) (by omega) (by first | omega | (simp;omega))) (zG Z (yL Z Z Z (by first | omega | (simp only [zP,zY,zZ,zT,qB];omega))) (zC 1 Z (zI (zD [8] [_] Z (qK (qO Z Z fun w' hw=>?_))))))))))))))
  exact ⟨(([61])++((vs.drop ((k20).toNat)).take ((k20+(1:Int)).toNat - (k20).toNat)))++((vs.drop ((k24).toNat)).take ((k24+(1:Int)).toNat - (k24).toNat)),p_33_1,rfl,⟨⟨(by (try dsimp only);(try simp only [zP,zY,zZ,zT,qB]);omega),(by (try dsimp only);(try simp only [zP,zY,zZ,zT,qB]);omega)⟩,by omega⟩,hw.sub (zA _ (zO _))⟩
 refine qN (zD [2,10,11] [_,_,_] Z (zE (jG yH (fun _ h=>h.drawn) (by kernel_rfl) (zC 3 Z (zG Z (qS Z Z Z (by omega) (by omega)) (zG (v:=str ((vs.drop ((k20).toNat)).take ((k20+(1:Int)).toNat - (k20).toNat))) Z (yY Z qQ Z Z Z (by omega) (by omega) (by first | omega | (simp;omega))) (zG Z (yL Z Z Z (by first | omega | (simp only [zP,zY,zZ,zT,qB];omega))) (zC 3 Z (zG Z (qS Z Z Z (by omega) (by omega)) (zG (v:=str ((vs.drop ((k24).toNat)).take ((k24+(1:Int)).toNat - (k24).toNat))) Z (yY Z qQ Z Z Z (by omega) (by omega) (by first | omega | (simp;omega))) (zG Z (yL Z Z Z (by first | omega | (simp only [zP,zY,zZ,zT,qB];omega))) (zC 1 Z (zI (zD [8] [_] Z (qK (qO Z Z fun w' hw=>?_))))))))))))))))
 exact ⟨(([69])++((vs.drop ((k20).toNat)).take ((k20+(1:Int)).toNat - (k20).toNat)))++((vs.drop ((k24).toNat)).take ((k24+(1:Int)).toNat - (k24).toNat)),p_33_1,rfl,⟨⟨(by (try dsimp only);(try simp only [zP,zY,zZ,zT,qB]);omega),(by (try dsimp only);(try simp only [zP,zY,zZ,zT,qB]);omega)⟩,by omega⟩,hw.sub (zA _ (zO _))⟩
theorem l2Draw_all:∀ (m:Nat) (dep:Int),dep.toNat≤m→∀ (B:Nat) (w0:World) (hs:List (Nat×Obj)) (rp p:Nat) (bv:Value) (L:List Int) (vs:List UInt8) (cn:Bool) (w:World),(∀ w,Own B w0 hs w→Row w bv (u8s L))→Bytes8 L→L.length≤2000→dep≤4→1≤vs.length→vs.length≤4→p+10*drawN dep≤900000→Own B w0 ((rp,.cells #[bv,.int .i64 (p:Int)] 104 (0,0))::hs) w→Calls Tryd.prog 102 #[.pointer (some ⟨rp,0,none⟩),.int .i64 dep,str vs,.bool cn] w fun en w'=>∃ f:List UInt8,∃ p':Nat,en=.returned (str f)∧((1≤f.length∧f.length+1≤4*drawN dep)∧p'+5≤p+10*drawN dep)∧Own B w0 ((rp,.cells #[bv,.int .i64 (p':Int)] 104 (0,0))::hs) w':=fun m=>by
  induction m with
  | zero=>exact fun dep h B w0 hs rp p bv L vs cn w hb h8 hL hd hv1 hv4 hp hw=>l2Draw_step B w0 hs rp p bv L dep vs cn w hb h8 hL hd hv1 hv4 hp (fun _ _ _ _ _ _ _ d2 _ _ _ _ _ _ hlt=>absurd hlt (by omega)) hw
  | succ m ih=>exact fun dep h B w0 hs rp p bv L vs cn w hb h8 hL hd hv1 hv4 hp hw=>l2Draw_step B w0 hs rp p bv L dep vs cn w hb h8 hL hd hv1 hv4 hp (fun B w0 hs rp p bv L d2 vs2 cn2 w hb h8 hL hlt k1 k2 k3 k4 hw=>ih d2 (by omega) B w0 hs rp p bv L vs2 cn2 w hb h8 hL k1 k2 k3 k4 hw) hw
theorem l2Draw_ok (B:Nat) (w0:World) (hs:List (Nat×Obj)) (rp p:Nat) (bv:Value) (L:List Int) (dep:Int) (vs:List UInt8) (cn:Bool) (w:World) (hb:∀ w,Own B w0 hs w→Row w bv (u8s L)) (hL8:Bytes8 L) (hL:L.length≤2000) (hd:dep≤4) (hv1:1≤vs.length) (hv4:vs.length≤4) (hp:p≤800000) (hw:Own B w0 ((rp,.cells #[bv,.int .i64 (p:Int)] 104 (0,0))::hs) w):Calls Tryd.prog 102 #[.pointer (some ⟨rp,0,none⟩),.int .i64 dep,str vs,.bool cn] w fun en w'=>∃ f:List UInt8,∃ p':Nat,en=.returned (str f)∧((1≤f.length∧f.length≤63)∧p'≤p+160)∧Own B w0 ((rp,.cells #[bv,.int .i64 (p':Int)] 104 (0,0))::hs) w':=by
  have hN:=drawN_le hd
  exact (l2Draw_all _ dep (Nat.le_refl _) B w0 hs rp p bv L vs cn w hb hL8 hL hd hv1 hv4 (by omega) hw).mono fun en w' ⟨f,p',h1,⟨⟨h2,h3⟩,h4⟩,h5⟩=>⟨f,p',h1,⟨⟨h2,by omega⟩,by omega⟩,h5⟩
set_option maxHeartbeats 400000 in
theorem sFree_ok (f:List UInt8) (w:World) (hf:f.length≤1048576) :
    Calls Tryd.prog 65 [str f].toArray w fun en w'=>en=.returned (str (freeT f))∧Below w.heap.size w w':=by
 refine fnStart (n:=32) (e:=[(0,str f)]) Tryd.func65 Z Z Z Z Ends.both (zE (zB (zG (v:=str ([])) Z (jS Z Z) (zI (zD [0] [_] Z (zE (zB (zG (v:=str ([])) Z (jS Z Z) (zI (zD [0,3] [_,_] Z (zE (zE (zB (zC 1 Z (zG (v:=bo_ ((formO f).isSome)) Z (qR Z Tryd.call105 Z qG (fun w1 hw1=>sFValid_ok f w1 hf)) (zC 1 Z (zI (zD [0,3,9] [_,_,_] Z (yC (b:=!((formO f).isSome)) Z (fun h9=>?_) (fun h9=>?_))))))))))))))))))))
 ·
  replace h9:=not_true h9;refine zE (zB (zG (v:=str ([])) Z (jS Z Z) (zI (zD [2] [_] Z (qK (qO Z Z fun w' hw=>?_))))))
  exact ⟨ret_s (by unfold freeT;rw [show formO f=none by simp_all]),hw.below⟩
 replace h9:=not_false h9
 obtain ⟨p,hp⟩:=Option.isSome_iff_exists.1 (show (formO f).isSome=true by simp_all)
 have hP:=formO_pa hp
 have hf16:=frB_lt (formO_wf hp);refine qN (zD [0,3] [_,_] Z (zE (zB (zC 1 Z (zG (v:=.tuple #[i6_ (frB p:Int),i6_ (f.length:Int)]) Z (qR Z Tryd.call106 Z qG (fun w1 hw1=>l2Free_ok f 0 0 p f.length w1 hf (by omega) hP)) (zC 1 Z (zG (v:=i6_ (frB p:Int)) Z (qX Z Z Z) (zG (v:=i6_ (f.length:Int)) Z (qX Z Z Z) (zC 2 Z (zI (zD [3,4] [_,_] Z (zE (zE (zB (zC 1 Z (zI (zD [3,4,6] [_,_,_] Z (qZ (jH (σ:=Nat) (fun i=>i≤4) (fun i=>[(3,str (varsS (frB p) i)),(4,i6_ (frB p:Int)),(6,i6_ (i:Int))]) (fun i=>Own w.heap.size w []) (fun i=>4 - i) (0) (by omega) (Sub.cons (by rfl) (Sub.sel [4,6] Z)) (fun _ h=>h) ?_)))))))))))))))))))
 rintro i hi
 have hmi:frB p / 2 ^ i≤frB p:=Nat.div_le_self _ _;refine zE (zE (zB (zC 2 Z (zI (zD [3,4,6,16] [_,_,_,_] Z (yE Z (fun h16=>?_) (fun h16=>?_)))))))
 ·
  refine qN (zD [3,4,6] [_,_,_] Z (zE (qZ (zE (zB (zC 2 Z (zG (v:=.int .u64 (i:Int)) Z (jI .u64 Z yS jP Z (IntWalk.u64_in _ (by omega))) (zG (v:=i6_ ((((frB p) / 2 ^ i:Nat):Int))) Z (OpQ.shr (a:=frB p) (b:=i) Z Z Z (by omega)) (zG (v:=i6_ (((((frB p) / 2 ^ i) &&& 1:Nat):Int))) Z (OpQ.and (a:=(frB p) / 2 ^ i) (b:=1) Z Z Z (by omega) (by omega)) (zC 1 Z (zI (zD [3,4,6,24] [_,_,_,_] Z (yC (b:=decide ((((((frB p) / 2 ^ i) &&& 1:Nat):Int))=(1:Int))) Z (fun h24=>?_) (fun h24=>?_))))))))))))))
  ·
   replace h24:=zW h24
   have hvl:=varsS_len (frB p) i;refine zB (zC 3 Z (zG Z (qS Z Z Z (by omega) (by omega)) (zG (v:=str ((([97,98,99,100]).drop ((i:Int).toNat)).take (((i:Int)+(1:Int)).toNat - (i:Int).toNat))) Z (yY Z qQ Z Z Z (by omega) (by omega) (by first | omega | (simp;omega))) (zG Z (yL Z Z Z (by rw [name_cut (by omega)];simp only [zY,zZ];omega)) (zC 1 Z (zI (zD [3,4,6] [_,_,_] Z (zB (zC 1 Z (zG Z (qS Z Z Z (by omega) (by omega)) (zC 1 Z (zI (yZ (i+1) (by omega) (by omega) (Sub.cons (by first | (rw [varsS_yes (by assumption),← name_cut (by omega)];rfl) | (rw [varsS_no (by assumption)];rfl)) (Sub.sel [4,6] Z)) (fun _ h=>h))))))))))))))
  replace h24:=zS h24;refine qN (zD [3,4,6] [_,_,_] Z (zB (zC 1 Z (zG Z (qS Z Z Z (by omega) (by omega)) (zC 1 Z (zI (yZ (i+1) (by omega) (by omega) (Sub.cons (by first | (rw [varsS_yes (by assumption),← name_cut (by omega)];rfl) | (rw [varsS_no (by assumption)];rfl)) (Sub.sel [4,6] Z)) (fun _ h=>h))))))))
 refine xB Z (zD [3] [_] Z (zE (zB (zC 2 Z (zI (zD [2] [_] Z (qK (qO Z Z fun w' hw=>?_))))))))
 exact ⟨ret_s (by unfold freeT;rw [hp,show i=4 from by omega]),hw.below⟩
set_option maxHeartbeats 400000 in
theorem l2Bad_ok (B:Nat) (w0:World) (hs:List (Nat×Obj)) (rp p:Nat) (bv:Value) (L:List Int) (f:List UInt8) (w:World) (hb:∀ w,Own B w0 hs w→Row w bv (u8s L)) (hL8:Bytes8 L) (hL:L.length≤2000) (hf1:1≤f.length) (hf2:f.length≤190) (hp:p≤800000) (hw:Own B w0 ((rp,.cells #[bv,.int .i64 (p:Int)] 104 (0,0))::hs) w) :
    Calls Tryd.prog 104 [pt_ rp,str f].toArray w fun en w'=>∃ g:List UInt8,∃ p':Nat,en=.returned (str g)∧(g.length≤200∧p'≤p+5)∧Own B w0 (((rp,.cells #[bv,.int .i64 (p':Int)] 104 (0,0))::hs)) w':=by
 refine fnStartC (Own B w0 ((rp,.cells #[bv,.int .i64 (p:Int)] 104 (0,0))::hs)) (n:=41) (e:=[(0,pt_ rp),(1,str f)]) Tryd.func104 Z Z Z Z Ends.both hw (zE (zB (zG (v:=str ([])) Z (jS Z Z) (zI (zD [0,1] [_,_] Z (zE (zE (qF (qI 1 Z (yI (rp:=rp) (RT:=104) (p:=p) (bv:=bv) (hs:=hs) (ok:=fun (k:Int) p'=>0≤k∧(1≤(30:Int)→k<30)∧p'=p+1) (v:=fun (k:Int)=>i6_ k) (new:=fun (k:Int)=>[]) (xs:=[.tmp 6,.const (i6_ 30)]) (vs:=[pt_ rp,i6_ 30]) ([]:List (Nat×Obj)) Z Z Z Z xS Z (fun w1 hw1=>(pick_ok B w0 (([]:List (Nat×Obj))++hs) rp p bv L 30 w1 (fun w2 hw2=>hb w2 (qA (f:=([]:List (Nat×Obj))) hw2)) hL8 hL (by omega) hw1).mono fun en w' ⟨k',p',h1,h2,h3⟩=>⟨k',p',h1,h2,h3⟩) fun k7 p_7 hKp_7=>?_))))))))))
 show Ll _ _ (Own _ _ (_::hs)) _ _ ((7,i6_ k7)::_) _ _ _
 obtain ⟨h0k7,h1k7,hep_7⟩:=hKp_7
 try have hltk7:=h1k7 (by first | omega | (split <;> omega) | decide);refine zL (zD [0,1,7] [_,_,_] Z (qZ (zE (zB (zC 2 Z (zI (zD [0,1,7,8] [_,_,_,_] Z (yE Z (fun h8=>?_) (fun h8=>?_)))))))))
 ·
  refine zE (qF (qI 2 Z (yT (xs:=[.const (str ([116])),.const (str ([97])),.const (str ([32]))]) (vs:=[str ([116]),str ([97]),str ([32])]) jR Z Z Z Z Z Z (by decide) Z fun p12 hp12=>(yI (rp:=rp) (RT:=104) (p:=p_7) (bv:=bv) (hs:=hs) (ok:=fun (v:List UInt8) p'=>v∈([[116],[97],[32]]:List (List UInt8))∧p'=p_7+1) (v:=fun (v:List UInt8)=>str v) (new:=fun (v:List UInt8)=>[]) (xs:=[.tmp 11,.tmp 12]) (vs:=[pt_ rp,sl_ p12 3 3]) ([bk_ p12 #[str ([116]),str ([97]),str ([32])] 9]:List (Nat×Obj)) Z Z Z Z xT Z (fun w1 hw1=>(of_ok B w0 (([bk_ p12 #[str ([116]),str ([97]),str ([32])] 9]:List (Nat×Obj))++hs) rp p_7 bv L (sl_ p12 3 3) ([[116],[97],[32]]:List (List UInt8)) w1 (fun w2 hw2=>hb w2 (qA (f:=([bk_ p12 #[str ([116]),str ([97]),str ([32])] 9]:List (Nat×Obj))) hw2)) hL8 hL (fun w2 h2=>(xR h2 (i:=0) Z (n:=3) (cap:=3) (vs:=strs ([[116],[97],[32]]:List (List UInt8))) Z Z (by decide))) (by simp) (by omega) hw1).mono fun en w' ⟨v',p',h1,h2,h3⟩=>⟨v',p',h1,h2,h3⟩) fun v13 p_13 hKp_13=>?_))))
  show Ll _ _ (Own _ _ (_::_::hs)) _ _ ((13,str v13)::_) _ _ _
  obtain ⟨hmv13,hep_13⟩:=hKp_13
  have hqv13:=len_of (a:=1) (b:=1) hmv13 (by decide);refine zM Z (yL Z Z Z (by first | omega | (simp only [zP,zY,zZ,zT,qB];omega))) (qI 1 Z (zL (zD [4] [_] Z (qK (qO Z Z fun w' hw=>?_)))))
  exact ⟨f++v13,p_13,rfl,⟨(by (try dsimp only);(try simp only [zP,zY,zZ,zT,qB]);omega),by omega⟩,hw.sub (qL _ (zA _ (zO _)))⟩
 refine zE (zB (zC 2 Z (zI (zD [0,1,7,15] [_,_,_,_] Z (yE Z (fun h15=>?_) (fun h15=>?_))))))
 ·
  refine zE (zB (zC 2 Z (zG (v:=i6_ (f.length:Int)) Z (xN Z qH Z) (zG Z (jO Z Z Z (by omega) (by omega)) (zG (v:=str (f.take (((f.length:Int) - (1:Int)).toNat))) Z (xF Z qQ Z Z (by omega) (by omega)) (zC 1 Z (zI (zD [4] [_] Z (qK (qO Z Z fun w' hw=>?_))))))))))
  exact ⟨f.take (((f.length:Int) - (1:Int)).toNat),p_7,rfl,⟨(by (try dsimp only);(try simp only [zP,zY,zZ,zT,qB]);omega),by omega⟩,hw.sub (zA _ (zO _))⟩
 refine zE (zB (zC 2 Z (zI (zD [0,1,22] [_,_,_] Z (yE Z (fun h22=>?_) (fun h22=>?_))))))
 ·
  refine zE (qF (qI 2 Z (zM (v:=i6_ (f.length:Int)) Z (xN Z qH Z) (yI (rp:=rp) (RT:=104) (p:=p_7) (bv:=bv) (hs:=hs) (ok:=fun (k:Int) p'=>0≤k∧(1≤(f.length:Int)→k<(f.length:Int))∧p'=p_7+1) (v:=fun (k:Int)=>i6_ k) (new:=fun (k:Int)=>[]) (xs:=[.tmp 24,.tmp 26]) (vs:=[pt_ rp,i6_ (f.length:Int)]) ([]:List (Nat×Obj)) Z Z Z Z xS Z (fun w1 hw1=>(pick_ok B w0 (([]:List (Nat×Obj))++hs) rp p_7 bv L (f.length:Int) w1 (fun w2 hw2=>hb w2 (qA (f:=([]:List (Nat×Obj))) hw2)) hL8 hL (by omega) hw1).mono fun en w' ⟨k',p',h1,h2,h3⟩=>⟨k',p',h1,h2,h3⟩) fun k27 p_27 hKp_27=>?_))))
  show Ll _ _ (Own _ _ (_::hs)) _ _ ((27,i6_ k27)::_) _ _ _
  obtain ⟨h0k27,h1k27,hep_27⟩:=hKp_27
  try have hltk27:=h1k27 (by first | omega | (split <;> omega) | decide);refine qI 1 Z (zL (zD [0,1,5] [_,_,_] Z (zE (jT (S:=Own B w0 []) [(0,true),(1,true),(2,true),(3,true),(7,true),(8,true),(9,true),(10,true),(4,false),(5,false),(6,true),(11,true),(12,true)] yH (fun _ h=>h.drawn) (by kernel_rfl) (jF 2 Z (pk [] Z Z) (yJ (v:=str (f.take ((k27).toNat))) Z Z Z Z Z (xF Z qQ Z Z (by omega) (by omega)) (pk [] Z Z) (jF 3 Z (pk [] Z Z) (yJ Z Z Z Z Z (qS Z Z Z (by omega) (by omega)) (pk [] Z Z) (yJ (v:=str (f.drop ((k27+(1:Int)).toNat))) Z Z Z Z Z (xY Z qQ Z Z (by omega) (by omega)) (pk [] Z Z) (yW Z (yT (xs:=[.const (str ([101])),.const (str ([65])),.const (str ([80])),.const (str ([53]))]) (vs:=[str ([101]),str ([65]),str ([80]),str ([53])]) jR Z Z Z Z Z Z (by decide) Z fun p32 hp32=>(zL (yP (pk [] Z Z) ?_)))))))))))));refine yW Z (yI (rp:=rp) (RT:=104) (p:=p_27) (bv:=bv) (hs:=hs) (ok:=fun (v:List UInt8) p'=>v∈([[101],[65],[80],[53]]:List (List UInt8))∧p'=p_27+1) (v:=fun (v:List UInt8)=>str v) (new:=fun (v:List UInt8)=>[]) (xs:=[.tmp 31,.tmp 32]) (vs:=[pt_ rp,sl_ p32 4 4]) ([bk_ p32 #[str ([101]),str ([65]),str ([80]),str ([53])] 9]:List (Nat×Obj)) Z Z Z Z xT Z (fun w1 hw1=>(of_ok B w0 (([bk_ p32 #[str ([101]),str ([65]),str ([80]),str ([53])] 9]:List (Nat×Obj))++hs) rp p_27 bv L (sl_ p32 4 4) ([[101],[65],[80],[53]]:List (List UInt8)) w1 (fun w2 hw2=>hb w2 (qA (f:=([bk_ p32 #[str ([101]),str ([65]),str ([80]),str ([53])] 9]:List (Nat×Obj))) hw2)) hL8 hL (fun w2 h2=>(xR h2 (i:=0) Z (n:=4) (cap:=4) (vs:=strs ([[101],[65],[80],[53]]:List (List UInt8))) Z Z (by decide))) (by simp) (by omega) hw1).mono fun en w' ⟨v',p',h1,h2,h3⟩=>⟨v',p',h1,h2,h3⟩) fun v33 p_33 hKp_33=>?_)
  show Ll _ _ (Own _ _ (_::_::hs)) _ _ ((33,str v33)::_) _ _ _
  obtain ⟨hmv33,hep_33⟩:=hKp_33
  have hqv33:=len_of (a:=1) (b:=1) hmv33 (by decide);refine zL (yP (pk [] Z Z) ?_);refine yJ Z Z Z Z Z (yL Z Z Z (by first | omega | (simp only [zP,zY,zZ,zT,qB];omega))) (pk [] Z Z) (yJ Z Z Z Z Z (yL Z Z Z (by first | omega | (simp only [zP,zY,zZ,zT,qB];omega))) (pk [] Z Z) (jF 1 Z (pk [] Z Z) (Ld.nil (zD [4] [_] Z (qK (qO Z Z fun w' hw=>?_))))))
  exact ⟨((f.take ((k27).toNat))++v33)++(f.drop ((k27+(1:Int)).toNat)),p_33,rfl,⟨(by (try dsimp only);(try simp only [zP,zY,zZ,zT,qB]);omega),by omega⟩,hw.sub (qL _ (zA _ (zO _)))⟩
 refine qN (zD [1] [_] Z (zE (zB (zC 2 Z (zI (zD [4] [_] Z (qK (qO Z Z fun w' hw=>?_))))))))
 exact ⟨f,p_7,rfl,⟨(by (try dsimp only);(try simp only [zP,zY,zZ,zT,qB]);omega),by omega⟩,hw.sub (zA _ (zO _))⟩
end Go.Proofs.YtagbocafnliabaaDoor
namespace Go.Proofs.YtagbocafnliabaaDoor
open Go.RowKit Go.Wk
set_option linter.unusedSimpArgs false
set_option maxHeartbeats 400000 in
theorem l1Open_ok (B:Nat) (w0:World) (hs:List (Nat×Obj)) (rp p:Nat) (bv:Value) (L:List Int) (w:World) (hb:∀ w,Own B w0 hs w→Row w bv (u8s L)) (hL8:Bytes8 L) (hL:L.length≤2000) (hp:p≤700000) (hw:Own B w0 ((rp,.cells #[bv,.int .i64 (p:Int)] 104 (0,0))::hs) w) :
    Calls Tryd.prog 32 [pt_ rp].toArray w fun en w'=>∃ a:St,∃ p':Nat,en=.returned (vS a)∧(a.Tame∧p'≤p+300)∧Own B w0 (((rp,.cells #[bv,.int .i64 (p':Int)] 104 (0,0))::hs)) w':=by
 refine fnStartC (Own B w0 ((rp,.cells #[bv,.int .i64 (p:Int)] 104 (0,0))::hs)) (n:=7) (e:=[(0,pt_ rp)]) Tryd.func32 Z Z Z Z Ends.both hw (zE (qF (vL Z Z Z Z jE fun p2 hp2=>?_)))
 show Ll _ _ (Own _ _ (bk_ p2 #[i6_ 0,str ([]),str ([])] 24::_::hs)) _ _ ((2,pt_ p2)::_) _ _ _;refine zL (zD [0,2] [_,_] Z (zE (qF (qI 2 Z (yI (rp:=rp) (RT:=104) (p:=p) (bv:=bv) (hs:=hs) (ok:=fun (a:St) p'=>(a.Fine∧a.n≤5)∧p'≤p+200) (v:=fun (a:St)=>vS a) (new:=fun (a:St)=>[]) (xs:=[.tmp 4]) (vs:=[pt_ rp]) ([bk_ p2 #[i6_ 0,str ([]),str ([])] 24]:List (Nat×Obj)) Z Z Z Z Tryd.call77 Z (fun w1 hw1=>(l1Some_ok B w0 (([bk_ p2 #[i6_ 0,str ([]),str ([])] 24]:List (Nat×Obj))++hs) rp p bv L w1 (fun w2 hw2=>hb w2 (qA (f:=([bk_ p2 #[i6_ 0,str ([]),str ([])] 24]:List (Nat×Obj))) hw2)) hL8 hL (by omega) hw1).mono fun en w' ⟨a',p',h1,h2,h3⟩=>⟨a',p',h1,h2,h3⟩) fun a5 p_5 hKp_5=>?_)))))
 show Ll _ _ (Own _ _ (_::_::hs)) _ _ ((5,vS a5)::_) _ _ _
 obtain ⟨⟨hfa5,h5a5⟩,hep_5⟩:=hKp_5
 have hloa5:=hfa5.lo;refine yI (rp:=rp) (RT:=104) (p:=p_5) (bv:=bv) (hs:=hs) (ok:=fun (b:St) p'=>((-9223372036854775808≤b.n∧b.n≤9223372036854775807)∧b.set.length≤50000∧b.rel.length≤50000)∧p'≤p_5+10) (v:=fun (b:St)=>vS b) (new:=fun (b:St)=>[]) (xs:=[.tmp 3,.tmp 5]) (vs:=[pt_ rp,vS a5]) ([bk_ p2 #[i6_ 0,str ([]),str ([])] 24]:List (Nat×Obj)) Z Z Z Z Tryd.call76 Z (fun w1 hw1=>(l1Bad_ok B w0 (([bk_ p2 #[i6_ 0,str ([]),str ([])] 24]:List (Nat×Obj))++hs) rp p_5 bv L a5 w1 (fun w2 hw2=>hb w2 (qA (f:=([bk_ p2 #[i6_ 0,str ([]),str ([])] 24]:List (Nat×Obj))) hw2)) hL8 hL hfa5 (by omega) hw1).mono fun en w' ⟨b',p',h1,h2,h3⟩=>⟨b',p',h1,h2,h3⟩) fun b6 p_6 hKp_6=>?_
 show Ll _ _ (Own _ _ (_::_::hs)) _ _ ((6,vS b6)::_) _ _ _
 obtain ⟨⟨⟨hlob6,hhib6⟩,hssb6,hrrb6⟩,hep_6⟩:=hKp_6;refine jJ (cs':=#[i6_ b6.n,str b6.set,str b6.rel]) (hs':=(bk_ p2 #[i6_ b6.n,str b6.set,str b6.rel] 24::_::hs)) 0 Z Z Z Z Z (by kernel_rfl:_=some Tryd.t24) Z Z Z Z Z (zL (zD [2] [_] Z (qK (Kt.endBox (cs:=#[i6_ b6.n,str b6.set,str b6.rel]) 0 Z Z Z qV qT fun w' hw=>?_))))
 exact ⟨b6,p_6,rfl,⟨⟨hlob6,hhib6,hssb6,hrrb6⟩,by omega⟩,hw.sub (qL _ (zA _ (zO _)))⟩
set_option maxHeartbeats 400000 in
theorem l3Small_ok (B:Nat) (w0:World) (hs:List (Nat×Obj)) (rp p:Nat) (bv:Value) (L:List Int) (vs:List UInt8) (w:World) (hb:∀ w,Own B w0 hs w→Row w bv (u8s L)) (hL8:Bytes8 L) (hL:L.length≤2000) (hv1:1≤vs.length) (hv4:vs.length≤4) (hp:p≤600000) (hw:Own B w0 ((rp,.cells #[bv,.int .i64 (p:Int)] 104 (0,0))::hs) w) :
    Calls Tryd.prog 62 [pt_ rp,str vs].toArray w fun en w'=>∃ a:St,∃ f:List UInt8,∃ p':Nat,en=.returned (.tuple #[vS a,str f])∧((a.Tame∧f.length≤200)∧p'≤p+700)∧Own B w0 (((rp,.cells #[bv,.int .i64 (p':Int)] 104 (0,0))::hs)) w':=by
 refine fnStartC (Own B w0 ((rp,.cells #[bv,.int .i64 (p:Int)] 104 (0,0))::hs)) (n:=48) (e:=[(0,pt_ rp),(1,str vs)]) Tryd.func62 Z Z Z Z Ends.both hw (zE (qF (vL Z Z Z Z jE fun p4 hp4=>?_)))
 show Ll _ _ (Own _ _ (bk_ p4 #[i6_ 0,str ([]),str ([])] 24::_::hs)) _ _ ((4,pt_ p4)::_) _ _ _;refine zM (v:=str ([])) Z (jS Z Z) (zL (zD [0,1,4] [_,_,_] Z (zE (qF (qI 1 Z (yI (rp:=rp) (RT:=104) (p:=p) (bv:=bv) (hs:=hs) (ok:=fun (a:St) p'=>a.Tame∧p'≤p+300) (v:=fun (a:St)=>vS a) (new:=fun (a:St)=>[]) (xs:=[.tmp 10]) (vs:=[pt_ rp]) ([bk_ p4 #[i6_ 0,str ([]),str ([])] 24]:List (Nat×Obj)) Z Z Z Z Tryd.call32 Z (fun w1 hw1=>(l1Open_ok B w0 (([bk_ p4 #[i6_ 0,str ([]),str ([])] 24]:List (Nat×Obj))++hs) rp p bv L w1 (fun w2 hw2=>hb w2 (qA (f:=([bk_ p4 #[i6_ 0,str ([]),str ([])] 24]:List (Nat×Obj))) hw2)) hL8 hL (by omega) hw1).mono fun en w' ⟨a',p',h1,h2,h3⟩=>⟨a',p',h1,h2,h3⟩) fun a11 p_11 hKp_11=>?_))))))
 show Ll _ _ (Own _ _ (_::_::hs)) _ _ ((11,vS a11)::_) _ _ _
 obtain ⟨hta11,hep_11⟩:=hKp_11;refine vL Z Z Z Z jE fun p6 hp6=>?_
 show Ll _ _ (Own _ _ (bk_ p6 #[i6_ 0,str ([]),str ([])] 24::_::_::hs)) _ _ ((6,pt_ p6)::_) _ _ _;refine jJ (cs':=#[i6_ a11.n,str a11.set,str a11.rel]) (hs':=(bk_ p6 #[i6_ a11.n,str a11.set,str a11.rel] 24::_::_::hs)) 0 Z Z Z Z Z (by kernel_rfl:_=some Tryd.t24) Z Z Z Z Z (zL (zD [0,1,4,6] [_,_,_,_] Z (zE (qF (qI 2 Z (yI (rp:=rp) (RT:=104) (p:=p_11) (bv:=bv) (hs:=hs) (ok:=fun (k:Int) p'=>0≤k∧(1≤(3:Int)→k<3)∧p'=p_11+1) (v:=fun (k:Int)=>i6_ k) (new:=fun (k:Int)=>[]) (xs:=[.tmp 13,.const (i6_ 3)]) (vs:=[pt_ rp,i6_ 3]) ([bk_ p6 #[i6_ a11.n,str a11.set,str a11.rel] 24,bk_ p4 #[i6_ 0,str ([]),str ([])] 24]:List (Nat×Obj)) Z Z Z Z xS Z (fun w1 hw1=>(pick_ok B w0 (([bk_ p6 #[i6_ a11.n,str a11.set,str a11.rel] 24,bk_ p4 #[i6_ 0,str ([]),str ([])] 24]:List (Nat×Obj))++hs) rp p_11 bv L 3 w1 (fun w2 hw2=>hb w2 (qA (f:=([bk_ p6 #[i6_ a11.n,str a11.set,str a11.rel] 24,bk_ p4 #[i6_ 0,str ([]),str ([])] 24]:List (Nat×Obj))) hw2)) hL8 hL (by omega) hw1).mono fun en w' ⟨k',p',h1,h2,h3⟩=>⟨k',p',h1,h2,h3⟩) fun k14 p_14 hKp_14=>?_))))))
 show Ll _ _ (Own _ _ (_::_::_::hs)) _ _ ((14,i6_ k14)::_) _ _ _
 obtain ⟨h0k14,h1k14,hep_14⟩:=hKp_14
 try have hltk14:=h1k14 (by first | omega | (split <;> omega) | decide);refine zM Z (qS Z Z Z (by omega) (by omega)) (qI 2 Z (yI (rp:=rp) (RT:=104) (p:=p_14) (bv:=bv) (hs:=hs) (ok:=fun (k:Int) p'=>0≤k∧(1≤(2:Int)→k<2)∧p'=p_14+1) (v:=fun (k:Int)=>i6_ k) (new:=fun (k:Int)=>[]) (xs:=[.tmp 17,.const (i6_ 2)]) (vs:=[pt_ rp,i6_ 2]) ([bk_ p6 #[i6_ a11.n,str a11.set,str a11.rel] 24,bk_ p4 #[i6_ 0,str ([]),str ([])] 24]:List (Nat×Obj)) Z Z Z Z xS Z (fun w1 hw1=>(pick_ok B w0 (([bk_ p6 #[i6_ a11.n,str a11.set,str a11.rel] 24,bk_ p4 #[i6_ 0,str ([]),str ([])] 24]:List (Nat×Obj))++hs) rp p_14 bv L 2 w1 (fun w2 hw2=>hb w2 (qA (f:=([bk_ p6 #[i6_ a11.n,str a11.set,str a11.rel] 24,bk_ p4 #[i6_ 0,str ([]),str ([])] 24]:List (Nat×Obj))) hw2)) hL8 hL (by omega) hw1).mono fun en w' ⟨k',p',h1,h2,h3⟩=>⟨k',p',h1,h2,h3⟩) fun k18 p_18 hKp_18=>?_))
 show Ll _ _ (Own _ _ (_::_::_::hs)) _ _ ((18,i6_ k18)::_) _ _ _
 obtain ⟨h0k18,h1k18,hep_18⟩:=hKp_18
 try have hltk18:=h1k18 (by first | omega | (split <;> omega) | decide);refine qI 1 Z (yI (rp:=rp) (RT:=104) (p:=p_18) (bv:=bv) (hs:=hs) (ok:=fun (f:List UInt8) p'=>(1≤f.length∧f.length≤63)∧p'≤p_18+160) (v:=fun (f:List UInt8)=>str f) (new:=fun (f:List UInt8)=>[]) (xs:=[.tmp 12,.tmp 15,.tmp 16,.tmp 19]) (vs:=[pt_ rp,i6_ ((1:Int)+k14),str vs,bo_ (decide (k18=(0:Int)))]) ([bk_ p6 #[i6_ a11.n,str a11.set,str a11.rel] 24,bk_ p4 #[i6_ 0,str ([]),str ([])] 24]:List (Nat×Obj)) Z Z Z Z Tryd.call102 Z (fun w1 hw1=>(l2Draw_ok B w0 (([bk_ p6 #[i6_ a11.n,str a11.set,str a11.rel] 24,bk_ p4 #[i6_ 0,str ([]),str ([])] 24]:List (Nat×Obj))++hs) rp p_18 bv L ((1:Int)+k14) vs (decide (k18=(0:Int))) w1 (fun w2 hw2=>hb w2 (qA (f:=([bk_ p6 #[i6_ a11.n,str a11.set,str a11.rel] 24,bk_ p4 #[i6_ 0,str ([]),str ([])] 24]:List (Nat×Obj))) hw2)) hL8 hL (by omega) (by omega) (by omega) (by omega) hw1).mono fun en w' ⟨f',p',h1,h2,h3⟩=>⟨f',p',h1,h2,h3⟩) fun f20 p_20 hKp_20=>?_)
 show Ll _ _ (Own _ _ (_::_::_::hs)) _ _ ((20,str f20)::_) _ _ _
 obtain ⟨⟨hlof20,hlef20⟩,hep_20⟩:=hKp_20;refine qI 1 Z (zL (zD [0,1,4,6,7] [_,_,_,_,_] Z (zE (zB (zC 1 Z (zG (v:=str (freeT f20)) Z (qR Z Tryd.call65 Z qG (fun w1 hw1=>sFree_ok f20 w1 (by first | omega | (simp;omega)))) (zC 1 Z (zI (zD [0,1,4,6,7,8] [_,_,_,_,_,_] Z (zE (zE (qF (qI 1 Z (yI (rp:=rp) (RT:=104) (p:=p_20) (bv:=bv) (hs:=hs) (ok:=fun (k:Int) p'=>0≤k∧(1≤(12:Int)→k<12)∧p'=p_20+1) (v:=fun (k:Int)=>i6_ k) (new:=fun (k:Int)=>[]) (xs:=[.tmp 23,.const (i6_ 12)]) (vs:=[pt_ rp,i6_ 12]) ([bk_ p6 #[i6_ a11.n,str a11.set,str a11.rel] 24,bk_ p4 #[i6_ 0,str ([]),str ([])] 24]:List (Nat×Obj)) Z Z Z Z xS Z (fun w1 hw1=>(pick_ok B w0 (([bk_ p6 #[i6_ a11.n,str a11.set,str a11.rel] 24,bk_ p4 #[i6_ 0,str ([]),str ([])] 24]:List (Nat×Obj))++hs) rp p_20 bv L 12 w1 (fun w2 hw2=>hb w2 (qA (f:=([bk_ p6 #[i6_ a11.n,str a11.set,str a11.rel] 24,bk_ p4 #[i6_ 0,str ([]),str ([])] 24]:List (Nat×Obj))) hw2)) hL8 hL (by omega) hw1).mono fun en w' ⟨k',p',h1,h2,h3⟩=>⟨k',p',h1,h2,h3⟩) fun k24 p_24 hKp_24=>?_))))))))))))))
 show Ll _ _ (Own _ _ (_::_::_::hs)) _ _ ((24,i6_ k24)::_) _ _ _
 obtain ⟨h0k24,h1k24,hep_24⟩:=hKp_24
 try have hltk24:=h1k24 (by first | omega | (split <;> omega) | decide);refine qI 1 Z (zL (zD [0,1,4,6,7,8,25] [_,_,_,_,_,_,_] Z (jA (σ:=List UInt8) (fun g9=>1≤g9.length∧g9.length≤71) (fun g9=>[(0,pt_ rp),(4,pt_ p4),(6,pt_ p6),(7,str g9)]) (fun g9=>Own B w0 (bk_ p6 #[i6_ a11.n,str a11.set,str a11.rel] 24::bk_ p4 #[i6_ 0,str ([]),str ([])] 24::bk_ rp #[bv,i6_ (p_24:Int)] 104::hs)) ?_ ?_)))
 ·
  refine yE Z (fun h25=>?_) (fun h25=>?_)
  ·
   refine zE (zB (zC 1 Z (zG (v:=i6_ (vs.length:Int)) Z (xN Z qH Z) (zC 1 Z (zI (zD [0,4,6,7,8,9] [_,_,_,_,_,_] Z (qZ (jH (σ:=Nat×List UInt8) (fun ⟨i,g⟩=>i≤4∧1≤g.length∧g.length≤63+2*i) (fun ⟨i,g⟩=>[(0,pt_ rp),(4,pt_ p4),(6,pt_ p6),(7,str g),(8,str (freeT f20)),(9,i6_ (i:Int))]) (fun ⟨i,g⟩=>Own B w0 (bk_ p6 #[i6_ a11.n,str a11.set,str a11.rel] 24::bk_ p4 #[i6_ 0,str ([]),str ([])] 24::bk_ rp #[bv,i6_ (p_24:Int)] 104::hs)) (fun ⟨i,g⟩=>4 - i) (vs.length,f20) ⟨by omega,by omega,by omega⟩ (Sub.sel [0,4,6,7,8,9] Z) (fun _ h=>h) ?_))))))))
   rintro ⟨i,g⟩ ⟨hi,hg1,hg2⟩
   dsimp only
   have hfl:=freeT_len f20;refine zE (zE (zB (zC 2 Z (zI (zD [0,4,6,7,8,9,29] [_,_,_,_,_,_,_] Z (yE Z (fun h29=>?_) (fun h29=>?_)))))))
   ·
    refine qN (zD [0,4,6,7,8,9] [_,_,_,_,_,_] Z (zE (qZ (zE (zB (zC 2 Z (zG (v:=.int .u8 (((([97,98,99,100]:List UInt8).getD i 0).toNat:Int))) Z (yG (v':=.int .u8 ((([97,98,99,100]:List UInt8).getD i 0).toNat:Int)) Z (yK (i:=(i:Int)) Z qH Z Z (by omega) (by simp only [zY,zZ];omega))) (zG (v:=i6_ (findS (freeT f20) (((([97,98,99,100]:List UInt8).getD i 0).toNat:Int)))) Z (qR Z Tryd.call103 Z qG (fun w1 hw1=>l15Find_ok (freeT f20) (((([97,98,99,100]:List UInt8).getD i 0).toNat:Int)) w1 (by first | decide | omega))) (zC 1 Z (zI (zD [0,4,6,7,8,9,36] [_,_,_,_,_,_,_] Z (yE Z (fun h36=>?_) (fun h36=>?_)))))))))))))
    ·
     refine zB (zC 2 Z (zG Z (qS Z Z Z (by omega) (by omega)) (zG (v:=str ((([97,98,99,100]).drop ((i:Int).toNat)).take (((i:Int)+(1:Int)).toNat - (i:Int).toNat))) Z (yY Z qQ Z Z Z (by omega) (by omega) (by first | omega | (simp;omega))) (zG Z (yL Z Z Z (by rw [name_cut (by omega)];simp only [zY,zZ];omega)) (zC 1 Z (zG Z (yL Z Z Z (by first | omega | (simp only [zP,zY,zZ,zT,qB];omega))) (zC 1 Z (zI (zD [0,4,6,7,8,9] [_,_,_,_,_,_] Z (zB (zC 1 Z (zG Z (qS Z Z Z (by omega) (by omega)) (zC 1 Z (zI (yZ ((i+1,(([83])++((([97,98,99,100]).drop ((i:Int).toNat)).take (((i:Int)+(1:Int)).toNat - (i:Int).toNat)))++g)) ⟨by omega,(by (try dsimp only);(try simp only [zP,zY,zZ,zT,qB]);omega),(by (try dsimp only);(try simp only [zP,zY,zZ,zT,qB]);omega)⟩ (by omega) (Sub.sel [0,4,6,7,8,9] Z) (fun _ h=>h))))))))))))))))
    refine qN (zD [0,4,6,7,8,9] [_,_,_,_,_,_] Z (zB (zC 1 Z (zG Z (qS Z Z Z (by omega) (by omega)) (zC 1 Z (zI (yZ (i+1,g) ⟨by omega,(by (try dsimp only);(try simp only [zP,zY,zZ,zT,qB]);omega),(by (try dsimp only);(try simp only [zP,zY,zZ,zT,qB]);omega)⟩ (by omega) (Sub.sel [0,4,6,7,8,9] Z) (fun _ h=>h))))))))
   refine xB Z (qJ (g) ⟨by omega,by omega⟩ (Sub.sel [0,4,6,7] Z) (fun _ h=>h))
  refine qN (qJ (f20) ⟨by omega,by omega⟩ (Sub.sel [0,4,6,7] Z) (fun _ h=>h))
 rintro g9 ⟨hg91,hg92⟩;refine zD [0,4,6,7] [_,_,_,_] Z (zE (jT (S:=Own B w0 [bk_ p6 #[i6_ a11.n,str a11.set,str a11.rel] 24]) [(0,true),(1,true),(2,true),(3,false),(4,false),(5,true)] yH (fun _ h=>h.drawn) (by kernel_rfl) (yJ Z Z Z Z Z (qW (cs:=#[i6_ a11.n,str a11.set,str a11.rel]) 0 Z qV Z Z qT) (pk [0] Z Z) (jF 2 Z (pk [0] Z Z) (yW Z (yI (rp:=rp) (RT:=104) (p:=p_24) (bv:=bv) (hs:=hs) (ok:=fun (g:List UInt8) p'=>g.length≤200∧p'≤p_24+5) (v:=fun (g:List UInt8)=>str g) (new:=fun (g:List UInt8)=>[]) (xs:=[.tmp 45,.tmp 46]) (vs:=[pt_ rp,str g9]) ([bk_ p6 #[i6_ a11.n,str a11.set,str a11.rel] 24,bk_ p4 #[i6_ 0,str ([]),str ([])] 24]:List (Nat×Obj)) Z Z Z Z Tryd.call104 Z (fun w1 hw1=>(l2Bad_ok B w0 (([bk_ p6 #[i6_ a11.n,str a11.set,str a11.rel] 24,bk_ p4 #[i6_ 0,str ([]),str ([])] 24]:List (Nat×Obj))++hs) rp p_24 bv L g9 w1 (fun w2 hw2=>hb w2 (qA (f:=([bk_ p6 #[i6_ a11.n,str a11.set,str a11.rel] 24,bk_ p4 #[i6_ 0,str ([]),str ([])] 24]:List (Nat×Obj))) hw2)) hL8 hL (by omega) (by omega) (by omega) hw1).mono fun en w' ⟨g',p',h1,h2,h3⟩=>⟨g',p',h1,h2,h3⟩) fun g47 p_47 hKp_47=>?_))))))
 show Ll _ _ (Own _ _ (_::_::_::hs)) _ _ ((47,str g47)::_) _ _ _
 obtain ⟨hleg47,hep_47⟩:=hKp_47;refine zL (yP (pk [0] Z Z) ?_);refine yW Z (jJ (cs':=#[i6_ a11.n,str a11.set,str a11.rel]) (hs':=(_::bk_ p4 #[i6_ a11.n,str a11.set,str a11.rel] 24::_::hs)) 1 Z Z Z Z Z (by kernel_rfl:_=some Tryd.t24) Z Z Z Z Z (zL (yP (pk [0] Z Z) ?_)));refine jF 1 Z (pk [0] Z Z) (Ld.nil (zD [4,5] [_,_] Z (qK (Kt.endMany Z (.cell (cs:=#[i6_ a11.n,str a11.set,str a11.rel]) Z (fun w1 hw1=>hw1.loadBox 1 Z qV qT) (.tmp (v:=str g47) Z ResAt.nil)) (by simp) fun w' hw=>?_))))
 exact ⟨a11,g47,p_47,rfl,⟨⟨hta11,by omega⟩,by omega⟩,hw.sub (qL _ (qL _ (zA _ (zO _))))⟩
set_option maxHeartbeats 400000 in
theorem drawDef_ok (B:Nat) (w0:World) (hs:List (Nat×Obj)) (bv:Value) (L:List Int) (w:World) (hb:∀ w,Own B w0 hs w→Row w bv (u8s L)) (hL8:Bytes8 L) (hLs:L.length≤1048576) (hw:Own B w0 hs w) :
    Calls Tryd.prog 24 [bv].toArray w fun en w'=>∃ a:St,∃ f:List UInt8,en=.returned (.tuple #[vS a,str f])∧(a.Tame∧f.length≤300)∧Own B w0 hs w':=by
 refine fnStartC (Own B w0 hs) (n:=35) (e:=[(0,bv)]) Tryd.func24 Z Z Z Z Ends.both hw (zE (qF (vL Z Z Z Z jE fun p2 hp2=>?_)))
 show Ll _ _ (Own _ _ (bk_ p2 #[i6_ 0,str ([]),str ([])] 24::hs)) _ _ ((2,pt_ p2)::_) _ _ _;refine zM (v:=str ([])) Z (jS Z Z) (zL (zD [0,2] [_,_] Z (zE (qF (qI 1 Z (jN (ok:=fun ((rp,v,M):Nat×Value×List Int)=>M.length≤2000∧Bytes8 M∧∀ w1,Own B w0 hs w1→Row w1 v (u8s M)) (v:=fun ((rp,v,M):Nat×Value×List Int)=>.pointer (some ⟨rp,0,none⟩)) (new:=fun ((rp,v,M):Nat×Value×List Int)=>[(rp,.cells #[v,.int .i64 ((0:Nat):Int)] 104 (0,0))]) (hs:=hs) (xs:=[.tmp 7]) (vs:=[bv]) ([bk_ p2 #[i6_ 0,str ([]),str ([])] 24]:List (Nat×Obj)) Z Z Z Z Tryd.call31 Z (fun w1 hw1=>(open_ok B w0 ([bk_ p2 #[i6_ 0,str ([]),str ([])] 24]:List (Nat×Obj)) hs _ _ w1 hb hL8 hLs hw1).mono fun en w' ⟨rp,v,M,h1,h2,h3⟩=>⟨(rp,v,M),h1,h2,h3⟩) fun ⟨rp,dv,M⟩ hO=>?_))))))
 dsimp only at hO
 obtain ⟨hM2,hM8,hMb⟩:=hO
 show Ll _ _ (Own _ _ (_::_::hs)) _ _ ((8,pt_ rp)::_) _ _ _;refine qI 1 Z (zL (zD [2,4] [_,_] Z (zE (qF (qI 2 Z (yT (xs:=[.const (str ([97])),.const (str ([97,98])),.const (str ([97,98]))]) (vs:=[str ([97]),str ([97,98]),str ([97,98])]) jR Z Z Z Z Z Z (by decide) Z fun p12 hp12=>(yI (rp:=rp) (RT:=104) (p:=0) (bv:=dv) (hs:=hs) (ok:=fun (v:List UInt8) p'=>v∈([[97],[97,98],[97,98]]:List (List UInt8))∧p'=0+1) (v:=fun (v:List UInt8)=>str v) (new:=fun (v:List UInt8)=>[]) (xs:=[.tmp 11,.tmp 12]) (vs:=[pt_ rp,sl_ p12 3 3]) ([bk_ p12 #[str ([97]),str ([97,98]),str ([97,98])] 9,bk_ p2 #[i6_ 0,str ([]),str ([])] 24]:List (Nat×Obj)) Z Z Z Z xT Z (fun w1 hw1=>(of_ok B w0 (([bk_ p12 #[str ([97]),str ([97,98]),str ([97,98])] 9,bk_ p2 #[i6_ 0,str ([]),str ([])] 24]:List (Nat×Obj))++hs) rp 0 dv M (sl_ p12 3 3) ([[97],[97,98],[97,98]]:List (List UInt8)) w1 (fun w2 hw2=>hMb w2 (qA (f:=([bk_ p12 #[str ([97]),str ([97,98]),str ([97,98])] 9,bk_ p2 #[i6_ 0,str ([]),str ([])] 24]:List (Nat×Obj))) hw2)) hM8 hM2 (fun w2 h2=>(xR h2 (i:=0) Z (n:=3) (cap:=3) (vs:=strs ([[97],[97,98],[97,98]]:List (List UInt8))) Z Z (by decide))) (by simp) (by omega) hw1).mono fun en w' ⟨v',p',h1,h2,h3⟩=>⟨v',p',h1,h2,h3⟩) fun v13 p_13 hKp_13=>?_)))))))
 show Ll _ _ (Own _ _ (_::_::_::hs)) _ _ ((13,str v13)::_) _ _ _
 obtain ⟨hmv13,hep_13⟩:=hKp_13
 have hqv13:=len_of (a:=1) (b:=2) hmv13 (by decide);refine yI (rp:=rp) (RT:=104) (p:=p_13) (bv:=dv) (hs:=hs) (ok:=fun ((a,f):St×List UInt8) p'=>(a.Tame∧f.length≤200)∧p'≤p_13+700) (v:=fun ((a,f):St×List UInt8)=>.tuple #[vS a,str f]) (new:=fun ((a,f):St×List UInt8)=>[]) (xs:=[.tmp 10,.tmp 13]) (vs:=[pt_ rp,str v13]) ([bk_ p12 #[str ([97]),str ([97,98]),str ([97,98])] 9,bk_ p2 #[i6_ 0,str ([]),str ([])] 24]:List (Nat×Obj)) Z Z Z Z Tryd.call62 Z (fun w1 hw1=>(l3Small_ok B w0 (([bk_ p12 #[str ([97]),str ([97,98]),str ([97,98])] 9,bk_ p2 #[i6_ 0,str ([]),str ([])] 24]:List (Nat×Obj))++hs) rp p_13 dv M v13 w1 (fun w2 hw2=>hMb w2 (qA (f:=([bk_ p12 #[str ([97]),str ([97,98]),str ([97,98])] 9,bk_ p2 #[i6_ 0,str ([]),str ([])] 24]:List (Nat×Obj))) hw2)) hM8 hM2 (by omega) (by omega) (by omega) hw1).mono fun en w' ⟨a',f',p',h1,h2,h3⟩=>⟨(a',f'),p',h1,h2,h3⟩) fun ⟨a14,f14⟩ p_14 hKp_14=>?_
 show Ll _ _ (Own _ _ (_::_::_::hs)) _ _ ((14,.tuple #[vS a14,str f14])::_) _ _ _
 obtain ⟨⟨hta14,hlef14⟩,hep_14⟩:=hKp_14;refine qI 1 Z (zM (v:=vS a14) Z (qX Z Z Z) (zM (v:=str f14) Z (qX Z Z Z) (vL Z Z Z Z jE fun p5 hp5=>?_)))
 show Ll _ _ (Own _ _ (bk_ p5 #[i6_ 0,str ([]),str ([])] 24::_::_::_::hs)) _ _ ((5,pt_ p5)::_) _ _ _;refine jJ (cs':=#[i6_ a14.n,str a14.set,str a14.rel]) (hs':=(bk_ p5 #[i6_ a14.n,str a14.set,str a14.rel] 24::_::_::_::hs)) 0 Z Z Z Z Z (by kernel_rfl:_=some Tryd.t24) Z Z Z Z Z (qI 1 Z (zL (zD [2,4,5,6] [_,_,_,_] Z (zE (zE (qF (qI 1 Z (yI (rp:=rp) (RT:=104) (p:=p_14) (bv:=dv) (hs:=hs) (ok:=fun (k:Int) p'=>0≤k∧(1≤(4:Int)→k<4)∧p'=p_14+1) (v:=fun (k:Int)=>i6_ k) (new:=fun (k:Int)=>[]) (xs:=[.tmp 17,.const (i6_ 4)]) (vs:=[pt_ rp,i6_ 4]) ([bk_ p5 #[i6_ a14.n,str a14.set,str a14.rel] 24,bk_ p12 #[str ([97]),str ([97,98]),str ([97,98])] 9,bk_ p2 #[i6_ 0,str ([]),str ([])] 24]:List (Nat×Obj)) Z Z Z Z xS Z (fun w1 hw1=>(pick_ok B w0 (([bk_ p5 #[i6_ a14.n,str a14.set,str a14.rel] 24,bk_ p12 #[str ([97]),str ([97,98]),str ([97,98])] 9,bk_ p2 #[i6_ 0,str ([]),str ([])] 24]:List (Nat×Obj))++hs) rp p_14 dv M 4 w1 (fun w2 hw2=>hMb w2 (qA (f:=([bk_ p5 #[i6_ a14.n,str a14.set,str a14.rel] 24,bk_ p12 #[str ([97]),str ([97,98]),str ([97,98])] 9,bk_ p2 #[i6_ 0,str ([]),str ([])] 24]:List (Nat×Obj))) hw2)) hM8 hM2 (by omega) hw1).mono fun en w' ⟨k',p',h1,h2,h3⟩=>⟨k',p',h1,h2,h3⟩) fun k18 p_18 hKp_18=>?_))))))))
 show Ll _ _ (Own _ _ (_::_::_::_::hs)) _ _ ((18,i6_ k18)::_) _ _ _
 obtain ⟨h0k18,h1k18,hep_18⟩:=hKp_18
 try have hltk18:=h1k18 (by first | omega | (split <;> omega) | decide);refine qI 2 Z (Ll.bool fun b20 hg20=>?_)
 cases b20
 ·
  replace hg20:=zS hg20;refine jL Z (jL Z (jL Z (qI 2 Z (jL Z (jL Z (jL Z (qI 1 Z (zL (zD [2,5,6,29] [_,_,_,_] Z (xO Z (qN (zD [2,5,6] [_,_,_] Z (zE (qF (zM Z (qW (cs:=#[i6_ a14.n,str a14.set,str a14.rel]) 0 Z qV Z Z qT) (qI 1 Z (jJ (cs':=#[i6_ a14.n,str a14.set,str a14.rel]) (hs':=(_::_::bk_ p2 #[i6_ a14.n,str a14.set,str a14.rel] 24::_::hs)) 2 Z Z Z Z Z (by kernel_rfl:_=some Tryd.t24) Z Z Z Z Z (qI 1 Z (zL (zD [2,3] [_,_] Z (qK (Kt.endMany Z (.cell (cs:=#[i6_ a14.n,str a14.set,str a14.rel]) Z (fun w1 hw1=>hw1.loadBox 2 Z qV qT) (.tmp (v:=str f14) Z ResAt.nil)) (by simp) fun w' hw=>?_))))))))))))))))))))))
  exact ⟨a14,f14,rfl,⟨hta14,(by (try dsimp only);(try simp only [zP,zY,zZ,zT,qB]);omega)⟩,qA (f:=[_,_,_,_]) hw⟩
 replace hg20:=zW hg20;refine qI 1 Z (zM (v:=str (freeT f14)) Z (qR Z Tryd.call65 Z qG (fun w1 hw1=>sFree_ok f14 w1 (by first | omega | (simp;omega)))) (zM Z (OpQ.sneq Z Z Z) (qI 2 Z (Ll.bool fun b25 hg25=>?_))))
 cases b25
 ·
  replace hg25:=not_false hg25;refine jL Z (jL Z (jL Z (qI 1 Z (zL (zD [2,5,6,29] [_,_,_,_] Z (xO Z (qN (zD [2,5,6] [_,_,_] Z (zE (qF (zM Z (qW (cs:=#[i6_ a14.n,str a14.set,str a14.rel]) 0 Z qV Z Z qT) (qI 1 Z (jJ (cs':=#[i6_ a14.n,str a14.set,str a14.rel]) (hs':=(_::_::bk_ p2 #[i6_ a14.n,str a14.set,str a14.rel] 24::_::hs)) 2 Z Z Z Z Z (by kernel_rfl:_=some Tryd.t24) Z Z Z Z Z (qI 1 Z (zL (zD [2,3] [_,_] Z (qK (Kt.endMany Z (.cell (cs:=#[i6_ a14.n,str a14.set,str a14.rel]) Z (fun w1 hw1=>hw1.loadBox 2 Z qV qT) (.tmp (v:=str f14) Z ResAt.nil)) (by simp) fun w' hw=>?_))))))))))))))))))
  exact ⟨a14,f14,rfl,⟨hta14,(by (try dsimp only);(try simp only [zP,zY,zZ,zT,qB]);omega)⟩,qA (f:=[_,_,_,_]) hw⟩
 replace hg25:=not_true hg25;refine qI 1 Z (zM (v:=str (freeT f14)) Z (qR Z Tryd.call65 Z qG (fun w1 hw1=>sFree_ok f14 w1 (by first | omega | (simp;omega)))) (zM Z (OpQ.sneq Z Z Z) (qI 1 Z (zL (zD [2,5,6,29] [_,_,_,_] Z (yC (b:=!((freeT f14)==([]))) Z (fun h29=>?_) (fun h29=>?_)))))))
 ·
  replace h29:=not_true h29;refine zE (qF (zM Z (qW (cs:=#[i6_ a14.n,str a14.set,str a14.rel]) 0 Z qV Z Z qT) (qI 1 Z (zM Z (yL Z Z Z (by first | omega | (simp only [zP,zY,zZ];omega))) (jJ (cs':=#[i6_ a14.n,str a14.set,str a14.rel]) (hs':=(_::_::bk_ p2 #[i6_ a14.n,str a14.set,str a14.rel] 24::_::hs)) 2 Z Z Z Z Z (by kernel_rfl:_=some Tryd.t24) Z Z Z Z Z (qI 1 Z (zL (zD [2,3] [_,_] Z (qK (Kt.endMany Z (.cell (cs:=#[i6_ a14.n,str a14.set,str a14.rel]) Z (fun w1 hw1=>hw1.loadBox 2 Z qV qT) (.tmp (v:=str (([83,98])++f14)) Z ResAt.nil)) (by simp) fun w' hw=>?_))))))))))
  exact ⟨a14,([83,98])++f14,rfl,⟨hta14,(by (try dsimp only);(try simp only [zP,zY,zZ,zT,qB]);omega)⟩,qA (f:=[_,_,_,_]) hw⟩
 replace h29:=not_false h29;refine qN (zD [2,5,6] [_,_,_] Z (zE (qF (zM Z (qW (cs:=#[i6_ a14.n,str a14.set,str a14.rel]) 0 Z qV Z Z qT) (qI 1 Z (jJ (cs':=#[i6_ a14.n,str a14.set,str a14.rel]) (hs':=(_::_::bk_ p2 #[i6_ a14.n,str a14.set,str a14.rel] 24::_::hs)) 2 Z Z Z Z Z (by kernel_rfl:_=some Tryd.t24) Z Z Z Z Z (qI 1 Z (zL (zD [2,3] [_,_] Z (qK (Kt.endMany Z (.cell (cs:=#[i6_ a14.n,str a14.set,str a14.rel]) Z (fun w1 hw1=>hw1.loadBox 2 Z qV qT) (.tmp (v:=str f14) Z ResAt.nil)) (by simp) fun w' hw=>?_)))))))))))
 exact ⟨a14,f14,rfl,⟨hta14,(by (try dsimp only);(try simp only [zP,zY,zZ,zT,qB]);omega)⟩,qA (f:=[_,_,_,_]) hw⟩
end Go.Proofs.YtagbocafnliabaaDoor
namespace Go.Wk
open Go.RowKit
def atO (os:List Int) (ys:List Int):List Int:=ys.map fun y=>os.getD y.toNat 0
theorem atO_len (os ys:List Int):(atO os ys).length=ys.length:=by simp [atO]
theorem atO_at (os:List Int) {ys:List Int} {i:Nat} (h:i<ys.length):(atO os ys).getD i 0=os.getD (ys.getD i 0).toNat 0:=by
 unfold atO
 rw [getD_at (by simpa using h),getD_at h];simp
theorem shape_same {a b:St} {os:List Int} (hs:sameB a os b (upto os.length)=true) {ys:List Int} (hB:∀ y∈ys,0≤y∧y<(os.length:Int)):sameB a (atO os ys) b ys=true:=by
 have key:∀ i:Nat,i<ys.length→(ys.getD i 0).toNat<os.length∧(((ys.getD i 0).toNat:Nat):Int)=ys.getD i 0:=fun i hi=>by
  have:=hB (ys.getD i 0) (by rw [getD_at hi];exact List.getElem_mem _)
  omega
 unfold sameB
 rw [List.all_eq_true]
 intro i hi
 rw [List.mem_range,atO_len] at hi
 unfold stillAt
 have ki:=key i hi
 refine (stillB_true (by rw [List.length_take,List.length_take,atO_len])).2 ?_
 rw [atO_at os hi]
 have h1:=shaped_at hs ki.1 ki.1
 rw [ki.2] at h1
 refine ⟨h1.1,h1.2.2,fun k hk=>pairOk_true.2 ?_⟩
 rw [List.length_take,atO_len] at hk
 have kk:=key k (by omega)
 rw [take_getD (by omega),take_getD (by omega),atO_at os (by omega)]
 have h2:=shaped_at hs kk.1 ki.1
 have h3:=shaped_at hs ki.1 kk.1
 rw [kk.2,ki.2] at h2
 rw [kk.2,ki.2] at h3
 refine ⟨decide_eq_decide.2 ?_,h2.2.2,h3.2.2⟩
 rw [h2.2.1];omega
theorem shape_wins {a b:St} {os:List Int} (hn:a.n=b.n) (hl:(os.length:Int)=a.n) (hA:a.Els os) (hs:sameB a os b (upto os.length)=true):∀ (n:Nat) (ys:List Int),(∀ y∈ys,0≤y∧y<(os.length:Int))→winP n a (atO os ys) b ys
  | 0,ys,hB=>shape_same hs hB
  | n+1,ys,hB=>by
    have more:∀ y:Nat,y<os.length→winP n a (atO os ys++[os.getD y 0]) b (ys++[(y:Int)]):=fun y hy=>by
      have:=shape_wins hn hl hA hs n (ys++[(y:Int)]) fun z hz=>by
        rcases List.mem_append.1 hz with h | h
        · exact hB z h
        · rw [List.mem_singleton.1 h];omega
      rwa [show atO os (ys++[(y:Int)])=atO os ys++[os.getD y 0] from by simp [atO]] at this
    refine ⟨shape_same hs hB,fun x hx=>?_,fun y hy=>?_⟩
    · obtain ⟨y,hy,e⟩:=shaped_onto hl hA hs (x:=(x:Int)) ⟨by omega,by omega⟩
      exact ⟨y,by omega,by rw [← e];exact more y hy⟩
    · have hy':y<os.length:=by omega
      have hel:=hA (os.getD y 0) (by rw [getD_at hy'];exact List.getElem_mem _)
      refine ⟨(os.getD y 0).toNat,by have:=hel.1;have:=hel.2;omega,?_⟩
      rw [show (((os.getD y 0).toNat:Nat):Int)=os.getD y 0 from by have:=hel.1;omega]
      exact more y hy'
end Go.Wk
namespace Go.Wk
open Go.RowKit
theorem holdK_of {a:St} {f:List UInt8} {xs:List Int} {p:Fm} (e:formO f=some p) (c:validB a=true∧xs.length≤4∧(∀ x∈xs,a.El x)∧frB p / 2 ^ xs.length=0):holdK a f xs=true∧holdV a f xs=ev a p (envL xs):=⟨(hold_yes (holdO_some e c)).2,(hold_yes (holdO_some e c)).1⟩
theorem bit_under {x k i:Nat} (h:x / 2 ^ k=0) (hi:x.testBit i=true):i<k:=by
 have h1:x<2 ^ k:=(Nat.div_eq_zero_iff.1 h).resolve_left (Nat.ne_of_gt (Nat.two_pow_pos k))
 exact Classical.byContradiction fun hn=>by
  have h2:x<2 ^ i:=Nat.lt_of_lt_of_le h1 (Nat.pow_le_pow_right (by decide) (by omega))
  rw [Nat.testBit_lt_two_pow h2] at hi;cases hi
theorem envL_at {xs:List Int} {i:Nat} (h:i<xs.length):(envL xs).getD i 0=xs.getD i 0:=by
 unfold envL
 rw [getD_at (by rw [List.length_append];omega),getD_at h,List.getElem_append_left h]
theorem on_lists {xs ys:List Int} {fr:Nat} (h:fr / 2 ^ xs.length=0) (hl:xs.length=ys.length):OnVars xs ys fr (envL xs) (envL ys):=fun i _ ht=>by
 have hi:=bit_under h ht
 exact ⟨i,hi,envL_at hi,envL_at (by omega)⟩
end Go.Wk
namespace Go.Wk
open Go.RowKit
theorem Turns.swap {a b:St} {k:Nat} {n:Int} (h:Turns a b k n):Turns b a k n:=by
  rcases h with ⟨m,e,h5,h6⟩ | ⟨e,h5⟩
  · exact .inl ⟨m,e,fun h=>h5 (pW_comm _ _ _ _ _ rfl h),fun i hi=>pW_comm _ _ _ _ _ rfl (h6 i hi)⟩
  · exact .inr ⟨e,fun i=>pW_comm _ _ _ _ _ rfl (h5 i)⟩
def atQ (os ys:List Int):List Int:=ys.map fun y=>if y<0 then -1 else os.getD y.toNat 0
@[simp] theorem atQ_len (os ys:List Int):(atQ os ys).length=ys.length:=by simp [atQ]
end Go.Wk
namespace Go.Wk
open Go.RowKit
section
variable {a:St} {r:Int}
def Moved (a:St) (x z:Int):Prop:=∃ os:List Int,(os.length:Int)=a.n∧a.Els os∧sameB a os a (upto os.length)=true∧os.getD x.toNat 0=z
end
def orbStep (x:Int) (os:List Int) (t:List Bool):List Bool×Bool:=(t.set (os.getD x.toNat 0).toNat true,true)
section
variable {τ:Type}
theorem shS_inv {a b:St} {step:List Int→τ→τ×Bool} {I:τ→Prop} (hstep:∀ os t,(os.length:Int)=a.n→a.Els os→sameB a os b (upto os.length)=true→I t→I (step os t).1) (ha:a.Fine):∀ (m:Nat) (os:List Int) (t:τ),os.length+m=a.n.toNat→a.Els os→sameB a os b (upto os.length)=true→I t→I (shS a b step m os t).1
  | 0,os,t,h,hA,hs,hI=>hstep os t (by have:=ha.lo;omega) hA hs hI
  | m+1,os,t,h,hA,hs,hI=>by
    have key:∀ k:Nat,k≤a.n.toNat→I (shLoop (shF a b (shS a b step m) os) k t).1:=fun k=>by
      induction k with
      | zero=>exact fun _=>hI
      | succ k ih =>
        intro hk
        rw [shLoop]
        split
        · unfold shF
          split
          · rename_i hst
            exact shS_inv hstep ha m _ _ (by simp;omega) (els_more hA ⟨by omega,by omega⟩) (same_grown hs hst) (ih (by omega))
          · exact ih (by omega)
        · exact ih (by omega)
    exact key _ (Nat.le_refl _)
end
def OrbI (a:St) (x:Int) (t:List Bool):Prop:=t.length=a.n.toNat∧∀ z:Nat,z<a.n.toNat→t.getD z false=true→Moved a x z
theorem orb_inv {a:St} {x:Int} (ha:a.Fine) (hx:a.El x):OrbI a x (shS a a (orbStep x) a.n.toNat [] (List.replicate a.n.toNat false)).1:=by
  refine shS_inv (I:=OrbI a x) (fun os t hl hA hs hI=>?_) ha a.n.toNat [] _ (by simp) (fun x hx=>by cases hx) rfl ⟨by simp,fun z hz h=>?_⟩
  · unfold orbStep
    refine ⟨by rw [List.length_set];exact hI.1,fun z hz h=>?_⟩
    have hel:=hA (os.getD x.toNat 0) (by rw [getD_at (by have:=hx.2;have:=hx.1;omega)];exact List.getElem_mem _)
    by_cases e:(os.getD x.toNat 0).toNat=z
    · exact ⟨os,hl,hA,hs,by have:=hel.1;omega⟩
    · refine hI.2 z hz ?_
      rwa [List.getD_eq_getElem?_getD,List.getElem?_set_ne e,← List.getD_eq_getElem?_getD] at h
  · rw [List.getD_eq_getElem?_getD,List.getElem?_replicate,if_pos hz] at h;cases h
def trueTo (bs:List Bool):Nat→List Int
 | 0=>[]
 | k+1=>if bs.getD k false then trueTo bs k++[(k:Int)] else trueTo bs k
theorem true_yes {bs:List Bool} {k:Nat} (h:bs.getD k false=true):trueTo bs (k+1)=trueTo bs k++[(k:Int)]:=by rw [trueTo,if_pos h]
theorem true_no {bs:List Bool} {k:Nat} (h:bs.getD k false=false):trueTo bs (k+1)=trueTo bs k:=by rw [trueTo,if_neg (by rw [h];decide)]
theorem true_le (bs:List Bool):∀ k,(trueTo bs k).length≤k
  | 0=>Nat.le_refl _
  | k+1=>by
    have:=true_le bs k
    rw [trueTo]
    split
    · simp;omega
    · omega
theorem mem_true {bs:List Bool} {z:Int}:∀ {k:Nat},z∈trueTo bs k→∃ i:Nat,i<k∧z=i∧bs.getD i false=true
  | 0,h=>by cases h
  | k+1,h=>by
    rw [trueTo] at h
    split at h
    · rename_i hb
      rcases List.mem_append.1 h with h1 | h1
      · obtain ⟨i,h2,h3⟩:=mem_true h1;exact ⟨i,by omega,h3⟩
      · exact ⟨k,by omega,List.mem_singleton.1 h1,hb⟩
    · obtain ⟨i,h2,h3⟩:=mem_true h;exact ⟨i,by omega,h3⟩
theorem orb_all {a:St} {x:Int} {t:List Bool} (h:OrbI a x t):∀ z∈trueTo t t.length,a.El z∧Moved a x z:=fun z hz=>by
 obtain ⟨i,h1,rfl,h2⟩:=mem_true hz
 rw [h.1] at h1
 exact ⟨⟨by omega,by omega⟩,h.2 i h1 h2⟩
section
variable {τ:Type}
theorem shLoop_go {f:Nat→τ→τ×Bool} (hf:∀ k t,(f k t).2=true):∀ (k:Nat) (t:τ),(shLoop f k t).2=true
 | 0,_=>rfl
 | k+1,t=>by rw [shLoop,if_pos (shLoop_go hf k t)];exact hf _ _
theorem shS_go {a b:St} {step:List Int→τ→τ×Bool} (hs:∀ os t,(step os t).2=true):∀ (m:Nat) (os:List Int) (t:τ),(shS a b step m os t).2=true
 | 0,os,t=>hs os t
 | m+1,os,t=>shLoop_go (fun k t=>by unfold shF;split;exact shS_go hs m _ _;rfl) _ t
theorem shLoop_keep {f:Nat→τ→τ×Bool} {J:τ→Prop} (hf:∀ k t,J t→J (f k t).1):∀ (k:Nat) (t:τ),J t→J (shLoop f k t).1
  | 0,_,h=>h
  | k+1,t,h=>by
    rw [shLoop]
    split
    · exact hf _ _ (shLoop_keep hf k t h)
    · exact shLoop_keep hf k t h
theorem shS_keep {a b:St} {step:List Int→τ→τ×Bool} {J:τ→Prop} (hJ:∀ os t,J t→J (step os t).1):∀ (m:Nat) (os:List Int) (t:τ),J t→J (shS a b step m os t).1
 | 0,os,t,h=>hJ os t h
 | m+1,os,t,h=>shLoop_keep (fun k t h=>by unfold shF;split;exact shS_keep hJ m _ _ h;exact h) _ t h
theorem shS_id {a:St} {step:List Int→τ→τ×Bool} {J:τ→Prop} (hs:∀ os t,(step os t).2=true) (hJ:∀ os t,J t→J (step os t).1) (hid:∀ t,J (step (upto a.n.toNat) t).1):∀ (m i:Nat) (t:τ),i+m=a.n.toNat→J (shS a a step m (upto i) t).1
  | 0, i, t, h => by obtain rfl : i = a.n.toNat := by omega
                     exact hid t
  | m+1,i,t,h=>by
    have hgo:∀ k t,(shF a a (shS a a step m) (upto i) k t).2=true:=fun k t=>by unfold shF;split;exact shS_go hs m _ _;rfl
    have hkp:∀ k t,J t→J (shF a a (shS a a step m) (upto i) k t).1:=fun k t h=>by unfold shF;split;exact shS_keep hJ m _ _ h;exact h
    have key:∀ k:Nat,i<k→J (shLoop (shF a a (shS a a step m) (upto i)) k t).1:=fun k=>by
      induction k with
      | zero=>intro h;omega
      | succ k ih =>
        intro hk
        rw [shLoop,if_pos (shLoop_go hgo k t)]
        rcases Nat.lt_or_ge i k with h1 | h1
        · exact hkp _ _ (ih h1)
        · obtain rfl:i=k:=by omega
          unfold shF
          have hst:stillB a (upto i) a (upto (upto i).length) (i:Int) (upto i).length=true:=by
            have h2:=same_refl a (upto (i+1))
            rw [upto_succ,same_more rfl,Bool.and_eq_true] at h2
            have h3:=h2.2
            rwa [upto_length]
          rw [if_pos hst,show upto i++[(i:Int)]=upto (i+1) from (upto_succ i).symm]
          exact shS_id hs hJ hid m (i+1) _ (by omega)
    exact key a.n.toNat (by omega)
end
theorem orb_marks {a:St} {x:Int} (ha:a.Fine) (hx:a.El x):(shS a a (orbStep x) a.n.toNat [] (List.replicate a.n.toNat false)).1.getD x.toNat false=true:=by
  have hlo:=ha.lo
  have hx2:x.toNat<a.n.toNat:=by have:=hx.1;have:=hx.2;omega
  have:=shS_id (a:=a) (step:=orbStep x) (J:=fun t:List Bool=>t.length=a.n.toNat→t.getD x.toNat false=true) (fun _ _=>rfl) (fun os t h hl=>by
    unfold orbStep at hl ⊢
    rw [List.length_set] at hl
    have h1:=h hl
    by_cases e:(os.getD x.toNat 0).toNat=x.toNat
    · rw [e,List.getD_eq_getElem?_getD,List.getElem?_set_self (by omega)];rfl
    · rw [List.getD_eq_getElem?_getD,List.getElem?_set_ne e,← List.getD_eq_getElem?_getD];exact h1) (fun t hl=>by
    unfold orbStep at hl ⊢
    rw [List.length_set] at hl
    rw [upto_at hx2,Int.toNat_natCast,List.getD_eq_getElem?_getD,List.getElem?_set_self (by omega)];rfl) a.n.toNat 0 (List.replicate a.n.toNat false) (by omega)
  exact this (orb_inv ha hx).1
theorem true_first {bs:List Bool} {i:Nat} (hi:bs.getD i false=true):∀ {k:Nat},i<k→0<(trueTo bs k).length∧(trueTo bs k).getD 0 0≤(i:Int)
  | 0,h=>by omega
  | k+1,h=>by
    rcases Nat.lt_or_ge i k with h1 | h1
    · obtain ⟨h2,h3⟩:=true_first hi h1
      rw [trueTo]
      split
      · exact ⟨by rw [List.length_append];omega,by rw [getD_app1 h2];exact h3⟩
      · exact ⟨h2,h3⟩
    · obtain rfl:i=k:=by omega
      rw [true_yes hi]
      refine ⟨by rw [List.length_append];simp,?_⟩
      cases e:trueTo bs i with
      | nil=>exact Int.le_refl _
      | cons z l =>
        have hz:z∈trueTo bs i:=by rw [e];simp
        obtain ⟨j,hj,rfl,_⟩:=mem_true hz
        show (j:Int)≤(i:Int)
        omega
theorem orb_first {a:St} {x:Int} {t:List Bool} (hx:a.El x) (hl:t.length=a.n.toNat) (h:t.getD x.toNat false=true):0<(trueTo t t.length).length∧(trueTo t t.length).getD 0 0≤x:=by
 have hx1:=hx.1
 have hx2:=hx.2
 have:=true_first h (k:=t.length) (by omega)
 exact ⟨this.1,by have:=this.2;omega⟩
end Go.Wk
namespace Go.Wk
open Go.RowKit
def rotA (n m:Nat) (i:Nat):Nat:=(i+m) % n
def rotL (n m:Nat):Nat→List Int
 | 0=>[]
 | k+1=>rotL n m k++[((rotA n m k:Nat):Int)]
@[simp] theorem rotL_len (n m:Nat):∀ k,(rotL n m k).length=k
 | 0=>rfl
 | k+1=>by simp [rotL,rotL_len n m k]
end Go.Wk
namespace Go.Wk
open Go.RowKit
def bes1 (k x:Nat):List Int:=(bes k).set 0 (x:Int)
@[simp] theorem bes1_len (k x:Nat):(bes1 k x).length=k:=by unfold bes1;rw [List.length_set,bes_len]
structure CntE (q:Nat→Nat→Bool) (num:Nat→Int) (n:Nat) (S:List Int):Prop where
  srt:S.Pairwise (·<·)
  has:∀ y:Nat,y<n→num y∈S
  src:∀ m∈S,∃ y:Nat,y<n∧m=num y
  cls:(clsN q n).2=S.length
theorem CntE.zero {q:Nat→Nat→Bool} {num:Nat→Int}:CntE q num 0 []:=⟨List.Pairwise.nil,fun y hy=>absurd hy (by omega),fun m hm=>(by cases hm),rfl⟩
theorem CntE.len {q:Nat→Nat→Bool} {num:Nat→Int} {n:Nat} {S:List Int} (h:CntE q num n S):S.length≤n:=by rw [← h.cls];exact (cls_small _ n).1
end Go.Wk
namespace Go.Wk
open Go.RowKit
theorem point_one {size k:Nat} (h:k<size):pointL size 1 k=[(k:Int)]:=by
 unfold pointL pointL
 rw [Nat.mod_eq_of_lt h];rfl
end Go.Wk
namespace Go.Wk
open Go.RowKit
def rdyB (a:St) (f:List UInt8) (w:Nat):Bool:=validB a&&(match formO f with | some p=>decide (frB p / 2 ^ w=0) | none=>false)
theorem rdy_parts {a:St} {f:List UInt8} {w:Nat} (h:rdyB a f w=true):validB a=true∧∃ p,formO f=some p∧frB p / 2 ^ w=0:=by
 unfold rdyB at h
 rw [Bool.and_eq_true] at h
 refine ⟨h.1,?_⟩
 have h2:=h.2
 cases e:formO f with
 | none=>rw [e] at h2;cases h2
 | some p=>rw [e] at h2;exact ⟨p,rfl,of_decide_eq_true h2⟩
theorem rdy_of {a:St} {f:List UInt8} {w:Nat} {p:Fm} (hv:validB a=true) (e:formO f=some p) (h:frB p / 2 ^ w=0):rdyB a f w=true:=by
 unfold rdyB;rw [hv,e];exact decide_eq_true h
theorem rdy_no {a:St} {f:List UInt8} {w:Nat} (h:validB a=false∨formO f=none∨∃ p,formO f=some p∧¬ frB p / 2 ^ w=0):rdyB a f w=false:=by
  unfold rdyB
  rcases h with h | h | ⟨p,e,h⟩
  · rw [h];rfl
  · rw [h];exact Bool.and_false _
  · rw [e];dsimp only;rw [decide_eq_false h,Bool.and_false]
theorem rdy_hold {a:St} {f:List UInt8} {p:Fm} (hv:validB a=true) (e:formO f=some p) (h:frB p / 2 ^ 1=0) {x:Nat} (hx:(x:Int)<a.n):holdK a f [(x:Int)]=true∧holdV a f [(x:Int)]=ev a p (envL [(x:Int)]) :=
 holdK_of e ⟨hv,by simp,els_one ⟨by omega,hx⟩,h⟩
noncomputable def defL (a:St) (f:List UInt8):Nat→List Int
 | 0=>[]
 | k+1=>if holdV a f [(k:Int)] then defL a f k++[(k:Int)] else defL a f k
theorem defL_yes {a:St} {f:List UInt8} {k:Nat} (h:holdV a f [(k:Int)]=true):defL a f (k+1)=defL a f k++[(k:Int)]:=by rw [defL,if_pos h]
theorem defL_no {a:St} {f:List UInt8} {k:Nat} (h:holdV a f [(k:Int)]=false):defL a f (k+1)=defL a f k:=by rw [defL,h];rfl
theorem defL_len {a:St} {f:List UInt8}:∀ k:Nat,(defL a f k).length=cntT (fun x=>holdV a f [(x:Int)]) k
 | 0=>rfl
 | k+1=>by
  cases e:holdV a f [(k:Int)] with
  | true=>rw [defL_yes e,List.length_append,defL_len k,cntT,e];rfl
  | false=>rw [defL_no e,defL_len k,cntT,e];rfl
theorem defL_le {a:St} {f:List UInt8} (k:Nat):(defL a f k).length≤k:=by rw [defL_len];exact cntT_le _ k
theorem defL_mem {a:St} {f:List UInt8} {z:Int}:∀ {k:Nat},z∈defL a f k↔∃ x:Nat,x<k∧z=(x:Int)∧holdV a f [(x:Int)]=true
  | 0=>⟨(fun h=>by cases h),fun ⟨x,h,_⟩=>absurd h (Nat.not_lt_zero x)⟩
  | k+1=>by
    cases e:holdV a f [(k:Int)] with
    | true =>
      rw [defL_yes e,List.mem_append,defL_mem (k:=k),List.mem_singleton]
      constructor
      · rintro (⟨x,h1,h2⟩ | h)
        · exact ⟨x,by omega,h2⟩
        · exact ⟨k,by omega,h,e⟩
      · rintro ⟨x,h1,h2,h3⟩
        rcases Nat.lt_or_ge x k with q | q
        · exact .inl ⟨x,q,h2,h3⟩
        · obtain rfl:x=k:=by omega
          exact .inr h2
    | false =>
      rw [defL_no e,defL_mem (k:=k)]
      constructor
      · rintro ⟨x,h1,h2⟩;exact ⟨x,by omega,h2⟩
      · rintro ⟨x,h1,h2,h3⟩
        rcases Nat.lt_or_ge x k with q | q
        · exact ⟨x,q,h2,h3⟩
        · obtain rfl:x=k:=by omega
          rw [e] at h3;cases h3
noncomputable def defO (a:St) (f:List UInt8):List Int×Bool:=if rdyB a f 1 then (defL a f a.n.toNat,true) else ([],false)
noncomputable def cntO (a:St) (f:List UInt8):Int:=if rdyB a f 1 then (cntT (fun x=>holdV a f [(x:Int)]) a.n.toNat:Int) else -1
theorem defO_at {a:St} {f:List UInt8} (h:(defO a f).2=true):rdyB a f 1=true∧(defO a f).1=defL a f a.n.toNat:=by
  unfold defO at h ⊢
  by_cases c:rdyB a f 1=true
  · rw [if_pos c];exact ⟨c,rfl⟩
  · rw [if_neg c] at h;cases h
theorem defO_yes {a:St} {f:List UInt8} (h:rdyB a f 1=true):defO a f=(defL a f a.n.toNat,true):=by unfold defO;rw [if_pos h]
theorem defO_no {a:St} {f:List UInt8} (h:rdyB a f 1=false):defO a f=([],false):=by unfold defO;rw [h];rfl
theorem cntO_yes {a:St} {f:List UInt8} (h:rdyB a f 1=true):cntO a f=(cntT (fun x=>holdV a f [(x:Int)]) a.n.toNat:Int):=by unfold cntO;rw [if_pos h]
theorem cntO_no {a:St} {f:List UInt8} (h:rdyB a f 1=false):cntO a f = -1:=by unfold cntO;rw [h];rfl
theorem def_cnt {a:St} {f:List UInt8} (h:(defO a f).2=true):cntO a f=((defO a f).1.length:Int):=by
 obtain ⟨c,e⟩:=defO_at h
 rw [cntO_yes c,e,defL_len]
theorem defO_le (a:St) (f:List UInt8):(defO a f).1.length≤a.n.toNat:=by
  unfold defO
  split
  · exact defL_le _
  · simp
theorem def_has {a:St} {f:List UInt8} (h:(defO a f).2=true) {x:Nat} (hx:(x:Int)<a.n):decide ((x:Int)∈(defO a f).1)=holdV a f [(x:Int)]:=by
 rw [(defO_at h).2]
 cases e:holdV a f [(x:Int)] with
 | true=>exact decide_eq_true (defL_mem.2 ⟨x,by omega,rfl,e⟩)
 | false =>
  refine decide_eq_false fun hm=>?_
  obtain ⟨y,_,h2,h3⟩:=defL_mem.1 hm
  rw [show y=x by omega,e] at h3;cases h3
theorem def_els {a:St} {f:List UInt8} (h:(defO a f).2=true):a.Els (defO a f).1:=fun z hz=>by
 have hn:=(validB_fine (rdy_parts (defO_at h).1).1).lo
 rw [(defO_at h).2] at hz
 obtain ⟨x,h1,rfl,_⟩:=defL_mem.1 hz
 exact ⟨by omega,by omega⟩
theorem def_nodup {a:St} {f:List UInt8}:∀ k:Nat,(defL a f k).Nodup
 | 0=>List.nodup_nil
 | k+1=>by
  cases e:holdV a f [(k:Int)] with
  | true =>
   rw [defL_yes e,List.nodup_append]
   refine ⟨def_nodup k,by simp,fun x hx y hy=>?_⟩
   obtain ⟨m,h1,rfl,_⟩:=defL_mem.1 hx
   rw [List.mem_singleton.1 hy];omega
  | false=>rw [defL_no e];exact def_nodup k
theorem moved_hold {a:St} {f:List UInt8} (h:rdyB a f 1=true) {x z:Int} (hx:a.El x) (hz:a.El z) (hm:Moved a x z):holdV a f [z]=holdV a f [x]:=by
 obtain ⟨hv,p,e,hf⟩:=rdy_parts h
 obtain ⟨os,h1,h2,h3,h4⟩:=hm
 have hw:=shape_wins rfl h1 h2 h3 (rankF p) [x] (fun y hy=>by rw [List.mem_singleton.1 hy];exact ⟨hx.1,by rw [h1];exact hx.2⟩)
 have e2:atO os [x]=[z]:=by show [os.getD x.toNat 0]=[z];rw [h4]
 rw [e2] at hw
 have k1:=holdK_of (a:=a) (xs:=[z]) e ⟨hv,by simp,(fun y hy=>by rw [List.mem_singleton.1 hy];exact hz),hf⟩
 have k2:=holdK_of (a:=a) (xs:=[x]) e ⟨hv,by simp,(fun y hy=>by rw [List.mem_singleton.1 hy];exact hx),hf⟩
 rw [k1.2,k2.2]
 exact game_ev (xs:=[z]) (ys:=[x]) (formO_wf e) (Nat.le_refl _) rfl hw (envL_len (by simp)) (envL_len (by simp)) (on_lists (xs:=[z]) (ys:=[x]) hf rfl)
theorem def_moved {a:St} {f:List UInt8} (h:(defO a f).2=true) {x z:Int} (hx:x∈(defO a f).1) (hz:a.El z) (hm:Moved a x z):z∈(defO a f).1:=by
 have hel:=def_els h x hx
 have hr:=(defO_at h).1
 have hn:=(validB_fine (rdy_parts hr).1).lo
 have e:=moved_hold hr hel hz hm
 rw [(defO_at h).2] at hx ⊢
 obtain ⟨y,h1,rfl,h3⟩:=defL_mem.1 hx
 obtain ⟨k,rfl⟩:∃ k:Nat,z=(k:Int):=⟨z.toNat,by have:=hz.1;omega⟩
 exact defL_mem.2 ⟨k,by have:=hz.2;omega,rfl,by rw [e];exact h3⟩
end Go.Wk
namespace Go.Wk
open Go.RowKit
theorem nodup_take {xs:List Int} (hd:xs.Nodup) {k:Nat} (hk:k<xs.length):¬ xs.getD k 0∈xs.take k:=fun h=>by
 rw [getD_at hk] at h
 obtain ⟨i,hi,e⟩:=List.getElem_of_mem h
 rw [List.length_take] at hi
 rw [List.getElem_take] at e
 exact (List.pairwise_iff_getElem.1 hd) i k (by omega) hk (by omega) e
theorem mem_at0 {xs:List Int} {k:Nat} (h:k<xs.length):xs.getD k 0∈xs:=by rw [getD_at h];exact List.getElem_mem _
theorem rows_memo {α:Type} (g:α) (R f mB t:List α) (M:α):(g::(R++(f++(M::(mB++t))))).Perm (g::(f++(M::(mB++(R++t))))):=List.Perm.cons _ (by
 have e1:R++(f++(M::(mB++t)))=R++((f++(M::mB))++t):=by simp
 have e2:f++(M::(mB++(R++t)))=(f++(M::mB))++(R++t):=by simp
 rw [e1,e2];exact List.perm_append_comm_assoc _ _ _)
theorem rdy_at {a:St} {f:List UInt8} {w:Nat} {p:Fm} (hv:validB a=true) (e:formO f=some p):rdyB a f w=decide (((frB p / 2 ^ w:Nat):Int)=0):=by
 unfold rdyB
 rw [hv,e,Bool.true_and]
 dsimp only
 rw [decide_eq_decide];omega
theorem cntT_yes {F:Nat→Bool} {x:Nat} (h:F x=true):cntT F (x+1)=cntT F x+1:=by rw [cntT,h];rfl
theorem cntT_no {F:Nat→Bool} {x:Nat} (h:F x=false):cntT F (x+1)=cntT F x:=by rw [cntT,h];rfl
theorem rows_one {rr:List RR} {n i:Nat} (h:rr.map RR.xs=listsL n 1) (hl:rr.length=n) (hi:i<rr.length):(rr.getD i rd).xs=[(i:Int)]:=by
 rw [rows_point (by omega) h hi,point_one (by omega)]
theorem defO_8 (a:St) (f:List UInt8):(defO a f).1.length≤8:=by
 cases h:rdyB a f 1 with
 | true =>
  have:=(validB_fine (rdy_parts h).1).hi
  have:=defO_le a f
  omega
 | false=>rw [defO_no h];decide
theorem def_closed {a:St} {f:List UInt8} (h:(defO a f).2=true):validB a=true∧a.Els (defO a f).1∧(defO a f).1.Nodup∧∀ x∈(defO a f).1,∀ z:Int,a.El z→Moved a x z→z∈(defO a f).1 :=
 ⟨(rdy_parts (defO_at h).1).1,def_els h,by rw [(defO_at h).2];exact def_nodup _,fun x hx z hz hm=>def_moved h hx hz hm⟩
end Go.Wk
namespace Go.Proofs
open Go.Shelf
def Tryd.lays137_ren:Go.Shelf.Ren:=⟨fun | 137=>155 | 217=>163 | 266=>170 | n=>n,fun | 9=>9 | 5=>5 | 3=>3 | n=>n,fun | n=>n⟩
theorem Tryd.lays137:Go.Proofs.Lays.n137 Tryd.prog Tryd.lays137_ren:={
 mixed:=by kernel_rfl
 f137:=Tryd.func155.trans (congrArg some (by kernel_rfl))
 f217:=Tryd.func163.trans (congrArg some (by kernel_rfl))
 f266:=Tryd.func170.trans (congrArg some (by kernel_rfl))
 t3:=Tryd.underlying3
 a3:=Tryd.isAgg3
 z3:=Tryd.sizeOf3
 v3:=Tryd.zeroValue3
 t5:=Tryd.underlying5
 a5:=Tryd.isAgg5
 z5:=Tryd.sizeOf5
 v5:=Tryd.zeroValue5
 t9:=Tryd.underlying9
 a9:=Tryd.isAgg9
 z9:=Tryd.sizeOf9
 v9:=Tryd.zeroValue9 }
open Go.RowKit in
theorem Tryd.strings_IndexByte (s:ByteArray) (c:Int) (w:World) :
  Calls Tryd.prog 155 #[.string s,.int .u8 c] w fun e w'=>e=.returned (.int .i64 (Lib.indexByte s.data.toList c.toNat.toUInt8))∧w'=w:=Any.strings_IndexByte Tryd.lays137 s c w
def Tryd.lays144_ren:Go.Shelf.Ren:=⟨fun | 144=>138 | 143=>154 | 219=>162 | 217=>163 | 225=>167 | 224=>168 | 267=>169 | 266=>170 | 314=>172 | n=>n,fun | 9=>9 | 4=>4 | 3=>3 | 5=>5 | 46=>91 | 146=>181 | 51=>180 | n=>n,fun | 1=>0 | n=>n⟩
theorem Tryd.lays144:Go.Proofs.Lays.n144 Tryd.prog Tryd.lays144_ren:={
 mixed:=by kernel_rfl
 f143:=Tryd.func154.trans (congrArg some (by kernel_rfl))
 f144:=Tryd.func138.trans (congrArg some (by kernel_rfl))
 f217:=Tryd.func163.trans (congrArg some (by kernel_rfl))
 f219:=Tryd.func162.trans (congrArg some (by kernel_rfl))
 f224:=Tryd.func168.trans (congrArg some (by kernel_rfl))
 f225:=Tryd.func167.trans (congrArg some (by kernel_rfl))
 f266:=Tryd.func170.trans (congrArg some (by kernel_rfl))
 f267:=Tryd.func169.trans (congrArg some (by kernel_rfl))
 f314:=Tryd.func172.trans (congrArg some (by kernel_rfl))
 t3:=Tryd.underlying3
 a3:=Tryd.isAgg3
 z3:=Tryd.sizeOf3
 v3:=Tryd.zeroValue3
 t4:=Tryd.underlying4
 a4:=Tryd.isAgg4
 z4:=Tryd.sizeOf4
 v4:=Tryd.zeroValue4
 t5:=Tryd.underlying5
 a5:=Tryd.isAgg5
 z5:=Tryd.sizeOf5
 v5:=Tryd.zeroValue5
 t9:=Tryd.underlying9
 a9:=Tryd.isAgg9
 z9:=Tryd.sizeOf9
 v9:=Tryd.zeroValue9
 t46:=Tryd.underlying91
 a46:=Tryd.isAgg91
 z46:=Tryd.sizeOf91
 v46:=Tryd.zeroValue91
 t51:=Tryd.underlying180
 a51:=Tryd.isAgg180
 z51:=Tryd.sizeOf180
 v51:=Tryd.zeroValue180
 t146:=Tryd.underlying181
 a146:=Tryd.isAgg181
 z146:=Tryd.sizeOf181
 v146:=Tryd.zeroValue181
 g1:=by kernel_rfl }
open Go.RowKit Go.Lib in
theorem Tryd.strings_Contains_one (s:ByteArray) (c:UInt8) (w:World) :
  Calls Tryd.prog 138 #[.string s,.string ⟨#[c]⟩] w fun e w'=>e=.returned (.bool (decide (0≤Lib.indexByte s.data.toList c)))∧w'=w:=Any.strings_Contains_one Tryd.lays144 s c w
end Go.Proofs
