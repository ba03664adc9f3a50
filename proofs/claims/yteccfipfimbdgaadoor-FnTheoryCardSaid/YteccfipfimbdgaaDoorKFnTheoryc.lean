/-
  FnTheory: all that its proof names (part 3)
-/
import Derived.Test.YteccfipfimbdgaaDoorKFnTheoryb
import Derived.Test.YteccfipfimbdgaaDoorKFnTheorya
import Derived.Shelf.Small.Strs
import Derived.Shelf.Strings.Search3
import Derived.Test.YteccfipfimbdgaaDoorProg
namespace Go.Proofs.YteccfipfimbdgaaDoor
open Go.RowKit Go.Wk
set_option linter.unusedSimpArgs false
set_option maxHeartbeats 400000 in
theorem l1Draw_ok (B:Nat) (w0:World) (hs:List (Nat×Obj)) (rp p:Nat) (bv:Value) (L:List Int) (n:Int) (w:World) (hb:∀ w,Own B w0 hs w→Row w bv (u8s L)) (hL8:Bytes8 L) (hL:L.length≤2000) (hn0:0≤n) (hn8:n≤8) (hp:p≤900000) (hw:Own B w0 ((rp,.cells #[bv,.int .i64 (p:Int)] 84 (0,0))::hs) w) :
    Calls Tryd.prog 83 [pt_ rp,i6_ n].toArray w fun en w'=>∃ a:St,∃ p':Nat,en=.returned (vS a)∧((a.n=n∧(a.set.length:Int)=n∧a.rel.length=n.toNat*n.toNat)∧p'≤p+100)∧Own B w0 (((rp,.cells #[bv,.int .i64 (p':Int)] 84 (0,0))::hs)) w':=by
 refine fnStartC (Own B w0 ((rp,.cells #[bv,.int .i64 (p:Int)] 84 (0,0))::hs)) (n:=111) (e:=[(0,pt_ rp),(1,i6_ n)]) Tryd.func83 Z Z Z Z Ends.both hw (zF (qK (vD Z Z Z Z xM fun p4 hp4=>?_)))
 show Ll _ _ (Own _ _ (bk_ p4 #[i6_ 0,str ([]),str ([])] 24::_::hs)) _ _ ((4,pt_ p4)::_) _ _ _;refine zJ (zD [0,1,4] [_,_,_] Z (zF (qK (qN 1 Z (zM (v:=.agg #[i6_ n,str ([]),str ([])]) Z (vK (xs:=[.tmp 10]) (vs:=[i6_ n]) Z Z (by kernel_rfl)) (vD Z Z Z Z xM fun p5 hp5=>?_))))))
 show Ll _ _ (Own _ _ (bk_ p5 #[i6_ 0,str ([]),str ([])] 24::_::_::hs)) _ _ ((5,pt_ p5)::_) _ _ _;refine xQ (cs':=#[i6_ n,str ([]),str ([])]) (hs':=(bk_ p5 #[i6_ n,str ([]),str ([])] 24::_::_::hs)) 0 Z Z Z Z Z (by kernel_rfl:_=some Tryd.t24) Z Z Z Z Z (zJ (zD [0,1,4,5] [_,_,_,_] Z (zF (qK (qN 1 Z (yK (rp:=rp) (RT:=84) (p:=p) (bv:=bv) (hs:=hs) (ok:=fun (k:Int) p'=>0≤k∧(1≤(8:Int)→k<8)∧p'=p+1) (v:=fun (k:Int)=>i6_ k) (new:=fun (k:Int)=>[]) (xs:=[.tmp 12,.const (i6_ 8)]) (vs:=[pt_ rp,i6_ 8]) ([bk_ p5 #[i6_ n,str ([]),str ([])] 24,bk_ p4 #[i6_ 0,str ([]),str ([])] 24]:List (Nat×Obj)) Z Z Z Z xW Z (fun w1 hw1=>(pick_ok B w0 (([bk_ p5 #[i6_ n,str ([]),str ([])] 24,bk_ p4 #[i6_ 0,str ([]),str ([])] 24]:List (Nat×Obj))++hs) rp p bv L 8 w1 (fun w2 hw2=>hb w2 (qB (f:=([bk_ p5 #[i6_ n,str ([]),str ([])] 24,bk_ p4 #[i6_ 0,str ([]),str ([])] 24]:List (Nat×Obj))) hw2)) hL8 hL (by omega) hw1).mono fun en w' ⟨k',p',h1,h2,h3⟩=>⟨k',p',h1,h2,h3⟩) fun k13 p_13 hKp_13=>?_))))))
 show Ll _ _ (Own _ _ (_::_::_::hs)) _ _ ((13,i6_ k13)::_) _ _ _
 obtain ⟨h0k13,h1k13,hep_13⟩:=hKp_13
 try have hltk13:=h1k13 (by first | omega | (split <;> omega) | decide);refine qN 1 Z (zJ (zD [0,1,4,5,6] [_,_,_,_,_] Z (zF (zF (zB (zC 1 Z (zL (zD [0,1,4,5,6,7] [_,_,_,_,_,_] Z (qY (jR (σ:=Nat×List UInt8×List UInt8×Nat) (fun ⟨k,S,R,p0⟩=>(k:Int)≤n∧S.length=k∧R.length=k*n.toNat∧p0≤p+2+k*9) (fun ⟨k,S,R,p0⟩=>[(0,pt_ rp),(1,i6_ n),(4,pt_ p4),(5,pt_ p5),(6,i6_ k13),(7,i6_ (k:Int))]) (fun ⟨k,S,R,p0⟩=>Own B w0 (bk_ p5 #[i6_ n,str S,str R] 24::bk_ p4 #[i6_ 0,str ([]),str ([])] 24::bk_ rp #[bv,i6_ (p0:Int)] 84::hs)) (fun ⟨k,S,R,p0⟩=>(n - k).toNat) (0,[],[],p_13) ⟨by omega,rfl,by simp,by omega⟩ (Sub.sel [0,1,4,5,6,7] Z) (fun _ h=>h) ?_))))))))))
 rintro ⟨k,S,R,p0⟩ ⟨hk,hS,hR,hp0⟩
 dsimp only
 have hkn:k*n.toNat≤8*8:=Nat.mul_le_mul (by omega) (by omega);refine zF (zF (zB (zC 3 Z (zL (zD [0,1,4,5,6,7,16] [_,_,_,_,_,_,_] Z (yG Z (fun h16=>?_) (fun h16=>?_)))))))
 ·
  refine qU (zD [0,1,4,5,6,7] [_,_,_,_,_,_] Z (zF (qY (zF (jE (σ:=List UInt8×Nat) (fun ⟨S2,p2⟩=>S2.length=k+1∧p2≤p0+1) (fun ⟨S2,p2⟩=>[(0,pt_ rp),(1,i6_ n),(4,pt_ p4),(5,pt_ p5),(6,i6_ k13),(7,i6_ (k:Int))]) (fun ⟨S2,p2⟩=>Own B w0 (bk_ p5 #[i6_ n,str S2,str R] 24::bk_ p4 #[i6_ 0,str ([]),str ([])] 24::bk_ rp #[bv,i6_ (p2:Int)] 84::hs)) ?_ ?_)))))
  ·
   refine xY (S:=Own B w0 [bk_ p4 #[i6_ 0,str ([]),str ([])] 24]) (.take 0 (.take 2 (.take 3 (.take 4 (.take 5 (.two 1 (.one 6 (.take 7 (.take 8 (.one 9 (.take 10 (.take 11 (.one 12 .done))))))) 6 (.take 7 (.take 8 (.two 1 (.one 9 (.take 10 (.take 11 (.one 12 .done)))) 9 (.one 1 (.take 10 (.take 11 (.one 12 .done))))))))))))) yD (fun _ h=>h.drawn) (by kernel_rfl) (zR Z Z Z Z Z (zH Z zY Z qJ Z Z) (pk [1] Z Z) (jY 3 Z (pk [1] Z Z) (Lu.bool fun b23 hg23=>?_)))
   cases b23
   ·
    replace hg23:=zW hg23;refine Lu.pass Z Z Z Z (pk [1] Z Z) (yS Z Z ?_ ?_)
    ·
     refine zM Z (zP 0 Z yB Z Z Z) (zJ (zI (pk [1] Z Z) ?_));refine zS Z (vQ Z (zJ (zI (pk [1] Z Z) ?_)));refine Lu.pass Z Z Z Z (pk [1] Z Z) (jY 1 Z (pk [1] Z Z) (zS Z (zM (v:=str (if false then [49] else [48])) Z (qM Z vM Z qD (fun w1 hw1=>bitD_ok false w1 )) (zJ (zI (pk [1] Z Z) ?_)))));refine zR Z Z Z Z Z (yC Z Z Z (by first | (rw [bit_len];omega) | omega)) (pk [1] Z Z) (zR Z Z Z Z Z (zH Z zY Z qJ Z Z) (pk [1] Z Z) (zS Z (qI (v:=str (S++(if false then [49] else [48]))) (hs':=(bk_ p5 #[i6_ n,str (S++(if false then [49] else [48])),str R] 24::_::_::hs)) 0 Z Z Z Z Z Z qJ Z (by simp) Z (zJ (zI (pk [1] Z Z) ?_)))));refine yF (qH (S++(if false then [49] else [48]),p0) ⟨by (try dsimp only);rw [zQ];first | (rw [bit_len];omega) | (simp;omega),by (try dsimp only);omega⟩ (Sub.sel [0,1,4,5,6,7] Z) (fun _ h=>h))
    refine vQ Z (zJ (zI (pk [1] Z Z) ?_));refine Lu.pass Z Z Z Z (pk [1] Z Z) (jY 1 Z (pk [1] Z Z) (yS Z Z ?_ ?_))
    ·
     refine zM Z (zP 0 Z yB Z Z Z) (zJ (zI (pk [1] Z Z) ?_));refine zS Z (zM (v:=str (if false then [49] else [48])) Z (qM Z vM Z qD (fun w1 hw1=>bitD_ok false w1 )) (zJ (zI (pk [1] Z Z) ?_)));refine zR Z Z Z Z Z (yC Z Z Z (by first | (rw [bit_len];omega) | omega)) (pk [1] Z Z) (zR Z Z Z Z Z (zH Z zY Z qJ Z Z) (pk [1] Z Z) (zS Z (qI (v:=str (S++(if false then [49] else [48]))) (hs':=(bk_ p5 #[i6_ n,str (S++(if false then [49] else [48])),str R] 24::_::_::hs)) 0 Z Z Z Z Z Z qJ Z (by simp) Z (zJ (zI (pk [1] Z Z) ?_)))));refine yF (qH (S++(if false then [49] else [48]),p0) ⟨by (try dsimp only);rw [zQ];first | (rw [bit_len];omega) | (simp;omega),by (try dsimp only);omega⟩ (Sub.sel [0,1,4,5,6,7] Z) (fun _ h=>h))
    refine zM (v:=str (if false then [49] else [48])) Z (qM Z vM Z qD (fun w1 hw1=>bitD_ok false w1 )) (zJ (zI (pk [1] Z Z) ?_));refine zS Z (zM Z (zP 0 Z yB Z Z Z) (zJ (zI (pk [1] Z Z) ?_)));refine zR Z Z Z Z Z (yC Z Z Z (by first | (rw [bit_len];omega) | omega)) (pk [1] Z Z) (zR Z Z Z Z Z (zH Z zY Z qJ Z Z) (pk [1] Z Z) (zS Z (qI (v:=str (S++(if false then [49] else [48]))) (hs':=(bk_ p5 #[i6_ n,str (S++(if false then [49] else [48])),str R] 24::_::_::hs)) 0 Z Z Z Z Z Z qJ Z (by simp) Z (zJ (zI (pk [1] Z Z) ?_)))));refine yF (qH (S++(if false then [49] else [48]),p0) ⟨by (try dsimp only);rw [zQ];first | (rw [bit_len];omega) | (simp;omega),by (try dsimp only);omega⟩ (Sub.sel [0,1,4,5,6,7] Z) (fun _ h=>h))
   replace hg23:=zZ hg23;refine jY 1 Z (pk [1] Z Z) (yS Z Z ?_ ?_)
   ·
    refine zM Z (zP 0 Z yB Z Z Z) (zJ (zI (pk [1] Z Z) ?_));refine zS Z (yK (rp:=rp) (RT:=84) (p:=p0) (bv:=bv) (hs:=hs) (ok:=fun (k:Int) p'=>0≤k∧(1≤(3:Int)→k<3)∧p'=p0+1) (v:=fun (k:Int)=>i6_ k) (new:=fun (k:Int)=>[]) (xs:=[.tmp 24,.const (i6_ 3)]) (vs:=[pt_ rp,i6_ 3]) ([bk_ p5 #[i6_ n,str S,str R] 24,bk_ p4 #[i6_ 0,str ([]),str ([])] 24]:List (Nat×Obj)) Z Z Z Z xW Z (fun w1 hw1=>(pick_ok B w0 (([bk_ p5 #[i6_ n,str S,str R] 24,bk_ p4 #[i6_ 0,str ([]),str ([])] 24]:List (Nat×Obj))++hs) rp p0 bv L 3 w1 (fun w2 hw2=>hb w2 (qB (f:=([bk_ p5 #[i6_ n,str S,str R] 24,bk_ p4 #[i6_ 0,str ([]),str ([])] 24]:List (Nat×Obj))) hw2)) hL8 hL (by omega) hw1).mono fun en w' ⟨k',p',h1,h2,h3⟩=>⟨k',p',h1,h2,h3⟩) fun k25 p_25 hKp_25=>?_)
    show Ll _ _ (Own _ _ (_::_::_::hs)) _ _ ((25,i6_ k25)::_) _ _ _
    obtain ⟨h0k25,h1k25,hep_25⟩:=hKp_25
    try have hltk25:=h1k25 (by first | omega | (split <;> omega) | decide);refine zJ (zI (pk [1] Z Z) ?_);refine jY 2 Z (pk [1] Z Z) (zS Z (zM (v:=str ((if decide (k25=(0:Int)) then [49] else [48]))) Z (qM Z vM Z qD (fun w1 hw1=>bitD_ok (decide (k25=(0:Int))) w1 )) (zJ (zI (pk [1] Z Z) ?_))));refine zR Z Z Z Z Z (yC Z Z Z (by first | (rw [bit_len];omega) | omega)) (pk [1] Z Z) (zR Z Z Z Z Z (zH Z zY Z qJ Z Z) (pk [1] Z Z) (zS Z (qI (v:=str (S++((if decide (k25=(0:Int)) then [49] else [48])))) (hs':=(bk_ p5 #[i6_ n,str (S++((if decide (k25=(0:Int)) then [49] else [48]))),str R] 24::_::_::hs)) 0 Z Z Z Z Z Z qJ Z (by simp) Z (zJ (zI (pk [1] Z Z) ?_)))));refine yF (qH ((S++((if decide (k25=(0:Int)) then [49] else [48])),p_25)) ⟨by (try dsimp only);rw [zQ];first | (rw [bit_len];omega) | (simp;omega),by (try dsimp only);omega⟩ (Sub.sel [0,1,4,5,6,7] Z) (fun _ h=>h))
   refine yK (rp:=rp) (RT:=84) (p:=p0) (bv:=bv) (hs:=hs) (ok:=fun (k:Int) p'=>0≤k∧(1≤(3:Int)→k<3)∧p'=p0+1) (v:=fun (k:Int)=>i6_ k) (new:=fun (k:Int)=>[]) (xs:=[.tmp 24,.const (i6_ 3)]) (vs:=[pt_ rp,i6_ 3]) ([bk_ p5 #[i6_ n,str S,str R] 24,bk_ p4 #[i6_ 0,str ([]),str ([])] 24]:List (Nat×Obj)) Z Z Z Z xW Z (fun w1 hw1=>(pick_ok B w0 (([bk_ p5 #[i6_ n,str S,str R] 24,bk_ p4 #[i6_ 0,str ([]),str ([])] 24]:List (Nat×Obj))++hs) rp p0 bv L 3 w1 (fun w2 hw2=>hb w2 (qB (f:=([bk_ p5 #[i6_ n,str S,str R] 24,bk_ p4 #[i6_ 0,str ([]),str ([])] 24]:List (Nat×Obj))) hw2)) hL8 hL (by omega) hw1).mono fun en w' ⟨k',p',h1,h2,h3⟩=>⟨k',p',h1,h2,h3⟩) fun k25_1 p_25_1 hKp_25_1=>?_
   show Ll _ _ (Own _ _ (_::_::_::hs)) _ _ ((25,i6_ k25_1)::_) _ _ _
   obtain ⟨h0k25_1,h1k25_1,hep_25_1⟩:=hKp_25_1
   try have hltk25_1:=h1k25_1 (by first | omega | (split <;> omega) | decide);refine zJ (zI (pk [1] Z Z) ?_);refine jY 2 Z (pk [1] Z Z) (yS Z Z ?_ ?_)
   ·
    refine zM Z (zP 0 Z yB Z Z Z) (zJ (zI (pk [1] Z Z) ?_));refine zS Z (zM (v:=str ((if decide (k25_1=(0:Int)) then [49] else [48]))) Z (qM Z vM Z qD (fun w1 hw1=>bitD_ok (decide (k25_1=(0:Int))) w1 )) (zJ (zI (pk [1] Z Z) ?_)));refine zR Z Z Z Z Z (yC Z Z Z (by first | (rw [bit_len];omega) | omega)) (pk [1] Z Z) (zR Z Z Z Z Z (zH Z zY Z qJ Z Z) (pk [1] Z Z) (zS Z (qI (v:=str (S++((if decide (k25_1=(0:Int)) then [49] else [48])))) (hs':=(bk_ p5 #[i6_ n,str (S++((if decide (k25_1=(0:Int)) then [49] else [48]))),str R] 24::_::_::hs)) 0 Z Z Z Z Z Z qJ Z (by simp) Z (zJ (zI (pk [1] Z Z) ?_)))));refine yF (qH ((S++((if decide (k25_1=(0:Int)) then [49] else [48])),p_25_1)) ⟨by (try dsimp only);rw [zQ];first | (rw [bit_len];omega) | (simp;omega),by (try dsimp only);omega⟩ (Sub.sel [0,1,4,5,6,7] Z) (fun _ h=>h))
   refine zM (v:=str ((if decide (k25_1=(0:Int)) then [49] else [48]))) Z (qM Z vM Z qD (fun w1 hw1=>bitD_ok (decide (k25_1=(0:Int))) w1 )) (zJ (zI (pk [1] Z Z) ?_));refine zS Z (zM Z (zP 0 Z yB Z Z Z) (zJ (zI (pk [1] Z Z) ?_)));refine zR Z Z Z Z Z (yC Z Z Z (by first | (rw [bit_len];omega) | omega)) (pk [1] Z Z) (zR Z Z Z Z Z (zH Z zY Z qJ Z Z) (pk [1] Z Z) (zS Z (qI (v:=str (S++((if decide (k25_1=(0:Int)) then [49] else [48])))) (hs':=(bk_ p5 #[i6_ n,str (S++((if decide (k25_1=(0:Int)) then [49] else [48]))),str R] 24::_::_::hs)) 0 Z Z Z Z Z Z qJ Z (by simp) Z (zJ (zI (pk [1] Z Z) ?_)))));refine yF (qH ((S++((if decide (k25_1=(0:Int)) then [49] else [48])),p_25_1)) ⟨by (try dsimp only);rw [zQ];first | (rw [bit_len];omega) | (simp;omega),by (try dsimp only);omega⟩ (Sub.sel [0,1,4,5,6,7] Z) (fun _ h=>h))
  rintro ⟨S2,p2⟩ ⟨hS2,hp2⟩
  dsimp only;refine zD [0,1,4,5,6,7] [_,_,_,_,_,_] Z (zF (zB (zC 1 Z (zL (zD [0,1,4,5,6,7,8] [_,_,_,_,_,_,_] Z (qY (jR (σ:=Nat×List UInt8×Nat) (fun ⟨j,R1,p1⟩=>(j:Int)≤n∧R1.length=k*n.toNat+j∧p1≤p+3+k*9+j) (fun ⟨j,R1,p1⟩=>[(0,pt_ rp),(1,i6_ n),(4,pt_ p4),(5,pt_ p5),(6,i6_ k13),(7,i6_ (k:Int)),(8,i6_ (j:Int))]) (fun ⟨j,R1,p1⟩=>Own B w0 (bk_ p5 #[i6_ n,str S2,str R1] 24::bk_ p4 #[i6_ 0,str ([]),str ([])] 24::bk_ rp #[bv,i6_ (p1:Int)] 84::hs)) (fun ⟨j,R1,p1⟩=>(n - j).toNat) (0,R,p2) ⟨by omega,by omega,by omega⟩ (Sub.sel [0,1,4,5,6,7,8] Z) (fun _ h=>h) ?_)))))))
  rintro ⟨j,R1,p1⟩ ⟨hj,hR1,hp1⟩
  dsimp only
  have hj8:j≤8:=by omega
  refine zF (zF (zB (zC 3 Z (zL (zD [0,1,4,5,6,7,8,33] [_,_,_,_,_,_,_,_] Z (yG Z (fun h33=>?_) (fun h33=>?_)))))))
  ·
   refine qU (zD [0,1,4,5,6,7,8] [_,_,_,_,_,_,_] Z (zF (qY (zF (qK (qN 1 Z (yK (rp:=rp) (RT:=84) (p:=p1) (bv:=bv) (hs:=hs) (ok:=fun (k:Int) p'=>0≤k∧(1≤(3:Int)→k<3)∧p'=p1+1) (v:=fun (k:Int)=>i6_ k) (new:=fun (k:Int)=>[]) (xs:=[.tmp 36,.const (i6_ 3)]) (vs:=[pt_ rp,i6_ 3]) ([bk_ p5 #[i6_ n,str S2,str R1] 24,bk_ p4 #[i6_ 0,str ([]),str ([])] 24]:List (Nat×Obj)) Z Z Z Z xW Z (fun w1 hw1=>(pick_ok B w0 (([bk_ p5 #[i6_ n,str S2,str R1] 24,bk_ p4 #[i6_ 0,str ([]),str ([])] 24]:List (Nat×Obj))++hs) rp p1 bv L 3 w1 (fun w2 hw2=>hb w2 (qB (f:=([bk_ p5 #[i6_ n,str S2,str R1] 24,bk_ p4 #[i6_ 0,str ([]),str ([])] 24]:List (Nat×Obj))) hw2)) hL8 hL (by omega) hw1).mono fun en w' ⟨k',p',h1,h2,h3⟩=>⟨k',p',h1,h2,h3⟩) fun k37 p_37 hKp_37=>?_)))))))
   show Ll _ _ (Own _ _ (_::_::_::hs)) _ _ ((37,i6_ k37)::_) _ _ _
   obtain ⟨h0k37,h1k37,hep_37⟩:=hKp_37
   try have hltk37:=h1k37 (by first | omega | (split <;> omega) | decide);refine qN 2 Z (zJ (zD [0,1,4,5,6,7,8,9] [_,_,_,_,_,_,_,_] Z (zF (zF (zB (zC 1 Z (zL (zD [0,1,4,5,6,7,8,9,39] [_,_,_,_,_,_,_,_,_] Z (jE (σ:=Bool) (fun b9=>True) (fun b9=>[(0,pt_ rp),(1,i6_ n),(4,pt_ p4),(5,pt_ p5),(6,i6_ k13),(7,i6_ (k:Int)),(8,i6_ (j:Int)),(9,bo_ b9)]) (fun b9=>Own B w0 (bk_ p5 #[i6_ n,str S2,str R1] 24::bk_ p4 #[i6_ 0,str ([]),str ([])] 24::bk_ rp #[bv,i6_ (p_37:Int)] 84::hs)) ?_ ?_)))))))))
   ·
    refine qY (zF (zB (zC 2 Z (zL (zD [0,1,4,5,6,7,8,9,39,40] [_,_,_,_,_,_,_,_,_,_] Z (yG Z (fun h40=>?_) (fun h40=>?_)))))))
    ·
     refine zB (zC 2 Z (zG Z (qQ Z Z Z (by omega) (by omega)) (zC 1 Z (zG (v:=i6_ (((k:Int)+(1:Int)) % n)) Z (OpQ.rem Z Z Z (by omega) (by omega)) (zC 2 Z (zL (qH (decide ((j:Int)=(((k:Int)+(1:Int)) % n))) trivial (Sub.sel [0,1,4,5,6,7,8,9] Z) (fun _ h=>h))))))))
    refine zF (zB (zC 2 Z (zL (zD [0,1,4,5,6,7,8,9,39,48] [_,_,_,_,_,_,_,_,_,_] Z (yG Z (fun h48=>?_) (fun h48=>?_))))))
    ·
     refine zB (zC 4 Z (zL (qH (decide ((k:Int)<(j:Int))) trivial (Sub.sel [0,1,4,5,6,7,8,9] Z) (fun _ h=>h))))
    refine zF (zB (zC 2 Z (zL (zD [0,1,4,5,6,7,8,9,39,53] [_,_,_,_,_,_,_,_,_,_] Z (yG Z (fun h53=>?_) (fun h53=>?_))))))
    ·
     refine zB (zC 4 Z (xJ fun b58 hg58=>?_))
     cases b58
     ·
      replace hg58:=not_false hg58
      replace hg58:=zZ hg58;refine zU Z (zU Z (zU Z (zU Z (zU Z (zC 2 Z (zL (qH (false) trivial (Sub.sel [0,1,4,5,6,7,8,9] Z) (fun _ h=>h))))))))
     replace hg58:=not_true hg58
     replace hg58:=zW hg58;refine zC 2 Z (zG Z (qQ Z Z Z (by omega) (by omega)) (zG (v:=i6_ (((k:Int)+(j:Int)) % (2:Int))) Z (OpQ.rem Z Z Z (by omega) (by decide)) (zC 3 Z (zL (qH (decide ((((k:Int)+(j:Int)) % (2:Int))=(1:Int))) trivial (Sub.sel [0,1,4,5,6,7,8,9] Z) (fun _ h=>h))))))
    refine zF (zB (zC 2 Z (zL (zD [0,1,4,5,6,7,8,9,39,65] [_,_,_,_,_,_,_,_,_,_] Z (yG Z (fun h65=>?_) (fun h65=>?_))))))
    ·
     refine zB (zC 4 Z (xJ fun b70 hg70=>?_))
     cases b70
     ·
      replace hg70:=zW hg70;refine zC 2 Z (zG Z (qQ Z Z Z (by omega) (by omega)) (zC 3 Z (xJ fun b76 hg76=>?_)))
      cases b76
      ·
       replace hg76:=zW hg76;refine zC 2 Z (zG Z (qQ Z Z Z (by omega) (by omega)) (zC 3 Z (zL (qH (decide ((k:Int)=((j:Int)+(1:Int)))) trivial (Sub.sel [0,1,4,5,6,7,8,9] Z) (fun _ h=>h)))))
      replace hg76:=zZ hg76;refine zU Z (zU Z (zU Z (zU Z (zC 2 Z (zL (qH (true) trivial (Sub.sel [0,1,4,5,6,7,8,9] Z) (fun _ h=>h)))))))
     replace hg70:=zZ hg70;refine zU Z (zU Z (zU Z (zU Z (zC 2 Z (zU Z (zU Z (zU Z (zU Z (zC 2 Z (zL (qH (true) trivial (Sub.sel [0,1,4,5,6,7,8,9] Z) (fun _ h=>h))))))))))))
    refine zF (zB (zC 2 Z (zL (zD [0,1,4,5,6,7,8,9,39,82] [_,_,_,_,_,_,_,_,_,_] Z (yG Z (fun h82=>?_) (fun h82=>?_))))))
    ·
     refine zB (zC 2 Z (xJ fun b85 hg85=>?_))
     cases b85
     ·
      replace hg85:=zW hg85;refine zU Z (zU Z (zU Z (zC 2 Z (zL (qH (false) trivial (Sub.sel [0,1,4,5,6,7,8,9] Z) (fun _ h=>h))))))
     replace hg85:=zZ hg85;refine zC 5 Z (zL (qH (!(decide ((k:Int)=(j:Int)))) trivial (Sub.sel [0,1,4,5,6,7,8,9] Z) (fun _ h=>h)))
    refine zF (zB (zC 2 Z (zL (zD [0,1,4,5,6,7,8,9,90] [_,_,_,_,_,_,_,_,_] Z (yG Z (fun h90=>?_) (fun h90=>?_))))))
    ·
     refine zB (zC 1 Z (zG Z (qQ Z Z Z (by omega) (by omega)) (zG (v:=i6_ (((k:Int)+(1:Int)) / (2:Int))) Z (OpQ.quo Z Z Z (by omega) (by omega) (by decide)) (zC 1 Z (zG Z (qQ Z Z Z (by omega) (by omega)) (zG (v:=i6_ (((j:Int)+(1:Int)) / (2:Int))) Z (OpQ.quo Z Z Z (by omega) (by omega) (by decide)) (zC 2 Z (xJ fun b99 hg99=>?_))))))))
     cases b99
     ·
      replace hg99:=zW hg99;refine zU Z (zU Z (zU Z (zC 2 Z (zL (qH (false) trivial (Sub.sel [0,1,4,5,6,7,8,9] Z) (fun _ h=>h))))))
     replace hg99:=zZ hg99;refine zC 5 Z (zL (qH (!(decide ((k:Int)=(j:Int)))) trivial (Sub.sel [0,1,4,5,6,7,8,9] Z) (fun _ h=>h)))
    refine qU (qH (decide (k37=(0:Int))) trivial (Sub.sel [0,1,4,5,6,7,8,9] Z) (fun _ h=>h))
   rintro b9 _;refine zD [0,1,4,5,6,7,8,9] [_,_,_,_,_,_,_,_] Z (xY (S:=Own B w0 [bk_ p4 #[i6_ 0,str ([]),str ([])] 24,bk_ rp #[bv,i6_ (p_37:Int)] 84]) (.take 0 (.take 2 (.two 1 (.one 3 (.take 4 (.take 5 (.one 6 .done)))) 3 (.one 1 (.take 4 (.take 5 (.one 6 .done))))))) yD (fun _ h=>h.drawn) (by kernel_rfl) (zR Z Z Z Z Z (zH Z zY Z qJ Z Z) (pk [1,2] Z Z) (jY 1 Z (pk [1,2] Z Z) (yS Z Z ?_ ?_))))
   ·
    refine zM Z (zP 0 Z yB Z Z Z) (zJ (zI (pk [1,2] Z Z) ?_));refine zS Z (zM (v:=str (if b9 then [49] else [48])) Z (qM Z vM Z qD (fun w1 hw1=>bitD_ok b9 w1 )) (zJ (zI (pk [1,2] Z Z) ?_)));refine zR Z Z Z Z Z (yC Z Z Z (by first | (rw [bit_len];omega) | omega)) (pk [1,2] Z Z) (zR Z Z Z Z Z (zH Z zY Z qJ Z Z) (pk [1,2] Z Z) (zS Z (qI (v:=str (R1++(if b9 then [49] else [48]))) (hs':=(bk_ p5 #[i6_ n,str S2,str (R1++(if b9 then [49] else [48]))] 24::_::_::hs)) 0 Z Z Z Z Z Z qJ Z (by simp) Z (zJ (zI (pk [1,2] Z Z) ?_)))));refine yF (zD [0,1,4,5,6,7,8] [_,_,_,_,_,_,_] Z (zB (zC 1 Z (zG Z (qQ Z Z Z (by omega) (by omega)) (zC 1 Z (zL (yY (j+1,R1++(if b9 then [49] else [48]),p_37) ⟨by omega,by (try dsimp only);rw [zQ,bit_len];omega,by (try dsimp only);omega⟩ (by omega) (Sub.sel [0,1,4,5,6,7,8] Z) (fun _ h=>h))))))))
   refine zM (v:=str (if b9 then [49] else [48])) Z (qM Z vM Z qD (fun w1 hw1=>bitD_ok b9 w1 )) (zJ (zI (pk [1,2] Z Z) ?_));refine zS Z (zM Z (zP 0 Z yB Z Z Z) (zJ (zI (pk [1,2] Z Z) ?_)));refine zR Z Z Z Z Z (yC Z Z Z (by first | (rw [bit_len];omega) | omega)) (pk [1,2] Z Z) (zR Z Z Z Z Z (zH Z zY Z qJ Z Z) (pk [1,2] Z Z) (zS Z (qI (v:=str (R1++(if b9 then [49] else [48]))) (hs':=(bk_ p5 #[i6_ n,str S2,str (R1++(if b9 then [49] else [48]))] 24::_::_::hs)) 0 Z Z Z Z Z Z qJ Z (by simp) Z (zJ (zI (pk [1,2] Z Z) ?_)))));refine yF (zD [0,1,4,5,6,7,8] [_,_,_,_,_,_,_] Z (zB (zC 1 Z (zG Z (qQ Z Z Z (by omega) (by omega)) (zC 1 Z (zL (yY (j+1,R1++(if b9 then [49] else [48]),p_37) ⟨by omega,by (try dsimp only);rw [zQ,bit_len];omega,by (try dsimp only);omega⟩ (by omega) (Sub.sel [0,1,4,5,6,7,8] Z) (fun _ h=>h))))))))
  refine xO Z (zD [0,1,4,5,6,7] [_,_,_,_,_,_] Z (zB (zC 1 Z (zG Z (qQ Z Z Z (by omega) (by omega)) (zC 1 Z (zL (yY (k+1,S2,R1,p1) ⟨by omega,by (try dsimp only);omega,by (try dsimp only);rw [Nat.add_mul,Nat.one_mul];omega,by (try dsimp only);omega⟩ (by omega) (Sub.sel [0,1,4,5,6,7] Z) (fun _ h=>h))))))))
 refine xO Z (zD [4,5] [_,_] Z (zF (qK (zM Z (yA (cs:=#[i6_ n,str S,str R]) 0 Z qX Z Z qW) (xQ (cs':=#[i6_ n,str S,str R]) (hs':=(_::bk_ p4 #[i6_ n,str S,str R] 24::_::hs)) 1 Z Z Z Z Z (by kernel_rfl:_=some Tryd.t24) Z Z Z Z Z (zJ (zD [4] [_] Z (qL (Kt.endBox (cs:=#[i6_ n,str S,str R]) 1 Z Z Z qX qW fun w' hw=>?_)))))))))
 exact ⟨⟨n,S,R⟩,p0,rfl,⟨⟨rfl,by dsimp only;omega,by dsimp only;rw [hR,show k=n.toNat from by omega]⟩,by omega⟩,hw.sub (qR _ (qR _ (zA _ (zO _))))⟩
set_option maxHeartbeats 400000 in
theorem l1Some_ok (B:Nat) (w0:World) (hs:List (Nat×Obj)) (rp p:Nat) (bv:Value) (L:List Int) (w:World) (hb:∀ w,Own B w0 hs w→Row w bv (u8s L)) (hL8:Bytes8 L) (hL:L.length≤2000) (hp:p≤800000) (hw:Own B w0 ((rp,.cells #[bv,.int .i64 (p:Int)] 84 (0,0))::hs) w) :
    Calls Tryd.prog 60 [pt_ rp].toArray w fun en w'=>∃ a:St,∃ p':Nat,en=.returned (vS a)∧((a.Fine∧a.n≤5)∧p'≤p+200)∧Own B w0 (((rp,.cells #[bv,.int .i64 (p':Int)] 84 (0,0))::hs)) w':=by
 refine fnStartC (Own B w0 ((rp,.cells #[bv,.int .i64 (p:Int)] 84 (0,0))::hs)) (n:=8) (e:=[(0,pt_ rp)]) Tryd.func60 Z Z Z Z Ends.both hw (zF (qK (vD Z Z Z Z xM fun p2 hp2=>?_)))
 show Ll _ _ (Own _ _ (bk_ p2 #[i6_ 0,str ([]),str ([])] 24::_::hs)) _ _ ((2,pt_ p2)::_) _ _ _;refine zJ (zD [0,2] [_,_] Z (zF (qK (qN 2 Z (xA (xs:=[.const (i6_ 3),.const (i6_ 4),.const (i6_ 2),.const (i6_ 1),.const (i6_ 5),.const (i6_ 3)]) (vs:=[i6_ 3,i6_ 4,i6_ 2,i6_ 1,i6_ 5,i6_ 3]) Base.elem30 Z Z Z Z Z Z (by decide) Z fun p5 hp5=>(yK (rp:=rp) (RT:=84) (p:=p) (bv:=bv) (hs:=hs) (ok:=fun (v:Int) p'=>v∈([3,4,2,1,5,3])∧p'=p+1) (v:=fun (v:Int)=>i6_ v) (new:=fun (v:Int)=>[]) (xs:=[.tmp 4,.tmp 5]) (vs:=[pt_ rp,sl_ p5 6 6]) ([bk_ p5 #[i6_ 3,i6_ 4,i6_ 2,i6_ 1,i6_ 5,i6_ 3] 3,bk_ p2 #[i6_ 0,str ([]),str ([])] 24]:List (Nat×Obj)) Z Z Z Z Tryd.call84 Z (fun w1 hw1=>(num_ok B w0 (([bk_ p5 #[i6_ 3,i6_ 4,i6_ 2,i6_ 1,i6_ 5,i6_ 3] 3,bk_ p2 #[i6_ 0,str ([]),str ([])] 24]:List (Nat×Obj))++hs) rp p bv L (sl_ p5 6 6) ([3,4,2,1,5,3]) w1 (fun w2 hw2=>hb w2 (qB (f:=([bk_ p5 #[i6_ 3,i6_ 4,i6_ 2,i6_ 1,i6_ 5,i6_ 3] 3,bk_ p2 #[i6_ 0,str ([]),str ([])] 24]:List (Nat×Obj))) hw2)) hL8 hL (fun w2 h2=>(jI h2 (i:=0) Z (n:=6) (cap:=6) (vs:=ints [3,4,2,1,5,3]) Z Z (by decide))) (by simp) (by omega) hw1).mono fun en w' ⟨v',p',h1,h2,h3⟩=>⟨v',p',h1,h2,h3⟩) fun v6 p_6 hKp_6=>?_))))))
 show Ll _ _ (Own _ _ (_::_::_::hs)) _ _ ((6,i6_ v6)::_) _ _ _
 obtain ⟨hmv6,hep_6⟩:=hKp_6
 have hvv6:1≤v6∧v6≤5:=by simp at hmv6;omega
 have hv6:1≤v6∧v6≤5:=by simp at hmv6;omega
 refine yK (rp:=rp) (RT:=84) (p:=p_6) (bv:=bv) (hs:=hs) (ok:=fun (a:St) p'=>(a.n=v6∧(a.set.length:Int)=v6∧a.rel.length=v6.toNat*v6.toNat)∧p'≤p_6+100) (v:=fun (a:St)=>vS a) (new:=fun (a:St)=>[]) (xs:=[.tmp 3,.tmp 6]) (vs:=[pt_ rp,i6_ v6]) ([bk_ p5 #[i6_ 3,i6_ 4,i6_ 2,i6_ 1,i6_ 5,i6_ 3] 3,bk_ p2 #[i6_ 0,str ([]),str ([])] 24]:List (Nat×Obj)) Z Z Z Z Tryd.call83 Z (fun w1 hw1=>(l1Draw_ok B w0 (([bk_ p5 #[i6_ 3,i6_ 4,i6_ 2,i6_ 1,i6_ 5,i6_ 3] 3,bk_ p2 #[i6_ 0,str ([]),str ([])] 24]:List (Nat×Obj))++hs) rp p_6 bv L v6 w1 (fun w2 hw2=>hb w2 (qB (f:=([bk_ p5 #[i6_ 3,i6_ 4,i6_ 2,i6_ 1,i6_ 5,i6_ 3] 3,bk_ p2 #[i6_ 0,str ([]),str ([])] 24]:List (Nat×Obj))) hw2)) hL8 hL (by omega) (by omega) (by omega) hw1).mono fun en w' ⟨a',p',h1,h2,h3⟩=>⟨a',p',h1,h2,h3⟩) fun a7 p_7 hKp_7=>?_
 show Ll _ _ (Own _ _ (_::_::_::hs)) _ _ ((7,vS a7)::_) _ _ _
 obtain ⟨⟨hna7,hsa7,hra7⟩,hep_7⟩:=hKp_7;refine xQ (cs':=#[i6_ a7.n,str a7.set,str a7.rel]) (hs':=(_::bk_ p2 #[i6_ a7.n,str a7.set,str a7.rel] 24::_::hs)) 1 Z Z Z Z Z (by kernel_rfl:_=some Tryd.t24) Z Z Z Z Z (zJ (zD [2] [_] Z (qL (Kt.endBox (cs:=#[i6_ a7.n,str a7.set,str a7.rel]) 1 Z Z Z qX qW fun w' hw=>?_))))
 exact ⟨a7,p_7,rfl,⟨⟨⟨by omega,by omega,by omega,by rw [hra7,hna7];exact sq_cast (by omega)⟩,by omega⟩,by omega⟩,hw.sub (qR _ (qR _ (zA _ (zO _))))⟩
end Go.Proofs.YteccfipfimbdgaaDoor
namespace Go.Proofs.YteccfipfimbdgaaDoor
open Go.RowKit Go.Wk
set_option linter.unusedSimpArgs false
set_option maxHeartbeats 400000 in
theorem open_ok (B:Nat) (w0:World) (fr hs:List (Nat×Obj)) (bv:Value) (L:List Int) (w:World) (hb:∀ w,Own B w0 hs w→Row w bv (u8s L)) (hL8:Bytes8 L) (hLs:L.length≤1048576) (hw:Own B w0 (fr++hs) w) :
    Calls Tryd.prog 29 [bv].toArray w fun en w'=>∃ (rp:Nat) (v:Value) (M:List Int),en=.returned (.pointer (some ⟨rp,0,none⟩))∧(M.length≤2000∧Bytes8 M∧∀ w,Own B w0 hs w→Row w v (u8s M))∧Own B w0 ([(rp,.cells #[v,.int .i64 ((0:Nat):Int)] 84 (0,0))]++(fr++hs)) w':=by
 refine fnStartC (Own B w0 (fr++hs)) (n:=11) (e:=[(0,bv)]) Tryd.func29 Z Z Z Z Ends.both hw ?_
 obtain ⟨ad,cap,hbv,-⟩:=hb w (qB (f:=fr) hw);refine zF (zB (zC 1 Z (zL (zD [0] [_] Z (zF (zF (zB (zC 1 Z (zG (v:=i6_ (L.length:Int)) Z (xH Z yJ Z (u8s_length _) (fun w1 hw1=>hb _ (qB (f:=fr) hw1))) (zC 1 Z (zL (zD [0,5] [_,_] Z (yG Z (fun h5=>?_) (fun h5=>?_))))))))))))))
 ·
  refine zB (zC 1 Z (zG (v:=sTake bv ((2000:Int).toNat)) Z (OpQ.takeRow (i:=2000) Z yJ xG Z Z (by omega) (by rw [u8s_length];omega) (fun w1 hw1=>hb _ (qB (f:=fr) hw1))) (zC 1 Z (zL (zD [0] [_] Z (zF (qK (qN 1 Z (zM (v:=.agg #[sTake bv ((2000:Int).toNat),i6_ ((0:Nat):Int)]) Z (vK (xs:=[.tmp 8]) (vs:=[sTake bv ((2000:Int).toNat)]) Z Z (by rw [hbv];kernel_rfl)) (jM (v:=.agg #[sTake bv ((2000:Int).toNat),i6_ ((0:Nat):Int)]) Z Z Z Z Z fun p10 hp10=>?_))))))))))
  show Ll _ _ (Own _ _ (_::(fr++hs))) _ _ ((10,pt_ p10)::_) _ _ _;refine qN 1 Z (zJ (zD [2] [_] Z (qL (qS Z Z fun w' hw=>?_))))
  exact ⟨p10,_,L.take 2000,rfl,⟨by rw [zT];omega,hL8.take _,fun w1 h1=>by rw [u8s_take];exact Row.take (hb _ h1) 2000 (by rw [u8s_length];omega)⟩,hw⟩
 refine qU (zD [0] [_] Z (zF (qK (qN 1 Z (zM (v:=.agg #[bv,i6_ ((0:Nat):Int)]) Z (vK (xs:=[.tmp 8]) (vs:=[bv]) Z Z (by rw [hbv];kernel_rfl)) (jM (v:=.agg #[bv,i6_ ((0:Nat):Int)]) Z Z Z Z Z fun p10_1 hp10_1=>?_))))))
 show Ll _ _ (Own _ _ (_::(fr++hs))) _ _ ((10,pt_ p10_1)::_) _ _ _;refine qN 1 Z (zJ (zD [2] [_] Z (qL (qS Z Z fun w' hw=>?_))))
 exact ⟨p10_1,bv,L,rfl,⟨by omega,hL8,hb⟩,hw⟩
end Go.Proofs.YteccfipfimbdgaaDoor
namespace Go.Proofs.YteccfipfimbdgaaDoor
open Go.RowKit Go.Wk
set_option linter.unusedSimpArgs false
set_option maxHeartbeats 400000 in
theorem l1Bad_ok (B:Nat) (w0:World) (hs:List (Nat×Obj)) (rp p:Nat) (bv:Value) (L:List Int) (a:St) (w:World) (hb:∀ w,Own B w0 hs w→Row w bv (u8s L)) (hL8:Bytes8 L) (hL:L.length≤2000) (ha:a.Fine) (hp:p≤800000) (hw:Own B w0 ((rp,.cells #[bv,.int .i64 (p:Int)] 84 (0,0))::hs) w) :
    Calls Tryd.prog 49 [pt_ rp,vS a].toArray w fun en w'=>∃ b:St,∃ p':Nat,en=.returned (vS b)∧(((-9223372036854775808≤b.n∧b.n≤9223372036854775807)∧b.set.length≤50000∧b.rel.length≤50000)∧p'≤p+10)∧Own B w0 (((rp,.cells #[bv,.int .i64 (p':Int)] 84 (0,0))::hs)) w':=by
 refine fnStartC (Own B w0 ((rp,.cells #[bv,.int .i64 (p:Int)] 84 (0,0))::hs)) (n:=42) (e:=[(0,pt_ rp),(1,vS a)]) Tryd.func49 Z Z Z Z Ends.both hw ?_
 have hm8:=ha.hi
 have hm1:=ha.lo
 have hsl:=ha.set
 have hrl:=ha.rel
 have hq:=sq_le hm1 hm8
 have hq1:1≤a.n*a.n:=sq_one hm1;refine zF (qK (jM (v:=vS a) Z Z Z Z Z fun p3 hp3=>?_))
 show Ll _ _ (Own _ _ (_::_::hs)) _ _ ((3,pt_ p3)::_) _ _ _;refine vD Z Z Z Z xM fun p4 hp4=>?_
 show Ll _ _ (Own _ _ (bk_ p4 #[i6_ 0,str ([]),str ([])] 24::_::_::hs)) _ _ ((4,pt_ p4)::_) _ _ _;refine zJ (zD [0,3,4] [_,_,_] Z (zF (zF (qK (qN 1 Z (yK (rp:=rp) (RT:=84) (p:=p) (bv:=bv) (hs:=hs) (ok:=fun (k:Int) p'=>0≤k∧(1≤(40:Int)→k<40)∧p'=p+1) (v:=fun (k:Int)=>i6_ k) (new:=fun (k:Int)=>[]) (xs:=[.tmp 5,.const (i6_ 40)]) (vs:=[pt_ rp,i6_ 40]) ([bk_ p4 #[i6_ 0,str ([]),str ([])] 24,bk_ p3 #[i6_ a.n,str a.set,str a.rel] 24]:List (Nat×Obj)) Z Z Z Z xW Z (fun w1 hw1=>(pick_ok B w0 (([bk_ p4 #[i6_ 0,str ([]),str ([])] 24,bk_ p3 #[i6_ a.n,str a.set,str a.rel] 24]:List (Nat×Obj))++hs) rp p bv L 40 w1 (fun w2 hw2=>hb w2 (qB (f:=([bk_ p4 #[i6_ 0,str ([]),str ([])] 24,bk_ p3 #[i6_ a.n,str a.set,str a.rel] 24]:List (Nat×Obj))) hw2)) hL8 hL (by omega) hw1).mono fun en w' ⟨k',p',h1,h2,h3⟩=>⟨k',p',h1,h2,h3⟩) fun k6 p_6 hKp_6=>?_))))))
 show Ll _ _ (Own _ _ (_::_::_::hs)) _ _ ((6,i6_ k6)::_) _ _ _
 obtain ⟨h0k6,h1k6,hep_6⟩:=hKp_6
 try have hltk6:=h1k6 (by first | omega | (split <;> omega) | decide);refine zJ (zD [0,3,4,6] [_,_,_,_] Z (jE (σ:=Int×List UInt8×List UInt8×Nat) (fun ⟨N,S,R,p9⟩=>(-9223372036854775808≤N∧N≤9223372036854775807)∧S.length≤50000∧R.length≤50000∧p9≤p+10) (fun ⟨N,S,R,p9⟩=>[(3,pt_ p3),(4,pt_ p4)]) (fun ⟨N,S,R,p9⟩=>Own B w0 (bk_ p4 #[i6_ 0,str ([]),str ([])] 24::bk_ p3 #[i6_ N,str S,str R] 24::bk_ rp #[bv,i6_ (p9:Int)] 84::hs)) ?_ ?_))
 ·
  refine qY (zF (zB (zC 2 Z (zL (zD [0,3,4,6,7] [_,_,_,_,_] Z (yG Z (fun h7=>?_) (fun h7=>?_)))))))
  ·
   refine qK (qN 1 Z (zM Z (zH Z zY Z zK Z Z) (zM Z (zP 1 Z zV Z Z Z) (zM Z (qQ Z Z Z (by omega) (by omega)) (xA (xs:=[.const (i6_ 0),.const (i6_ (-1)),.tmp 12,.const (i6_ 9),.const (i6_ 9223372036854775807)]) (vs:=[i6_ 0,i6_ (-1),i6_ (a.n+(1:Int)),i6_ 9,i6_ 9223372036854775807]) Base.elem30 Z Z Z Z Z Z (by decide) Z fun p13 hp13=>(yK (rp:=rp) (RT:=84) (p:=p_6) (bv:=bv) (hs:=hs) (ok:=fun (v:Int) p'=>v∈([0,-1,a.n+(1:Int),9,9223372036854775807])∧p'=p_6+1) (v:=fun (v:Int)=>i6_ v) (new:=fun (v:Int)=>[]) (xs:=[.tmp 9,.tmp 13]) (vs:=[pt_ rp,sl_ p13 5 5]) ([bk_ p13 #[i6_ 0,i6_ (-1),i6_ (a.n+(1:Int)),i6_ 9,i6_ 9223372036854775807] 3,bk_ p4 #[i6_ 0,str ([]),str ([])] 24,bk_ p3 #[i6_ a.n,str a.set,str a.rel] 24]:List (Nat×Obj)) Z Z Z Z Tryd.call84 Z (fun w1 hw1=>(num_ok B w0 (([bk_ p13 #[i6_ 0,i6_ (-1),i6_ (a.n+(1:Int)),i6_ 9,i6_ 9223372036854775807] 3,bk_ p4 #[i6_ 0,str ([]),str ([])] 24,bk_ p3 #[i6_ a.n,str a.set,str a.rel] 24]:List (Nat×Obj))++hs) rp p_6 bv L (sl_ p13 5 5) ([0,-1,a.n+(1:Int),9,9223372036854775807]) w1 (fun w2 hw2=>hb w2 (qB (f:=([bk_ p13 #[i6_ 0,i6_ (-1),i6_ (a.n+(1:Int)),i6_ 9,i6_ 9223372036854775807] 3,bk_ p4 #[i6_ 0,str ([]),str ([])] 24,bk_ p3 #[i6_ a.n,str a.set,str a.rel] 24]:List (Nat×Obj))) hw2)) hL8 hL (fun w2 h2=>(jI h2 (i:=0) Z (n:=5) (cap:=5) (vs:=ints [0,-1,a.n+(1:Int),9,9223372036854775807]) Z Z (by decide))) (by simp) (by omega) hw1).mono fun en w' ⟨v',p',h1,h2,h3⟩=>⟨v',p',h1,h2,h3⟩) fun v14 p_14 hKp_14=>?_))))))
   show Ll _ _ (Own _ _ (_::_::_::_::hs)) _ _ ((14,i6_ v14)::_) _ _ _
   obtain ⟨hmv14,hep_14⟩:=hKp_14
   skip
   have hv14 : -9223372036854775808≤v14∧v14≤9223372036854775807:=by simp at hmv14;omega
   refine zM Z (zH Z zY Z zK Z Z) (qI (v:=i6_ v14) (hs':=(_::_::bk_ p3 #[i6_ v14,str a.set,str a.rel] 24::_::hs)) 2 Z Z Z Z Z Z zK Z (by simp) Z (zJ (qH (v14,a.set,a.rel,p_14) ⟨⟨by (try dsimp only);omega,by (try dsimp only);omega⟩,by (try dsimp only);omega,by (try dsimp only);omega,by (try dsimp only);omega⟩ (Sub.sel [3,4] Z) (fun _ h=>h.sub (qR _ (zA _ (zA _ (zA _ (zO _)))))))))
  refine zF (zB (zC 2 Z (zL (zD [0,3,4,6,16] [_,_,_,_,_] Z (yG Z (fun h16=>?_) (fun h16=>?_))))))
  ·
   refine qK (zM Z (zH Z zY Z qJ Z Z) (zM Z (zP 1 Z yB Z Z Z) (zM Z (yC Z Z Z (by simp;omega)) (zM Z (zH Z zY Z qJ Z Z) (qI (v:=str (a.set++([48]))) (hs':=(_::bk_ p3 #[i6_ a.n,str (a.set++([48])),str a.rel] 24::_::hs)) 1 Z Z Z Z Z Z qJ Z (by simp) Z (zJ (qH (a.n,a.set++([48]),a.rel,p_6) ⟨⟨by (try dsimp only);omega,by (try dsimp only);omega⟩,by (try dsimp only);simp only [zQ,zT,zX,qA];omega,by (try dsimp only);omega,by (try dsimp only);omega⟩ (Sub.sel [3,4] Z) (fun _ h=>h.sub (zA _ (zA _ (zA _ (zO _))))))))))))
  refine zF (zB (zC 2 Z (zL (zD [0,3,4,6,22] [_,_,_,_,_] Z (yG Z (fun h22=>?_) (fun h22=>?_))))))
  ·
   refine xY (S:=Own B w0 [bk_ p4 #[i6_ 0,str ([]),str ([])] 24]) (.take 0 (.take 2 (.take 7 (.three 1 (.two 3 (.take 4 (.take 5 (.take 6 (.one 8 (.one 9 (.take 10 (.take 11 (.one 12 .done)))))))) 8 (.two 3 (.take 4 (.take 5 (.take 6 (.one 9 (.take 10 (.take 11 (.one 12 .done))))))) 9 (.one 3 (.take 4 (.take 5 (.take 6 (.take 10 (.take 11 (.one 12 .done))))))))) 3 (.take 4 (.take 5 (.two 1 (.take 6 (.one 8 (.one 9 (.take 10 (.take 11 (.one 12 .done)))))) 8 (.two 1 (.take 6 (.one 9 (.take 10 (.take 11 (.one 12 .done))))) 9 (.one 1 (.take 6 (.take 10 (.take 11 (.one 12 .done))))))))) 8 (.three 1 (.two 3 (.take 4 (.take 5 (.take 6 (.one 9 (.take 10 (.take 11 (.one 12 .done))))))) 9 (.one 3 (.take 4 (.take 5 (.take 6 (.take 10 (.take 11 (.one 12 .done)))))))) 3 (.take 4 (.take 5 (.two 1 (.take 6 (.one 9 (.take 10 (.take 11 (.one 12 .done))))) 9 (.one 1 (.take 6 (.take 10 (.take 11 (.one 12 .done)))))))) 9 (.two 1 (.one 3 (.take 4 (.take 5 (.take 6 (.take 10 (.take 11 (.one 12 .done))))))) 3 (.take 4 (.take 5 (.one 1 (.take 6 (.take 10 (.take 11 (.one 12 .done))))))))))))) yD (fun _ h=>h.drawn) (by kernel_rfl) (zR Z Z Z Z Z (zH Z zY Z qJ Z Z) (pk [0] Z Z) (zR Z Z Z Z Z (zH Z zY Z qJ Z Z) (pk [0] Z Z) (jY 1 Z (pk [0] Z Z) (Lu.three Z Z Z ?_ ?_ ?_))))
   ·
    refine zM Z (zP 1 Z yB Z Z Z) (zJ (zI (pk [0] Z Z) ?_));refine yS Z Z ?_ ?_
    ·
     refine zM Z (zP 1 Z yB Z Z Z) (zJ (zI (pk [0] Z Z) ?_));refine zR (v:=i6_ (a.rel.length:Int)) Z Z Z Z Z (xN Z qG Z) (pk [0] Z Z) (zR Z Z Z Z Z (jK Z Z Z (by omega) (by omega)) (pk [0] Z Z) (zR (v:=str (a.rel.take (((a.rel.length:Int) - (1:Int)).toNat))) Z Z Z Z Z (xE Z qO Z Z (by omega) (by omega)) (pk [0] Z Z) (zS Z (xA (xs:=[.const (str ([])),.const (str ([50])),.const (str ([48,49]))]) (vs:=[str ([]),str ([50]),str ([48,49])]) jB Z Z Z Z Z Z (by decide) Z fun p32 hp32=>(zJ (zI (pk [1] Z Z) ?_))))));refine zS Z (yK (rp:=rp) (RT:=84) (p:=p_6) (bv:=bv) (hs:=hs) (ok:=fun (v:List UInt8) p'=>v∈([[],[50],[48,49]]:List (List UInt8))∧p'=p_6+1) (v:=fun (v:List UInt8)=>str v) (new:=fun (v:List UInt8)=>[]) (xs:=[.tmp 31,.tmp 32]) (vs:=[pt_ rp,sl_ p32 3 3]) ([bk_ p32 #[str ([]),str ([50]),str ([48,49])] 9,bk_ p4 #[i6_ 0,str ([]),str ([])] 24,bk_ p3 #[i6_ a.n,str a.set,str a.rel] 24]:List (Nat×Obj)) Z Z Z Z xR Z (fun w1 hw1=>(of_ok B w0 (([bk_ p32 #[str ([]),str ([50]),str ([48,49])] 9,bk_ p4 #[i6_ 0,str ([]),str ([])] 24,bk_ p3 #[i6_ a.n,str a.set,str a.rel] 24]:List (Nat×Obj))++hs) rp p_6 bv L (sl_ p32 3 3) ([[],[50],[48,49]]:List (List UInt8)) w1 (fun w2 hw2=>hb w2 (qB (f:=([bk_ p32 #[str ([]),str ([50]),str ([48,49])] 9,bk_ p4 #[i6_ 0,str ([]),str ([])] 24,bk_ p3 #[i6_ a.n,str a.set,str a.rel] 24]:List (Nat×Obj))) hw2)) hL8 hL (fun w2 h2=>(jI h2 (i:=0) Z (n:=3) (cap:=3) (vs:=strs ([[],[50],[48,49]]:List (List UInt8))) Z Z (by decide))) (by simp) (by omega) hw1).mono fun en w' ⟨v',p',h1,h2,h3⟩=>⟨v',p',h1,h2,h3⟩) fun v33 p_33 hKp_33=>?_)
     show Ll _ _ (Own _ _ (_::_::_::_::hs)) _ _ ((33,str v33)::_) _ _ _
     obtain ⟨hmv33,hep_33⟩:=hKp_33;refine zJ (zI (pk [1] Z Z) ?_)
     have hv33:v33.length≤2:=by simp at hmv33;rcases hmv33 with h | h | h <;> subst h <;> decide
     refine zR Z Z Z Z Z (yC Z Z Z (by simp only [zT];omega)) (pk [1] Z Z) (zR Z Z Z Z Z (zH Z zY Z qJ Z Z) (pk [1] Z Z) (zS Z (qI (v:=str ((a.rel.take (((a.rel.length:Int) - (1:Int)).toNat))++v33)) (hs':=(_::_::bk_ p3 #[i6_ a.n,str a.set,str ((a.rel.take (((a.rel.length:Int) - (1:Int)).toNat))++v33)] 24::_::hs)) 2 Z Z Z Z Z Z qJ Z (by simp) Z (zJ (zI (pk [1] Z Z) ?_)))));refine yF (qH ((a.n,a.set,(a.rel.take (((a.rel.length:Int) - (1:Int)).toNat))++v33,p_33)) ⟨⟨by (try dsimp only);omega,by (try dsimp only);omega⟩,by (try dsimp only);omega,by (try dsimp only);simp only [zQ,zT,zX,qA];omega,by (try dsimp only);omega⟩ (Sub.sel [3,4] Z) (fun _ h=>h.sub (qR _ (zA _ (zA _ (zA _ (zO _)))))))
    refine xA (xs:=[.const (str ([])),.const (str ([50])),.const (str ([48,49]))]) (vs:=[str ([]),str ([50]),str ([48,49])]) jB Z Z Z Z Z Z (by decide) Z fun p32_1 hp32_1=>(zJ (zI (pk [1] Z Z) ?_));refine yS Z Z ?_ ?_
    ·
     refine zM Z (zP 2 Z yB Z Z Z) (zJ (zI (pk [1] Z Z) ?_));refine zR (v:=i6_ (a.rel.length:Int)) Z Z Z Z Z (xN Z qG Z) (pk [1] Z Z) (zR Z Z Z Z Z (jK Z Z Z (by omega) (by omega)) (pk [1] Z Z) (zR (v:=str (a.rel.take (((a.rel.length:Int) - (1:Int)).toNat))) Z Z Z Z Z (xE Z qO Z Z (by omega) (by omega)) (pk [1] Z Z) (zS Z (yK (rp:=rp) (RT:=84) (p:=p_6) (bv:=bv) (hs:=hs) (ok:=fun (v:List UInt8) p'=>v∈([[],[50],[48,49]]:List (List UInt8))∧p'=p_6+1) (v:=fun (v:List UInt8)=>str v) (new:=fun (v:List UInt8)=>[]) (xs:=[.tmp 31,.tmp 32]) (vs:=[pt_ rp,sl_ p32_1 3 3]) ([bk_ p32_1 #[str ([]),str ([50]),str ([48,49])] 9,bk_ p4 #[i6_ 0,str ([]),str ([])] 24,bk_ p3 #[i6_ a.n,str a.set,str a.rel] 24]:List (Nat×Obj)) Z Z Z Z xR Z (fun w1 hw1=>(of_ok B w0 (([bk_ p32_1 #[str ([]),str ([50]),str ([48,49])] 9,bk_ p4 #[i6_ 0,str ([]),str ([])] 24,bk_ p3 #[i6_ a.n,str a.set,str a.rel] 24]:List (Nat×Obj))++hs) rp p_6 bv L (sl_ p32_1 3 3) ([[],[50],[48,49]]:List (List UInt8)) w1 (fun w2 hw2=>hb w2 (qB (f:=([bk_ p32_1 #[str ([]),str ([50]),str ([48,49])] 9,bk_ p4 #[i6_ 0,str ([]),str ([])] 24,bk_ p3 #[i6_ a.n,str a.set,str a.rel] 24]:List (Nat×Obj))) hw2)) hL8 hL (fun w2 h2=>(jI h2 (i:=0) Z (n:=3) (cap:=3) (vs:=strs ([[],[50],[48,49]]:List (List UInt8))) Z Z (by decide))) (by simp) (by omega) hw1).mono fun en w' ⟨v',p',h1,h2,h3⟩=>⟨v',p',h1,h2,h3⟩) fun v33_1 p_33_1 hKp_33_1=>?_))))
     show Ll _ _ (Own _ _ (_::_::_::_::hs)) _ _ ((33,str v33_1)::_) _ _ _
     obtain ⟨hmv33_1,hep_33_1⟩:=hKp_33_1;refine zJ (zI (pk [1] Z Z) ?_)
     have hv33:v33_1.length≤2:=by simp at hmv33_1;rcases hmv33_1 with h | h | h <;> subst h <;> decide
     refine zR Z Z Z Z Z (yC Z Z Z (by simp only [zT];omega)) (pk [1] Z Z) (zR Z Z Z Z Z (zH Z zY Z qJ Z Z) (pk [1] Z Z) (zS Z (qI (v:=str ((a.rel.take (((a.rel.length:Int) - (1:Int)).toNat))++v33_1)) (hs':=(_::_::bk_ p3 #[i6_ a.n,str a.set,str ((a.rel.take (((a.rel.length:Int) - (1:Int)).toNat))++v33_1)] 24::_::hs)) 2 Z Z Z Z Z Z qJ Z (by simp) Z (zJ (zI (pk [1] Z Z) ?_)))));refine yF (qH ((a.n,a.set,(a.rel.take (((a.rel.length:Int) - (1:Int)).toNat))++v33_1,p_33_1)) ⟨⟨by (try dsimp only);omega,by (try dsimp only);omega⟩,by (try dsimp only);omega,by (try dsimp only);simp only [zQ,zT,zX,qA];omega,by (try dsimp only);omega⟩ (Sub.sel [3,4] Z) (fun _ h=>h.sub (qR _ (zA _ (zA _ (zA _ (zO _)))))))
    refine yK (rp:=rp) (RT:=84) (p:=p_6) (bv:=bv) (hs:=hs) (ok:=fun (v:List UInt8) p'=>v∈([[],[50],[48,49]]:List (List UInt8))∧p'=p_6+1) (v:=fun (v:List UInt8)=>str v) (new:=fun (v:List UInt8)=>[]) (xs:=[.tmp 31,.tmp 32]) (vs:=[pt_ rp,sl_ p32_1 3 3]) ([bk_ p32_1 #[str ([]),str ([50]),str ([48,49])] 9,bk_ p4 #[i6_ 0,str ([]),str ([])] 24,bk_ p3 #[i6_ a.n,str a.set,str a.rel] 24]:List (Nat×Obj)) Z Z Z Z xR Z (fun w1 hw1=>(of_ok B w0 (([bk_ p32_1 #[str ([]),str ([50]),str ([48,49])] 9,bk_ p4 #[i6_ 0,str ([]),str ([])] 24,bk_ p3 #[i6_ a.n,str a.set,str a.rel] 24]:List (Nat×Obj))++hs) rp p_6 bv L (sl_ p32_1 3 3) ([[],[50],[48,49]]:List (List UInt8)) w1 (fun w2 hw2=>hb w2 (qB (f:=([bk_ p32_1 #[str ([]),str ([50]),str ([48,49])] 9,bk_ p4 #[i6_ 0,str ([]),str ([])] 24,bk_ p3 #[i6_ a.n,str a.set,str a.rel] 24]:List (Nat×Obj))) hw2)) hL8 hL (fun w2 h2=>(jI h2 (i:=0) Z (n:=3) (cap:=3) (vs:=strs ([[],[50],[48,49]]:List (List UInt8))) Z Z (by decide))) (by simp) (by omega) hw1).mono fun en w' ⟨v',p',h1,h2,h3⟩=>⟨v',p',h1,h2,h3⟩) fun v33_2 p_33_2 hKp_33_2=>?_
    show Ll _ _ (Own _ _ (_::_::_::_::hs)) _ _ ((33,str v33_2)::_) _ _ _
    obtain ⟨hmv33_2,hep_33_2⟩:=hKp_33_2;refine zJ (zI (pk [1] Z Z) ?_);refine zS Z (zM Z (zP 2 Z yB Z Z Z) (zJ (zI (pk [1] Z Z) ?_)));refine zR (v:=i6_ (a.rel.length:Int)) Z Z Z Z Z (xN Z qG Z) (pk [1] Z Z) (zR Z Z Z Z Z (jK Z Z Z (by omega) (by omega)) (pk [1] Z Z) (zR (v:=str (a.rel.take (((a.rel.length:Int) - (1:Int)).toNat))) Z Z Z Z Z (xE Z qO Z Z (by omega) (by omega)) (pk [1] Z Z) ?_))
    have hv33:v33_2.length≤2:=by simp at hmv33_2;rcases hmv33_2 with h | h | h <;> subst h <;> decide
    refine zR Z Z Z Z Z (yC Z Z Z (by simp only [zT];omega)) (pk [1] Z Z) (zR Z Z Z Z Z (zH Z zY Z qJ Z Z) (pk [1] Z Z) (zS Z (qI (v:=str ((a.rel.take (((a.rel.length:Int) - (1:Int)).toNat))++v33_2)) (hs':=(_::_::bk_ p3 #[i6_ a.n,str a.set,str ((a.rel.take (((a.rel.length:Int) - (1:Int)).toNat))++v33_2)] 24::_::hs)) 2 Z Z Z Z Z Z qJ Z (by simp) Z (zJ (zI (pk [1] Z Z) ?_)))));refine yF (qH ((a.n,a.set,(a.rel.take (((a.rel.length:Int) - (1:Int)).toNat))++v33_2,p_33_2)) ⟨⟨by (try dsimp only);omega,by (try dsimp only);omega⟩,by (try dsimp only);omega,by (try dsimp only);simp only [zQ,zT,zX,qA];omega,by (try dsimp only);omega⟩ (Sub.sel [3,4] Z) (fun _ h=>h.sub (qR _ (zA _ (zA _ (zA _ (zO _)))))))
   ·
    refine zM Z (zP 1 Z yB Z Z Z) (zJ (zI (pk [0] Z Z) ?_));refine zR (v:=i6_ (a.rel.length:Int)) Z Z Z Z Z (xN Z qG Z) (pk [0] Z Z) (zR Z Z Z Z Z (jK Z Z Z (by omega) (by omega)) (pk [0] Z Z) (yS Z Z ?_ ?_))
    ·
     refine zM Z (zP 1 Z yB Z Z Z) (zJ (zI (pk [0] Z Z) ?_));refine zR (v:=str (a.rel.take (((a.rel.length:Int) - (1:Int)).toNat))) Z Z Z Z Z (xE Z qO Z Z (by omega) (by omega)) (pk [0] Z Z) (zS Z (xA (xs:=[.const (str ([])),.const (str ([50])),.const (str ([48,49]))]) (vs:=[str ([]),str ([50]),str ([48,49])]) jB Z Z Z Z Z Z (by decide) Z fun p32_2 hp32_2=>(zJ (zI (pk [1] Z Z) ?_))));refine zS Z (yK (rp:=rp) (RT:=84) (p:=p_6) (bv:=bv) (hs:=hs) (ok:=fun (v:List UInt8) p'=>v∈([[],[50],[48,49]]:List (List UInt8))∧p'=p_6+1) (v:=fun (v:List UInt8)=>str v) (new:=fun (v:List UInt8)=>[]) (xs:=[.tmp 31,.tmp 32]) (vs:=[pt_ rp,sl_ p32_2 3 3]) ([bk_ p32_2 #[str ([]),str ([50]),str ([48,49])] 9,bk_ p4 #[i6_ 0,str ([]),str ([])] 24,bk_ p3 #[i6_ a.n,str a.set,str a.rel] 24]:List (Nat×Obj)) Z Z Z Z xR Z (fun w1 hw1=>(of_ok B w0 (([bk_ p32_2 #[str ([]),str ([50]),str ([48,49])] 9,bk_ p4 #[i6_ 0,str ([]),str ([])] 24,bk_ p3 #[i6_ a.n,str a.set,str a.rel] 24]:List (Nat×Obj))++hs) rp p_6 bv L (sl_ p32_2 3 3) ([[],[50],[48,49]]:List (List UInt8)) w1 (fun w2 hw2=>hb w2 (qB (f:=([bk_ p32_2 #[str ([]),str ([50]),str ([48,49])] 9,bk_ p4 #[i6_ 0,str ([]),str ([])] 24,bk_ p3 #[i6_ a.n,str a.set,str a.rel] 24]:List (Nat×Obj))) hw2)) hL8 hL (fun w2 h2=>(jI h2 (i:=0) Z (n:=3) (cap:=3) (vs:=strs ([[],[50],[48,49]]:List (List UInt8))) Z Z (by decide))) (by simp) (by omega) hw1).mono fun en w' ⟨v',p',h1,h2,h3⟩=>⟨v',p',h1,h2,h3⟩) fun v33_3 p_33_3 hKp_33_3=>?_)
     show Ll _ _ (Own _ _ (_::_::_::_::hs)) _ _ ((33,str v33_3)::_) _ _ _
     obtain ⟨hmv33_3,hep_33_3⟩:=hKp_33_3;refine zJ (zI (pk [1] Z Z) ?_)
     have hv33:v33_3.length≤2:=by simp at hmv33_3;rcases hmv33_3 with h | h | h <;> subst h <;> decide
     refine zR Z Z Z Z Z (yC Z Z Z (by simp only [zT];omega)) (pk [1] Z Z) (zR Z Z Z Z Z (zH Z zY Z qJ Z Z) (pk [1] Z Z) (zS Z (qI (v:=str ((a.rel.take (((a.rel.length:Int) - (1:Int)).toNat))++v33_3)) (hs':=(_::_::bk_ p3 #[i6_ a.n,str a.set,str ((a.rel.take (((a.rel.length:Int) - (1:Int)).toNat))++v33_3)] 24::_::hs)) 2 Z Z Z Z Z Z qJ Z (by simp) Z (zJ (zI (pk [1] Z Z) ?_)))));refine yF (qH ((a.n,a.set,(a.rel.take (((a.rel.length:Int) - (1:Int)).toNat))++v33_3,p_33_3)) ⟨⟨by (try dsimp only);omega,by (try dsimp only);omega⟩,by (try dsimp only);omega,by (try dsimp only);simp only [zQ,zT,zX,qA];omega,by (try dsimp only);omega⟩ (Sub.sel [3,4] Z) (fun _ h=>h.sub (qR _ (zA _ (zA _ (zA _ (zO _)))))))
    refine xA (xs:=[.const (str ([])),.const (str ([50])),.const (str ([48,49]))]) (vs:=[str ([]),str ([50]),str ([48,49])]) jB Z Z Z Z Z Z (by decide) Z fun p32_3 hp32_3=>(zJ (zI (pk [1] Z Z) ?_));refine yS Z Z ?_ ?_
    ·
     refine zM Z (zP 2 Z yB Z Z Z) (zJ (zI (pk [1] Z Z) ?_));refine zR (v:=str (a.rel.take (((a.rel.length:Int) - (1:Int)).toNat))) Z Z Z Z Z (xE Z qO Z Z (by omega) (by omega)) (pk [1] Z Z) (zS Z (yK (rp:=rp) (RT:=84) (p:=p_6) (bv:=bv) (hs:=hs) (ok:=fun (v:List UInt8) p'=>v∈([[],[50],[48,49]]:List (List UInt8))∧p'=p_6+1) (v:=fun (v:List UInt8)=>str v) (new:=fun (v:List UInt8)=>[]) (xs:=[.tmp 31,.tmp 32]) (vs:=[pt_ rp,sl_ p32_3 3 3]) ([bk_ p32_3 #[str ([]),str ([50]),str ([48,49])] 9,bk_ p4 #[i6_ 0,str ([]),str ([])] 24,bk_ p3 #[i6_ a.n,str a.set,str a.rel] 24]:List (Nat×Obj)) Z Z Z Z xR Z (fun w1 hw1=>(of_ok B w0 (([bk_ p32_3 #[str ([]),str ([50]),str ([48,49])] 9,bk_ p4 #[i6_ 0,str ([]),str ([])] 24,bk_ p3 #[i6_ a.n,str a.set,str a.rel] 24]:List (Nat×Obj))++hs) rp p_6 bv L (sl_ p32_3 3 3) ([[],[50],[48,49]]:List (List UInt8)) w1 (fun w2 hw2=>hb w2 (qB (f:=([bk_ p32_3 #[str ([]),str ([50]),str ([48,49])] 9,bk_ p4 #[i6_ 0,str ([]),str ([])] 24,bk_ p3 #[i6_ a.n,str a.set,str a.rel] 24]:List (Nat×Obj))) hw2)) hL8 hL (fun w2 h2=>(jI h2 (i:=0) Z (n:=3) (cap:=3) (vs:=strs ([[],[50],[48,49]]:List (List UInt8))) Z Z (by decide))) (by simp) (by omega) hw1).mono fun en w' ⟨v',p',h1,h2,h3⟩=>⟨v',p',h1,h2,h3⟩) fun v33_4 p_33_4 hKp_33_4=>?_))
     show Ll _ _ (Own _ _ (_::_::_::_::hs)) _ _ ((33,str v33_4)::_) _ _ _
     obtain ⟨hmv33_4,hep_33_4⟩:=hKp_33_4;refine zJ (zI (pk [1] Z Z) ?_)
     have hv33:v33_4.length≤2:=by simp at hmv33_4;rcases hmv33_4 with h | h | h <;> subst h <;> decide
     refine zR Z Z Z Z Z (yC Z Z Z (by simp only [zT];omega)) (pk [1] Z Z) (zR Z Z Z Z Z (zH Z zY Z qJ Z Z) (pk [1] Z Z) (zS Z (qI (v:=str ((a.rel.take (((a.rel.length:Int) - (1:Int)).toNat))++v33_4)) (hs':=(_::_::bk_ p3 #[i6_ a.n,str a.set,str ((a.rel.take (((a.rel.length:Int) - (1:Int)).toNat))++v33_4)] 24::_::hs)) 2 Z Z Z Z Z Z qJ Z (by simp) Z (zJ (zI (pk [1] Z Z) ?_)))));refine yF (qH ((a.n,a.set,(a.rel.take (((a.rel.length:Int) - (1:Int)).toNat))++v33_4,p_33_4)) ⟨⟨by (try dsimp only);omega,by (try dsimp only);omega⟩,by (try dsimp only);omega,by (try dsimp only);simp only [zQ,zT,zX,qA];omega,by (try dsimp only);omega⟩ (Sub.sel [3,4] Z) (fun _ h=>h.sub (qR _ (zA _ (zA _ (zA _ (zO _)))))))
    refine yK (rp:=rp) (RT:=84) (p:=p_6) (bv:=bv) (hs:=hs) (ok:=fun (v:List UInt8) p'=>v∈([[],[50],[48,49]]:List (List UInt8))∧p'=p_6+1) (v:=fun (v:List UInt8)=>str v) (new:=fun (v:List UInt8)=>[]) (xs:=[.tmp 31,.tmp 32]) (vs:=[pt_ rp,sl_ p32_3 3 3]) ([bk_ p32_3 #[str ([]),str ([50]),str ([48,49])] 9,bk_ p4 #[i6_ 0,str ([]),str ([])] 24,bk_ p3 #[i6_ a.n,str a.set,str a.rel] 24]:List (Nat×Obj)) Z Z Z Z xR Z (fun w1 hw1=>(of_ok B w0 (([bk_ p32_3 #[str ([]),str ([50]),str ([48,49])] 9,bk_ p4 #[i6_ 0,str ([]),str ([])] 24,bk_ p3 #[i6_ a.n,str a.set,str a.rel] 24]:List (Nat×Obj))++hs) rp p_6 bv L (sl_ p32_3 3 3) ([[],[50],[48,49]]:List (List UInt8)) w1 (fun w2 hw2=>hb w2 (qB (f:=([bk_ p32_3 #[str ([]),str ([50]),str ([48,49])] 9,bk_ p4 #[i6_ 0,str ([]),str ([])] 24,bk_ p3 #[i6_ a.n,str a.set,str a.rel] 24]:List (Nat×Obj))) hw2)) hL8 hL (fun w2 h2=>(jI h2 (i:=0) Z (n:=3) (cap:=3) (vs:=strs ([[],[50],[48,49]]:List (List UInt8))) Z Z (by decide))) (by simp) (by omega) hw1).mono fun en w' ⟨v',p',h1,h2,h3⟩=>⟨v',p',h1,h2,h3⟩) fun v33_5 p_33_5 hKp_33_5=>?_
    show Ll _ _ (Own _ _ (_::_::_::_::hs)) _ _ ((33,str v33_5)::_) _ _ _
    obtain ⟨hmv33_5,hep_33_5⟩:=hKp_33_5;refine zJ (zI (pk [1] Z Z) ?_);refine zS Z (zM Z (zP 2 Z yB Z Z Z) (zJ (zI (pk [1] Z Z) ?_)));refine zR (v:=str (a.rel.take (((a.rel.length:Int) - (1:Int)).toNat))) Z Z Z Z Z (xE Z qO Z Z (by omega) (by omega)) (pk [1] Z Z) ?_
    have hv33:v33_5.length≤2:=by simp at hmv33_5;rcases hmv33_5 with h | h | h <;> subst h <;> decide
    refine zR Z Z Z Z Z (yC Z Z Z (by simp only [zT];omega)) (pk [1] Z Z) (zR Z Z Z Z Z (zH Z zY Z qJ Z Z) (pk [1] Z Z) (zS Z (qI (v:=str ((a.rel.take (((a.rel.length:Int) - (1:Int)).toNat))++v33_5)) (hs':=(_::_::bk_ p3 #[i6_ a.n,str a.set,str ((a.rel.take (((a.rel.length:Int) - (1:Int)).toNat))++v33_5)] 24::_::hs)) 2 Z Z Z Z Z Z qJ Z (by simp) Z (zJ (zI (pk [1] Z Z) ?_)))));refine yF (qH ((a.n,a.set,(a.rel.take (((a.rel.length:Int) - (1:Int)).toNat))++v33_5,p_33_5)) ⟨⟨by (try dsimp only);omega,by (try dsimp only);omega⟩,by (try dsimp only);omega,by (try dsimp only);simp only [zQ,zT,zX,qA];omega,by (try dsimp only);omega⟩ (Sub.sel [3,4] Z) (fun _ h=>h.sub (qR _ (zA _ (zA _ (zA _ (zO _)))))))
   refine xA (xs:=[.const (str ([])),.const (str ([50])),.const (str ([48,49]))]) (vs:=[str ([]),str ([50]),str ([48,49])]) jB Z Z Z Z Z Z (by decide) Z fun p32_4 hp32_4=>(zJ (zI (pk [1] Z Z) ?_));refine Lu.three Z Z Z ?_ ?_ ?_
   ·
    refine zM Z (zP 2 Z yB Z Z Z) (zJ (zI (pk [1] Z Z) ?_));refine yS Z Z ?_ ?_
    ·
     refine zM Z (zP 2 Z yB Z Z Z) (zJ (zI (pk [1] Z Z) ?_));refine zR (v:=i6_ (a.rel.length:Int)) Z Z Z Z Z (xN Z qG Z) (pk [1] Z Z) (zR Z Z Z Z Z (jK Z Z Z (by omega) (by omega)) (pk [1] Z Z) (zR (v:=str (a.rel.take (((a.rel.length:Int) - (1:Int)).toNat))) Z Z Z Z Z (xE Z qO Z Z (by omega) (by omega)) (pk [1] Z Z) (zS Z (yK (rp:=rp) (RT:=84) (p:=p_6) (bv:=bv) (hs:=hs) (ok:=fun (v:List UInt8) p'=>v∈([[],[50],[48,49]]:List (List UInt8))∧p'=p_6+1) (v:=fun (v:List UInt8)=>str v) (new:=fun (v:List UInt8)=>[]) (xs:=[.tmp 31,.tmp 32]) (vs:=[pt_ rp,sl_ p32_4 3 3]) ([bk_ p32_4 #[str ([]),str ([50]),str ([48,49])] 9,bk_ p4 #[i6_ 0,str ([]),str ([])] 24,bk_ p3 #[i6_ a.n,str a.set,str a.rel] 24]:List (Nat×Obj)) Z Z Z Z xR Z (fun w1 hw1=>(of_ok B w0 (([bk_ p32_4 #[str ([]),str ([50]),str ([48,49])] 9,bk_ p4 #[i6_ 0,str ([]),str ([])] 24,bk_ p3 #[i6_ a.n,str a.set,str a.rel] 24]:List (Nat×Obj))++hs) rp p_6 bv L (sl_ p32_4 3 3) ([[],[50],[48,49]]:List (List UInt8)) w1 (fun w2 hw2=>hb w2 (qB (f:=([bk_ p32_4 #[str ([]),str ([50]),str ([48,49])] 9,bk_ p4 #[i6_ 0,str ([]),str ([])] 24,bk_ p3 #[i6_ a.n,str a.set,str a.rel] 24]:List (Nat×Obj))) hw2)) hL8 hL (fun w2 h2=>(jI h2 (i:=0) Z (n:=3) (cap:=3) (vs:=strs ([[],[50],[48,49]]:List (List UInt8))) Z Z (by decide))) (by simp) (by omega) hw1).mono fun en w' ⟨v',p',h1,h2,h3⟩=>⟨v',p',h1,h2,h3⟩) fun v33_6 p_33_6 hKp_33_6=>?_))))
     show Ll _ _ (Own _ _ (_::_::_::_::hs)) _ _ ((33,str v33_6)::_) _ _ _
     obtain ⟨hmv33_6,hep_33_6⟩:=hKp_33_6;refine zJ (zI (pk [1] Z Z) ?_)
     have hv33:v33_6.length≤2:=by simp at hmv33_6;rcases hmv33_6 with h | h | h <;> subst h <;> decide
     refine zR Z Z Z Z Z (yC Z Z Z (by simp only [zT];omega)) (pk [1] Z Z) (zR Z Z Z Z Z (zH Z zY Z qJ Z Z) (pk [1] Z Z) (zS Z (qI (v:=str ((a.rel.take (((a.rel.length:Int) - (1:Int)).toNat))++v33_6)) (hs':=(_::_::bk_ p3 #[i6_ a.n,str a.set,str ((a.rel.take (((a.rel.length:Int) - (1:Int)).toNat))++v33_6)] 24::_::hs)) 2 Z Z Z Z Z Z qJ Z (by simp) Z (zJ (zI (pk [1] Z Z) ?_)))));refine yF (qH ((a.n,a.set,(a.rel.take (((a.rel.length:Int) - (1:Int)).toNat))++v33_6,p_33_6)) ⟨⟨by (try dsimp only);omega,by (try dsimp only);omega⟩,by (try dsimp only);omega,by (try dsimp only);simp only [zQ,zT,zX,qA];omega,by (try dsimp only);omega⟩ (Sub.sel [3,4] Z) (fun _ h=>h.sub (qR _ (zA _ (zA _ (zA _ (zO _)))))))
    refine yK (rp:=rp) (RT:=84) (p:=p_6) (bv:=bv) (hs:=hs) (ok:=fun (v:List UInt8) p'=>v∈([[],[50],[48,49]]:List (List UInt8))∧p'=p_6+1) (v:=fun (v:List UInt8)=>str v) (new:=fun (v:List UInt8)=>[]) (xs:=[.tmp 31,.tmp 32]) (vs:=[pt_ rp,sl_ p32_4 3 3]) ([bk_ p32_4 #[str ([]),str ([50]),str ([48,49])] 9,bk_ p4 #[i6_ 0,str ([]),str ([])] 24,bk_ p3 #[i6_ a.n,str a.set,str a.rel] 24]:List (Nat×Obj)) Z Z Z Z xR Z (fun w1 hw1=>(of_ok B w0 (([bk_ p32_4 #[str ([]),str ([50]),str ([48,49])] 9,bk_ p4 #[i6_ 0,str ([]),str ([])] 24,bk_ p3 #[i6_ a.n,str a.set,str a.rel] 24]:List (Nat×Obj))++hs) rp p_6 bv L (sl_ p32_4 3 3) ([[],[50],[48,49]]:List (List UInt8)) w1 (fun w2 hw2=>hb w2 (qB (f:=([bk_ p32_4 #[str ([]),str ([50]),str ([48,49])] 9,bk_ p4 #[i6_ 0,str ([]),str ([])] 24,bk_ p3 #[i6_ a.n,str a.set,str a.rel] 24]:List (Nat×Obj))) hw2)) hL8 hL (fun w2 h2=>(jI h2 (i:=0) Z (n:=3) (cap:=3) (vs:=strs ([[],[50],[48,49]]:List (List UInt8))) Z Z (by decide))) (by simp) (by omega) hw1).mono fun en w' ⟨v',p',h1,h2,h3⟩=>⟨v',p',h1,h2,h3⟩) fun v33_7 p_33_7 hKp_33_7=>?_
    show Ll _ _ (Own _ _ (_::_::_::_::hs)) _ _ ((33,str v33_7)::_) _ _ _
    obtain ⟨hmv33_7,hep_33_7⟩:=hKp_33_7;refine zJ (zI (pk [1] Z Z) ?_);refine zS Z (zM Z (zP 2 Z yB Z Z Z) (zJ (zI (pk [1] Z Z) ?_)));refine zR (v:=i6_ (a.rel.length:Int)) Z Z Z Z Z (xN Z qG Z) (pk [1] Z Z) (zR Z Z Z Z Z (jK Z Z Z (by omega) (by omega)) (pk [1] Z Z) (zR (v:=str (a.rel.take (((a.rel.length:Int) - (1:Int)).toNat))) Z Z Z Z Z (xE Z qO Z Z (by omega) (by omega)) (pk [1] Z Z) ?_))
    have hv33:v33_7.length≤2:=by simp at hmv33_7;rcases hmv33_7 with h | h | h <;> subst h <;> decide
    refine zR Z Z Z Z Z (yC Z Z Z (by simp only [zT];omega)) (pk [1] Z Z) (zR Z Z Z Z Z (zH Z zY Z qJ Z Z) (pk [1] Z Z) (zS Z (qI (v:=str ((a.rel.take (((a.rel.length:Int) - (1:Int)).toNat))++v33_7)) (hs':=(_::_::bk_ p3 #[i6_ a.n,str a.set,str ((a.rel.take (((a.rel.length:Int) - (1:Int)).toNat))++v33_7)] 24::_::hs)) 2 Z Z Z Z Z Z qJ Z (by simp) Z (zJ (zI (pk [1] Z Z) ?_)))));refine yF (qH ((a.n,a.set,(a.rel.take (((a.rel.length:Int) - (1:Int)).toNat))++v33_7,p_33_7)) ⟨⟨by (try dsimp only);omega,by (try dsimp only);omega⟩,by (try dsimp only);omega,by (try dsimp only);simp only [zQ,zT,zX,qA];omega,by (try dsimp only);omega⟩ (Sub.sel [3,4] Z) (fun _ h=>h.sub (qR _ (zA _ (zA _ (zA _ (zO _)))))))
   ·
    refine zM Z (zP 2 Z yB Z Z Z) (zJ (zI (pk [1] Z Z) ?_));refine zR (v:=i6_ (a.rel.length:Int)) Z Z Z Z Z (xN Z qG Z) (pk [1] Z Z) (zR Z Z Z Z Z (jK Z Z Z (by omega) (by omega)) (pk [1] Z Z) (yS Z Z ?_ ?_))
    ·
     refine zM Z (zP 2 Z yB Z Z Z) (zJ (zI (pk [1] Z Z) ?_));refine zR (v:=str (a.rel.take (((a.rel.length:Int) - (1:Int)).toNat))) Z Z Z Z Z (xE Z qO Z Z (by omega) (by omega)) (pk [1] Z Z) (zS Z (yK (rp:=rp) (RT:=84) (p:=p_6) (bv:=bv) (hs:=hs) (ok:=fun (v:List UInt8) p'=>v∈([[],[50],[48,49]]:List (List UInt8))∧p'=p_6+1) (v:=fun (v:List UInt8)=>str v) (new:=fun (v:List UInt8)=>[]) (xs:=[.tmp 31,.tmp 32]) (vs:=[pt_ rp,sl_ p32_4 3 3]) ([bk_ p32_4 #[str ([]),str ([50]),str ([48,49])] 9,bk_ p4 #[i6_ 0,str ([]),str ([])] 24,bk_ p3 #[i6_ a.n,str a.set,str a.rel] 24]:List (Nat×Obj)) Z Z Z Z xR Z (fun w1 hw1=>(of_ok B w0 (([bk_ p32_4 #[str ([]),str ([50]),str ([48,49])] 9,bk_ p4 #[i6_ 0,str ([]),str ([])] 24,bk_ p3 #[i6_ a.n,str a.set,str a.rel] 24]:List (Nat×Obj))++hs) rp p_6 bv L (sl_ p32_4 3 3) ([[],[50],[48,49]]:List (List UInt8)) w1 (fun w2 hw2=>hb w2 (qB (f:=([bk_ p32_4 #[str ([]),str ([50]),str ([48,49])] 9,bk_ p4 #[i6_ 0,str ([]),str ([])] 24,bk_ p3 #[i6_ a.n,str a.set,str a.rel] 24]:List (Nat×Obj))) hw2)) hL8 hL (fun w2 h2=>(jI h2 (i:=0) Z (n:=3) (cap:=3) (vs:=strs ([[],[50],[48,49]]:List (List UInt8))) Z Z (by decide))) (by simp) (by omega) hw1).mono fun en w' ⟨v',p',h1,h2,h3⟩=>⟨v',p',h1,h2,h3⟩) fun v33_8 p_33_8 hKp_33_8=>?_))
     show Ll _ _ (Own _ _ (_::_::_::_::hs)) _ _ ((33,str v33_8)::_) _ _ _
     obtain ⟨hmv33_8,hep_33_8⟩:=hKp_33_8;refine zJ (zI (pk [1] Z Z) ?_)
     have hv33:v33_8.length≤2:=by simp at hmv33_8;rcases hmv33_8 with h | h | h <;> subst h <;> decide
     refine zR Z Z Z Z Z (yC Z Z Z (by simp only [zT];omega)) (pk [1] Z Z) (zR Z Z Z Z Z (zH Z zY Z qJ Z Z) (pk [1] Z Z) (zS Z (qI (v:=str ((a.rel.take (((a.rel.length:Int) - (1:Int)).toNat))++v33_8)) (hs':=(_::_::bk_ p3 #[i6_ a.n,str a.set,str ((a.rel.take (((a.rel.length:Int) - (1:Int)).toNat))++v33_8)] 24::_::hs)) 2 Z Z Z Z Z Z qJ Z (by simp) Z (zJ (zI (pk [1] Z Z) ?_)))));refine yF (qH ((a.n,a.set,(a.rel.take (((a.rel.length:Int) - (1:Int)).toNat))++v33_8,p_33_8)) ⟨⟨by (try dsimp only);omega,by (try dsimp only);omega⟩,by (try dsimp only);omega,by (try dsimp only);simp only [zQ,zT,zX,qA];omega,by (try dsimp only);omega⟩ (Sub.sel [3,4] Z) (fun _ h=>h.sub (qR _ (zA _ (zA _ (zA _ (zO _)))))))
    refine yK (rp:=rp) (RT:=84) (p:=p_6) (bv:=bv) (hs:=hs) (ok:=fun (v:List UInt8) p'=>v∈([[],[50],[48,49]]:List (List UInt8))∧p'=p_6+1) (v:=fun (v:List UInt8)=>str v) (new:=fun (v:List UInt8)=>[]) (xs:=[.tmp 31,.tmp 32]) (vs:=[pt_ rp,sl_ p32_4 3 3]) ([bk_ p32_4 #[str ([]),str ([50]),str ([48,49])] 9,bk_ p4 #[i6_ 0,str ([]),str ([])] 24,bk_ p3 #[i6_ a.n,str a.set,str a.rel] 24]:List (Nat×Obj)) Z Z Z Z xR Z (fun w1 hw1=>(of_ok B w0 (([bk_ p32_4 #[str ([]),str ([50]),str ([48,49])] 9,bk_ p4 #[i6_ 0,str ([]),str ([])] 24,bk_ p3 #[i6_ a.n,str a.set,str a.rel] 24]:List (Nat×Obj))++hs) rp p_6 bv L (sl_ p32_4 3 3) ([[],[50],[48,49]]:List (List UInt8)) w1 (fun w2 hw2=>hb w2 (qB (f:=([bk_ p32_4 #[str ([]),str ([50]),str ([48,49])] 9,bk_ p4 #[i6_ 0,str ([]),str ([])] 24,bk_ p3 #[i6_ a.n,str a.set,str a.rel] 24]:List (Nat×Obj))) hw2)) hL8 hL (fun w2 h2=>(jI h2 (i:=0) Z (n:=3) (cap:=3) (vs:=strs ([[],[50],[48,49]]:List (List UInt8))) Z Z (by decide))) (by simp) (by omega) hw1).mono fun en w' ⟨v',p',h1,h2,h3⟩=>⟨v',p',h1,h2,h3⟩) fun v33_9 p_33_9 hKp_33_9=>?_
    show Ll _ _ (Own _ _ (_::_::_::_::hs)) _ _ ((33,str v33_9)::_) _ _ _
    obtain ⟨hmv33_9,hep_33_9⟩:=hKp_33_9;refine zJ (zI (pk [1] Z Z) ?_);refine zS Z (zM Z (zP 2 Z yB Z Z Z) (zJ (zI (pk [1] Z Z) ?_)));refine zR (v:=str (a.rel.take (((a.rel.length:Int) - (1:Int)).toNat))) Z Z Z Z Z (xE Z qO Z Z (by omega) (by omega)) (pk [1] Z Z) ?_
    have hv33:v33_9.length≤2:=by simp at hmv33_9;rcases hmv33_9 with h | h | h <;> subst h <;> decide
    refine zR Z Z Z Z Z (yC Z Z Z (by simp only [zT];omega)) (pk [1] Z Z) (zR Z Z Z Z Z (zH Z zY Z qJ Z Z) (pk [1] Z Z) (zS Z (qI (v:=str ((a.rel.take (((a.rel.length:Int) - (1:Int)).toNat))++v33_9)) (hs':=(_::_::bk_ p3 #[i6_ a.n,str a.set,str ((a.rel.take (((a.rel.length:Int) - (1:Int)).toNat))++v33_9)] 24::_::hs)) 2 Z Z Z Z Z Z qJ Z (by simp) Z (zJ (zI (pk [1] Z Z) ?_)))));refine yF (qH ((a.n,a.set,(a.rel.take (((a.rel.length:Int) - (1:Int)).toNat))++v33_9,p_33_9)) ⟨⟨by (try dsimp only);omega,by (try dsimp only);omega⟩,by (try dsimp only);omega,by (try dsimp only);simp only [zQ,zT,zX,qA];omega,by (try dsimp only);omega⟩ (Sub.sel [3,4] Z) (fun _ h=>h.sub (qR _ (zA _ (zA _ (zA _ (zO _)))))))
   refine yK (rp:=rp) (RT:=84) (p:=p_6) (bv:=bv) (hs:=hs) (ok:=fun (v:List UInt8) p'=>v∈([[],[50],[48,49]]:List (List UInt8))∧p'=p_6+1) (v:=fun (v:List UInt8)=>str v) (new:=fun (v:List UInt8)=>[]) (xs:=[.tmp 31,.tmp 32]) (vs:=[pt_ rp,sl_ p32_4 3 3]) ([bk_ p32_4 #[str ([]),str ([50]),str ([48,49])] 9,bk_ p4 #[i6_ 0,str ([]),str ([])] 24,bk_ p3 #[i6_ a.n,str a.set,str a.rel] 24]:List (Nat×Obj)) Z Z Z Z xR Z (fun w1 hw1=>(of_ok B w0 (([bk_ p32_4 #[str ([]),str ([50]),str ([48,49])] 9,bk_ p4 #[i6_ 0,str ([]),str ([])] 24,bk_ p3 #[i6_ a.n,str a.set,str a.rel] 24]:List (Nat×Obj))++hs) rp p_6 bv L (sl_ p32_4 3 3) ([[],[50],[48,49]]:List (List UInt8)) w1 (fun w2 hw2=>hb w2 (qB (f:=([bk_ p32_4 #[str ([]),str ([50]),str ([48,49])] 9,bk_ p4 #[i6_ 0,str ([]),str ([])] 24,bk_ p3 #[i6_ a.n,str a.set,str a.rel] 24]:List (Nat×Obj))) hw2)) hL8 hL (fun w2 h2=>(jI h2 (i:=0) Z (n:=3) (cap:=3) (vs:=strs ([[],[50],[48,49]]:List (List UInt8))) Z Z (by decide))) (by simp) (by omega) hw1).mono fun en w' ⟨v',p',h1,h2,h3⟩=>⟨v',p',h1,h2,h3⟩) fun v33_10 p_33_10 hKp_33_10=>?_
   show Ll _ _ (Own _ _ (_::_::_::_::hs)) _ _ ((33,str v33_10)::_) _ _ _
   obtain ⟨hmv33_10,hep_33_10⟩:=hKp_33_10;refine zJ (zI (pk [1] Z Z) ?_);refine yS Z Z ?_ ?_
   ·
    refine zM Z (zP 2 Z yB Z Z Z) (zJ (zI (pk [1] Z Z) ?_));refine zS Z (zM Z (zP 2 Z yB Z Z Z) (zJ (zI (pk [1] Z Z) ?_)));refine zR (v:=i6_ (a.rel.length:Int)) Z Z Z Z Z (xN Z qG Z) (pk [1] Z Z) (zR Z Z Z Z Z (jK Z Z Z (by omega) (by omega)) (pk [1] Z Z) (zR (v:=str (a.rel.take (((a.rel.length:Int) - (1:Int)).toNat))) Z Z Z Z Z (xE Z qO Z Z (by omega) (by omega)) (pk [1] Z Z) ?_))
    have hv33:v33_10.length≤2:=by simp at hmv33_10;rcases hmv33_10 with h | h | h <;> subst h <;> decide
    refine zR Z Z Z Z Z (yC Z Z Z (by simp only [zT];omega)) (pk [1] Z Z) (zR Z Z Z Z Z (zH Z zY Z qJ Z Z) (pk [1] Z Z) (zS Z (qI (v:=str ((a.rel.take (((a.rel.length:Int) - (1:Int)).toNat))++v33_10)) (hs':=(_::_::bk_ p3 #[i6_ a.n,str a.set,str ((a.rel.take (((a.rel.length:Int) - (1:Int)).toNat))++v33_10)] 24::_::hs)) 2 Z Z Z Z Z Z qJ Z (by simp) Z (zJ (zI (pk [1] Z Z) ?_)))));refine yF (qH ((a.n,a.set,(a.rel.take (((a.rel.length:Int) - (1:Int)).toNat))++v33_10,p_33_10)) ⟨⟨by (try dsimp only);omega,by (try dsimp only);omega⟩,by (try dsimp only);omega,by (try dsimp only);simp only [zQ,zT,zX,qA];omega,by (try dsimp only);omega⟩ (Sub.sel [3,4] Z) (fun _ h=>h.sub (qR _ (zA _ (zA _ (zA _ (zO _)))))))
   refine zM Z (zP 2 Z yB Z Z Z) (zJ (zI (pk [1] Z Z) ?_));refine zR (v:=i6_ (a.rel.length:Int)) Z Z Z Z Z (xN Z qG Z) (pk [1] Z Z) (zR Z Z Z Z Z (jK Z Z Z (by omega) (by omega)) (pk [1] Z Z) (zS Z (zM Z (zP 2 Z yB Z Z Z) (zJ (zI (pk [1] Z Z) ?_)))));refine zR (v:=str (a.rel.take (((a.rel.length:Int) - (1:Int)).toNat))) Z Z Z Z Z (xE Z qO Z Z (by omega) (by omega)) (pk [1] Z Z) ?_
   have hv33:v33_10.length≤2:=by simp at hmv33_10;rcases hmv33_10 with h | h | h <;> subst h <;> decide
   refine zR Z Z Z Z Z (yC Z Z Z (by simp only [zT];omega)) (pk [1] Z Z) (zR Z Z Z Z Z (zH Z zY Z qJ Z Z) (pk [1] Z Z) (zS Z (qI (v:=str ((a.rel.take (((a.rel.length:Int) - (1:Int)).toNat))++v33_10)) (hs':=(_::_::bk_ p3 #[i6_ a.n,str a.set,str ((a.rel.take (((a.rel.length:Int) - (1:Int)).toNat))++v33_10)] 24::_::hs)) 2 Z Z Z Z Z Z qJ Z (by simp) Z (zJ (zI (pk [1] Z Z) ?_)))));refine yF (qH ((a.n,a.set,(a.rel.take (((a.rel.length:Int) - (1:Int)).toNat))++v33_10,p_33_10)) ⟨⟨by (try dsimp only);omega,by (try dsimp only);omega⟩,by (try dsimp only);omega,by (try dsimp only);simp only [zQ,zT,zX,qA];omega,by (try dsimp only);omega⟩ (Sub.sel [3,4] Z) (fun _ h=>h.sub (qR _ (zA _ (zA _ (zA _ (zO _)))))))
  refine zF (zB (zC 2 Z (zL (zD [3,4,36] [_,_,_] Z (yG Z (fun h36=>?_) (fun h36=>?_))))))
  ·
   refine zF (qK (Ll.callSome (ok:=fun (t:List UInt8)=>t.length≤40000) (v:=fun (t:List UInt8)=>str t) (xs:=[.const (str ([48])),.const (i6_ 9)]) (vs:=[str ([48]),i6_ 9]) Z Z Z Z Tryd.call85 Z (fun w1 hw1=>(many_ok ([48]) w1 9 (by decide) (by decide) Z).mono fun en w' ⟨t,h1,h2,h3⟩=>⟨t,h1,h2,h3⟩) fun t38 hS38=>?_))
   show Ll _ _ (Own _ _ (_::_::_::hs)) _ _ ((38,str t38)::_) _ _ _
   have hlt38:=hS38;refine Ll.callSome (ok:=fun (t:List UInt8)=>t.length≤40000) (v:=fun (t:List UInt8)=>str t) (xs:=[.const (str ([49])),.const (i6_ 81)]) (vs:=[str ([49]),i6_ 81]) Z Z Z Z Tryd.call85 Z (fun w1 hw1=>(many_ok ([49]) w1 81 (by decide) (by decide) Z).mono fun en w' ⟨t,h1,h2,h3⟩=>⟨t,h1,h2,h3⟩) fun t39 hS39=>?_
   show Ll _ _ (Own _ _ (_::_::_::hs)) _ _ ((39,str t39)::_) _ _ _
   have hlt39:=hS39;refine zM (v:=.agg #[i6_ 9,str t38,str t39]) Z (vK (xs:=[.const (i6_ 9),.tmp 38,.tmp 39]) (vs:=[i6_ 9,str t38,str t39]) Z Z (by kernel_rfl)) (xQ (cs':=#[i6_ 9,str t38,str t39]) (hs':=(bk_ p4 #[i6_ 9,str t38,str t39] 24::_::_::hs)) 0 Z Z Z Z Z (by kernel_rfl:_=some Tryd.t24) Z Z Z Z Z (zJ (zD [4] [_] Z (qL (Kt.endBox (cs:=#[i6_ 9,str t38,str t39]) 0 Z Z Z qX qW fun w' hw=>?_)))))
   exact ⟨⟨9,t38,t39⟩,p_6,rfl,⟨⟨⟨by dsimp only;omega,by dsimp only;omega⟩,by dsimp only;omega,by dsimp only;omega⟩,by omega⟩,hw.sub (qR _ (qR _ (zA _ (zO _))))⟩
  refine qU (qH (a.n,a.set,a.rel,p_6) ⟨⟨by (try dsimp only);omega,by (try dsimp only);omega⟩,by (try dsimp only);omega,by (try dsimp only);omega,by (try dsimp only);omega⟩ (Sub.sel [3,4] Z) (fun _ h=>h.sub (zA _ (zA _ (zA _ (zO _))))))
 rintro ⟨N,S,R,p9⟩ ⟨⟨hN0,hN1⟩,hS,hR,hp9⟩
 dsimp only;refine zD [3,4] [_,_] Z (zF (qK (zM Z (yA (cs:=#[i6_ N,str S,str R]) 1 Z qX Z Z qW) (xQ (cs':=#[i6_ N,str S,str R]) (hs':=(bk_ p4 #[i6_ N,str S,str R] 24::_::_::hs)) 0 Z Z Z Z Z (by kernel_rfl:_=some Tryd.t24) Z Z Z Z Z (zJ (zD [4] [_] Z (qL (Kt.endBox (cs:=#[i6_ N,str S,str R]) 0 Z Z Z qX qW fun w' hw=>?_))))))))
 exact ⟨⟨N,S,R⟩,p9,rfl,⟨⟨⟨by dsimp only;omega,by dsimp only;omega⟩,by dsimp only;omega,by dsimp only;omega⟩,by omega⟩,hw.sub (qR _ (qR _ (zA _ (zO _))))⟩
end Go.Proofs.YteccfipfimbdgaaDoor
namespace Go.Proofs.YteccfipfimbdgaaDoor
open Go.RowKit Go.Wk
set_option linter.unusedSimpArgs false
set_option maxHeartbeats 400000 in
theorem l2Draw_step (B:Nat) (w0:World) (hs:List (Nat×Obj)) (rp p:Nat) (bv:Value) (L:List Int) (dep:Int) (vs:List UInt8) (cn:Bool) (w:World) (hb:∀ w,Own B w0 hs w→Row w bv (u8s L)) (hL8:Bytes8 L) (hL:L.length≤2000) (hd:dep≤4) (hv1:1≤vs.length) (hv4:vs.length≤4) (hp:p+10*drawN dep≤900000) (ih:∀ (B:Nat) (w0:World) (hs:List (Nat×Obj)) (rp p:Nat) (bv:Value) (L:List Int) (dep2:Int) (vs2:List UInt8) (cn2:Bool) (w:World),(∀ w,Own B w0 hs w→Row w bv (u8s L))→Bytes8 L→L.length≤2000→dep2.toNat<dep.toNat→dep2≤4→1≤vs2.length→vs2.length≤4→p+10*drawN dep2≤900000→Own B w0 ((rp,.cells #[bv,.int .i64 (p:Int)] 84 (0,0))::hs) w→Calls Tryd.prog 99 #[.pointer (some ⟨rp,0,none⟩),.int .i64 dep2,str vs2,.bool cn2] w fun en w'=>∃ f:List UInt8,∃ p':Nat,en=.returned (str f)∧((1≤f.length∧f.length+1≤4*drawN dep2)∧p'+5≤p+10*drawN dep2)∧Own B w0 ((rp,.cells #[bv,.int .i64 (p':Int)] 84 (0,0))::hs) w') (hw:Own B w0 ((rp,.cells #[bv,.int .i64 (p:Int)] 84 (0,0))::hs) w) :
    Calls Tryd.prog 99 [pt_ rp,i6_ dep,str vs,bo_ cn].toArray w fun en w'=>∃ f:List UInt8,∃ p':Nat,en=.returned (str f)∧((1≤f.length∧f.length+1≤4*drawN dep)∧p'+5≤p+10*drawN dep)∧Own B w0 (((rp,.cells #[bv,.int .i64 (p':Int)] 84 (0,0))::hs)) w':=by
 refine fnStartC (Own B w0 ((rp,.cells #[bv,.int .i64 (p:Int)] 84 (0,0))::hs)) (n:=132) (e:=[(0,pt_ rp),(1,i6_ dep),(2,str vs),(3,bo_ cn)]) Tryd.func99 Z Z Z Z Ends.both hw ?_
 have hN1:=drawN_pos dep
 have hN2:=drawN_pos (dep - 1)
 have hNs:=drawN_step dep
 have hNl:=drawN_le hd;refine zF (zB (zG (v:=str ([])) Z (xP Z Z) (zL (zD [0,1,2,3] [_,_,_,_] Z (zF (qK (qN 1 Z (yK (rp:=rp) (RT:=84) (p:=p) (bv:=bv) (hs:=hs) (ok:=fun (k:Int) p'=>0≤k∧(1≤(12:Int)→k<12)∧p'=p+1) (v:=fun (k:Int)=>i6_ k) (new:=fun (k:Int)=>[]) (xs:=[.tmp 15,.const (i6_ 12)]) (vs:=[pt_ rp,i6_ 12]) ([]:List (Nat×Obj)) Z Z Z Z xW Z (fun w1 hw1=>(pick_ok B w0 (([]:List (Nat×Obj))++hs) rp p bv L 12 w1 (fun w2 hw2=>hb w2 (qB (f:=([]:List (Nat×Obj))) hw2)) hL8 hL (by omega) hw1).mono fun en w' ⟨k',p',h1,h2,h3⟩=>⟨k',p',h1,h2,h3⟩) fun k16 p_16 hKp_16=>?_))))))))
 show Ll _ _ (Own _ _ (_::hs)) _ _ ((16,i6_ k16)::_) _ _ _
 obtain ⟨h0k16,h1k16,hep_16⟩:=hKp_16
 try have hltk16:=h1k16 (by first | omega | (split <;> omega) | decide);refine qN 1 Z (zJ (zD [0,1,2,3,9] [_,_,_,_,_] Z (zF (qK (qN 2 Z (zM (v:=i6_ (vs.length:Int)) Z (xN Z qG Z) (yK (rp:=rp) (RT:=84) (p:=p_16) (bv:=bv) (hs:=hs) (ok:=fun (k:Int) p'=>0≤k∧(1≤(vs.length:Int)→k<(vs.length:Int))∧p'=p_16+1) (v:=fun (k:Int)=>i6_ k) (new:=fun (k:Int)=>[]) (xs:=[.tmp 17,.tmp 19]) (vs:=[pt_ rp,i6_ (vs.length:Int)]) ([]:List (Nat×Obj)) Z Z Z Z xW Z (fun w1 hw1=>(pick_ok B w0 (([]:List (Nat×Obj))++hs) rp p_16 bv L (vs.length:Int) w1 (fun w2 hw2=>hb w2 (qB (f:=([]:List (Nat×Obj))) hw2)) hL8 hL (by omega) hw1).mono fun en w' ⟨k',p',h1,h2,h3⟩=>⟨k',p',h1,h2,h3⟩) fun k20 p_20 hKp_20=>?_)))))))
 show Ll _ _ (Own _ _ (_::hs)) _ _ ((20,i6_ k20)::_) _ _ _
 obtain ⟨h0k20,h1k20,hep_20⟩:=hKp_20
 try have hltk20:=h1k20 (by first | omega | (split <;> omega) | decide);refine qN 1 Z (zJ (zD [0,1,2,3,9,10] [_,_,_,_,_,_] Z (zF (qK (qN 2 Z (zM (v:=i6_ (vs.length:Int)) Z (xN Z qG Z) (yK (rp:=rp) (RT:=84) (p:=p_20) (bv:=bv) (hs:=hs) (ok:=fun (k:Int) p'=>0≤k∧(1≤(vs.length:Int)→k<(vs.length:Int))∧p'=p_20+1) (v:=fun (k:Int)=>i6_ k) (new:=fun (k:Int)=>[]) (xs:=[.tmp 21,.tmp 23]) (vs:=[pt_ rp,i6_ (vs.length:Int)]) ([]:List (Nat×Obj)) Z Z Z Z xW Z (fun w1 hw1=>(pick_ok B w0 (([]:List (Nat×Obj))++hs) rp p_20 bv L (vs.length:Int) w1 (fun w2 hw2=>hb w2 (qB (f:=([]:List (Nat×Obj))) hw2)) hL8 hL (by omega) hw1).mono fun en w' ⟨k',p',h1,h2,h3⟩=>⟨k',p',h1,h2,h3⟩) fun k24 p_24 hKp_24=>?_)))))))
 show Ll _ _ (Own _ _ (_::hs)) _ _ ((24,i6_ k24)::_) _ _ _
 obtain ⟨h0k24,h1k24,hep_24⟩:=hKp_24
 try have hltk24:=h1k24 (by first | omega | (split <;> omega) | decide);refine qN 1 Z (zJ (zD [0,1,2,3,9,10,11] [_,_,_,_,_,_,_] Z (zF (qY (zF (zB (zC 3 Z (xJ fun b28 hg28=>?_))))))))
 cases b28
 ·
  replace hg28:=zW hg28;refine zC 4 Z (zL (zD [0,1,2,3,9,10,11,25] [_,_,_,_,_,_,_,_] Z (yG Z (fun h25=>?_) (fun h25=>?_))))
  ·
   refine zF (zF (qK (qN 1 Z (yK (rp:=rp) (RT:=84) (p:=p_24) (bv:=bv) (hs:=hs) (ok:=fun (k:Int) p'=>0≤k∧(1≤(8:Int)→k<8)∧p'=p_24+1) (v:=fun (k:Int)=>i6_ k) (new:=fun (k:Int)=>[]) (xs:=[.tmp 32,.const (i6_ 8)]) (vs:=[pt_ rp,i6_ 8]) ([]:List (Nat×Obj)) Z Z Z Z xW Z (fun w1 hw1=>(pick_ok B w0 (([]:List (Nat×Obj))++hs) rp p_24 bv L 8 w1 (fun w2 hw2=>hb w2 (qB (f:=([]:List (Nat×Obj))) hw2)) hL8 hL (by omega) hw1).mono fun en w' ⟨k',p',h1,h2,h3⟩=>⟨k',p',h1,h2,h3⟩) fun k33 p_33 hKp_33=>?_))))
   show Ll _ _ (Own _ _ (_::hs)) _ _ ((33,i6_ k33)::_) _ _ _
   obtain ⟨h0k33,h1k33,hep_33⟩:=hKp_33
   try have hltk33:=h1k33 (by first | omega | (split <;> omega) | decide);refine zJ (zD [0,2,10,11,33] [_,_,_,_,_] Z (qY (zF (zB (zC 2 Z (zL (zD [0,2,10,11,33,34] [_,_,_,_,_,_] Z (yG Z (fun h34=>?_) (fun h34=>?_)))))))))
   ·
    refine zF (qK (qN 1 Z (xA (xs:=[.const (str ([116])),.const (str ([102]))]) (vs:=[str ([116]),str ([102])]) jB Z Z Z Z Z Z (by decide) Z fun p37 hp37=>(yK (rp:=rp) (RT:=84) (p:=p_33) (bv:=bv) (hs:=hs) (ok:=fun (v:List UInt8) p'=>v∈([[116],[102]]:List (List UInt8))∧p'=p_33+1) (v:=fun (v:List UInt8)=>str v) (new:=fun (v:List UInt8)=>[]) (xs:=[.tmp 36,.tmp 37]) (vs:=[pt_ rp,sl_ p37 2 2]) ([bk_ p37 #[str ([116]),str ([102])] 9]:List (Nat×Obj)) Z Z Z Z xR Z (fun w1 hw1=>(of_ok B w0 (([bk_ p37 #[str ([116]),str ([102])] 9]:List (Nat×Obj))++hs) rp p_33 bv L (sl_ p37 2 2) ([[116],[102]]:List (List UInt8)) w1 (fun w2 hw2=>hb w2 (qB (f:=([bk_ p37 #[str ([116]),str ([102])] 9]:List (Nat×Obj))) hw2)) hL8 hL (fun w2 h2=>(jI h2 (i:=0) Z (n:=2) (cap:=2) (vs:=strs ([[116],[102]]:List (List UInt8))) Z Z (by decide))) (by simp) (by omega) hw1).mono fun en w' ⟨v',p',h1,h2,h3⟩=>⟨v',p',h1,h2,h3⟩) fun v38 p_38 hKp_38=>?_))))
    show Ll _ _ (Own _ _ (_::_::hs)) _ _ ((38,str v38)::_) _ _ _
    obtain ⟨hmv38,hep_38⟩:=hKp_38
    have hqv38:=len_of (a:=1) (b:=1) hmv38 (by decide);refine qN 1 Z (zJ (zD [8] [_] Z (qL (qS Z Z fun w' hw=>?_))))
    exact ⟨v38,p_38,rfl,⟨⟨(by (try dsimp only);(try simp only [zQ,zX,qA,zT,qC]);omega),(by (try dsimp only);(try simp only [zQ,zX,qA,zT,qC]);omega)⟩,by omega⟩,hw.sub (qR _ (zA _ (zO _)))⟩
   refine zF (zF (zB (zC 2 Z (zL (zD [2,10,11,33,39] [_,_,_,_,_] Z (yG Z (fun h39=>?_) (fun h39=>?_)))))))
   ·
    refine qU (zD [2,10,11,33,39] [_,_,_,_,_] Z (yG Z (fun h39_1=>?_) (fun h39_1=>?_)))
    ·
     refine zF (zB (zC 3 Z (zG Z (qQ Z Z Z (by omega) (by omega)) (zG (v:=str ((vs.drop ((k20).toNat)).take ((k20+(1:Int)).toNat - (k20).toNat))) Z (yX Z qO Z Z Z (by omega) (by omega) (by first | omega | (simp;omega))) (zG Z (yC Z Z Z (by first | omega | (simp only [zQ,zX,qA,zT,qC];omega))) (zC 1 Z (zL (zD [8] [_] Z (qL (qS Z Z fun w' hw=>?_))))))))))
     exact ⟨([80])++((vs.drop ((k20).toNat)).take ((k20+(1:Int)).toNat - (k20).toNat)),p_33,rfl,⟨⟨(by (try dsimp only);(try simp only [zQ,zX,qA,zT,qC]);omega),(by (try dsimp only);(try simp only [zQ,zX,qA,zT,qC]);omega)⟩,by omega⟩,hw.sub (zA _ (zO _))⟩
    refine zF (zB (zC 2 Z (zL (zD [2,10,11,48] [_,_,_,_] Z (yG Z (fun h48=>?_) (fun h48=>?_))))))
    ·
     refine zF (jC yD (fun _ h=>h.drawn) (by kernel_rfl) (zC 3 Z (zG Z (qQ Z Z Z (by omega) (by omega)) (zG (v:=str ((vs.drop ((k20).toNat)).take ((k20+(1:Int)).toNat - (k20).toNat))) Z (yX Z qO Z Z Z (by omega) (by omega) (by first | omega | (simp;omega))) (zG Z (yC Z Z Z (by first | omega | (simp only [zQ,zX,qA,zT,qC];omega))) (zC 3 Z (zG Z (qQ Z Z Z (by omega) (by omega)) (zG (v:=str ((vs.drop ((k24).toNat)).take ((k24+(1:Int)).toNat - (k24).toNat))) Z (yX Z qO Z Z Z (by omega) (by omega) (by first | omega | (simp;omega))) (zG Z (yC Z Z Z (by first | omega | (simp only [zQ,zX,qA,zT,qC];omega))) (zC 1 Z (zL (zD [8] [_] Z (qL (qS Z Z fun w' hw=>?_))))))))))))))
     exact ⟨(([61])++((vs.drop ((k20).toNat)).take ((k20+(1:Int)).toNat - (k20).toNat)))++((vs.drop ((k24).toNat)).take ((k24+(1:Int)).toNat - (k24).toNat)),p_33,rfl,⟨⟨(by (try dsimp only);(try simp only [zQ,zX,qA,zT,qC]);omega),(by (try dsimp only);(try simp only [zQ,zX,qA,zT,qC]);omega)⟩,by omega⟩,hw.sub (zA _ (zO _))⟩
    refine qU (zD [2,10,11] [_,_,_] Z (zF (jC yD (fun _ h=>h.drawn) (by kernel_rfl) (zC 3 Z (zG Z (qQ Z Z Z (by omega) (by omega)) (zG (v:=str ((vs.drop ((k20).toNat)).take ((k20+(1:Int)).toNat - (k20).toNat))) Z (yX Z qO Z Z Z (by omega) (by omega) (by first | omega | (simp;omega))) (zG Z (yC Z Z Z (by first | omega | (simp only [zQ,zX,qA,zT,qC];omega))) (zC 3 Z (zG Z (qQ Z Z Z (by omega) (by omega)) (zG (v:=str ((vs.drop ((k24).toNat)).take ((k24+(1:Int)).toNat - (k24).toNat))) Z (yX Z qO Z Z Z (by omega) (by omega) (by first | omega | (simp;omega))) (zG Z (yC Z Z Z (by first | omega | (simp only [zQ,zX,qA,zT,qC];omega))) (zC 1 Z (zL (zD [8] [_] Z (qL (qS Z Z fun w' hw=>?_))))))))))))))))
    exact ⟨(([69])++((vs.drop ((k20).toNat)).take ((k20+(1:Int)).toNat - (k20).toNat)))++((vs.drop ((k24).toNat)).take ((k24+(1:Int)).toNat - (k24).toNat)),p_33,rfl,⟨⟨(by (try dsimp only);(try simp only [zQ,zX,qA,zT,qC]);omega),(by (try dsimp only);(try simp only [zQ,zX,qA,zT,qC]);omega)⟩,by omega⟩,hw.sub (zA _ (zO _))⟩
   refine zB (zC 2 Z (zL (zD [2,10,11,33,39] [_,_,_,_,_] Z (yG Z (fun h39_2=>?_) (fun h39_2=>?_)))))
   ·
    refine zF (zB (zC 3 Z (zG Z (qQ Z Z Z (by omega) (by omega)) (zG (v:=str ((vs.drop ((k20).toNat)).take ((k20+(1:Int)).toNat - (k20).toNat))) Z (yX Z qO Z Z Z (by omega) (by omega) (by first | omega | (simp;omega))) (zG Z (yC Z Z Z (by first | omega | (simp only [zQ,zX,qA,zT,qC];omega))) (zC 1 Z (zL (zD [8] [_] Z (qL (qS Z Z fun w' hw=>?_))))))))))
    exact ⟨([80])++((vs.drop ((k20).toNat)).take ((k20+(1:Int)).toNat - (k20).toNat)),p_33,rfl,⟨⟨(by (try dsimp only);(try simp only [zQ,zX,qA,zT,qC]);omega),(by (try dsimp only);(try simp only [zQ,zX,qA,zT,qC]);omega)⟩,by omega⟩,hw.sub (zA _ (zO _))⟩
   refine zF (zB (zC 2 Z (zL (zD [2,10,11,48] [_,_,_,_] Z (yG Z (fun h48_1=>?_) (fun h48_1=>?_))))))
   ·
    refine zF (jC yD (fun _ h=>h.drawn) (by kernel_rfl) (zC 3 Z (zG Z (qQ Z Z Z (by omega) (by omega)) (zG (v:=str ((vs.drop ((k20).toNat)).take ((k20+(1:Int)).toNat - (k20).toNat))) Z (yX Z qO Z Z Z (by omega) (by omega) (by first | omega | (simp;omega))) (zG Z (yC Z Z Z (by first | omega | (simp only [zQ,zX,qA,zT,qC];omega))) (zC 3 Z (zG Z (qQ Z Z Z (by omega) (by omega)) (zG (v:=str ((vs.drop ((k24).toNat)).take ((k24+(1:Int)).toNat - (k24).toNat))) Z (yX Z qO Z Z Z (by omega) (by omega) (by first | omega | (simp;omega))) (zG Z (yC Z Z Z (by first | omega | (simp only [zQ,zX,qA,zT,qC];omega))) (zC 1 Z (zL (zD [8] [_] Z (qL (qS Z Z fun w' hw=>?_))))))))))))))
    exact ⟨(([61])++((vs.drop ((k20).toNat)).take ((k20+(1:Int)).toNat - (k20).toNat)))++((vs.drop ((k24).toNat)).take ((k24+(1:Int)).toNat - (k24).toNat)),p_33,rfl,⟨⟨(by (try dsimp only);(try simp only [zQ,zX,qA,zT,qC]);omega),(by (try dsimp only);(try simp only [zQ,zX,qA,zT,qC]);omega)⟩,by omega⟩,hw.sub (zA _ (zO _))⟩
   refine qU (zD [2,10,11] [_,_,_] Z (zF (jC yD (fun _ h=>h.drawn) (by kernel_rfl) (zC 3 Z (zG Z (qQ Z Z Z (by omega) (by omega)) (zG (v:=str ((vs.drop ((k20).toNat)).take ((k20+(1:Int)).toNat - (k20).toNat))) Z (yX Z qO Z Z Z (by omega) (by omega) (by first | omega | (simp;omega))) (zG Z (yC Z Z Z (by first | omega | (simp only [zQ,zX,qA,zT,qC];omega))) (zC 3 Z (zG Z (qQ Z Z Z (by omega) (by omega)) (zG (v:=str ((vs.drop ((k24).toNat)).take ((k24+(1:Int)).toNat - (k24).toNat))) Z (yX Z qO Z Z Z (by omega) (by omega) (by first | omega | (simp;omega))) (zG Z (yC Z Z Z (by first | omega | (simp only [zQ,zX,qA,zT,qC];omega))) (zC 1 Z (zL (zD [8] [_] Z (qL (qS Z Z fun w' hw=>?_))))))))))))))))
   exact ⟨(([69])++((vs.drop ((k20).toNat)).take ((k20+(1:Int)).toNat - (k20).toNat)))++((vs.drop ((k24).toNat)).take ((k24+(1:Int)).toNat - (k24).toNat)),p_33,rfl,⟨⟨(by (try dsimp only);(try simp only [zQ,zX,qA,zT,qC]);omega),(by (try dsimp only);(try simp only [zQ,zX,qA,zT,qC]);omega)⟩,by omega⟩,hw.sub (zA _ (zO _))⟩
  refine zF (zB (zC 3 Z (zL (zD [0,1,2,3,9,10,74] [_,_,_,_,_,_,_] Z (yG Z (fun h74=>?_) (fun h74=>?_))))))
  ·
   refine zF (qK (qN 2 Z (zM Z (jK Z Z Z (by omega) (by omega)) (qN 2 Z (yK (rp:=rp) (RT:=84) (p:=p_24) (bv:=bv) (hs:=hs) (ok:=fun (f:List UInt8) p'=>(1≤f.length∧f.length+1≤4*drawN (dep - (1:Int)))∧p'+5≤p_24+10*drawN (dep - (1:Int))) (v:=fun (f:List UInt8)=>str f) (new:=fun (f:List UInt8)=>[]) (xs:=[.tmp 77,.tmp 79,.tmp 80,.tmp 81]) (vs:=[pt_ rp,i6_ (dep - (1:Int)),str vs,bo_ cn]) ([]:List (Nat×Obj)) Z Z Z Z Tryd.call99 Z (fun w1 hw1=>(ih B w0 (([]:List (Nat×Obj))++hs) rp p_24 bv L (dep - (1:Int)) vs cn w1 (fun w2 hw2=>hb w2 (qB (f:=([]:List (Nat×Obj))) hw2)) hL8 hL (by omega) (by omega) hv1 hv4 (by omega) hw1).mono fun en w' ⟨f',p',h1,h2,h3⟩=>⟨f',p',h1,h2,h3⟩) fun f82 p_82 hKp_82=>?_)))))
   show Ll _ _ (Own _ _ (_::hs)) _ _ ((82,str f82)::_) _ _ _
   obtain ⟨⟨hlof82,hlef82⟩,hep_82⟩:=hKp_82;refine zM Z (yC Z Z Z (by first | omega | (simp only [zQ,zX,qA,zT,qC];omega))) (qN 1 Z (zJ (zD [8] [_] Z (qL (qS Z Z fun w' hw=>?_)))))
   exact ⟨([33])++f82,p_82,rfl,⟨⟨(by (try dsimp only);(try simp only [zQ,zX,qA,zT,qC]);omega),(by (try dsimp only);(try simp only [zQ,zX,qA,zT,qC]);omega)⟩,by omega⟩,hw.sub (zA _ (zO _))⟩
  refine zF (zB (zC 3 Z (zL (zD [0,1,2,3,10,84] [_,_,_,_,_,_] Z (yG Z (fun h84=>?_) (fun h84=>?_))))))
  ·
   refine zF (qK (qN 1 Z (xA (xs:=[.const (str ([38])),.const (str ([124]))]) (vs:=[str ([38]),str ([124])]) jB Z Z Z Z Z Z (by decide) Z fun p88 hp88=>(yK (rp:=rp) (RT:=84) (p:=p_24) (bv:=bv) (hs:=hs) (ok:=fun (v:List UInt8) p'=>v∈([[38],[124]]:List (List UInt8))∧p'=p_24+1) (v:=fun (v:List UInt8)=>str v) (new:=fun (v:List UInt8)=>[]) (xs:=[.tmp 87,.tmp 88]) (vs:=[pt_ rp,sl_ p88 2 2]) ([bk_ p88 #[str ([38]),str ([124])] 9]:List (Nat×Obj)) Z Z Z Z xR Z (fun w1 hw1=>(of_ok B w0 (([bk_ p88 #[str ([38]),str ([124])] 9]:List (Nat×Obj))++hs) rp p_24 bv L (sl_ p88 2 2) ([[38],[124]]:List (List UInt8)) w1 (fun w2 hw2=>hb w2 (qB (f:=([bk_ p88 #[str ([38]),str ([124])] 9]:List (Nat×Obj))) hw2)) hL8 hL (fun w2 h2=>(jI h2 (i:=0) Z (n:=2) (cap:=2) (vs:=strs ([[38],[124]]:List (List UInt8))) Z Z (by decide))) (by simp) (by omega) hw1).mono fun en w' ⟨v',p',h1,h2,h3⟩=>⟨v',p',h1,h2,h3⟩) fun v89 p_89 hKp_89=>?_))))
   show Ll _ _ (Own _ _ (_::_::hs)) _ _ ((89,str v89)::_) _ _ _
   obtain ⟨hmv89,hep_89⟩:=hKp_89
   have hqv89:=len_of (a:=1) (b:=1) hmv89 (by decide);refine qN 1 Z (zJ (zD [0,1,2,3,12] [_,_,_,_,_] Z (zF (qK (qN 2 Z (zM Z (jK Z Z Z (by omega) (by omega)) (qN 2 Z (yK (rp:=rp) (RT:=84) (p:=p_89) (bv:=bv) (hs:=hs) (ok:=fun (f:List UInt8) p'=>(1≤f.length∧f.length+1≤4*drawN (dep - (1:Int)))∧p'+5≤p_89+10*drawN (dep - (1:Int))) (v:=fun (f:List UInt8)=>str f) (new:=fun (f:List UInt8)=>[]) (xs:=[.tmp 90,.tmp 92,.tmp 93,.tmp 94]) (vs:=[pt_ rp,i6_ (dep - (1:Int)),str vs,bo_ cn]) ([bk_ p88 #[str ([38]),str ([124])] 9]:List (Nat×Obj)) Z Z Z Z Tryd.call99 Z (fun w1 hw1=>(ih B w0 (([bk_ p88 #[str ([38]),str ([124])] 9]:List (Nat×Obj))++hs) rp p_89 bv L (dep - (1:Int)) vs cn w1 (fun w2 hw2=>hb w2 (qB (f:=([bk_ p88 #[str ([38]),str ([124])] 9]:List (Nat×Obj))) hw2)) hL8 hL (by omega) (by omega) hv1 hv4 (by omega) hw1).mono fun en w' ⟨f',p',h1,h2,h3⟩=>⟨f',p',h1,h2,h3⟩) fun f95 p_95 hKp_95=>?_))))))))
   show Ll _ _ (Own _ _ (_::_::hs)) _ _ ((95,str f95)::_) _ _ _
   obtain ⟨⟨hlof95,hlef95⟩,hep_95⟩:=hKp_95;refine qN 1 Z (zJ (zD [0,1,2,3,12,13] [_,_,_,_,_,_] Z (zF (qK (qN 2 Z (zM Z (yC Z Z Z (by first | omega | (simp only [zQ,zX,qA,zT,qC];omega))) (qN 2 Z (zM Z (jK Z Z Z (by omega) (by omega)) (qN 2 Z (yK (rp:=rp) (RT:=84) (p:=p_95) (bv:=bv) (hs:=hs) (ok:=fun (f:List UInt8) p'=>(1≤f.length∧f.length+1≤4*drawN (dep - (1:Int)))∧p'+5≤p_95+10*drawN (dep - (1:Int))) (v:=fun (f:List UInt8)=>str f) (new:=fun (f:List UInt8)=>[]) (xs:=[.tmp 99,.tmp 101,.tmp 102,.tmp 103]) (vs:=[pt_ rp,i6_ (dep - (1:Int)),str vs,bo_ cn]) ([bk_ p88 #[str ([38]),str ([124])] 9]:List (Nat×Obj)) Z Z Z Z Tryd.call99 Z (fun w1 hw1=>(ih B w0 (([bk_ p88 #[str ([38]),str ([124])] 9]:List (Nat×Obj))++hs) rp p_95 bv L (dep - (1:Int)) vs cn w1 (fun w2 hw2=>hb w2 (qB (f:=([bk_ p88 #[str ([38]),str ([124])] 9]:List (Nat×Obj))) hw2)) hL8 hL (by omega) (by omega) hv1 hv4 (by omega) hw1).mono fun en w' ⟨f',p',h1,h2,h3⟩=>⟨f',p',h1,h2,h3⟩) fun f104 p_104 hKp_104=>?_))))))))))
   show Ll _ _ (Own _ _ (_::_::hs)) _ _ ((104,str f104)::_) _ _ _
   obtain ⟨⟨hlof104,hlef104⟩,hep_104⟩:=hKp_104;refine zM Z (yC Z Z Z (by first | omega | (simp only [zQ,zX,qA,zT,qC];omega))) (qN 1 Z (zJ (zD [8] [_] Z (qL (qS Z Z fun w' hw=>?_)))))
   exact ⟨(v89++f95)++f104,p_104,rfl,⟨⟨(by (try dsimp only);(try simp only [zQ,zX,qA,zT,qC]);omega),(by (try dsimp only);(try simp only [zQ,zX,qA,zT,qC]);omega)⟩,by omega⟩,hw.sub (qR _ (zA _ (zO _)))⟩
  refine qU (zD [0,1,2,3,10] [_,_,_,_,_] Z (zF (qK (qN 1 Z (xA (xs:=[.const (str ([65])),.const (str ([83])),.const (str ([83]))]) (vs:=[str ([65]),str ([83]),str ([83])]) jB Z Z Z Z Z Z (by decide) Z fun p107 hp107=>(yK (rp:=rp) (RT:=84) (p:=p_24) (bv:=bv) (hs:=hs) (ok:=fun (v:List UInt8) p'=>v∈([[65],[83],[83]]:List (List UInt8))∧p'=p_24+1) (v:=fun (v:List UInt8)=>str v) (new:=fun (v:List UInt8)=>[]) (xs:=[.tmp 106,.tmp 107]) (vs:=[pt_ rp,sl_ p107 3 3]) ([bk_ p107 #[str ([65]),str ([83]),str ([83])] 9]:List (Nat×Obj)) Z Z Z Z xR Z (fun w1 hw1=>(of_ok B w0 (([bk_ p107 #[str ([65]),str ([83]),str ([83])] 9]:List (Nat×Obj))++hs) rp p_24 bv L (sl_ p107 3 3) ([[65],[83],[83]]:List (List UInt8)) w1 (fun w2 hw2=>hb w2 (qB (f:=([bk_ p107 #[str ([65]),str ([83]),str ([83])] 9]:List (Nat×Obj))) hw2)) hL8 hL (fun w2 h2=>(jI h2 (i:=0) Z (n:=3) (cap:=3) (vs:=strs ([[65],[83],[83]]:List (List UInt8))) Z Z (by decide))) (by simp) (by omega) hw1).mono fun en w' ⟨v',p',h1,h2,h3⟩=>⟨v',p',h1,h2,h3⟩) fun v108 p_108 hKp_108=>?_))))))
  show Ll _ _ (Own _ _ (_::_::hs)) _ _ ((108,str v108)::_) _ _ _
  obtain ⟨hmv108,hep_108⟩:=hKp_108
  have hqv108:=len_of (a:=1) (b:=1) hmv108 (by decide);refine qN 1 Z (zJ (zD [0,1,2,3,10,14] [_,_,_,_,_,_] Z (zF (zF (qK (qN 2 Z (Ll.bool fun b110 hg110=>?_)))))))
  cases b110
  ·
   refine vQ Z (vQ Z (vQ Z (qN 1 Z (zJ (zD [0,1,2,3,10,14,114] [_,_,_,_,_,_,_] Z (xV Z (qU (zD [0,1,2,3,10,14] [_,_,_,_,_,_] Z (zF (jS (S:=Own B w0 [bk_ p107 #[str ([65]),str ([83]),str ([83])] 9]) [(0,true),(1,true),(2,true),(3,true),(4,true),(5,true),(6,true),(7,true),(8,true),(9,true),(10,true),(11,true),(12,false),(13,true),(14,true)] yD (fun _ h=>h.drawn) (by kernel_rfl) (jD 4 Z (pk [0] Z Z) (yM Z Z Z Z Z (qQ Z Z Z (by omega) (by omega)) (pk [0] Z Z) (yM (v:=str ((vs.drop ((k20).toNat)).take ((k20+(1:Int)).toNat - (k20).toNat))) Z Z Z Z Z (yX Z qO Z Z Z (by omega) (by omega) (by first | omega | (simp;omega))) (pk [0] Z Z) (yM Z Z Z Z Z (yC Z Z Z (by first | omega | (simp only [zQ,zX,qA,zT,qC];omega))) (pk [0] Z Z) (jD 2 Z (pk [0] Z Z) (yM Z Z Z Z Z (jK Z Z Z (by omega) (by omega)) (pk [0] Z Z) (jD 2 Z (pk [0] Z Z) (yV Z (yK (rp:=rp) (RT:=84) (p:=p_108) (bv:=bv) (hs:=hs) (ok:=fun (f:List UInt8) p'=>(1≤f.length∧f.length+1≤4*drawN (dep - (1:Int)))∧p'+5≤p_108+10*drawN (dep - (1:Int))) (v:=fun (f:List UInt8)=>str f) (new:=fun (f:List UInt8)=>[]) (xs:=[.tmp 125,.tmp 127,.tmp 128,.tmp 129]) (vs:=[pt_ rp,i6_ (dep - (1:Int)),str vs,bo_ cn]) ([bk_ p107 #[str ([65]),str ([83]),str ([83])] 9]:List (Nat×Obj)) Z Z Z Z Tryd.call99 Z (fun w1 hw1=>(ih B w0 (([bk_ p107 #[str ([65]),str ([83]),str ([83])] 9]:List (Nat×Obj))++hs) rp p_108 bv L (dep - (1:Int)) vs cn w1 (fun w2 hw2=>hb w2 (qB (f:=([bk_ p107 #[str ([65]),str ([83]),str ([83])] 9]:List (Nat×Obj))) hw2)) hL8 hL (by omega) (by omega) hv1 hv4 (by omega) hw1).mono fun en w' ⟨f',p',h1,h2,h3⟩=>⟨f',p',h1,h2,h3⟩) fun f130 p_130 hKp_130=>?_)))))))))))))))))))
   show Ll _ _ (Own _ _ (_::_::hs)) _ _ ((130,str f130)::_) _ _ _
   obtain ⟨⟨hlof130,hlef130⟩,hep_130⟩:=hKp_130;refine zJ (yP (pk [0] Z Z) ?_);refine yM Z Z Z Z Z (yC Z Z Z (by first | omega | (simp only [zQ,zX,qA,zT,qC];omega))) (pk [0] Z Z) (jD 1 Z (pk [0] Z Z) (Ld.nil (zD [8] [_] Z (qL (qS Z Z fun w' hw=>?_)))))
   exact ⟨(v108++((vs.drop ((k20).toNat)).take ((k20+(1:Int)).toNat - (k20).toNat)))++f130,p_130,rfl,⟨⟨(by (try dsimp only);(try simp only [zQ,zX,qA,zT,qC]);omega),(by (try dsimp only);(try simp only [zQ,zX,qA,zT,qC]);omega)⟩,by omega⟩,hw.sub (qR _ (zA _ (zO _)))⟩
  refine qN 1 Z (yK (rp:=rp) (RT:=84) (p:=p_108) (bv:=bv) (hs:=hs) (ok:=fun (k:Int) p'=>0≤k∧(1≤(3:Int)→k<3)∧p'=p_108+1) (v:=fun (k:Int)=>i6_ k) (new:=fun (k:Int)=>[]) (xs:=[.tmp 111,.const (i6_ 3)]) (vs:=[pt_ rp,i6_ 3]) ([bk_ p107 #[str ([65]),str ([83]),str ([83])] 9]:List (Nat×Obj)) Z Z Z Z xW Z (fun w1 hw1=>(pick_ok B w0 (([bk_ p107 #[str ([65]),str ([83]),str ([83])] 9]:List (Nat×Obj))++hs) rp p_108 bv L 3 w1 (fun w2 hw2=>hb w2 (qB (f:=([bk_ p107 #[str ([65]),str ([83]),str ([83])] 9]:List (Nat×Obj))) hw2)) hL8 hL (by omega) hw1).mono fun en w' ⟨k',p',h1,h2,h3⟩=>⟨k',p',h1,h2,h3⟩) fun k112 p_112 hKp_112=>?_)
  show Ll _ _ (Own _ _ (_::_::hs)) _ _ ((112,i6_ k112)::_) _ _ _
  obtain ⟨h0k112,h1k112,hep_112⟩:=hKp_112
  try have hltk112:=h1k112 (by first | omega | (split <;> omega) | decide);refine qN 2 Z (zJ (zD [0,1,2,3,10,14,114] [_,_,_,_,_,_,_] Z (yG Z (fun h114=>?_) (fun h114=>?_))))
  ·
   refine qK (qN 1 Z (xA (xs:=[.const (str ([50])),.const (str ([51])),.const (str ([50])),.const (str ([52]))]) (vs:=[str ([50]),str ([51]),str ([50]),str ([52])]) jB Z Z Z Z Z Z (by decide) Z fun p116 hp116=>(yK (rp:=rp) (RT:=84) (p:=p_112) (bv:=bv) (hs:=hs) (ok:=fun (v:List UInt8) p'=>v∈([[50],[51],[50],[52]]:List (List UInt8))∧p'=p_112+1) (v:=fun (v:List UInt8)=>str v) (new:=fun (v:List UInt8)=>[]) (xs:=[.tmp 115,.tmp 116]) (vs:=[pt_ rp,sl_ p116 4 4]) ([bk_ p116 #[str ([50]),str ([51]),str ([50]),str ([52])] 9,bk_ p107 #[str ([65]),str ([83]),str ([83])] 9]:List (Nat×Obj)) Z Z Z Z xR Z (fun w1 hw1=>(of_ok B w0 (([bk_ p116 #[str ([50]),str ([51]),str ([50]),str ([52])] 9,bk_ p107 #[str ([65]),str ([83]),str ([83])] 9]:List (Nat×Obj))++hs) rp p_112 bv L (sl_ p116 4 4) ([[50],[51],[50],[52]]:List (List UInt8)) w1 (fun w2 hw2=>hb w2 (qB (f:=([bk_ p116 #[str ([50]),str ([51]),str ([50]),str ([52])] 9,bk_ p107 #[str ([65]),str ([83]),str ([83])] 9]:List (Nat×Obj))) hw2)) hL8 hL (fun w2 h2=>(jI h2 (i:=0) Z (n:=4) (cap:=4) (vs:=strs ([[50],[51],[50],[52]]:List (List UInt8))) Z Z (by decide))) (by simp) (by omega) hw1).mono fun en w' ⟨v',p',h1,h2,h3⟩=>⟨v',p',h1,h2,h3⟩) fun v117 p_117 hKp_117=>?_)))
   show Ll _ _ (Own _ _ (_::_::_::hs)) _ _ ((117,str v117)::_) _ _ _
   obtain ⟨hmv117,hep_117⟩:=hKp_117
   have hqv117:=len_of (a:=1) (b:=1) hmv117 (by decide);refine qN 1 Z (zJ (zD [0,1,2,3,10,14] [_,_,_,_,_,_] Z (zF (jS (S:=Own B w0 [bk_ p116 #[str ([50]),str ([51]),str ([50]),str ([52])] 9,bk_ p107 #[str ([65]),str ([83]),str ([83])] 9]) [(0,true),(1,true),(2,true),(3,true),(4,true),(5,true),(6,true),(7,true),(8,true),(9,true),(10,true),(11,true),(12,false),(13,true),(14,true)] yD (fun _ h=>h.drawn) (by kernel_rfl) (jD 4 Z (pk [0,1] Z Z) (yM Z Z Z Z Z (qQ Z Z Z (by omega) (by omega)) (pk [0,1] Z Z) (yM (v:=str ((vs.drop ((k20).toNat)).take ((k20+(1:Int)).toNat - (k20).toNat))) Z Z Z Z Z (yX Z qO Z Z Z (by omega) (by omega) (by first | omega | (simp;omega))) (pk [0,1] Z Z) (yM Z Z Z Z Z (yC Z Z Z (by first | omega | (simp only [zQ,zX,qA,zT,qC];omega))) (pk [0,1] Z Z) (jD 2 Z (pk [0,1] Z Z) (yM Z Z Z Z Z (jK Z Z Z (by omega) (by omega)) (pk [0,1] Z Z) (jD 2 Z (pk [0,1] Z Z) (yV Z (yK (rp:=rp) (RT:=84) (p:=p_117) (bv:=bv) (hs:=hs) (ok:=fun (f:List UInt8) p'=>(1≤f.length∧f.length+1≤4*drawN (dep - (1:Int)))∧p'+5≤p_117+10*drawN (dep - (1:Int))) (v:=fun (f:List UInt8)=>str f) (new:=fun (f:List UInt8)=>[]) (xs:=[.tmp 125,.tmp 127,.tmp 128,.tmp 129]) (vs:=[pt_ rp,i6_ (dep - (1:Int)),str vs,bo_ cn]) ([bk_ p116 #[str ([50]),str ([51]),str ([50]),str ([52])] 9,bk_ p107 #[str ([65]),str ([83]),str ([83])] 9]:List (Nat×Obj)) Z Z Z Z Tryd.call99 Z (fun w1 hw1=>(ih B w0 (([bk_ p116 #[str ([50]),str ([51]),str ([50]),str ([52])] 9,bk_ p107 #[str ([65]),str ([83]),str ([83])] 9]:List (Nat×Obj))++hs) rp p_117 bv L (dep - (1:Int)) vs cn w1 (fun w2 hw2=>hb w2 (qB (f:=([bk_ p116 #[str ([50]),str ([51]),str ([50]),str ([52])] 9,bk_ p107 #[str ([65]),str ([83]),str ([83])] 9]:List (Nat×Obj))) hw2)) hL8 hL (by omega) (by omega) hv1 hv4 (by omega) hw1).mono fun en w' ⟨f',p',h1,h2,h3⟩=>⟨f',p',h1,h2,h3⟩) fun f130_1 p_130_1 hKp_130_1=>?_)))))))))))))
   show Ll _ _ (Own _ _ (_::_::_::hs)) _ _ ((130,str f130_1)::_) _ _ _
   obtain ⟨⟨hlof130_1,hlef130_1⟩,hep_130_1⟩:=hKp_130_1;refine zJ (yP (pk [0,1] Z Z) ?_);refine yM Z Z Z Z Z (yC Z Z Z (by first | omega | (simp only [zQ,zX,qA,zT,qC];omega))) (pk [0,1] Z Z) (jD 1 Z (pk [0,1] Z Z) (Ld.nil (zD [8] [_] Z (qL (qS Z Z fun w' hw=>?_)))))
   exact ⟨(v117++((vs.drop ((k20).toNat)).take ((k20+(1:Int)).toNat - (k20).toNat)))++f130_1,p_130_1,rfl,⟨⟨(by (try dsimp only);(try simp only [zQ,zX,qA,zT,qC]);omega),(by (try dsimp only);(try simp only [zQ,zX,qA,zT,qC]);omega)⟩,by omega⟩,hw.sub (qR _ (qR _ (zA _ (zO _))))⟩
  refine qU (zD [0,1,2,3,10,14] [_,_,_,_,_,_] Z (zF (jS (S:=Own B w0 [bk_ p107 #[str ([65]),str ([83]),str ([83])] 9]) [(0,true),(1,true),(2,true),(3,true),(4,true),(5,true),(6,true),(7,true),(8,true),(9,true),(10,true),(11,true),(12,false),(13,true),(14,true)] yD (fun _ h=>h.drawn) (by kernel_rfl) (jD 4 Z (pk [0] Z Z) (yM Z Z Z Z Z (qQ Z Z Z (by omega) (by omega)) (pk [0] Z Z) (yM (v:=str ((vs.drop ((k20).toNat)).take ((k20+(1:Int)).toNat - (k20).toNat))) Z Z Z Z Z (yX Z qO Z Z Z (by omega) (by omega) (by first | omega | (simp;omega))) (pk [0] Z Z) (yM Z Z Z Z Z (yC Z Z Z (by first | omega | (simp only [zQ,zX,qA,zT,qC];omega))) (pk [0] Z Z) (jD 2 Z (pk [0] Z Z) (yM Z Z Z Z Z (jK Z Z Z (by omega) (by omega)) (pk [0] Z Z) (jD 2 Z (pk [0] Z Z) (yV Z (yK (rp:=rp) (RT:=84) (p:=p_112) (bv:=bv) (hs:=hs) (ok:=fun (f:List UInt8) p'=>(1≤f.length∧f.length+1≤4*drawN (dep - (1:Int)))∧p'+5≤p_112+10*drawN (dep - (1:Int))) (v:=fun (f:List UInt8)=>str f) (new:=fun (f:List UInt8)=>[]) (xs:=[.tmp 125,.tmp 127,.tmp 128,.tmp 129]) (vs:=[pt_ rp,i6_ (dep - (1:Int)),str vs,bo_ cn]) ([bk_ p107 #[str ([65]),str ([83]),str ([83])] 9]:List (Nat×Obj)) Z Z Z Z Tryd.call99 Z (fun w1 hw1=>(ih B w0 (([bk_ p107 #[str ([65]),str ([83]),str ([83])] 9]:List (Nat×Obj))++hs) rp p_112 bv L (dep - (1:Int)) vs cn w1 (fun w2 hw2=>hb w2 (qB (f:=([bk_ p107 #[str ([65]),str ([83]),str ([83])] 9]:List (Nat×Obj))) hw2)) hL8 hL (by omega) (by omega) hv1 hv4 (by omega) hw1).mono fun en w' ⟨f',p',h1,h2,h3⟩=>⟨f',p',h1,h2,h3⟩) fun f130_2 p_130_2 hKp_130_2=>?_))))))))))))
  show Ll _ _ (Own _ _ (_::_::hs)) _ _ ((130,str f130_2)::_) _ _ _
  obtain ⟨⟨hlof130_2,hlef130_2⟩,hep_130_2⟩:=hKp_130_2;refine zJ (yP (pk [0] Z Z) ?_);refine yM Z Z Z Z Z (yC Z Z Z (by first | omega | (simp only [zQ,zX,qA,zT,qC];omega))) (pk [0] Z Z) (jD 1 Z (pk [0] Z Z) (Ld.nil (zD [8] [_] Z (qL (qS Z Z fun w' hw=>?_)))))
  exact ⟨(v108++((vs.drop ((k20).toNat)).take ((k20+(1:Int)).toNat - (k20).toNat)))++f130_2,p_130_2,rfl,⟨⟨(by (try dsimp only);(try simp only [zQ,zX,qA,zT,qC]);omega),(by (try dsimp only);(try simp only [zQ,zX,qA,zT,qC]);omega)⟩,by omega⟩,hw.sub (qR _ (zA _ (zO _)))⟩
 replace hg28:=zZ hg28;refine zU Z (zU Z (zC 2 Z (zL (zD [0,1,2,3,9,10,11,25] [_,_,_,_,_,_,_,_] Z (yU Z (zF (zF (qK (qN 1 Z (yK (rp:=rp) (RT:=84) (p:=p_24) (bv:=bv) (hs:=hs) (ok:=fun (k:Int) p'=>0≤k∧(1≤(8:Int)→k<8)∧p'=p_24+1) (v:=fun (k:Int)=>i6_ k) (new:=fun (k:Int)=>[]) (xs:=[.tmp 32,.const (i6_ 8)]) (vs:=[pt_ rp,i6_ 8]) ([]:List (Nat×Obj)) Z Z Z Z xW Z (fun w1 hw1=>(pick_ok B w0 (([]:List (Nat×Obj))++hs) rp p_24 bv L 8 w1 (fun w2 hw2=>hb w2 (qB (f:=([]:List (Nat×Obj))) hw2)) hL8 hL (by omega) hw1).mono fun en w' ⟨k',p',h1,h2,h3⟩=>⟨k',p',h1,h2,h3⟩) fun k33_1 p_33_1 hKp_33_1=>?_))))))))))
 show Ll _ _ (Own _ _ (_::hs)) _ _ ((33,i6_ k33_1)::_) _ _ _
 obtain ⟨h0k33_1,h1k33_1,hep_33_1⟩:=hKp_33_1
 try have hltk33_1:=h1k33_1 (by first | omega | (split <;> omega) | decide);refine zJ (zD [0,2,10,11,33] [_,_,_,_,_] Z (qY (zF (zB (zC 2 Z (zL (zD [0,2,10,11,33,34] [_,_,_,_,_,_] Z (yG Z (fun h34_1=>?_) (fun h34_1=>?_)))))))))
 ·
  refine zF (qK (qN 1 Z (xA (xs:=[.const (str ([116])),.const (str ([102]))]) (vs:=[str ([116]),str ([102])]) jB Z Z Z Z Z Z (by decide) Z fun p37_1 hp37_1=>(yK (rp:=rp) (RT:=84) (p:=p_33_1) (bv:=bv) (hs:=hs) (ok:=fun (v:List UInt8) p'=>v∈([[116],[102]]:List (List UInt8))∧p'=p_33_1+1) (v:=fun (v:List UInt8)=>str v) (new:=fun (v:List UInt8)=>[]) (xs:=[.tmp 36,.tmp 37]) (vs:=[pt_ rp,sl_ p37_1 2 2]) ([bk_ p37_1 #[str ([116]),str ([102])] 9]:List (Nat×Obj)) Z Z Z Z xR Z (fun w1 hw1=>(of_ok B w0 (([bk_ p37_1 #[str ([116]),str ([102])] 9]:List (Nat×Obj))++hs) rp p_33_1 bv L (sl_ p37_1 2 2) ([[116],[102]]:List (List UInt8)) w1 (fun w2 hw2=>hb w2 (qB (f:=([bk_ p37_1 #[str ([116]),str ([102])] 9]:List (Nat×Obj))) hw2)) hL8 hL (fun w2 h2=>(jI h2 (i:=0) Z (n:=2) (cap:=2) (vs:=strs ([[116],[102]]:List (List UInt8))) Z Z (by decide))) (by simp) (by omega) hw1).mono fun en w' ⟨v',p',h1,h2,h3⟩=>⟨v',p',h1,h2,h3⟩) fun v38_1 p_38_1 hKp_38_1=>?_))))
  show Ll _ _ (Own _ _ (_::_::hs)) _ _ ((38,str v38_1)::_) _ _ _
  obtain ⟨hmv38_1,hep_38_1⟩:=hKp_38_1
  have hqv38_1:=len_of (a:=1) (b:=1) hmv38_1 (by decide);refine qN 1 Z (zJ (zD [8] [_] Z (qL (qS Z Z fun w' hw=>?_))))
  exact ⟨v38_1,p_38_1,rfl,⟨⟨(by (try dsimp only);(try simp only [zQ,zX,qA,zT,qC]);omega),(by (try dsimp only);(try simp only [zQ,zX,qA,zT,qC]);omega)⟩,by omega⟩,hw.sub (qR _ (zA _ (zO _)))⟩
 refine zF (zF (zB (zC 2 Z (zL (zD [2,10,11,33,39] [_,_,_,_,_] Z (yG Z (fun h39_3=>?_) (fun h39_3=>?_)))))))
 ·
  refine qU (zD [2,10,11,33,39] [_,_,_,_,_] Z (yG Z (fun h39_4=>?_) (fun h39_4=>?_)))
  ·
   refine zF (zB (zC 3 Z (zG Z (qQ Z Z Z (by omega) (by omega)) (zG (v:=str ((vs.drop ((k20).toNat)).take ((k20+(1:Int)).toNat - (k20).toNat))) Z (yX Z qO Z Z Z (by omega) (by omega) (by first | omega | (simp;omega))) (zG Z (yC Z Z Z (by first | omega | (simp only [zQ,zX,qA,zT,qC];omega))) (zC 1 Z (zL (zD [8] [_] Z (qL (qS Z Z fun w' hw=>?_))))))))))
   exact ⟨([80])++((vs.drop ((k20).toNat)).take ((k20+(1:Int)).toNat - (k20).toNat)),p_33_1,rfl,⟨⟨(by (try dsimp only);(try simp only [zQ,zX,qA,zT,qC]);omega),(by (try dsimp only);(try simp only [zQ,zX,qA,zT,qC]);omega)⟩,by omega⟩,hw.sub (zA _ (zO _))⟩
  refine zF (zB (zC 2 Z (zL (zD [2,10,11,48] [_,_,_,_] Z (yG Z (fun h48_2=>?_) (fun h48_2=>?_))))))
  ·
   refine zF (jC yD (fun _ h=>h.drawn) (by kernel_rfl) (zC 3 Z (zG Z (qQ Z Z Z (by omega) (by omega)) (zG (v:=str ((vs.drop ((k20).toNat)).take ((k20+(1:Int)).toNat - (k20).toNat))) Z (yX Z qO Z Z Z (by omega) (by omega) (by first | omega | (simp;omega))) (zG Z (yC Z Z Z (by first | omega | (simp only [zQ,zX,qA,zT,qC];omega))) (zC 3 Z (zG Z (qQ Z Z Z (by omega) (by omega)) (zG (v:=str ((vs.drop ((k24).toNat)).take ((k24+(1:Int)).toNat - (k24).toNat))) Z (yX Z qO Z Z Z (by omega) (by omega) (by first | omega | (simp;omega))) (zG Z (yC Z Z Z (by first | omega | (simp only [zQ,zX,qA,zT,qC];omega))) (zC 1 Z (zL (zD [8] [_] Z (qL (qS Z Z fun w' hw=>?_))))))))))))))
   exact ⟨(([61])++((vs.drop ((k20).toNat)).take ((k20+(1:Int)).toNat - (k20).toNat)))++((vs.drop ((k24).toNat)).take ((k24+(1:Int)).toNat - (k24).toNat)),p_33_1,rfl,⟨⟨(by (try dsimp only);(try simp only [zQ,zX,qA,zT,qC]);omega),(by (try dsimp only);(try simp only [zQ,zX,qA,zT,qC]);omega)⟩,by omega⟩,hw.sub (zA _ (zO _))⟩
  refine qU (zD [2,10,11] [_,_,_] Z (zF (jC yD (fun _ h=>h.drawn) (by kernel_rfl) (zC 3 Z (zG Z (qQ Z Z Z (by omega) (by omega)) (zG (v:=str ((vs.drop ((k20).toNat)).take ((k20+(1:Int)).toNat - (k20).toNat))) Z (yX Z qO Z Z Z (by omega) (by omega) (by first | omega | (simp;omega))) (zG Z (yC Z Z Z (by first | omega | (simp only [zQ,zX,qA,zT,qC];omega))) (zC 3 Z (zG Z (qQ Z Z Z (by omega) (by omega)) (zG (v:=str ((vs.drop ((k24).toNat)).take ((k24+(1:Int)).toNat - (k24).toNat))) Z (yX Z qO Z Z Z (by omega) (by omega) (by first | omega | (simp;omega))) (zG Z (yC Z Z Z (by first | omega | (simp only [zQ,zX,qA,zT,qC];omega))) (zC 1 Z (zL (zD [8] [_] Z (qL (qS Z Z fun w' hw=>?_))))))))))))))))
  exact ⟨(([69])++((vs.drop ((k20).toNat)).take ((k20+(1:Int)).toNat - (k20).toNat)))++((vs.drop ((k24).toNat)).take ((k24+(1:Int)).toNat - (k24).toNat)),p_33_1,rfl,⟨⟨(by (try dsimp only);(try simp only [zQ,zX,qA,zT,qC]);omega),(by (try dsimp only);(try simp only [zQ,zX,qA,zT,qC]);omega)⟩,by omega⟩,hw.sub (zA _ (zO _))⟩
 refine zB (zC 2 Z (zL (zD [2,10,11,33,39] [_,_,_,_,_] Z (yG Z (fun h39_5=>?_) (fun h39_5=>?_)))))
 ·
  refine zF (zB (zC 3 Z (zG Z (qQ Z Z Z (by omega) (by omega)) (zG (v:=str ((vs.drop ((k20).toNat)).take ((k20+(1:Int)).toNat - (k20).toNat))) Z (yX Z qO Z Z Z (by omega) (by omega) (by first | omega | (simp;omega))) (zG Z (yC Z Z Z (by first | omega | (simp only [zQ,zX,qA,zT,qC];omega))) (zC 1 Z (zL (zD [8] [_] Z (qL (qS Z Z fun w' hw=>?_))))))))))
  exact ⟨([80])++((vs.drop ((k20).toNat)).take ((k20+(1:Int)).toNat - (k20).toNat)),p_33_1,rfl,⟨⟨(by (try dsimp only);(try simp only [zQ,zX,qA,zT,qC]);omega),(by (try dsimp only);(try simp only [zQ,zX,qA,zT,qC]);omega)⟩,by omega⟩,hw.sub (zA _ (zO _))⟩
 refine zF (zB (zC 2 Z (zL (zD [2,10,11,48] [_,_,_,_] Z (yG Z (fun h48_3=>?_) (fun h48_3=>?_))))))
 ·
  refine zF (jC yD (fun _ h=>h.drawn) (by kernel_rfl) (zC 3 Z (zG Z (qQ Z Z Z (by omega) (by omega)) (zG (v:=str ((vs.drop ((k20).toNat)).take ((k20+(1:Int)).toNat - (k20).toNat))) Z (yX Z qO Z Z Z (by omega) (by omega) (by first | omega | (simp;omega))) (zG Z (yC Z Z Z (by first | omega | (simp only [zQ,zX,qA,zT,qC];omega))) (zC 3 Z (zG Z (qQ Z Z Z (by omega) (by omega)) (zG (v:=str ((vs.drop ((k24).toNat)).take ((k24+(1:Int)).toNat - (k24).toNat))) Z (yX Z qO Z Z Z (by omega) (by omega) (by first | omega | (simp;omega))) (zG Z (yC Z Z Z (by first | omega | (simp only [zQ,zX,qA,zT,qC];omega))) (zC 1 Z (zL (zD [8] [_] Z (qL (qS Z Z fun w' hw=>?_))))))))))))))
  exact ⟨(([61])++((vs.drop ((k20).toNat)).take ((k20+(1:Int)).toNat - (k20).toNat)))++((vs.drop ((k24).toNat)).take ((k24+(1:Int)).toNat - (k24).toNat)),p_33_1,rfl,⟨⟨(by (try dsimp only);(try simp only [zQ,zX,qA,zT,qC]);omega),(by (try dsimp only);(try simp only [zQ,zX,qA,zT,qC]);omega)⟩,by omega⟩,hw.sub (zA _ (zO _))⟩
 refine qU (zD [2,10,11] [_,_,_] Z (zF (jC yD (fun _ h=>h.drawn) (by kernel_rfl) (zC 3 Z (zG Z (qQ Z Z Z (by omega) (by omega)) (zG (v:=str ((vs.drop ((k20).toNat)).take ((k20+(1:Int)).toNat - (k20).toNat))) Z (yX Z qO Z Z Z (by omega) (by omega) (by first | omega | (simp;omega))) (zG Z (yC Z Z Z (by first | omega | (simp only [zQ,zX,qA,zT,qC];omega))) (zC 3 Z (zG Z (qQ Z Z Z (by omega) (by omega)) (zG (v:=str ((vs.drop ((k24).toNat)).take ((k24+(1:Int)).toNat - (k24).toNat))) Z (yX Z qO Z Z Z (by omega) (by omega) (by first | omega | (simp;omega))) (zG Z (yC Z Z Z (by first | omega | (simp only [zQ,zX,qA,zT,qC];omega))) (zC 1 Z (zL (zD [8] [_] Z (qL (qS Z Z fun w' hw=>?_))))))))))))))))
 exact ⟨(([69])++((vs.drop ((k20).toNat)).take ((k20+(1:Int)).toNat - (k20).toNat)))++((vs.drop ((k24).toNat)).take ((k24+(1:Int)).toNat - (k24).toNat)),p_33_1,rfl,⟨⟨(by (try dsimp only);(try simp only [zQ,zX,qA,zT,qC]);omega),(by (try dsimp only);(try simp only [zQ,zX,qA,zT,qC]);omega)⟩,by omega⟩,hw.sub (zA _ (zO _))⟩
theorem l2Draw_all:∀ (m:Nat) (dep:Int),dep.toNat≤m→∀ (B:Nat) (w0:World) (hs:List (Nat×Obj)) (rp p:Nat) (bv:Value) (L:List Int) (vs:List UInt8) (cn:Bool) (w:World),(∀ w,Own B w0 hs w→Row w bv (u8s L))→Bytes8 L→L.length≤2000→dep≤4→1≤vs.length→vs.length≤4→p+10*drawN dep≤900000→Own B w0 ((rp,.cells #[bv,.int .i64 (p:Int)] 84 (0,0))::hs) w→Calls Tryd.prog 99 #[.pointer (some ⟨rp,0,none⟩),.int .i64 dep,str vs,.bool cn] w fun en w'=>∃ f:List UInt8,∃ p':Nat,en=.returned (str f)∧((1≤f.length∧f.length+1≤4*drawN dep)∧p'+5≤p+10*drawN dep)∧Own B w0 ((rp,.cells #[bv,.int .i64 (p':Int)] 84 (0,0))::hs) w':=fun m=>by
  induction m with
  | zero=>exact fun dep h B w0 hs rp p bv L vs cn w hb h8 hL hd hv1 hv4 hp hw=>l2Draw_step B w0 hs rp p bv L dep vs cn w hb h8 hL hd hv1 hv4 hp (fun _ _ _ _ _ _ _ d2 _ _ _ _ _ _ hlt=>absurd hlt (by omega)) hw
  | succ m ih=>exact fun dep h B w0 hs rp p bv L vs cn w hb h8 hL hd hv1 hv4 hp hw=>l2Draw_step B w0 hs rp p bv L dep vs cn w hb h8 hL hd hv1 hv4 hp (fun B w0 hs rp p bv L d2 vs2 cn2 w hb h8 hL hlt k1 k2 k3 k4 hw=>ih d2 (by omega) B w0 hs rp p bv L vs2 cn2 w hb h8 hL k1 k2 k3 k4 hw) hw
theorem l2Draw_ok (B:Nat) (w0:World) (hs:List (Nat×Obj)) (rp p:Nat) (bv:Value) (L:List Int) (dep:Int) (vs:List UInt8) (cn:Bool) (w:World) (hb:∀ w,Own B w0 hs w→Row w bv (u8s L)) (hL8:Bytes8 L) (hL:L.length≤2000) (hd:dep≤4) (hv1:1≤vs.length) (hv4:vs.length≤4) (hp:p≤800000) (hw:Own B w0 ((rp,.cells #[bv,.int .i64 (p:Int)] 84 (0,0))::hs) w):Calls Tryd.prog 99 #[.pointer (some ⟨rp,0,none⟩),.int .i64 dep,str vs,.bool cn] w fun en w'=>∃ f:List UInt8,∃ p':Nat,en=.returned (str f)∧((1≤f.length∧f.length≤63)∧p'≤p+160)∧Own B w0 ((rp,.cells #[bv,.int .i64 (p':Int)] 84 (0,0))::hs) w':=by
  have hN:=drawN_le hd
  exact (l2Draw_all _ dep (Nat.le_refl _) B w0 hs rp p bv L vs cn w hb hL8 hL hd hv1 hv4 (by omega) hw).mono fun en w' ⟨f,p',h1,⟨⟨h2,h3⟩,h4⟩,h5⟩=>⟨f,p',h1,⟨⟨h2,by omega⟩,by omega⟩,h5⟩
set_option maxHeartbeats 400000 in
theorem sFree_ok (f:List UInt8) (w:World) (hf:f.length≤1048576) :
    Calls Tryd.prog 100 [str f].toArray w fun en w'=>en=.returned (str (freeT f))∧Below w.heap.size w w':=by
 refine fnStart (n:=32) (e:=[(0,str f)]) Tryd.func100 Z Z Z Z Ends.both (zF (zB (zG (v:=str ([])) Z (xP Z Z) (zL (zD [0] [_] Z (zF (zB (zG (v:=str ([])) Z (xP Z Z) (zL (zD [0,3] [_,_] Z (zF (zF (zB (zC 1 Z (zG (v:=bo_ ((formO f).isSome)) Z (qM Z Tryd.call102 Z qD (fun w1 hw1=>sFValid_ok f w1 hf)) (zC 1 Z (zL (zD [0,3,9] [_,_,_] Z (yE (b:=!((formO f).isSome)) Z (fun h9=>?_) (fun h9=>?_))))))))))))))))))))
 ·
  replace h9:=not_true h9;refine zF (zB (zG (v:=str ([])) Z (xP Z Z) (zL (zD [2] [_] Z (qL (qS Z Z fun w' hw=>?_))))))
  exact ⟨ret_s (by unfold freeT;rw [show formO f=none by simp_all]),hw.below⟩
 replace h9:=not_false h9
 obtain ⟨p,hp⟩:=Option.isSome_iff_exists.1 (show (formO f).isSome=true by simp_all)
 have hP:=formO_pa hp
 have hf16:=frB_lt (formO_wf hp);refine qU (zD [0,3] [_,_] Z (zF (zB (zC 1 Z (zG (v:=.tuple #[i6_ (frB p:Int),i6_ (f.length:Int)]) Z (qM Z Tryd.call103 Z qD (fun w1 hw1=>l2Free_ok f 0 0 p f.length w1 hf (by omega) hP)) (zC 1 Z (zG (v:=i6_ (frB p:Int)) Z (qV Z Z Z) (zG (v:=i6_ (f.length:Int)) Z (qV Z Z Z) (zC 2 Z (zL (zD [3,4] [_,_] Z (zF (zF (zB (zC 1 Z (zL (zD [3,4,6] [_,_,_] Z (qY (jR (σ:=Nat) (fun i=>i≤4) (fun i=>[(3,str (varsS (frB p) i)),(4,i6_ (frB p:Int)),(6,i6_ (i:Int))]) (fun i=>Own w.heap.size w []) (fun i=>4 - i) (0) (by omega) (Sub.cons (by rfl) (Sub.sel [4,6] Z)) (fun _ h=>h) ?_)))))))))))))))))))
 rintro i hi
 have hmi:frB p / 2 ^ i≤frB p:=Nat.div_le_self _ _;refine zF (zF (zB (zC 2 Z (zL (zD [3,4,6,16] [_,_,_,_] Z (yG Z (fun h16=>?_) (fun h16=>?_)))))))
 ·
  refine qU (zD [3,4,6] [_,_,_] Z (zF (qY (zF (zB (zC 2 Z (zG (v:=.int .u64 (i:Int)) Z (jH .u64 Z yR jL Z (IntWalk.u64_in _ (by omega))) (zG (v:=i6_ ((((frB p) / 2 ^ i:Nat):Int))) Z (OpQ.shr (a:=frB p) (b:=i) Z Z Z (by omega)) (zG (v:=i6_ (((((frB p) / 2 ^ i) &&& 1:Nat):Int))) Z (OpQ.and (a:=(frB p) / 2 ^ i) (b:=1) Z Z Z (by omega) (by omega)) (zC 1 Z (zL (zD [3,4,6,24] [_,_,_,_] Z (yE (b:=decide ((((((frB p) / 2 ^ i) &&& 1:Nat):Int))=(1:Int))) Z (fun h24=>?_) (fun h24=>?_))))))))))))))
  ·
   replace h24:=zZ h24
   have hvl:=varsS_len (frB p) i;refine zB (zC 3 Z (zG Z (qQ Z Z Z (by omega) (by omega)) (zG (v:=str ((([97,98,99,100]).drop ((i:Int).toNat)).take (((i:Int)+(1:Int)).toNat - (i:Int).toNat))) Z (yX Z qO Z Z Z (by omega) (by omega) (by first | omega | (simp;omega))) (zG Z (yC Z Z Z (by rw [name_cut (by omega)];simp only [zX,qA];omega)) (zC 1 Z (zL (zD [3,4,6] [_,_,_] Z (zB (zC 1 Z (zG Z (qQ Z Z Z (by omega) (by omega)) (zC 1 Z (zL (yY (i+1) (by omega) (by omega) (Sub.cons (by first | (rw [varsS_yes (by assumption),← name_cut (by omega)];rfl) | (rw [varsS_no (by assumption)];rfl)) (Sub.sel [4,6] Z)) (fun _ h=>h))))))))))))))
  replace h24:=zW h24;refine qU (zD [3,4,6] [_,_,_] Z (zB (zC 1 Z (zG Z (qQ Z Z Z (by omega) (by omega)) (zC 1 Z (zL (yY (i+1) (by omega) (by omega) (Sub.cons (by first | (rw [varsS_yes (by assumption),← name_cut (by omega)];rfl) | (rw [varsS_no (by assumption)];rfl)) (Sub.sel [4,6] Z)) (fun _ h=>h))))))))
 refine xO Z (zD [3] [_] Z (zF (zB (zC 2 Z (zL (zD [2] [_] Z (qL (qS Z Z fun w' hw=>?_))))))))
 exact ⟨ret_s (by unfold freeT;rw [hp,show i=4 from by omega]),hw.below⟩
set_option maxHeartbeats 400000 in
theorem l2Closed_ok (B:Nat) (w0:World) (hs:List (Nat×Obj)) (rp p:Nat) (bv:Value) (L:List Int) (dep:Int) (vs:List UInt8) (cn:Bool) (w:World) (hb:∀ w,Own B w0 hs w→Row w bv (u8s L)) (hL8:Bytes8 L) (hL:L.length≤2000) (hd:dep≤4) (hv1:1≤vs.length) (hv4:vs.length≤4) (hp:p≤700000) (hw:Own B w0 ((rp,.cells #[bv,.int .i64 (p:Int)] 84 (0,0))::hs) w) :
    Calls Tryd.prog 62 [pt_ rp,i6_ dep,str vs,bo_ cn].toArray w fun en w'=>∃ f:List UInt8,∃ p':Nat,en=.returned (str f)∧((1≤f.length∧f.length≤75)∧p'≤p+170)∧Own B w0 (((rp,.cells #[bv,.int .i64 (p':Int)] 84 (0,0))::hs)) w':=by
 refine fnStartC (Own B w0 ((rp,.cells #[bv,.int .i64 (p:Int)] 84 (0,0))::hs)) (n:=37) (e:=[(0,pt_ rp),(1,i6_ dep),(2,str vs),(3,bo_ cn)]) Tryd.func62 Z Z Z Z Ends.both hw (zF (zB (zG (v:=str ([])) Z (xP Z Z) (zL (zD [0,1,2,3] [_,_,_,_] Z (zF (qK (qN 4 Z (yK (rp:=rp) (RT:=84) (p:=p) (bv:=bv) (hs:=hs) (ok:=fun (f:List UInt8) p'=>(1≤f.length∧f.length≤63)∧p'≤p+160) (v:=fun (f:List UInt8)=>str f) (new:=fun (f:List UInt8)=>[]) (xs:=[.tmp 12,.tmp 13,.tmp 14,.tmp 15]) (vs:=[pt_ rp,i6_ dep,str vs,bo_ cn]) ([]:List (Nat×Obj)) Z Z Z Z Tryd.call99 Z (fun w1 hw1=>(l2Draw_ok B w0 (([]:List (Nat×Obj))++hs) rp p bv L dep vs cn w1 (fun w2 hw2=>hb w2 (qB (f:=([]:List (Nat×Obj))) hw2)) hL8 hL (by omega) (by omega) (by omega) (by omega) hw1).mono fun en w' ⟨f',p',h1,h2,h3⟩=>⟨f',p',h1,h2,h3⟩) fun f16 p_16 hKp_16=>?_)))))))))
 show Ll _ _ (Own _ _ (_::hs)) _ _ ((16,str f16)::_) _ _ _
 obtain ⟨⟨hlof16,hlef16⟩,hep_16⟩:=hKp_16;refine qN 1 Z (zJ (zD [0,9] [_,_] Z (zF (zB (zC 1 Z (zG (v:=str (freeT f16)) Z (qM Z Tryd.call100 Z qD (fun w1 hw1=>sFree_ok f16 w1 (by first | omega | (simp;omega)))) (zC 1 Z (zL (zD [0,9,10] [_,_,_] Z (zF (zF (zB (zC 1 Z (zL (zD [0,9,10,11] [_,_,_,_] Z (qY (jR (σ:=Nat×List UInt8×Nat) (fun ⟨i,g,p0⟩=>i≤(freeT f16).length∧1≤g.length∧g.length≤63+2*i∧p0≤p_16+i) (fun ⟨i,g,p0⟩=>[(0,pt_ rp),(9,str g),(10,str (freeT f16)),(11,i6_ (i:Int))]) (fun ⟨i,g,p0⟩=>Own B w0 (bk_ rp #[bv,i6_ (p0:Int)] 84::hs)) (fun ⟨i,g,p0⟩=>(freeT f16).length - i) (0,f16,p_16) ⟨by omega,by omega,by omega,by omega⟩ (Sub.sel [0,9,10,11] Z) (fun _ h=>h) ?_)))))))))))))))))
 rintro ⟨i,g,p0⟩ ⟨hi,hg1,hg2,hp0⟩
 dsimp only
 have hfl:=freeT_len f16;refine zF (zF (zB (zC 2 Z (zG (v:=i6_ ((freeT f16).length:Int)) Z (xN Z qG Z) (zC 1 Z (zL (zD [0,9,10,11,22] [_,_,_,_,_] Z (yG Z (fun h22=>?_) (fun h22=>?_)))))))))
 ·
  refine qU (zD [0,9,10,11] [_,_,_,_] Z (zF (qY (jS (S:=Own B w0 []) [(0,true),(3,true),(4,true),(5,true),(6,true),(7,true),(9,true),(1,false),(2,false),(8,true),(10,true),(11,true)] yD (fun _ h=>h.drawn) (by kernel_rfl) (jD 4 Z (pk [] Z Z) (yM Z Z Z Z Z (qQ Z Z Z (by omega) (by omega)) (pk [] Z Z) (yM (v:=str (((freeT f16).drop ((i:Int).toNat)).take (((i:Int)+(1:Int)).toNat - (i:Int).toNat))) Z Z Z Z Z (yX Z qO Z Z Z (by omega) (by omega) (by first | omega | (simp;omega))) (pk [] Z Z) (jD 1 Z (pk [] Z Z) (yV Z (xA (xs:=[.const (str ([65])),.const (str ([83]))]) (vs:=[str ([65]),str ([83])]) jB Z Z Z Z Z Z (by decide) Z fun p26 hp26=>(zJ (yP (pk [] Z Z) ?_))))))))))));refine yV Z (yK (rp:=rp) (RT:=84) (p:=p0) (bv:=bv) (hs:=hs) (ok:=fun (v:List UInt8) p'=>v∈([[65],[83]]:List (List UInt8))∧p'=p0+1) (v:=fun (v:List UInt8)=>str v) (new:=fun (v:List UInt8)=>[]) (xs:=[.tmp 25,.tmp 26]) (vs:=[pt_ rp,sl_ p26 2 2]) ([bk_ p26 #[str ([65]),str ([83])] 9]:List (Nat×Obj)) Z Z Z Z xR Z (fun w1 hw1=>(of_ok B w0 (([bk_ p26 #[str ([65]),str ([83])] 9]:List (Nat×Obj))++hs) rp p0 bv L (sl_ p26 2 2) ([[65],[83]]:List (List UInt8)) w1 (fun w2 hw2=>hb w2 (qB (f:=([bk_ p26 #[str ([65]),str ([83])] 9]:List (Nat×Obj))) hw2)) hL8 hL (fun w2 h2=>(jI h2 (i:=0) Z (n:=2) (cap:=2) (vs:=strs ([[65],[83]]:List (List UInt8))) Z Z (by decide))) (by simp) (by omega) hw1).mono fun en w' ⟨v',p',h1,h2,h3⟩=>⟨v',p',h1,h2,h3⟩) fun v27 p_27 hKp_27=>?_)
  show Ll _ _ (Own _ _ (_::_::hs)) _ _ ((27,str v27)::_) _ _ _
  obtain ⟨hmv27,hep_27⟩:=hKp_27
  have hqv27:=len_of (a:=1) (b:=1) hmv27 (by decide);refine zJ (yP (pk [] Z Z) ?_);refine yM Z Z Z Z Z (yC Z Z Z (by first | omega | (simp only [zQ,zX,qA,zT,qC];omega))) (pk [] Z Z) (yM Z Z Z Z Z (yC Z Z Z (by first | omega | (simp only [zQ,zX,qA,zT,qC];omega))) (pk [] Z Z) (jD 1 Z (pk [] Z Z) (Ld.nil (zD [0,9,10,11] [_,_,_,_] Z (zB (zC 1 Z (zG Z (qQ Z Z Z (by omega) (by omega)) (zC 1 Z (zL (yY ((i+1,(v27++(((freeT f16).drop ((i:Int).toNat)).take (((i:Int)+(1:Int)).toNat - (i:Int).toNat)))++g,p_27)) ⟨by omega,(by (try dsimp only);(try simp only [zQ,zX,qA,zT,qC]);omega),(by (try dsimp only);(try simp only [zQ,zX,qA,zT,qC]);omega),by (try dsimp only);omega⟩ (by omega) (Sub.sel [0,9,10,11] Z) (fun _ h=>h.sub (qR _ (zA _ (zO _))))))))))))))
 refine xO Z (zD [9] [_] Z (zF (zB (zC 2 Z (zL (zD [8] [_] Z (qL (qS Z Z fun w' hw=>?_))))))))
 exact ⟨g,p0,rfl,⟨⟨(by (try dsimp only);(try simp only [zQ,zX,qA,zT,qC]);omega),(by (try dsimp only);(try simp only [zQ,zX,qA,zT,qC]);omega)⟩,by omega⟩,hw.sub (zA _ (zO _))⟩
set_option maxHeartbeats 400000 in
theorem l2Bad_ok (B:Nat) (w0:World) (hs:List (Nat×Obj)) (rp p:Nat) (bv:Value) (L:List Int) (f:List UInt8) (w:World) (hb:∀ w,Own B w0 hs w→Row w bv (u8s L)) (hL8:Bytes8 L) (hL:L.length≤2000) (hf1:1≤f.length) (hf2:f.length≤190) (hp:p≤800000) (hw:Own B w0 ((rp,.cells #[bv,.int .i64 (p:Int)] 84 (0,0))::hs) w) :
    Calls Tryd.prog 61 [pt_ rp,str f].toArray w fun en w'=>∃ g:List UInt8,∃ p':Nat,en=.returned (str g)∧(g.length≤200∧p'≤p+5)∧Own B w0 (((rp,.cells #[bv,.int .i64 (p':Int)] 84 (0,0))::hs)) w':=by
 refine fnStartC (Own B w0 ((rp,.cells #[bv,.int .i64 (p:Int)] 84 (0,0))::hs)) (n:=41) (e:=[(0,pt_ rp),(1,str f)]) Tryd.func61 Z Z Z Z Ends.both hw (zF (zB (zG (v:=str ([])) Z (xP Z Z) (zL (zD [0,1] [_,_] Z (zF (zF (qK (qN 1 Z (yK (rp:=rp) (RT:=84) (p:=p) (bv:=bv) (hs:=hs) (ok:=fun (k:Int) p'=>0≤k∧(1≤(30:Int)→k<30)∧p'=p+1) (v:=fun (k:Int)=>i6_ k) (new:=fun (k:Int)=>[]) (xs:=[.tmp 6,.const (i6_ 30)]) (vs:=[pt_ rp,i6_ 30]) ([]:List (Nat×Obj)) Z Z Z Z xW Z (fun w1 hw1=>(pick_ok B w0 (([]:List (Nat×Obj))++hs) rp p bv L 30 w1 (fun w2 hw2=>hb w2 (qB (f:=([]:List (Nat×Obj))) hw2)) hL8 hL (by omega) hw1).mono fun en w' ⟨k',p',h1,h2,h3⟩=>⟨k',p',h1,h2,h3⟩) fun k7 p_7 hKp_7=>?_))))))))))
 show Ll _ _ (Own _ _ (_::hs)) _ _ ((7,i6_ k7)::_) _ _ _
 obtain ⟨h0k7,h1k7,hep_7⟩:=hKp_7
 try have hltk7:=h1k7 (by first | omega | (split <;> omega) | decide);refine zJ (zD [0,1,7] [_,_,_] Z (qY (zF (zB (zC 2 Z (zL (zD [0,1,7,8] [_,_,_,_] Z (yG Z (fun h8=>?_) (fun h8=>?_)))))))))
 ·
  refine zF (qK (qN 2 Z (xA (xs:=[.const (str ([116])),.const (str ([97])),.const (str ([32]))]) (vs:=[str ([116]),str ([97]),str ([32])]) jB Z Z Z Z Z Z (by decide) Z fun p12 hp12=>(yK (rp:=rp) (RT:=84) (p:=p_7) (bv:=bv) (hs:=hs) (ok:=fun (v:List UInt8) p'=>v∈([[116],[97],[32]]:List (List UInt8))∧p'=p_7+1) (v:=fun (v:List UInt8)=>str v) (new:=fun (v:List UInt8)=>[]) (xs:=[.tmp 11,.tmp 12]) (vs:=[pt_ rp,sl_ p12 3 3]) ([bk_ p12 #[str ([116]),str ([97]),str ([32])] 9]:List (Nat×Obj)) Z Z Z Z xR Z (fun w1 hw1=>(of_ok B w0 (([bk_ p12 #[str ([116]),str ([97]),str ([32])] 9]:List (Nat×Obj))++hs) rp p_7 bv L (sl_ p12 3 3) ([[116],[97],[32]]:List (List UInt8)) w1 (fun w2 hw2=>hb w2 (qB (f:=([bk_ p12 #[str ([116]),str ([97]),str ([32])] 9]:List (Nat×Obj))) hw2)) hL8 hL (fun w2 h2=>(jI h2 (i:=0) Z (n:=3) (cap:=3) (vs:=strs ([[116],[97],[32]]:List (List UInt8))) Z Z (by decide))) (by simp) (by omega) hw1).mono fun en w' ⟨v',p',h1,h2,h3⟩=>⟨v',p',h1,h2,h3⟩) fun v13 p_13 hKp_13=>?_))))
  show Ll _ _ (Own _ _ (_::_::hs)) _ _ ((13,str v13)::_) _ _ _
  obtain ⟨hmv13,hep_13⟩:=hKp_13
  have hqv13:=len_of (a:=1) (b:=1) hmv13 (by decide);refine zM Z (yC Z Z Z (by first | omega | (simp only [zQ,zX,qA,zT,qC];omega))) (qN 1 Z (zJ (zD [4] [_] Z (qL (qS Z Z fun w' hw=>?_)))))
  exact ⟨f++v13,p_13,rfl,⟨(by (try dsimp only);(try simp only [zQ,zX,qA,zT,qC]);omega),by omega⟩,hw.sub (qR _ (zA _ (zO _)))⟩
 refine zF (zB (zC 2 Z (zL (zD [0,1,7,15] [_,_,_,_] Z (yG Z (fun h15=>?_) (fun h15=>?_))))))
 ·
  refine zF (zB (zC 2 Z (zG (v:=i6_ (f.length:Int)) Z (xN Z qG Z) (zG Z (jK Z Z Z (by omega) (by omega)) (zG (v:=str (f.take (((f.length:Int) - (1:Int)).toNat))) Z (xE Z qO Z Z (by omega) (by omega)) (zC 1 Z (zL (zD [4] [_] Z (qL (qS Z Z fun w' hw=>?_))))))))))
  exact ⟨f.take (((f.length:Int) - (1:Int)).toNat),p_7,rfl,⟨(by (try dsimp only);(try simp only [zQ,zX,qA,zT,qC]);omega),by omega⟩,hw.sub (zA _ (zO _))⟩
 refine zF (zB (zC 2 Z (zL (zD [0,1,22] [_,_,_] Z (yG Z (fun h22=>?_) (fun h22=>?_))))))
 ·
  refine zF (qK (qN 2 Z (zM (v:=i6_ (f.length:Int)) Z (xN Z qG Z) (yK (rp:=rp) (RT:=84) (p:=p_7) (bv:=bv) (hs:=hs) (ok:=fun (k:Int) p'=>0≤k∧(1≤(f.length:Int)→k<(f.length:Int))∧p'=p_7+1) (v:=fun (k:Int)=>i6_ k) (new:=fun (k:Int)=>[]) (xs:=[.tmp 24,.tmp 26]) (vs:=[pt_ rp,i6_ (f.length:Int)]) ([]:List (Nat×Obj)) Z Z Z Z xW Z (fun w1 hw1=>(pick_ok B w0 (([]:List (Nat×Obj))++hs) rp p_7 bv L (f.length:Int) w1 (fun w2 hw2=>hb w2 (qB (f:=([]:List (Nat×Obj))) hw2)) hL8 hL (by omega) hw1).mono fun en w' ⟨k',p',h1,h2,h3⟩=>⟨k',p',h1,h2,h3⟩) fun k27 p_27 hKp_27=>?_))))
  show Ll _ _ (Own _ _ (_::hs)) _ _ ((27,i6_ k27)::_) _ _ _
  obtain ⟨h0k27,h1k27,hep_27⟩:=hKp_27
  try have hltk27:=h1k27 (by first | omega | (split <;> omega) | decide);refine qN 1 Z (zJ (zD [0,1,5] [_,_,_] Z (zF (jS (S:=Own B w0 []) [(0,true),(1,true),(2,true),(3,true),(7,true),(8,true),(9,true),(10,true),(4,false),(5,false),(6,true),(11,true),(12,true)] yD (fun _ h=>h.drawn) (by kernel_rfl) (jD 2 Z (pk [] Z Z) (yM (v:=str (f.take ((k27).toNat))) Z Z Z Z Z (xE Z qO Z Z (by omega) (by omega)) (pk [] Z Z) (jD 3 Z (pk [] Z Z) (yM Z Z Z Z Z (qQ Z Z Z (by omega) (by omega)) (pk [] Z Z) (yM (v:=str (f.drop ((k27+(1:Int)).toNat))) Z Z Z Z Z (jA Z qO Z Z (by omega) (by omega)) (pk [] Z Z) (yV Z (xA (xs:=[.const (str ([101])),.const (str ([65])),.const (str ([80])),.const (str ([53]))]) (vs:=[str ([101]),str ([65]),str ([80]),str ([53])]) jB Z Z Z Z Z Z (by decide) Z fun p32 hp32=>(zJ (yP (pk [] Z Z) ?_)))))))))))));refine yV Z (yK (rp:=rp) (RT:=84) (p:=p_27) (bv:=bv) (hs:=hs) (ok:=fun (v:List UInt8) p'=>v∈([[101],[65],[80],[53]]:List (List UInt8))∧p'=p_27+1) (v:=fun (v:List UInt8)=>str v) (new:=fun (v:List UInt8)=>[]) (xs:=[.tmp 31,.tmp 32]) (vs:=[pt_ rp,sl_ p32 4 4]) ([bk_ p32 #[str ([101]),str ([65]),str ([80]),str ([53])] 9]:List (Nat×Obj)) Z Z Z Z xR Z (fun w1 hw1=>(of_ok B w0 (([bk_ p32 #[str ([101]),str ([65]),str ([80]),str ([53])] 9]:List (Nat×Obj))++hs) rp p_27 bv L (sl_ p32 4 4) ([[101],[65],[80],[53]]:List (List UInt8)) w1 (fun w2 hw2=>hb w2 (qB (f:=([bk_ p32 #[str ([101]),str ([65]),str ([80]),str ([53])] 9]:List (Nat×Obj))) hw2)) hL8 hL (fun w2 h2=>(jI h2 (i:=0) Z (n:=4) (cap:=4) (vs:=strs ([[101],[65],[80],[53]]:List (List UInt8))) Z Z (by decide))) (by simp) (by omega) hw1).mono fun en w' ⟨v',p',h1,h2,h3⟩=>⟨v',p',h1,h2,h3⟩) fun v33 p_33 hKp_33=>?_)
  show Ll _ _ (Own _ _ (_::_::hs)) _ _ ((33,str v33)::_) _ _ _
  obtain ⟨hmv33,hep_33⟩:=hKp_33
  have hqv33:=len_of (a:=1) (b:=1) hmv33 (by decide);refine zJ (yP (pk [] Z Z) ?_);refine yM Z Z Z Z Z (yC Z Z Z (by first | omega | (simp only [zQ,zX,qA,zT,qC];omega))) (pk [] Z Z) (yM Z Z Z Z Z (yC Z Z Z (by first | omega | (simp only [zQ,zX,qA,zT,qC];omega))) (pk [] Z Z) (jD 1 Z (pk [] Z Z) (Ld.nil (zD [4] [_] Z (qL (qS Z Z fun w' hw=>?_))))))
  exact ⟨((f.take ((k27).toNat))++v33)++(f.drop ((k27+(1:Int)).toNat)),p_33,rfl,⟨(by (try dsimp only);(try simp only [zQ,zX,qA,zT,qC]);omega),by omega⟩,hw.sub (qR _ (zA _ (zO _)))⟩
 refine qU (zD [1] [_] Z (zF (zB (zC 2 Z (zL (zD [4] [_] Z (qL (qS Z Z fun w' hw=>?_))))))))
 exact ⟨f,p_7,rfl,⟨(by (try dsimp only);(try simp only [zQ,zX,qA,zT,qC]);omega),by omega⟩,hw.sub (zA _ (zO _))⟩
set_option maxHeartbeats 400000 in
theorem l6Sen_ok (B:Nat) (w0:World) (hs:List (Nat×Obj)) (rp p:Nat) (bv:Value) (L:List Int) (w:World) (hb:∀ w,Own B w0 hs w→Row w bv (u8s L)) (hL8:Bytes8 L) (hL:L.length≤2000) (hp:p≤600000) (hw:Own B w0 ((rp,.cells #[bv,.int .i64 (p:Int)] 84 (0,0))::hs) w) :
    Calls Tryd.prog 31 [pt_ rp].toArray w fun en w'=>∃ (v:Value) (l:List (List UInt8)) (new:List (Nat×Obj)) (p':Nat),en=.returned v∧((l.length≤4∧(∀ s∈l,s.length≤200)∧∀ w1,Own B w0 new w1→Strs w1 v l)∧p'≤p+900)∧Own B w0 ((rp,.cells #[bv,.int .i64 (p':Int)] 84 (0,0))::(new++hs)) w':=by
 refine fnStartC (Own B w0 ((rp,.cells #[bv,.int .i64 (p:Int)] 84 (0,0))::hs)) (n:=29) (e:=[(0,pt_ rp)]) Tryd.func31 Z Z Z Z Ends.both hw (zF (zB (zC 1 Z (zL (zD [0] [_] Z (zF (qK (xA (xs:=[]) (vs:=[]) jB Z Z Z Z Z Z (by decide) Z fun p5 hp5=>(qN 1 Z (zJ (zD [0,3] [_,_] Z (zF (zF (qK (qN 1 Z (yK (rp:=rp) (RT:=84) (p:=p) (bv:=bv) (hs:=hs) (ok:=fun (k:Int) p'=>0≤k∧(1≤(5:Int)→k<5)∧p'=p+1) (v:=fun (k:Int)=>i6_ k) (new:=fun (k:Int)=>[]) (xs:=[.tmp 6,.const (i6_ 5)]) (vs:=[pt_ rp,i6_ 5]) ([bk_ p5 #[] 9]:List (Nat×Obj)) Z Z Z Z xW Z (fun w1 hw1=>(pick_ok B w0 (([bk_ p5 #[] 9]:List (Nat×Obj))++hs) rp p bv L 5 w1 (fun w2 hw2=>hb w2 (qB (f:=([bk_ p5 #[] 9]:List (Nat×Obj))) hw2)) hL8 hL (by omega) hw1).mono fun en w' ⟨k',p',h1,h2,h3⟩=>⟨k',p',h1,h2,h3⟩) fun k7 p_7 hKp_7=>?_))))))))))))))))
 show Ll _ _ (Own _ _ (_::_::hs)) _ _ ((7,i6_ k7)::_) _ _ _
 obtain ⟨h0k7,h1k7,hep_7⟩:=hKp_7
 try have hltk7:=h1k7 (by first | omega | (split <;> omega) | decide);refine qN 1 Z (zJ (zD [0,3,4] [_,_,_] Z (qY (jR (σ:=Int×Nat×Nat×Array Value×List (List UInt8)×Nat) (fun ⟨n,g,c,u,l,p0⟩=>(0≤n∧n≤4)∧(u.size=c*1∧l.length≤c∧u.toList.take l.length=strs l)∧(l.length:Int)+n≤4∧(∀ s∈l,s.length≤200)∧(p0:Int)≤p+5+200*(4 - n)) (fun ⟨n,g,c,u,l,p0⟩=>[(0,pt_ rp),(3,sl_ g l.length c),(4,i6_ n)]) (fun ⟨n,g,c,u,l,p0⟩=>Own B w0 (bk_ g u 9::bk_ rp #[bv,i6_ (p0:Int)] 84::hs)) (fun ⟨n,g,c,u,l,p0⟩=>n.toNat) (k7,p5,0,#[],[],p_7) ⟨by omega,⟨rfl,Nat.le_refl 0,rfl⟩,by simp;omega,(fun x hx=>by cases hx),by omega⟩ (Sub.sel [0,3,4] Z) (fun _ h=>h) ?_))))
 rintro ⟨n,g,c,u,l,p0⟩ ⟨⟨hn0,hn4⟩,⟨hcg,hlg,htg⟩,hll,hz,hp0⟩
 dsimp only;refine zF (zF (zB (zC 2 Z (zL (zD [0,3,4,9] [_,_,_,_] Z (yG Z (fun h9=>?_) (fun h9=>?_)))))))
 ·
  refine qU (zD [0,3,4] [_,_,_] Z (zF (qY (qK (qN 4 Z (yK (rp:=rp) (RT:=84) (p:=p0) (bv:=bv) (hs:=hs) (ok:=fun (k:Int) p'=>0≤k∧(1≤(3:Int)→k<3)∧p'=p0+1) (v:=fun (k:Int)=>i6_ k) (new:=fun (k:Int)=>[]) (xs:=[.tmp 15,.const (i6_ 3)]) (vs:=[pt_ rp,i6_ 3]) ([bk_ g u 9]:List (Nat×Obj)) Z Z Z Z xW Z (fun w1 hw1=>(pick_ok B w0 (([bk_ g u 9]:List (Nat×Obj))++hs) rp p0 bv L 3 w1 (fun w2 hw2=>hb w2 (qB (f:=([bk_ g u 9]:List (Nat×Obj))) hw2)) hL8 hL (by omega) hw1).mono fun en w' ⟨k',p',h1,h2,h3⟩=>⟨k',p',h1,h2,h3⟩) fun k16 p_16 hKp_16=>?_))))))
  show Ll _ _ (Own _ _ (_::_::hs)) _ _ ((16,i6_ k16)::_) _ _ _
  obtain ⟨h0k16,h1k16,hep_16⟩:=hKp_16
  try have hltk16:=h1k16 (by first | omega | (split <;> omega) | decide);refine zM Z (qQ Z Z Z (by omega) (by omega)) (qN 1 Z (xA (xs:=[.const (str ([97,98])),.const (str ([97,98,99]))]) (vs:=[str ([97,98]),str ([97,98,99])]) jB Z Z Z Z Z Z (by decide) Z fun p19 hp19=>(yK (rp:=rp) (RT:=84) (p:=p_16) (bv:=bv) (hs:=hs) (ok:=fun (v:List UInt8) p'=>v∈([[97,98],[97,98,99]]:List (List UInt8))∧p'=p_16+1) (v:=fun (v:List UInt8)=>str v) (new:=fun (v:List UInt8)=>[]) (xs:=[.tmp 18,.tmp 19]) (vs:=[pt_ rp,sl_ p19 2 2]) ([bk_ p19 #[str ([97,98]),str ([97,98,99])] 9,bk_ g u 9]:List (Nat×Obj)) Z Z Z Z xR Z (fun w1 hw1=>(of_ok B w0 (([bk_ p19 #[str ([97,98]),str ([97,98,99])] 9,bk_ g u 9]:List (Nat×Obj))++hs) rp p_16 bv L (sl_ p19 2 2) ([[97,98],[97,98,99]]:List (List UInt8)) w1 (fun w2 hw2=>hb w2 (qB (f:=([bk_ p19 #[str ([97,98]),str ([97,98,99])] 9,bk_ g u 9]:List (Nat×Obj))) hw2)) hL8 hL (fun w2 h2=>(jI h2 (i:=0) Z (n:=2) (cap:=2) (vs:=strs ([[97,98],[97,98,99]]:List (List UInt8))) Z Z (by decide))) (by simp) (by omega) hw1).mono fun en w' ⟨v',p',h1,h2,h3⟩=>⟨v',p',h1,h2,h3⟩) fun v20 p_20 hKp_20=>?_)))
  show Ll _ _ (Own _ _ (_::_::_::hs)) _ _ ((20,str v20)::_) _ _ _
  obtain ⟨hmv20,hep_20⟩:=hKp_20
  have hqv20:=len_of (a:=2) (b:=3) hmv20 (by decide);refine qN 1 Z (yK (rp:=rp) (RT:=84) (p:=p_20) (bv:=bv) (hs:=hs) (ok:=fun (k:Int) p'=>0≤k∧(1≤(3:Int)→k<3)∧p'=p_20+1) (v:=fun (k:Int)=>i6_ k) (new:=fun (k:Int)=>[]) (xs:=[.tmp 21,.const (i6_ 3)]) (vs:=[pt_ rp,i6_ 3]) ([bk_ p19 #[str ([97,98]),str ([97,98,99])] 9,bk_ g u 9]:List (Nat×Obj)) Z Z Z Z xW Z (fun w1 hw1=>(pick_ok B w0 (([bk_ p19 #[str ([97,98]),str ([97,98,99])] 9,bk_ g u 9]:List (Nat×Obj))++hs) rp p_20 bv L 3 w1 (fun w2 hw2=>hb w2 (qB (f:=([bk_ p19 #[str ([97,98]),str ([97,98,99])] 9,bk_ g u 9]:List (Nat×Obj))) hw2)) hL8 hL (by omega) hw1).mono fun en w' ⟨k',p',h1,h2,h3⟩=>⟨k',p',h1,h2,h3⟩) fun k22 p_22 hKp_22=>?_)
  show Ll _ _ (Own _ _ (_::_::_::hs)) _ _ ((22,i6_ k22)::_) _ _ _
  obtain ⟨h0k22,h1k22,hep_22⟩:=hKp_22
  try have hltk22:=h1k22 (by first | omega | (split <;> omega) | decide);refine qN 1 Z (yK (rp:=rp) (RT:=84) (p:=p_22) (bv:=bv) (hs:=hs) (ok:=fun (f:List UInt8) p'=>(1≤f.length∧f.length≤75)∧p'≤p_22+170) (v:=fun (f:List UInt8)=>str f) (new:=fun (f:List UInt8)=>[]) (xs:=[.tmp 14,.tmp 17,.tmp 20,.tmp 23]) (vs:=[pt_ rp,i6_ ((1:Int)+k16),str v20,bo_ (decide (k22=(0:Int)))]) ([bk_ p19 #[str ([97,98]),str ([97,98,99])] 9,bk_ g u 9]:List (Nat×Obj)) Z Z Z Z Tryd.call62 Z (fun w1 hw1=>(l2Closed_ok B w0 (([bk_ p19 #[str ([97,98]),str ([97,98,99])] 9,bk_ g u 9]:List (Nat×Obj))++hs) rp p_22 bv L ((1:Int)+k16) v20 (decide (k22=(0:Int))) w1 (fun w2 hw2=>hb w2 (qB (f:=([bk_ p19 #[str ([97,98]),str ([97,98,99])] 9,bk_ g u 9]:List (Nat×Obj))) hw2)) hL8 hL (by omega) (by omega) (by omega) (by omega) hw1).mono fun en w' ⟨f',p',h1,h2,h3⟩=>⟨f',p',h1,h2,h3⟩) fun f24 p_24 hKp_24=>?_)
  show Ll _ _ (Own _ _ (_::_::_::hs)) _ _ ((24,str f24)::_) _ _ _
  obtain ⟨⟨hlof24,hlef24⟩,hep_24⟩:=hKp_24;refine yK (rp:=rp) (RT:=84) (p:=p_24) (bv:=bv) (hs:=hs) (ok:=fun (g:List UInt8) p'=>g.length≤200∧p'≤p_24+5) (v:=fun (g:List UInt8)=>str g) (new:=fun (g:List UInt8)=>[]) (xs:=[.tmp 13,.tmp 24]) (vs:=[pt_ rp,str f24]) ([bk_ p19 #[str ([97,98]),str ([97,98,99])] 9,bk_ g u 9]:List (Nat×Obj)) Z Z Z Z Tryd.call61 Z (fun w1 hw1=>(l2Bad_ok B w0 (([bk_ p19 #[str ([97,98]),str ([97,98,99])] 9,bk_ g u 9]:List (Nat×Obj))++hs) rp p_24 bv L f24 w1 (fun w2 hw2=>hb w2 (qB (f:=([bk_ p19 #[str ([97,98]),str ([97,98,99])] 9,bk_ g u 9]:List (Nat×Obj))) hw2)) hL8 hL (by omega) (by omega) (by omega) hw1).mono fun en w' ⟨g',p',h1,h2,h3⟩=>⟨g',p',h1,h2,h3⟩) fun g25 p_25 hKp_25=>?_
  show Ll _ _ (Own _ _ (_::_::_::hs)) _ _ ((25,str g25)::_) _ _ _
  obtain ⟨hleg25,hep_25⟩:=hKp_25;refine xA (xs:=[.tmp 25]) (vs:=[str g25]) jB Z Z Z Z Z Z (by decide) Z fun p26 hp26=>(Ll.appendStrs (xs:=l) (ys:=([g25]:List (List UInt8))) jB 2 Z Z Z Z Z Z Z hcg hlg htg (fun w1 hw1=>(jI hw1 (i:=0) Z (n:=1) (cap:=1) (vs:=strs ([g25]:List (List UInt8))) Z Z (by decide))) ((l++([g25]:List (List UInt8))).length) (by first | (simp;done) | (simp;omega)) (by first | (simp;done) | (simp;omega) | omega) fun p27 cap27 cur27 hp27 hcp27 hlp27 htp27=>?_)
  show Ll _ _ (Own _ _ (_::_::_::_::hs)) _ _ ((27,sl_ p27 (((l++([g25]:List (List UInt8))).length)) cap27)::_) _ _ _;refine qN 1 Z (zJ (zD [0,3,4] [_,_,_] Z (zB (zC 1 Z (zG Z (jK Z Z Z (by omega) (by omega)) (zC 1 Z (zL (yY ((n - 1,p27,cap27,cur27,l++([g25]:List (List UInt8)),p_25)) ⟨by omega,⟨by simpa using hcp27,hlp27,by simpa using (by simpa using htp27)⟩,(by (try dsimp only);rw [zQ,List.length_singleton];omega),(fun x hx=>by rcases List.mem_append.1 hx with h | h;exact hz x h;rw [List.mem_singleton.1 h];omega),(by (try dsimp only);omega)⟩ (by (try dsimp only);omega) (Sub.sel [0,3,4] Z) (fun _ h=>h.sub (qR _ (qR _ (zA _ (zA _ (zO _))))))))))))))
 refine xO Z (zD [3] [_] Z (zF (zB (zC 2 Z (zL (zD [2] [_] Z (qL (qS Z Z fun w' hw=>?_))))))))
 exact ⟨sl_ g l.length c,l,[bk_ g u 9],p0,rfl,⟨⟨by omega,hz,fun w1 h1=>(jI h1 (i:=0) rfl htg (by simp) hlg)⟩,by omega⟩,hw.perm (List.perm_middle (l₁:=([bk_ g u 9]:List (Nat×Obj))) (l₂:=hs))⟩
end Go.Proofs.YteccfipfimbdgaaDoor
namespace Go.Proofs.YteccfipfimbdgaaDoor
open Go.RowKit Go.Wk
set_option linter.unusedSimpArgs false
set_option maxHeartbeats 400000 in
theorem l1Open_ok (B:Nat) (w0:World) (hs:List (Nat×Obj)) (rp p:Nat) (bv:Value) (L:List Int) (w:World) (hb:∀ w,Own B w0 hs w→Row w bv (u8s L)) (hL8:Bytes8 L) (hL:L.length≤2000) (hp:p≤700000) (hw:Own B w0 ((rp,.cells #[bv,.int .i64 (p:Int)] 84 (0,0))::hs) w) :
    Calls Tryd.prog 30 [pt_ rp].toArray w fun en w'=>∃ a:St,∃ p':Nat,en=.returned (vS a)∧(a.Tame∧p'≤p+300)∧Own B w0 (((rp,.cells #[bv,.int .i64 (p':Int)] 84 (0,0))::hs)) w':=by
 refine fnStartC (Own B w0 ((rp,.cells #[bv,.int .i64 (p:Int)] 84 (0,0))::hs)) (n:=7) (e:=[(0,pt_ rp)]) Tryd.func30 Z Z Z Z Ends.both hw (zF (qK (vD Z Z Z Z xM fun p2 hp2=>?_)))
 show Ll _ _ (Own _ _ (bk_ p2 #[i6_ 0,str ([]),str ([])] 24::_::hs)) _ _ ((2,pt_ p2)::_) _ _ _;refine zJ (zD [0,2] [_,_] Z (zF (qK (qN 2 Z (yK (rp:=rp) (RT:=84) (p:=p) (bv:=bv) (hs:=hs) (ok:=fun (a:St) p'=>(a.Fine∧a.n≤5)∧p'≤p+200) (v:=fun (a:St)=>vS a) (new:=fun (a:St)=>[]) (xs:=[.tmp 4]) (vs:=[pt_ rp]) ([bk_ p2 #[i6_ 0,str ([]),str ([])] 24]:List (Nat×Obj)) Z Z Z Z Tryd.call60 Z (fun w1 hw1=>(l1Some_ok B w0 (([bk_ p2 #[i6_ 0,str ([]),str ([])] 24]:List (Nat×Obj))++hs) rp p bv L w1 (fun w2 hw2=>hb w2 (qB (f:=([bk_ p2 #[i6_ 0,str ([]),str ([])] 24]:List (Nat×Obj))) hw2)) hL8 hL (by omega) hw1).mono fun en w' ⟨a',p',h1,h2,h3⟩=>⟨a',p',h1,h2,h3⟩) fun a5 p_5 hKp_5=>?_)))))
 show Ll _ _ (Own _ _ (_::_::hs)) _ _ ((5,vS a5)::_) _ _ _
 obtain ⟨⟨hfa5,h5a5⟩,hep_5⟩:=hKp_5
 have hloa5:=hfa5.lo;refine yK (rp:=rp) (RT:=84) (p:=p_5) (bv:=bv) (hs:=hs) (ok:=fun (b:St) p'=>((-9223372036854775808≤b.n∧b.n≤9223372036854775807)∧b.set.length≤50000∧b.rel.length≤50000)∧p'≤p_5+10) (v:=fun (b:St)=>vS b) (new:=fun (b:St)=>[]) (xs:=[.tmp 3,.tmp 5]) (vs:=[pt_ rp,vS a5]) ([bk_ p2 #[i6_ 0,str ([]),str ([])] 24]:List (Nat×Obj)) Z Z Z Z Tryd.call49 Z (fun w1 hw1=>(l1Bad_ok B w0 (([bk_ p2 #[i6_ 0,str ([]),str ([])] 24]:List (Nat×Obj))++hs) rp p_5 bv L a5 w1 (fun w2 hw2=>hb w2 (qB (f:=([bk_ p2 #[i6_ 0,str ([]),str ([])] 24]:List (Nat×Obj))) hw2)) hL8 hL hfa5 (by omega) hw1).mono fun en w' ⟨b',p',h1,h2,h3⟩=>⟨b',p',h1,h2,h3⟩) fun b6 p_6 hKp_6=>?_
 show Ll _ _ (Own _ _ (_::_::hs)) _ _ ((6,vS b6)::_) _ _ _
 obtain ⟨⟨⟨hlob6,hhib6⟩,hssb6,hrrb6⟩,hep_6⟩:=hKp_6;refine xQ (cs':=#[i6_ b6.n,str b6.set,str b6.rel]) (hs':=(bk_ p2 #[i6_ b6.n,str b6.set,str b6.rel] 24::_::hs)) 0 Z Z Z Z Z (by kernel_rfl:_=some Tryd.t24) Z Z Z Z Z (zJ (zD [2] [_] Z (qL (Kt.endBox (cs:=#[i6_ b6.n,str b6.set,str b6.rel]) 0 Z Z Z qX qW fun w' hw=>?_))))
 exact ⟨b6,p_6,rfl,⟨⟨hlob6,hhib6,hssb6,hrrb6⟩,by omega⟩,hw.sub (qR _ (zA _ (zO _)))⟩
set_option maxHeartbeats 400000 in
theorem drawTheo_ok (B:Nat) (w0:World) (hs:List (Nat×Obj)) (bv:Value) (L:List Int) (w:World) (hb:∀ w,Own B w0 hs w→Row w bv (u8s L)) (hL8:Bytes8 L) (hLs:L.length≤1048576) (hw:Own B w0 hs w) :
    Calls Tryd.prog 8 [bv].toArray w fun en w'=>∃ a:St,∃ v:Value,∃ l:List (List UInt8),∃ new:List (Nat×Obj),en=.returned (.tuple #[vS a,v])∧(((a.Tame)∧True)∧(l.length≤4∧(∀ s∈l,s.length≤200)∧∀ w1,Own B w0 new w1→Strs w1 v l))∧Own B w0 (new++hs) w':=by
 refine fnStartC (Own B w0 hs) (n:=13) (e:=[(0,bv)]) Tryd.func8 Z Z Z Z Ends.both hw (zF (qK (vD Z Z Z Z xM fun p2 hp2=>?_)))
 show Ll _ _ (Own _ _ (bk_ p2 #[i6_ 0,str ([]),str ([])] 24::hs)) _ _ ((2,pt_ p2)::_) _ _ _;refine qN 1 Z (zJ (zD [0,2] [_,_] Z (zF (qK (qN 1 Z (vN (ok:=fun ((rp,v,M):Nat×Value×List Int)=>M.length≤2000∧Bytes8 M∧∀ w1,Own B w0 hs w1→Row w1 v (u8s M)) (v:=fun ((rp,v,M):Nat×Value×List Int)=>.pointer (some ⟨rp,0,none⟩)) (new:=fun ((rp,v,M):Nat×Value×List Int)=>[(rp,.cells #[v,.int .i64 ((0:Nat):Int)] 84 (0,0))]) (hs:=hs) (xs:=[.tmp 6]) (vs:=[bv]) ([bk_ p2 #[i6_ 0,str ([]),str ([])] 24]:List (Nat×Obj)) Z Z Z Z Tryd.call29 Z (fun w1 hw1=>(open_ok B w0 ([bk_ p2 #[i6_ 0,str ([]),str ([])] 24]:List (Nat×Obj)) hs _ _ w1 hb hL8 hLs hw1).mono fun en w' ⟨rp,v,M,h1,h2,h3⟩=>⟨(rp,v,M),h1,h2,h3⟩) fun ⟨rp,dv,M⟩ hO=>?_))))))
 dsimp only at hO
 obtain ⟨hM2,hM8,hMb⟩:=hO
 show Ll _ _ (Own _ _ (_::_::hs)) _ _ ((7,pt_ rp)::_) _ _ _;refine qN 1 Z (zJ (zD [2,4] [_,_] Z (zF (qK (qN 1 Z (yK (rp:=rp) (RT:=84) (p:=0) (bv:=dv) (hs:=hs) (ok:=fun (a:St) p'=>a.Tame∧p'≤0+300) (v:=fun (a:St)=>vS a) (new:=fun (a:St)=>[]) (xs:=[.tmp 8]) (vs:=[pt_ rp]) ([bk_ p2 #[i6_ 0,str ([]),str ([])] 24]:List (Nat×Obj)) Z Z Z Z Tryd.call30 Z (fun w1 hw1=>(l1Open_ok B w0 (([bk_ p2 #[i6_ 0,str ([]),str ([])] 24]:List (Nat×Obj))++hs) rp 0 dv M w1 (fun w2 hw2=>hMb w2 (qB (f:=([bk_ p2 #[i6_ 0,str ([]),str ([])] 24]:List (Nat×Obj))) hw2)) hM8 hM2 (by omega) hw1).mono fun en w' ⟨a',p',h1,h2,h3⟩=>⟨a',p',h1,h2,h3⟩) fun a9 p_9 hKp_9=>?_))))))
 show Ll _ _ (Own _ _ (_::_::hs)) _ _ ((9,vS a9)::_) _ _ _
 obtain ⟨hta9,hep_9⟩:=hKp_9;refine vD Z Z Z Z xM fun p5 hp5=>?_
 show Ll _ _ (Own _ _ (bk_ p5 #[i6_ 0,str ([]),str ([])] 24::_::_::hs)) _ _ ((5,pt_ p5)::_) _ _ _;refine xQ (cs':=#[i6_ a9.n,str a9.set,str a9.rel]) (hs':=(bk_ p5 #[i6_ a9.n,str a9.set,str a9.rel] 24::_::_::hs)) 0 Z Z Z Z Z (by kernel_rfl:_=some Tryd.t24) Z Z Z Z Z (zJ (zD [2,4,5] [_,_,_] Z (zF (jS (S:=Own B w0 [bk_ p5 #[i6_ a9.n,str a9.set,str a9.rel] 24]) [(0,true),(1,true),(2,false),(3,false),(4,true)] yD (fun _ h=>h.drawn) (by kernel_rfl) (yM Z Z Z Z Z (yA (cs:=#[i6_ a9.n,str a9.set,str a9.rel]) 0 Z qX Z Z qW) (pk [0] Z Z) (jD 1 Z (pk [0] Z Z) (yV Z (Ll.callRdL (rp:=rp) (RT:=84) (p:=p_9) (bv:=dv) (hs:=hs) (ok:=fun ((v,l,new):Value×List (List UInt8)×List (Nat×Obj)) p'=>(l.length≤4∧(∀ s∈l,s.length≤200)∧∀ w1,Own B w0 new w1→Strs w1 v l)∧p'≤p_9+900) (v:=fun ((v,l,new):Value×List (List UInt8)×List (Nat×Obj))=>v) (new:=fun ((v,l,new):Value×List (List UInt8)×List (Nat×Obj))=>new) (xs:=[.tmp 11]) (vs:=[pt_ rp]) ([bk_ p5 #[i6_ a9.n,str a9.set,str a9.rel] 24,bk_ p2 #[i6_ 0,str ([]),str ([])] 24]:List (Nat×Obj)) Z Z Z Z Tryd.call31 Z (fun w1 hw1=>(l6Sen_ok B w0 (([bk_ p5 #[i6_ a9.n,str a9.set,str a9.rel] 24,bk_ p2 #[i6_ 0,str ([]),str ([])] 24]:List (Nat×Obj))++hs) rp p_9 dv M w1 (fun w2 hw2=>hMb w2 (qB (f:=([bk_ p5 #[i6_ a9.n,str a9.set,str a9.rel] 24,bk_ p2 #[i6_ 0,str ([]),str ([])] 24]:List (Nat×Obj))) hw2)) hM8 hM2 (by omega) hw1).mono fun en w' ⟨v,l,new,p',h1,h2,h3⟩=>⟨(v,l,new),p',h1,h2,h3⟩) fun ⟨v12,l12,new12⟩ p_12 hK=>?_))))))))
 dsimp only at hK
 obtain ⟨⟨hll12,hzl12,hIv12⟩,hep_12⟩:=hK
 show Ll _ _ (Own _ _ (_::_::_::(new12++hs))) _ _ ((12,v12)::_) _ _ _;refine zJ (yP (pk [0] Z Z) ?_);refine yV Z (xQ (cs':=#[i6_ a9.n,str a9.set,str a9.rel]) (hs':=(_::bk_ p2 #[i6_ a9.n,str a9.set,str a9.rel] 24::_::(new12++hs))) 1 Z Z Z Z Z (by kernel_rfl:_=some Tryd.t24) Z Z Z Z Z (zJ (yP (pk [0] Z Z) ?_)));refine jD 1 Z (pk [0] Z Z) (Ld.nil (zD [2,3] [_,_] Z (qL (Kt.endMany Z (.cell (cs:=#[i6_ a9.n,str a9.set,str a9.rel]) Z (fun w1 hw1=>hw1.loadBox 1 Z qX qW) (.tmp (v:=v12) Z ResAt.nil)) (by simp) fun w' hw=>?_))))
 exact ⟨a9,v12,l12,([bk_ p5 #[i6_ a9.n,str a9.set,str a9.rel] 24,bk_ p2 #[i6_ a9.n,str a9.set,str a9.rel] 24,bk_ rp #[dv,i6_ (p_12:Int)] 84]:List (Nat×Obj))++new12,rfl,⟨⟨hta9,trivial⟩,hll12,hzl12,fun w1 h1=>hIv12 _ (qB (f:=[_,_,_]) h1)⟩,hw⟩
end Go.Proofs.YteccfipfimbdgaaDoor
namespace Go.Wk
open Go.RowKit
noncomputable def theoB (a:St) (l:List (List UInt8)):Bool:=l.all fun f=>holdK a f []
noncomputable def theoS (a:St) (l:List (List UInt8)):List UInt8:=l.flatMap fun f=>(if holdV a f [] then [49] else [48])
theorem theoS_step (a:St) {l:List (List UInt8)} {k:Nat} (h:k<l.length):theoS a (l.take (k+1))=theoS a (l.take k)++(if holdV a (l.getD k []) [] then [49] else [48]):=by
  unfold theoS
  rw [List.take_succ_eq_append_getElem h,List.flatMap_append,getD_at h];simp
theorem bitS_len (b:Bool):(if b then [49] else [48]:List UInt8).length=1:=by cases b <;> rfl
theorem theoS_len (a:St):∀ l:List (List UInt8),(theoS a l).length=l.length
 | []=>rfl
 | f::l=>by
  have:=theoS_len a l
  unfold theoS at this ⊢
  rw [List.flatMap_cons,List.length_append,bitS_len,this,List.length_cons];omega
theorem theoB_at {a:St} {l:List (List UInt8)} {k:Nat} (h:k<l.length) (hk:holdK a (l.getD k []) []=false):theoB a l=false:=by
 unfold theoB
 rw [List.all_eq_false]
 exact ⟨l.getD k [],by rw [getD_at h];exact List.getElem_mem _,by rw [hk];decide⟩
theorem theoB_all {a:St} {l:List (List UInt8)} (h:∀ i:Nat,i<l.length→holdK a (l.getD i []) []=true):theoB a l=true:=by
 unfold theoB
 rw [List.all_eq_true]
 intro f hf
 obtain ⟨i,hi,rfl⟩:=List.getElem_of_mem hf
 rw [← getD_at hi];exact h i hi
theorem holdK_valid {a:St} {f:List UInt8} {xs:List Int} (h:holdK a f xs=true):validB a=true:=Classical.byContradiction fun e=>by
 have:holdO a f xs=none:=holdO_none fun p _ hh=>e hh.1
 rw [(hold_no this).2] at h;cases h
noncomputable def theoO (a:St) (l:List (List UInt8)):List UInt8×Bool:=if validB a&&theoB a l then (theoS a l,true) else ([],false)
theorem theoO_no {a:St} {l:List (List UInt8)} (h:validB a=false∨theoB a l=false):theoO a l=([],false):=by
  unfold theoO
  rw [if_neg]
  intro e
  rw [Bool.and_eq_true] at e
  rcases h with h | h
  · rw [h] at e;exact absurd e.1 (by decide)
  · rw [h] at e;exact absurd e.2 (by decide)
theorem theoO_yes {a:St} {l:List (List UInt8)} (h1:validB a=true) (h2:theoB a l=true):theoO a l=(theoS a l,true):=by
 unfold theoO;rw [h1,h2];rfl
theorem theo_nil {a:St} {l:List (List UInt8)} (h:theoB a l=true):(theoS a l,validB a)=theoO a l:=by
 cases hv:validB a with
 | true=>exact (theoO_yes hv h).symm
 | false =>
  cases l with
  | nil=>exact (theoO_no (.inl hv)).symm
  | cons f l =>
   unfold theoB at h
   rw [List.all_cons,Bool.and_eq_true] at h
   rw [holdK_valid h.1] at hv;cases hv
theorem mem_getD {l:List (List UInt8)} {k:Nat} (hk:k<l.length):l.getD k []∈l:=by rw [getD_at hk];exact List.getElem_mem _
end Go.Wk
namespace Go.Wk
open Go.RowKit
def atO (os:List Int) (ys:List Int):List Int:=ys.map fun y=>os.getD y.toNat 0
theorem atO_len (os ys:List Int):(atO os ys).length=ys.length:=by simp [atO]
theorem atO_at (os:List Int) {ys:List Int} {i:Nat} (h:i<ys.length):(atO os ys).getD i 0=os.getD (ys.getD i 0).toNat 0:=by
 unfold atO
 rw [getD_at (by simpa using h),getD_at h];simp
theorem shape_same {a b:St} {os:List Int} (hs:sameB a os b (upto os.length)=true) {ys:List Int} (hB:∀ y∈ys,0≤y∧y<(os.length:Int)):sameB a (atO os ys) b ys=true:=by
 have key:∀ i:Nat,i<ys.length→(ys.getD i 0).toNat<os.length∧(((ys.getD i 0).toNat:Nat):Int)=ys.getD i 0:=fun i hi=>by
  have:=hB (ys.getD i 0) (by rw [getD_at hi];exact List.getElem_mem _)
  omega
 unfold sameB
 rw [List.all_eq_true]
 intro i hi
 rw [List.mem_range,atO_len] at hi
 unfold stillAt
 have ki:=key i hi
 refine (stillB_true (by rw [List.length_take,List.length_take,atO_len])).2 ?_
 rw [atO_at os hi]
 have h1:=shaped_at hs ki.1 ki.1
 rw [ki.2] at h1
 refine ⟨h1.1,h1.2.2,fun k hk=>pairOk_true.2 ?_⟩
 rw [List.length_take,atO_len] at hk
 have kk:=key k (by omega)
 rw [take_getD (by omega),take_getD (by omega),atO_at os (by omega)]
 have h2:=shaped_at hs kk.1 ki.1
 have h3:=shaped_at hs ki.1 kk.1
 rw [kk.2,ki.2] at h2
 rw [kk.2,ki.2] at h3
 refine ⟨decide_eq_decide.2 ?_,h2.2.2,h3.2.2⟩
 rw [h2.2.1];omega
theorem shape_wins {a b:St} {os:List Int} (hn:a.n=b.n) (hl:(os.length:Int)=a.n) (hA:a.Els os) (hs:sameB a os b (upto os.length)=true):∀ (n:Nat) (ys:List Int),(∀ y∈ys,0≤y∧y<(os.length:Int))→winP n a (atO os ys) b ys
  | 0,ys,hB=>shape_same hs hB
  | n+1,ys,hB=>by
    have more:∀ y:Nat,y<os.length→winP n a (atO os ys++[os.getD y 0]) b (ys++[(y:Int)]):=fun y hy=>by
      have:=shape_wins hn hl hA hs n (ys++[(y:Int)]) fun z hz=>by
        rcases List.mem_append.1 hz with h | h
        · exact hB z h
        · rw [List.mem_singleton.1 h];omega
      rwa [show atO os (ys++[(y:Int)])=atO os ys++[os.getD y 0] from by simp [atO]] at this
    refine ⟨shape_same hs hB,fun x hx=>?_,fun y hy=>?_⟩
    · obtain ⟨y,hy,e⟩:=shaped_onto hl hA hs (x:=(x:Int)) ⟨by omega,by omega⟩
      exact ⟨y,by omega,by rw [← e];exact more y hy⟩
    · have hy':y<os.length:=by omega
      have hel:=hA (os.getD y 0) (by rw [getD_at hy'];exact List.getElem_mem _)
      refine ⟨(os.getD y 0).toNat,by have:=hel.1;have:=hel.2;omega,?_⟩
      rw [show (((os.getD y 0).toNat:Nat):Int)=os.getD y 0 from by have:=hel.1;omega]
      exact more y hy'
theorem Shaped.wins {a b:St} (h:Shaped a b) (n:Nat):winP n a [] b []:=by
 obtain ⟨hn,_,_,os,hl,hA,hs⟩:=h
 exact shape_wins hn hl hA hs n [] fun y hy=>by cases hy
end Go.Wk
namespace Go.Wk
open Go.RowKit
theorem holdK_at {a:St} {f:List UInt8} {xs:List Int} (h:holdK a f xs=true):∃ p,formO f=some p∧(validB a=true∧xs.length≤4∧(∀ x∈xs,a.El x)∧frB p / 2 ^ xs.length=0)∧holdV a f xs=ev a p (envL xs):=by
  cases e:formO f with
  | none =>
    have:holdO a f xs=none:=holdO_none fun p hp=>by rw [e] at hp;cases hp
    rw [(hold_no this).2] at h;cases h
  | some p =>
    by_cases c:validB a=true∧xs.length≤4∧(∀ x∈xs,a.El x)∧frB p / 2 ^ xs.length=0
    · exact ⟨p,rfl,c,(hold_yes (holdO_some e c)).1⟩
    · have:holdO a f xs=none:=holdO_none fun p' hp' c'=>by
        rw [e] at hp'
        injection hp' with hp'
        subst hp';exact c c'
      rw [(hold_no this).2] at h;cases h
theorem holdK_of {a:St} {f:List UInt8} {xs:List Int} {p:Fm} (e:formO f=some p) (c:validB a=true∧xs.length≤4∧(∀ x∈xs,a.El x)∧frB p / 2 ^ xs.length=0):holdK a f xs=true∧holdV a f xs=ev a p (envL xs):=⟨(hold_yes (holdO_some e c)).2,(hold_yes (holdO_some e c)).1⟩
theorem bit_under {x k i:Nat} (h:x / 2 ^ k=0) (hi:x.testBit i=true):i<k:=by
 have h1:x<2 ^ k:=(Nat.div_eq_zero_iff.1 h).resolve_left (Nat.ne_of_gt (Nat.two_pow_pos k))
 exact Classical.byContradiction fun hn=>by
  have h2:x<2 ^ i:=Nat.lt_of_lt_of_le h1 (Nat.pow_le_pow_right (by decide) (by omega))
  rw [Nat.testBit_lt_two_pow h2] at hi;cases hi
theorem envL_at {xs:List Int} {i:Nat} (h:i<xs.length):(envL xs).getD i 0=xs.getD i 0:=by
 unfold envL
 rw [getD_at (by rw [List.length_append];omega),getD_at h,List.getElem_append_left h]
theorem on_lists {xs ys:List Int} {fr:Nat} (h:fr / 2 ^ xs.length=0) (hl:xs.length=ys.length):OnVars xs ys fr (envL xs) (envL ys):=fun i _ ht=>by
 have hi:=bit_under h ht
 exact ⟨i,hi,envL_at hi,envL_at (by omega)⟩
theorem rankI_nn {f:List UInt8} {p:Fm} (e:formO f=some p):0≤rankI f:=by unfold rankI;rw [e];dsimp only;omega
theorem els_nil (a:St):a.Els []:=fun x hx=>by cases hx
end Go.Wk
namespace Go.Wk
open Go.RowKit
theorem Turns.swap {a b:St} {k:Nat} {n:Int} (h:Turns a b k n):Turns b a k n:=by
  rcases h with ⟨m,e,h5,h6⟩ | ⟨e,h5⟩
  · exact .inl ⟨m,e,fun h=>h5 (pW_comm _ _ _ _ _ rfl h),fun i hi=>pW_comm _ _ _ _ _ rfl (h6 i hi)⟩
  · exact .inr ⟨e,fun i=>pW_comm _ _ _ _ _ rfl (h5 i)⟩
def atQ (os ys:List Int):List Int:=ys.map fun y=>if y<0 then -1 else os.getD y.toNat 0
@[simp] theorem atQ_len (os ys:List Int):(atQ os ys).length=ys.length:=by simp [atQ]
end Go.Wk
namespace Go.Wk
open Go.RowKit
theorem app_at1 {l m:List Int} {i:Nat} (h:i<l.length):(l++m).getD i 0=l.getD i 0:=by
 rw [getD_at (by rw [List.length_append];omega),getD_at h,List.getElem_append_left h]
def closedB (f:List UInt8):Bool:=(formO f).isSome&&decide (freeT f=[])
theorem fr_none {p:Fm} (h:wfF p):varsS (frB p) 4=[]↔frB p / 2 ^ 0=0:=by
  rw [varsS_nil]
  constructor
  · intro k
    exact low_bits (frB_lt h) fun i hi ht=>by rw [k i hi] at ht;cases ht
  · intro k i _
    cases e:(frB p).testBit i with
    | false=>rfl
    | true=>exact absurd (bit_under k e) (by omega)
theorem hold_closed {a:St} {f:List UInt8} (hv:validB a=true):holdK a f []=closedB f:=by
 unfold closedB
 cases e:formO f with
 | none =>
  have:holdO a f []=none:=holdO_none fun p hp=>by rw [e] at hp;cases hp
  rw [(hold_no this).2];rfl
 | some p =>
  rw [show (some p).isSome=true from rfl,Bool.true_and]
  have hfr:freeT f=varsS (frB p) 4:=by unfold freeT;rw [e]
  rw [hfr]
  cases q:holdK a f [] with
  | true =>
   obtain ⟨p',e',c,-⟩:=holdK_at q
   rw [e] at e'
   injection e' with e'
   subst e'
   exact (decide_eq_true ((fr_none (formO_wf e)).2 c.2.2.2)).symm
  | false =>
   refine (decide_eq_false fun hn=>?_).symm
   have:=(holdK_of e ⟨hv,by decide,els_nil a,(fr_none (formO_wf e)).1 hn⟩).1
   rw [q] at this;cases this
theorem closed_form {f:List UInt8} (h:closedB f=true):∃ p,formO f=some p∧frB p / 2 ^ ([]:List Int).length=0:=by
 unfold closedB at h
 rw [Bool.and_eq_true,decide_eq_true_eq] at h
 obtain ⟨p,e⟩:=Option.isSome_iff_exists.1 h.1
 refine ⟨p,e,(fr_none (formO_wf e)).1 ?_⟩
 have h2:=h.2
 unfold freeT at h2
 rw [e] at h2;exact h2
theorem win_hold {a b:St} {f:List UInt8} {n:Nat} (ha:validB a=true) (hb:validB b=true) (hc:closedB f=true) (hr:rankI f≤(n:Int)) (hw:winP n a [] b []):holdV a f []=holdV b f []:=by
 obtain ⟨p,e,h0⟩:=closed_form hc
 rw [(holdK_of e ⟨ha,by decide,els_nil a,h0⟩).2,(holdK_of e ⟨hb,by decide,els_nil b,h0⟩).2]
 have hrk:rankF p≤n:=by unfold rankI at hr;rw [e] at hr;dsimp only at hr;omega
 exact game_ev (formO_wf e) hrk rfl hw (envL_len (by decide)) (envL_len (by decide)) (on_lists h0 rfl)
theorem shaped_hold {a b:St} {f:List UInt8} (h:Shaped a b) (ha:validB a=true) (hb:validB b=true) (hc:closedB f=true):holdV a f []=holdV b f []:=by
 obtain ⟨p,e,-⟩:=closed_form hc
 have h0:=rankI_nn e
 exact win_hold ha hb hc (n:=(rankI f).toNat) (by omega) (h.wins _)
theorem theo_shape {a b:St} {l:List (List UInt8)} (h:Shaped a b) (ha:validB a=true) (hb:validB b=true):theoO b l=theoO a l:=by
 have hB:theoB b l=theoB a l:=by
  unfold theoB
  congr 1
  funext f
  rw [hold_closed hb,hold_closed ha]
 cases hc:theoB a l with
 | false=>rw [theoO_no (.inr hc),theoO_no (.inr (hB.trans hc))]
 | true =>
  rw [theoO_yes ha hc,theoO_yes hb (hB.trans hc)]
  refine Prod.ext ?_ rfl
  unfold theoB at hc
  rw [List.all_eq_true] at hc
  show theoS b l=theoS a l
  unfold theoS
  rw [List.flatMap_def,List.flatMap_def]
  congr 1
  exact List.map_congr_left fun f hf=>by
   have hcf:closedB f=true:=by rw [← hold_closed ha];exact hc f hf
   rw [shaped_hold h ha hb hcf]
theorem theo_at {a:St} {l:List (List UInt8)} (h:(theoO a l).2=true):validB a=true∧theoB a l=true∧(theoO a l).1=theoS a l:=by
 cases hv:validB a with
 | false=>rw [theoO_no (.inl hv)] at h;cases h
 | true =>
  cases hb:theoB a l with
  | false=>rw [theoO_no (.inr hb)] at h;cases h
  | true=>exact ⟨rfl,rfl,by rw [theoO_yes hv hb]⟩
theorem theoS_at {a:St}:∀ {l:List (List UInt8)} {i:Nat},i<l.length→(theoS a l).getD i 0=if holdV a (l.getD i []) [] then 49 else 48
  | f::l,0,_=>by unfold theoS;rw [List.flatMap_cons];cases e:holdV a f [] <;> simp [e]
  | f::l,i+1,h=>by
    have:=theoS_at (a:=a) (l:=l) (i:=i) (by simpa using h)
    unfold theoS at this ⊢
    rw [List.flatMap_cons]
    have e:(if holdV a f [] then [49] else [48]:List UInt8).length=1:=bitS_len _
    rw [List.getD_eq_getElem?_getD,List.getElem?_append_right (by rw [e];omega),e,Nat.add_sub_cancel,← List.getD_eq_getElem?_getD,this]
    rfl
theorem theo_bit {a:St} {l:List (List UInt8)} (h:(theoO a l).2=true) {i:Nat} (hi:i<l.length):decide (((((theoO a l).1.getD i 0).toNat:Nat):Int)=49)=holdV a (l.getD i []) []:=by
 rw [(theo_at h).2.2,theoS_at hi]
 exact bit_is rfl
theorem theo_len {a:St} {l:List (List UInt8)} (h:(theoO a l).2=true):(theoO a l).1.length=l.length:=by rw [(theo_at h).2.2,theoS_len]
def rotA (n m:Nat) (i:Nat):Nat:=(i+m) % n
def rotL (n m:Nat):Nat→List Int
 | 0=>[]
 | k+1=>rotL n m k++[((rotA n m k:Nat):Int)]
@[simp] theorem rotL_len (n m:Nat):∀ k,(rotL n m k).length=k
 | 0=>rfl
 | k+1=>by simp [rotL,rotL_len n m k]
theorem rotL_at (n m:Nat):∀ {k i:Nat},i<k→(rotL n m k).getD i 0=((rotA n m i:Nat):Int)
  | k+1,i,h=>by
    unfold rotL
    rcases Nat.lt_or_ge i k with h1 | h1
    · rw [app_at1 (by simpa using h1),rotL_at n m h1]
    · obtain rfl:i=k:=by omega
      rw [List.getD_eq_getElem?_getD,List.getElem?_append_right (by simp)];simp
theorem rot_inj {n m i j:Nat} (hi:i<n) (hj:j<n) (h:rotA n m i=rotA n m j):i=j:=by
  unfold rotA at h
  have e:∀ {i j:Nat},i<n→j<n→i≤j→(i+m) % n=(j+m) % n→i=j:=fun {i j} _ hj hij he=>by
    have h1:(j - i) % n=0:=by
      have:=Nat.sub_mod_eq_zero_of_mod_eq he.symm
      rwa [show j+m - (i+m)=j - i by omega] at this
    rw [Nat.mod_eq_of_lt (by omega)] at h1;omega
  rcases Nat.le_total i j with k | k
  · exact e hi hj k h
  · exact (e hj hi k h.symm).symm
theorem rot_lt {n m i:Nat} (h:0<n):rotA n m i<n:=Nat.mod_lt _ h
def partSt (a:St) (os:List Int):St:=mkSt (os.length:Int) (fun x=>a.inSet (os.getD x 0)) (fun x y=>a.inRel (os.getD x 0) (os.getD y 0))
theorem part_valid {a:St} {os:List Int} (h1:1≤os.length) (h8:os.length≤8):validB (partSt a os)=true:=by
  unfold validB bitsB inB
  simp only [Bool.and_eq_true,decide_eq_true_eq]
  refine ⟨⟨⟨?_,?_⟩,mkSet_bits _ _,?_⟩,mkRel_bits _ _ _,?_⟩
  · show (1:Int)≤(os.length:Int);omega
  · show (os.length:Int)≤8;omega
  · show ((mkSet _ ((os.length:Int)).toNat).length:Int)=(os.length:Int)
    rw [mkSet_len];rfl
  · show ((mkRel _ ((os.length:Int)).toNat ((os.length:Int)).toNat).length:Int)=(os.length:Int)*(os.length:Int)
    rw [mkRel_len,Int.natCast_mul];rfl
theorem part_set {a:St} {os:List Int} {i:Nat} (h:i<os.length):(partSt a os).inSet i=a.inSet (os.getD i 0):=mk_set (by omega)
theorem part_rel {a:St} {os:List Int} {i j:Nat} (h:i<os.length) (h':j<os.length):(partSt a os).inRel i j=a.inRel (os.getD i 0) (os.getD j 0):=mk_rel (by omega) (by omega)
theorem part_shaped {a:St} {os:List Int} (ha:a.Fine) (hl:(os.length:Int)=a.n) (hA:a.Els os) (hd:∀ i j:Nat,i<os.length→j<os.length→os.getD i 0=os.getD j 0→i=j):Shaped a (partSt a os):=by
 have h1:=ha.lo
 have h8:=ha.hi
 refine ⟨hl.symm,ha,validB_fine (part_valid (by omega) (by omega)),os,hl,hA,sameB_true (Nat.le_refl _) fun i hi=>?_⟩
 unfold stillAt
 rw [stillB_true (by simp),upto_at hi,part_set hi,part_rel hi hi]
 refine ⟨rfl,rfl,fun k hk=>?_⟩
 rw [List.length_take] at hk
 have hki:k<i:=by omega
 rw [take_getD hki,take_getD hki,upto_at (by omega),pairOk_true,part_rel (by omega) hi,part_rel hi (by omega)]
 refine ⟨?_,rfl,rfl⟩
 rw [decide_eq_decide]
 exact ⟨fun e=>by rw [hd k i (by omega) hi e],fun e=>by rw [show k=i by omega]⟩
theorem rotL_els {a:St} {m k:Nat} (h:1≤a.n):a.Els (rotL a.n.toNat m k):=fun x hx=>by
 obtain ⟨i,hi,rfl⟩:=List.getElem_of_mem hx
 rw [← getD_at hi,rotL_at _ _ (by simpa using hi)]
 have:=rot_lt (n:=a.n.toNat) (m:=m) (i:=i) (by omega)
 exact ⟨by omega,by omega⟩
end Go.Wk
namespace Go.Wk
open Go.RowKit
def bes1 (k x:Nat):List Int:=(bes k).set 0 (x:Int)
@[simp] theorem bes1_len (k x:Nat):(bes1 k x).length=k:=by unfold bes1;rw [List.length_set,bes_len]
structure CntE (q:Nat→Nat→Bool) (num:Nat→Int) (n:Nat) (S:List Int):Prop where
  srt:S.Pairwise (·<·)
  has:∀ y:Nat,y<n→num y∈S
  src:∀ m∈S,∃ y:Nat,y<n∧m=num y
  cls:(clsN q n).2=S.length
theorem CntE.zero {q:Nat→Nat→Bool} {num:Nat→Int}:CntE q num 0 []:=⟨List.Pairwise.nil,fun y hy=>absurd hy (by omega),fun m hm=>(by cases hm),rfl⟩
theorem CntE.len {q:Nat→Nat→Bool} {num:Nat→Int} {n:Nat} {S:List Int} (h:CntE q num n S):S.length≤n:=by rw [← h.cls];exact (cls_small _ n).1
end Go.Wk
namespace Go.Wk
open Go.RowKit
theorem nodup_take {xs:List Int} (hd:xs.Nodup) {k:Nat} (hk:k<xs.length):¬ xs.getD k 0∈xs.take k:=fun h=>by
 rw [getD_at hk] at h
 obtain ⟨i,hi,e⟩:=List.getElem_of_mem h
 rw [List.length_take] at hi
 rw [List.getElem_take] at e
 exact (List.pairwise_iff_getElem.1 hd) i k (by omega) hk (by omega) e
theorem rotL_mem {n m:Nat} {z:Int}:∀ {k:Nat},z∈rotL n m k→∃ i:Nat,i<k∧z=((rotA n m i:Nat):Int)
  | 0,h=>by cases h
  | k+1,h=>by
    rw [rotL,List.mem_append] at h
    rcases h with h | h
    · obtain ⟨i,h1,h2⟩:=rotL_mem h
      exact ⟨i,by omega,h2⟩
    · exact ⟨k,by omega,List.mem_singleton.1 h⟩
theorem rotL_nodup (n m:Nat):∀ k:Nat,k≤n→(rotL n m k).Nodup
 | 0,_=>List.nodup_nil
 | k+1,h=>by
  rw [rotL,List.nodup_append]
  refine ⟨rotL_nodup n m k (by omega),by simp,fun x hx y hy=>?_⟩
  obtain ⟨i,h1,rfl⟩:=rotL_mem hx
  rw [List.mem_singleton.1 hy]
  intro e
  have:=rot_inj (n:=n) (m:=m) (i:=i) (j:=k) (by omega) (by omega) (by omega)
  omega
theorem mem_at0 {xs:List Int} {k:Nat} (h:k<xs.length):xs.getD k 0∈xs:=by rw [getD_at h];exact List.getElem_mem _
theorem rot_cast {n:Int} {k m:Nat} (h:1≤n):((k:Int)+(m:Int)) % n=((rotA n.toNat m k:Nat):Int):=by
 unfold rotA
 rw [Int.natCast_emod,Int.natCast_add,Int.toNat_of_nonneg (by omega)]
theorem rotL_step (n m k:Nat):rotL n m (k+1)=rotL n m k++[((rotA n m k:Nat):Int)]:=rfl
theorem part_small {a:St} {os:List Int} (h1:1≤os.length) (h8:os.length≤8):(partSt a os).Small:=(validB_fine (part_valid h1 h8)).small
theorem part_moved {a:St} {os:List Int} (ha:a.Fine) (hl:(os.length:Int)=a.n) (hA:a.Els os) (hd:os.Nodup):Shaped a (partSt a os):=part_shaped ha hl hA fun i j hi hj e=>by
  rw [getD_at hi,getD_at hj] at e
  rcases Nat.lt_trichotomy i j with q | q | q
  · exact absurd e (List.pairwise_iff_getElem.1 hd i j hi hj q)
  · exact q
  · exact absurd e.symm (List.pairwise_iff_getElem.1 hd j i hj hi q)
end Go.Wk
namespace Go.Proofs
open Go.Shelf
def Tryd.lays137_ren:Go.Shelf.Ren:=⟨fun | 137=>163 | 217=>171 | 266=>176 | n=>n,fun | 9=>9 | 5=>5 | 3=>3 | n=>n,fun | n=>n⟩
theorem Tryd.lays137:Go.Proofs.Lays.n137 Tryd.prog Tryd.lays137_ren:={
 mixed:=by kernel_rfl
 f137:=Tryd.func163.trans (congrArg some (by kernel_rfl))
 f217:=Tryd.func171.trans (congrArg some (by kernel_rfl))
 f266:=Tryd.func176.trans (congrArg some (by kernel_rfl))
 t3:=Tryd.underlying3
 a3:=Tryd.isAgg3
 z3:=Tryd.sizeOf3
 v3:=Tryd.zeroValue3
 t5:=Tryd.underlying5
 a5:=Tryd.isAgg5
 z5:=Tryd.sizeOf5
 v5:=Tryd.zeroValue5
 t9:=Tryd.underlying9
 a9:=Tryd.isAgg9
 z9:=Tryd.sizeOf9
 v9:=Tryd.zeroValue9 }
open Go.RowKit in
theorem Tryd.strings_IndexByte (s:ByteArray) (c:Int) (w:World) :
  Calls Tryd.prog 163 #[.string s,.int .u8 c] w fun e w'=>e=.returned (.int .i64 (Lib.indexByte s.data.toList c.toNat.toUInt8))∧w'=w:=Any.strings_IndexByte Tryd.lays137 s c w
def Tryd.lays144_ren:Go.Shelf.Ren:=⟨fun | 144=>144 | 143=>151 | 219=>167 | 217=>171 | 225=>172 | 224=>173 | 267=>174 | 266=>176 | 314=>177 | n=>n,fun | 9=>9 | 4=>4 | 3=>3 | 5=>5 | 46=>127 | 146=>199 | 51=>146 | n=>n,fun | 1=>2 | n=>n⟩
theorem Tryd.lays144:Go.Proofs.Lays.n144 Tryd.prog Tryd.lays144_ren:={
 mixed:=by kernel_rfl
 f143:=Tryd.func151.trans (congrArg some (by kernel_rfl))
 f144:=Tryd.func144.trans (congrArg some (by kernel_rfl))
 f217:=Tryd.func171.trans (congrArg some (by kernel_rfl))
 f219:=Tryd.func167.trans (congrArg some (by kernel_rfl))
 f224:=Tryd.func173.trans (congrArg some (by kernel_rfl))
 f225:=Tryd.func172.trans (congrArg some (by kernel_rfl))
 f266:=Tryd.func176.trans (congrArg some (by kernel_rfl))
 f267:=Tryd.func174.trans (congrArg some (by kernel_rfl))
 f314:=Tryd.func177.trans (congrArg some (by kernel_rfl))
 t3:=Tryd.underlying3
 a3:=Tryd.isAgg3
 z3:=Tryd.sizeOf3
 v3:=Tryd.zeroValue3
 t4:=Tryd.underlying4
 a4:=Tryd.isAgg4
 z4:=Tryd.sizeOf4
 v4:=Tryd.zeroValue4
 t5:=Tryd.underlying5
 a5:=Tryd.isAgg5
 z5:=Tryd.sizeOf5
 v5:=Tryd.zeroValue5
 t9:=Tryd.underlying9
 a9:=Tryd.isAgg9
 z9:=Tryd.sizeOf9
 v9:=Tryd.zeroValue9
 t46:=Tryd.underlying127
 a46:=Tryd.isAgg127
 z46:=Tryd.sizeOf127
 v46:=Tryd.zeroValue127
 t51:=Tryd.underlying146
 a51:=Tryd.isAgg146
 z51:=Tryd.sizeOf146
 v51:=Tryd.zeroValue146
 t146:=Tryd.underlying199
 a146:=Tryd.isAgg199
 z146:=Tryd.sizeOf199
 v146:=Tryd.zeroValue199
 g1:=by kernel_rfl }
open Go.RowKit Go.Lib in
theorem Tryd.strings_Contains_one (s:ByteArray) (c:UInt8) (w:World) :
  Calls Tryd.prog 144 #[.string s,.string ⟨#[c]⟩] w fun e w'=>e=.returned (.bool (decide (0≤Lib.indexByte s.data.toList c)))∧w'=w:=Any.strings_Contains_one Tryd.lays144 s c w
end Go.Proofs
