/-
  FnPlayGame: all that its proof names (part 4)
-/
import Derived.Test.YteccfipfimbdgaaDoorKFnPlayGamec
import Derived.Test.YteccfipfimbdgaaDoorKFnPlayGameb
import Derived.Test.YteccfipfimbdgaaDoorKFnPlayGamea
namespace Go.Proofs.YteccfipfimbdgaaDoor
open Go.RowKit Go.Wk
set_option linter.unusedSimpArgs false
set_option maxHeartbeats 400000 in
theorem l1Bad_ok (B:Nat) (w0:World) (hs:List (Nat×Obj)) (rp p:Nat) (bv:Value) (L:List Int) (a:St) (w:World) (hb:∀ w,Own B w0 hs w→Row w bv (u8s L)) (hL8:Bytes8 L) (hL:L.length≤2000) (ha:a.Fine) (hp:p≤800000) (hw:Own B w0 ((rp,.cells #[bv,.int .i64 (p:Int)] 84 (0,0))::hs) w) :
    Calls Tryd.prog 49 [pt_ rp,vS a].toArray w fun en w'=>∃ b:St,∃ p':Nat,en=.returned (vS b)∧(((-9223372036854775808≤b.n∧b.n≤9223372036854775807)∧b.set.length≤50000∧b.rel.length≤50000)∧p'≤p+10)∧Own B w0 (((rp,.cells #[bv,.int .i64 (p':Int)] 84 (0,0))::hs)) w':=by
 refine fnStartC (Own B w0 ((rp,.cells #[bv,.int .i64 (p:Int)] 84 (0,0))::hs)) (n:=42) (e:=[(0,pt_ rp),(1,vS a)]) Tryd.func49 Z Z Z Z Ends.both hw ?_
 have hm8:=ha.hi
 have hm1:=ha.lo
 have hsl:=ha.set
 have hrl:=ha.rel
 have hq:=sq_le hm1 hm8
 have hq1:1≤a.n*a.n:=sq_one hm1;refine zF (qD (yT (v:=vS a) Z Z Z Z Z fun p3 hp3=>?_))
 show Ll _ _ (Own _ _ (_::_::hs)) _ _ ((3,pt_ p3)::_) _ _ _;refine xW Z Z Z Z yQ fun p4 hp4=>?_
 show Ll _ _ (Own _ _ (bk_ p4 #[i6_ 0,str ([]),str ([])] 24::_::_::hs)) _ _ ((4,pt_ p4)::_) _ _ _;refine zL (zC [0,3,4] [_,_,_] Z (zF (zF (qD (qQ 1 Z (yM (rp:=rp) (RT:=84) (p:=p) (bv:=bv) (hs:=hs) (ok:=fun (k:Int) p'=>0≤k∧(1≤(40:Int)→k<40)∧p'=p+1) (v:=fun (k:Int)=>i6_ k) (new:=fun (k:Int)=>[]) (xs:=[.tmp 5,.const (i6_ 40)]) (vs:=[pt_ rp,i6_ 40]) ([bk_ p4 #[i6_ 0,str ([]),str ([])] 24,bk_ p3 #[i6_ a.n,str a.set,str a.rel] 24]:List (Nat×Obj)) Z Z Z Z xP Z (fun w1 hw1=>(pick_ok B w0 (([bk_ p4 #[i6_ 0,str ([]),str ([])] 24,bk_ p3 #[i6_ a.n,str a.set,str a.rel] 24]:List (Nat×Obj))++hs) rp p bv L 40 w1 (fun w2 hw2=>hb w2 (qE (f:=([bk_ p4 #[i6_ 0,str ([]),str ([])] 24,bk_ p3 #[i6_ a.n,str a.set,str a.rel] 24]:List (Nat×Obj))) hw2)) hL8 hL (by omega) hw1).mono fun en w' ⟨k',p',h1,h2,h3⟩=>⟨k',p',h1,h2,h3⟩) fun k6 p_6 hKp_6=>?_))))))
 show Ll _ _ (Own _ _ (_::_::_::hs)) _ _ ((6,i6_ k6)::_) _ _ _
 obtain ⟨h0k6,h1k6,hep_6⟩:=hKp_6
 try have hltk6:=h1k6 (by first | omega | (split <;> omega) | decide);refine zL (zC [0,3,4,6] [_,_,_,_] Z (Wk.join (σ:=Int×List UInt8×List UInt8×Nat) (fun ⟨N,S,R,p9⟩=>(-9223372036854775808≤N∧N≤9223372036854775807)∧S.length≤50000∧R.length≤50000∧p9≤p+10) (fun ⟨N,S,R,p9⟩=>[(3,pt_ p3),(4,pt_ p4)]) (fun ⟨N,S,R,p9⟩=>Own B w0 (bk_ p4 #[i6_ 0,str ([]),str ([])] 24::bk_ p3 #[i6_ N,str S,str R] 24::bk_ rp #[bv,i6_ (p9:Int)] 84::hs)) ?_ ?_))
 ·
  refine qT (zF (zB (zA 2 Z (zH (zC [0,3,4,6,7] [_,_,_,_,_] Z (xI Z (fun h7=>?_) (fun h7=>?_)))))))
  ·
   refine qD (qQ 1 Z (qC Z (zN Z zI Z zY Z Z) (qC Z (zS 1 Z qF Z Z Z) (qC Z (qV Z Z Z (by omega) (by omega)) (yS (xs:=[.const (i6_ 0),.const (i6_ (-1)),.tmp 12,.const (i6_ 9),.const (i6_ 9223372036854775807)]) (vs:=[i6_ 0,i6_ (-1),i6_ (a.n+(1:Int)),i6_ 9,i6_ 9223372036854775807]) qS Z Z Z Z Z Z (by decide) Z fun p13 hp13=>(yM (rp:=rp) (RT:=84) (p:=p_6) (bv:=bv) (hs:=hs) (ok:=fun (v:Int) p'=>v∈([0,-1,a.n+(1:Int),9,9223372036854775807])∧p'=p_6+1) (v:=fun (v:Int)=>i6_ v) (new:=fun (v:Int)=>[]) (xs:=[.tmp 9,.tmp 13]) (vs:=[pt_ rp,sl_ p13 5 5]) ([bk_ p13 #[i6_ 0,i6_ (-1),i6_ (a.n+(1:Int)),i6_ 9,i6_ 9223372036854775807] 3,bk_ p4 #[i6_ 0,str ([]),str ([])] 24,bk_ p3 #[i6_ a.n,str a.set,str a.rel] 24]:List (Nat×Obj)) Z Z Z Z Tryd.call84 Z (fun w1 hw1=>(num_ok B w0 (([bk_ p13 #[i6_ 0,i6_ (-1),i6_ (a.n+(1:Int)),i6_ 9,i6_ 9223372036854775807] 3,bk_ p4 #[i6_ 0,str ([]),str ([])] 24,bk_ p3 #[i6_ a.n,str a.set,str a.rel] 24]:List (Nat×Obj))++hs) rp p_6 bv L (sl_ p13 5 5) ([0,-1,a.n+(1:Int),9,9223372036854775807]) w1 (fun w2 hw2=>hb w2 (qE (f:=([bk_ p13 #[i6_ 0,i6_ (-1),i6_ (a.n+(1:Int)),i6_ 9,i6_ 9223372036854775807] 3,bk_ p4 #[i6_ 0,str ([]),str ([])] 24,bk_ p3 #[i6_ a.n,str a.set,str a.rel] 24]:List (Nat×Obj))) hw2)) hL8 hL (fun w2 h2=>(yH h2 (i:=0) Z (n:=5) (cap:=5) (vs:=ints [0,-1,a.n+(1:Int),9,9223372036854775807]) Z Z (by decide))) (by simp) (by omega) hw1).mono fun en w' ⟨v',p',h1,h2,h3⟩=>⟨v',p',h1,h2,h3⟩) fun v14 p_14 hKp_14=>?_))))))
   show Ll _ _ (Own _ _ (_::_::_::_::hs)) _ _ ((14,i6_ v14)::_) _ _ _
   obtain ⟨hmv14,hep_14⟩:=hKp_14
   skip
   have hv14 : -9223372036854775808≤v14∧v14≤9223372036854775807:=by simp at hmv14;omega
   refine qC Z (zN Z zI Z zY Z Z) (qY (v:=i6_ v14) (hs':=(_::_::bk_ p3 #[i6_ v14,str a.set,str a.rel] 24::_::hs)) 2 Z Z Z Z Z Z zY Z (by simp) Z (zL (qX (v14,a.set,a.rel,p_14) ⟨⟨by (try dsimp only);omega,by (try dsimp only);omega⟩,by (try dsimp only);omega,by (try dsimp only);omega,by (try dsimp only);omega⟩ (Sub.sel [3,4] Z) (fun _ h=>h.sub (zW _ (zG _ (zG _ (zG _ (qJ _)))))))))
  refine zF (zB (zA 2 Z (zH (zC [0,3,4,6,16] [_,_,_,_,_] Z (xI Z (fun h16=>?_) (fun h16=>?_))))))
  ·
   refine qD (qC Z (zN Z zI Z zQ Z Z) (qC Z (zS 1 Z qG Z Z Z) (qC Z (qU Z Z Z (by simp;omega)) (qC Z (zN Z zI Z zQ Z Z) (qY (v:=str (a.set++([48]))) (hs':=(_::bk_ p3 #[i6_ a.n,str (a.set++([48])),str a.rel] 24::_::hs)) 1 Z Z Z Z Z Z zQ Z (by simp) Z (zL (qX (a.n,a.set++([48]),a.rel,p_6) ⟨⟨by (try dsimp only);omega,by (try dsimp only);omega⟩,by (try dsimp only);simp only [zM,zO,qL,qM];omega,by (try dsimp only);omega,by (try dsimp only);omega⟩ (Sub.sel [3,4] Z) (fun _ h=>h.sub (zG _ (zG _ (zG _ (qJ _))))))))))))
  refine zF (zB (zA 2 Z (zH (zC [0,3,4,6,22] [_,_,_,_,_] Z (xI Z (fun h22=>?_) (fun h22=>?_))))))
  ·
   refine jO (S:=Own B w0 [bk_ p4 #[i6_ 0,str ([]),str ([])] 24]) (.take 0 (.take 2 (.take 7 (.three 1 (.two 3 (.take 4 (.take 5 (.take 6 (.one 8 (.one 9 (.take 10 (.take 11 (.one 12 .done)))))))) 8 (.two 3 (.take 4 (.take 5 (.take 6 (.one 9 (.take 10 (.take 11 (.one 12 .done))))))) 9 (.one 3 (.take 4 (.take 5 (.take 6 (.take 10 (.take 11 (.one 12 .done))))))))) 3 (.take 4 (.take 5 (.two 1 (.take 6 (.one 8 (.one 9 (.take 10 (.take 11 (.one 12 .done)))))) 8 (.two 1 (.take 6 (.one 9 (.take 10 (.take 11 (.one 12 .done))))) 9 (.one 1 (.take 6 (.take 10 (.take 11 (.one 12 .done))))))))) 8 (.three 1 (.two 3 (.take 4 (.take 5 (.take 6 (.one 9 (.take 10 (.take 11 (.one 12 .done))))))) 9 (.one 3 (.take 4 (.take 5 (.take 6 (.take 10 (.take 11 (.one 12 .done)))))))) 3 (.take 4 (.take 5 (.two 1 (.take 6 (.one 9 (.take 10 (.take 11 (.one 12 .done))))) 9 (.one 1 (.take 6 (.take 10 (.take 11 (.one 12 .done)))))))) 9 (.two 1 (.one 3 (.take 4 (.take 5 (.take 6 (.take 10 (.take 11 (.one 12 .done))))))) 3 (.take 4 (.take 5 (.one 1 (.take 6 (.take 10 (.take 11 (.one 12 .done))))))))))))) yJ (fun _ h=>h.drawn) (by kernel_rfl) (zX Z Z Z Z Z (zN Z zI Z zQ Z Z) (pk [0] Z Z) (zX Z Z Z Z Z (zN Z zI Z zQ Z Z) (pk [0] Z Z) (jH 1 Z (pk [0] Z Z) (Lu.three Z Z Z ?_ ?_ ?_))))
   ·
    refine qC Z (zS 1 Z qG Z Z Z) (zL (zT (pk [0] Z Z) ?_));refine xU Z Z ?_ ?_
    ·
     refine qC Z (zS 1 Z qG Z Z Z) (zL (zT (pk [0] Z Z) ?_));refine zX (v:=i6_ (a.rel.length:Int)) Z Z Z Z Z (xK Z qA Z) (pk [0] Z Z) (zX Z Z Z Z Z (xO Z Z Z (by omega) (by omega)) (pk [0] Z Z) (zX (v:=str (a.rel.take (((a.rel.length:Int) - (1:Int)).toNat))) Z Z Z Z Z (yR Z qO Z Z (by omega) (by omega)) (pk [0] Z Z) (qN Z (yS (xs:=[.const (str ([])),.const (str ([50])),.const (str ([48,49]))]) (vs:=[str ([]),str ([50]),str ([48,49])]) xZ Z Z Z Z Z Z (by decide) Z fun p32 hp32=>(zL (zT (pk [1] Z Z) ?_))))));refine qN Z (yM (rp:=rp) (RT:=84) (p:=p_6) (bv:=bv) (hs:=hs) (ok:=fun (v:List UInt8) p'=>v∈([[],[50],[48,49]]:List (List UInt8))∧p'=p_6+1) (v:=fun (v:List UInt8)=>str v) (new:=fun (v:List UInt8)=>[]) (xs:=[.tmp 31,.tmp 32]) (vs:=[pt_ rp,sl_ p32 3 3]) ([bk_ p32 #[str ([]),str ([50]),str ([48,49])] 9,bk_ p4 #[i6_ 0,str ([]),str ([])] 24,bk_ p3 #[i6_ a.n,str a.set,str a.rel] 24]:List (Nat×Obj)) Z Z Z Z jA Z (fun w1 hw1=>(of_ok B w0 (([bk_ p32 #[str ([]),str ([50]),str ([48,49])] 9,bk_ p4 #[i6_ 0,str ([]),str ([])] 24,bk_ p3 #[i6_ a.n,str a.set,str a.rel] 24]:List (Nat×Obj))++hs) rp p_6 bv L (sl_ p32 3 3) ([[],[50],[48,49]]:List (List UInt8)) w1 (fun w2 hw2=>hb w2 (qE (f:=([bk_ p32 #[str ([]),str ([50]),str ([48,49])] 9,bk_ p4 #[i6_ 0,str ([]),str ([])] 24,bk_ p3 #[i6_ a.n,str a.set,str a.rel] 24]:List (Nat×Obj))) hw2)) hL8 hL (fun w2 h2=>(yH h2 (i:=0) Z (n:=3) (cap:=3) (vs:=strs ([[],[50],[48,49]]:List (List UInt8))) Z Z (by decide))) (by simp) (by omega) hw1).mono fun en w' ⟨v',p',h1,h2,h3⟩=>⟨v',p',h1,h2,h3⟩) fun v33 p_33 hKp_33=>?_)
     show Ll _ _ (Own _ _ (_::_::_::_::hs)) _ _ ((33,str v33)::_) _ _ _
     obtain ⟨hmv33,hep_33⟩:=hKp_33;refine zL (zT (pk [1] Z Z) ?_)
     have hv33:v33.length≤2:=by simp at hmv33;rcases hmv33 with h | h | h <;> subst h <;> decide
     refine zX Z Z Z Z Z (qU Z Z Z (by simp only [zO];omega)) (pk [1] Z Z) (zX Z Z Z Z Z (zN Z zI Z zQ Z Z) (pk [1] Z Z) (qN Z (qY (v:=str ((a.rel.take (((a.rel.length:Int) - (1:Int)).toNat))++v33)) (hs':=(_::_::bk_ p3 #[i6_ a.n,str a.set,str ((a.rel.take (((a.rel.length:Int) - (1:Int)).toNat))++v33)] 24::_::hs)) 2 Z Z Z Z Z Z zQ Z (by simp) Z (zL (zT (pk [1] Z Z) ?_)))));refine xB (qX ((a.n,a.set,(a.rel.take (((a.rel.length:Int) - (1:Int)).toNat))++v33,p_33)) ⟨⟨by (try dsimp only);omega,by (try dsimp only);omega⟩,by (try dsimp only);omega,by (try dsimp only);simp only [zM,zO,qL,qM];omega,by (try dsimp only);omega⟩ (Sub.sel [3,4] Z) (fun _ h=>h.sub (zW _ (zG _ (zG _ (zG _ (qJ _)))))))
    refine yS (xs:=[.const (str ([])),.const (str ([50])),.const (str ([48,49]))]) (vs:=[str ([]),str ([50]),str ([48,49])]) xZ Z Z Z Z Z Z (by decide) Z fun p32_1 hp32_1=>(zL (zT (pk [1] Z Z) ?_));refine xU Z Z ?_ ?_
    ·
     refine qC Z (zS 2 Z qG Z Z Z) (zL (zT (pk [1] Z Z) ?_));refine zX (v:=i6_ (a.rel.length:Int)) Z Z Z Z Z (xK Z qA Z) (pk [1] Z Z) (zX Z Z Z Z Z (xO Z Z Z (by omega) (by omega)) (pk [1] Z Z) (zX (v:=str (a.rel.take (((a.rel.length:Int) - (1:Int)).toNat))) Z Z Z Z Z (yR Z qO Z Z (by omega) (by omega)) (pk [1] Z Z) (qN Z (yM (rp:=rp) (RT:=84) (p:=p_6) (bv:=bv) (hs:=hs) (ok:=fun (v:List UInt8) p'=>v∈([[],[50],[48,49]]:List (List UInt8))∧p'=p_6+1) (v:=fun (v:List UInt8)=>str v) (new:=fun (v:List UInt8)=>[]) (xs:=[.tmp 31,.tmp 32]) (vs:=[pt_ rp,sl_ p32_1 3 3]) ([bk_ p32_1 #[str ([]),str ([50]),str ([48,49])] 9,bk_ p4 #[i6_ 0,str ([]),str ([])] 24,bk_ p3 #[i6_ a.n,str a.set,str a.rel] 24]:List (Nat×Obj)) Z Z Z Z jA Z (fun w1 hw1=>(of_ok B w0 (([bk_ p32_1 #[str ([]),str ([50]),str ([48,49])] 9,bk_ p4 #[i6_ 0,str ([]),str ([])] 24,bk_ p3 #[i6_ a.n,str a.set,str a.rel] 24]:List (Nat×Obj))++hs) rp p_6 bv L (sl_ p32_1 3 3) ([[],[50],[48,49]]:List (List UInt8)) w1 (fun w2 hw2=>hb w2 (qE (f:=([bk_ p32_1 #[str ([]),str ([50]),str ([48,49])] 9,bk_ p4 #[i6_ 0,str ([]),str ([])] 24,bk_ p3 #[i6_ a.n,str a.set,str a.rel] 24]:List (Nat×Obj))) hw2)) hL8 hL (fun w2 h2=>(yH h2 (i:=0) Z (n:=3) (cap:=3) (vs:=strs ([[],[50],[48,49]]:List (List UInt8))) Z Z (by decide))) (by simp) (by omega) hw1).mono fun en w' ⟨v',p',h1,h2,h3⟩=>⟨v',p',h1,h2,h3⟩) fun v33_1 p_33_1 hKp_33_1=>?_))))
     show Ll _ _ (Own _ _ (_::_::_::_::hs)) _ _ ((33,str v33_1)::_) _ _ _
     obtain ⟨hmv33_1,hep_33_1⟩:=hKp_33_1;refine zL (zT (pk [1] Z Z) ?_)
     have hv33:v33_1.length≤2:=by simp at hmv33_1;rcases hmv33_1 with h | h | h <;> subst h <;> decide
     refine zX Z Z Z Z Z (qU Z Z Z (by simp only [zO];omega)) (pk [1] Z Z) (zX Z Z Z Z Z (zN Z zI Z zQ Z Z) (pk [1] Z Z) (qN Z (qY (v:=str ((a.rel.take (((a.rel.length:Int) - (1:Int)).toNat))++v33_1)) (hs':=(_::_::bk_ p3 #[i6_ a.n,str a.set,str ((a.rel.take (((a.rel.length:Int) - (1:Int)).toNat))++v33_1)] 24::_::hs)) 2 Z Z Z Z Z Z zQ Z (by simp) Z (zL (zT (pk [1] Z Z) ?_)))));refine xB (qX ((a.n,a.set,(a.rel.take (((a.rel.length:Int) - (1:Int)).toNat))++v33_1,p_33_1)) ⟨⟨by (try dsimp only);omega,by (try dsimp only);omega⟩,by (try dsimp only);omega,by (try dsimp only);simp only [zM,zO,qL,qM];omega,by (try dsimp only);omega⟩ (Sub.sel [3,4] Z) (fun _ h=>h.sub (zW _ (zG _ (zG _ (zG _ (qJ _)))))))
    refine yM (rp:=rp) (RT:=84) (p:=p_6) (bv:=bv) (hs:=hs) (ok:=fun (v:List UInt8) p'=>v∈([[],[50],[48,49]]:List (List UInt8))∧p'=p_6+1) (v:=fun (v:List UInt8)=>str v) (new:=fun (v:List UInt8)=>[]) (xs:=[.tmp 31,.tmp 32]) (vs:=[pt_ rp,sl_ p32_1 3 3]) ([bk_ p32_1 #[str ([]),str ([50]),str ([48,49])] 9,bk_ p4 #[i6_ 0,str ([]),str ([])] 24,bk_ p3 #[i6_ a.n,str a.set,str a.rel] 24]:List (Nat×Obj)) Z Z Z Z jA Z (fun w1 hw1=>(of_ok B w0 (([bk_ p32_1 #[str ([]),str ([50]),str ([48,49])] 9,bk_ p4 #[i6_ 0,str ([]),str ([])] 24,bk_ p3 #[i6_ a.n,str a.set,str a.rel] 24]:List (Nat×Obj))++hs) rp p_6 bv L (sl_ p32_1 3 3) ([[],[50],[48,49]]:List (List UInt8)) w1 (fun w2 hw2=>hb w2 (qE (f:=([bk_ p32_1 #[str ([]),str ([50]),str ([48,49])] 9,bk_ p4 #[i6_ 0,str ([]),str ([])] 24,bk_ p3 #[i6_ a.n,str a.set,str a.rel] 24]:List (Nat×Obj))) hw2)) hL8 hL (fun w2 h2=>(yH h2 (i:=0) Z (n:=3) (cap:=3) (vs:=strs ([[],[50],[48,49]]:List (List UInt8))) Z Z (by decide))) (by simp) (by omega) hw1).mono fun en w' ⟨v',p',h1,h2,h3⟩=>⟨v',p',h1,h2,h3⟩) fun v33_2 p_33_2 hKp_33_2=>?_
    show Ll _ _ (Own _ _ (_::_::_::_::hs)) _ _ ((33,str v33_2)::_) _ _ _
    obtain ⟨hmv33_2,hep_33_2⟩:=hKp_33_2;refine zL (zT (pk [1] Z Z) ?_);refine qN Z (qC Z (zS 2 Z qG Z Z Z) (zL (zT (pk [1] Z Z) ?_)));refine zX (v:=i6_ (a.rel.length:Int)) Z Z Z Z Z (xK Z qA Z) (pk [1] Z Z) (zX Z Z Z Z Z (xO Z Z Z (by omega) (by omega)) (pk [1] Z Z) (zX (v:=str (a.rel.take (((a.rel.length:Int) - (1:Int)).toNat))) Z Z Z Z Z (yR Z qO Z Z (by omega) (by omega)) (pk [1] Z Z) ?_))
    have hv33:v33_2.length≤2:=by simp at hmv33_2;rcases hmv33_2 with h | h | h <;> subst h <;> decide
    refine zX Z Z Z Z Z (qU Z Z Z (by simp only [zO];omega)) (pk [1] Z Z) (zX Z Z Z Z Z (zN Z zI Z zQ Z Z) (pk [1] Z Z) (qN Z (qY (v:=str ((a.rel.take (((a.rel.length:Int) - (1:Int)).toNat))++v33_2)) (hs':=(_::_::bk_ p3 #[i6_ a.n,str a.set,str ((a.rel.take (((a.rel.length:Int) - (1:Int)).toNat))++v33_2)] 24::_::hs)) 2 Z Z Z Z Z Z zQ Z (by simp) Z (zL (zT (pk [1] Z Z) ?_)))));refine xB (qX ((a.n,a.set,(a.rel.take (((a.rel.length:Int) - (1:Int)).toNat))++v33_2,p_33_2)) ⟨⟨by (try dsimp only);omega,by (try dsimp only);omega⟩,by (try dsimp only);omega,by (try dsimp only);simp only [zM,zO,qL,qM];omega,by (try dsimp only);omega⟩ (Sub.sel [3,4] Z) (fun _ h=>h.sub (zW _ (zG _ (zG _ (zG _ (qJ _)))))))
   ·
    refine qC Z (zS 1 Z qG Z Z Z) (zL (zT (pk [0] Z Z) ?_));refine zX (v:=i6_ (a.rel.length:Int)) Z Z Z Z Z (xK Z qA Z) (pk [0] Z Z) (zX Z Z Z Z Z (xO Z Z Z (by omega) (by omega)) (pk [0] Z Z) (xU Z Z ?_ ?_))
    ·
     refine qC Z (zS 1 Z qG Z Z Z) (zL (zT (pk [0] Z Z) ?_));refine zX (v:=str (a.rel.take (((a.rel.length:Int) - (1:Int)).toNat))) Z Z Z Z Z (yR Z qO Z Z (by omega) (by omega)) (pk [0] Z Z) (qN Z (yS (xs:=[.const (str ([])),.const (str ([50])),.const (str ([48,49]))]) (vs:=[str ([]),str ([50]),str ([48,49])]) xZ Z Z Z Z Z Z (by decide) Z fun p32_2 hp32_2=>(zL (zT (pk [1] Z Z) ?_))));refine qN Z (yM (rp:=rp) (RT:=84) (p:=p_6) (bv:=bv) (hs:=hs) (ok:=fun (v:List UInt8) p'=>v∈([[],[50],[48,49]]:List (List UInt8))∧p'=p_6+1) (v:=fun (v:List UInt8)=>str v) (new:=fun (v:List UInt8)=>[]) (xs:=[.tmp 31,.tmp 32]) (vs:=[pt_ rp,sl_ p32_2 3 3]) ([bk_ p32_2 #[str ([]),str ([50]),str ([48,49])] 9,bk_ p4 #[i6_ 0,str ([]),str ([])] 24,bk_ p3 #[i6_ a.n,str a.set,str a.rel] 24]:List (Nat×Obj)) Z Z Z Z jA Z (fun w1 hw1=>(of_ok B w0 (([bk_ p32_2 #[str ([]),str ([50]),str ([48,49])] 9,bk_ p4 #[i6_ 0,str ([]),str ([])] 24,bk_ p3 #[i6_ a.n,str a.set,str a.rel] 24]:List (Nat×Obj))++hs) rp p_6 bv L (sl_ p32_2 3 3) ([[],[50],[48,49]]:List (List UInt8)) w1 (fun w2 hw2=>hb w2 (qE (f:=([bk_ p32_2 #[str ([]),str ([50]),str ([48,49])] 9,bk_ p4 #[i6_ 0,str ([]),str ([])] 24,bk_ p3 #[i6_ a.n,str a.set,str a.rel] 24]:List (Nat×Obj))) hw2)) hL8 hL (fun w2 h2=>(yH h2 (i:=0) Z (n:=3) (cap:=3) (vs:=strs ([[],[50],[48,49]]:List (List UInt8))) Z Z (by decide))) (by simp) (by omega) hw1).mono fun en w' ⟨v',p',h1,h2,h3⟩=>⟨v',p',h1,h2,h3⟩) fun v33_3 p_33_3 hKp_33_3=>?_)
     show Ll _ _ (Own _ _ (_::_::_::_::hs)) _ _ ((33,str v33_3)::_) _ _ _
     obtain ⟨hmv33_3,hep_33_3⟩:=hKp_33_3;refine zL (zT (pk [1] Z Z) ?_)
     have hv33:v33_3.length≤2:=by simp at hmv33_3;rcases hmv33_3 with h | h | h <;> subst h <;> decide
     refine zX Z Z Z Z Z (qU Z Z Z (by simp only [zO];omega)) (pk [1] Z Z) (zX Z Z Z Z Z (zN Z zI Z zQ Z Z) (pk [1] Z Z) (qN Z (qY (v:=str ((a.rel.take (((a.rel.length:Int) - (1:Int)).toNat))++v33_3)) (hs':=(_::_::bk_ p3 #[i6_ a.n,str a.set,str ((a.rel.take (((a.rel.length:Int) - (1:Int)).toNat))++v33_3)] 24::_::hs)) 2 Z Z Z Z Z Z zQ Z (by simp) Z (zL (zT (pk [1] Z Z) ?_)))));refine xB (qX ((a.n,a.set,(a.rel.take (((a.rel.length:Int) - (1:Int)).toNat))++v33_3,p_33_3)) ⟨⟨by (try dsimp only);omega,by (try dsimp only);omega⟩,by (try dsimp only);omega,by (try dsimp only);simp only [zM,zO,qL,qM];omega,by (try dsimp only);omega⟩ (Sub.sel [3,4] Z) (fun _ h=>h.sub (zW _ (zG _ (zG _ (zG _ (qJ _)))))))
    refine yS (xs:=[.const (str ([])),.const (str ([50])),.const (str ([48,49]))]) (vs:=[str ([]),str ([50]),str ([48,49])]) xZ Z Z Z Z Z Z (by decide) Z fun p32_3 hp32_3=>(zL (zT (pk [1] Z Z) ?_));refine xU Z Z ?_ ?_
    ·
     refine qC Z (zS 2 Z qG Z Z Z) (zL (zT (pk [1] Z Z) ?_));refine zX (v:=str (a.rel.take (((a.rel.length:Int) - (1:Int)).toNat))) Z Z Z Z Z (yR Z qO Z Z (by omega) (by omega)) (pk [1] Z Z) (qN Z (yM (rp:=rp) (RT:=84) (p:=p_6) (bv:=bv) (hs:=hs) (ok:=fun (v:List UInt8) p'=>v∈([[],[50],[48,49]]:List (List UInt8))∧p'=p_6+1) (v:=fun (v:List UInt8)=>str v) (new:=fun (v:List UInt8)=>[]) (xs:=[.tmp 31,.tmp 32]) (vs:=[pt_ rp,sl_ p32_3 3 3]) ([bk_ p32_3 #[str ([]),str ([50]),str ([48,49])] 9,bk_ p4 #[i6_ 0,str ([]),str ([])] 24,bk_ p3 #[i6_ a.n,str a.set,str a.rel] 24]:List (Nat×Obj)) Z Z Z Z jA Z (fun w1 hw1=>(of_ok B w0 (([bk_ p32_3 #[str ([]),str ([50]),str ([48,49])] 9,bk_ p4 #[i6_ 0,str ([]),str ([])] 24,bk_ p3 #[i6_ a.n,str a.set,str a.rel] 24]:List (Nat×Obj))++hs) rp p_6 bv L (sl_ p32_3 3 3) ([[],[50],[48,49]]:List (List UInt8)) w1 (fun w2 hw2=>hb w2 (qE (f:=([bk_ p32_3 #[str ([]),str ([50]),str ([48,49])] 9,bk_ p4 #[i6_ 0,str ([]),str ([])] 24,bk_ p3 #[i6_ a.n,str a.set,str a.rel] 24]:List (Nat×Obj))) hw2)) hL8 hL (fun w2 h2=>(yH h2 (i:=0) Z (n:=3) (cap:=3) (vs:=strs ([[],[50],[48,49]]:List (List UInt8))) Z Z (by decide))) (by simp) (by omega) hw1).mono fun en w' ⟨v',p',h1,h2,h3⟩=>⟨v',p',h1,h2,h3⟩) fun v33_4 p_33_4 hKp_33_4=>?_))
     show Ll _ _ (Own _ _ (_::_::_::_::hs)) _ _ ((33,str v33_4)::_) _ _ _
     obtain ⟨hmv33_4,hep_33_4⟩:=hKp_33_4;refine zL (zT (pk [1] Z Z) ?_)
     have hv33:v33_4.length≤2:=by simp at hmv33_4;rcases hmv33_4 with h | h | h <;> subst h <;> decide
     refine zX Z Z Z Z Z (qU Z Z Z (by simp only [zO];omega)) (pk [1] Z Z) (zX Z Z Z Z Z (zN Z zI Z zQ Z Z) (pk [1] Z Z) (qN Z (qY (v:=str ((a.rel.take (((a.rel.length:Int) - (1:Int)).toNat))++v33_4)) (hs':=(_::_::bk_ p3 #[i6_ a.n,str a.set,str ((a.rel.take (((a.rel.length:Int) - (1:Int)).toNat))++v33_4)] 24::_::hs)) 2 Z Z Z Z Z Z zQ Z (by simp) Z (zL (zT (pk [1] Z Z) ?_)))));refine xB (qX ((a.n,a.set,(a.rel.take (((a.rel.length:Int) - (1:Int)).toNat))++v33_4,p_33_4)) ⟨⟨by (try dsimp only);omega,by (try dsimp only);omega⟩,by (try dsimp only);omega,by (try dsimp only);simp only [zM,zO,qL,qM];omega,by (try dsimp only);omega⟩ (Sub.sel [3,4] Z) (fun _ h=>h.sub (zW _ (zG _ (zG _ (zG _ (qJ _)))))))
    refine yM (rp:=rp) (RT:=84) (p:=p_6) (bv:=bv) (hs:=hs) (ok:=fun (v:List UInt8) p'=>v∈([[],[50],[48,49]]:List (List UInt8))∧p'=p_6+1) (v:=fun (v:List UInt8)=>str v) (new:=fun (v:List UInt8)=>[]) (xs:=[.tmp 31,.tmp 32]) (vs:=[pt_ rp,sl_ p32_3 3 3]) ([bk_ p32_3 #[str ([]),str ([50]),str ([48,49])] 9,bk_ p4 #[i6_ 0,str ([]),str ([])] 24,bk_ p3 #[i6_ a.n,str a.set,str a.rel] 24]:List (Nat×Obj)) Z Z Z Z jA Z (fun w1 hw1=>(of_ok B w0 (([bk_ p32_3 #[str ([]),str ([50]),str ([48,49])] 9,bk_ p4 #[i6_ 0,str ([]),str ([])] 24,bk_ p3 #[i6_ a.n,str a.set,str a.rel] 24]:List (Nat×Obj))++hs) rp p_6 bv L (sl_ p32_3 3 3) ([[],[50],[48,49]]:List (List UInt8)) w1 (fun w2 hw2=>hb w2 (qE (f:=([bk_ p32_3 #[str ([]),str ([50]),str ([48,49])] 9,bk_ p4 #[i6_ 0,str ([]),str ([])] 24,bk_ p3 #[i6_ a.n,str a.set,str a.rel] 24]:List (Nat×Obj))) hw2)) hL8 hL (fun w2 h2=>(yH h2 (i:=0) Z (n:=3) (cap:=3) (vs:=strs ([[],[50],[48,49]]:List (List UInt8))) Z Z (by decide))) (by simp) (by omega) hw1).mono fun en w' ⟨v',p',h1,h2,h3⟩=>⟨v',p',h1,h2,h3⟩) fun v33_5 p_33_5 hKp_33_5=>?_
    show Ll _ _ (Own _ _ (_::_::_::_::hs)) _ _ ((33,str v33_5)::_) _ _ _
    obtain ⟨hmv33_5,hep_33_5⟩:=hKp_33_5;refine zL (zT (pk [1] Z Z) ?_);refine qN Z (qC Z (zS 2 Z qG Z Z Z) (zL (zT (pk [1] Z Z) ?_)));refine zX (v:=str (a.rel.take (((a.rel.length:Int) - (1:Int)).toNat))) Z Z Z Z Z (yR Z qO Z Z (by omega) (by omega)) (pk [1] Z Z) ?_
    have hv33:v33_5.length≤2:=by simp at hmv33_5;rcases hmv33_5 with h | h | h <;> subst h <;> decide
    refine zX Z Z Z Z Z (qU Z Z Z (by simp only [zO];omega)) (pk [1] Z Z) (zX Z Z Z Z Z (zN Z zI Z zQ Z Z) (pk [1] Z Z) (qN Z (qY (v:=str ((a.rel.take (((a.rel.length:Int) - (1:Int)).toNat))++v33_5)) (hs':=(_::_::bk_ p3 #[i6_ a.n,str a.set,str ((a.rel.take (((a.rel.length:Int) - (1:Int)).toNat))++v33_5)] 24::_::hs)) 2 Z Z Z Z Z Z zQ Z (by simp) Z (zL (zT (pk [1] Z Z) ?_)))));refine xB (qX ((a.n,a.set,(a.rel.take (((a.rel.length:Int) - (1:Int)).toNat))++v33_5,p_33_5)) ⟨⟨by (try dsimp only);omega,by (try dsimp only);omega⟩,by (try dsimp only);omega,by (try dsimp only);simp only [zM,zO,qL,qM];omega,by (try dsimp only);omega⟩ (Sub.sel [3,4] Z) (fun _ h=>h.sub (zW _ (zG _ (zG _ (zG _ (qJ _)))))))
   refine yS (xs:=[.const (str ([])),.const (str ([50])),.const (str ([48,49]))]) (vs:=[str ([]),str ([50]),str ([48,49])]) xZ Z Z Z Z Z Z (by decide) Z fun p32_4 hp32_4=>(zL (zT (pk [1] Z Z) ?_));refine Lu.three Z Z Z ?_ ?_ ?_
   ·
    refine qC Z (zS 2 Z qG Z Z Z) (zL (zT (pk [1] Z Z) ?_));refine xU Z Z ?_ ?_
    ·
     refine qC Z (zS 2 Z qG Z Z Z) (zL (zT (pk [1] Z Z) ?_));refine zX (v:=i6_ (a.rel.length:Int)) Z Z Z Z Z (xK Z qA Z) (pk [1] Z Z) (zX Z Z Z Z Z (xO Z Z Z (by omega) (by omega)) (pk [1] Z Z) (zX (v:=str (a.rel.take (((a.rel.length:Int) - (1:Int)).toNat))) Z Z Z Z Z (yR Z qO Z Z (by omega) (by omega)) (pk [1] Z Z) (qN Z (yM (rp:=rp) (RT:=84) (p:=p_6) (bv:=bv) (hs:=hs) (ok:=fun (v:List UInt8) p'=>v∈([[],[50],[48,49]]:List (List UInt8))∧p'=p_6+1) (v:=fun (v:List UInt8)=>str v) (new:=fun (v:List UInt8)=>[]) (xs:=[.tmp 31,.tmp 32]) (vs:=[pt_ rp,sl_ p32_4 3 3]) ([bk_ p32_4 #[str ([]),str ([50]),str ([48,49])] 9,bk_ p4 #[i6_ 0,str ([]),str ([])] 24,bk_ p3 #[i6_ a.n,str a.set,str a.rel] 24]:List (Nat×Obj)) Z Z Z Z jA Z (fun w1 hw1=>(of_ok B w0 (([bk_ p32_4 #[str ([]),str ([50]),str ([48,49])] 9,bk_ p4 #[i6_ 0,str ([]),str ([])] 24,bk_ p3 #[i6_ a.n,str a.set,str a.rel] 24]:List (Nat×Obj))++hs) rp p_6 bv L (sl_ p32_4 3 3) ([[],[50],[48,49]]:List (List UInt8)) w1 (fun w2 hw2=>hb w2 (qE (f:=([bk_ p32_4 #[str ([]),str ([50]),str ([48,49])] 9,bk_ p4 #[i6_ 0,str ([]),str ([])] 24,bk_ p3 #[i6_ a.n,str a.set,str a.rel] 24]:List (Nat×Obj))) hw2)) hL8 hL (fun w2 h2=>(yH h2 (i:=0) Z (n:=3) (cap:=3) (vs:=strs ([[],[50],[48,49]]:List (List UInt8))) Z Z (by decide))) (by simp) (by omega) hw1).mono fun en w' ⟨v',p',h1,h2,h3⟩=>⟨v',p',h1,h2,h3⟩) fun v33_6 p_33_6 hKp_33_6=>?_))))
     show Ll _ _ (Own _ _ (_::_::_::_::hs)) _ _ ((33,str v33_6)::_) _ _ _
     obtain ⟨hmv33_6,hep_33_6⟩:=hKp_33_6;refine zL (zT (pk [1] Z Z) ?_)
     have hv33:v33_6.length≤2:=by simp at hmv33_6;rcases hmv33_6 with h | h | h <;> subst h <;> decide
     refine zX Z Z Z Z Z (qU Z Z Z (by simp only [zO];omega)) (pk [1] Z Z) (zX Z Z Z Z Z (zN Z zI Z zQ Z Z) (pk [1] Z Z) (qN Z (qY (v:=str ((a.rel.take (((a.rel.length:Int) - (1:Int)).toNat))++v33_6)) (hs':=(_::_::bk_ p3 #[i6_ a.n,str a.set,str ((a.rel.take (((a.rel.length:Int) - (1:Int)).toNat))++v33_6)] 24::_::hs)) 2 Z Z Z Z Z Z zQ Z (by simp) Z (zL (zT (pk [1] Z Z) ?_)))));refine xB (qX ((a.n,a.set,(a.rel.take (((a.rel.length:Int) - (1:Int)).toNat))++v33_6,p_33_6)) ⟨⟨by (try dsimp only);omega,by (try dsimp only);omega⟩,by (try dsimp only);omega,by (try dsimp only);simp only [zM,zO,qL,qM];omega,by (try dsimp only);omega⟩ (Sub.sel [3,4] Z) (fun _ h=>h.sub (zW _ (zG _ (zG _ (zG _ (qJ _)))))))
    refine yM (rp:=rp) (RT:=84) (p:=p_6) (bv:=bv) (hs:=hs) (ok:=fun (v:List UInt8) p'=>v∈([[],[50],[48,49]]:List (List UInt8))∧p'=p_6+1) (v:=fun (v:List UInt8)=>str v) (new:=fun (v:List UInt8)=>[]) (xs:=[.tmp 31,.tmp 32]) (vs:=[pt_ rp,sl_ p32_4 3 3]) ([bk_ p32_4 #[str ([]),str ([50]),str ([48,49])] 9,bk_ p4 #[i6_ 0,str ([]),str ([])] 24,bk_ p3 #[i6_ a.n,str a.set,str a.rel] 24]:List (Nat×Obj)) Z Z Z Z jA Z (fun w1 hw1=>(of_ok B w0 (([bk_ p32_4 #[str ([]),str ([50]),str ([48,49])] 9,bk_ p4 #[i6_ 0,str ([]),str ([])] 24,bk_ p3 #[i6_ a.n,str a.set,str a.rel] 24]:List (Nat×Obj))++hs) rp p_6 bv L (sl_ p32_4 3 3) ([[],[50],[48,49]]:List (List UInt8)) w1 (fun w2 hw2=>hb w2 (qE (f:=([bk_ p32_4 #[str ([]),str ([50]),str ([48,49])] 9,bk_ p4 #[i6_ 0,str ([]),str ([])] 24,bk_ p3 #[i6_ a.n,str a.set,str a.rel] 24]:List (Nat×Obj))) hw2)) hL8 hL (fun w2 h2=>(yH h2 (i:=0) Z (n:=3) (cap:=3) (vs:=strs ([[],[50],[48,49]]:List (List UInt8))) Z Z (by decide))) (by simp) (by omega) hw1).mono fun en w' ⟨v',p',h1,h2,h3⟩=>⟨v',p',h1,h2,h3⟩) fun v33_7 p_33_7 hKp_33_7=>?_
    show Ll _ _ (Own _ _ (_::_::_::_::hs)) _ _ ((33,str v33_7)::_) _ _ _
    obtain ⟨hmv33_7,hep_33_7⟩:=hKp_33_7;refine zL (zT (pk [1] Z Z) ?_);refine qN Z (qC Z (zS 2 Z qG Z Z Z) (zL (zT (pk [1] Z Z) ?_)));refine zX (v:=i6_ (a.rel.length:Int)) Z Z Z Z Z (xK Z qA Z) (pk [1] Z Z) (zX Z Z Z Z Z (xO Z Z Z (by omega) (by omega)) (pk [1] Z Z) (zX (v:=str (a.rel.take (((a.rel.length:Int) - (1:Int)).toNat))) Z Z Z Z Z (yR Z qO Z Z (by omega) (by omega)) (pk [1] Z Z) ?_))
    have hv33:v33_7.length≤2:=by simp at hmv33_7;rcases hmv33_7 with h | h | h <;> subst h <;> decide
    refine zX Z Z Z Z Z (qU Z Z Z (by simp only [zO];omega)) (pk [1] Z Z) (zX Z Z Z Z Z (zN Z zI Z zQ Z Z) (pk [1] Z Z) (qN Z (qY (v:=str ((a.rel.take (((a.rel.length:Int) - (1:Int)).toNat))++v33_7)) (hs':=(_::_::bk_ p3 #[i6_ a.n,str a.set,str ((a.rel.take (((a.rel.length:Int) - (1:Int)).toNat))++v33_7)] 24::_::hs)) 2 Z Z Z Z Z Z zQ Z (by simp) Z (zL (zT (pk [1] Z Z) ?_)))));refine xB (qX ((a.n,a.set,(a.rel.take (((a.rel.length:Int) - (1:Int)).toNat))++v33_7,p_33_7)) ⟨⟨by (try dsimp only);omega,by (try dsimp only);omega⟩,by (try dsimp only);omega,by (try dsimp only);simp only [zM,zO,qL,qM];omega,by (try dsimp only);omega⟩ (Sub.sel [3,4] Z) (fun _ h=>h.sub (zW _ (zG _ (zG _ (zG _ (qJ _)))))))
   ·
    refine qC Z (zS 2 Z qG Z Z Z) (zL (zT (pk [1] Z Z) ?_));refine zX (v:=i6_ (a.rel.length:Int)) Z Z Z Z Z (xK Z qA Z) (pk [1] Z Z) (zX Z Z Z Z Z (xO Z Z Z (by omega) (by omega)) (pk [1] Z Z) (xU Z Z ?_ ?_))
    ·
     refine qC Z (zS 2 Z qG Z Z Z) (zL (zT (pk [1] Z Z) ?_));refine zX (v:=str (a.rel.take (((a.rel.length:Int) - (1:Int)).toNat))) Z Z Z Z Z (yR Z qO Z Z (by omega) (by omega)) (pk [1] Z Z) (qN Z (yM (rp:=rp) (RT:=84) (p:=p_6) (bv:=bv) (hs:=hs) (ok:=fun (v:List UInt8) p'=>v∈([[],[50],[48,49]]:List (List UInt8))∧p'=p_6+1) (v:=fun (v:List UInt8)=>str v) (new:=fun (v:List UInt8)=>[]) (xs:=[.tmp 31,.tmp 32]) (vs:=[pt_ rp,sl_ p32_4 3 3]) ([bk_ p32_4 #[str ([]),str ([50]),str ([48,49])] 9,bk_ p4 #[i6_ 0,str ([]),str ([])] 24,bk_ p3 #[i6_ a.n,str a.set,str a.rel] 24]:List (Nat×Obj)) Z Z Z Z jA Z (fun w1 hw1=>(of_ok B w0 (([bk_ p32_4 #[str ([]),str ([50]),str ([48,49])] 9,bk_ p4 #[i6_ 0,str ([]),str ([])] 24,bk_ p3 #[i6_ a.n,str a.set,str a.rel] 24]:List (Nat×Obj))++hs) rp p_6 bv L (sl_ p32_4 3 3) ([[],[50],[48,49]]:List (List UInt8)) w1 (fun w2 hw2=>hb w2 (qE (f:=([bk_ p32_4 #[str ([]),str ([50]),str ([48,49])] 9,bk_ p4 #[i6_ 0,str ([]),str ([])] 24,bk_ p3 #[i6_ a.n,str a.set,str a.rel] 24]:List (Nat×Obj))) hw2)) hL8 hL (fun w2 h2=>(yH h2 (i:=0) Z (n:=3) (cap:=3) (vs:=strs ([[],[50],[48,49]]:List (List UInt8))) Z Z (by decide))) (by simp) (by omega) hw1).mono fun en w' ⟨v',p',h1,h2,h3⟩=>⟨v',p',h1,h2,h3⟩) fun v33_8 p_33_8 hKp_33_8=>?_))
     show Ll _ _ (Own _ _ (_::_::_::_::hs)) _ _ ((33,str v33_8)::_) _ _ _
     obtain ⟨hmv33_8,hep_33_8⟩:=hKp_33_8;refine zL (zT (pk [1] Z Z) ?_)
     have hv33:v33_8.length≤2:=by simp at hmv33_8;rcases hmv33_8 with h | h | h <;> subst h <;> decide
     refine zX Z Z Z Z Z (qU Z Z Z (by simp only [zO];omega)) (pk [1] Z Z) (zX Z Z Z Z Z (zN Z zI Z zQ Z Z) (pk [1] Z Z) (qN Z (qY (v:=str ((a.rel.take (((a.rel.length:Int) - (1:Int)).toNat))++v33_8)) (hs':=(_::_::bk_ p3 #[i6_ a.n,str a.set,str ((a.rel.take (((a.rel.length:Int) - (1:Int)).toNat))++v33_8)] 24::_::hs)) 2 Z Z Z Z Z Z zQ Z (by simp) Z (zL (zT (pk [1] Z Z) ?_)))));refine xB (qX ((a.n,a.set,(a.rel.take (((a.rel.length:Int) - (1:Int)).toNat))++v33_8,p_33_8)) ⟨⟨by (try dsimp only);omega,by (try dsimp only);omega⟩,by (try dsimp only);omega,by (try dsimp only);simp only [zM,zO,qL,qM];omega,by (try dsimp only);omega⟩ (Sub.sel [3,4] Z) (fun _ h=>h.sub (zW _ (zG _ (zG _ (zG _ (qJ _)))))))
    refine yM (rp:=rp) (RT:=84) (p:=p_6) (bv:=bv) (hs:=hs) (ok:=fun (v:List UInt8) p'=>v∈([[],[50],[48,49]]:List (List UInt8))∧p'=p_6+1) (v:=fun (v:List UInt8)=>str v) (new:=fun (v:List UInt8)=>[]) (xs:=[.tmp 31,.tmp 32]) (vs:=[pt_ rp,sl_ p32_4 3 3]) ([bk_ p32_4 #[str ([]),str ([50]),str ([48,49])] 9,bk_ p4 #[i6_ 0,str ([]),str ([])] 24,bk_ p3 #[i6_ a.n,str a.set,str a.rel] 24]:List (Nat×Obj)) Z Z Z Z jA Z (fun w1 hw1=>(of_ok B w0 (([bk_ p32_4 #[str ([]),str ([50]),str ([48,49])] 9,bk_ p4 #[i6_ 0,str ([]),str ([])] 24,bk_ p3 #[i6_ a.n,str a.set,str a.rel] 24]:List (Nat×Obj))++hs) rp p_6 bv L (sl_ p32_4 3 3) ([[],[50],[48,49]]:List (List UInt8)) w1 (fun w2 hw2=>hb w2 (qE (f:=([bk_ p32_4 #[str ([]),str ([50]),str ([48,49])] 9,bk_ p4 #[i6_ 0,str ([]),str ([])] 24,bk_ p3 #[i6_ a.n,str a.set,str a.rel] 24]:List (Nat×Obj))) hw2)) hL8 hL (fun w2 h2=>(yH h2 (i:=0) Z (n:=3) (cap:=3) (vs:=strs ([[],[50],[48,49]]:List (List UInt8))) Z Z (by decide))) (by simp) (by omega) hw1).mono fun en w' ⟨v',p',h1,h2,h3⟩=>⟨v',p',h1,h2,h3⟩) fun v33_9 p_33_9 hKp_33_9=>?_
    show Ll _ _ (Own _ _ (_::_::_::_::hs)) _ _ ((33,str v33_9)::_) _ _ _
    obtain ⟨hmv33_9,hep_33_9⟩:=hKp_33_9;refine zL (zT (pk [1] Z Z) ?_);refine qN Z (qC Z (zS 2 Z qG Z Z Z) (zL (zT (pk [1] Z Z) ?_)));refine zX (v:=str (a.rel.take (((a.rel.length:Int) - (1:Int)).toNat))) Z Z Z Z Z (yR Z qO Z Z (by omega) (by omega)) (pk [1] Z Z) ?_
    have hv33:v33_9.length≤2:=by simp at hmv33_9;rcases hmv33_9 with h | h | h <;> subst h <;> decide
    refine zX Z Z Z Z Z (qU Z Z Z (by simp only [zO];omega)) (pk [1] Z Z) (zX Z Z Z Z Z (zN Z zI Z zQ Z Z) (pk [1] Z Z) (qN Z (qY (v:=str ((a.rel.take (((a.rel.length:Int) - (1:Int)).toNat))++v33_9)) (hs':=(_::_::bk_ p3 #[i6_ a.n,str a.set,str ((a.rel.take (((a.rel.length:Int) - (1:Int)).toNat))++v33_9)] 24::_::hs)) 2 Z Z Z Z Z Z zQ Z (by simp) Z (zL (zT (pk [1] Z Z) ?_)))));refine xB (qX ((a.n,a.set,(a.rel.take (((a.rel.length:Int) - (1:Int)).toNat))++v33_9,p_33_9)) ⟨⟨by (try dsimp only);omega,by (try dsimp only);omega⟩,by (try dsimp only);omega,by (try dsimp only);simp only [zM,zO,qL,qM];omega,by (try dsimp only);omega⟩ (Sub.sel [3,4] Z) (fun _ h=>h.sub (zW _ (zG _ (zG _ (zG _ (qJ _)))))))
   refine yM (rp:=rp) (RT:=84) (p:=p_6) (bv:=bv) (hs:=hs) (ok:=fun (v:List UInt8) p'=>v∈([[],[50],[48,49]]:List (List UInt8))∧p'=p_6+1) (v:=fun (v:List UInt8)=>str v) (new:=fun (v:List UInt8)=>[]) (xs:=[.tmp 31,.tmp 32]) (vs:=[pt_ rp,sl_ p32_4 3 3]) ([bk_ p32_4 #[str ([]),str ([50]),str ([48,49])] 9,bk_ p4 #[i6_ 0,str ([]),str ([])] 24,bk_ p3 #[i6_ a.n,str a.set,str a.rel] 24]:List (Nat×Obj)) Z Z Z Z jA Z (fun w1 hw1=>(of_ok B w0 (([bk_ p32_4 #[str ([]),str ([50]),str ([48,49])] 9,bk_ p4 #[i6_ 0,str ([]),str ([])] 24,bk_ p3 #[i6_ a.n,str a.set,str a.rel] 24]:List (Nat×Obj))++hs) rp p_6 bv L (sl_ p32_4 3 3) ([[],[50],[48,49]]:List (List UInt8)) w1 (fun w2 hw2=>hb w2 (qE (f:=([bk_ p32_4 #[str ([]),str ([50]),str ([48,49])] 9,bk_ p4 #[i6_ 0,str ([]),str ([])] 24,bk_ p3 #[i6_ a.n,str a.set,str a.rel] 24]:List (Nat×Obj))) hw2)) hL8 hL (fun w2 h2=>(yH h2 (i:=0) Z (n:=3) (cap:=3) (vs:=strs ([[],[50],[48,49]]:List (List UInt8))) Z Z (by decide))) (by simp) (by omega) hw1).mono fun en w' ⟨v',p',h1,h2,h3⟩=>⟨v',p',h1,h2,h3⟩) fun v33_10 p_33_10 hKp_33_10=>?_
   show Ll _ _ (Own _ _ (_::_::_::_::hs)) _ _ ((33,str v33_10)::_) _ _ _
   obtain ⟨hmv33_10,hep_33_10⟩:=hKp_33_10;refine zL (zT (pk [1] Z Z) ?_);refine xU Z Z ?_ ?_
   ·
    refine qC Z (zS 2 Z qG Z Z Z) (zL (zT (pk [1] Z Z) ?_));refine qN Z (qC Z (zS 2 Z qG Z Z Z) (zL (zT (pk [1] Z Z) ?_)));refine zX (v:=i6_ (a.rel.length:Int)) Z Z Z Z Z (xK Z qA Z) (pk [1] Z Z) (zX Z Z Z Z Z (xO Z Z Z (by omega) (by omega)) (pk [1] Z Z) (zX (v:=str (a.rel.take (((a.rel.length:Int) - (1:Int)).toNat))) Z Z Z Z Z (yR Z qO Z Z (by omega) (by omega)) (pk [1] Z Z) ?_))
    have hv33:v33_10.length≤2:=by simp at hmv33_10;rcases hmv33_10 with h | h | h <;> subst h <;> decide
    refine zX Z Z Z Z Z (qU Z Z Z (by simp only [zO];omega)) (pk [1] Z Z) (zX Z Z Z Z Z (zN Z zI Z zQ Z Z) (pk [1] Z Z) (qN Z (qY (v:=str ((a.rel.take (((a.rel.length:Int) - (1:Int)).toNat))++v33_10)) (hs':=(_::_::bk_ p3 #[i6_ a.n,str a.set,str ((a.rel.take (((a.rel.length:Int) - (1:Int)).toNat))++v33_10)] 24::_::hs)) 2 Z Z Z Z Z Z zQ Z (by simp) Z (zL (zT (pk [1] Z Z) ?_)))));refine xB (qX ((a.n,a.set,(a.rel.take (((a.rel.length:Int) - (1:Int)).toNat))++v33_10,p_33_10)) ⟨⟨by (try dsimp only);omega,by (try dsimp only);omega⟩,by (try dsimp only);omega,by (try dsimp only);simp only [zM,zO,qL,qM];omega,by (try dsimp only);omega⟩ (Sub.sel [3,4] Z) (fun _ h=>h.sub (zW _ (zG _ (zG _ (zG _ (qJ _)))))))
   refine qC Z (zS 2 Z qG Z Z Z) (zL (zT (pk [1] Z Z) ?_));refine zX (v:=i6_ (a.rel.length:Int)) Z Z Z Z Z (xK Z qA Z) (pk [1] Z Z) (zX Z Z Z Z Z (xO Z Z Z (by omega) (by omega)) (pk [1] Z Z) (qN Z (qC Z (zS 2 Z qG Z Z Z) (zL (zT (pk [1] Z Z) ?_)))));refine zX (v:=str (a.rel.take (((a.rel.length:Int) - (1:Int)).toNat))) Z Z Z Z Z (yR Z qO Z Z (by omega) (by omega)) (pk [1] Z Z) ?_
   have hv33:v33_10.length≤2:=by simp at hmv33_10;rcases hmv33_10 with h | h | h <;> subst h <;> decide
   refine zX Z Z Z Z Z (qU Z Z Z (by simp only [zO];omega)) (pk [1] Z Z) (zX Z Z Z Z Z (zN Z zI Z zQ Z Z) (pk [1] Z Z) (qN Z (qY (v:=str ((a.rel.take (((a.rel.length:Int) - (1:Int)).toNat))++v33_10)) (hs':=(_::_::bk_ p3 #[i6_ a.n,str a.set,str ((a.rel.take (((a.rel.length:Int) - (1:Int)).toNat))++v33_10)] 24::_::hs)) 2 Z Z Z Z Z Z zQ Z (by simp) Z (zL (zT (pk [1] Z Z) ?_)))));refine xB (qX ((a.n,a.set,(a.rel.take (((a.rel.length:Int) - (1:Int)).toNat))++v33_10,p_33_10)) ⟨⟨by (try dsimp only);omega,by (try dsimp only);omega⟩,by (try dsimp only);omega,by (try dsimp only);simp only [zM,zO,qL,qM];omega,by (try dsimp only);omega⟩ (Sub.sel [3,4] Z) (fun _ h=>h.sub (zW _ (zG _ (zG _ (zG _ (qJ _)))))))
  refine zF (zB (zA 2 Z (zH (zC [3,4,36] [_,_,_] Z (xI Z (fun h36=>?_) (fun h36=>?_))))))
  ·
   refine zF (qD (xM (ok:=fun (t:List UInt8)=>t.length≤40000) (v:=fun (t:List UInt8)=>str t) (xs:=[.const (str ([48])),.const (i6_ 9)]) (vs:=[str ([48]),i6_ 9]) Z Z Z Z Tryd.call85 Z (fun w1 hw1=>(many_ok ([48]) w1 9 (by decide) (by decide) Z).mono fun en w' ⟨t,h1,h2,h3⟩=>⟨t,h1,h2,h3⟩) fun t38 hS38=>?_))
   show Ll _ _ (Own _ _ (_::_::_::hs)) _ _ ((38,str t38)::_) _ _ _
   have hlt38:=hS38;refine xM (ok:=fun (t:List UInt8)=>t.length≤40000) (v:=fun (t:List UInt8)=>str t) (xs:=[.const (str ([49])),.const (i6_ 81)]) (vs:=[str ([49]),i6_ 81]) Z Z Z Z Tryd.call85 Z (fun w1 hw1=>(many_ok ([49]) w1 81 (by decide) (by decide) Z).mono fun en w' ⟨t,h1,h2,h3⟩=>⟨t,h1,h2,h3⟩) fun t39 hS39=>?_
   show Ll _ _ (Own _ _ (_::_::_::hs)) _ _ ((39,str t39)::_) _ _ _
   have hlt39:=hS39;refine qC (v:=.agg #[i6_ 9,str t38,str t39]) Z (OpQ.build (xs:=[.const (i6_ 9),.tmp 38,.tmp 39]) (vs:=[i6_ 9,str t38,str t39]) Z Z (by kernel_rfl)) (yL (cs':=#[i6_ 9,str t38,str t39]) (hs':=(bk_ p4 #[i6_ 9,str t38,str t39] 24::_::_::hs)) 0 Z Z Z Z Z (by kernel_rfl:_=some Tryd.t24) Z Z Z Z Z (zL (zC [4] [_] Z (qI (Kt.endBox (cs:=#[i6_ 9,str t38,str t39]) 0 Z Z Z zP zJ fun w' hw=>?_)))))
   exact ⟨⟨9,t38,t39⟩,p_6,rfl,⟨⟨⟨by dsimp only;omega,by dsimp only;omega⟩,by dsimp only;omega,by dsimp only;omega⟩,by omega⟩,hw.sub (zW _ (zW _ (zG _ (qJ _))))⟩
  refine qR (qX (a.n,a.set,a.rel,p_6) ⟨⟨by (try dsimp only);omega,by (try dsimp only);omega⟩,by (try dsimp only);omega,by (try dsimp only);omega,by (try dsimp only);omega⟩ (Sub.sel [3,4] Z) (fun _ h=>h.sub (zG _ (zG _ (zG _ (qJ _))))))
 rintro ⟨N,S,R,p9⟩ ⟨⟨hN0,hN1⟩,hS,hR,hp9⟩
 dsimp only;refine zC [3,4] [_,_] Z (zF (qD (qC Z (zU (cs:=#[i6_ N,str S,str R]) 1 Z zP Z Z zJ) (yL (cs':=#[i6_ N,str S,str R]) (hs':=(bk_ p4 #[i6_ N,str S,str R] 24::_::_::hs)) 0 Z Z Z Z Z (by kernel_rfl:_=some Tryd.t24) Z Z Z Z Z (zL (zC [4] [_] Z (qI (Kt.endBox (cs:=#[i6_ N,str S,str R]) 0 Z Z Z zP zJ fun w' hw=>?_))))))))
 exact ⟨⟨N,S,R⟩,p9,rfl,⟨⟨⟨by dsimp only;omega,by dsimp only;omega⟩,by dsimp only;omega,by dsimp only;omega⟩,by omega⟩,hw.sub (zW _ (zW _ (zG _ (qJ _))))⟩
end Go.Proofs.YteccfipfimbdgaaDoor
namespace Go.Proofs.YteccfipfimbdgaaDoor
open Go.RowKit Go.Wk
set_option linter.unusedSimpArgs false
set_option maxHeartbeats 400000 in
theorem drawPlay_ok (B:Nat) (w0:World) (hs:List (Nat×Obj)) (bv:Value) (L:List Int) (w:World) (hb:∀ w,Own B w0 hs w→Row w bv (u8s L)) (hL8:Bytes8 L) (hLs:L.length≤1048576) (hw:Own B w0 hs w) :
    Calls Tryd.prog 20 [bv].toArray w fun en w'=>∃ a:St,∃ b:St,∃ s:List UInt8,en=.returned (.tuple #[vS a,vS b,str s])∧(a.Tame∧b.Tame∧s.length≤60)∧Own B w0 hs w':=by
 refine fnStartC (Own B w0 hs) (n:=67) (e:=[(0,bv)]) Tryd.func20 Z Z Z Z Ends.both hw (zF (qD (xW Z Z Z Z yQ fun p2 hp2=>?_)))
 show Ll _ _ (Own _ _ (bk_ p2 #[i6_ 0,str ([]),str ([])] 24::hs)) _ _ ((2,pt_ p2)::_) _ _ _;refine xW Z Z Z Z yQ fun p3 hp3=>?_
 show Ll _ _ (Own _ _ (bk_ p3 #[i6_ 0,str ([]),str ([])] 24::_::hs)) _ _ ((3,pt_ p3)::_) _ _ _;refine qC (v:=str ([])) Z (yV Z Z) (zL (zC [0,2,3] [_,_,_] Z (zF (qD (qQ 1 Z (Ll.callBack (ok:=fun ((rp,v,M):Nat×Value×List Int)=>M.length≤2000∧Bytes8 M∧∀ w1,Own B w0 hs w1→Row w1 v (u8s M)) (v:=fun ((rp,v,M):Nat×Value×List Int)=>.pointer (some ⟨rp,0,none⟩)) (new:=fun ((rp,v,M):Nat×Value×List Int)=>[(rp,.cells #[v,.int .i64 ((0:Nat):Int)] 84 (0,0))]) (hs:=hs) (xs:=[.tmp 10]) (vs:=[bv]) ([bk_ p3 #[i6_ 0,str ([]),str ([])] 24,bk_ p2 #[i6_ 0,str ([]),str ([])] 24]:List (Nat×Obj)) Z Z Z Z Tryd.call29 Z (fun w1 hw1=>(open_ok B w0 ([bk_ p3 #[i6_ 0,str ([]),str ([])] 24,bk_ p2 #[i6_ 0,str ([]),str ([])] 24]:List (Nat×Obj)) hs _ _ w1 hb hL8 hLs hw1).mono fun en w' ⟨rp,v,M,h1,h2,h3⟩=>⟨(rp,v,M),h1,h2,h3⟩) fun ⟨rp,dv,M⟩ hO=>?_))))))
 dsimp only at hO
 obtain ⟨hM2,hM8,hMb⟩:=hO
 show Ll _ _ (Own _ _ (_::_::_::hs)) _ _ ((11,pt_ rp)::_) _ _ _;refine qQ 1 Z (zL (zC [2,3,5] [_,_,_] Z (zF (qD (qQ 1 Z (yM (rp:=rp) (RT:=84) (p:=0) (bv:=dv) (hs:=hs) (ok:=fun ((a,b):St×St) p'=>((a.Fine∧a.n≤5)∧(b.Fine∧b.n≤5))∧p'≤0+1000) (v:=fun ((a,b):St×St)=>.tuple #[vS a,vS b]) (new:=fun ((a,b):St×St)=>[]) (xs:=[.tmp 13]) (vs:=[pt_ rp]) ([bk_ p3 #[i6_ 0,str ([]),str ([])] 24,bk_ p2 #[i6_ 0,str ([]),str ([])] 24]:List (Nat×Obj)) Z Z Z Z Tryd.call45 Z (fun w1 hw1=>(l1Pair_ok B w0 (([bk_ p3 #[i6_ 0,str ([]),str ([])] 24,bk_ p2 #[i6_ 0,str ([]),str ([])] 24]:List (Nat×Obj))++hs) rp 0 dv M w1 (fun w2 hw2=>hMb w2 (qE (f:=([bk_ p3 #[i6_ 0,str ([]),str ([])] 24,bk_ p2 #[i6_ 0,str ([]),str ([])] 24]:List (Nat×Obj))) hw2)) hM8 hM2 (by omega) hw1).mono fun en w' ⟨a',b',p',h1,h2,h3⟩=>⟨(a',b'),p',h1,h2,h3⟩) fun ⟨a14,b14⟩ p_14 hKp_14=>?_))))))
 show Ll _ _ (Own _ _ (_::_::_::hs)) _ _ ((14,.tuple #[vS a14,vS b14])::_) _ _ _
 obtain ⟨⟨⟨hfa14,h5a14⟩,⟨hfb14,h5b14⟩⟩,hep_14⟩:=hKp_14;refine qQ 1 Z (qC (v:=vS a14) Z (xA Z Z Z) (qC (v:=vS b14) Z (xA Z Z Z) (xW Z Z Z Z yQ fun p6 hp6=>?_)))
 show Ll _ _ (Own _ _ (bk_ p6 #[i6_ 0,str ([]),str ([])] 24::_::_::_::hs)) _ _ ((6,pt_ p6)::_) _ _ _;refine xW Z Z Z Z yQ fun p7 hp7=>?_
 show Ll _ _ (Own _ _ (bk_ p7 #[i6_ 0,str ([]),str ([])] 24::_::_::_::_::hs)) _ _ ((7,pt_ p7)::_) _ _ _;refine yL (cs':=#[i6_ a14.n,str a14.set,str a14.rel]) (hs':=(_::bk_ p6 #[i6_ a14.n,str a14.set,str a14.rel] 24::_::_::_::hs)) 1 Z Z Z Z Z (by kernel_rfl:_=some Tryd.t24) Z Z Z Z Z (yL (cs':=#[i6_ b14.n,str b14.set,str b14.rel]) (hs':=(bk_ p7 #[i6_ b14.n,str b14.set,str b14.rel] 24::_::_::_::_::hs)) 0 Z Z Z Z Z (by kernel_rfl:_=some Tryd.t24) Z Z Z Z Z (zL (zC [2,3,5,6,7] [_,_,_,_,_] Z (zF (zB (zD (v:=str ([])) Z (yV Z Z) (zH (zC [2,3,5,6,7,8] [_,_,_,_,_,_] Z (zF (zF (qD (qQ 1 Z (yM (rp:=rp) (RT:=84) (p:=p_14) (bv:=dv) (hs:=hs) (ok:=fun (k:Int) p'=>0≤k∧(1≤(4:Int)→k<4)∧p'=p_14+1) (v:=fun (k:Int)=>i6_ k) (new:=fun (k:Int)=>[]) (xs:=[.tmp 17,.const (i6_ 4)]) (vs:=[pt_ rp,i6_ 4]) ([bk_ p7 #[i6_ b14.n,str b14.set,str b14.rel] 24,bk_ p6 #[i6_ a14.n,str a14.set,str a14.rel] 24,bk_ p3 #[i6_ 0,str ([]),str ([])] 24,bk_ p2 #[i6_ 0,str ([]),str ([])] 24]:List (Nat×Obj)) Z Z Z Z xP Z (fun w1 hw1=>(pick_ok B w0 (([bk_ p7 #[i6_ b14.n,str b14.set,str b14.rel] 24,bk_ p6 #[i6_ a14.n,str a14.set,str a14.rel] 24,bk_ p3 #[i6_ 0,str ([]),str ([])] 24,bk_ p2 #[i6_ 0,str ([]),str ([])] 24]:List (Nat×Obj))++hs) rp p_14 dv M 4 w1 (fun w2 hw2=>hMb w2 (qE (f:=([bk_ p7 #[i6_ b14.n,str b14.set,str b14.rel] 24,bk_ p6 #[i6_ a14.n,str a14.set,str a14.rel] 24,bk_ p3 #[i6_ 0,str ([]),str ([])] 24,bk_ p2 #[i6_ 0,str ([]),str ([])] 24]:List (Nat×Obj))) hw2)) hM8 hM2 (by omega) hw1).mono fun en w' ⟨k',p',h1,h2,h3⟩=>⟨k',p',h1,h2,h3⟩) fun k18 p_18 hKp_18=>?_)))))))))))))
 show Ll _ _ (Own _ _ (_::_::_::_::_::hs)) _ _ ((18,i6_ k18)::_) _ _ _
 obtain ⟨h0k18,h1k18,hep_18⟩:=hKp_18
 try have hltk18:=h1k18 (by first | omega | (split <;> omega) | decide);refine qQ 1 Z (zL (zC [2,3,5,6,7,8,9] [_,_,_,_,_,_,_] Z (qT (xF (σ:=Int×List UInt8×Nat) (fun ⟨n,g,p0⟩=>(0≤n∧n≤3)∧(g.length:Int)+14*n≤42∧(p0:Int)+2*n≤2000) (fun ⟨n,g,p0⟩=>[(2,pt_ p2),(3,pt_ p3),(5,pt_ rp),(6,pt_ p6),(7,pt_ p7),(8,str g),(9,i6_ n)]) (fun ⟨n,g,p0⟩=>Own B w0 (bk_ p7 #[i6_ b14.n,str b14.set,str b14.rel] 24::bk_ p6 #[i6_ a14.n,str a14.set,str a14.rel] 24::bk_ p3 #[i6_ 0,str ([]),str ([])] 24::bk_ p2 #[i6_ 0,str ([]),str ([])] 24::bk_ rp #[dv,i6_ (p0:Int)] 84::hs)) (fun ⟨n,g,p0⟩=>n.toNat) (k18,[],p_18) ⟨⟨by omega,by omega⟩,by simp only [qM];omega,by omega⟩ (Sub.sel [2,3,5,6,7,8,9] Z) (fun _ h=>h) ?_))))
 rintro ⟨n,g,p0⟩ ⟨⟨hn0,hn3⟩,hgl,hp0⟩
 dsimp only
 have hloa:=hfa14.lo
 have hlob:=hfb14.lo;refine zF (zF (zB (zA 2 Z (zH (zC [2,3,5,6,7,8,9,20] [_,_,_,_,_,_,_,_] Z (xI Z (fun h20=>?_) (fun h20=>?_)))))))
 ·
  refine qR (zC [2,3,5,6,7,8,9] [_,_,_,_,_,_,_] Z (zF (qT (zF (zF (zB (zA 1 Z (zD Z (OpQ.sneq Z Z Z) (zH (zC [2,3,5,6,7,8,9,24] [_,_,_,_,_,_,_,_] Z (Wk.join (σ:=List UInt8) (fun g2=>g2.length≤g.length+1) (fun g2=>[(2,pt_ p2),(3,pt_ p3),(5,pt_ rp),(6,pt_ p6),(7,pt_ p7),(8,str g2),(9,i6_ n)]) (fun g2=>Own B w0 (bk_ p7 #[i6_ b14.n,str b14.set,str b14.rel] 24::bk_ p6 #[i6_ a14.n,str a14.set,str a14.rel] 24::bk_ p3 #[i6_ 0,str ([]),str ([])] 24::bk_ p2 #[i6_ 0,str ([]),str ([])] 24::bk_ rp #[dv,i6_ (p0:Int)] 84::hs)) ?_ ?_)))))))))))
  ·
   refine yA (b:=!(g==([]))) Z (fun h24=>?_) (fun h24=>?_)
   ·
    replace h24:=not_true h24;refine zB (zA 1 Z (zD Z (qU Z Z Z (by first | omega | (simp only [zM,qL,qM,zO,qB];omega))) (zA 1 Z (zH (qX (g++([32])) (by (try dsimp only);(try simp only [zM,qL,qM,zO,qB]);omega) (Sub.sel [2,3,5,6,7,8,9] Z) (fun _ h=>h))))))
   replace h24:=not_false h24;refine qR (qX (g) (by (try dsimp only);(try simp only [zM,qL,qM,zO,qB]);omega) (Sub.sel [2,3,5,6,7,8,9] Z) (fun _ h=>h))
  rintro g2 hg2;refine zC [2,3,5,6,7,8,9] [_,_,_,_,_,_,_] Z (zF (qD (qQ 1 Z (yM (rp:=rp) (RT:=84) (p:=p0) (bv:=dv) (hs:=hs) (ok:=fun (k:Int) p'=>0≤k∧(1≤(2:Int)→k<2)∧p'=p0+1) (v:=fun (k:Int)=>i6_ k) (new:=fun (k:Int)=>[]) (xs:=[.tmp 27,.const (i6_ 2)]) (vs:=[pt_ rp,i6_ 2]) ([bk_ p7 #[i6_ b14.n,str b14.set,str b14.rel] 24,bk_ p6 #[i6_ a14.n,str a14.set,str a14.rel] 24,bk_ p3 #[i6_ 0,str ([]),str ([])] 24,bk_ p2 #[i6_ 0,str ([]),str ([])] 24]:List (Nat×Obj)) Z Z Z Z xP Z (fun w1 hw1=>(pick_ok B w0 (([bk_ p7 #[i6_ b14.n,str b14.set,str b14.rel] 24,bk_ p6 #[i6_ a14.n,str a14.set,str a14.rel] 24,bk_ p3 #[i6_ 0,str ([]),str ([])] 24,bk_ p2 #[i6_ 0,str ([]),str ([])] 24]:List (Nat×Obj))++hs) rp p0 dv M 2 w1 (fun w2 hw2=>hMb w2 (qE (f:=([bk_ p7 #[i6_ b14.n,str b14.set,str b14.rel] 24,bk_ p6 #[i6_ a14.n,str a14.set,str a14.rel] 24,bk_ p3 #[i6_ 0,str ([]),str ([])] 24,bk_ p2 #[i6_ 0,str ([]),str ([])] 24]:List (Nat×Obj))) hw2)) hM8 hM2 (by omega) hw1).mono fun en w' ⟨k',p',h1,h2,h3⟩=>⟨k',p',h1,h2,h3⟩) fun k28 p_28 hKp_28=>?_))))
  show Ll _ _ (Own _ _ (_::_::_::_::_::hs)) _ _ ((28,i6_ k28)::_) _ _ _
  obtain ⟨h0k28,h1k28,hep_28⟩:=hKp_28
  try have hltk28:=h1k28 (by first | omega | (split <;> omega) | decide);refine qQ 1 Z (zL (zC [2,3,5,6,7,8,9,29] [_,_,_,_,_,_,_,_] Z (xI Z (fun h29=>?_) (fun h29=>?_))))
  ·
   refine qD (qQ 1 Z (qC Z (qU Z Z Z (by first | omega | (simp only [zM,qL,qM,zO,qB];omega))) (qQ 1 Z (qC Z (zN Z zI Z zY Z Z) (qC Z (zS 1 Z qF Z Z Z) (yM (rp:=rp) (RT:=84) (p:=p_28) (bv:=dv) (hs:=hs) (ok:=fun (k:Int) p'=>0≤k∧(1≤a14.n→k<a14.n)∧p'=p_28+1) (v:=fun (k:Int)=>i6_ k) (new:=fun (k:Int)=>[]) (xs:=[.tmp 32,.tmp 34]) (vs:=[pt_ rp,i6_ a14.n]) ([bk_ p7 #[i6_ b14.n,str b14.set,str b14.rel] 24,bk_ p6 #[i6_ a14.n,str a14.set,str a14.rel] 24,bk_ p3 #[i6_ 0,str ([]),str ([])] 24,bk_ p2 #[i6_ 0,str ([]),str ([])] 24]:List (Nat×Obj)) Z Z Z Z xP Z (fun w1 hw1=>(pick_ok B w0 (([bk_ p7 #[i6_ b14.n,str b14.set,str b14.rel] 24,bk_ p6 #[i6_ a14.n,str a14.set,str a14.rel] 24,bk_ p3 #[i6_ 0,str ([]),str ([])] 24,bk_ p2 #[i6_ 0,str ([]),str ([])] 24]:List (Nat×Obj))++hs) rp p_28 dv M a14.n w1 (fun w2 hw2=>hMb w2 (qE (f:=([bk_ p7 #[i6_ b14.n,str b14.set,str b14.rel] 24,bk_ p6 #[i6_ a14.n,str a14.set,str a14.rel] 24,bk_ p3 #[i6_ 0,str ([]),str ([])] 24,bk_ p2 #[i6_ 0,str ([]),str ([])] 24]:List (Nat×Obj))) hw2)) hM8 hM2 (by omega) hw1).mono fun en w' ⟨k',p',h1,h2,h3⟩=>⟨k',p',h1,h2,h3⟩) fun k35 p_35 hKp_35=>?_))))))
   show Ll _ _ (Own _ _ (_::_::_::_::_::hs)) _ _ ((35,i6_ k35)::_) _ _ _
   obtain ⟨h0k35,h1k35,hep_35⟩:=hKp_35
   try have hltk35:=h1k35 (by first | omega | (split <;> omega) | decide);refine qC (v:=str (decS k35.toNat)) Z (qH Z Tryd.call47 Z zZ (fun w1 hw1=>l15Dec_ok k35 w1 (by omega) (by omega))) ?_
   have hd37:=decS_len k35.toNat 12 (by omega) (by decide);refine qC Z (qU Z Z Z (by first | omega | (simp only [zM,qL,qM,zO,qB];omega))) (qQ 1 Z (zL (zC [2,3,5,6,7,8,9] [_,_,_,_,_,_,_] Z (zB (zA 1 Z (zD Z (xO Z Z Z (by omega) (by omega)) (zA 1 Z (zH (qZ ((n - 1,(g2++([97]))++(decS k35.toNat),p_35)) ⟨⟨by omega,by omega⟩,(by (try dsimp only);(try simp only [zM,qL,qM,zO,qB]);omega),by (try dsimp only);omega⟩ (by (try dsimp only);omega) (Sub.sel [2,3,5,6,7,8,9] Z) (fun _ h=>h))))))))))
  refine qD (qQ 1 Z (qC Z (qU Z Z Z (by first | omega | (simp only [zM,qL,qM,zO,qB];omega))) (qQ 1 Z (qC Z (zN Z zI Z zY Z Z) (qC Z (zS 0 Z qF Z Z Z) (yM (rp:=rp) (RT:=84) (p:=p_28) (bv:=dv) (hs:=hs) (ok:=fun (k:Int) p'=>0≤k∧(1≤b14.n→k<b14.n)∧p'=p_28+1) (v:=fun (k:Int)=>i6_ k) (new:=fun (k:Int)=>[]) (xs:=[.tmp 40,.tmp 42]) (vs:=[pt_ rp,i6_ b14.n]) ([bk_ p7 #[i6_ b14.n,str b14.set,str b14.rel] 24,bk_ p6 #[i6_ a14.n,str a14.set,str a14.rel] 24,bk_ p3 #[i6_ 0,str ([]),str ([])] 24,bk_ p2 #[i6_ 0,str ([]),str ([])] 24]:List (Nat×Obj)) Z Z Z Z xP Z (fun w1 hw1=>(pick_ok B w0 (([bk_ p7 #[i6_ b14.n,str b14.set,str b14.rel] 24,bk_ p6 #[i6_ a14.n,str a14.set,str a14.rel] 24,bk_ p3 #[i6_ 0,str ([]),str ([])] 24,bk_ p2 #[i6_ 0,str ([]),str ([])] 24]:List (Nat×Obj))++hs) rp p_28 dv M b14.n w1 (fun w2 hw2=>hMb w2 (qE (f:=([bk_ p7 #[i6_ b14.n,str b14.set,str b14.rel] 24,bk_ p6 #[i6_ a14.n,str a14.set,str a14.rel] 24,bk_ p3 #[i6_ 0,str ([]),str ([])] 24,bk_ p2 #[i6_ 0,str ([]),str ([])] 24]:List (Nat×Obj))) hw2)) hM8 hM2 (by omega) hw1).mono fun en w' ⟨k',p',h1,h2,h3⟩=>⟨k',p',h1,h2,h3⟩) fun k43 p_43 hKp_43=>?_))))))
  show Ll _ _ (Own _ _ (_::_::_::_::_::hs)) _ _ ((43,i6_ k43)::_) _ _ _
  obtain ⟨h0k43,h1k43,hep_43⟩:=hKp_43
  try have hltk43:=h1k43 (by first | omega | (split <;> omega) | decide);refine qC (v:=str (decS k43.toNat)) Z (qH Z Tryd.call47 Z zZ (fun w1 hw1=>l15Dec_ok k43 w1 (by omega) (by omega))) ?_
  have hd45:=decS_len k43.toNat 12 (by omega) (by decide);refine qC Z (qU Z Z Z (by first | omega | (simp only [zM,qL,qM,zO,qB];omega))) (qQ 1 Z (zL (zC [2,3,5,6,7,8,9] [_,_,_,_,_,_,_] Z (zB (zA 1 Z (zD Z (xO Z Z Z (by omega) (by omega)) (zA 1 Z (zH (qZ ((n - 1,(g2++([98]))++(decS k43.toNat),p_43)) ⟨⟨by omega,by omega⟩,(by (try dsimp only);(try simp only [zM,qL,qM,zO,qB]);omega),by (try dsimp only);omega⟩ (by (try dsimp only);omega) (Sub.sel [2,3,5,6,7,8,9] Z) (fun _ h=>h))))))))))
 refine yY Z (zC [2,3,5,6,7,8] [_,_,_,_,_,_] Z (zF (zF (qD (qQ 1 Z (yM (rp:=rp) (RT:=84) (p:=p0) (bv:=dv) (hs:=hs) (ok:=fun (k:Int) p'=>0≤k∧(1≤(16:Int)→k<16)∧p'=p0+1) (v:=fun (k:Int)=>i6_ k) (new:=fun (k:Int)=>[]) (xs:=[.tmp 46,.const (i6_ 16)]) (vs:=[pt_ rp,i6_ 16]) ([bk_ p7 #[i6_ b14.n,str b14.set,str b14.rel] 24,bk_ p6 #[i6_ a14.n,str a14.set,str a14.rel] 24,bk_ p3 #[i6_ 0,str ([]),str ([])] 24,bk_ p2 #[i6_ 0,str ([]),str ([])] 24]:List (Nat×Obj)) Z Z Z Z xP Z (fun w1 hw1=>(pick_ok B w0 (([bk_ p7 #[i6_ b14.n,str b14.set,str b14.rel] 24,bk_ p6 #[i6_ a14.n,str a14.set,str a14.rel] 24,bk_ p3 #[i6_ 0,str ([]),str ([])] 24,bk_ p2 #[i6_ 0,str ([]),str ([])] 24]:List (Nat×Obj))++hs) rp p0 dv M 16 w1 (fun w2 hw2=>hMb w2 (qE (f:=([bk_ p7 #[i6_ b14.n,str b14.set,str b14.rel] 24,bk_ p6 #[i6_ a14.n,str a14.set,str a14.rel] 24,bk_ p3 #[i6_ 0,str ([]),str ([])] 24,bk_ p2 #[i6_ 0,str ([]),str ([])] 24]:List (Nat×Obj))) hw2)) hM8 hM2 (by omega) hw1).mono fun en w' ⟨k',p',h1,h2,h3⟩=>⟨k',p',h1,h2,h3⟩) fun k47 p_47 hKp_47=>?_))))))
 show Ll _ _ (Own _ _ (_::_::_::_::_::hs)) _ _ ((47,i6_ k47)::_) _ _ _
 obtain ⟨h0k47,h1k47,hep_47⟩:=hKp_47
 try have hltk47:=h1k47 (by first | omega | (split <;> omega) | decide);refine zL (zC [2,3,5,6,7,8,47] [_,_,_,_,_,_,_] Z (qT (zF (zB (zA 2 Z (zH (zC [2,3,5,6,7,8,47,48] [_,_,_,_,_,_,_,_] Z (xI Z (fun h48=>?_) (fun h48=>?_)))))))))
 ·
  refine zF (jG (S:=Own B w0 [bk_ p7 #[i6_ b14.n,str b14.set,str b14.rel] 24,bk_ p6 #[i6_ a14.n,str a14.set,str a14.rel] 24]) [(0,true),(1,true),(2,true),(3,true),(4,false),(5,false),(6,true),(7,false),(8,false),(9,true)] yJ (fun _ h=>h.drawn) (by kernel_rfl) (xE Z Z Z Z Z (zU (cs:=#[i6_ a14.n,str a14.set,str a14.rel]) 1 Z zP Z Z zJ) (pk [0,1] Z Z) (xE Z Z Z Z Z (zU (cs:=#[i6_ b14.n,str b14.set,str b14.rel]) 0 Z zP Z Z zJ) (pk [0,1] Z Z) (xT 2 Z (pk [0,1] Z Z) (yZ Z (yS (xs:=[.const (str ([32])),.const (str ([97,57])),.const (str ([32,99,48])),.const (str ([48]))]) (vs:=[str ([32]),str ([97,57]),str ([32,99,48]),str ([48])]) xZ Z Z Z Z Z Z (by decide) Z fun p54 hp54=>(zL (yP (pk [1,2] Z Z) ?_))))))));refine yZ Z (yM (rp:=rp) (RT:=84) (p:=p_47) (bv:=dv) (hs:=hs) (ok:=fun (v:List UInt8) p'=>v∈([[32],[97,57],[32,99,48],[48]]:List (List UInt8))∧p'=p_47+1) (v:=fun (v:List UInt8)=>str v) (new:=fun (v:List UInt8)=>[]) (xs:=[.tmp 53,.tmp 54]) (vs:=[pt_ rp,sl_ p54 4 4]) ([bk_ p54 #[str ([32]),str ([97,57]),str ([32,99,48]),str ([48])] 9,bk_ p7 #[i6_ b14.n,str b14.set,str b14.rel] 24,bk_ p6 #[i6_ a14.n,str a14.set,str a14.rel] 24,bk_ p3 #[i6_ 0,str ([]),str ([])] 24,bk_ p2 #[i6_ 0,str ([]),str ([])] 24]:List (Nat×Obj)) Z Z Z Z jA Z (fun w1 hw1=>(of_ok B w0 (([bk_ p54 #[str ([32]),str ([97,57]),str ([32,99,48]),str ([48])] 9,bk_ p7 #[i6_ b14.n,str b14.set,str b14.rel] 24,bk_ p6 #[i6_ a14.n,str a14.set,str a14.rel] 24,bk_ p3 #[i6_ 0,str ([]),str ([])] 24,bk_ p2 #[i6_ 0,str ([]),str ([])] 24]:List (Nat×Obj))++hs) rp p_47 dv M (sl_ p54 4 4) ([[32],[97,57],[32,99,48],[48]]:List (List UInt8)) w1 (fun w2 hw2=>hMb w2 (qE (f:=([bk_ p54 #[str ([32]),str ([97,57]),str ([32,99,48]),str ([48])] 9,bk_ p7 #[i6_ b14.n,str b14.set,str b14.rel] 24,bk_ p6 #[i6_ a14.n,str a14.set,str a14.rel] 24,bk_ p3 #[i6_ 0,str ([]),str ([])] 24,bk_ p2 #[i6_ 0,str ([]),str ([])] 24]:List (Nat×Obj))) hw2)) hM8 hM2 (fun w2 h2=>(yH h2 (i:=0) Z (n:=4) (cap:=4) (vs:=strs ([[32],[97,57],[32,99,48],[48]]:List (List UInt8))) Z Z (by decide))) (by simp) (by omega) hw1).mono fun en w' ⟨v',p',h1,h2,h3⟩=>⟨v',p',h1,h2,h3⟩) fun v55 p_55 hKp_55=>?_)
  show Ll _ _ (Own _ _ (_::_::_::_::_::_::hs)) _ _ ((55,str v55)::_) _ _ _
  obtain ⟨hmv55,hep_55⟩:=hKp_55
  have hqv55:=len_of (a:=1) (b:=3) hmv55 (by decide);refine zL (yP (pk [1,2] Z Z) ?_);refine xE Z Z Z Z Z (qU Z Z Z (by first | omega | (simp only [zM,qL,qM,zO,qB];omega))) (pk [1,2] Z Z) (yZ Z (yL (cs':=#[i6_ a14.n,str a14.set,str a14.rel]) (hs':=(_::_::_::_::bk_ p2 #[i6_ a14.n,str a14.set,str a14.rel] 24::_::hs)) 4 Z Z Z Z Z (by kernel_rfl:_=some Tryd.t24) Z Z Z Z Z (zL (yP (pk [1,2] Z Z) ?_))));refine yZ Z (yL (cs':=#[i6_ b14.n,str b14.set,str b14.rel]) (hs':=(_::_::_::bk_ p3 #[i6_ b14.n,str b14.set,str b14.rel] 24::_::_::hs)) 3 Z Z Z Z Z (by kernel_rfl:_=some Tryd.t24) Z Z Z Z Z (zL (yP (pk [1,2] Z Z) ?_)));refine xT 1 Z (pk [1,2] Z Z) (Ld.nil (zC [2,3,4] [_,_,_] Z (qI (Kt.endMany Z (.cell (cs:=#[i6_ a14.n,str a14.set,str a14.rel]) Z (fun w1 hw1=>hw1.loadBox 4 Z zP zJ) (.cell (cs:=#[i6_ b14.n,str b14.set,str b14.rel]) Z (fun w1 hw1=>hw1.loadBox 3 Z zP zJ) (.tmp (v:=str (g++v55)) Z ResAt.nil))) (by simp) fun w' hw=>?_))))
  exact ⟨a14,b14,g++v55,rfl,⟨hfa14.tame,hfb14.tame,(by (try dsimp only);(try simp only [zM,qL,qM,zO,qB]);omega)⟩,qE (f:=[_,_,_,_,_,_]) hw⟩
 refine zF (zB (zA 2 Z (zH (zC [2,3,5,6,7,8,57] [_,_,_,_,_,_,_] Z (xI Z (fun h57=>?_) (fun h57=>?_))))))
 ·
  refine zF (jG (S:=Own B w0 [bk_ p7 #[i6_ b14.n,str b14.set,str b14.rel] 24,bk_ p6 #[i6_ a14.n,str a14.set,str a14.rel] 24]) [(0,true),(1,true),(3,true),(4,true),(2,false),(5,false),(6,false),(7,true)] yJ (fun _ h=>h.drawn) (by kernel_rfl) (xT 1 Z (pk [0,1] Z Z) (xE Z Z Z Z Z (zU (cs:=#[i6_ a14.n,str a14.set,str a14.rel]) 1 Z zP Z Z zJ) (pk [0,1] Z Z) (xE Z Z Z Z Z (zU (cs:=#[i6_ b14.n,str b14.set,str b14.rel]) 0 Z zP Z Z zJ) (pk [0,1] Z Z) (xT 1 Z (pk [0,1] Z Z) (yZ Z (yM (rp:=rp) (RT:=84) (p:=p_47) (bv:=dv) (hs:=hs) (ok:=fun (b:St) p'=>((-9223372036854775808≤b.n∧b.n≤9223372036854775807)∧b.set.length≤50000∧b.rel.length≤50000)∧p'≤p_47+10) (v:=fun (b:St)=>vS b) (new:=fun (b:St)=>[]) (xs:=[.tmp 59,.tmp 60]) (vs:=[pt_ rp,vS a14]) ([bk_ p7 #[i6_ b14.n,str b14.set,str b14.rel] 24,bk_ p6 #[i6_ a14.n,str a14.set,str a14.rel] 24,bk_ p3 #[i6_ 0,str ([]),str ([])] 24,bk_ p2 #[i6_ 0,str ([]),str ([])] 24]:List (Nat×Obj)) Z Z Z Z Tryd.call49 Z (fun w1 hw1=>(l1Bad_ok B w0 (([bk_ p7 #[i6_ b14.n,str b14.set,str b14.rel] 24,bk_ p6 #[i6_ a14.n,str a14.set,str a14.rel] 24,bk_ p3 #[i6_ 0,str ([]),str ([])] 24,bk_ p2 #[i6_ 0,str ([]),str ([])] 24]:List (Nat×Obj))++hs) rp p_47 dv M a14 w1 (fun w2 hw2=>hMb w2 (qE (f:=([bk_ p7 #[i6_ b14.n,str b14.set,str b14.rel] 24,bk_ p6 #[i6_ a14.n,str a14.set,str a14.rel] 24,bk_ p3 #[i6_ 0,str ([]),str ([])] 24,bk_ p2 #[i6_ 0,str ([]),str ([])] 24]:List (Nat×Obj))) hw2)) hM8 hM2 hfa14 (by omega) hw1).mono fun en w' ⟨b',p',h1,h2,h3⟩=>⟨b',p',h1,h2,h3⟩) fun b61 p_61 hKp_61=>?_)))))))
  show Ll _ _ (Own _ _ (_::_::_::_::_::hs)) _ _ ((61,vS b61)::_) _ _ _
  obtain ⟨⟨⟨hlob61,hhib61⟩,hssb61,hrrb61⟩,hep_61⟩:=hKp_61;refine zL (yP (pk [0,1] Z Z) ?_);refine yZ Z (yL (cs':=#[i6_ b61.n,str b61.set,str b61.rel]) (hs':=(_::_::_::bk_ p2 #[i6_ b61.n,str b61.set,str b61.rel] 24::_::hs)) 3 Z Z Z Z Z (by kernel_rfl:_=some Tryd.t24) Z Z Z Z Z (zL (yP (pk [0,1] Z Z) ?_)));refine yZ Z (yL (cs':=#[i6_ b14.n,str b14.set,str b14.rel]) (hs':=(_::_::bk_ p3 #[i6_ b14.n,str b14.set,str b14.rel] 24::_::_::hs)) 2 Z Z Z Z Z (by kernel_rfl:_=some Tryd.t24) Z Z Z Z Z (zL (yP (pk [0,1] Z Z) ?_)));refine xT 1 Z (pk [0,1] Z Z) (Ld.nil (zC [2,3,4] [_,_,_] Z (qI (Kt.endMany Z (.cell (cs:=#[i6_ b61.n,str b61.set,str b61.rel]) Z (fun w1 hw1=>hw1.loadBox 3 Z zP zJ) (.cell (cs:=#[i6_ b14.n,str b14.set,str b14.rel]) Z (fun w1 hw1=>hw1.loadBox 2 Z zP zJ) (.tmp (v:=str g) Z ResAt.nil))) (by simp) fun w' hw=>?_))))
  exact ⟨b61,b14,g,rfl,⟨⟨hlob61,hhib61,hssb61,hrrb61⟩,hfb14.tame,(by (try dsimp only);(try simp only [zM,qL,qM,zO,qB]);omega)⟩,qE (f:=[_,_,_,_,_]) hw⟩
 refine qR (zC [2,3,6,7,8] [_,_,_,_,_] Z (zF (jG (S:=Own B w0 [bk_ p7 #[i6_ b14.n,str b14.set,str b14.rel] 24,bk_ p6 #[i6_ a14.n,str a14.set,str a14.rel] 24,bk_ rp #[dv,i6_ (p_47:Int)] 84]) [(0,true),(1,true),(2,true),(3,false),(4,false),(5,true)] yJ (fun _ h=>h.drawn) (by kernel_rfl) (xE Z Z Z Z Z (zU (cs:=#[i6_ a14.n,str a14.set,str a14.rel]) 1 Z zP Z Z zJ) (pk [0,1,4] Z Z) (xE Z Z Z Z Z (zU (cs:=#[i6_ b14.n,str b14.set,str b14.rel]) 0 Z zP Z Z zJ) (pk [0,1,4] Z Z) (xT 1 Z (pk [0,1,4] Z Z) (yZ Z (yL (cs':=#[i6_ a14.n,str a14.set,str a14.rel]) (hs':=(_::_::_::bk_ p2 #[i6_ a14.n,str a14.set,str a14.rel] 24::_::hs)) 3 Z Z Z Z Z (by kernel_rfl:_=some Tryd.t24) Z Z Z Z Z (zL (yP (pk [0,1,4] Z Z) ?_))))))))));refine yZ Z (yL (cs':=#[i6_ b14.n,str b14.set,str b14.rel]) (hs':=(_::_::bk_ p3 #[i6_ b14.n,str b14.set,str b14.rel] 24::_::_::hs)) 2 Z Z Z Z Z (by kernel_rfl:_=some Tryd.t24) Z Z Z Z Z (zL (yP (pk [0,1,4] Z Z) ?_)));refine xT 1 Z (pk [0,1,4] Z Z) (Ld.nil (zC [2,3,4] [_,_,_] Z (qI (Kt.endMany Z (.cell (cs:=#[i6_ a14.n,str a14.set,str a14.rel]) Z (fun w1 hw1=>hw1.loadBox 3 Z zP zJ) (.cell (cs:=#[i6_ b14.n,str b14.set,str b14.rel]) Z (fun w1 hw1=>hw1.loadBox 2 Z zP zJ) (.tmp (v:=str g) Z ResAt.nil))) (by simp) fun w' hw=>?_))))
 exact ⟨a14,b14,g,rfl,⟨hfa14.tame,hfb14.tame,(by (try dsimp only);(try simp only [zM,qL,qM,zO,qB]);omega)⟩,qE (f:=[_,_,_,_,_]) hw⟩
end Go.Proofs.YteccfipfimbdgaaDoor
namespace Go.Proofs.YteccfipfimbdgaaDoor
open Go.RowKit Go.Wk
set_option linter.unusedSimpArgs false
set_option maxHeartbeats 400000 in
theorem gsSame_ok (va vb:Value) (xs ys:List Int) (w:World) (hva:Ints w va xs) (hvb:Ints w vb ys) (hs1:xs.length≤1000000) (_hs2:ys.length≤1000000) :
    Calls Tryd.prog 21 [va,vb].toArray w fun en w'=>en=.returned (.bool (xs==ys))∧Below w.heap.size w w':=by
 refine fnStart (n:=26) (e:=[(0,va),(1,vb)]) Tryd.func21 Z Z Z Z Ends.both (zF (zB (zA 1 Z (zH (zC [0,1] [_,_] Z (zF (zF (zB (zA 1 Z (zD (v:=i6_ (xs.length:Int)) Z (yI Z zK Z (ints_length _) (fun w1 hw1=>Row.own hva hw1)) (zA 1 Z (zD (v:=i6_ (ys.length:Int)) Z (yI Z zK Z (ints_length _) (fun w1 hw1=>Row.own hvb hw1)) (zA 1 Z (zH (zC [0,1,10] [_,_,_] Z (yA (b:=!(decide ((xs.length:Int)=(ys.length:Int)))) Z (fun h10=>?_) (fun h10=>?_)))))))))))))))))
 ·
  replace h10:=not_true h10
  replace h10:=zR h10;refine zF (zB (zA 1 Z (zH (zC [4] [_] Z (qI (qK Z Z fun w' hw=>?_))))))
  exact ⟨ret_b (Eq.symm (beq_eq_false_iff_ne.2 fun e=>by rw [e] at h10;exact h10 rfl)),hw.below⟩
 replace h10:=not_false h10
 replace h10:=zV h10;refine qR (zC [0,1] [_,_] Z (zF (zF (zB (zA 1 Z (zH (zC [0,1,5] [_,_,_] Z (qT (xF (σ:=Nat) (fun k=>k≤xs.length∧∀ i:Nat,i<k→xs.getD i 0=ys.getD i 0) (fun k=>[(0,va),(1,vb),(5,i6_ (k:Int))]) (fun k=>Own w.heap.size w []) (fun k=>xs.length - k) (0) ⟨by omega,fun i hi=>absurd hi (by omega)⟩ (Sub.sel [0,1,5] Z) (fun _ h=>h) ?_)))))))))
 rintro k ⟨hk,hall⟩;refine zF (zF (zB (zA 2 Z (zD (v:=i6_ (xs.length:Int)) Z (yI Z zK Z (ints_length _) (fun w1 hw1=>Row.own hva hw1)) (zA 1 Z (zH (zC [0,1,5,14] [_,_,_,_] Z (xI Z (fun h14=>?_) (fun h14=>?_)))))))))
 ·
  refine qR (zC [0,1,5] [_,_,_] Z (zF (qT (zF (jS yJ (fun _ h=>h.drawn) (by kernel_rfl) (zA 2 Z (zD (v:=.pointer (some (sAt va (k:Int)))) Z (yE Z zK zY Z Z (by omega) (by rw [ints_length];omega) (fun w1 hw1=>Row.own hva hw1)) (zD (v:=i6_ (xs.getD ((k:Int).toNat) 0)) Z (yC Z qF Z (fun w1 hw1=>Ints.cell (Row.own hva hw1) (by omega) (by omega))) (zA 2 Z (zD (v:=.pointer (some (sAt vb (k:Int)))) Z (yE Z zK zY Z Z (by omega) (by rw [ints_length];omega) (fun w1 hw1=>Row.own hvb hw1)) (zD (v:=i6_ (ys.getD ((k:Int).toNat) 0)) Z (yC Z qF Z (fun w1 hw1=>Ints.cell (Row.own hvb hw1) (by omega) (by omega))) (zA 1 Z (zH (zC [0,1,5,25] [_,_,_,_] Z (yA (b:=!(decide ((xs.getD ((k:Int).toNat) 0)=(ys.getD ((k:Int).toNat) 0)))) Z (fun h25=>?_) (fun h25=>?_))))))))))))))))
  ·
   replace h25:=not_true h25
   replace h25:=zR h25;refine zF (zB (zA 1 Z (zH (zC [4] [_] Z (qI (qK Z Z fun w' hw=>?_))))))
   exact ⟨ret_b (other_list (i:=k) (by simpa using h25)).symm,hw.below⟩
  replace h25:=not_false h25
  replace h25:=zV h25;refine qR (zC [0,1,5] [_,_,_] Z (zB (zA 1 Z (zD Z (qV Z Z Z (by omega) (by omega)) (zA 1 Z (zH (qZ (k+1) ⟨by omega,fun i hi=>(Nat.lt_succ_iff_lt_or_eq.1 hi).elim (hall i) (fun e=>by subst e;simpa using h25)⟩ (by omega) (Sub.sel [0,1,5] Z) (fun _ h=>h))))))))
 refine yY Z (zC [] [] Z (zF (zB (zA 1 Z (zH (zC [4] [_] Z (qI (qK Z Z fun w' hw=>?_))))))))
 exact ⟨ret_b (same_list (by omega) (fun i hi=>hall i (by omega))).symm,hw.below⟩
end Go.Proofs.YteccfipfimbdgaaDoor
namespace Go.Proofs.YteccfipfimbdgaaDoor
open Go.RowKit Go.Wk
set_option linter.unusedSimpArgs false
set_option maxHeartbeats 400000 in
theorem iSame_ok (a b:St) (w:World) (hsa:a.Small) (hsb:b.Small) (r:Int) :
    Calls Tryd.prog 23 [vS a,vS b,i6_ r].toArray w fun en w'=>en=.returned (.bool (secB a [] b [] r))∧Below w.heap.size w w':=by
 refine fnStart (n:=11) (e:=[(0,vS a),(1,vS b),(2,i6_ r)]) Tryd.func23 Z Z Z Z Ends.both (zF (qD (yT (v:=vS a) Z Z Z Z Z fun p3 hp3=>?_)))
 show Ll _ _ (Own _ _ [_]) _ _ ((3,pt_ p3)::_) _ _ _;refine yT (v:=vS b) Z Z Z Z Z fun p4 hp4=>?_
 show Ll _ _ (Own _ _ [_,_]) _ _ ((4,pt_ p4)::_) _ _ _;refine qQ 1 Z (zL (zC [2,3,4] [_,_,_] Z (zF (zB (zD Z (zU (cs:=#[i6_ a.n,str a.set,str a.rel]) 1 Z zP Z Z zJ) (zD Z (zU (cs:=#[i6_ b.n,str b.set,str b.rel]) 0 Z zP Z Z zJ) (zA 1 Z (zD (v:=bo_ (secB a ([]) b ([]) r)) Z (qH Z Tryd.call52 Z zZ (fun w1 hw1=>iWins_ok a b ([]) ([]) (.slice none 0 0) (.slice none 0 0) w1 hsa hsb Ints.nil Ints.nil (by first | (simp;done) | (simp;omega) | omega) (by first | (simp;done) | (simp;omega) | omega) r)) (zA 1 Z (zH (zC [6] [_] Z (qI (qK Z Z fun w' hw=>?_)))))))))))))
 exact ⟨rfl,hw.below⟩
end Go.Proofs.YteccfipfimbdgaaDoor
namespace Go.Proofs.YteccfipfimbdgaaDoor
open Go.RowKit Go.Wk
set_option linter.unusedSimpArgs false
theorem iPlay_all (a b:St) (s:List UInt8) (B:Nat) (w0:World) (hs0:List (Nat×Obj)) (w:World) (hsa:a.Small) (hsb:b.Small) (hs:s.length≤1048576) (hG:GW B w0) (hw:Own B w0 hs0 w) :
    Calls Tryd.prog 16 [vS a,vS b,str s].toArray w fun en w'=>∃ (v1 v2:Value) (new:List (Nat×Obj)),en=.returned (.tuple #[v1,v2,str (playO a b s).2.2])∧(∀ w1,Own B w0 new w1→Ints w1 v1 (playO a b s).1∧Ints w1 v2 (playO a b s).2.1)∧Own B w0 (new++hs0) w':=by
  cases hv:validB a&&validB b&&movesB a.n b.n s with
  | true =>
    refine (iPlay_yes a b s w hsa hsb hs (gw_own hG hw) hv).mono fun en w' ⟨v,h1,h2,g1,c1,u1,g2,c2,u2,h3,hne,a1,a2,a3,a4,a5,b1,b2,b3,b4,b5⟩=>?_
    subst h3
    exact ⟨_,_,[(g1,.cells u1 3 (0,0)),(g2,.cells u2 3 (0,0))],h1,fun w1 h=>⟨yH h (i:=0) rfl (by simpa using a5) (by simp) a4,yH h (i:=1) rfl (by simpa using b5) (by simp) b4⟩,hw.learn2 h2 hne a1 a2 b1 b2⟩
  | false =>
    refine (iPlay_no a b s w hsa hsb hs (gw_own hG hw) hv).mono fun en w' ⟨h1,h2⟩=>?_
    rw [play_no hv]
    exact ⟨_,_,[],h1,fun w1 h=>⟨Ints.nil,Ints.nil⟩,hw.calls h2⟩
theorem sPlay_all (a b:St) (s:List UInt8) (B:Nat) (w0:World) (hs0:List (Nat×Obj)) (w:World) (hsa:a.Small) (hsb:b.Small) (hs:s.length≤1048576) (loa : -9223372036854775808≤a.n) (hia:a.n≤9223372036854775807) (lob : -9223372036854775808≤b.n) (hib:b.n≤9223372036854775807) (hw:Own B w0 hs0 w) :
    Calls Tryd.prog 14 [vS a,vS b,str s].toArray w fun en w'=>∃ (v1 v2:Value) (new:List (Nat×Obj)),en=.returned (.tuple #[v1,v2,str (playO a b s).2.2])∧(∀ w1,Own B w0 new w1→Ints w1 v1 (playO a b s).1∧Ints w1 v2 (playO a b s).2.1)∧Own B w0 (new++hs0) w':=by
  refine (sPlay_ok a b s w hsa hsb hs loa hia lob hib).mono fun en w' ⟨v,h1,h2,g1,c1,u1,g2,c2,u2,h3,hne,a1,a2,a3,a4,a5,b1,b2,b3,b4,b5⟩=>?_
  subst h3
  exact ⟨_,_,[(g1,.cells u1 3 (0,0)),(g2,.cells u2 3 (0,0))],h1,fun w1 h=>⟨yH h (i:=0) rfl (by simpa using a5) (by simp) a4,yH h (i:=1) rfl (by simpa using b5) (by simp) b4⟩,hw.learn2 h2 hne a1 a2 b1 b2⟩
set_option maxHeartbeats 400000 in
theorem lawFnPlay (bv:Value) (L:List Int) (w:World) (hbv:Row w bv (u8s L)) (hL8:Bytes8 L) (hLm:L.length≤9223372036854775807) (hG:GW w.heap.size w) :
    Calls Tryd.prog 5 [bv].toArray w fun en w'=>en=.returned (.bool true)∧Below w.heap.size w w':=by
 refine fnStart (n:=157) (e:=[(0,bv)]) Tryd.func5 Z Z Z Z Ends.both (zF (zB (zA 1 Z (zH (zC [0] [_] Z (zF (zF (zB (zA 1 Z (zD (v:=i6_ (L.length:Int)) Z (yI Z yN Z (u8s_length _) (fun w1 hw1=>Row.own hbv hw1)) (zA 1 Z (zH (zC [0,17] [_,_] Z (xI Z (fun h17=>?_) (fun h17=>?_)))))))))))))))
 ·
  refine zF (zB (zA 1 Z (zH (zC [2] [_] Z (qI (qK Z Z fun w' hw=>?_))))))
  exact ⟨rfl,hw.below⟩
 refine qR (zC [0] [_] Z (zF (qD (qQ 1 Z (Ll.callGet (σ:=St×St×List UInt8) (ok:=fun (a,b,s)=>a.Tame∧b.Tame∧s.length≤60) (v:=fun (a,b,s)=>.tuple #[vS a,vS b,str s]) (hs':=fun _=>[]) (xs:=[.tmp 19]) (vs:=[bv]) Z Z Z Z Tryd.call20 Z (fun w1 hw1=>(drawPlay_ok w.heap.size w [] bv L w1 (fun w2 hw2=>Row.own hbv hw2) hL8 (by omega) hw1).mono fun en w' ⟨a,b,s,h1,h2,h3⟩=>⟨(a,b,s),h1,h2,h3⟩) fun ⟨a20,b20,s20⟩ hK=>?_)))))
 dsimp only at hK
 obtain ⟨hta20,htb20,hls20⟩:=hK
 have hsa20:=hta20.small
 have loa20:=hta20.lo
 have hia20:=hta20.hi
 have hsb20:=htb20.small
 have lob20:=htb20.lo
 have hib20:=htb20.hi
 show Ll _ _ (Own _ _ []) _ _ ((20,.tuple #[vS a20,vS b20,str s20])::_) _ _ _;refine qQ 1 Z (qC (v:=vS a20) Z (xA Z Z Z) (qC (v:=vS b20) Z (xA Z Z Z) (qC (v:=str s20) Z (xA Z Z Z) (xW Z Z Z Z yQ fun p3 hp3=>?_))))
 show Ll _ _ (Own _ _ [bk_ p3 #[i6_ 0,str ([]),str ([])] 24]) _ _ ((3,pt_ p3)::_) _ _ _;refine xW Z Z Z Z yQ fun p4 hp4=>?_
 show Ll _ _ (Own _ _ [bk_ p4 #[i6_ 0,str ([]),str ([])] 24,_]) _ _ ((4,pt_ p4)::_) _ _ _;refine yL (cs':=#[i6_ a20.n,str a20.set,str a20.rel]) (hs':=[_,bk_ p3 #[i6_ a20.n,str a20.set,str a20.rel] 24]) 1 Z Z Z Z Z (by kernel_rfl:_=some Tryd.t24) Z Z Z Z Z (yL (cs':=#[i6_ b20.n,str b20.set,str b20.rel]) (hs':=[bk_ p4 #[i6_ b20.n,str b20.set,str b20.rel] 24,_]) 0 Z Z Z Z Z (by kernel_rfl:_=some Tryd.t24) Z Z Z Z Z (qQ 1 Z (zL (zC [3,4,5] [_,_,_] Z (zF (qD (qC Z (zU (cs:=#[i6_ a20.n,str a20.set,str a20.rel]) 1 Z zP Z Z zJ) (qC Z (zU (cs:=#[i6_ b20.n,str b20.set,str b20.rel]) 0 Z zP Z Z zJ) (qQ 1 Z (Ll.callBack (ok:=fun ((v1,v2,new):Value×Value×List (Nat×Obj))=>∀ w1,Own w.heap.size w new w1→Ints w1 v1 (playO a20 b20 s20).1∧Ints w1 v2 (playO a20 b20 s20).2.1) (v:=fun ((v1,v2,new):Value×Value×List (Nat×Obj))=>.tuple #[v1,v2,str (playO a20 b20 s20).2.2]) (new:=fun ((v1,v2,new):Value×Value×List (Nat×Obj))=>new) (hs:=[]) (xs:=[.tmp 25,.tmp 26,.tmp 27]) (vs:=[vS a20,vS b20,str s20]) ([bk_ p4 #[i6_ b20.n,str b20.set,str b20.rel] 24,bk_ p3 #[i6_ a20.n,str a20.set,str a20.rel] 24]:List (Nat×Obj)) Z Z Z Z Tryd.call16 Z (fun w1 hw1=>(iPlay_all a20 b20 s20 w.heap.size w (([bk_ p4 #[i6_ b20.n,str b20.set,str b20.rel] 24,bk_ p3 #[i6_ a20.n,str a20.set,str a20.rel] 24]:List (Nat×Obj))++([])) w1 hsa20 hsb20 (by omega) hG hw1).mono fun en w' ⟨v1,v2,new,h1,h2,h3⟩=>⟨(v1,v2,new),h1,h2,h3⟩) fun ⟨v28a,v28b,new28⟩ hI28=>?_))))))))))
 dsimp only at hI28
 have hI28a:=fun w1 h=>(hI28 w1 h).1
 have hI28b:=fun w1 h=>(hI28 w1 h).2
 obtain ⟨hpl1,hpl2⟩:=play_small a20 b20 s20
 show Ll _ _ (Own _ _ (_::_::(new28++([])))) _ _ ((28,.tuple #[v28a,v28b,str ((playO a20 b20 s20).2.2)])::_) _ _ _;refine qQ 1 Z (qC (v:=v28a) Z (xA Z Z Z) (qC (v:=v28b) Z (xA Z Z Z) (qC (v:=str ((playO a20 b20 s20).2.2)) Z (xA Z Z Z) (qQ 3 Z (zL (zC [3,4,5,6,7,8] [_,_,_,_,_,_] Z (zF (qD (qC Z (zU (cs:=#[i6_ a20.n,str a20.set,str a20.rel]) 1 Z zP Z Z zJ) (qC Z (zU (cs:=#[i6_ b20.n,str b20.set,str b20.rel]) 0 Z zP Z Z zJ) (qQ 1 Z (Ll.callBack (ok:=fun ((v1,v2,new):Value×Value×List (Nat×Obj))=>∀ w1,Own w.heap.size w new w1→Ints w1 v1 (playO a20 b20 s20).1∧Ints w1 v2 (playO a20 b20 s20).2.1) (v:=fun ((v1,v2,new):Value×Value×List (Nat×Obj))=>.tuple #[v1,v2,str (playO a20 b20 s20).2.2]) (new:=fun ((v1,v2,new):Value×Value×List (Nat×Obj))=>new) (hs:=new28++([])) (xs:=[.tmp 33,.tmp 34,.tmp 35]) (vs:=[vS a20,vS b20,str s20]) ([bk_ p4 #[i6_ b20.n,str b20.set,str b20.rel] 24,bk_ p3 #[i6_ a20.n,str a20.set,str a20.rel] 24]:List (Nat×Obj)) Z Z Z Z Tryd.call14 Z (fun w1 hw1=>(sPlay_all a20 b20 s20 w.heap.size w (([bk_ p4 #[i6_ b20.n,str b20.set,str b20.rel] 24,bk_ p3 #[i6_ a20.n,str a20.set,str a20.rel] 24]:List (Nat×Obj))++(new28++([]))) w1 hsa20 hsb20 (by omega) loa20 hia20 lob20 hib20 hw1).mono fun en w' ⟨v1,v2,new,h1,h2,h3⟩=>⟨(v1,v2,new),h1,h2,h3⟩) fun ⟨v36a,v36b,new36⟩ hI36=>?_))))))))))))
 dsimp only at hI36
 have hI36a:=fun w1 h=>(hI36 w1 h).1
 have hI36b:=fun w1 h=>(hI36 w1 h).2
 obtain ⟨hpl1,hpl2⟩:=play_small a20 b20 s20
 show Ll _ _ (Own _ _ (_::_::(new36++(new28++([]))))) _ _ ((36,.tuple #[v36a,v36b,str ((playO a20 b20 s20).2.2)])::_) _ _ _;refine qQ 1 Z (qC (v:=v36a) Z (xA Z Z Z) (qC (v:=v36b) Z (xA Z Z Z) (qC (v:=str ((playO a20 b20 s20).2.2)) Z (xA Z Z Z) (qQ 3 Z (zL (zC [3,4,5,6,7,8,9,10,11] [_,_,_,_,_,_,_,_,_] Z (zF (zF (zB (zA 2 Z (zD (v:=bo_ (((playO a20 b20 s20).1)==((playO a20 b20 s20).1))) Z (qH Z Tryd.call21 Z zZ (fun w1 hw1=>gsSame_ok v28a v36a ((playO a20 b20 s20).1) ((playO a20 b20 s20).1) w1 (hI28a _ (yW (qE (f:=new36) (qE (f:=[_,_]) hw1)))) (hI36a _ (yW (qE (f:=[_,_]) hw1))) (by omega) (by omega))) (zA 2 Z (yF fun b44 hg44=>?_)))))))))))))
 cases b44
 ·
  replace hg44:=not_false hg44;refine zA 2 Z (zD (v:=bo_ (((playO a20 b20 s20).2.1)==((playO a20 b20 s20).2.1))) Z (qH Z Tryd.call21 Z zZ (fun w1 hw1=>gsSame_ok v28b v36b ((playO a20 b20 s20).2.1) ((playO a20 b20 s20).2.1) w1 (hI28b _ (yW (qE (f:=new36) (qE (f:=[_,_]) hw1)))) (hI36b _ (yW (qE (f:=[_,_]) hw1))) (by omega) (by omega))) (zA 3 Z (yF fun b50 hg50=>?_)))
  cases b50
  ·
   replace hg50:=not_false hg50;refine zA 2 Z (zD Z (OpQ.sneq Z Z Z) (zA 2 Z (yF fun b55 hg55=>?_)))
   cases b55
   ·
    replace hg55:=not_false hg55;refine zA 1 Z (zD Z (jR Z Z Z) (zA 1 Z (zH (zC [3,4,5,6,7,8,9,10,11,58] [_,_,_,_,_,_,_,_,_,_] Z (yA (b:=((playO a20 b20 s20).2.2)==([110,111])) Z (fun h58=>?_) (fun h58=>?_))))))
    ·
     refine zF (zB (zA 2 Z (zD (v:=bo_ (((playO a20 b20 s20).1)==((playO a20 b20 s20).1))) Z (qH Z Tryd.call21 Z zZ (fun w1 hw1=>gsSame_ok v28a v36a ((playO a20 b20 s20).1) ((playO a20 b20 s20).1) w1 (hI28a _ (yW (qE (f:=new36) (qE (f:=[_,_]) hw1)))) (hI36a _ (yW (qE (f:=[_,_]) hw1))) (by omega) (by omega))) (zA 1 Z (yF fun b62 hg62=>?_)))))
     cases b62
     ·
      exact absurd hg62 (by simp)
     refine zA 2 Z (zD (v:=bo_ (((playO a20 b20 s20).2.1)==((playO a20 b20 s20).2.1))) Z (qH Z Tryd.call21 Z zZ (fun w1 hw1=>gsSame_ok v28b v36b ((playO a20 b20 s20).2.1) ((playO a20 b20 s20).2.1) w1 (hI28b _ (yW (qE (f:=new36) (qE (f:=[_,_]) hw1)))) (hI36b _ (yW (qE (f:=[_,_]) hw1))) (by omega) (by omega))) (zA 2 Z (yF fun b67 hg67=>?_)))
     cases b67
     ·
      exact absurd hg67 (by simp)
     refine zA 2 Z (zD Z (jR Z Z Z) (zA 2 Z (zH (zC [2] [_] Z (qI (qK Z Z fun w' hw=>?_))))))
     exact ⟨ret_b (by simp),hw.below⟩
    have hPL:=play_law (a:=a20) (b:=b20) (s:=s20) (by simpa using h58)
    have hfew:=hPL.few
    have hrounds:=hPL.rounds;refine qR (zC [3,4,5,6,7,8] [_,_,_,_,_,_] Z (zF (zB (zA 1 Z (zD (v:=i6_ (s20.length:Int)) Z (xK Z qA Z) (zD Z (qV Z Z Z (by omega) (by omega)) (zD (v:=i6_ ((movesL s20).length:Int)) Z (qW (by rw [hrounds]) (OpQ.quo Z Z Z (by omega) (by omega) (by decide))) (zA 1 Z (zH (zC [3,4,5,6,7,8,12] [_,_,_,_,_,_,_] Z (zF (zF (zB (zA 1 Z (zH (zC [3,4,5,6,7,8,12,13] [_,_,_,_,_,_,_,_] Z (qT (xF (σ:=Nat) (fun k=>(k:Int)≤((movesL s20).length:Int)) (fun k=>[(3,pt_ p3),(4,pt_ p4),(5,str s20),(6,v28a),(7,v28b),(8,str ((playO a20 b20 s20).2.2)),(12,i6_ ((movesL s20).length:Int)),(13,i6_ (k:Int))]) (fun k=>Own w.heap.size w (bk_ p4 #[i6_ b20.n,str b20.set,str b20.rel] 24::bk_ p3 #[i6_ a20.n,str a20.set,str a20.rel] 24::(new36++(new28++([]))))) (fun k=>(movesL s20).length - k) (0) (by omega) (Sub.sel [3,4,5,6,7,8,12,13] Z) (fun _ h=>h) ?_))))))))))))))))))
    rintro k hk;refine zF (zF (zB (zA 4 Z (yF fun b79 hg79=>?_))))
    cases b79
    ·
     replace hg79:=zR hg79;refine zE Z (zE Z (zE Z (zE Z (zA 2 Z (zE Z (zE Z (zE Z (zE Z (zA 1 Z (zH (zC [3,4,5,6,7,8,12,13,90] [_,_,_,_,_,_,_,_,_] Z (jQ Z (yY Z (zC [3,4,6,7,8,12] [_,_,_,_,_,_] Z (zF (zF (zB (zA 1 Z (zD Z (jR Z Z Z) (zH (zC [3,4,6,7,8,12,129] [_,_,_,_,_,_,_] Z (yA (b:=((playO a20 b20 s20).2.2)==([115,101,99,111,110,100])) Z (fun h129=>?_) (fun h129=>?_)))))))))))))))))))))))
     ·
      obtain ⟨hwa,hwl⟩:=hPL.won (by simpa using h129);refine zF (zB (zD Z (zU (cs:=#[i6_ a20.n,str a20.set,str a20.rel]) 1 Z zP Z Z zJ) (zA 1 Z (zD Z (zU (cs:=#[i6_ b20.n,str b20.set,str b20.rel]) 0 Z zP Z Z zJ) (zA 1 Z (zD (v:=bo_ (wayB a20 ((playO a20 b20 s20).1) b20 ((playO a20 b20 s20).2.1))) Z (qH Z Tryd.call22 Z zZ (fun w1 hw1=>iPart_ok a20 b20 ((playO a20 b20 s20).1) ((playO a20 b20 s20).2.1) v28a v28b w1 hsa20 hsb20 (hI28a _ (yW (qE (f:=new36) (qE (f:=[_,_]) hw1)))) (hI28b _ (yW (qE (f:=new36) (qE (f:=[_,_]) hw1)))) (by first | (simp;done) | (simp;omega) | omega) (by first | (simp;done) | (simp;omega) | omega))) (zA 1 Z (yF fun b135 hg135=>?_))))))))
      cases b135
      ·
       refine zE Z (zE Z (zE Z (zE Z (zA 2 Z (zH (zC [2] [_] Z (qI (qK Z Z fun w' hw=>?_))))))))
       exfalso
       simp_all
      refine zA 1 Z (zD (v:=i6_ ((playO a20 b20 s20).1.length:Int)) Z (yI Z zK Z (ints_length _) (fun w1 hw1=>hI28a _ (yW (qE (f:=new36) (qE (f:=[_,_]) hw1))))) (zA 4 Z (zH (zC [2] [_] Z (qI (qK Z Z fun w' hw=>?_))))))
      exact ⟨ret_b (decide_eq_true (by omega)),hw.below⟩
     obtain ⟨hlf,hls,hll⟩:=hPL.lost (by simpa using h129);refine qR (zC [3,4,6,7,8,12] [_,_,_,_,_,_] Z (zF (zB (zA 1 Z (zD Z (jR Z Z Z) (zA 1 Z (yF fun b143 hg143=>?_)))))))
     cases b143
     ·
      refine zE Z (zE Z (zE Z (zE Z (zE Z (zA 2 Z (zE Z (zE Z (zE Z (zE Z (zE Z (zA 2 Z (zH (zC [2] [_] Z (qI (qK Z Z fun w' hw=>?_)))))))))))))))
      exfalso
      simp_all
     refine zD Z (zU (cs:=#[i6_ a20.n,str a20.set,str a20.rel]) 1 Z zP Z Z zJ) (zD Z (zU (cs:=#[i6_ b20.n,str b20.set,str b20.rel]) 0 Z zP Z Z zJ) (zA 1 Z (zD (v:=bo_ (secB a20 [] b20 [] ((movesL s20).length:Int))) Z (qH Z Tryd.call23 Z zZ (fun w1 hw1=>iSame_ok a20 b20 w1 hsa20 hsb20 ((movesL s20).length:Int))) (zA 3 Z (yF fun b150 hg150=>?_)))))
     cases b150
     ·
      replace hg150:=not_false hg150;refine zE Z (zE Z (zE Z (zE Z (zE Z (zA 2 Z (zH (zC [2] [_] Z (qI (qK Z Z fun w' hw=>?_)))))))))
      exfalso
      simp_all
     replace hg150:=not_true hg150;refine zA 1 Z (zD (v:=i6_ ((playO a20 b20 s20).1.length:Int)) Z (yI Z zK Z (ints_length _) (fun w1 hw1=>hI28a _ (yW (qE (f:=new36) (qE (f:=[_,_]) hw1))))) (zA 1 Z (zD (v:=i6_ ((playO a20 b20 s20).2.1.length:Int)) Z (yI Z zK Z (ints_length _) (fun w1 hw1=>hI28b _ (yW (qE (f:=new36) (qE (f:=[_,_]) hw1))))) (zA 3 Z (zH (zC [2] [_] Z (qI (qK Z Z fun w' hw=>?_))))))))
     exact ⟨ret_b (by rw [decide_eq_false (by omega)];rfl),hw.below⟩
    replace hg79:=zV hg79;refine zA 2 Z (zD (v:=i6_ ((playO a20 b20 s20).1.length:Int)) Z (yI Z zK Z (ints_length _) (fun w1 hw1=>hI28a _ (yW (qE (f:=new36) (qE (f:=[_,_]) hw1))))) (zA 3 Z (yF fun b85 hg85=>?_)))
    cases b85
    ·
     replace hg85:=zR hg85;refine zE Z (zE Z (zE Z (zE Z (zA 1 Z (zH (zC [3,4,5,6,7,8,12,13,90] [_,_,_,_,_,_,_,_,_] Z (jQ Z (yY Z (zC [3,4,6,7,8,12] [_,_,_,_,_,_] Z (zF (zF (zB (zA 1 Z (zD Z (jR Z Z Z) (zH (zC [3,4,6,7,8,12,129] [_,_,_,_,_,_,_] Z (yA (b:=((playO a20 b20 s20).2.2)==([115,101,99,111,110,100])) Z (fun h129_1=>?_) (fun h129_1=>?_))))))))))))))))))
     ·
      obtain ⟨hwa,hwl⟩:=hPL.won (by simpa using h129_1);refine zF (zB (zD Z (zU (cs:=#[i6_ a20.n,str a20.set,str a20.rel]) 1 Z zP Z Z zJ) (zA 1 Z (zD Z (zU (cs:=#[i6_ b20.n,str b20.set,str b20.rel]) 0 Z zP Z Z zJ) (zA 1 Z (zD (v:=bo_ (wayB a20 ((playO a20 b20 s20).1) b20 ((playO a20 b20 s20).2.1))) Z (qH Z Tryd.call22 Z zZ (fun w1 hw1=>iPart_ok a20 b20 ((playO a20 b20 s20).1) ((playO a20 b20 s20).2.1) v28a v28b w1 hsa20 hsb20 (hI28a _ (yW (qE (f:=new36) (qE (f:=[_,_]) hw1)))) (hI28b _ (yW (qE (f:=new36) (qE (f:=[_,_]) hw1)))) (by first | (simp;done) | (simp;omega) | omega) (by first | (simp;done) | (simp;omega) | omega))) (zA 1 Z (yF fun b135 hg135_1=>?_))))))))
      cases b135
      ·
       refine zE Z (zE Z (zE Z (zE Z (zA 2 Z (zH (zC [2] [_] Z (qI (qK Z Z fun w' hw=>?_))))))))
       exfalso
       simp_all
      refine zA 1 Z (zD (v:=i6_ ((playO a20 b20 s20).1.length:Int)) Z (yI Z zK Z (ints_length _) (fun w1 hw1=>hI28a _ (yW (qE (f:=new36) (qE (f:=[_,_]) hw1))))) (zA 4 Z (zH (zC [2] [_] Z (qI (qK Z Z fun w' hw=>?_))))))
      exact ⟨ret_b (decide_eq_true (by omega)),hw.below⟩
     obtain ⟨hlf,hls,hll⟩:=hPL.lost (by simpa using h129_1);refine qR (zC [3,4,6,7,8,12] [_,_,_,_,_,_] Z (zF (zB (zA 1 Z (zD Z (jR Z Z Z) (zA 1 Z (yF fun b143 hg143_1=>?_)))))))
     cases b143
     ·
      refine zE Z (zE Z (zE Z (zE Z (zE Z (zA 2 Z (zE Z (zE Z (zE Z (zE Z (zE Z (zA 2 Z (zH (zC [2] [_] Z (qI (qK Z Z fun w' hw=>?_)))))))))))))))
      exfalso
      simp_all
     refine zD Z (zU (cs:=#[i6_ a20.n,str a20.set,str a20.rel]) 1 Z zP Z Z zJ) (zD Z (zU (cs:=#[i6_ b20.n,str b20.set,str b20.rel]) 0 Z zP Z Z zJ) (zA 1 Z (zD (v:=bo_ (secB a20 [] b20 [] ((movesL s20).length:Int))) Z (qH Z Tryd.call23 Z zZ (fun w1 hw1=>iSame_ok a20 b20 w1 hsa20 hsb20 ((movesL s20).length:Int))) (zA 3 Z (yF fun b150 hg150_1=>?_)))))
     cases b150
     ·
      replace hg150_1:=not_false hg150_1;refine zE Z (zE Z (zE Z (zE Z (zE Z (zA 2 Z (zH (zC [2] [_] Z (qI (qK Z Z fun w' hw=>?_)))))))))
      exfalso
      simp_all
     replace hg150_1:=not_true hg150_1;refine zA 1 Z (zD (v:=i6_ ((playO a20 b20 s20).1.length:Int)) Z (yI Z zK Z (ints_length _) (fun w1 hw1=>hI28a _ (yW (qE (f:=new36) (qE (f:=[_,_]) hw1))))) (zA 1 Z (zD (v:=i6_ ((playO a20 b20 s20).2.1.length:Int)) Z (yI Z zK Z (ints_length _) (fun w1 hw1=>hI28b _ (yW (qE (f:=new36) (qE (f:=[_,_]) hw1))))) (zA 3 Z (zH (zC [2] [_] Z (qI (qK Z Z fun w' hw=>?_))))))))
     exact ⟨ret_b (by rw [decide_eq_false (by omega)];rfl),hw.below⟩
    replace hg85:=zV hg85;refine zA 2 Z (zD (v:=i6_ ((playO a20 b20 s20).2.1.length:Int)) Z (yI Z zK Z (ints_length _) (fun w1 hw1=>hI28b _ (yW (qE (f:=new36) (qE (f:=[_,_]) hw1))))) (zA 2 Z (zH (zC [3,4,5,6,7,8,12,13,90] [_,_,_,_,_,_,_,_,_] Z (yA (b:=decide ((k:Int)<((playO a20 b20 s20).2.1.length:Int))) Z (fun h90=>?_) (fun h90=>?_))))))
    ·
     replace h90:=zV h90
     have hby:=UInt8.toNat_lt (((movesL s20).getD k []).getD 1 0)
     have hkm:k<(movesL s20).length:=by omega
     obtain ⟨hp1,hp2⟩:=hPL.place k hkm
     have hpc:∀ j:Nat,j<2→s20.getD (3*k+j) 0=((movesL s20).getD k []).getD j 0:=hp2
     obtain ⟨hd1,hd2⟩:=hPL.head k hkm (by omega) (by omega);refine qR (zC [3,4,5,6,7,8,12,13] [_,_,_,_,_,_,_,_] Z (zF (qT (zF (zB (zA 2 Z (zD Z (jP Z Z Z (by omega) (by omega)) (zD Z (qV Z Z Z (by omega) (by omega)) (zD (v:=.int .u8 (((((movesL s20).getD k []).getD 1 0).toNat:Int))) Z (qW (v':=.int .u8 ((((movesL s20).getD k []).getD 1 0).toNat:Int)) (by rw [← hpc 1 (by decide)];first | rfl | (congr 3;omega) | congr 3) (yB (i:=((3:Int)*(k:Int))+(1:Int)) Z qA Z Z (by omega) (by omega))) (zD (v:=i6_ (((((movesL s20).getD k []).getD 1 0).toNat:Int))) Z (xR .i64 Z yO xD Z (IntWalk.i64_in _ (by have:=UInt8.toNat_lt (((movesL s20).getD k []).getD 1 0);omega))) (zD (v:=i6_ ((mvE ((movesL s20).getD k [])))) Z (qW (by rfl) (xO Z Z Z (by omega) (by omega))) (zA 1 Z (zH (zC [3,4,5,6,7,8,12,13,14] [_,_,_,_,_,_,_,_,_] Z (zF (zB (zA 2 Z (zD Z (jP Z Z Z (by omega) (by omega)) (zD (v:=.int .u8 (((((movesL s20).getD k []).getD 0 0).toNat:Int))) Z (qW (v':=.int .u8 ((((movesL s20).getD k []).getD 0 0).toNat:Int)) (by rw [← hpc 0 (by decide)];first | rfl | (congr 3;omega) | congr 3) (yB (i:=(3:Int)*(k:Int)) Z qA Z Z (by omega) (by omega))) (zA 2 Z (yF fun b105 hg105=>?_)))))))))))))))))))))
     cases b105
     ·
      replace hg105:=zR hg105;refine zE Z (zE Z (zE Z (zE Z (zE Z (zE Z (zA 4 Z (zD Z (jP Z Z Z (by omega) (by omega)) (zD (v:=.int .u8 (((((movesL s20).getD k []).getD 0 0).toNat:Int))) Z (qW (v':=.int .u8 ((((movesL s20).getD k []).getD 0 0).toNat:Int)) (by rw [← hpc 0 (by decide)];first | rfl | (congr 3;omega) | congr 3) (yB (i:=(3:Int)*(k:Int)) Z qA Z Z (by omega) (by omega))) (zA 2 Z (yF fun b119 hg119=>?_))))))))))
      cases b119
      ·
       replace hg119:=zR hg119;refine zE Z (zE Z (zE Z (zE Z (zE Z (zE Z (zA 2 Z (zH (zC [3,4,5,6,7,8,12,13,127] [_,_,_,_,_,_,_,_,_] Z (jQ Z (qR (zC [3,4,5,6,7,8,12,13] [_,_,_,_,_,_,_,_] Z (zB (zA 1 Z (zD Z (qV Z Z Z (by omega) (by omega)) (zA 1 Z (zH (qZ (k+1) (by omega) (by omega) (Sub.sel [3,4,5,6,7,8,12,13] Z) (fun _ h=>h))))))))))))))))))
      replace hg119:=zV hg119;refine zA 2 Z (zD (v:=.pointer (some (sAt v28b (k:Int)))) Z (yE Z zK zY Z Z (by omega) (by rw [ints_length];omega) (fun w1 hw1=>hI28b _ (yW (qE (f:=new36) (qE (f:=[_,_]) hw1))))) (zD (v:=i6_ ((playO a20 b20 s20).2.1.getD ((k:Int).toNat) 0)) Z (yC Z qF Z (fun w1 hw1=>Ints.cell (hI28b _ (yW (qE (f:=new36) (qE (f:=[_,_]) hw1)))) (by omega) (by omega))) (zA 4 Z (zH (zC [3,4,5,6,7,8,12,13,127] [_,_,_,_,_,_,_,_,_] Z (yA (b:=!(decide (((playO a20 b20 s20).2.1.getD ((k:Int).toNat) 0)=((mvE ((movesL s20).getD k [])))))) Z (fun h127=>?_) (fun h127=>?_)))))))
      ·
       replace h127:=not_true h127
       replace h127:=zR h127;refine zF (zB (zA 1 Z (zH (zC [2] [_] Z (qI (qK Z Z fun w' hw=>?_))))))
       exfalso
       simp_all
      replace h127:=not_false h127
      replace h127:=zV h127;refine qR (zC [3,4,5,6,7,8,12,13] [_,_,_,_,_,_,_,_] Z (zB (zA 1 Z (zD Z (qV Z Z Z (by omega) (by omega)) (zA 1 Z (zH (qZ (k+1) (by omega) (by omega) (Sub.sel [3,4,5,6,7,8,12,13] Z) (fun _ h=>h))))))))
     replace hg105:=zV hg105;refine zA 2 Z (zD (v:=.pointer (some (sAt v28a (k:Int)))) Z (yE Z zK zY Z Z (by omega) (by rw [ints_length];omega) (fun w1 hw1=>hI28a _ (yW (qE (f:=new36) (qE (f:=[_,_]) hw1))))) (zD (v:=i6_ ((playO a20 b20 s20).1.getD ((k:Int).toNat) 0)) Z (yC Z qF Z (fun w1 hw1=>Ints.cell (hI28a _ (yW (qE (f:=new36) (qE (f:=[_,_]) hw1)))) (by omega) (by omega))) (zA 4 Z (yF fun b113 hg113=>?_))))
     cases b113
     ·
      replace hg113:=not_false hg113
      replace hg113:=zV hg113;refine zA 2 Z (zD Z (jP Z Z Z (by omega) (by omega)) (zD (v:=.int .u8 (((((movesL s20).getD k []).getD 0 0).toNat:Int))) Z (qW (v':=.int .u8 ((((movesL s20).getD k []).getD 0 0).toNat:Int)) (by rw [← hpc 0 (by decide)];first | rfl | (congr 3;omega) | congr 3) (yB (i:=(3:Int)*(k:Int)) Z qA Z Z (by omega) (by omega))) (zA 2 Z (yF fun b119 hg119_1=>?_))))
      cases b119
      ·
       replace hg119_1:=zR hg119_1;refine zE Z (zE Z (zE Z (zE Z (zE Z (zE Z (zA 2 Z (zH (zC [3,4,5,6,7,8,12,13,127] [_,_,_,_,_,_,_,_,_] Z (jQ Z (qR (zC [3,4,5,6,7,8,12,13] [_,_,_,_,_,_,_,_] Z (zB (zA 1 Z (zD Z (qV Z Z Z (by omega) (by omega)) (zA 1 Z (zH (qZ (k+1) (by omega) (by omega) (Sub.sel [3,4,5,6,7,8,12,13] Z) (fun _ h=>h))))))))))))))))))
      replace hg119_1:=zV hg119_1;refine zA 2 Z (zD (v:=.pointer (some (sAt v28b (k:Int)))) Z (yE Z zK zY Z Z (by omega) (by rw [ints_length];omega) (fun w1 hw1=>hI28b _ (yW (qE (f:=new36) (qE (f:=[_,_]) hw1))))) (zD (v:=i6_ ((playO a20 b20 s20).2.1.getD ((k:Int).toNat) 0)) Z (yC Z qF Z (fun w1 hw1=>Ints.cell (hI28b _ (yW (qE (f:=new36) (qE (f:=[_,_]) hw1)))) (by omega) (by omega))) (zA 4 Z (zH (zC [3,4,5,6,7,8,12,13,127] [_,_,_,_,_,_,_,_,_] Z (yA (b:=!(decide (((playO a20 b20 s20).2.1.getD ((k:Int).toNat) 0)=((mvE ((movesL s20).getD k [])))))) Z (fun h127_1=>?_) (fun h127_1=>?_)))))))
      ·
       replace h127_1:=not_true h127_1
       replace h127_1:=zR h127_1;refine zF (zB (zA 1 Z (zH (zC [2] [_] Z (qI (qK Z Z fun w' hw=>?_))))))
       exfalso
       simp_all
      replace h127_1:=not_false h127_1
      replace h127_1:=zV h127_1;refine qR (zC [3,4,5,6,7,8,12,13] [_,_,_,_,_,_,_,_] Z (zB (zA 1 Z (zD Z (qV Z Z Z (by omega) (by omega)) (zA 1 Z (zH (qZ (k+1) (by omega) (by omega) (Sub.sel [3,4,5,6,7,8,12,13] Z) (fun _ h=>h))))))))
     replace hg113:=not_true hg113
     replace hg113:=zR hg113;refine zE Z (zE Z (zE Z (zE Z (zE Z (zE Z (zE Z (zE Z (zE Z (zE Z (zE Z (zE Z (zE Z (zA 1 Z (zH (zC [3,4,5,6,7,8,12,13,127] [_,_,_,_,_,_,_,_,_] Z (jB Z (zF (zB (zA 1 Z (zH (zC [2] [_] Z (qI (qK Z Z fun w' hw=>?_)))))))))))))))))))))))
     exfalso
     simp_all
    replace h90:=zR h90;refine yY Z (zC [3,4,6,7,8,12] [_,_,_,_,_,_] Z (zF (zF (zB (zA 1 Z (zD Z (jR Z Z Z) (zH (zC [3,4,6,7,8,12,129] [_,_,_,_,_,_,_] Z (yA (b:=((playO a20 b20 s20).2.2)==([115,101,99,111,110,100])) Z (fun h129_2=>?_) (fun h129_2=>?_))))))))))
    ·
     obtain ⟨hwa,hwl⟩:=hPL.won (by simpa using h129_2);refine zF (zB (zD Z (zU (cs:=#[i6_ a20.n,str a20.set,str a20.rel]) 1 Z zP Z Z zJ) (zA 1 Z (zD Z (zU (cs:=#[i6_ b20.n,str b20.set,str b20.rel]) 0 Z zP Z Z zJ) (zA 1 Z (zD (v:=bo_ (wayB a20 ((playO a20 b20 s20).1) b20 ((playO a20 b20 s20).2.1))) Z (qH Z Tryd.call22 Z zZ (fun w1 hw1=>iPart_ok a20 b20 ((playO a20 b20 s20).1) ((playO a20 b20 s20).2.1) v28a v28b w1 hsa20 hsb20 (hI28a _ (yW (qE (f:=new36) (qE (f:=[_,_]) hw1)))) (hI28b _ (yW (qE (f:=new36) (qE (f:=[_,_]) hw1)))) (by first | (simp;done) | (simp;omega) | omega) (by first | (simp;done) | (simp;omega) | omega))) (zA 1 Z (yF fun b135 hg135_2=>?_))))))))
     cases b135
     ·
      refine zE Z (zE Z (zE Z (zE Z (zA 2 Z (zH (zC [2] [_] Z (qI (qK Z Z fun w' hw=>?_))))))))
      exfalso
      simp_all
     refine zA 1 Z (zD (v:=i6_ ((playO a20 b20 s20).1.length:Int)) Z (yI Z zK Z (ints_length _) (fun w1 hw1=>hI28a _ (yW (qE (f:=new36) (qE (f:=[_,_]) hw1))))) (zA 4 Z (zH (zC [2] [_] Z (qI (qK Z Z fun w' hw=>?_))))))
     exact ⟨ret_b (decide_eq_true (by omega)),hw.below⟩
    obtain ⟨hlf,hls,hll⟩:=hPL.lost (by simpa using h129_2);refine qR (zC [3,4,6,7,8,12] [_,_,_,_,_,_] Z (zF (zB (zA 1 Z (zD Z (jR Z Z Z) (zA 1 Z (yF fun b143 hg143_2=>?_)))))))
    cases b143
    ·
     refine zE Z (zE Z (zE Z (zE Z (zE Z (zA 2 Z (zE Z (zE Z (zE Z (zE Z (zE Z (zA 2 Z (zH (zC [2] [_] Z (qI (qK Z Z fun w' hw=>?_)))))))))))))))
     exfalso
     simp_all
    refine zD Z (zU (cs:=#[i6_ a20.n,str a20.set,str a20.rel]) 1 Z zP Z Z zJ) (zD Z (zU (cs:=#[i6_ b20.n,str b20.set,str b20.rel]) 0 Z zP Z Z zJ) (zA 1 Z (zD (v:=bo_ (secB a20 [] b20 [] ((movesL s20).length:Int))) Z (qH Z Tryd.call23 Z zZ (fun w1 hw1=>iSame_ok a20 b20 w1 hsa20 hsb20 ((movesL s20).length:Int))) (zA 3 Z (yF fun b150 hg150_2=>?_)))))
    cases b150
    ·
     replace hg150_2:=not_false hg150_2;refine zE Z (zE Z (zE Z (zE Z (zE Z (zA 2 Z (zH (zC [2] [_] Z (qI (qK Z Z fun w' hw=>?_)))))))))
     exfalso
     simp_all
    replace hg150_2:=not_true hg150_2;refine zA 1 Z (zD (v:=i6_ ((playO a20 b20 s20).1.length:Int)) Z (yI Z zK Z (ints_length _) (fun w1 hw1=>hI28a _ (yW (qE (f:=new36) (qE (f:=[_,_]) hw1))))) (zA 1 Z (zD (v:=i6_ ((playO a20 b20 s20).2.1.length:Int)) Z (yI Z zK Z (ints_length _) (fun w1 hw1=>hI28b _ (yW (qE (f:=new36) (qE (f:=[_,_]) hw1))))) (zA 3 Z (zH (zC [2] [_] Z (qI (qK Z Z fun w' hw=>?_))))))))
    exact ⟨ret_b (by rw [decide_eq_false (by omega)];rfl),hw.below⟩
   replace hg55:=not_true hg55
   exact absurd hg55 (by simp)
  replace hg50:=not_true hg50
  exact absurd hg50 (by simp)
 replace hg44:=not_true hg44
 exact absurd hg44 (by simp)
end Go.Proofs.YteccfipfimbdgaaDoor
namespace Go.Proofs.YteccfipfimbdgaaDoor
open Go.ChangeShapes Go.WideShapes Go.ChangeAt Go.RowKit Go.Wk
namespace FnPlayGame
def W0:Array Value:=#[.slice none 0 0]
set_option maxRecDepth 100000 in
theorem contract (H:Type) (enc:TypeId×Value→H) (W:World) (base:Nat) (args:Array Value) (ds gs:List (DataW H)) (before:List MemPlace)
  (hL:laidMetH Tryd.prog Rows.fnPlayGameRow.laid W) (hsh:W.ShapedOpen Tryd.prog)
  (hval:∀ (j:Nat) t v,Tryd.f5.params[j]?=some t→args[j]?=some v→Value.okWide Tryd.prog W .any base t v)
  (hW:DataW.Whole enc Tryd.prog Tryd.f5.params.toList Rows.fnPlayGameSpec.vars false W args.toList ds gs before) :
  Calls Tryd.prog 5 args W fun e W'=>∃ v,e=.returned v∧Rows.fnPlayGameSpec.post enc Tryd.prog Tryd.f5 false true false false W args v W':=by
 have hW':=hW
 obtain ⟨p,q,hA0,hV,rfl,hfz,hnd⟩:=hW
 have hA:DataW.TrodAll enc Tryd.prog W 0 (fun _=>true) true Tryd.f5.params.toList args.toList ds p:=hA0
 rw [Tryd.params5] at hA hval
 obtain ⟨v0,vs0,d0,ds0,p0,q0,hargs0,rfl,rfl,h0,r0⟩:=trodAll_cons hA
 obtain ⟨rfl,rfl,rfl⟩:=trodAll_nil r0
 obtain rfl:args=#[v0]:=by cases args;simp_all
 obtain ⟨l0,row0,eight0,len0⟩:=open_B Tryd.underlying22 Tryd.underlying5 (by kernel_rfl) (hval 0 22 v0 rfl rfl) h0
 have walk:Calls Tryd.prog 5 #[v0] W fun e w'=>e=.returned (.bool true)∧Below W.heap.size W w':=by
  exact lawFnPlay v0 l0 W row0 eight0 len0 (gw_start hL hsh)
 refine walk.mono fun e W' ⟨he,hb⟩=>⟨_,he,?_⟩
 exact post_true laidOut (by rw [Tryd.params5];intro t ht;simp only [List.mem_cons,List.not_mem_nil,or_false] at ht;rcases ht with rfl <;> exact ⟨by kernel_rfl,of_decide_eq_true (by kernel_rfl)⟩) rfl hW' rfl (by kernel_rfl) Tryd.underlying4 hb
theorem reads (os:Os) {H:Type} (enc:TypeId×Value→H):∃ places,DataW.whole enc Tryd.prog ((laidWorldP os).forCall (fun _ _=>0) ⟨#[],W0,[]⟩).memory Tryd.f5.params.toList Rows.fnPlayGameSpec.vars false W0.toList 8=some ([.nil],[],places) :=
 ⟨[],by kernel_rfl⟩
set_option maxRecDepth 100000 in
theorem lifted (os:Os) (started:os.Started) (H:Type) (enc:TypeId×Value→H) (F:Stop.Interp) :
    ReturnsInHanded {} Tryd.checked os 5 .any ((OpenSpec.ofChange Rows.fnPlayGameSpec).preRow enc Tryd.prog Tryd.f5 Rows.fnPlayGameRow.domain false Rows.fnPlayGameRow.laid) (((OpenSpec.ofChange Rows.fnPlayGameSpec).at F).post enc Tryd.prog Tryd.f5 false true false false):=by
  obtain ⟨places,hx⟩:=reads os enc
  refine returnsInHanded_of_row (C:=Tryd.checked) (s:=OpenSpec.ofChange Rows.fnPlayGameSpec) own started (by kernel_rfl) Tryd.func5
    (witness_row_atRef (enc:=enc) (C:=Tryd.checked) false (laidWorldP os) W0 rfl (by kernel_rfl) (by kernel_rfl) (by kernel_rfl)
      (OpenSpec.preRow_of_cond 8 hx (by kernel_rfl) (fun k hk=>by cases hk) (by kernel_rfl) (laid_metP os W0))) ?_
  intro W base args ds gs before hval hW _ _ _ hL hsh _
  exact contract H enc W base args ds gs before hL hsh hval hW
theorem k0:(Rows.fnPlayGameRow.wf (OpenSpec.ofChange (OpenSpec.ofChange Rows.fnPlayGameSpec).bare))=true:=by kernel_rfl
theorem k3:(Tryd.f5.params.all (Tryd.pinned.checked.prog.readableRec ·))=true:=by kernel_rfl
theorem k4:(namedTie Tryd.pinned.checked.prog Rows.fnPlayGameRow.named (OpenSpec.ofChange Rows.fnPlayGameSpec).bare.vars)=true:=by kernel_rfl
theorem k9:((Rows.fnPlayGameRow.inPlace==Tryd.pinned.checked.prog.inPlace 5))=true:=by kernel_rfl
theorem k10:((Rows.fnPlayGameRow.unfollowed==Tryd.pinned.checked.prog.unfollowed 5))=true:=by kernel_rfl
theorem k11:((Rows.fnPlayGameRow.recurses==Tryd.pinned.checked.prog.recurses 5))=true:=by kernel_rfl
theorem k12:((Rows.fnPlayGameRow.named==Tryd.pinned.checked.prog.varsNamed 5))=true:=by kernel_rfl
theorem k13:((Rows.fnPlayGameRow.maps==(Tryd.f5.params.toList++(OpenSpec.ofChange Rows.fnPlayGameSpec).bare.plain.varTypes Tryd.pinned.checked.prog).any (Tryd.pinned.checked.prog.mapsRec ·)))=true:=by kernel_rfl
theorem k14:((Rows.fnPlayGameRow.ifaces==(Tryd.f5.params.toList++(OpenSpec.ofChange Rows.fnPlayGameSpec).bare.plain.varTypes Tryd.pinned.checked.prog).any (Tryd.pinned.checked.prog.ifacesRec ·)))=true:=by kernel_rfl
theorem k15:((Rows.fnPlayGameRow.mapsOut==Tryd.pinned.checked.prog.mapsAmong Tryd.f5.resultTypes.toList))=true:=by kernel_rfl
theorem k16:((Rows.fnPlayGameRow.loops==(Tryd.f5.params.toList++(OpenSpec.ofChange Rows.fnPlayGameSpec).bare.plain.varTypes Tryd.pinned.checked.prog).any (Tryd.pinned.checked.prog.loopsFrom ·)))=true:=by kernel_rfl
theorem k17:((Rows.fnPlayGameRow.wideKeys==(Tryd.f5.params.toList++(OpenSpec.ofChange Rows.fnPlayGameSpec).bare.plain.varTypes Tryd.pinned.checked.prog++Tryd.f5.resultTypes.toList).any (Tryd.pinned.checked.prog.wideKeysFrom ·)))=true:=by kernel_rfl
theorem k19:(Tryd.f5.resultTypes.all (fun t=>Tryd.pinned.checked.prog.readableRec t&&decide (t<Tryd.pinned.checked.prog.types.size)))=true:=by kernel_rfl
theorem k20:((Rows.fnPlayGameRow.ifacesOut==Tryd.f5.resultTypes.toList.any (Tryd.pinned.checked.prog.ifacesRec ·)))=true:=by kernel_rfl
theorem k21:((Rows.fnPlayGameRow.loopsOut==Tryd.f5.resultTypes.toList.any (Tryd.pinned.checked.prog.loopsFrom ·)))=true:=by kernel_rfl
theorem k30:((Rows.fnPlayGameRow.veiled==(Tryd.f5.params.toList++(OpenSpec.ofChange Rows.fnPlayGameSpec).bare.plain.varTypes Tryd.pinned.checked.prog++Tryd.f5.resultTypes.toList).any (Tryd.pinned.checked.prog.veiledRec ·)))=true:=by kernel_rfl
theorem k31:(Rows.fnPlayGameRow.veiledFits Tryd.pinned.checked.prog Tryd.f5.params.toList (Tryd.f5.params.toList++(OpenSpec.ofChange Rows.fnPlayGameSpec).bare.plain.varTypes Tryd.pinned.checked.prog++Tryd.f5.resultTypes.toList))=true:=by kernel_rfl
theorem closed:joinedFacts Tryd.pinned.checked.prog 5 Tryd.f5 (OpenSpec.ofChange Rows.fnPlayGameSpec).bare Rows.fnPlayGameRow=true :=
 facts_of k0 Laid1 Laid2 k3 k4 (by kernel_rfl) Laid6 (by kernel_rfl) Laid8 k9 k10 k11 k12 k13 k14 k15 k16 k17 (by kernel_rfl) k19 k20 k21 Laid22 (by kernel_rfl) Laid24 Laid25 Laid26 Laid27 (by kernel_rfl) (by kernel_rfl) k30 k31
theorem said:Rows.FnPlayGameSaid :=
  OpenClaim.holds_of_cond 5 Tryd.f5 rfl rfl rfl rfl rfl rfl rfl ⟨rfl,rfl,rfl,rfl,rfl⟩ rfl rfl rfl rfl rfl (by kernel_rfl) Tryd.func5 closed
    (of_decide_eq_true (by kernel_rfl)) (by unfold Func.isWrapper;first | (rw [if_pos (by decide +kernel)];kernel_rfl) | (rw [if_neg (by decide +kernel)];exact ⟨rfl,rfl⟩))
    (fun os started H enc _ F=>by rw [OpenClaim.pre_eq_preRow];exact lifted os started H enc F)
theorem plain (f:FuncId) (fn:Func) (hf:Tryd.pinned.checked.prog.funcNamed Rows.fnPlayGameRow.func=some f) (hfn:Tryd.pinned.checked.prog.funcs[f]?=some fn) :
  false=Tryd.pinned.checked.prog.looks []∧∀ (j:Nat) t,fn.params[j]?=some t→Tryd.pinned.checked.prog.wantsStandIn t=false:=by
 obtain rfl:f=5:=Option.some.inj ((show Tryd.pinned.checked.prog.funcNamed Rows.fnPlayGameRow.func=some 5 by kernel_rfl).symm.trans hf) |>.symm
 obtain rfl:fn=Tryd.f5:=(Option.some.inj (Tryd.func5.symm.trans hfn)).symm
 refine ⟨by kernel_rfl,fun j t ht=>?_⟩
 rw [Tryd.params5] at ht
 have hm:t∈[22]:=by simpa using Array.mem_of_getElem? ht
 simp only [List.mem_cons,List.not_mem_nil,or_false] at hm
 rcases hm with rfl <;> (show Tryd.prog.wantsStandIn _=false) <;> kernel_rfl
theorem hw:Rows.fnPlayGameRow.wfByText (OpenSpec.ofChange Rows.fnPlayGameSpec)=true:=by kernel_rfl
theorem hm:Tryd.pinned.checked.prog.mainIs=some (Rows.fnPlayGameCard.stood.harness.1,Rows.fnPlayGameCard.stood.harness.2.toList):=by kernel_rfl
theorem hg:false=Rows.fnPlayGameRow.goesBy Tryd.pinned.checked.prog:=by kernel_rfl
end FnPlayGame
theorem cardFnPlayGame:Rows.FnPlayGameCardSaid :=
 Claim7.holds_tied_plain_at .later [] _ _ _ _ FnPlayGame.said (fun _ h=>by cases h) FnPlayGame.hw (fun _ h=>by cases h) fnPlayGame_row_tie rfl ⟨rfl,rfl⟩ FnPlayGame.hm rfl FnPlayGame.plain FnPlayGame.hg
end Go.Proofs.YteccfipfimbdgaaDoor
