/-
  FnTheory: all that its proof names (part 5)
-/
import Derived.Test.YteccfipfimbdgaaDoorKFnTheoryd
import Derived.Test.YteccfipfimbdgaaDoorKFnTheoryb
import Derived.Test.YteccfipfimbdgaaDoorKFnTheoryc
import Derived.Test.YteccfipfimbdgaaDoorKFnTheorya
namespace Go.Proofs.YteccfipfimbdgaaDoor
open Go.RowKit Go.Wk
set_option linter.unusedSimpArgs false
set_option maxHeartbeats 400000 in
theorem mkStruct_ok (N:Int) (p:Nat→Bool) (q:Nat→Nat→Bool) (F1 F2:FuncId) (b1 c1 b2 c2:Array Value) (w:World) (h1:1≤N) (h8:N≤8) (hF1:∀ args w,(callFunc F1 args).run Tryd.prog w=.ok (.enter F1 args) w) (hF2:∀ args w,(callFunc F2 args).run Tryd.prog w=.ok (.enter F2 args) w) (hp:∀ w1,Below w.heap.size w w1→∀ x:Nat,(x:Int)<N→Calls Tryd.prog F1 (b1++#[.int .i64 x]++c1) w1 fun en w'=>en=.returned (.bool (p x))∧Below w1.heap.size w1 w') (hq:∀ w1,Below w.heap.size w w1→∀ x y:Nat,(x:Int)<N→(y:Int)<N→Calls Tryd.prog F2 (b2++#[.int .i64 x,.int .i64 y]++c2) w1 fun en w'=>en=.returned (.bool (q x y))∧Below w1.heap.size w1 w') :
    Calls Tryd.prog 108 [i6_ N,.func (.func F1) b1 c1,.func (.func F2) b2 c2].toArray w fun en w'=>en=.returned (vS (mkSt N p q))∧Below w.heap.size w w':=by
 refine fnStart (n:=40) (e:=[(0,i6_ N),(1,.func (.func F1) b1 c1),(2,.func (.func F2) b2 c2)]) Tryd.func108 Z Z Z Z Ends.both (zF (qK (vD Z Z Z Z xM fun p6 hp6=>?_)))
 show Ll _ _ (Own _ _ [bk_ p6 #[i6_ 0,str ([]),str ([])] 24]) _ _ ((6,pt_ p6)::_) _ _ _;refine zJ (zD [0,1,2,6] [_,_,_,_] Z (zF (qK (qN 1 Z (zM (v:=.agg #[i6_ N,str ([]),str ([])]) Z (vK (xs:=[.tmp 10]) (vs:=[i6_ N]) Z Z (by kernel_rfl)) (vD Z Z Z Z xM fun p7 hp7=>?_))))))
 show Ll _ _ (Own _ _ [bk_ p7 #[i6_ 0,str ([]),str ([])] 24,_]) _ _ ((7,pt_ p7)::_) _ _ _;refine xQ (cs':=#[i6_ N,str ([]),str ([])]) (hs':=[bk_ p7 #[i6_ N,str ([]),str ([])] 24,_]) 0 Z Z Z Z Z (by kernel_rfl:_=some Tryd.t24) Z Z Z Z Z (zJ (zD [0,1,2,6,7] [_,_,_,_,_] Z (zF (zF (zB (zC 2 Z (zL (zD [0,1,2,6,7,12,13] [_,_,_,_,_,_,_] Z (qY (jR (σ:=Nat) (fun k=>(k:Int)≤N) (fun k=>[(0,i6_ N),(1,.func (.func F1) b1 c1),(2,.func (.func F2) b2 c2),(6,pt_ p6),(7,pt_ p7),(12,i6_ N),(13,i6_ (k:Int))]) (fun k=>Own w.heap.size w [bk_ p7 #[i6_ N,str (mkSet p k),str (mkRel q N.toNat k)] 24,bk_ p6 #[i6_ 0,str ([]),str ([])] 24]) (fun k=>(N - k).toNat) (0) (by omega) (Sub.sel [0,1,2,6,7,12,13] Z) (fun _ h=>h) ?_))))))))))
 rintro k hk
 have hkn:k*N.toNat≤8*8:=Nat.mul_le_mul (by omega) (by omega);refine zF (zB (zC 1 Z (zL (zD [0,1,2,6,7,12,13,14] [_,_,_,_,_,_,_,_] Z (zF (yG Z (fun h14=>?_) (fun h14=>?_)))))))
 ·
  refine qU (zD [0,1,2,6,7,12,13] [_,_,_,_,_,_,_] Z (zF (qY (zF (zB (zC 2 Z (zL (zD [0,1,2,6,7,8,12,13] [_,_,_,_,_,_,_,_] Z (zF (xY (S:=Own w.heap.size w [bk_ p6 #[i6_ 0,str ([]),str ([])] 24]) (.take 0 (.take 2 (.take 3 (.two 1 (.one 4 (.one 5 (.take 6 (.take 7 (.one 8 .done))))) 4 (.two 1 (.one 5 (.take 6 (.take 7 (.one 8 .done)))) 5 (.one 1 (.take 6 (.take 7 (.one 8 .done))))))))) yD (fun _ h=>h.drawn) (by kernel_rfl) (zR Z Z Z Z Z (zH Z zY Z qJ Z Z) (fun _ h=>h.tail) (jY 2 Z (fun _ h=>h.tail) (yS Z Z ?_ ?_)))))))))))))
  ·
   refine zM Z (zP 0 Z yB Z Z Z) (zJ (zI (fun _ h=>h.tail) ?_));refine zS Z (zM (v:=bo_ (p k)) Z (vT Z Z hF1 Z qD (fun w1 hw1=>hp w1 hw1.below k (by omega))) (zJ (zI (fun _ h=>h.tail) ?_)));refine zS Z (zM (v:=str (if p k then [49] else [48])) Z (qM Z jQ Z qD (fun w1 hw1=>bitOf_ok (p k) w1 )) (zJ (zI (fun _ h=>h.tail) ?_)));refine zR Z Z Z Z Z (yC Z Z Z (by simp;split <;> simp <;> omega)) (fun _ h=>h.tail) (zR Z Z Z Z Z (zH Z zY Z qJ Z Z) (fun _ h=>h.tail) (zS Z (qI (v:=str ((mkSet p k)++(if p k then [49] else [48]))) (hs':=[bk_ p7 #[i6_ N,str ((mkSet p k)++(if p k then [49] else [48])),str (mkRel q N.toNat k)] 24,_]) 0 Z Z Z Z Z Z qJ Z (by simp) Z (zJ (zI (fun _ h=>h.tail) ?_)))));refine yF (zD [0,1,2,6,7,8,12,13] [_,_,_,_,_,_,_,_] Z (zF (zB (zC 2 Z (zL (zD [0,1,2,6,7,8,12,13,24,25] [_,_,_,_,_,_,_,_,_,_] Z (qY (jR (σ:=Nat) (fun j=>(j:Int)≤N) (fun j=>[(0,i6_ N),(1,.func (.func F1) b1 c1),(2,.func (.func F2) b2 c2),(6,pt_ p6),(7,pt_ p7),(8,i6_ (k:Int)),(12,i6_ N),(13,i6_ (k:Int)),(24,i6_ N),(25,i6_ (j:Int))]) (fun j=>Own w.heap.size w [bk_ p7 #[i6_ N,str (mkSet p (k+1)),str (mkRel q N.toNat k++mkSet (q k) j)] 24,bk_ p6 #[i6_ 0,str ([]),str ([])] 24]) (fun j=>(N - j).toNat) (0) (by omega) (Sub.sel [0,1,2,6,7,8,12,13,24,25] Z) (fun _ h=>by simpa [mkSet,bitC] using h) ?_))))))))
   rintro j hj;refine zF (zB (zC 1 Z (zL (zD [0,1,2,6,7,8,12,13,24,25,26] [_,_,_,_,_,_,_,_,_,_,_] Z (zF (yG Z (fun h26=>?_) (fun h26=>?_)))))))
   ·
    refine qU (zD [0,1,2,6,7,8,12,13,24,25] [_,_,_,_,_,_,_,_,_,_] Z (zF (qY (zF (zB (zC 2 Z (zL (zD [0,1,2,6,7,8,9,12,13,24,25] [_,_,_,_,_,_,_,_,_,_,_] Z (xY (S:=Own w.heap.size w [bk_ p6 #[i6_ 0,str ([]),str ([])] 24]) (.take 0 (.take 2 (.take 3 (.take 4 (.two 1 (.one 5 (.one 6 (.take 7 (.take 8 (.one 9 .done))))) 5 (.two 1 (.one 6 (.take 7 (.take 8 (.one 9 .done)))) 6 (.one 1 (.take 7 (.take 8 (.one 9 .done)))))))))) yD (fun _ h=>h.drawn) (by kernel_rfl) (zR Z Z Z Z Z (zH Z zY Z qJ Z Z) (fun _ h=>h.tail) (jY 3 Z (fun _ h=>h.tail) (yS Z Z ?_ ?_))))))))))))
    ·
     refine zM Z (zP 0 Z yB Z Z Z) (zJ (zI (fun _ h=>h.tail) ?_));refine zS Z (zM (v:=bo_ (q k j)) Z (vT Z Z hF2 Z qD (fun w1 hw1=>hq w1 hw1.below k j (by omega) (by omega))) (zJ (zI (fun _ h=>h.tail) ?_)));refine zS Z (zM (v:=str (if q k j then [49] else [48])) Z (qM Z jQ Z qD (fun w1 hw1=>bitOf_ok (q k j) w1 )) (zJ (zI (fun _ h=>h.tail) ?_)));refine zR Z Z Z Z Z (yC Z Z Z (by simp;split <;> simp <;> omega)) (fun _ h=>h.tail) (zR Z Z Z Z Z (zH Z zY Z qJ Z Z) (fun _ h=>h.tail) (zS Z (qI (v:=str ((mkRel q N.toNat k++mkSet (q k) j)++(if q k j then [49] else [48]))) (hs':=[bk_ p7 #[i6_ N,str (mkSet p (k+1)),str ((mkRel q N.toNat k++mkSet (q k) j)++(if q k j then [49] else [48]))] 24,_]) 0 Z Z Z Z Z Z qJ Z (by simp) Z (zJ (zI (fun _ h=>h.tail) ?_)))));refine yF (zD [0,1,2,6,7,8,12,13,24,25] [_,_,_,_,_,_,_,_,_,_] Z (zB (zG Z (qQ Z Z Z (by omega) (by omega)) (zC 1 Z (zL (yY (j+1) (by omega) (by omega) (Sub.sel [0,1,2,6,7,8,12,13,24,25] Z) (fun _ h=>by simpa [mkSet,bitC] using h)))))))
    refine zM (v:=bo_ (q k j)) Z (vT Z Z hF2 Z qD (fun w1 hw1=>hq w1 hw1.below k j (by omega) (by omega))) (zJ (zI (fun _ h=>h.tail) ?_));refine yS Z Z ?_ ?_
    ·
     refine zM Z (zP 0 Z yB Z Z Z) (zJ (zI (fun _ h=>h.tail) ?_));refine zS Z (zM (v:=str (if q k j then [49] else [48])) Z (qM Z jQ Z qD (fun w1 hw1=>bitOf_ok (q k j) w1 )) (zJ (zI (fun _ h=>h.tail) ?_)));refine zR Z Z Z Z Z (yC Z Z Z (by simp;split <;> simp <;> omega)) (fun _ h=>h.tail) (zR Z Z Z Z Z (zH Z zY Z qJ Z Z) (fun _ h=>h.tail) (zS Z (qI (v:=str ((mkRel q N.toNat k++mkSet (q k) j)++(if q k j then [49] else [48]))) (hs':=[bk_ p7 #[i6_ N,str (mkSet p (k+1)),str ((mkRel q N.toNat k++mkSet (q k) j)++(if q k j then [49] else [48]))] 24,_]) 0 Z Z Z Z Z Z qJ Z (by simp) Z (zJ (zI (fun _ h=>h.tail) ?_)))));refine yF (zD [0,1,2,6,7,8,12,13,24,25] [_,_,_,_,_,_,_,_,_,_] Z (zB (zG Z (qQ Z Z Z (by omega) (by omega)) (zC 1 Z (zL (yY (j+1) (by omega) (by omega) (Sub.sel [0,1,2,6,7,8,12,13,24,25] Z) (fun _ h=>by simpa [mkSet,bitC] using h)))))))
    refine zM (v:=str (if q k j then [49] else [48])) Z (qM Z jQ Z qD (fun w1 hw1=>bitOf_ok (q k j) w1 )) (zJ (zI (fun _ h=>h.tail) ?_));refine zS Z (zM Z (zP 0 Z yB Z Z Z) (zJ (zI (fun _ h=>h.tail) ?_)));refine zR Z Z Z Z Z (yC Z Z Z (by simp;split <;> simp <;> omega)) (fun _ h=>h.tail) (zR Z Z Z Z Z (zH Z zY Z qJ Z Z) (fun _ h=>h.tail) (zS Z (qI (v:=str ((mkRel q N.toNat k++mkSet (q k) j)++(if q k j then [49] else [48]))) (hs':=[bk_ p7 #[i6_ N,str (mkSet p (k+1)),str ((mkRel q N.toNat k++mkSet (q k) j)++(if q k j then [49] else [48]))] 24,_]) 0 Z Z Z Z Z Z qJ Z (by simp) Z (zJ (zI (fun _ h=>h.tail) ?_)))));refine yF (zD [0,1,2,6,7,8,12,13,24,25] [_,_,_,_,_,_,_,_,_,_] Z (zB (zG Z (qQ Z Z Z (by omega) (by omega)) (zC 1 Z (zL (yY (j+1) (by omega) (by omega) (Sub.sel [0,1,2,6,7,8,12,13,24,25] Z) (fun _ h=>by simpa [mkSet,bitC] using h)))))))
   refine xO Z (zD [0,1,2,6,7,12,13] [_,_,_,_,_,_,_] Z (zB (zG Z (qQ Z Z Z (by omega) (by omega)) (zC 1 Z (zL (yY (k+1) (by omega) (by omega) (Sub.sel [0,1,2,6,7,12,13] Z) (fun _ h=>by rw [show j=N.toNat from by omega] at h;exact h)))))))
  refine zM (v:=bo_ (p k)) Z (vT Z Z hF1 Z qD (fun w1 hw1=>hp w1 hw1.below k (by omega))) (zJ (zI (fun _ h=>h.tail) ?_));refine yS Z Z ?_ ?_
  ·
   refine zM Z (zP 0 Z yB Z Z Z) (zJ (zI (fun _ h=>h.tail) ?_));refine zS Z (zM (v:=str (if p k then [49] else [48])) Z (qM Z jQ Z qD (fun w1 hw1=>bitOf_ok (p k) w1 )) (zJ (zI (fun _ h=>h.tail) ?_)));refine zR Z Z Z Z Z (yC Z Z Z (by simp;split <;> simp <;> omega)) (fun _ h=>h.tail) (zR Z Z Z Z Z (zH Z zY Z qJ Z Z) (fun _ h=>h.tail) (zS Z (qI (v:=str ((mkSet p k)++(if p k then [49] else [48]))) (hs':=[bk_ p7 #[i6_ N,str ((mkSet p k)++(if p k then [49] else [48])),str (mkRel q N.toNat k)] 24,_]) 0 Z Z Z Z Z Z qJ Z (by simp) Z (zJ (zI (fun _ h=>h.tail) ?_)))));refine yF (zD [0,1,2,6,7,8,12,13] [_,_,_,_,_,_,_,_] Z (zF (zB (zC 2 Z (zL (zD [0,1,2,6,7,8,12,13,24,25] [_,_,_,_,_,_,_,_,_,_] Z (qY (jR (σ:=Nat) (fun j=>(j:Int)≤N) (fun j=>[(0,i6_ N),(1,.func (.func F1) b1 c1),(2,.func (.func F2) b2 c2),(6,pt_ p6),(7,pt_ p7),(8,i6_ (k:Int)),(12,i6_ N),(13,i6_ (k:Int)),(24,i6_ N),(25,i6_ (j:Int))]) (fun j=>Own w.heap.size w [bk_ p7 #[i6_ N,str (mkSet p (k+1)),str (mkRel q N.toNat k++mkSet (q k) j)] 24,bk_ p6 #[i6_ 0,str ([]),str ([])] 24]) (fun j=>(N - j).toNat) (0) (by omega) (Sub.sel [0,1,2,6,7,8,12,13,24,25] Z) (fun _ h=>by simpa [mkSet,bitC] using h) ?_))))))))
   rintro j hj;refine zF (zB (zC 1 Z (zL (zD [0,1,2,6,7,8,12,13,24,25,26] [_,_,_,_,_,_,_,_,_,_,_] Z (zF (yG Z (fun h26_1=>?_) (fun h26_1=>?_)))))))
   ·
    refine qU (zD [0,1,2,6,7,8,12,13,24,25] [_,_,_,_,_,_,_,_,_,_] Z (zF (qY (zF (zB (zC 2 Z (zL (zD [0,1,2,6,7,8,9,12,13,24,25] [_,_,_,_,_,_,_,_,_,_,_] Z (xY (S:=Own w.heap.size w [bk_ p6 #[i6_ 0,str ([]),str ([])] 24]) (.take 0 (.take 2 (.take 3 (.take 4 (.two 1 (.one 5 (.one 6 (.take 7 (.take 8 (.one 9 .done))))) 5 (.two 1 (.one 6 (.take 7 (.take 8 (.one 9 .done)))) 6 (.one 1 (.take 7 (.take 8 (.one 9 .done)))))))))) yD (fun _ h=>h.drawn) (by kernel_rfl) (zR Z Z Z Z Z (zH Z zY Z qJ Z Z) (fun _ h=>h.tail) (jY 3 Z (fun _ h=>h.tail) (yS Z Z ?_ ?_))))))))))))
    ·
     refine zM Z (zP 0 Z yB Z Z Z) (zJ (zI (fun _ h=>h.tail) ?_));refine zS Z (zM (v:=bo_ (q k j)) Z (vT Z Z hF2 Z qD (fun w1 hw1=>hq w1 hw1.below k j (by omega) (by omega))) (zJ (zI (fun _ h=>h.tail) ?_)));refine zS Z (zM (v:=str (if q k j then [49] else [48])) Z (qM Z jQ Z qD (fun w1 hw1=>bitOf_ok (q k j) w1 )) (zJ (zI (fun _ h=>h.tail) ?_)));refine zR Z Z Z Z Z (yC Z Z Z (by simp;split <;> simp <;> omega)) (fun _ h=>h.tail) (zR Z Z Z Z Z (zH Z zY Z qJ Z Z) (fun _ h=>h.tail) (zS Z (qI (v:=str ((mkRel q N.toNat k++mkSet (q k) j)++(if q k j then [49] else [48]))) (hs':=[bk_ p7 #[i6_ N,str (mkSet p (k+1)),str ((mkRel q N.toNat k++mkSet (q k) j)++(if q k j then [49] else [48]))] 24,_]) 0 Z Z Z Z Z Z qJ Z (by simp) Z (zJ (zI (fun _ h=>h.tail) ?_)))));refine yF (zD [0,1,2,6,7,8,12,13,24,25] [_,_,_,_,_,_,_,_,_,_] Z (zB (zG Z (qQ Z Z Z (by omega) (by omega)) (zC 1 Z (zL (yY (j+1) (by omega) (by omega) (Sub.sel [0,1,2,6,7,8,12,13,24,25] Z) (fun _ h=>by simpa [mkSet,bitC] using h)))))))
    refine zM (v:=bo_ (q k j)) Z (vT Z Z hF2 Z qD (fun w1 hw1=>hq w1 hw1.below k j (by omega) (by omega))) (zJ (zI (fun _ h=>h.tail) ?_));refine yS Z Z ?_ ?_
    ·
     refine zM Z (zP 0 Z yB Z Z Z) (zJ (zI (fun _ h=>h.tail) ?_));refine zS Z (zM (v:=str (if q k j then [49] else [48])) Z (qM Z jQ Z qD (fun w1 hw1=>bitOf_ok (q k j) w1 )) (zJ (zI (fun _ h=>h.tail) ?_)));refine zR Z Z Z Z Z (yC Z Z Z (by simp;split <;> simp <;> omega)) (fun _ h=>h.tail) (zR Z Z Z Z Z (zH Z zY Z qJ Z Z) (fun _ h=>h.tail) (zS Z (qI (v:=str ((mkRel q N.toNat k++mkSet (q k) j)++(if q k j then [49] else [48]))) (hs':=[bk_ p7 #[i6_ N,str (mkSet p (k+1)),str ((mkRel q N.toNat k++mkSet (q k) j)++(if q k j then [49] else [48]))] 24,_]) 0 Z Z Z Z Z Z qJ Z (by simp) Z (zJ (zI (fun _ h=>h.tail) ?_)))));refine yF (zD [0,1,2,6,7,8,12,13,24,25] [_,_,_,_,_,_,_,_,_,_] Z (zB (zG Z (qQ Z Z Z (by omega) (by omega)) (zC 1 Z (zL (yY (j+1) (by omega) (by omega) (Sub.sel [0,1,2,6,7,8,12,13,24,25] Z) (fun _ h=>by simpa [mkSet,bitC] using h)))))))
    refine zM (v:=str (if q k j then [49] else [48])) Z (qM Z jQ Z qD (fun w1 hw1=>bitOf_ok (q k j) w1 )) (zJ (zI (fun _ h=>h.tail) ?_));refine zS Z (zM Z (zP 0 Z yB Z Z Z) (zJ (zI (fun _ h=>h.tail) ?_)));refine zR Z Z Z Z Z (yC Z Z Z (by simp;split <;> simp <;> omega)) (fun _ h=>h.tail) (zR Z Z Z Z Z (zH Z zY Z qJ Z Z) (fun _ h=>h.tail) (zS Z (qI (v:=str ((mkRel q N.toNat k++mkSet (q k) j)++(if q k j then [49] else [48]))) (hs':=[bk_ p7 #[i6_ N,str (mkSet p (k+1)),str ((mkRel q N.toNat k++mkSet (q k) j)++(if q k j then [49] else [48]))] 24,_]) 0 Z Z Z Z Z Z qJ Z (by simp) Z (zJ (zI (fun _ h=>h.tail) ?_)))));refine yF (zD [0,1,2,6,7,8,12,13,24,25] [_,_,_,_,_,_,_,_,_,_] Z (zB (zG Z (qQ Z Z Z (by omega) (by omega)) (zC 1 Z (zL (yY (j+1) (by omega) (by omega) (Sub.sel [0,1,2,6,7,8,12,13,24,25] Z) (fun _ h=>by simpa [mkSet,bitC] using h)))))))
   refine xO Z (zD [0,1,2,6,7,12,13] [_,_,_,_,_,_,_] Z (zB (zG Z (qQ Z Z Z (by omega) (by omega)) (zC 1 Z (zL (yY (k+1) (by omega) (by omega) (Sub.sel [0,1,2,6,7,12,13] Z) (fun _ h=>by rw [show j=N.toNat from by omega] at h;exact h)))))))
  refine zM (v:=str (if p k then [49] else [48])) Z (qM Z jQ Z qD (fun w1 hw1=>bitOf_ok (p k) w1 )) (zJ (zI (fun _ h=>h.tail) ?_));refine zS Z (zM Z (zP 0 Z yB Z Z Z) (zJ (zI (fun _ h=>h.tail) ?_)));refine zR Z Z Z Z Z (yC Z Z Z (by simp;split <;> simp <;> omega)) (fun _ h=>h.tail) (zR Z Z Z Z Z (zH Z zY Z qJ Z Z) (fun _ h=>h.tail) (zS Z (qI (v:=str ((mkSet p k)++(if p k then [49] else [48]))) (hs':=[bk_ p7 #[i6_ N,str ((mkSet p k)++(if p k then [49] else [48])),str (mkRel q N.toNat k)] 24,_]) 0 Z Z Z Z Z Z qJ Z (by simp) Z (zJ (zI (fun _ h=>h.tail) ?_)))));refine yF (zD [0,1,2,6,7,8,12,13] [_,_,_,_,_,_,_,_] Z (zF (zB (zC 2 Z (zL (zD [0,1,2,6,7,8,12,13,24,25] [_,_,_,_,_,_,_,_,_,_] Z (qY (jR (σ:=Nat) (fun j=>(j:Int)≤N) (fun j=>[(0,i6_ N),(1,.func (.func F1) b1 c1),(2,.func (.func F2) b2 c2),(6,pt_ p6),(7,pt_ p7),(8,i6_ (k:Int)),(12,i6_ N),(13,i6_ (k:Int)),(24,i6_ N),(25,i6_ (j:Int))]) (fun j=>Own w.heap.size w [bk_ p7 #[i6_ N,str (mkSet p (k+1)),str (mkRel q N.toNat k++mkSet (q k) j)] 24,bk_ p6 #[i6_ 0,str ([]),str ([])] 24]) (fun j=>(N - j).toNat) (0) (by omega) (Sub.sel [0,1,2,6,7,8,12,13,24,25] Z) (fun _ h=>by simpa [mkSet,bitC] using h) ?_))))))))
  rintro j hj;refine zF (zB (zC 1 Z (zL (zD [0,1,2,6,7,8,12,13,24,25,26] [_,_,_,_,_,_,_,_,_,_,_] Z (zF (yG Z (fun h26_2=>?_) (fun h26_2=>?_)))))))
  ·
   refine qU (zD [0,1,2,6,7,8,12,13,24,25] [_,_,_,_,_,_,_,_,_,_] Z (zF (qY (zF (zB (zC 2 Z (zL (zD [0,1,2,6,7,8,9,12,13,24,25] [_,_,_,_,_,_,_,_,_,_,_] Z (xY (S:=Own w.heap.size w [bk_ p6 #[i6_ 0,str ([]),str ([])] 24]) (.take 0 (.take 2 (.take 3 (.take 4 (.two 1 (.one 5 (.one 6 (.take 7 (.take 8 (.one 9 .done))))) 5 (.two 1 (.one 6 (.take 7 (.take 8 (.one 9 .done)))) 6 (.one 1 (.take 7 (.take 8 (.one 9 .done)))))))))) yD (fun _ h=>h.drawn) (by kernel_rfl) (zR Z Z Z Z Z (zH Z zY Z qJ Z Z) (fun _ h=>h.tail) (jY 3 Z (fun _ h=>h.tail) (yS Z Z ?_ ?_))))))))))))
   ·
    refine zM Z (zP 0 Z yB Z Z Z) (zJ (zI (fun _ h=>h.tail) ?_));refine zS Z (zM (v:=bo_ (q k j)) Z (vT Z Z hF2 Z qD (fun w1 hw1=>hq w1 hw1.below k j (by omega) (by omega))) (zJ (zI (fun _ h=>h.tail) ?_)));refine zS Z (zM (v:=str (if q k j then [49] else [48])) Z (qM Z jQ Z qD (fun w1 hw1=>bitOf_ok (q k j) w1 )) (zJ (zI (fun _ h=>h.tail) ?_)));refine zR Z Z Z Z Z (yC Z Z Z (by simp;split <;> simp <;> omega)) (fun _ h=>h.tail) (zR Z Z Z Z Z (zH Z zY Z qJ Z Z) (fun _ h=>h.tail) (zS Z (qI (v:=str ((mkRel q N.toNat k++mkSet (q k) j)++(if q k j then [49] else [48]))) (hs':=[bk_ p7 #[i6_ N,str (mkSet p (k+1)),str ((mkRel q N.toNat k++mkSet (q k) j)++(if q k j then [49] else [48]))] 24,_]) 0 Z Z Z Z Z Z qJ Z (by simp) Z (zJ (zI (fun _ h=>h.tail) ?_)))));refine yF (zD [0,1,2,6,7,8,12,13,24,25] [_,_,_,_,_,_,_,_,_,_] Z (zB (zG Z (qQ Z Z Z (by omega) (by omega)) (zC 1 Z (zL (yY (j+1) (by omega) (by omega) (Sub.sel [0,1,2,6,7,8,12,13,24,25] Z) (fun _ h=>by simpa [mkSet,bitC] using h)))))))
   refine zM (v:=bo_ (q k j)) Z (vT Z Z hF2 Z qD (fun w1 hw1=>hq w1 hw1.below k j (by omega) (by omega))) (zJ (zI (fun _ h=>h.tail) ?_));refine yS Z Z ?_ ?_
   ·
    refine zM Z (zP 0 Z yB Z Z Z) (zJ (zI (fun _ h=>h.tail) ?_));refine zS Z (zM (v:=str (if q k j then [49] else [48])) Z (qM Z jQ Z qD (fun w1 hw1=>bitOf_ok (q k j) w1 )) (zJ (zI (fun _ h=>h.tail) ?_)));refine zR Z Z Z Z Z (yC Z Z Z (by simp;split <;> simp <;> omega)) (fun _ h=>h.tail) (zR Z Z Z Z Z (zH Z zY Z qJ Z Z) (fun _ h=>h.tail) (zS Z (qI (v:=str ((mkRel q N.toNat k++mkSet (q k) j)++(if q k j then [49] else [48]))) (hs':=[bk_ p7 #[i6_ N,str (mkSet p (k+1)),str ((mkRel q N.toNat k++mkSet (q k) j)++(if q k j then [49] else [48]))] 24,_]) 0 Z Z Z Z Z Z qJ Z (by simp) Z (zJ (zI (fun _ h=>h.tail) ?_)))));refine yF (zD [0,1,2,6,7,8,12,13,24,25] [_,_,_,_,_,_,_,_,_,_] Z (zB (zG Z (qQ Z Z Z (by omega) (by omega)) (zC 1 Z (zL (yY (j+1) (by omega) (by omega) (Sub.sel [0,1,2,6,7,8,12,13,24,25] Z) (fun _ h=>by simpa [mkSet,bitC] using h)))))))
   refine zM (v:=str (if q k j then [49] else [48])) Z (qM Z jQ Z qD (fun w1 hw1=>bitOf_ok (q k j) w1 )) (zJ (zI (fun _ h=>h.tail) ?_));refine zS Z (zM Z (zP 0 Z yB Z Z Z) (zJ (zI (fun _ h=>h.tail) ?_)));refine zR Z Z Z Z Z (yC Z Z Z (by simp;split <;> simp <;> omega)) (fun _ h=>h.tail) (zR Z Z Z Z Z (zH Z zY Z qJ Z Z) (fun _ h=>h.tail) (zS Z (qI (v:=str ((mkRel q N.toNat k++mkSet (q k) j)++(if q k j then [49] else [48]))) (hs':=[bk_ p7 #[i6_ N,str (mkSet p (k+1)),str ((mkRel q N.toNat k++mkSet (q k) j)++(if q k j then [49] else [48]))] 24,_]) 0 Z Z Z Z Z Z qJ Z (by simp) Z (zJ (zI (fun _ h=>h.tail) ?_)))));refine yF (zD [0,1,2,6,7,8,12,13,24,25] [_,_,_,_,_,_,_,_,_,_] Z (zB (zG Z (qQ Z Z Z (by omega) (by omega)) (zC 1 Z (zL (yY (j+1) (by omega) (by omega) (Sub.sel [0,1,2,6,7,8,12,13,24,25] Z) (fun _ h=>by simpa [mkSet,bitC] using h)))))))
  refine xO Z (zD [0,1,2,6,7,12,13] [_,_,_,_,_,_,_] Z (zB (zG Z (qQ Z Z Z (by omega) (by omega)) (zC 1 Z (zL (yY (k+1) (by omega) (by omega) (Sub.sel [0,1,2,6,7,12,13] Z) (fun _ h=>by rw [show j=N.toNat from by omega] at h;exact h)))))))
 refine xO Z (zD [6,7] [_,_] Z (zF (qK (zM Z (yA (cs:=#[i6_ N,str (mkSet p k),str (mkRel q N.toNat k)]) 0 Z qX Z Z qW) (xQ (cs':=#[i6_ N,str (mkSet p k),str (mkRel q N.toNat k)]) (hs':=[_,bk_ p6 #[i6_ N,str (mkSet p k),str (mkRel q N.toNat k)] 24]) 1 Z Z Z Z Z (by kernel_rfl:_=some Tryd.t24) Z Z Z Z Z (zJ (zD [6] [_] Z (qL (Kt.endBox (cs:=#[i6_ N,str (mkSet p k),str (mkRel q N.toNat k)]) 1 Z Z Z qX qW fun w' hw=>?_)))))))))
 obtain rfl:k=N.toNat:=by omega
 exact ⟨rfl,hw.below⟩
end Go.Proofs.YteccfipfimbdgaaDoor
namespace Go.Proofs.YteccfipfimbdgaaDoor
open Go.RowKit Go.Wk
set_option linter.unusedSimpArgs false
set_option maxHeartbeats 400000 in
theorem partSet_ok (g k:Nat) (v:Value) (a:St) (xs:List Int) (w:World) (hg:w.heap[g]?=some (.cells #[.int .i64 a.n,str a.set,str a.rel] 24 (0,0))) (hk:w.heap[k]?=some (.cells #[v] 30 (0,0))) (ha:a.Fine) (hv:Ints w v xs) (hA:a.Els xs) (x:Nat) (hx:x<xs.length) :
    Calls Tryd.prog 109 [i6_ (x:Int),.pointer (some ⟨g,0,none⟩),.pointer (some ⟨k,0,none⟩)].toArray w fun en w'=>en=.returned (.bool (a.inSet (xs.getD x 0)))∧Below w.heap.size w w':=by
 refine fnStart (n:=11) (e:=[(0,i6_ (x:Int)),(1,.pointer (some ⟨g,0,none⟩)),(2,.pointer (some ⟨k,0,none⟩))]) Tryd.func109 Z Z Z Z Ends.both ?_
 have hx9:=hA _ (mem_at0 hx);refine zF (zB (zC 1 Z (zL (zD [0,1,2] [_,_,_] Z (zF (jC yD (fun _ h=>h.drawn) (by kernel_rfl) (zG (v:=vS a) Z (OpQ.loadN (cs:=#[i6_ a.n,str a.set,str a.rel]) Z qX qW Z (fun w1 hw1 j v hj=>box_cells hg hw1 j v hj)) (zG (v:=v) Z (qT Z Tryd.isAgg30 Z (fun w1 hw1=>at_box hk hw1 0 Z)) (zC 1 Z (zG (v:=.pointer (some (sAt v (x:Int)))) Z (xU Z yH zK Z Z (by omega) (by rw [ints_length];omega) (fun w1 hw1=>Row.own hv hw1)) (zG (v:=i6_ (xs.getD ((x:Int).toNat) 0)) Z (qT Z zV Z (fun w1 hw1=>Ints.cell (Row.own hv hw1) (by omega) (by omega))) (zG (v:=bo_ (a.inSet (xs.getD ((x:Int).toNat) 0))) Z (qM Z Tryd.call110 Z qD (fun w1 hw1=>inSet_ok a (xs.getD ((x:Int).toNat) 0) w1 ha (by first | assumption | exact St.Els.at (by assumption) (by omega) (by omega)))) (zC 1 Z (zL (zD [4] [_] Z (qL (qS Z Z fun w' hw=>?_)))))))))))))))))
 exact ⟨rfl,hw.below⟩
set_option maxHeartbeats 400000 in
theorem partRel_ok (g k:Nat) (v:Value) (a:St) (xs:List Int) (w:World) (hg:w.heap[g]?=some (.cells #[.int .i64 a.n,str a.set,str a.rel] 24 (0,0))) (hk:w.heap[k]?=some (.cells #[v] 30 (0,0))) (ha:a.Fine) (hv:Ints w v xs) (hA:a.Els xs) (x y:Nat) (hx:x<xs.length) (hy:y<xs.length) :
    Calls Tryd.prog 111 [i6_ (x:Int),i6_ (y:Int),.pointer (some ⟨g,0,none⟩),.pointer (some ⟨k,0,none⟩)].toArray w fun en w'=>en=.returned (.bool (a.inRel (xs.getD x 0) (xs.getD y 0)))∧Below w.heap.size w w':=by
 refine fnStart (n:=17) (e:=[(0,i6_ (x:Int)),(1,i6_ (y:Int)),(2,.pointer (some ⟨g,0,none⟩)),(3,.pointer (some ⟨k,0,none⟩))]) Tryd.func111 Z Z Z Z Ends.both ?_
 have hx9:=hA _ (mem_at0 hx)
 have hy9:=hA _ (mem_at0 hy);refine zF (zB (zC 1 Z (zL (zD [0,1,2,3] [_,_,_,_] Z (zF (jC yD (fun _ h=>h.drawn) (by kernel_rfl) (zG (v:=vS a) Z (OpQ.loadN (cs:=#[i6_ a.n,str a.set,str a.rel]) Z qX qW Z (fun w1 hw1 j v hj=>box_cells hg hw1 j v hj)) (zG (v:=v) Z (qT Z Tryd.isAgg30 Z (fun w1 hw1=>at_box hk hw1 0 Z)) (zC 1 Z (zG (v:=.pointer (some (sAt v (x:Int)))) Z (xU Z yH zK Z Z (by omega) (by rw [ints_length];omega) (fun w1 hw1=>Row.own hv hw1)) (zG (v:=i6_ (xs.getD ((x:Int).toNat) 0)) Z (qT Z zV Z (fun w1 hw1=>Ints.cell (Row.own hv hw1) (by omega) (by omega))) (zG (v:=v) Z (qT Z Tryd.isAgg30 Z (fun w1 hw1=>at_box hk hw1 0 Z)) (zC 1 Z (zG (v:=.pointer (some (sAt v (y:Int)))) Z (xU Z yH zK Z Z (by omega) (by rw [ints_length];omega) (fun w1 hw1=>Row.own hv hw1)) (zG (v:=i6_ (xs.getD ((y:Int).toNat) 0)) Z (qT Z zV Z (fun w1 hw1=>Ints.cell (Row.own hv hw1) (by omega) (by omega))) (zG (v:=bo_ (a.inRel (xs.getD ((x:Int).toNat) 0) (xs.getD ((y:Int).toNat) 0))) Z (qM Z Tryd.call112 Z qD (fun w1 hw1=>inRel_ok a (xs.getD ((x:Int).toNat) 0) (xs.getD ((y:Int).toNat) 0) w1 ha (by first | assumption | exact St.Els.at (by assumption) (by omega) (by omega)) (by first | assumption | exact St.Els.at (by assumption) (by omega) (by omega)))) (zC 1 Z (zL (zD [6] [_] Z (qL (qS Z Z fun w' hw=>?_)))))))))))))))))))))
 exact ⟨rfl,hw.below⟩
set_option maxHeartbeats 400000 in
theorem partOf_step (a:St) (src:Option Addr) (cap:Nat) (xs:List Int) (w:World) (hva:Ints w (.slice src (ints xs).length cap) xs) (ha:a.Fine) (hA:a.Els xs) (h1:1≤xs.length) (h8:xs.length≤8) :
    Calls Tryd.prog 68 [vS a,(.slice src (ints xs).length cap)].toArray w fun en w'=>en=.returned (vS (partSt a xs))∧Below w.heap.size w w':=by
 refine fnStart (n:=10) (e:=[(0,vS a),(1,(.slice src (ints xs).length cap))]) Tryd.func68 Z Z Z Z Ends.both (zF (qK (jM (v:=vS a) Z Z Z Z Z fun p2 hp2=>?_)))
 show Ll _ _ (Own _ _ [_]) _ _ ((2,pt_ p2)::_) _ _ _;refine jM (v:=(.slice src (ints xs).length cap)) Z Z Z Z Z fun p3 hp3=>?_
 show Ll _ _ (Own _ _ [_,_]) _ _ ((3,pt_ p3)::_) _ _ _;refine vD Z Z Z Z xM fun p4 hp4=>?_
 show Ll _ _ (Own _ _ [bk_ p4 #[i6_ 0,str ([]),str ([])] 24,_,_]) _ _ ((4,pt_ p4)::_) _ _ _;refine zJ (zD [2,3,4] [_,_,_] Z (zF (qK (zM Z (zP 1 Z Tryd.isAgg30 Z Z Z) (zM (v:=i6_ (xs.length:Int)) Z (xH Z yH Z (ints_length _) (fun w1 hw1=>Row.own hva hw1)) (zM (v:=.func (.func 109) #[] #[pt_ p2,pt_ p3]) Z (OpQ.func' (cap:=[.tmp 2,.tmp 3]) Z Z) (zM (v:=.func (.func 111) #[] #[pt_ p2,pt_ p3]) Z (OpQ.func' (cap:=[.tmp 2,.tmp 3]) Z Z) (zM (v:=vS (partSt a xs)) Z (qM Z Tryd.call108 Z qD (fun w1 hw1=>mkStruct_ok (xs.length:Int) (fun x=>a.inSet (xs.getD x 0)) (fun x y=>a.inRel (xs.getD x 0) (xs.getD y 0)) 109 111 #[] #[pt_ p2,pt_ p3] #[] #[pt_ p2,pt_ p3] w1 (by omega) (by omega) Tryd.call109 Tryd.call111 (fun w2 hb x hx=>partSet_ok p2 p3 _ a xs w2 ((hw1.stable _ _ hb).has 2 _ _ Z).2 ((hw1.stable _ _ hb).has 1 _ _ Z).2 ha (Row.own hva (hw1.stable _ _ hb)) hA x (by omega)) (fun w2 hb x y hx hy=>partRel_ok p2 p3 _ a xs w2 ((hw1.stable _ _ hb).has 2 _ _ Z).2 ((hw1.stable _ _ hb).has 1 _ _ Z).2 ha (Row.own hva (hw1.stable _ _ hb)) hA x y (by omega) (by omega)))) (xQ (cs':=#[i6_ ((partSt a xs).n),str ((partSt a xs).set),str ((partSt a xs).rel)]) (hs':=[bk_ p4 #[i6_ ((partSt a xs).n),str ((partSt a xs).set),str ((partSt a xs).rel)] 24,_,_]) 0 Z Z Z Z Z (by kernel_rfl:_=some Tryd.t24) Z Z Z Z Z (zJ (zD [4] [_] Z (qL (Kt.endBox (cs:=#[i6_ ((partSt a xs).n),str ((partSt a xs).set),str ((partSt a xs).rel)]) 0 Z Z Z qX qW fun w' hw=>?_)))))))))))))
 exact ⟨rfl,hw.below⟩
theorem partOf_ok (a:St) (va:Value) (xs:List Int) (w:World) (hva:Ints w va xs) (ha:a.Fine) (hA:a.Els xs) (h1:1≤xs.length) (h8:xs.length≤8):Calls Tryd.prog 68 #[vS a,va] w fun en w'=>en=.returned (vS (partSt a xs))∧Below w.heap.size w w':=by
  obtain ⟨src,cap,hv9,-⟩:=id hva
  subst hv9
  exact partOf_step a src cap xs w hva ha hA h1 h8
set_option maxHeartbeats 400000 in
theorem iPartOf_ok (a:St) (va:Value) (xs:List Int) (w:World) (hva:Ints w va xs) (hv:validB a=true) (hA:a.Els xs) (h1:1≤xs.length) (h8:xs.length≤8) (hd:xs.Nodup) :
    Calls Tryd.prog 37 [vS a,va].toArray w fun en w'=>en=.returned (.tuple #[vS (partSt a xs),.bool true])∧Below w.heap.size w w':=by
 refine fnStart (n:=29) (e:=[(0,vS a),(1,va)]) Tryd.func37 Z Z Z Z Ends.both ?_
 have ha:=validB_fine hv
 have hsa:=ha.small;refine zF (qK (jM (v:=vS a) Z Z Z Z Z fun p2 hp2=>?_))
 show Ll _ _ (Own _ _ [_]) _ _ ((2,pt_ p2)::_) _ _ _;refine vD Z Z Z Z xM fun p4 hp4=>?_
 show Ll _ _ (Own _ _ [bk_ p4 #[i6_ 0,str ([]),str ([])] 24,_]) _ _ ((4,pt_ p4)::_) _ _ _;refine qN 1 Z (zJ (zD [1,2,4] [_,_,_] Z (zF (zF (zB (zG Z (yA (cs:=#[i6_ a.n,str a.set,str a.rel]) 1 Z qX Z Z qW) (zG (v:=bo_ true) Z (qM Z Tryd.call32 Z qD (fun w1 hw1=>known_b hv (isStructure_ok a w1 hsa))) (zC 3 Z (zG (v:=i6_ (xs.length:Int)) Z (xH Z yH Z (ints_length _) (fun w1 hw1=>Row.own hva hw1)) (zC 3 Z (xJ fun b14 hg14=>?_)))))))))))
 cases b14
 ·
  replace hg14:=zW hg14;refine zG Z (yA (cs:=#[i6_ a.n,str a.set,str a.rel]) 1 Z qX Z Z qW) (zC 1 Z (zG (v:=bo_ (xs.all (elB a))) Z (qM Z Tryd.call66 Z qD (fun w1 hw1=>areElements_ok a va xs w1 (Row.own hva hw1) (by first | (simp;done) | (simp;omega) | omega))) (zC 3 Z (xJ fun b20 hg20=>?_))))
  cases b20
  ·
   replace hg20:=not_false hg20;refine zC 1 Z (zG (v:=bo_ true) Z (qM Z Tryd.call67 Z qD (fun w1 hw1=>allDiff_ok va xs w1 (Row.own hva hw1) (by omega) hd)) (zC 2 Z (zL (zD [1,2,4,24] [_,_,_,_] Z (xV Z (qU (zD [1,2,4] [_,_,_] Z (zF (qK (zM Z (yA (cs:=#[i6_ a.n,str a.set,str a.rel]) 1 Z qX Z Z qW) (qN 1 Z (zM (v:=vS (partSt a xs)) Z (qM Z Tryd.call68 Z qD (fun w1 hw1=>partOf_ok a va xs w1 (Row.own hva hw1) ha hA h1 h8)) (xQ (cs':=#[i6_ ((partSt a xs).n),str ((partSt a xs).set),str ((partSt a xs).rel)]) (hs':=[bk_ p4 #[i6_ ((partSt a xs).n),str ((partSt a xs).set),str ((partSt a xs).rel)] 24,_]) 0 Z Z Z Z Z (by kernel_rfl:_=some Tryd.t24) Z Z Z Z Z (qN 1 Z (zJ (zD [4,5] [_,_] Z (qL (Kt.endMany Z (.cell (cs:=#[i6_ ((partSt a xs).n),str ((partSt a xs).set),str ((partSt a xs).rel)]) Z (fun w1 hw1=>hw1.loadBox 0 Z qX qW) (.tmp (v:=bo_ true) Z ResAt.nil)) (by simp) fun w' hw=>?_))))))))))))))))))
   exact ⟨rfl,hw.below⟩
  replace hg20:=not_true hg20;refine zU Z (zU Z (zU Z (zC 1 Z (zL (zD [1,2,4,24] [_,_,_,_] Z (yU Z (zF (qK (zM (v:=.agg #[i6_ 0,str ([]),str ([])]) Z (vK (xs:=[]) (vs:=[]) Z Z (by kernel_rfl)) (xQ (cs':=#[i6_ 0,str ([]),str ([])]) (hs':=[bk_ p4 #[i6_ 0,str ([]),str ([])] 24,_]) 0 Z Z Z Z Z (by kernel_rfl:_=some Tryd.t24) Z Z Z Z Z (qN 1 Z (zJ (zD [4,5] [_,_] Z (qL (Kt.endMany Z (.cell (cs:=#[i6_ 0,str ([]),str ([])]) Z (fun w1 hw1=>hw1.loadBox 0 Z qX qW) (.tmp (v:=bo_ false) Z ResAt.nil)) (by simp) fun w' hw=>?_)))))))))))))))
  first | (exfalso;omega) | exact absurd (List.all_eq_true.2 fun x hx=>elB_true.2 (hA x hx)) (by rw [show xs.all (elB a)=false by assumption];decide)
 replace hg14:=zZ hg14;refine zU Z (zU Z (zU Z (zU Z (zC 2 Z (zU Z (zU Z (zU Z (zC 1 Z (zL (zD [1,2,4,24] [_,_,_,_] Z (yU Z (zF (qK (zM (v:=.agg #[i6_ 0,str ([]),str ([])]) Z (vK (xs:=[]) (vs:=[]) Z Z (by kernel_rfl)) (xQ (cs':=#[i6_ 0,str ([]),str ([])]) (hs':=[bk_ p4 #[i6_ 0,str ([]),str ([])] 24,_]) 0 Z Z Z Z Z (by kernel_rfl:_=some Tryd.t24) Z Z Z Z Z (qN 1 Z (zJ (zD [4,5] [_,_] Z (qL (Kt.endMany Z (.cell (cs:=#[i6_ 0,str ([]),str ([])]) Z (fun w1 hw1=>hw1.loadBox 0 Z qX qW) (.tmp (v:=bo_ false) Z ResAt.nil)) (by simp) fun w' hw=>?_))))))))))))))))))))
 first | (exfalso;omega) | exact absurd (List.all_eq_true.2 fun x hx=>elB_true.2 (hA x hx)) (by rw [show xs.all (elB a)=false by assumption];decide)
set_option maxHeartbeats 400000 in
theorem iMove_ok (a:St) (va:Value) (xs:List Int) (w:World) (hva:Ints w va xs) (hv:validB a=true) (hA:a.Els xs) (h1:1≤xs.length) (h8:xs.length≤8) (hd:xs.Nodup) (hl:(xs.length:Int)=a.n) :
    Calls Tryd.prog 11 [vS a,va].toArray w fun en w'=>∃ o:St,en=.returned (.tuple #[vS o,bo_ true])∧((o.Small∧validB o=true)∧Shaped a o)∧Below w.heap.size w w':=by
 refine fnStart (n:=17) (e:=[(0,vS a),(1,va)]) Tryd.func11 Z Z Z Z Ends.both ?_
 have ha:=validB_fine hv;refine zF (qK (jM (v:=vS a) Z Z Z Z Z fun p2 hp2=>?_))
 show Ll _ _ (Own _ _ [_]) _ _ ((2,pt_ p2)::_) _ _ _;refine vD Z Z Z Z xM fun p4 hp4=>?_
 show Ll _ _ (Own _ _ [bk_ p4 #[i6_ 0,str ([]),str ([])] 24,_]) _ _ ((4,pt_ p4)::_) _ _ _;refine qN 1 Z (zJ (zD [1,2,4] [_,_,_] Z (zF (zF (zB (zC 1 Z (zG (v:=i6_ (xs.length:Int)) Z (xH Z yH Z (ints_length _) (fun w1 hw1=>Row.own hva hw1)) (zG Z (zH Z zY Z zK Z Z) (zG Z (zP 1 Z zV Z Z Z) (zC 1 Z (zL (zD [1,2,4,10] [_,_,_,_] Z (yE (b:=!(decide ((xs.length:Int)=a.n))) Z (fun h10=>?_) (fun h10=>?_))))))))))))))
 ·
  replace h10:=not_true h10
  replace h10:=zW h10;refine zF (qK (zM (v:=.agg #[i6_ 0,str ([]),str ([])]) Z (vK (xs:=[]) (vs:=[]) Z Z (by kernel_rfl)) (xQ (cs':=#[i6_ 0,str ([]),str ([])]) (hs':=[bk_ p4 #[i6_ 0,str ([]),str ([])] 24,_]) 0 Z Z Z Z Z (by kernel_rfl:_=some Tryd.t24) Z Z Z Z Z (qN 1 Z (zJ (zD [4,5] [_,_] Z (qL (Kt.endMany Z (.cell (cs:=#[i6_ 0,str ([]),str ([])]) Z (fun w1 hw1=>hw1.loadBox 0 Z qX qW) (.tmp (v:=bo_ false) Z ResAt.nil)) (by simp) fun w' hw=>?_))))))))
  exact absurd hl (by omega)
 replace h10:=not_false h10
 replace h10:=zZ h10;refine qU (zD [1,2,4] [_,_,_] Z (zF (qK (zM Z (yA (cs:=#[i6_ a.n,str a.set,str a.rel]) 1 Z qX Z Z qW) (qN 1 Z (zM (v:=.tuple #[vS (partSt a xs),bo_ true]) Z (qM Z Tryd.call37 Z qD (fun w1 hw1=>iPartOf_ok a va xs w1 (Row.own hva hw1) hv hA h1 h8 hd)) (zM (v:=vS (partSt a xs)) Z (qV Z Z Z) (zM (v:=bo_ true) Z (qV Z Z Z) (xQ (cs':=#[i6_ ((partSt a xs).n),str ((partSt a xs).set),str ((partSt a xs).rel)]) (hs':=[bk_ p4 #[i6_ ((partSt a xs).n),str ((partSt a xs).set),str ((partSt a xs).rel)] 24,_]) 0 Z Z Z Z Z (by kernel_rfl:_=some Tryd.t24) Z Z Z Z Z (qN 1 Z (zJ (zD [4,5] [_,_] Z (qL (Kt.endMany Z (.cell (cs:=#[i6_ ((partSt a xs).n),str ((partSt a xs).set),str ((partSt a xs).rel)]) Z (fun w1 hw1=>hw1.loadBox 0 Z qX qW) (.tmp (v:=bo_ true) Z ResAt.nil)) (by simp) fun w' hw=>?_))))))))))))))
 exact ⟨_,rfl,⟨⟨part_small h1 h8,part_valid h1 h8⟩,part_moved ha hl hA hd⟩,hw.below⟩
end Go.Proofs.YteccfipfimbdgaaDoor
namespace Go.Proofs.YteccfipfimbdgaaDoor
open Go.RowKit Go.Wk
set_option linter.unusedSimpArgs false
set_option maxHeartbeats 400000 in
theorem sTheo_ok (a:St) (vl:Value) (l:List (List UInt8)) (w:World) (hsa:a.Small) (hvl:Strs w vl l) (hl:l.length≤1048576) (hls:∀ s∈l,s.length≤1048576) :
    Calls Tryd.prog 10 [vS a,vl].toArray w fun en w'=>en=.returned (.tuple #[str (theoO a l).1,.bool (theoO a l).2])∧Below w.heap.size w w':=by
 refine fnStart (n:=34) (e:=[(0,vS a),(1,vl)]) Tryd.func10 Z Z Z Z Ends.both (zF (qK (jM (v:=vS a) Z Z Z Z Z fun p2 hp2=>?_)))
 show Ll _ _ (Own _ _ [_]) _ _ ((2,pt_ p2)::_) _ _ _;refine zM (v:=str ([])) Z (xP Z Z) (qN 1 Z (zJ (zD [1,2] [_,_] Z (zF (zB (zG (v:=str ([])) Z (xP Z Z) (zL (zD [1,2,6] [_,_,_] Z (zF (zF (zB (zC 1 Z (zL (zD [1,2,6,7] [_,_,_,_] Z (qY (jR (σ:=Nat) (fun k=>k≤l.length∧∀ i:Nat,i<k→holdK a (l.getD i []) []=true) (fun k=>[(1,vl),(2,pt_ p2),(6,str (theoS a (l.take k))),(7,i6_ (k:Int))]) (fun k=>Own w.heap.size w [bk_ p2 #[i6_ a.n,str a.set,str a.rel] 24]) (fun k=>l.length - k) (0) ⟨by omega,fun i hi=>absurd hi (by omega)⟩ (Sub.cons Z (Sub.cons Z (Sub.cons (by rfl) (Sub.sel [7] Z)))) (fun _ h=>h) ?_))))))))))))))))
 rintro k ⟨hk,hall⟩;refine zF (zF (zB (zC 2 Z (zG (v:=i6_ (l.length:Int)) Z (xH Z xX Z (strs_length _) (fun w1 hw1=>Row.own hvl hw1)) (zC 1 Z (zL (zD [1,2,6,7,13] [_,_,_,_,_] Z (yE (b:=decide ((k:Int)<(l.length:Int))) Z (fun h13=>?_) (fun h13=>?_)))))))))
 ·
  replace h13:=zZ h13
  have hkl:k<l.length:=by omega
  have hfk:(l.getD (k:Int).toNat []).length≤1048576:=hls _ (mem_getD (l:=l) hkl)
  have htl:=theoS_len a (l.take k)
  rw [zT] at htl
  have hbl:=bitS_len (holdV a (l.getD (k:Int).toNat []) []);refine qU (zD [1,2,6,7] [_,_,_,_] Z (zF (qY (zF (jC yD (fun _ h=>h.drawn) (by kernel_rfl) (zG Z (yA (cs:=#[i6_ a.n,str a.set,str a.rel]) 0 Z qX Z Z qW) (zC 2 Z (zG (v:=.pointer (some (sAt vl (k:Int)))) Z (xU Z xX qJ Z Z (by omega) (by rw [strs_length];omega) (fun w1 hw1=>Row.own hvl hw1)) (zG (v:=str (l.getD ((k:Int).toNat) [])) Z (qT Z yB Z (fun w1 hw1=>Strs.cell (Row.own hvl hw1) (by omega) (by omega))) (zG (v:=.tuple #[bo_ (holdV a (l.getD ((k:Int).toNat) []) []),bo_ (holdK a (l.getD ((k:Int).toNat) []) [])]) Z (qM Z Tryd.call34 Z qD (fun w1 hw1=>sIn_ok a (l.getD ((k:Int).toNat) []) w1 hsa hfk)) (zC 1 Z (zG (v:=bo_ (holdV a (l.getD ((k:Int).toNat) []) [])) Z (qV Z Z Z) (zG (v:=bo_ (holdK a (l.getD ((k:Int).toNat) []) [])) Z (qV Z Z Z) (zC 2 Z (zL (zD [1,2,6,7,8,9] [_,_,_,_,_,_] Z (zF (zF (zB (zC 2 Z (zL (zD [1,2,6,7,8,26] [_,_,_,_,_,_] Z (yE (b:=!(holdK a (l.getD ((k:Int).toNat) []) [])) Z (fun h26=>?_) (fun h26=>?_))))))))))))))))))))))))
  ·
   replace h26:=not_true h26;refine zF (zB (zG (v:=str ([])) Z (xP Z Z) (zC 1 Z (zL (zD [4,5] [_,_] Z (qL (yT Z Z Z fun w' hw=>?_)))))))
   exact ⟨by rw [theoO_no (.inr (theoB_at hkl (by simpa using h26)))],hw.below⟩
  replace h26:=not_false h26
  have hkk:holdK a (l.getD k []) []=true:=by simpa using h26
  refine qU (zD [1,2,6,7,8] [_,_,_,_,_] Z (zB (zC 2 Z (zG (v:=str ((if holdV a (l.getD ((k:Int).toNat) []) [] then [49] else [48]))) Z (qM Z vM Z qD (fun w1 hw1=>bitD_ok (holdV a (l.getD ((k:Int).toNat) []) []) w1 )) (zG Z (yC Z Z Z (by first | omega | (simp only [zQ,zX,qA];omega))) (zC 1 Z (zL (zD [1,2,6,7] [_,_,_,_] Z (zB (zC 1 Z (zG Z (qQ Z Z Z (by omega) (by omega)) (zC 1 Z (zL (yY (k+1) ⟨by omega,fun i hi=>(Nat.lt_succ_iff_lt_or_eq.1 hi).elim (hall i) (fun e=>by subst e;exact hkk)⟩ (by omega) (Sub.cons Z (Sub.cons Z (Sub.cons (by rw [theoS_step a (by omega)];rfl) (Sub.sel [7] Z)))) (fun _ h=>h)))))))))))))))
 replace h13:=zW h13;refine xO Z (zD [2,6] [_,_] Z (zF (zB (zC 1 Z (zG Z (yA (cs:=#[i6_ a.n,str a.set,str a.rel]) 0 Z qX Z Z qW) (zG (v:=bo_ (validB a)) Z (qM Z Tryd.call36 Z qD (fun w1 hw1=>sValid_ok a w1 hsa)) (zC 2 Z (zL (zD [4,5] [_,_] Z (qL (yT Z Z Z fun w' hw=>?_)))))))))))
 have hke:k=l.length:=by omega
 exact ⟨by rw [← theo_nil (theoB_all fun i hi=>hall i (by omega)),hke,List.take_length],hw.below⟩
set_option maxHeartbeats 400000 in
theorem iTheo_ok (a:St) (vl:Value) (l:List (List UInt8)) (w:World) (hsa:a.Small) (hvl:Strs w vl l) (hl:l.length≤1048576) (_hls:∀ s∈l,s.length≤1048576) :
    Calls Tryd.prog 9 [vS a,vl].toArray w fun en w'=>en=.returned (.tuple #[str (theoO a l).1,.bool (theoO a l).2])∧Below w.heap.size w w':=by
 refine fnStart (n:=34) (e:=[(0,vS a),(1,vl)]) Tryd.func9 Z Z Z Z Ends.both (zF (qK (jM (v:=vS a) Z Z Z Z Z fun p2 hp2=>?_)))
 show Ll _ _ (Own _ _ [_]) _ _ ((2,pt_ p2)::_) _ _ _;refine zM (v:=str ([])) Z (xP Z Z) (qN 1 Z (zJ (zD [1,2] [_,_] Z (zF (zF (zB (zG Z (yA (cs:=#[i6_ a.n,str a.set,str a.rel]) 0 Z qX Z Z qW) (zG (v:=bo_ (validB a)) Z (qM Z Tryd.call32 Z qD (fun w1 hw1=>isStructure_ok a w1 hsa)) (zC 1 Z (zL (zD [1,2,13] [_,_,_] Z (yE (b:=!(validB a)) Z (fun h13=>?_) (fun h13=>?_)))))))))))))
 ·
  replace h13:=not_true h13;refine zF (zB (zG (v:=str ([])) Z (xP Z Z) (zC 1 Z (zL (zD [4,5] [_,_] Z (qL (yT Z Z Z fun w' hw=>?_)))))))
  exact ⟨by rw [theoO_no (.inl (by simp_all))],hw.below⟩
 replace h13:=not_false h13;refine qU (zD [1,2] [_,_] Z (zF (zB (zG (v:=str ([])) Z (xP Z Z) (zL (zD [1,2,6] [_,_,_] Z (zF (zF (zB (zC 1 Z (zG (v:=i6_ (l.length:Int)) Z (xH Z xX Z (strs_length _) (fun w1 hw1=>Row.own hvl hw1)) (zC 1 Z (zL (zD [2,6,14,15,16] [_,_,_,_,_] Z (qY (jR (σ:=Nat) (fun k=>k≤l.length∧∀ i:Nat,i<k→holdK a (l.getD i []) []=true) (fun k=>[(2,pt_ p2),(6,str (theoS a (l.take k))),(14,vl),(15,i6_ (l.length:Int)),(16,i6_ (k:Int))]) (fun k=>Own w.heap.size w [bk_ p2 #[i6_ a.n,str a.set,str a.rel] 24]) (fun k=>l.length - k) (0) ⟨by omega,fun i hi=>absurd hi (by omega)⟩ (Sub.cons Z (Sub.cons (by rfl) (Sub.sel [14,15,16] Z))) (fun _ h=>h) ?_))))))))))))))))
 rintro k ⟨hk,hall⟩;refine zF (zB (zC 1 Z (zL (zD [2,6,14,15,16,17] [_,_,_,_,_,_] Z (zF (yE (b:=decide ((k:Int)<(l.length:Int))) Z (fun h17=>?_) (fun h17=>?_)))))))
 ·
  replace h17:=zZ h17
  have hkl:k<l.length:=by omega
  have htl:=theoS_len a (l.take k)
  rw [zT] at htl
  have hbl:=bitS_len (holdV a (l.getD (k:Int).toNat []) []);refine qU (zD [2,6,14,15,16] [_,_,_,_,_] Z (zF (qY (zF (zB (zG (v:=.pointer (some (sAt vl (k:Int)))) Z (xU Z xX qJ Z Z (by omega) (by rw [strs_length];omega) (fun w1 hw1=>Row.own hvl hw1)) (zG (v:=str (l.getD ((k:Int).toNat) [])) Z (qT Z yB Z (fun w1 hw1=>Strs.cell (Row.own hvl hw1) (by omega) (by omega))) (zC 1 Z (zL (zD [2,6,8,14,15,16] [_,_,_,_,_,_] Z (zF (zB (zG Z (yA (cs:=#[i6_ a.n,str a.set,str a.rel]) 0 Z qX Z Z qW) (zC 1 Z (zG (v:=.tuple #[bo_ (holdV a (l.getD ((k:Int).toNat) []) []),bo_ (holdK a (l.getD ((k:Int).toNat) []) [])]) Z (qM Z Tryd.call12 Z qD (fun w1 hw1=>iIn_ok a (l.getD ((k:Int).toNat) []) w1 hsa)) (zC 1 Z (zG (v:=bo_ (holdV a (l.getD ((k:Int).toNat) []) [])) Z (qV Z Z Z) (zG (v:=bo_ (holdK a (l.getD ((k:Int).toNat) []) [])) Z (qV Z Z Z) (zC 2 Z (zL (zD [2,6,9,10,14,15,16] [_,_,_,_,_,_,_] Z (zF (zF (zB (zC 2 Z (zL (zD [2,6,9,14,15,16,27] [_,_,_,_,_,_,_] Z (yE (b:=!(holdK a (l.getD ((k:Int).toNat) []) [])) Z (fun h27=>?_) (fun h27=>?_)))))))))))))))))))))))))))))
  ·
   replace h27:=not_true h27;refine zF (zB (zG (v:=str ([])) Z (xP Z Z) (zC 1 Z (zL (zD [4,5] [_,_] Z (qL (yT Z Z Z fun w' hw=>?_)))))))
   exact ⟨by rw [theoO_no (.inr (theoB_at hkl (by simpa using h27)))],hw.below⟩
  replace h27:=not_false h27
  have hkk:holdK a (l.getD k []) []=true:=by simpa using h27
  refine qU (zD [2,6,9,14,15,16] [_,_,_,_,_,_] Z (zB (zC 2 Z (zG (v:=str ((if holdV a (l.getD ((k:Int).toNat) []) [] then [49] else [48]))) Z (qM Z jQ Z qD (fun w1 hw1=>bitOf_ok (holdV a (l.getD ((k:Int).toNat) []) []) w1 )) (zG Z (yC Z Z Z (by first | omega | (simp only [zQ,zX,qA];omega))) (zC 1 Z (zL (zD [2,6,14,15,16] [_,_,_,_,_] Z (zB (zG Z (qQ Z Z Z (by omega) (by omega)) (zC 1 Z (zL (yY (k+1) ⟨by omega,fun i hi=>(Nat.lt_succ_iff_lt_or_eq.1 hi).elim (hall i) (fun e=>by subst e;exact hkk)⟩ (by omega) (Sub.cons Z (Sub.cons (by rw [theoS_step a (by omega)];rfl) (Sub.sel [14,15,16] Z))) (fun _ h=>h))))))))))))))
 replace h17:=zW h17;refine xO Z (zD [6] [_] Z (zF (zB (zC 3 Z (zL (zD [4,5] [_,_] Z (qL (yT Z Z Z fun w' hw=>?_))))))))
 have hke:k=l.length:=by omega
 exact ⟨by rw [theoO_yes (by simp_all) (theoB_all fun i hi=>hall i (by omega)),hke,List.take_length],hw.below⟩
end Go.Proofs.YteccfipfimbdgaaDoor
namespace Go.Proofs.YteccfipfimbdgaaDoor
open Go.RowKit Go.Wk
set_option linter.unusedSimpArgs false
set_option maxHeartbeats 400000 in
theorem lawFnTheory (bv cv:Value) (L L2:List Int) (w:World) (hbv:Row w bv (u8s L)) (hcv:Row w cv (u8s L2)) (hL8:Bytes8 L) (_hL82:Bytes8 L2) (hLm:L.length≤9223372036854775807) (hLm2:L2.length≤9223372036854775807) :
    Calls Tryd.prog 3 [bv,cv].toArray w fun en w'=>en=.returned (.bool true)∧Below w.heap.size w w':=by
 refine fnStart (n:=131) (e:=[(0,bv),(1,cv)]) Tryd.func3 Z Z Z Z Ends.both (zF (zB (zC 1 Z (zL (zD [0,1] [_,_] Z (zF (zF (zB (zC 1 Z (zG (v:=i6_ (L.length:Int)) Z (xH Z yJ Z (u8s_length _) (fun w1 hw1=>Row.own hbv hw1)) (zC 2 Z (xJ fun b23 hg23=>?_))))))))))))
 cases b23
 ·
  replace hg23:=zW hg23;refine zC 1 Z (zG (v:=i6_ (L2.length:Int)) Z (xH Z yJ Z (u8s_length _) (fun w1 hw1=>Row.own hcv hw1)) (zC 2 Z (zL (zD [0,1,27] [_,_,_] Z (yG Z (fun h27=>?_) (fun h27=>?_))))))
  ·
   refine zF (zB (zC 1 Z (zL (zD [4] [_] Z (qL (qS Z Z fun w' hw=>?_))))))
   exact ⟨ret_b (by first | rfl | (simp_all;done)),hw.below⟩
  refine qU (zD [0,1] [_,_] Z (zF (qK (qN 1 Z (vN (ok:=fun ((a,v,l,new):St×Value×List (List UInt8)×List (Nat×Obj))=>((a.Tame)∧True)∧(l.length≤4∧(∀ s∈l,s.length≤200)∧∀ w1,Own w.heap.size w new w1→Strs w1 v l)) (v:=fun ((a,v,l,new):St×Value×List (List UInt8)×List (Nat×Obj))=>.tuple #[vS a,v]) (new:=fun ((a,v,l,new):St×Value×List (List UInt8)×List (Nat×Obj))=>new) (hs:=[]) (xs:=[.tmp 29]) (vs:=[bv]) ([]:List (Nat×Obj)) Z Z Z Z Tryd.call8 Z (fun w1 hw1=>(drawTheo_ok w.heap.size w (([]:List (Nat×Obj))++([])) bv L w1 (fun w2 hw2=>Row.own hbv hw2) hL8 (by omega) hw1).mono fun en w' ⟨a,v,l,new,h1,h2,h3⟩=>⟨(a,v,l,new),h1,h2,h3⟩) fun ⟨a30,v30,l30,new30⟩ hK=>?_)))))
  dsimp only at hK
  obtain ⟨⟨hta30,-⟩,hll30,hzl30,hIv30⟩:=hK
  have hsa30:=hta30.small
  have loa30:=hta30.lo
  have hia30:=hta30.hi
  show Ll _ _ (Own _ _ (new30++([]))) _ _ ((30,.tuple #[vS a30,v30])::_) _ _ _;refine qN 1 Z (zM (v:=vS a30) Z (qV Z Z Z) (zM (v:=v30) Z (qV Z Z Z) (vD Z Z Z Z xM fun p5 hp5=>?_)))
  show Ll _ _ (Own _ _ (bk_ p5 #[i6_ 0,str ([]),str ([])] 24::(new30++([])))) _ _ ((5,pt_ p5)::_) _ _ _;refine xQ (cs':=#[i6_ a30.n,str a30.set,str a30.rel]) (hs':=(bk_ p5 #[i6_ a30.n,str a30.set,str a30.rel] 24::(new30++([])))) 0 Z Z Z Z Z (by kernel_rfl:_=some Tryd.t24) Z Z Z Z Z (qN 1 Z (zJ (zD [1,5,6] [_,_,_] Z (zF (zB (zG Z (yA (cs:=#[i6_ a30.n,str a30.set,str a30.rel]) 0 Z qX Z Z qW) (zC 1 Z (zG (v:=.tuple #[str ((theoO a30 l30).1),bo_ ((theoO a30 l30).2)]) Z (qM Z Tryd.call9 Z qD (fun w1 hw1=>iTheo_ok a30 v30 l30 w1 hsa30 (hIv30 _ (yI (qB (f:=[_]) hw1))) (by omega) (fun s hs=>Nat.le_trans (hzl30 s hs) (by decide)))) (zC 1 Z (zG (v:=str ((theoO a30 l30).1)) Z (qV Z Z Z) (zG (v:=bo_ ((theoO a30 l30).2)) Z (qV Z Z Z) (zC 2 Z (zL (zD [1,5,6,7,8] [_,_,_,_,_] Z (zF (zB (zG Z (yA (cs:=#[i6_ a30.n,str a30.set,str a30.rel]) 0 Z qX Z Z qW) (zC 1 Z (zG (v:=.tuple #[str ((theoO a30 l30).1),bo_ ((theoO a30 l30).2)]) Z (qM Z Tryd.call10 Z qD (fun w1 hw1=>sTheo_ok a30 v30 l30 w1 hsa30 (hIv30 _ (yI (qB (f:=[_]) hw1))) (by omega) (fun s hs=>Nat.le_trans (hzl30 s hs) (by decide)))) (zC 1 Z (zG (v:=str ((theoO a30 l30).1)) Z (qV Z Z Z) (zG (v:=bo_ ((theoO a30 l30).2)) Z (qV Z Z Z) (zC 2 Z (zL (zD [1,5,6,7,8,9,10] [_,_,_,_,_,_,_] Z (zF (zF (zB (zC 2 Z (zG Z (OpQ.sneq Z Z Z) (zC 1 Z (xJ fun b48 hg48=>?_))))))))))))))))))))))))))))))))
  cases b48
  ·
   replace hg48:=not_false hg48;refine zC 2 Z (zG Z (OpQ.bne Z vJ Z Z) (zC 2 Z (xJ fun b53 hg53=>?_)))
   cases b53
   ·
    refine zC 3 Z (zL (zD [1,5,6,7,8,9,10,56] [_,_,_,_,_,_,_,_] Z (yE (b:=!((theoO a30 l30).2)) Z (fun h56=>?_) (fun h56=>?_))))
    ·
     replace h56:=not_true h56;refine zF (zB (zC 2 Z (zG Z (OpQ.seql Z Z Z) (zC 1 Z (xJ fun b60 hg60=>?_)))))
     cases b60
     ·
      exact absurd hg60 (by simp)
     refine zC 2 Z (zG Z (OpQ.beq Z vJ Z Z) (zC 2 Z (zL (zD [4] [_] Z (qL (qS Z Z fun w' hw=>?_))))))
     exact ⟨ret_b (by first | rfl | (simp_all;done)),hw.below⟩
    replace h56:=not_false h56
    have hT:(theoO a30 l30).2=true:=by simp_all
    obtain ⟨hva,hTB,hTS⟩:=theo_at hT
    have ha:=validB_fine hva
    have hz1:=ha.lo
    have hz8:=ha.hi
    have htl:=theo_len hT;refine qU (zD [1,5,6,7] [_,_,_,_] Z (zF (qK (xA (xs:=[]) (vs:=[]) Base.elem30 Z Z Z Z Z Z (by decide) Z fun p65 hp65=>(qN 1 Z (zJ (zD [1,5,6,7,11] [_,_,_,_,_] Z (zF (zF (zB (zC 1 Z (zL (zD [1,5,6,7,11,12] [_,_,_,_,_,_] Z (qY (jR (σ:=Nat×Nat×Nat×Array Value) (fun ⟨k,g,c,cur⟩=>((k:Int)≤a30.n)∧w.heap.size≤g∧cur.size=c*1∧(rotL a30.n.toNat L2.length k).length≤c∧cur.toList.take ((rotL a30.n.toNat L2.length k).length*1)=ints (rotL a30.n.toNat L2.length k)) (fun ⟨k,g,c,cur⟩=>[(1,cv),(5,pt_ p5),(6,v30),(7,str ((theoO a30 l30).1)),(11,sl_ g ((rotL a30.n.toNat L2.length k).length) c),(12,i6_ (k:Int))]) (fun ⟨k,g,c,cur⟩=>Own w.heap.size w (bk_ g cur 3::bk_ p5 #[i6_ a30.n,str a30.set,str a30.rel] 24::(new30++([])))) (fun ⟨k,g,c,cur⟩=>(a30.n - k).toNat) (0,p65,0,#[]) ⟨by omega,hp65,rfl,Nat.le_refl _,rfl⟩ (Sub.sel [1,5,6,7,11,12] Z) (fun _ h=>h) ?_)))))))))))))))
    rintro ⟨k,g,c,cur⟩ ⟨hk,hg,hc,hl,ht⟩
    dsimp only;refine zF (zF (zB (zC 1 Z (zG Z (zH Z zY Z zK Z Z) (zG Z (zP 1 Z zV Z Z Z) (zC 1 Z (zL (zD [1,5,6,7,11,12,69] [_,_,_,_,_,_,_] Z (yE (b:=decide ((k:Int)<a30.n)) Z (fun h69=>?_) (fun h69=>?_))))))))))
    ·
     replace h69:=zZ h69;refine qU (zD [1,5,6,7,11,12] [_,_,_,_,_,_] Z (zF (qY (qK (qN 3 Z (zM (v:=i6_ (L2.length:Int)) Z (xH Z yJ Z (u8s_length _) (fun w1 hw1=>Row.own hcv hw1)) (zM Z (qQ Z Z Z (by omega) (by omega)) (zM Z (zH Z zY Z zK Z Z) (zM Z (zP 1 Z zV Z Z Z) (zM (v:=i6_ ((rotA a30.n.toNat L2.length k:Nat):Int)) Z (yL (by rw [rot_cast (by omega)]) (OpQ.rem Z Z Z (by omega) (by omega))) (xA (xs:=[.tmp 79]) (vs:=[i6_ ((rotA a30.n.toNat L2.length k:Nat):Int)]) Base.elem30 Z Z Z Z Z Z (by decide) Z fun p80 hp80=>(Ll.appendInts (xs:=rotL a30.n.toNat L2.length k) (ys:=[((rotA a30.n.toNat L2.length k:Nat):Int)]) Base.elem30 1 Z Z Z Z Z Z Z hc hl (by simpa using ht) (fun w1 hw1=>(jI hw1 (i:=0) Z (n:=1) (cap:=1) (vs:=ints [((rotA a30.n.toNat L2.length k:Nat):Int)]) Z Z (by decide))) (((rotL a30.n.toNat L2.length k)++([((rotA a30.n.toNat L2.length k:Nat):Int)])).length) (by first | (simp;done) | (simp;omega)) (by first | (simp;done) | (simp;omega) | omega) fun p81 cap81 cur81 hp81 hcp81 hlp81 htp81=>?_))))))))))))
     show Ll _ _ (Own _ _ (_::_::_::(new30++([])))) _ _ ((81,sl_ p81 ((((rotL a30.n.toNat L2.length k)++([((rotA a30.n.toNat L2.length k:Nat):Int)])).length)) cap81)::_) _ _ _;refine qN 1 Z (zJ (zD [1,5,6,7,11,12] [_,_,_,_,_,_] Z (zB (zC 1 Z (zG Z (qQ Z Z Z (by omega) (by omega)) (zC 1 Z (zL (yY (k+1,p81,cap81,cur81) ⟨(by omega),(by omega),hcp81,(by rw [rotL_step];exact hlp81),(by rw [rotL_step];exact htp81)⟩ (by omega) (Sub.cons Z (Sub.cons Z (Sub.cons Z (Sub.cons Z (Sub.cons (by rw [rotL_step];rfl) (Sub.sel [12] Z)))))) (fun _ h=>h.tail)))))))))
    replace h69:=zW h69
    have hkn:k=a30.n.toNat:=by omega
    refine xO Z (zD [5,6,7,11] [_,_,_,_] Z (zF (qK (zM Z (yA (cs:=#[i6_ a30.n,str a30.set,str a30.rel]) 1 Z qX Z Z qW) (qN 1 Z (Ll.callSome (ok:=fun (o:St)=>(o.Small∧validB o=true)∧Shaped a30 o) (v:=fun (o:St)=>.tuple #[vS o,bo_ true]) (xs:=[.tmp 83,.tmp 84]) (vs:=[vS a30,sl_ g ((rotL a30.n.toNat L2.length k).length) c]) Z Z Z Z Tryd.call11 Z (fun w1 hw1=>(iMove_ok a30 (sl_ g ((rotL a30.n.toNat L2.length k).length) c) (rotL a30.n.toNat L2.length k) w1 (jI hw1 (i:=0) Z (by simpa using ht) (by simp) hl) hva (rotL_els hz1) (by rw [rotL_len];omega) (by rw [rotL_len];omega) (rotL_nodup _ _ _ (by omega)) (by rw [rotL_len];omega)).mono fun en w' ⟨o,h1,h2,h3⟩=>⟨o,h1,h2,h3⟩) fun o85 hS85=>?_))))))
    show Ll _ _ (Own _ _ (_::_::(new30++([])))) _ _ ((85,.tuple #[vS o85,bo_ true])::_) _ _ _
    obtain ⟨⟨hso85,hvo85⟩,hsho85⟩:=hS85;refine qN 1 Z (zM (v:=vS o85) Z (qV Z Z Z) (zM (v:=bo_ true) Z (qV Z Z Z) (vD Z Z Z Z xM fun p13 hp13=>?_)))
    show Ll _ _ (Own _ _ (bk_ p13 #[i6_ 0,str ([]),str ([])] 24::_::_::(new30++([])))) _ _ ((13,pt_ p13)::_) _ _ _;refine xQ (cs':=#[i6_ o85.n,str o85.set,str o85.rel]) (hs':=(bk_ p13 #[i6_ o85.n,str o85.set,str o85.rel] 24::_::_::(new30++([])))) 0 Z Z Z Z Z (by kernel_rfl:_=some Tryd.t24) Z Z Z Z Z (qN 1 Z (zJ (zD [5,6,7,13,14] [_,_,_,_,_] Z (zF (zB (zG Z (yA (cs:=#[i6_ o85.n,str o85.set,str o85.rel]) 0 Z qX Z Z qW) (zC 1 Z (zG (v:=.tuple #[str ((theoO o85 l30).1),bo_ ((theoO o85 l30).2)]) Z (qM Z Tryd.call9 Z qD (fun w1 hw1=>iTheo_ok o85 v30 l30 w1 hso85 (hIv30 _ (yI (qB (f:=[_,_,_]) hw1))) (by omega) (fun s hs=>Nat.le_trans (hzl30 s hs) (by decide)))) (zC 1 Z (zG (v:=str ((theoO o85 l30).1)) Z (qV Z Z Z) (zG (v:=bo_ ((theoO o85 l30).2)) Z (qV Z Z Z) (zC 2 Z (zL (zD [5,6,7,14,15,16] [_,_,_,_,_,_] Z (zF (zF (zB (zC 1 Z (zL (zD [5,6,7,14,15,16,17] [_,_,_,_,_,_,_] Z (qY (jR (σ:=Nat) (fun i=>i≤l30.length) (fun i=>[(5,pt_ p5),(6,v30),(7,str ((theoO a30 l30).1)),(14,bo_ true),(15,str ((theoO o85 l30).1)),(16,bo_ ((theoO o85 l30).2)),(17,i6_ (i:Int))]) (fun i=>Own w.heap.size w (bk_ p13 #[i6_ o85.n,str o85.set,str o85.rel] 24::bk_ g cur 3::bk_ p5 #[i6_ a30.n,str a30.set,str a30.rel] 24::(new30++([])))) (fun i=>l30.length - i) (0) (by omega) (Sub.sel [5,6,7,14,15,16,17] Z) (fun _ h=>h) ?_))))))))))))))))))))))
    rintro i hi;refine zF (zF (zB (zC 2 Z (zG (v:=i6_ (l30.length:Int)) Z (xH Z xX Z (strs_length _) (fun w1 hw1=>hIv30 _ (yI (qB (f:=[_,_,_]) hw1)))) (zC 1 Z (zL (zD [5,6,7,14,15,16,17,97] [_,_,_,_,_,_,_,_] Z (yE (b:=decide ((i:Int)<(l30.length:Int))) Z (fun h97=>?_) (fun h97=>?_)))))))))
    ·
     replace h97:=zZ h97
     have hbit:=theo_bit hT (i:=(i:Int).toNat) (by omega);refine qU (zD [5,6,7,14,15,16,17] [_,_,_,_,_,_,_] Z (zF (qY (zF (jC yD (fun _ h=>h.drawn) (by kernel_rfl) (zG Z (yA (cs:=#[i6_ a30.n,str a30.set,str a30.rel]) 2 Z qX Z Z qW) (zC 2 Z (zG (v:=.pointer (some (sAt v30 (i:Int)))) Z (xU Z xX qJ Z Z (by omega) (by rw [strs_length];omega) (fun w1 hw1=>hIv30 _ (yI (qB (f:=[_,_,_]) hw1)))) (zG (v:=str (l30.getD ((i:Int).toNat) [])) Z (qT Z yB Z (fun w1 hw1=>Strs.cell (hIv30 _ (yI (qB (f:=[_,_,_]) hw1))) (by omega) (by omega))) (zG (v:=.tuple #[bo_ (holdV a30 (l30.getD ((i:Int).toNat) []) []),bo_ (holdK a30 (l30.getD ((i:Int).toNat) []) [])]) Z (qM Z Tryd.call12 Z qD (fun w1 hw1=>iIn_ok a30 (l30.getD ((i:Int).toNat) []) w1 hsa30)) (zC 1 Z (zG (v:=bo_ (holdV a30 (l30.getD ((i:Int).toNat) []) [])) Z (qV Z Z Z) (zG (v:=bo_ (holdK a30 (l30.getD ((i:Int).toNat) []) [])) Z (qV Z Z Z) (zC 2 Z (zL (zD [5,6,7,14,15,16,17,18] [_,_,_,_,_,_,_,_] Z (zF (zB (zC 3 Z (zG (v:=.int .u8 (((((theoO a30 l30).1).getD ((i:Int).toNat) 0).toNat:Int))) Z (yN Z qG Z Z (by omega) (by omega)) (zC 1 Z (zG Z (OpQ.bne Z vJ Z Z) (zL (zD [5,6,7,14,15,16,17,114] [_,_,_,_,_,_,_,_] Z (yE (b:=(holdV a30 (l30.getD ((i:Int).toNat) []) []) != (decide ((((((theoO a30 l30).1).getD ((i:Int).toNat) 0).toNat:Int))=(49:Int)))) Z (fun h114=>?_) (fun h114=>?_))))))))))))))))))))))))))
     ·
      exact absurd h114 (by rw [hbit];simp)
     refine qU (zD [5,6,7,14,15,16,17] [_,_,_,_,_,_,_] Z (zB (zC 1 Z (zG Z (qQ Z Z Z (by omega) (by omega)) (zC 1 Z (zL (yY (i+1) (by omega) (by omega) (Sub.sel [5,6,7,14,15,16,17] Z) (fun _ h=>h.sub (zA _ (zA _ (zA _ (zO _))))))))))))
    replace h97:=zW h97;refine xO Z (zD [6,7,14,15,16] [_,_,_,_,_] Z (zF (zB (zC 5 Z (xJ fun b119 hg119=>?_)))))
    cases b119
    ·
     refine zU Z (zU Z (zU Z (zC 2 Z (zU Z (zU Z (zU Z (zU Z (zU Z (zC 2 Z (zL (zD [4] [_] Z (qL (qS Z Z fun w' hw=>?_)))))))))))))
     exact ⟨ret_b (by rw [theo_shape hsho85 hva hvo85] at *;first | rfl | exact bool_no hT (by assumption) | exact absurd rfl (by assumption) | (rw [theo_len hT];exact beq_self_eq_true _) | (rw [theo_len hT];simp) | (simp_all;done)),hw.below⟩
    refine zC 2 Z (zG Z (OpQ.seql Z Z Z) (zC 2 Z (xJ fun b124 hg124=>?_)))
    cases b124
    ·
     refine zU Z (zU Z (zU Z (zU Z (zU Z (zC 2 Z (zL (zD [4] [_] Z (qL (qS Z Z fun w' hw=>?_)))))))))
     exact ⟨ret_b (by rw [theo_shape hsho85 hva hvo85] at *;first | rfl | exact bool_no hT (by assumption) | exact absurd rfl (by assumption) | (rw [theo_len hT];exact beq_self_eq_true _) | (rw [theo_len hT];simp) | (simp_all;done)),hw.below⟩
    refine zC 1 Z (zG (v:=i6_ ((((theoO a30 l30).1).length:Int))) Z (xN Z qG Z) (zC 1 Z (zG (v:=i6_ (l30.length:Int)) Z (xH Z xX Z (strs_length _) (fun w1 hw1=>hIv30 _ (yI (qB (f:=[_,_,_]) hw1)))) (zC 3 Z (zL (zD [4] [_] Z (qL (qS Z Z fun w' hw=>?_))))))))
    exact ⟨ret_b (by rw [theo_shape hsho85 hva hvo85] at *;first | rfl | exact bool_no hT (by assumption) | exact absurd rfl (by assumption) | (rw [theo_len hT];exact beq_self_eq_true _) | (rw [theo_len hT];simp) | (simp_all;done)),hw.below⟩
   exact absurd hg53 (by simp)
  replace hg48:=not_true hg48
  exact absurd hg48 (by simp)
 replace hg23:=zZ hg23;refine zU Z (zU Z (zU Z (zC 1 Z (zL (zD [0,1,27] [_,_,_] Z (yU Z (zF (zB (zC 1 Z (zL (zD [4] [_] Z (qL (qS Z Z fun w' hw=>?_)))))))))))))
 exact ⟨ret_b (by first | rfl | (simp_all;done)),hw.below⟩
end Go.Proofs.YteccfipfimbdgaaDoor
namespace Go.Proofs.YteccfipfimbdgaaDoor
open Go.ChangeShapes Go.WideShapes Go.ChangeAt Go.RowKit Go.Wk
namespace FnTheory
def W0:Array Value:=#[.slice none 0 0,.slice none 0 0]
set_option maxRecDepth 100000 in
theorem contract (H:Type) (enc:TypeId×Value→H) (W:World) (base:Nat) (args:Array Value) (ds gs:List (DataW H)) (before:List MemPlace)
  (hval:∀ (j:Nat) t v,Tryd.f3.params[j]?=some t→args[j]?=some v→Value.okWide Tryd.prog W .any base t v)
  (hW:DataW.Whole enc Tryd.prog Tryd.f3.params.toList Rows.fnTheorySpec.vars false W args.toList ds gs before) :
  Calls Tryd.prog 3 args W fun e W'=>∃ v,e=.returned v∧Rows.fnTheorySpec.post enc Tryd.prog Tryd.f3 false true false false W args v W':=by
 have hW':=hW
 obtain ⟨p,q,hA0,hV,rfl,hfz,hnd⟩:=hW
 have hA:DataW.TrodAll enc Tryd.prog W 0 (fun _=>true) true Tryd.f3.params.toList args.toList ds p:=hA0
 rw [Tryd.params3] at hA hval
 obtain ⟨v0,vs0,d0,ds0,p0,q0,hargs0,rfl,rfl,h0,r0⟩:=trodAll_cons hA
 obtain ⟨v1,vs1,d1,ds1,p1,q1,hargs1,rfl,rfl,h1,r1⟩:=trodAll_cons r0
 obtain ⟨rfl,rfl,rfl⟩:=trodAll_nil r1
 obtain rfl:args=#[v0,v1]:=by cases args;simp_all
 obtain ⟨l0,row0,eight0,len0⟩:=open_B Tryd.underlying22 Tryd.underlying5 (by kernel_rfl) (hval 0 22 v0 rfl rfl) h0
 obtain ⟨l1,row1,eight1,len1⟩:=open_B Tryd.underlying22 Tryd.underlying5 (by kernel_rfl) (hval 1 22 v1 rfl rfl) h1
 have walk:Calls Tryd.prog 3 #[v0,v1] W fun e w'=>e=.returned (.bool true)∧Below W.heap.size W w':=by
  exact lawFnTheory v0 v1 l0 l1 W row0 row1 eight0 eight1 len0 len1
 refine walk.mono fun e W' ⟨he,hb⟩=>⟨_,he,?_⟩
 exact post_true laidOut (by rw [Tryd.params3];intro t ht;simp only [List.mem_cons,List.not_mem_nil,or_false] at ht;rcases ht with rfl | rfl <;> exact ⟨by kernel_rfl,of_decide_eq_true (by kernel_rfl)⟩) rfl hW' rfl (by kernel_rfl) Tryd.underlying4 hb
theorem reads (os:Os) {H:Type} (enc:TypeId×Value→H):∃ places,DataW.whole enc Tryd.prog ((laidWorld os).forCall (fun _ _=>0) ⟨#[],W0,[]⟩).memory Tryd.f3.params.toList Rows.fnTheorySpec.vars false W0.toList 8=some ([.nil,.nil],[],places) :=
 ⟨[],by kernel_rfl⟩
set_option maxRecDepth 100000 in
theorem lifted (os:Os) (started:os.Started) (H:Type) (enc:TypeId×Value→H) (F:Stop.Interp) :
    ReturnsInHanded {} Tryd.checked os 3 .any ((OpenSpec.ofChange Rows.fnTheorySpec).preRow enc Tryd.prog Tryd.f3 Rows.fnTheoryRow.domain false Rows.fnTheoryRow.laid) (((OpenSpec.ofChange Rows.fnTheorySpec).at F).post enc Tryd.prog Tryd.f3 false true false false):=by
  obtain ⟨places,hx⟩:=reads os enc
  refine returnsInHanded_of_row (C:=Tryd.checked) (s:=OpenSpec.ofChange Rows.fnTheorySpec) own started (by kernel_rfl) Tryd.func3
    (witness_row_at (enc:=enc) (C:=Tryd.checked) false (laidWorld os) W0 rfl (by kernel_rfl) (by kernel_rfl) (by kernel_rfl)
      (OpenSpec.preRow_of_cond 8 hx (by kernel_rfl) (fun k hk=>by cases hk) (by kernel_rfl) (laid_met os W0))) ?_
  intro W base args ds gs before hval hW _ _ _ hL _ _
  exact contract H enc W base args ds gs before hval hW
theorem k0:(Rows.fnTheoryRow.wf (OpenSpec.ofChange (OpenSpec.ofChange Rows.fnTheorySpec).bare))=true:=by kernel_rfl
theorem k3:(Tryd.f3.params.all (Tryd.pinned.checked.prog.readableRec ·))=true:=by kernel_rfl
theorem k4:(namedTie Tryd.pinned.checked.prog Rows.fnTheoryRow.named (OpenSpec.ofChange Rows.fnTheorySpec).bare.vars)=true:=by kernel_rfl
theorem k9:((Rows.fnTheoryRow.inPlace==Tryd.pinned.checked.prog.inPlace 3))=true:=by kernel_rfl
theorem k10:((Rows.fnTheoryRow.unfollowed==Tryd.pinned.checked.prog.unfollowed 3))=true:=by kernel_rfl
theorem k11:((Rows.fnTheoryRow.recurses==Tryd.pinned.checked.prog.recurses 3))=true:=by kernel_rfl
theorem k12:((Rows.fnTheoryRow.named==Tryd.pinned.checked.prog.varsNamed 3))=true:=by kernel_rfl
theorem k13:((Rows.fnTheoryRow.maps==(Tryd.f3.params.toList++(OpenSpec.ofChange Rows.fnTheorySpec).bare.plain.varTypes Tryd.pinned.checked.prog).any (Tryd.pinned.checked.prog.mapsRec ·)))=true:=by kernel_rfl
theorem k14:((Rows.fnTheoryRow.ifaces==(Tryd.f3.params.toList++(OpenSpec.ofChange Rows.fnTheorySpec).bare.plain.varTypes Tryd.pinned.checked.prog).any (Tryd.pinned.checked.prog.ifacesRec ·)))=true:=by kernel_rfl
theorem k15:((Rows.fnTheoryRow.mapsOut==Tryd.pinned.checked.prog.mapsAmong Tryd.f3.resultTypes.toList))=true:=by kernel_rfl
theorem k16:((Rows.fnTheoryRow.loops==(Tryd.f3.params.toList++(OpenSpec.ofChange Rows.fnTheorySpec).bare.plain.varTypes Tryd.pinned.checked.prog).any (Tryd.pinned.checked.prog.loopsFrom ·)))=true:=by kernel_rfl
theorem k17:((Rows.fnTheoryRow.wideKeys==(Tryd.f3.params.toList++(OpenSpec.ofChange Rows.fnTheorySpec).bare.plain.varTypes Tryd.pinned.checked.prog++Tryd.f3.resultTypes.toList).any (Tryd.pinned.checked.prog.wideKeysFrom ·)))=true:=by kernel_rfl
theorem k19:(Tryd.f3.resultTypes.all (fun t=>Tryd.pinned.checked.prog.readableRec t&&decide (t<Tryd.pinned.checked.prog.types.size)))=true:=by kernel_rfl
theorem k20:((Rows.fnTheoryRow.ifacesOut==Tryd.f3.resultTypes.toList.any (Tryd.pinned.checked.prog.ifacesRec ·)))=true:=by kernel_rfl
theorem k21:((Rows.fnTheoryRow.loopsOut==Tryd.f3.resultTypes.toList.any (Tryd.pinned.checked.prog.loopsFrom ·)))=true:=by kernel_rfl
theorem k30:((Rows.fnTheoryRow.veiled==(Tryd.f3.params.toList++(OpenSpec.ofChange Rows.fnTheorySpec).bare.plain.varTypes Tryd.pinned.checked.prog++Tryd.f3.resultTypes.toList).any (Tryd.pinned.checked.prog.veiledRec ·)))=true:=by kernel_rfl
theorem k31:(Rows.fnTheoryRow.veiledFits Tryd.pinned.checked.prog Tryd.f3.params.toList (Tryd.f3.params.toList++(OpenSpec.ofChange Rows.fnTheorySpec).bare.plain.varTypes Tryd.pinned.checked.prog++Tryd.f3.resultTypes.toList))=true:=by kernel_rfl
theorem closed:joinedFacts Tryd.pinned.checked.prog 3 Tryd.f3 (OpenSpec.ofChange Rows.fnTheorySpec).bare Rows.fnTheoryRow=true :=
 facts_of k0 Laid1 Laid2 k3 k4 (by kernel_rfl) Laid6 (by kernel_rfl) Laid8 k9 k10 k11 k12 k13 k14 k15 k16 k17 (by kernel_rfl) k19 k20 k21 Laid22 (by kernel_rfl) Laid24 Laid25 Laid26 Laid27 (by kernel_rfl) (by kernel_rfl) k30 k31
theorem said:Rows.FnTheorySaid :=
  OpenClaim.holds_of_cond 3 Tryd.f3 rfl rfl rfl rfl rfl rfl rfl ⟨rfl,rfl,rfl,rfl,rfl⟩ rfl rfl rfl rfl rfl (by kernel_rfl) Tryd.func3 closed
    (of_decide_eq_true (by kernel_rfl)) (by unfold Func.isWrapper;first | (rw [if_pos (by decide +kernel)];kernel_rfl) | (rw [if_neg (by decide +kernel)];exact ⟨rfl,rfl⟩))
    (fun os started H enc _ F=>by rw [OpenClaim.pre_eq_preRow];exact lifted os started H enc F)
theorem plain (f:FuncId) (fn:Func) (hf:Tryd.pinned.checked.prog.funcNamed Rows.fnTheoryRow.func=some f) (hfn:Tryd.pinned.checked.prog.funcs[f]?=some fn) :
  false=Tryd.pinned.checked.prog.looks []∧∀ (j:Nat) t,fn.params[j]?=some t→Tryd.pinned.checked.prog.wantsStandIn t=false:=by
 obtain rfl:f=3:=Option.some.inj ((show Tryd.pinned.checked.prog.funcNamed Rows.fnTheoryRow.func=some 3 by kernel_rfl).symm.trans hf) |>.symm
 obtain rfl:fn=Tryd.f3:=(Option.some.inj (Tryd.func3.symm.trans hfn)).symm
 refine ⟨by kernel_rfl,fun j t ht=>?_⟩
 rw [Tryd.params3] at ht
 have hm:t∈[22,22]:=by simpa using Array.mem_of_getElem? ht
 simp only [List.mem_cons,List.not_mem_nil,or_false] at hm
 rcases hm with rfl | rfl <;> (show Tryd.prog.wantsStandIn _=false) <;> kernel_rfl
theorem hw:Rows.fnTheoryRow.wfByText (OpenSpec.ofChange Rows.fnTheorySpec)=true:=by kernel_rfl
theorem hm:Tryd.pinned.checked.prog.mainIs=some (Rows.fnTheoryCard.stood.harness.1,Rows.fnTheoryCard.stood.harness.2.toList):=by kernel_rfl
theorem hg:false=Rows.fnTheoryRow.goesBy Tryd.pinned.checked.prog:=by kernel_rfl
end FnTheory
theorem cardFnTheory:Rows.FnTheoryCardSaid :=
 Claim7.holds_tied_plain_at .later [] _ _ _ _ FnTheory.said (fun _ h=>by cases h) FnTheory.hw (fun _ h=>by cases h) fnTheory_row_tie rfl ⟨rfl,rfl⟩ FnTheory.hm rfl FnTheory.plain FnTheory.hg
end Go.Proofs.YteccfipfimbdgaaDoor
